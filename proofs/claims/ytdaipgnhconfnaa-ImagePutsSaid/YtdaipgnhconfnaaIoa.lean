/- Levels that can't be put, by both (layer 8). -/
import Derived.Test.YtdaipgnhconfnaaInp
set_option linter.unusedSimpArgs false
set_option linter.unusedVariables false
set_option maxRecDepth 100000
set_option maxHeartbeats 4000000
namespace Go.Proofs.Ytdaipgnhconfnaa
open Go Go.HL Go.RowKit Pb
variable {w0 : World} {H : Heap} {K : Value → Heap → Prop}

def argBad (lv f : Int) (z : LvR) : Prop := lv < 0 ∨ 7 ≤ lv ∨ sizeI f = 0 ∨ ¬ sideP z.w ∨ ¬ sideP z.h
def lenBad (f : Int) (z : LvR) : Prop := z.l.length ≠ 0 ∧ (z.l.length : Int) ≠ z.w * z.h * sizeI f
def fmtBad (x : Im) (lv f : Int) : Prop := 0 < lv ∧ 0 < x.ls.length ∧ f ≠ x.f
/-- Why a level can't be put. -/
inductive PutE (x : Im) (lv f : Int) (z : LvR) : Int → Prop
  | image (h : ¬ x.right) : PutE x lv f z 180
  | arg (h : x.right) (h1 : argBad lv f z) : PutE x lv f z 2
  | len (h : x.right) (h1 : ¬ argBad lv f z) (h2 : lenBad f z) : PutE x lv f z 7
  | fmt (h : x.right) (h1 : ¬ argBad lv f z) (h2 : ¬ lenBad f z) (h3 : fmtBad x lv f) : PutE x lv f z 181
/- image Put -/
def M22 : MC :=
  .seq (.reg [⟨(some 4), .box 24 (.tmp 0), none⟩,
 ⟨(some 7), .box 38 (.tmp 3), none⟩,
 ⟨(some 8), .alloc 24 [(.int .i64 0), (.slice none 0 0), (.int .i64 0), (.int .i64 0), (.int .i64 0), (.int .i64 0)], none⟩,
 ⟨(some 9), .mv (.const (.int .i64 0)), none⟩])
 (.seq (.seq (.reg [⟨(some 13), .ldn 6 (.tmp 4), none⟩,
 ⟨(some 14), .call 19 [(.tmp 13)], none⟩,
 ⟨(some 10), .mv (.tmp 14), none⟩])
 (.seq (.reg [⟨(some 15), .mv (.tmp 10), none⟩,
 ⟨(some 16), .bin .neq (.tmp 15) (.const (.int .i64 0)), none⟩])
 (.cond (.tmp 16)
 (.seq (.reg [⟨(some 17), .build [(.int .i64 0), (.slice none 0 0), (.int .i64 0), (.int .i64 0), (.int .i64 0), (.int .i64 0)] [], none⟩,
 ⟨(some 18), .mv (.tmp 10), none⟩,
 ⟨none, .stn 6 (.tmp 8) (.tmp 17), none⟩,
 ⟨(some 9), .mv (.tmp 18), none⟩])
 (.ret))
 (.skip))))
 (.seq (.reg [⟨(some 19), .mv (.tmp 2), none⟩,
 ⟨(some 20), .call 48 [(.tmp 19)], none⟩,
 ⟨(some 11), .mv (.tmp 20), none⟩])
 (.seq (.block 0 (.seq (.reg [⟨(some 22), .mv (.tmp 1), none⟩,
 ⟨(some 23), .bin .lss (.tmp 22) (.const (.int .i64 0)), none⟩,
 ⟨(some 24), .mv (.tmp 23), none⟩,
 ⟨(some 25), .mv (.tmp 1), (some (24, false))⟩,
 ⟨(some 26), .bin .geq (.tmp 25) (.const (.int .i64 7)), (some (24, false))⟩,
 ⟨(some 27), .pick (.tmp 24) (.const (.bool true)) (.tmp 26), none⟩,
 ⟨(some 28), .mv (.tmp 27), none⟩,
 ⟨(some 29), .mv (.tmp 11), (some (28, false))⟩,
 ⟨(some 30), .bin .eql (.tmp 29) (.const (.int .i64 0)), (some (28, false))⟩,
 ⟨(some 31), .pick (.tmp 28) (.const (.bool true)) (.tmp 30), none⟩,
 ⟨(some 32), .mv (.tmp 31), none⟩,
 ⟨(some 33), .fa 0 (.tmp 7), (some (32, false))⟩,
 ⟨(some 34), .ld1 (.tmp 33), (some (32, false))⟩,
 ⟨(some 35), .call 50 [(.tmp 34)], (some (32, false))⟩,
 ⟨(some 36), .un .not (.tmp 35), (some (32, false))⟩,
 ⟨(some 37), .pick (.tmp 32) (.const (.bool true)) (.tmp 36), none⟩,
 ⟨(some 38), .mv (.tmp 37), none⟩,
 ⟨(some 39), .fa 1 (.tmp 7), (some (38, false))⟩,
 ⟨(some 40), .ld1 (.tmp 39), (some (38, false))⟩,
 ⟨(some 41), .call 50 [(.tmp 40)], (some (38, false))⟩,
 ⟨(some 42), .un .not (.tmp 41), (some (38, false))⟩,
 ⟨(some 43), .pick (.tmp 38) (.const (.bool true)) (.tmp 42), none⟩,
 ⟨(some 21), .mv (.tmp 43), none⟩])
 (.cond (.tmp 21)
 (.seq (.reg [⟨(some 44), .build [(.int .i64 0), (.slice none 0 0), (.int .i64 0), (.int .i64 0), (.int .i64 0), (.int .i64 0)] [], none⟩,
 ⟨none, .stn 6 (.tmp 8) (.tmp 44), none⟩,
 ⟨(some 9), .mv (.const (.int .i64 2)), none⟩])
 (.ret))
 (.seq (.reg [⟨(some 46), .fa 2 (.tmp 7), none⟩,
 ⟨(some 47), .ld1 (.tmp 46), none⟩,
 ⟨(some 48), .len (.tmp 47), none⟩,
 ⟨(some 49), .bin .gtr (.tmp 48) (.const (.int .i64 0)), none⟩,
 ⟨(some 50), .mv (.tmp 49), none⟩,
 ⟨(some 51), .fa 2 (.tmp 7), (some (50, true))⟩,
 ⟨(some 52), .ld1 (.tmp 51), (some (50, true))⟩,
 ⟨(some 53), .len (.tmp 52), (some (50, true))⟩,
 ⟨(some 54), .fa 0 (.tmp 7), (some (50, true))⟩,
 ⟨(some 55), .ld1 (.tmp 54), (some (50, true))⟩,
 ⟨(some 56), .fa 1 (.tmp 7), (some (50, true))⟩,
 ⟨(some 57), .ld1 (.tmp 56), (some (50, true))⟩,
 ⟨(some 58), .bin .mul (.tmp 55) (.tmp 57), (some (50, true))⟩,
 ⟨(some 59), .mv (.tmp 11), (some (50, true))⟩,
 ⟨(some 60), .bin .mul (.tmp 58) (.tmp 59), (some (50, true))⟩,
 ⟨(some 61), .bin .neq (.tmp 53) (.tmp 60), (some (50, true))⟩,
 ⟨(some 62), .pick (.tmp 50) (.tmp 61) (.const (.bool false)), none⟩,
 ⟨(some 45), .mv (.tmp 62), none⟩])
 (.cond (.tmp 45)
 (.seq (.reg [⟨(some 63), .build [(.int .i64 0), (.slice none 0 0), (.int .i64 0), (.int .i64 0), (.int .i64 0), (.int .i64 0)] [], none⟩,
 ⟨none, .stn 6 (.tmp 8) (.tmp 63), none⟩,
 ⟨(some 9), .mv (.const (.int .i64 7)), none⟩])
 (.ret))
 (.seq (.reg [⟨(some 65), .mv (.tmp 1), none⟩,
 ⟨(some 66), .bin .gtr (.tmp 65) (.const (.int .i64 0)), none⟩,
 ⟨(some 67), .mv (.tmp 66), none⟩,
 ⟨(some 68), .fa 1 (.tmp 4), (some (67, true))⟩,
 ⟨(some 69), .ld1 (.tmp 68), (some (67, true))⟩,
 ⟨(some 70), .len (.tmp 69), (some (67, true))⟩,
 ⟨(some 71), .bin .gtr (.tmp 70) (.const (.int .i64 0)), (some (67, true))⟩,
 ⟨(some 72), .pick (.tmp 67) (.tmp 71) (.const (.bool false)), none⟩,
 ⟨(some 73), .mv (.tmp 72), none⟩,
 ⟨(some 74), .mv (.tmp 2), (some (73, true))⟩,
 ⟨(some 75), .fa 0 (.tmp 4), (some (73, true))⟩,
 ⟨(some 76), .ld1 (.tmp 75), (some (73, true))⟩,
 ⟨(some 77), .bin .neq (.tmp 74) (.tmp 76), (some (73, true))⟩,
 ⟨(some 78), .pick (.tmp 73) (.tmp 77) (.const (.bool false)), none⟩,
 ⟨(some 64), .mv (.tmp 78), none⟩])
 (.cond (.tmp 64)
 (.seq (.reg [⟨(some 79), .build [(.int .i64 0), (.slice none 0 0), (.int .i64 0), (.int .i64 0), (.int .i64 0), (.int .i64 0)] [], none⟩,
 ⟨none, .stn 6 (.tmp 8) (.tmp 79), none⟩,
 ⟨(some 9), .mv (.const (.int .i64 181)), none⟩])
 (.ret))
 (.skip))))))))
 (.seq (.seq (.reg [⟨(some 80), .mv (.tmp 2), none⟩,
 ⟨(some 81), .fa 0 (.tmp 4), none⟩,
 ⟨(some 82), .ld1 (.tmp 81), none⟩,
 ⟨(some 83), .bin .neq (.tmp 80) (.tmp 82), none⟩])
 (.cond (.tmp 83)
 (.reg [⟨(some 84), .fa 1 (.tmp 4), none⟩,
 ⟨none, .st1 (.tmp 84) (.const (.slice none 0 0)), none⟩])
 (.skip)))
 (.seq (.reg [⟨(some 85), .ldn 6 (.tmp 4), none⟩,
 ⟨(some 86), .call 41 [(.tmp 85)], none⟩,
 ⟨none, .stn 6 (.tmp 4) (.tmp 86), none⟩])
 (.seq (.reg [⟨(some 87), .mv (.tmp 2), none⟩,
 ⟨(some 88), .fa 0 (.tmp 4), none⟩,
 ⟨none, .st1 (.tmp 88) (.tmp 87), none⟩])
 (.seq (.block 1 (.loop (.seq (.seq (.reg [⟨(some 89), .fa 1 (.tmp 4), none⟩,
 ⟨(some 90), .ld1 (.tmp 89), none⟩,
 ⟨(some 91), .len (.tmp 90), none⟩,
 ⟨(some 92), .mv (.tmp 1), none⟩,
 ⟨(some 93), .bin .leq (.tmp 91) (.tmp 92), none⟩])
 (.cond (.tmp 93)
 (.skip)
 (.exit 1)))
 (.block 2 (.reg [⟨(some 94), .fa 1 (.tmp 4), none⟩,
 ⟨(some 95), .ld1 (.tmp 94), none⟩,
 ⟨(some 96), .build [(.int .i64 0), (.int .i64 0), (.slice none 0 0)] [], none⟩,
 ⟨(some 97), .bslice 38 1 [(.int .i64 0), (.int .i64 0), (.slice none 0 0)] [(0, 3, (.tmp 96))], none⟩,
 ⟨(some 98), .app 38 3 40 [(.int .i64 0), (.int .i64 0), (.slice none 0 0)] (.tmp 95) (.tmp 97), none⟩,
 ⟨(some 99), .fa 1 (.tmp 4), none⟩,
 ⟨none, .st1 (.tmp 99) (.tmp 98), none⟩])))))
 (.seq (.reg [⟨(some 100), .fa 0 (.tmp 7), none⟩,
 ⟨(some 101), .ld1 (.tmp 100), none⟩,
 ⟨(some 102), .fa 1 (.tmp 7), none⟩,
 ⟨(some 103), .ld1 (.tmp 102), none⟩,
 ⟨(some 104), .bin .mul (.tmp 101) (.tmp 103), none⟩,
 ⟨(some 105), .mv (.tmp 11), none⟩,
 ⟨(some 106), .bin .mul (.tmp 104) (.tmp 105), none⟩,
 ⟨(some 107), .mks 5 1 [(.int .u8 0)] (.tmp 106) (.tmp 106), none⟩,
 ⟨(some 12), .mv (.tmp 107), none⟩])
 (.seq (.reg [⟨(some 108), .mv (.tmp 12), none⟩,
 ⟨(some 109), .fa 2 (.tmp 7), none⟩,
 ⟨(some 110), .ld1 (.tmp 109), none⟩,
 ⟨(some 111), .cpy 1 (.tmp 108) (.tmp 110), none⟩])
 (.seq (.reg [⟨(some 112), .fa 1 (.tmp 4), none⟩,
 ⟨(some 113), .ld1 (.tmp 112), none⟩,
 ⟨(some 114), .mv (.tmp 1), none⟩,
 ⟨(some 115), .fa 0 (.tmp 7), none⟩,
 ⟨(some 116), .ld1 (.tmp 115), none⟩,
 ⟨(some 117), .fa 1 (.tmp 7), none⟩,
 ⟨(some 118), .ld1 (.tmp 117), none⟩,
 ⟨(some 119), .mv (.tmp 12), none⟩,
 ⟨(some 120), .build [(.int .i64 0), (.int .i64 0), (.slice none 0 0)] [(0, 1, (.tmp 116)), (1, 1, (.tmp 118)), (2, 1, (.tmp 119))], none⟩,
 ⟨(some 121), .is 3 (.tmp 113) (.tmp 114), none⟩,
 ⟨none, .stn 3 (.tmp 121) (.tmp 120), none⟩])
 (.seq (.reg [⟨(some 122), .ldn 6 (.tmp 4), none⟩,
 ⟨none, .stn 6 (.tmp 8) (.tmp 122), none⟩,
 ⟨(some 9), .mv (.const (.int .i64 0)), none⟩])
 (.ret))))))))))))
theorem k22 : fnOk Try.prog 22 = some (M22, [.cn 6 8, .t 9], 123) := by kernel_rfl

theorem c_Put_err (x : Im) (hx : ImOk w0 H x) (lv f : Int) (z : LvR) (e : Int) (he : PutE x lv f z e) (h : K (.tuple #[zIm, .int .i64 e]) H) : HCalls Try.prog w0 22 [x.v, .int .i64 lv, .int .i64 f, z.v] H K := by
  unfold LvR.v
  cases he with
  | image hr =>
    have cC : ∀ (G : Heap) (K : Value → Heap → Prop), Grow w0 H G → K (.int .i64 180) G → HCalls Try.prog w0 19 [x.v] G K := fun G K g hk => c_Check x (hx.grow g) (by rw [if_neg hr]; exact hk)
    clear hr hx
    unfold Im.v at cC ⊢
    refine HL.hc k22 2000 ?_; unfold M22
    (all_goals (try simp only [Sq,Sr,Sh,Si,Sl,Bu,Bb,Bd,Bc,Bw,Bn,Int.reduceAdd,Int.reduceSub,Int.reduceMul,Int.reduceTDiv,Int.reduceTMod,Int.reduceMod,Int.reduceDiv,Nat.reduceLT,Nat.reduceEqDiff,Sa,Sb,Sc,Sd,Se,Sf,Sg,Int.reduceLE,Int.reduceLT,Int.reduceToNat,Int.reduceNeg,Int.reduceEq,Nat.reduceLeDiff,Nat.reducePow,Int.reducePow,reduceIte,Nat.reduceSub,Nat.reduceAdd,Nat.reduceMul,putAt,ceq,List.replicate, *])); repeat' ((first | (with_reducible refine fun _ : True => ?_) | refine cC _ _ (by (repeat' (first | exact Grow.refl _ | assumption | (refine Grow_known (by first | (simp only [Heap.set_same, set_ne, ne_eq, not_false_eq_true, *] <;> rfl) | fail) ?_) | (refine Grow.set ?_ (by assumption) (by first | (simp only [*] <;> done) | (simp [set_none', Heap.set_same, set_ne, noneH, *] <;> done) | fail)) | (refine Grow.trans ?_ (by assumption))))) ?_ | (with_reducible refine any_h ?_) | ((first | refine AllocQ_i ?_ | refine AllocO_i ?_); intro bk hb0 hbk; (try simp only [set_none'] at hbk); (try (first | have hbn := Grow.none (by assumption) hbk | have hbn := Grow.none (by assumption) hbk.2 | have hbn := Grow.none (by assumption) hbk.2.2 | have hbn := Grow.none (by assumption) hbk.2.2.2 | have hbn := Grow.none (by assumption) hbk.2.2.2.2 | have hbn := Grow.none (by assumption) hbk.2.2.2.2.2)); (try simp only [set_none'] at hbn); (try (first | have hbm := Grow.none (by assumption) hbn | have hbm := Grow.none (by assumption) hbn.2 | have hbm := Grow.none (by assumption) hbn.2.2 | have hbm := Grow.none (by assumption) hbn.2.2.2 | have hbm := Grow.none (by assumption) hbn.2.2.2.2 | have hbm := Grow.none (by assumption) hbn.2.2.2.2.2)); (try simp only [set_none'] at hbm)) | ((first | refine condS_i ?_ ?_ | refine pick_i ?_ ?_ | refine gS_it ?_ ?_ | refine gS_if ?_ ?_ | refine gP_it ?_ ?_ | refine gP_if ?_ ?_) <;> (intro hc; try simp only [Int.reduceLE,Int.reduceLT,Int.reduceEq,Sn] at hc)) | (with_reducible refine KP_i ?_ ?_; · (repeat' (first | exact Heap.Le.refl _ | (with_reducible refine Le_set2 ?_) | (refine Le_known (by first | (simp only [Heap.set_same, set_ne, ne_eq, not_false_eq_true, *] <;> rfl) | fail) ?_) | (refine Le_fresh (by first | (simp only [*] <;> done) | (simp [set_none', Heap.set_same, set_ne, noneH, *] <;> done) | fail) ?_) | (refine Heap.Le.trans ?_ (Grow.le (by assumption))) | exact Le_none | (refine Le_put ?_ (by first | (simp only [Heap.set_same, set_ne, ne_eq, not_false_eq_true, *] <;> rfl) | fail)) | fail))) | (with_reducible refine And.intro ?_ ?_)) <;> (try simp only [Sq,Sr,Sh,Si,Sl,Bu,Bb,Bd,Bc,Bw,Bn,Int.reduceAdd,Int.reduceSub,Int.reduceMul,Int.reduceTDiv,Int.reduceTMod,Int.reduceMod,Int.reduceDiv,Nat.reduceLT,Nat.reduceEqDiff,Sa,Sb,Sc,Sd,Se,Sf,Sg,Int.reduceLE,Int.reduceLT,Int.reduceToNat,Int.reduceNeg,Int.reduceEq,Nat.reduceLeDiff,Nat.reducePow,Int.reducePow,reduceIte,Nat.reduceSub,Nat.reduceAdd,Nat.reduceMul,putAt,ceq,List.replicate, *]))
    all_goals exact Fin_mk (by (repeat' (first | exact Heap.Le.refl _ | (with_reducible refine Le_set2 ?_) | (refine Le_known (by first | (simp only [Heap.set_same, set_ne, ne_eq, not_false_eq_true, *] <;> rfl) | fail) ?_) | (refine Le_fresh (by first | (simp only [*] <;> done) | (simp [set_none', Heap.set_same, set_ne, noneH, *] <;> done) | fail) ?_) | (refine Heap.Le.trans ?_ (Grow.le (by assumption))) | exact Le_none | (refine Le_put ?_ (by first | (simp only [Heap.set_same, set_ne, ne_eq, not_false_eq_true, *] <;> rfl) | fail)) | fail))) h
  | arg hr hb =>
    have cC : ∀ (G : Heap) (K : Value → Heap → Prop), Grow w0 H G → K (.int .i64 0) G → HCalls Try.prog w0 19 [x.v] G K := fun G K g hk => c_Check x (hx.grow g) (by rw [if_pos hr]; exact hk)
    have cS : ∀ (n : Int) (G : Heap) (K : Value → Heap → Prop), (sideP n → K (.bool true) G) → (¬ sideP n → K (.bool false) G) → HCalls Try.prog w0 50 [.int .i64 n] G K := fun n G K h1 h2 => c_side n (by
      by_cases hs : sideP n
      · rw [decide_eq_true hs]; exact h1 hs
      · rw [decide_eq_false hs]; exact h2 hs)
    clear hr hx
    unfold Im.v at cC ⊢
    by_cases b1 : lv < 0
    · clear hb
      refine HL.hc k22 2000 ?_; unfold M22
      (all_goals (try simp only [Sq,Sr,Sh,Si,Sl,Bu,Bb,Bd,Bc,Bw,Bn,Int.reduceAdd,Int.reduceSub,Int.reduceMul,Int.reduceTDiv,Int.reduceTMod,Int.reduceMod,Int.reduceDiv,Nat.reduceLT,Nat.reduceEqDiff,Sa,Sb,Sc,Sd,Se,Sf,Sg,Int.reduceLE,Int.reduceLT,Int.reduceToNat,Int.reduceNeg,Int.reduceEq,Nat.reduceLeDiff,Nat.reducePow,Int.reducePow,reduceIte,Nat.reduceSub,Nat.reduceAdd,Nat.reduceMul,putAt,ceq,List.replicate, *])); repeat' ((first | (with_reducible refine fun _ : True => ?_) | refine cC _ _ (by (repeat' (first | exact Grow.refl _ | assumption | (refine Grow_known (by first | (simp only [Heap.set_same, set_ne, ne_eq, not_false_eq_true, *] <;> rfl) | fail) ?_) | (refine Grow.set ?_ (by assumption) (by first | (simp only [*] <;> done) | (simp [set_none', Heap.set_same, set_ne, noneH, *] <;> done) | fail)) | (refine Grow.trans ?_ (by assumption))))) ?_ | refine c_pSize _ ?_ | (with_reducible refine any_h ?_) | ((first | refine AllocQ_i ?_ | refine AllocO_i ?_); intro bk hb0 hbk; (try simp only [set_none'] at hbk); (try (first | have hbn := Grow.none (by assumption) hbk | have hbn := Grow.none (by assumption) hbk.2 | have hbn := Grow.none (by assumption) hbk.2.2 | have hbn := Grow.none (by assumption) hbk.2.2.2 | have hbn := Grow.none (by assumption) hbk.2.2.2.2 | have hbn := Grow.none (by assumption) hbk.2.2.2.2.2)); (try simp only [set_none'] at hbn); (try (first | have hbm := Grow.none (by assumption) hbn | have hbm := Grow.none (by assumption) hbn.2 | have hbm := Grow.none (by assumption) hbn.2.2 | have hbm := Grow.none (by assumption) hbn.2.2.2 | have hbm := Grow.none (by assumption) hbn.2.2.2.2 | have hbm := Grow.none (by assumption) hbn.2.2.2.2.2)); (try simp only [set_none'] at hbm)) | ((first | refine condS_i ?_ ?_ | refine pick_i ?_ ?_ | refine gS_it ?_ ?_ | refine gS_if ?_ ?_ | refine gP_it ?_ ?_ | refine gP_if ?_ ?_) <;> (intro hc; try simp only [Int.reduceLE,Int.reduceLT,Int.reduceEq,Sn] at hc)) | (with_reducible refine KP_i ?_ ?_; · (repeat' (first | exact Heap.Le.refl _ | (with_reducible refine Le_set2 ?_) | (refine Le_known (by first | (simp only [Heap.set_same, set_ne, ne_eq, not_false_eq_true, *] <;> rfl) | fail) ?_) | (refine Le_fresh (by first | (simp only [*] <;> done) | (simp [set_none', Heap.set_same, set_ne, noneH, *] <;> done) | fail) ?_) | (refine Heap.Le.trans ?_ (Grow.le (by assumption))) | exact Le_none | (refine Le_put ?_ (by first | (simp only [Heap.set_same, set_ne, ne_eq, not_false_eq_true, *] <;> rfl) | fail)) | fail))) | (with_reducible refine And.intro ?_ ?_)) <;> (try simp only [Sq,Sr,Sh,Si,Sl,Bu,Bb,Bd,Bc,Bw,Bn,Int.reduceAdd,Int.reduceSub,Int.reduceMul,Int.reduceTDiv,Int.reduceTMod,Int.reduceMod,Int.reduceDiv,Nat.reduceLT,Nat.reduceEqDiff,Sa,Sb,Sc,Sd,Se,Sf,Sg,Int.reduceLE,Int.reduceLT,Int.reduceToNat,Int.reduceNeg,Int.reduceEq,Nat.reduceLeDiff,Nat.reducePow,Int.reducePow,reduceIte,Nat.reduceSub,Nat.reduceAdd,Nat.reduceMul,putAt,ceq,List.replicate, *]))
      all_goals exact Fin_mk (by (repeat' (first | exact Heap.Le.refl _ | (with_reducible refine Le_set2 ?_) | (refine Le_known (by first | (simp only [Heap.set_same, set_ne, ne_eq, not_false_eq_true, *] <;> rfl) | fail) ?_) | (refine Le_fresh (by first | (simp only [*] <;> done) | (simp [set_none', Heap.set_same, set_ne, noneH, *] <;> done) | fail) ?_) | (refine Heap.Le.trans ?_ (Grow.le (by assumption))) | exact Le_none | (refine Le_put ?_ (by first | (simp only [Heap.set_same, set_ne, ne_eq, not_false_eq_true, *] <;> rfl) | fail)) | fail))) h
    · by_cases b2 : 7 ≤ lv
      · clear hb
        refine HL.hc k22 2000 ?_; unfold M22
        (all_goals (try simp only [Sq,Sr,Sh,Si,Sl,Bu,Bb,Bd,Bc,Bw,Bn,Int.reduceAdd,Int.reduceSub,Int.reduceMul,Int.reduceTDiv,Int.reduceTMod,Int.reduceMod,Int.reduceDiv,Nat.reduceLT,Nat.reduceEqDiff,Sa,Sb,Sc,Sd,Se,Sf,Sg,Int.reduceLE,Int.reduceLT,Int.reduceToNat,Int.reduceNeg,Int.reduceEq,Nat.reduceLeDiff,Nat.reducePow,Int.reducePow,reduceIte,Nat.reduceSub,Nat.reduceAdd,Nat.reduceMul,putAt,ceq,List.replicate, *])); repeat' ((first | (with_reducible refine fun _ : True => ?_) | refine cC _ _ (by (repeat' (first | exact Grow.refl _ | assumption | (refine Grow_known (by first | (simp only [Heap.set_same, set_ne, ne_eq, not_false_eq_true, *] <;> rfl) | fail) ?_) | (refine Grow.set ?_ (by assumption) (by first | (simp only [*] <;> done) | (simp [set_none', Heap.set_same, set_ne, noneH, *] <;> done) | fail)) | (refine Grow.trans ?_ (by assumption))))) ?_ | refine c_pSize _ ?_ | (with_reducible refine any_h ?_) | ((first | refine AllocQ_i ?_ | refine AllocO_i ?_); intro bk hb0 hbk; (try simp only [set_none'] at hbk); (try (first | have hbn := Grow.none (by assumption) hbk | have hbn := Grow.none (by assumption) hbk.2 | have hbn := Grow.none (by assumption) hbk.2.2 | have hbn := Grow.none (by assumption) hbk.2.2.2 | have hbn := Grow.none (by assumption) hbk.2.2.2.2 | have hbn := Grow.none (by assumption) hbk.2.2.2.2.2)); (try simp only [set_none'] at hbn); (try (first | have hbm := Grow.none (by assumption) hbn | have hbm := Grow.none (by assumption) hbn.2 | have hbm := Grow.none (by assumption) hbn.2.2 | have hbm := Grow.none (by assumption) hbn.2.2.2 | have hbm := Grow.none (by assumption) hbn.2.2.2.2 | have hbm := Grow.none (by assumption) hbn.2.2.2.2.2)); (try simp only [set_none'] at hbm)) | ((first | refine condS_i ?_ ?_ | refine pick_i ?_ ?_ | refine gS_it ?_ ?_ | refine gS_if ?_ ?_ | refine gP_it ?_ ?_ | refine gP_if ?_ ?_) <;> (intro hc; try simp only [Int.reduceLE,Int.reduceLT,Int.reduceEq,Sn] at hc)) | (with_reducible refine KP_i ?_ ?_; · (repeat' (first | exact Heap.Le.refl _ | (with_reducible refine Le_set2 ?_) | (refine Le_known (by first | (simp only [Heap.set_same, set_ne, ne_eq, not_false_eq_true, *] <;> rfl) | fail) ?_) | (refine Le_fresh (by first | (simp only [*] <;> done) | (simp [set_none', Heap.set_same, set_ne, noneH, *] <;> done) | fail) ?_) | (refine Heap.Le.trans ?_ (Grow.le (by assumption))) | exact Le_none | (refine Le_put ?_ (by first | (simp only [Heap.set_same, set_ne, ne_eq, not_false_eq_true, *] <;> rfl) | fail)) | fail))) | (with_reducible refine And.intro ?_ ?_)) <;> (try simp only [Sq,Sr,Sh,Si,Sl,Bu,Bb,Bd,Bc,Bw,Bn,Int.reduceAdd,Int.reduceSub,Int.reduceMul,Int.reduceTDiv,Int.reduceTMod,Int.reduceMod,Int.reduceDiv,Nat.reduceLT,Nat.reduceEqDiff,Sa,Sb,Sc,Sd,Se,Sf,Sg,Int.reduceLE,Int.reduceLT,Int.reduceToNat,Int.reduceNeg,Int.reduceEq,Nat.reduceLeDiff,Nat.reducePow,Int.reducePow,reduceIte,Nat.reduceSub,Nat.reduceAdd,Nat.reduceMul,putAt,ceq,List.replicate, *]))
        all_goals exact Fin_mk (by (repeat' (first | exact Heap.Le.refl _ | (with_reducible refine Le_set2 ?_) | (refine Le_known (by first | (simp only [Heap.set_same, set_ne, ne_eq, not_false_eq_true, *] <;> rfl) | fail) ?_) | (refine Le_fresh (by first | (simp only [*] <;> done) | (simp [set_none', Heap.set_same, set_ne, noneH, *] <;> done) | fail) ?_) | (refine Heap.Le.trans ?_ (Grow.le (by assumption))) | exact Le_none | (refine Le_put ?_ (by first | (simp only [Heap.set_same, set_ne, ne_eq, not_false_eq_true, *] <;> rfl) | fail)) | fail))) h
      · by_cases b3 : sizeI f = 0
        · clear hb
          refine HL.hc k22 2000 ?_; unfold M22
          (all_goals (try simp only [Sq,Sr,Sh,Si,Sl,Bu,Bb,Bd,Bc,Bw,Bn,Int.reduceAdd,Int.reduceSub,Int.reduceMul,Int.reduceTDiv,Int.reduceTMod,Int.reduceMod,Int.reduceDiv,Nat.reduceLT,Nat.reduceEqDiff,Sa,Sb,Sc,Sd,Se,Sf,Sg,Int.reduceLE,Int.reduceLT,Int.reduceToNat,Int.reduceNeg,Int.reduceEq,Nat.reduceLeDiff,Nat.reducePow,Int.reducePow,reduceIte,Nat.reduceSub,Nat.reduceAdd,Nat.reduceMul,putAt,ceq,List.replicate, *])); repeat' ((first | (with_reducible refine fun _ : True => ?_) | refine cC _ _ (by (repeat' (first | exact Grow.refl _ | assumption | (refine Grow_known (by first | (simp only [Heap.set_same, set_ne, ne_eq, not_false_eq_true, *] <;> rfl) | fail) ?_) | (refine Grow.set ?_ (by assumption) (by first | (simp only [*] <;> done) | (simp [set_none', Heap.set_same, set_ne, noneH, *] <;> done) | fail)) | (refine Grow.trans ?_ (by assumption))))) ?_ | refine c_pSize _ ?_ | (with_reducible refine any_h ?_) | ((first | refine AllocQ_i ?_ | refine AllocO_i ?_); intro bk hb0 hbk; (try simp only [set_none'] at hbk); (try (first | have hbn := Grow.none (by assumption) hbk | have hbn := Grow.none (by assumption) hbk.2 | have hbn := Grow.none (by assumption) hbk.2.2 | have hbn := Grow.none (by assumption) hbk.2.2.2 | have hbn := Grow.none (by assumption) hbk.2.2.2.2 | have hbn := Grow.none (by assumption) hbk.2.2.2.2.2)); (try simp only [set_none'] at hbn); (try (first | have hbm := Grow.none (by assumption) hbn | have hbm := Grow.none (by assumption) hbn.2 | have hbm := Grow.none (by assumption) hbn.2.2 | have hbm := Grow.none (by assumption) hbn.2.2.2 | have hbm := Grow.none (by assumption) hbn.2.2.2.2 | have hbm := Grow.none (by assumption) hbn.2.2.2.2.2)); (try simp only [set_none'] at hbm)) | ((first | refine condS_i ?_ ?_ | refine pick_i ?_ ?_ | refine gS_it ?_ ?_ | refine gS_if ?_ ?_ | refine gP_it ?_ ?_ | refine gP_if ?_ ?_) <;> (intro hc; try simp only [Int.reduceLE,Int.reduceLT,Int.reduceEq,Sn] at hc)) | (with_reducible refine KP_i ?_ ?_; · (repeat' (first | exact Heap.Le.refl _ | (with_reducible refine Le_set2 ?_) | (refine Le_known (by first | (simp only [Heap.set_same, set_ne, ne_eq, not_false_eq_true, *] <;> rfl) | fail) ?_) | (refine Le_fresh (by first | (simp only [*] <;> done) | (simp [set_none', Heap.set_same, set_ne, noneH, *] <;> done) | fail) ?_) | (refine Heap.Le.trans ?_ (Grow.le (by assumption))) | exact Le_none | (refine Le_put ?_ (by first | (simp only [Heap.set_same, set_ne, ne_eq, not_false_eq_true, *] <;> rfl) | fail)) | fail))) | (with_reducible refine And.intro ?_ ?_)) <;> (try simp only [Sq,Sr,Sh,Si,Sl,Bu,Bb,Bd,Bc,Bw,Bn,Int.reduceAdd,Int.reduceSub,Int.reduceMul,Int.reduceTDiv,Int.reduceTMod,Int.reduceMod,Int.reduceDiv,Nat.reduceLT,Nat.reduceEqDiff,Sa,Sb,Sc,Sd,Se,Sf,Sg,Int.reduceLE,Int.reduceLT,Int.reduceToNat,Int.reduceNeg,Int.reduceEq,Nat.reduceLeDiff,Nat.reducePow,Int.reducePow,reduceIte,Nat.reduceSub,Nat.reduceAdd,Nat.reduceMul,putAt,ceq,List.replicate, *]))
          all_goals exact Fin_mk (by (repeat' (first | exact Heap.Le.refl _ | (with_reducible refine Le_set2 ?_) | (refine Le_known (by first | (simp only [Heap.set_same, set_ne, ne_eq, not_false_eq_true, *] <;> rfl) | fail) ?_) | (refine Le_fresh (by first | (simp only [*] <;> done) | (simp [set_none', Heap.set_same, set_ne, noneH, *] <;> done) | fail) ?_) | (refine Heap.Le.trans ?_ (Grow.le (by assumption))) | exact Le_none | (refine Le_put ?_ (by first | (simp only [Heap.set_same, set_ne, ne_eq, not_false_eq_true, *] <;> rfl) | fail)) | fail))) h
        · by_cases b4 : sideP z.w
          · have b5 : ¬ sideP z.h := by
              rcases hb with q | q | q | q | q
              · exact (b1 q).elim
              · exact (b2 q).elim
              · exact (b3 q).elim
              · exact (q b4).elim
              · exact q
            have cw := fun G K hk => cS z.w G K (fun _ => hk) (fun h => (h b4).elim)
            have ch := fun G K hk => cS z.h G K (fun h => (b5 h).elim) (fun _ => hk)
            clear hb cS b4 b5
            refine HL.hc k22 2000 ?_; unfold M22
            (all_goals (try simp only [Sq,Sr,Sh,Si,Sl,Bu,Bb,Bd,Bc,Bw,Bn,Int.reduceAdd,Int.reduceSub,Int.reduceMul,Int.reduceTDiv,Int.reduceTMod,Int.reduceMod,Int.reduceDiv,Nat.reduceLT,Nat.reduceEqDiff,Sa,Sb,Sc,Sd,Se,Sf,Sg,Int.reduceLE,Int.reduceLT,Int.reduceToNat,Int.reduceNeg,Int.reduceEq,Nat.reduceLeDiff,Nat.reducePow,Int.reducePow,reduceIte,Nat.reduceSub,Nat.reduceAdd,Nat.reduceMul,putAt,ceq,List.replicate, *])); repeat' ((first | (with_reducible refine fun _ : True => ?_) | refine cC _ _ (by (repeat' (first | exact Grow.refl _ | assumption | (refine Grow_known (by first | (simp only [Heap.set_same, set_ne, ne_eq, not_false_eq_true, *] <;> rfl) | fail) ?_) | (refine Grow.set ?_ (by assumption) (by first | (simp only [*] <;> done) | (simp [set_none', Heap.set_same, set_ne, noneH, *] <;> done) | fail)) | (refine Grow.trans ?_ (by assumption))))) ?_ | refine c_pSize _ ?_ | refine cw _ _ ?_ | refine ch _ _ ?_ | (with_reducible refine any_h ?_) | ((first | refine AllocQ_i ?_ | refine AllocO_i ?_); intro bk hb0 hbk; (try simp only [set_none'] at hbk); (try (first | have hbn := Grow.none (by assumption) hbk | have hbn := Grow.none (by assumption) hbk.2 | have hbn := Grow.none (by assumption) hbk.2.2 | have hbn := Grow.none (by assumption) hbk.2.2.2 | have hbn := Grow.none (by assumption) hbk.2.2.2.2 | have hbn := Grow.none (by assumption) hbk.2.2.2.2.2)); (try simp only [set_none'] at hbn); (try (first | have hbm := Grow.none (by assumption) hbn | have hbm := Grow.none (by assumption) hbn.2 | have hbm := Grow.none (by assumption) hbn.2.2 | have hbm := Grow.none (by assumption) hbn.2.2.2 | have hbm := Grow.none (by assumption) hbn.2.2.2.2 | have hbm := Grow.none (by assumption) hbn.2.2.2.2.2)); (try simp only [set_none'] at hbm)) | ((first | refine condS_i ?_ ?_ | refine pick_i ?_ ?_ | refine gS_it ?_ ?_ | refine gS_if ?_ ?_ | refine gP_it ?_ ?_ | refine gP_if ?_ ?_) <;> (intro hc; try simp only [Int.reduceLE,Int.reduceLT,Int.reduceEq,Sn] at hc)) | (with_reducible refine KP_i ?_ ?_; · (repeat' (first | exact Heap.Le.refl _ | (with_reducible refine Le_set2 ?_) | (refine Le_known (by first | (simp only [Heap.set_same, set_ne, ne_eq, not_false_eq_true, *] <;> rfl) | fail) ?_) | (refine Le_fresh (by first | (simp only [*] <;> done) | (simp [set_none', Heap.set_same, set_ne, noneH, *] <;> done) | fail) ?_) | (refine Heap.Le.trans ?_ (Grow.le (by assumption))) | exact Le_none | (refine Le_put ?_ (by first | (simp only [Heap.set_same, set_ne, ne_eq, not_false_eq_true, *] <;> rfl) | fail)) | fail))) | (with_reducible refine And.intro ?_ ?_)) <;> (try simp only [Sq,Sr,Sh,Si,Sl,Bu,Bb,Bd,Bc,Bw,Bn,Int.reduceAdd,Int.reduceSub,Int.reduceMul,Int.reduceTDiv,Int.reduceTMod,Int.reduceMod,Int.reduceDiv,Nat.reduceLT,Nat.reduceEqDiff,Sa,Sb,Sc,Sd,Se,Sf,Sg,Int.reduceLE,Int.reduceLT,Int.reduceToNat,Int.reduceNeg,Int.reduceEq,Nat.reduceLeDiff,Nat.reducePow,Int.reducePow,reduceIte,Nat.reduceSub,Nat.reduceAdd,Nat.reduceMul,putAt,ceq,List.replicate, *]))
            all_goals exact Fin_mk (by (repeat' (first | exact Heap.Le.refl _ | (with_reducible refine Le_set2 ?_) | (refine Le_known (by first | (simp only [Heap.set_same, set_ne, ne_eq, not_false_eq_true, *] <;> rfl) | fail) ?_) | (refine Le_fresh (by first | (simp only [*] <;> done) | (simp [set_none', Heap.set_same, set_ne, noneH, *] <;> done) | fail) ?_) | (refine Heap.Le.trans ?_ (Grow.le (by assumption))) | exact Le_none | (refine Le_put ?_ (by first | (simp only [Heap.set_same, set_ne, ne_eq, not_false_eq_true, *] <;> rfl) | fail)) | fail))) h
          · have cw := fun G K hk => cS z.w G K (fun h => (b4 h).elim) (fun _ => hk)
            clear hb cS b4
            refine HL.hc k22 2000 ?_; unfold M22
            (all_goals (try simp only [Sq,Sr,Sh,Si,Sl,Bu,Bb,Bd,Bc,Bw,Bn,Int.reduceAdd,Int.reduceSub,Int.reduceMul,Int.reduceTDiv,Int.reduceTMod,Int.reduceMod,Int.reduceDiv,Nat.reduceLT,Nat.reduceEqDiff,Sa,Sb,Sc,Sd,Se,Sf,Sg,Int.reduceLE,Int.reduceLT,Int.reduceToNat,Int.reduceNeg,Int.reduceEq,Nat.reduceLeDiff,Nat.reducePow,Int.reducePow,reduceIte,Nat.reduceSub,Nat.reduceAdd,Nat.reduceMul,putAt,ceq,List.replicate, *])); repeat' ((first | (with_reducible refine fun _ : True => ?_) | refine cC _ _ (by (repeat' (first | exact Grow.refl _ | assumption | (refine Grow_known (by first | (simp only [Heap.set_same, set_ne, ne_eq, not_false_eq_true, *] <;> rfl) | fail) ?_) | (refine Grow.set ?_ (by assumption) (by first | (simp only [*] <;> done) | (simp [set_none', Heap.set_same, set_ne, noneH, *] <;> done) | fail)) | (refine Grow.trans ?_ (by assumption))))) ?_ | refine c_pSize _ ?_ | refine cw _ _ ?_ | (with_reducible refine any_h ?_) | ((first | refine AllocQ_i ?_ | refine AllocO_i ?_); intro bk hb0 hbk; (try simp only [set_none'] at hbk); (try (first | have hbn := Grow.none (by assumption) hbk | have hbn := Grow.none (by assumption) hbk.2 | have hbn := Grow.none (by assumption) hbk.2.2 | have hbn := Grow.none (by assumption) hbk.2.2.2 | have hbn := Grow.none (by assumption) hbk.2.2.2.2 | have hbn := Grow.none (by assumption) hbk.2.2.2.2.2)); (try simp only [set_none'] at hbn); (try (first | have hbm := Grow.none (by assumption) hbn | have hbm := Grow.none (by assumption) hbn.2 | have hbm := Grow.none (by assumption) hbn.2.2 | have hbm := Grow.none (by assumption) hbn.2.2.2 | have hbm := Grow.none (by assumption) hbn.2.2.2.2 | have hbm := Grow.none (by assumption) hbn.2.2.2.2.2)); (try simp only [set_none'] at hbm)) | ((first | refine condS_i ?_ ?_ | refine pick_i ?_ ?_ | refine gS_it ?_ ?_ | refine gS_if ?_ ?_ | refine gP_it ?_ ?_ | refine gP_if ?_ ?_) <;> (intro hc; try simp only [Int.reduceLE,Int.reduceLT,Int.reduceEq,Sn] at hc)) | (with_reducible refine KP_i ?_ ?_; · (repeat' (first | exact Heap.Le.refl _ | (with_reducible refine Le_set2 ?_) | (refine Le_known (by first | (simp only [Heap.set_same, set_ne, ne_eq, not_false_eq_true, *] <;> rfl) | fail) ?_) | (refine Le_fresh (by first | (simp only [*] <;> done) | (simp [set_none', Heap.set_same, set_ne, noneH, *] <;> done) | fail) ?_) | (refine Heap.Le.trans ?_ (Grow.le (by assumption))) | exact Le_none | (refine Le_put ?_ (by first | (simp only [Heap.set_same, set_ne, ne_eq, not_false_eq_true, *] <;> rfl) | fail)) | fail))) | (with_reducible refine And.intro ?_ ?_)) <;> (try simp only [Sq,Sr,Sh,Si,Sl,Bu,Bb,Bd,Bc,Bw,Bn,Int.reduceAdd,Int.reduceSub,Int.reduceMul,Int.reduceTDiv,Int.reduceTMod,Int.reduceMod,Int.reduceDiv,Nat.reduceLT,Nat.reduceEqDiff,Sa,Sb,Sc,Sd,Se,Sf,Sg,Int.reduceLE,Int.reduceLT,Int.reduceToNat,Int.reduceNeg,Int.reduceEq,Nat.reduceLeDiff,Nat.reducePow,Int.reducePow,reduceIte,Nat.reduceSub,Nat.reduceAdd,Nat.reduceMul,putAt,ceq,List.replicate, *]))
            all_goals exact Fin_mk (by (repeat' (first | exact Heap.Le.refl _ | (with_reducible refine Le_set2 ?_) | (refine Le_known (by first | (simp only [Heap.set_same, set_ne, ne_eq, not_false_eq_true, *] <;> rfl) | fail) ?_) | (refine Le_fresh (by first | (simp only [*] <;> done) | (simp [set_none', Heap.set_same, set_ne, noneH, *] <;> done) | fail) ?_) | (refine Heap.Le.trans ?_ (Grow.le (by assumption))) | exact Le_none | (refine Le_put ?_ (by first | (simp only [Heap.set_same, set_ne, ne_eq, not_false_eq_true, *] <;> rfl) | fail)) | fail))) h
  | len hr hb hl =>
    have cC : ∀ (G : Heap) (K : Value → Heap → Prop), Grow w0 H G → K (.int .i64 0) G → HCalls Try.prog w0 19 [x.v] G K := fun G K g hk => c_Check x (hx.grow g) (by rw [if_pos hr]; exact hk)
    have b1 : ¬ lv < 0 := fun q => hb (.inl q)
    have b2 : ¬ 7 ≤ lv := fun q => hb (.inr (.inl q))
    have b3 : ¬ sizeI f = 0 := fun q => hb (.inr (.inr (.inl q)))
    have b4 : sideP z.w := Classical.byContradiction fun q => hb (.inr (.inr (.inr (.inl q))))
    have b5 : sideP z.h := Classical.byContradiction fun q => hb (.inr (.inr (.inr (.inr q))))
    have cw : ∀ (G : Heap) (K : Value → Heap → Prop), K (.bool true) G → HCalls Try.prog w0 50 [.int .i64 z.w] G K := fun G K hk => c_side z.w (by rw [decide_eq_true b4]; exact hk)
    have ch : ∀ (G : Heap) (K : Value → Heap → Prop), K (.bool true) G → HCalls Try.prog w0 50 [.int .i64 z.h] G K := fun G K hk => c_side z.h (by rw [decide_eq_true b5]; exact hk)
    obtain ⟨a1, a2⟩ := area b4 b5 (sizeI_le f)
    have q0 : 0 < (z.l.length : Int) := by have := hl.1; omega
    have q1 : ¬ (z.l.length : Int) = z.w * z.h * sizeI f := hl.2
    have q2 : ¬ (z.l.length : Int) = 0 := by omega
    clear hr hx hb hl b4 b5
    unfold Im.v at cC ⊢
    refine HL.hc k22 2000 ?_; unfold M22
    (all_goals (try simp only [Sq,Sr,Sh,Si,Sl,Bu,Bb,Bd,Bc,Bw,Bn,Int.reduceAdd,Int.reduceSub,Int.reduceMul,Int.reduceTDiv,Int.reduceTMod,Int.reduceMod,Int.reduceDiv,Nat.reduceLT,Nat.reduceEqDiff,Sa,Sb,Sc,Sd,Se,Sf,Sg,Int.reduceLE,Int.reduceLT,Int.reduceToNat,Int.reduceNeg,Int.reduceEq,Nat.reduceLeDiff,Nat.reducePow,Int.reducePow,reduceIte,Nat.reduceSub,Nat.reduceAdd,Nat.reduceMul,putAt,ceq,List.replicate, *])); repeat' ((first | (with_reducible refine fun _ : True => ?_) | refine cC _ _ (by (repeat' (first | exact Grow.refl _ | assumption | (refine Grow_known (by first | (simp only [Heap.set_same, set_ne, ne_eq, not_false_eq_true, *] <;> rfl) | fail) ?_) | (refine Grow.set ?_ (by assumption) (by first | (simp only [*] <;> done) | (simp [set_none', Heap.set_same, set_ne, noneH, *] <;> done) | fail)) | (refine Grow.trans ?_ (by assumption))))) ?_ | refine c_pSize _ ?_ | refine cw _ _ ?_ | refine ch _ _ ?_ | (with_reducible refine any_h ?_) | ((first | refine AllocQ_i ?_ | refine AllocO_i ?_); intro bk hb0 hbk; (try simp only [set_none'] at hbk); (try (first | have hbn := Grow.none (by assumption) hbk | have hbn := Grow.none (by assumption) hbk.2 | have hbn := Grow.none (by assumption) hbk.2.2 | have hbn := Grow.none (by assumption) hbk.2.2.2 | have hbn := Grow.none (by assumption) hbk.2.2.2.2 | have hbn := Grow.none (by assumption) hbk.2.2.2.2.2)); (try simp only [set_none'] at hbn); (try (first | have hbm := Grow.none (by assumption) hbn | have hbm := Grow.none (by assumption) hbn.2 | have hbm := Grow.none (by assumption) hbn.2.2 | have hbm := Grow.none (by assumption) hbn.2.2.2 | have hbm := Grow.none (by assumption) hbn.2.2.2.2 | have hbm := Grow.none (by assumption) hbn.2.2.2.2.2)); (try simp only [set_none'] at hbm)) | ((first | refine condS_i ?_ ?_ | refine pick_i ?_ ?_ | refine gS_it ?_ ?_ | refine gS_if ?_ ?_ | refine gP_it ?_ ?_ | refine gP_if ?_ ?_) <;> (intro hc; try simp only [Int.reduceLE,Int.reduceLT,Int.reduceEq,Sn] at hc)) | (with_reducible refine KP_i ?_ ?_; · (repeat' (first | exact Heap.Le.refl _ | (with_reducible refine Le_set2 ?_) | (refine Le_known (by first | (simp only [Heap.set_same, set_ne, ne_eq, not_false_eq_true, *] <;> rfl) | fail) ?_) | (refine Le_fresh (by first | (simp only [*] <;> done) | (simp [set_none', Heap.set_same, set_ne, noneH, *] <;> done) | fail) ?_) | (refine Heap.Le.trans ?_ (Grow.le (by assumption))) | exact Le_none | (refine Le_put ?_ (by first | (simp only [Heap.set_same, set_ne, ne_eq, not_false_eq_true, *] <;> rfl) | fail)) | fail))) | (with_reducible refine And.intro ?_ ?_)) <;> (try simp only [Sq,Sr,Sh,Si,Sl,Bu,Bb,Bd,Bc,Bw,Bn,Int.reduceAdd,Int.reduceSub,Int.reduceMul,Int.reduceTDiv,Int.reduceTMod,Int.reduceMod,Int.reduceDiv,Nat.reduceLT,Nat.reduceEqDiff,Sa,Sb,Sc,Sd,Se,Sf,Sg,Int.reduceLE,Int.reduceLT,Int.reduceToNat,Int.reduceNeg,Int.reduceEq,Nat.reduceLeDiff,Nat.reducePow,Int.reducePow,reduceIte,Nat.reduceSub,Nat.reduceAdd,Nat.reduceMul,putAt,ceq,List.replicate, *]))
    all_goals exact Fin_mk (by (repeat' (first | exact Heap.Le.refl _ | (with_reducible refine Le_set2 ?_) | (refine Le_known (by first | (simp only [Heap.set_same, set_ne, ne_eq, not_false_eq_true, *] <;> rfl) | fail) ?_) | (refine Le_fresh (by first | (simp only [*] <;> done) | (simp [set_none', Heap.set_same, set_ne, noneH, *] <;> done) | fail) ?_) | (refine Heap.Le.trans ?_ (Grow.le (by assumption))) | exact Le_none | (refine Le_put ?_ (by first | (simp only [Heap.set_same, set_ne, ne_eq, not_false_eq_true, *] <;> rfl) | fail)) | fail))) h
  | fmt hr hb hl hf =>
    have cC : ∀ (G : Heap) (K : Value → Heap → Prop), Grow w0 H G → K (.int .i64 0) G → HCalls Try.prog w0 19 [x.v] G K := fun G K g hk => c_Check x (hx.grow g) (by rw [if_pos hr]; exact hk)
    have b1 : ¬ lv < 0 := fun q => hb (.inl q)
    have b2 : ¬ 7 ≤ lv := fun q => hb (.inr (.inl q))
    have b3 : ¬ sizeI f = 0 := fun q => hb (.inr (.inr (.inl q)))
    have b4 : sideP z.w := Classical.byContradiction fun q => hb (.inr (.inr (.inr (.inl q))))
    have b5 : sideP z.h := Classical.byContradiction fun q => hb (.inr (.inr (.inr (.inr q))))
    have cw : ∀ (G : Heap) (K : Value → Heap → Prop), K (.bool true) G → HCalls Try.prog w0 50 [.int .i64 z.w] G K := fun G K hk => c_side z.w (by rw [decide_eq_true b4]; exact hk)
    have ch : ∀ (G : Heap) (K : Value → Heap → Prop), K (.bool true) G → HCalls Try.prog w0 50 [.int .i64 z.h] G K := fun G K hk => c_side z.h (by rw [decide_eq_true b5]; exact hk)
    obtain ⟨a1, a2⟩ := area b4 b5 (sizeI_le f)
    obtain ⟨f1, f2, f3⟩ := hf
    have f2' : 0 < (x.ls.length : Int) := by omega
    have f4 : ¬ x.f = f := fun q => f3 q.symm
    have f5 : ¬ lv = 0 := by omega
    unfold lenBad at hl
    clear hr hx hb b4 b5
    unfold Im.v at cC ⊢
    by_cases q2 : z.l.length = 0
    · have q0 : ¬ 0 < (z.l.length : Int) := by omega
      have q2' : (z.l.length : Int) = 0 := by omega
      clear hl q2
      refine HL.hc k22 2000 ?_; unfold M22
      (all_goals (try simp only [Sq,Sr,Sh,Si,Sl,Bu,Bb,Bd,Bc,Bw,Bn,Int.reduceAdd,Int.reduceSub,Int.reduceMul,Int.reduceTDiv,Int.reduceTMod,Int.reduceMod,Int.reduceDiv,Nat.reduceLT,Nat.reduceEqDiff,Sa,Sb,Sc,Sd,Se,Sf,Sg,Int.reduceLE,Int.reduceLT,Int.reduceToNat,Int.reduceNeg,Int.reduceEq,Nat.reduceLeDiff,Nat.reducePow,Int.reducePow,reduceIte,Nat.reduceSub,Nat.reduceAdd,Nat.reduceMul,putAt,ceq,List.replicate, *])); repeat' ((first | (with_reducible refine fun _ : True => ?_) | refine cC _ _ (by (repeat' (first | exact Grow.refl _ | assumption | (refine Grow_known (by first | (simp only [Heap.set_same, set_ne, ne_eq, not_false_eq_true, *] <;> rfl) | fail) ?_) | (refine Grow.set ?_ (by assumption) (by first | (simp only [*] <;> done) | (simp [set_none', Heap.set_same, set_ne, noneH, *] <;> done) | fail)) | (refine Grow.trans ?_ (by assumption))))) ?_ | refine c_pSize _ ?_ | refine cw _ _ ?_ | refine ch _ _ ?_ | (with_reducible refine any_h ?_) | ((first | refine AllocQ_i ?_ | refine AllocO_i ?_); intro bk hb0 hbk; (try simp only [set_none'] at hbk); (try (first | have hbn := Grow.none (by assumption) hbk | have hbn := Grow.none (by assumption) hbk.2 | have hbn := Grow.none (by assumption) hbk.2.2 | have hbn := Grow.none (by assumption) hbk.2.2.2 | have hbn := Grow.none (by assumption) hbk.2.2.2.2 | have hbn := Grow.none (by assumption) hbk.2.2.2.2.2)); (try simp only [set_none'] at hbn); (try (first | have hbm := Grow.none (by assumption) hbn | have hbm := Grow.none (by assumption) hbn.2 | have hbm := Grow.none (by assumption) hbn.2.2 | have hbm := Grow.none (by assumption) hbn.2.2.2 | have hbm := Grow.none (by assumption) hbn.2.2.2.2 | have hbm := Grow.none (by assumption) hbn.2.2.2.2.2)); (try simp only [set_none'] at hbm)) | ((first | refine condS_i ?_ ?_ | refine pick_i ?_ ?_ | refine gS_it ?_ ?_ | refine gS_if ?_ ?_ | refine gP_it ?_ ?_ | refine gP_if ?_ ?_) <;> (intro hc; try simp only [Int.reduceLE,Int.reduceLT,Int.reduceEq,Sn] at hc)) | (with_reducible refine KP_i ?_ ?_; · (repeat' (first | exact Heap.Le.refl _ | (with_reducible refine Le_set2 ?_) | (refine Le_known (by first | (simp only [Heap.set_same, set_ne, ne_eq, not_false_eq_true, *] <;> rfl) | fail) ?_) | (refine Le_fresh (by first | (simp only [*] <;> done) | (simp [set_none', Heap.set_same, set_ne, noneH, *] <;> done) | fail) ?_) | (refine Heap.Le.trans ?_ (Grow.le (by assumption))) | exact Le_none | (refine Le_put ?_ (by first | (simp only [Heap.set_same, set_ne, ne_eq, not_false_eq_true, *] <;> rfl) | fail)) | fail))) | (with_reducible refine And.intro ?_ ?_)) <;> (try simp only [Sq,Sr,Sh,Si,Sl,Bu,Bb,Bd,Bc,Bw,Bn,Int.reduceAdd,Int.reduceSub,Int.reduceMul,Int.reduceTDiv,Int.reduceTMod,Int.reduceMod,Int.reduceDiv,Nat.reduceLT,Nat.reduceEqDiff,Sa,Sb,Sc,Sd,Se,Sf,Sg,Int.reduceLE,Int.reduceLT,Int.reduceToNat,Int.reduceNeg,Int.reduceEq,Nat.reduceLeDiff,Nat.reducePow,Int.reducePow,reduceIte,Nat.reduceSub,Nat.reduceAdd,Nat.reduceMul,putAt,ceq,List.replicate, *]))
      all_goals exact Fin_mk (by (repeat' (first | exact Heap.Le.refl _ | (with_reducible refine Le_set2 ?_) | (refine Le_known (by first | (simp only [Heap.set_same, set_ne, ne_eq, not_false_eq_true, *] <;> rfl) | fail) ?_) | (refine Le_fresh (by first | (simp only [*] <;> done) | (simp [set_none', Heap.set_same, set_ne, noneH, *] <;> done) | fail) ?_) | (refine Heap.Le.trans ?_ (Grow.le (by assumption))) | exact Le_none | (refine Le_put ?_ (by first | (simp only [Heap.set_same, set_ne, ne_eq, not_false_eq_true, *] <;> rfl) | fail)) | fail))) h
    · have q0 : 0 < (z.l.length : Int) := by omega
      have q2' : ¬ (z.l.length : Int) = 0 := by omega
      have q1 : z.w * z.h * sizeI f = (z.l.length : Int) := Classical.byContradiction fun q => hl ⟨q2, fun e => q e.symm⟩
      clear hl q2
      rw [q1] at a2
      refine HL.hc k22 2000 ?_; unfold M22
      (all_goals (try simp only [Sq,Sr,Sh,Si,Sl,Bu,Bb,Bd,Bc,Bw,Bn,Int.reduceAdd,Int.reduceSub,Int.reduceMul,Int.reduceTDiv,Int.reduceTMod,Int.reduceMod,Int.reduceDiv,Nat.reduceLT,Nat.reduceEqDiff,Sa,Sb,Sc,Sd,Se,Sf,Sg,Int.reduceLE,Int.reduceLT,Int.reduceToNat,Int.reduceNeg,Int.reduceEq,Nat.reduceLeDiff,Nat.reducePow,Int.reducePow,reduceIte,Nat.reduceSub,Nat.reduceAdd,Nat.reduceMul,putAt,ceq,List.replicate, *])); repeat' ((first | (with_reducible refine fun _ : True => ?_) | refine cC _ _ (by (repeat' (first | exact Grow.refl _ | assumption | (refine Grow_known (by first | (simp only [Heap.set_same, set_ne, ne_eq, not_false_eq_true, *] <;> rfl) | fail) ?_) | (refine Grow.set ?_ (by assumption) (by first | (simp only [*] <;> done) | (simp [set_none', Heap.set_same, set_ne, noneH, *] <;> done) | fail)) | (refine Grow.trans ?_ (by assumption))))) ?_ | refine c_pSize _ ?_ | refine cw _ _ ?_ | refine ch _ _ ?_ | (with_reducible refine any_h ?_) | ((first | refine AllocQ_i ?_ | refine AllocO_i ?_); intro bk hb0 hbk; (try simp only [set_none'] at hbk); (try (first | have hbn := Grow.none (by assumption) hbk | have hbn := Grow.none (by assumption) hbk.2 | have hbn := Grow.none (by assumption) hbk.2.2 | have hbn := Grow.none (by assumption) hbk.2.2.2 | have hbn := Grow.none (by assumption) hbk.2.2.2.2 | have hbn := Grow.none (by assumption) hbk.2.2.2.2.2)); (try simp only [set_none'] at hbn); (try (first | have hbm := Grow.none (by assumption) hbn | have hbm := Grow.none (by assumption) hbn.2 | have hbm := Grow.none (by assumption) hbn.2.2 | have hbm := Grow.none (by assumption) hbn.2.2.2 | have hbm := Grow.none (by assumption) hbn.2.2.2.2 | have hbm := Grow.none (by assumption) hbn.2.2.2.2.2)); (try simp only [set_none'] at hbm)) | ((first | refine condS_i ?_ ?_ | refine pick_i ?_ ?_ | refine gS_it ?_ ?_ | refine gS_if ?_ ?_ | refine gP_it ?_ ?_ | refine gP_if ?_ ?_) <;> (intro hc; try simp only [Int.reduceLE,Int.reduceLT,Int.reduceEq,Sn] at hc)) | (with_reducible refine KP_i ?_ ?_; · (repeat' (first | exact Heap.Le.refl _ | (with_reducible refine Le_set2 ?_) | (refine Le_known (by first | (simp only [Heap.set_same, set_ne, ne_eq, not_false_eq_true, *] <;> rfl) | fail) ?_) | (refine Le_fresh (by first | (simp only [*] <;> done) | (simp [set_none', Heap.set_same, set_ne, noneH, *] <;> done) | fail) ?_) | (refine Heap.Le.trans ?_ (Grow.le (by assumption))) | exact Le_none | (refine Le_put ?_ (by first | (simp only [Heap.set_same, set_ne, ne_eq, not_false_eq_true, *] <;> rfl) | fail)) | fail))) | (with_reducible refine And.intro ?_ ?_)) <;> (try simp only [Sq,Sr,Sh,Si,Sl,Bu,Bb,Bd,Bc,Bw,Bn,Int.reduceAdd,Int.reduceSub,Int.reduceMul,Int.reduceTDiv,Int.reduceTMod,Int.reduceMod,Int.reduceDiv,Nat.reduceLT,Nat.reduceEqDiff,Sa,Sb,Sc,Sd,Se,Sf,Sg,Int.reduceLE,Int.reduceLT,Int.reduceToNat,Int.reduceNeg,Int.reduceEq,Nat.reduceLeDiff,Nat.reducePow,Int.reducePow,reduceIte,Nat.reduceSub,Nat.reduceAdd,Nat.reduceMul,putAt,ceq,List.replicate, *]))
      all_goals exact Fin_mk (by (repeat' (first | exact Heap.Le.refl _ | (with_reducible refine Le_set2 ?_) | (refine Le_known (by first | (simp only [Heap.set_same, set_ne, ne_eq, not_false_eq_true, *] <;> rfl) | fail) ?_) | (refine Le_fresh (by first | (simp only [*] <;> done) | (simp [set_none', Heap.set_same, set_ne, noneH, *] <;> done) | fail) ?_) | (refine Heap.Le.trans ?_ (Grow.le (by assumption))) | exact Le_none | (refine Le_put ?_ (by first | (simp only [Heap.set_same, set_ne, ne_eq, not_false_eq_true, *] <;> rfl) | fail)) | fail))) h
/- paintboxref08 Put -/
def M23 : MC :=
  .seq (.reg [⟨(some 4), .box 24 (.tmp 0), none⟩,
 ⟨(some 7), .box 38 (.tmp 3), none⟩,
 ⟨(some 8), .alloc 24 [(.int .i64 0), (.slice none 0 0), (.int .i64 0), (.int .i64 0), (.int .i64 0), (.int .i64 0)], none⟩,
 ⟨(some 9), .mv (.const (.int .i64 0)), none⟩])
 (.seq (.block 0 (.seq (.reg [⟨(some 12), .ldn 6 (.tmp 4), none⟩,
 ⟨(some 13), .call 29 [(.tmp 12)], none⟩,
 ⟨(some 14), .un .not (.tmp 13), none⟩,
 ⟨(some 11), .mv (.tmp 14), none⟩])
 (.cond (.tmp 11)
 (.seq (.reg [⟨(some 15), .build [(.int .i64 0), (.slice none 0 0), (.int .i64 0), (.int .i64 0), (.int .i64 0), (.int .i64 0)] [], none⟩,
 ⟨none, .stn 6 (.tmp 8) (.tmp 15), none⟩,
 ⟨(some 9), .mv (.const (.int .i64 180)), none⟩])
 (.ret))
 (.seq (.reg [⟨(some 17), .mv (.tmp 1), none⟩,
 ⟨(some 18), .bin .lss (.tmp 17) (.const (.int .i64 0)), none⟩,
 ⟨(some 19), .mv (.tmp 18), none⟩,
 ⟨(some 20), .mv (.tmp 1), (some (19, false))⟩,
 ⟨(some 21), .bin .geq (.tmp 20) (.const (.int .i64 7)), (some (19, false))⟩,
 ⟨(some 22), .pick (.tmp 19) (.const (.bool true)) (.tmp 21), none⟩,
 ⟨(some 23), .mv (.tmp 22), none⟩,
 ⟨(some 24), .mv (.tmp 2), (some (23, false))⟩,
 ⟨(some 25), .call 45 [(.tmp 24)], (some (23, false))⟩,
 ⟨(some 26), .bin .eql (.tmp 25) (.const (.int .i64 0)), (some (23, false))⟩,
 ⟨(some 27), .pick (.tmp 23) (.const (.bool true)) (.tmp 26), none⟩,
 ⟨(some 28), .mv (.tmp 27), none⟩,
 ⟨(some 29), .fa 0 (.tmp 7), (some (28, false))⟩,
 ⟨(some 30), .ld1 (.tmp 29), (some (28, false))⟩,
 ⟨(some 31), .call 53 [(.tmp 30)], (some (28, false))⟩,
 ⟨(some 32), .un .not (.tmp 31), (some (28, false))⟩,
 ⟨(some 33), .pick (.tmp 28) (.const (.bool true)) (.tmp 32), none⟩,
 ⟨(some 34), .mv (.tmp 33), none⟩,
 ⟨(some 35), .fa 1 (.tmp 7), (some (34, false))⟩,
 ⟨(some 36), .ld1 (.tmp 35), (some (34, false))⟩,
 ⟨(some 37), .call 53 [(.tmp 36)], (some (34, false))⟩,
 ⟨(some 38), .un .not (.tmp 37), (some (34, false))⟩,
 ⟨(some 39), .pick (.tmp 34) (.const (.bool true)) (.tmp 38), none⟩,
 ⟨(some 16), .mv (.tmp 39), none⟩])
 (.cond (.tmp 16)
 (.seq (.reg [⟨(some 40), .build [(.int .i64 0), (.slice none 0 0), (.int .i64 0), (.int .i64 0), (.int .i64 0), (.int .i64 0)] [], none⟩,
 ⟨none, .stn 6 (.tmp 8) (.tmp 40), none⟩,
 ⟨(some 9), .mv (.const (.int .i64 2)), none⟩])
 (.ret))
 (.seq (.any [(false, 0, [5, 6, 7, 8, 9, 10, 11, 12], ⟨(some 42), .fa 2 (.tmp 7), none⟩),
 (false, 1, [5, 6, 7, 8, 9, 10, 11, 12], ⟨(some 43), .ld1 (.tmp 42), none⟩),
 (false, 2, [5, 6, 7, 8, 9, 10, 11, 12], ⟨(some 44), .len (.tmp 43), none⟩),
 (false, 3, [5, 6, 7, 8, 9, 10, 11, 12], ⟨(some 45), .bin .neq (.tmp 44) (.const (.int .i64 0)), none⟩),
 (false, 4, [5, 6, 7, 8, 9, 10, 11, 12], ⟨(some 46), .mv (.tmp 45), none⟩),
 (true, 5, [], ⟨(some 47), .fa 2 (.tmp 7), (some (46, true))⟩),
 (true, 6, [], ⟨(some 48), .ld1 (.tmp 47), (some (46, true))⟩),
 (true, 7, [], ⟨(some 49), .len (.tmp 48), (some (46, true))⟩),
 (true, 8, [], ⟨(some 50), .fa 0 (.tmp 7), (some (46, true))⟩),
 (true, 9, [], ⟨(some 51), .ld1 (.tmp 50), (some (46, true))⟩),
 (true, 10, [], ⟨(some 52), .fa 1 (.tmp 7), (some (46, true))⟩),
 (true, 11, [], ⟨(some 53), .ld1 (.tmp 52), (some (46, true))⟩),
 (true, 12, [], ⟨(some 54), .bin .mul (.tmp 51) (.tmp 53), (some (46, true))⟩),
 (false, 13, [5, 6, 7, 8, 9, 10, 11, 12], ⟨(some 55), .mv (.tmp 2), (some (46, true))⟩),
 (false, 14, [5, 6, 7, 8, 9, 10, 11, 12], ⟨(some 56), .call 45 [(.tmp 55)], (some (46, true))⟩),
 (false, 15, [5, 6, 7], ⟨(some 57), .bin .mul (.tmp 54) (.tmp 56), (some (46, true))⟩),
 (false, 16, [], ⟨(some 58), .bin .neq (.tmp 49) (.tmp 57), (some (46, true))⟩),
 (false, 17, [], ⟨(some 59), .pick (.tmp 46) (.tmp 58) (.const (.bool false)), none⟩),
 (false, 18, [], ⟨(some 41), .mv (.tmp 59), none⟩)])
 (.cond (.tmp 41)
 (.seq (.reg [⟨(some 60), .build [(.int .i64 0), (.slice none 0 0), (.int .i64 0), (.int .i64 0), (.int .i64 0), (.int .i64 0)] [], none⟩,
 ⟨none, .stn 6 (.tmp 8) (.tmp 60), none⟩,
 ⟨(some 9), .mv (.const (.int .i64 7)), none⟩])
 (.ret))
 (.seq (.reg [⟨(some 62), .mv (.tmp 1), none⟩,
 ⟨(some 63), .bin .neq (.tmp 62) (.const (.int .i64 0)), none⟩,
 ⟨(some 64), .mv (.tmp 63), none⟩,
 ⟨(some 65), .fa 1 (.tmp 4), (some (64, true))⟩,
 ⟨(some 66), .ld1 (.tmp 65), (some (64, true))⟩,
 ⟨(some 67), .len (.tmp 66), (some (64, true))⟩,
 ⟨(some 68), .bin .gtr (.tmp 67) (.const (.int .i64 0)), (some (64, true))⟩,
 ⟨(some 69), .pick (.tmp 64) (.tmp 68) (.const (.bool false)), none⟩,
 ⟨(some 70), .mv (.tmp 69), none⟩,
 ⟨(some 71), .fa 0 (.tmp 4), (some (70, true))⟩,
 ⟨(some 72), .ld1 (.tmp 71), (some (70, true))⟩,
 ⟨(some 73), .mv (.tmp 2), (some (70, true))⟩,
 ⟨(some 74), .bin .neq (.tmp 72) (.tmp 73), (some (70, true))⟩,
 ⟨(some 75), .pick (.tmp 70) (.tmp 74) (.const (.bool false)), none⟩,
 ⟨(some 61), .mv (.tmp 75), none⟩])
 (.cond (.tmp 61)
 (.seq (.reg [⟨(some 76), .build [(.int .i64 0), (.slice none 0 0), (.int .i64 0), (.int .i64 0), (.int .i64 0), (.int .i64 0)] [], none⟩,
 ⟨none, .stn 6 (.tmp 8) (.tmp 76), none⟩,
 ⟨(some 9), .mv (.const (.int .i64 181)), none⟩])
 (.ret))
 (.skip))))))))))
 (.seq (.reg [⟨(some 77), .ldn 6 (.tmp 4), none⟩,
 ⟨(some 78), .call 14 [(.tmp 77)], none⟩,
 ⟨none, .stn 6 (.tmp 4) (.tmp 78), none⟩])
 (.seq (.seq (.reg [⟨(some 79), .fa 0 (.tmp 4), none⟩,
 ⟨(some 80), .ld1 (.tmp 79), none⟩,
 ⟨(some 81), .mv (.tmp 2), none⟩,
 ⟨(some 82), .bin .neq (.tmp 80) (.tmp 81), none⟩])
 (.cond (.tmp 82)
 (.reg [⟨(some 83), .fa 1 (.tmp 4), none⟩,
 ⟨none, .st1 (.tmp 83) (.const (.slice none 0 0)), none⟩])
 (.skip)))
 (.seq (.reg [⟨(some 84), .mv (.tmp 2), none⟩,
 ⟨(some 85), .fa 0 (.tmp 4), none⟩,
 ⟨none, .st1 (.tmp 85) (.tmp 84), none⟩])
 (.seq (.block 1 (.loop (.seq (.seq (.reg [⟨(some 86), .fa 1 (.tmp 4), none⟩,
 ⟨(some 87), .ld1 (.tmp 86), none⟩,
 ⟨(some 88), .len (.tmp 87), none⟩,
 ⟨(some 89), .mv (.tmp 1), none⟩,
 ⟨(some 90), .bin .leq (.tmp 88) (.tmp 89), none⟩])
 (.cond (.tmp 90)
 (.skip)
 (.exit 1)))
 (.block 2 (.reg [⟨(some 91), .fa 1 (.tmp 4), none⟩,
 ⟨(some 92), .ld1 (.tmp 91), none⟩,
 ⟨(some 93), .build [(.int .i64 0), (.int .i64 0), (.slice none 0 0)] [], none⟩,
 ⟨(some 94), .bslice 38 1 [(.int .i64 0), (.int .i64 0), (.slice none 0 0)] [(0, 3, (.tmp 93))], none⟩,
 ⟨(some 95), .app 38 3 40 [(.int .i64 0), (.int .i64 0), (.slice none 0 0)] (.tmp 92) (.tmp 94), none⟩,
 ⟨(some 96), .fa 1 (.tmp 4), none⟩,
 ⟨none, .st1 (.tmp 96) (.tmp 95), none⟩])))))
 (.seq (.any [(true, 0, [], ⟨(some 97), .fa 0 (.tmp 7), none⟩),
 (true, 1, [], ⟨(some 98), .ld1 (.tmp 97), none⟩),
 (true, 2, [], ⟨(some 99), .fa 1 (.tmp 7), none⟩),
 (true, 3, [], ⟨(some 100), .ld1 (.tmp 99), none⟩),
 (true, 4, [], ⟨(some 101), .bin .mul (.tmp 98) (.tmp 100), none⟩),
 (false, 5, [0, 1, 2, 3, 4], ⟨(some 102), .mv (.tmp 2), none⟩),
 (false, 6, [0, 1, 2, 3, 4], ⟨(some 103), .call 45 [(.tmp 102)], none⟩),
 (false, 7, [], ⟨(some 104), .bin .mul (.tmp 101) (.tmp 103), none⟩),
 (false, 8, [], ⟨(some 105), .mks 5 1 [(.int .u8 0)] (.tmp 104) (.tmp 104), none⟩),
 (false, 9, [], ⟨(some 10), .mv (.tmp 105), none⟩)])
 (.seq (.reg [⟨(some 106), .mv (.tmp 10), none⟩,
 ⟨(some 107), .fa 2 (.tmp 7), none⟩,
 ⟨(some 108), .ld1 (.tmp 107), none⟩,
 ⟨(some 109), .cpy 1 (.tmp 106) (.tmp 108), none⟩])
 (.seq (.reg [⟨(some 110), .fa 1 (.tmp 4), none⟩,
 ⟨(some 111), .ld1 (.tmp 110), none⟩,
 ⟨(some 112), .mv (.tmp 1), none⟩,
 ⟨(some 113), .fa 0 (.tmp 7), none⟩,
 ⟨(some 114), .ld1 (.tmp 113), none⟩,
 ⟨(some 115), .fa 1 (.tmp 7), none⟩,
 ⟨(some 116), .ld1 (.tmp 115), none⟩,
 ⟨(some 117), .mv (.tmp 10), none⟩,
 ⟨(some 118), .build [(.int .i64 0), (.int .i64 0), (.slice none 0 0)] [(0, 1, (.tmp 114)), (1, 1, (.tmp 116)), (2, 1, (.tmp 117))], none⟩,
 ⟨(some 119), .is 3 (.tmp 111) (.tmp 112), none⟩,
 ⟨none, .stn 3 (.tmp 119) (.tmp 118), none⟩])
 (.seq (.reg [⟨(some 120), .ldn 6 (.tmp 4), none⟩,
 ⟨none, .stn 6 (.tmp 8) (.tmp 120), none⟩,
 ⟨(some 9), .mv (.const (.int .i64 0)), none⟩])
 (.ret))))))))))
theorem k23 : fnOk Try.prog 23 = some (M23, [.cn 6 8, .t 9], 121) := by kernel_rfl

theorem r_Put_err (x : Im) (hx : ImOk w0 H x) (lv f : Int) (z : LvR) (e : Int) (he : PutE x lv f z e) (h : K (.tuple #[zIm, .int .i64 e]) H) : HCalls Try.prog w0 23 [x.v, .int .i64 lv, .int .i64 f, z.v] H K := by
  unfold LvR.v
  cases he with
  | image hr =>
    have cC : ∀ (G : Heap) (K : Value → Heap → Prop), Grow w0 H G → K (.bool false) G → HCalls Try.prog w0 29 [x.v] G K := fun G K g hk => r_Right8 x (hx.grow g) (by rw [decide_eq_false hr]; exact hk)
    clear hr hx
    unfold Im.v at cC ⊢
    refine HL.hc k23 2000 ?_; unfold M23
    (all_goals (try simp only [Sq,Sr,Sh,Si,Sl,Bu,Bb,Bd,Bc,Bw,Bn,Int.reduceAdd,Int.reduceSub,Int.reduceMul,Int.reduceTDiv,Int.reduceTMod,Int.reduceMod,Int.reduceDiv,Nat.reduceLT,Nat.reduceEqDiff,Sa,Sb,Sc,Sd,Se,Sf,Sg,Int.reduceLE,Int.reduceLT,Int.reduceToNat,Int.reduceNeg,Int.reduceEq,Nat.reduceLeDiff,Nat.reducePow,Int.reducePow,reduceIte,Nat.reduceSub,Nat.reduceAdd,Nat.reduceMul,putAt,ceq,List.replicate, *])); repeat' ((first | (with_reducible refine fun _ : True => ?_) | refine cC _ _ (by (repeat' (first | exact Grow.refl _ | assumption | (refine Grow_known (by first | (simp only [Heap.set_same, set_ne, ne_eq, not_false_eq_true, *] <;> rfl) | fail) ?_) | (refine Grow.set ?_ (by assumption) (by first | (simp only [*] <;> done) | (simp [set_none', Heap.set_same, set_ne, noneH, *] <;> done) | fail)) | (refine Grow.trans ?_ (by assumption))))) ?_ | (with_reducible refine any_h ?_) | ((first | refine AllocQ_i ?_ | refine AllocO_i ?_); intro bk hb0 hbk; (try simp only [set_none'] at hbk); (try (first | have hbn := Grow.none (by assumption) hbk | have hbn := Grow.none (by assumption) hbk.2 | have hbn := Grow.none (by assumption) hbk.2.2 | have hbn := Grow.none (by assumption) hbk.2.2.2 | have hbn := Grow.none (by assumption) hbk.2.2.2.2 | have hbn := Grow.none (by assumption) hbk.2.2.2.2.2)); (try simp only [set_none'] at hbn); (try (first | have hbm := Grow.none (by assumption) hbn | have hbm := Grow.none (by assumption) hbn.2 | have hbm := Grow.none (by assumption) hbn.2.2 | have hbm := Grow.none (by assumption) hbn.2.2.2 | have hbm := Grow.none (by assumption) hbn.2.2.2.2 | have hbm := Grow.none (by assumption) hbn.2.2.2.2.2)); (try simp only [set_none'] at hbm)) | ((first | refine condS_i ?_ ?_ | refine pick_i ?_ ?_ | refine gS_it ?_ ?_ | refine gS_if ?_ ?_ | refine gP_it ?_ ?_ | refine gP_if ?_ ?_) <;> (intro hc; try simp only [Int.reduceLE,Int.reduceLT,Int.reduceEq,Sn] at hc)) | (with_reducible refine KP_i ?_ ?_; · (repeat' (first | exact Heap.Le.refl _ | (with_reducible refine Le_set2 ?_) | (refine Le_known (by first | (simp only [Heap.set_same, set_ne, ne_eq, not_false_eq_true, *] <;> rfl) | fail) ?_) | (refine Le_fresh (by first | (simp only [*] <;> done) | (simp [set_none', Heap.set_same, set_ne, noneH, *] <;> done) | fail) ?_) | (refine Heap.Le.trans ?_ (Grow.le (by assumption))) | exact Le_none | (refine Le_put ?_ (by first | (simp only [Heap.set_same, set_ne, ne_eq, not_false_eq_true, *] <;> rfl) | fail)) | fail))) | (with_reducible refine And.intro ?_ ?_)) <;> (try simp only [Sq,Sr,Sh,Si,Sl,Bu,Bb,Bd,Bc,Bw,Bn,Int.reduceAdd,Int.reduceSub,Int.reduceMul,Int.reduceTDiv,Int.reduceTMod,Int.reduceMod,Int.reduceDiv,Nat.reduceLT,Nat.reduceEqDiff,Sa,Sb,Sc,Sd,Se,Sf,Sg,Int.reduceLE,Int.reduceLT,Int.reduceToNat,Int.reduceNeg,Int.reduceEq,Nat.reduceLeDiff,Nat.reducePow,Int.reducePow,reduceIte,Nat.reduceSub,Nat.reduceAdd,Nat.reduceMul,putAt,ceq,List.replicate, *]))
    all_goals exact Fin_mk (by (repeat' (first | exact Heap.Le.refl _ | (with_reducible refine Le_set2 ?_) | (refine Le_known (by first | (simp only [Heap.set_same, set_ne, ne_eq, not_false_eq_true, *] <;> rfl) | fail) ?_) | (refine Le_fresh (by first | (simp only [*] <;> done) | (simp [set_none', Heap.set_same, set_ne, noneH, *] <;> done) | fail) ?_) | (refine Heap.Le.trans ?_ (Grow.le (by assumption))) | exact Le_none | (refine Le_put ?_ (by first | (simp only [Heap.set_same, set_ne, ne_eq, not_false_eq_true, *] <;> rfl) | fail)) | fail))) h
  | arg hr hb =>
    have cC : ∀ (G : Heap) (K : Value → Heap → Prop), Grow w0 H G → K (.bool true) G → HCalls Try.prog w0 29 [x.v] G K := fun G K g hk => r_Right8 x (hx.grow g) (by rw [decide_eq_true hr]; exact hk)
    have cS : ∀ (n : Int) (G : Heap) (K : Value → Heap → Prop), (sideP n → K (.bool true) G) → (¬ sideP n → K (.bool false) G) → HCalls Try.prog w0 53 [.int .i64 n] G K := fun n G K h1 h2 => r_side n (by
      by_cases hs : sideP n
      · rw [decide_eq_true hs]; exact h1 hs
      · rw [decide_eq_false hs]; exact h2 hs)
    clear hr hx
    unfold Im.v at cC ⊢
    by_cases b1 : lv < 0
    · clear hb
      refine HL.hc k23 2000 ?_; unfold M23
      (all_goals (try simp only [Sq,Sr,Sh,Si,Sl,Bu,Bb,Bd,Bc,Bw,Bn,Int.reduceAdd,Int.reduceSub,Int.reduceMul,Int.reduceTDiv,Int.reduceTMod,Int.reduceMod,Int.reduceDiv,Nat.reduceLT,Nat.reduceEqDiff,Sa,Sb,Sc,Sd,Se,Sf,Sg,Int.reduceLE,Int.reduceLT,Int.reduceToNat,Int.reduceNeg,Int.reduceEq,Nat.reduceLeDiff,Nat.reducePow,Int.reducePow,reduceIte,Nat.reduceSub,Nat.reduceAdd,Nat.reduceMul,putAt,ceq,List.replicate, *])); repeat' ((first | (with_reducible refine fun _ : True => ?_) | refine cC _ _ (by (repeat' (first | exact Grow.refl _ | assumption | (refine Grow_known (by first | (simp only [Heap.set_same, set_ne, ne_eq, not_false_eq_true, *] <;> rfl) | fail) ?_) | (refine Grow.set ?_ (by assumption) (by first | (simp only [*] <;> done) | (simp [set_none', Heap.set_same, set_ne, noneH, *] <;> done) | fail)) | (refine Grow.trans ?_ (by assumption))))) ?_ | refine r_Size8 _ ?_ | (with_reducible refine any_h ?_) | ((first | refine AllocQ_i ?_ | refine AllocO_i ?_); intro bk hb0 hbk; (try simp only [set_none'] at hbk); (try (first | have hbn := Grow.none (by assumption) hbk | have hbn := Grow.none (by assumption) hbk.2 | have hbn := Grow.none (by assumption) hbk.2.2 | have hbn := Grow.none (by assumption) hbk.2.2.2 | have hbn := Grow.none (by assumption) hbk.2.2.2.2 | have hbn := Grow.none (by assumption) hbk.2.2.2.2.2)); (try simp only [set_none'] at hbn); (try (first | have hbm := Grow.none (by assumption) hbn | have hbm := Grow.none (by assumption) hbn.2 | have hbm := Grow.none (by assumption) hbn.2.2 | have hbm := Grow.none (by assumption) hbn.2.2.2 | have hbm := Grow.none (by assumption) hbn.2.2.2.2 | have hbm := Grow.none (by assumption) hbn.2.2.2.2.2)); (try simp only [set_none'] at hbm)) | ((first | refine condS_i ?_ ?_ | refine pick_i ?_ ?_ | refine gS_it ?_ ?_ | refine gS_if ?_ ?_ | refine gP_it ?_ ?_ | refine gP_if ?_ ?_) <;> (intro hc; try simp only [Int.reduceLE,Int.reduceLT,Int.reduceEq,Sn] at hc)) | (with_reducible refine KP_i ?_ ?_; · (repeat' (first | exact Heap.Le.refl _ | (with_reducible refine Le_set2 ?_) | (refine Le_known (by first | (simp only [Heap.set_same, set_ne, ne_eq, not_false_eq_true, *] <;> rfl) | fail) ?_) | (refine Le_fresh (by first | (simp only [*] <;> done) | (simp [set_none', Heap.set_same, set_ne, noneH, *] <;> done) | fail) ?_) | (refine Heap.Le.trans ?_ (Grow.le (by assumption))) | exact Le_none | (refine Le_put ?_ (by first | (simp only [Heap.set_same, set_ne, ne_eq, not_false_eq_true, *] <;> rfl) | fail)) | fail))) | (with_reducible refine And.intro ?_ ?_)) <;> (try simp only [Sq,Sr,Sh,Si,Sl,Bu,Bb,Bd,Bc,Bw,Bn,Int.reduceAdd,Int.reduceSub,Int.reduceMul,Int.reduceTDiv,Int.reduceTMod,Int.reduceMod,Int.reduceDiv,Nat.reduceLT,Nat.reduceEqDiff,Sa,Sb,Sc,Sd,Se,Sf,Sg,Int.reduceLE,Int.reduceLT,Int.reduceToNat,Int.reduceNeg,Int.reduceEq,Nat.reduceLeDiff,Nat.reducePow,Int.reducePow,reduceIte,Nat.reduceSub,Nat.reduceAdd,Nat.reduceMul,putAt,ceq,List.replicate, *]))
      all_goals exact Fin_mk (by (repeat' (first | exact Heap.Le.refl _ | (with_reducible refine Le_set2 ?_) | (refine Le_known (by first | (simp only [Heap.set_same, set_ne, ne_eq, not_false_eq_true, *] <;> rfl) | fail) ?_) | (refine Le_fresh (by first | (simp only [*] <;> done) | (simp [set_none', Heap.set_same, set_ne, noneH, *] <;> done) | fail) ?_) | (refine Heap.Le.trans ?_ (Grow.le (by assumption))) | exact Le_none | (refine Le_put ?_ (by first | (simp only [Heap.set_same, set_ne, ne_eq, not_false_eq_true, *] <;> rfl) | fail)) | fail))) h
    · by_cases b2 : 7 ≤ lv
      · clear hb
        refine HL.hc k23 2000 ?_; unfold M23
        (all_goals (try simp only [Sq,Sr,Sh,Si,Sl,Bu,Bb,Bd,Bc,Bw,Bn,Int.reduceAdd,Int.reduceSub,Int.reduceMul,Int.reduceTDiv,Int.reduceTMod,Int.reduceMod,Int.reduceDiv,Nat.reduceLT,Nat.reduceEqDiff,Sa,Sb,Sc,Sd,Se,Sf,Sg,Int.reduceLE,Int.reduceLT,Int.reduceToNat,Int.reduceNeg,Int.reduceEq,Nat.reduceLeDiff,Nat.reducePow,Int.reducePow,reduceIte,Nat.reduceSub,Nat.reduceAdd,Nat.reduceMul,putAt,ceq,List.replicate, *])); repeat' ((first | (with_reducible refine fun _ : True => ?_) | refine cC _ _ (by (repeat' (first | exact Grow.refl _ | assumption | (refine Grow_known (by first | (simp only [Heap.set_same, set_ne, ne_eq, not_false_eq_true, *] <;> rfl) | fail) ?_) | (refine Grow.set ?_ (by assumption) (by first | (simp only [*] <;> done) | (simp [set_none', Heap.set_same, set_ne, noneH, *] <;> done) | fail)) | (refine Grow.trans ?_ (by assumption))))) ?_ | refine r_Size8 _ ?_ | (with_reducible refine any_h ?_) | ((first | refine AllocQ_i ?_ | refine AllocO_i ?_); intro bk hb0 hbk; (try simp only [set_none'] at hbk); (try (first | have hbn := Grow.none (by assumption) hbk | have hbn := Grow.none (by assumption) hbk.2 | have hbn := Grow.none (by assumption) hbk.2.2 | have hbn := Grow.none (by assumption) hbk.2.2.2 | have hbn := Grow.none (by assumption) hbk.2.2.2.2 | have hbn := Grow.none (by assumption) hbk.2.2.2.2.2)); (try simp only [set_none'] at hbn); (try (first | have hbm := Grow.none (by assumption) hbn | have hbm := Grow.none (by assumption) hbn.2 | have hbm := Grow.none (by assumption) hbn.2.2 | have hbm := Grow.none (by assumption) hbn.2.2.2 | have hbm := Grow.none (by assumption) hbn.2.2.2.2 | have hbm := Grow.none (by assumption) hbn.2.2.2.2.2)); (try simp only [set_none'] at hbm)) | ((first | refine condS_i ?_ ?_ | refine pick_i ?_ ?_ | refine gS_it ?_ ?_ | refine gS_if ?_ ?_ | refine gP_it ?_ ?_ | refine gP_if ?_ ?_) <;> (intro hc; try simp only [Int.reduceLE,Int.reduceLT,Int.reduceEq,Sn] at hc)) | (with_reducible refine KP_i ?_ ?_; · (repeat' (first | exact Heap.Le.refl _ | (with_reducible refine Le_set2 ?_) | (refine Le_known (by first | (simp only [Heap.set_same, set_ne, ne_eq, not_false_eq_true, *] <;> rfl) | fail) ?_) | (refine Le_fresh (by first | (simp only [*] <;> done) | (simp [set_none', Heap.set_same, set_ne, noneH, *] <;> done) | fail) ?_) | (refine Heap.Le.trans ?_ (Grow.le (by assumption))) | exact Le_none | (refine Le_put ?_ (by first | (simp only [Heap.set_same, set_ne, ne_eq, not_false_eq_true, *] <;> rfl) | fail)) | fail))) | (with_reducible refine And.intro ?_ ?_)) <;> (try simp only [Sq,Sr,Sh,Si,Sl,Bu,Bb,Bd,Bc,Bw,Bn,Int.reduceAdd,Int.reduceSub,Int.reduceMul,Int.reduceTDiv,Int.reduceTMod,Int.reduceMod,Int.reduceDiv,Nat.reduceLT,Nat.reduceEqDiff,Sa,Sb,Sc,Sd,Se,Sf,Sg,Int.reduceLE,Int.reduceLT,Int.reduceToNat,Int.reduceNeg,Int.reduceEq,Nat.reduceLeDiff,Nat.reducePow,Int.reducePow,reduceIte,Nat.reduceSub,Nat.reduceAdd,Nat.reduceMul,putAt,ceq,List.replicate, *]))
        all_goals exact Fin_mk (by (repeat' (first | exact Heap.Le.refl _ | (with_reducible refine Le_set2 ?_) | (refine Le_known (by first | (simp only [Heap.set_same, set_ne, ne_eq, not_false_eq_true, *] <;> rfl) | fail) ?_) | (refine Le_fresh (by first | (simp only [*] <;> done) | (simp [set_none', Heap.set_same, set_ne, noneH, *] <;> done) | fail) ?_) | (refine Heap.Le.trans ?_ (Grow.le (by assumption))) | exact Le_none | (refine Le_put ?_ (by first | (simp only [Heap.set_same, set_ne, ne_eq, not_false_eq_true, *] <;> rfl) | fail)) | fail))) h
      · by_cases b3 : sizeI f = 0
        · clear hb
          refine HL.hc k23 2000 ?_; unfold M23
          (all_goals (try simp only [Sq,Sr,Sh,Si,Sl,Bu,Bb,Bd,Bc,Bw,Bn,Int.reduceAdd,Int.reduceSub,Int.reduceMul,Int.reduceTDiv,Int.reduceTMod,Int.reduceMod,Int.reduceDiv,Nat.reduceLT,Nat.reduceEqDiff,Sa,Sb,Sc,Sd,Se,Sf,Sg,Int.reduceLE,Int.reduceLT,Int.reduceToNat,Int.reduceNeg,Int.reduceEq,Nat.reduceLeDiff,Nat.reducePow,Int.reducePow,reduceIte,Nat.reduceSub,Nat.reduceAdd,Nat.reduceMul,putAt,ceq,List.replicate, *])); repeat' ((first | (with_reducible refine fun _ : True => ?_) | refine cC _ _ (by (repeat' (first | exact Grow.refl _ | assumption | (refine Grow_known (by first | (simp only [Heap.set_same, set_ne, ne_eq, not_false_eq_true, *] <;> rfl) | fail) ?_) | (refine Grow.set ?_ (by assumption) (by first | (simp only [*] <;> done) | (simp [set_none', Heap.set_same, set_ne, noneH, *] <;> done) | fail)) | (refine Grow.trans ?_ (by assumption))))) ?_ | refine r_Size8 _ ?_ | (with_reducible refine any_h ?_) | ((first | refine AllocQ_i ?_ | refine AllocO_i ?_); intro bk hb0 hbk; (try simp only [set_none'] at hbk); (try (first | have hbn := Grow.none (by assumption) hbk | have hbn := Grow.none (by assumption) hbk.2 | have hbn := Grow.none (by assumption) hbk.2.2 | have hbn := Grow.none (by assumption) hbk.2.2.2 | have hbn := Grow.none (by assumption) hbk.2.2.2.2 | have hbn := Grow.none (by assumption) hbk.2.2.2.2.2)); (try simp only [set_none'] at hbn); (try (first | have hbm := Grow.none (by assumption) hbn | have hbm := Grow.none (by assumption) hbn.2 | have hbm := Grow.none (by assumption) hbn.2.2 | have hbm := Grow.none (by assumption) hbn.2.2.2 | have hbm := Grow.none (by assumption) hbn.2.2.2.2 | have hbm := Grow.none (by assumption) hbn.2.2.2.2.2)); (try simp only [set_none'] at hbm)) | ((first | refine condS_i ?_ ?_ | refine pick_i ?_ ?_ | refine gS_it ?_ ?_ | refine gS_if ?_ ?_ | refine gP_it ?_ ?_ | refine gP_if ?_ ?_) <;> (intro hc; try simp only [Int.reduceLE,Int.reduceLT,Int.reduceEq,Sn] at hc)) | (with_reducible refine KP_i ?_ ?_; · (repeat' (first | exact Heap.Le.refl _ | (with_reducible refine Le_set2 ?_) | (refine Le_known (by first | (simp only [Heap.set_same, set_ne, ne_eq, not_false_eq_true, *] <;> rfl) | fail) ?_) | (refine Le_fresh (by first | (simp only [*] <;> done) | (simp [set_none', Heap.set_same, set_ne, noneH, *] <;> done) | fail) ?_) | (refine Heap.Le.trans ?_ (Grow.le (by assumption))) | exact Le_none | (refine Le_put ?_ (by first | (simp only [Heap.set_same, set_ne, ne_eq, not_false_eq_true, *] <;> rfl) | fail)) | fail))) | (with_reducible refine And.intro ?_ ?_)) <;> (try simp only [Sq,Sr,Sh,Si,Sl,Bu,Bb,Bd,Bc,Bw,Bn,Int.reduceAdd,Int.reduceSub,Int.reduceMul,Int.reduceTDiv,Int.reduceTMod,Int.reduceMod,Int.reduceDiv,Nat.reduceLT,Nat.reduceEqDiff,Sa,Sb,Sc,Sd,Se,Sf,Sg,Int.reduceLE,Int.reduceLT,Int.reduceToNat,Int.reduceNeg,Int.reduceEq,Nat.reduceLeDiff,Nat.reducePow,Int.reducePow,reduceIte,Nat.reduceSub,Nat.reduceAdd,Nat.reduceMul,putAt,ceq,List.replicate, *]))
          all_goals exact Fin_mk (by (repeat' (first | exact Heap.Le.refl _ | (with_reducible refine Le_set2 ?_) | (refine Le_known (by first | (simp only [Heap.set_same, set_ne, ne_eq, not_false_eq_true, *] <;> rfl) | fail) ?_) | (refine Le_fresh (by first | (simp only [*] <;> done) | (simp [set_none', Heap.set_same, set_ne, noneH, *] <;> done) | fail) ?_) | (refine Heap.Le.trans ?_ (Grow.le (by assumption))) | exact Le_none | (refine Le_put ?_ (by first | (simp only [Heap.set_same, set_ne, ne_eq, not_false_eq_true, *] <;> rfl) | fail)) | fail))) h
        · by_cases b4 : sideP z.w
          · have b5 : ¬ sideP z.h := by
              rcases hb with q | q | q | q | q
              · exact (b1 q).elim
              · exact (b2 q).elim
              · exact (b3 q).elim
              · exact (q b4).elim
              · exact q
            have cw := fun G K hk => cS z.w G K (fun _ => hk) (fun h => (h b4).elim)
            have ch := fun G K hk => cS z.h G K (fun h => (b5 h).elim) (fun _ => hk)
            clear hb cS b4 b5
            refine HL.hc k23 2000 ?_; unfold M23
            (all_goals (try simp only [Sq,Sr,Sh,Si,Sl,Bu,Bb,Bd,Bc,Bw,Bn,Int.reduceAdd,Int.reduceSub,Int.reduceMul,Int.reduceTDiv,Int.reduceTMod,Int.reduceMod,Int.reduceDiv,Nat.reduceLT,Nat.reduceEqDiff,Sa,Sb,Sc,Sd,Se,Sf,Sg,Int.reduceLE,Int.reduceLT,Int.reduceToNat,Int.reduceNeg,Int.reduceEq,Nat.reduceLeDiff,Nat.reducePow,Int.reducePow,reduceIte,Nat.reduceSub,Nat.reduceAdd,Nat.reduceMul,putAt,ceq,List.replicate, *])); repeat' ((first | (with_reducible refine fun _ : True => ?_) | refine cC _ _ (by (repeat' (first | exact Grow.refl _ | assumption | (refine Grow_known (by first | (simp only [Heap.set_same, set_ne, ne_eq, not_false_eq_true, *] <;> rfl) | fail) ?_) | (refine Grow.set ?_ (by assumption) (by first | (simp only [*] <;> done) | (simp [set_none', Heap.set_same, set_ne, noneH, *] <;> done) | fail)) | (refine Grow.trans ?_ (by assumption))))) ?_ | refine r_Size8 _ ?_ | refine cw _ _ ?_ | refine ch _ _ ?_ | (with_reducible refine any_h ?_) | ((first | refine AllocQ_i ?_ | refine AllocO_i ?_); intro bk hb0 hbk; (try simp only [set_none'] at hbk); (try (first | have hbn := Grow.none (by assumption) hbk | have hbn := Grow.none (by assumption) hbk.2 | have hbn := Grow.none (by assumption) hbk.2.2 | have hbn := Grow.none (by assumption) hbk.2.2.2 | have hbn := Grow.none (by assumption) hbk.2.2.2.2 | have hbn := Grow.none (by assumption) hbk.2.2.2.2.2)); (try simp only [set_none'] at hbn); (try (first | have hbm := Grow.none (by assumption) hbn | have hbm := Grow.none (by assumption) hbn.2 | have hbm := Grow.none (by assumption) hbn.2.2 | have hbm := Grow.none (by assumption) hbn.2.2.2 | have hbm := Grow.none (by assumption) hbn.2.2.2.2 | have hbm := Grow.none (by assumption) hbn.2.2.2.2.2)); (try simp only [set_none'] at hbm)) | ((first | refine condS_i ?_ ?_ | refine pick_i ?_ ?_ | refine gS_it ?_ ?_ | refine gS_if ?_ ?_ | refine gP_it ?_ ?_ | refine gP_if ?_ ?_) <;> (intro hc; try simp only [Int.reduceLE,Int.reduceLT,Int.reduceEq,Sn] at hc)) | (with_reducible refine KP_i ?_ ?_; · (repeat' (first | exact Heap.Le.refl _ | (with_reducible refine Le_set2 ?_) | (refine Le_known (by first | (simp only [Heap.set_same, set_ne, ne_eq, not_false_eq_true, *] <;> rfl) | fail) ?_) | (refine Le_fresh (by first | (simp only [*] <;> done) | (simp [set_none', Heap.set_same, set_ne, noneH, *] <;> done) | fail) ?_) | (refine Heap.Le.trans ?_ (Grow.le (by assumption))) | exact Le_none | (refine Le_put ?_ (by first | (simp only [Heap.set_same, set_ne, ne_eq, not_false_eq_true, *] <;> rfl) | fail)) | fail))) | (with_reducible refine And.intro ?_ ?_)) <;> (try simp only [Sq,Sr,Sh,Si,Sl,Bu,Bb,Bd,Bc,Bw,Bn,Int.reduceAdd,Int.reduceSub,Int.reduceMul,Int.reduceTDiv,Int.reduceTMod,Int.reduceMod,Int.reduceDiv,Nat.reduceLT,Nat.reduceEqDiff,Sa,Sb,Sc,Sd,Se,Sf,Sg,Int.reduceLE,Int.reduceLT,Int.reduceToNat,Int.reduceNeg,Int.reduceEq,Nat.reduceLeDiff,Nat.reducePow,Int.reducePow,reduceIte,Nat.reduceSub,Nat.reduceAdd,Nat.reduceMul,putAt,ceq,List.replicate, *]))
            all_goals exact Fin_mk (by (repeat' (first | exact Heap.Le.refl _ | (with_reducible refine Le_set2 ?_) | (refine Le_known (by first | (simp only [Heap.set_same, set_ne, ne_eq, not_false_eq_true, *] <;> rfl) | fail) ?_) | (refine Le_fresh (by first | (simp only [*] <;> done) | (simp [set_none', Heap.set_same, set_ne, noneH, *] <;> done) | fail) ?_) | (refine Heap.Le.trans ?_ (Grow.le (by assumption))) | exact Le_none | (refine Le_put ?_ (by first | (simp only [Heap.set_same, set_ne, ne_eq, not_false_eq_true, *] <;> rfl) | fail)) | fail))) h
          · have cw := fun G K hk => cS z.w G K (fun h => (b4 h).elim) (fun _ => hk)
            clear hb cS b4
            refine HL.hc k23 2000 ?_; unfold M23
            (all_goals (try simp only [Sq,Sr,Sh,Si,Sl,Bu,Bb,Bd,Bc,Bw,Bn,Int.reduceAdd,Int.reduceSub,Int.reduceMul,Int.reduceTDiv,Int.reduceTMod,Int.reduceMod,Int.reduceDiv,Nat.reduceLT,Nat.reduceEqDiff,Sa,Sb,Sc,Sd,Se,Sf,Sg,Int.reduceLE,Int.reduceLT,Int.reduceToNat,Int.reduceNeg,Int.reduceEq,Nat.reduceLeDiff,Nat.reducePow,Int.reducePow,reduceIte,Nat.reduceSub,Nat.reduceAdd,Nat.reduceMul,putAt,ceq,List.replicate, *])); repeat' ((first | (with_reducible refine fun _ : True => ?_) | refine cC _ _ (by (repeat' (first | exact Grow.refl _ | assumption | (refine Grow_known (by first | (simp only [Heap.set_same, set_ne, ne_eq, not_false_eq_true, *] <;> rfl) | fail) ?_) | (refine Grow.set ?_ (by assumption) (by first | (simp only [*] <;> done) | (simp [set_none', Heap.set_same, set_ne, noneH, *] <;> done) | fail)) | (refine Grow.trans ?_ (by assumption))))) ?_ | refine r_Size8 _ ?_ | refine cw _ _ ?_ | (with_reducible refine any_h ?_) | ((first | refine AllocQ_i ?_ | refine AllocO_i ?_); intro bk hb0 hbk; (try simp only [set_none'] at hbk); (try (first | have hbn := Grow.none (by assumption) hbk | have hbn := Grow.none (by assumption) hbk.2 | have hbn := Grow.none (by assumption) hbk.2.2 | have hbn := Grow.none (by assumption) hbk.2.2.2 | have hbn := Grow.none (by assumption) hbk.2.2.2.2 | have hbn := Grow.none (by assumption) hbk.2.2.2.2.2)); (try simp only [set_none'] at hbn); (try (first | have hbm := Grow.none (by assumption) hbn | have hbm := Grow.none (by assumption) hbn.2 | have hbm := Grow.none (by assumption) hbn.2.2 | have hbm := Grow.none (by assumption) hbn.2.2.2 | have hbm := Grow.none (by assumption) hbn.2.2.2.2 | have hbm := Grow.none (by assumption) hbn.2.2.2.2.2)); (try simp only [set_none'] at hbm)) | ((first | refine condS_i ?_ ?_ | refine pick_i ?_ ?_ | refine gS_it ?_ ?_ | refine gS_if ?_ ?_ | refine gP_it ?_ ?_ | refine gP_if ?_ ?_) <;> (intro hc; try simp only [Int.reduceLE,Int.reduceLT,Int.reduceEq,Sn] at hc)) | (with_reducible refine KP_i ?_ ?_; · (repeat' (first | exact Heap.Le.refl _ | (with_reducible refine Le_set2 ?_) | (refine Le_known (by first | (simp only [Heap.set_same, set_ne, ne_eq, not_false_eq_true, *] <;> rfl) | fail) ?_) | (refine Le_fresh (by first | (simp only [*] <;> done) | (simp [set_none', Heap.set_same, set_ne, noneH, *] <;> done) | fail) ?_) | (refine Heap.Le.trans ?_ (Grow.le (by assumption))) | exact Le_none | (refine Le_put ?_ (by first | (simp only [Heap.set_same, set_ne, ne_eq, not_false_eq_true, *] <;> rfl) | fail)) | fail))) | (with_reducible refine And.intro ?_ ?_)) <;> (try simp only [Sq,Sr,Sh,Si,Sl,Bu,Bb,Bd,Bc,Bw,Bn,Int.reduceAdd,Int.reduceSub,Int.reduceMul,Int.reduceTDiv,Int.reduceTMod,Int.reduceMod,Int.reduceDiv,Nat.reduceLT,Nat.reduceEqDiff,Sa,Sb,Sc,Sd,Se,Sf,Sg,Int.reduceLE,Int.reduceLT,Int.reduceToNat,Int.reduceNeg,Int.reduceEq,Nat.reduceLeDiff,Nat.reducePow,Int.reducePow,reduceIte,Nat.reduceSub,Nat.reduceAdd,Nat.reduceMul,putAt,ceq,List.replicate, *]))
            all_goals exact Fin_mk (by (repeat' (first | exact Heap.Le.refl _ | (with_reducible refine Le_set2 ?_) | (refine Le_known (by first | (simp only [Heap.set_same, set_ne, ne_eq, not_false_eq_true, *] <;> rfl) | fail) ?_) | (refine Le_fresh (by first | (simp only [*] <;> done) | (simp [set_none', Heap.set_same, set_ne, noneH, *] <;> done) | fail) ?_) | (refine Heap.Le.trans ?_ (Grow.le (by assumption))) | exact Le_none | (refine Le_put ?_ (by first | (simp only [Heap.set_same, set_ne, ne_eq, not_false_eq_true, *] <;> rfl) | fail)) | fail))) h
  | len hr hb hl =>
    have cC : ∀ (G : Heap) (K : Value → Heap → Prop), Grow w0 H G → K (.bool true) G → HCalls Try.prog w0 29 [x.v] G K := fun G K g hk => r_Right8 x (hx.grow g) (by rw [decide_eq_true hr]; exact hk)
    have b1 : ¬ lv < 0 := fun q => hb (.inl q)
    have b2 : ¬ 7 ≤ lv := fun q => hb (.inr (.inl q))
    have b3 : ¬ sizeI f = 0 := fun q => hb (.inr (.inr (.inl q)))
    have b4 : sideP z.w := Classical.byContradiction fun q => hb (.inr (.inr (.inr (.inl q))))
    have b5 : sideP z.h := Classical.byContradiction fun q => hb (.inr (.inr (.inr (.inr q))))
    have cw : ∀ (G : Heap) (K : Value → Heap → Prop), K (.bool true) G → HCalls Try.prog w0 53 [.int .i64 z.w] G K := fun G K hk => r_side z.w (by rw [decide_eq_true b4]; exact hk)
    have ch : ∀ (G : Heap) (K : Value → Heap → Prop), K (.bool true) G → HCalls Try.prog w0 53 [.int .i64 z.h] G K := fun G K hk => r_side z.h (by rw [decide_eq_true b5]; exact hk)
    obtain ⟨a1, a2⟩ := area b4 b5 (sizeI_le f)
    have q0 : 0 < (z.l.length : Int) := by have := hl.1; omega
    have q1 : ¬ (z.l.length : Int) = z.w * z.h * sizeI f := hl.2
    have q2 : ¬ (z.l.length : Int) = 0 := by omega
    clear hr hx hb hl b4 b5
    unfold Im.v at cC ⊢
    refine HL.hc k23 2000 ?_; unfold M23
    (all_goals (try simp only [Sq,Sr,Sh,Si,Sl,Bu,Bb,Bd,Bc,Bw,Bn,Int.reduceAdd,Int.reduceSub,Int.reduceMul,Int.reduceTDiv,Int.reduceTMod,Int.reduceMod,Int.reduceDiv,Nat.reduceLT,Nat.reduceEqDiff,Sa,Sb,Sc,Sd,Se,Sf,Sg,Int.reduceLE,Int.reduceLT,Int.reduceToNat,Int.reduceNeg,Int.reduceEq,Nat.reduceLeDiff,Nat.reducePow,Int.reducePow,reduceIte,Nat.reduceSub,Nat.reduceAdd,Nat.reduceMul,putAt,ceq,List.replicate, *])); repeat' ((first | (with_reducible refine fun _ : True => ?_) | refine cC _ _ (by (repeat' (first | exact Grow.refl _ | assumption | (refine Grow_known (by first | (simp only [Heap.set_same, set_ne, ne_eq, not_false_eq_true, *] <;> rfl) | fail) ?_) | (refine Grow.set ?_ (by assumption) (by first | (simp only [*] <;> done) | (simp [set_none', Heap.set_same, set_ne, noneH, *] <;> done) | fail)) | (refine Grow.trans ?_ (by assumption))))) ?_ | refine r_Size8 _ ?_ | refine cw _ _ ?_ | refine ch _ _ ?_ | (with_reducible refine any_h ?_) | ((first | refine AllocQ_i ?_ | refine AllocO_i ?_); intro bk hb0 hbk; (try simp only [set_none'] at hbk); (try (first | have hbn := Grow.none (by assumption) hbk | have hbn := Grow.none (by assumption) hbk.2 | have hbn := Grow.none (by assumption) hbk.2.2 | have hbn := Grow.none (by assumption) hbk.2.2.2 | have hbn := Grow.none (by assumption) hbk.2.2.2.2 | have hbn := Grow.none (by assumption) hbk.2.2.2.2.2)); (try simp only [set_none'] at hbn); (try (first | have hbm := Grow.none (by assumption) hbn | have hbm := Grow.none (by assumption) hbn.2 | have hbm := Grow.none (by assumption) hbn.2.2 | have hbm := Grow.none (by assumption) hbn.2.2.2 | have hbm := Grow.none (by assumption) hbn.2.2.2.2 | have hbm := Grow.none (by assumption) hbn.2.2.2.2.2)); (try simp only [set_none'] at hbm)) | ((first | refine condS_i ?_ ?_ | refine pick_i ?_ ?_ | refine gS_it ?_ ?_ | refine gS_if ?_ ?_ | refine gP_it ?_ ?_ | refine gP_if ?_ ?_) <;> (intro hc; try simp only [Int.reduceLE,Int.reduceLT,Int.reduceEq,Sn] at hc)) | (with_reducible refine KP_i ?_ ?_; · (repeat' (first | exact Heap.Le.refl _ | (with_reducible refine Le_set2 ?_) | (refine Le_known (by first | (simp only [Heap.set_same, set_ne, ne_eq, not_false_eq_true, *] <;> rfl) | fail) ?_) | (refine Le_fresh (by first | (simp only [*] <;> done) | (simp [set_none', Heap.set_same, set_ne, noneH, *] <;> done) | fail) ?_) | (refine Heap.Le.trans ?_ (Grow.le (by assumption))) | exact Le_none | (refine Le_put ?_ (by first | (simp only [Heap.set_same, set_ne, ne_eq, not_false_eq_true, *] <;> rfl) | fail)) | fail))) | (with_reducible refine And.intro ?_ ?_)) <;> (try simp only [Sq,Sr,Sh,Si,Sl,Bu,Bb,Bd,Bc,Bw,Bn,Int.reduceAdd,Int.reduceSub,Int.reduceMul,Int.reduceTDiv,Int.reduceTMod,Int.reduceMod,Int.reduceDiv,Nat.reduceLT,Nat.reduceEqDiff,Sa,Sb,Sc,Sd,Se,Sf,Sg,Int.reduceLE,Int.reduceLT,Int.reduceToNat,Int.reduceNeg,Int.reduceEq,Nat.reduceLeDiff,Nat.reducePow,Int.reducePow,reduceIte,Nat.reduceSub,Nat.reduceAdd,Nat.reduceMul,putAt,ceq,List.replicate, *]))
    all_goals exact Fin_mk (by (repeat' (first | exact Heap.Le.refl _ | (with_reducible refine Le_set2 ?_) | (refine Le_known (by first | (simp only [Heap.set_same, set_ne, ne_eq, not_false_eq_true, *] <;> rfl) | fail) ?_) | (refine Le_fresh (by first | (simp only [*] <;> done) | (simp [set_none', Heap.set_same, set_ne, noneH, *] <;> done) | fail) ?_) | (refine Heap.Le.trans ?_ (Grow.le (by assumption))) | exact Le_none | (refine Le_put ?_ (by first | (simp only [Heap.set_same, set_ne, ne_eq, not_false_eq_true, *] <;> rfl) | fail)) | fail))) h
  | fmt hr hb hl hf =>
    have cC : ∀ (G : Heap) (K : Value → Heap → Prop), Grow w0 H G → K (.bool true) G → HCalls Try.prog w0 29 [x.v] G K := fun G K g hk => r_Right8 x (hx.grow g) (by rw [decide_eq_true hr]; exact hk)
    have b1 : ¬ lv < 0 := fun q => hb (.inl q)
    have b2 : ¬ 7 ≤ lv := fun q => hb (.inr (.inl q))
    have b3 : ¬ sizeI f = 0 := fun q => hb (.inr (.inr (.inl q)))
    have b4 : sideP z.w := Classical.byContradiction fun q => hb (.inr (.inr (.inr (.inl q))))
    have b5 : sideP z.h := Classical.byContradiction fun q => hb (.inr (.inr (.inr (.inr q))))
    have cw : ∀ (G : Heap) (K : Value → Heap → Prop), K (.bool true) G → HCalls Try.prog w0 53 [.int .i64 z.w] G K := fun G K hk => r_side z.w (by rw [decide_eq_true b4]; exact hk)
    have ch : ∀ (G : Heap) (K : Value → Heap → Prop), K (.bool true) G → HCalls Try.prog w0 53 [.int .i64 z.h] G K := fun G K hk => r_side z.h (by rw [decide_eq_true b5]; exact hk)
    obtain ⟨a1, a2⟩ := area b4 b5 (sizeI_le f)
    obtain ⟨f1, f2, f3⟩ := hf
    have f2' : 0 < (x.ls.length : Int) := by omega
    have f4 : ¬ x.f = f := fun q => f3 q.symm
    have f5 : ¬ lv = 0 := by omega
    unfold lenBad at hl
    clear hr hx hb b4 b5
    unfold Im.v at cC ⊢
    by_cases q2 : z.l.length = 0
    · have q0 : ¬ 0 < (z.l.length : Int) := by omega
      have q2' : (z.l.length : Int) = 0 := by omega
      clear hl q2
      refine HL.hc k23 2000 ?_; unfold M23
      (all_goals (try simp only [Sq,Sr,Sh,Si,Sl,Bu,Bb,Bd,Bc,Bw,Bn,Int.reduceAdd,Int.reduceSub,Int.reduceMul,Int.reduceTDiv,Int.reduceTMod,Int.reduceMod,Int.reduceDiv,Nat.reduceLT,Nat.reduceEqDiff,Sa,Sb,Sc,Sd,Se,Sf,Sg,Int.reduceLE,Int.reduceLT,Int.reduceToNat,Int.reduceNeg,Int.reduceEq,Nat.reduceLeDiff,Nat.reducePow,Int.reducePow,reduceIte,Nat.reduceSub,Nat.reduceAdd,Nat.reduceMul,putAt,ceq,List.replicate, *])); repeat' ((first | (with_reducible refine fun _ : True => ?_) | refine cC _ _ (by (repeat' (first | exact Grow.refl _ | assumption | (refine Grow_known (by first | (simp only [Heap.set_same, set_ne, ne_eq, not_false_eq_true, *] <;> rfl) | fail) ?_) | (refine Grow.set ?_ (by assumption) (by first | (simp only [*] <;> done) | (simp [set_none', Heap.set_same, set_ne, noneH, *] <;> done) | fail)) | (refine Grow.trans ?_ (by assumption))))) ?_ | refine r_Size8 _ ?_ | refine cw _ _ ?_ | refine ch _ _ ?_ | (with_reducible refine any_h ?_) | ((first | refine AllocQ_i ?_ | refine AllocO_i ?_); intro bk hb0 hbk; (try simp only [set_none'] at hbk); (try (first | have hbn := Grow.none (by assumption) hbk | have hbn := Grow.none (by assumption) hbk.2 | have hbn := Grow.none (by assumption) hbk.2.2 | have hbn := Grow.none (by assumption) hbk.2.2.2 | have hbn := Grow.none (by assumption) hbk.2.2.2.2 | have hbn := Grow.none (by assumption) hbk.2.2.2.2.2)); (try simp only [set_none'] at hbn); (try (first | have hbm := Grow.none (by assumption) hbn | have hbm := Grow.none (by assumption) hbn.2 | have hbm := Grow.none (by assumption) hbn.2.2 | have hbm := Grow.none (by assumption) hbn.2.2.2 | have hbm := Grow.none (by assumption) hbn.2.2.2.2 | have hbm := Grow.none (by assumption) hbn.2.2.2.2.2)); (try simp only [set_none'] at hbm)) | ((first | refine condS_i ?_ ?_ | refine pick_i ?_ ?_ | refine gS_it ?_ ?_ | refine gS_if ?_ ?_ | refine gP_it ?_ ?_ | refine gP_if ?_ ?_) <;> (intro hc; try simp only [Int.reduceLE,Int.reduceLT,Int.reduceEq,Sn] at hc)) | (with_reducible refine KP_i ?_ ?_; · (repeat' (first | exact Heap.Le.refl _ | (with_reducible refine Le_set2 ?_) | (refine Le_known (by first | (simp only [Heap.set_same, set_ne, ne_eq, not_false_eq_true, *] <;> rfl) | fail) ?_) | (refine Le_fresh (by first | (simp only [*] <;> done) | (simp [set_none', Heap.set_same, set_ne, noneH, *] <;> done) | fail) ?_) | (refine Heap.Le.trans ?_ (Grow.le (by assumption))) | exact Le_none | (refine Le_put ?_ (by first | (simp only [Heap.set_same, set_ne, ne_eq, not_false_eq_true, *] <;> rfl) | fail)) | fail))) | (with_reducible refine And.intro ?_ ?_)) <;> (try simp only [Sq,Sr,Sh,Si,Sl,Bu,Bb,Bd,Bc,Bw,Bn,Int.reduceAdd,Int.reduceSub,Int.reduceMul,Int.reduceTDiv,Int.reduceTMod,Int.reduceMod,Int.reduceDiv,Nat.reduceLT,Nat.reduceEqDiff,Sa,Sb,Sc,Sd,Se,Sf,Sg,Int.reduceLE,Int.reduceLT,Int.reduceToNat,Int.reduceNeg,Int.reduceEq,Nat.reduceLeDiff,Nat.reducePow,Int.reducePow,reduceIte,Nat.reduceSub,Nat.reduceAdd,Nat.reduceMul,putAt,ceq,List.replicate, *]))
      all_goals exact Fin_mk (by (repeat' (first | exact Heap.Le.refl _ | (with_reducible refine Le_set2 ?_) | (refine Le_known (by first | (simp only [Heap.set_same, set_ne, ne_eq, not_false_eq_true, *] <;> rfl) | fail) ?_) | (refine Le_fresh (by first | (simp only [*] <;> done) | (simp [set_none', Heap.set_same, set_ne, noneH, *] <;> done) | fail) ?_) | (refine Heap.Le.trans ?_ (Grow.le (by assumption))) | exact Le_none | (refine Le_put ?_ (by first | (simp only [Heap.set_same, set_ne, ne_eq, not_false_eq_true, *] <;> rfl) | fail)) | fail))) h
    · have q0 : 0 < (z.l.length : Int) := by omega
      have q2' : ¬ (z.l.length : Int) = 0 := by omega
      have q1 : z.w * z.h * sizeI f = (z.l.length : Int) := Classical.byContradiction fun q => hl ⟨q2, fun e => q e.symm⟩
      clear hl q2
      rw [q1] at a2
      refine HL.hc k23 2000 ?_; unfold M23
      (all_goals (try simp only [Sq,Sr,Sh,Si,Sl,Bu,Bb,Bd,Bc,Bw,Bn,Int.reduceAdd,Int.reduceSub,Int.reduceMul,Int.reduceTDiv,Int.reduceTMod,Int.reduceMod,Int.reduceDiv,Nat.reduceLT,Nat.reduceEqDiff,Sa,Sb,Sc,Sd,Se,Sf,Sg,Int.reduceLE,Int.reduceLT,Int.reduceToNat,Int.reduceNeg,Int.reduceEq,Nat.reduceLeDiff,Nat.reducePow,Int.reducePow,reduceIte,Nat.reduceSub,Nat.reduceAdd,Nat.reduceMul,putAt,ceq,List.replicate, *])); repeat' ((first | (with_reducible refine fun _ : True => ?_) | refine cC _ _ (by (repeat' (first | exact Grow.refl _ | assumption | (refine Grow_known (by first | (simp only [Heap.set_same, set_ne, ne_eq, not_false_eq_true, *] <;> rfl) | fail) ?_) | (refine Grow.set ?_ (by assumption) (by first | (simp only [*] <;> done) | (simp [set_none', Heap.set_same, set_ne, noneH, *] <;> done) | fail)) | (refine Grow.trans ?_ (by assumption))))) ?_ | refine r_Size8 _ ?_ | refine cw _ _ ?_ | refine ch _ _ ?_ | (with_reducible refine any_h ?_) | ((first | refine AllocQ_i ?_ | refine AllocO_i ?_); intro bk hb0 hbk; (try simp only [set_none'] at hbk); (try (first | have hbn := Grow.none (by assumption) hbk | have hbn := Grow.none (by assumption) hbk.2 | have hbn := Grow.none (by assumption) hbk.2.2 | have hbn := Grow.none (by assumption) hbk.2.2.2 | have hbn := Grow.none (by assumption) hbk.2.2.2.2 | have hbn := Grow.none (by assumption) hbk.2.2.2.2.2)); (try simp only [set_none'] at hbn); (try (first | have hbm := Grow.none (by assumption) hbn | have hbm := Grow.none (by assumption) hbn.2 | have hbm := Grow.none (by assumption) hbn.2.2 | have hbm := Grow.none (by assumption) hbn.2.2.2 | have hbm := Grow.none (by assumption) hbn.2.2.2.2 | have hbm := Grow.none (by assumption) hbn.2.2.2.2.2)); (try simp only [set_none'] at hbm)) | ((first | refine condS_i ?_ ?_ | refine pick_i ?_ ?_ | refine gS_it ?_ ?_ | refine gS_if ?_ ?_ | refine gP_it ?_ ?_ | refine gP_if ?_ ?_) <;> (intro hc; try simp only [Int.reduceLE,Int.reduceLT,Int.reduceEq,Sn] at hc)) | (with_reducible refine KP_i ?_ ?_; · (repeat' (first | exact Heap.Le.refl _ | (with_reducible refine Le_set2 ?_) | (refine Le_known (by first | (simp only [Heap.set_same, set_ne, ne_eq, not_false_eq_true, *] <;> rfl) | fail) ?_) | (refine Le_fresh (by first | (simp only [*] <;> done) | (simp [set_none', Heap.set_same, set_ne, noneH, *] <;> done) | fail) ?_) | (refine Heap.Le.trans ?_ (Grow.le (by assumption))) | exact Le_none | (refine Le_put ?_ (by first | (simp only [Heap.set_same, set_ne, ne_eq, not_false_eq_true, *] <;> rfl) | fail)) | fail))) | (with_reducible refine And.intro ?_ ?_)) <;> (try simp only [Sq,Sr,Sh,Si,Sl,Bu,Bb,Bd,Bc,Bw,Bn,Int.reduceAdd,Int.reduceSub,Int.reduceMul,Int.reduceTDiv,Int.reduceTMod,Int.reduceMod,Int.reduceDiv,Nat.reduceLT,Nat.reduceEqDiff,Sa,Sb,Sc,Sd,Se,Sf,Sg,Int.reduceLE,Int.reduceLT,Int.reduceToNat,Int.reduceNeg,Int.reduceEq,Nat.reduceLeDiff,Nat.reducePow,Int.reducePow,reduceIte,Nat.reduceSub,Nat.reduceAdd,Nat.reduceMul,putAt,ceq,List.replicate, *]))
      all_goals exact Fin_mk (by (repeat' (first | exact Heap.Le.refl _ | (with_reducible refine Le_set2 ?_) | (refine Le_known (by first | (simp only [Heap.set_same, set_ne, ne_eq, not_false_eq_true, *] <;> rfl) | fail) ?_) | (refine Le_fresh (by first | (simp only [*] <;> done) | (simp [set_none', Heap.set_same, set_ne, noneH, *] <;> done) | fail) ?_) | (refine Heap.Le.trans ?_ (Grow.le (by assumption))) | exact Le_none | (refine Le_put ?_ (by first | (simp only [Heap.set_same, set_ne, ne_eq, not_false_eq_true, *] <;> rfl) | fail)) | fail))) h
end Go.Proofs.Ytdaipgnhconfnaa
