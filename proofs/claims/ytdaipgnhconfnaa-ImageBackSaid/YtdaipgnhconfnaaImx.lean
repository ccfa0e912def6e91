/- Which images are complete, by both (layer 8). -/
import Derived.Test.YtdaipgnhconfnaaImw
set_option linter.unusedSimpArgs false
set_option linter.unusedVariables false
set_option maxRecDepth 100000
set_option maxHeartbeats 4000000
namespace Go.Proofs.Ytdaipgnhconfnaa
open Go.HL Go.RowKit Pb
variable {w0 : World} {H : Heap} {K : Value → Heap → Prop}

/-- A side of the level k, of a side of the first one. -/
def lvS (w : Int) (k : Nat) : Int := if w.fdiv (2 ^ k) < 1 then 1 else w.fdiv (2 ^ k)
def Im.mip (x : Im) : Prop := x.mn = 3 ∨ x.mn = 4
def Im.lvls (x : Im) (y : LvR) : Prop := ∀ k : Nat, (k : Int) < cntI y.w y.h → ∃ z, x.ls[k]? = some z ∧ z.w = lvS y.w k ∧ z.h = lvS y.h k
def Im.compl (x : Im) : Prop := x.right ∧ ∃ y, x.ls[0]? = some y ∧ ¬ y.nil ∧
  ((powP y.w ∧ powP y.h ∧ (x.mip → x.lvls y)) ∨ (¬ (powP y.w ∧ powP y.h) ∧ x.s = 2 ∧ x.t = 2 ∧ ¬ x.mip))
theorem cntI_le {w h : Int} (hw : sideP w) (hh : sideP h) : 1 ≤ cntI w h ∧ cntI w h ≤ 7 := by
  unfold cntI sideP at *
  rw [if_pos (by omega)]
  have := lg_le (s := if w < h then h else w)
  omega
theorem lvS_zero {w : Int} (hw : sideP w) : lvS w 0 = w := by
  unfold lvS sideP at *
  rw [show w.fdiv (2 ^ 0) = w by rw [Int.fdiv_eq_ediv_of_nonneg _ (by decide)]; omega, if_neg (by omega)]
/-- What is known of the first level, where it is there. -/
structure Fst (W : World) (H : Heap) (x : Im) (y : LvR) : Prop where
  right : x.right
  get : x.ls[0]? = some y
  nn : ¬ y.nil
  w : sideP y.w
  h : sideP y.h
  pos : 0 < x.ls.length
  le : x.ls.length ≤ 7
theorem fst_of {x : Im} (hr : x.right) {y : LvR} (h : x.ls[0]? = some y) (hn : ¬ y.nil) : Fst w0 H x y := by
  have hp := (List.getElem?_eq_some_iff.1 h).1
  rcases hr.2.2.2.1 y (List.mem_of_getElem? h) with h' | ⟨h1, h2, h3⟩
  · exact (hn h').elim
  · exact ⟨hr, h, hn, h1, h2, hp, hr.1⟩
theorem Fst.compl {x : Im} {y : LvR} (F : Fst w0 H x y) : x.compl ↔ ((powP y.w ∧ powP y.h ∧ (x.mip → x.lvls y)) ∨ (¬ (powP y.w ∧ powP y.h) ∧ x.s = 2 ∧ x.t = 2 ∧ ¬ x.mip)) := by
  constructor
  · rintro ⟨-, z, hz, -, h⟩
    rw [F.get] at hz
    cases hz
    exact h
  · exact fun h => ⟨F.right, y, F.get, F.nn, h⟩
theorem compl_not {x : Im} (h : ¬ x.right ∨ x.ls.length = 0 ∨ ∃ y, x.ls[0]? = some y ∧ y.nil) : ¬ x.compl := by
  rintro ⟨hr, y, hy, hn, -⟩
  rcases h with h | h | ⟨z, hz, h⟩
  · exact h hr
  · have := (List.getElem?_eq_some_iff.1 hy).1; omega
  · rw [hy] at hz; cases hz; exact hn h
theorem at0 {b o : Nat} {x : Im} (hx : ImOk w0 H x) {y : LvR} (h : x.ls[0]? = some y) : ∃ b o, x.a = some ⟨b, o, none⟩ ∧ rdn w0 H b o 3 = some [.int .i64 y.w, .int .i64 y.h, .slice y.a y.l.length y.cap] ∧ (∀ c, w0.heap.size ≤ c → H c = none → c ≠ b) := by
  obtain ⟨b, o, e, h1, h2⟩ := im_row hx h
  exact ⟨b, o, e, by simpa using h1, h2⟩
/- image Complete -/
def M30 : MC :=
  .seq (.reg [⟨(some 1), .box 24 (.tmp 0), none⟩,
 ⟨(some 2), .mv (.const (.bool false)), none⟩])
 (.seq (.seq (.reg [⟨(some 9), .ldn 6 (.tmp 1), none⟩,
 ⟨(some 10), .call 19 [(.tmp 9)], none⟩,
 ⟨(some 11), .bin .neq (.tmp 10) (.const (.int .i64 0)), none⟩,
 ⟨(some 12), .mv (.tmp 11), none⟩,
 ⟨(some 13), .fa 1 (.tmp 1), (some (12, false))⟩,
 ⟨(some 14), .ld1 (.tmp 13), (some (12, false))⟩,
 ⟨(some 15), .len (.tmp 14), (some (12, false))⟩,
 ⟨(some 16), .bin .eql (.tmp 15) (.const (.int .i64 0)), (some (12, false))⟩,
 ⟨(some 17), .pick (.tmp 12) (.const (.bool true)) (.tmp 16), none⟩,
 ⟨(some 18), .mv (.tmp 17), none⟩,
 ⟨(some 19), .fa 1 (.tmp 1), (some (18, false))⟩,
 ⟨(some 20), .ld1 (.tmp 19), (some (18, false))⟩,
 ⟨(some 21), .is 3 (.tmp 20) (.const (.int .i64 0)), (some (18, false))⟩,
 ⟨(some 22), .ldn 3 (.tmp 21), (some (18, false))⟩,
 ⟨(some 23), .call 39 [(.tmp 22)], (some (18, false))⟩,
 ⟨(some 24), .pick (.tmp 18) (.const (.bool true)) (.tmp 23), none⟩])
 (.cond (.tmp 24)
 (.seq (.reg [⟨(some 2), .mv (.const (.bool false)), none⟩])
 (.ret))
 (.skip)))
 (.seq (.any [(true, 0, [], ⟨(some 25), .fa 1 (.tmp 1), none⟩),
 (true, 1, [], ⟨(some 26), .ld1 (.tmp 25), none⟩),
 (true, 2, [], ⟨(some 27), .is 3 (.tmp 26) (.const (.int .i64 0)), none⟩),
 (true, 3, [], ⟨(some 28), .fa 0 (.tmp 27), none⟩),
 (true, 4, [], ⟨(some 29), .ld1 (.tmp 28), none⟩),
 (true, 5, [], ⟨(some 30), .fa 1 (.tmp 1), none⟩),
 (true, 6, [], ⟨(some 31), .ld1 (.tmp 30), none⟩),
 (true, 7, [], ⟨(some 32), .is 3 (.tmp 31) (.const (.int .i64 0)), none⟩),
 (true, 8, [], ⟨(some 33), .fa 1 (.tmp 32), none⟩),
 (true, 9, [], ⟨(some 34), .ld1 (.tmp 33), none⟩),
 (false, 10, [5, 6, 7, 8, 9], ⟨(some 3), .mv (.tmp 29), none⟩),
 (false, 11, [], ⟨(some 4), .mv (.tmp 34), none⟩)])
 (.seq (.reg [⟨(some 35), .fa 4 (.tmp 1), none⟩,
 ⟨(some 36), .ld1 (.tmp 35), none⟩,
 ⟨(some 37), .bin .eql (.tmp 36) (.const (.int .i64 3)), none⟩,
 ⟨(some 38), .mv (.tmp 37), none⟩,
 ⟨(some 39), .fa 4 (.tmp 1), (some (38, false))⟩,
 ⟨(some 40), .ld1 (.tmp 39), (some (38, false))⟩,
 ⟨(some 41), .bin .eql (.tmp 40) (.const (.int .i64 4)), (some (38, false))⟩,
 ⟨(some 42), .pick (.tmp 38) (.const (.bool true)) (.tmp 41), none⟩,
 ⟨(some 5), .mv (.tmp 42), none⟩])
 (.seq (.seq (.reg [⟨(some 43), .mv (.tmp 3), none⟩,
 ⟨(some 44), .call 40 [(.tmp 43)], none⟩,
 ⟨(some 45), .un .not (.tmp 44), none⟩,
 ⟨(some 46), .mv (.tmp 45), none⟩,
 ⟨(some 47), .mv (.tmp 4), (some (46, false))⟩,
 ⟨(some 48), .call 40 [(.tmp 47)], (some (46, false))⟩,
 ⟨(some 49), .un .not (.tmp 48), (some (46, false))⟩,
 ⟨(some 50), .pick (.tmp 46) (.const (.bool true)) (.tmp 49), none⟩])
 (.cond (.tmp 50)
 (.seq (.reg [⟨(some 51), .fa 2 (.tmp 1), none⟩,
 ⟨(some 52), .ld1 (.tmp 51), none⟩,
 ⟨(some 53), .bin .eql (.tmp 52) (.const (.int .i64 2)), none⟩,
 ⟨(some 54), .mv (.tmp 53), none⟩,
 ⟨(some 55), .fa 3 (.tmp 1), (some (54, true))⟩,
 ⟨(some 56), .ld1 (.tmp 55), (some (54, true))⟩,
 ⟨(some 57), .bin .eql (.tmp 56) (.const (.int .i64 2)), (some (54, true))⟩,
 ⟨(some 58), .pick (.tmp 54) (.tmp 57) (.const (.bool false)), none⟩,
 ⟨(some 59), .mv (.tmp 58), none⟩,
 ⟨(some 60), .mv (.tmp 5), (some (59, true))⟩,
 ⟨(some 61), .un .not (.tmp 60), (some (59, true))⟩,
 ⟨(some 62), .pick (.tmp 59) (.tmp 61) (.const (.bool false)), none⟩,
 ⟨(some 2), .mv (.tmp 62), none⟩])
 (.ret))
 (.skip)))
 (.seq (.seq (.reg [⟨(some 63), .mv (.tmp 5), none⟩,
 ⟨(some 64), .un .not (.tmp 63), none⟩])
 (.cond (.tmp 64)
 (.seq (.reg [⟨(some 2), .mv (.const (.bool true)), none⟩])
 (.ret))
 (.skip)))
 (.seq (.reg [⟨(some 65), .mv (.tmp 3), none⟩,
 ⟨(some 66), .mv (.tmp 4), none⟩,
 ⟨(some 67), .call 20 [(.tmp 65), (.tmp 66)], none⟩,
 ⟨(some 6), .mv (.tmp 67), none⟩])
 (.seq (.seq (.reg [⟨(some 68), .fa 1 (.tmp 1), none⟩,
 ⟨(some 69), .ld1 (.tmp 68), none⟩,
 ⟨(some 70), .len (.tmp 69), none⟩,
 ⟨(some 71), .mv (.tmp 6), none⟩,
 ⟨(some 72), .bin .lss (.tmp 70) (.tmp 71), none⟩])
 (.cond (.tmp 72)
 (.seq (.reg [⟨(some 2), .mv (.const (.bool false)), none⟩])
 (.ret))
 (.skip)))
 (.seq (.seq (.reg [⟨(some 73), .fa 1 (.tmp 1), none⟩,
 ⟨(some 74), .ld1 (.tmp 73), none⟩,
 ⟨(some 75), .mv (.tmp 6), none⟩,
 ⟨(some 76), .slc 3 (.tmp 74) none (some (.tmp 75)), none⟩,
 ⟨(some 77), .len (.tmp 76), none⟩,
 ⟨(some 78), .mv (.const (.int .i64 0)), none⟩])
 (.block 0 (.loop (.seq (.reg [⟨(some 79), .bin .lss (.tmp 78) (.tmp 77), none⟩])
 (.seq (.cond (.tmp 79)
 (.skip)
 (.exit 0))
 (.seq (.block 1 (.seq (.reg [⟨(some 80), .mv (.tmp 78), none⟩,
 ⟨(some 81), .is 3 (.tmp 76) (.tmp 78), none⟩,
 ⟨(some 82), .ldn 3 (.tmp 81), none⟩,
 ⟨(some 8), .alloc 38 [(.int .i64 0), (.int .i64 0), (.slice none 0 0)], none⟩,
 ⟨(some 7), .mv (.tmp 80), none⟩,
 ⟨none, .stn 3 (.tmp 8) (.tmp 82), none⟩])
 (.seq (.any [(true, 0, [], ⟨(some 83), .fa 0 (.tmp 8), none⟩),
 (true, 1, [], ⟨(some 84), .ld1 (.tmp 83), none⟩),
 (true, 2, [], ⟨(some 85), .mv (.tmp 3), none⟩),
 (false, 3, [0, 1, 2, 8, 9, 10], ⟨(some 86), .mv (.tmp 7), none⟩),
 (false, 4, [0, 1, 8, 9, 10], ⟨(some 87), .bin .shr (.tmp 85) (.tmp 86), none⟩),
 (false, 5, [0, 1, 8, 9, 10], ⟨(some 88), .mx (.tmp 87) (.const (.int .i64 1)), none⟩),
 (false, 6, [8, 9, 10], ⟨(some 89), .bin .neq (.tmp 84) (.tmp 88), none⟩),
 (false, 7, [8, 9, 10], ⟨(some 90), .mv (.tmp 89), none⟩),
 (true, 8, [], ⟨(some 91), .fa 1 (.tmp 8), (some (90, false))⟩),
 (true, 9, [], ⟨(some 92), .ld1 (.tmp 91), (some (90, false))⟩),
 (true, 10, [], ⟨(some 93), .mv (.tmp 4), (some (90, false))⟩),
 (false, 11, [8, 9, 10], ⟨(some 94), .mv (.tmp 7), (some (90, false))⟩),
 (false, 12, [8, 9], ⟨(some 95), .bin .shr (.tmp 93) (.tmp 94), (some (90, false))⟩),
 (false, 13, [8, 9], ⟨(some 96), .mx (.tmp 95) (.const (.int .i64 1)), (some (90, false))⟩),
 (false, 14, [], ⟨(some 97), .bin .neq (.tmp 92) (.tmp 96), (some (90, false))⟩),
 (false, 15, [], ⟨(some 98), .pick (.tmp 90) (.const (.bool true)) (.tmp 97), none⟩)])
 (.cond (.tmp 98)
 (.seq (.reg [⟨(some 2), .mv (.const (.bool false)), none⟩])
 (.ret))
 (.skip)))))
 (.reg [⟨(some 99), .bin .add (.tmp 78) (.const (.int .i64 1)), none⟩,
 ⟨(some 78), .mv (.tmp 99), none⟩])))))))
 (.seq (.reg [⟨(some 2), .mv (.const (.bool true)), none⟩])
 (.ret))))))))))
theorem k30 : fnOk Try.prog 30 = some (M30, [.t 2], 100) := by kernel_rfl

theorem c_Complete (x : Im) (hx : ImOk w0 H x) (h1 : x.compl → K (.bool true) H) (h2 : ¬ x.compl → K (.bool false) H) : HCalls Try.prog w0 30 [x.v] H K := by
  have cC : ∀ (G : Heap) (K : Value → Heap → Prop), Grow w0 H G → K (.int .i64 (if x.right then 0 else 180)) G → HCalls Try.prog w0 19 [x.v] G K := fun G K g hk => c_Check x (hx.grow g) hk
  by_cases hr : x.right
  · simp only [if_pos hr] at cC
    by_cases hl : x.ls.length = 0
    · have h2 := h2 (compl_not (.inr (.inl hl)))
      clear hr hx
      unfold Im.v at cC ⊢
      rw [hl] at cC ⊢
      refine HL.hc k30 999 ?_; unfold M30
      (all_goals (try simp only [Sq,Sr,Sh,Si,Sl,Bu,Bb,Bd,Bc,Bw,Bn,Int.reduceAdd,Int.reduceSub,Int.reduceMul,Int.reduceTDiv,Int.reduceTMod,Int.reduceMod,Int.reduceDiv,Nat.reduceLT,Nat.reduceEqDiff,Sa,Sb,Sc,Sd,Se,Sf,Sg,Int.reduceLE,Int.reduceLT,Int.reduceToNat,Int.reduceNeg,Int.reduceEq,Nat.reduceLeDiff,Nat.reducePow,Int.reducePow,reduceIte,Nat.reduceSub,Nat.reduceAdd,Nat.reduceMul,putAt,ceq,List.replicate, *])); repeat' ((first | (with_reducible refine fun _ : True => ?_) | refine cC _ _ (by (repeat' (first | exact Grow.refl _ | assumption | (refine Grow_known (by first | (simp only [Heap.set_same, set_ne, ne_eq, not_false_eq_true, *] <;> rfl) | fail) ?_) | (refine Grow.set ?_ (by assumption) (by first | (simp only [*] <;> done) | (simp [set_none', Heap.set_same, set_ne, noneH, *] <;> done) | fail)) | (refine Grow.trans ?_ (by assumption))))) ?_ | (with_reducible refine any_h ?_) | ((first | refine AllocQ_i ?_ | refine AllocO_i ?_); intro bk hb0 hbk; (try simp only [set_none'] at hbk); (try (first | have hbn := Grow.none (by assumption) hbk | have hbn := Grow.none (by assumption) hbk.2 | have hbn := Grow.none (by assumption) hbk.2.2 | have hbn := Grow.none (by assumption) hbk.2.2.2 | have hbn := Grow.none (by assumption) hbk.2.2.2.2 | have hbn := Grow.none (by assumption) hbk.2.2.2.2.2)); (try simp only [set_none'] at hbn); (try (first | have hbm := Grow.none (by assumption) hbn | have hbm := Grow.none (by assumption) hbn.2 | have hbm := Grow.none (by assumption) hbn.2.2 | have hbm := Grow.none (by assumption) hbn.2.2.2 | have hbm := Grow.none (by assumption) hbn.2.2.2.2 | have hbm := Grow.none (by assumption) hbn.2.2.2.2.2)); (try simp only [set_none'] at hbm)) | ((first | refine condS_i ?_ ?_ | refine pick_i ?_ ?_ | refine gS_it ?_ ?_ | refine gS_if ?_ ?_ | refine gP_it ?_ ?_ | refine gP_if ?_ ?_) <;> (intro hc; try simp only [Int.reduceLE,Int.reduceLT,Int.reduceEq,Sn] at hc)) | (with_reducible refine And.intro ?_ ?_)) <;> (try simp only [Sq,Sr,Sh,Si,Sl,Bu,Bb,Bd,Bc,Bw,Bn,Int.reduceAdd,Int.reduceSub,Int.reduceMul,Int.reduceTDiv,Int.reduceTMod,Int.reduceMod,Int.reduceDiv,Nat.reduceLT,Nat.reduceEqDiff,Sa,Sb,Sc,Sd,Se,Sf,Sg,Int.reduceLE,Int.reduceLT,Int.reduceToNat,Int.reduceNeg,Int.reduceEq,Nat.reduceLeDiff,Nat.reducePow,Int.reducePow,reduceIte,Nat.reduceSub,Nat.reduceAdd,Nat.reduceMul,putAt,ceq,List.replicate, *]))
      all_goals exact Fin_mk (by (repeat' (first | exact Heap.Le.refl _ | (with_reducible refine Le_set2 ?_) | (refine Le_known (by first | (simp only [Heap.set_same, set_ne, ne_eq, not_false_eq_true, *] <;> rfl) | fail) ?_) | (refine Le_fresh (by first | (simp only [*] <;> done) | (simp [set_none', Heap.set_same, set_ne, noneH, *] <;> done) | fail) ?_) | (refine Heap.Le.trans ?_ (Grow.le (by assumption))) | exact Le_none | (refine Le_put ?_ (by first | (simp only [Heap.set_same, set_ne, ne_eq, not_false_eq_true, *] <;> rfl) | fail)) | fail))) h2
    · obtain ⟨y, ey⟩ : ∃ y, x.ls[0]? = some y := ⟨_, List.getElem?_eq_getElem (by omega)⟩
      obtain ⟨b, o, ea, hrd, hf⟩ := at0 (b := 0) (o := 0) hx ey
      obtain ⟨r0, -⟩ := rd1_of_rdn (i := 0) hrd (by decide)
      obtain ⟨r1, -⟩ := rd1_of_rdn (i := 1) hrd (by decide)
      simp only [Nat.add_zero, List.getElem?_cons_zero, List.getElem?_cons_succ] at r0 r1
      have hp : (0 : Int) < (x.ls.length : Int) := by omega
      have hl' : ¬ (x.ls.length : Int) = 0 := by omega
      by_cases hn : y.nil
      · have h2 := h2 (compl_not (.inr (.inr ⟨y, ey, hn⟩)))
        have cn : ∀ (G : Heap) (K : Value → Heap → Prop), K (.bool true) G → HCalls Try.prog w0 39 [.agg #[.int .i64 y.w, .int .i64 y.h, .slice y.a y.l.length y.cap]] G K := fun G K hk => c_inone y (by rw [decide_eq_true hn]; exact hk)
        clear hr hx hn ey h1
        unfold Im.v at cC ⊢
        rw [ea] at cC ⊢
        refine HL.hc k30 999 ?_; unfold M30
        (all_goals (try simp only [Sq,Sr,Sh,Si,Sl,Bu,Bb,Bd,Bc,Bw,Bn,Int.reduceAdd,Int.reduceSub,Int.reduceMul,Int.reduceTDiv,Int.reduceTMod,Int.reduceMod,Int.reduceDiv,Nat.reduceLT,Nat.reduceEqDiff,Sa,Sb,Sc,Sd,Se,Sf,Sg,Int.reduceLE,Int.reduceLT,Int.reduceToNat,Int.reduceNeg,Int.reduceEq,Nat.reduceLeDiff,Nat.reducePow,Int.reducePow,reduceIte,Nat.reduceSub,Nat.reduceAdd,Nat.reduceMul,putAt,ceq,List.replicate, *])); repeat' ((first | (with_reducible refine fun _ : True => ?_) | refine cC _ _ (by (repeat' (first | exact Grow.refl _ | assumption | (refine Grow_known (by first | (simp only [Heap.set_same, set_ne, ne_eq, not_false_eq_true, *] <;> rfl) | fail) ?_) | (refine Grow.set ?_ (by assumption) (by first | (simp only [*] <;> done) | (simp [set_none', Heap.set_same, set_ne, noneH, *] <;> done) | fail)) | (refine Grow.trans ?_ (by assumption))))) ?_ | refine cn _ _ ?_ | (with_reducible refine any_h ?_) | ((first | refine AllocQ_i ?_ | refine AllocO_i ?_); intro bk hb0 hbk; (try simp only [set_none'] at hbk); (try (first | have hbn := Grow.none (by assumption) hbk | have hbn := Grow.none (by assumption) hbk.2 | have hbn := Grow.none (by assumption) hbk.2.2 | have hbn := Grow.none (by assumption) hbk.2.2.2 | have hbn := Grow.none (by assumption) hbk.2.2.2.2 | have hbn := Grow.none (by assumption) hbk.2.2.2.2.2)); (try simp only [set_none'] at hbn); (try (first | have hbm := Grow.none (by assumption) hbn | have hbm := Grow.none (by assumption) hbn.2 | have hbm := Grow.none (by assumption) hbn.2.2 | have hbm := Grow.none (by assumption) hbn.2.2.2 | have hbm := Grow.none (by assumption) hbn.2.2.2.2 | have hbm := Grow.none (by assumption) hbn.2.2.2.2.2)); (try simp only [set_none'] at hbm)) | ((first | refine condS_i ?_ ?_ | refine pick_i ?_ ?_ | refine gS_it ?_ ?_ | refine gS_if ?_ ?_ | refine gP_it ?_ ?_ | refine gP_if ?_ ?_) <;> (intro hc; try simp only [Int.reduceLE,Int.reduceLT,Int.reduceEq,Sn] at hc)) | (with_reducible refine And.intro ?_ ?_)) <;> (try simp only [Sq,Sr,Sh,Si,Sl,Bu,Bb,Bd,Bc,Bw,Bn,Int.reduceAdd,Int.reduceSub,Int.reduceMul,Int.reduceTDiv,Int.reduceTMod,Int.reduceMod,Int.reduceDiv,Nat.reduceLT,Nat.reduceEqDiff,Sa,Sb,Sc,Sd,Se,Sf,Sg,Int.reduceLE,Int.reduceLT,Int.reduceToNat,Int.reduceNeg,Int.reduceEq,Nat.reduceLeDiff,Nat.reducePow,Int.reducePow,reduceIte,Nat.reduceSub,Nat.reduceAdd,Nat.reduceMul,putAt,ceq,List.replicate, *]))
        all_goals exact Fin_mk (by (repeat' (first | exact Heap.Le.refl _ | (with_reducible refine Le_set2 ?_) | (refine Le_known (by first | (simp only [Heap.set_same, set_ne, ne_eq, not_false_eq_true, *] <;> rfl) | fail) ?_) | (refine Le_fresh (by first | (simp only [*] <;> done) | (simp [set_none', Heap.set_same, set_ne, noneH, *] <;> done) | fail) ?_) | (refine Heap.Le.trans ?_ (Grow.le (by assumption))) | exact Le_none | (refine Le_put ?_ (by first | (simp only [Heap.set_same, set_ne, ne_eq, not_false_eq_true, *] <;> rfl) | fail)) | fail))) h2
      · have F : Fst w0 H x y := fst_of hr ey hn
        have cn : ∀ (G : Heap) (K : Value → Heap → Prop), K (.bool false) G → HCalls Try.prog w0 39 [.agg #[.int .i64 y.w, .int .i64 y.h, .slice y.a y.l.length y.cap]] G K := fun G K hk => c_inone y (by rw [decide_eq_false hn]; exact hk)
        have key : ∀ (v : Bool) (G : Heap), Heap.Le H G → (v = true ↔ ((powP y.w ∧ powP y.h ∧ (x.mip → x.lvls y)) ∨ (¬ (powP y.w ∧ powP y.h) ∧ x.s = 2 ∧ x.t = 2 ∧ ¬ x.mip))) → HL.Fin K (.bool v) G := fun v G hle hv => by
          rw [← F.compl] at hv
          cases v with
          | true => exact Fin_mk hle (h1 (hv.1 rfl))
          | false => exact Fin_mk hle (h2 (fun hc => by simpa using hv.2 hc))
        have hw := F.w
        have hh := F.h
        have hcn := cntI_le hw hh
        have hle7 := F.le
        have hcap := hx.lc
        obtain ⟨N, eN⟩ := Int.eq_ofNat_of_zero_le (show 0 ≤ cntI y.w y.h by omega)
        rw [eN] at hcn
        have hlv : x.lvls y ↔ ∀ k : Nat, (k : Int) < N → ∃ z, x.ls[k]? = some z ∧ z.w = lvS y.w k ∧ z.h = lvS y.h k := by unfold Im.lvls; rw [eN]
        have cN : ∀ (G : Heap) (K : Value → Heap → Prop), K (.int .i64 (N : Nat)) G → HCalls Try.prog w0 20 [.int .i64 y.w, .int .i64 y.h] G K := fun G K hk => c_Count _ _ (by rw [eN]; exact hk)
        have hlong : (x.ls.length : Int) < N → ¬ x.lvls y := fun h1 h2 => by
          obtain ⟨z, hz, -⟩ := hlv.1 h2 _ h1
          rw [List.getElem?_eq_none (Nat.le_refl _)] at hz
          cases hz
        have hxr : ∀ (k : Nat) (z : LvR), x.ls[k]? = some z → rdn w0 H b (o + k * 3) 3 = some [.int .i64 z.w, .int .i64 z.h, .slice z.a z.l.length z.cap] := fun k z hz => by
          obtain ⟨b', o', e', h1, -⟩ := im_row hx hz
          rw [ea] at e'
          cases e'
          exact h1
        clear hr hx hn h1 h2 F
        unfold Im.mip at key
        unfold sideP at hw hh
        unfold Im.v at cC ⊢
        rw [ea] at cC ⊢
        refine HL.hc k30 999 ?_; unfold M30
        (all_goals (try simp only [Sq,Sr,Sh,Si,Sl,Bu,Bb,Bd,Bc,Bw,Bn,Int.reduceAdd,Int.reduceSub,Int.reduceMul,Int.reduceTDiv,Int.reduceTMod,Int.reduceMod,Int.reduceDiv,Nat.reduceLT,Nat.reduceEqDiff,Sa,Sb,Sc,Sd,Se,Sf,Sg,Int.reduceLE,Int.reduceLT,Int.reduceToNat,Int.reduceNeg,Int.reduceEq,Nat.reduceLeDiff,Nat.reducePow,Int.reducePow,reduceIte,Nat.reduceSub,Nat.reduceAdd,Nat.reduceMul,putAt,ceq,List.replicate, *])); repeat' ((first | (with_reducible refine fun _ : True => ?_) | refine cC _ _ (by (repeat' (first | exact Grow.refl _ | assumption | (refine Grow_known (by first | (simp only [Heap.set_same, set_ne, ne_eq, not_false_eq_true, *] <;> rfl) | fail) ?_) | (refine Grow.set ?_ (by assumption) (by first | (simp only [*] <;> done) | (simp [set_none', Heap.set_same, set_ne, noneH, *] <;> done) | fail)) | (refine Grow.trans ?_ (by assumption))))) ?_ | refine cn _ _ ?_ | (refine c_power _ hw  ?_ ?_ <;> (intro hc; try simp only [Int.reduceLE,Int.reduceLT,Int.reduceEq,Sn] at hc)) | (refine c_power _ hh  ?_ ?_ <;> (intro hc; try simp only [Int.reduceLE,Int.reduceLT,Int.reduceEq,Sn] at hc)) | refine cN _ _ ?_ | (with_reducible refine any_h ?_) | ((first | refine AllocQ_i ?_ | refine AllocO_i ?_); intro bk hb0 hbk; (try simp only [set_none'] at hbk); (try (first | have hbn := Grow.none (by assumption) hbk | have hbn := Grow.none (by assumption) hbk.2 | have hbn := Grow.none (by assumption) hbk.2.2 | have hbn := Grow.none (by assumption) hbk.2.2.2 | have hbn := Grow.none (by assumption) hbk.2.2.2.2 | have hbn := Grow.none (by assumption) hbk.2.2.2.2.2)); (try simp only [set_none'] at hbn); (try (first | have hbm := Grow.none (by assumption) hbn | have hbm := Grow.none (by assumption) hbn.2 | have hbm := Grow.none (by assumption) hbn.2.2 | have hbm := Grow.none (by assumption) hbn.2.2.2 | have hbm := Grow.none (by assumption) hbn.2.2.2.2 | have hbm := Grow.none (by assumption) hbn.2.2.2.2.2)); (try simp only [set_none'] at hbm)) | ((first | refine condS_i ?_ ?_ | refine pick_i ?_ ?_ | refine gS_it ?_ ?_ | refine gS_if ?_ ?_ | refine gP_it ?_ ?_ | refine gP_if ?_ ?_) <;> (intro hc; try simp only [Int.reduceLE,Int.reduceLT,Int.reduceEq,Sn] at hc)) | (with_reducible refine And.intro ?_ ?_)) <;> (try simp only [Sq,Sr,Sh,Si,Sl,Bu,Bb,Bd,Bc,Bw,Bn,Int.reduceAdd,Int.reduceSub,Int.reduceMul,Int.reduceTDiv,Int.reduceTMod,Int.reduceMod,Int.reduceDiv,Nat.reduceLT,Nat.reduceEqDiff,Sa,Sb,Sc,Sd,Se,Sf,Sg,Int.reduceLE,Int.reduceLT,Int.reduceToNat,Int.reduceNeg,Int.reduceEq,Nat.reduceLeDiff,Nat.reducePow,Int.reducePow,reduceIte,Nat.reduceSub,Nat.reduceAdd,Nat.reduceMul,putAt,ceq,List.replicate, *]))
        all_goals first
          | exact key _ _ (by (repeat' (first | exact Heap.Le.refl _ | (with_reducible refine Le_set2 ?_) | (refine Le_known (by first | (simp only [Heap.set_same, set_ne, ne_eq, not_false_eq_true, *] <;> rfl) | fail) ?_) | (refine Le_fresh (by first | (simp only [*] <;> done) | (simp [set_none', Heap.set_same, set_ne, noneH, *] <;> done) | fail) ?_) | (refine Heap.Le.trans ?_ (Grow.le (by assumption))) | exact Le_none | (refine Le_put ?_ (by first | (simp only [Heap.set_same, set_ne, ne_eq, not_false_eq_true, *] <;> rfl) | fail)) | fail))) (by clear hlv; simp [*])
          | omega
          | skip
        all_goals
          have hpw : powP y.w := by assumption
          have hph : powP y.h := by assumption
          have hmip : x.mn = 3 ∨ x.mn = 4 := by simp [*]
          have kt : (∀ k : Nat, (k : Int) < N → ∃ z, x.ls[k]? = some z ∧ z.w = lvS y.w k ∧ z.h = lvS y.h k) → ∀ G, Heap.Le H G → HL.Fin K (.bool true) G := fun h G hle => key true G hle ⟨fun _ => .inl ⟨hpw, hph, fun _ => hlv.2 h⟩, fun _ => rfl⟩
          have kf : ∀ (k : Nat) (z : LvR), (k : Int) < N → x.ls[k]? = some z → (z.w ≠ lvS y.w k ∨ z.h ≠ lvS y.h k) → ∀ G, Heap.Le H G → HL.Fin K (.bool false) G := fun k z hk hz hne G hle => key false G hle ⟨fun h => (by cases h), fun h => by
            exfalso
            rcases h with ⟨-, -, h⟩ | ⟨h, -⟩
            · obtain ⟨z', hz', e1, e2⟩ := hlv.1 (h hmip) k hk
              rw [hz] at hz'
              cases hz'
              rcases hne with hne | hne
              · exact hne e1
              · exact hne e2
            · exact h ⟨hpw, hph⟩⟩
          clear key hlong cn cC cN hlv
          refine loop_g 79 (fun s : Nat × Value × Value => [(7, s.2.1), (8, s.2.2), (78, .int .i64 (s.1 : Nat))]) (fun _ => _) (fun s => s.1 ≤ N ∧ ∀ k, k < s.1 → ∃ z, x.ls[k]? = some z ∧ z.w = lvS y.w k ∧ z.h = lvS y.h k) (fun s => N - s.1) (0, undef, undef) ⟨Nat.zero_le _, fun k hk => by simp at hk⟩ (Heap.Le.refl _) rfl ?_
          intro ⟨k, u, v⟩ g ⟨hk, hall⟩
          simp only at hk hall
          rcases Nat.lt_or_ge k N with hlt | hge
          · obtain ⟨z, ez⟩ : ∃ z, x.ls[k]? = some z := ⟨_, List.getElem?_eq_getElem (by omega)⟩
            have hz := hxr k z ez
            have kf := kf k z (by omega) ez
            have t0 : (k : Int) < (N : Int) := by omega
            have t6 : IntKind.i64.wrap ((k : Int) + 1) = (k : Int) + 1 := Bw.1 _ (by omega) (by omega)
            have t7 : k ≤ 64 := by omega
            have eW : (if y.w.fdiv (2 ^ k) < 1 then 1 else y.w.fdiv (2 ^ k)) = lvS y.w k := rfl
            have eH : (if y.h.fdiv (2 ^ k) < 1 then 1 else y.h.fdiv (2 ^ k)) = lvS y.h k := rfl
            have nxt : z.w = lvS y.w k → z.h = lvS y.h k → ∀ j, j < k + 1 → ∃ z, x.ls[j]? = some z ∧ z.w = lvS y.w j ∧ z.h = lvS y.h j := fun h1 h2 j hj => by
              rcases Nat.lt_or_ge j k with h' | h'
              · exact hall j h'
              · obtain rfl : j = k := by omega
                exact ⟨z, ez, h1, h2⟩
            clear hall hxr kt
            (all_goals (try simp only [Sq,Sr,Sh,Si,Sl,Bu,Bb,Bd,Bc,Bw,Bn,Int.reduceAdd,Int.reduceSub,Int.reduceMul,Int.reduceTDiv,Int.reduceTMod,Int.reduceMod,Int.reduceDiv,Nat.reduceLT,Nat.reduceEqDiff,Sa,Sb,Sc,Sd,Se,Sf,Sg,Int.reduceLE,Int.reduceLT,Int.reduceToNat,Int.reduceNeg,Int.reduceEq,Nat.reduceLeDiff,Nat.reducePow,Int.reducePow,reduceIte,Nat.reduceSub,Nat.reduceAdd,Nat.reduceMul,putAt,ceq,List.replicate, *])); repeat' ((first | (with_reducible refine fun _ : True => ?_) | (with_reducible refine any_h ?_) | ((first | refine AllocQ_i ?_ | refine AllocO_i ?_); intro bk hb0 hbk; (try simp only [set_none'] at hbk); (try (first | have hbn := Grow.none (by assumption) hbk | have hbn := Grow.none (by assumption) hbk.2 | have hbn := Grow.none (by assumption) hbk.2.2 | have hbn := Grow.none (by assumption) hbk.2.2.2 | have hbn := Grow.none (by assumption) hbk.2.2.2.2 | have hbn := Grow.none (by assumption) hbk.2.2.2.2.2)); (try simp only [set_none'] at hbn); (try (first | have hbm := Grow.none (by assumption) hbn | have hbm := Grow.none (by assumption) hbn.2 | have hbm := Grow.none (by assumption) hbn.2.2 | have hbm := Grow.none (by assumption) hbn.2.2.2 | have hbm := Grow.none (by assumption) hbn.2.2.2.2 | have hbm := Grow.none (by assumption) hbn.2.2.2.2.2)); (try simp only [set_none'] at hbm)) | ((first | refine condS_i ?_ ?_ | refine pick_i ?_ ?_ | refine gS_it ?_ ?_ | refine gS_if ?_ ?_ | refine gP_it ?_ ?_ | refine gP_if ?_ ?_) <;> (intro hc; try simp only [Int.reduceLE,Int.reduceLT,Int.reduceEq,Sn] at hc)) | (with_reducible refine And.intro ?_ ?_)) <;> (try simp only [Sq,Sr,Sh,Si,Sl,Bu,Bb,Bd,Bc,Bw,Bn,Int.reduceAdd,Int.reduceSub,Int.reduceMul,Int.reduceTDiv,Int.reduceTMod,Int.reduceMod,Int.reduceDiv,Nat.reduceLT,Nat.reduceEqDiff,Sa,Sb,Sc,Sd,Se,Sf,Sg,Int.reduceLE,Int.reduceLT,Int.reduceToNat,Int.reduceNeg,Int.reduceEq,Nat.reduceLeDiff,Nat.reducePow,Int.reducePow,reduceIte,Nat.reduceSub,Nat.reduceAdd,Nat.reduceMul,putAt,ceq,List.replicate, *]))
            all_goals first
              | exact kf (.inl (by assumption)) _ (by (repeat' (first | exact Heap.Le.refl _ | (with_reducible refine Le_set2 ?_) | (refine Le_known (by first | (simp only [Heap.set_same, set_ne, ne_eq, not_false_eq_true, *] <;> rfl) | fail) ?_) | (refine Le_fresh (by first | (simp only [*] <;> done) | (simp [set_none', Heap.set_same, set_ne, noneH, *] <;> done) | fail) ?_) | (refine Heap.Le.trans ?_ (Grow.le (by assumption))) | exact Le_none | (refine Le_put ?_ (by first | (simp only [Heap.set_same, set_ne, ne_eq, not_false_eq_true, *] <;> rfl) | fail)) | fail)))
              | exact kf (.inr (by assumption)) _ (by (repeat' (first | exact Heap.Le.refl _ | (with_reducible refine Le_set2 ?_) | (refine Le_known (by first | (simp only [Heap.set_same, set_ne, ne_eq, not_false_eq_true, *] <;> rfl) | fail) ?_) | (refine Le_fresh (by first | (simp only [*] <;> done) | (simp [set_none', Heap.set_same, set_ne, noneH, *] <;> done) | fail) ?_) | (refine Heap.Le.trans ?_ (Grow.le (by assumption))) | exact Le_none | (refine Le_put ?_ (by first | (simp only [Heap.set_same, set_ne, ne_eq, not_false_eq_true, *] <;> rfl) | fail)) | fail)))
              | exact Round_mk (k + 1, _, _) ⟨hlt, nxt (by assumption) (by assumption)⟩ (by simp only; omega) (by (repeat' (first | exact Heap.Le.refl _ | (with_reducible refine Le_set2 ?_) | (refine Le_known (by first | (simp only [Heap.set_same, set_ne, ne_eq, not_false_eq_true, *] <;> rfl) | fail) ?_) | (refine Le_fresh (by first | (simp only [*] <;> done) | (simp [set_none', Heap.set_same, set_ne, noneH, *] <;> done) | fail) ?_) | (refine Heap.Le.trans ?_ (Grow.le (by assumption))) | exact Le_none | (refine Le_put ?_ (by first | (simp only [Heap.set_same, set_ne, ne_eq, not_false_eq_true, *] <;> rfl) | fail)) | fail))) rfl rfl
          · obtain rfl : N = k := by omega
            have t0 : ¬ ((N : Nat) : Int) < ((N : Nat) : Int) := by omega
            have kt := kt (fun k hk => hall k (by omega))
            clear kf hall hxr
            (all_goals (try simp only [Sq,Sr,Sh,Si,Sl,Bu,Bb,Bd,Bc,Bw,Bn,Int.reduceAdd,Int.reduceSub,Int.reduceMul,Int.reduceTDiv,Int.reduceTMod,Int.reduceMod,Int.reduceDiv,Nat.reduceLT,Nat.reduceEqDiff,Sa,Sb,Sc,Sd,Se,Sf,Sg,Int.reduceLE,Int.reduceLT,Int.reduceToNat,Int.reduceNeg,Int.reduceEq,Nat.reduceLeDiff,Nat.reducePow,Int.reducePow,reduceIte,Nat.reduceSub,Nat.reduceAdd,Nat.reduceMul,putAt,ceq,List.replicate, *])); repeat' ((first | (with_reducible refine fun _ : True => ?_) | (with_reducible refine any_h ?_) | ((first | refine AllocQ_i ?_ | refine AllocO_i ?_); intro bk hb0 hbk; (try simp only [set_none'] at hbk); (try (first | have hbn := Grow.none (by assumption) hbk | have hbn := Grow.none (by assumption) hbk.2 | have hbn := Grow.none (by assumption) hbk.2.2 | have hbn := Grow.none (by assumption) hbk.2.2.2 | have hbn := Grow.none (by assumption) hbk.2.2.2.2 | have hbn := Grow.none (by assumption) hbk.2.2.2.2.2)); (try simp only [set_none'] at hbn); (try (first | have hbm := Grow.none (by assumption) hbn | have hbm := Grow.none (by assumption) hbn.2 | have hbm := Grow.none (by assumption) hbn.2.2 | have hbm := Grow.none (by assumption) hbn.2.2.2 | have hbm := Grow.none (by assumption) hbn.2.2.2.2 | have hbm := Grow.none (by assumption) hbn.2.2.2.2.2)); (try simp only [set_none'] at hbm)) | ((first | refine condS_i ?_ ?_ | refine pick_i ?_ ?_ | refine gS_it ?_ ?_ | refine gS_if ?_ ?_ | refine gP_it ?_ ?_ | refine gP_if ?_ ?_) <;> (intro hc; try simp only [Int.reduceLE,Int.reduceLT,Int.reduceEq,Sn] at hc)) | (with_reducible refine And.intro ?_ ?_)) <;> (try simp only [Sq,Sr,Sh,Si,Sl,Bu,Bb,Bd,Bc,Bw,Bn,Int.reduceAdd,Int.reduceSub,Int.reduceMul,Int.reduceTDiv,Int.reduceTMod,Int.reduceMod,Int.reduceDiv,Nat.reduceLT,Nat.reduceEqDiff,Sa,Sb,Sc,Sd,Se,Sf,Sg,Int.reduceLE,Int.reduceLT,Int.reduceToNat,Int.reduceNeg,Int.reduceEq,Nat.reduceLeDiff,Nat.reducePow,Int.reducePow,reduceIte,Nat.reduceSub,Nat.reduceAdd,Nat.reduceMul,putAt,ceq,List.replicate, *]))
            exact kt _ (by (repeat' (first | exact Heap.Le.refl _ | (with_reducible refine Le_set2 ?_) | (refine Le_known (by first | (simp only [Heap.set_same, set_ne, ne_eq, not_false_eq_true, *] <;> rfl) | fail) ?_) | (refine Le_fresh (by first | (simp only [*] <;> done) | (simp [set_none', Heap.set_same, set_ne, noneH, *] <;> done) | fail) ?_) | (refine Heap.Le.trans ?_ (Grow.le (by assumption))) | exact Le_none | (refine Le_put ?_ (by first | (simp only [Heap.set_same, set_ne, ne_eq, not_false_eq_true, *] <;> rfl) | fail)) | fail)))
  · simp only [if_neg hr] at cC
    have h2 := h2 (compl_not (.inl hr))
    clear hr hx
    unfold Im.v at cC ⊢
    refine HL.hc k30 999 ?_; unfold M30
    (all_goals (try simp only [Sq,Sr,Sh,Si,Sl,Bu,Bb,Bd,Bc,Bw,Bn,Int.reduceAdd,Int.reduceSub,Int.reduceMul,Int.reduceTDiv,Int.reduceTMod,Int.reduceMod,Int.reduceDiv,Nat.reduceLT,Nat.reduceEqDiff,Sa,Sb,Sc,Sd,Se,Sf,Sg,Int.reduceLE,Int.reduceLT,Int.reduceToNat,Int.reduceNeg,Int.reduceEq,Nat.reduceLeDiff,Nat.reducePow,Int.reducePow,reduceIte,Nat.reduceSub,Nat.reduceAdd,Nat.reduceMul,putAt,ceq,List.replicate, *])); repeat' ((first | (with_reducible refine fun _ : True => ?_) | refine cC _ _ (by (repeat' (first | exact Grow.refl _ | assumption | (refine Grow_known (by first | (simp only [Heap.set_same, set_ne, ne_eq, not_false_eq_true, *] <;> rfl) | fail) ?_) | (refine Grow.set ?_ (by assumption) (by first | (simp only [*] <;> done) | (simp [set_none', Heap.set_same, set_ne, noneH, *] <;> done) | fail)) | (refine Grow.trans ?_ (by assumption))))) ?_ | (with_reducible refine any_h ?_) | ((first | refine AllocQ_i ?_ | refine AllocO_i ?_); intro bk hb0 hbk; (try simp only [set_none'] at hbk); (try (first | have hbn := Grow.none (by assumption) hbk | have hbn := Grow.none (by assumption) hbk.2 | have hbn := Grow.none (by assumption) hbk.2.2 | have hbn := Grow.none (by assumption) hbk.2.2.2 | have hbn := Grow.none (by assumption) hbk.2.2.2.2 | have hbn := Grow.none (by assumption) hbk.2.2.2.2.2)); (try simp only [set_none'] at hbn); (try (first | have hbm := Grow.none (by assumption) hbn | have hbm := Grow.none (by assumption) hbn.2 | have hbm := Grow.none (by assumption) hbn.2.2 | have hbm := Grow.none (by assumption) hbn.2.2.2 | have hbm := Grow.none (by assumption) hbn.2.2.2.2 | have hbm := Grow.none (by assumption) hbn.2.2.2.2.2)); (try simp only [set_none'] at hbm)) | ((first | refine condS_i ?_ ?_ | refine pick_i ?_ ?_ | refine gS_it ?_ ?_ | refine gS_if ?_ ?_ | refine gP_it ?_ ?_ | refine gP_if ?_ ?_) <;> (intro hc; try simp only [Int.reduceLE,Int.reduceLT,Int.reduceEq,Sn] at hc)) | (with_reducible refine And.intro ?_ ?_)) <;> (try simp only [Sq,Sr,Sh,Si,Sl,Bu,Bb,Bd,Bc,Bw,Bn,Int.reduceAdd,Int.reduceSub,Int.reduceMul,Int.reduceTDiv,Int.reduceTMod,Int.reduceMod,Int.reduceDiv,Nat.reduceLT,Nat.reduceEqDiff,Sa,Sb,Sc,Sd,Se,Sf,Sg,Int.reduceLE,Int.reduceLT,Int.reduceToNat,Int.reduceNeg,Int.reduceEq,Nat.reduceLeDiff,Nat.reducePow,Int.reducePow,reduceIte,Nat.reduceSub,Nat.reduceAdd,Nat.reduceMul,putAt,ceq,List.replicate, *]))
    all_goals exact Fin_mk (by (repeat' (first | exact Heap.Le.refl _ | (with_reducible refine Le_set2 ?_) | (refine Le_known (by first | (simp only [Heap.set_same, set_ne, ne_eq, not_false_eq_true, *] <;> rfl) | fail) ?_) | (refine Le_fresh (by first | (simp only [*] <;> done) | (simp [set_none', Heap.set_same, set_ne, noneH, *] <;> done) | fail) ?_) | (refine Heap.Le.trans ?_ (Grow.le (by assumption))) | exact Le_none | (refine Le_put ?_ (by first | (simp only [Heap.set_same, set_ne, ne_eq, not_false_eq_true, *] <;> rfl) | fail)) | fail))) h2
end Go.Proofs.Ytdaipgnhconfnaa
