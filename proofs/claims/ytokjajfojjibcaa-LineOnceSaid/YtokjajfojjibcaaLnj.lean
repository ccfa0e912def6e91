/- A point as fragments: the program (layer 23). -/
import Derived.Test.YtokjajfojjibcaaLni
set_option linter.unusedSimpArgs false
set_option linter.unusedVariables false
set_option maxRecDepth 100000
set_option maxHeartbeats 8000000
namespace Go.Proofs.Ytokjajfojjibcaa
open Go Go.HL Go.RowKit Go.ChangeShapes Go.WideShapes Pb
variable {w0 : World} {H : Heap} {K : Value → Heap → Prop}

theorem tog1 (x : Wn) : Tog [x] ↔ x.right := by
  constructor
  · intro h; exact (h x (by simp)).1
  · intro h y hy
    obtain rfl := List.mem_singleton.1 hy
    exact ⟨h, fun z hz => by simp at hz; rw [hz]⟩
theorem cs_one {x : WnR} (hx : WnOk w0 H x) (G : Heap) (b : Nat) (t : TypeId) (g : Grow w0 H G) (e : G b = some ⟨t, x.row⟩) : CsOk w0 G (some ⟨b, 0, none⟩) 1 [x] :=
  ⟨.blk (z := []) (by rw [List.append_nil]; simpa using e), by simp, by simp [maxLen], fun y hy => by
    obtain rfl := List.mem_singleton.1 hy
    exact hx.grow g⟩
/- line Point -/
def M14 : MC :=
  .seq (.reg [⟨(some 1), .box 25 (.tmp 0), none⟩,
     ⟨(some 2), .mv (.const (.slice none 0 0)), none⟩,
     ⟨(some 3), .mv (.const (.int .i64 0)), none⟩])
  (.seq (.seq (.reg [⟨(some 15), .ldn 6 (.tmp 1), none⟩,
       ⟨(some 16), .bslice 25 1 [(.int .i64 0), (.int .i64 0), (.int .i32 0), (.int .i32 0), (.int .i32 0), (.slice none 0 0)] [(0, 6, (.tmp 15))], none⟩,
       ⟨(some 17), .call 20 [(.tmp 16)], none⟩,
       ⟨(some 4), .mv (.tmp 17), none⟩])
    (.seq (.reg [⟨(some 18), .mv (.tmp 4), none⟩,
        ⟨(some 19), .bin .neq (.tmp 18) (.const (.int .i64 0)), none⟩])
     (.cond (.tmp 19)
      (.seq (.reg [⟨(some 20), .mv (.tmp 4), none⟩,
          ⟨(some 2), .mv (.const (.slice none 0 0)), none⟩,
          ⟨(some 3), .mv (.tmp 20), none⟩])
       (.ret))
      (.skip))))
   (.seq (.reg [⟨(some 21), .fa 4 (.tmp 1), none⟩,
       ⟨(some 22), .ld1 (.tmp 21), none⟩,
       ⟨(some 23), .call 31 [(.tmp 22), (.const (.int .i32 32768))], none⟩,
       ⟨(some 24), .call 30 [(.tmp 23)], none⟩,
       ⟨(some 25), .mx (.tmp 24) (.const (.int .i64 1)), none⟩,
       ⟨(some 26), .mn (.tmp 25) (.const (.int .i64 64)), none⟩,
       ⟨(some 5), .mv (.tmp 26), none⟩])
    (.seq (.any [(true, 0, [], ⟨(some 27), .fa 0 (.tmp 1), none⟩),
        (true, 1, [], ⟨(some 28), .ld1 (.tmp 27), none⟩),
        (true, 2, [], ⟨(some 29), .mv (.tmp 5), none⟩),
        (true, 3, [], ⟨(some 30), .bin .mul (.const (.int .i64 128)) (.tmp 29), none⟩),
        (true, 4, [], ⟨(some 31), .bin .sub (.tmp 28) (.tmp 30), none⟩),
        (true, 5, [], ⟨(some 32), .fa 1 (.tmp 1), none⟩),
        (true, 6, [], ⟨(some 33), .ld1 (.tmp 32), none⟩),
        (true, 7, [], ⟨(some 34), .mv (.tmp 5), none⟩),
        (true, 8, [], ⟨(some 35), .bin .mul (.const (.int .i64 128)) (.tmp 34), none⟩),
        (true, 9, [], ⟨(some 36), .bin .sub (.tmp 33) (.tmp 35), none⟩),
        (false, 10, [5, 6, 7, 8, 9], ⟨(some 6), .mv (.tmp 31), none⟩),
        (false, 11, [], ⟨(some 7), .mv (.tmp 36), none⟩)])
     (.seq (.reg [⟨(some 37), .fa 3 (.tmp 1), none⟩,
         ⟨(some 38), .ld1 (.tmp 37), none⟩,
         ⟨(some 39), .call 24 [(.const (.int .i32 65536)), (.tmp 38)], none⟩,
         ⟨(some 8), .mv (.tmp 39), none⟩])
      (.seq (.reg [⟨(some 9), .mv (.const (.slice none 0 0)), none⟩])
       (.seq (.seq (.reg [⟨(some 40), .mv (.const (.int .i64 0)), none⟩])
         (.block 0 (.loop (.seq (.reg [⟨(some 41), .bin .lss (.tmp 40) (.const (.int .i64 64)), none⟩])
            (.seq (.cond (.tmp 41)
              (.skip)
              (.exit 0))
             (.seq (.block 1 (.seq (.reg [⟨(some 42), .mv (.tmp 40), none⟩,
                   ⟨(some 10), .mv (.tmp 42), none⟩])
                (.seq (.reg [⟨(some 43), .mv (.const (.int .i64 0)), none⟩])
                 (.block 2 (.loop (.seq (.reg [⟨(some 44), .bin .lss (.tmp 43) (.const (.int .i64 64)), none⟩])
                    (.seq (.cond (.tmp 44)
                      (.skip)
                      (.exit 2))
                     (.seq (.block 3 (.seq (.reg [⟨(some 45), .mv (.tmp 43), none⟩,
                           ⟨(some 11), .mv (.tmp 45), none⟩])
                        (.seq (.reg [⟨(some 46), .mv (.tmp 11), none⟩,
                            ⟨(some 47), .bin .mul (.const (.int .i64 256)) (.tmp 46), none⟩,
                            ⟨(some 48), .bin .add (.tmp 47) (.const (.int .i64 128)), none⟩,
                            ⟨(some 49), .mv (.tmp 6), none⟩,
                            ⟨(some 50), .bin .sub (.tmp 48) (.tmp 49), none⟩,
                            ⟨(some 51), .mv (.tmp 10), none⟩,
                            ⟨(some 52), .bin .mul (.const (.int .i64 256)) (.tmp 51), none⟩,
                            ⟨(some 53), .bin .add (.tmp 52) (.const (.int .i64 128)), none⟩,
                            ⟨(some 54), .mv (.tmp 7), none⟩,
                            ⟨(some 55), .bin .sub (.tmp 53) (.tmp 54), none⟩,
                            ⟨(some 12), .mv (.tmp 50), none⟩,
                            ⟨(some 13), .mv (.tmp 55), none⟩])
                         (.seq (.seq (.reg [⟨(some 56), .mv (.tmp 12), none⟩,
                              ⟨(some 57), .bin .lss (.tmp 56) (.const (.int .i64 0)), none⟩,
                              ⟨(some 58), .mv (.tmp 57), none⟩,
                              ⟨(some 59), .mv (.tmp 12), (some (58, false))⟩,
                              ⟨(some 60), .mv (.tmp 5), (some (58, false))⟩,
                              ⟨(some 61), .bin .mul (.const (.int .i64 256)) (.tmp 60), (some (58, false))⟩,
                              ⟨(some 62), .bin .geq (.tmp 59) (.tmp 61), (some (58, false))⟩,
                              ⟨(some 63), .pick (.tmp 58) (.const (.bool true)) (.tmp 62), none⟩,
                              ⟨(some 64), .mv (.tmp 63), none⟩,
                              ⟨(some 65), .mv (.tmp 13), (some (64, false))⟩,
                              ⟨(some 66), .bin .lss (.tmp 65) (.const (.int .i64 0)), (some (64, false))⟩,
                              ⟨(some 67), .pick (.tmp 64) (.const (.bool true)) (.tmp 66), none⟩,
                              ⟨(some 68), .mv (.tmp 67), none⟩,
                              ⟨(some 69), .mv (.tmp 13), (some (68, false))⟩,
                              ⟨(some 70), .mv (.tmp 5), (some (68, false))⟩,
                              ⟨(some 71), .bin .mul (.const (.int .i64 256)) (.tmp 70), (some (68, false))⟩,
                              ⟨(some 72), .bin .geq (.tmp 69) (.tmp 71), (some (68, false))⟩,
                              ⟨(some 73), .pick (.tmp 68) (.const (.bool true)) (.tmp 72), none⟩])
                           (.cond (.tmp 73)
                            (.exit 3)
                            (.skip)))
                          (.seq (.any [(true, 0, [], ⟨(some 74), .mv (.tmp 12), none⟩),
                              (true, 1, [], ⟨(some 75), .bin .mul (.const (.int .i64 65536)) (.tmp 74), none⟩),
                              (true, 2, [], ⟨(some 76), .mv (.tmp 5), none⟩),
                              (true, 3, [], ⟨(some 77), .bin .mul (.const (.int .i64 256)) (.tmp 76), none⟩),
                              (true, 4, [], ⟨(some 78), .bin .quo (.tmp 75) (.tmp 77), none⟩),
                              (true, 5, [], ⟨(some 79), .conv .i32 (.tmp 78), none⟩),
                              (true, 6, [], ⟨(some 80), .mv (.tmp 13), none⟩),
                              (true, 7, [], ⟨(some 81), .bin .mul (.const (.int .i64 65536)) (.tmp 80), none⟩),
                              (true, 8, [], ⟨(some 82), .mv (.tmp 5), none⟩),
                              (true, 9, [], ⟨(some 83), .bin .mul (.const (.int .i64 256)) (.tmp 82), none⟩),
                              (true, 10, [], ⟨(some 84), .bin .quo (.tmp 81) (.tmp 83), none⟩),
                              (true, 11, [], ⟨(some 85), .conv .i32 (.tmp 84), none⟩),
                              (true, 12, [], ⟨(some 86), .build [(.int .i32 0), (.int .i32 0), (.int .i32 0), (.int .i32 0)] [(0, 1, (.tmp 79)), (1, 1, (.tmp 85))], none⟩),
                              (false, 13, [0, 1, 2, 3, 4, 5, 6, 7, 8, 9, 10, 11, 12], ⟨(some 14), .alloc 38 [(.int .i32 0), (.int .i32 0), (.int .i32 0), (.int .i32 0)], none⟩),
                              (false, 14, [], ⟨none, .stn 4 (.tmp 14) (.tmp 86), none⟩)])
                           (.any [(true, 0, [], ⟨(some 87), .mv (.tmp 9), none⟩),
                              (true, 1, [], ⟨(some 88), .mv (.tmp 11), none⟩),
                              (true, 2, [], ⟨(some 89), .mv (.tmp 10), none⟩),
                              (true, 3, [], ⟨(some 90), .fa 2 (.tmp 1), none⟩),
                              (true, 4, [], ⟨(some 91), .ld1 (.tmp 90), none⟩),
                              (true, 5, [], ⟨(some 92), .mv (.tmp 8), none⟩),
                              (true, 6, [], ⟨(some 93), .ldn 4 (.tmp 14), none⟩),
                              (false, 7, [0, 1, 2, 3, 4, 5, 6], ⟨(some 94), .fa 5 (.tmp 1), none⟩),
                              (false, 8, [0, 1, 2, 3, 4, 5, 6], ⟨(some 95), .ld1 (.tmp 94), none⟩),
                              (false, 9, [0, 1, 2, 3, 4, 5, 6], ⟨(some 96), .call 32 [(.tmp 95)], none⟩),
                              (false, 10, [0], ⟨(some 97), .build [(.int .i64 0), (.int .i64 0), (.int .i32 0), (.int .i32 0), (.bool false), (.int .i32 0), (.int .i32 0), (.int .i32 0), (.int .i32 0), (.slice none 0 0)] [(0, 1, (.tmp 88)), (1, 1, (.tmp 89)), (2, 1, (.tmp 91)), (3, 1, (.tmp 92)), (4, 1, (.const (.bool true))), (5, 4, (.tmp 93)), (9, 1, (.tmp 96))], none⟩),
                              (false, 11, [0], ⟨(some 98), .bslice 46 1 [(.int .i64 0), (.int .i64 0), (.int .i32 0), (.int .i32 0), (.bool false), (.int .i32 0), (.int .i32 0), (.int .i32 0), (.int .i32 0), (.slice none 0 0)] [(0, 10, (.tmp 97))], none⟩),
                              (false, 12, [], ⟨(some 99), .app 46 10 72 [(.int .i64 0), (.int .i64 0), (.int .i32 0), (.int .i32 0), (.bool false), (.int .i32 0), (.int .i32 0), (.int .i32 0), (.int .i32 0), (.slice none 0 0)] (.tmp 87) (.tmp 98), none⟩),
                              (false, 13, [], ⟨(some 9), .mv (.tmp 99), none⟩)]))))))
                      (.reg [⟨(some 100), .bin .add (.tmp 43) (.const (.int .i64 1)), none⟩,
                         ⟨(some 43), .mv (.tmp 100), none⟩])))))))))
              (.reg [⟨(some 101), .bin .add (.tmp 40) (.const (.int .i64 1)), none⟩,
                 ⟨(some 40), .mv (.tmp 101), none⟩])))))))
        (.seq (.reg [⟨(some 102), .mv (.tmp 9), none⟩,
            ⟨(some 2), .mv (.tmp 102), none⟩,
            ⟨(some 3), .mv (.const (.int .i64 0)), none⟩])
         (.ret))))))))
theorem k14 : fnOk Try.prog 14 = some (M14, [.t 2, .t 3], 103) := by kernel_rfl

theorem c_Point_no (x : WnR) (hx : WnOk w0 H x) (hr : ¬ x.right) (h : K (.tuple #[.slice none 0 0, .int .i64 320]) H) : HCalls Try.prog w0 14 [x.v] H K := by
  have hcC : ∀ (b : Nat) (t : TypeId) (G : Heap) (K : Value → Heap → Prop), Grow w0 H G → G b = some ⟨t, x.row⟩ → K (.int .i64 320) G → HCalls Try.prog w0 20 [.slice (some ⟨b, 0, none⟩) 1 1] G K := fun b t G K g e hk => c_Check (some ⟨b, 0, none⟩) 1 [x] (by simp) (cs_one hx G b t g e) (fun hh => (hr ((tog1 _).1 hh)).elim) (fun _ => hk)
  unfold WnR.row at hcC
  unfold WnR.v
  refine HL.hc k14 999 ?_; unfold M14
  (all_goals (try simp only [Sq,Sr,Sh,Si,Sl,Bu,Bb,Bd,Bc,Bw,Bn,Int.reduceAdd,Int.reduceSub,Int.reduceMul,Int.reduceTDiv,Int.reduceTMod,Int.reduceMod,Int.reduceDiv,Nat.reduceLT,Nat.reduceEqDiff,Sa,Sb,Sc,Sd,Se,Sf,Sg,Int.reduceLE,Int.reduceLT,Int.reduceToNat,Int.reduceNeg,Int.reduceEq,Nat.reduceLeDiff,Nat.reducePow,Int.reducePow,reduceIte,Nat.reduceSub,Nat.reduceAdd,Nat.reduceMul,putAt,ceq,List.replicate, *])); repeat' ((first | (with_reducible refine fun _ : True => ?_) | refine hcC _ _ _ _ (by (repeat' (first | exact Grow.refl _ | assumption | (refine Grow_known (by first | (simp only [Heap.set_same, set_ne, ne_eq, not_false_eq_true, *] <;> rfl) | fail) ?_) | (refine Grow.set ?_ (by assumption) (by first | (simp only [*] <;> done) | (simp [set_none', Heap.set_same, set_ne, noneH, *] <;> done) | fail)) | (refine Grow.trans ?_ (by assumption))))) (by simp only [Heap.set_same, set_ne, ne_eq, not_false_eq_true, *] <;> rfl) ?_ | (with_reducible refine any_h ?_) | ((first | refine AllocQ_i ?_ | refine AllocO_i ?_); intro bk hb0 hbk; (try simp only [set_none'] at hbk); (try (first | have hbn := Grow.none (by assumption) hbk | have hbn := Grow.none (by assumption) hbk.2 | have hbn := Grow.none (by assumption) hbk.2.2 | have hbn := Grow.none (by assumption) hbk.2.2.2 | have hbn := Grow.none (by assumption) hbk.2.2.2.2 | have hbn := Grow.none (by assumption) hbk.2.2.2.2.2)); (try simp only [set_none'] at hbn); (try (first | have hbm := Grow.none (by assumption) hbn | have hbm := Grow.none (by assumption) hbn.2 | have hbm := Grow.none (by assumption) hbn.2.2 | have hbm := Grow.none (by assumption) hbn.2.2.2 | have hbm := Grow.none (by assumption) hbn.2.2.2.2 | have hbm := Grow.none (by assumption) hbn.2.2.2.2.2)); (try simp only [set_none'] at hbm)) | ((first | refine condS_i ?_ ?_ | refine pick_i ?_ ?_ | refine gS_it ?_ ?_ | refine gS_if ?_ ?_ | refine gP_it ?_ ?_ | refine gP_if ?_ ?_) <;> (intro hc; try simp only [Int.reduceLE,Int.reduceLT,Int.reduceEq,Sn] at hc)) | (with_reducible refine KP_i ?_ ?_; · (repeat' (first | exact Heap.Le.refl _ | (with_reducible refine Le_set2 ?_) | (refine Le_known (by first | (simp only [Heap.set_same, set_ne, ne_eq, not_false_eq_true, *] <;> rfl) | fail) ?_) | (refine Le_fresh (by first | (simp only [*] <;> done) | (simp [set_none', Heap.set_same, set_ne, noneH, *] <;> done) | fail) ?_) | (refine Heap.Le.trans ?_ (Grow.le (by assumption))) | exact Le_none | (refine Le_put ?_ (by first | (simp only [Heap.set_same, set_ne, ne_eq, not_false_eq_true, *] <;> rfl) | fail)) | fail))) | (with_reducible refine And.intro ?_ ?_)) <;> (try simp only [Sq,Sr,Sh,Si,Sl,Bu,Bb,Bd,Bc,Bw,Bn,Int.reduceAdd,Int.reduceSub,Int.reduceMul,Int.reduceTDiv,Int.reduceTMod,Int.reduceMod,Int.reduceDiv,Nat.reduceLT,Nat.reduceEqDiff,Sa,Sb,Sc,Sd,Se,Sf,Sg,Int.reduceLE,Int.reduceLT,Int.reduceToNat,Int.reduceNeg,Int.reduceEq,Nat.reduceLeDiff,Nat.reducePow,Int.reducePow,reduceIte,Nat.reduceSub,Nat.reduceAdd,Nat.reduceMul,putAt,ceq,List.replicate, *]))
  exact Fin_mk (by (repeat' (first | exact Heap.Le.refl _ | (with_reducible refine Le_set2 ?_) | (refine Le_known (by first | (simp only [Heap.set_same, set_ne, ne_eq, not_false_eq_true, *] <;> rfl) | fail) ?_) | (refine Le_fresh (by first | (simp only [*] <;> done) | (simp [set_none', Heap.set_same, set_ne, noneH, *] <;> done) | fail) ?_) | (refine Heap.Le.trans ?_ (Grow.le (by assumption))) | exact Le_none | (refine Le_put ?_ (by first | (simp only [Heap.set_same, set_ne, ne_eq, not_false_eq_true, *] <;> rfl) | fail)) | fail))) h
theorem c_Point_yes (x : WnR) (hx : WnOk w0 H x) (hr : x.right)
    (h : ∀ a' cap' os H', os.map FrR.toFr = pointA x.toWn 64 → RO fragT w0 H' a' cap' os → Grow w0 H H' → K (.tuple #[.slice a' os.length cap', .int .i64 0]) H') : HCalls Try.prog w0 14 [x.v] H K := by
  have hcC : ∀ (b : Nat) (t : TypeId) (G : Heap) (K : Value → Heap → Prop), Grow w0 H G → G b = some ⟨t, x.row⟩ → K (.int .i64 0) G → HCalls Try.prog w0 20 [.slice (some ⟨b, 0, none⟩) 1 1] G K := fun b t G K g e hk => c_Check (some ⟨b, 0, none⟩) 1 [x] (by simp) (cs_one hx G b t g e) (fun _ => hk) (fun hh => (hh ((tog1 _).2 hr)).elim)
  unfold WnR.row at hcC
  obtain ⟨hs1, hs2⟩ := sideA_b x.toWn
  have hsz := hx.hs
  have hwz := hx.hw
  have hxr := hr.1
  have hyr := hr.2.1
  have hcA : ∀ (G : Heap) (K : Value → Heap → Prop), K (.int .i32 (fadd x.s 32768)) G → HCalls Try.prog w0 31 [.int .i32 x.s, .int .i32 32768] G K := fun G K hk => c_Add _ _ hsz (i32_of rfl) hk
  have hcI : ∀ (G : Heap) (K : Value → Heap → Prop), K (.int .i64 (fadd x.s 32768 / 65536)) G → HCalls Try.prog w0 30 [.int .i32 (fadd x.s 32768)] G K := fun G K hk => c_Int _ (raw_I32 _) hk
  have hcD : ∀ (G : Heap) (K : Value → Heap → Prop), K (.int .i32 (fdiv 65536 x.w)) G → HCalls Try.prog w0 24 [.int .i32 65536, .int .i32 x.w] G K := fun G K hk => c_Div _ _ (i32_of rfl) hwz hk
  obtain ⟨y, ey⟩ : ∃ y, fadd x.s 32768 / 65536 = y := ⟨_, rfl⟩
  obtain ⟨m1, e1⟩ : ∃ m, (if y < 1 then (1 : Int) else y) = m := ⟨_, rfl⟩
  obtain ⟨sd, e2⟩ : ∃ m, (if 64 < m1 then (64 : Int) else m1) = m := ⟨_, rfl⟩
  have ed : sideA x.toWn = sd := by unfold sideA; simp only [Int.min_def, Int.max_def]; rw [ey, ← e2, ← e1]; split <;> split <;> split <;> split <;> omega
  rw [ed] at hs1 hs2
  rw [ey] at hcI
  have s6 : IntKind.i64.wrap (128 * sd) = 128 * sd := Bw.1 _ (by omega) (by omega)
  have s8 : IntKind.i64.wrap (x.x - 128 * sd) = x.x - 128 * sd := Bw.1 _ (by omega) (by omega)
  have s9 : IntKind.i64.wrap (x.y - 128 * sd) = x.y - 128 * sd := Bw.1 _ (by omega) (by omega)
  have s7 : IntKind.i64.wrap (256 * sd) = 256 * sd := Bw.1 _ (by omega) (by omega)
  replace ed : Keep _ := ed
  unfold WnR.v
  refine HL.hc k14 999 ?_; unfold M14
  (all_goals (try simp only [Sq,Sr,Sh,Si,Sl,Bu,Bb,Bd,Bc,Bw,Bn,Int.reduceAdd,Int.reduceSub,Int.reduceMul,Int.reduceTDiv,Int.reduceTMod,Int.reduceMod,Int.reduceDiv,Nat.reduceLT,Nat.reduceEqDiff,Sa,Sb,Sc,Sd,Se,Sf,Sg,Int.reduceLE,Int.reduceLT,Int.reduceToNat,Int.reduceNeg,Int.reduceEq,Nat.reduceLeDiff,Nat.reducePow,Int.reducePow,reduceIte,Nat.reduceSub,Nat.reduceAdd,Nat.reduceMul,putAt,ceq,List.replicate, *])); repeat' ((first | (with_reducible refine fun _ : True => ?_) | refine hcC _ _ _ _ (by (repeat' (first | exact Grow.refl _ | assumption | (refine Grow_known (by first | (simp only [Heap.set_same, set_ne, ne_eq, not_false_eq_true, *] <;> rfl) | fail) ?_) | (refine Grow.set ?_ (by assumption) (by first | (simp only [*] <;> done) | (simp [set_none', Heap.set_same, set_ne, noneH, *] <;> done) | fail)) | (refine Grow.trans ?_ (by assumption))))) (by simp only [Heap.set_same, set_ne, ne_eq, not_false_eq_true, *] <;> rfl) ?_ | refine hcA _ _ ?_ | refine hcI _ _ ?_ | refine hcD _ _ ?_ | (with_reducible refine any_h ?_) | ((first | refine AllocQ_i ?_ | refine AllocO_i ?_); intro bk hb0 hbk; (try simp only [set_none'] at hbk); (try (first | have hbn := Grow.none (by assumption) hbk | have hbn := Grow.none (by assumption) hbk.2 | have hbn := Grow.none (by assumption) hbk.2.2 | have hbn := Grow.none (by assumption) hbk.2.2.2 | have hbn := Grow.none (by assumption) hbk.2.2.2.2 | have hbn := Grow.none (by assumption) hbk.2.2.2.2.2)); (try simp only [set_none'] at hbn); (try (first | have hbm := Grow.none (by assumption) hbn | have hbm := Grow.none (by assumption) hbn.2 | have hbm := Grow.none (by assumption) hbn.2.2 | have hbm := Grow.none (by assumption) hbn.2.2.2 | have hbm := Grow.none (by assumption) hbn.2.2.2.2 | have hbm := Grow.none (by assumption) hbn.2.2.2.2.2)); (try simp only [set_none'] at hbm)) | ((first | refine condS_i ?_ ?_ | refine pick_i ?_ ?_ | refine gS_it ?_ ?_ | refine gS_if ?_ ?_ | refine gP_it ?_ ?_ | refine gP_if ?_ ?_) <;> (intro hc; try simp only [Int.reduceLE,Int.reduceLT,Int.reduceEq,Sn] at hc)) | (with_reducible refine KP_i ?_ ?_; · (repeat' (first | exact Heap.Le.refl _ | (with_reducible refine Le_set2 ?_) | (refine Le_known (by first | (simp only [Heap.set_same, set_ne, ne_eq, not_false_eq_true, *] <;> rfl) | fail) ?_) | (refine Le_fresh (by first | (simp only [*] <;> done) | (simp [set_none', Heap.set_same, set_ne, noneH, *] <;> done) | fail) ?_) | (refine Heap.Le.trans ?_ (Grow.le (by assumption))) | exact Le_none | (refine Le_put ?_ (by first | (simp only [Heap.set_same, set_ne, ne_eq, not_false_eq_true, *] <;> rfl) | fail)) | fail))) | (with_reducible refine And.intro ?_ ?_)) <;> (try simp only [Sq,Sr,Sh,Si,Sl,Bu,Bb,Bd,Bc,Bw,Bn,Int.reduceAdd,Int.reduceSub,Int.reduceMul,Int.reduceTDiv,Int.reduceTMod,Int.reduceMod,Int.reduceDiv,Nat.reduceLT,Nat.reduceEqDiff,Sa,Sb,Sc,Sd,Se,Sf,Sg,Int.reduceLE,Int.reduceLT,Int.reduceToNat,Int.reduceNeg,Int.reduceEq,Nat.reduceLeDiff,Nat.reducePow,Int.reducePow,reduceIte,Nat.reduceSub,Nat.reduceAdd,Nat.reduceMul,putAt,ceq,List.replicate, *]))
  refine loopq_heap (fun H1 eH => ?_)
  rename_i b1 p1 q1
  have k1 : H1 b1 = some ⟨.t 25, x.row⟩ := by rw [eH]; exact (by simp only [Heap.set_same, set_ne, ne_eq, not_false_eq_true, *] <;> rfl)
  have g1 : Grow w0 H H1 := by rw [eH]; exact (by (repeat' (first | exact Grow.refl _ | assumption | (refine Grow_known (by first | (simp only [Heap.set_same, set_ne, ne_eq, not_false_eq_true, *] <;> rfl) | fail) ?_) | (refine Grow.set ?_ (by assumption) (by first | (simp only [*] <;> done) | (simp [set_none', Heap.set_same, set_ne, noneH, *] <;> done) | fail)) | (refine Grow.trans ?_ (by assumption)))))
  clear eH hcC hcA hcI e1 e2 ey
  refine loop_g 44 (fun s : (Nat × List Value × Option Addr × Nat × List FrR) × Heap => [(9, .slice s.1.2.2.1 s.1.2.2.2.2.length s.1.2.2.2.1), (10, s.1.2.1.getD 0 undef), (11, s.1.2.1.getD 1 undef), (12, s.1.2.1.getD 2 undef), (13, s.1.2.1.getD 3 undef), (14, s.1.2.1.getD 4 undef), (40, .int .i64 (s.1.1 : Nat)), (41, s.1.2.1.getD 5 undef), (42, s.1.2.1.getD 6 undef), (43, s.1.2.1.getD 7 undef)]) (fun s => s.2)
    (fun s => s.1.1 ≤ 64 ∧ Grow w0 H1 s.2 ∧ RB fragT w0 H1 s.2 s.1.2.2.1 s.1.2.2.2.1 s.1.2.2.2.2 ∧ s.1.2.2.2.2.map FrR.toFr = pointA x.toWn s.1.1)
    (fun s => 64 - s.1.1) ((0, [], none, 0, []), H1) ⟨Nat.zero_le _, Grow.refl _, RB.nil, rfl⟩ (Heap.Le.refl _) rfl ?_
  rintro ⟨⟨j, us, a', cap', os⟩, G⟩ g ⟨hj, hG, hB, hos⟩
  simp only at hj hG hB hos
  show run _ _ _ _ _ _ G
  have hlen : os.length ≤ 64 * j := by have := pointA_len x.toWn j; rw [← hos, List.length_map] at this; exact this
  rcases Nat.lt_or_ge j 64 with hlt | hge
  · have t0 : (j : Int) < 64 := by omega
    have t6 : IntKind.i64.wrap ((j : Int) + 1) = (j : Int) + 1 := Bw.1 _ (by omega) (by omega)
    clear h
    (all_goals (try simp only [Sq,Sr,Sh,Si,Sl,Bu,Bb,Bd,Bc,Bw,Bn,Int.reduceAdd,Int.reduceSub,Int.reduceMul,Int.reduceTDiv,Int.reduceTMod,Int.reduceMod,Int.reduceDiv,Nat.reduceLT,Nat.reduceEqDiff,Sa,Sb,Sc,Sd,Se,Sf,Sg,Int.reduceLE,Int.reduceLT,Int.reduceToNat,Int.reduceNeg,Int.reduceEq,Nat.reduceLeDiff,Nat.reducePow,Int.reducePow,reduceIte,Nat.reduceSub,Nat.reduceAdd,Nat.reduceMul,putAt,ceq,List.replicate, *])); repeat' ((first | (with_reducible refine fun _ : True => ?_) | (with_reducible refine any_h ?_) | ((first | refine AllocQ_i ?_ | refine AllocO_i ?_); intro bk hb0 hbk; (try simp only [set_none'] at hbk); (try (first | have hbn := Grow.none (by assumption) hbk | have hbn := Grow.none (by assumption) hbk.2 | have hbn := Grow.none (by assumption) hbk.2.2 | have hbn := Grow.none (by assumption) hbk.2.2.2 | have hbn := Grow.none (by assumption) hbk.2.2.2.2 | have hbn := Grow.none (by assumption) hbk.2.2.2.2.2)); (try simp only [set_none'] at hbn); (try (first | have hbm := Grow.none (by assumption) hbn | have hbm := Grow.none (by assumption) hbn.2 | have hbm := Grow.none (by assumption) hbn.2.2 | have hbm := Grow.none (by assumption) hbn.2.2.2 | have hbm := Grow.none (by assumption) hbn.2.2.2.2 | have hbm := Grow.none (by assumption) hbn.2.2.2.2.2)); (try simp only [set_none'] at hbm)) | ((first | refine condS_i ?_ ?_ | refine pick_i ?_ ?_ | refine gS_it ?_ ?_ | refine gS_if ?_ ?_ | refine gP_it ?_ ?_ | refine gP_if ?_ ?_) <;> (intro hc; try simp only [Int.reduceLE,Int.reduceLT,Int.reduceEq,Sn] at hc)) | (with_reducible refine KP_i ?_ ?_; · (repeat' (first | exact Heap.Le.refl _ | (with_reducible refine Le_set2 ?_) | (refine Le_known (by first | (simp only [Heap.set_same, set_ne, ne_eq, not_false_eq_true, *] <;> rfl) | fail) ?_) | (refine Le_fresh (by first | (simp only [*] <;> done) | (simp [set_none', Heap.set_same, set_ne, noneH, *] <;> done) | fail) ?_) | (refine Heap.Le.trans ?_ (Grow.le (by assumption))) | exact Le_none | (refine Le_put ?_ (by first | (simp only [Heap.set_same, set_ne, ne_eq, not_false_eq_true, *] <;> rfl) | fail)) | fail))) | (with_reducible refine And.intro ?_ ?_)) <;> (try simp only [Sq,Sr,Sh,Si,Sl,Bu,Bb,Bd,Bc,Bw,Bn,Int.reduceAdd,Int.reduceSub,Int.reduceMul,Int.reduceTDiv,Int.reduceTMod,Int.reduceMod,Int.reduceDiv,Nat.reduceLT,Nat.reduceEqDiff,Sa,Sb,Sc,Sd,Se,Sf,Sg,Int.reduceLE,Int.reduceLT,Int.reduceToNat,Int.reduceNeg,Int.reduceEq,Nat.reduceLeDiff,Nat.reducePow,Int.reducePow,reduceIte,Nat.reduceSub,Nat.reduceAdd,Nat.reduceMul,putAt,ceq,List.replicate, *]))
    refine loop_g 44 (fun s : (Nat × List Value × Option Addr × Nat × List FrR) × Heap => [(9, .slice s.1.2.2.1 s.1.2.2.2.2.length s.1.2.2.2.1), (11, s.1.2.1.getD 0 undef), (12, s.1.2.1.getD 1 undef), (13, s.1.2.1.getD 2 undef), (14, s.1.2.1.getD 3 undef), (43, .int .i64 (s.1.1 : Nat))]) (fun s => s.2)
      (fun s => s.1.1 ≤ 64 ∧ Grow w0 H1 s.2 ∧ RB fragT w0 H1 s.2 s.1.2.2.1 s.1.2.2.2.1 s.1.2.2.2.2 ∧ s.1.2.2.2.2.map FrR.toFr = pointA x.toWn j ++ dotsA x.toWn j s.1.1)
      (fun s => 64 - s.1.1) ((0, [us.getD 1 undef, us.getD 2 undef, us.getD 3 undef, us.getD 4 undef], a', cap', os), G) ⟨Nat.zero_le _, hG, hB, by rw [hos]; simp [dotsA]⟩ (Heap.Le.refl _) rfl ?_
    clear hB hG hos hlen
    rintro ⟨⟨k, vs, a2, cap2, os2⟩, G2⟩ g2 ⟨hk, hG, hB, hos⟩
    simp only at hk hG hB hos
    show run _ _ _ _ _ _ G2
    have hlen : os2.length ≤ 64 * j + k := by
      have h1 := pointA_len x.toWn j
      have h2 := dotsA_len x.toWn j k
      have := congrArg List.length hos
      rw [List.length_map, List.length_append] at this
      omega
    rcases Nat.lt_or_ge k 64 with hlk | hgk
    · have s0 : (k : Int) < 64 := by omega
      have s1 : IntKind.i64.wrap ((k : Int) + 1) = (k : Int) + 1 := Bw.1 _ (by omega) (by omega)
      have s2 : IntKind.i64.wrap (256 * (k : Int)) = 256 * (k : Int) := Bw.1 _ (by omega) (by omega)
      have s3 : IntKind.i64.wrap (256 * (k : Int) + 128) = 256 * (k : Int) + 128 := Bw.1 _ (by omega) (by omega)
      have s4 : IntKind.i64.wrap (256 * (j : Int)) = 256 * (j : Int) := Bw.1 _ (by omega) (by omega)
      have s5 : IntKind.i64.wrap (256 * (j : Int) + 128) = 256 * (j : Int) + 128 := Bw.1 _ (by omega) (by omega)
      have hstep := dotsA_succ x.toWn j k
      unfold dotA at hstep
      rw [show sideA x.toWn = sd from ed] at hstep
      obtain ⟨u, eu⟩ : ∃ u, 256 * (k : Int) + 128 - (x.x - 128 * sd) = u := ⟨_, rfl⟩
      obtain ⟨v, ev⟩ : ∃ v, 256 * (j : Int) + 128 - (x.y - 128 * sd) = v := ⟨_, rfl⟩
      have z1 : IntKind.i64.wrap (256 * (k : Int) + 128 - (x.x - 128 * sd)) = u := by rw [eu]; exact Bw.1 _ (by omega) (by omega)
      have z2 : IntKind.i64.wrap (256 * (j : Int) + 128 - (x.y - 128 * sd)) = v := by rw [ev]; exact Bw.1 _ (by omega) (by omega)
      rw [eu, ev] at hstep
      have bu : -100000 ≤ u ∧ u ≤ 100000 := by omega
      have bv : -100000 ≤ v ∧ v ≤ 100000 := by omega
      clear eu ev
      have z3 : IntKind.i64.wrap (65536 * u) = 65536 * u := Bw.1 _ (by omega) (by omega)
      have z4 : IntKind.i64.wrap (65536 * v) = 65536 * v := Bw.1 _ (by omega) (by omega)
      have z0 : ¬ 256 * sd = 0 := by omega
      replace hstep : Keep _ := hstep
      replace hos : Keep _ := hos
      rw [root1 (hG.some k1)]
      by_cases hin : (0 ≤ u ∧ u < 256 * sd) ∧ 0 ≤ v ∧ v < 256 * sd
      · have z5 : IntKind.i32.wrap ((65536 * u).tdiv (256 * sd)) = 65536 * u / (256 * sd) := quo_in hs1 hin.1
        have z6 : IntKind.i32.wrap ((65536 * v).tdiv (256 * sd)) = 65536 * v / (256 * sd) := quo_in hs1 hin.2
        have z7 : IntKind.i64.wrap ((65536 * u).tdiv (256 * sd)) = (65536 * u).tdiv (256 * sd) := quo_in2 hs1 hin.1
        have z8 : IntKind.i64.wrap ((65536 * v).tdiv (256 * sd)) = (65536 * v).tdiv (256 * sd) := quo_in2 hs1 hin.2
        have hin2 : pointA x.toWn j ++ dotsA x.toWn j (k + 1) = os2.map FrR.toFr ++ [(⟨k, j, x.z, fdiv 65536 x.w, true, vf (65536 * u / (256 * sd)) (65536 * v / (256 * sd)) 0 0, x.l⟩ : Fr)] := by
          rw [show dotsA x.toWn j (k + 1) = dotsA x.toWn j k ++ _ from hstep]
          unfold dotF
          rw [if_pos hin]
          rw [show os2.map FrR.toFr = _ from hos]
          simp
        replace hin2 : Keep _ := hin2
        obtain ⟨⟨i1, i2⟩, i3, i4⟩ := hin
        have n1 : ¬ u < 0 := by omega
        have n2 : ¬ 256 * sd ≤ u := by omega
        have n3 : ¬ v < 0 := by omega
        have n4 : ¬ 256 * sd ≤ v := by omega
        have hB' : RB fragT w0 H1 (G2.set b1 ⟨.t 25, x.row⟩) a2 cap2 os2 := by rw [← root1 (hG.some k1)]; exact hB
        have hG' : Grow w0 H1 (G2.set b1 ⟨.t 25, x.row⟩) := by rw [← root1 (hG.some k1)]; exact hG
        have hvo := hx.vs.grow (g1.trans hG')
        unfold WnR.row at *
        clear hstep hos hcD hB hG
        (all_goals (try simp only [Sq,Sr,Sh,Si,Sl,Bu,Bb,Bd,Bc,Bw,Bn,Int.reduceAdd,Int.reduceSub,Int.reduceMul,Int.reduceTDiv,Int.reduceTMod,Int.reduceMod,Int.reduceDiv,Nat.reduceLT,Nat.reduceEqDiff,Sa,Sb,Sc,Sd,Se,Sf,Sg,Int.reduceLE,Int.reduceLT,Int.reduceToNat,Int.reduceNeg,Int.reduceEq,Nat.reduceLeDiff,Nat.reducePow,Int.reducePow,reduceIte,Nat.reduceSub,Nat.reduceAdd,Nat.reduceMul,putAt,ceq,List.replicate, *])); repeat' ((first | (with_reducible refine fun _ : True => ?_) | refine c_cloneV x.a x.cap x.l (hvo.grow (by (repeat' (first | exact Grow.refl _ | assumption | (refine Grow_known (by first | (simp only [Heap.set_same, set_ne, ne_eq, not_false_eq_true, *] <;> rfl) | fail) ?_) | (refine Grow.set ?_ (by assumption) (by first | (simp only [*] <;> done) | (simp [set_none', Heap.set_same, set_ne, noneH, *] <;> done) | fail)) | (refine Grow.trans ?_ (by assumption)))))) (fun a3 cap3 H3 hn hg => ?_)  | (with_reducible refine any_h ?_) | ((first | refine AllocQ_i ?_ | refine AllocO_i ?_); intro bk hb0 hbk; (try simp only [set_none'] at hbk); (try (first | have hbn := Grow.none (by assumption) hbk | have hbn := Grow.none (by assumption) hbk.2 | have hbn := Grow.none (by assumption) hbk.2.2 | have hbn := Grow.none (by assumption) hbk.2.2.2 | have hbn := Grow.none (by assumption) hbk.2.2.2.2 | have hbn := Grow.none (by assumption) hbk.2.2.2.2.2)); (try simp only [set_none'] at hbn); (try (first | have hbm := Grow.none (by assumption) hbn | have hbm := Grow.none (by assumption) hbn.2 | have hbm := Grow.none (by assumption) hbn.2.2 | have hbm := Grow.none (by assumption) hbn.2.2.2 | have hbm := Grow.none (by assumption) hbn.2.2.2.2 | have hbm := Grow.none (by assumption) hbn.2.2.2.2.2)); (try simp only [set_none'] at hbm)) | ((first | refine condS_i ?_ ?_ | refine pick_i ?_ ?_ | refine gS_it ?_ ?_ | refine gS_if ?_ ?_ | refine gP_it ?_ ?_ | refine gP_if ?_ ?_) <;> (intro hc; try simp only [Int.reduceLE,Int.reduceLT,Int.reduceEq,Sn] at hc)) | (with_reducible refine KP_i ?_ ?_; · (repeat' (first | exact Heap.Le.refl _ | (with_reducible refine Le_set2 ?_) | (refine Le_known (by first | (simp only [Heap.set_same, set_ne, ne_eq, not_false_eq_true, *] <;> rfl) | fail) ?_) | (refine Le_fresh (by first | (simp only [*] <;> done) | (simp [set_none', Heap.set_same, set_ne, noneH, *] <;> done) | fail) ?_) | (refine Heap.Le.trans ?_ (Grow.le (by assumption))) | exact Le_none | (refine Le_put ?_ (by first | (simp only [Heap.set_same, set_ne, ne_eq, not_false_eq_true, *] <;> rfl) | fail)) | fail))) | (with_reducible refine And.intro ?_ ?_)) <;> (try simp only [Sq,Sr,Sh,Si,Sl,Bu,Bb,Bd,Bc,Bw,Bn,Int.reduceAdd,Int.reduceSub,Int.reduceMul,Int.reduceTDiv,Int.reduceTMod,Int.reduceMod,Int.reduceDiv,Nat.reduceLT,Nat.reduceEqDiff,Sa,Sb,Sc,Sd,Se,Sf,Sg,Int.reduceLE,Int.reduceLT,Int.reduceToNat,Int.reduceNeg,Int.reduceEq,Nat.reduceLeDiff,Nat.reducePow,Int.reducePow,reduceIte,Nat.reduceSub,Nat.reduceAdd,Nat.reduceMul,putAt,ceq,List.replicate, *]))
        rename_i b2 p2 q2
        have gA : Grow w0 (G2.set b1 ⟨.t 25, [.int .i64 x.x, .int .i64 x.y, .int .i32 x.z, .int .i32 x.w, .int .i32 x.s, .slice x.a x.l.length x.cap]⟩) H3 := Grow.trans (by (repeat' (first | exact Grow.refl _ | assumption | (refine Grow_known (by first | (simp only [Heap.set_same, set_ne, ne_eq, not_false_eq_true, *] <;> rfl) | fail) ?_) | (refine Grow.set ?_ (by assumption) (by first | (simp only [*] <;> done) | (simp [set_none', Heap.set_same, set_ne, noneH, *] <;> done) | fail)) | (refine Grow.trans ?_ (by assumption))))) hg
        have hn2 := hn.base (H0 := H1) (hG'.trans (by (repeat' (first | exact Grow.refl _ | assumption | (refine Grow_known (by first | (simp only [Heap.set_same, set_ne, ne_eq, not_false_eq_true, *] <;> rfl) | fail) ?_) | (refine Grow.set ?_ (by assumption) (by first | (simp only [*] <;> done) | (simp [set_none', Heap.set_same, set_ne, noneH, *] <;> done) | fail)) | (refine Grow.trans ?_ (by assumption))))))
        clear hn hg
        refine app_rb (R := fragT) (ns := [(⟨⟨k, j, x.z, fdiv 65536 x.w, true, vf (65536 * u / (256 * sd)) (65536 * v / (256 * sd)) 0 0, x.l⟩, a3, cap3⟩ : FrR)]) (hB'.grow (gA.trans (by (repeat' (first | exact Grow.refl _ | assumption | (refine Grow_known (by first | (simp only [Heap.set_same, set_ne, ne_eq, not_false_eq_true, *] <;> rfl) | fail) ?_) | (refine Grow.set ?_ (by assumption) (by first | (simp only [*] <;> done) | (simp [set_none', Heap.set_same, set_ne, noneH, *] <;> done) | fail)) | (refine Grow.trans ?_ (by assumption))))))) rfl (srd_blk (by simp only [Heap.set_same, set_ne, ne_eq, not_false_eq_true, *] <;> rfl) rfl) (fun z hz q hq => ?_) (hG'.trans (gA.trans (by (repeat' (first | exact Grow.refl _ | assumption | (refine Grow_known (by first | (simp only [Heap.set_same, set_ne, ne_eq, not_false_eq_true, *] <;> rfl) | fail) ?_) | (refine Grow.set ?_ (by assumption) (by first | (simp only [*] <;> done) | (simp [set_none', Heap.set_same, set_ne, noneH, *] <;> done) | fail)) | (refine Grow.trans ?_ (by assumption))))))) (by simp; omega) (by decide) (fun a4 c4 os4 G4 e4 hB4 hG4 => ?_)
        · obtain rfl := List.mem_singleton.1 hz
          obtain rfl := List.mem_singleton.1 hq
          exact hn2.at.grow (by (repeat' (first | exact Grow.refl _ | assumption | (refine Grow_known (by first | (simp only [Heap.set_same, set_ne, ne_eq, not_false_eq_true, *] <;> rfl) | fail) ?_) | (refine Grow.set ?_ (by assumption) (by first | (simp only [*] <;> done) | (simp [set_none', Heap.set_same, set_ne, noneH, *] <;> done) | fail)) | (refine Grow.trans ?_ (by assumption)))))
        · have e5 : os4.map FrR.toFr = pointA x.toWn j ++ dotsA x.toWn j (k + 1) := by rw [e4, List.map_append]; exact hin2.symm
          replace e5 : Keep _ := e5
          clear hin2 e4 hB' hG' hn2 gA hvo
          (all_goals (try simp only [Sq,Sr,Sh,Si,Sl,Bu,Bb,Bd,Bc,Bw,Bn,Int.reduceAdd,Int.reduceSub,Int.reduceMul,Int.reduceTDiv,Int.reduceTMod,Int.reduceMod,Int.reduceDiv,Nat.reduceLT,Nat.reduceEqDiff,Sa,Sb,Sc,Sd,Se,Sf,Sg,Int.reduceLE,Int.reduceLT,Int.reduceToNat,Int.reduceNeg,Int.reduceEq,Nat.reduceLeDiff,Nat.reducePow,Int.reducePow,reduceIte,Nat.reduceSub,Nat.reduceAdd,Nat.reduceMul,putAt,ceq,List.replicate, *])); repeat' ((first | (with_reducible refine fun _ : True => ?_) | (with_reducible refine any_h ?_) | ((first | refine AllocQ_i ?_ | refine AllocO_i ?_); intro bk hb0 hbk; (try simp only [set_none'] at hbk); (try (first | have hbn := Grow.none (by assumption) hbk | have hbn := Grow.none (by assumption) hbk.2 | have hbn := Grow.none (by assumption) hbk.2.2 | have hbn := Grow.none (by assumption) hbk.2.2.2 | have hbn := Grow.none (by assumption) hbk.2.2.2.2 | have hbn := Grow.none (by assumption) hbk.2.2.2.2.2)); (try simp only [set_none'] at hbn); (try (first | have hbm := Grow.none (by assumption) hbn | have hbm := Grow.none (by assumption) hbn.2 | have hbm := Grow.none (by assumption) hbn.2.2 | have hbm := Grow.none (by assumption) hbn.2.2.2 | have hbm := Grow.none (by assumption) hbn.2.2.2.2 | have hbm := Grow.none (by assumption) hbn.2.2.2.2.2)); (try simp only [set_none'] at hbm)) | ((first | refine condS_i ?_ ?_ | refine pick_i ?_ ?_ | refine gS_it ?_ ?_ | refine gS_if ?_ ?_ | refine gP_it ?_ ?_ | refine gP_if ?_ ?_) <;> (intro hc; try simp only [Int.reduceLE,Int.reduceLT,Int.reduceEq,Sn] at hc)) | (with_reducible refine KP_i ?_ ?_; · (repeat' (first | exact Heap.Le.refl _ | (with_reducible refine Le_set2 ?_) | (refine Le_known (by first | (simp only [Heap.set_same, set_ne, ne_eq, not_false_eq_true, *] <;> rfl) | fail) ?_) | (refine Le_fresh (by first | (simp only [*] <;> done) | (simp [set_none', Heap.set_same, set_ne, noneH, *] <;> done) | fail) ?_) | (refine Heap.Le.trans ?_ (Grow.le (by assumption))) | exact Le_none | (refine Le_put ?_ (by first | (simp only [Heap.set_same, set_ne, ne_eq, not_false_eq_true, *] <;> rfl) | fail)) | fail))) | (with_reducible refine And.intro ?_ ?_)) <;> (try simp only [Sq,Sr,Sh,Si,Sl,Bu,Bb,Bd,Bc,Bw,Bn,Int.reduceAdd,Int.reduceSub,Int.reduceMul,Int.reduceTDiv,Int.reduceTMod,Int.reduceMod,Int.reduceDiv,Nat.reduceLT,Nat.reduceEqDiff,Sa,Sb,Sc,Sd,Se,Sf,Sg,Int.reduceLE,Int.reduceLT,Int.reduceToNat,Int.reduceNeg,Int.reduceEq,Nat.reduceLeDiff,Nat.reducePow,Int.reducePow,reduceIte,Nat.reduceSub,Nat.reduceAdd,Nat.reduceMul,putAt,ceq,List.replicate, *]))
          exact Round_p (k + 1, [_, _, _, _], a4, c4, os4) ⟨hlk, hG4, hB4, e5⟩ (by simp only; omega) rfl rfl
      · have hout : os2.map FrR.toFr = pointA x.toWn j ++ dotsA x.toWn j (k + 1) := by
          rw [show dotsA x.toWn j (k + 1) = dotsA x.toWn j k ++ _ from hstep]
          unfold dotF
          rw [if_neg hin]
          rw [show os2.map FrR.toFr = _ from hos]
          simp
        have hG' : Grow w0 H1 (G2.set b1 ⟨.t 25, x.row⟩) := by rw [← root1 (hG.some k1)]; exact hG
        have hB' : RB fragT w0 H1 (G2.set b1 ⟨.t 25, x.row⟩) a2 cap2 os2 := by rw [← root1 (hG.some k1)]; exact hB
        replace hout : Keep _ := hout
        unfold WnR.row at *
        clear hstep hos hcD hB hG
        (all_goals (try simp only [Sq,Sr,Sh,Si,Sl,Bu,Bb,Bd,Bc,Bw,Bn,Int.reduceAdd,Int.reduceSub,Int.reduceMul,Int.reduceTDiv,Int.reduceTMod,Int.reduceMod,Int.reduceDiv,Nat.reduceLT,Nat.reduceEqDiff,Sa,Sb,Sc,Sd,Se,Sf,Sg,Int.reduceLE,Int.reduceLT,Int.reduceToNat,Int.reduceNeg,Int.reduceEq,Nat.reduceLeDiff,Nat.reducePow,Int.reducePow,reduceIte,Nat.reduceSub,Nat.reduceAdd,Nat.reduceMul,putAt,ceq,List.replicate, *])); repeat' ((first | (with_reducible refine fun _ : True => ?_) | (with_reducible refine any_h ?_) | ((first | refine AllocQ_i ?_ | refine AllocO_i ?_); intro bk hb0 hbk; (try simp only [set_none'] at hbk); (try (first | have hbn := Grow.none (by assumption) hbk | have hbn := Grow.none (by assumption) hbk.2 | have hbn := Grow.none (by assumption) hbk.2.2 | have hbn := Grow.none (by assumption) hbk.2.2.2 | have hbn := Grow.none (by assumption) hbk.2.2.2.2 | have hbn := Grow.none (by assumption) hbk.2.2.2.2.2)); (try simp only [set_none'] at hbn); (try (first | have hbm := Grow.none (by assumption) hbn | have hbm := Grow.none (by assumption) hbn.2 | have hbm := Grow.none (by assumption) hbn.2.2 | have hbm := Grow.none (by assumption) hbn.2.2.2 | have hbm := Grow.none (by assumption) hbn.2.2.2.2 | have hbm := Grow.none (by assumption) hbn.2.2.2.2.2)); (try simp only [set_none'] at hbm)) | ((first | refine condS_i ?_ ?_ | refine pick_i ?_ ?_ | refine gS_it ?_ ?_ | refine gS_if ?_ ?_ | refine gP_it ?_ ?_ | refine gP_if ?_ ?_) <;> (intro hc; try simp only [Int.reduceLE,Int.reduceLT,Int.reduceEq,Sn] at hc)) | (with_reducible refine KP_i ?_ ?_; · (repeat' (first | exact Heap.Le.refl _ | (with_reducible refine Le_set2 ?_) | (refine Le_known (by first | (simp only [Heap.set_same, set_ne, ne_eq, not_false_eq_true, *] <;> rfl) | fail) ?_) | (refine Le_fresh (by first | (simp only [*] <;> done) | (simp [set_none', Heap.set_same, set_ne, noneH, *] <;> done) | fail) ?_) | (refine Heap.Le.trans ?_ (Grow.le (by assumption))) | exact Le_none | (refine Le_put ?_ (by first | (simp only [Heap.set_same, set_ne, ne_eq, not_false_eq_true, *] <;> rfl) | fail)) | fail))) | (with_reducible refine And.intro ?_ ?_)) <;> (try simp only [Sq,Sr,Sh,Si,Sl,Bu,Bb,Bd,Bc,Bw,Bn,Int.reduceAdd,Int.reduceSub,Int.reduceMul,Int.reduceTDiv,Int.reduceTMod,Int.reduceMod,Int.reduceDiv,Nat.reduceLT,Nat.reduceEqDiff,Sa,Sb,Sc,Sd,Se,Sf,Sg,Int.reduceLE,Int.reduceLT,Int.reduceToNat,Int.reduceNeg,Int.reduceEq,Nat.reduceLeDiff,Nat.reducePow,Int.reducePow,reduceIte,Nat.reduceSub,Nat.reduceAdd,Nat.reduceMul,putAt,ceq,List.replicate, *]))
        all_goals first
          | exact Round_p (k + 1, [_, _, _, _], a2, cap2, os2) ⟨hlk, hG', hB', hout⟩ (by simp only; omega) rfl rfl
          | (exfalso; omega)
    · obtain rfl : k = 64 := by omega
      have t9 : ¬ ((64 : Nat) : Int) < 64 := by decide
      have hos' : os2.map FrR.toFr = pointA x.toWn (j + 1) := by rw [hos, pointA_succ]
      replace hos' : Keep _ := hos'
      clear hos
      (all_goals (try simp only [Sq,Sr,Sh,Si,Sl,Bu,Bb,Bd,Bc,Bw,Bn,Int.reduceAdd,Int.reduceSub,Int.reduceMul,Int.reduceTDiv,Int.reduceTMod,Int.reduceMod,Int.reduceDiv,Nat.reduceLT,Nat.reduceEqDiff,Sa,Sb,Sc,Sd,Se,Sf,Sg,Int.reduceLE,Int.reduceLT,Int.reduceToNat,Int.reduceNeg,Int.reduceEq,Nat.reduceLeDiff,Nat.reducePow,Int.reducePow,reduceIte,Nat.reduceSub,Nat.reduceAdd,Nat.reduceMul,putAt,ceq,List.replicate, *])); repeat' ((first | (with_reducible refine fun _ : True => ?_) | (with_reducible refine any_h ?_) | ((first | refine AllocQ_i ?_ | refine AllocO_i ?_); intro bk hb0 hbk; (try simp only [set_none'] at hbk); (try (first | have hbn := Grow.none (by assumption) hbk | have hbn := Grow.none (by assumption) hbk.2 | have hbn := Grow.none (by assumption) hbk.2.2 | have hbn := Grow.none (by assumption) hbk.2.2.2 | have hbn := Grow.none (by assumption) hbk.2.2.2.2 | have hbn := Grow.none (by assumption) hbk.2.2.2.2.2)); (try simp only [set_none'] at hbn); (try (first | have hbm := Grow.none (by assumption) hbn | have hbm := Grow.none (by assumption) hbn.2 | have hbm := Grow.none (by assumption) hbn.2.2 | have hbm := Grow.none (by assumption) hbn.2.2.2 | have hbm := Grow.none (by assumption) hbn.2.2.2.2 | have hbm := Grow.none (by assumption) hbn.2.2.2.2.2)); (try simp only [set_none'] at hbm)) | ((first | refine condS_i ?_ ?_ | refine pick_i ?_ ?_ | refine gS_it ?_ ?_ | refine gS_if ?_ ?_ | refine gP_it ?_ ?_ | refine gP_if ?_ ?_) <;> (intro hc; try simp only [Int.reduceLE,Int.reduceLT,Int.reduceEq,Sn] at hc)) | (with_reducible refine KP_i ?_ ?_; · (repeat' (first | exact Heap.Le.refl _ | (with_reducible refine Le_set2 ?_) | (refine Le_known (by first | (simp only [Heap.set_same, set_ne, ne_eq, not_false_eq_true, *] <;> rfl) | fail) ?_) | (refine Le_fresh (by first | (simp only [*] <;> done) | (simp [set_none', Heap.set_same, set_ne, noneH, *] <;> done) | fail) ?_) | (refine Heap.Le.trans ?_ (Grow.le (by assumption))) | exact Le_none | (refine Le_put ?_ (by first | (simp only [Heap.set_same, set_ne, ne_eq, not_false_eq_true, *] <;> rfl) | fail)) | fail))) | (with_reducible refine And.intro ?_ ?_)) <;> (try simp only [Sq,Sr,Sh,Si,Sl,Bu,Bb,Bd,Bc,Bw,Bn,Int.reduceAdd,Int.reduceSub,Int.reduceMul,Int.reduceTDiv,Int.reduceTMod,Int.reduceMod,Int.reduceDiv,Nat.reduceLT,Nat.reduceEqDiff,Sa,Sb,Sc,Sd,Se,Sf,Sg,Int.reduceLE,Int.reduceLT,Int.reduceToNat,Int.reduceNeg,Int.reduceEq,Nat.reduceLeDiff,Nat.reducePow,Int.reducePow,reduceIte,Nat.reduceSub,Nat.reduceAdd,Nat.reduceMul,putAt,ceq,List.replicate, *]))
      exact Round_p (j + 1, [_, _, _, _, _, _, _, _], a2, cap2, os2) ⟨hlt, hG, hB, hos'⟩ (by simp only; omega) rfl rfl
  · obtain rfl : j = 64 := by omega
    have t0 : ¬ ((64 : Nat) : Int) < 64 := by decide
    have h := h a' cap' os G hos (hB.ro hG) (g1.trans hG)
    (all_goals (try simp only [Sq,Sr,Sh,Si,Sl,Bu,Bb,Bd,Bc,Bw,Bn,Int.reduceAdd,Int.reduceSub,Int.reduceMul,Int.reduceTDiv,Int.reduceTMod,Int.reduceMod,Int.reduceDiv,Nat.reduceLT,Nat.reduceEqDiff,Sa,Sb,Sc,Sd,Se,Sf,Sg,Int.reduceLE,Int.reduceLT,Int.reduceToNat,Int.reduceNeg,Int.reduceEq,Nat.reduceLeDiff,Nat.reducePow,Int.reducePow,reduceIte,Nat.reduceSub,Nat.reduceAdd,Nat.reduceMul,putAt,ceq,List.replicate, *])); repeat' ((first | (with_reducible refine fun _ : True => ?_) | (with_reducible refine any_h ?_) | ((first | refine AllocQ_i ?_ | refine AllocO_i ?_); intro bk hb0 hbk; (try simp only [set_none'] at hbk); (try (first | have hbn := Grow.none (by assumption) hbk | have hbn := Grow.none (by assumption) hbk.2 | have hbn := Grow.none (by assumption) hbk.2.2 | have hbn := Grow.none (by assumption) hbk.2.2.2 | have hbn := Grow.none (by assumption) hbk.2.2.2.2 | have hbn := Grow.none (by assumption) hbk.2.2.2.2.2)); (try simp only [set_none'] at hbn); (try (first | have hbm := Grow.none (by assumption) hbn | have hbm := Grow.none (by assumption) hbn.2 | have hbm := Grow.none (by assumption) hbn.2.2 | have hbm := Grow.none (by assumption) hbn.2.2.2 | have hbm := Grow.none (by assumption) hbn.2.2.2.2 | have hbm := Grow.none (by assumption) hbn.2.2.2.2.2)); (try simp only [set_none'] at hbm)) | ((first | refine condS_i ?_ ?_ | refine pick_i ?_ ?_ | refine gS_it ?_ ?_ | refine gS_if ?_ ?_ | refine gP_it ?_ ?_ | refine gP_if ?_ ?_) <;> (intro hc; try simp only [Int.reduceLE,Int.reduceLT,Int.reduceEq,Sn] at hc)) | (with_reducible refine KP_i ?_ ?_; · (repeat' (first | exact Heap.Le.refl _ | (with_reducible refine Le_set2 ?_) | (refine Le_known (by first | (simp only [Heap.set_same, set_ne, ne_eq, not_false_eq_true, *] <;> rfl) | fail) ?_) | (refine Le_fresh (by first | (simp only [*] <;> done) | (simp [set_none', Heap.set_same, set_ne, noneH, *] <;> done) | fail) ?_) | (refine Heap.Le.trans ?_ (Grow.le (by assumption))) | exact Le_none | (refine Le_put ?_ (by first | (simp only [Heap.set_same, set_ne, ne_eq, not_false_eq_true, *] <;> rfl) | fail)) | fail))) | (with_reducible refine And.intro ?_ ?_)) <;> (try simp only [Sq,Sr,Sh,Si,Sl,Bu,Bb,Bd,Bc,Bw,Bn,Int.reduceAdd,Int.reduceSub,Int.reduceMul,Int.reduceTDiv,Int.reduceTMod,Int.reduceMod,Int.reduceDiv,Nat.reduceLT,Nat.reduceEqDiff,Sa,Sb,Sc,Sd,Se,Sf,Sg,Int.reduceLE,Int.reduceLT,Int.reduceToNat,Int.reduceNeg,Int.reduceEq,Nat.reduceLeDiff,Nat.reducePow,Int.reducePow,reduceIte,Nat.reduceSub,Nat.reduceAdd,Nat.reduceMul,putAt,ceq,List.replicate, *]))
    exact Fin_mk (Heap.Le.refl _) h
end Go.Proofs.Ytokjajfojjibcaa
