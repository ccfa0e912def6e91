/- The same fragments (layer 23). -/
import Derived.Test.YtokjajfojjibcaaLni
set_option linter.unusedSimpArgs false
set_option linter.unusedVariables false
set_option maxRecDepth 100000
set_option maxHeartbeats 8000000
namespace Go.Proofs.Ytokjajfojjibcaa
open Go Go.HL Go.RowKit Go.ChangeShapes Go.WideShapes Pb
variable {w0 : World} {H : Heap} {K : Value → Heap → Prop}

def A12_1 : PT := (.one true true ⟨(some 20), .mv (.tmp 0), none⟩ (.one true true ⟨(some 21), .mv (.tmp 5), none⟩ (.one true true ⟨(some 22), .is 10 (.tmp 20) (.tmp 21), none⟩ (.one true true ⟨(some 23), .ldn 10 (.tmp 22), none⟩ (.one true true ⟨(some 24), .mv (.tmp 1), none⟩ (.one true true ⟨(some 25), .mv (.tmp 5), none⟩ (.one true true ⟨(some 26), .is 10 (.tmp 24) (.tmp 25), none⟩ (.one true true ⟨(some 27), .ldn 10 (.tmp 26), none⟩ (.alt (.one false true ⟨(some 6), .alloc 46 [(.int .i64 0), (.int .i64 0), (.int .i32 0), (.int .i32 0), (.bool false), (.int .i32 0), (.int .i32 0), (.int .i32 0), (.int .i32 0), (.slice none 0 0)], none⟩ (.one false true ⟨(some 7), .alloc 46 [(.int .i64 0), (.int .i64 0), (.int .i32 0), (.int .i32 0), (.bool false), (.int .i32 0), (.int .i32 0), (.int .i32 0), (.int .i32 0), (.slice none 0 0)], none⟩ (.one false true ⟨none, .stn 10 (.tmp 6) (.tmp 23), none⟩ (.one false false ⟨none, .stn 10 (.tmp 7) (.tmp 27), none⟩ .nil))))
      (.one false true ⟨(some 7), .alloc 46 [(.int .i64 0), (.int .i64 0), (.int .i32 0), (.int .i32 0), (.bool false), (.int .i32 0), (.int .i32 0), (.int .i32 0), (.int .i32 0), (.slice none 0 0)], none⟩ (.one false true ⟨(some 6), .alloc 46 [(.int .i64 0), (.int .i64 0), (.int .i32 0), (.int .i32 0), (.bool false), (.int .i32 0), (.int .i32 0), (.int .i32 0), (.int .i32 0), (.slice none 0 0)], none⟩ (.one false true ⟨none, .stn 10 (.tmp 6) (.tmp 23), none⟩ (.one false false ⟨none, .stn 10 (.tmp 7) (.tmp 27), none⟩ .nil)))))))))))))
/- paintboxref23 Same -/
def M12 : MC :=
  .seq (.reg [⟨(some 4), .mv (.const (.bool false)), none⟩])
  (.seq (.seq (.reg [⟨(some 9), .mv (.tmp 0), none⟩,
       ⟨(some 10), .len (.tmp 9), none⟩,
       ⟨(some 11), .mv (.tmp 1), none⟩,
       ⟨(some 12), .len (.tmp 11), none⟩,
       ⟨(some 13), .bin .neq (.tmp 10) (.tmp 12), none⟩])
    (.cond (.tmp 13)
     (.seq (.reg [⟨(some 4), .mv (.const (.bool false)), none⟩])
      (.ret))
     (.skip)))
   (.seq (.seq (.reg [⟨(some 5), .mv (.const (.int .i64 0)), none⟩])
     (.block 0 (.loop (.seq (.seq (.reg [⟨(some 14), .mv (.tmp 5), none⟩,
            ⟨(some 15), .mv (.tmp 0), none⟩,
            ⟨(some 16), .len (.tmp 15), none⟩,
            ⟨(some 17), .bin .lss (.tmp 14) (.tmp 16), none⟩])
         (.cond (.tmp 17)
          (.skip)
          (.exit 0)))
        (.seq (.block 1 (.seq (.alts A12_1)
           (.seq (.seq (.reg [⟨(some 28), .fa 0 (.tmp 6), none⟩,
                ⟨(some 29), .ld1 (.tmp 28), none⟩,
                ⟨(some 30), .fa 0 (.tmp 7), none⟩,
                ⟨(some 31), .ld1 (.tmp 30), none⟩,
                ⟨(some 32), .bin .neq (.tmp 29) (.tmp 31), none⟩,
                ⟨(some 33), .mv (.tmp 32), none⟩,
                ⟨(some 34), .fa 1 (.tmp 6), (some (33, false))⟩,
                ⟨(some 35), .ld1 (.tmp 34), (some (33, false))⟩,
                ⟨(some 36), .fa 1 (.tmp 7), (some (33, false))⟩,
                ⟨(some 37), .ld1 (.tmp 36), (some (33, false))⟩,
                ⟨(some 38), .bin .neq (.tmp 35) (.tmp 37), (some (33, false))⟩,
                ⟨(some 39), .pick (.tmp 33) (.const (.bool true)) (.tmp 38), none⟩,
                ⟨(some 40), .mv (.tmp 39), none⟩,
                ⟨(some 41), .fa 2 (.tmp 6), (some (40, false))⟩,
                ⟨(some 42), .ld1 (.tmp 41), (some (40, false))⟩,
                ⟨(some 43), .fa 2 (.tmp 7), (some (40, false))⟩,
                ⟨(some 44), .ld1 (.tmp 43), (some (40, false))⟩,
                ⟨(some 45), .bin .neq (.tmp 42) (.tmp 44), (some (40, false))⟩,
                ⟨(some 46), .pick (.tmp 40) (.const (.bool true)) (.tmp 45), none⟩,
                ⟨(some 47), .mv (.tmp 46), none⟩,
                ⟨(some 48), .fa 3 (.tmp 6), (some (47, false))⟩,
                ⟨(some 49), .ld1 (.tmp 48), (some (47, false))⟩,
                ⟨(some 50), .fa 3 (.tmp 7), (some (47, false))⟩,
                ⟨(some 51), .ld1 (.tmp 50), (some (47, false))⟩,
                ⟨(some 52), .bin .neq (.tmp 49) (.tmp 51), (some (47, false))⟩,
                ⟨(some 53), .pick (.tmp 47) (.const (.bool true)) (.tmp 52), none⟩,
                ⟨(some 54), .mv (.tmp 53), none⟩,
                ⟨(some 55), .fa 4 (.tmp 6), (some (54, false))⟩,
                ⟨(some 56), .ld1 (.tmp 55), (some (54, false))⟩,
                ⟨(some 57), .fa 4 (.tmp 7), (some (54, false))⟩,
                ⟨(some 58), .ld1 (.tmp 57), (some (54, false))⟩,
                ⟨(some 59), .eqb true (.tmp 56) (.tmp 58), (some (54, false))⟩,
                ⟨(some 60), .pick (.tmp 54) (.const (.bool true)) (.tmp 59), none⟩,
                ⟨(some 61), .mv (.tmp 60), none⟩,
                ⟨(some 62), .fa 5 (.tmp 6), (some (61, false))⟩,
                ⟨(some 63), .ldn 4 (.tmp 62), (some (61, false))⟩,
                ⟨(some 64), .fa 5 (.tmp 7), (some (61, false))⟩,
                ⟨(some 65), .ldn 4 (.tmp 64), (some (61, false))⟩,
                ⟨(some 66), .eqa true 4 (.tmp 63) (.tmp 65), (some (61, false))⟩,
                ⟨(some 67), .pick (.tmp 61) (.const (.bool true)) (.tmp 66), none⟩,
                ⟨(some 68), .mv (.tmp 67), none⟩,
                ⟨(some 69), .fa 9 (.tmp 6), (some (68, false))⟩,
                ⟨(some 70), .ld1 (.tmp 69), (some (68, false))⟩,
                ⟨(some 71), .len (.tmp 70), (some (68, false))⟩,
                ⟨(some 72), .fa 9 (.tmp 7), (some (68, false))⟩,
                ⟨(some 73), .ld1 (.tmp 72), (some (68, false))⟩,
                ⟨(some 74), .len (.tmp 73), (some (68, false))⟩,
                ⟨(some 75), .bin .neq (.tmp 71) (.tmp 74), (some (68, false))⟩,
                ⟨(some 76), .pick (.tmp 68) (.const (.bool true)) (.tmp 75), none⟩])
             (.cond (.tmp 76)
              (.seq (.reg [⟨(some 4), .mv (.const (.bool false)), none⟩])
               (.ret))
              (.skip)))
            (.seq (.reg [⟨(some 8), .mv (.const (.int .i64 0)), none⟩])
             (.block 2 (.loop (.seq (.seq (.reg [⟨(some 77), .mv (.tmp 8), none⟩,
                    ⟨(some 78), .fa 9 (.tmp 6), none⟩,
                    ⟨(some 79), .ld1 (.tmp 78), none⟩,
                    ⟨(some 80), .len (.tmp 79), none⟩,
                    ⟨(some 81), .bin .lss (.tmp 77) (.tmp 80), none⟩])
                 (.cond (.tmp 81)
                  (.skip)
                  (.exit 2)))
                (.seq (.block 3 (.seq (.any [(true, true, ⟨(some 84), .fa 9 (.tmp 6), none⟩),
                      (true, true, ⟨(some 85), .ld1 (.tmp 84), none⟩),
                      (true, true, ⟨(some 86), .mv (.tmp 8), none⟩),
                      (true, true, ⟨(some 87), .is 4 (.tmp 85) (.tmp 86), none⟩),
                      (true, true, ⟨(some 88), .ldn 4 (.tmp 87), none⟩),
                      (true, true, ⟨(some 89), .fa 9 (.tmp 7), none⟩),
                      (true, true, ⟨(some 90), .ld1 (.tmp 89), none⟩),
                      (false, true, ⟨(some 91), .mv (.tmp 8), none⟩),
                      (false, true, ⟨(some 92), .is 4 (.tmp 90) (.tmp 91), none⟩),
                      (false, true, ⟨(some 93), .ldn 4 (.tmp 92), none⟩),
                      (false, false, ⟨(some 94), .eqa true 4 (.tmp 88) (.tmp 93), none⟩)])
                   (.cond (.tmp 94)
                    (.seq (.reg [⟨(some 4), .mv (.const (.bool false)), none⟩])
                     (.ret))
                    (.skip))))
                 (.reg [⟨(some 82), .mv (.tmp 8), none⟩,
                    ⟨(some 83), .bin .add (.tmp 82) (.const (.int .i64 1)), none⟩,
                    ⟨(some 8), .mv (.tmp 83), none⟩])))))))))
         (.reg [⟨(some 18), .mv (.tmp 5), none⟩,
            ⟨(some 19), .bin .add (.tmp 18) (.const (.int .i64 1)), none⟩,
            ⟨(some 5), .mv (.tmp 19), none⟩]))))))
    (.seq (.reg [⟨(some 4), .mv (.const (.bool true)), none⟩])
     (.ret))))
theorem k12 : fnOk Try.prog 12 = some (M12, [.t 4], 95) := by kernel_rfl

theorem r_Same (a a' : Option Addr) (c c' : Nat) (xs ys : List FrR) (hA : RO fragT w0 H a c xs) (hA' : RO fragT w0 H a' c' ys) (hl : xs.length ≤ 1000000) (e : xs.map FrR.toFr = ys.map FrR.toFr) (h : K (.bool true) H) :
    HCalls Try.prog w0 12 [.slice a xs.length c, .slice a' ys.length c'] H K := by
  have hl' : ys.length = xs.length := by have := congrArg List.length e; simpa using this.symm
  obtain ⟨n, en⟩ : ∃ n, xs.length = n := ⟨_, rfl⟩
  rw [hl', en]
  refine HL.hc k12 999 ?_; unfold M12
  (all_goals (try simp only [Sq,Sr,Sh,Si,Sl,Bu,Bb,Bd,Bc,Bw,Bn,Int.reduceAdd,Int.reduceSub,Int.reduceMul,Int.reduceTDiv,Int.reduceTMod,Int.reduceMod,Int.reduceDiv,Nat.reduceLT,Nat.reduceEqDiff,Sa,Sb,Sc,Sd,Se,Sf,Sg,Int.reduceLE,Int.reduceLT,Int.reduceToNat,Int.reduceNeg,Int.reduceEq,Nat.reduceLeDiff,Nat.reducePow,Int.reducePow,reduceIte,Nat.reduceSub,Nat.reduceAdd,Nat.reduceMul,putAt,ceq,List.replicate, *])); repeat' ((first | (with_reducible refine fun _ : True => ?_) | (refine AllocQ_i ?_; intro bk hb0 hbk; (try simp only [set_none'] at hbk); (try (first | have hbn := Grow.none (by assumption) hbk | have hbn := Grow.none (by assumption) hbk.2 | have hbn := Grow.none (by assumption) hbk.2.2 | have hbn := Grow.none (by assumption) hbk.2.2.2 | have hbn := Grow.none (by assumption) hbk.2.2.2.2 | have hbn := Grow.none (by assumption) hbk.2.2.2.2.2)); (try simp only [set_none'] at hbn); (try (first | have hbm := Grow.none (by assumption) hbn | have hbm := Grow.none (by assumption) hbn.2 | have hbm := Grow.none (by assumption) hbn.2.2 | have hbm := Grow.none (by assumption) hbn.2.2.2 | have hbm := Grow.none (by assumption) hbn.2.2.2.2 | have hbm := Grow.none (by assumption) hbn.2.2.2.2.2)); (try simp only [set_none'] at hbm)) | ((first | refine condS_i ?_ ?_ | refine pick_i ?_ ?_ | refine gS_it ?_ ?_ | refine gS_if ?_ ?_ | refine gP_it ?_ ?_ | refine gP_if ?_ ?_) <;> (intro hc; try simp only [Int.reduceLE,Int.reduceLT,Int.reduceEq,Sn] at hc)) | (refine KP_i (by (repeat' (first | exact Heap.Le.refl _ | (refine Le_known (by first | (simp only [Heap.set_same, set_ne, ne_eq, not_false_eq_true, *] <;> rfl) | fail) ?_) | (refine Le_fresh (by first | (simp only [*] <;> done) | (simp [set_none', Heap.set_same, set_ne, *] <;> done) | fail) ?_) | (refine Heap.Le.trans ?_ (Grow.le (by assumption)))))) ?_) | (with_reducible refine And.intro ?_ ?_)) <;> (try simp only [Sq,Sr,Sh,Si,Sl,Bu,Bb,Bd,Bc,Bw,Bn,Int.reduceAdd,Int.reduceSub,Int.reduceMul,Int.reduceTDiv,Int.reduceTMod,Int.reduceMod,Int.reduceDiv,Nat.reduceLT,Nat.reduceEqDiff,Sa,Sb,Sc,Sd,Se,Sf,Sg,Int.reduceLE,Int.reduceLT,Int.reduceToNat,Int.reduceNeg,Int.reduceEq,Nat.reduceLeDiff,Nat.reducePow,Int.reducePow,reduceIte,Nat.reduceSub,Nat.reduceAdd,Nat.reduceMul,putAt,ceq,List.replicate, *]))
  refine loop_g 9 (fun s : (Nat × Value × Value × Value) × Heap => [(5, .int .i64 (s.1.1 : Nat)), (6, s.1.2.1), (7, s.1.2.2.1), (8, s.1.2.2.2)]) (fun s => s.2) (fun s => s.1.1 ≤ n ∧ Grow w0 H s.2) (fun s => n - s.1.1) ((0, undef, undef, undef), H) ⟨Nat.zero_le _, Grow.refl _⟩ (Heap.Le.refl _) rfl ?_
  rintro ⟨⟨k, u6, u7, u8⟩, G⟩ g ⟨hk, hG⟩
  simp only at hk hG
  show run _ _ _ _ _ _ G
  rcases Nat.lt_or_ge k n with hlt | hge
  · obtain ⟨x, ex⟩ : ∃ v, xs[k]? = some v := ⟨_, List.getElem?_eq_getElem (by omega)⟩
    obtain ⟨y, ey⟩ : ∃ v, ys[k]? = some v := ⟨_, List.getElem?_eq_getElem (by omega)⟩
    obtain ⟨b, o, rfl, r1, -⟩ := (hA.grow hG).row ex
    obtain ⟨b', o', rfl, r2, -⟩ := (hA'.grow hG).row ey
    have ox := (hA.grow hG).ok x (List.mem_of_getElem? ex) _ (List.mem_singleton.2 rfl)
    have oy := (hA'.grow hG).ok y (List.mem_of_getElem? ey) _ (List.mem_singleton.2 rfl)
    have exy : x.toFr = y.toFr := by
      have := congrArg (fun l : List Fr => l[k]?) e
      simpa only [List.getElem?_map, ex, ey, Option.map_some, Option.some.injEq] using this
    obtain ⟨F, ax, cx⟩ := x
    obtain ⟨F', ay, cy⟩ := y
    simp only at exy
    subst exy
    replace r1 : rdn w0 G b (o + k * 10) 10 = some (FrR.row ⟨F, ax, cx⟩) := r1
    replace r2 : rdn w0 G b' (o' + k * 10) 10 = some (FrR.row ⟨F, ay, cy⟩) := r2
    unfold FrR.row at r1 r2
    simp only at r1 r2 ox oy
    have t0 : (k : Int) < (n : Int) := by omega
    have t6 : IntKind.i64.wrap ((k : Int) + 1) = (k : Int) + 1 := Bw.1 _ (by omega) (by omega)
    have e0 : ∀ i : Int, (i == i) = true := fun i => beq_self_eq_true i
    have e1 : ∀ i : Bool, (i == i) = true := fun i => beq_self_eq_true i
    clear hA hA' ex ey e en hl' h
    (all_goals (try simp only [Sq,Sr,Sh,Si,Sl,Bu,Bb,Bd,Bc,Bw,Bn,Int.reduceAdd,Int.reduceSub,Int.reduceMul,Int.reduceTDiv,Int.reduceTMod,Int.reduceMod,Int.reduceDiv,Nat.reduceLT,Nat.reduceEqDiff,Sa,Sb,Sc,Sd,Se,Sf,Sg,Int.reduceLE,Int.reduceLT,Int.reduceToNat,Int.reduceNeg,Int.reduceEq,Nat.reduceLeDiff,Nat.reducePow,Int.reducePow,reduceIte,Nat.reduceSub,Nat.reduceAdd,Nat.reduceMul,putAt,ceq,List.replicate, *])); repeat' ((first | (with_reducible refine fun _ : True => ?_) | (refine AllocQ_i ?_; intro bk hb0 hbk; (try simp only [set_none'] at hbk); (try (first | have hbn := Grow.none (by assumption) hbk | have hbn := Grow.none (by assumption) hbk.2 | have hbn := Grow.none (by assumption) hbk.2.2 | have hbn := Grow.none (by assumption) hbk.2.2.2 | have hbn := Grow.none (by assumption) hbk.2.2.2.2 | have hbn := Grow.none (by assumption) hbk.2.2.2.2.2)); (try simp only [set_none'] at hbn); (try (first | have hbm := Grow.none (by assumption) hbn | have hbm := Grow.none (by assumption) hbn.2 | have hbm := Grow.none (by assumption) hbn.2.2 | have hbm := Grow.none (by assumption) hbn.2.2.2 | have hbm := Grow.none (by assumption) hbn.2.2.2.2 | have hbm := Grow.none (by assumption) hbn.2.2.2.2.2)); (try simp only [set_none'] at hbm)) | ((first | refine condS_i ?_ ?_ | refine pick_i ?_ ?_ | refine gS_it ?_ ?_ | refine gS_if ?_ ?_ | refine gP_it ?_ ?_ | refine gP_if ?_ ?_) <;> (intro hc; try simp only [Int.reduceLE,Int.reduceLT,Int.reduceEq,Sn] at hc)) | (refine KP_i (by (repeat' (first | exact Heap.Le.refl _ | (refine Le_known (by first | (simp only [Heap.set_same, set_ne, ne_eq, not_false_eq_true, *] <;> rfl) | fail) ?_) | (refine Le_fresh (by first | (simp only [*] <;> done) | (simp [set_none', Heap.set_same, set_ne, *] <;> done) | fail) ?_) | (refine Heap.Le.trans ?_ (Grow.le (by assumption)))))) ?_) | (with_reducible refine And.intro ?_ ?_)) <;> (try simp only [Sq,Sr,Sh,Si,Sl,Bu,Bb,Bd,Bc,Bw,Bn,Int.reduceAdd,Int.reduceSub,Int.reduceMul,Int.reduceTDiv,Int.reduceTMod,Int.reduceMod,Int.reduceDiv,Nat.reduceLT,Nat.reduceEqDiff,Sa,Sb,Sc,Sd,Se,Sf,Sg,Int.reduceLE,Int.reduceLT,Int.reduceToNat,Int.reduceNeg,Int.reduceEq,Nat.reduceLeDiff,Nat.reducePow,Int.reducePow,reduceIte,Nat.reduceSub,Nat.reduceAdd,Nat.reduceMul,putAt,ceq,List.replicate, *]))
    refine pt_heap (fun G0 eG => ?_)
    have gH0 : Grow w0 G G0 := by rw [eG]; exact Grow.refl _
    subst eG
    refine alts_g (S := (Nat × Nat) × Heap) 8 (fun s => [(6, .pointer (some ⟨s.1.1, 0, none⟩)), (7, .pointer (some ⟨s.1.2, 0, none⟩))]) (fun s => s.2) (fun s => Grow w0 G0 s.2 ∧ s.1.1 ≠ s.1.2 ∧ (w0.heap.size ≤ s.1.1 ∧ G0 s.1.1 = none) ∧ (w0.heap.size ≤ s.1.2 ∧ G0 s.1.2 = none) ∧ s.2 s.1.1 = some ⟨46, FrR.row ⟨F, ax, cx⟩⟩ ∧ s.2 s.1.2 = some ⟨46, FrR.row ⟨F, ay, cy⟩⟩) 100 800 ?_ ?_ (by decide)
    · unfold A12_1
      (all_goals (try simp only [Sq,Sr,Sh,Si,Sl,Bu,Bb,Bd,Bc,Bw,Bn,Int.reduceAdd,Int.reduceSub,Int.reduceMul,Int.reduceTDiv,Int.reduceTMod,Int.reduceMod,Int.reduceDiv,Nat.reduceLT,Nat.reduceEqDiff,Sa,Sb,Sc,Sd,Se,Sf,Sg,Int.reduceLE,Int.reduceLT,Int.reduceToNat,Int.reduceNeg,Int.reduceEq,Nat.reduceLeDiff,Nat.reducePow,Int.reducePow,reduceIte,Nat.reduceSub,Nat.reduceAdd,Nat.reduceMul,putAt,ceq,List.replicate, *])); repeat' ((first | (with_reducible refine fun _ : True => ?_) | (refine AllocQ_i ?_; intro bk hb0 hbk; (try simp only [set_none'] at hbk); (try (first | have hbn := Grow.none (by assumption) hbk | have hbn := Grow.none (by assumption) hbk.2 | have hbn := Grow.none (by assumption) hbk.2.2 | have hbn := Grow.none (by assumption) hbk.2.2.2 | have hbn := Grow.none (by assumption) hbk.2.2.2.2 | have hbn := Grow.none (by assumption) hbk.2.2.2.2.2)); (try simp only [set_none'] at hbn); (try (first | have hbm := Grow.none (by assumption) hbn | have hbm := Grow.none (by assumption) hbn.2 | have hbm := Grow.none (by assumption) hbn.2.2 | have hbm := Grow.none (by assumption) hbn.2.2.2 | have hbm := Grow.none (by assumption) hbn.2.2.2.2 | have hbm := Grow.none (by assumption) hbn.2.2.2.2.2)); (try simp only [set_none'] at hbm)) | ((first | refine condS_i ?_ ?_ | refine pick_i ?_ ?_ | refine gS_it ?_ ?_ | refine gS_if ?_ ?_ | refine gP_it ?_ ?_ | refine gP_if ?_ ?_) <;> (intro hc; try simp only [Int.reduceLE,Int.reduceLT,Int.reduceEq,Sn] at hc)) | (refine KP_i (by (repeat' (first | exact Heap.Le.refl _ | (refine Le_known (by first | (simp only [Heap.set_same, set_ne, ne_eq, not_false_eq_true, *] <;> rfl) | fail) ?_) | (refine Le_fresh (by first | (simp only [*] <;> done) | (simp [set_none', Heap.set_same, set_ne, *] <;> done) | fail) ?_) | (refine Heap.Le.trans ?_ (Grow.le (by assumption)))))) ?_) | (with_reducible refine And.intro ?_ ?_)) <;> (try simp only [Sq,Sr,Sh,Si,Sl,Bu,Bb,Bd,Bc,Bw,Bn,Int.reduceAdd,Int.reduceSub,Int.reduceMul,Int.reduceTDiv,Int.reduceTMod,Int.reduceMod,Int.reduceDiv,Nat.reduceLT,Nat.reduceEqDiff,Sa,Sb,Sc,Sd,Se,Sf,Sg,Int.reduceLE,Int.reduceLT,Int.reduceToNat,Int.reduceNeg,Int.reduceEq,Nat.reduceLeDiff,Nat.reducePow,Int.reducePow,reduceIte,Nat.reduceSub,Nat.reduceAdd,Nat.reduceMul,putAt,ceq,List.replicate, *]))
      all_goals (rename_i b1 p1 q1 q2 q3; simp only [FrR.row])
      · exact Meet_p (b1, bk) ⟨(by (repeat' (first | exact Grow.refl _ | assumption | (refine Grow_known (by first | (simp only [Heap.set_same, set_ne, ne_eq, not_false_eq_true, *] <;> rfl) | fail) ?_) | (refine Grow.set ?_ (by assumption) (by first | (simp only [*] <;> done) | (simp [set_none', Heap.set_same, set_ne, *] <;> done) | fail)) | (refine Grow.trans ?_ (by assumption))))), hbk.1.2, ⟨p1, q2⟩, ⟨hb0, hbn⟩, (by simp only [Heap.set_same, set_ne, ne_eq, not_false_eq_true, *] <;> rfl), (by simp only [Heap.set_same, set_ne, ne_eq, not_false_eq_true, *] <;> rfl)⟩ rfl rfl
      · exact Meet_p (bk, b1) ⟨(by (repeat' (first | exact Grow.refl _ | assumption | (refine Grow_known (by first | (simp only [Heap.set_same, set_ne, ne_eq, not_false_eq_true, *] <;> rfl) | fail) ?_) | (refine Grow.set ?_ (by assumption) (by first | (simp only [*] <;> done) | (simp [set_none', Heap.set_same, set_ne, *] <;> done) | fail)) | (refine Grow.trans ?_ (by assumption))))), hbk.1.1, ⟨hb0, hbn⟩, ⟨p1, q2⟩, (by simp only [Heap.set_same, set_ne, ne_eq, not_false_eq_true, *] <;> rfl), (by simp only [Heap.set_same, set_ne, ne_eq, not_false_eq_true, *] <;> rfl)⟩ rfl rfl
    · rintro ⟨⟨b6, b7⟩, G2⟩ f ⟨hG2, hne, ⟨d1, d2⟩, ⟨d3, d4⟩, k6, k7⟩
      simp only at hG2 hne d1 d2 d3 d4 k6 k7
      show run _ _ _ _ _ _ G2
      simp only [FrR.row] at k6 k7
      have ox2 := ox.grow hG2
      have oy2 := oy.grow hG2
      have hlm := ox.lm
      have hr : ∀ (j : Nat) (v : Nat → Int), F.l[j]? = some v → (∃ b o, ax = some ⟨b, o, none⟩ ∧ rdn w0 G2 b (o + j * 4) 4 = some (VC v) ∧ b6 ≠ b ∧ b7 ≠ b) ∧ ∃ b o, ay = some ⟨b, o, none⟩ ∧ rdn w0 G2 b (o + j * 4) 4 = some (VC v) ∧ b6 ≠ b ∧ b7 ≠ b := fun j v e => by
        obtain ⟨b, o, e1, r1, f1⟩ := rows_vs ox e
        obtain ⟨b', o', e2, r2, f2⟩ := rows_vs oy e
        obtain ⟨b3, o3, e3, r3, -⟩ := rows_vs ox2 e
        obtain ⟨b4, o4, e4, r4, -⟩ := rows_vs oy2 e
        rw [e1] at e3; cases e3
        rw [e2] at e4; cases e4
        exact ⟨⟨b, o, e1, r3, f1 _ d1 d2, f1 _ d3 d4⟩, b', o', e2, r4, f2 _ d1 d2, f2 _ d3 d4⟩
      obtain ⟨m, em⟩ : ∃ m, F.l.length = m := ⟨_, rfl⟩
      rw [em] at hlm k6 k7
      clear ox oy ox2 oy2 r1 r2
      have hne2 : b7 ≠ b6 := fun e => hne e.symm
      rw [root2 hne k6 k7]
      (all_goals (try simp only [Sq,Sr,Sh,Si,Sl,Bu,Bb,Bd,Bc,Bw,Bn,Int.reduceAdd,Int.reduceSub,Int.reduceMul,Int.reduceTDiv,Int.reduceTMod,Int.reduceMod,Int.reduceDiv,Nat.reduceLT,Nat.reduceEqDiff,Sa,Sb,Sc,Sd,Se,Sf,Sg,Int.reduceLE,Int.reduceLT,Int.reduceToNat,Int.reduceNeg,Int.reduceEq,Nat.reduceLeDiff,Nat.reducePow,Int.reducePow,reduceIte,Nat.reduceSub,Nat.reduceAdd,Nat.reduceMul,putAt,ceq,List.replicate, *])); repeat' ((first | (with_reducible refine fun _ : True => ?_) | (refine AllocQ_i ?_; intro bk hb0 hbk; (try simp only [set_none'] at hbk); (try (first | have hbn := Grow.none (by assumption) hbk | have hbn := Grow.none (by assumption) hbk.2 | have hbn := Grow.none (by assumption) hbk.2.2 | have hbn := Grow.none (by assumption) hbk.2.2.2 | have hbn := Grow.none (by assumption) hbk.2.2.2.2 | have hbn := Grow.none (by assumption) hbk.2.2.2.2.2)); (try simp only [set_none'] at hbn); (try (first | have hbm := Grow.none (by assumption) hbn | have hbm := Grow.none (by assumption) hbn.2 | have hbm := Grow.none (by assumption) hbn.2.2 | have hbm := Grow.none (by assumption) hbn.2.2.2 | have hbm := Grow.none (by assumption) hbn.2.2.2.2 | have hbm := Grow.none (by assumption) hbn.2.2.2.2.2)); (try simp only [set_none'] at hbm)) | ((first | refine condS_i ?_ ?_ | refine pick_i ?_ ?_ | refine gS_it ?_ ?_ | refine gS_if ?_ ?_ | refine gP_it ?_ ?_ | refine gP_if ?_ ?_) <;> (intro hc; try simp only [Int.reduceLE,Int.reduceLT,Int.reduceEq,Sn] at hc)) | (refine KP_i (by (repeat' (first | exact Heap.Le.refl _ | (refine Le_known (by first | (simp only [Heap.set_same, set_ne, ne_eq, not_false_eq_true, *] <;> rfl) | fail) ?_) | (refine Le_fresh (by first | (simp only [*] <;> done) | (simp [set_none', Heap.set_same, set_ne, *] <;> done) | fail) ?_) | (refine Heap.Le.trans ?_ (Grow.le (by assumption)))))) ?_) | (with_reducible refine And.intro ?_ ?_)) <;> (try simp only [Sq,Sr,Sh,Si,Sl,Bu,Bb,Bd,Bc,Bw,Bn,Int.reduceAdd,Int.reduceSub,Int.reduceMul,Int.reduceTDiv,Int.reduceTMod,Int.reduceMod,Int.reduceDiv,Nat.reduceLT,Nat.reduceEqDiff,Sa,Sb,Sc,Sd,Se,Sf,Sg,Int.reduceLE,Int.reduceLT,Int.reduceToNat,Int.reduceNeg,Int.reduceEq,Nat.reduceLeDiff,Nat.reducePow,Int.reducePow,reduceIte,Nat.reduceSub,Nat.reduceAdd,Nat.reduceMul,putAt,ceq,List.replicate, *]))
      rw [← root2 hne k6 k7]
      refine loop_g 9 (fun s : Nat => [(8, .int .i64 (s : Nat))]) (fun _ => G2) (fun s => s ≤ m) (fun s => m - s) 0 (Nat.zero_le _) (Heap.Le.refl _) rfl ?_
      intro j g2 hj
      rcases Nat.lt_or_ge j m with hlj | hgj
      · obtain ⟨v, ev⟩ : ∃ v, F.l[j]? = some v := ⟨_, List.getElem?_eq_getElem (by omega)⟩
        obtain ⟨⟨b3, o3, rfl, r3, n1, n2⟩, b4, o4, rfl, r4, n3, n4⟩ := hr j v ev
        have s0 : (j : Int) < (m : Int) := by omega
        have s6 : IntKind.i64.wrap ((j : Int) + 1) = (j : Int) + 1 := Bw.1 _ (by omega) (by unfold maxLen at hlm; omega)
        clear hr ev em
        rw [root2 hne k6 k7]
        clear k6 k7
        (all_goals (try simp only [Sq,Sr,Sh,Si,Sl,Bu,Bb,Bd,Bc,Bw,Bn,Int.reduceAdd,Int.reduceSub,Int.reduceMul,Int.reduceTDiv,Int.reduceTMod,Int.reduceMod,Int.reduceDiv,Nat.reduceLT,Nat.reduceEqDiff,Sa,Sb,Sc,Sd,Se,Sf,Sg,Int.reduceLE,Int.reduceLT,Int.reduceToNat,Int.reduceNeg,Int.reduceEq,Nat.reduceLeDiff,Nat.reducePow,Int.reducePow,reduceIte,Nat.reduceSub,Nat.reduceAdd,Nat.reduceMul,putAt,ceq,List.replicate, *])); repeat' ((first | (with_reducible refine fun _ : True => ?_) | (refine AllocQ_i ?_; intro bk hb0 hbk; (try simp only [set_none'] at hbk); (try (first | have hbn := Grow.none (by assumption) hbk | have hbn := Grow.none (by assumption) hbk.2 | have hbn := Grow.none (by assumption) hbk.2.2 | have hbn := Grow.none (by assumption) hbk.2.2.2 | have hbn := Grow.none (by assumption) hbk.2.2.2.2 | have hbn := Grow.none (by assumption) hbk.2.2.2.2.2)); (try simp only [set_none'] at hbn); (try (first | have hbm := Grow.none (by assumption) hbn | have hbm := Grow.none (by assumption) hbn.2 | have hbm := Grow.none (by assumption) hbn.2.2 | have hbm := Grow.none (by assumption) hbn.2.2.2 | have hbm := Grow.none (by assumption) hbn.2.2.2.2 | have hbm := Grow.none (by assumption) hbn.2.2.2.2.2)); (try simp only [set_none'] at hbm)) | ((first | refine condS_i ?_ ?_ | refine pick_i ?_ ?_ | refine gS_it ?_ ?_ | refine gS_if ?_ ?_ | refine gP_it ?_ ?_ | refine gP_if ?_ ?_) <;> (intro hc; try simp only [Int.reduceLE,Int.reduceLT,Int.reduceEq,Sn] at hc)) | (refine KP_i (by (repeat' (first | exact Heap.Le.refl _ | (refine Le_known (by first | (simp only [Heap.set_same, set_ne, ne_eq, not_false_eq_true, *] <;> rfl) | fail) ?_) | (refine Le_fresh (by first | (simp only [*] <;> done) | (simp [set_none', Heap.set_same, set_ne, *] <;> done) | fail) ?_) | (refine Heap.Le.trans ?_ (Grow.le (by assumption)))))) ?_) | (with_reducible refine And.intro ?_ ?_)) <;> (try simp only [Sq,Sr,Sh,Si,Sl,Bu,Bb,Bd,Bc,Bw,Bn,Int.reduceAdd,Int.reduceSub,Int.reduceMul,Int.reduceTDiv,Int.reduceTMod,Int.reduceMod,Int.reduceDiv,Nat.reduceLT,Nat.reduceEqDiff,Sa,Sb,Sc,Sd,Se,Sf,Sg,Int.reduceLE,Int.reduceLT,Int.reduceToNat,Int.reduceNeg,Int.reduceEq,Nat.reduceLeDiff,Nat.reducePow,Int.reducePow,reduceIte,Nat.reduceSub,Nat.reduceAdd,Nat.reduceMul,putAt,ceq,List.replicate, *]))
        exact Round_mk (j + 1) hlj (by omega) (by (repeat' (first | exact Heap.Le.refl _ | (refine Le_known (by first | (simp only [Heap.set_same, set_ne, ne_eq, not_false_eq_true, *] <;> rfl) | fail) ?_) | (refine Le_fresh (by first | (simp only [*] <;> done) | (simp [set_none', Heap.set_same, set_ne, *] <;> done) | fail) ?_) | (refine Heap.Le.trans ?_ (Grow.le (by assumption)))))) rfl rfl
      · obtain rfl : m = j := by omega
        have s0 : ¬ ((m : Nat) : Int) < ((m : Nat) : Int) := by omega
        clear hr
        have gF := hG.trans hG2
        rw [root2 hne k6 k7]
        (all_goals (try simp only [Sq,Sr,Sh,Si,Sl,Bu,Bb,Bd,Bc,Bw,Bn,Int.reduceAdd,Int.reduceSub,Int.reduceMul,Int.reduceTDiv,Int.reduceTMod,Int.reduceMod,Int.reduceDiv,Nat.reduceLT,Nat.reduceEqDiff,Sa,Sb,Sc,Sd,Se,Sf,Sg,Int.reduceLE,Int.reduceLT,Int.reduceToNat,Int.reduceNeg,Int.reduceEq,Nat.reduceLeDiff,Nat.reducePow,Int.reducePow,reduceIte,Nat.reduceSub,Nat.reduceAdd,Nat.reduceMul,putAt,ceq,List.replicate, *])); repeat' ((first | (with_reducible refine fun _ : True => ?_) | (refine AllocQ_i ?_; intro bk hb0 hbk; (try simp only [set_none'] at hbk); (try (first | have hbn := Grow.none (by assumption) hbk | have hbn := Grow.none (by assumption) hbk.2 | have hbn := Grow.none (by assumption) hbk.2.2 | have hbn := Grow.none (by assumption) hbk.2.2.2 | have hbn := Grow.none (by assumption) hbk.2.2.2.2 | have hbn := Grow.none (by assumption) hbk.2.2.2.2.2)); (try simp only [set_none'] at hbn); (try (first | have hbm := Grow.none (by assumption) hbn | have hbm := Grow.none (by assumption) hbn.2 | have hbm := Grow.none (by assumption) hbn.2.2 | have hbm := Grow.none (by assumption) hbn.2.2.2 | have hbm := Grow.none (by assumption) hbn.2.2.2.2 | have hbm := Grow.none (by assumption) hbn.2.2.2.2.2)); (try simp only [set_none'] at hbm)) | ((first | refine condS_i ?_ ?_ | refine pick_i ?_ ?_ | refine gS_it ?_ ?_ | refine gS_if ?_ ?_ | refine gP_it ?_ ?_ | refine gP_if ?_ ?_) <;> (intro hc; try simp only [Int.reduceLE,Int.reduceLT,Int.reduceEq,Sn] at hc)) | (refine KP_i (by (repeat' (first | exact Heap.Le.refl _ | (refine Le_known (by first | (simp only [Heap.set_same, set_ne, ne_eq, not_false_eq_true, *] <;> rfl) | fail) ?_) | (refine Le_fresh (by first | (simp only [*] <;> done) | (simp [set_none', Heap.set_same, set_ne, *] <;> done) | fail) ?_) | (refine Heap.Le.trans ?_ (Grow.le (by assumption)))))) ?_) | (with_reducible refine And.intro ?_ ?_)) <;> (try simp only [Sq,Sr,Sh,Si,Sl,Bu,Bb,Bd,Bc,Bw,Bn,Int.reduceAdd,Int.reduceSub,Int.reduceMul,Int.reduceTDiv,Int.reduceTMod,Int.reduceMod,Int.reduceDiv,Nat.reduceLT,Nat.reduceEqDiff,Sa,Sb,Sc,Sd,Se,Sf,Sg,Int.reduceLE,Int.reduceLT,Int.reduceToNat,Int.reduceNeg,Int.reduceEq,Nat.reduceLeDiff,Nat.reducePow,Int.reducePow,reduceIte,Nat.reduceSub,Nat.reduceAdd,Nat.reduceMul,putAt,ceq,List.replicate, *]))
        rw [← root2 hne k6 k7]
        exact Round_p (k + 1, _, _, _) ⟨hlt, gF⟩ (by simp only; omega) rfl rfl
  · obtain rfl : n = k := by omega
    have t0 : ¬ ((n : Nat) : Int) < ((n : Nat) : Int) := by omega
    clear hA hA' e hl'
    (all_goals (try simp only [Sq,Sr,Sh,Si,Sl,Bu,Bb,Bd,Bc,Bw,Bn,Int.reduceAdd,Int.reduceSub,Int.reduceMul,Int.reduceTDiv,Int.reduceTMod,Int.reduceMod,Int.reduceDiv,Nat.reduceLT,Nat.reduceEqDiff,Sa,Sb,Sc,Sd,Se,Sf,Sg,Int.reduceLE,Int.reduceLT,Int.reduceToNat,Int.reduceNeg,Int.reduceEq,Nat.reduceLeDiff,Nat.reducePow,Int.reducePow,reduceIte,Nat.reduceSub,Nat.reduceAdd,Nat.reduceMul,putAt,ceq,List.replicate, *])); repeat' ((first | (with_reducible refine fun _ : True => ?_) | (refine AllocQ_i ?_; intro bk hb0 hbk; (try simp only [set_none'] at hbk); (try (first | have hbn := Grow.none (by assumption) hbk | have hbn := Grow.none (by assumption) hbk.2 | have hbn := Grow.none (by assumption) hbk.2.2 | have hbn := Grow.none (by assumption) hbk.2.2.2 | have hbn := Grow.none (by assumption) hbk.2.2.2.2 | have hbn := Grow.none (by assumption) hbk.2.2.2.2.2)); (try simp only [set_none'] at hbn); (try (first | have hbm := Grow.none (by assumption) hbn | have hbm := Grow.none (by assumption) hbn.2 | have hbm := Grow.none (by assumption) hbn.2.2 | have hbm := Grow.none (by assumption) hbn.2.2.2 | have hbm := Grow.none (by assumption) hbn.2.2.2.2 | have hbm := Grow.none (by assumption) hbn.2.2.2.2.2)); (try simp only [set_none'] at hbm)) | ((first | refine condS_i ?_ ?_ | refine pick_i ?_ ?_ | refine gS_it ?_ ?_ | refine gS_if ?_ ?_ | refine gP_it ?_ ?_ | refine gP_if ?_ ?_) <;> (intro hc; try simp only [Int.reduceLE,Int.reduceLT,Int.reduceEq,Sn] at hc)) | (refine KP_i (by (repeat' (first | exact Heap.Le.refl _ | (refine Le_known (by first | (simp only [Heap.set_same, set_ne, ne_eq, not_false_eq_true, *] <;> rfl) | fail) ?_) | (refine Le_fresh (by first | (simp only [*] <;> done) | (simp [set_none', Heap.set_same, set_ne, *] <;> done) | fail) ?_) | (refine Heap.Le.trans ?_ (Grow.le (by assumption)))))) ?_) | (with_reducible refine And.intro ?_ ?_)) <;> (try simp only [Sq,Sr,Sh,Si,Sl,Bu,Bb,Bd,Bc,Bw,Bn,Int.reduceAdd,Int.reduceSub,Int.reduceMul,Int.reduceTDiv,Int.reduceTMod,Int.reduceMod,Int.reduceDiv,Nat.reduceLT,Nat.reduceEqDiff,Sa,Sb,Sc,Sd,Se,Sf,Sg,Int.reduceLE,Int.reduceLT,Int.reduceToNat,Int.reduceNeg,Int.reduceEq,Nat.reduceLeDiff,Nat.reducePow,Int.reducePow,reduceIte,Nat.reduceSub,Nat.reduceAdd,Nat.reduceMul,putAt,ceq,List.replicate, *]))
    exact Fin_mk (fun c x e => hG.some e) h
end Go.Proofs.Ytokjajfojjibcaa
