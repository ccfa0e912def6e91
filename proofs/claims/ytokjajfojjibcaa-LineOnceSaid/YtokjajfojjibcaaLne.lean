/- Numbers between two, by both (layer 23). -/
import Derived.Test.YtokjajfojjibcaaLnc
import Derived.Test.YtokjajfojjibcaaLnd
set_option linter.unusedSimpArgs false
set_option linter.unusedVariables false
set_option maxRecDepth 100000
set_option maxHeartbeats 8000000
namespace Go.Proofs.Ytokjajfojjibcaa
open Go.HL Go.RowKit Pb
variable {w0 : World} {H : Heap} {K : Value → Heap → Prop}

/-- May two parts be, and two w? -/
def BtOk (p q x y : Int) : Prop := 0 ≤ p ∧ 0 ≤ q ∧ (0 < p ∨ 0 < q) ∧ 0 < x ∧ 0 < y
def btwI (a b p q x y : Int) : Int := nearI a b (q * x) (p * y + q * x)
theorem bt_facts {p q x y : Int} (h : BtOk p q x y) (hp : p ≤ 2147483647) (hq : q ≤ 2147483647) (hx : x ≤ 2147483647) (hy : y ≤ 2147483647) :
    0 ≤ q * x ∧ 0 ≤ p * y ∧ q * x ≤ 4611686014132420609 ∧ p * y ≤ 4611686014132420609 ∧ 0 < p * y + q * x := by
  obtain ⟨h1, h2, h3, h4, h5⟩ := h
  have a1 : 0 ≤ q * x := Int.mul_nonneg h2 (by omega)
  have a2 : 0 ≤ p * y := Int.mul_nonneg h1 (by omega)
  have a3 := Int.mul_le_mul hq hx (by omega) (by omega)
  have a4 := Int.mul_le_mul hp hy (by omega) (by omega)
  refine ⟨a1, a2, by omega, by omega, ?_⟩
  rcases h3 with h | h
  · have := Int.mul_pos h h5; omega
  · have := Int.mul_pos h h4; omega
theorem bt_between {a b p q x y : Int} (h : BtOk p q x y) (hp : p ≤ 2147483647) (hq : q ≤ 2147483647) (hx : x ≤ 2147483647) (hy : y ≤ 2147483647) :
    (if b < a then b else a) ≤ btwI a b p q x y ∧ btwI a b p q x y ≤ (if b > a then b else a) := by
  obtain ⟨h1, h2, h3, h4, h5⟩ := bt_facts h hp hq hx hy
  exact near_between h5 h1 (by omega)
theorem bt_raw {a b p q x y : Int} (ha : I32 a) (hb : I32 b) (h : BtOk p q x y) (hp : p ≤ 2147483647) (hq : q ≤ 2147483647) (hx : x ≤ 2147483647) (hy : y ≤ 2147483647) : raw (btwI a b p q x y) = btwI a b p q x y := by
  have := bt_between (a := a) (b := b) h hp hq hx hy
  unfold I32 at ha hb
  refine raw_in ?_
  unfold I32
  split at this <;> split at this <;> omega
/- line Between -/
def M16 : MC :=
  .seq (.reg [⟨(some 9), .box 39 (.tmp 4), none⟩,
     ⟨(some 10), .mv (.const (.int .i32 0)), none⟩])
  (.seq (.seq (.reg [⟨(some 13), .mv (.tmp 2), none⟩,
       ⟨(some 14), .bin .lss (.tmp 13) (.const (.int .i32 0)), none⟩,
       ⟨(some 15), .mv (.tmp 14), none⟩,
       ⟨(some 16), .mv (.tmp 3), (some (15, false))⟩,
       ⟨(some 17), .bin .lss (.tmp 16) (.const (.int .i32 0)), (some (15, false))⟩,
       ⟨(some 18), .pick (.tmp 15) (.const (.bool true)) (.tmp 17), none⟩,
       ⟨(some 19), .mv (.tmp 18), none⟩,
       ⟨(some 20), .mv (.tmp 2), (some (19, false))⟩,
       ⟨(some 21), .bin .eql (.tmp 20) (.const (.int .i32 0)), (some (19, false))⟩,
       ⟨(some 22), .mv (.tmp 21), (some (19, false))⟩,
       ⟨(some 23), .mv (.tmp 3), (some (22, true))⟩,
       ⟨(some 24), .bin .eql (.tmp 23) (.const (.int .i32 0)), (some (22, true))⟩,
       ⟨(some 25), .pick (.tmp 22) (.tmp 24) (.const (.bool false)), (some (19, false))⟩,
       ⟨(some 26), .pick (.tmp 19) (.const (.bool true)) (.tmp 25), none⟩,
       ⟨(some 27), .mv (.tmp 26), none⟩,
       ⟨(some 28), .ia 2 1 (.tmp 9) (.const (.int .i64 0)), (some (27, false))⟩,
       ⟨(some 29), .ld1 (.tmp 28), (some (27, false))⟩,
       ⟨(some 30), .bin .leq (.tmp 29) (.const (.int .i32 0)), (some (27, false))⟩,
       ⟨(some 31), .pick (.tmp 27) (.const (.bool true)) (.tmp 30), none⟩,
       ⟨(some 32), .mv (.tmp 31), none⟩,
       ⟨(some 33), .ia 2 1 (.tmp 9) (.const (.int .i64 1)), (some (32, false))⟩,
       ⟨(some 34), .ld1 (.tmp 33), (some (32, false))⟩,
       ⟨(some 35), .bin .leq (.tmp 34) (.const (.int .i32 0)), (some (32, false))⟩,
       ⟨(some 36), .pick (.tmp 32) (.const (.bool true)) (.tmp 35), none⟩])
    (.cond (.tmp 36)
     (.seq (.reg [⟨(some 10), .mv (.const (.int .i32 0)), none⟩])
      (.ret))
     (.skip)))
   (.seq (.any [(true, 0, [], ⟨(some 37), .mv (.tmp 2), none⟩),
       (true, 1, [], ⟨(some 38), .conv .u64 (.tmp 37), none⟩),
       (true, 2, [], ⟨(some 39), .ia 2 1 (.tmp 9) (.const (.int .i64 1)), none⟩),
       (true, 3, [], ⟨(some 40), .ld1 (.tmp 39), none⟩),
       (true, 4, [], ⟨(some 41), .conv .u64 (.tmp 40), none⟩),
       (true, 5, [], ⟨(some 42), .bin .mul (.tmp 38) (.tmp 41), none⟩),
       (true, 6, [], ⟨(some 43), .mv (.tmp 3), none⟩),
       (true, 7, [], ⟨(some 44), .conv .u64 (.tmp 43), none⟩),
       (true, 8, [], ⟨(some 45), .ia 2 1 (.tmp 9) (.const (.int .i64 0)), none⟩),
       (true, 9, [], ⟨(some 46), .ld1 (.tmp 45), none⟩),
       (true, 10, [], ⟨(some 47), .conv .u64 (.tmp 46), none⟩),
       (true, 11, [], ⟨(some 48), .bin .mul (.tmp 44) (.tmp 47), none⟩),
       (false, 12, [6, 7, 8, 9, 10, 11], ⟨(some 11), .mv (.tmp 42), none⟩),
       (false, 13, [], ⟨(some 12), .mv (.tmp 48), none⟩)])
    (.seq (.reg [⟨(some 49), .mv (.tmp 0), none⟩,
        ⟨(some 50), .conv .i64 (.tmp 49), none⟩,
        ⟨(some 51), .mv (.tmp 1), none⟩,
        ⟨(some 52), .conv .i64 (.tmp 51), none⟩,
        ⟨(some 53), .mv (.tmp 12), none⟩,
        ⟨(some 54), .mv (.tmp 11), none⟩,
        ⟨(some 55), .mv (.tmp 12), none⟩,
        ⟨(some 56), .bin .add (.tmp 54) (.tmp 55), none⟩,
        ⟨(some 57), .call 37 [(.tmp 50), (.tmp 52), (.tmp 53), (.tmp 56)], none⟩,
        ⟨(some 58), .call 36 [(.tmp 57)], none⟩,
        ⟨(some 10), .mv (.tmp 58), none⟩])
     (.ret))))
theorem k16 : fnOk Try.prog 16 = some (M16, [.t 10], 59) := by kernel_rfl

theorem c_Between_ok (a b p q x y : Int) (ha : I32 a) (hb : I32 b) (hp : I32 p) (hq : I32 q) (hx : I32 x) (hy : I32 y) (hh : BtOk p q x y) (h : K (.int .i32 (btwI a b p q x y)) H) : HCalls Try.prog w0 16 [.int .i32 a, .int .i32 b, .int .i32 p, .int .i32 q, .agg #[.int .i32 x, .int .i32 y]] H K := by
  have hr := bt_raw ha hb hh hp.2 hq.2 hx.2 hy.2
  obtain ⟨f1, f2, f3, f4, f5⟩ := bt_facts hh hp.2 hq.2 hx.2 hy.2
  have ha' := ha
  have hb' := hb
  unfold I32 at ha' hb' hp hq hx hy
  obtain ⟨h1, h2, h3, h4, h5⟩ := hh
  have c1 : IntKind.u64.wrap p = p := Bu.1 _ (by omega) (by omega)
  have c2 : IntKind.u64.wrap q = q := Bu.1 _ (by omega) (by omega)
  have c3 : IntKind.u64.wrap x = x := Bu.1 _ (by omega) (by omega)
  have c4 : IntKind.u64.wrap y = y := Bu.1 _ (by omega) (by omega)
  have c5 : IntKind.u64.wrap (p * y) = p * y := Bu.1 _ (by omega) (by omega)
  have c6 : IntKind.u64.wrap (q * x) = q * x := Bu.1 _ (by omega) (by omega)
  have c7 : IntKind.u64.wrap (p * y + q * x) = p * y + q * x := Bu.1 _ (by omega) (by omega)
  have c8 : IntKind.i64.wrap a = a := Bw.1 _ (by omega) (by omega)
  have c9 : IntKind.i64.wrap b = b := Bw.1 _ (by omega) (by omega)
  have d1 : ¬ p < 0 := by omega
  have d2 : ¬ q < 0 := by omega
  have d3 : ¬ x ≤ 0 := by omega
  have d4 : ¬ y ≤ 0 := by omega
  have cN : ∀ (G : Heap) (K : Value → Heap → Prop), K (.int .i64 (btwI a b p q x y)) G → HCalls Try.prog w0 37 [.int .i64 a, .int .i64 b, .int .u64 (q * x), .int .u64 (p * y + q * x)] G K := fun G K hk => c_nearest a b (q * x) (p * y + q * x) ha hb ⟨f1, by omega⟩ ⟨f5, by omega⟩ hk
  replace cN : Keep _ := cN
  by_cases e0 : p = 0
  · have e1 : ¬ q = 0 := by omega
    subst e0
    refine HL.hc k16 999 ?_; unfold M16
    (all_goals (try simp only [Sq,Sr,Sh,Si,Sl,Bu,Bb,Bd,Bc,Bw,Bn,Int.reduceAdd,Int.reduceSub,Int.reduceMul,Int.reduceTDiv,Int.reduceTMod,Int.reduceMod,Int.reduceDiv,Nat.reduceLT,Nat.reduceEqDiff,Sa,Sb,Sc,Sd,Se,Sf,Sg,Int.reduceLE,Int.reduceLT,Int.reduceToNat,Int.reduceNeg,Int.reduceEq,Nat.reduceLeDiff,Nat.reducePow,Int.reducePow,reduceIte,Nat.reduceSub,Nat.reduceAdd,Nat.reduceMul,putAt,ceq,List.replicate, *])); repeat' ((first | (with_reducible refine fun _ : True => ?_) | refine cN _ _ ?_ | refine c_Raw _ ?_ | (with_reducible refine any_h ?_) | ((first | refine AllocQ_i ?_ | refine AllocO_i ?_); intro bk hb0 hbk; try simp only [set_none'] at hbk) | ((first | refine condS_i ?_ ?_ | refine pick_i ?_ ?_ | refine gS_it ?_ ?_ | refine gS_if ?_ ?_ | refine gP_it ?_ ?_ | refine gP_if ?_ ?_) <;> (intro hc; try simp only [Int.reduceLE,Int.reduceLT,Int.reduceEq,Sn] at hc)) | (with_reducible refine KP_i ?_ ?_; · (repeat' (first | exact Heap.Le.refl _ | (refine Le_fresh (by first | exact (by simp only [*]) | exact (by simp [set_none', *])) ?_) | (refine Heap.Le.trans ?_ (Grow.le (by assumption)))))) | (with_reducible refine And.intro ?_ ?_)) <;> (try simp only [Sq,Sr,Sh,Si,Sl,Bu,Bb,Bd,Bc,Bw,Bn,Int.reduceAdd,Int.reduceSub,Int.reduceMul,Int.reduceTDiv,Int.reduceTMod,Int.reduceMod,Int.reduceDiv,Nat.reduceLT,Nat.reduceEqDiff,Sa,Sb,Sc,Sd,Se,Sf,Sg,Int.reduceLE,Int.reduceLT,Int.reduceToNat,Int.reduceNeg,Int.reduceEq,Nat.reduceLeDiff,Nat.reducePow,Int.reducePow,reduceIte,Nat.reduceSub,Nat.reduceAdd,Nat.reduceMul,putAt,ceq,List.replicate, *]))
    all_goals exact Fin_mk (by (repeat' (first | exact Heap.Le.refl _ | (with_reducible refine Le_set2 ?_) | (refine Le_known (by first | (simp only [Heap.set_same, set_ne, ne_eq, not_false_eq_true, *] <;> rfl) | fail) ?_) | (refine Le_fresh (by first | (simp only [*] <;> done) | (simp [set_none', Heap.set_same, set_ne, noneH, *] <;> done) | fail) ?_) | (refine Heap.Le.trans ?_ (Grow.le (by assumption))) | exact Le_none | (refine Le_put ?_ (by first | (simp only [Heap.set_same, set_ne, ne_eq, not_false_eq_true, *] <;> rfl) | fail)) | fail))) h
  · refine HL.hc k16 999 ?_; unfold M16
    (all_goals (try simp only [Sq,Sr,Sh,Si,Sl,Bu,Bb,Bd,Bc,Bw,Bn,Int.reduceAdd,Int.reduceSub,Int.reduceMul,Int.reduceTDiv,Int.reduceTMod,Int.reduceMod,Int.reduceDiv,Nat.reduceLT,Nat.reduceEqDiff,Sa,Sb,Sc,Sd,Se,Sf,Sg,Int.reduceLE,Int.reduceLT,Int.reduceToNat,Int.reduceNeg,Int.reduceEq,Nat.reduceLeDiff,Nat.reducePow,Int.reducePow,reduceIte,Nat.reduceSub,Nat.reduceAdd,Nat.reduceMul,putAt,ceq,List.replicate, *])); repeat' ((first | (with_reducible refine fun _ : True => ?_) | refine cN _ _ ?_ | refine c_Raw _ ?_ | (with_reducible refine any_h ?_) | ((first | refine AllocQ_i ?_ | refine AllocO_i ?_); intro bk hb0 hbk; try simp only [set_none'] at hbk) | ((first | refine condS_i ?_ ?_ | refine pick_i ?_ ?_ | refine gS_it ?_ ?_ | refine gS_if ?_ ?_ | refine gP_it ?_ ?_ | refine gP_if ?_ ?_) <;> (intro hc; try simp only [Int.reduceLE,Int.reduceLT,Int.reduceEq,Sn] at hc)) | (with_reducible refine KP_i ?_ ?_; · (repeat' (first | exact Heap.Le.refl _ | (refine Le_fresh (by first | exact (by simp only [*]) | exact (by simp [set_none', *])) ?_) | (refine Heap.Le.trans ?_ (Grow.le (by assumption)))))) | (with_reducible refine And.intro ?_ ?_)) <;> (try simp only [Sq,Sr,Sh,Si,Sl,Bu,Bb,Bd,Bc,Bw,Bn,Int.reduceAdd,Int.reduceSub,Int.reduceMul,Int.reduceTDiv,Int.reduceTMod,Int.reduceMod,Int.reduceDiv,Nat.reduceLT,Nat.reduceEqDiff,Sa,Sb,Sc,Sd,Se,Sf,Sg,Int.reduceLE,Int.reduceLT,Int.reduceToNat,Int.reduceNeg,Int.reduceEq,Nat.reduceLeDiff,Nat.reducePow,Int.reducePow,reduceIte,Nat.reduceSub,Nat.reduceAdd,Nat.reduceMul,putAt,ceq,List.replicate, *]))
    exact Fin_mk (by (repeat' (first | exact Heap.Le.refl _ | (with_reducible refine Le_set2 ?_) | (refine Le_known (by first | (simp only [Heap.set_same, set_ne, ne_eq, not_false_eq_true, *] <;> rfl) | fail) ?_) | (refine Le_fresh (by first | (simp only [*] <;> done) | (simp [set_none', Heap.set_same, set_ne, noneH, *] <;> done) | fail) ?_) | (refine Heap.Le.trans ?_ (Grow.le (by assumption))) | exact Le_none | (refine Le_put ?_ (by first | (simp only [Heap.set_same, set_ne, ne_eq, not_false_eq_true, *] <;> rfl) | fail)) | fail))) h
theorem c_Between_no (a b p q x y : Int) (hh : ¬ BtOk p q x y) (h : K (.int .i32 0) H) : HCalls Try.prog w0 16 [.int .i32 a, .int .i32 b, .int .i32 p, .int .i32 q, .agg #[.int .i32 x, .int .i32 y]] H K := by
  have cN : ∀ (G : Heap) (K : Value → Heap → Prop) (v1 v2 q' d' : Int), (0 ≤ p → 0 ≤ q → (0 < p ∨ 0 < q) → 0 < x → 0 < y → False) := fun _ _ _ _ _ _ h1 h2 h3 h4 h5 => hh ⟨h1, h2, h3, h4, h5⟩
  unfold BtOk at hh
  clear cN
  by_cases d1 : p < 0
  · clear hh
    refine HL.hc k16 999 ?_; unfold M16
    (all_goals (try simp only [Sq,Sr,Sh,Si,Sl,Bu,Bb,Bd,Bc,Bw,Bn,Int.reduceAdd,Int.reduceSub,Int.reduceMul,Int.reduceTDiv,Int.reduceTMod,Int.reduceMod,Int.reduceDiv,Nat.reduceLT,Nat.reduceEqDiff,Sa,Sb,Sc,Sd,Se,Sf,Sg,Int.reduceLE,Int.reduceLT,Int.reduceToNat,Int.reduceNeg,Int.reduceEq,Nat.reduceLeDiff,Nat.reducePow,Int.reducePow,reduceIte,Nat.reduceSub,Nat.reduceAdd,Nat.reduceMul,putAt,ceq,List.replicate, *])); repeat' ((first | (with_reducible refine fun _ : True => ?_) | (with_reducible refine any_h ?_) | ((first | refine AllocQ_i ?_ | refine AllocO_i ?_); intro bk hb0 hbk; try simp only [set_none'] at hbk) | ((first | refine condS_i ?_ ?_ | refine pick_i ?_ ?_ | refine gS_it ?_ ?_ | refine gS_if ?_ ?_ | refine gP_it ?_ ?_ | refine gP_if ?_ ?_) <;> (intro hc; try simp only [Int.reduceLE,Int.reduceLT,Int.reduceEq,Sn] at hc)) | (with_reducible refine KP_i ?_ ?_; · (repeat' (first | exact Heap.Le.refl _ | (refine Le_fresh (by first | exact (by simp only [*]) | exact (by simp [set_none', *])) ?_) | (refine Heap.Le.trans ?_ (Grow.le (by assumption)))))) | (with_reducible refine And.intro ?_ ?_)) <;> (try simp only [Sq,Sr,Sh,Si,Sl,Bu,Bb,Bd,Bc,Bw,Bn,Int.reduceAdd,Int.reduceSub,Int.reduceMul,Int.reduceTDiv,Int.reduceTMod,Int.reduceMod,Int.reduceDiv,Nat.reduceLT,Nat.reduceEqDiff,Sa,Sb,Sc,Sd,Se,Sf,Sg,Int.reduceLE,Int.reduceLT,Int.reduceToNat,Int.reduceNeg,Int.reduceEq,Nat.reduceLeDiff,Nat.reducePow,Int.reducePow,reduceIte,Nat.reduceSub,Nat.reduceAdd,Nat.reduceMul,putAt,ceq,List.replicate, *]))
    exact Fin_mk (by (repeat' (first | exact Heap.Le.refl _ | (with_reducible refine Le_set2 ?_) | (refine Le_known (by first | (simp only [Heap.set_same, set_ne, ne_eq, not_false_eq_true, *] <;> rfl) | fail) ?_) | (refine Le_fresh (by first | (simp only [*] <;> done) | (simp [set_none', Heap.set_same, set_ne, noneH, *] <;> done) | fail) ?_) | (refine Heap.Le.trans ?_ (Grow.le (by assumption))) | exact Le_none | (refine Le_put ?_ (by first | (simp only [Heap.set_same, set_ne, ne_eq, not_false_eq_true, *] <;> rfl) | fail)) | fail))) h
  · by_cases d2 : q < 0
    · clear hh
      refine HL.hc k16 999 ?_; unfold M16
      (all_goals (try simp only [Sq,Sr,Sh,Si,Sl,Bu,Bb,Bd,Bc,Bw,Bn,Int.reduceAdd,Int.reduceSub,Int.reduceMul,Int.reduceTDiv,Int.reduceTMod,Int.reduceMod,Int.reduceDiv,Nat.reduceLT,Nat.reduceEqDiff,Sa,Sb,Sc,Sd,Se,Sf,Sg,Int.reduceLE,Int.reduceLT,Int.reduceToNat,Int.reduceNeg,Int.reduceEq,Nat.reduceLeDiff,Nat.reducePow,Int.reducePow,reduceIte,Nat.reduceSub,Nat.reduceAdd,Nat.reduceMul,putAt,ceq,List.replicate, *])); repeat' ((first | (with_reducible refine fun _ : True => ?_) | (with_reducible refine any_h ?_) | ((first | refine AllocQ_i ?_ | refine AllocO_i ?_); intro bk hb0 hbk; try simp only [set_none'] at hbk) | ((first | refine condS_i ?_ ?_ | refine pick_i ?_ ?_ | refine gS_it ?_ ?_ | refine gS_if ?_ ?_ | refine gP_it ?_ ?_ | refine gP_if ?_ ?_) <;> (intro hc; try simp only [Int.reduceLE,Int.reduceLT,Int.reduceEq,Sn] at hc)) | (with_reducible refine KP_i ?_ ?_; · (repeat' (first | exact Heap.Le.refl _ | (refine Le_fresh (by first | exact (by simp only [*]) | exact (by simp [set_none', *])) ?_) | (refine Heap.Le.trans ?_ (Grow.le (by assumption)))))) | (with_reducible refine And.intro ?_ ?_)) <;> (try simp only [Sq,Sr,Sh,Si,Sl,Bu,Bb,Bd,Bc,Bw,Bn,Int.reduceAdd,Int.reduceSub,Int.reduceMul,Int.reduceTDiv,Int.reduceTMod,Int.reduceMod,Int.reduceDiv,Nat.reduceLT,Nat.reduceEqDiff,Sa,Sb,Sc,Sd,Se,Sf,Sg,Int.reduceLE,Int.reduceLT,Int.reduceToNat,Int.reduceNeg,Int.reduceEq,Nat.reduceLeDiff,Nat.reducePow,Int.reducePow,reduceIte,Nat.reduceSub,Nat.reduceAdd,Nat.reduceMul,putAt,ceq,List.replicate, *]))
      exact Fin_mk (by (repeat' (first | exact Heap.Le.refl _ | (with_reducible refine Le_set2 ?_) | (refine Le_known (by first | (simp only [Heap.set_same, set_ne, ne_eq, not_false_eq_true, *] <;> rfl) | fail) ?_) | (refine Le_fresh (by first | (simp only [*] <;> done) | (simp [set_none', Heap.set_same, set_ne, noneH, *] <;> done) | fail) ?_) | (refine Heap.Le.trans ?_ (Grow.le (by assumption))) | exact Le_none | (refine Le_put ?_ (by first | (simp only [Heap.set_same, set_ne, ne_eq, not_false_eq_true, *] <;> rfl) | fail)) | fail))) h
    · by_cases d3 : p = 0 ∧ q = 0
      · obtain ⟨rfl, rfl⟩ := d3
        clear hh
        refine HL.hc k16 999 ?_; unfold M16
        (all_goals (try simp only [Sq,Sr,Sh,Si,Sl,Bu,Bb,Bd,Bc,Bw,Bn,Int.reduceAdd,Int.reduceSub,Int.reduceMul,Int.reduceTDiv,Int.reduceTMod,Int.reduceMod,Int.reduceDiv,Nat.reduceLT,Nat.reduceEqDiff,Sa,Sb,Sc,Sd,Se,Sf,Sg,Int.reduceLE,Int.reduceLT,Int.reduceToNat,Int.reduceNeg,Int.reduceEq,Nat.reduceLeDiff,Nat.reducePow,Int.reducePow,reduceIte,Nat.reduceSub,Nat.reduceAdd,Nat.reduceMul,putAt,ceq,List.replicate, *])); repeat' ((first | (with_reducible refine fun _ : True => ?_) | (with_reducible refine any_h ?_) | ((first | refine AllocQ_i ?_ | refine AllocO_i ?_); intro bk hb0 hbk; try simp only [set_none'] at hbk) | ((first | refine condS_i ?_ ?_ | refine pick_i ?_ ?_ | refine gS_it ?_ ?_ | refine gS_if ?_ ?_ | refine gP_it ?_ ?_ | refine gP_if ?_ ?_) <;> (intro hc; try simp only [Int.reduceLE,Int.reduceLT,Int.reduceEq,Sn] at hc)) | (with_reducible refine KP_i ?_ ?_; · (repeat' (first | exact Heap.Le.refl _ | (refine Le_fresh (by first | exact (by simp only [*]) | exact (by simp [set_none', *])) ?_) | (refine Heap.Le.trans ?_ (Grow.le (by assumption)))))) | (with_reducible refine And.intro ?_ ?_)) <;> (try simp only [Sq,Sr,Sh,Si,Sl,Bu,Bb,Bd,Bc,Bw,Bn,Int.reduceAdd,Int.reduceSub,Int.reduceMul,Int.reduceTDiv,Int.reduceTMod,Int.reduceMod,Int.reduceDiv,Nat.reduceLT,Nat.reduceEqDiff,Sa,Sb,Sc,Sd,Se,Sf,Sg,Int.reduceLE,Int.reduceLT,Int.reduceToNat,Int.reduceNeg,Int.reduceEq,Nat.reduceLeDiff,Nat.reducePow,Int.reducePow,reduceIte,Nat.reduceSub,Nat.reduceAdd,Nat.reduceMul,putAt,ceq,List.replicate, *]))
        exact Fin_mk (by (repeat' (first | exact Heap.Le.refl _ | (with_reducible refine Le_set2 ?_) | (refine Le_known (by first | (simp only [Heap.set_same, set_ne, ne_eq, not_false_eq_true, *] <;> rfl) | fail) ?_) | (refine Le_fresh (by first | (simp only [*] <;> done) | (simp [set_none', Heap.set_same, set_ne, noneH, *] <;> done) | fail) ?_) | (refine Heap.Le.trans ?_ (Grow.le (by assumption))) | exact Le_none | (refine Le_put ?_ (by first | (simp only [Heap.set_same, set_ne, ne_eq, not_false_eq_true, *] <;> rfl) | fail)) | fail))) h
      · by_cases d4 : x ≤ 0
        · clear hh
          rcases (by omega : ¬ p = 0 ∨ ¬ q = 0) with e | e
          all_goals clear d3
          all_goals (refine HL.hc k16 999 ?_; unfold M16)
          all_goals ((all_goals (try simp only [Sq,Sr,Sh,Si,Sl,Bu,Bb,Bd,Bc,Bw,Bn,Int.reduceAdd,Int.reduceSub,Int.reduceMul,Int.reduceTDiv,Int.reduceTMod,Int.reduceMod,Int.reduceDiv,Nat.reduceLT,Nat.reduceEqDiff,Sa,Sb,Sc,Sd,Se,Sf,Sg,Int.reduceLE,Int.reduceLT,Int.reduceToNat,Int.reduceNeg,Int.reduceEq,Nat.reduceLeDiff,Nat.reducePow,Int.reducePow,reduceIte,Nat.reduceSub,Nat.reduceAdd,Nat.reduceMul,putAt,ceq,List.replicate, *])); repeat' ((first | (with_reducible refine fun _ : True => ?_) | (with_reducible refine any_h ?_) | ((first | refine AllocQ_i ?_ | refine AllocO_i ?_); intro bk hb0 hbk; try simp only [set_none'] at hbk) | ((first | refine condS_i ?_ ?_ | refine pick_i ?_ ?_ | refine gS_it ?_ ?_ | refine gS_if ?_ ?_ | refine gP_it ?_ ?_ | refine gP_if ?_ ?_) <;> (intro hc; try simp only [Int.reduceLE,Int.reduceLT,Int.reduceEq,Sn] at hc)) | (with_reducible refine KP_i ?_ ?_; · (repeat' (first | exact Heap.Le.refl _ | (refine Le_fresh (by first | exact (by simp only [*]) | exact (by simp [set_none', *])) ?_) | (refine Heap.Le.trans ?_ (Grow.le (by assumption)))))) | (with_reducible refine And.intro ?_ ?_)) <;> (try simp only [Sq,Sr,Sh,Si,Sl,Bu,Bb,Bd,Bc,Bw,Bn,Int.reduceAdd,Int.reduceSub,Int.reduceMul,Int.reduceTDiv,Int.reduceTMod,Int.reduceMod,Int.reduceDiv,Nat.reduceLT,Nat.reduceEqDiff,Sa,Sb,Sc,Sd,Se,Sf,Sg,Int.reduceLE,Int.reduceLT,Int.reduceToNat,Int.reduceNeg,Int.reduceEq,Nat.reduceLeDiff,Nat.reducePow,Int.reducePow,reduceIte,Nat.reduceSub,Nat.reduceAdd,Nat.reduceMul,putAt,ceq,List.replicate, *])))
          all_goals exact Fin_mk (by (repeat' (first | exact Heap.Le.refl _ | (with_reducible refine Le_set2 ?_) | (refine Le_known (by first | (simp only [Heap.set_same, set_ne, ne_eq, not_false_eq_true, *] <;> rfl) | fail) ?_) | (refine Le_fresh (by first | (simp only [*] <;> done) | (simp [set_none', Heap.set_same, set_ne, noneH, *] <;> done) | fail) ?_) | (refine Heap.Le.trans ?_ (Grow.le (by assumption))) | exact Le_none | (refine Le_put ?_ (by first | (simp only [Heap.set_same, set_ne, ne_eq, not_false_eq_true, *] <;> rfl) | fail)) | fail))) h
        · have d5 : y ≤ 0 := by omega
          clear hh
          rcases (by omega : ¬ p = 0 ∨ ¬ q = 0) with e | e
          all_goals clear d3
          all_goals (refine HL.hc k16 999 ?_; unfold M16)
          all_goals ((all_goals (try simp only [Sq,Sr,Sh,Si,Sl,Bu,Bb,Bd,Bc,Bw,Bn,Int.reduceAdd,Int.reduceSub,Int.reduceMul,Int.reduceTDiv,Int.reduceTMod,Int.reduceMod,Int.reduceDiv,Nat.reduceLT,Nat.reduceEqDiff,Sa,Sb,Sc,Sd,Se,Sf,Sg,Int.reduceLE,Int.reduceLT,Int.reduceToNat,Int.reduceNeg,Int.reduceEq,Nat.reduceLeDiff,Nat.reducePow,Int.reducePow,reduceIte,Nat.reduceSub,Nat.reduceAdd,Nat.reduceMul,putAt,ceq,List.replicate, *])); repeat' ((first | (with_reducible refine fun _ : True => ?_) | (with_reducible refine any_h ?_) | ((first | refine AllocQ_i ?_ | refine AllocO_i ?_); intro bk hb0 hbk; try simp only [set_none'] at hbk) | ((first | refine condS_i ?_ ?_ | refine pick_i ?_ ?_ | refine gS_it ?_ ?_ | refine gS_if ?_ ?_ | refine gP_it ?_ ?_ | refine gP_if ?_ ?_) <;> (intro hc; try simp only [Int.reduceLE,Int.reduceLT,Int.reduceEq,Sn] at hc)) | (with_reducible refine KP_i ?_ ?_; · (repeat' (first | exact Heap.Le.refl _ | (refine Le_fresh (by first | exact (by simp only [*]) | exact (by simp [set_none', *])) ?_) | (refine Heap.Le.trans ?_ (Grow.le (by assumption)))))) | (with_reducible refine And.intro ?_ ?_)) <;> (try simp only [Sq,Sr,Sh,Si,Sl,Bu,Bb,Bd,Bc,Bw,Bn,Int.reduceAdd,Int.reduceSub,Int.reduceMul,Int.reduceTDiv,Int.reduceTMod,Int.reduceMod,Int.reduceDiv,Nat.reduceLT,Nat.reduceEqDiff,Sa,Sb,Sc,Sd,Se,Sf,Sg,Int.reduceLE,Int.reduceLT,Int.reduceToNat,Int.reduceNeg,Int.reduceEq,Nat.reduceLeDiff,Nat.reducePow,Int.reducePow,reduceIte,Nat.reduceSub,Nat.reduceAdd,Nat.reduceMul,putAt,ceq,List.replicate, *])))
          all_goals exact Fin_mk (by (repeat' (first | exact Heap.Le.refl _ | (with_reducible refine Le_set2 ?_) | (refine Le_known (by first | (simp only [Heap.set_same, set_ne, ne_eq, not_false_eq_true, *] <;> rfl) | fail) ?_) | (refine Le_fresh (by first | (simp only [*] <;> done) | (simp [set_none', Heap.set_same, set_ne, noneH, *] <;> done) | fail) ?_) | (refine Heap.Le.trans ?_ (Grow.le (by assumption))) | exact Le_none | (refine Le_put ?_ (by first | (simp only [Heap.set_same, set_ne, ne_eq, not_false_eq_true, *] <;> rfl) | fail)) | fail))) h
/- paintboxref23 Between -/
def M17 : MC :=
  .seq (.reg [⟨(some 12), .mv (.const (.int .i32 0)), none⟩])
  (.seq (.reg [⟨(some 15), .mv (.tmp 2), none⟩,
      ⟨(some 16), .mv (.tmp 5), none⟩,
      ⟨(some 17), .conv .i64 (.tmp 16), none⟩,
      ⟨(some 18), .bin .mul (.tmp 15) (.tmp 17), none⟩,
      ⟨(some 19), .mv (.tmp 3), none⟩,
      ⟨(some 20), .mv (.tmp 4), none⟩,
      ⟨(some 21), .conv .i64 (.tmp 20), none⟩,
      ⟨(some 22), .bin .mul (.tmp 19) (.tmp 21), none⟩,
      ⟨(some 13), .mv (.tmp 18), none⟩,
      ⟨(some 14), .mv (.tmp 22), none⟩])
   (.seq (.reg [⟨(some 23), .mv (.tmp 0), none⟩,
       ⟨(some 24), .mv (.tmp 1), none⟩,
       ⟨(some 25), .mv (.tmp 14), none⟩,
       ⟨(some 26), .mv (.tmp 13), none⟩,
       ⟨(some 27), .mv (.tmp 14), none⟩,
       ⟨(some 28), .bin .add (.tmp 26) (.tmp 27), none⟩,
       ⟨(some 29), .call 38 [(.tmp 23), (.tmp 24), (.tmp 25), (.tmp 28)], none⟩,
       ⟨(some 12), .mv (.tmp 29), none⟩])
    (.ret)))
theorem k17 : fnOk Try.prog 17 = some (M17, [.t 12], 30) := by kernel_rfl

theorem r_Between (a b p q x y : Int) (ha : I32 a) (hb : I32 b) (hp : p ≤ 1048576) (hq : q ≤ 1048576) (hx : I32 x) (hy : I32 y) (hh : BtOk p q x y) (h : K (.int .i32 (btwI a b p q x y)) H) : HCalls Try.prog w0 17 [.int .i32 a, .int .i32 b, .int .i64 p, .int .i64 q, .int .i32 x, .int .i32 y] H K := by
  have hr := bt_raw ha hb hh (by omega) (by omega) hx.2 hy.2
  obtain ⟨f1, f2, -, -, f5⟩ := bt_facts hh (by omega) (by omega) hx.2 hy.2
  unfold I32 at hx hy
  obtain ⟨h1, h2, h3, h4, h5⟩ := hh
  have a3 := Int.mul_le_mul hq hx.2 (by omega) (by omega)
  have a4 := Int.mul_le_mul hp hy.2 (by omega) (by omega)
  have c3 : IntKind.i64.wrap x = x := Bw.1 _ (by omega) (by omega)
  have c4 : IntKind.i64.wrap y = y := Bw.1 _ (by omega) (by omega)
  have c5 : IntKind.i64.wrap (p * y) = p * y := Bw.1 _ (by omega) (by omega)
  have c6 : IntKind.i64.wrap (q * x) = q * x := Bw.1 _ (by omega) (by omega)
  have c7 : IntKind.i64.wrap (p * y + q * x) = p * y + q * x := Bw.1 _ (by omega) (by omega)
  have cN : ∀ (G : Heap) (K : Value → Heap → Prop), K (.int .i32 (btwI a b p q x y)) G → HCalls Try.prog w0 38 [.int .i32 a, .int .i32 b, .int .i64 (q * x), .int .i64 (p * y + q * x)] G K := fun G K hk => r_Nearest a b (q * x) (p * y + q * x) ha hb ⟨f1, by omega⟩ ⟨f5, by omega⟩ (by rw [show nearI a b (q * x) (p * y + q * x) = btwI a b p q x y from rfl, hr]; exact hk)
  replace cN : Keep _ := cN
  refine HL.hc k17 999 ?_; unfold M17
  (all_goals (try simp only [Sq,Sr,Sh,Si,Sl,Bu,Bb,Bd,Bc,Bw,Bn,Int.reduceAdd,Int.reduceSub,Int.reduceMul,Int.reduceTDiv,Int.reduceTMod,Int.reduceMod,Int.reduceDiv,Nat.reduceLT,Nat.reduceEqDiff,Sa,Sb,Sc,Sd,Se,Sf,Sg,Int.reduceLE,Int.reduceLT,Int.reduceToNat,Int.reduceNeg,Int.reduceEq,Nat.reduceLeDiff,Nat.reducePow,Int.reducePow,reduceIte,Nat.reduceSub,Nat.reduceAdd,Nat.reduceMul,putAt,ceq,List.replicate, *])); repeat' ((first | (with_reducible refine fun _ : True => ?_) | refine cN _ _ ?_ | (with_reducible refine any_h ?_) | ((first | refine AllocQ_i ?_ | refine AllocO_i ?_); intro bk hb0 hbk; try simp only [set_none'] at hbk) | ((first | refine condS_i ?_ ?_ | refine pick_i ?_ ?_ | refine gS_it ?_ ?_ | refine gS_if ?_ ?_ | refine gP_it ?_ ?_ | refine gP_if ?_ ?_) <;> (intro hc; try simp only [Int.reduceLE,Int.reduceLT,Int.reduceEq,Sn] at hc)) | (with_reducible refine KP_i ?_ ?_; · (repeat' (first | exact Heap.Le.refl _ | (refine Le_fresh (by first | exact (by simp only [*]) | exact (by simp [set_none', *])) ?_) | (refine Heap.Le.trans ?_ (Grow.le (by assumption)))))) | (with_reducible refine And.intro ?_ ?_)) <;> (try simp only [Sq,Sr,Sh,Si,Sl,Bu,Bb,Bd,Bc,Bw,Bn,Int.reduceAdd,Int.reduceSub,Int.reduceMul,Int.reduceTDiv,Int.reduceTMod,Int.reduceMod,Int.reduceDiv,Nat.reduceLT,Nat.reduceEqDiff,Sa,Sb,Sc,Sd,Se,Sf,Sg,Int.reduceLE,Int.reduceLT,Int.reduceToNat,Int.reduceNeg,Int.reduceEq,Nat.reduceLeDiff,Nat.reducePow,Int.reducePow,reduceIte,Nat.reduceSub,Nat.reduceAdd,Nat.reduceMul,putAt,ceq,List.replicate, *]))
  exact Fin_mk (Heap.Le.refl _) h
end Go.Proofs.Ytokjajfojjibcaa
