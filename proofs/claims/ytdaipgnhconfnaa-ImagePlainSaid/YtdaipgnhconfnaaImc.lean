/- Whether an image may be, as both say it (layer 8). -/
import Derived.Test.YtdaipgnhconfnaaImb
set_option linter.unusedSimpArgs false
set_option linter.unusedVariables false
set_option maxRecDepth 100000
set_option maxHeartbeats 4000000
namespace Go.Proofs.Ytdaipgnhconfnaa
open Go.HL Go.RowKit Pb
variable {w0 : World} {H : Heap} {K : Value → Heap → Prop}


instance (x : Im) : Decidable (∀ y, x.ls[x.ls.length - 1]? = some y → sizeI x.f ≠ 0 ∧ ¬ y.nil) := by
  cases h : x.ls[x.ls.length - 1]? with
  | none => exact isTrue (fun y hy => by cases hy)
  | some z => exact decidable_of_iff (sizeI x.f ≠ 0 ∧ ¬ z.nil) ⟨fun hz y hy => by cases hy; exact hz, fun hz => hz z rfl⟩
instance (x : Im) : Decidable x.right := by unfold Im.right; infer_instance
/-- What makes an image one that may not be, in the order of the tests. -/
theorem right_big {x : Im} (h : 7 < x.ls.length) : ¬ x.right := fun r => by have := r.1; omega
theorem right_fmt {x : Im} (h : x.ls.length = 0) (h2 : x.f ≠ 0) : ¬ x.right := fun r => h2 (r.2.1 h)
theorem right_last {x : Im} {y : LvR} (h : x.ls[x.ls.length - 1]? = some y) (h2 : sizeI x.f = 0 ∨ y.nil) : ¬ x.right := fun r => by
  have := r.2.2.1 y h
  rcases h2 with e | e
  · exact this.1 e
  · exact this.2 e
theorem right_bad {x : Im} (h : ¬ ∀ y ∈ x.ls, y.good x.f) : ¬ x.right := fun r => h r.2.2.2.1
theorem right_vals {x : Im} (h1 : x.ls.length ≤ 7) (h2 : x.ls.length = 0 → x.f = 0) (h3 : ∀ y, x.ls[x.ls.length - 1]? = some y → sizeI x.f ≠ 0 ∧ ¬ y.nil) (h4 : ∀ y ∈ x.ls, y.good x.f) : x.right ↔ valP 1 x.s ∧ valP 2 x.t ∧ valP 3 x.mn ∧ valP 4 x.mg := by
  unfold Im.right valP
  exact ⟨fun r => r.2.2.2.2, fun r => ⟨h1, h2, h3, h4, r⟩⟩
/- image Check -/
def M19 : MC :=
  .seq (.reg [⟨(some 1), .box 24 (.tmp 0), none⟩,
 ⟨(some 2), .mv (.const (.int .i64 0)), none⟩])
 (.seq (.reg [⟨(some 6), .fa 0 (.tmp 1), none⟩,
 ⟨(some 7), .ld1 (.tmp 6), none⟩,
 ⟨(some 8), .call 48 [(.tmp 7)], none⟩,
 ⟨(some 3), .alloc 3 [(.int .i64 0)], none⟩,
 ⟨none, .st1 (.tmp 3) (.tmp 8), none⟩])
 (.seq (.reg [⟨(some 9), .fn 49 [(.tmp 3)], none⟩,
 ⟨(some 4), .mv (.tmp 9), none⟩])
 (.seq (.reg [⟨(some 10), .fa 1 (.tmp 1), none⟩,
 ⟨(some 11), .ld1 (.tmp 10), none⟩,
 ⟨(some 12), .len (.tmp 11), none⟩,
 ⟨(some 5), .mv (.tmp 12), none⟩])
 (.seq (.block 0 (.seq (.seq (.reg [⟨(some 14), .mv (.tmp 5), none⟩,
 ⟨(some 15), .bin .gtr (.tmp 14) (.const (.int .i64 7)), none⟩,
 ⟨(some 13), .mv (.tmp 15), none⟩])
 (.cond (.tmp 13)
 (.skip)
 (.seq (.reg [⟨(some 16), .mv (.tmp 5), none⟩,
 ⟨(some 17), .bin .eql (.tmp 16) (.const (.int .i64 0)), none⟩,
 ⟨(some 18), .mv (.tmp 17), none⟩,
 ⟨(some 19), .fa 0 (.tmp 1), (some (18, true))⟩,
 ⟨(some 20), .ld1 (.tmp 19), (some (18, true))⟩,
 ⟨(some 21), .bin .neq (.tmp 20) (.const (.int .i64 0)), (some (18, true))⟩,
 ⟨(some 22), .pick (.tmp 18) (.tmp 21) (.const (.bool false)), none⟩,
 ⟨(some 13), .mv (.tmp 22), none⟩])
 (.cond (.tmp 13)
 (.skip)
 (.seq (.reg [⟨(some 23), .mv (.tmp 5), none⟩,
 ⟨(some 24), .bin .gtr (.tmp 23) (.const (.int .i64 0)), none⟩,
 ⟨(some 25), .mv (.tmp 24), none⟩,
 ⟨(some 26), .ld1 (.tmp 3), (some (25, true))⟩,
 ⟨(some 27), .bin .eql (.tmp 26) (.const (.int .i64 0)), (some (25, true))⟩,
 ⟨(some 28), .mv (.tmp 27), (some (25, true))⟩,
 ⟨(some 29), .fa 1 (.tmp 1), (some (28, false))⟩,
 ⟨(some 30), .ld1 (.tmp 29), (some (28, false))⟩,
 ⟨(some 31), .mv (.tmp 5), (some (28, false))⟩,
 ⟨(some 32), .bin .sub (.tmp 31) (.const (.int .i64 1)), (some (28, false))⟩,
 ⟨(some 33), .is 3 (.tmp 30) (.tmp 32), (some (28, false))⟩,
 ⟨(some 34), .ldn 3 (.tmp 33), (some (28, false))⟩,
 ⟨(some 35), .call 39 [(.tmp 34)], (some (28, false))⟩,
 ⟨(some 36), .pick (.tmp 28) (.const (.bool true)) (.tmp 35), (some (25, true))⟩,
 ⟨(some 37), .pick (.tmp 25) (.tmp 36) (.const (.bool false)), none⟩,
 ⟨(some 13), .mv (.tmp 37), none⟩])
 (.cond (.tmp 13)
 (.skip)
 (.reg [⟨(some 38), .fa 1 (.tmp 1), none⟩,
 ⟨(some 39), .ld1 (.tmp 38), none⟩,
 ⟨(some 40), .mv (.tmp 4), none⟩,
 ⟨(some 41), .call 51 [(.tmp 39), (.tmp 40)], none⟩,
 ⟨(some 13), .mv (.tmp 41), none⟩])))))))
 (.cond (.tmp 13)
 (.seq (.reg [⟨(some 2), .mv (.const (.int .i64 180)), none⟩])
 (.ret))
 (.seq (.seq (.reg [⟨(some 43), .fa 2 (.tmp 1), none⟩,
 ⟨(some 44), .ld1 (.tmp 43), none⟩,
 ⟨(some 45), .call 52 [(.const (.int .i64 1)), (.tmp 44)], none⟩,
 ⟨(some 46), .un .not (.tmp 45), none⟩,
 ⟨(some 42), .mv (.tmp 46), none⟩])
 (.cond (.tmp 42)
 (.skip)
 (.seq (.reg [⟨(some 47), .fa 3 (.tmp 1), none⟩,
 ⟨(some 48), .ld1 (.tmp 47), none⟩,
 ⟨(some 49), .call 52 [(.const (.int .i64 2)), (.tmp 48)], none⟩,
 ⟨(some 50), .un .not (.tmp 49), none⟩,
 ⟨(some 42), .mv (.tmp 50), none⟩])
 (.cond (.tmp 42)
 (.skip)
 (.seq (.reg [⟨(some 51), .fa 4 (.tmp 1), none⟩,
 ⟨(some 52), .ld1 (.tmp 51), none⟩,
 ⟨(some 53), .call 52 [(.const (.int .i64 3)), (.tmp 52)], none⟩,
 ⟨(some 54), .un .not (.tmp 53), none⟩,
 ⟨(some 42), .mv (.tmp 54), none⟩])
 (.cond (.tmp 42)
 (.skip)
 (.reg [⟨(some 55), .fa 5 (.tmp 1), none⟩,
 ⟨(some 56), .ld1 (.tmp 55), none⟩,
 ⟨(some 57), .call 52 [(.const (.int .i64 4)), (.tmp 56)], none⟩,
 ⟨(some 58), .un .not (.tmp 57), none⟩,
 ⟨(some 42), .mv (.tmp 58), none⟩])))))))
 (.cond (.tmp 42)
 (.seq (.reg [⟨(some 2), .mv (.const (.int .i64 180)), none⟩])
 (.ret))
 (.skip))))))
 (.seq (.reg [⟨(some 2), .mv (.const (.int .i64 0)), none⟩])
 (.ret))))))
theorem k19 : fnOk Try.prog 19 = some (M19, [.t 2], 59) := by kernel_rfl

/-- The program's check, behind the tests of the levels' number. -/
theorem c_Check (x : Im) (hx : ImOk w0 H x) (h : K (.int .i64 (if x.right then 0 else 180)) H) : HCalls Try.prog w0 19 [x.v] H K := by
  have key1 : ¬ x.right → K (.int .i64 180) H := fun e => by rw [if_neg e] at h; exact h
  have key0 : x.right → K (.int .i64 0) H := fun e => by rw [if_pos e] at h; exact h
  clear h
  have hA := hx.at_
  unfold Im.v
  by_cases h1 : 7 < x.ls.length
  · have k := key1 (right_big h1)
    have t1 : (7 : Int) < (x.ls.length : Int) := by omega
    clear key0 key1
    refine HL.hc k19 999 ?_; unfold M19
    (all_goals (try simp only [Sq,Sr,Sh,Si,Sl,Bu,Bb,Bd,Bc,Bw,Bn,Int.reduceAdd,Int.reduceSub,Int.reduceMul,Int.reduceTDiv,Int.reduceTMod,Int.reduceMod,Int.reduceDiv,Nat.reduceLT,Nat.reduceEqDiff,Sa,Sb,Sc,Sd,Se,Sf,Sg,Int.reduceLE,Int.reduceLT,Int.reduceToNat,Int.reduceNeg,Int.reduceEq,Nat.reduceLeDiff,Nat.reducePow,Int.reducePow,reduceIte,Nat.reduceSub,Nat.reduceAdd,Nat.reduceMul,putAt,ceq,List.replicate, *])); repeat' ((first | (with_reducible refine fun _ : True => ?_) | refine c_pSize x.f ?_ | (with_reducible refine any_h ?_) | ((first | refine AllocQ_i ?_ | refine AllocO_i ?_); intro bk hb0 hbk; try simp only [set_none'] at hbk) | ((first | refine condS_i ?_ ?_ | refine pick_i ?_ ?_ | refine gS_it ?_ ?_ | refine gS_if ?_ ?_ | refine gP_it ?_ ?_ | refine gP_if ?_ ?_) <;> (intro hc; try simp only [Int.reduceLE,Int.reduceLT,Int.reduceEq,Sn] at hc)) | (refine KP_i (by (repeat' (first | exact Heap.Le.refl _ | (refine Le_fresh (by first | exact (by simp only [*]) | exact (by simp [set_none', *])) ?_) | (refine Heap.Le.trans ?_ (Grow.le (by assumption)))))) ?_) | (with_reducible refine And.intro ?_ ?_)) <;> (try simp only [Sq,Sr,Sh,Si,Sl,Bu,Bb,Bd,Bc,Bw,Bn,Int.reduceAdd,Int.reduceSub,Int.reduceMul,Int.reduceTDiv,Int.reduceTMod,Int.reduceMod,Int.reduceDiv,Nat.reduceLT,Nat.reduceEqDiff,Sa,Sb,Sc,Sd,Se,Sf,Sg,Int.reduceLE,Int.reduceLT,Int.reduceToNat,Int.reduceNeg,Int.reduceEq,Nat.reduceLeDiff,Nat.reducePow,Int.reducePow,reduceIte,Nat.reduceSub,Nat.reduceAdd,Nat.reduceMul,putAt,ceq,List.replicate, *]))
    exact Fin_mk (by (repeat' (first | exact Heap.Le.refl _ | (refine Le_fresh (by first | exact (by simp only [*]) | exact (by simp [set_none', *])) ?_) | (refine Heap.Le.trans ?_ (Grow.le (by assumption)))))) k
  have t1 : ¬ (7 : Int) < (x.ls.length : Int) := by omega
  rcases Nat.eq_zero_or_pos x.ls.length with h2 | h2
  · have t2 : (x.ls.length : Int) = 0 := by omega
    have he : x.ls = [] := List.length_eq_zero_iff.1 h2
    by_cases h3 : x.f = 0
    · have good : ∀ y ∈ x.ls, y.good x.f := by rw [he]; simp
      have d0 : decide (¬ ∀ y ∈ x.ls, y.good x.f) = false := by simpa using good
      have hr := right_vals (x := x) (by omega) (fun _ => h3) (fun y hy => by rw [he] at hy; simp at hy) good
      have hlt : x.ls.length ≤ 7 := by omega
      have hxl := hx.lv
      have d3 : decide (x.f = 0) = true := by simpa using h3
      clear hx h1 good h2 h3 he
      refine HL.hc k19 999 ?_; unfold M19
      (all_goals (try simp only [Sq,Sr,Sh,Si,Sl,Bu,Bb,Bd,Bc,Bw,Bn,Int.reduceAdd,Int.reduceSub,Int.reduceMul,Int.reduceTDiv,Int.reduceTMod,Int.reduceMod,Int.reduceDiv,Nat.reduceLT,Nat.reduceEqDiff,Sa,Sb,Sc,Sd,Se,Sf,Sg,Int.reduceLE,Int.reduceLT,Int.reduceToNat,Int.reduceNeg,Int.reduceEq,Nat.reduceLeDiff,Nat.reducePow,Int.reducePow,reduceIte,Nat.reduceSub,Nat.reduceAdd,Nat.reduceMul,putAt,ceq,List.replicate, *])); repeat' ((first | (with_reducible refine fun _ : True => ?_) | refine c_pSize x.f ?_ | refine c_ContainsW _ x.f x.a x.cap x.ls (by simp only [Heap.set_same, set_ne, ne_eq, not_false_eq_true, *] <;> rfl) (SlAt.grow hA (by (repeat' (first | exact Grow.refl _ | assumption | (refine Grow.set ?_ (by assumption) (by first | exact (by simp only [*]) | exact (by simp [set_none', *]) | exact Grow.none (by assumption) (by simp [set_none', *]))) | (refine Grow.trans ?_ (by assumption)))))) (fun y hy => (hxl y hy).grow (by (repeat' (first | exact Grow.refl _ | assumption | (refine Grow.set ?_ (by assumption) (by first | exact (by simp only [*]) | exact (by simp [set_none', *]) | exact Grow.none (by assumption) (by simp [set_none', *]))) | (refine Grow.trans ?_ (by assumption)))))) hlt ?_ | refine c_legal _ _ ?_ | (with_reducible refine any_h ?_) | ((first | refine AllocQ_i ?_ | refine AllocO_i ?_); intro bk hb0 hbk; try simp only [set_none'] at hbk) | ((first | refine condS_i ?_ ?_ | refine pick_i ?_ ?_ | refine gS_it ?_ ?_ | refine gS_if ?_ ?_ | refine gP_it ?_ ?_ | refine gP_if ?_ ?_) <;> (intro hc; try simp only [Int.reduceLE,Int.reduceLT,Int.reduceEq,Sn] at hc)) | (refine KP_i (by (repeat' (first | exact Heap.Le.refl _ | (refine Le_fresh (by first | exact (by simp only [*]) | exact (by simp [set_none', *])) ?_) | (refine Heap.Le.trans ?_ (Grow.le (by assumption)))))) ?_) | (with_reducible refine And.intro ?_ ?_)) <;> (try simp only [Sq,Sr,Sh,Si,Sl,Bu,Bb,Bd,Bc,Bw,Bn,Int.reduceAdd,Int.reduceSub,Int.reduceMul,Int.reduceTDiv,Int.reduceTMod,Int.reduceMod,Int.reduceDiv,Nat.reduceLT,Nat.reduceEqDiff,Sa,Sb,Sc,Sd,Se,Sf,Sg,Int.reduceLE,Int.reduceLT,Int.reduceToNat,Int.reduceNeg,Int.reduceEq,Nat.reduceLeDiff,Nat.reducePow,Int.reducePow,reduceIte,Nat.reduceSub,Nat.reduceAdd,Nat.reduceMul,putAt,ceq,List.replicate, *]))
      all_goals first
        | (refine Fin_mk (by (repeat' (first | exact Heap.Le.refl _ | (refine Le_fresh (by first | exact (by simp only [*]) | exact (by simp [set_none', *])) ?_) | (refine Heap.Le.trans ?_ (Grow.le (by assumption)))))) (key1 (fun r => ?_)); exact absurd (hr.1 r) (by simp [*]); done)
        | (refine Fin_mk (by (repeat' (first | exact Heap.Le.refl _ | (refine Le_fresh (by first | exact (by simp only [*]) | exact (by simp [set_none', *])) ?_) | (refine Heap.Le.trans ?_ (Grow.le (by assumption)))))) (key0 (hr.2 ?_)); simp [*]; done)
    · have k := key1 (right_fmt h2 h3)
      clear key0 key1
      refine HL.hc k19 999 ?_; unfold M19
      (all_goals (try simp only [Sq,Sr,Sh,Si,Sl,Bu,Bb,Bd,Bc,Bw,Bn,Int.reduceAdd,Int.reduceSub,Int.reduceMul,Int.reduceTDiv,Int.reduceTMod,Int.reduceMod,Int.reduceDiv,Nat.reduceLT,Nat.reduceEqDiff,Sa,Sb,Sc,Sd,Se,Sf,Sg,Int.reduceLE,Int.reduceLT,Int.reduceToNat,Int.reduceNeg,Int.reduceEq,Nat.reduceLeDiff,Nat.reducePow,Int.reducePow,reduceIte,Nat.reduceSub,Nat.reduceAdd,Nat.reduceMul,putAt,ceq,List.replicate, *])); repeat' ((first | (with_reducible refine fun _ : True => ?_) | refine c_pSize x.f ?_ | (with_reducible refine any_h ?_) | ((first | refine AllocQ_i ?_ | refine AllocO_i ?_); intro bk hb0 hbk; try simp only [set_none'] at hbk) | ((first | refine condS_i ?_ ?_ | refine pick_i ?_ ?_ | refine gS_it ?_ ?_ | refine gS_if ?_ ?_ | refine gP_it ?_ ?_ | refine gP_if ?_ ?_) <;> (intro hc; try simp only [Int.reduceLE,Int.reduceLT,Int.reduceEq,Sn] at hc)) | (refine KP_i (by (repeat' (first | exact Heap.Le.refl _ | (refine Le_fresh (by first | exact (by simp only [*]) | exact (by simp [set_none', *])) ?_) | (refine Heap.Le.trans ?_ (Grow.le (by assumption)))))) ?_) | (with_reducible refine And.intro ?_ ?_)) <;> (try simp only [Sq,Sr,Sh,Si,Sl,Bu,Bb,Bd,Bc,Bw,Bn,Int.reduceAdd,Int.reduceSub,Int.reduceMul,Int.reduceTDiv,Int.reduceTMod,Int.reduceMod,Int.reduceDiv,Nat.reduceLT,Nat.reduceEqDiff,Sa,Sb,Sc,Sd,Se,Sf,Sg,Int.reduceLE,Int.reduceLT,Int.reduceToNat,Int.reduceNeg,Int.reduceEq,Nat.reduceLeDiff,Nat.reducePow,Int.reducePow,reduceIte,Nat.reduceSub,Nat.reduceAdd,Nat.reduceMul,putAt,ceq,List.replicate, *]))
      exact Fin_mk (by (repeat' (first | exact Heap.Le.refl _ | (refine Le_fresh (by first | exact (by simp only [*]) | exact (by simp [set_none', *])) ?_) | (refine Heap.Le.trans ?_ (Grow.le (by assumption)))))) k
  · have t2 : ¬ (x.ls.length : Int) = 0 := by omega
    have t3 : (0 : Int) < (x.ls.length : Int) := by omega
    obtain ⟨y, ey⟩ : ∃ y, x.ls[x.ls.length - 1]? = some y := ⟨_, List.getElem?_eq_getElem (by omega)⟩
    by_cases h4 : sizeI x.f = 0
    · have k := key1 (right_last ey (.inl h4))
      clear key0 key1
      refine HL.hc k19 999 ?_; unfold M19
      (all_goals (try simp only [Sq,Sr,Sh,Si,Sl,Bu,Bb,Bd,Bc,Bw,Bn,Int.reduceAdd,Int.reduceSub,Int.reduceMul,Int.reduceTDiv,Int.reduceTMod,Int.reduceMod,Int.reduceDiv,Nat.reduceLT,Nat.reduceEqDiff,Sa,Sb,Sc,Sd,Se,Sf,Sg,Int.reduceLE,Int.reduceLT,Int.reduceToNat,Int.reduceNeg,Int.reduceEq,Nat.reduceLeDiff,Nat.reducePow,Int.reducePow,reduceIte,Nat.reduceSub,Nat.reduceAdd,Nat.reduceMul,putAt,ceq,List.replicate, *])); repeat' ((first | (with_reducible refine fun _ : True => ?_) | refine c_pSize x.f ?_ | (with_reducible refine any_h ?_) | ((first | refine AllocQ_i ?_ | refine AllocO_i ?_); intro bk hb0 hbk; try simp only [set_none'] at hbk) | ((first | refine condS_i ?_ ?_ | refine pick_i ?_ ?_ | refine gS_it ?_ ?_ | refine gS_if ?_ ?_ | refine gP_it ?_ ?_ | refine gP_if ?_ ?_) <;> (intro hc; try simp only [Int.reduceLE,Int.reduceLT,Int.reduceEq,Sn] at hc)) | (refine KP_i (by (repeat' (first | exact Heap.Le.refl _ | (refine Le_fresh (by first | exact (by simp only [*]) | exact (by simp [set_none', *])) ?_) | (refine Heap.Le.trans ?_ (Grow.le (by assumption)))))) ?_) | (with_reducible refine And.intro ?_ ?_)) <;> (try simp only [Sq,Sr,Sh,Si,Sl,Bu,Bb,Bd,Bc,Bw,Bn,Int.reduceAdd,Int.reduceSub,Int.reduceMul,Int.reduceTDiv,Int.reduceTMod,Int.reduceMod,Int.reduceDiv,Nat.reduceLT,Nat.reduceEqDiff,Sa,Sb,Sc,Sd,Se,Sf,Sg,Int.reduceLE,Int.reduceLT,Int.reduceToNat,Int.reduceNeg,Int.reduceEq,Nat.reduceLeDiff,Nat.reducePow,Int.reducePow,reduceIte,Nat.reduceSub,Nat.reduceAdd,Nat.reduceMul,putAt,ceq,List.replicate, *]))
      exact Fin_mk (by (repeat' (first | exact Heap.Le.refl _ | (refine Le_fresh (by first | exact (by simp only [*]) | exact (by simp [set_none', *])) ?_) | (refine Heap.Le.trans ?_ (Grow.le (by assumption)))))) k
    · obtain ⟨b, o, ea, hr, hf⟩ := im_row hx ey
      have t4 : IntKind.i64.wrap ((x.ls.length : Int) - 1) = ((x.ls.length - 1 : Nat) : Int) := by rw [Bw.1 _ (by omega) (by omega)]; omega
      have t5 : ((x.ls.length - 1 : Nat) : Int) < (x.ls.length : Int) := by omega
      by_cases h5 : y.nil
      · have k := key1 (right_last ey (.inr h5))
        have d5 : decide y.nil = true := by simpa using h5
        clear key0 key1
        rw [ea]
        refine HL.hc k19 999 ?_; unfold M19
        (all_goals (try simp only [Sq,Sr,Sh,Si,Sl,Bu,Bb,Bd,Bc,Bw,Bn,Int.reduceAdd,Int.reduceSub,Int.reduceMul,Int.reduceTDiv,Int.reduceTMod,Int.reduceMod,Int.reduceDiv,Nat.reduceLT,Nat.reduceEqDiff,Sa,Sb,Sc,Sd,Se,Sf,Sg,Int.reduceLE,Int.reduceLT,Int.reduceToNat,Int.reduceNeg,Int.reduceEq,Nat.reduceLeDiff,Nat.reducePow,Int.reducePow,reduceIte,Nat.reduceSub,Nat.reduceAdd,Nat.reduceMul,putAt,ceq,List.replicate, *])); repeat' ((first | (with_reducible refine fun _ : True => ?_) | refine c_pSize x.f ?_ | refine c_inone y ?_ | (with_reducible refine any_h ?_) | ((first | refine AllocQ_i ?_ | refine AllocO_i ?_); intro bk hb0 hbk; try simp only [set_none'] at hbk) | ((first | refine condS_i ?_ ?_ | refine pick_i ?_ ?_ | refine gS_it ?_ ?_ | refine gS_if ?_ ?_ | refine gP_it ?_ ?_ | refine gP_if ?_ ?_) <;> (intro hc; try simp only [Int.reduceLE,Int.reduceLT,Int.reduceEq,Sn] at hc)) | (refine KP_i (by (repeat' (first | exact Heap.Le.refl _ | (refine Le_fresh (by first | exact (by simp only [*]) | exact (by simp [set_none', *])) ?_) | (refine Heap.Le.trans ?_ (Grow.le (by assumption)))))) ?_) | (with_reducible refine And.intro ?_ ?_)) <;> (try simp only [Sq,Sr,Sh,Si,Sl,Bu,Bb,Bd,Bc,Bw,Bn,Int.reduceAdd,Int.reduceSub,Int.reduceMul,Int.reduceTDiv,Int.reduceTMod,Int.reduceMod,Int.reduceDiv,Nat.reduceLT,Nat.reduceEqDiff,Sa,Sb,Sc,Sd,Se,Sf,Sg,Int.reduceLE,Int.reduceLT,Int.reduceToNat,Int.reduceNeg,Int.reduceEq,Nat.reduceLeDiff,Nat.reducePow,Int.reducePow,reduceIte,Nat.reduceSub,Nat.reduceAdd,Nat.reduceMul,putAt,ceq,List.replicate, *]))
        exact Fin_mk (by (repeat' (first | exact Heap.Le.refl _ | (refine Le_fresh (by first | exact (by simp only [*]) | exact (by simp [set_none', *])) ?_) | (refine Heap.Le.trans ?_ (Grow.le (by assumption)))))) k
      · have d5 : decide y.nil = false := by simpa using h5
        by_cases h6 : ∀ y ∈ x.ls, y.good x.f
        · have d0 : decide (¬ ∀ y ∈ x.ls, y.good x.f) = false := by simpa using h6
          have hr2 := right_vals (x := x) (by omega) (fun e => by omega) (fun z hz => by rw [ey] at hz; cases hz; exact ⟨h4, h5⟩) h6
          have hlt : x.ls.length ≤ 7 := by omega
          have hxl := hx.lv
          clear hx h1 h6
          rw [ea] at hA ⊢
          refine HL.hc k19 999 ?_; unfold M19
          (all_goals (try simp only [Sq,Sr,Sh,Si,Sl,Bu,Bb,Bd,Bc,Bw,Bn,Int.reduceAdd,Int.reduceSub,Int.reduceMul,Int.reduceTDiv,Int.reduceTMod,Int.reduceMod,Int.reduceDiv,Nat.reduceLT,Nat.reduceEqDiff,Sa,Sb,Sc,Sd,Se,Sf,Sg,Int.reduceLE,Int.reduceLT,Int.reduceToNat,Int.reduceNeg,Int.reduceEq,Nat.reduceLeDiff,Nat.reducePow,Int.reducePow,reduceIte,Nat.reduceSub,Nat.reduceAdd,Nat.reduceMul,putAt,ceq,List.replicate, *])); repeat' ((first | (with_reducible refine fun _ : True => ?_) | refine c_pSize x.f ?_ | refine c_inone y ?_ | refine c_ContainsW _ x.f _ x.cap x.ls (by simp only [Heap.set_same, set_ne, ne_eq, not_false_eq_true, *] <;> rfl) (SlAt.grow hA (by (repeat' (first | exact Grow.refl _ | assumption | (refine Grow.set ?_ (by assumption) (by first | exact (by simp only [*]) | exact (by simp [set_none', *]) | exact Grow.none (by assumption) (by simp [set_none', *]))) | (refine Grow.trans ?_ (by assumption)))))) (fun y hy => (hxl y hy).grow (by (repeat' (first | exact Grow.refl _ | assumption | (refine Grow.set ?_ (by assumption) (by first | exact (by simp only [*]) | exact (by simp [set_none', *]) | exact Grow.none (by assumption) (by simp [set_none', *]))) | (refine Grow.trans ?_ (by assumption)))))) hlt ?_ | refine c_legal _ _ ?_ | (with_reducible refine any_h ?_) | ((first | refine AllocQ_i ?_ | refine AllocO_i ?_); intro bk hb0 hbk; try simp only [set_none'] at hbk) | ((first | refine condS_i ?_ ?_ | refine pick_i ?_ ?_ | refine gS_it ?_ ?_ | refine gS_if ?_ ?_ | refine gP_it ?_ ?_ | refine gP_if ?_ ?_) <;> (intro hc; try simp only [Int.reduceLE,Int.reduceLT,Int.reduceEq,Sn] at hc)) | (refine KP_i (by (repeat' (first | exact Heap.Le.refl _ | (refine Le_fresh (by first | exact (by simp only [*]) | exact (by simp [set_none', *])) ?_) | (refine Heap.Le.trans ?_ (Grow.le (by assumption)))))) ?_) | (with_reducible refine And.intro ?_ ?_)) <;> (try simp only [Sq,Sr,Sh,Si,Sl,Bu,Bb,Bd,Bc,Bw,Bn,Int.reduceAdd,Int.reduceSub,Int.reduceMul,Int.reduceTDiv,Int.reduceTMod,Int.reduceMod,Int.reduceDiv,Nat.reduceLT,Nat.reduceEqDiff,Sa,Sb,Sc,Sd,Se,Sf,Sg,Int.reduceLE,Int.reduceLT,Int.reduceToNat,Int.reduceNeg,Int.reduceEq,Nat.reduceLeDiff,Nat.reducePow,Int.reducePow,reduceIte,Nat.reduceSub,Nat.reduceAdd,Nat.reduceMul,putAt,ceq,List.replicate, *]))
          all_goals first
            | (refine Fin_mk (by (repeat' (first | exact Heap.Le.refl _ | (refine Le_fresh (by first | exact (by simp only [*]) | exact (by simp [set_none', *])) ?_) | (refine Heap.Le.trans ?_ (Grow.le (by assumption)))))) (key1 (fun r => ?_)); exact absurd (hr2.1 r) (by simp [*]); done)
            | (refine Fin_mk (by (repeat' (first | exact Heap.Le.refl _ | (refine Le_fresh (by first | exact (by simp only [*]) | exact (by simp [set_none', *])) ?_) | (refine Heap.Le.trans ?_ (Grow.le (by assumption)))))) (key0 (hr2.2 ?_)); simp [*]; done)
        · have d0 : decide (¬ ∀ y ∈ x.ls, y.good x.f) = true := by simpa using h6
          have k := key1 (right_bad h6)
          have hlt : x.ls.length ≤ 7 := by omega
          have hxl := hx.lv
          clear hx h1 h6 key0 key1
          rw [ea] at hA ⊢
          refine HL.hc k19 999 ?_; unfold M19
          (all_goals (try simp only [Sq,Sr,Sh,Si,Sl,Bu,Bb,Bd,Bc,Bw,Bn,Int.reduceAdd,Int.reduceSub,Int.reduceMul,Int.reduceTDiv,Int.reduceTMod,Int.reduceMod,Int.reduceDiv,Nat.reduceLT,Nat.reduceEqDiff,Sa,Sb,Sc,Sd,Se,Sf,Sg,Int.reduceLE,Int.reduceLT,Int.reduceToNat,Int.reduceNeg,Int.reduceEq,Nat.reduceLeDiff,Nat.reducePow,Int.reducePow,reduceIte,Nat.reduceSub,Nat.reduceAdd,Nat.reduceMul,putAt,ceq,List.replicate, *])); repeat' ((first | (with_reducible refine fun _ : True => ?_) | refine c_pSize x.f ?_ | refine c_inone y ?_ | refine c_ContainsW _ x.f _ x.cap x.ls (by simp only [Heap.set_same, set_ne, ne_eq, not_false_eq_true, *] <;> rfl) (SlAt.grow hA (by (repeat' (first | exact Grow.refl _ | assumption | (refine Grow.set ?_ (by assumption) (by first | exact (by simp only [*]) | exact (by simp [set_none', *]) | exact Grow.none (by assumption) (by simp [set_none', *]))) | (refine Grow.trans ?_ (by assumption)))))) (fun y hy => (hxl y hy).grow (by (repeat' (first | exact Grow.refl _ | assumption | (refine Grow.set ?_ (by assumption) (by first | exact (by simp only [*]) | exact (by simp [set_none', *]) | exact Grow.none (by assumption) (by simp [set_none', *]))) | (refine Grow.trans ?_ (by assumption)))))) hlt ?_ | refine c_legal _ _ ?_ | (with_reducible refine any_h ?_) | ((first | refine AllocQ_i ?_ | refine AllocO_i ?_); intro bk hb0 hbk; try simp only [set_none'] at hbk) | ((first | refine condS_i ?_ ?_ | refine pick_i ?_ ?_ | refine gS_it ?_ ?_ | refine gS_if ?_ ?_ | refine gP_it ?_ ?_ | refine gP_if ?_ ?_) <;> (intro hc; try simp only [Int.reduceLE,Int.reduceLT,Int.reduceEq,Sn] at hc)) | (refine KP_i (by (repeat' (first | exact Heap.Le.refl _ | (refine Le_fresh (by first | exact (by simp only [*]) | exact (by simp [set_none', *])) ?_) | (refine Heap.Le.trans ?_ (Grow.le (by assumption)))))) ?_) | (with_reducible refine And.intro ?_ ?_)) <;> (try simp only [Sq,Sr,Sh,Si,Sl,Bu,Bb,Bd,Bc,Bw,Bn,Int.reduceAdd,Int.reduceSub,Int.reduceMul,Int.reduceTDiv,Int.reduceTMod,Int.reduceMod,Int.reduceDiv,Nat.reduceLT,Nat.reduceEqDiff,Sa,Sb,Sc,Sd,Se,Sf,Sg,Int.reduceLE,Int.reduceLT,Int.reduceToNat,Int.reduceNeg,Int.reduceEq,Nat.reduceLeDiff,Nat.reducePow,Int.reducePow,reduceIte,Nat.reduceSub,Nat.reduceAdd,Nat.reduceMul,putAt,ceq,List.replicate, *]))
          exact Fin_mk (by (repeat' (first | exact Heap.Le.refl _ | (refine Le_fresh (by first | exact (by simp only [*]) | exact (by simp [set_none', *])) ?_) | (refine Heap.Le.trans ?_ (Grow.le (by assumption)))))) k
theorem K_right {x : Im} (h : K (.bool (decide x.right)) H) : (x.right → K (.bool true) H) ∧ (¬ x.right → K (.bool false) H) :=
  ⟨fun e => K_bool h (by simp [e]), fun e => K_bool h (by simp [e])⟩
/-- The tests of one level, when it is there. -/
theorem good_iff {y : LvR} {f : Int} (hn : ¬ y.nil) (h1 : sideP y.w) (h2 : sideP y.h) : y.good f ↔ (y.l.length : Int) = y.w * y.h * sizeI f := by
  unfold LvR.good; simp [hn, h1, h2]
theorem bad_side {y : LvR} {f : Int} (hn : ¬ y.nil) (h : ¬ sideP y.w ∨ ¬ sideP y.h) : ¬ y.good f := by
  unfold LvR.good; rintro (e | ⟨e1, e2, -⟩)
  · exact hn e
  · rcases h with h | h
    · exact h e1
    · exact h e2
theorem area {w h S : Int} (h1 : sideP w) (h2 : sideP h) (hs : 0 ≤ S ∧ S ≤ 4) : (IntKind.i64.wrap (w * h) = w * h) ∧ IntKind.i64.wrap (w * h * S) = w * h * S := by
  have hwh : 0 ≤ w * h ∧ w * h ≤ 4096 := by unfold sideP at h1 h2; exact ⟨Int.mul_nonneg (by omega) (by omega), by have := Int.mul_le_mul h1.2 h2.2 (by omega) (by omega); omega⟩
  have hws : 0 ≤ w * h * S ∧ w * h * S ≤ 16384 := ⟨Int.mul_nonneg hwh.1 hs.1, by have := Int.mul_le_mul hwh.2 hs.2 hs.1 (by omega); omega⟩
  exact ⟨Bw.1 _ (by omega) (by omega), Bw.1 _ (by omega) (by omega)⟩
/- paintboxref08 Right -/
def M29 : MC :=
  .seq (.reg [⟨(some 1), .box 24 (.tmp 0), none⟩,
 ⟨(some 2), .mv (.const (.bool false)), none⟩])
 (.seq (.reg [⟨(some 6), .fa 1 (.tmp 1), none⟩,
 ⟨(some 7), .ld1 (.tmp 6), none⟩,
 ⟨(some 8), .len (.tmp 7), none⟩,
 ⟨(some 3), .mv (.tmp 8), none⟩])
 (.seq (.seq (.reg [⟨(some 9), .mv (.tmp 3), none⟩,
 ⟨(some 10), .bin .gtr (.tmp 9) (.const (.int .i64 7)), none⟩,
 ⟨(some 11), .mv (.tmp 10), none⟩,
 ⟨(some 12), .mv (.tmp 3), (some (11, false))⟩,
 ⟨(some 13), .bin .eql (.tmp 12) (.const (.int .i64 0)), (some (11, false))⟩,
 ⟨(some 14), .mv (.tmp 13), (some (11, false))⟩,
 ⟨(some 15), .fa 0 (.tmp 1), (some (14, true))⟩,
 ⟨(some 16), .ld1 (.tmp 15), (some (14, true))⟩,
 ⟨(some 17), .bin .neq (.tmp 16) (.const (.int .i64 0)), (some (14, true))⟩,
 ⟨(some 18), .pick (.tmp 14) (.tmp 17) (.const (.bool false)), (some (11, false))⟩,
 ⟨(some 19), .pick (.tmp 11) (.const (.bool true)) (.tmp 18), none⟩,
 ⟨(some 20), .mv (.tmp 19), none⟩,
 ⟨(some 21), .mv (.tmp 3), (some (20, false))⟩,
 ⟨(some 22), .bin .gtr (.tmp 21) (.const (.int .i64 0)), (some (20, false))⟩,
 ⟨(some 23), .mv (.tmp 22), (some (20, false))⟩,
 ⟨(some 24), .fa 0 (.tmp 1), (some (23, true))⟩,
 ⟨(some 25), .ld1 (.tmp 24), (some (23, true))⟩,
 ⟨(some 26), .call 45 [(.tmp 25)], (some (23, true))⟩,
 ⟨(some 27), .bin .eql (.tmp 26) (.const (.int .i64 0)), (some (23, true))⟩,
 ⟨(some 28), .mv (.tmp 27), (some (23, true))⟩,
 ⟨(some 29), .fa 1 (.tmp 1), (some (28, false))⟩,
 ⟨(some 30), .ld1 (.tmp 29), (some (28, false))⟩,
 ⟨(some 31), .mv (.tmp 3), (some (28, false))⟩,
 ⟨(some 32), .bin .sub (.tmp 31) (.const (.int .i64 1)), (some (28, false))⟩,
 ⟨(some 33), .is 3 (.tmp 30) (.tmp 32), (some (28, false))⟩,
 ⟨(some 34), .ldn 3 (.tmp 33), (some (28, false))⟩,
 ⟨(some 35), .call 58 [(.tmp 34)], (some (28, false))⟩,
 ⟨(some 36), .pick (.tmp 28) (.const (.bool true)) (.tmp 35), (some (23, true))⟩,
 ⟨(some 37), .pick (.tmp 23) (.tmp 36) (.const (.bool false)), (some (20, false))⟩,
 ⟨(some 38), .pick (.tmp 20) (.const (.bool true)) (.tmp 37), none⟩])
 (.cond (.tmp 38)
 (.seq (.reg [⟨(some 2), .mv (.const (.bool false)), none⟩])
 (.ret))
 (.skip)))
 (.seq (.seq (.reg [⟨(some 39), .fa 1 (.tmp 1), none⟩,
 ⟨(some 40), .ld1 (.tmp 39), none⟩,
 ⟨(some 41), .len (.tmp 40), none⟩,
 ⟨(some 42), .mv (.const (.int .i64 0)), none⟩])
 (.block 0 (.loop (.seq (.reg [⟨(some 43), .bin .lss (.tmp 42) (.tmp 41), none⟩])
 (.seq (.cond (.tmp 43)
 (.skip)
 (.exit 0))
 (.seq (.block 1 (.seq (.reg [⟨(some 44), .is 3 (.tmp 40) (.tmp 42), none⟩,
 ⟨(some 45), .ldn 3 (.tmp 44), none⟩,
 ⟨(some 5), .alloc 38 [(.int .i64 0), (.int .i64 0), (.slice none 0 0)], none⟩,
 ⟨none, .stn 3 (.tmp 5) (.tmp 45), none⟩])
 (.seq (.any [(false, 0, [15, 16, 17, 18, 19, 20, 21, 22], ⟨(some 46), .ldn 3 (.tmp 5), none⟩),
 (false, 1, [15, 16, 17, 18, 19, 20, 21, 22], ⟨(some 47), .call 58 [(.tmp 46)], none⟩),
 (false, 2, [15, 16, 17, 18, 19, 20, 21, 22], ⟨(some 48), .un .not (.tmp 47), none⟩),
 (false, 3, [15, 16, 17, 18, 19, 20, 21, 22], ⟨(some 49), .mv (.tmp 48), none⟩),
 (false, 4, [15, 16, 17, 18, 19, 20, 21, 22], ⟨(some 50), .fa 0 (.tmp 5), (some (49, true))⟩),
 (false, 5, [15, 16, 17, 18, 19, 20, 21, 22], ⟨(some 51), .ld1 (.tmp 50), (some (49, true))⟩),
 (false, 6, [15, 16, 17, 18, 19, 20, 21, 22], ⟨(some 52), .call 53 [(.tmp 51)], (some (49, true))⟩),
 (false, 7, [15, 16, 17, 18, 19, 20, 21, 22], ⟨(some 53), .un .not (.tmp 52), (some (49, true))⟩),
 (false, 8, [15, 16, 17, 18, 19, 20, 21, 22], ⟨(some 54), .mv (.tmp 53), (some (49, true))⟩),
 (false, 9, [15, 16, 17, 18, 19, 20, 21, 22], ⟨(some 55), .fa 1 (.tmp 5), (some (54, false))⟩),
 (false, 10, [15, 16, 17, 18, 19, 20, 21, 22], ⟨(some 56), .ld1 (.tmp 55), (some (54, false))⟩),
 (false, 11, [15, 16, 17, 18, 19, 20, 21, 22], ⟨(some 57), .call 53 [(.tmp 56)], (some (54, false))⟩),
 (false, 12, [15, 16, 17, 18, 19, 20, 21, 22], ⟨(some 58), .un .not (.tmp 57), (some (54, false))⟩),
 (false, 13, [15, 16, 17, 18, 19, 20, 21, 22], ⟨(some 59), .pick (.tmp 54) (.const (.bool true)) (.tmp 58), (some (49, true))⟩),
 (false, 14, [15, 16, 17, 18, 19, 20, 21, 22], ⟨(some 60), .mv (.tmp 59), (some (49, true))⟩),
 (true, 15, [], ⟨(some 61), .fa 2 (.tmp 5), (some (60, false))⟩),
 (true, 16, [], ⟨(some 62), .ld1 (.tmp 61), (some (60, false))⟩),
 (true, 17, [], ⟨(some 63), .len (.tmp 62), (some (60, false))⟩),
 (true, 18, [], ⟨(some 64), .fa 0 (.tmp 5), (some (60, false))⟩),
 (true, 19, [], ⟨(some 65), .ld1 (.tmp 64), (some (60, false))⟩),
 (true, 20, [], ⟨(some 66), .fa 1 (.tmp 5), (some (60, false))⟩),
 (true, 21, [], ⟨(some 67), .ld1 (.tmp 66), (some (60, false))⟩),
 (true, 22, [], ⟨(some 68), .bin .mul (.tmp 65) (.tmp 67), (some (60, false))⟩),
 (false, 23, [15, 16, 17, 18, 19, 20, 21, 22], ⟨(some 69), .fa 0 (.tmp 1), (some (60, false))⟩),
 (false, 24, [15, 16, 17, 18, 19, 20, 21, 22], ⟨(some 70), .ld1 (.tmp 69), (some (60, false))⟩),
 (false, 25, [15, 16, 17, 18, 19, 20, 21, 22], ⟨(some 71), .call 45 [(.tmp 70)], (some (60, false))⟩),
 (false, 26, [15, 16, 17], ⟨(some 72), .bin .mul (.tmp 68) (.tmp 71), (some (60, false))⟩),
 (false, 27, [], ⟨(some 73), .bin .neq (.tmp 63) (.tmp 72), (some (60, false))⟩),
 (false, 28, [], ⟨(some 74), .pick (.tmp 60) (.const (.bool true)) (.tmp 73), (some (49, true))⟩),
 (false, 29, [], ⟨(some 75), .pick (.tmp 49) (.tmp 74) (.const (.bool false)), none⟩)])
 (.cond (.tmp 75)
 (.seq (.reg [⟨(some 2), .mv (.const (.bool false)), none⟩])
 (.ret))
 (.skip)))))
 (.reg [⟨(some 76), .bin .add (.tmp 42) (.const (.int .i64 1)), none⟩,
 ⟨(some 42), .mv (.tmp 76), none⟩])))))))
 (.seq (.reg [⟨(some 77), .fa 2 (.tmp 1), none⟩,
 ⟨(some 78), .ld1 (.tmp 77), none⟩,
 ⟨(some 79), .call 57 [(.const (.int .i64 1)), (.tmp 78)], none⟩,
 ⟨(some 80), .mv (.tmp 79), none⟩,
 ⟨(some 81), .fa 3 (.tmp 1), (some (80, true))⟩,
 ⟨(some 82), .ld1 (.tmp 81), (some (80, true))⟩,
 ⟨(some 83), .call 57 [(.const (.int .i64 2)), (.tmp 82)], (some (80, true))⟩,
 ⟨(some 84), .pick (.tmp 80) (.tmp 83) (.const (.bool false)), none⟩,
 ⟨(some 85), .mv (.tmp 84), none⟩,
 ⟨(some 86), .fa 4 (.tmp 1), (some (85, true))⟩,
 ⟨(some 87), .ld1 (.tmp 86), (some (85, true))⟩,
 ⟨(some 88), .call 57 [(.const (.int .i64 3)), (.tmp 87)], (some (85, true))⟩,
 ⟨(some 89), .pick (.tmp 85) (.tmp 88) (.const (.bool false)), none⟩,
 ⟨(some 90), .mv (.tmp 89), none⟩,
 ⟨(some 91), .fa 5 (.tmp 1), (some (90, true))⟩,
 ⟨(some 92), .ld1 (.tmp 91), (some (90, true))⟩,
 ⟨(some 93), .call 57 [(.const (.int .i64 4)), (.tmp 92)], (some (90, true))⟩,
 ⟨(some 94), .pick (.tmp 90) (.tmp 93) (.const (.bool false)), none⟩,
 ⟨(some 2), .mv (.tmp 94), none⟩])
 (.ret)))))
theorem k29 : fnOk Try.prog 29 = some (M29, [.t 2], 95) := by kernel_rfl

theorem r_Right8 (x : Im) (hx : ImOk w0 H x) (h : K (.bool (decide x.right)) H) : HCalls Try.prog w0 29 [x.v] H K := by
  obtain ⟨key1, key0⟩ := K_right h
  clear h
  unfold Im.v
  by_cases h1 : 7 < x.ls.length
  · have k := key0 (right_big h1)
    have t1 : (7 : Int) < (x.ls.length : Int) := by omega
    clear key0 key1
    refine HL.hc k29 999 ?_; unfold M29
    (all_goals (try simp only [Sq,Sr,Sh,Si,Sl,Bu,Bb,Bd,Bc,Bw,Bn,Int.reduceAdd,Int.reduceSub,Int.reduceMul,Int.reduceTDiv,Int.reduceTMod,Int.reduceMod,Int.reduceDiv,Nat.reduceLT,Nat.reduceEqDiff,Sa,Sb,Sc,Sd,Se,Sf,Sg,Int.reduceLE,Int.reduceLT,Int.reduceToNat,Int.reduceNeg,Int.reduceEq,Nat.reduceLeDiff,Nat.reducePow,Int.reducePow,reduceIte,Nat.reduceSub,Nat.reduceAdd,Nat.reduceMul,putAt,ceq,List.replicate, *])); repeat' ((first | (with_reducible refine fun _ : True => ?_) | (with_reducible refine any_h ?_) | ((first | refine AllocQ_i ?_ | refine AllocO_i ?_); intro bk hb0 hbk; try simp only [set_none'] at hbk) | ((first | refine condS_i ?_ ?_ | refine pick_i ?_ ?_ | refine gS_it ?_ ?_ | refine gS_if ?_ ?_ | refine gP_it ?_ ?_ | refine gP_if ?_ ?_) <;> (intro hc; try simp only [Int.reduceLE,Int.reduceLT,Int.reduceEq,Sn] at hc)) | (refine KP_i (by (repeat' (first | exact Heap.Le.refl _ | (refine Le_fresh (by first | exact (by simp only [*]) | exact (by simp [set_none', *])) ?_) | (refine Heap.Le.trans ?_ (Grow.le (by assumption)))))) ?_) | (with_reducible refine And.intro ?_ ?_)) <;> (try simp only [Sq,Sr,Sh,Si,Sl,Bu,Bb,Bd,Bc,Bw,Bn,Int.reduceAdd,Int.reduceSub,Int.reduceMul,Int.reduceTDiv,Int.reduceTMod,Int.reduceMod,Int.reduceDiv,Nat.reduceLT,Nat.reduceEqDiff,Sa,Sb,Sc,Sd,Se,Sf,Sg,Int.reduceLE,Int.reduceLT,Int.reduceToNat,Int.reduceNeg,Int.reduceEq,Nat.reduceLeDiff,Nat.reducePow,Int.reducePow,reduceIte,Nat.reduceSub,Nat.reduceAdd,Nat.reduceMul,putAt,ceq,List.replicate, *]))
    exact Fin_mk (by (repeat' (first | exact Heap.Le.refl _ | (refine Le_fresh (by first | exact (by simp only [*]) | exact (by simp [set_none', *])) ?_) | (refine Heap.Le.trans ?_ (Grow.le (by assumption)))))) k
  have t1 : ¬ (7 : Int) < (x.ls.length : Int) := by omega
  by_cases h2 : x.ls.length = 0 ∧ x.f ≠ 0
  · obtain ⟨h2, h3⟩ := h2
    have k := key0 (right_fmt h2 h3)
    have t2 : (x.ls.length : Int) = 0 := by omega
    clear key0 key1
    refine HL.hc k29 999 ?_; unfold M29
    (all_goals (try simp only [Sq,Sr,Sh,Si,Sl,Bu,Bb,Bd,Bc,Bw,Bn,Int.reduceAdd,Int.reduceSub,Int.reduceMul,Int.reduceTDiv,Int.reduceTMod,Int.reduceMod,Int.reduceDiv,Nat.reduceLT,Nat.reduceEqDiff,Sa,Sb,Sc,Sd,Se,Sf,Sg,Int.reduceLE,Int.reduceLT,Int.reduceToNat,Int.reduceNeg,Int.reduceEq,Nat.reduceLeDiff,Nat.reducePow,Int.reducePow,reduceIte,Nat.reduceSub,Nat.reduceAdd,Nat.reduceMul,putAt,ceq,List.replicate, *])); repeat' ((first | (with_reducible refine fun _ : True => ?_) | (with_reducible refine any_h ?_) | ((first | refine AllocQ_i ?_ | refine AllocO_i ?_); intro bk hb0 hbk; try simp only [set_none'] at hbk) | ((first | refine condS_i ?_ ?_ | refine pick_i ?_ ?_ | refine gS_it ?_ ?_ | refine gS_if ?_ ?_ | refine gP_it ?_ ?_ | refine gP_if ?_ ?_) <;> (intro hc; try simp only [Int.reduceLE,Int.reduceLT,Int.reduceEq,Sn] at hc)) | (refine KP_i (by (repeat' (first | exact Heap.Le.refl _ | (refine Le_fresh (by first | exact (by simp only [*]) | exact (by simp [set_none', *])) ?_) | (refine Heap.Le.trans ?_ (Grow.le (by assumption)))))) ?_) | (with_reducible refine And.intro ?_ ?_)) <;> (try simp only [Sq,Sr,Sh,Si,Sl,Bu,Bb,Bd,Bc,Bw,Bn,Int.reduceAdd,Int.reduceSub,Int.reduceMul,Int.reduceTDiv,Int.reduceTMod,Int.reduceMod,Int.reduceDiv,Nat.reduceLT,Nat.reduceEqDiff,Sa,Sb,Sc,Sd,Se,Sf,Sg,Int.reduceLE,Int.reduceLT,Int.reduceToNat,Int.reduceNeg,Int.reduceEq,Nat.reduceLeDiff,Nat.reducePow,Int.reducePow,reduceIte,Nat.reduceSub,Nat.reduceAdd,Nat.reduceMul,putAt,ceq,List.replicate, *]))
    exact Fin_mk (by (repeat' (first | exact Heap.Le.refl _ | (refine Le_fresh (by first | exact (by simp only [*]) | exact (by simp [set_none', *])) ?_) | (refine Heap.Le.trans ?_ (Grow.le (by assumption)))))) k
  have d2 : (x.ls.length : Int) = 0 → x.f = 0 := fun e => by
    rcases Classical.em (x.f = 0) with h | h
    · exact h
    · exact (h2 ⟨by omega, h⟩).elim
  -- the last level
  have last : ∀ y, x.ls[x.ls.length - 1]? = some y → ¬ (sizeI x.f ≠ 0 ∧ ¬ y.nil) → HCalls Try.prog w0 29 [.agg #[.int .i64 x.f, .slice x.a x.ls.length x.cap, .int .i64 x.s, .int .i64 x.t, .int .i64 x.mn, .int .i64 x.mg]] H K := by
    intro y ey hbad
    have k := key0 (right_last ey (by rcases Classical.em (sizeI x.f = 0) with e | e; exact .inl e; exact .inr (Classical.not_not.1 (fun hn => hbad ⟨e, hn⟩))))
    have hpos : 0 < x.ls.length := by have := (List.getElem?_eq_some_iff.1 ey).1; omega
    have t2 : ¬ (x.ls.length : Int) = 0 := by omega
    have t3 : (0 : Int) < (x.ls.length : Int) := by omega
    obtain ⟨b, o, ea, hr, hf⟩ := im_row hx ey
    have t4 : IntKind.i64.wrap ((x.ls.length : Int) - 1) = ((x.ls.length - 1 : Nat) : Int) := by rw [Bw.1 _ (by omega) (by omega)]; omega
    have t5 : ((x.ls.length - 1 : Nat) : Int) < (x.ls.length : Int) := by omega
    clear key0 key1
    rw [ea]
    by_cases h4 : sizeI x.f = 0
    · refine HL.hc k29 999 ?_; unfold M29
      (all_goals (try simp only [Sq,Sr,Sh,Si,Sl,Bu,Bb,Bd,Bc,Bw,Bn,Int.reduceAdd,Int.reduceSub,Int.reduceMul,Int.reduceTDiv,Int.reduceTMod,Int.reduceMod,Int.reduceDiv,Nat.reduceLT,Nat.reduceEqDiff,Sa,Sb,Sc,Sd,Se,Sf,Sg,Int.reduceLE,Int.reduceLT,Int.reduceToNat,Int.reduceNeg,Int.reduceEq,Nat.reduceLeDiff,Nat.reducePow,Int.reducePow,reduceIte,Nat.reduceSub,Nat.reduceAdd,Nat.reduceMul,putAt,ceq,List.replicate, *])); repeat' ((first | (with_reducible refine fun _ : True => ?_) | refine r_Size8 _ ?_ | (with_reducible refine any_h ?_) | ((first | refine AllocQ_i ?_ | refine AllocO_i ?_); intro bk hb0 hbk; try simp only [set_none'] at hbk) | ((first | refine condS_i ?_ ?_ | refine pick_i ?_ ?_ | refine gS_it ?_ ?_ | refine gS_if ?_ ?_ | refine gP_it ?_ ?_ | refine gP_if ?_ ?_) <;> (intro hc; try simp only [Int.reduceLE,Int.reduceLT,Int.reduceEq,Sn] at hc)) | (refine KP_i (by (repeat' (first | exact Heap.Le.refl _ | (refine Le_fresh (by first | exact (by simp only [*]) | exact (by simp [set_none', *])) ?_) | (refine Heap.Le.trans ?_ (Grow.le (by assumption)))))) ?_) | (with_reducible refine And.intro ?_ ?_)) <;> (try simp only [Sq,Sr,Sh,Si,Sl,Bu,Bb,Bd,Bc,Bw,Bn,Int.reduceAdd,Int.reduceSub,Int.reduceMul,Int.reduceTDiv,Int.reduceTMod,Int.reduceMod,Int.reduceDiv,Nat.reduceLT,Nat.reduceEqDiff,Sa,Sb,Sc,Sd,Se,Sf,Sg,Int.reduceLE,Int.reduceLT,Int.reduceToNat,Int.reduceNeg,Int.reduceEq,Nat.reduceLeDiff,Nat.reducePow,Int.reducePow,reduceIte,Nat.reduceSub,Nat.reduceAdd,Nat.reduceMul,putAt,ceq,List.replicate, *]))
      exact Fin_mk (by (repeat' (first | exact Heap.Le.refl _ | (refine Le_fresh (by first | exact (by simp only [*]) | exact (by simp [set_none', *])) ?_) | (refine Heap.Le.trans ?_ (Grow.le (by assumption)))))) k
    · have d5 : decide y.nil = true := by
        rw [decide_eq_true_eq]; exact Classical.not_not.1 (fun hn => hbad ⟨h4, hn⟩)
      refine HL.hc k29 999 ?_; unfold M29
      (all_goals (try simp only [Sq,Sr,Sh,Si,Sl,Bu,Bb,Bd,Bc,Bw,Bn,Int.reduceAdd,Int.reduceSub,Int.reduceMul,Int.reduceTDiv,Int.reduceTMod,Int.reduceMod,Int.reduceDiv,Nat.reduceLT,Nat.reduceEqDiff,Sa,Sb,Sc,Sd,Se,Sf,Sg,Int.reduceLE,Int.reduceLT,Int.reduceToNat,Int.reduceNeg,Int.reduceEq,Nat.reduceLeDiff,Nat.reducePow,Int.reducePow,reduceIte,Nat.reduceSub,Nat.reduceAdd,Nat.reduceMul,putAt,ceq,List.replicate, *])); repeat' ((first | (with_reducible refine fun _ : True => ?_) | refine r_Size8 _ ?_ | refine r_none y ?_ | (with_reducible refine any_h ?_) | ((first | refine AllocQ_i ?_ | refine AllocO_i ?_); intro bk hb0 hbk; try simp only [set_none'] at hbk) | ((first | refine condS_i ?_ ?_ | refine pick_i ?_ ?_ | refine gS_it ?_ ?_ | refine gS_if ?_ ?_ | refine gP_it ?_ ?_ | refine gP_if ?_ ?_) <;> (intro hc; try simp only [Int.reduceLE,Int.reduceLT,Int.reduceEq,Sn] at hc)) | (refine KP_i (by (repeat' (first | exact Heap.Le.refl _ | (refine Le_fresh (by first | exact (by simp only [*]) | exact (by simp [set_none', *])) ?_) | (refine Heap.Le.trans ?_ (Grow.le (by assumption)))))) ?_) | (with_reducible refine And.intro ?_ ?_)) <;> (try simp only [Sq,Sr,Sh,Si,Sl,Bu,Bb,Bd,Bc,Bw,Bn,Int.reduceAdd,Int.reduceSub,Int.reduceMul,Int.reduceTDiv,Int.reduceTMod,Int.reduceMod,Int.reduceDiv,Nat.reduceLT,Nat.reduceEqDiff,Sa,Sb,Sc,Sd,Se,Sf,Sg,Int.reduceLE,Int.reduceLT,Int.reduceToNat,Int.reduceNeg,Int.reduceEq,Nat.reduceLeDiff,Nat.reducePow,Int.reducePow,reduceIte,Nat.reduceSub,Nat.reduceAdd,Nat.reduceMul,putAt,ceq,List.replicate, *]))
      exact Fin_mk (by (repeat' (first | exact Heap.Le.refl _ | (refine Le_fresh (by first | exact (by simp only [*]) | exact (by simp [set_none', *])) ?_) | (refine Heap.Le.trans ?_ (Grow.le (by assumption)))))) k
  by_cases h3 : ¬ ∀ y, x.ls[x.ls.length - 1]? = some y → sizeI x.f ≠ 0 ∧ ¬ y.nil
  · obtain ⟨y, hy⟩ := Classical.not_forall.1 h3
    obtain ⟨ey, hb⟩ := Classical.not_imp.1 hy
    exact last y ey hb
  have h3 := Classical.not_not.1 h3
  clear last
  rcases Nat.eq_zero_or_pos x.ls.length with h4 | h4
  · have t2 : (x.ls.length : Int) = 0 := by omega
    have he : x.ls = [] := List.length_eq_zero_iff.1 h4
    have hr2 := right_vals (x := x) (by omega) (fun _ => d2 t2) h3 (by rw [he]; simp)
    have d3 : decide (x.f = 0) = true := by simpa using d2 t2
    clear h3 h4 he h2 d2 h1 hx
    refine HL.hc k29 999 ?_; unfold M29
    (all_goals (try simp only [Sq,Sr,Sh,Si,Sl,Bu,Bb,Bd,Bc,Bw,Bn,Int.reduceAdd,Int.reduceSub,Int.reduceMul,Int.reduceTDiv,Int.reduceTMod,Int.reduceMod,Int.reduceDiv,Nat.reduceLT,Nat.reduceEqDiff,Sa,Sb,Sc,Sd,Se,Sf,Sg,Int.reduceLE,Int.reduceLT,Int.reduceToNat,Int.reduceNeg,Int.reduceEq,Nat.reduceLeDiff,Nat.reducePow,Int.reducePow,reduceIte,Nat.reduceSub,Nat.reduceAdd,Nat.reduceMul,putAt,ceq,List.replicate, *])); repeat' ((first | (with_reducible refine fun _ : True => ?_) | refine r_values _ _ ?_ | (with_reducible refine any_h ?_) | ((first | refine AllocQ_i ?_ | refine AllocO_i ?_); intro bk hb0 hbk; try simp only [set_none'] at hbk) | ((first | refine condS_i ?_ ?_ | refine pick_i ?_ ?_ | refine gS_it ?_ ?_ | refine gS_if ?_ ?_ | refine gP_it ?_ ?_ | refine gP_if ?_ ?_) <;> (intro hc; try simp only [Int.reduceLE,Int.reduceLT,Int.reduceEq,Sn] at hc)) | (refine KP_i (by (repeat' (first | exact Heap.Le.refl _ | (refine Le_fresh (by first | exact (by simp only [*]) | exact (by simp [set_none', *])) ?_) | (refine Heap.Le.trans ?_ (Grow.le (by assumption)))))) ?_) | (with_reducible refine loop_u ?_) | (with_reducible refine And.intro ?_ ?_)) <;> (try simp only [Sq,Sr,Sh,Si,Sl,Bu,Bb,Bd,Bc,Bw,Bn,Int.reduceAdd,Int.reduceSub,Int.reduceMul,Int.reduceTDiv,Int.reduceTMod,Int.reduceMod,Int.reduceDiv,Nat.reduceLT,Nat.reduceEqDiff,Sa,Sb,Sc,Sd,Se,Sf,Sg,Int.reduceLE,Int.reduceLT,Int.reduceToNat,Int.reduceNeg,Int.reduceEq,Nat.reduceLeDiff,Nat.reducePow,Int.reducePow,reduceIte,Nat.reduceSub,Nat.reduceAdd,Nat.reduceMul,putAt,ceq,List.replicate, *]))
    all_goals first
      | (refine Fin_mk (by (repeat' (first | exact Heap.Le.refl _ | (refine Le_fresh (by first | exact (by simp only [*]) | exact (by simp [set_none', *])) ?_) | (refine Heap.Le.trans ?_ (Grow.le (by assumption)))))) (key0 (fun r => ?_)); exact absurd (hr2.1 r) (by simp [*]); done)
      | (refine Fin_mk (by (repeat' (first | exact Heap.Le.refl _ | (refine Le_fresh (by first | exact (by simp only [*]) | exact (by simp [set_none', *])) ?_) | (refine Heap.Le.trans ?_ (Grow.le (by assumption)))))) (key1 (hr2.2 ?_)); simp [*]; done)
      | (by_cases v : valP 4 x.mg; (· rw [decide_eq_true v]; exact Fin_mk (by (repeat' (first | exact Heap.Le.refl _ | (refine Le_fresh (by first | exact (by simp only [*]) | exact (by simp [set_none', *])) ?_) | (refine Heap.Le.trans ?_ (Grow.le (by assumption)))))) (key1 (hr2.2 (by simp [*])))); (· rw [decide_eq_false v]; exact Fin_mk (by (repeat' (first | exact Heap.Le.refl _ | (refine Le_fresh (by first | exact (by simp only [*]) | exact (by simp [set_none', *])) ?_) | (refine Heap.Le.trans ?_ (Grow.le (by assumption)))))) (key0 (fun r => v (hr2.1 r).2.2.2))))
  · have t2 : ¬ (x.ls.length : Int) = 0 := by omega
    have t3 : (0 : Int) < (x.ls.length : Int) := by omega
    obtain ⟨y, ey⟩ : ∃ y, x.ls[x.ls.length - 1]? = some y := ⟨_, List.getElem?_eq_getElem (by omega)⟩
    have h5 := h3 y ey
    have h6 : ¬ sizeI x.f = 0 := h5.1
    have d5 : decide y.nil = false := by simpa using h5.2
    obtain ⟨b, o, ea, hr, hf⟩ := im_row hx ey
    have t4 : IntKind.i64.wrap ((x.ls.length : Int) - 1) = ((x.ls.length - 1 : Nat) : Int) := by rw [Bw.1 _ (by omega) (by omega)]; omega
    have t5 : ((x.ls.length - 1 : Nat) : Int) < (x.ls.length : Int) := by omega
    clear d2
    rw [ea]
    refine HL.hc k29 999 ?_; unfold M29
    (all_goals (try simp only [Sq,Sr,Sh,Si,Sl,Bu,Bb,Bd,Bc,Bw,Bn,Int.reduceAdd,Int.reduceSub,Int.reduceMul,Int.reduceTDiv,Int.reduceTMod,Int.reduceMod,Int.reduceDiv,Nat.reduceLT,Nat.reduceEqDiff,Sa,Sb,Sc,Sd,Se,Sf,Sg,Int.reduceLE,Int.reduceLT,Int.reduceToNat,Int.reduceNeg,Int.reduceEq,Nat.reduceLeDiff,Nat.reducePow,Int.reducePow,reduceIte,Nat.reduceSub,Nat.reduceAdd,Nat.reduceMul,putAt,ceq,List.replicate, *])); repeat' ((first | (with_reducible refine fun _ : True => ?_) | refine r_Size8 _ ?_ | refine r_none y ?_ | (with_reducible refine any_h ?_) | ((first | refine AllocQ_i ?_ | refine AllocO_i ?_); intro bk hb0 hbk; try simp only [set_none'] at hbk) | ((first | refine condS_i ?_ ?_ | refine pick_i ?_ ?_ | refine gS_it ?_ ?_ | refine gS_if ?_ ?_ | refine gP_it ?_ ?_ | refine gP_if ?_ ?_) <;> (intro hc; try simp only [Int.reduceLE,Int.reduceLT,Int.reduceEq,Sn] at hc)) | (refine KP_i (by (repeat' (first | exact Heap.Le.refl _ | (refine Le_fresh (by first | exact (by simp only [*]) | exact (by simp [set_none', *])) ?_) | (refine Heap.Le.trans ?_ (Grow.le (by assumption)))))) ?_) | (with_reducible refine And.intro ?_ ?_)) <;> (try simp only [Sq,Sr,Sh,Si,Sl,Bu,Bb,Bd,Bc,Bw,Bn,Int.reduceAdd,Int.reduceSub,Int.reduceMul,Int.reduceTDiv,Int.reduceTMod,Int.reduceMod,Int.reduceDiv,Nat.reduceLT,Nat.reduceEqDiff,Sa,Sb,Sc,Sd,Se,Sf,Sg,Int.reduceLE,Int.reduceLT,Int.reduceToNat,Int.reduceNeg,Int.reduceEq,Nat.reduceLeDiff,Nat.reducePow,Int.reducePow,reduceIte,Nat.reduceSub,Nat.reduceAdd,Nat.reduceMul,putAt,ceq,List.replicate, *]))
    refine loop_g 43 (fun s : Nat × Value => [(5, s.2), (42, .int .i64 (s.1 : Nat))]) (fun _ => H.set bk ⟨_, _⟩) (fun s => s.1 ≤ x.ls.length ∧ ∀ y ∈ x.ls.take s.1, y.good x.f) (fun s => x.ls.length - s.1) (0, undef) ⟨Nat.zero_le _, by simp⟩ (by (repeat' (first | exact Heap.Le.refl _ | (refine Le_fresh (by first | exact (by simp only [*]) | exact (by simp [set_none', *])) ?_) | (refine Heap.Le.trans ?_ (Grow.le (by assumption)))))) rfl ?_
    clear d5 h5 h6 ey t4 t5 hr
    intro ⟨k, u⟩ g ⟨hk, hg⟩
    simp only at hk hg
    rcases Nat.lt_or_ge k x.ls.length with hlt | hge
    · obtain ⟨z, ez⟩ : ∃ y, x.ls[k]? = some y := ⟨_, List.getElem?_eq_getElem hlt⟩
      have hm : z ∈ x.ls := List.mem_of_getElem? ez
      obtain ⟨b', o', ea', hr, -⟩ := im_row hx ez
      rw [ea] at ea'
      cases ea'
      have t0 : (k : Int) < (x.ls.length : Int) := by omega
      have t6 : IntKind.i64.wrap ((k : Int) + 1) = (k : Int) + 1 := Bw.1 _ (by omega) (by omega)
      have tk : x.ls.take (k + 1) = x.ls.take k ++ [z] := by rw [List.take_add_one, ez]; rfl
      have hg' : z.good x.f → ∀ w ∈ x.ls.take (k + 1), w.good x.f := fun hgood w hw => by
        rw [tk] at hw
        rcases List.mem_append.1 hw with h' | h'
        · exact hg w h'
        · rw [List.mem_singleton.1 h']; exact hgood
      have hbad : ¬ z.good x.f → K (.bool false) H := fun e => key0 (right_bad (fun h => e (h z hm)))
      have f1 := hf _ hb0 hbk
      clear tk hm hg
      by_cases hn : z.nil
      · have d1 : decide z.nil = true := by simpa using hn
        have hg2 := hg' (.inl hn)
        clear hg' hbad hn
        (all_goals (try simp only [Sq,Sr,Sh,Si,Sl,Bu,Bb,Bd,Bc,Bw,Bn,Int.reduceAdd,Int.reduceSub,Int.reduceMul,Int.reduceTDiv,Int.reduceTMod,Int.reduceMod,Int.reduceDiv,Nat.reduceLT,Nat.reduceEqDiff,Sa,Sb,Sc,Sd,Se,Sf,Sg,Int.reduceLE,Int.reduceLT,Int.reduceToNat,Int.reduceNeg,Int.reduceEq,Nat.reduceLeDiff,Nat.reducePow,Int.reducePow,reduceIte,Nat.reduceSub,Nat.reduceAdd,Nat.reduceMul,putAt,ceq,List.replicate, *])); repeat' ((first | (with_reducible refine fun _ : True => ?_) | refine r_none z ?_ | (with_reducible refine any_h ?_) | ((first | refine AllocQ_i ?_ | refine AllocO_i ?_); intro bk hb0 hbk; try simp only [set_none'] at hbk) | ((first | refine condS_i ?_ ?_ | refine pick_i ?_ ?_ | refine gS_it ?_ ?_ | refine gS_if ?_ ?_ | refine gP_it ?_ ?_ | refine gP_if ?_ ?_) <;> (intro hc; try simp only [Int.reduceLE,Int.reduceLT,Int.reduceEq,Sn] at hc)) | (refine KP_i (by (repeat' (first | exact Heap.Le.refl _ | (refine Le_fresh (by first | exact (by simp only [*]) | exact (by simp [set_none', *])) ?_) | (refine Heap.Le.trans ?_ (Grow.le (by assumption)))))) ?_) | (with_reducible refine And.intro ?_ ?_)) <;> (try simp only [Sq,Sr,Sh,Si,Sl,Bu,Bb,Bd,Bc,Bw,Bn,Int.reduceAdd,Int.reduceSub,Int.reduceMul,Int.reduceTDiv,Int.reduceTMod,Int.reduceMod,Int.reduceDiv,Nat.reduceLT,Nat.reduceEqDiff,Sa,Sb,Sc,Sd,Se,Sf,Sg,Int.reduceLE,Int.reduceLT,Int.reduceToNat,Int.reduceNeg,Int.reduceEq,Nat.reduceLeDiff,Nat.reducePow,Int.reducePow,reduceIte,Nat.reduceSub,Nat.reduceAdd,Nat.reduceMul,putAt,ceq,List.replicate, *]))
        all_goals (refine Round_mk (k + 1, _) ⟨by simp only; omega, hg2⟩ (by simp only; omega) ?_ rfl rfl; exact (by (repeat' (first | exact Heap.Le.refl _ | (refine Le_fresh (by first | exact (by simp only [*]) | exact (by simp [set_none', *])) ?_) | (refine Heap.Le.trans ?_ (Grow.le (by assumption)))))))
      · have d1 : decide z.nil = false := by simpa using hn
        by_cases hs1 : sideP z.w
        · by_cases hs2 : sideP z.h
          · have d6 : decide (sideP z.w) = true := by simpa using hs1
            have d7 : decide (sideP z.h) = true := by simpa using hs2
            obtain ⟨e1, e2⟩ := area hs1 hs2 (sizeI_le x.f)
            have gi := good_iff (f := x.f) hn hs1 hs2
            by_cases hgood : z.good x.f
            · have d8 : (z.l.length : Int) = z.w * z.h * sizeI x.f := gi.1 hgood
              have d9 : (decide ((z.l.length : Int) = z.w * z.h * sizeI x.f)) = true := by simpa using d8
              have hg2 := hg' hgood
              clear hg' hbad hn hs1 hs2 gi hgood d8
              (all_goals (try simp only [Sq,Sr,Sh,Si,Sl,Bu,Bb,Bd,Bc,Bw,Bn,Int.reduceAdd,Int.reduceSub,Int.reduceMul,Int.reduceTDiv,Int.reduceTMod,Int.reduceMod,Int.reduceDiv,Nat.reduceLT,Nat.reduceEqDiff,Sa,Sb,Sc,Sd,Se,Sf,Sg,Int.reduceLE,Int.reduceLT,Int.reduceToNat,Int.reduceNeg,Int.reduceEq,Nat.reduceLeDiff,Nat.reducePow,Int.reducePow,reduceIte,Nat.reduceSub,Nat.reduceAdd,Nat.reduceMul,putAt,ceq,List.replicate, *])); repeat' ((first | (with_reducible refine fun _ : True => ?_) | refine r_none z ?_ | refine r_side _ ?_ | refine r_Size8 _ ?_ | (with_reducible refine any_h ?_) | ((first | refine AllocQ_i ?_ | refine AllocO_i ?_); intro bk hb0 hbk; try simp only [set_none'] at hbk) | ((first | refine condS_i ?_ ?_ | refine pick_i ?_ ?_ | refine gS_it ?_ ?_ | refine gS_if ?_ ?_ | refine gP_it ?_ ?_ | refine gP_if ?_ ?_) <;> (intro hc; try simp only [Int.reduceLE,Int.reduceLT,Int.reduceEq,Sn] at hc)) | (refine KP_i (by (repeat' (first | exact Heap.Le.refl _ | (refine Le_fresh (by first | exact (by simp only [*]) | exact (by simp [set_none', *])) ?_) | (refine Heap.Le.trans ?_ (Grow.le (by assumption)))))) ?_) | (with_reducible refine And.intro ?_ ?_)) <;> (try simp only [Sq,Sr,Sh,Si,Sl,Bu,Bb,Bd,Bc,Bw,Bn,Int.reduceAdd,Int.reduceSub,Int.reduceMul,Int.reduceTDiv,Int.reduceTMod,Int.reduceMod,Int.reduceDiv,Nat.reduceLT,Nat.reduceEqDiff,Sa,Sb,Sc,Sd,Se,Sf,Sg,Int.reduceLE,Int.reduceLT,Int.reduceToNat,Int.reduceNeg,Int.reduceEq,Nat.reduceLeDiff,Nat.reducePow,Int.reducePow,reduceIte,Nat.reduceSub,Nat.reduceAdd,Nat.reduceMul,putAt,ceq,List.replicate, *]))
              all_goals (refine Round_mk (k + 1, _) ⟨by simp only; omega, hg2⟩ (by simp only; omega) ?_ rfl rfl; exact (by (repeat' (first | exact Heap.Le.refl _ | (refine Le_fresh (by first | exact (by simp only [*]) | exact (by simp [set_none', *])) ?_) | (refine Heap.Le.trans ?_ (Grow.le (by assumption)))))))
            · have d9 : (decide ((z.l.length : Int) = z.w * z.h * sizeI x.f)) = false := by rw [decide_eq_false_iff_not]; exact fun e => hgood (gi.2 e)
              have hk2 := hbad hgood
              clear hg' hbad hn hs1 hs2 gi hgood
              (all_goals (try simp only [Sq,Sr,Sh,Si,Sl,Bu,Bb,Bd,Bc,Bw,Bn,Int.reduceAdd,Int.reduceSub,Int.reduceMul,Int.reduceTDiv,Int.reduceTMod,Int.reduceMod,Int.reduceDiv,Nat.reduceLT,Nat.reduceEqDiff,Sa,Sb,Sc,Sd,Se,Sf,Sg,Int.reduceLE,Int.reduceLT,Int.reduceToNat,Int.reduceNeg,Int.reduceEq,Nat.reduceLeDiff,Nat.reducePow,Int.reducePow,reduceIte,Nat.reduceSub,Nat.reduceAdd,Nat.reduceMul,putAt,ceq,List.replicate, *])); repeat' ((first | (with_reducible refine fun _ : True => ?_) | refine r_none z ?_ | refine r_side _ ?_ | refine r_Size8 _ ?_ | (with_reducible refine any_h ?_) | ((first | refine AllocQ_i ?_ | refine AllocO_i ?_); intro bk hb0 hbk; try simp only [set_none'] at hbk) | ((first | refine condS_i ?_ ?_ | refine pick_i ?_ ?_ | refine gS_it ?_ ?_ | refine gS_if ?_ ?_ | refine gP_it ?_ ?_ | refine gP_if ?_ ?_) <;> (intro hc; try simp only [Int.reduceLE,Int.reduceLT,Int.reduceEq,Sn] at hc)) | (refine KP_i (by (repeat' (first | exact Heap.Le.refl _ | (refine Le_fresh (by first | exact (by simp only [*]) | exact (by simp [set_none', *])) ?_) | (refine Heap.Le.trans ?_ (Grow.le (by assumption)))))) ?_) | (with_reducible refine And.intro ?_ ?_)) <;> (try simp only [Sq,Sr,Sh,Si,Sl,Bu,Bb,Bd,Bc,Bw,Bn,Int.reduceAdd,Int.reduceSub,Int.reduceMul,Int.reduceTDiv,Int.reduceTMod,Int.reduceMod,Int.reduceDiv,Nat.reduceLT,Nat.reduceEqDiff,Sa,Sb,Sc,Sd,Se,Sf,Sg,Int.reduceLE,Int.reduceLT,Int.reduceToNat,Int.reduceNeg,Int.reduceEq,Nat.reduceLeDiff,Nat.reducePow,Int.reducePow,reduceIte,Nat.reduceSub,Nat.reduceAdd,Nat.reduceMul,putAt,ceq,List.replicate, *]))
              all_goals exact Fin_mk (by (repeat' (first | exact Heap.Le.refl _ | (refine Le_fresh (by first | exact (by simp only [*]) | exact (by simp [set_none', *])) ?_) | (refine Heap.Le.trans ?_ (Grow.le (by assumption)))))) hk2
          · have d6 : decide (sideP z.w) = true := by simpa using hs1
            have d7 : decide (sideP z.h) = false := by simpa using hs2
            have hk2 := hbad (bad_side hn (.inr hs2))
            clear hg' hbad hn hs1 hs2
            (all_goals (try simp only [Sq,Sr,Sh,Si,Sl,Bu,Bb,Bd,Bc,Bw,Bn,Int.reduceAdd,Int.reduceSub,Int.reduceMul,Int.reduceTDiv,Int.reduceTMod,Int.reduceMod,Int.reduceDiv,Nat.reduceLT,Nat.reduceEqDiff,Sa,Sb,Sc,Sd,Se,Sf,Sg,Int.reduceLE,Int.reduceLT,Int.reduceToNat,Int.reduceNeg,Int.reduceEq,Nat.reduceLeDiff,Nat.reducePow,Int.reducePow,reduceIte,Nat.reduceSub,Nat.reduceAdd,Nat.reduceMul,putAt,ceq,List.replicate, *])); repeat' ((first | (with_reducible refine fun _ : True => ?_) | refine r_none z ?_ | refine r_side _ ?_ | refine r_Size8 _ ?_ | (with_reducible refine any_h ?_) | ((first | refine AllocQ_i ?_ | refine AllocO_i ?_); intro bk hb0 hbk; try simp only [set_none'] at hbk) | ((first | refine condS_i ?_ ?_ | refine pick_i ?_ ?_ | refine gS_it ?_ ?_ | refine gS_if ?_ ?_ | refine gP_it ?_ ?_ | refine gP_if ?_ ?_) <;> (intro hc; try simp only [Int.reduceLE,Int.reduceLT,Int.reduceEq,Sn] at hc)) | (refine KP_i (by (repeat' (first | exact Heap.Le.refl _ | (refine Le_fresh (by first | exact (by simp only [*]) | exact (by simp [set_none', *])) ?_) | (refine Heap.Le.trans ?_ (Grow.le (by assumption)))))) ?_) | (with_reducible refine And.intro ?_ ?_)) <;> (try simp only [Sq,Sr,Sh,Si,Sl,Bu,Bb,Bd,Bc,Bw,Bn,Int.reduceAdd,Int.reduceSub,Int.reduceMul,Int.reduceTDiv,Int.reduceTMod,Int.reduceMod,Int.reduceDiv,Nat.reduceLT,Nat.reduceEqDiff,Sa,Sb,Sc,Sd,Se,Sf,Sg,Int.reduceLE,Int.reduceLT,Int.reduceToNat,Int.reduceNeg,Int.reduceEq,Nat.reduceLeDiff,Nat.reducePow,Int.reducePow,reduceIte,Nat.reduceSub,Nat.reduceAdd,Nat.reduceMul,putAt,ceq,List.replicate, *]))
            all_goals exact Fin_mk (by (repeat' (first | exact Heap.Le.refl _ | (refine Le_fresh (by first | exact (by simp only [*]) | exact (by simp [set_none', *])) ?_) | (refine Heap.Le.trans ?_ (Grow.le (by assumption)))))) hk2
        · have d6 : decide (sideP z.w) = false := by simpa using hs1
          have hk2 := hbad (bad_side hn (.inl hs1))
          clear hg' hbad hn hs1
          (all_goals (try simp only [Sq,Sr,Sh,Si,Sl,Bu,Bb,Bd,Bc,Bw,Bn,Int.reduceAdd,Int.reduceSub,Int.reduceMul,Int.reduceTDiv,Int.reduceTMod,Int.reduceMod,Int.reduceDiv,Nat.reduceLT,Nat.reduceEqDiff,Sa,Sb,Sc,Sd,Se,Sf,Sg,Int.reduceLE,Int.reduceLT,Int.reduceToNat,Int.reduceNeg,Int.reduceEq,Nat.reduceLeDiff,Nat.reducePow,Int.reducePow,reduceIte,Nat.reduceSub,Nat.reduceAdd,Nat.reduceMul,putAt,ceq,List.replicate, *])); repeat' ((first | (with_reducible refine fun _ : True => ?_) | refine r_none z ?_ | refine r_side _ ?_ | refine r_Size8 _ ?_ | (with_reducible refine any_h ?_) | ((first | refine AllocQ_i ?_ | refine AllocO_i ?_); intro bk hb0 hbk; try simp only [set_none'] at hbk) | ((first | refine condS_i ?_ ?_ | refine pick_i ?_ ?_ | refine gS_it ?_ ?_ | refine gS_if ?_ ?_ | refine gP_it ?_ ?_ | refine gP_if ?_ ?_) <;> (intro hc; try simp only [Int.reduceLE,Int.reduceLT,Int.reduceEq,Sn] at hc)) | (refine KP_i (by (repeat' (first | exact Heap.Le.refl _ | (refine Le_fresh (by first | exact (by simp only [*]) | exact (by simp [set_none', *])) ?_) | (refine Heap.Le.trans ?_ (Grow.le (by assumption)))))) ?_) | (with_reducible refine And.intro ?_ ?_)) <;> (try simp only [Sq,Sr,Sh,Si,Sl,Bu,Bb,Bd,Bc,Bw,Bn,Int.reduceAdd,Int.reduceSub,Int.reduceMul,Int.reduceTDiv,Int.reduceTMod,Int.reduceMod,Int.reduceDiv,Nat.reduceLT,Nat.reduceEqDiff,Sa,Sb,Sc,Sd,Se,Sf,Sg,Int.reduceLE,Int.reduceLT,Int.reduceToNat,Int.reduceNeg,Int.reduceEq,Nat.reduceLeDiff,Nat.reducePow,Int.reducePow,reduceIte,Nat.reduceSub,Nat.reduceAdd,Nat.reduceMul,putAt,ceq,List.replicate, *]))
          all_goals exact Fin_mk (by (repeat' (first | exact Heap.Le.refl _ | (refine Le_fresh (by first | exact (by simp only [*]) | exact (by simp [set_none', *])) ?_) | (refine Heap.Le.trans ?_ (Grow.le (by assumption)))))) hk2
    · obtain rfl : x.ls.length = k := by omega
      have t0 : ¬ ((x.ls.length : Nat) : Int) < ((x.ls.length : Nat) : Int) := by omega
      have hr2 := right_vals (x := x) (by omega) (fun e => by omega) h3 (by simpa using hg)
      clear h3 hg hk hge hf h1 h2
      (all_goals (try simp only [Sq,Sr,Sh,Si,Sl,Bu,Bb,Bd,Bc,Bw,Bn,Int.reduceAdd,Int.reduceSub,Int.reduceMul,Int.reduceTDiv,Int.reduceTMod,Int.reduceMod,Int.reduceDiv,Nat.reduceLT,Nat.reduceEqDiff,Sa,Sb,Sc,Sd,Se,Sf,Sg,Int.reduceLE,Int.reduceLT,Int.reduceToNat,Int.reduceNeg,Int.reduceEq,Nat.reduceLeDiff,Nat.reducePow,Int.reducePow,reduceIte,Nat.reduceSub,Nat.reduceAdd,Nat.reduceMul,putAt,ceq,List.replicate, *])); repeat' ((first | (with_reducible refine fun _ : True => ?_) | refine r_values _ _ ?_ | (with_reducible refine any_h ?_) | ((first | refine AllocQ_i ?_ | refine AllocO_i ?_); intro bk hb0 hbk; try simp only [set_none'] at hbk) | ((first | refine condS_i ?_ ?_ | refine pick_i ?_ ?_ | refine gS_it ?_ ?_ | refine gS_if ?_ ?_ | refine gP_it ?_ ?_ | refine gP_if ?_ ?_) <;> (intro hc; try simp only [Int.reduceLE,Int.reduceLT,Int.reduceEq,Sn] at hc)) | (refine KP_i (by (repeat' (first | exact Heap.Le.refl _ | (refine Le_fresh (by first | exact (by simp only [*]) | exact (by simp [set_none', *])) ?_) | (refine Heap.Le.trans ?_ (Grow.le (by assumption)))))) ?_) | (with_reducible refine And.intro ?_ ?_)) <;> (try simp only [Sq,Sr,Sh,Si,Sl,Bu,Bb,Bd,Bc,Bw,Bn,Int.reduceAdd,Int.reduceSub,Int.reduceMul,Int.reduceTDiv,Int.reduceTMod,Int.reduceMod,Int.reduceDiv,Nat.reduceLT,Nat.reduceEqDiff,Sa,Sb,Sc,Sd,Se,Sf,Sg,Int.reduceLE,Int.reduceLT,Int.reduceToNat,Int.reduceNeg,Int.reduceEq,Nat.reduceLeDiff,Nat.reducePow,Int.reducePow,reduceIte,Nat.reduceSub,Nat.reduceAdd,Nat.reduceMul,putAt,ceq,List.replicate, *]))
      all_goals first
        | (refine Fin_mk (by (repeat' (first | exact Heap.Le.refl _ | (refine Le_fresh (by first | exact (by simp only [*]) | exact (by simp [set_none', *])) ?_) | (refine Heap.Le.trans ?_ (Grow.le (by assumption)))))) (key0 (fun r => ?_)); exact absurd (hr2.1 r) (by simp [*]); done)
        | (refine Fin_mk (by (repeat' (first | exact Heap.Le.refl _ | (refine Le_fresh (by first | exact (by simp only [*]) | exact (by simp [set_none', *])) ?_) | (refine Heap.Le.trans ?_ (Grow.le (by assumption)))))) (key1 (hr2.2 ?_)); simp [*]; done)
        | (by_cases v : valP 4 x.mg; (· rw [decide_eq_true v]; exact Fin_mk (by (repeat' (first | exact Heap.Le.refl _ | (refine Le_fresh (by first | exact (by simp only [*]) | exact (by simp [set_none', *])) ?_) | (refine Heap.Le.trans ?_ (Grow.le (by assumption)))))) (key1 (hr2.2 (by simp [*])))); (· rw [decide_eq_false v]; exact Fin_mk (by (repeat' (first | exact Heap.Le.refl _ | (refine Le_fresh (by first | exact (by simp only [*]) | exact (by simp [set_none', *])) ?_) | (refine Heap.Le.trans ?_ (Grow.le (by assumption)))))) (key0 (fun r => v (hr2.1 r).2.2.2))))
end Go.Proofs.Ytdaipgnhconfnaa
