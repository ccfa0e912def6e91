/- Which images are the same, by both (layer 8). -/
import Derived.Test.YtdaipgnhconfnaaIna
set_option linter.unusedSimpArgs false
set_option linter.unusedVariables false
set_option maxRecDepth 100000
set_option maxHeartbeats 4000000
namespace Go.Proofs.Ytdaipgnhconfnaa
open Go Go.HL Go.RowKit Pb
variable {w0 : World} {H : Heap} {K : Value → Heap → Prop}

theorem rows_at {a : Option Addr} {ls : List LvR} (hA : SlAt w0 H a (ls.map LvR.row).flatten) (hl : 0 < ls.length) : ∃ b o, a = some ⟨b, o, none⟩ ∧ (∀ (k : Nat) (z : LvR), ls[k]? = some z → rdn w0 H b (o + k * 3) 3 = some [.int .i64 z.w, .int .i64 z.h, .slice z.a z.l.length z.cap]) ∧ ∀ c, w0.heap.size ≤ c → H c = none → c ≠ b := by
  have hr : ∀ r ∈ ls.map LvR.row, r.length = 3 := fun r hr => by obtain ⟨z, -, rfl⟩ := List.mem_map.1 hr; rfl
  obtain ⟨b, o, e, h1, hf⟩ := hA.row hr (by decide) (i := 0) (r := (ls[0]'hl).row) (by rw [List.getElem?_map, List.getElem?_eq_getElem hl]; rfl)
  refine ⟨b, o, e, fun k z hz => ?_, hf⟩
  obtain ⟨b', o', e', h1', -⟩ := hA.row hr (by decide) (i := k) (r := z.row) (by rw [List.getElem?_map, hz]; rfl)
  rw [e] at e'
  cases e'
  exact h1'
theorem core_of {a b : LvR} (h1 : a.w = b.w) (h2 : a.h = b.h) (h3 : a.l = b.l) : a.core = b.core := by unfold LvR.core; rw [h1, h2, h3]
/- image Same 1 -/
def M54 : MC :=
  .seq (.reg [⟨(some 2), .box 38 (.tmp 0), none⟩,
 ⟨(some 3), .box 38 (.tmp 1), none⟩,
 ⟨(some 4), .mv (.const (.bool false)), none⟩])
 (.seq (.reg [⟨(some 5), .fa 0 (.tmp 2), none⟩,
 ⟨(some 6), .ld1 (.tmp 5), none⟩,
 ⟨(some 7), .fa 0 (.tmp 3), none⟩,
 ⟨(some 8), .ld1 (.tmp 7), none⟩,
 ⟨(some 9), .bin .eql (.tmp 6) (.tmp 8), none⟩,
 ⟨(some 10), .mv (.tmp 9), none⟩,
 ⟨(some 11), .fa 1 (.tmp 2), (some (10, true))⟩,
 ⟨(some 12), .ld1 (.tmp 11), (some (10, true))⟩,
 ⟨(some 13), .fa 1 (.tmp 3), (some (10, true))⟩,
 ⟨(some 14), .ld1 (.tmp 13), (some (10, true))⟩,
 ⟨(some 15), .bin .eql (.tmp 12) (.tmp 14), (some (10, true))⟩,
 ⟨(some 16), .pick (.tmp 10) (.tmp 15) (.const (.bool false)), none⟩,
 ⟨(some 17), .mv (.tmp 16), none⟩,
 ⟨(some 18), .fa 2 (.tmp 2), (some (17, true))⟩,
 ⟨(some 19), .ld1 (.tmp 18), (some (17, true))⟩,
 ⟨(some 20), .fa 2 (.tmp 3), (some (17, true))⟩,
 ⟨(some 21), .ld1 (.tmp 20), (some (17, true))⟩,
 ⟨(some 22), .call 55 [(.tmp 19), (.tmp 21)], (some (17, true))⟩,
 ⟨(some 23), .pick (.tmp 17) (.tmp 22) (.const (.bool false)), none⟩,
 ⟨(some 4), .mv (.tmp 23), none⟩])
 (.ret))
theorem k54 : fnOk Try.prog 54 = some (M54, [.t 4], 24) := by kernel_rfl

theorem c_level (x y : LvR) (hx : LvOk w0 H x) (hy : LvOk w0 H y) (h1 : x.core = y.core → K (.bool true) H) (h2 : x.core ≠ y.core → K (.bool false) H) :
    HCalls Try.prog w0 54 [.agg #[.int .i64 x.w, .int .i64 x.h, .slice x.a x.l.length x.cap], .agg #[.int .i64 y.w, .int .i64 y.h, .slice y.a y.l.length y.cap]] H K := by
  have kt : x.w = y.w → x.h = y.h → x.l = y.l → ∀ G, Heap.Le H G → HL.Fin K (.bool true) G := fun a b c G hle => Fin_mk hle (h1 (core_of a b c))
  have kf : x.w ≠ y.w ∨ x.h ≠ y.h ∨ x.l ≠ y.l → ∀ G, Heap.Le H G → HL.Fin K (.bool false) G := fun h G hle => Fin_mk hle (h2 fun e => by
    obtain ⟨a, b, c⟩ := core_eq e
    rcases h with h | h | h
    · exact h a
    · exact h b
    · exact h c)
  have hA := hx.at_
  have hA' := hy.at_
  have hm := hx.lm
  clear hx hy h1 h2
  obtain ⟨xw, xh, xa, xc, xl⟩ := x
  obtain ⟨yw, yh, ya, yc, yl⟩ := y
  simp only at hA hA' hm kt kf ⊢
  by_cases e1 : xw = yw
  · by_cases e2 : xh = yh
    · subst e1 e2
      refine HL.hc k54 999 ?_; unfold M54
      (all_goals (try simp only [Sq,Sr,Sh,Si,Sl,Bu,Bb,Bd,Bc,Bw,Bn,Int.reduceAdd,Int.reduceSub,Int.reduceMul,Int.reduceTDiv,Int.reduceTMod,Int.reduceMod,Int.reduceDiv,Nat.reduceLT,Nat.reduceEqDiff,Sa,Sb,Sc,Sd,Se,Sf,Sg,Int.reduceLE,Int.reduceLT,Int.reduceToNat,Int.reduceNeg,Int.reduceEq,Nat.reduceLeDiff,Nat.reducePow,Int.reducePow,reduceIte,Nat.reduceSub,Nat.reduceAdd,Nat.reduceMul,putAt,ceq,List.replicate, *])); repeat' ((first | (with_reducible refine fun _ : True => ?_) | (refine c_slicesEqual _ _ _ _ xl yl (IntsAt.grow hA (by (repeat' (first | exact Grow.refl _ | assumption | (refine Grow_known (by first | (simp only [Heap.set_same, set_ne, ne_eq, not_false_eq_true, *] <;> rfl) | fail) ?_) | (refine Grow.set ?_ (by assumption) (by first | (simp only [*] <;> done) | (simp [set_none', Heap.set_same, set_ne, noneH, *] <;> done) | fail)) | (refine Grow.trans ?_ (by assumption)))))) (IntsAt.grow hA' (by (repeat' (first | exact Grow.refl _ | assumption | (refine Grow_known (by first | (simp only [Heap.set_same, set_ne, ne_eq, not_false_eq_true, *] <;> rfl) | fail) ?_) | (refine Grow.set ?_ (by assumption) (by first | (simp only [*] <;> done) | (simp [set_none', Heap.set_same, set_ne, noneH, *] <;> done) | fail)) | (refine Grow.trans ?_ (by assumption)))))) hm  ?_ ?_ <;> (intro hc; try simp only [Int.reduceLE,Int.reduceLT,Int.reduceEq,Sn] at hc)) | (with_reducible refine any_h ?_) | ((first | refine AllocQ_i ?_ | refine AllocO_i ?_); intro bk hb0 hbk; (try simp only [set_none'] at hbk)) | ((first | refine condS_i ?_ ?_ | refine pick_i ?_ ?_ | refine gS_it ?_ ?_ | refine gS_if ?_ ?_ | refine gP_it ?_ ?_ | refine gP_if ?_ ?_) <;> (intro hc; try simp only [Int.reduceLE,Int.reduceLT,Int.reduceEq,Sn] at hc)) | (with_reducible refine And.intro ?_ ?_)) <;> (try simp only [Sq,Sr,Sh,Si,Sl,Bu,Bb,Bd,Bc,Bw,Bn,Int.reduceAdd,Int.reduceSub,Int.reduceMul,Int.reduceTDiv,Int.reduceTMod,Int.reduceMod,Int.reduceDiv,Nat.reduceLT,Nat.reduceEqDiff,Sa,Sb,Sc,Sd,Se,Sf,Sg,Int.reduceLE,Int.reduceLT,Int.reduceToNat,Int.reduceNeg,Int.reduceEq,Nat.reduceLeDiff,Nat.reducePow,Int.reducePow,reduceIte,Nat.reduceSub,Nat.reduceAdd,Nat.reduceMul,putAt,ceq,List.replicate, *]))
      · exact kt rfl rfl (by assumption) _ (by (repeat' (first | exact Heap.Le.refl _ | (with_reducible refine Le_set2 ?_) | (refine Le_known (by first | (simp only [Heap.set_same, set_ne, ne_eq, not_false_eq_true, *] <;> rfl) | fail) ?_) | (refine Le_fresh (by first | (simp only [*] <;> done) | (simp [set_none', Heap.set_same, set_ne, noneH, *] <;> done) | fail) ?_) | (refine Heap.Le.trans ?_ (Grow.le (by assumption))) | exact Le_none | (refine Le_put ?_ (by first | (simp only [Heap.set_same, set_ne, ne_eq, not_false_eq_true, *] <;> rfl) | fail)) | fail)))
      · exact kf (.inr (.inr (by assumption))) _ (by (repeat' (first | exact Heap.Le.refl _ | (with_reducible refine Le_set2 ?_) | (refine Le_known (by first | (simp only [Heap.set_same, set_ne, ne_eq, not_false_eq_true, *] <;> rfl) | fail) ?_) | (refine Le_fresh (by first | (simp only [*] <;> done) | (simp [set_none', Heap.set_same, set_ne, noneH, *] <;> done) | fail) ?_) | (refine Heap.Le.trans ?_ (Grow.le (by assumption))) | exact Le_none | (refine Le_put ?_ (by first | (simp only [Heap.set_same, set_ne, ne_eq, not_false_eq_true, *] <;> rfl) | fail)) | fail)))
    · subst e1
      refine HL.hc k54 999 ?_; unfold M54
      (all_goals (try simp only [Sq,Sr,Sh,Si,Sl,Bu,Bb,Bd,Bc,Bw,Bn,Int.reduceAdd,Int.reduceSub,Int.reduceMul,Int.reduceTDiv,Int.reduceTMod,Int.reduceMod,Int.reduceDiv,Nat.reduceLT,Nat.reduceEqDiff,Sa,Sb,Sc,Sd,Se,Sf,Sg,Int.reduceLE,Int.reduceLT,Int.reduceToNat,Int.reduceNeg,Int.reduceEq,Nat.reduceLeDiff,Nat.reducePow,Int.reducePow,reduceIte,Nat.reduceSub,Nat.reduceAdd,Nat.reduceMul,putAt,ceq,List.replicate, *])); repeat' ((first | (with_reducible refine fun _ : True => ?_) | (with_reducible refine any_h ?_) | ((first | refine AllocQ_i ?_ | refine AllocO_i ?_); intro bk hb0 hbk; (try simp only [set_none'] at hbk)) | ((first | refine condS_i ?_ ?_ | refine pick_i ?_ ?_ | refine gS_it ?_ ?_ | refine gS_if ?_ ?_ | refine gP_it ?_ ?_ | refine gP_if ?_ ?_) <;> (intro hc; try simp only [Int.reduceLE,Int.reduceLT,Int.reduceEq,Sn] at hc)) | (with_reducible refine And.intro ?_ ?_)) <;> (try simp only [Sq,Sr,Sh,Si,Sl,Bu,Bb,Bd,Bc,Bw,Bn,Int.reduceAdd,Int.reduceSub,Int.reduceMul,Int.reduceTDiv,Int.reduceTMod,Int.reduceMod,Int.reduceDiv,Nat.reduceLT,Nat.reduceEqDiff,Sa,Sb,Sc,Sd,Se,Sf,Sg,Int.reduceLE,Int.reduceLT,Int.reduceToNat,Int.reduceNeg,Int.reduceEq,Nat.reduceLeDiff,Nat.reducePow,Int.reducePow,reduceIte,Nat.reduceSub,Nat.reduceAdd,Nat.reduceMul,putAt,ceq,List.replicate, *]))
      all_goals exact kf (.inr (.inl e2)) _ (by (repeat' (first | exact Heap.Le.refl _ | (with_reducible refine Le_set2 ?_) | (refine Le_known (by first | (simp only [Heap.set_same, set_ne, ne_eq, not_false_eq_true, *] <;> rfl) | fail) ?_) | (refine Le_fresh (by first | (simp only [*] <;> done) | (simp [set_none', Heap.set_same, set_ne, noneH, *] <;> done) | fail) ?_) | (refine Heap.Le.trans ?_ (Grow.le (by assumption))) | exact Le_none | (refine Le_put ?_ (by first | (simp only [Heap.set_same, set_ne, ne_eq, not_false_eq_true, *] <;> rfl) | fail)) | fail)))
  · refine HL.hc k54 999 ?_; unfold M54
    (all_goals (try simp only [Sq,Sr,Sh,Si,Sl,Bu,Bb,Bd,Bc,Bw,Bn,Int.reduceAdd,Int.reduceSub,Int.reduceMul,Int.reduceTDiv,Int.reduceTMod,Int.reduceMod,Int.reduceDiv,Nat.reduceLT,Nat.reduceEqDiff,Sa,Sb,Sc,Sd,Se,Sf,Sg,Int.reduceLE,Int.reduceLT,Int.reduceToNat,Int.reduceNeg,Int.reduceEq,Nat.reduceLeDiff,Nat.reducePow,Int.reducePow,reduceIte,Nat.reduceSub,Nat.reduceAdd,Nat.reduceMul,putAt,ceq,List.replicate, *])); repeat' ((first | (with_reducible refine fun _ : True => ?_) | (with_reducible refine any_h ?_) | ((first | refine AllocQ_i ?_ | refine AllocO_i ?_); intro bk hb0 hbk; (try simp only [set_none'] at hbk)) | ((first | refine condS_i ?_ ?_ | refine pick_i ?_ ?_ | refine gS_it ?_ ?_ | refine gS_if ?_ ?_ | refine gP_it ?_ ?_ | refine gP_if ?_ ?_) <;> (intro hc; try simp only [Int.reduceLE,Int.reduceLT,Int.reduceEq,Sn] at hc)) | (with_reducible refine And.intro ?_ ?_)) <;> (try simp only [Sq,Sr,Sh,Si,Sl,Bu,Bb,Bd,Bc,Bw,Bn,Int.reduceAdd,Int.reduceSub,Int.reduceMul,Int.reduceTDiv,Int.reduceTMod,Int.reduceMod,Int.reduceDiv,Nat.reduceLT,Nat.reduceEqDiff,Sa,Sb,Sc,Sd,Se,Sf,Sg,Int.reduceLE,Int.reduceLT,Int.reduceToNat,Int.reduceNeg,Int.reduceEq,Nat.reduceLeDiff,Nat.reducePow,Int.reducePow,reduceIte,Nat.reduceSub,Nat.reduceAdd,Nat.reduceMul,putAt,ceq,List.replicate, *]))
    all_goals exact kf (.inl e1) _ (by (repeat' (first | exact Heap.Le.refl _ | (with_reducible refine Le_set2 ?_) | (refine Le_known (by first | (simp only [Heap.set_same, set_ne, ne_eq, not_false_eq_true, *] <;> rfl) | fail) ?_) | (refine Le_fresh (by first | (simp only [*] <;> done) | (simp [set_none', Heap.set_same, set_ne, noneH, *] <;> done) | fail) ?_) | (refine Heap.Le.trans ?_ (Grow.le (by assumption))) | exact Le_none | (refine Le_put ?_ (by first | (simp only [Heap.set_same, set_ne, ne_eq, not_false_eq_true, *] <;> rfl) | fail)) | fail)))
theorem cores_eq {ls ls' : List LvR} (hl : ls.length = ls'.length) (h : ∀ k, k < ls.length → ∀ z z', ls[k]? = some z → ls'[k]? = some z' → z.core = z'.core) : ls.map LvR.core = ls'.map LvR.core := by
  apply List.ext_getElem?
  intro i
  rw [List.getElem?_map, List.getElem?_map]
  rcases Nat.lt_or_ge i ls.length with hi | hi
  · have e1 := List.getElem?_eq_getElem hi
    have e2 := List.getElem?_eq_getElem (show i < ls'.length by omega)
    rw [e1, e2, Option.map_some, Option.map_some, h i hi _ _ e1 e2]
  · rw [List.getElem?_eq_none hi, List.getElem?_eq_none (by omega)]
theorem cores_ne {ls ls' : List LvR} {k : Nat} {z z' : LvR} (h1 : ls[k]? = some z) (h2 : ls'[k]? = some z') (h : z.core ≠ z'.core) : ls.map LvR.core ≠ ls'.map LvR.core := fun e => by
  have := congrArg (fun l : List (Int × Int × List Int) => l[k]?) e
  simp only [List.getElem?_map, h1, h2, Option.map_some, Option.some.injEq] at this
  exact h this
/- slices EqualFunc[[]paintbox/api Level,[]paintbox/api Level,paintbox/api Level,paintbox/api Level] -/
def M56 : MC :=
  .seq (.reg [⟨(some 6), .mv (.const (.bool false)), none⟩])
 (.seq (.seq (.reg [⟨(some 10), .mv (.tmp 0), none⟩,
 ⟨(some 11), .len (.tmp 10), none⟩,
 ⟨(some 12), .mv (.tmp 1), none⟩,
 ⟨(some 13), .len (.tmp 12), none⟩,
 ⟨(some 14), .bin .neq (.tmp 11) (.tmp 13), none⟩])
 (.cond (.tmp 14)
 (.seq (.reg [⟨(some 6), .mv (.const (.bool false)), none⟩])
 (.ret))
 (.skip)))
 (.seq (.seq (.reg [⟨(some 15), .mv (.tmp 0), none⟩,
 ⟨(some 16), .len (.tmp 15), none⟩,
 ⟨(some 17), .mv (.const (.int .i64 0)), none⟩])
 (.block 0 (.loop (.seq (.reg [⟨(some 18), .bin .lss (.tmp 17) (.tmp 16), none⟩])
 (.seq (.cond (.tmp 18)
 (.skip)
 (.exit 0))
 (.seq (.block 1 (.seq (.reg [⟨(some 19), .mv (.tmp 17), none⟩,
 ⟨(some 20), .is 3 (.tmp 15) (.tmp 17), none⟩,
 ⟨(some 21), .ldn 3 (.tmp 20), none⟩,
 ⟨(some 8), .alloc 38 [(.int .i64 0), (.int .i64 0), (.slice none 0 0)], none⟩,
 ⟨(some 7), .mv (.tmp 19), none⟩,
 ⟨none, .stn 3 (.tmp 8) (.tmp 21), none⟩])
 (.seq (.reg [⟨(some 22), .mv (.tmp 1), none⟩,
 ⟨(some 23), .mv (.tmp 7), none⟩,
 ⟨(some 24), .is 3 (.tmp 22) (.tmp 23), none⟩,
 ⟨(some 25), .ldn 3 (.tmp 24), none⟩,
 ⟨(some 9), .alloc 38 [(.int .i64 0), (.int .i64 0), (.slice none 0 0)], none⟩,
 ⟨none, .stn 3 (.tmp 9) (.tmp 25), none⟩])
 (.seq (.reg [⟨(some 26), .mv (.tmp 2), none⟩,
 ⟨(some 27), .ldn 3 (.tmp 8), none⟩,
 ⟨(some 28), .ldn 3 (.tmp 9), none⟩,
 ⟨(some 29), .yv (.tmp 26) [(.tmp 27), (.tmp 28)], none⟩,
 ⟨(some 30), .un .not (.tmp 29), none⟩])
 (.cond (.tmp 30)
 (.seq (.reg [⟨(some 6), .mv (.const (.bool false)), none⟩])
 (.ret))
 (.skip))))))
 (.reg [⟨(some 31), .bin .add (.tmp 17) (.const (.int .i64 1)), none⟩,
 ⟨(some 17), .mv (.tmp 31), none⟩])))))))
 (.seq (.reg [⟨(some 6), .mv (.const (.bool true)), none⟩])
 (.ret))))
theorem k56 : fnOk Try.prog 56 = some (M56, [.t 6], 32) := by kernel_rfl

theorem c_EqualFunc (a a' : Option Addr) (c c' : Nat) (ls ls' : List LvR) (hA : SlAt w0 H a (ls.map LvR.row).flatten) (hA' : SlAt w0 H a' (ls'.map LvR.row).flatten) (hx : ∀ y ∈ ls, LvOk w0 H y) (hx' : ∀ y ∈ ls', LvOk w0 H y) (hm : ls.length ≤ maxLen)
    (h1 : ls.map LvR.core = ls'.map LvR.core → K (.bool true) H) (h2 : ls.map LvR.core ≠ ls'.map LvR.core → K (.bool false) H) :
    HCalls Try.prog w0 56 [.slice a ls.length c, .slice a' ls'.length c', .func (.func 54) #[] #[]] H K := by
  by_cases hl : ls.length = ls'.length
  · rcases Nat.eq_zero_or_pos ls.length with h0 | h0
    · have e1 : ls = [] := List.length_eq_zero_iff.1 h0
      have e2 : ls' = [] := List.length_eq_zero_iff.1 (by omega)
      subst e1 e2
      have h1 := h1 rfl
      clear h2
      refine HL.hc k56 999 ?_; unfold M56
      (all_goals (try simp only [Sq,Sr,Sh,Si,Sl,Bu,Bb,Bd,Bc,Bw,Bn,Int.reduceAdd,Int.reduceSub,Int.reduceMul,Int.reduceTDiv,Int.reduceTMod,Int.reduceMod,Int.reduceDiv,Nat.reduceLT,Nat.reduceEqDiff,Sa,Sb,Sc,Sd,Se,Sf,Sg,Int.reduceLE,Int.reduceLT,Int.reduceToNat,Int.reduceNeg,Int.reduceEq,Nat.reduceLeDiff,Nat.reducePow,Int.reducePow,reduceIte,Nat.reduceSub,Nat.reduceAdd,Nat.reduceMul,putAt,ceq,List.replicate, *])); repeat' ((first | (with_reducible refine fun _ : True => ?_) | (with_reducible refine any_h ?_) | ((first | refine AllocQ_i ?_ | refine AllocO_i ?_); intro bk hb0 hbk; (try simp only [set_none'] at hbk)) | ((first | refine condS_i ?_ ?_ | refine pick_i ?_ ?_ | refine gS_it ?_ ?_ | refine gS_if ?_ ?_ | refine gP_it ?_ ?_ | refine gP_if ?_ ?_) <;> (intro hc; try simp only [Int.reduceLE,Int.reduceLT,Int.reduceEq,Sn] at hc)) | (with_reducible refine loop_u ?_) | (with_reducible refine And.intro ?_ ?_)) <;> (try simp only [Sq,Sr,Sh,Si,Sl,Bu,Bb,Bd,Bc,Bw,Bn,Int.reduceAdd,Int.reduceSub,Int.reduceMul,Int.reduceTDiv,Int.reduceTMod,Int.reduceMod,Int.reduceDiv,Nat.reduceLT,Nat.reduceEqDiff,Sa,Sb,Sc,Sd,Se,Sf,Sg,Int.reduceLE,Int.reduceLT,Int.reduceToNat,Int.reduceNeg,Int.reduceEq,Nat.reduceLeDiff,Nat.reducePow,Int.reducePow,reduceIte,Nat.reduceSub,Nat.reduceAdd,Nat.reduceMul,putAt,ceq,List.replicate, *]))
      exact Fin_mk (by (repeat' (first | exact Heap.Le.refl _ | (with_reducible refine Le_set2 ?_) | (refine Le_known (by first | (simp only [Heap.set_same, set_ne, ne_eq, not_false_eq_true, *] <;> rfl) | fail) ?_) | (refine Le_fresh (by first | (simp only [*] <;> done) | (simp [set_none', Heap.set_same, set_ne, noneH, *] <;> done) | fail) ?_) | (refine Heap.Le.trans ?_ (Grow.le (by assumption))) | exact Le_none | (refine Le_put ?_ (by first | (simp only [Heap.set_same, set_ne, ne_eq, not_false_eq_true, *] <;> rfl) | fail)) | fail))) h1
    · obtain ⟨b, o, rfl, hr, hf⟩ := rows_at hA h0
      obtain ⟨b', o', rfl, hr', hf'⟩ := rows_at hA' (by omega)
      have hne : ∀ (k : Nat) (z z' : LvR), ls[k]? = some z → ls'[k]? = some z' → z.core ≠ z'.core → ∀ G, Heap.Le H G → HL.Fin K (.bool false) G := fun k z z' e1 e2 hv G hle => Fin_mk hle (h2 (cores_ne e1 e2 hv))
      have heq : (∀ k, k < ls.length → ∀ z z', ls[k]? = some z → ls'[k]? = some z' → z.core = z'.core) → HL.Fin K (.bool true) H := fun h => Fin_mk (Heap.Le.refl _) (h1 (cores_eq hl h))
      obtain ⟨n, en⟩ : ∃ n, ls.length = n := ⟨_, rfl⟩
      have en' : ls'.length = n := by omega
      rw [en, en']
      rw [en] at hm heq
      clear hA hA' h1 h2 hl h0
      refine HL.hc k56 999 ?_; unfold M56
      (all_goals (try simp only [Sq,Sr,Sh,Si,Sl,Bu,Bb,Bd,Bc,Bw,Bn,Int.reduceAdd,Int.reduceSub,Int.reduceMul,Int.reduceTDiv,Int.reduceTMod,Int.reduceMod,Int.reduceDiv,Nat.reduceLT,Nat.reduceEqDiff,Sa,Sb,Sc,Sd,Se,Sf,Sg,Int.reduceLE,Int.reduceLT,Int.reduceToNat,Int.reduceNeg,Int.reduceEq,Nat.reduceLeDiff,Nat.reducePow,Int.reducePow,reduceIte,Nat.reduceSub,Nat.reduceAdd,Nat.reduceMul,putAt,ceq,List.replicate, *])); repeat' ((first | (with_reducible refine fun _ : True => ?_) | (with_reducible refine any_h ?_) | ((first | refine AllocQ_i ?_ | refine AllocO_i ?_); intro bk hb0 hbk; (try simp only [set_none'] at hbk)) | ((first | refine condS_i ?_ ?_ | refine pick_i ?_ ?_ | refine gS_it ?_ ?_ | refine gS_if ?_ ?_ | refine gP_it ?_ ?_ | refine gP_if ?_ ?_) <;> (intro hc; try simp only [Int.reduceLE,Int.reduceLT,Int.reduceEq,Sn] at hc)) | (with_reducible refine And.intro ?_ ?_)) <;> (try simp only [Sq,Sr,Sh,Si,Sl,Bu,Bb,Bd,Bc,Bw,Bn,Int.reduceAdd,Int.reduceSub,Int.reduceMul,Int.reduceTDiv,Int.reduceTMod,Int.reduceMod,Int.reduceDiv,Nat.reduceLT,Nat.reduceEqDiff,Sa,Sb,Sc,Sd,Se,Sf,Sg,Int.reduceLE,Int.reduceLT,Int.reduceToNat,Int.reduceNeg,Int.reduceEq,Nat.reduceLeDiff,Nat.reducePow,Int.reducePow,reduceIte,Nat.reduceSub,Nat.reduceAdd,Nat.reduceMul,putAt,ceq,List.replicate, *]))
      refine loop_g 18 (fun s : Nat × Value × Value × Value => [(7, s.2.1), (8, s.2.2.1), (9, s.2.2.2), (17, .int .i64 (s.1 : Nat))]) (fun _ => H) (fun s => s.1 ≤ n ∧ ∀ k, k < s.1 → ∀ z z', ls[k]? = some z → ls'[k]? = some z' → z.core = z'.core) (fun s => n - s.1) (0, undef, undef, undef) ⟨Nat.zero_le _, fun k hk => by simp at hk⟩ (Heap.Le.refl _) rfl ?_
      intro ⟨k, u, u1, u2⟩ g ⟨hk, hall⟩
      simp only at hk hall
      rcases Nat.lt_or_ge k n with hlt | hge
      · obtain ⟨v, ev⟩ : ∃ v, ls[k]? = some v := ⟨_, List.getElem?_eq_getElem (by omega)⟩
        obtain ⟨v', ev'⟩ : ∃ v, ls'[k]? = some v := ⟨_, List.getElem?_eq_getElem (by omega)⟩
        have r1 := hr k v ev
        have r2 := hr' k v' ev'
        have hne := hne k v v' ev ev'
        have ok1 := hx v (List.mem_of_getElem? ev)
        have ok2 := hx' v' (List.mem_of_getElem? ev')
        have t0 : (k : Int) < (n : Int) := by omega
        have t6 : IntKind.i64.wrap ((k : Int) + 1) = (k : Int) + 1 := Bw.1 _ (by omega) (by unfold maxLen at hm; omega)
        have nxt : v.core = v'.core → ∀ j, j < k + 1 → ∀ z z', ls[j]? = some z → ls'[j]? = some z' → z.core = z'.core := fun e j hj z z' h1 h2 => by
          rcases Nat.lt_or_ge j k with h' | h'
          · exact hall j h' z z' h1 h2
          · obtain rfl : j = k := by omega
            rw [ev] at h1; rw [ev'] at h2
            cases h1; cases h2
            exact e
        clear hall hr hr' heq en en' ev ev' hx hx'
        (all_goals (try simp only [Sq,Sr,Sh,Si,Sl,Bu,Bb,Bd,Bc,Bw,Bn,Int.reduceAdd,Int.reduceSub,Int.reduceMul,Int.reduceTDiv,Int.reduceTMod,Int.reduceMod,Int.reduceDiv,Nat.reduceLT,Nat.reduceEqDiff,Sa,Sb,Sc,Sd,Se,Sf,Sg,Int.reduceLE,Int.reduceLT,Int.reduceToNat,Int.reduceNeg,Int.reduceEq,Nat.reduceLeDiff,Nat.reducePow,Int.reducePow,reduceIte,Nat.reduceSub,Nat.reduceAdd,Nat.reduceMul,putAt,ceq,List.replicate, *])); repeat' ((first | (with_reducible refine fun _ : True => ?_) | (refine c_level v v' (ok1.grow (by (repeat' (first | exact Grow.refl _ | assumption | (refine Grow_known (by first | (simp only [Heap.set_same, set_ne, ne_eq, not_false_eq_true, *] <;> rfl) | fail) ?_) | (refine Grow.set ?_ (by assumption) (by first | (simp only [*] <;> done) | (simp [set_none', Heap.set_same, set_ne, noneH, *] <;> done) | fail)) | (refine Grow.trans ?_ (by assumption)))))) (ok2.grow (by (repeat' (first | exact Grow.refl _ | assumption | (refine Grow_known (by first | (simp only [Heap.set_same, set_ne, ne_eq, not_false_eq_true, *] <;> rfl) | fail) ?_) | (refine Grow.set ?_ (by assumption) (by first | (simp only [*] <;> done) | (simp [set_none', Heap.set_same, set_ne, noneH, *] <;> done) | fail)) | (refine Grow.trans ?_ (by assumption))))))  ?_ ?_ <;> (intro hc; try simp only [Int.reduceLE,Int.reduceLT,Int.reduceEq,Sn] at hc)) | (with_reducible refine any_h ?_) | ((first | refine AllocQ_i ?_ | refine AllocO_i ?_); intro bk hb0 hbk; (try simp only [set_none'] at hbk)) | ((first | refine condS_i ?_ ?_ | refine pick_i ?_ ?_ | refine gS_it ?_ ?_ | refine gS_if ?_ ?_ | refine gP_it ?_ ?_ | refine gP_if ?_ ?_) <;> (intro hc; try simp only [Int.reduceLE,Int.reduceLT,Int.reduceEq,Sn] at hc)) | (with_reducible refine And.intro ?_ ?_)) <;> (try simp only [Sq,Sr,Sh,Si,Sl,Bu,Bb,Bd,Bc,Bw,Bn,Int.reduceAdd,Int.reduceSub,Int.reduceMul,Int.reduceTDiv,Int.reduceTMod,Int.reduceMod,Int.reduceDiv,Nat.reduceLT,Nat.reduceEqDiff,Sa,Sb,Sc,Sd,Se,Sf,Sg,Int.reduceLE,Int.reduceLT,Int.reduceToNat,Int.reduceNeg,Int.reduceEq,Nat.reduceLeDiff,Nat.reducePow,Int.reducePow,reduceIte,Nat.reduceSub,Nat.reduceAdd,Nat.reduceMul,putAt,ceq,List.replicate, *]))
        · exact Round_mk (k + 1, _, _, _) ⟨hlt, nxt (by assumption)⟩ (by simp only; omega) (by (repeat' (first | exact Heap.Le.refl _ | (with_reducible refine Le_set2 ?_) | (refine Le_known (by first | (simp only [Heap.set_same, set_ne, ne_eq, not_false_eq_true, *] <;> rfl) | fail) ?_) | (refine Le_fresh (by first | (simp only [*] <;> done) | (simp [set_none', Heap.set_same, set_ne, noneH, *] <;> done) | fail) ?_) | (refine Heap.Le.trans ?_ (Grow.le (by assumption))) | exact Le_none | (refine Le_put ?_ (by first | (simp only [Heap.set_same, set_ne, ne_eq, not_false_eq_true, *] <;> rfl) | fail)) | fail))) rfl rfl
        · exact hne (by assumption) _ (by (repeat' (first | exact Heap.Le.refl _ | (with_reducible refine Le_set2 ?_) | (refine Le_known (by first | (simp only [Heap.set_same, set_ne, ne_eq, not_false_eq_true, *] <;> rfl) | fail) ?_) | (refine Le_fresh (by first | (simp only [*] <;> done) | (simp [set_none', Heap.set_same, set_ne, noneH, *] <;> done) | fail) ?_) | (refine Heap.Le.trans ?_ (Grow.le (by assumption))) | exact Le_none | (refine Le_put ?_ (by first | (simp only [Heap.set_same, set_ne, ne_eq, not_false_eq_true, *] <;> rfl) | fail)) | fail)))
      · obtain rfl : n = k := by omega
        have t0 : ¬ ((n : Nat) : Int) < ((n : Nat) : Int) := by omega
        have heq := heq hall
        clear hall hne hr hr' en en' hx hx'
        (all_goals (try simp only [Sq,Sr,Sh,Si,Sl,Bu,Bb,Bd,Bc,Bw,Bn,Int.reduceAdd,Int.reduceSub,Int.reduceMul,Int.reduceTDiv,Int.reduceTMod,Int.reduceMod,Int.reduceDiv,Nat.reduceLT,Nat.reduceEqDiff,Sa,Sb,Sc,Sd,Se,Sf,Sg,Int.reduceLE,Int.reduceLT,Int.reduceToNat,Int.reduceNeg,Int.reduceEq,Nat.reduceLeDiff,Nat.reducePow,Int.reducePow,reduceIte,Nat.reduceSub,Nat.reduceAdd,Nat.reduceMul,putAt,ceq,List.replicate, *])); repeat' ((first | (with_reducible refine fun _ : True => ?_) | (with_reducible refine any_h ?_) | ((first | refine AllocQ_i ?_ | refine AllocO_i ?_); intro bk hb0 hbk; (try simp only [set_none'] at hbk)) | ((first | refine condS_i ?_ ?_ | refine pick_i ?_ ?_ | refine gS_it ?_ ?_ | refine gS_if ?_ ?_ | refine gP_it ?_ ?_ | refine gP_if ?_ ?_) <;> (intro hc; try simp only [Int.reduceLE,Int.reduceLT,Int.reduceEq,Sn] at hc)) | (with_reducible refine And.intro ?_ ?_)) <;> (try simp only [Sq,Sr,Sh,Si,Sl,Bu,Bb,Bd,Bc,Bw,Bn,Int.reduceAdd,Int.reduceSub,Int.reduceMul,Int.reduceTDiv,Int.reduceTMod,Int.reduceMod,Int.reduceDiv,Nat.reduceLT,Nat.reduceEqDiff,Sa,Sb,Sc,Sd,Se,Sf,Sg,Int.reduceLE,Int.reduceLT,Int.reduceToNat,Int.reduceNeg,Int.reduceEq,Nat.reduceLeDiff,Nat.reducePow,Int.reducePow,reduceIte,Nat.reduceSub,Nat.reduceAdd,Nat.reduceMul,putAt,ceq,List.replicate, *]))
        all_goals exact heq
  · have el : ¬ (ls.length : Int) = (ls'.length : Int) := by omega
    have h2 := h2 fun e => hl (by have := congrArg List.length e; simpa using this)
    clear hA hA' h1 hl hx hx'
    refine HL.hc k56 999 ?_; unfold M56
    (all_goals (try simp only [Sq,Sr,Sh,Si,Sl,Bu,Bb,Bd,Bc,Bw,Bn,Int.reduceAdd,Int.reduceSub,Int.reduceMul,Int.reduceTDiv,Int.reduceTMod,Int.reduceMod,Int.reduceDiv,Nat.reduceLT,Nat.reduceEqDiff,Sa,Sb,Sc,Sd,Se,Sf,Sg,Int.reduceLE,Int.reduceLT,Int.reduceToNat,Int.reduceNeg,Int.reduceEq,Nat.reduceLeDiff,Nat.reducePow,Int.reducePow,reduceIte,Nat.reduceSub,Nat.reduceAdd,Nat.reduceMul,putAt,ceq,List.replicate, *])); repeat' ((first | (with_reducible refine fun _ : True => ?_) | (with_reducible refine any_h ?_) | ((first | refine AllocQ_i ?_ | refine AllocO_i ?_); intro bk hb0 hbk; (try simp only [set_none'] at hbk)) | ((first | refine condS_i ?_ ?_ | refine pick_i ?_ ?_ | refine gS_it ?_ ?_ | refine gS_if ?_ ?_ | refine gP_it ?_ ?_ | refine gP_if ?_ ?_) <;> (intro hc; try simp only [Int.reduceLE,Int.reduceLT,Int.reduceEq,Sn] at hc)) | (with_reducible refine And.intro ?_ ?_)) <;> (try simp only [Sq,Sr,Sh,Si,Sl,Bu,Bb,Bd,Bc,Bw,Bn,Int.reduceAdd,Int.reduceSub,Int.reduceMul,Int.reduceTDiv,Int.reduceTMod,Int.reduceMod,Int.reduceDiv,Nat.reduceLT,Nat.reduceEqDiff,Sa,Sb,Sc,Sd,Se,Sf,Sg,Int.reduceLE,Int.reduceLT,Int.reduceToNat,Int.reduceNeg,Int.reduceEq,Nat.reduceLeDiff,Nat.reducePow,Int.reducePow,reduceIte,Nat.reduceSub,Nat.reduceAdd,Nat.reduceMul,putAt,ceq,List.replicate, *]))
    exact Fin_mk (by (repeat' (first | exact Heap.Le.refl _ | (with_reducible refine Le_set2 ?_) | (refine Le_known (by first | (simp only [Heap.set_same, set_ne, ne_eq, not_false_eq_true, *] <;> rfl) | fail) ?_) | (refine Le_fresh (by first | (simp only [*] <;> done) | (simp [set_none', Heap.set_same, set_ne, noneH, *] <;> done) | fail) ?_) | (refine Heap.Le.trans ?_ (Grow.le (by assumption))) | exact Le_none | (refine Le_put ?_ (by first | (simp only [Heap.set_same, set_ne, ne_eq, not_false_eq_true, *] <;> rfl) | fail)) | fail))) h2
theorem eqv_of {x y : Im} (h : x.f = y.f ∧ x.s = y.s ∧ x.t = y.t ∧ x.mn = y.mn ∧ x.mg = y.mg) (hl : x.ls.map LvR.core = y.ls.map LvR.core) : Im.Eqv x y := ⟨h.1.symm, h.2.1.symm, h.2.2.1.symm, h.2.2.2.1.symm, h.2.2.2.2.symm, hl.symm⟩
/- image Same -/
def M25 : MC :=
  .seq (.reg [⟨(some 2), .box 24 (.tmp 0), none⟩,
 ⟨(some 3), .box 24 (.tmp 1), none⟩,
 ⟨(some 4), .mv (.const (.bool false)), none⟩])
 (.seq (.reg [⟨(some 5), .mv (.func 54), none⟩])
 (.seq (.reg [⟨(some 6), .fa 0 (.tmp 2), none⟩,
 ⟨(some 7), .ld1 (.tmp 6), none⟩,
 ⟨(some 8), .fa 2 (.tmp 2), none⟩,
 ⟨(some 9), .ld1 (.tmp 8), none⟩,
 ⟨(some 10), .fa 3 (.tmp 2), none⟩,
 ⟨(some 11), .ld1 (.tmp 10), none⟩,
 ⟨(some 12), .fa 4 (.tmp 2), none⟩,
 ⟨(some 13), .ld1 (.tmp 12), none⟩,
 ⟨(some 14), .fa 5 (.tmp 2), none⟩,
 ⟨(some 15), .ld1 (.tmp 14), none⟩,
 ⟨(some 16), .build [(.int .i64 0), (.int .i64 0), (.int .i64 0), (.int .i64 0), (.int .i64 0)] [(0, 1, (.tmp 7)), (1, 1, (.tmp 9)), (2, 1, (.tmp 11)), (3, 1, (.tmp 13)), (4, 1, (.tmp 15))], none⟩,
 ⟨(some 17), .fa 0 (.tmp 3), none⟩,
 ⟨(some 18), .ld1 (.tmp 17), none⟩,
 ⟨(some 19), .fa 2 (.tmp 3), none⟩,
 ⟨(some 20), .ld1 (.tmp 19), none⟩,
 ⟨(some 21), .fa 3 (.tmp 3), none⟩,
 ⟨(some 22), .ld1 (.tmp 21), none⟩,
 ⟨(some 23), .fa 4 (.tmp 3), none⟩,
 ⟨(some 24), .ld1 (.tmp 23), none⟩,
 ⟨(some 25), .fa 5 (.tmp 3), none⟩,
 ⟨(some 26), .ld1 (.tmp 25), none⟩,
 ⟨(some 27), .build [(.int .i64 0), (.int .i64 0), (.int .i64 0), (.int .i64 0), (.int .i64 0)] [(0, 1, (.tmp 18)), (1, 1, (.tmp 20)), (2, 1, (.tmp 22)), (3, 1, (.tmp 24)), (4, 1, (.tmp 26))], none⟩,
 ⟨(some 28), .eqa false 5 (.tmp 16) (.tmp 27), none⟩,
 ⟨(some 29), .mv (.tmp 28), none⟩,
 ⟨(some 30), .fa 1 (.tmp 2), (some (29, true))⟩,
 ⟨(some 31), .ld1 (.tmp 30), (some (29, true))⟩,
 ⟨(some 32), .fa 1 (.tmp 3), (some (29, true))⟩,
 ⟨(some 33), .ld1 (.tmp 32), (some (29, true))⟩,
 ⟨(some 34), .mv (.tmp 5), (some (29, true))⟩,
 ⟨(some 35), .call 56 [(.tmp 31), (.tmp 33), (.tmp 34)], (some (29, true))⟩,
 ⟨(some 36), .pick (.tmp 29) (.tmp 35) (.const (.bool false)), none⟩,
 ⟨(some 4), .mv (.tmp 36), none⟩])
 (.ret)))
theorem k25 : fnOk Try.prog 25 = some (M25, [.t 4], 37) := by kernel_rfl

theorem c_Same (x y : Im) (hx : ImOk w0 H x) (hy : ImOk w0 H y) (h1 : Im.Eqv x y → K (.bool true) H) (h2 : ¬ Im.Eqv x y → K (.bool false) H) : HCalls Try.prog w0 25 [x.v, y.v] H K := by
  have cE : ∀ (G : Heap) (K : Value → Heap → Prop), Grow w0 H G → (x.ls.map LvR.core = y.ls.map LvR.core → K (.bool true) G) → (x.ls.map LvR.core ≠ y.ls.map LvR.core → K (.bool false) G) →
      HCalls Try.prog w0 56 [.slice x.a x.ls.length x.cap, .slice y.a y.ls.length y.cap, .func (.func 54) #[] #[]] G K :=
    fun G K g h1 h2 => c_EqualFunc _ _ _ _ _ _ (hx.at_.grow g) (hy.at_.grow g) (fun z hz => (hx.lv z hz).grow g) (fun z hz => (hy.lv z hz).grow g) hx.lm h1 h2
  by_cases he : x.f = y.f ∧ x.s = y.s ∧ x.t = y.t ∧ x.mn = y.mn ∧ x.mg = y.mg
  · have h1 : x.ls.map LvR.core = y.ls.map LvR.core → K (.bool true) H := fun h => h1 (eqv_of he h)
    have h2 : x.ls.map LvR.core ≠ y.ls.map LvR.core → K (.bool false) H := fun h => h2 fun e => h e.ls.symm
    obtain ⟨e1, e2, e3, e4, e5⟩ := he
    clear hx hy
    unfold Im.v
    refine HL.hc k25 999 ?_; unfold M25
    (all_goals (try simp only [Sq,Sr,Sh,Si,Sl,Bu,Bb,Bd,Bc,Bw,Bn,Int.reduceAdd,Int.reduceSub,Int.reduceMul,Int.reduceTDiv,Int.reduceTMod,Int.reduceMod,Int.reduceDiv,Nat.reduceLT,Nat.reduceEqDiff,Sa,Sb,Sc,Sd,Se,Sf,Sg,Int.reduceLE,Int.reduceLT,Int.reduceToNat,Int.reduceNeg,Int.reduceEq,Nat.reduceLeDiff,Nat.reducePow,Int.reducePow,reduceIte,Nat.reduceSub,Nat.reduceAdd,Nat.reduceMul,putAt,ceq,List.replicate, *])); repeat' ((first | (with_reducible refine fun _ : True => ?_) | (refine cE _ _ (by (repeat' (first | exact Grow.refl _ | assumption | (refine Grow_known (by first | (simp only [Heap.set_same, set_ne, ne_eq, not_false_eq_true, *] <;> rfl) | fail) ?_) | (refine Grow.set ?_ (by assumption) (by first | (simp only [*] <;> done) | (simp [set_none', Heap.set_same, set_ne, noneH, *] <;> done) | fail)) | (refine Grow.trans ?_ (by assumption)))))  ?_ ?_ <;> (intro hc; try simp only [Int.reduceLE,Int.reduceLT,Int.reduceEq,Sn] at hc)) | (with_reducible refine any_h ?_) | ((first | refine AllocQ_i ?_ | refine AllocO_i ?_); intro bk hb0 hbk; (try simp only [set_none'] at hbk)) | ((first | refine condS_i ?_ ?_ | refine pick_i ?_ ?_ | refine gS_it ?_ ?_ | refine gS_if ?_ ?_ | refine gP_it ?_ ?_ | refine gP_if ?_ ?_) <;> (intro hc; try simp only [Int.reduceLE,Int.reduceLT,Int.reduceEq,Sn] at hc)) | (with_reducible refine And.intro ?_ ?_)) <;> (try simp only [Sq,Sr,Sh,Si,Sl,Bu,Bb,Bd,Bc,Bw,Bn,Int.reduceAdd,Int.reduceSub,Int.reduceMul,Int.reduceTDiv,Int.reduceTMod,Int.reduceMod,Int.reduceDiv,Nat.reduceLT,Nat.reduceEqDiff,Sa,Sb,Sc,Sd,Se,Sf,Sg,Int.reduceLE,Int.reduceLT,Int.reduceToNat,Int.reduceNeg,Int.reduceEq,Nat.reduceLeDiff,Nat.reducePow,Int.reducePow,reduceIte,Nat.reduceSub,Nat.reduceAdd,Nat.reduceMul,putAt,ceq,List.replicate, *]))
    · exact Fin_mk (by (repeat' (first | exact Heap.Le.refl _ | (with_reducible refine Le_set2 ?_) | (refine Le_known (by first | (simp only [Heap.set_same, set_ne, ne_eq, not_false_eq_true, *] <;> rfl) | fail) ?_) | (refine Le_fresh (by first | (simp only [*] <;> done) | (simp [set_none', Heap.set_same, set_ne, noneH, *] <;> done) | fail) ?_) | (refine Heap.Le.trans ?_ (Grow.le (by assumption))) | exact Le_none | (refine Le_put ?_ (by first | (simp only [Heap.set_same, set_ne, ne_eq, not_false_eq_true, *] <;> rfl) | fail)) | fail))) (h1 (by assumption))
    · exact Fin_mk (by (repeat' (first | exact Heap.Le.refl _ | (with_reducible refine Le_set2 ?_) | (refine Le_known (by first | (simp only [Heap.set_same, set_ne, ne_eq, not_false_eq_true, *] <;> rfl) | fail) ?_) | (refine Le_fresh (by first | (simp only [*] <;> done) | (simp [set_none', Heap.set_same, set_ne, noneH, *] <;> done) | fail) ?_) | (refine Heap.Le.trans ?_ (Grow.le (by assumption))) | exact Le_none | (refine Le_put ?_ (by first | (simp only [Heap.set_same, set_ne, ne_eq, not_false_eq_true, *] <;> rfl) | fail)) | fail))) (h2 (by assumption))
  · have h2 := h2 fun e => he ⟨e.f.symm, e.s.symm, e.t.symm, e.mn.symm, e.mg.symm⟩
    clear hx hy h1
    unfold Im.v
    refine HL.hc k25 999 ?_; unfold M25
    (all_goals (try simp only [Sq,Sr,Sh,Si,Sl,Bu,Bb,Bd,Bc,Bw,Bn,Int.reduceAdd,Int.reduceSub,Int.reduceMul,Int.reduceTDiv,Int.reduceTMod,Int.reduceMod,Int.reduceDiv,Nat.reduceLT,Nat.reduceEqDiff,Sa,Sb,Sc,Sd,Se,Sf,Sg,Int.reduceLE,Int.reduceLT,Int.reduceToNat,Int.reduceNeg,Int.reduceEq,Nat.reduceLeDiff,Nat.reducePow,Int.reducePow,reduceIte,Nat.reduceSub,Nat.reduceAdd,Nat.reduceMul,putAt,ceq,List.replicate, *])); repeat' ((first | (with_reducible refine fun _ : True => ?_) | (with_reducible refine any_h ?_) | ((first | refine AllocQ_i ?_ | refine AllocO_i ?_); intro bk hb0 hbk; (try simp only [set_none'] at hbk)) | ((first | refine condS_i ?_ ?_ | refine pick_i ?_ ?_ | refine gS_it ?_ ?_ | refine gS_if ?_ ?_ | refine gP_it ?_ ?_ | refine gP_if ?_ ?_) <;> (intro hc; try simp only [Int.reduceLE,Int.reduceLT,Int.reduceEq,Sn] at hc)) | (with_reducible refine And.intro ?_ ?_)) <;> (try simp only [Sq,Sr,Sh,Si,Sl,Bu,Bb,Bd,Bc,Bw,Bn,Int.reduceAdd,Int.reduceSub,Int.reduceMul,Int.reduceTDiv,Int.reduceTMod,Int.reduceMod,Int.reduceDiv,Nat.reduceLT,Nat.reduceEqDiff,Sa,Sb,Sc,Sd,Se,Sf,Sg,Int.reduceLE,Int.reduceLT,Int.reduceToNat,Int.reduceNeg,Int.reduceEq,Nat.reduceLeDiff,Nat.reducePow,Int.reducePow,reduceIte,Nat.reduceSub,Nat.reduceAdd,Nat.reduceMul,putAt,ceq,List.replicate, *]))
    all_goals first
      | exact Fin_mk (by (repeat' (first | exact Heap.Le.refl _ | (with_reducible refine Le_set2 ?_) | (refine Le_known (by first | (simp only [Heap.set_same, set_ne, ne_eq, not_false_eq_true, *] <;> rfl) | fail) ?_) | (refine Le_fresh (by first | (simp only [*] <;> done) | (simp [set_none', Heap.set_same, set_ne, noneH, *] <;> done) | fail) ?_) | (refine Heap.Le.trans ?_ (Grow.le (by assumption))) | exact Le_none | (refine Le_put ?_ (by first | (simp only [Heap.set_same, set_ne, ne_eq, not_false_eq_true, *] <;> rfl) | fail)) | fail))) h2
      | (exfalso; simp only [Bool.and_eq_true, decide_eq_true_eq] at hc; exact he hc)
/- paintboxref08 Same -/
def M26 : MC :=
  .seq (.reg [⟨(some 2), .box 24 (.tmp 0), none⟩,
 ⟨(some 3), .box 24 (.tmp 1), none⟩,
 ⟨(some 4), .mv (.const (.bool false)), none⟩])
 (.seq (.seq (.reg [⟨(some 6), .fa 0 (.tmp 2), none⟩,
 ⟨(some 7), .ld1 (.tmp 6), none⟩,
 ⟨(some 8), .fa 0 (.tmp 3), none⟩,
 ⟨(some 9), .ld1 (.tmp 8), none⟩,
 ⟨(some 10), .bin .neq (.tmp 7) (.tmp 9), none⟩,
 ⟨(some 11), .mv (.tmp 10), none⟩,
 ⟨(some 12), .fa 1 (.tmp 2), (some (11, false))⟩,
 ⟨(some 13), .ld1 (.tmp 12), (some (11, false))⟩,
 ⟨(some 14), .len (.tmp 13), (some (11, false))⟩,
 ⟨(some 15), .fa 1 (.tmp 3), (some (11, false))⟩,
 ⟨(some 16), .ld1 (.tmp 15), (some (11, false))⟩,
 ⟨(some 17), .len (.tmp 16), (some (11, false))⟩,
 ⟨(some 18), .bin .neq (.tmp 14) (.tmp 17), (some (11, false))⟩,
 ⟨(some 19), .pick (.tmp 11) (.const (.bool true)) (.tmp 18), none⟩,
 ⟨(some 20), .mv (.tmp 19), none⟩,
 ⟨(some 21), .fa 2 (.tmp 2), (some (20, false))⟩,
 ⟨(some 22), .ld1 (.tmp 21), (some (20, false))⟩,
 ⟨(some 23), .fa 2 (.tmp 3), (some (20, false))⟩,
 ⟨(some 24), .ld1 (.tmp 23), (some (20, false))⟩,
 ⟨(some 25), .bin .neq (.tmp 22) (.tmp 24), (some (20, false))⟩,
 ⟨(some 26), .pick (.tmp 20) (.const (.bool true)) (.tmp 25), none⟩,
 ⟨(some 27), .mv (.tmp 26), none⟩,
 ⟨(some 28), .fa 3 (.tmp 2), (some (27, false))⟩,
 ⟨(some 29), .ld1 (.tmp 28), (some (27, false))⟩,
 ⟨(some 30), .fa 3 (.tmp 3), (some (27, false))⟩,
 ⟨(some 31), .ld1 (.tmp 30), (some (27, false))⟩,
 ⟨(some 32), .bin .neq (.tmp 29) (.tmp 31), (some (27, false))⟩,
 ⟨(some 33), .pick (.tmp 27) (.const (.bool true)) (.tmp 32), none⟩,
 ⟨(some 34), .mv (.tmp 33), none⟩,
 ⟨(some 35), .fa 4 (.tmp 2), (some (34, false))⟩,
 ⟨(some 36), .ld1 (.tmp 35), (some (34, false))⟩,
 ⟨(some 37), .fa 4 (.tmp 3), (some (34, false))⟩,
 ⟨(some 38), .ld1 (.tmp 37), (some (34, false))⟩,
 ⟨(some 39), .bin .neq (.tmp 36) (.tmp 38), (some (34, false))⟩,
 ⟨(some 40), .pick (.tmp 34) (.const (.bool true)) (.tmp 39), none⟩,
 ⟨(some 41), .mv (.tmp 40), none⟩,
 ⟨(some 42), .fa 5 (.tmp 2), (some (41, false))⟩,
 ⟨(some 43), .ld1 (.tmp 42), (some (41, false))⟩,
 ⟨(some 44), .fa 5 (.tmp 3), (some (41, false))⟩,
 ⟨(some 45), .ld1 (.tmp 44), (some (41, false))⟩,
 ⟨(some 46), .bin .neq (.tmp 43) (.tmp 45), (some (41, false))⟩,
 ⟨(some 47), .pick (.tmp 41) (.const (.bool true)) (.tmp 46), none⟩])
 (.cond (.tmp 47)
 (.seq (.reg [⟨(some 4), .mv (.const (.bool false)), none⟩])
 (.ret))
 (.skip)))
 (.seq (.seq (.reg [⟨(some 48), .fa 1 (.tmp 2), none⟩,
 ⟨(some 49), .ld1 (.tmp 48), none⟩,
 ⟨(some 50), .len (.tmp 49), none⟩,
 ⟨(some 51), .mv (.const (.int .i64 0)), none⟩])
 (.block 0 (.loop (.seq (.reg [⟨(some 52), .bin .lss (.tmp 51) (.tmp 50), none⟩])
 (.seq (.cond (.tmp 52)
 (.skip)
 (.exit 0))
 (.seq (.block 1 (.seq (.reg [⟨(some 53), .mv (.tmp 51), none⟩,
 ⟨(some 5), .mv (.tmp 53), none⟩])
 (.seq (.any [(true, 0, [], ⟨(some 54), .fa 1 (.tmp 2), none⟩),
 (true, 1, [], ⟨(some 55), .ld1 (.tmp 54), none⟩),
 (true, 2, [], ⟨(some 56), .mv (.tmp 5), none⟩),
 (true, 3, [], ⟨(some 57), .is 3 (.tmp 55) (.tmp 56), none⟩),
 (true, 4, [], ⟨(some 58), .fa 0 (.tmp 57), none⟩),
 (true, 5, [], ⟨(some 59), .ld1 (.tmp 58), none⟩),
 (true, 6, [], ⟨(some 60), .fa 1 (.tmp 3), none⟩),
 (true, 7, [], ⟨(some 61), .ld1 (.tmp 60), none⟩),
 (false, 8, [0, 1, 2, 3, 4, 5, 6, 7, 14, 15, 16, 17, 18, 19, 20, 21, 29, 30, 31, 32, 33, 34, 35, 36, 37], ⟨(some 62), .mv (.tmp 5), none⟩),
 (false, 9, [0, 1, 2, 3, 4, 5, 14, 15, 16, 17, 18, 19, 20, 21, 29, 30, 31, 32, 33, 34, 35, 36, 37], ⟨(some 63), .is 3 (.tmp 61) (.tmp 62), none⟩),
 (false, 10, [0, 1, 2, 3, 4, 5, 14, 15, 16, 17, 18, 19, 20, 21, 29, 30, 31, 32, 33, 34, 35, 36, 37], ⟨(some 64), .fa 0 (.tmp 63), none⟩),
 (false, 11, [0, 1, 2, 3, 4, 5, 14, 15, 16, 17, 18, 19, 20, 21, 29, 30, 31, 32, 33, 34, 35, 36, 37], ⟨(some 65), .ld1 (.tmp 64), none⟩),
 (false, 12, [14, 15, 16, 17, 18, 19, 20, 21, 29, 30, 31, 32, 33, 34, 35, 36, 37], ⟨(some 66), .bin .neq (.tmp 59) (.tmp 65), none⟩),
 (false, 13, [14, 15, 16, 17, 18, 19, 20, 21, 29, 30, 31, 32, 33, 34, 35, 36, 37], ⟨(some 67), .mv (.tmp 66), none⟩),
 (true, 14, [], ⟨(some 68), .fa 1 (.tmp 2), (some (67, false))⟩),
 (true, 15, [], ⟨(some 69), .ld1 (.tmp 68), (some (67, false))⟩),
 (true, 16, [], ⟨(some 70), .mv (.tmp 5), (some (67, false))⟩),
 (true, 17, [], ⟨(some 71), .is 3 (.tmp 69) (.tmp 70), (some (67, false))⟩),
 (true, 18, [], ⟨(some 72), .fa 1 (.tmp 71), (some (67, false))⟩),
 (true, 19, [], ⟨(some 73), .ld1 (.tmp 72), (some (67, false))⟩),
 (true, 20, [], ⟨(some 74), .fa 1 (.tmp 3), (some (67, false))⟩),
 (true, 21, [], ⟨(some 75), .ld1 (.tmp 74), (some (67, false))⟩),
 (false, 22, [14, 15, 16, 17, 18, 19, 20, 21, 29, 30, 31, 32, 33, 34, 35, 36, 37], ⟨(some 76), .mv (.tmp 5), (some (67, false))⟩),
 (false, 23, [14, 15, 16, 17, 18, 19, 29, 30, 31, 32, 33, 34, 35, 36, 37], ⟨(some 77), .is 3 (.tmp 75) (.tmp 76), (some (67, false))⟩),
 (false, 24, [14, 15, 16, 17, 18, 19, 29, 30, 31, 32, 33, 34, 35, 36, 37], ⟨(some 78), .fa 1 (.tmp 77), (some (67, false))⟩),
 (false, 25, [14, 15, 16, 17, 18, 19, 29, 30, 31, 32, 33, 34, 35, 36, 37], ⟨(some 79), .ld1 (.tmp 78), (some (67, false))⟩),
 (false, 26, [29, 30, 31, 32, 33, 34, 35, 36, 37], ⟨(some 80), .bin .neq (.tmp 73) (.tmp 79), (some (67, false))⟩),
 (false, 27, [29, 30, 31, 32, 33, 34, 35, 36, 37], ⟨(some 81), .pick (.tmp 67) (.const (.bool true)) (.tmp 80), none⟩),
 (false, 28, [29, 30, 31, 32, 33, 34, 35, 36, 37], ⟨(some 82), .mv (.tmp 81), none⟩),
 (true, 29, [], ⟨(some 83), .fa 1 (.tmp 2), (some (82, false))⟩),
 (true, 30, [], ⟨(some 84), .ld1 (.tmp 83), (some (82, false))⟩),
 (true, 31, [], ⟨(some 85), .mv (.tmp 5), (some (82, false))⟩),
 (true, 32, [], ⟨(some 86), .is 3 (.tmp 84) (.tmp 85), (some (82, false))⟩),
 (true, 33, [], ⟨(some 87), .fa 2 (.tmp 86), (some (82, false))⟩),
 (true, 34, [], ⟨(some 88), .ld1 (.tmp 87), (some (82, false))⟩),
 (true, 35, [], ⟨(some 89), .bstr (.tmp 88), (some (82, false))⟩),
 (true, 36, [], ⟨(some 90), .fa 1 (.tmp 3), (some (82, false))⟩),
 (true, 37, [], ⟨(some 91), .ld1 (.tmp 90), (some (82, false))⟩),
 (false, 38, [29, 30, 31, 32, 33, 34, 35, 36, 37], ⟨(some 92), .mv (.tmp 5), (some (82, false))⟩),
 (false, 39, [29, 30, 31, 32, 33, 34, 35], ⟨(some 93), .is 3 (.tmp 91) (.tmp 92), (some (82, false))⟩),
 (false, 40, [29, 30, 31, 32, 33, 34, 35], ⟨(some 94), .fa 2 (.tmp 93), (some (82, false))⟩),
 (false, 41, [29, 30, 31, 32, 33, 34, 35], ⟨(some 95), .ld1 (.tmp 94), (some (82, false))⟩),
 (false, 42, [29, 30, 31, 32, 33, 34, 35], ⟨(some 96), .bstr (.tmp 95), (some (82, false))⟩),
 (false, 43, [], ⟨(some 97), .eqst true (.tmp 89) (.tmp 96), (some (82, false))⟩),
 (false, 44, [], ⟨(some 98), .pick (.tmp 82) (.const (.bool true)) (.tmp 97), none⟩)])
 (.cond (.tmp 98)
 (.seq (.reg [⟨(some 4), .mv (.const (.bool false)), none⟩])
 (.ret))
 (.skip)))))
 (.reg [⟨(some 99), .bin .add (.tmp 51) (.const (.int .i64 1)), none⟩,
 ⟨(some 51), .mv (.tmp 99), none⟩])))))))
 (.seq (.reg [⟨(some 4), .mv (.const (.bool true)), none⟩])
 (.ret))))
theorem k26 : fnOk Try.prog 26 = some (M26, [.t 4], 100) := by kernel_rfl

theorem r_Same (x y : Im) (hx : ImOk w0 H x) (hy : ImOk w0 H y) (h1 : Im.Eqv x y → K (.bool true) H) (h2 : ¬ Im.Eqv x y → K (.bool false) H) : HCalls Try.prog w0 26 [x.v, y.v] H K := by
  by_cases he : x.f = y.f ∧ x.ls.length = y.ls.length ∧ x.s = y.s ∧ x.t = y.t ∧ x.mn = y.mn ∧ x.mg = y.mg
  · obtain ⟨e1, hl, e2, e3, e4, e5⟩ := he
    have el : (x.ls.length : Int) = (y.ls.length : Int) := by omega
    have hm := hx.lm
    rcases Nat.eq_zero_or_pos x.ls.length with h0 | h0
    · have h1 := h1 (eqv_of ⟨e1, e2, e3, e4, e5⟩ (by
        rw [List.length_eq_zero_iff.1 h0, List.length_eq_zero_iff.1 (show y.ls.length = 0 by omega)]))
      have h0' : y.ls.length = 0 := by omega
      clear h2 hx hy hl el hm
      unfold Im.v
      rw [h0, h0']
      refine HL.hc k26 999 ?_; unfold M26
      (all_goals (try simp only [Sq,Sr,Sh,Si,Sl,Bu,Bb,Bd,Bc,Bw,Bn,Int.reduceAdd,Int.reduceSub,Int.reduceMul,Int.reduceTDiv,Int.reduceTMod,Int.reduceMod,Int.reduceDiv,Nat.reduceLT,Nat.reduceEqDiff,Sa,Sb,Sc,Sd,Se,Sf,Sg,Int.reduceLE,Int.reduceLT,Int.reduceToNat,Int.reduceNeg,Int.reduceEq,Nat.reduceLeDiff,Nat.reducePow,Int.reducePow,reduceIte,Nat.reduceSub,Nat.reduceAdd,Nat.reduceMul,putAt,ceq,List.replicate, *])); repeat' ((first | (with_reducible refine fun _ : True => ?_) | (with_reducible refine any_h ?_) | ((first | refine AllocQ_i ?_ | refine AllocO_i ?_); intro bk hb0 hbk; (try simp only [set_none'] at hbk)) | ((first | refine condS_i ?_ ?_ | refine pick_i ?_ ?_ | refine gS_it ?_ ?_ | refine gS_if ?_ ?_ | refine gP_it ?_ ?_ | refine gP_if ?_ ?_) <;> (intro hc; try simp only [Int.reduceLE,Int.reduceLT,Int.reduceEq,Sn] at hc)) | (with_reducible refine loop_u ?_) | (with_reducible refine And.intro ?_ ?_)) <;> (try simp only [Sq,Sr,Sh,Si,Sl,Bu,Bb,Bd,Bc,Bw,Bn,Int.reduceAdd,Int.reduceSub,Int.reduceMul,Int.reduceTDiv,Int.reduceTMod,Int.reduceMod,Int.reduceDiv,Nat.reduceLT,Nat.reduceEqDiff,Sa,Sb,Sc,Sd,Se,Sf,Sg,Int.reduceLE,Int.reduceLT,Int.reduceToNat,Int.reduceNeg,Int.reduceEq,Nat.reduceLeDiff,Nat.reducePow,Int.reducePow,reduceIte,Nat.reduceSub,Nat.reduceAdd,Nat.reduceMul,putAt,ceq,List.replicate, *]))
      exact Fin_mk (by (repeat' (first | exact Heap.Le.refl _ | (with_reducible refine Le_set2 ?_) | (refine Le_known (by first | (simp only [Heap.set_same, set_ne, ne_eq, not_false_eq_true, *] <;> rfl) | fail) ?_) | (refine Le_fresh (by first | (simp only [*] <;> done) | (simp [set_none', Heap.set_same, set_ne, noneH, *] <;> done) | fail) ?_) | (refine Heap.Le.trans ?_ (Grow.le (by assumption))) | exact Le_none | (refine Le_put ?_ (by first | (simp only [Heap.set_same, set_ne, ne_eq, not_false_eq_true, *] <;> rfl) | fail)) | fail))) h1
    · obtain ⟨b, o, ea, hr, hf⟩ := rows_at hx.at_ h0
      obtain ⟨b', o', ea', hr', hf'⟩ := rows_at hy.at_ (by omega)
      have hne : ∀ (k : Nat) (z z' : LvR), x.ls[k]? = some z → y.ls[k]? = some z' → z.core ≠ z'.core → ∀ G, Heap.Le H G → HL.Fin K (.bool false) G := fun k z z' q1 q2 hv G hle => Fin_mk hle (h2 fun e => cores_ne q1 q2 hv e.ls.symm)
      have heq : (∀ k, k < x.ls.length → ∀ z z', x.ls[k]? = some z → y.ls[k]? = some z' → z.core = z'.core) → ∀ G, Heap.Le H G → HL.Fin K (.bool true) G := fun h G hle => Fin_mk hle (h1 (eqv_of ⟨e1, e2, e3, e4, e5⟩ (cores_eq hl h)))
      have lx := hx.lv
      have ly := hy.lv
      obtain ⟨n, en⟩ : ∃ n, x.ls.length = n := ⟨_, rfl⟩
      have en' : y.ls.length = n := by omega
      rw [en] at hm heq
      clear hx hy h1 h2 hl h0 el
      unfold Im.v
      rw [ea, ea', en, en']
      refine HL.hc k26 999 ?_; unfold M26
      (all_goals (try simp only [Sq,Sr,Sh,Si,Sl,Bu,Bb,Bd,Bc,Bw,Bn,Int.reduceAdd,Int.reduceSub,Int.reduceMul,Int.reduceTDiv,Int.reduceTMod,Int.reduceMod,Int.reduceDiv,Nat.reduceLT,Nat.reduceEqDiff,Sa,Sb,Sc,Sd,Se,Sf,Sg,Int.reduceLE,Int.reduceLT,Int.reduceToNat,Int.reduceNeg,Int.reduceEq,Nat.reduceLeDiff,Nat.reducePow,Int.reducePow,reduceIte,Nat.reduceSub,Nat.reduceAdd,Nat.reduceMul,putAt,ceq,List.replicate, *])); repeat' ((first | (with_reducible refine fun _ : True => ?_) | (with_reducible refine any_h ?_) | ((first | refine AllocQ_i ?_ | refine AllocO_i ?_); intro bk hb0 hbk; (try simp only [set_none'] at hbk)) | ((first | refine condS_i ?_ ?_ | refine pick_i ?_ ?_ | refine gS_it ?_ ?_ | refine gS_if ?_ ?_ | refine gP_it ?_ ?_ | refine gP_if ?_ ?_) <;> (intro hc; try simp only [Int.reduceLE,Int.reduceLT,Int.reduceEq,Sn] at hc)) | (with_reducible refine And.intro ?_ ?_)) <;> (try simp only [Sq,Sr,Sh,Si,Sl,Bu,Bb,Bd,Bc,Bw,Bn,Int.reduceAdd,Int.reduceSub,Int.reduceMul,Int.reduceTDiv,Int.reduceTMod,Int.reduceMod,Int.reduceDiv,Nat.reduceLT,Nat.reduceEqDiff,Sa,Sb,Sc,Sd,Se,Sf,Sg,Int.reduceLE,Int.reduceLT,Int.reduceToNat,Int.reduceNeg,Int.reduceEq,Nat.reduceLeDiff,Nat.reducePow,Int.reducePow,reduceIte,Nat.reduceSub,Nat.reduceAdd,Nat.reduceMul,putAt,ceq,List.replicate, *]))
      refine loop_g 52 (fun s : Nat × Value => [(5, s.2), (51, .int .i64 (s.1 : Nat))]) (fun _ => _) (fun s => s.1 ≤ n ∧ ∀ k, k < s.1 → ∀ z z', x.ls[k]? = some z → y.ls[k]? = some z' → z.core = z'.core) (fun s => n - s.1) (0, undef) ⟨Nat.zero_le _, fun k hk => by simp at hk⟩ (Heap.Le.refl _) rfl ?_
      intro ⟨k, u⟩ g ⟨hk, hall⟩
      simp only at hk hall
      rcases Nat.lt_or_ge k n with hlt | hge
      · obtain ⟨v, ev⟩ : ∃ v, x.ls[k]? = some v := ⟨_, List.getElem?_eq_getElem (by omega)⟩
        obtain ⟨v', ev'⟩ : ∃ v, y.ls[k]? = some v := ⟨_, List.getElem?_eq_getElem (by omega)⟩
        have r1 := hr k v ev
        have r2 := hr' k v' ev'
        have a0 := rd1_of_rdn (i := 0) r1 (by decide)
        have a1 := rd1_of_rdn (i := 1) r1 (by decide)
        have a2 := rd1_of_rdn (i := 2) r1 (by decide)
        have b0 := rd1_of_rdn (i := 0) r2 (by decide)
        have b1 := rd1_of_rdn (i := 1) r2 (by decide)
        have b2 := rd1_of_rdn (i := 2) r2 (by decide)
        simp only [Nat.add_zero, List.getElem?_cons_zero, List.getElem?_cons_succ] at a0 a1 a2 b0 b1 b2
        have a0 := a0.1
        have a1 := a1.1
        have a2 := a2.1
        have b0 := b0.1
        have b1 := b1.1
        have b2 := b2.1
        have hne := hne k v v' ev ev'
        have ok1 := lx v (List.mem_of_getElem? ev)
        have ok2 := ly v' (List.mem_of_getElem? ev')
        have hs := strOf_beq ok1.by_ ok2.by_
        have t0 : (k : Int) < (n : Int) := by omega
        have t6 : IntKind.i64.wrap ((k : Int) + 1) = (k : Int) + 1 := Bw.1 _ (by omega) (by unfold maxLen at hm; omega)
        have nxt : v.core = v'.core → ∀ j, j < k + 1 → ∀ z z', x.ls[j]? = some z → y.ls[j]? = some z' → z.core = z'.core := fun e j hj z z' h1 h2 => by
          rcases Nat.lt_or_ge j k with h' | h'
          · exact hall j h' z z' h1 h2
          · obtain rfl : j = k := by omega
            rw [ev] at h1; rw [ev'] at h2
            cases h1; cases h2
            exact e
        have hne' : v.w ≠ v'.w ∨ v.h ≠ v'.h ∨ v.l ≠ v'.l → ∀ G, Heap.Le H G → HL.Fin K (.bool false) G := fun h => hne fun e => by
          obtain ⟨p, q, r⟩ := core_eq e
          rcases h with h | h | h
          · exact h p
          · exact h q
          · exact h r
        have nxt' : v.w = v'.w → v.h = v'.h → v.l = v'.l → _ := fun p q r => nxt (core_of p q r)
        clear hall hr hr' heq en en' ev ev' lx ly r1 r2 hne nxt
        obtain ⟨vw, vh, va, vc, vl⟩ := v
        obtain ⟨vw', vh', va', vc', vl'⟩ := v'
        simp only at a0 a1 a2 b0 b1 b2 hs hne' nxt'
        by_cases q1 : vw = vw'
        · by_cases q2 : vh = vh'
          · by_cases q3 : vl = vl'
            · have nx := nxt' q1 q2 q3
              have hs' : ((strOf vl).toList == (strOf vl').toList) = true := by rw [hs, decide_eq_true q3]
              clear hs nxt' hne' q3
              (all_goals (try simp only [Sq,Sr,Sh,Si,Sl,Bu,Bb,Bd,Bc,Bw,Bn,Int.reduceAdd,Int.reduceSub,Int.reduceMul,Int.reduceTDiv,Int.reduceTMod,Int.reduceMod,Int.reduceDiv,Nat.reduceLT,Nat.reduceEqDiff,Sa,Sb,Sc,Sd,Se,Sf,Sg,Int.reduceLE,Int.reduceLT,Int.reduceToNat,Int.reduceNeg,Int.reduceEq,Nat.reduceLeDiff,Nat.reducePow,Int.reducePow,reduceIte,Nat.reduceSub,Nat.reduceAdd,Nat.reduceMul,putAt,ceq,List.replicate, *])); repeat' ((first | (with_reducible refine fun _ : True => ?_) | refine bstr_i vl (LvOk.grow ok1 (by (repeat' (first | exact Grow.refl _ | assumption | (refine Grow_known (by first | (simp only [Heap.set_same, set_ne, ne_eq, not_false_eq_true, *] <;> rfl) | fail) ?_) | (refine Grow.set ?_ (by assumption) (by first | (simp only [*] <;> done) | (simp [set_none', Heap.set_same, set_ne, noneH, *] <;> done) | fail)) | (refine Grow.trans ?_ (by assumption)))))).at_ rfl ?_ | refine bstr_i vl' (LvOk.grow ok2 (by (repeat' (first | exact Grow.refl _ | assumption | (refine Grow_known (by first | (simp only [Heap.set_same, set_ne, ne_eq, not_false_eq_true, *] <;> rfl) | fail) ?_) | (refine Grow.set ?_ (by assumption) (by first | (simp only [*] <;> done) | (simp [set_none', Heap.set_same, set_ne, noneH, *] <;> done) | fail)) | (refine Grow.trans ?_ (by assumption)))))).at_ rfl ?_ | (with_reducible refine any_h ?_) | ((first | refine AllocQ_i ?_ | refine AllocO_i ?_); intro bk hb0 hbk; (try simp only [set_none'] at hbk)) | ((first | refine condS_i ?_ ?_ | refine pick_i ?_ ?_ | refine gS_it ?_ ?_ | refine gS_if ?_ ?_ | refine gP_it ?_ ?_ | refine gP_if ?_ ?_) <;> (intro hc; try simp only [Int.reduceLE,Int.reduceLT,Int.reduceEq,Sn] at hc)) | (with_reducible refine And.intro ?_ ?_)) <;> (try simp only [Sq,Sr,Sh,Si,Sl,Bu,Bb,Bd,Bc,Bw,Bn,Int.reduceAdd,Int.reduceSub,Int.reduceMul,Int.reduceTDiv,Int.reduceTMod,Int.reduceMod,Int.reduceDiv,Nat.reduceLT,Nat.reduceEqDiff,Sa,Sb,Sc,Sd,Se,Sf,Sg,Int.reduceLE,Int.reduceLT,Int.reduceToNat,Int.reduceNeg,Int.reduceEq,Nat.reduceLeDiff,Nat.reducePow,Int.reducePow,reduceIte,Nat.reduceSub,Nat.reduceAdd,Nat.reduceMul,putAt,ceq,List.replicate, *]))
              exact Round_mk (k + 1, _) ⟨hlt, nx⟩ (by simp only; omega) (Heap.Le.refl _) rfl rfl
            · have hn := hne' (.inr (.inr q3))
              have hs' : ((strOf vl).toList == (strOf vl').toList) = false := by rw [hs, decide_eq_false q3]
              clear hs nxt' hne' q3
              (all_goals (try simp only [Sq,Sr,Sh,Si,Sl,Bu,Bb,Bd,Bc,Bw,Bn,Int.reduceAdd,Int.reduceSub,Int.reduceMul,Int.reduceTDiv,Int.reduceTMod,Int.reduceMod,Int.reduceDiv,Nat.reduceLT,Nat.reduceEqDiff,Sa,Sb,Sc,Sd,Se,Sf,Sg,Int.reduceLE,Int.reduceLT,Int.reduceToNat,Int.reduceNeg,Int.reduceEq,Nat.reduceLeDiff,Nat.reducePow,Int.reducePow,reduceIte,Nat.reduceSub,Nat.reduceAdd,Nat.reduceMul,putAt,ceq,List.replicate, *])); repeat' ((first | (with_reducible refine fun _ : True => ?_) | refine bstr_i vl (LvOk.grow ok1 (by (repeat' (first | exact Grow.refl _ | assumption | (refine Grow_known (by first | (simp only [Heap.set_same, set_ne, ne_eq, not_false_eq_true, *] <;> rfl) | fail) ?_) | (refine Grow.set ?_ (by assumption) (by first | (simp only [*] <;> done) | (simp [set_none', Heap.set_same, set_ne, noneH, *] <;> done) | fail)) | (refine Grow.trans ?_ (by assumption)))))).at_ rfl ?_ | refine bstr_i vl' (LvOk.grow ok2 (by (repeat' (first | exact Grow.refl _ | assumption | (refine Grow_known (by first | (simp only [Heap.set_same, set_ne, ne_eq, not_false_eq_true, *] <;> rfl) | fail) ?_) | (refine Grow.set ?_ (by assumption) (by first | (simp only [*] <;> done) | (simp [set_none', Heap.set_same, set_ne, noneH, *] <;> done) | fail)) | (refine Grow.trans ?_ (by assumption)))))).at_ rfl ?_ | (with_reducible refine any_h ?_) | ((first | refine AllocQ_i ?_ | refine AllocO_i ?_); intro bk hb0 hbk; (try simp only [set_none'] at hbk)) | ((first | refine condS_i ?_ ?_ | refine pick_i ?_ ?_ | refine gS_it ?_ ?_ | refine gS_if ?_ ?_ | refine gP_it ?_ ?_ | refine gP_if ?_ ?_) <;> (intro hc; try simp only [Int.reduceLE,Int.reduceLT,Int.reduceEq,Sn] at hc)) | (with_reducible refine And.intro ?_ ?_)) <;> (try simp only [Sq,Sr,Sh,Si,Sl,Bu,Bb,Bd,Bc,Bw,Bn,Int.reduceAdd,Int.reduceSub,Int.reduceMul,Int.reduceTDiv,Int.reduceTMod,Int.reduceMod,Int.reduceDiv,Nat.reduceLT,Nat.reduceEqDiff,Sa,Sb,Sc,Sd,Se,Sf,Sg,Int.reduceLE,Int.reduceLT,Int.reduceToNat,Int.reduceNeg,Int.reduceEq,Nat.reduceLeDiff,Nat.reducePow,Int.reducePow,reduceIte,Nat.reduceSub,Nat.reduceAdd,Nat.reduceMul,putAt,ceq,List.replicate, *]))
              all_goals exact hn _ (by (repeat' (first | exact Heap.Le.refl _ | (with_reducible refine Le_set2 ?_) | (refine Le_known (by first | (simp only [Heap.set_same, set_ne, ne_eq, not_false_eq_true, *] <;> rfl) | fail) ?_) | (refine Le_fresh (by first | (simp only [*] <;> done) | (simp [set_none', Heap.set_same, set_ne, noneH, *] <;> done) | fail) ?_) | (refine Heap.Le.trans ?_ (Grow.le (by assumption))) | exact Le_none | (refine Le_put ?_ (by first | (simp only [Heap.set_same, set_ne, ne_eq, not_false_eq_true, *] <;> rfl) | fail)) | fail)))
          · have hn := hne' (.inr (.inl q2))
            clear hs nxt' hne'
            (all_goals (try simp only [Sq,Sr,Sh,Si,Sl,Bu,Bb,Bd,Bc,Bw,Bn,Int.reduceAdd,Int.reduceSub,Int.reduceMul,Int.reduceTDiv,Int.reduceTMod,Int.reduceMod,Int.reduceDiv,Nat.reduceLT,Nat.reduceEqDiff,Sa,Sb,Sc,Sd,Se,Sf,Sg,Int.reduceLE,Int.reduceLT,Int.reduceToNat,Int.reduceNeg,Int.reduceEq,Nat.reduceLeDiff,Nat.reducePow,Int.reducePow,reduceIte,Nat.reduceSub,Nat.reduceAdd,Nat.reduceMul,putAt,ceq,List.replicate, *])); repeat' ((first | (with_reducible refine fun _ : True => ?_) | (with_reducible refine any_h ?_) | ((first | refine AllocQ_i ?_ | refine AllocO_i ?_); intro bk hb0 hbk; (try simp only [set_none'] at hbk)) | ((first | refine condS_i ?_ ?_ | refine pick_i ?_ ?_ | refine gS_it ?_ ?_ | refine gS_if ?_ ?_ | refine gP_it ?_ ?_ | refine gP_if ?_ ?_) <;> (intro hc; try simp only [Int.reduceLE,Int.reduceLT,Int.reduceEq,Sn] at hc)) | (with_reducible refine And.intro ?_ ?_)) <;> (try simp only [Sq,Sr,Sh,Si,Sl,Bu,Bb,Bd,Bc,Bw,Bn,Int.reduceAdd,Int.reduceSub,Int.reduceMul,Int.reduceTDiv,Int.reduceTMod,Int.reduceMod,Int.reduceDiv,Nat.reduceLT,Nat.reduceEqDiff,Sa,Sb,Sc,Sd,Se,Sf,Sg,Int.reduceLE,Int.reduceLT,Int.reduceToNat,Int.reduceNeg,Int.reduceEq,Nat.reduceLeDiff,Nat.reducePow,Int.reducePow,reduceIte,Nat.reduceSub,Nat.reduceAdd,Nat.reduceMul,putAt,ceq,List.replicate, *]))
            all_goals exact hn _ (by (repeat' (first | exact Heap.Le.refl _ | (with_reducible refine Le_set2 ?_) | (refine Le_known (by first | (simp only [Heap.set_same, set_ne, ne_eq, not_false_eq_true, *] <;> rfl) | fail) ?_) | (refine Le_fresh (by first | (simp only [*] <;> done) | (simp [set_none', Heap.set_same, set_ne, noneH, *] <;> done) | fail) ?_) | (refine Heap.Le.trans ?_ (Grow.le (by assumption))) | exact Le_none | (refine Le_put ?_ (by first | (simp only [Heap.set_same, set_ne, ne_eq, not_false_eq_true, *] <;> rfl) | fail)) | fail)))
        · have hn := hne' (.inl q1)
          clear hs nxt' hne'
          (all_goals (try simp only [Sq,Sr,Sh,Si,Sl,Bu,Bb,Bd,Bc,Bw,Bn,Int.reduceAdd,Int.reduceSub,Int.reduceMul,Int.reduceTDiv,Int.reduceTMod,Int.reduceMod,Int.reduceDiv,Nat.reduceLT,Nat.reduceEqDiff,Sa,Sb,Sc,Sd,Se,Sf,Sg,Int.reduceLE,Int.reduceLT,Int.reduceToNat,Int.reduceNeg,Int.reduceEq,Nat.reduceLeDiff,Nat.reducePow,Int.reducePow,reduceIte,Nat.reduceSub,Nat.reduceAdd,Nat.reduceMul,putAt,ceq,List.replicate, *])); repeat' ((first | (with_reducible refine fun _ : True => ?_) | (with_reducible refine any_h ?_) | ((first | refine AllocQ_i ?_ | refine AllocO_i ?_); intro bk hb0 hbk; (try simp only [set_none'] at hbk)) | ((first | refine condS_i ?_ ?_ | refine pick_i ?_ ?_ | refine gS_it ?_ ?_ | refine gS_if ?_ ?_ | refine gP_it ?_ ?_ | refine gP_if ?_ ?_) <;> (intro hc; try simp only [Int.reduceLE,Int.reduceLT,Int.reduceEq,Sn] at hc)) | (with_reducible refine And.intro ?_ ?_)) <;> (try simp only [Sq,Sr,Sh,Si,Sl,Bu,Bb,Bd,Bc,Bw,Bn,Int.reduceAdd,Int.reduceSub,Int.reduceMul,Int.reduceTDiv,Int.reduceTMod,Int.reduceMod,Int.reduceDiv,Nat.reduceLT,Nat.reduceEqDiff,Sa,Sb,Sc,Sd,Se,Sf,Sg,Int.reduceLE,Int.reduceLT,Int.reduceToNat,Int.reduceNeg,Int.reduceEq,Nat.reduceLeDiff,Nat.reducePow,Int.reducePow,reduceIte,Nat.reduceSub,Nat.reduceAdd,Nat.reduceMul,putAt,ceq,List.replicate, *]))
          all_goals exact hn _ (by (repeat' (first | exact Heap.Le.refl _ | (with_reducible refine Le_set2 ?_) | (refine Le_known (by first | (simp only [Heap.set_same, set_ne, ne_eq, not_false_eq_true, *] <;> rfl) | fail) ?_) | (refine Le_fresh (by first | (simp only [*] <;> done) | (simp [set_none', Heap.set_same, set_ne, noneH, *] <;> done) | fail) ?_) | (refine Heap.Le.trans ?_ (Grow.le (by assumption))) | exact Le_none | (refine Le_put ?_ (by first | (simp only [Heap.set_same, set_ne, ne_eq, not_false_eq_true, *] <;> rfl) | fail)) | fail)))
      · obtain rfl : n = k := by omega
        have t0 : ¬ ((n : Nat) : Int) < ((n : Nat) : Int) := by omega
        have heq := heq hall
        clear hall hne hr hr' en en' lx ly
        (all_goals (try simp only [Sq,Sr,Sh,Si,Sl,Bu,Bb,Bd,Bc,Bw,Bn,Int.reduceAdd,Int.reduceSub,Int.reduceMul,Int.reduceTDiv,Int.reduceTMod,Int.reduceMod,Int.reduceDiv,Nat.reduceLT,Nat.reduceEqDiff,Sa,Sb,Sc,Sd,Se,Sf,Sg,Int.reduceLE,Int.reduceLT,Int.reduceToNat,Int.reduceNeg,Int.reduceEq,Nat.reduceLeDiff,Nat.reducePow,Int.reducePow,reduceIte,Nat.reduceSub,Nat.reduceAdd,Nat.reduceMul,putAt,ceq,List.replicate, *])); repeat' ((first | (with_reducible refine fun _ : True => ?_) | (with_reducible refine any_h ?_) | ((first | refine AllocQ_i ?_ | refine AllocO_i ?_); intro bk hb0 hbk; (try simp only [set_none'] at hbk)) | ((first | refine condS_i ?_ ?_ | refine pick_i ?_ ?_ | refine gS_it ?_ ?_ | refine gS_if ?_ ?_ | refine gP_it ?_ ?_ | refine gP_if ?_ ?_) <;> (intro hc; try simp only [Int.reduceLE,Int.reduceLT,Int.reduceEq,Sn] at hc)) | (with_reducible refine And.intro ?_ ?_)) <;> (try simp only [Sq,Sr,Sh,Si,Sl,Bu,Bb,Bd,Bc,Bw,Bn,Int.reduceAdd,Int.reduceSub,Int.reduceMul,Int.reduceTDiv,Int.reduceTMod,Int.reduceMod,Int.reduceDiv,Nat.reduceLT,Nat.reduceEqDiff,Sa,Sb,Sc,Sd,Se,Sf,Sg,Int.reduceLE,Int.reduceLT,Int.reduceToNat,Int.reduceNeg,Int.reduceEq,Nat.reduceLeDiff,Nat.reducePow,Int.reducePow,reduceIte,Nat.reduceSub,Nat.reduceAdd,Nat.reduceMul,putAt,ceq,List.replicate, *]))
        all_goals exact heq _ (by (repeat' (first | exact Heap.Le.refl _ | (with_reducible refine Le_set2 ?_) | (refine Le_known (by first | (simp only [Heap.set_same, set_ne, ne_eq, not_false_eq_true, *] <;> rfl) | fail) ?_) | (refine Le_fresh (by first | (simp only [*] <;> done) | (simp [set_none', Heap.set_same, set_ne, noneH, *] <;> done) | fail) ?_) | (refine Heap.Le.trans ?_ (Grow.le (by assumption))) | exact Le_none | (refine Le_put ?_ (by first | (simp only [Heap.set_same, set_ne, ne_eq, not_false_eq_true, *] <;> rfl) | fail)) | fail)))
  · have h2 := h2 fun e => he ⟨e.f.symm, e.len.symm, e.s.symm, e.t.symm, e.mn.symm, e.mg.symm⟩
    clear hx hy h1
    by_cases e1 : x.f = y.f
    · by_cases el : x.ls.length = y.ls.length
      · have el' : (x.ls.length : Int) = (y.ls.length : Int) := by omega
        have hd : (x.s ≠ y.s ∨ x.t ≠ y.t ∨ x.mn ≠ y.mn ∨ x.mg ≠ y.mg) := by omega
        clear he el
        unfold Im.v
        rcases (by omega : x.s ≠ y.s ∨ (x.s = y.s ∧ x.t ≠ y.t) ∨ (x.s = y.s ∧ x.t = y.t ∧ x.mn ≠ y.mn) ∨ (x.s = y.s ∧ x.t = y.t ∧ x.mn = y.mn ∧ x.mg ≠ y.mg)) with d | d | d | d
        all_goals
          clear hd
          refine HL.hc k26 999 ?_; unfold M26
          (all_goals (try simp only [Sq,Sr,Sh,Si,Sl,Bu,Bb,Bd,Bc,Bw,Bn,Int.reduceAdd,Int.reduceSub,Int.reduceMul,Int.reduceTDiv,Int.reduceTMod,Int.reduceMod,Int.reduceDiv,Nat.reduceLT,Nat.reduceEqDiff,Sa,Sb,Sc,Sd,Se,Sf,Sg,Int.reduceLE,Int.reduceLT,Int.reduceToNat,Int.reduceNeg,Int.reduceEq,Nat.reduceLeDiff,Nat.reducePow,Int.reducePow,reduceIte,Nat.reduceSub,Nat.reduceAdd,Nat.reduceMul,putAt,ceq,List.replicate, *])); repeat' ((first | (with_reducible refine fun _ : True => ?_) | (with_reducible refine any_h ?_) | ((first | refine AllocQ_i ?_ | refine AllocO_i ?_); intro bk hb0 hbk; (try simp only [set_none'] at hbk)) | ((first | refine condS_i ?_ ?_ | refine pick_i ?_ ?_ | refine gS_it ?_ ?_ | refine gS_if ?_ ?_ | refine gP_it ?_ ?_ | refine gP_if ?_ ?_) <;> (intro hc; try simp only [Int.reduceLE,Int.reduceLT,Int.reduceEq,Sn] at hc)) | (with_reducible refine And.intro ?_ ?_)) <;> (try simp only [Sq,Sr,Sh,Si,Sl,Bu,Bb,Bd,Bc,Bw,Bn,Int.reduceAdd,Int.reduceSub,Int.reduceMul,Int.reduceTDiv,Int.reduceTMod,Int.reduceMod,Int.reduceDiv,Nat.reduceLT,Nat.reduceEqDiff,Sa,Sb,Sc,Sd,Se,Sf,Sg,Int.reduceLE,Int.reduceLT,Int.reduceToNat,Int.reduceNeg,Int.reduceEq,Nat.reduceLeDiff,Nat.reducePow,Int.reducePow,reduceIte,Nat.reduceSub,Nat.reduceAdd,Nat.reduceMul,putAt,ceq,List.replicate, *]))
          all_goals exact Fin_mk (by (repeat' (first | exact Heap.Le.refl _ | (with_reducible refine Le_set2 ?_) | (refine Le_known (by first | (simp only [Heap.set_same, set_ne, ne_eq, not_false_eq_true, *] <;> rfl) | fail) ?_) | (refine Le_fresh (by first | (simp only [*] <;> done) | (simp [set_none', Heap.set_same, set_ne, noneH, *] <;> done) | fail) ?_) | (refine Heap.Le.trans ?_ (Grow.le (by assumption))) | exact Le_none | (refine Le_put ?_ (by first | (simp only [Heap.set_same, set_ne, ne_eq, not_false_eq_true, *] <;> rfl) | fail)) | fail))) h2
      · have el' : ¬ (x.ls.length : Int) = (y.ls.length : Int) := by omega
        clear he el
        unfold Im.v
        refine HL.hc k26 999 ?_; unfold M26
        (all_goals (try simp only [Sq,Sr,Sh,Si,Sl,Bu,Bb,Bd,Bc,Bw,Bn,Int.reduceAdd,Int.reduceSub,Int.reduceMul,Int.reduceTDiv,Int.reduceTMod,Int.reduceMod,Int.reduceDiv,Nat.reduceLT,Nat.reduceEqDiff,Sa,Sb,Sc,Sd,Se,Sf,Sg,Int.reduceLE,Int.reduceLT,Int.reduceToNat,Int.reduceNeg,Int.reduceEq,Nat.reduceLeDiff,Nat.reducePow,Int.reducePow,reduceIte,Nat.reduceSub,Nat.reduceAdd,Nat.reduceMul,putAt,ceq,List.replicate, *])); repeat' ((first | (with_reducible refine fun _ : True => ?_) | (with_reducible refine any_h ?_) | ((first | refine AllocQ_i ?_ | refine AllocO_i ?_); intro bk hb0 hbk; (try simp only [set_none'] at hbk)) | ((first | refine condS_i ?_ ?_ | refine pick_i ?_ ?_ | refine gS_it ?_ ?_ | refine gS_if ?_ ?_ | refine gP_it ?_ ?_ | refine gP_if ?_ ?_) <;> (intro hc; try simp only [Int.reduceLE,Int.reduceLT,Int.reduceEq,Sn] at hc)) | (with_reducible refine And.intro ?_ ?_)) <;> (try simp only [Sq,Sr,Sh,Si,Sl,Bu,Bb,Bd,Bc,Bw,Bn,Int.reduceAdd,Int.reduceSub,Int.reduceMul,Int.reduceTDiv,Int.reduceTMod,Int.reduceMod,Int.reduceDiv,Nat.reduceLT,Nat.reduceEqDiff,Sa,Sb,Sc,Sd,Se,Sf,Sg,Int.reduceLE,Int.reduceLT,Int.reduceToNat,Int.reduceNeg,Int.reduceEq,Nat.reduceLeDiff,Nat.reducePow,Int.reducePow,reduceIte,Nat.reduceSub,Nat.reduceAdd,Nat.reduceMul,putAt,ceq,List.replicate, *]))
        all_goals exact Fin_mk (by (repeat' (first | exact Heap.Le.refl _ | (with_reducible refine Le_set2 ?_) | (refine Le_known (by first | (simp only [Heap.set_same, set_ne, ne_eq, not_false_eq_true, *] <;> rfl) | fail) ?_) | (refine Le_fresh (by first | (simp only [*] <;> done) | (simp [set_none', Heap.set_same, set_ne, noneH, *] <;> done) | fail) ?_) | (refine Heap.Le.trans ?_ (Grow.le (by assumption))) | exact Le_none | (refine Le_put ?_ (by first | (simp only [Heap.set_same, set_ne, ne_eq, not_false_eq_true, *] <;> rfl) | fail)) | fail))) h2
    · clear he
      unfold Im.v
      refine HL.hc k26 999 ?_; unfold M26
      (all_goals (try simp only [Sq,Sr,Sh,Si,Sl,Bu,Bb,Bd,Bc,Bw,Bn,Int.reduceAdd,Int.reduceSub,Int.reduceMul,Int.reduceTDiv,Int.reduceTMod,Int.reduceMod,Int.reduceDiv,Nat.reduceLT,Nat.reduceEqDiff,Sa,Sb,Sc,Sd,Se,Sf,Sg,Int.reduceLE,Int.reduceLT,Int.reduceToNat,Int.reduceNeg,Int.reduceEq,Nat.reduceLeDiff,Nat.reducePow,Int.reducePow,reduceIte,Nat.reduceSub,Nat.reduceAdd,Nat.reduceMul,putAt,ceq,List.replicate, *])); repeat' ((first | (with_reducible refine fun _ : True => ?_) | (with_reducible refine any_h ?_) | ((first | refine AllocQ_i ?_ | refine AllocO_i ?_); intro bk hb0 hbk; (try simp only [set_none'] at hbk)) | ((first | refine condS_i ?_ ?_ | refine pick_i ?_ ?_ | refine gS_it ?_ ?_ | refine gS_if ?_ ?_ | refine gP_it ?_ ?_ | refine gP_if ?_ ?_) <;> (intro hc; try simp only [Int.reduceLE,Int.reduceLT,Int.reduceEq,Sn] at hc)) | (with_reducible refine And.intro ?_ ?_)) <;> (try simp only [Sq,Sr,Sh,Si,Sl,Bu,Bb,Bd,Bc,Bw,Bn,Int.reduceAdd,Int.reduceSub,Int.reduceMul,Int.reduceTDiv,Int.reduceTMod,Int.reduceMod,Int.reduceDiv,Nat.reduceLT,Nat.reduceEqDiff,Sa,Sb,Sc,Sd,Se,Sf,Sg,Int.reduceLE,Int.reduceLT,Int.reduceToNat,Int.reduceNeg,Int.reduceEq,Nat.reduceLeDiff,Nat.reducePow,Int.reducePow,reduceIte,Nat.reduceSub,Nat.reduceAdd,Nat.reduceMul,putAt,ceq,List.replicate, *]))
      all_goals exact Fin_mk (by (repeat' (first | exact Heap.Le.refl _ | (with_reducible refine Le_set2 ?_) | (refine Le_known (by first | (simp only [Heap.set_same, set_ne, ne_eq, not_false_eq_true, *] <;> rfl) | fail) ?_) | (refine Le_fresh (by first | (simp only [*] <;> done) | (simp [set_none', Heap.set_same, set_ne, noneH, *] <;> done) | fail) ?_) | (refine Heap.Le.trans ?_ (Grow.le (by assumption))) | exact Le_none | (refine Le_put ?_ (by first | (simp only [Heap.set_same, set_ne, ne_eq, not_false_eq_true, *] <;> rfl) | fail)) | fail))) h2
end Go.Proofs.Ytdaipgnhconfnaa
