/- Levels are not made: the checks, by both (layer 8). -/
import Derived.Test.YtdaipgnhconfnaaIpf
set_option linter.unusedSimpArgs false
set_option linter.unusedVariables false
set_option maxRecDepth 100000
set_option maxHeartbeats 4000000
namespace Go.Proofs.Ytdaipgnhconfnaa
open Go Go.HL Go.RowKit Pb
variable {w0 : World} {H G : Heap} {K : Value → Heap → Prop}

abbrev zIg : Value := .agg #[.int .i64 0, .slice none 0 0, .int .i64 0, .int .i64 0, .int .i64 0, .int .i64 0]
theorem first_at {x : Im} (hx : ImOk w0 H x) {y : LvR} (h : x.ls[0]? = some y) : ∃ b o, x.a = some ⟨b, o, none⟩ ∧ rdn w0 H b o 3 = some [.int .i64 y.w, .int .i64 y.h, .slice y.a y.l.length y.cap] ∧ (∀ c, w0.heap.size ≤ c → H c = none → c ≠ b) := by
  obtain ⟨b, o, h1, h2, h3⟩ := im_row hx h
  rw [Nat.zero_mul, Nat.add_zero] at h2
  exact ⟨b, o, h1, h2, h3⟩
theorem first_side {x : Im} (hr : x.right) {z : LvR} (h : x.ls[0]? = some z) (hn : ¬ z.nil) : sideP z.w ∧ sideP z.h ∧ (z.l.length : Int) = z.w * z.h * sizeI x.f := by
  rcases hr.2.2.2.1 z (List.mem_of_getElem? h) with h' | h'
  · exact (hn h').elim
  · exact h'
/- image Generate -/
def M15 : MC :=
  .seq (.reg [⟨(some 1), .box 24 (.tmp 0), none⟩,
 ⟨(some 2), .alloc 24 [(.int .i64 0), (.slice none 0 0), (.int .i64 0), (.int .i64 0), (.int .i64 0), (.int .i64 0)], none⟩,
 ⟨(some 3), .mv (.const (.int .i64 0)), none⟩])
 (.scope (.seq (.seq (.reg [⟨(some 6), .ldn 6 (.tmp 1), none⟩,
 ⟨(some 7), .call 19 [(.tmp 6)], none⟩,
 ⟨(some 4), .mv (.tmp 7), none⟩])
 (.seq (.reg [⟨(some 8), .mv (.tmp 4), none⟩,
 ⟨(some 9), .bin .neq (.tmp 8) (.const (.int .i64 0)), none⟩])
 (.cond (.tmp 9)
 (.seq (.reg [⟨(some 10), .build [(.int .i64 0), (.slice none 0 0), (.int .i64 0), (.int .i64 0), (.int .i64 0), (.int .i64 0)] [], none⟩,
 ⟨(some 11), .mv (.tmp 4), none⟩,
 ⟨none, .stn 6 (.tmp 2) (.tmp 10), none⟩,
 ⟨(some 3), .mv (.tmp 11), none⟩])
 (.ret))
 (.skip))))
 (.seq (.seq (.reg [⟨(some 12), .fa 1 (.tmp 1), none⟩,
 ⟨(some 13), .ld1 (.tmp 12), none⟩,
 ⟨(some 14), .len (.tmp 13), none⟩,
 ⟨(some 15), .bin .eql (.tmp 14) (.const (.int .i64 0)), none⟩,
 ⟨(some 16), .mv (.tmp 15), none⟩,
 ⟨(some 17), .fa 1 (.tmp 1), (some (16, false))⟩,
 ⟨(some 18), .ld1 (.tmp 17), (some (16, false))⟩,
 ⟨(some 19), .is 3 (.tmp 18) (.const (.int .i64 0)), (some (16, false))⟩,
 ⟨(some 20), .ldn 3 (.tmp 19), (some (16, false))⟩,
 ⟨(some 21), .call 39 [(.tmp 20)], (some (16, false))⟩,
 ⟨(some 22), .pick (.tmp 16) (.const (.bool true)) (.tmp 21), none⟩])
 (.cond (.tmp 22)
 (.seq (.reg [⟨(some 23), .build [(.int .i64 0), (.slice none 0 0), (.int .i64 0), (.int .i64 0), (.int .i64 0), (.int .i64 0)] [], none⟩,
 ⟨none, .stn 6 (.tmp 2) (.tmp 23), none⟩,
 ⟨(some 3), .mv (.const (.int .i64 4)), none⟩])
 (.ret))
 (.skip)))
 (.seq (.reg [⟨(some 24), .fa 1 (.tmp 1), none⟩,
 ⟨(some 25), .ld1 (.tmp 24), none⟩,
 ⟨(some 26), .is 3 (.tmp 25) (.const (.int .i64 0)), none⟩,
 ⟨(some 27), .ldn 3 (.tmp 26), none⟩,
 ⟨(some 5), .alloc 38 [(.int .i64 0), (.int .i64 0), (.slice none 0 0)], none⟩,
 ⟨none, .stn 3 (.tmp 5) (.tmp 27), none⟩])
 (.seq (.seq (.reg [⟨(some 28), .fa 0 (.tmp 5), none⟩,
 ⟨(some 29), .ld1 (.tmp 28), none⟩,
 ⟨(some 30), .call 40 [(.tmp 29)], none⟩,
 ⟨(some 31), .un .not (.tmp 30), none⟩,
 ⟨(some 32), .mv (.tmp 31), none⟩,
 ⟨(some 33), .fa 1 (.tmp 5), (some (32, false))⟩,
 ⟨(some 34), .ld1 (.tmp 33), (some (32, false))⟩,
 ⟨(some 35), .call 40 [(.tmp 34)], (some (32, false))⟩,
 ⟨(some 36), .un .not (.tmp 35), (some (32, false))⟩,
 ⟨(some 37), .pick (.tmp 32) (.const (.bool true)) (.tmp 36), none⟩])
 (.cond (.tmp 37)
 (.seq (.reg [⟨(some 38), .build [(.int .i64 0), (.slice none 0 0), (.int .i64 0), (.int .i64 0), (.int .i64 0), (.int .i64 0)] [], none⟩,
 ⟨none, .stn 6 (.tmp 2) (.tmp 38), none⟩,
 ⟨(some 3), .mv (.const (.int .i64 2)), none⟩])
 (.ret))
 (.skip)))
 (.seq (.reg [⟨(some 39), .fa 1 (.tmp 1), none⟩,
 ⟨(some 40), .ld1 (.tmp 39), none⟩,
 ⟨(some 41), .slc 3 (.tmp 40) none (some (.const (.int .i64 1))), none⟩,
 ⟨(some 42), .fa 1 (.tmp 1), none⟩,
 ⟨none, .st1 (.tmp 42) (.tmp 41), none⟩])
 (.seq (.reg [⟨(some 43), .ldn 6 (.tmp 1), none⟩,
 ⟨(some 44), .call 41 [(.tmp 43)], none⟩,
 ⟨none, .stn 6 (.tmp 1) (.tmp 44), none⟩])
 (.seq (.skip)
 (.seq (.block 0 (.loop (.block 1 (.seq (.seq (.reg [⟨(some 45), .fa 0 (.tmp 5), none⟩,
 ⟨(some 46), .ld1 (.tmp 45), none⟩,
 ⟨(some 47), .bin .eql (.tmp 46) (.const (.int .i64 1)), none⟩,
 ⟨(some 48), .mv (.tmp 47), none⟩,
 ⟨(some 49), .fa 1 (.tmp 5), (some (48, true))⟩,
 ⟨(some 50), .ld1 (.tmp 49), (some (48, true))⟩,
 ⟨(some 51), .bin .eql (.tmp 50) (.const (.int .i64 1)), (some (48, true))⟩,
 ⟨(some 52), .pick (.tmp 48) (.tmp 51) (.const (.bool false)), none⟩])
 (.cond (.tmp 52)
 (.exit 0)
 (.skip)))
 (.seq (.reg [⟨(some 53), .ldn 3 (.tmp 5), none⟩,
 ⟨(some 54), .fa 0 (.tmp 1), none⟩,
 ⟨(some 55), .ld1 (.tmp 54), none⟩,
 ⟨(some 56), .call 42 [(.tmp 53), (.tmp 55)], none⟩,
 ⟨none, .stn 3 (.tmp 5) (.tmp 56), none⟩])
 (.reg [⟨(some 57), .fa 1 (.tmp 1), none⟩,
 ⟨(some 58), .ld1 (.tmp 57), none⟩,
 ⟨(some 59), .ldn 3 (.tmp 5), none⟩,
 ⟨(some 60), .bslice 38 1 [(.int .i64 0), (.int .i64 0), (.slice none 0 0)] [(0, 3, (.tmp 59))], none⟩,
 ⟨(some 61), .app 38 3 40 [(.int .i64 0), (.int .i64 0), (.slice none 0 0)] (.tmp 58) (.tmp 60), none⟩,
 ⟨(some 62), .fa 1 (.tmp 1), none⟩,
 ⟨none, .st1 (.tmp 62) (.tmp 61), none⟩]))))))
 (.seq (.reg [⟨(some 63), .ldn 6 (.tmp 1), none⟩,
 ⟨none, .stn 6 (.tmp 2) (.tmp 63), none⟩,
 ⟨(some 3), .mv (.const (.int .i64 0)), none⟩])
 (.ret)))))))))))
theorem k15 : fnOk Try.prog 15 = some (M15, [.cn 6 2, .t 3], 64) := by kernel_rfl

theorem c_Gen_err (x : Im) (hx : ImOk w0 H x) (e : Int) (he : GenE x e) (h : K (.tuple #[zIg, .int .i64 e]) H) : HCalls Try.prog w0 15 [x.v] H K := by
  have cC : ∀ (G : Heap) (K : Value → Heap → Prop), Grow w0 H G → K (.int .i64 (if x.right then 0 else 180)) G → HCalls Try.prog w0 19 [x.v] G K := fun G K g hk => c_Check x (hx.grow g) hk
  cases he with
  | image hr =>
    rw [if_neg hr] at cC
    clear hr hx
    unfold Im.v at cC ⊢
    refine HL.hc k15 999 ?_; unfold M15
    (all_goals (try simp only [Sq,Sr,Sh,Si,Sl,Bu,Bb,Bd,Bc,Bw,Bn,Int.reduceAdd,Int.reduceSub,Int.reduceMul,Int.reduceTDiv,Int.reduceTMod,Int.reduceMod,Int.reduceDiv,Nat.reduceLT,Nat.reduceEqDiff,Sa,Sb,Sc,Sd,Se,Sf,Sg,Int.reduceLE,Int.reduceLT,Int.reduceToNat,Int.reduceNeg,Int.reduceEq,Nat.reduceLeDiff,Nat.reducePow,Int.reducePow,reduceIte,Nat.reduceSub,Nat.reduceAdd,Nat.reduceMul,putAt,ceq,List.replicate, *])); repeat' ((first | (with_reducible refine fun _ : True => ?_) | refine cC _ _ (by (repeat' (first | exact Grow.refl _ | assumption | (refine Grow_known (by first | (simp only [Heap.set_same, set_ne, ne_eq, not_false_eq_true, *] <;> rfl) | fail) ?_) | (refine Grow.set ?_ (by assumption) (by first | (simp only [*] <;> done) | (simp [set_none', Heap.set_same, set_ne, noneH, *] <;> done) | fail)) | (refine Grow.trans ?_ (by assumption))))) ?_ | (with_reducible refine any_h ?_) | ((first | refine AllocQ_i ?_ | refine AllocO_i ?_); intro bk hb0 hbk; (try simp only [set_none'] at hbk)) | ((first | refine condS_i ?_ ?_ | refine pick_i ?_ ?_ | refine gS_it ?_ ?_ | refine gS_if ?_ ?_ | refine gP_it ?_ ?_ | refine gP_if ?_ ?_) <;> (intro hc; try simp only [Int.reduceLE,Int.reduceLT,Int.reduceEq,Sn] at hc)) | (with_reducible refine And.intro ?_ ?_)) <;> (try simp only [Sq,Sr,Sh,Si,Sl,Bu,Bb,Bd,Bc,Bw,Bn,Int.reduceAdd,Int.reduceSub,Int.reduceMul,Int.reduceTDiv,Int.reduceTMod,Int.reduceMod,Int.reduceDiv,Nat.reduceLT,Nat.reduceEqDiff,Sa,Sb,Sc,Sd,Se,Sf,Sg,Int.reduceLE,Int.reduceLT,Int.reduceToNat,Int.reduceNeg,Int.reduceEq,Nat.reduceLeDiff,Nat.reducePow,Int.reducePow,reduceIte,Nat.reduceSub,Nat.reduceAdd,Nat.reduceMul,putAt,ceq,List.replicate, *]))
    all_goals exact Fin_mk (by (repeat' (first | exact Heap.Le.refl _ | (with_reducible refine Le_set2 ?_) | (refine Le_known (by first | (simp only [Heap.set_same, set_ne, ne_eq, not_false_eq_true, *] <;> rfl) | fail) ?_) | (refine Le_fresh (by first | (simp only [*] <;> done) | (simp [set_none', Heap.set_same, set_ne, noneH, *] <;> done) | fail) ?_) | (refine Heap.Le.trans ?_ (Grow.le (by assumption))) | exact Le_none | (refine Le_put ?_ (by first | (simp only [Heap.set_same, set_ne, ne_eq, not_false_eq_true, *] <;> rfl) | fail)) | fail))) h
  | empty hr h0 =>
    rw [if_pos hr] at cC
    have e0 : (x.ls.length : Int) = 0 := by omega
    clear hr hx h0
    unfold Im.v at cC ⊢
    refine HL.hc k15 999 ?_; unfold M15
    (all_goals (try simp only [Sq,Sr,Sh,Si,Sl,Bu,Bb,Bd,Bc,Bw,Bn,Int.reduceAdd,Int.reduceSub,Int.reduceMul,Int.reduceTDiv,Int.reduceTMod,Int.reduceMod,Int.reduceDiv,Nat.reduceLT,Nat.reduceEqDiff,Sa,Sb,Sc,Sd,Se,Sf,Sg,Int.reduceLE,Int.reduceLT,Int.reduceToNat,Int.reduceNeg,Int.reduceEq,Nat.reduceLeDiff,Nat.reducePow,Int.reducePow,reduceIte,Nat.reduceSub,Nat.reduceAdd,Nat.reduceMul,putAt,ceq,List.replicate, *])); repeat' ((first | (with_reducible refine fun _ : True => ?_) | refine cC _ _ (by (repeat' (first | exact Grow.refl _ | assumption | (refine Grow_known (by first | (simp only [Heap.set_same, set_ne, ne_eq, not_false_eq_true, *] <;> rfl) | fail) ?_) | (refine Grow.set ?_ (by assumption) (by first | (simp only [*] <;> done) | (simp [set_none', Heap.set_same, set_ne, noneH, *] <;> done) | fail)) | (refine Grow.trans ?_ (by assumption))))) ?_ | (with_reducible refine any_h ?_) | ((first | refine AllocQ_i ?_ | refine AllocO_i ?_); intro bk hb0 hbk; (try simp only [set_none'] at hbk)) | ((first | refine condS_i ?_ ?_ | refine pick_i ?_ ?_ | refine gS_it ?_ ?_ | refine gS_if ?_ ?_ | refine gP_it ?_ ?_ | refine gP_if ?_ ?_) <;> (intro hc; try simp only [Int.reduceLE,Int.reduceLT,Int.reduceEq,Sn] at hc)) | (with_reducible refine And.intro ?_ ?_)) <;> (try simp only [Sq,Sr,Sh,Si,Sl,Bu,Bb,Bd,Bc,Bw,Bn,Int.reduceAdd,Int.reduceSub,Int.reduceMul,Int.reduceTDiv,Int.reduceTMod,Int.reduceMod,Int.reduceDiv,Nat.reduceLT,Nat.reduceEqDiff,Sa,Sb,Sc,Sd,Se,Sf,Sg,Int.reduceLE,Int.reduceLT,Int.reduceToNat,Int.reduceNeg,Int.reduceEq,Nat.reduceLeDiff,Nat.reducePow,Int.reducePow,reduceIte,Nat.reduceSub,Nat.reduceAdd,Nat.reduceMul,putAt,ceq,List.replicate, *]))
    all_goals exact Fin_mk (by (repeat' (first | exact Heap.Le.refl _ | (with_reducible refine Le_set2 ?_) | (refine Le_known (by first | (simp only [Heap.set_same, set_ne, ne_eq, not_false_eq_true, *] <;> rfl) | fail) ?_) | (refine Le_fresh (by first | (simp only [*] <;> done) | (simp [set_none', Heap.set_same, set_ne, noneH, *] <;> done) | fail) ?_) | (refine Heap.Le.trans ?_ (Grow.le (by assumption))) | exact Le_none | (refine Le_put ?_ (by first | (simp only [Heap.set_same, set_ne, ne_eq, not_false_eq_true, *] <;> rfl) | fail)) | fail))) h
  | none z hr ez hn =>
    rw [if_pos hr] at cC
    have hp := (List.getElem?_eq_some_iff.1 ez).1
    have e0 : ¬ (x.ls.length : Int) = 0 := by omega
    have e1 : (0 : Int) < (x.ls.length : Int) := by omega
    obtain ⟨b, o, ea, hrd, hf⟩ := first_at hx ez
    have cn : ∀ (G : Heap) (K : Value → Heap → Prop), K (.bool true) G → HCalls Try.prog w0 39 [.agg #[.int .i64 z.w, .int .i64 z.h, .slice z.a z.l.length z.cap]] G K := fun G K hk => c_inone z (by rw [decide_eq_true hn]; exact hk)
    clear hr hx hn ez hp
    unfold Im.v at cC ⊢
    rw [ea] at cC ⊢
    refine HL.hc k15 999 ?_; unfold M15
    (all_goals (try simp only [Sq,Sr,Sh,Si,Sl,Bu,Bb,Bd,Bc,Bw,Bn,Int.reduceAdd,Int.reduceSub,Int.reduceMul,Int.reduceTDiv,Int.reduceTMod,Int.reduceMod,Int.reduceDiv,Nat.reduceLT,Nat.reduceEqDiff,Sa,Sb,Sc,Sd,Se,Sf,Sg,Int.reduceLE,Int.reduceLT,Int.reduceToNat,Int.reduceNeg,Int.reduceEq,Nat.reduceLeDiff,Nat.reducePow,Int.reducePow,reduceIte,Nat.reduceSub,Nat.reduceAdd,Nat.reduceMul,putAt,ceq,List.replicate, *])); repeat' ((first | (with_reducible refine fun _ : True => ?_) | refine cC _ _ (by (repeat' (first | exact Grow.refl _ | assumption | (refine Grow_known (by first | (simp only [Heap.set_same, set_ne, ne_eq, not_false_eq_true, *] <;> rfl) | fail) ?_) | (refine Grow.set ?_ (by assumption) (by first | (simp only [*] <;> done) | (simp [set_none', Heap.set_same, set_ne, noneH, *] <;> done) | fail)) | (refine Grow.trans ?_ (by assumption))))) ?_ | refine cn _ _ ?_ | (with_reducible refine any_h ?_) | ((first | refine AllocQ_i ?_ | refine AllocO_i ?_); intro bk hb0 hbk; (try simp only [set_none'] at hbk)) | ((first | refine condS_i ?_ ?_ | refine pick_i ?_ ?_ | refine gS_it ?_ ?_ | refine gS_if ?_ ?_ | refine gP_it ?_ ?_ | refine gP_if ?_ ?_) <;> (intro hc; try simp only [Int.reduceLE,Int.reduceLT,Int.reduceEq,Sn] at hc)) | (with_reducible refine And.intro ?_ ?_)) <;> (try simp only [Sq,Sr,Sh,Si,Sl,Bu,Bb,Bd,Bc,Bw,Bn,Int.reduceAdd,Int.reduceSub,Int.reduceMul,Int.reduceTDiv,Int.reduceTMod,Int.reduceMod,Int.reduceDiv,Nat.reduceLT,Nat.reduceEqDiff,Sa,Sb,Sc,Sd,Se,Sf,Sg,Int.reduceLE,Int.reduceLT,Int.reduceToNat,Int.reduceNeg,Int.reduceEq,Nat.reduceLeDiff,Nat.reducePow,Int.reducePow,reduceIte,Nat.reduceSub,Nat.reduceAdd,Nat.reduceMul,putAt,ceq,List.replicate, *]))
    all_goals exact Fin_mk (by (repeat' (first | exact Heap.Le.refl _ | (with_reducible refine Le_set2 ?_) | (refine Le_known (by first | (simp only [Heap.set_same, set_ne, ne_eq, not_false_eq_true, *] <;> rfl) | fail) ?_) | (refine Le_fresh (by first | (simp only [*] <;> done) | (simp [set_none', Heap.set_same, set_ne, noneH, *] <;> done) | fail) ?_) | (refine Heap.Le.trans ?_ (Grow.le (by assumption))) | exact Le_none | (refine Le_put ?_ (by first | (simp only [Heap.set_same, set_ne, ne_eq, not_false_eq_true, *] <;> rfl) | fail)) | fail))) h
  | arg z hr ez hn hpw =>
    rw [if_pos hr] at cC
    have hp := (List.getElem?_eq_some_iff.1 ez).1
    have e0 : ¬ (x.ls.length : Int) = 0 := by omega
    have e1 : (0 : Int) < (x.ls.length : Int) := by omega
    obtain ⟨b, o, ea, hrd, hf⟩ := first_at hx ez
    obtain ⟨s1, s2, -⟩ := first_side hr ez hn
    have cn : ∀ (G : Heap) (K : Value → Heap → Prop), K (.bool false) G → HCalls Try.prog w0 39 [.agg #[.int .i64 z.w, .int .i64 z.h, .slice z.a z.l.length z.cap]] G K := fun G K hk => c_inone z (by rw [decide_eq_false hn]; exact hk)
    by_cases pw : powP z.w
    · have ph : ¬ powP z.h := fun q => hpw ⟨pw, q⟩
      have c1 : ∀ (G : Heap) (K : Value → Heap → Prop), K (.bool true) G → HCalls Try.prog w0 40 [.int .i64 z.w] G K := fun G K hk => c_power _ s1 (fun _ => hk) (fun q => (q pw).elim)
      have c2 : ∀ (G : Heap) (K : Value → Heap → Prop), K (.bool false) G → HCalls Try.prog w0 40 [.int .i64 z.h] G K := fun G K hk => c_power _ s2 (fun q => (ph q).elim) (fun _ => hk)
      clear hr hx hn ez hp hpw pw ph s1 s2
      unfold Im.v at cC ⊢
      rw [ea] at cC ⊢
      refine HL.hc k15 999 ?_; unfold M15
      (all_goals (try simp only [Sq,Sr,Sh,Si,Sl,Bu,Bb,Bd,Bc,Bw,Bn,Int.reduceAdd,Int.reduceSub,Int.reduceMul,Int.reduceTDiv,Int.reduceTMod,Int.reduceMod,Int.reduceDiv,Nat.reduceLT,Nat.reduceEqDiff,Sa,Sb,Sc,Sd,Se,Sf,Sg,Int.reduceLE,Int.reduceLT,Int.reduceToNat,Int.reduceNeg,Int.reduceEq,Nat.reduceLeDiff,Nat.reducePow,Int.reducePow,reduceIte,Nat.reduceSub,Nat.reduceAdd,Nat.reduceMul,putAt,ceq,List.replicate, *])); repeat' ((first | (with_reducible refine fun _ : True => ?_) | refine cC _ _ (by (repeat' (first | exact Grow.refl _ | assumption | (refine Grow_known (by first | (simp only [Heap.set_same, set_ne, ne_eq, not_false_eq_true, *] <;> rfl) | fail) ?_) | (refine Grow.set ?_ (by assumption) (by first | (simp only [*] <;> done) | (simp [set_none', Heap.set_same, set_ne, noneH, *] <;> done) | fail)) | (refine Grow.trans ?_ (by assumption))))) ?_ | refine cn _ _ ?_ | refine c1 _ _ ?_ | refine c2 _ _ ?_ | (with_reducible refine any_h ?_) | ((first | refine AllocQ_i ?_ | refine AllocO_i ?_); intro bk hb0 hbk; (try simp only [set_none'] at hbk)) | ((first | refine condS_i ?_ ?_ | refine pick_i ?_ ?_ | refine gS_it ?_ ?_ | refine gS_if ?_ ?_ | refine gP_it ?_ ?_ | refine gP_if ?_ ?_) <;> (intro hc; try simp only [Int.reduceLE,Int.reduceLT,Int.reduceEq,Sn] at hc)) | (with_reducible refine And.intro ?_ ?_)) <;> (try simp only [Sq,Sr,Sh,Si,Sl,Bu,Bb,Bd,Bc,Bw,Bn,Int.reduceAdd,Int.reduceSub,Int.reduceMul,Int.reduceTDiv,Int.reduceTMod,Int.reduceMod,Int.reduceDiv,Nat.reduceLT,Nat.reduceEqDiff,Sa,Sb,Sc,Sd,Se,Sf,Sg,Int.reduceLE,Int.reduceLT,Int.reduceToNat,Int.reduceNeg,Int.reduceEq,Nat.reduceLeDiff,Nat.reducePow,Int.reducePow,reduceIte,Nat.reduceSub,Nat.reduceAdd,Nat.reduceMul,putAt,ceq,List.replicate, *]))
      all_goals exact Fin_mk (by (repeat' (first | exact Heap.Le.refl _ | (with_reducible refine Le_set2 ?_) | (refine Le_known (by first | (simp only [Heap.set_same, set_ne, ne_eq, not_false_eq_true, *] <;> rfl) | fail) ?_) | (refine Le_fresh (by first | (simp only [*] <;> done) | (simp [set_none', Heap.set_same, set_ne, noneH, *] <;> done) | fail) ?_) | (refine Heap.Le.trans ?_ (Grow.le (by assumption))) | exact Le_none | (refine Le_put ?_ (by first | (simp only [Heap.set_same, set_ne, ne_eq, not_false_eq_true, *] <;> rfl) | fail)) | fail))) h
    · have c1 : ∀ (G : Heap) (K : Value → Heap → Prop), K (.bool false) G → HCalls Try.prog w0 40 [.int .i64 z.w] G K := fun G K hk => c_power _ s1 (fun q => (pw q).elim) (fun _ => hk)
      clear hr hx hn ez hp hpw pw s1 s2
      unfold Im.v at cC ⊢
      rw [ea] at cC ⊢
      refine HL.hc k15 999 ?_; unfold M15
      (all_goals (try simp only [Sq,Sr,Sh,Si,Sl,Bu,Bb,Bd,Bc,Bw,Bn,Int.reduceAdd,Int.reduceSub,Int.reduceMul,Int.reduceTDiv,Int.reduceTMod,Int.reduceMod,Int.reduceDiv,Nat.reduceLT,Nat.reduceEqDiff,Sa,Sb,Sc,Sd,Se,Sf,Sg,Int.reduceLE,Int.reduceLT,Int.reduceToNat,Int.reduceNeg,Int.reduceEq,Nat.reduceLeDiff,Nat.reducePow,Int.reducePow,reduceIte,Nat.reduceSub,Nat.reduceAdd,Nat.reduceMul,putAt,ceq,List.replicate, *])); repeat' ((first | (with_reducible refine fun _ : True => ?_) | refine cC _ _ (by (repeat' (first | exact Grow.refl _ | assumption | (refine Grow_known (by first | (simp only [Heap.set_same, set_ne, ne_eq, not_false_eq_true, *] <;> rfl) | fail) ?_) | (refine Grow.set ?_ (by assumption) (by first | (simp only [*] <;> done) | (simp [set_none', Heap.set_same, set_ne, noneH, *] <;> done) | fail)) | (refine Grow.trans ?_ (by assumption))))) ?_ | refine cn _ _ ?_ | refine c1 _ _ ?_ | (with_reducible refine any_h ?_) | ((first | refine AllocQ_i ?_ | refine AllocO_i ?_); intro bk hb0 hbk; (try simp only [set_none'] at hbk)) | ((first | refine condS_i ?_ ?_ | refine pick_i ?_ ?_ | refine gS_it ?_ ?_ | refine gS_if ?_ ?_ | refine gP_it ?_ ?_ | refine gP_if ?_ ?_) <;> (intro hc; try simp only [Int.reduceLE,Int.reduceLT,Int.reduceEq,Sn] at hc)) | (with_reducible refine And.intro ?_ ?_)) <;> (try simp only [Sq,Sr,Sh,Si,Sl,Bu,Bb,Bd,Bc,Bw,Bn,Int.reduceAdd,Int.reduceSub,Int.reduceMul,Int.reduceTDiv,Int.reduceTMod,Int.reduceMod,Int.reduceDiv,Nat.reduceLT,Nat.reduceEqDiff,Sa,Sb,Sc,Sd,Se,Sf,Sg,Int.reduceLE,Int.reduceLT,Int.reduceToNat,Int.reduceNeg,Int.reduceEq,Nat.reduceLeDiff,Nat.reducePow,Int.reducePow,reduceIte,Nat.reduceSub,Nat.reduceAdd,Nat.reduceMul,putAt,ceq,List.replicate, *]))
      all_goals exact Fin_mk (by (repeat' (first | exact Heap.Le.refl _ | (with_reducible refine Le_set2 ?_) | (refine Le_known (by first | (simp only [Heap.set_same, set_ne, ne_eq, not_false_eq_true, *] <;> rfl) | fail) ?_) | (refine Le_fresh (by first | (simp only [*] <;> done) | (simp [set_none', Heap.set_same, set_ne, noneH, *] <;> done) | fail) ?_) | (refine Heap.Le.trans ?_ (Grow.le (by assumption))) | exact Le_none | (refine Le_put ?_ (by first | (simp only [Heap.set_same, set_ne, ne_eq, not_false_eq_true, *] <;> rfl) | fail)) | fail))) h
/- paintboxref08 there -/
def M43 : MC :=
  .seq (.reg [⟨(some 2), .box 24 (.tmp 0), none⟩,
 ⟨(some 4), .mv (.const (.bool false)), none⟩])
 (.seq (.reg [⟨(some 5), .mv (.tmp 1), none⟩,
 ⟨(some 6), .bin .geq (.tmp 5) (.const (.int .i64 0)), none⟩,
 ⟨(some 7), .mv (.tmp 6), none⟩,
 ⟨(some 8), .mv (.tmp 1), (some (7, true))⟩,
 ⟨(some 9), .fa 1 (.tmp 2), (some (7, true))⟩,
 ⟨(some 10), .ld1 (.tmp 9), (some (7, true))⟩,
 ⟨(some 11), .len (.tmp 10), (some (7, true))⟩,
 ⟨(some 12), .bin .lss (.tmp 8) (.tmp 11), (some (7, true))⟩,
 ⟨(some 13), .pick (.tmp 7) (.tmp 12) (.const (.bool false)), none⟩,
 ⟨(some 14), .mv (.tmp 13), none⟩,
 ⟨(some 15), .fa 1 (.tmp 2), (some (14, true))⟩,
 ⟨(some 16), .ld1 (.tmp 15), (some (14, true))⟩,
 ⟨(some 17), .mv (.tmp 1), (some (14, true))⟩,
 ⟨(some 18), .is 3 (.tmp 16) (.tmp 17), (some (14, true))⟩,
 ⟨(some 19), .ldn 3 (.tmp 18), (some (14, true))⟩,
 ⟨(some 20), .call 58 [(.tmp 19)], (some (14, true))⟩,
 ⟨(some 21), .un .not (.tmp 20), (some (14, true))⟩,
 ⟨(some 22), .pick (.tmp 14) (.tmp 21) (.const (.bool false)), none⟩,
 ⟨(some 4), .mv (.tmp 22), none⟩])
 (.ret))
theorem k43 : fnOk Try.prog 43 = some (M43, [.t 4], 23) := by kernel_rfl
/- paintboxref08 Generate -/
def M16 : MC :=
  .seq (.reg [⟨(some 1), .box 24 (.tmp 0), none⟩,
 ⟨(some 2), .alloc 24 [(.int .i64 0), (.slice none 0 0), (.int .i64 0), (.int .i64 0), (.int .i64 0), (.int .i64 0)], none⟩,
 ⟨(some 3), .mv (.const (.int .i64 0)), none⟩])
 (.seq (.block 0 (.seq (.reg [⟨(some 14), .ldn 6 (.tmp 1), none⟩,
 ⟨(some 15), .call 29 [(.tmp 14)], none⟩,
 ⟨(some 16), .un .not (.tmp 15), none⟩,
 ⟨(some 13), .mv (.tmp 16), none⟩])
 (.cond (.tmp 13)
 (.seq (.reg [⟨(some 17), .build [(.int .i64 0), (.slice none 0 0), (.int .i64 0), (.int .i64 0), (.int .i64 0), (.int .i64 0)] [], none⟩,
 ⟨none, .stn 6 (.tmp 2) (.tmp 17), none⟩,
 ⟨(some 3), .mv (.const (.int .i64 180)), none⟩])
 (.ret))
 (.seq (.reg [⟨(some 19), .ldn 6 (.tmp 1), none⟩,
 ⟨(some 20), .call 43 [(.tmp 19), (.const (.int .i64 0))], none⟩,
 ⟨(some 21), .un .not (.tmp 20), none⟩,
 ⟨(some 18), .mv (.tmp 21), none⟩])
 (.cond (.tmp 18)
 (.seq (.reg [⟨(some 22), .build [(.int .i64 0), (.slice none 0 0), (.int .i64 0), (.int .i64 0), (.int .i64 0), (.int .i64 0)] [], none⟩,
 ⟨none, .stn 6 (.tmp 2) (.tmp 22), none⟩,
 ⟨(some 3), .mv (.const (.int .i64 4)), none⟩])
 (.ret))
 (.seq (.reg [⟨(some 24), .fa 1 (.tmp 1), none⟩,
 ⟨(some 25), .ld1 (.tmp 24), none⟩,
 ⟨(some 26), .is 3 (.tmp 25) (.const (.int .i64 0)), none⟩,
 ⟨(some 27), .fa 0 (.tmp 26), none⟩,
 ⟨(some 28), .ld1 (.tmp 27), none⟩,
 ⟨(some 29), .call 44 [(.tmp 28)], none⟩,
 ⟨(some 30), .un .not (.tmp 29), none⟩,
 ⟨(some 31), .mv (.tmp 30), none⟩,
 ⟨(some 32), .fa 1 (.tmp 1), (some (31, false))⟩,
 ⟨(some 33), .ld1 (.tmp 32), (some (31, false))⟩,
 ⟨(some 34), .is 3 (.tmp 33) (.const (.int .i64 0)), (some (31, false))⟩,
 ⟨(some 35), .fa 1 (.tmp 34), (some (31, false))⟩,
 ⟨(some 36), .ld1 (.tmp 35), (some (31, false))⟩,
 ⟨(some 37), .call 44 [(.tmp 36)], (some (31, false))⟩,
 ⟨(some 38), .un .not (.tmp 37), (some (31, false))⟩,
 ⟨(some 39), .pick (.tmp 31) (.const (.bool true)) (.tmp 38), none⟩,
 ⟨(some 23), .mv (.tmp 39), none⟩])
 (.cond (.tmp 23)
 (.seq (.reg [⟨(some 40), .build [(.int .i64 0), (.slice none 0 0), (.int .i64 0), (.int .i64 0), (.int .i64 0), (.int .i64 0)] [], none⟩,
 ⟨none, .stn 6 (.tmp 2) (.tmp 40), none⟩,
 ⟨(some 3), .mv (.const (.int .i64 2)), none⟩])
 (.ret))
 (.skip))))))))
 (.seq (.reg [⟨(some 41), .ldn 6 (.tmp 1), none⟩,
 ⟨(some 42), .call 14 [(.tmp 41)], none⟩,
 ⟨none, .stn 6 (.tmp 1) (.tmp 42), none⟩])
 (.seq (.reg [⟨(some 43), .fa 1 (.tmp 1), none⟩,
 ⟨(some 44), .ld1 (.tmp 43), none⟩,
 ⟨(some 45), .slc 3 (.tmp 44) none (some (.const (.int .i64 1))), none⟩,
 ⟨(some 46), .fa 1 (.tmp 1), none⟩,
 ⟨none, .st1 (.tmp 46) (.tmp 45), none⟩])
 (.seq (.reg [⟨(some 47), .fa 0 (.tmp 1), none⟩,
 ⟨(some 48), .ld1 (.tmp 47), none⟩,
 ⟨(some 49), .call 45 [(.tmp 48)], none⟩,
 ⟨(some 4), .mv (.tmp 49), none⟩])
 (.seq (.seq (.reg [⟨(some 50), .fa 1 (.tmp 1), none⟩,
 ⟨(some 51), .ld1 (.tmp 50), none⟩,
 ⟨(some 52), .is 3 (.tmp 51) (.const (.int .i64 0)), none⟩,
 ⟨(some 53), .ldn 3 (.tmp 52), none⟩,
 ⟨(some 5), .alloc 38 [(.int .i64 0), (.int .i64 0), (.slice none 0 0)], none⟩,
 ⟨none, .stn 3 (.tmp 5) (.tmp 53), none⟩])
 (.block 1 (.loop (.seq (.seq (.reg [⟨(some 54), .fa 0 (.tmp 5), none⟩,
 ⟨(some 55), .ld1 (.tmp 54), none⟩,
 ⟨(some 56), .bin .gtr (.tmp 55) (.const (.int .i64 1)), none⟩,
 ⟨(some 57), .mv (.tmp 56), none⟩,
 ⟨(some 58), .fa 1 (.tmp 5), (some (57, false))⟩,
 ⟨(some 59), .ld1 (.tmp 58), (some (57, false))⟩,
 ⟨(some 60), .bin .gtr (.tmp 59) (.const (.int .i64 1)), (some (57, false))⟩,
 ⟨(some 61), .pick (.tmp 57) (.const (.bool true)) (.tmp 60), none⟩])
 (.cond (.tmp 61)
 (.skip)
 (.exit 1)))
 (.seq (.block 2 (.seq (.reg [⟨(some 70), .fa 0 (.tmp 5), none⟩,
 ⟨(some 71), .ld1 (.tmp 70), none⟩,
 ⟨(some 72), .bin .quo (.tmp 71) (.const (.int .i64 2)), none⟩,
 ⟨(some 73), .mx (.tmp 72) (.const (.int .i64 1)), none⟩,
 ⟨(some 74), .fa 1 (.tmp 5), none⟩,
 ⟨(some 75), .ld1 (.tmp 74), none⟩,
 ⟨(some 76), .bin .quo (.tmp 75) (.const (.int .i64 2)), none⟩,
 ⟨(some 77), .mx (.tmp 76) (.const (.int .i64 1)), none⟩,
 ⟨(some 78), .build [(.int .i64 0), (.int .i64 0), (.slice none 0 0)] [(0, 1, (.tmp 73)), (1, 1, (.tmp 77))], none⟩,
 ⟨(some 6), .alloc 38 [(.int .i64 0), (.int .i64 0), (.slice none 0 0)], none⟩,
 ⟨none, .stn 3 (.tmp 6) (.tmp 78), none⟩])
 (.seq (.seq (.reg [⟨(some 79), .fa 1 (.tmp 6), none⟩,
 ⟨(some 80), .ld1 (.tmp 79), none⟩,
 ⟨(some 81), .mv (.const (.int .i64 0)), none⟩])
 (.block 3 (.loop (.seq (.reg [⟨(some 82), .bin .lss (.tmp 81) (.tmp 80), none⟩])
 (.seq (.cond (.tmp 82)
 (.skip)
 (.exit 3))
 (.seq (.block 4 (.seq (.reg [⟨(some 83), .mv (.tmp 81), none⟩,
 ⟨(some 7), .mv (.tmp 83), none⟩])
 (.seq (.reg [⟨(some 84), .fa 0 (.tmp 6), none⟩,
 ⟨(some 85), .ld1 (.tmp 84), none⟩,
 ⟨(some 86), .mv (.const (.int .i64 0)), none⟩])
 (.block 5 (.loop (.seq (.reg [⟨(some 87), .bin .lss (.tmp 86) (.tmp 85), none⟩])
 (.seq (.cond (.tmp 87)
 (.skip)
 (.exit 5))
 (.seq (.block 6 (.seq (.reg [⟨(some 88), .mv (.tmp 86), none⟩,
 ⟨(some 8), .mv (.tmp 88), none⟩])
 (.seq (.reg [⟨(some 9), .mv (.const (.slice none 0 0)), none⟩])
 (.seq (.seq (.reg [⟨(some 89), .mv (.const (.int .i64 0)), none⟩])
 (.block 7 (.loop (.seq (.reg [⟨(some 90), .bin .lss (.tmp 89) (.const (.int .i64 4)), none⟩])
 (.seq (.cond (.tmp 90)
 (.skip)
 (.exit 7))
 (.seq (.block 8 (.seq (.reg [⟨(some 91), .mv (.tmp 89), none⟩,
 ⟨(some 10), .mv (.tmp 91), none⟩])
 (.seq (.reg [⟨(some 92), .mv (.tmp 8), none⟩,
 ⟨(some 93), .bin .mul (.const (.int .i64 2)) (.tmp 92), none⟩,
 ⟨(some 94), .mv (.tmp 10), none⟩,
 ⟨(some 95), .bin .rem (.tmp 94) (.const (.int .i64 2)), none⟩,
 ⟨(some 96), .bin .add (.tmp 93) (.tmp 95), none⟩,
 ⟨(some 97), .mv (.tmp 7), none⟩,
 ⟨(some 98), .bin .mul (.const (.int .i64 2)) (.tmp 97), none⟩,
 ⟨(some 99), .mv (.tmp 10), none⟩,
 ⟨(some 100), .bin .quo (.tmp 99) (.const (.int .i64 2)), none⟩,
 ⟨(some 101), .bin .add (.tmp 98) (.tmp 100), none⟩,
 ⟨(some 11), .mv (.tmp 96), none⟩,
 ⟨(some 12), .mv (.tmp 101), none⟩])
 (.seq (.reg [⟨(some 102), .mv (.tmp 11), none⟩,
 ⟨(some 103), .fa 0 (.tmp 5), none⟩,
 ⟨(some 104), .ld1 (.tmp 103), none⟩,
 ⟨(some 105), .bin .lss (.tmp 102) (.tmp 104), none⟩,
 ⟨(some 106), .mv (.tmp 105), none⟩,
 ⟨(some 107), .mv (.tmp 12), (some (106, true))⟩,
 ⟨(some 108), .fa 1 (.tmp 5), (some (106, true))⟩,
 ⟨(some 109), .ld1 (.tmp 108), (some (106, true))⟩,
 ⟨(some 110), .bin .lss (.tmp 107) (.tmp 109), (some (106, true))⟩,
 ⟨(some 111), .pick (.tmp 106) (.tmp 110) (.const (.bool false)), none⟩])
 (.cond (.tmp 111)
 (.reg [⟨(some 112), .mv (.tmp 9), none⟩,
 ⟨(some 113), .fa 2 (.tmp 5), none⟩,
 ⟨(some 114), .ld1 (.tmp 113), none⟩,
 ⟨(some 115), .mv (.tmp 12), none⟩,
 ⟨(some 116), .fa 0 (.tmp 5), none⟩,
 ⟨(some 117), .ld1 (.tmp 116), none⟩,
 ⟨(some 118), .bin .mul (.tmp 115) (.tmp 117), none⟩,
 ⟨(some 119), .mv (.tmp 11), none⟩,
 ⟨(some 120), .bin .add (.tmp 118) (.tmp 119), none⟩,
 ⟨(some 121), .mv (.tmp 4), none⟩,
 ⟨(some 122), .bin .mul (.tmp 120) (.tmp 121), none⟩,
 ⟨(some 123), .mv (.tmp 12), none⟩,
 ⟨(some 124), .fa 0 (.tmp 5), none⟩,
 ⟨(some 125), .ld1 (.tmp 124), none⟩,
 ⟨(some 126), .bin .mul (.tmp 123) (.tmp 125), none⟩,
 ⟨(some 127), .mv (.tmp 11), none⟩,
 ⟨(some 128), .bin .add (.tmp 126) (.tmp 127), none⟩,
 ⟨(some 129), .bin .add (.tmp 128) (.const (.int .i64 1)), none⟩,
 ⟨(some 130), .mv (.tmp 4), none⟩,
 ⟨(some 131), .bin .mul (.tmp 129) (.tmp 130), none⟩,
 ⟨(some 132), .slc 1 (.tmp 114) (some (.tmp 122)) (some (.tmp 131)), none⟩,
 ⟨(some 133), .bslice 36 1 [(.slice none 0 0)] [(0, 1, (.tmp 132))], none⟩,
 ⟨(some 134), .app 36 1 24 [(.slice none 0 0)] (.tmp 112) (.tmp 133), none⟩,
 ⟨(some 9), .mv (.tmp 134), none⟩])
 (.skip))))))
 (.reg [⟨(some 135), .bin .add (.tmp 89) (.const (.int .i64 1)), none⟩,
 ⟨(some 89), .mv (.tmp 135), none⟩])))))))
 (.any [(true, 0, [], ⟨(some 136), .fa 2 (.tmp 6), none⟩),
 (true, 1, [], ⟨(some 137), .ld1 (.tmp 136), none⟩),
 (true, 2, [], ⟨(some 138), .fa 0 (.tmp 1), none⟩),
 (true, 3, [], ⟨(some 139), .ld1 (.tmp 138), none⟩),
 (false, 4, [0, 1, 2, 3], ⟨(some 140), .mv (.tmp 9), none⟩),
 (false, 5, [0, 1], ⟨(some 141), .call 46 [(.tmp 139), (.tmp 140)], none⟩),
 (false, 6, [], ⟨(some 142), .app 5 1 1 [(.int .u8 0)] (.tmp 137) (.tmp 141), none⟩),
 (false, 7, [], ⟨(some 143), .fa 2 (.tmp 6), none⟩),
 (false, 8, [], ⟨none, .st1 (.tmp 143) (.tmp 142), none⟩)])))))
 (.reg [⟨(some 144), .bin .add (.tmp 86) (.const (.int .i64 1)), none⟩,
 ⟨(some 86), .mv (.tmp 144), none⟩])))))))))
 (.reg [⟨(some 145), .bin .add (.tmp 81) (.const (.int .i64 1)), none⟩,
 ⟨(some 81), .mv (.tmp 145), none⟩])))))))
 (.reg [⟨(some 146), .fa 1 (.tmp 1), none⟩,
 ⟨(some 147), .ld1 (.tmp 146), none⟩,
 ⟨(some 148), .ldn 3 (.tmp 6), none⟩,
 ⟨(some 149), .bslice 38 1 [(.int .i64 0), (.int .i64 0), (.slice none 0 0)] [(0, 3, (.tmp 148))], none⟩,
 ⟨(some 150), .app 38 3 40 [(.int .i64 0), (.int .i64 0), (.slice none 0 0)] (.tmp 147) (.tmp 149), none⟩,
 ⟨(some 151), .fa 1 (.tmp 1), none⟩,
 ⟨none, .st1 (.tmp 151) (.tmp 150), none⟩]))))
 (.seq (.seq (.reg [⟨(some 152), .ldn 3 (.tmp 5), none⟩])
 (.reg [⟨(some 5), .alloc 38 [(.int .i64 0), (.int .i64 0), (.slice none 0 0)], none⟩,
 ⟨none, .stn 3 (.tmp 5) (.tmp 152), none⟩]))
 (.reg [⟨(some 62), .fa 1 (.tmp 1), none⟩,
 ⟨(some 63), .ld1 (.tmp 62), none⟩,
 ⟨(some 64), .fa 1 (.tmp 1), none⟩,
 ⟨(some 65), .ld1 (.tmp 64), none⟩,
 ⟨(some 66), .len (.tmp 65), none⟩,
 ⟨(some 67), .bin .sub (.tmp 66) (.const (.int .i64 1)), none⟩,
 ⟨(some 68), .is 3 (.tmp 63) (.tmp 67), none⟩,
 ⟨(some 69), .ldn 3 (.tmp 68), none⟩,
 ⟨none, .stn 3 (.tmp 5) (.tmp 69), none⟩])))))))
 (.seq (.reg [⟨(some 153), .ldn 6 (.tmp 1), none⟩,
 ⟨none, .stn 6 (.tmp 2) (.tmp 153), none⟩,
 ⟨(some 3), .mv (.const (.int .i64 0)), none⟩])
 (.ret)))))))
theorem k16 : fnOk Try.prog 16 = some (M16, [.cn 6 2, .t 3], 154) := by kernel_rfl

theorem r_there0 (x : Im) (hx : ImOk w0 H x) (h1 : (∃ z, x.ls[0]? = some z ∧ ¬ z.nil) → K (.bool true) H) (h2 : ¬ (∃ z, x.ls[0]? = some z ∧ ¬ z.nil) → K (.bool false) H) : HCalls Try.prog w0 43 [x.v, .int .i64 0] H K := by
  rcases Nat.eq_zero_or_pos x.ls.length with hl | hl
  · have h2 := h2 fun ⟨y, hy, _⟩ => by have := (List.getElem?_eq_some_iff.1 hy).1; omega
    have e0 : ¬ (0 : Int) < (x.ls.length : Int) := by omega
    clear hx h1
    unfold Im.v
    refine HL.hc k43 999 ?_; unfold M43
    (all_goals (try simp only [Sq,Sr,Sh,Si,Sl,Bu,Bb,Bd,Bc,Bw,Bn,Int.reduceAdd,Int.reduceSub,Int.reduceMul,Int.reduceTDiv,Int.reduceTMod,Int.reduceMod,Int.reduceDiv,Nat.reduceLT,Nat.reduceEqDiff,Sa,Sb,Sc,Sd,Se,Sf,Sg,Int.reduceLE,Int.reduceLT,Int.reduceToNat,Int.reduceNeg,Int.reduceEq,Nat.reduceLeDiff,Nat.reducePow,Int.reducePow,reduceIte,Nat.reduceSub,Nat.reduceAdd,Nat.reduceMul,putAt,ceq,List.replicate, *])); repeat' ((first | (with_reducible refine fun _ : True => ?_) | (with_reducible refine any_h ?_) | ((first | refine AllocQ_i ?_ | refine AllocO_i ?_); intro bk hb0 hbk; (try simp only [set_none'] at hbk)) | ((first | refine condS_i ?_ ?_ | refine pick_i ?_ ?_ | refine gS_it ?_ ?_ | refine gS_if ?_ ?_ | refine gP_it ?_ ?_ | refine gP_if ?_ ?_) <;> (intro hc; try simp only [Int.reduceLE,Int.reduceLT,Int.reduceEq,Sn] at hc)) | (with_reducible refine And.intro ?_ ?_)) <;> (try simp only [Sq,Sr,Sh,Si,Sl,Bu,Bb,Bd,Bc,Bw,Bn,Int.reduceAdd,Int.reduceSub,Int.reduceMul,Int.reduceTDiv,Int.reduceTMod,Int.reduceMod,Int.reduceDiv,Nat.reduceLT,Nat.reduceEqDiff,Sa,Sb,Sc,Sd,Se,Sf,Sg,Int.reduceLE,Int.reduceLT,Int.reduceToNat,Int.reduceNeg,Int.reduceEq,Nat.reduceLeDiff,Nat.reducePow,Int.reducePow,reduceIte,Nat.reduceSub,Nat.reduceAdd,Nat.reduceMul,putAt,ceq,List.replicate, *]))
    all_goals exact Fin_mk (by (repeat' (first | exact Heap.Le.refl _ | (with_reducible refine Le_set2 ?_) | (refine Le_known (by first | (simp only [Heap.set_same, set_ne, ne_eq, not_false_eq_true, *] <;> rfl) | fail) ?_) | (refine Le_fresh (by first | (simp only [*] <;> done) | (simp [set_none', Heap.set_same, set_ne, noneH, *] <;> done) | fail) ?_) | (refine Heap.Le.trans ?_ (Grow.le (by assumption))) | exact Le_none | (refine Le_put ?_ (by first | (simp only [Heap.set_same, set_ne, ne_eq, not_false_eq_true, *] <;> rfl) | fail)) | fail))) h2
  · obtain ⟨y, ey⟩ : ∃ y, x.ls[0]? = some y := ⟨_, List.getElem?_eq_getElem hl⟩
    obtain ⟨b, o, ea, hrd, hf⟩ := first_at hx ey
    have e0 : (0 : Int) < (x.ls.length : Int) := by omega
    have key : ∀ G, Heap.Le H G → HL.Fin K (.bool (!decide y.nil)) G := fun G hle => by
      by_cases hn : y.nil
      · rw [decide_eq_true hn]; exact Fin_mk hle (h2 fun ⟨z, hz, hnz⟩ => by rw [ey] at hz; cases hz; exact hnz hn)
      · rw [decide_eq_false hn]; exact Fin_mk hle (h1 ⟨y, ey, hn⟩)
    clear h1 h2 hx
    unfold Im.v
    rw [ea]
    refine HL.hc k43 999 ?_; unfold M43
    (all_goals (try simp only [Sq,Sr,Sh,Si,Sl,Bu,Bb,Bd,Bc,Bw,Bn,Int.reduceAdd,Int.reduceSub,Int.reduceMul,Int.reduceTDiv,Int.reduceTMod,Int.reduceMod,Int.reduceDiv,Nat.reduceLT,Nat.reduceEqDiff,Sa,Sb,Sc,Sd,Se,Sf,Sg,Int.reduceLE,Int.reduceLT,Int.reduceToNat,Int.reduceNeg,Int.reduceEq,Nat.reduceLeDiff,Nat.reducePow,Int.reducePow,reduceIte,Nat.reduceSub,Nat.reduceAdd,Nat.reduceMul,putAt,ceq,List.replicate, *])); repeat' ((first | (with_reducible refine fun _ : True => ?_) | refine r_none y ?_ | (with_reducible refine any_h ?_) | ((first | refine AllocQ_i ?_ | refine AllocO_i ?_); intro bk hb0 hbk; (try simp only [set_none'] at hbk)) | ((first | refine condS_i ?_ ?_ | refine pick_i ?_ ?_ | refine gS_it ?_ ?_ | refine gS_if ?_ ?_ | refine gP_it ?_ ?_ | refine gP_if ?_ ?_) <;> (intro hc; try simp only [Int.reduceLE,Int.reduceLT,Int.reduceEq,Sn] at hc)) | (with_reducible refine And.intro ?_ ?_)) <;> (try simp only [Sq,Sr,Sh,Si,Sl,Bu,Bb,Bd,Bc,Bw,Bn,Int.reduceAdd,Int.reduceSub,Int.reduceMul,Int.reduceTDiv,Int.reduceTMod,Int.reduceMod,Int.reduceDiv,Nat.reduceLT,Nat.reduceEqDiff,Sa,Sb,Sc,Sd,Se,Sf,Sg,Int.reduceLE,Int.reduceLT,Int.reduceToNat,Int.reduceNeg,Int.reduceEq,Nat.reduceLeDiff,Nat.reducePow,Int.reducePow,reduceIte,Nat.reduceSub,Nat.reduceAdd,Nat.reduceMul,putAt,ceq,List.replicate, *]))
    all_goals exact key _ (by (repeat' (first | exact Heap.Le.refl _ | (with_reducible refine Le_set2 ?_) | (refine Le_known (by first | (simp only [Heap.set_same, set_ne, ne_eq, not_false_eq_true, *] <;> rfl) | fail) ?_) | (refine Le_fresh (by first | (simp only [*] <;> done) | (simp [set_none', Heap.set_same, set_ne, noneH, *] <;> done) | fail) ?_) | (refine Heap.Le.trans ?_ (Grow.le (by assumption))) | exact Le_none | (refine Le_put ?_ (by first | (simp only [Heap.set_same, set_ne, ne_eq, not_false_eq_true, *] <;> rfl) | fail)) | fail)))
theorem r_Gen_err (x : Im) (hx : ImOk w0 H x) (e : Int) (he : GenE x e) (h : K (.tuple #[zIg, .int .i64 e]) H) : HCalls Try.prog w0 16 [x.v] H K := by
  have cC : ∀ (G : Heap) (K : Value → Heap → Prop), Grow w0 H G → K (.bool (decide x.right)) G → HCalls Try.prog w0 29 [x.v] G K := fun G K g hk => r_Right8 x (hx.grow g) hk
  have no : ¬ (∃ z, x.ls[0]? = some z ∧ ¬ z.nil) → ∀ (G : Heap) (K : Value → Heap → Prop), Grow w0 H G → K (.bool false) G → HCalls Try.prog w0 43 [x.v, .int .i64 0] G K := fun hn G K g hk => r_there0 x (hx.grow g) (fun q => (hn q).elim) (fun _ => hk)
  have yes : (∃ z, x.ls[0]? = some z ∧ ¬ z.nil) → ∀ (G : Heap) (K : Value → Heap → Prop), Grow w0 H G → K (.bool true) G → HCalls Try.prog w0 43 [x.v, .int .i64 0] G K := fun hn G K g hk => r_there0 x (hx.grow g) (fun _ => hk) (fun q => (q hn).elim)
  cases he with
  | image hr =>
    rw [decide_eq_false hr] at cC
    clear hr hx no yes
    unfold Im.v at cC ⊢
    refine HL.hc k16 999 ?_; unfold M16
    (all_goals (try simp only [Sq,Sr,Sh,Si,Sl,Bu,Bb,Bd,Bc,Bw,Bn,Int.reduceAdd,Int.reduceSub,Int.reduceMul,Int.reduceTDiv,Int.reduceTMod,Int.reduceMod,Int.reduceDiv,Nat.reduceLT,Nat.reduceEqDiff,Sa,Sb,Sc,Sd,Se,Sf,Sg,Int.reduceLE,Int.reduceLT,Int.reduceToNat,Int.reduceNeg,Int.reduceEq,Nat.reduceLeDiff,Nat.reducePow,Int.reducePow,reduceIte,Nat.reduceSub,Nat.reduceAdd,Nat.reduceMul,putAt,ceq,List.replicate, *])); repeat' ((first | (with_reducible refine fun _ : True => ?_) | refine cC _ _ (by (repeat' (first | exact Grow.refl _ | assumption | (refine Grow_known (by first | (simp only [Heap.set_same, set_ne, ne_eq, not_false_eq_true, *] <;> rfl) | fail) ?_) | (refine Grow.set ?_ (by assumption) (by first | (simp only [*] <;> done) | (simp [set_none', Heap.set_same, set_ne, noneH, *] <;> done) | fail)) | (refine Grow.trans ?_ (by assumption))))) ?_ | (with_reducible refine any_h ?_) | ((first | refine AllocQ_i ?_ | refine AllocO_i ?_); intro bk hb0 hbk; (try simp only [set_none'] at hbk)) | ((first | refine condS_i ?_ ?_ | refine pick_i ?_ ?_ | refine gS_it ?_ ?_ | refine gS_if ?_ ?_ | refine gP_it ?_ ?_ | refine gP_if ?_ ?_) <;> (intro hc; try simp only [Int.reduceLE,Int.reduceLT,Int.reduceEq,Sn] at hc)) | (with_reducible refine And.intro ?_ ?_)) <;> (try simp only [Sq,Sr,Sh,Si,Sl,Bu,Bb,Bd,Bc,Bw,Bn,Int.reduceAdd,Int.reduceSub,Int.reduceMul,Int.reduceTDiv,Int.reduceTMod,Int.reduceMod,Int.reduceDiv,Nat.reduceLT,Nat.reduceEqDiff,Sa,Sb,Sc,Sd,Se,Sf,Sg,Int.reduceLE,Int.reduceLT,Int.reduceToNat,Int.reduceNeg,Int.reduceEq,Nat.reduceLeDiff,Nat.reducePow,Int.reducePow,reduceIte,Nat.reduceSub,Nat.reduceAdd,Nat.reduceMul,putAt,ceq,List.replicate, *]))
    all_goals exact Fin_mk (by (repeat' (first | exact Heap.Le.refl _ | (with_reducible refine Le_set2 ?_) | (refine Le_known (by first | (simp only [Heap.set_same, set_ne, ne_eq, not_false_eq_true, *] <;> rfl) | fail) ?_) | (refine Le_fresh (by first | (simp only [*] <;> done) | (simp [set_none', Heap.set_same, set_ne, noneH, *] <;> done) | fail) ?_) | (refine Heap.Le.trans ?_ (Grow.le (by assumption))) | exact Le_none | (refine Le_put ?_ (by first | (simp only [Heap.set_same, set_ne, ne_eq, not_false_eq_true, *] <;> rfl) | fail)) | fail))) h
  | empty hr h0 =>
    rw [decide_eq_true hr] at cC
    have cT := no fun ⟨y, hy, _⟩ => by have := (List.getElem?_eq_some_iff.1 hy).1; omega
    clear hr hx h0 no yes
    unfold Im.v at cC cT ⊢
    refine HL.hc k16 999 ?_; unfold M16
    (all_goals (try simp only [Sq,Sr,Sh,Si,Sl,Bu,Bb,Bd,Bc,Bw,Bn,Int.reduceAdd,Int.reduceSub,Int.reduceMul,Int.reduceTDiv,Int.reduceTMod,Int.reduceMod,Int.reduceDiv,Nat.reduceLT,Nat.reduceEqDiff,Sa,Sb,Sc,Sd,Se,Sf,Sg,Int.reduceLE,Int.reduceLT,Int.reduceToNat,Int.reduceNeg,Int.reduceEq,Nat.reduceLeDiff,Nat.reducePow,Int.reducePow,reduceIte,Nat.reduceSub,Nat.reduceAdd,Nat.reduceMul,putAt,ceq,List.replicate, *])); repeat' ((first | (with_reducible refine fun _ : True => ?_) | refine cC _ _ (by (repeat' (first | exact Grow.refl _ | assumption | (refine Grow_known (by first | (simp only [Heap.set_same, set_ne, ne_eq, not_false_eq_true, *] <;> rfl) | fail) ?_) | (refine Grow.set ?_ (by assumption) (by first | (simp only [*] <;> done) | (simp [set_none', Heap.set_same, set_ne, noneH, *] <;> done) | fail)) | (refine Grow.trans ?_ (by assumption))))) ?_ | refine cT _ _ (by (repeat' (first | exact Grow.refl _ | assumption | (refine Grow_known (by first | (simp only [Heap.set_same, set_ne, ne_eq, not_false_eq_true, *] <;> rfl) | fail) ?_) | (refine Grow.set ?_ (by assumption) (by first | (simp only [*] <;> done) | (simp [set_none', Heap.set_same, set_ne, noneH, *] <;> done) | fail)) | (refine Grow.trans ?_ (by assumption))))) ?_ | (with_reducible refine any_h ?_) | ((first | refine AllocQ_i ?_ | refine AllocO_i ?_); intro bk hb0 hbk; (try simp only [set_none'] at hbk)) | ((first | refine condS_i ?_ ?_ | refine pick_i ?_ ?_ | refine gS_it ?_ ?_ | refine gS_if ?_ ?_ | refine gP_it ?_ ?_ | refine gP_if ?_ ?_) <;> (intro hc; try simp only [Int.reduceLE,Int.reduceLT,Int.reduceEq,Sn] at hc)) | (with_reducible refine And.intro ?_ ?_)) <;> (try simp only [Sq,Sr,Sh,Si,Sl,Bu,Bb,Bd,Bc,Bw,Bn,Int.reduceAdd,Int.reduceSub,Int.reduceMul,Int.reduceTDiv,Int.reduceTMod,Int.reduceMod,Int.reduceDiv,Nat.reduceLT,Nat.reduceEqDiff,Sa,Sb,Sc,Sd,Se,Sf,Sg,Int.reduceLE,Int.reduceLT,Int.reduceToNat,Int.reduceNeg,Int.reduceEq,Nat.reduceLeDiff,Nat.reducePow,Int.reducePow,reduceIte,Nat.reduceSub,Nat.reduceAdd,Nat.reduceMul,putAt,ceq,List.replicate, *]))
    all_goals exact Fin_mk (by (repeat' (first | exact Heap.Le.refl _ | (with_reducible refine Le_set2 ?_) | (refine Le_known (by first | (simp only [Heap.set_same, set_ne, ne_eq, not_false_eq_true, *] <;> rfl) | fail) ?_) | (refine Le_fresh (by first | (simp only [*] <;> done) | (simp [set_none', Heap.set_same, set_ne, noneH, *] <;> done) | fail) ?_) | (refine Heap.Le.trans ?_ (Grow.le (by assumption))) | exact Le_none | (refine Le_put ?_ (by first | (simp only [Heap.set_same, set_ne, ne_eq, not_false_eq_true, *] <;> rfl) | fail)) | fail))) h
  | none z hr ez hn =>
    rw [decide_eq_true hr] at cC
    have cT := no fun ⟨y, hy, hyn⟩ => by rw [ez] at hy; cases hy; exact hyn hn
    clear hr hx hn ez no yes
    unfold Im.v at cC cT ⊢
    refine HL.hc k16 999 ?_; unfold M16
    (all_goals (try simp only [Sq,Sr,Sh,Si,Sl,Bu,Bb,Bd,Bc,Bw,Bn,Int.reduceAdd,Int.reduceSub,Int.reduceMul,Int.reduceTDiv,Int.reduceTMod,Int.reduceMod,Int.reduceDiv,Nat.reduceLT,Nat.reduceEqDiff,Sa,Sb,Sc,Sd,Se,Sf,Sg,Int.reduceLE,Int.reduceLT,Int.reduceToNat,Int.reduceNeg,Int.reduceEq,Nat.reduceLeDiff,Nat.reducePow,Int.reducePow,reduceIte,Nat.reduceSub,Nat.reduceAdd,Nat.reduceMul,putAt,ceq,List.replicate, *])); repeat' ((first | (with_reducible refine fun _ : True => ?_) | refine cC _ _ (by (repeat' (first | exact Grow.refl _ | assumption | (refine Grow_known (by first | (simp only [Heap.set_same, set_ne, ne_eq, not_false_eq_true, *] <;> rfl) | fail) ?_) | (refine Grow.set ?_ (by assumption) (by first | (simp only [*] <;> done) | (simp [set_none', Heap.set_same, set_ne, noneH, *] <;> done) | fail)) | (refine Grow.trans ?_ (by assumption))))) ?_ | refine cT _ _ (by (repeat' (first | exact Grow.refl _ | assumption | (refine Grow_known (by first | (simp only [Heap.set_same, set_ne, ne_eq, not_false_eq_true, *] <;> rfl) | fail) ?_) | (refine Grow.set ?_ (by assumption) (by first | (simp only [*] <;> done) | (simp [set_none', Heap.set_same, set_ne, noneH, *] <;> done) | fail)) | (refine Grow.trans ?_ (by assumption))))) ?_ | (with_reducible refine any_h ?_) | ((first | refine AllocQ_i ?_ | refine AllocO_i ?_); intro bk hb0 hbk; (try simp only [set_none'] at hbk)) | ((first | refine condS_i ?_ ?_ | refine pick_i ?_ ?_ | refine gS_it ?_ ?_ | refine gS_if ?_ ?_ | refine gP_it ?_ ?_ | refine gP_if ?_ ?_) <;> (intro hc; try simp only [Int.reduceLE,Int.reduceLT,Int.reduceEq,Sn] at hc)) | (with_reducible refine And.intro ?_ ?_)) <;> (try simp only [Sq,Sr,Sh,Si,Sl,Bu,Bb,Bd,Bc,Bw,Bn,Int.reduceAdd,Int.reduceSub,Int.reduceMul,Int.reduceTDiv,Int.reduceTMod,Int.reduceMod,Int.reduceDiv,Nat.reduceLT,Nat.reduceEqDiff,Sa,Sb,Sc,Sd,Se,Sf,Sg,Int.reduceLE,Int.reduceLT,Int.reduceToNat,Int.reduceNeg,Int.reduceEq,Nat.reduceLeDiff,Nat.reducePow,Int.reducePow,reduceIte,Nat.reduceSub,Nat.reduceAdd,Nat.reduceMul,putAt,ceq,List.replicate, *]))
    all_goals exact Fin_mk (by (repeat' (first | exact Heap.Le.refl _ | (with_reducible refine Le_set2 ?_) | (refine Le_known (by first | (simp only [Heap.set_same, set_ne, ne_eq, not_false_eq_true, *] <;> rfl) | fail) ?_) | (refine Le_fresh (by first | (simp only [*] <;> done) | (simp [set_none', Heap.set_same, set_ne, noneH, *] <;> done) | fail) ?_) | (refine Heap.Le.trans ?_ (Grow.le (by assumption))) | exact Le_none | (refine Le_put ?_ (by first | (simp only [Heap.set_same, set_ne, ne_eq, not_false_eq_true, *] <;> rfl) | fail)) | fail))) h
  | arg z hr ez hn hpw =>
    rw [decide_eq_true hr] at cC
    have cT := yes ⟨z, ez, hn⟩
    have hp := (List.getElem?_eq_some_iff.1 ez).1
    have e1 : (0 : Int) < (x.ls.length : Int) := by omega
    obtain ⟨b, o, ea, hrd, hf⟩ := first_at hx ez
    obtain ⟨r0, -⟩ := rd1_of_rdn (i := 0) hrd (by decide)
    obtain ⟨r1, -⟩ := rd1_of_rdn (i := 1) hrd (by decide)
    simp only [Nat.add_zero, List.getElem?_cons_zero, List.getElem?_cons_succ] at r0 r1
    obtain ⟨s1, s2, -⟩ := first_side hr ez hn
    by_cases pw : powP z.w
    · have ph : ¬ powP z.h := fun q => hpw ⟨pw, q⟩
      have c1 : ∀ (G : Heap) (K : Value → Heap → Prop), K (.bool true) G → HCalls Try.prog w0 44 [.int .i64 z.w] G K := fun G K hk => r_power _ s1 (fun _ => hk) (fun q => (q pw).elim)
      have c2 : ∀ (G : Heap) (K : Value → Heap → Prop), K (.bool false) G → HCalls Try.prog w0 44 [.int .i64 z.h] G K := fun G K hk => r_power _ s2 (fun q => (ph q).elim) (fun _ => hk)
      clear hr hx hn ez hp hpw pw ph s1 s2 no yes hrd
      unfold Im.v at cC cT ⊢
      rw [ea] at cC cT ⊢
      refine HL.hc k16 999 ?_; unfold M16
      (all_goals (try simp only [Sq,Sr,Sh,Si,Sl,Bu,Bb,Bd,Bc,Bw,Bn,Int.reduceAdd,Int.reduceSub,Int.reduceMul,Int.reduceTDiv,Int.reduceTMod,Int.reduceMod,Int.reduceDiv,Nat.reduceLT,Nat.reduceEqDiff,Sa,Sb,Sc,Sd,Se,Sf,Sg,Int.reduceLE,Int.reduceLT,Int.reduceToNat,Int.reduceNeg,Int.reduceEq,Nat.reduceLeDiff,Nat.reducePow,Int.reducePow,reduceIte,Nat.reduceSub,Nat.reduceAdd,Nat.reduceMul,putAt,ceq,List.replicate, *])); repeat' ((first | (with_reducible refine fun _ : True => ?_) | refine cC _ _ (by (repeat' (first | exact Grow.refl _ | assumption | (refine Grow_known (by first | (simp only [Heap.set_same, set_ne, ne_eq, not_false_eq_true, *] <;> rfl) | fail) ?_) | (refine Grow.set ?_ (by assumption) (by first | (simp only [*] <;> done) | (simp [set_none', Heap.set_same, set_ne, noneH, *] <;> done) | fail)) | (refine Grow.trans ?_ (by assumption))))) ?_ | refine cT _ _ (by (repeat' (first | exact Grow.refl _ | assumption | (refine Grow_known (by first | (simp only [Heap.set_same, set_ne, ne_eq, not_false_eq_true, *] <;> rfl) | fail) ?_) | (refine Grow.set ?_ (by assumption) (by first | (simp only [*] <;> done) | (simp [set_none', Heap.set_same, set_ne, noneH, *] <;> done) | fail)) | (refine Grow.trans ?_ (by assumption))))) ?_ | refine c1 _ _ ?_ | refine c2 _ _ ?_ | (with_reducible refine any_h ?_) | ((first | refine AllocQ_i ?_ | refine AllocO_i ?_); intro bk hb0 hbk; (try simp only [set_none'] at hbk)) | ((first | refine condS_i ?_ ?_ | refine pick_i ?_ ?_ | refine gS_it ?_ ?_ | refine gS_if ?_ ?_ | refine gP_it ?_ ?_ | refine gP_if ?_ ?_) <;> (intro hc; try simp only [Int.reduceLE,Int.reduceLT,Int.reduceEq,Sn] at hc)) | (with_reducible refine And.intro ?_ ?_)) <;> (try simp only [Sq,Sr,Sh,Si,Sl,Bu,Bb,Bd,Bc,Bw,Bn,Int.reduceAdd,Int.reduceSub,Int.reduceMul,Int.reduceTDiv,Int.reduceTMod,Int.reduceMod,Int.reduceDiv,Nat.reduceLT,Nat.reduceEqDiff,Sa,Sb,Sc,Sd,Se,Sf,Sg,Int.reduceLE,Int.reduceLT,Int.reduceToNat,Int.reduceNeg,Int.reduceEq,Nat.reduceLeDiff,Nat.reducePow,Int.reducePow,reduceIte,Nat.reduceSub,Nat.reduceAdd,Nat.reduceMul,putAt,ceq,List.replicate, *]))
      all_goals exact Fin_mk (by (repeat' (first | exact Heap.Le.refl _ | (with_reducible refine Le_set2 ?_) | (refine Le_known (by first | (simp only [Heap.set_same, set_ne, ne_eq, not_false_eq_true, *] <;> rfl) | fail) ?_) | (refine Le_fresh (by first | (simp only [*] <;> done) | (simp [set_none', Heap.set_same, set_ne, noneH, *] <;> done) | fail) ?_) | (refine Heap.Le.trans ?_ (Grow.le (by assumption))) | exact Le_none | (refine Le_put ?_ (by first | (simp only [Heap.set_same, set_ne, ne_eq, not_false_eq_true, *] <;> rfl) | fail)) | fail))) h
    · have c1 : ∀ (G : Heap) (K : Value → Heap → Prop), K (.bool false) G → HCalls Try.prog w0 44 [.int .i64 z.w] G K := fun G K hk => r_power _ s1 (fun q => (pw q).elim) (fun _ => hk)
      clear hr hx hn ez hp hpw pw s1 s2 no yes hrd
      unfold Im.v at cC cT ⊢
      rw [ea] at cC cT ⊢
      refine HL.hc k16 999 ?_; unfold M16
      (all_goals (try simp only [Sq,Sr,Sh,Si,Sl,Bu,Bb,Bd,Bc,Bw,Bn,Int.reduceAdd,Int.reduceSub,Int.reduceMul,Int.reduceTDiv,Int.reduceTMod,Int.reduceMod,Int.reduceDiv,Nat.reduceLT,Nat.reduceEqDiff,Sa,Sb,Sc,Sd,Se,Sf,Sg,Int.reduceLE,Int.reduceLT,Int.reduceToNat,Int.reduceNeg,Int.reduceEq,Nat.reduceLeDiff,Nat.reducePow,Int.reducePow,reduceIte,Nat.reduceSub,Nat.reduceAdd,Nat.reduceMul,putAt,ceq,List.replicate, *])); repeat' ((first | (with_reducible refine fun _ : True => ?_) | refine cC _ _ (by (repeat' (first | exact Grow.refl _ | assumption | (refine Grow_known (by first | (simp only [Heap.set_same, set_ne, ne_eq, not_false_eq_true, *] <;> rfl) | fail) ?_) | (refine Grow.set ?_ (by assumption) (by first | (simp only [*] <;> done) | (simp [set_none', Heap.set_same, set_ne, noneH, *] <;> done) | fail)) | (refine Grow.trans ?_ (by assumption))))) ?_ | refine cT _ _ (by (repeat' (first | exact Grow.refl _ | assumption | (refine Grow_known (by first | (simp only [Heap.set_same, set_ne, ne_eq, not_false_eq_true, *] <;> rfl) | fail) ?_) | (refine Grow.set ?_ (by assumption) (by first | (simp only [*] <;> done) | (simp [set_none', Heap.set_same, set_ne, noneH, *] <;> done) | fail)) | (refine Grow.trans ?_ (by assumption))))) ?_ | refine c1 _ _ ?_ | (with_reducible refine any_h ?_) | ((first | refine AllocQ_i ?_ | refine AllocO_i ?_); intro bk hb0 hbk; (try simp only [set_none'] at hbk)) | ((first | refine condS_i ?_ ?_ | refine pick_i ?_ ?_ | refine gS_it ?_ ?_ | refine gS_if ?_ ?_ | refine gP_it ?_ ?_ | refine gP_if ?_ ?_) <;> (intro hc; try simp only [Int.reduceLE,Int.reduceLT,Int.reduceEq,Sn] at hc)) | (with_reducible refine And.intro ?_ ?_)) <;> (try simp only [Sq,Sr,Sh,Si,Sl,Bu,Bb,Bd,Bc,Bw,Bn,Int.reduceAdd,Int.reduceSub,Int.reduceMul,Int.reduceTDiv,Int.reduceTMod,Int.reduceMod,Int.reduceDiv,Nat.reduceLT,Nat.reduceEqDiff,Sa,Sb,Sc,Sd,Se,Sf,Sg,Int.reduceLE,Int.reduceLT,Int.reduceToNat,Int.reduceNeg,Int.reduceEq,Nat.reduceLeDiff,Nat.reducePow,Int.reducePow,reduceIte,Nat.reduceSub,Nat.reduceAdd,Nat.reduceMul,putAt,ceq,List.replicate, *]))
      all_goals exact Fin_mk (by (repeat' (first | exact Heap.Le.refl _ | (with_reducible refine Le_set2 ?_) | (refine Le_known (by first | (simp only [Heap.set_same, set_ne, ne_eq, not_false_eq_true, *] <;> rfl) | fail) ?_) | (refine Le_fresh (by first | (simp only [*] <;> done) | (simp [set_none', Heap.set_same, set_ne, noneH, *] <;> done) | fail) ?_) | (refine Heap.Le.trans ?_ (Grow.le (by assumption))) | exact Le_none | (refine Le_put ?_ (by first | (simp only [Heap.set_same, set_ne, ne_eq, not_false_eq_true, *] <;> rfl) | fail)) | fail))) h
end Go.Proofs.Ytdaipgnhconfnaa
