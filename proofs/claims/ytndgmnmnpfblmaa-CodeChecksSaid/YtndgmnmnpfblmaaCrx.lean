/- Which places of a code can be come to, by the document (layer 16). -/
import Derived.Test.YtndgmnmnpfblmaaCra
import Derived.Test.YtndgmnmnpfblmaaHlu
set_option linter.unusedSimpArgs false
set_option linter.unusedVariables false
set_option maxRecDepth 100000
set_option maxHeartbeats 4000000
namespace Go.Proofs.Ytndgmnmnpfblmaa
open Go.HL Go.RowKit Pb
variable {w0 : World} {H G : Heap} {K : Value → Heap → Prop}

/- paintboxref16 Reach -/
def M45 : MC :=
  .seq (.reg [⟨(some 1), .box 34 (.tmp 0), none⟩,
 ⟨(some 2), .mv (.const (.slice none 0 0)), none⟩])
 (.seq (.reg [⟨(some 7), .fa 1 (.tmp 1), none⟩,
 ⟨(some 8), .ld1 (.tmp 7), none⟩,
 ⟨(some 9), .len (.tmp 8), none⟩,
 ⟨(some 3), .mv (.tmp 9), none⟩])
 (.seq (.reg [⟨(some 10), .mv (.tmp 3), none⟩,
 ⟨(some 11), .bin .add (.tmp 10) (.const (.int .i64 1)), none⟩,
 ⟨(some 12), .mks 4 1 [(.bool false)] (.tmp 11) (.tmp 11), none⟩,
 ⟨(some 4), .mv (.tmp 12), none⟩])
 (.seq (.reg [⟨(some 13), .mv (.tmp 4), none⟩,
 ⟨(some 14), .is 1 (.tmp 13) (.const (.int .i64 0)), none⟩,
 ⟨none, .st1 (.tmp 14) (.const (.bool true)), none⟩])
 (.seq (.seq (.reg [⟨(some 15), .fa 1 (.tmp 1), none⟩,
 ⟨(some 16), .ld1 (.tmp 15), none⟩,
 ⟨(some 17), .len (.tmp 16), none⟩,
 ⟨(some 18), .mv (.const (.int .i64 0)), none⟩])
 (.block 0 (.loop (.seq (.reg [⟨(some 19), .bin .lss (.tmp 18) (.tmp 17), none⟩])
 (.seq (.cond (.tmp 19)
 (.skip)
 (.exit 0))
 (.seq (.block 1 (.seq (.reg [⟨(some 20), .mv (.tmp 18), none⟩,
 ⟨(some 21), .is 16 (.tmp 16) (.tmp 18), none⟩,
 ⟨(some 22), .ldn 16 (.tmp 21), none⟩,
 ⟨(some 6), .alloc 30 [(.int .i64 0), (.int .i64 0), (.int .i64 0), (.int .i64 0), (.int .i64 0), (.int .i64 0), (.int .i64 0), (.int .i64 0), (.int .i32 0), (.int .i32 0), (.int .i32 0), (.int .i32 0), (.int .i64 0), (.int .i64 0), (.int .i64 0), (.int .i64 0)], none⟩,
 ⟨(some 5), .mv (.tmp 20), none⟩,
 ⟨none, .stn 16 (.tmp 6) (.tmp 22), none⟩])
 (.seq (.seq (.reg [⟨(some 23), .mv (.tmp 4), none⟩,
 ⟨(some 24), .mv (.tmp 5), none⟩,
 ⟨(some 25), .is 1 (.tmp 23) (.tmp 24), none⟩,
 ⟨(some 26), .ld1 (.tmp 25), none⟩,
 ⟨(some 27), .un .not (.tmp 26), none⟩])
 (.cond (.tmp 27)
 (.exit 1)
 (.skip)))
 (.seq (.seq (.reg [⟨(some 28), .fa 0 (.tmp 6), none⟩,
 ⟨(some 29), .ld1 (.tmp 28), none⟩,
 ⟨(some 30), .bin .eql (.tmp 29) (.const (.int .i64 10)), none⟩,
 ⟨(some 31), .mv (.tmp 30), none⟩,
 ⟨(some 32), .fa 0 (.tmp 6), (some (31, false))⟩,
 ⟨(some 33), .ld1 (.tmp 32), (some (31, false))⟩,
 ⟨(some 34), .bin .eql (.tmp 33) (.const (.int .i64 11)), (some (31, false))⟩,
 ⟨(some 35), .pick (.tmp 31) (.const (.bool true)) (.tmp 34), none⟩])
 (.cond (.tmp 35)
 (.reg [⟨(some 36), .mv (.tmp 4), none⟩,
 ⟨(some 37), .fa 5 (.tmp 6), none⟩,
 ⟨(some 38), .ld1 (.tmp 37), none⟩,
 ⟨(some 39), .is 1 (.tmp 36) (.tmp 38), none⟩,
 ⟨none, .st1 (.tmp 39) (.const (.bool true)), none⟩])
 (.skip)))
 (.seq (.reg [⟨(some 40), .fa 0 (.tmp 6), none⟩,
 ⟨(some 41), .ld1 (.tmp 40), none⟩,
 ⟨(some 42), .bin .neq (.tmp 41) (.const (.int .i64 10)), none⟩,
 ⟨(some 43), .mv (.tmp 42), none⟩,
 ⟨(some 44), .fa 0 (.tmp 6), (some (43, true))⟩,
 ⟨(some 45), .ld1 (.tmp 44), (some (43, true))⟩,
 ⟨(some 46), .bin .neq (.tmp 45) (.const (.int .i64 12)), (some (43, true))⟩,
 ⟨(some 47), .pick (.tmp 43) (.tmp 46) (.const (.bool false)), none⟩])
 (.cond (.tmp 47)
 (.reg [⟨(some 48), .mv (.tmp 4), none⟩,
 ⟨(some 49), .mv (.tmp 5), none⟩,
 ⟨(some 50), .bin .add (.tmp 49) (.const (.int .i64 1)), none⟩,
 ⟨(some 51), .is 1 (.tmp 48) (.tmp 50), none⟩,
 ⟨none, .st1 (.tmp 51) (.const (.bool true)), none⟩])
 (.skip)))))))
 (.reg [⟨(some 52), .bin .add (.tmp 18) (.const (.int .i64 1)), none⟩,
 ⟨(some 18), .mv (.tmp 52), none⟩])))))))
 (.seq (.reg [⟨(some 53), .mv (.tmp 4), none⟩,
 ⟨(some 2), .mv (.tmp 53), none⟩])
 (.ret))))))
theorem k45 : fnOk Try.prog 45 = some (M45, [.t 2], 54) := by kernel_rfl

theorem r_Reach (c : Cd) (hc : CdAt w0 H c) (hm : mayP c) (hy : ∀ b G, G b = some ⟨.t 4, rB c.is c.is.length⟩ → Grow w0 H G → w0.heap.size ≤ b → H b = none → K (.slice (some ⟨b, 0, none⟩) (c.is.length + 1) (c.is.length + 1)) G) :
    HCalls Try.prog w0 45 [c.v] H K := by
  · have hcl := hc.lc
    have hrow := fun (G : Heap) (g : Grow w0 H G) (k : Nat) (i : Ins) => (hc.grow g).row (k := k) (i := i)
    have hj := fun k i (h : c.is[k]? = some i) => okI_jmp (hm.2.2.2.2.2.2 k i h)
    have hl := hm.2.1
    clear hm hc
    obtain ⟨st, adr, cap, is, rg, ab, un, va⟩ := c
    simp only at hy hrow hj hl ⊢
    unfold Cd.v
    simp only
    have rz := rB_zero is
    have rl := rB_len is
    have rg_ := fun k j => rB_get (is := is) (k := k) (j := j)
    have rno := fun k i => rB_no (is := is) (k := k) (i := i)
    have r10 := fun k i => rB_10 (is := is) (k := k) (i := i)
    have r11 := fun k i => rB_11 (is := is) (k := k) (i := i)
    have r12 := fun k i => rB_12 (is := is) (k := k) (i := i)
    have rel := fun k i => rB_else (is := is) (k := k) (i := i)
    have hget : ∀ k, k < is.length → ∃ i, is[k]? = some i := fun k hk => ⟨_, List.getElem?_eq_getElem hk⟩
    generalize rB is = B at hy rz rl rg_ rno r10 r11 r12 rel
    obtain ⟨n, en⟩ : ∃ n, is.length = n := ⟨_, rfl⟩
    simp only [en] at hy hj hl rz rl rg_ hget ⊢
    have e2 : IntKind.i64.wrap ((n : Int) + 1) = (n : Int) + 1 := Bw.1 _ (by omega) (by omega)
    have e3 : ((n : Int) + 1).toNat = n + 1 := by omega
    have e4 : (0 : Int) ≤ (n : Int) + 1 := by omega
    have e5 : (0 : Int) < (n : Int) + 1 := by omega
    have e6 : 0 < n + 1 := by omega
    have e7 : (0 : Int) < ((n + 1 : Nat) : Int) := by omega
    clear en
    replace hrow : Keep _ := hrow
    replace hj : Keep _ := hj
    replace hy : Keep _ := hy
    replace rl : Keep _ := rl
    replace rg_ : Keep _ := rg_
    replace rno : Keep _ := rno
    replace r10 : Keep _ := r10
    replace r11 : Keep _ := r11
    replace r12 : Keep _ := r12
    replace rel : Keep _ := rel
    replace hget : Keep _ := hget
    have z1 := zeroL_len (z := [Value.bool false]) (n + 1)
    refine HL.hc k45 999 ?_; unfold M45
    (all_goals (try simp only [Sq,Sr,Sh,Si,Sl,Bu,Bb,Bd,Bc,Bw,Bn,Int.reduceAdd,Int.reduceSub,Int.reduceMul,Int.reduceTDiv,Int.reduceTMod,Int.reduceMod,Int.reduceDiv,Nat.reduceLT,Nat.reduceEqDiff,Sa,Sb,Sc,Sd,Se,Sf,Sg,Int.reduceLE,Int.reduceLT,Int.reduceToNat,Int.reduceNeg,Int.reduceEq,Nat.reduceLeDiff,Nat.reducePow,Int.reducePow,reduceIte,Nat.reduceSub,Nat.reduceAdd,Nat.reduceMul,putAt,ceq,List.replicate, *])); repeat' ((first | (with_reducible refine fun _ : True => ?_) | refine mks_i (by omega) (by omega) (by omega) (by omega) ?_ | (with_reducible refine any_h ?_) | ((first | refine AllocQ_i ?_ | refine AllocO_i ?_); intro bk hb0 hbk; (try simp only [set_none'] at hbk)) | ((first | refine condS_i ?_ ?_ | refine pick_i ?_ ?_ | refine gS_it ?_ ?_ | refine gS_if ?_ ?_ | refine gP_it ?_ ?_ | refine gP_if ?_ ?_) <;> (intro hc; try simp only [Int.reduceLE,Int.reduceLT,Int.reduceEq,Sn] at hc)) | (with_reducible refine And.intro ?_ ?_)) <;> (try simp only [Sq,Sr,Sh,Si,Sl,Bu,Bb,Bd,Bc,Bw,Bn,Int.reduceAdd,Int.reduceSub,Int.reduceMul,Int.reduceTDiv,Int.reduceTMod,Int.reduceMod,Int.reduceDiv,Nat.reduceLT,Nat.reduceEqDiff,Sa,Sb,Sc,Sd,Se,Sf,Sg,Int.reduceLE,Int.reduceLT,Int.reduceToNat,Int.reduceNeg,Int.reduceEq,Nat.reduceLeDiff,Nat.reducePow,Int.reducePow,reduceIte,Nat.reduceSub,Nat.reduceAdd,Nat.reduceMul,putAt,ceq,List.replicate, *]))
    refine loopq_heap1 ?_
    intro H0 eH
    have g0 : Grow w0 H H0 := by rw [eH]; exact (by (repeat' (first | exact Grow.refl _ | assumption | (refine Grow_known (by first | (simp only [Heap.set_same, set_ne, ne_eq, not_false_eq_true, *] <;> rfl) | fail) ?_) | (refine Grow.set ?_ (by assumption) (by first | (simp only [*] <;> done) | (simp [set_none', Heap.set_same, set_ne, noneH, *] <;> done) | fail)) | (refine Grow.trans ?_ (by assumption)))))
    have n0 : H0 bk = none := by rw [eH]; exact set_none'.2 hbk
    clear eH hbk z1 rz
    refine loop_g 19 (fun s : Nat × Value × Value => [(5, s.2.1), (6, s.2.2), (18, .int .i64 (s.1 : Nat))]) (fun s => H0.set bk ⟨.t 4, B s.1⟩) (fun s => s.1 ≤ n) (fun s => n - s.1) (0, undef, undef) (Nat.zero_le _) (Heap.Le.refl _) rfl ?_
    intro ⟨k, v4, v5⟩ g hk
    simp only at hk
    by_cases hlt : k < n
    · obtain ⟨i, ei⟩ := kpt hget k hlt
      obtain ⟨b, o, rfl, hr, hf⟩ := kpt hrow H0 g0 k i ei
      have hj := kpt hj k i ei
      have rl := kpt rl k
      obtain ⟨u, hu, hB⟩ := kpt rg_ k k (by omega)
      have rno := kpt rno k i ei
      have r10 := kpt r10 k i ei
      have r11 := kpt r11 k i ei
      have r12 := kpt r12 k i ei
      have rel := kpt rel k i ei
      unfold Ins.row at hr
      have t0 : (k : Int) < n := by omega
      have t6 : IntKind.i64.wrap ((k : Int) + 1) = ((k + 1 : Nat) : Int) := by rw [Bw.1 _ (by omega) (by omega)]; omega
      have t7 : (k : Int) < ((n + 1 : Nat) : Int) := by omega
      have t8 : k < n + 1 := by omega
      have t9 : ((k + 1 : Nat) : Int) < ((n + 1 : Nat) : Int) := by omega
      have t10 : k + 1 < n + 1 := by omega
      generalize B k = D at rl hB rno r10 r11 r12 rel ⊢
      clear hget hrow
      cases u
      · have eC := rno hu
        clear hj rno r10 r11 r12 rel hu
        (all_goals (try simp only [Sq,Sr,Sh,Si,Sl,Bu,Bb,Bd,Bc,Bw,Bn,Int.reduceAdd,Int.reduceSub,Int.reduceMul,Int.reduceTDiv,Int.reduceTMod,Int.reduceMod,Int.reduceDiv,Nat.reduceLT,Nat.reduceEqDiff,Sa,Sb,Sc,Sd,Se,Sf,Sg,Int.reduceLE,Int.reduceLT,Int.reduceToNat,Int.reduceNeg,Int.reduceEq,Nat.reduceLeDiff,Nat.reducePow,Int.reducePow,reduceIte,Nat.reduceSub,Nat.reduceAdd,Nat.reduceMul,putAt,ceq,List.replicate, *])); repeat' ((first | (with_reducible refine fun _ : True => ?_) | (with_reducible refine any_h ?_) | ((first | refine AllocQ_i ?_ | refine AllocO_i ?_); intro bk hb0 hbk; (try simp only [set_none'] at hbk)) | ((first | refine condS_i ?_ ?_ | refine pick_i ?_ ?_ | refine gS_it ?_ ?_ | refine gS_if ?_ ?_ | refine gP_it ?_ ?_ | refine gP_if ?_ ?_) <;> (intro hc; try simp only [Int.reduceLE,Int.reduceLT,Int.reduceEq,Sn] at hc)) | (with_reducible refine And.intro ?_ ?_)) <;> (try simp only [Sq,Sr,Sh,Si,Sl,Bu,Bb,Bd,Bc,Bw,Bn,Int.reduceAdd,Int.reduceSub,Int.reduceMul,Int.reduceTDiv,Int.reduceTMod,Int.reduceMod,Int.reduceDiv,Nat.reduceLT,Nat.reduceEqDiff,Sa,Sb,Sc,Sd,Se,Sf,Sg,Int.reduceLE,Int.reduceLT,Int.reduceToNat,Int.reduceNeg,Int.reduceEq,Nat.reduceLeDiff,Nat.reducePow,Int.reducePow,reduceIte,Nat.reduceSub,Nat.reduceAdd,Nat.reduceMul,putAt,ceq,List.replicate, *]))
        all_goals exact Round_mk (k + 1, _, _) hlt (Nat.sub_succ_lt_self n k hlt) (by simp only [eC]; exact (by (repeat' (first | exact Heap.Le.refl _ | (with_reducible refine Le_set2 ?_) | (refine Le_known (by first | (simp only [Heap.set_same, set_ne, ne_eq, not_false_eq_true, *] <;> rfl) | fail) ?_) | (refine Le_fresh (by first | (simp only [*] <;> done) | (simp [set_none', Heap.set_same, set_ne, noneH, *] <;> done) | fail) ?_) | (refine Heap.Le.trans ?_ (Grow.le (by assumption))) | exact Le_none | (refine Le_put ?_ (by first | (simp only [Heap.set_same, set_ne, ne_eq, not_false_eq_true, *] <;> rfl) | fail)) | fail)))) rfl rfl
      · by_cases o1 : i.op = 10
        · have eC := r10 hu o1
          have hj := hj (.inl o1)
          obtain ⟨A, eA⟩ : ∃ A : Nat, i.a = A := ⟨i.a.toNat, by omega⟩
          have a1 : (A : Int) < ((n + 1 : Nat) : Int) := by omega
          have a2 : A < n + 1 := by omega
          rw [eA, Int.toNat_natCast] at eC
          clear hj rno r10 r11 r12 rel hu
          (all_goals (try simp only [Sq,Sr,Sh,Si,Sl,Bu,Bb,Bd,Bc,Bw,Bn,Int.reduceAdd,Int.reduceSub,Int.reduceMul,Int.reduceTDiv,Int.reduceTMod,Int.reduceMod,Int.reduceDiv,Nat.reduceLT,Nat.reduceEqDiff,Sa,Sb,Sc,Sd,Se,Sf,Sg,Int.reduceLE,Int.reduceLT,Int.reduceToNat,Int.reduceNeg,Int.reduceEq,Nat.reduceLeDiff,Nat.reducePow,Int.reducePow,reduceIte,Nat.reduceSub,Nat.reduceAdd,Nat.reduceMul,putAt,ceq,List.replicate, *])); repeat' ((first | (with_reducible refine fun _ : True => ?_) | (with_reducible refine any_h ?_) | ((first | refine AllocQ_i ?_ | refine AllocO_i ?_); intro bk hb0 hbk; (try simp only [set_none'] at hbk)) | ((first | refine condS_i ?_ ?_ | refine pick_i ?_ ?_ | refine gS_it ?_ ?_ | refine gS_if ?_ ?_ | refine gP_it ?_ ?_ | refine gP_if ?_ ?_) <;> (intro hc; try simp only [Int.reduceLE,Int.reduceLT,Int.reduceEq,Sn] at hc)) | (with_reducible refine And.intro ?_ ?_)) <;> (try simp only [Sq,Sr,Sh,Si,Sl,Bu,Bb,Bd,Bc,Bw,Bn,Int.reduceAdd,Int.reduceSub,Int.reduceMul,Int.reduceTDiv,Int.reduceTMod,Int.reduceMod,Int.reduceDiv,Nat.reduceLT,Nat.reduceEqDiff,Sa,Sb,Sc,Sd,Se,Sf,Sg,Int.reduceLE,Int.reduceLT,Int.reduceToNat,Int.reduceNeg,Int.reduceEq,Nat.reduceLeDiff,Nat.reducePow,Int.reducePow,reduceIte,Nat.reduceSub,Nat.reduceAdd,Nat.reduceMul,putAt,ceq,List.replicate, *]))
          all_goals exact Round_mk (k + 1, _, _) hlt (Nat.sub_succ_lt_self n k hlt) (by simp only [eC]; exact (by (repeat' (first | exact Heap.Le.refl _ | (with_reducible refine Le_set2 ?_) | (refine Le_known (by first | (simp only [Heap.set_same, set_ne, ne_eq, not_false_eq_true, *] <;> rfl) | fail) ?_) | (refine Le_fresh (by first | (simp only [*] <;> done) | (simp [set_none', Heap.set_same, set_ne, noneH, *] <;> done) | fail) ?_) | (refine Heap.Le.trans ?_ (Grow.le (by assumption))) | exact Le_none | (refine Le_put ?_ (by first | (simp only [Heap.set_same, set_ne, ne_eq, not_false_eq_true, *] <;> rfl) | fail)) | fail)))) rfl rfl
        · by_cases o2 : i.op = 11
          · have eC := r11 hu o2
            have hj := hj (.inr o2)
            obtain ⟨A, eA⟩ : ∃ A : Nat, i.a = A := ⟨i.a.toNat, by omega⟩
            have a1 : (A : Int) < ((n + 1 : Nat) : Int) := by omega
            have a2 : A < n + 1 := by omega
            rw [eA, Int.toNat_natCast] at eC
            clear hj rno r10 r11 r12 rel hu
            (all_goals (try simp only [Sq,Sr,Sh,Si,Sl,Bu,Bb,Bd,Bc,Bw,Bn,Int.reduceAdd,Int.reduceSub,Int.reduceMul,Int.reduceTDiv,Int.reduceTMod,Int.reduceMod,Int.reduceDiv,Nat.reduceLT,Nat.reduceEqDiff,Sa,Sb,Sc,Sd,Se,Sf,Sg,Int.reduceLE,Int.reduceLT,Int.reduceToNat,Int.reduceNeg,Int.reduceEq,Nat.reduceLeDiff,Nat.reducePow,Int.reducePow,reduceIte,Nat.reduceSub,Nat.reduceAdd,Nat.reduceMul,putAt,ceq,List.replicate, *])); repeat' ((first | (with_reducible refine fun _ : True => ?_) | (with_reducible refine any_h ?_) | ((first | refine AllocQ_i ?_ | refine AllocO_i ?_); intro bk hb0 hbk; (try simp only [set_none'] at hbk)) | ((first | refine condS_i ?_ ?_ | refine pick_i ?_ ?_ | refine gS_it ?_ ?_ | refine gS_if ?_ ?_ | refine gP_it ?_ ?_ | refine gP_if ?_ ?_) <;> (intro hc; try simp only [Int.reduceLE,Int.reduceLT,Int.reduceEq,Sn] at hc)) | (with_reducible refine And.intro ?_ ?_)) <;> (try simp only [Sq,Sr,Sh,Si,Sl,Bu,Bb,Bd,Bc,Bw,Bn,Int.reduceAdd,Int.reduceSub,Int.reduceMul,Int.reduceTDiv,Int.reduceTMod,Int.reduceMod,Int.reduceDiv,Nat.reduceLT,Nat.reduceEqDiff,Sa,Sb,Sc,Sd,Se,Sf,Sg,Int.reduceLE,Int.reduceLT,Int.reduceToNat,Int.reduceNeg,Int.reduceEq,Nat.reduceLeDiff,Nat.reducePow,Int.reducePow,reduceIte,Nat.reduceSub,Nat.reduceAdd,Nat.reduceMul,putAt,ceq,List.replicate, *]))
            all_goals exact Round_mk (k + 1, _, _) hlt (Nat.sub_succ_lt_self n k hlt) (by simp only [eC]; exact (by (repeat' (first | exact Heap.Le.refl _ | (with_reducible refine Le_set2 ?_) | (refine Le_known (by first | (simp only [Heap.set_same, set_ne, ne_eq, not_false_eq_true, *] <;> rfl) | fail) ?_) | (refine Le_fresh (by first | (simp only [*] <;> done) | (simp [set_none', Heap.set_same, set_ne, noneH, *] <;> done) | fail) ?_) | (refine Heap.Le.trans ?_ (Grow.le (by assumption))) | exact Le_none | (refine Le_put ?_ (by first | (simp only [Heap.set_same, set_ne, ne_eq, not_false_eq_true, *] <;> rfl) | fail)) | fail)))) rfl rfl
          · by_cases o3 : i.op = 12
            · have eC := r12 hu o3
              clear hj rno r10 r11 r12 rel hu
              (all_goals (try simp only [Sq,Sr,Sh,Si,Sl,Bu,Bb,Bd,Bc,Bw,Bn,Int.reduceAdd,Int.reduceSub,Int.reduceMul,Int.reduceTDiv,Int.reduceTMod,Int.reduceMod,Int.reduceDiv,Nat.reduceLT,Nat.reduceEqDiff,Sa,Sb,Sc,Sd,Se,Sf,Sg,Int.reduceLE,Int.reduceLT,Int.reduceToNat,Int.reduceNeg,Int.reduceEq,Nat.reduceLeDiff,Nat.reducePow,Int.reducePow,reduceIte,Nat.reduceSub,Nat.reduceAdd,Nat.reduceMul,putAt,ceq,List.replicate, *])); repeat' ((first | (with_reducible refine fun _ : True => ?_) | (with_reducible refine any_h ?_) | ((first | refine AllocQ_i ?_ | refine AllocO_i ?_); intro bk hb0 hbk; (try simp only [set_none'] at hbk)) | ((first | refine condS_i ?_ ?_ | refine pick_i ?_ ?_ | refine gS_it ?_ ?_ | refine gS_if ?_ ?_ | refine gP_it ?_ ?_ | refine gP_if ?_ ?_) <;> (intro hc; try simp only [Int.reduceLE,Int.reduceLT,Int.reduceEq,Sn] at hc)) | (with_reducible refine And.intro ?_ ?_)) <;> (try simp only [Sq,Sr,Sh,Si,Sl,Bu,Bb,Bd,Bc,Bw,Bn,Int.reduceAdd,Int.reduceSub,Int.reduceMul,Int.reduceTDiv,Int.reduceTMod,Int.reduceMod,Int.reduceDiv,Nat.reduceLT,Nat.reduceEqDiff,Sa,Sb,Sc,Sd,Se,Sf,Sg,Int.reduceLE,Int.reduceLT,Int.reduceToNat,Int.reduceNeg,Int.reduceEq,Nat.reduceLeDiff,Nat.reducePow,Int.reducePow,reduceIte,Nat.reduceSub,Nat.reduceAdd,Nat.reduceMul,putAt,ceq,List.replicate, *]))
              all_goals exact Round_mk (k + 1, _, _) hlt (Nat.sub_succ_lt_self n k hlt) (by simp only [eC]; exact (by (repeat' (first | exact Heap.Le.refl _ | (with_reducible refine Le_set2 ?_) | (refine Le_known (by first | (simp only [Heap.set_same, set_ne, ne_eq, not_false_eq_true, *] <;> rfl) | fail) ?_) | (refine Le_fresh (by first | (simp only [*] <;> done) | (simp [set_none', Heap.set_same, set_ne, noneH, *] <;> done) | fail) ?_) | (refine Heap.Le.trans ?_ (Grow.le (by assumption))) | exact Le_none | (refine Le_put ?_ (by first | (simp only [Heap.set_same, set_ne, ne_eq, not_false_eq_true, *] <;> rfl) | fail)) | fail)))) rfl rfl
            · have eC := rel hu o1 o2 o3
              clear hj rno r10 r11 r12 rel hu
              (all_goals (try simp only [Sq,Sr,Sh,Si,Sl,Bu,Bb,Bd,Bc,Bw,Bn,Int.reduceAdd,Int.reduceSub,Int.reduceMul,Int.reduceTDiv,Int.reduceTMod,Int.reduceMod,Int.reduceDiv,Nat.reduceLT,Nat.reduceEqDiff,Sa,Sb,Sc,Sd,Se,Sf,Sg,Int.reduceLE,Int.reduceLT,Int.reduceToNat,Int.reduceNeg,Int.reduceEq,Nat.reduceLeDiff,Nat.reducePow,Int.reducePow,reduceIte,Nat.reduceSub,Nat.reduceAdd,Nat.reduceMul,putAt,ceq,List.replicate, *])); repeat' ((first | (with_reducible refine fun _ : True => ?_) | (with_reducible refine any_h ?_) | ((first | refine AllocQ_i ?_ | refine AllocO_i ?_); intro bk hb0 hbk; (try simp only [set_none'] at hbk)) | ((first | refine condS_i ?_ ?_ | refine pick_i ?_ ?_ | refine gS_it ?_ ?_ | refine gS_if ?_ ?_ | refine gP_it ?_ ?_ | refine gP_if ?_ ?_) <;> (intro hc; try simp only [Int.reduceLE,Int.reduceLT,Int.reduceEq,Sn] at hc)) | (with_reducible refine And.intro ?_ ?_)) <;> (try simp only [Sq,Sr,Sh,Si,Sl,Bu,Bb,Bd,Bc,Bw,Bn,Int.reduceAdd,Int.reduceSub,Int.reduceMul,Int.reduceTDiv,Int.reduceTMod,Int.reduceMod,Int.reduceDiv,Nat.reduceLT,Nat.reduceEqDiff,Sa,Sb,Sc,Sd,Se,Sf,Sg,Int.reduceLE,Int.reduceLT,Int.reduceToNat,Int.reduceNeg,Int.reduceEq,Nat.reduceLeDiff,Nat.reducePow,Int.reducePow,reduceIte,Nat.reduceSub,Nat.reduceAdd,Nat.reduceMul,putAt,ceq,List.replicate, *]))
              all_goals exact Round_mk (k + 1, _, _) hlt (Nat.sub_succ_lt_self n k hlt) (by simp only [eC]; exact (by (repeat' (first | exact Heap.Le.refl _ | (with_reducible refine Le_set2 ?_) | (refine Le_known (by first | (simp only [Heap.set_same, set_ne, ne_eq, not_false_eq_true, *] <;> rfl) | fail) ?_) | (refine Le_fresh (by first | (simp only [*] <;> done) | (simp [set_none', Heap.set_same, set_ne, noneH, *] <;> done) | fail) ?_) | (refine Heap.Le.trans ?_ (Grow.le (by assumption))) | exact Le_none | (refine Le_put ?_ (by first | (simp only [Heap.set_same, set_ne, ne_eq, not_false_eq_true, *] <;> rfl) | fail)) | fail)))) rfl rfl
    · obtain rfl : k = n := by omega
      have t0 : ¬ ((k : Nat) : Int) < (k : Nat) := by omega
      clear hget hrow hj rl rg_ rno r10 r11 r12 rel
      (all_goals (try simp only [Sq,Sr,Sh,Si,Sl,Bu,Bb,Bd,Bc,Bw,Bn,Int.reduceAdd,Int.reduceSub,Int.reduceMul,Int.reduceTDiv,Int.reduceTMod,Int.reduceMod,Int.reduceDiv,Nat.reduceLT,Nat.reduceEqDiff,Sa,Sb,Sc,Sd,Se,Sf,Sg,Int.reduceLE,Int.reduceLT,Int.reduceToNat,Int.reduceNeg,Int.reduceEq,Nat.reduceLeDiff,Nat.reducePow,Int.reducePow,reduceIte,Nat.reduceSub,Nat.reduceAdd,Nat.reduceMul,putAt,ceq,List.replicate, *])); repeat' ((first | (with_reducible refine fun _ : True => ?_) | (with_reducible refine any_h ?_) | ((first | refine AllocQ_i ?_ | refine AllocO_i ?_); intro bk hb0 hbk; (try simp only [set_none'] at hbk)) | ((first | refine condS_i ?_ ?_ | refine pick_i ?_ ?_ | refine gS_it ?_ ?_ | refine gS_if ?_ ?_ | refine gP_it ?_ ?_ | refine gP_if ?_ ?_) <;> (intro hc; try simp only [Int.reduceLE,Int.reduceLT,Int.reduceEq,Sn] at hc)) | (with_reducible refine And.intro ?_ ?_)) <;> (try simp only [Sq,Sr,Sh,Si,Sl,Bu,Bb,Bd,Bc,Bw,Bn,Int.reduceAdd,Int.reduceSub,Int.reduceMul,Int.reduceTDiv,Int.reduceTMod,Int.reduceMod,Int.reduceDiv,Nat.reduceLT,Nat.reduceEqDiff,Sa,Sb,Sc,Sd,Se,Sf,Sg,Int.reduceLE,Int.reduceLT,Int.reduceToNat,Int.reduceNeg,Int.reduceEq,Nat.reduceLeDiff,Nat.reducePow,Int.reducePow,reduceIte,Nat.reduceSub,Nat.reduceAdd,Nat.reduceMul,putAt,ceq,List.replicate, *]))
      exact Fin_mk (Heap.Le.refl _) (kpt hy bk _ (Heap.set_same _ _ _) (g0.set hb0 (g0.none n0)) hb0 (g0.none n0))
end Go.Proofs.Ytndgmnmnpfblmaa
