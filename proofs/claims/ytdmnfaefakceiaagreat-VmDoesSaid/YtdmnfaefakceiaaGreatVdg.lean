/- The statement VmDoes, as a call (layer 18). -/
import Derived.Test.YtdmnfaefakceiaaGreatVdf
import Derived.Test.YtdmnfaefakceiaaGreatWk18
set_option linter.unusedSimpArgs false
set_option linter.unusedVariables false
set_option maxRecDepth 100000
set_option maxHeartbeats 4000000
namespace Go.Proofs.YtdmnfaefakceiaaGreat
open Go.HL Go.RowKit Pb
variable {w0 : World} {H G : Heap} {K : Value → Heap → Prop}

abbrev LV (g : Nat → Int) : Value := .agg #[.int .i32 (g 0), .int .i32 (g 1), .int .i32 (g 2), .int .i32 (g 3), .int .i32 (g 4), .int .i32 (g 5), .int .i32 (g 6), .int .i32 (g 7), .int .i32 (g 8), .int .i32 (g 9), .int .i32 (g 10), .int .i32 (g 11)]
/- paintboxlaw18 done -/
def M19 : MC :=
  .seq (.reg [oX 2 (.box 54 (.tmp 0)),
 oX 3 (.box 55 (.tmp 1)),
 oX 4 (.mv (.const (.bool false)))])
 (.seq (.reg [oX 8 (.fa 0 (.tmp 2)),
 oX 9 (.ld1 (.tmp 8)),
 oX 10 (.fa 1 (.tmp 2)),
 oX 11 (.ld1 (.tmp 10)),
 oX 12 (.fa 2 (.tmp 2)),
 oX 13 (.ld1 (.tmp 12)),
 oX 14 (.ia 3 4 (.tmp 3) (kX 0)),
 oX 15 (.ldn 4 (.tmp 14)),
 oX 16 (.ia 3 4 (.tmp 3) (kX 1)),
 oX 17 (.ldn 4 (.tmp 16)),
 oX 18 (.ia 3 4 (.tmp 3) (kX 2)),
 oX 19 (.ldn 4 (.tmp 18)),
 oX 20 (.call 28 [(.tmp 9),(.tmp 11),(.tmp 13),(.tmp 15),(.tmp 17),(.tmp 19)]),
 vX 7 20,
 oX 21 (.ext 0 (.tmp 7)),
 oX 22 (.ext 1 (.tmp 7)),
 oX 5 (.alloc 28 [(.int .i32 0),(.int .i32 0),(.int .i32 0),(.int .i32 0)]),
 ⟨none,.stn 4 (.tmp 5) (.tmp 21),none⟩,
 vX 6 22])
 (.seq (.seq (.reg [oX 23 (.fa 0 (.tmp 2)),
 oX 24 (.ld1 (.tmp 23)),
 oX 25 (.fa 1 (.tmp 2)),
 oX 26 (.ld1 (.tmp 25)),
 oX 27 (.call 32 [(.tmp 24),(.tmp 26)]),
 oX 28 (bK .eql 27 0),
 vX 29 28,
 ⟨(some 30),.fa 2 (.tmp 2),(some (29,false))⟩,
 ⟨(some 31),.ld1 (.tmp 30),(some (29,false))⟩,
 ⟨(some 32),bK .lss 31 1,(some (29,false))⟩,
 oX 33 (.pick (.tmp 29) (.const (.bool true)) (.tmp 32)),
 vX 34 33,
 ⟨(some 35),.fa 2 (.tmp 2),(some (34,false))⟩,
 ⟨(some 36),.ld1 (.tmp 35),(some (34,false))⟩,
 ⟨(some 37),bK .gtr 36 4,(some (34,false))⟩,
 oX 38 (.pick (.tmp 34) (.const (.bool true)) (.tmp 37))])
 (.cond (.tmp 38)
 (.seq (.reg [vX 39 6,
 oX 40 (bK .eql 39 2),
 vX 41 40,
 ⟨(some 42),.ldn 4 (.tmp 5),(some (41,true))⟩,
 ⟨(some 43),.build [(.int .i32 0),(.int .i32 0),(.int .i32 0),(.int .i32 0)] [],(some (41,true))⟩,
 ⟨(some 44),.eqa false 4 (.tmp 42) (.tmp 43),(some (41,true))⟩,
 oX 45 (.pick (.tmp 41) (.tmp 44) (.const (.bool false))),
 vX 4 45])
 (.ret))
 (.skip)))
 (.seq (.any [(false,0,[3,4,5,6,7,8,9,10,11,12,13],vX 46 6),
 (false,1,[3,4,5,6,7,8,9,10,11,12,13],oX 47 (bK .eql 46 0)),
 (false,2,[3,4,5,6,7,8,9,10,11,12,13],vX 48 47),
 (true,3,[],⟨(some 49),.ldn 4 (.tmp 5),(some (48,true))⟩),
 (true,4,[],⟨(some 50),.fa 0 (.tmp 2),(some (48,true))⟩),
 (true,5,[],⟨(some 51),.ld1 (.tmp 50),(some (48,true))⟩),
 (true,6,[],⟨(some 52),.fa 1 (.tmp 2),(some (48,true))⟩),
 (true,7,[],⟨(some 53),.ld1 (.tmp 52),(some (48,true))⟩),
 (true,8,[],⟨(some 54),.fa 2 (.tmp 2),(some (48,true))⟩),
 (true,9,[],⟨(some 55),.ld1 (.tmp 54),(some (48,true))⟩),
 (true,10,[],⟨(some 56),.ia 3 4 (.tmp 3) (kX 0),(some (48,true))⟩),
 (true,11,[],⟨(some 57),.ldn 4 (.tmp 56),(some (48,true))⟩),
 (true,12,[],⟨(some 58),.ia 3 4 (.tmp 3) (kX 1),(some (48,true))⟩),
 (true,13,[],⟨(some 59),.ldn 4 (.tmp 58),(some (48,true))⟩),
 (false,14,[3,4,5,6,7,8,9,10,11,12,13],⟨(some 60),.ia 3 4 (.tmp 3) (kX 2),(some (48,true))⟩),
 (false,15,[3,4,5,6,7,8,9,10,11,12,13],⟨(some 61),.ldn 4 (.tmp 60),(some (48,true))⟩),
 (false,16,[3],⟨(some 62),.call 33 [(.tmp 51),(.tmp 53),(.tmp 55),(.tmp 57),(.tmp 59),(.tmp 61)],(some (48,true))⟩),
 (false,17,[],⟨(some 63),.eqa false 4 (.tmp 49) (.tmp 62),(some (48,true))⟩),
 (false,18,[],oX 64 (.pick (.tmp 48) (.tmp 63) (.const (.bool false)))),
 (false,19,[],vX 4 64)])
 (.ret))))
theorem k19 : fnOk Tryz.prog 19 = some (M19, [.t 4], 65) := by kernel_rfl
/- paintboxlaw18 VmDoes -/
def M5 : MC :=
  .seq (.reg [oX 2 (.box 54 (.tmp 0)),
 oX 3 (.box 55 (.tmp 1)),
 oX 4 (.mv (.const (.bool false)))])
 (.seq (.seq (.reg [oX 8 (.call 10 []),
 oX 9 (.un .not (.tmp 8))])
 (.cond (.tmp 9)
 (.seq (.reg [oX 4 (.mv (.const (.bool false)))])
 (.ret))
 (.skip)))
 (.seq (.seq (.reg [oX 10 (.mv (kX 0))])
 (.block 0 (.loop (.seq (.reg [oX 11 (bK .lss 10 40)])
 (.seq (.cond (.tmp 11)
 (.skip)
 (.exit 0))
 (.seq (.block 1 (.seq (.reg [vX 12 10,
 vX 5 12])
 (.seq (.reg [oX 13 (.mv (kX 0))])
 (.block 2 (.loop (.seq (.reg [oX 14 (bK .lss 13 5)])
 (.seq (.cond (.tmp 14)
 (.skip)
 (.exit 2))
 (.seq (.block 3 (.seq (.reg [vX 15 13,
 vX 6 15])
 (.seq (.reg [oX 16 (.mv (kX 0))])
 (.block 4 (.loop (.seq (.reg [oX 17 (bK .lss 16 6)])
 (.seq (.cond (.tmp 17)
 (.skip)
 (.exit 4))
 (.seq (.block 5 (.seq (.reg [vX 18 16,
 vX 7 18])
 (.seq (.reg [vX 19 5,
 vX 20 6,
 vX 21 7,
 oX 22 (.build [(.int .i64 0),(.int .i64 0),(.int .i64 0)] [(0,1,(.tmp 19)),(1,1,(.tmp 20)),(2,1,(.tmp 21))]),
 oX 23 (.ldn 12 (.tmp 3)),
 oX 24 (.call 19 [(.tmp 22),(.tmp 23)]),
 oX 25 (.un .not (.tmp 24))])
 (.cond (.tmp 25)
 (.seq (.reg [oX 4 (.mv (.const (.bool false)))])
 (.ret))
 (.skip)))))
 (.reg [oX 26 (bK .add 16 1),
 vX 16 26])))))))))
 (.reg [oX 27 (bK .add 13 1),
 vX 13 27])))))))))
 (.reg [oX 28 (bK .add 10 1),
 vX 10 28])))))))
 (.seq (.reg [oX 29 (.ldn 3 (.tmp 2)),
 oX 30 (.ldn 12 (.tmp 3)),
 oX 31 (.call 19 [(.tmp 29),(.tmp 30)]),
 vX 4 31])
 (.ret))))
theorem k5 : fnOk Tryz.prog 5 = some (M5, [.t 4], 32) := by kernel_rfl

theorem l_done (fn bs n : Int) (g : Nat → Int) (hg : ∀ i, I32 (g i)) (h : K (.bool true) H) : HCalls Tryz.prog w0 19 [.agg #[.int .i64 fn, .int .i64 bs, .int .i64 n], LV g] H K := by
  have i0 := fun (G : Heap) (K' : Value → Heap → Prop) => r_Args (w0 := w0) (H := G) (K := K') fn bs
  replace i0 : Keep _ := i0
  by_cases hok : ¬ args fn bs = 0 ∧ 1 ≤ n ∧ n ≤ 4
  · obtain ⟨h1, h2, h3⟩ := hok
    have n1 : ¬ n < 1 := by omega
    have n2 : ¬ 4 < n := by omega
    have i1 := fun (G : Heap) (K' : Value → Heap → Prop) => c_Do (w0 := w0) (H := G) (K := K') fn bs n (fun i => g i) (fun i => g (4 + i)) (fun i => g (8 + i)) (fun i => hg _) (fun i => hg _) (fun i => hg _) h1 ⟨h2, h3⟩
    have i2 := fun (G : Heap) (K' : Value → Heap → Prop) => r_Apply (w0 := w0) (H := G) (K := K') fn bs n (fun i => g i) (fun i => g (4 + i)) (fun i => g (8 + i)) (fun i => hg _) (fun i => hg _) (fun i => hg _) h1 ⟨h2, h3⟩
    generalize doV fn bs n (fun i => g i) (fun i => g (4 + i)) (fun i => g (8 + i)) = d at i1 i2
    have hq : ceq [.int .i32 (d 0), .int .i32 (d 1), .int .i32 (d 2), .int .i32 (d 3)] [.int .i32 (d 0), .int .i32 (d 1), .int .i32 (d 2), .int .i32 (d 3)] = some true := by
      have := ceq_vv d d
      rw [this]; simp
    replace i1 : Keep _ := i1
    replace i2 : Keep _ := i2
    clear hg h2 h3
    refine HL.hc k19 999 ?_; unfold M19
    (all_goals (try simp only [S0,putAt,List.replicate,Int.reduceAdd,Int.reduceSub,Int.reduceMul,Int.reduceTDiv,Int.reduceTMod,Int.reduceMod,Int.reduceDiv,Nat.reduceLT,Nat.reduceEqDiff,Int.reduceLE,Int.reduceLT,Int.reduceToNat,Int.reduceNeg,Int.reduceEq,Nat.reduceLeDiff,Nat.reducePow,Int.reducePow,reduceIte,Nat.reduceSub,Nat.reduceAdd,Nat.reduceMul, *])); repeat' ((first | (with_reducible refine fun _ : True => ?_) | refine i0 _ _ ?_ | refine i1 _ _ ?_ | refine i2 _ _ ?_ | (with_reducible refine any_h ?_) | ((first | refine AllocQ_i ?_ | refine AllocO_i ?_); intro bk hb0 hbk; (try simp only [set_none'] at hbk)) | ((first | refine condS_i ?_ ?_ | refine pick_i ?_ ?_ | refine gS_it ?_ ?_ | refine gS_if ?_ ?_ | refine gP_it ?_ ?_ | refine gP_if ?_ ?_) <;> (intro hc; try simp only [Int.reduceLE,Int.reduceLT,Int.reduceEq,Sn] at hc)) | (with_reducible refine KP_i ?_ ?_; · exact aL) | (with_reducible refine And.intro ?_ ?_)) <;> (try simp only [S0,putAt,List.replicate,Int.reduceAdd,Int.reduceSub,Int.reduceMul,Int.reduceTDiv,Int.reduceTMod,Int.reduceMod,Int.reduceDiv,Nat.reduceLT,Nat.reduceEqDiff,Int.reduceLE,Int.reduceLT,Int.reduceToNat,Int.reduceNeg,Int.reduceEq,Nat.reduceLeDiff,Nat.reducePow,Int.reducePow,reduceIte,Nat.reduceSub,Nat.reduceAdd,Nat.reduceMul, *]))
    exact Fin_mk aL h
  · have i1 := fun (G : Heap) (K' : Value → Heap → Prop) => c_Do_err (w0 := w0) (H := G) (K := K') fn bs n (fun i => g i) (fun i => g (4 + i)) (fun i => g (8 + i)) (by omega)
    have hq : args fn bs = 0 ∨ (¬ args fn bs = 0 ∧ n < 1) ∨ (¬ args fn bs = 0 ∧ ¬ n < 1 ∧ 4 < n) := by omega
    replace i1 : Keep _ := i1
    clear hg hok
    rcases hq with q1 | ⟨q1, q2⟩ | ⟨q1, q2, q3⟩
    all_goals
      refine HL.hc k19 999 ?_; unfold M19
      (all_goals (try simp only [S0,putAt,List.replicate,Int.reduceAdd,Int.reduceSub,Int.reduceMul,Int.reduceTDiv,Int.reduceTMod,Int.reduceMod,Int.reduceDiv,Nat.reduceLT,Nat.reduceEqDiff,Int.reduceLE,Int.reduceLT,Int.reduceToNat,Int.reduceNeg,Int.reduceEq,Nat.reduceLeDiff,Nat.reducePow,Int.reducePow,reduceIte,Nat.reduceSub,Nat.reduceAdd,Nat.reduceMul, *])); repeat' ((first | (with_reducible refine fun _ : True => ?_) | refine i0 _ _ ?_ | refine i1 _ _ ?_ | (with_reducible refine any_h ?_) | ((first | refine AllocQ_i ?_ | refine AllocO_i ?_); intro bk hb0 hbk; (try simp only [set_none'] at hbk)) | ((first | refine condS_i ?_ ?_ | refine pick_i ?_ ?_ | refine gS_it ?_ ?_ | refine gS_if ?_ ?_ | refine gP_it ?_ ?_ | refine gP_if ?_ ?_) <;> (intro hc; try simp only [Int.reduceLE,Int.reduceLT,Int.reduceEq,Sn] at hc)) | (with_reducible refine KP_i ?_ ?_; · exact aL) | (with_reducible refine And.intro ?_ ?_)) <;> (try simp only [S0,putAt,List.replicate,Int.reduceAdd,Int.reduceSub,Int.reduceMul,Int.reduceTDiv,Int.reduceTMod,Int.reduceMod,Int.reduceDiv,Nat.reduceLT,Nat.reduceEqDiff,Int.reduceLE,Int.reduceLT,Int.reduceToNat,Int.reduceNeg,Int.reduceEq,Nat.reduceLeDiff,Nat.reducePow,Int.reducePow,reduceIte,Nat.reduceSub,Nat.reduceAdd,Nat.reduceMul, *]))
      exact Fin_mk aL h
theorem l_VmDoes (fn bs n : Int) (g : Nat → Int) (hg : ∀ i, I32 (g i)) (h : K (.bool true) H) : HCalls Tryz.prog w0 5 [.agg #[.int .i64 fn, .int .i64 bs, .int .i64 n], LV g] H K := by
  have i1 := fun (a b c : Int) (G : Heap) (K' : Value → Heap → Prop) => l_done (w0 := w0) (H := G) (K := K') a b c g hg
  replace i1 : Keep _ := i1
  clear hg
  have wr : ∀ k : Nat, k < 100 → IntKind.i64.wrap ((k : Int) + 1) = ((k + 1 : Nat) : Int) := fun k hk => by rw [Bw.1 _ (by omega) (by omega)]; simp
  replace wr : Keep _ := wr
  refine HL.hc k5 999 ?_; unfold M5
  (all_goals (try simp only [S0,putAt,List.replicate,Int.reduceAdd,Int.reduceSub,Int.reduceMul,Int.reduceTDiv,Int.reduceTMod,Int.reduceMod,Int.reduceDiv,Nat.reduceLT,Nat.reduceEqDiff,Int.reduceLE,Int.reduceLT,Int.reduceToNat,Int.reduceNeg,Int.reduceEq,Nat.reduceLeDiff,Nat.reducePow,Int.reducePow,reduceIte,Nat.reduceSub,Nat.reduceAdd,Nat.reduceMul, *])); repeat' ((first | (with_reducible refine fun _ : True => ?_) | refine x_Wakes ?_ | (with_reducible refine any_h ?_) | ((first | refine AllocQ_i ?_ | refine AllocO_i ?_); intro bk hb0 hbk; (try simp only [set_none'] at hbk)) | ((first | refine condS_i ?_ ?_ | refine pick_i ?_ ?_ | refine gS_it ?_ ?_ | refine gS_if ?_ ?_ | refine gP_it ?_ ?_ | refine gP_if ?_ ?_) <;> (intro hc; try simp only [Int.reduceLE,Int.reduceLT,Int.reduceEq,Sn] at hc)) | (with_reducible refine KP_i ?_ ?_; · exact aL) | (with_reducible refine And.intro ?_ ?_)) <;> (try simp only [S0,putAt,List.replicate,Int.reduceAdd,Int.reduceSub,Int.reduceMul,Int.reduceTDiv,Int.reduceTMod,Int.reduceMod,Int.reduceDiv,Nat.reduceLT,Nat.reduceEqDiff,Int.reduceLE,Int.reduceLT,Int.reduceToNat,Int.reduceNeg,Int.reduceEq,Nat.reduceLeDiff,Nat.reducePow,Int.reducePow,reduceIte,Nat.reduceSub,Nat.reduceAdd,Nat.reduceMul, *]))
  refine loop_g 11 (fun s : Nat × Value × Value × Value => [(5, s.2.1), (6, s.2.2.1), (7, s.2.2.2), (10, .int .i64 (s.1 : Nat))]) (fun s => ((H.set _ _).set _ _)) (fun s => s.1 ≤ 40) (fun s => 40 - s.1) (0, undef, undef, undef) (by decide) (Heap.Le.refl _) rfl ?_
  intro ⟨s, u5, u6, u7⟩ f hs
  simp only at hs
  rcases Nat.lt_or_ge s 40 with hlt | hge
  · have t0 : (s : Int) < 40 := by omega
    have t1 := (show ∀ k : Nat, k < 100 → IntKind.i64.wrap ((k : Int) + 1) = ((k + 1 : Nat) : Int) from wr) s (by omega)
    (all_goals (try simp only [S0,putAt,List.replicate,Int.reduceAdd,Int.reduceSub,Int.reduceMul,Int.reduceTDiv,Int.reduceTMod,Int.reduceMod,Int.reduceDiv,Nat.reduceLT,Nat.reduceEqDiff,Int.reduceLE,Int.reduceLT,Int.reduceToNat,Int.reduceNeg,Int.reduceEq,Nat.reduceLeDiff,Nat.reducePow,Int.reducePow,reduceIte,Nat.reduceSub,Nat.reduceAdd,Nat.reduceMul, *])); repeat' ((first | (with_reducible refine fun _ : True => ?_) | (with_reducible refine any_h ?_) | ((first | refine AllocQ_i ?_ | refine AllocO_i ?_); intro bk hb0 hbk; (try simp only [set_none'] at hbk)) | ((first | refine condS_i ?_ ?_ | refine pick_i ?_ ?_ | refine gS_it ?_ ?_ | refine gS_if ?_ ?_ | refine gP_it ?_ ?_ | refine gP_if ?_ ?_) <;> (intro hc; try simp only [Int.reduceLE,Int.reduceLT,Int.reduceEq,Sn] at hc)) | (with_reducible refine KP_i ?_ ?_; · exact aL) | (with_reducible refine And.intro ?_ ?_)) <;> (try simp only [S0,putAt,List.replicate,Int.reduceAdd,Int.reduceSub,Int.reduceMul,Int.reduceTDiv,Int.reduceTMod,Int.reduceMod,Int.reduceDiv,Nat.reduceLT,Nat.reduceEqDiff,Int.reduceLE,Int.reduceLT,Int.reduceToNat,Int.reduceNeg,Int.reduceEq,Nat.reduceLeDiff,Nat.reducePow,Int.reducePow,reduceIte,Nat.reduceSub,Nat.reduceAdd,Nat.reduceMul, *]))
    refine loop_g 14 (fun s : Nat × Value × Value => [(6, s.2.1), (7, s.2.2), (13, .int .i64 (s.1 : Nat))]) (fun s => ((H.set _ _).set _ _)) (fun s => s.1 ≤ 5) (fun s => 5 - s.1) (0, u6, u7) (Nat.zero_le _) (Heap.Le.refl _) rfl ?_
    intro ⟨k, u6, u7⟩ f hk
    simp only at hk
    rcases Nat.lt_or_ge k 5 with hlt2 | hge2
    · have t2 : (k : Int) < 5 := by omega
      have t3 := (show ∀ k : Nat, k < 100 → IntKind.i64.wrap ((k : Int) + 1) = ((k + 1 : Nat) : Int) from wr) k (by omega)
      (all_goals (try simp only [S0,putAt,List.replicate,Int.reduceAdd,Int.reduceSub,Int.reduceMul,Int.reduceTDiv,Int.reduceTMod,Int.reduceMod,Int.reduceDiv,Nat.reduceLT,Nat.reduceEqDiff,Int.reduceLE,Int.reduceLT,Int.reduceToNat,Int.reduceNeg,Int.reduceEq,Nat.reduceLeDiff,Nat.reducePow,Int.reducePow,reduceIte,Nat.reduceSub,Nat.reduceAdd,Nat.reduceMul, *])); repeat' ((first | (with_reducible refine fun _ : True => ?_) | (with_reducible refine any_h ?_) | ((first | refine AllocQ_i ?_ | refine AllocO_i ?_); intro bk hb0 hbk; (try simp only [set_none'] at hbk)) | ((first | refine condS_i ?_ ?_ | refine pick_i ?_ ?_ | refine gS_it ?_ ?_ | refine gS_if ?_ ?_ | refine gP_it ?_ ?_ | refine gP_if ?_ ?_) <;> (intro hc; try simp only [Int.reduceLE,Int.reduceLT,Int.reduceEq,Sn] at hc)) | (with_reducible refine KP_i ?_ ?_; · exact aL) | (with_reducible refine And.intro ?_ ?_)) <;> (try simp only [S0,putAt,List.replicate,Int.reduceAdd,Int.reduceSub,Int.reduceMul,Int.reduceTDiv,Int.reduceTMod,Int.reduceMod,Int.reduceDiv,Nat.reduceLT,Nat.reduceEqDiff,Int.reduceLE,Int.reduceLT,Int.reduceToNat,Int.reduceNeg,Int.reduceEq,Nat.reduceLeDiff,Nat.reducePow,Int.reducePow,reduceIte,Nat.reduceSub,Nat.reduceAdd,Nat.reduceMul, *]))
      refine loop_g 17 (fun s : Nat × Value => [(7, s.2), (16, .int .i64 (s.1 : Nat))]) (fun s => ((H.set _ _).set _ _)) (fun s => s.1 ≤ 6) (fun s => 6 - s.1) (0, u7) (Nat.zero_le _) (Heap.Le.refl _) rfl ?_
      intro ⟨m, u7⟩ f hm
      simp only at hm
      rcases Nat.lt_or_ge m 6 with hlt3 | hge3
      · have t4 : (m : Int) < 6 := by omega
        have t5 := (show ∀ k : Nat, k < 100 → IntKind.i64.wrap ((k : Int) + 1) = ((k + 1 : Nat) : Int) from wr) m (by omega)
        (all_goals (try simp only [S0,putAt,List.replicate,Int.reduceAdd,Int.reduceSub,Int.reduceMul,Int.reduceTDiv,Int.reduceTMod,Int.reduceMod,Int.reduceDiv,Nat.reduceLT,Nat.reduceEqDiff,Int.reduceLE,Int.reduceLT,Int.reduceToNat,Int.reduceNeg,Int.reduceEq,Nat.reduceLeDiff,Nat.reducePow,Int.reducePow,reduceIte,Nat.reduceSub,Nat.reduceAdd,Nat.reduceMul, *])); repeat' ((first | (with_reducible refine fun _ : True => ?_) | refine i1 _ _ _ _ _ ?_ | (with_reducible refine any_h ?_) | ((first | refine AllocQ_i ?_ | refine AllocO_i ?_); intro bk hb0 hbk; (try simp only [set_none'] at hbk)) | ((first | refine condS_i ?_ ?_ | refine pick_i ?_ ?_ | refine gS_it ?_ ?_ | refine gS_if ?_ ?_ | refine gP_it ?_ ?_ | refine gP_if ?_ ?_) <;> (intro hc; try simp only [Int.reduceLE,Int.reduceLT,Int.reduceEq,Sn] at hc)) | (with_reducible refine KP_i ?_ ?_; · exact aL) | (with_reducible refine And.intro ?_ ?_)) <;> (try simp only [S0,putAt,List.replicate,Int.reduceAdd,Int.reduceSub,Int.reduceMul,Int.reduceTDiv,Int.reduceTMod,Int.reduceMod,Int.reduceDiv,Nat.reduceLT,Nat.reduceEqDiff,Int.reduceLE,Int.reduceLT,Int.reduceToNat,Int.reduceNeg,Int.reduceEq,Nat.reduceLeDiff,Nat.reducePow,Int.reducePow,reduceIte,Nat.reduceSub,Nat.reduceAdd,Nat.reduceMul, *]))
        exact Round_mk (m + 1, _) (by simp only; omega) (by simp only; omega) (Heap.Le.refl _) rfl rfl
      · have t4 : ¬ (m : Int) < 6 := by omega
        (all_goals (try simp only [S0,putAt,List.replicate,Int.reduceAdd,Int.reduceSub,Int.reduceMul,Int.reduceTDiv,Int.reduceTMod,Int.reduceMod,Int.reduceDiv,Nat.reduceLT,Nat.reduceEqDiff,Int.reduceLE,Int.reduceLT,Int.reduceToNat,Int.reduceNeg,Int.reduceEq,Nat.reduceLeDiff,Nat.reducePow,Int.reducePow,reduceIte,Nat.reduceSub,Nat.reduceAdd,Nat.reduceMul, *])); repeat' ((first | (with_reducible refine fun _ : True => ?_) | (with_reducible refine any_h ?_) | ((first | refine AllocQ_i ?_ | refine AllocO_i ?_); intro bk hb0 hbk; (try simp only [set_none'] at hbk)) | ((first | refine condS_i ?_ ?_ | refine pick_i ?_ ?_ | refine gS_it ?_ ?_ | refine gS_if ?_ ?_ | refine gP_it ?_ ?_ | refine gP_if ?_ ?_) <;> (intro hc; try simp only [Int.reduceLE,Int.reduceLT,Int.reduceEq,Sn] at hc)) | (with_reducible refine KP_i ?_ ?_; · exact aL) | (with_reducible refine And.intro ?_ ?_)) <;> (try simp only [S0,putAt,List.replicate,Int.reduceAdd,Int.reduceSub,Int.reduceMul,Int.reduceTDiv,Int.reduceTMod,Int.reduceMod,Int.reduceDiv,Nat.reduceLT,Nat.reduceEqDiff,Int.reduceLE,Int.reduceLT,Int.reduceToNat,Int.reduceNeg,Int.reduceEq,Nat.reduceLeDiff,Nat.reducePow,Int.reducePow,reduceIte,Nat.reduceSub,Nat.reduceAdd,Nat.reduceMul, *]))
        exact Round_mk (k + 1, _, _) (by simp only; omega) (by simp only; omega) (Heap.Le.refl _) rfl rfl
    · have t2 : ¬ (k : Int) < 5 := by omega
      (all_goals (try simp only [S0,putAt,List.replicate,Int.reduceAdd,Int.reduceSub,Int.reduceMul,Int.reduceTDiv,Int.reduceTMod,Int.reduceMod,Int.reduceDiv,Nat.reduceLT,Nat.reduceEqDiff,Int.reduceLE,Int.reduceLT,Int.reduceToNat,Int.reduceNeg,Int.reduceEq,Nat.reduceLeDiff,Nat.reducePow,Int.reducePow,reduceIte,Nat.reduceSub,Nat.reduceAdd,Nat.reduceMul, *])); repeat' ((first | (with_reducible refine fun _ : True => ?_) | (with_reducible refine any_h ?_) | ((first | refine AllocQ_i ?_ | refine AllocO_i ?_); intro bk hb0 hbk; (try simp only [set_none'] at hbk)) | ((first | refine condS_i ?_ ?_ | refine pick_i ?_ ?_ | refine gS_it ?_ ?_ | refine gS_if ?_ ?_ | refine gP_it ?_ ?_ | refine gP_if ?_ ?_) <;> (intro hc; try simp only [Int.reduceLE,Int.reduceLT,Int.reduceEq,Sn] at hc)) | (with_reducible refine KP_i ?_ ?_; · exact aL) | (with_reducible refine And.intro ?_ ?_)) <;> (try simp only [S0,putAt,List.replicate,Int.reduceAdd,Int.reduceSub,Int.reduceMul,Int.reduceTDiv,Int.reduceTMod,Int.reduceMod,Int.reduceDiv,Nat.reduceLT,Nat.reduceEqDiff,Int.reduceLE,Int.reduceLT,Int.reduceToNat,Int.reduceNeg,Int.reduceEq,Nat.reduceLeDiff,Nat.reducePow,Int.reducePow,reduceIte,Nat.reduceSub,Nat.reduceAdd,Nat.reduceMul, *]))
      exact Round_mk (s + 1, _, _, _) (by simp only; omega) (by simp only; omega) (Heap.Le.refl _) rfl rfl
  · have t0 : ¬ (s : Int) < 40 := by omega
    (all_goals (try simp only [S0,putAt,List.replicate,Int.reduceAdd,Int.reduceSub,Int.reduceMul,Int.reduceTDiv,Int.reduceTMod,Int.reduceMod,Int.reduceDiv,Nat.reduceLT,Nat.reduceEqDiff,Int.reduceLE,Int.reduceLT,Int.reduceToNat,Int.reduceNeg,Int.reduceEq,Nat.reduceLeDiff,Nat.reducePow,Int.reducePow,reduceIte,Nat.reduceSub,Nat.reduceAdd,Nat.reduceMul, *])); repeat' ((first | (with_reducible refine fun _ : True => ?_) | refine i1 _ _ _ _ _ ?_ | (with_reducible refine any_h ?_) | ((first | refine AllocQ_i ?_ | refine AllocO_i ?_); intro bk hb0 hbk; (try simp only [set_none'] at hbk)) | ((first | refine condS_i ?_ ?_ | refine pick_i ?_ ?_ | refine gS_it ?_ ?_ | refine gS_if ?_ ?_ | refine gP_it ?_ ?_ | refine gP_if ?_ ?_) <;> (intro hc; try simp only [Int.reduceLE,Int.reduceLT,Int.reduceEq,Sn] at hc)) | (with_reducible refine KP_i ?_ ?_; · exact aL) | (with_reducible refine And.intro ?_ ?_)) <;> (try simp only [S0,putAt,List.replicate,Int.reduceAdd,Int.reduceSub,Int.reduceMul,Int.reduceTDiv,Int.reduceTMod,Int.reduceMod,Int.reduceDiv,Nat.reduceLT,Nat.reduceEqDiff,Int.reduceLE,Int.reduceLT,Int.reduceToNat,Int.reduceNeg,Int.reduceEq,Nat.reduceLeDiff,Nat.reducePow,Int.reducePow,reduceIte,Nat.reduceSub,Nat.reduceAdd,Nat.reduceMul, *]))
    exact Fin_mk aL h
end Go.Proofs.YtdmnfaefakceiaaGreat
