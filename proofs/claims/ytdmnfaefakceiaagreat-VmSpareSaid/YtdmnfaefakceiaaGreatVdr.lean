/- How many arguments a function takes, by both (layer 18). -/
import Derived.Test.YtdmnfaefakceiaaGreatDma
set_option linter.unusedSimpArgs false
set_option linter.unusedVariables false
set_option maxRecDepth 100000
set_option maxHeartbeats 4000000
namespace Go.Proofs.YtdmnfaefakceiaaGreat
open Go.HL Go.RowKit Pb
variable {w0 : World} {H G : Heap} {K : Value → Heap → Prop}

/-- How many arguments a function takes of a base. -/
def args (fn bs : Int) : Int :=
  if 1 ≤ fn ∧ fn ≤ 11 ∨ fn = 20 then (if bs = 1 then 1 else 0)
  else if 12 ≤ fn ∧ fn ≤ 16 ∨ fn = 19 ∨ fn = 21 then (if bs = 1 then 2 else 0)
  else if fn = 17 ∨ fn = 18 then (if bs = 1 then 3 else 0)
  else if fn = 28 then (if bs = 1 ∨ bs = 2 then 1 else 0)
  else if 24 ≤ fn ∧ fn ≤ 27 ∨ 29 ≤ fn ∧ fn ≤ 32 then (if bs = 1 ∨ bs = 2 then 2 else 0)
  else if fn = 33 ∨ fn = 34 then (if 1 ≤ bs ∧ bs ≤ 3 then 2 else 0)
  else if fn = 35 then (if bs = 3 then 1 else 0)
  else 0
/- code Args -/
def M43 : MC :=
  .seq (.reg [oX 4 (.mv (kX 0))])
 (.seq (.reg [oX 5 (.mv (kX 0)),
 oX 6 (.mv (kX 1))])
 (.seq (.block 0 (.seq (.seq (.reg [vX 8 0,
 oX 9 (bK .geq 8 1),
 vX 10 9,
 ⟨(some 11),.mv (.tmp 0),(some (10,true))⟩,
 ⟨(some 12),bK .leq 11 11,(some (10,true))⟩,
 oX 13 (.pick (.tmp 10) (.tmp 12) (.const (.bool false))),
 vX 7 13])
 (.cond (.tmp 7)
 (.skip)
 (.reg [vX 14 0,
 oX 15 (bK .eql 14 20),
 vX 7 15])))
 (.cond (.tmp 7)
 (.reg [oX 5 (.mv (kX 1))])
 (.seq (.seq (.reg [vX 17 0,
 oX 18 (bK .geq 17 12),
 vX 19 18,
 ⟨(some 20),.mv (.tmp 0),(some (19,true))⟩,
 ⟨(some 21),bK .leq 20 16,(some (19,true))⟩,
 oX 22 (.pick (.tmp 19) (.tmp 21) (.const (.bool false))),
 vX 16 22])
 (.cond (.tmp 16)
 (.skip)
 (.seq (.reg [vX 23 0,
 oX 24 (bK .eql 23 19),
 vX 16 24])
 (.cond (.tmp 16)
 (.skip)
 (.reg [vX 25 0,
 oX 26 (bK .eql 25 21),
 vX 16 26])))))
 (.cond (.tmp 16)
 (.reg [oX 5 (.mv (kX 2))])
 (.seq (.seq (.reg [vX 28 0,
 oX 29 (bK .eql 28 17),
 vX 27 29])
 (.cond (.tmp 27)
 (.skip)
 (.reg [vX 30 0,
 oX 31 (bK .eql 30 18),
 vX 27 31])))
 (.cond (.tmp 27)
 (.reg [oX 5 (.mv (kX 3))])
 (.seq (.reg [vX 33 0,
 oX 34 (bK .eql 33 28),
 vX 32 34])
 (.cond (.tmp 32)
 (.reg [oX 5 (.mv (kX 1)),
 oX 6 (.mv (kX 2))])
 (.seq (.seq (.reg [vX 36 0,
 oX 37 (bK .geq 36 24),
 vX 38 37,
 ⟨(some 39),.mv (.tmp 0),(some (38,true))⟩,
 ⟨(some 40),bK .leq 39 27,(some (38,true))⟩,
 oX 41 (.pick (.tmp 38) (.tmp 40) (.const (.bool false))),
 vX 35 41])
 (.cond (.tmp 35)
 (.skip)
 (.reg [vX 42 0,
 oX 43 (bK .geq 42 29),
 vX 44 43,
 ⟨(some 45),.mv (.tmp 0),(some (44,true))⟩,
 ⟨(some 46),bK .leq 45 32,(some (44,true))⟩,
 oX 47 (.pick (.tmp 44) (.tmp 46) (.const (.bool false))),
 vX 35 47])))
 (.cond (.tmp 35)
 (.reg [oX 5 (.mv (kX 2)),
 oX 6 (.mv (kX 2))])
 (.seq (.seq (.reg [vX 49 0,
 oX 50 (bK .eql 49 33),
 vX 48 50])
 (.cond (.tmp 48)
 (.skip)
 (.reg [vX 51 0,
 oX 52 (bK .eql 51 34),
 vX 48 52])))
 (.cond (.tmp 48)
 (.reg [oX 5 (.mv (kX 2)),
 oX 6 (.mv (kX 3))])
 (.seq (.reg [vX 54 0,
 oX 55 (bK .eql 54 35),
 vX 56 55,
 ⟨(some 57),.mv (.tmp 1),(some (56,true))⟩,
 ⟨(some 58),bK .eql 57 3,(some (56,true))⟩,
 oX 59 (.pick (.tmp 56) (.tmp 58) (.const (.bool false))),
 vX 53 59])
 (.cond (.tmp 53)
 (.seq (.reg [oX 4 (.mv (kX 1))])
 (.ret))
 (.skip))))))))))))))))
 (.seq (.seq (.reg [vX 60 1,
 oX 61 (bK .lss 60 1),
 vX 62 61,
 ⟨(some 63),.mv (.tmp 1),(some (62,false))⟩,
 ⟨(some 64),.mv (.tmp 6),(some (62,false))⟩,
 ⟨(some 65),bX .gtr 63 64,(some (62,false))⟩,
 oX 66 (.pick (.tmp 62) (.const (.bool true)) (.tmp 65))])
 (.cond (.tmp 66)
 (.seq (.reg [oX 4 (.mv (kX 0))])
 (.ret))
 (.skip)))
 (.seq (.reg [vX 67 5,
 vX 4 67])
 (.ret)))))
theorem k43 : fnOk Tryz.prog 43 = some (M43, [.t 4], 68) := by kernel_rfl

theorem c_Args (fn bs : Int) (h : K (.int .i64 (args fn bs)) H) : HCalls Tryz.prog w0 43 [.int .i64 fn, .int .i64 bs] H K := by
  refine HL.hc k43 999 ?_; unfold M43
  (all_goals (try simp only [S0,putAt,List.replicate,Int.reduceAdd,Int.reduceSub,Int.reduceMul,Int.reduceTDiv,Int.reduceTMod,Int.reduceMod,Int.reduceDiv,Nat.reduceLT,Nat.reduceEqDiff,Int.reduceLE,Int.reduceLT,Int.reduceToNat,Int.reduceNeg,Int.reduceEq,Nat.reduceLeDiff,Nat.reducePow,Int.reducePow,reduceIte,Nat.reduceSub,Nat.reduceAdd,Nat.reduceMul, *])); repeat' ((first | (with_reducible refine fun _ : True => ?_) | (with_reducible refine any_h ?_) | ((first | refine AllocQ_i ?_ | refine AllocO_i ?_); intro bk hb0 hbk; try simp only [set_none'] at hbk) | ((first | refine condS_i ?_ ?_ | refine pick_i ?_ ?_ | refine gS_it ?_ ?_ | refine gS_if ?_ ?_ | refine gP_it ?_ ?_ | refine gP_if ?_ ?_) <;> (intro hc; try simp only [Int.reduceLE,Int.reduceLT,Int.reduceEq,Sn] at hc; try (exfalso; omega))) | (with_reducible refine KP_i ?_ ?_; · exact aE) | (with_reducible refine And.intro ?_ ?_)) <;> (try simp only [S0,putAt,List.replicate,Int.reduceAdd,Int.reduceSub,Int.reduceMul,Int.reduceTDiv,Int.reduceTMod,Int.reduceMod,Int.reduceDiv,Nat.reduceLT,Nat.reduceEqDiff,Int.reduceLE,Int.reduceLT,Int.reduceToNat,Int.reduceNeg,Int.reduceEq,Nat.reduceLeDiff,Nat.reducePow,Int.reducePow,reduceIte,Nat.reduceSub,Nat.reduceAdd,Nat.reduceMul, *]))
  all_goals refine Fin_mk (Heap.Le.refl _) (K_int h ?_)
  all_goals (unfold args; (repeat' split) <;> omega)
/- paintboxref16 Args -/
def M32 : MC :=
  .seq (.reg [oX 4 (.mv (kX 0))])
 (.seq (.reg [vX 8 1,
 oX 9 (bK .eql 8 1),
 vX 10 1,
 oX 11 (bK .eql 10 2),
 vX 12 1,
 oX 13 (bK .eql 12 3),
 vX 5 9,
 vX 6 11,
 vX 7 13])
 (.seq (.block 0 (.seq (.seq (.reg [vX 15 0,
 oX 16 (bK .geq 15 1),
 vX 17 16,
 ⟨(some 18),.mv (.tmp 0),(some (17,true))⟩,
 ⟨(some 19),bK .leq 18 11,(some (17,true))⟩,
 oX 20 (.pick (.tmp 17) (.tmp 19) (.const (.bool false))),
 vX 21 20,
 ⟨(some 22),.mv (.tmp 0),(some (21,false))⟩,
 ⟨(some 23),bK .eql 22 20,(some (21,false))⟩,
 oX 24 (.pick (.tmp 21) (.const (.bool true)) (.tmp 23)),
 vX 25 24,
 ⟨(some 26),.mv (.tmp 5),(some (25,true))⟩,
 oX 27 (.pick (.tmp 25) (.tmp 26) (.const (.bool false))),
 vX 14 27])
 (.cond (.tmp 14)
 (.skip)
 (.seq (.reg [vX 28 0,
 oX 29 (bK .eql 28 28),
 vX 30 29,
 ⟨(some 31),.mv (.tmp 5),(some (30,true))⟩,
 ⟨(some 32),.mv (.tmp 31),(some (30,true))⟩,
 ⟨(some 33),.mv (.tmp 6),(some (32,false))⟩,
 ⟨(some 34),.pick (.tmp 32) (.const (.bool true)) (.tmp 33),(some (30,true))⟩,
 oX 35 (.pick (.tmp 30) (.tmp 34) (.const (.bool false))),
 vX 14 35])
 (.cond (.tmp 14)
 (.skip)
 (.reg [vX 36 0,
 oX 37 (bK .eql 36 35),
 vX 38 37,
 ⟨(some 39),.mv (.tmp 7),(some (38,true))⟩,
 oX 40 (.pick (.tmp 38) (.tmp 39) (.const (.bool false))),
 vX 14 40])))))
 (.cond (.tmp 14)
 (.seq (.reg [oX 4 (.mv (kX 1))])
 (.ret))
 (.seq (.seq (.reg [vX 42 0,
 oX 43 (bK .geq 42 12),
 vX 44 43,
 ⟨(some 45),.mv (.tmp 0),(some (44,true))⟩,
 ⟨(some 46),bK .leq 45 16,(some (44,true))⟩,
 oX 47 (.pick (.tmp 44) (.tmp 46) (.const (.bool false))),
 vX 48 47,
 ⟨(some 49),.mv (.tmp 0),(some (48,false))⟩,
 ⟨(some 50),bK .eql 49 19,(some (48,false))⟩,
 oX 51 (.pick (.tmp 48) (.const (.bool true)) (.tmp 50)),
 vX 52 51,
 ⟨(some 53),.mv (.tmp 0),(some (52,false))⟩,
 ⟨(some 54),bK .eql 53 21,(some (52,false))⟩,
 oX 55 (.pick (.tmp 52) (.const (.bool true)) (.tmp 54)),
 vX 56 55,
 ⟨(some 57),.mv (.tmp 5),(some (56,true))⟩,
 oX 58 (.pick (.tmp 56) (.tmp 57) (.const (.bool false))),
 vX 41 58])
 (.cond (.tmp 41)
 (.skip)
 (.seq (.reg [vX 59 0,
 oX 60 (bK .geq 59 24),
 vX 61 60,
 ⟨(some 62),.mv (.tmp 0),(some (61,true))⟩,
 ⟨(some 63),bK .leq 62 27,(some (61,true))⟩,
 oX 64 (.pick (.tmp 61) (.tmp 63) (.const (.bool false))),
 vX 65 64,
 ⟨(some 66),.mv (.tmp 0),(some (65,false))⟩,
 ⟨(some 67),bK .geq 66 29,(some (65,false))⟩,
 ⟨(some 68),.mv (.tmp 67),(some (65,false))⟩,
 ⟨(some 69),.mv (.tmp 0),(some (68,true))⟩,
 ⟨(some 70),bK .leq 69 32,(some (68,true))⟩,
 ⟨(some 71),.pick (.tmp 68) (.tmp 70) (.const (.bool false)),(some (65,false))⟩,
 oX 72 (.pick (.tmp 65) (.const (.bool true)) (.tmp 71)),
 vX 73 72,
 ⟨(some 74),.mv (.tmp 5),(some (73,true))⟩,
 ⟨(some 75),.mv (.tmp 74),(some (73,true))⟩,
 ⟨(some 76),.mv (.tmp 6),(some (75,false))⟩,
 ⟨(some 77),.pick (.tmp 75) (.const (.bool true)) (.tmp 76),(some (73,true))⟩,
 oX 78 (.pick (.tmp 73) (.tmp 77) (.const (.bool false))),
 vX 41 78])
 (.cond (.tmp 41)
 (.skip)
 (.reg [vX 79 0,
 oX 80 (bK .eql 79 33),
 vX 81 80,
 ⟨(some 82),.mv (.tmp 0),(some (81,false))⟩,
 ⟨(some 83),bK .eql 82 34,(some (81,false))⟩,
 oX 84 (.pick (.tmp 81) (.const (.bool true)) (.tmp 83)),
 vX 85 84,
 ⟨(some 86),.mv (.tmp 5),(some (85,true))⟩,
 ⟨(some 87),.mv (.tmp 86),(some (85,true))⟩,
 ⟨(some 88),.mv (.tmp 6),(some (87,false))⟩,
 ⟨(some 89),.pick (.tmp 87) (.const (.bool true)) (.tmp 88),(some (85,true))⟩,
 ⟨(some 90),.mv (.tmp 89),(some (85,true))⟩,
 ⟨(some 91),.mv (.tmp 7),(some (90,false))⟩,
 ⟨(some 92),.pick (.tmp 90) (.const (.bool true)) (.tmp 91),(some (85,true))⟩,
 oX 93 (.pick (.tmp 85) (.tmp 92) (.const (.bool false))),
 vX 41 93])))))
 (.cond (.tmp 41)
 (.seq (.reg [oX 4 (.mv (kX 2))])
 (.ret))
 (.seq (.reg [vX 95 0,
 oX 96 (bK .eql 95 17),
 vX 97 96,
 ⟨(some 98),.mv (.tmp 0),(some (97,false))⟩,
 ⟨(some 99),bK .eql 98 18,(some (97,false))⟩,
 oX 100 (.pick (.tmp 97) (.const (.bool true)) (.tmp 99)),
 vX 101 100,
 ⟨(some 102),.mv (.tmp 5),(some (101,true))⟩,
 oX 103 (.pick (.tmp 101) (.tmp 102) (.const (.bool false))),
 vX 94 103])
 (.cond (.tmp 94)
 (.seq (.reg [oX 4 (.mv (kX 3))])
 (.ret))
 (.skip))))))))
 (.seq (.reg [oX 4 (.mv (kX 0))])
 (.ret))))
theorem k32 : fnOk Tryz.prog 32 = some (M32, [.t 4], 104) := by kernel_rfl

theorem r_Args (fn bs : Int) (h : K (.int .i64 (args fn bs)) H) : HCalls Tryz.prog w0 32 [.int .i64 fn, .int .i64 bs] H K := by
  refine HL.hc k32 999 ?_; unfold M32
  (all_goals (try simp only [S0,putAt,List.replicate,Int.reduceAdd,Int.reduceSub,Int.reduceMul,Int.reduceTDiv,Int.reduceTMod,Int.reduceMod,Int.reduceDiv,Nat.reduceLT,Nat.reduceEqDiff,Int.reduceLE,Int.reduceLT,Int.reduceToNat,Int.reduceNeg,Int.reduceEq,Nat.reduceLeDiff,Nat.reducePow,Int.reducePow,reduceIte,Nat.reduceSub,Nat.reduceAdd,Nat.reduceMul, *])); repeat' ((first | (with_reducible refine fun _ : True => ?_) | (with_reducible refine any_h ?_) | ((first | refine AllocQ_i ?_ | refine AllocO_i ?_); intro bk hb0 hbk; try simp only [set_none'] at hbk) | ((first | refine condS_i ?_ ?_ | refine pick_i ?_ ?_ | refine gS_it ?_ ?_ | refine gS_if ?_ ?_ | refine gP_it ?_ ?_ | refine gP_if ?_ ?_) <;> (intro hc; try simp only [Int.reduceLE,Int.reduceLT,Int.reduceEq,Sn] at hc; try (exfalso; omega))) | (with_reducible refine KP_i ?_ ?_; · exact aE) | (with_reducible refine And.intro ?_ ?_)) <;> (try simp only [S0,putAt,List.replicate,Int.reduceAdd,Int.reduceSub,Int.reduceMul,Int.reduceTDiv,Int.reduceTMod,Int.reduceMod,Int.reduceDiv,Nat.reduceLT,Nat.reduceEqDiff,Int.reduceLE,Int.reduceLT,Int.reduceToNat,Int.reduceNeg,Int.reduceEq,Nat.reduceLeDiff,Nat.reducePow,Int.reducePow,reduceIte,Nat.reduceSub,Nat.reduceAdd,Nat.reduceMul, *]))
  all_goals refine Fin_mk (Heap.Le.refl _) (K_int h ?_)
  all_goals (unfold args; (repeat' split) <;> omega)
end Go.Proofs.YtdmnfaefakceiaaGreat
