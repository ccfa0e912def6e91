/- Operations of vectors, by the program (layer 18). -/
import Derived.Test.YtdmnfaefakceiaaGreatVda
set_option linter.unusedSimpArgs false
set_option linter.unusedVariables false
set_option maxRecDepth 100000
set_option maxHeartbeats 4000000
namespace Go.Proofs.YtdmnfaefakceiaaGreat
open Go.HL Go.RowKit Pb
variable {w0 : World} {H G : Heap} {K : Value → Heap → Prop}

theorem c_asks (fn n : Int) (a b : Nat → Int) (hfn : 29 ≤ fn ∧ fn ≤ 35) (hn : n = 1 ∨ n = 2 ∨ n = 3 ∨ n = 4) (h : K (.bool (askV fn n a b)) H) : HCalls Tryz.prog w0 44 [.int .i64 fn, .int .i64 n, VV a, VV b] H K := by
  have c1 := fun (x : Nat → Int) (G : Heap) (K' : Value → Heap → Prop) => c_first (w0 := w0) (H := G) (K := K') n x hn
  have hq : ceq [.int .i32 (fst n a 0), .int .i32 (fst n a 1), .int .i32 (fst n a 2), .int .i32 (fst n a 3)] [.int .i32 (fst n b 0), .int .i32 (fst n b 1), .int .i32 (fst n b 2), .int .i32 (fst n b 3)] = some (alk n a b) := ceq_vv _ _
  have hf : fn = 29 ∨ fn = 30 ∨ fn = 31 ∨ fn = 32 ∨ fn = 33 ∨ fn = 34 ∨ fn = 35 := by omega
  clear hfn hn
  replace h : Keep _ := h
  replace c1 : Keep _ := c1
  rcases hf with rfl | rfl | rfl | rfl | rfl | rfl | rfl
  all_goals
    refine HL.hc k44 999 ?_; unfold M44
    (all_goals (try simp only [S0,putAt,List.replicate,Int.reduceAdd,Int.reduceSub,Int.reduceMul,Int.reduceTDiv,Int.reduceTMod,Int.reduceMod,Int.reduceDiv,Nat.reduceLT,Nat.reduceEqDiff,Int.reduceLE,Int.reduceLT,Int.reduceToNat,Int.reduceNeg,Int.reduceEq,Nat.reduceLeDiff,Nat.reducePow,Int.reducePow,reduceIte,Nat.reduceSub,Nat.reduceAdd,Nat.reduceMul, *])); repeat' ((first | (with_reducible refine fun _ : True => ?_) | refine c1 a _ _ ?_ | refine c1 b _ _ ?_ | (with_reducible refine any_h ?_) | ((first | refine AllocQ_i ?_ | refine AllocO_i ?_); intro bk hb0 hbk; (try simp only [set_none'] at hbk)) | ((first | refine condS_i ?_ ?_ | refine pick_i ?_ ?_ | refine gS_it ?_ ?_ | refine gS_if ?_ ?_ | refine gP_it ?_ ?_ | refine gP_if ?_ ?_) <;> (intro hc; try simp only [Int.reduceLE,Int.reduceLT,Int.reduceEq,Sn] at hc)) | (with_reducible refine KP_i ?_ ?_; · exact aL) | (with_reducible refine And.intro ?_ ?_)) <;> (try simp only [S0,putAt,List.replicate,Int.reduceAdd,Int.reduceSub,Int.reduceMul,Int.reduceTDiv,Int.reduceTMod,Int.reduceMod,Int.reduceDiv,Nat.reduceLT,Nat.reduceEqDiff,Int.reduceLE,Int.reduceLT,Int.reduceToNat,Int.reduceNeg,Int.reduceEq,Nat.reduceLeDiff,Nat.reducePow,Int.reducePow,reduceIte,Nat.reduceSub,Nat.reduceAdd,Nat.reduceMul, *]))
    refine Fin_mk aL (K_bool h ?_)
    simp [askV]
    try rfl
def compV (fn x y : Int) : Int :=
  if 1 ≤ fn ∧ fn ≤ 4 then vone fn x else if fn = 28 then vone 0 x else if fn = 5 then fsqrt x else if fn = 6 then finv x else if fn = 7 then expo x else if fn = 8 then flog x else if fn = 9 then fsin x else if fn = 10 then fcos x
  else if fn = 12 then vtwo 4 x y else if fn = 13 then vtwo 5 x y else if fn = 14 then vtwo 6 x y else if fn = 15 then (if x ≤ 0 then 0 else expo (fmul y (flog x))) else vtwo 7 x y
def floV (fn n : Int) (a b c : Nat → Int) : Nat → Int :=
  if fn = 11 then fnorm a n else if fn = 17 then fst n (vmix a b c) else if fn = 18 then fst n (vclamp a b c) else if fn = 19 then t1V (vsum n fun i => fmul (a i) (b i)) else if fn = 20 then t1V (flen a n) else if fn = 21 then vcross a b
  else fst n fun i => compV fn (a i) (b i)
/- paintbox/vm floats -/
def M48 : MC :=
  .seq (.reg [oX 7 (.box 28 (.tmp 2)),
 oX 8 (.box 28 (.tmp 3)),
 oX 9 (.box 28 (.tmp 4)),
 oX 10 (.alloc 28 [(.int .i32 0),(.int .i32 0),(.int .i32 0),(.int .i32 0)]),
 oX 11 (.mv (kX 0))])
 (.seq (.seq (.reg [vX 14 0])
 (.block 0 (.seq (.reg [oX 16 (bK .eql 14 1),
 vX 15 16])
 (.cond (.tmp 15)
 (.seq (.reg [vX 17 1,
 oX 18 (.ldn 4 (.tmp 7)),
 oX 19 (.call 86 [(kX 1),(.tmp 17),(.tmp 18)]),
 oX 20 (.ext 0 (.tmp 19)),
 oX 21 (.ext 1 (.tmp 19)),
 ⟨none,.stn 4 (.tmp 10) (.tmp 20),none⟩,
 vX 11 21])
 (.ret))
 (.seq (.reg [oX 23 (bK .eql 14 2),
 vX 22 23])
 (.cond (.tmp 22)
 (.seq (.reg [vX 24 1,
 oX 25 (.ldn 4 (.tmp 7)),
 oX 26 (.call 86 [(kX 2),(.tmp 24),(.tmp 25)]),
 oX 27 (.ext 0 (.tmp 26)),
 oX 28 (.ext 1 (.tmp 26)),
 ⟨none,.stn 4 (.tmp 10) (.tmp 27),none⟩,
 vX 11 28])
 (.ret))
 (.seq (.reg [oX 30 (bK .eql 14 3),
 vX 29 30])
 (.cond (.tmp 29)
 (.seq (.reg [vX 31 1,
 oX 32 (.ldn 4 (.tmp 7)),
 oX 33 (.call 86 [(kX 3),(.tmp 31),(.tmp 32)]),
 oX 34 (.ext 0 (.tmp 33)),
 oX 35 (.ext 1 (.tmp 33)),
 ⟨none,.stn 4 (.tmp 10) (.tmp 34),none⟩,
 vX 11 35])
 (.ret))
 (.seq (.reg [oX 37 (bK .eql 14 4),
 vX 36 37])
 (.cond (.tmp 36)
 (.seq (.reg [vX 38 1,
 oX 39 (.ldn 4 (.tmp 7)),
 oX 40 (.call 86 [(kX 4),(.tmp 38),(.tmp 39)]),
 oX 41 (.ext 0 (.tmp 40)),
 oX 42 (.ext 1 (.tmp 40)),
 ⟨none,.stn 4 (.tmp 10) (.tmp 41),none⟩,
 vX 11 42])
 (.ret))
 (.seq (.reg [oX 44 (bK .eql 14 28),
 vX 43 44])
 (.cond (.tmp 43)
 (.seq (.reg [vX 45 1,
 oX 46 (.ldn 4 (.tmp 7)),
 oX 47 (.call 86 [(kX 0),(.tmp 45),(.tmp 46)]),
 oX 48 (.ext 0 (.tmp 47)),
 oX 49 (.ext 1 (.tmp 47)),
 ⟨none,.stn 4 (.tmp 10) (.tmp 48),none⟩,
 vX 11 49])
 (.ret))
 (.seq (.reg [oX 51 (bK .eql 14 5),
 vX 50 51])
 (.cond (.tmp 50)
 (.seq (.reg [vX 52 1,
 oX 53 (.ldn 4 (.tmp 7)),
 oX 54 (.call 35 [(.tmp 52),(.tmp 53),(.func 87)]),
 oX 55 (.ext 0 (.tmp 54)),
 oX 56 (.ext 1 (.tmp 54)),
 ⟨none,.stn 4 (.tmp 10) (.tmp 55),none⟩,
 vX 11 56])
 (.ret))
 (.seq (.reg [oX 58 (bK .eql 14 6),
 vX 57 58])
 (.cond (.tmp 57)
 (.seq (.reg [vX 59 1,
 oX 60 (.ldn 4 (.tmp 7)),
 oX 61 (.call 35 [(.tmp 59),(.tmp 60),(.func 88)]),
 oX 62 (.ext 0 (.tmp 61)),
 oX 63 (.ext 1 (.tmp 61)),
 ⟨none,.stn 4 (.tmp 10) (.tmp 62),none⟩,
 vX 11 63])
 (.ret))
 (.seq (.reg [oX 65 (bK .eql 14 7),
 vX 64 65])
 (.cond (.tmp 64)
 (.seq (.reg [vX 66 1,
 oX 67 (.ldn 4 (.tmp 7)),
 oX 68 (.call 35 [(.tmp 66),(.tmp 67),(.func 89)]),
 oX 69 (.ext 0 (.tmp 68)),
 oX 70 (.ext 1 (.tmp 68)),
 ⟨none,.stn 4 (.tmp 10) (.tmp 69),none⟩,
 vX 11 70])
 (.ret))
 (.seq (.reg [oX 72 (bK .eql 14 8),
 vX 71 72])
 (.cond (.tmp 71)
 (.seq (.reg [vX 73 1,
 oX 74 (.ldn 4 (.tmp 7)),
 oX 75 (.call 35 [(.tmp 73),(.tmp 74),(.func 90)]),
 oX 76 (.ext 0 (.tmp 75)),
 oX 77 (.ext 1 (.tmp 75)),
 ⟨none,.stn 4 (.tmp 10) (.tmp 76),none⟩,
 vX 11 77])
 (.ret))
 (.seq (.reg [oX 79 (bK .eql 14 9),
 vX 78 79])
 (.cond (.tmp 78)
 (.seq (.reg [vX 80 1,
 oX 81 (.ldn 4 (.tmp 7)),
 oX 82 (.call 35 [(.tmp 80),(.tmp 81),(.func 91)]),
 oX 83 (.ext 0 (.tmp 82)),
 oX 84 (.ext 1 (.tmp 82)),
 ⟨none,.stn 4 (.tmp 10) (.tmp 83),none⟩,
 vX 11 84])
 (.ret))
 (.seq (.reg [oX 86 (bK .eql 14 10),
 vX 85 86])
 (.cond (.tmp 85)
 (.seq (.reg [vX 87 1,
 oX 88 (.ldn 4 (.tmp 7)),
 oX 89 (.call 35 [(.tmp 87),(.tmp 88),(.func 92)]),
 oX 90 (.ext 0 (.tmp 89)),
 oX 91 (.ext 1 (.tmp 89)),
 ⟨none,.stn 4 (.tmp 10) (.tmp 90),none⟩,
 vX 11 91])
 (.ret))
 (.seq (.reg [oX 93 (bK .eql 14 11),
 vX 92 93])
 (.cond (.tmp 92)
 (.seq (.reg [oX 94 (.ldn 4 (.tmp 7)),
 vX 95 1,
 oX 96 (.call 93 [(.tmp 94),(.tmp 95)]),
 ⟨none,.stn 4 (.tmp 10) (.tmp 96),none⟩,
 oX 11 (.mv (kX 0))])
 (.ret))
 (.seq (.reg [oX 98 (bK .eql 14 12),
 vX 97 98])
 (.cond (.tmp 97)
 (.seq (.reg [vX 99 1,
 oX 100 (.ldn 4 (.tmp 7)),
 oX 101 (.ldn 4 (.tmp 8)),
 oX 102 (.call 47 [(kX 4),(.tmp 99),(.tmp 100),(.tmp 101)]),
 oX 103 (.ext 0 (.tmp 102)),
 oX 104 (.ext 1 (.tmp 102)),
 ⟨none,.stn 4 (.tmp 10) (.tmp 103),none⟩,
 vX 11 104])
 (.ret))
 (.seq (.reg [oX 106 (bK .eql 14 13),
 vX 105 106])
 (.cond (.tmp 105)
 (.seq (.reg [vX 107 1,
 oX 108 (.ldn 4 (.tmp 7)),
 oX 109 (.ldn 4 (.tmp 8)),
 oX 110 (.call 47 [(kX 5),(.tmp 107),(.tmp 108),(.tmp 109)]),
 oX 111 (.ext 0 (.tmp 110)),
 oX 112 (.ext 1 (.tmp 110)),
 ⟨none,.stn 4 (.tmp 10) (.tmp 111),none⟩,
 vX 11 112])
 (.ret))
 (.seq (.reg [oX 114 (bK .eql 14 14),
 vX 113 114])
 (.cond (.tmp 113)
 (.seq (.reg [vX 115 1,
 oX 116 (.ldn 4 (.tmp 7)),
 oX 117 (.ldn 4 (.tmp 8)),
 oX 118 (.call 47 [(kX 6),(.tmp 115),(.tmp 116),(.tmp 117)]),
 oX 119 (.ext 0 (.tmp 118)),
 oX 120 (.ext 1 (.tmp 118)),
 ⟨none,.stn 4 (.tmp 10) (.tmp 119),none⟩,
 vX 11 120])
 (.ret))
 (.seq (.reg [oX 122 (bK .eql 14 15),
 vX 121 122])
 (.cond (.tmp 121)
 (.seq (.reg [vX 123 1,
 oX 124 (.ldn 4 (.tmp 7)),
 oX 125 (.ldn 4 (.tmp 8)),
 oX 126 (.call 45 [(.tmp 123),(.tmp 124),(.tmp 125),(.func 94)]),
 ⟨none,.stn 4 (.tmp 10) (.tmp 126),none⟩,
 oX 11 (.mv (kX 0))])
 (.ret))
 (.seq (.reg [oX 128 (bK .eql 14 16),
 vX 127 128])
 (.cond (.tmp 127)
 (.seq (.reg [vX 129 1,
 oX 130 (.ldn 4 (.tmp 7)),
 oX 131 (.ldn 4 (.tmp 8)),
 oX 132 (.call 47 [(kX 7),(.tmp 129),(.tmp 130),(.tmp 131)]),
 oX 133 (.ext 0 (.tmp 132)),
 oX 134 (.ext 1 (.tmp 132)),
 ⟨none,.stn 4 (.tmp 10) (.tmp 133),none⟩,
 vX 11 134])
 (.ret))
 (.seq (.reg [oX 136 (bK .eql 14 17),
 vX 135 136])
 (.cond (.tmp 135)
 (.seq (.reg [vX 137 1,
 oX 138 (.ldn 4 (.tmp 7)),
 oX 139 (.ldn 4 (.tmp 8)),
 oX 140 (.ldn 4 (.tmp 9)),
 oX 141 (.call 95 [(.tmp 137),(.tmp 138),(.tmp 139),(.tmp 140)]),
 oX 142 (.ext 0 (.tmp 141)),
 oX 143 (.ext 1 (.tmp 141)),
 ⟨none,.stn 4 (.tmp 10) (.tmp 142),none⟩,
 vX 11 143])
 (.ret))
 (.seq (.reg [oX 145 (bK .eql 14 18),
 vX 144 145])
 (.cond (.tmp 144)
 (.seq (.reg [vX 146 1,
 oX 147 (.ldn 4 (.tmp 7)),
 oX 148 (.ldn 4 (.tmp 8)),
 oX 149 (.ldn 4 (.tmp 9)),
 oX 150 (.call 96 [(.tmp 146),(.tmp 147),(.tmp 148),(.tmp 149)]),
 oX 151 (.ext 0 (.tmp 150)),
 oX 152 (.ext 1 (.tmp 150)),
 ⟨none,.stn 4 (.tmp 10) (.tmp 151),none⟩,
 vX 11 152])
 (.ret))
 (.seq (.reg [oX 154 (bK .eql 14 19),
 vX 153 154])
 (.cond (.tmp 153)
 (.seq (.reg [vX 156 1,
 oX 157 (.ldn 4 (.tmp 7)),
 oX 158 (.ldn 4 (.tmp 8)),
 oX 159 (.call 97 [(.tmp 156),(.tmp 157),(.tmp 158)]),
 vX 155 159,
 oX 160 (.ext 0 (.tmp 155)),
 oX 161 (.ext 1 (.tmp 155)),
 vX 12 160,
 vX 13 161])
 (.seq (.reg [vX 162 12,
 oX 163 (.build [(.int .i32 0),(.int .i32 0),(.int .i32 0),(.int .i32 0)] [(0,1,(.tmp 162))]),
 vX 164 13,
 ⟨none,.stn 4 (.tmp 10) (.tmp 163),none⟩,
 vX 11 164])
 (.ret)))
 (.seq (.reg [oX 166 (bK .eql 14 20),
 vX 165 166])
 (.cond (.tmp 165)
 (.seq (.reg [oX 167 (.ldn 4 (.tmp 7)),
 vX 168 1,
 oX 169 (.call 98 [(.tmp 167),(.tmp 168)]),
 oX 170 (.build [(.int .i32 0),(.int .i32 0),(.int .i32 0),(.int .i32 0)] [(0,1,(.tmp 169))]),
 ⟨none,.stn 4 (.tmp 10) (.tmp 170),none⟩,
 oX 11 (.mv (kX 0))])
 (.ret))
 (.seq (.reg [oX 172 (bK .eql 14 21),
 vX 171 172])
 (.cond (.tmp 171)
 (.seq (.reg [oX 173 (.ldn 4 (.tmp 7)),
 oX 174 (.ldn 4 (.tmp 8)),
 oX 175 (.call 99 [(.tmp 173),(.tmp 174)]),
 ⟨none,.stn 4 (.tmp 10) (.tmp 175),none⟩,
 oX 11 (.mv (kX 0))])
 (.ret))
 (.skip)))))))))))))))))))))))))))))))))))))))))))))))
 (.seq (.reg [oX 176 (.build [(.int .i32 0),(.int .i32 0),(.int .i32 0),(.int .i32 0)] []),
 ⟨none,.stn 4 (.tmp 10) (.tmp 176),none⟩,
 oX 11 (.mv (kX 2))])
 (.ret)))
theorem k48 : fnOk Tryz.prog 48 = some (M48, [.cn 4 10, .t 11], 177) := by kernel_rfl
/- paintbox/vm Do -/
def M28 : MC :=
  .seq (.reg [oX 9 (.box 28 (.tmp 3)),
 oX 10 (.box 28 (.tmp 4)),
 oX 11 (.box 28 (.tmp 5)),
 oX 12 (.alloc 28 [(.int .i32 0),(.int .i32 0),(.int .i32 0),(.int .i32 0)]),
 oX 13 (.mv (kX 0))])
 (.seq (.seq (.reg [vX 16 0,
 vX 17 1,
 oX 18 (.call 43 [(.tmp 16),(.tmp 17)]),
 oX 19 (bK .eql 18 0),
 vX 20 19,
 ⟨(some 21),.mv (.tmp 2),(some (20,false))⟩,
 ⟨(some 22),bK .lss 21 1,(some (20,false))⟩,
 oX 23 (.pick (.tmp 20) (.const (.bool true)) (.tmp 22)),
 vX 24 23,
 ⟨(some 25),.mv (.tmp 2),(some (24,false))⟩,
 ⟨(some 26),bK .gtr 25 4,(some (24,false))⟩,
 oX 27 (.pick (.tmp 24) (.const (.bool true)) (.tmp 26))])
 (.cond (.tmp 27)
 (.seq (.reg [oX 28 (.build [(.int .i32 0),(.int .i32 0),(.int .i32 0),(.int .i32 0)] []),
 ⟨none,.stn 4 (.tmp 12) (.tmp 28),none⟩,
 oX 13 (.mv (kX 2))])
 (.ret))
 (.skip)))
 (.seq (.block 0 (.seq (.reg [vX 30 0,
 oX 31 (bK .geq 30 29),
 vX 32 31,
 ⟨(some 33),.mv (.tmp 0),(some (32,true))⟩,
 ⟨(some 34),bK .leq 33 35,(some (32,true))⟩,
 oX 35 (.pick (.tmp 32) (.tmp 34) (.const (.bool false))),
 vX 29 35])
 (.cond (.tmp 29)
 (.seq (.reg [vX 36 0,
 vX 37 2,
 oX 38 (.ldn 4 (.tmp 9)),
 oX 39 (.ldn 4 (.tmp 10)),
 oX 40 (.call 44 [(.tmp 36),(.tmp 37),(.tmp 38),(.tmp 39)]),
 oX 41 (.call 37 [(.tmp 40)]),
 oX 42 (.build [(.int .i32 0),(.int .i32 0),(.int .i32 0),(.int .i32 0)] [(0,1,(.tmp 41))]),
 ⟨none,.stn 4 (.tmp 12) (.tmp 42),none⟩,
 oX 13 (.mv (kX 0))])
 (.ret))
 (.seq (.reg [vX 44 1,
 oX 45 (bK .eql 44 2),
 vX 43 45])
 (.cond (.tmp 43)
 (.seq (.any [(true,0,[],vX 46 2),
 (true,1,[],oX 47 (.ldn 4 (.tmp 9))),
 (true,2,[],oX 48 (.ldn 4 (.tmp 10))),
 (false,3,[0,1,2],vX 49 0),
 (false,4,[0,1,2],oX 50 (.call 46 [(.tmp 49)])),
 (false,5,[],oX 51 (.call 45 [(.tmp 46),(.tmp 47),(.tmp 48),(.tmp 50)])),
 (false,6,[],⟨none,.stn 4 (.tmp 12) (.tmp 51),none⟩),
 (false,7,[],oX 13 (.mv (kX 0)))])
 (.ret))
 (.seq (.reg [vX 53 0,
 oX 54 (bK .geq 53 24),
 vX 55 54,
 ⟨(some 56),.mv (.tmp 0),(some (55,true))⟩,
 ⟨(some 57),bK .leq 56 27,(some (55,true))⟩,
 oX 58 (.pick (.tmp 55) (.tmp 57) (.const (.bool false))),
 vX 52 58])
 (.cond (.tmp 52)
 (.seq (.reg [vX 60 0,
 oX 61 (bK .sub 60 24),
 oX 62 (bK .add 61 0),
 vX 63 2,
 oX 64 (.ldn 4 (.tmp 9)),
 oX 65 (.ldn 4 (.tmp 10)),
 oX 66 (.call 47 [(.tmp 62),(.tmp 63),(.tmp 64),(.tmp 65)]),
 vX 59 66,
 oX 67 (.ext 0 (.tmp 59)),
 oX 68 (.ext 1 (.tmp 59)),
 oX 14 (.alloc 28 [(.int .i32 0),(.int .i32 0),(.int .i32 0),(.int .i32 0)]),
 ⟨none,.stn 4 (.tmp 14) (.tmp 67),none⟩,
 vX 15 68])
 (.seq (.reg [oX 69 (.ldn 4 (.tmp 14)),
 vX 70 15,
 ⟨none,.stn 4 (.tmp 12) (.tmp 69),none⟩,
 vX 13 70])
 (.ret)))
 (.skip))))))))
 (.seq (.reg [vX 71 0,
 vX 72 2,
 oX 73 (.ldn 4 (.tmp 9)),
 oX 74 (.ldn 4 (.tmp 10)),
 oX 75 (.ldn 4 (.tmp 11)),
 oX 76 (.call 48 [(.tmp 71),(.tmp 72),(.tmp 73),(.tmp 74),(.tmp 75)]),
 oX 77 (.ext 0 (.tmp 76)),
 oX 78 (.ext 1 (.tmp 76)),
 ⟨none,.stn 4 (.tmp 12) (.tmp 77),none⟩,
 vX 13 78])
 (.ret))))
theorem k28 : fnOk Tryz.prog 28 = some (M28, [.cn 4 12, .t 13], 79) := by kernel_rfl

theorem c_floats (fn n : Int) (a b c : Nat → Int) (ha : ∀ i, I32 (a i)) (hb : ∀ i, I32 (b i)) (hc : ∀ i, I32 (c i)) (hfn : (1 ≤ fn ∧ fn ≤ 21) ∨ fn = 28) (hn : n = 1 ∨ n = 2 ∨ n = 3 ∨ n = 4) (h : K (.tuple #[VV (floV fn n a b c), .int .i64 0]) H) :
    HCalls Tryz.prog w0 48 [.int .i64 fn, .int .i64 n, VV a, VV b, VV c] H K := by
  have hn4 : 1 ≤ n ∧ n ≤ 4 := by omega
  have i1 : ∀ (op : Int) (G : Heap) (K' : Value → Heap → Prop), 0 ≤ op ∧ op ≤ 4 → K' (.tuple #[VV (fst n fun i => vone op (a i)), .int .i64 0]) G → HCalls Tryz.prog w0 86 [.int .i64 op, .int .i64 n, VV a] G K' := fun op G K' ho hk => c_One op n a ha (fun _ => hk) (fun q => (q ⟨ho.1, ho.2, hn4⟩).elim)
  have i2 : ∀ (op : Int) (G : Heap) (K' : Value → Heap → Prop), 0 ≤ op ∧ op ≤ 7 → K' (.tuple #[VV (fst n fun i => vtwo op (a i) (b i)), .int .i64 0]) G → HCalls Tryz.prog w0 47 [.int .i64 op, .int .i64 n, VV a, VV b] G K' := fun op G K' ho hk => c_Two op n a b ha hb (fun _ => hk) (fun q => (q ⟨ho.1, ho.2, hn4⟩).elim)
  have i3 : ∀ (G : Heap) (K' : Value → Heap → Prop), K' (.tuple #[VV (fst n (vmix a b c)), .int .i64 0]) G → HCalls Tryz.prog w0 95 [.int .i64 n, VV a, VV b, VV c] G K' := fun G K' hk => c_Mix n a b c ha hb hc (fun _ => hk) (fun q => (q hn4).elim)
  have i4 : ∀ (G : Heap) (K' : Value → Heap → Prop), K' (.tuple #[VV (fst n (vclamp a b c)), .int .i64 0]) G → HCalls Tryz.prog w0 96 [.int .i64 n, VV a, VV b, VV c] G K' := fun G K' hk => c_Clamp n a b c (fun _ => hk) (fun q => (q hn4).elim)
  have i5 : ∀ (G : Heap) (K' : Value → Heap → Prop), K' (.tuple #[.int .i32 (vsum n fun i => fmul (a i) (b i)), .int .i64 0]) G → HCalls Tryz.prog w0 97 [.int .i64 n, VV a, VV b] G K' := fun G K' hk => c_Dot n a b ha hb (fun _ => hk) (fun q => (q hn4).elim)
  have i6 : ∀ (f : FuncId) (g : Int → Int) (G : Heap) (K' : Value → Heap → Prop), (∀ x (G : Heap) (K' : Value → Heap → Prop), I32 x → K' (.int .i32 (g x)) G → HCalls Tryz.prog w0 f [.int .i32 x] G K') → K' (.tuple #[VV (fst n fun i => g (a i)), .int .i64 0]) G → HCalls Tryz.prog w0 35 [.int .i64 n, VV a, .func (.func f) #[] #[]] G K' := fun f g G K' hf hk => c_vOne n f a g hn ha hf hk
  have i7 : ∀ (G : Heap) (K' : Value → Heap → Prop), K' (VV (fst n fun i => if a i ≤ 0 then 0 else expo (fmul (b i) (flog (a i))))) G → HCalls Tryz.prog w0 45 [.int .i64 n, VV a, VV b, .func (.func 94) #[] #[]] G K' := fun G K' hk => c_vEach n _ #[] #[] a b _ hn (fun i G K' hi hg hk => c_Pow _ _ (ha i) (hb i) hk) hk
  have i8 : ∀ (G : Heap) (K' : Value → Heap → Prop), K' (VV (fnorm a n)) G → HCalls Tryz.prog w0 93 [VV a, .int .i64 n] G K' := fun G K' hk => c_Normalize a n ha hk
  have i9 : ∀ (G : Heap) (K' : Value → Heap → Prop), K' (.int .i32 (flen a n)) G → HCalls Tryz.prog w0 98 [VV a, .int .i64 n] G K' := fun G K' hk => c_Length a n ha hk
  have i10 : ∀ (G : Heap) (K' : Value → Heap → Prop), K' (VV (vcross a b)) G → HCalls Tryz.prog w0 99 [VV a, VV b] G K' := fun G K' hk => c_Cross a b ha hb hk
  have j1 := fun G K' => i6 87 fsqrt G K' (fun x G K' hx hk => c_Sqrt x hx hk)
  have j2 := fun G K' => i6 88 finv G K' (fun x G K' hx hk => c_InvSqrt x hx hk)
  have j3 := fun G K' => i6 89 expo G K' (fun x G K' hx hk => c_Exp2 x hx hk)
  have j4 := fun G K' => i6 90 flog G K' (fun x G K' hx hk => c_Log2 x hx hk)
  have j5 := fun G K' => i6 91 fsin G K' (fun x G K' hx hk => c_Sin x hx hk)
  have j6 := fun G K' => i6 92 fcos G K' (fun x G K' hx hk => c_Cos x hx hk)
  clear i6
  replace i1 : Keep _ := i1
  replace i2 : Keep _ := i2
  replace i3 : Keep _ := i3
  replace i4 : Keep _ := i4
  replace i5 : Keep _ := i5
  replace j1 : Keep _ := j1
  replace j2 : Keep _ := j2
  replace j3 : Keep _ := j3
  replace j4 : Keep _ := j4
  replace j5 : Keep _ := j5
  replace j6 : Keep _ := j6
  replace i7 : Keep _ := i7
  replace i8 : Keep _ := i8
  replace i9 : Keep _ := i9
  replace i10 : Keep _ := i10
  have hf : fn = 1 ∨ fn = 2 ∨ fn = 3 ∨ fn = 4 ∨ fn = 5 ∨ fn = 6 ∨ fn = 7 ∨ fn = 8 ∨ fn = 9 ∨ fn = 10 ∨ fn = 11 ∨ fn = 12 ∨ fn = 13 ∨ fn = 14 ∨ fn = 15 ∨ fn = 16 ∨ fn = 17 ∨ fn = 18 ∨ fn = 19 ∨ fn = 20 ∨ fn = 21 ∨ fn = 28 := by omega
  clear hfn hn hn4 ha hb hc
  rcases hf with rfl | rfl | rfl | rfl | rfl | rfl | rfl | rfl | rfl | rfl | rfl | rfl | rfl | rfl | rfl | rfl | rfl | rfl | rfl | rfl | rfl | rfl
  all_goals
    simp only [floV, compV, Int.reduceEq, Int.reduceLE, and_self, and_true, true_and, and_false, false_and, if_true, if_false, reduceIte] at h
    replace h : Keep _ := h
    refine HL.hc k48 999 ?_; unfold M48
    (all_goals (try simp only [S0,putAt,List.replicate,Int.reduceAdd,Int.reduceSub,Int.reduceMul,Int.reduceTDiv,Int.reduceTMod,Int.reduceMod,Int.reduceDiv,Nat.reduceLT,Nat.reduceEqDiff,Int.reduceLE,Int.reduceLT,Int.reduceToNat,Int.reduceNeg,Int.reduceEq,Nat.reduceLeDiff,Nat.reducePow,Int.reducePow,reduceIte,Nat.reduceSub,Nat.reduceAdd,Nat.reduceMul, *])); repeat' ((first | (with_reducible refine fun _ : True => ?_) | refine i1 _ _ _ (by decide) ?_ | refine i2 _ _ _ (by decide) ?_ | refine i3 _ _ ?_ | refine i4 _ _ ?_ | refine i5 _ _ ?_ | refine j1 _ _ ?_ | refine j2 _ _ ?_ | refine j3 _ _ ?_ | refine j4 _ _ ?_ | refine j5 _ _ ?_ | refine j6 _ _ ?_ | refine i7 _ _ ?_ | refine i8 _ _ ?_ | refine i9 _ _ ?_ | refine i10 _ _ ?_ | (with_reducible refine any_h ?_) | ((first | refine AllocQ_i ?_ | refine AllocO_i ?_); intro bk hb0 hbk; (try simp only [set_none'] at hbk)) | ((first | refine condS_i ?_ ?_ | refine pick_i ?_ ?_ | refine gS_it ?_ ?_ | refine gS_if ?_ ?_ | refine gP_it ?_ ?_ | refine gP_if ?_ ?_) <;> (intro hc; try simp only [Int.reduceLE,Int.reduceLT,Int.reduceEq,Sn] at hc)) | (with_reducible refine KP_i ?_ ?_; · exact aL) | (with_reducible refine And.intro ?_ ?_)) <;> (try simp only [S0,putAt,List.replicate,Int.reduceAdd,Int.reduceSub,Int.reduceMul,Int.reduceTDiv,Int.reduceTMod,Int.reduceMod,Int.reduceDiv,Nat.reduceLT,Nat.reduceEqDiff,Int.reduceLE,Int.reduceLT,Int.reduceToNat,Int.reduceNeg,Int.reduceEq,Nat.reduceLeDiff,Nat.reducePow,Int.reducePow,reduceIte,Nat.reduceSub,Nat.reduceAdd,Nat.reduceMul, *]))
    exact Fin_mk aL h
/-- What an operation does. -/
def doV (fn bs n : Int) (a b c : Nat → Int) : Nat → Int :=
  if 29 ≤ fn ∧ fn ≤ 35 then t1V (if askV fn n a b then 1 else 0) else if bs = 2 then fst n (fun i => wI fn (a i) (b i)) else if 24 ≤ fn ∧ fn ≤ 27 then fst n (fun i => vtwo (fn - 24) (a i) (b i)) else floV fn n a b c
theorem args_fn {fn bs : Int} (h : ¬ args fn bs = 0) : (29 ≤ fn ∧ fn ≤ 35) ∨ (¬ (29 ≤ fn ∧ fn ≤ 35) ∧ bs = 2 ∧ (fn = 24 ∨ fn = 25 ∨ fn = 26 ∨ fn = 27 ∨ fn = 28)) ∨ (¬ (29 ≤ fn ∧ fn ≤ 35) ∧ ¬ bs = 2 ∧ 24 ≤ fn ∧ fn ≤ 27) ∨ (¬ (29 ≤ fn ∧ fn ≤ 35) ∧ ¬ bs = 2 ∧ ¬ (24 ≤ fn ∧ fn ≤ 27) ∧ ((1 ≤ fn ∧ fn ≤ 21) ∨ fn = 28)) := by
  unfold args at h
  (repeat' (split at h)) <;> omega
end Go.Proofs.YtdmnfaefakceiaaGreat
