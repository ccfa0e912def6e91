/- What an operation does, by the document: number by number (layer 18). -/
import Derived.Test.YtdmnfaefakceiaaGreatVdc
import Derived.Test.YtdmnfaefakceiaaGreatDrc
set_option linter.unusedSimpArgs false
set_option linter.unusedVariables false
set_option maxRecDepth 100000
set_option maxHeartbeats 4000000
namespace Go.Proofs.YtdmnfaefakceiaaGreat
open Go.HL Go.RowKit Pb
variable {w0 : World} {H G : Heap} {K : Value → Heap → Prop}

theorem vc_at (a : Nat → Int) {i : Nat} (hi : i < 4) : (VC a)[i]? = some (.int .i32 (a i)) := by
  rcases (by omega : i = 0 ∨ i = 1 ∨ i = 2 ∨ i = 3) with rfl | rfl | rfl | rfl <;> rfl
theorem vc_set (g : Nat → Int) {i : Nat} (hi : i < 4) : (VC (fst (i : Nat) g)).set i (.int .i32 (g i)) = VC (fst ((i + 1 : Nat) : Int) g) := by
  rcases (by omega : i = 0 ∨ i = 1 ∨ i = 2 ∨ i = 3) with rfl | rfl | rfl | rfl <;> simp [VC, fst]
/- paintboxref15 Apply -/
def M33 : MC :=
  .seq (.reg [oX 9 (.box 28 (.tmp 3)),
 oX 10 (.box 28 (.tmp 4)),
 oX 11 (.box 28 (.tmp 5)),
 oX 12 (.alloc 28 [(.int .i32 0),(.int .i32 0),(.int .i32 0),(.int .i32 0)])])
 (.seq (.seq (.reg [vX 15 0,
 oX 16 (bK .eql 15 29)])
 (.cond (.tmp 16)
 (.seq (.reg [oX 17 (.ia 4 1 (.tmp 9) (kX 0)),
 oX 18 (.ld1 (.tmp 17)),
 oX 19 (.ia 4 1 (.tmp 10) (kX 0)),
 oX 20 (.ld1 (.tmp 19)),
 oX 21 (bX .lss 18 20),
 oX 22 (.call 39 [(.tmp 21)]),
 oX 23 (.build [(.int .i32 0),(.int .i32 0),(.int .i32 0),(.int .i32 0)] [(0,1,(.tmp 22))]),
 ⟨none,.stn 4 (.tmp 12) (.tmp 23),none⟩])
 (.ret))
 (.skip)))
 (.seq (.seq (.reg [vX 24 0,
 oX 25 (bK .eql 24 30)])
 (.cond (.tmp 25)
 (.seq (.reg [oX 26 (.ia 4 1 (.tmp 9) (kX 0)),
 oX 27 (.ld1 (.tmp 26)),
 oX 28 (.ia 4 1 (.tmp 10) (kX 0)),
 oX 29 (.ld1 (.tmp 28)),
 oX 30 (bX .gtr 27 29),
 oX 31 (.call 39 [(.tmp 30)]),
 oX 32 (.build [(.int .i32 0),(.int .i32 0),(.int .i32 0),(.int .i32 0)] [(0,1,(.tmp 31))]),
 ⟨none,.stn 4 (.tmp 12) (.tmp 32),none⟩])
 (.ret))
 (.skip)))
 (.seq (.seq (.reg [vX 33 0,
 oX 34 (bK .eql 33 31)])
 (.cond (.tmp 34)
 (.seq (.reg [oX 35 (.ia 4 1 (.tmp 9) (kX 0)),
 oX 36 (.ld1 (.tmp 35)),
 oX 37 (.ia 4 1 (.tmp 10) (kX 0)),
 oX 38 (.ld1 (.tmp 37)),
 oX 39 (bX .leq 36 38),
 oX 40 (.call 39 [(.tmp 39)]),
 oX 41 (.build [(.int .i32 0),(.int .i32 0),(.int .i32 0),(.int .i32 0)] [(0,1,(.tmp 40))]),
 ⟨none,.stn 4 (.tmp 12) (.tmp 41),none⟩])
 (.ret))
 (.skip)))
 (.seq (.seq (.reg [vX 42 0,
 oX 43 (bK .eql 42 32)])
 (.cond (.tmp 43)
 (.seq (.reg [oX 44 (.ia 4 1 (.tmp 9) (kX 0)),
 oX 45 (.ld1 (.tmp 44)),
 oX 46 (.ia 4 1 (.tmp 10) (kX 0)),
 oX 47 (.ld1 (.tmp 46)),
 oX 48 (bX .geq 45 47),
 oX 49 (.call 39 [(.tmp 48)]),
 oX 50 (.build [(.int .i32 0),(.int .i32 0),(.int .i32 0),(.int .i32 0)] [(0,1,(.tmp 49))]),
 ⟨none,.stn 4 (.tmp 12) (.tmp 50),none⟩])
 (.ret))
 (.skip)))
 (.seq (.seq (.reg [vX 51 0,
 oX 52 (bK .eql 51 33),
 vX 53 52,
 ⟨(some 54),.mv (.tmp 0),(some (53,false))⟩,
 ⟨(some 55),bK .eql 54 34,(some (53,false))⟩,
 oX 56 (.pick (.tmp 53) (.const (.bool true)) (.tmp 55))])
 (.cond (.tmp 56)
 (.seq (.reg [vX 57 2,
 oX 58 (.ldn 4 (.tmp 9)),
 oX 59 (.ldn 4 (.tmp 10)),
 oX 60 (.call 56 [(.tmp 57),(.tmp 58),(.tmp 59)]),
 vX 61 0,
 oX 62 (bK .eql 61 33),
 oX 63 (.eqb false (.tmp 60) (.tmp 62)),
 oX 64 (.call 39 [(.tmp 63)]),
 oX 65 (.build [(.int .i32 0),(.int .i32 0),(.int .i32 0),(.int .i32 0)] [(0,1,(.tmp 64))]),
 ⟨none,.stn 4 (.tmp 12) (.tmp 65),none⟩])
 (.ret))
 (.skip)))
 (.seq (.seq (.reg [vX 66 0,
 oX 67 (bK .eql 66 35)])
 (.cond (.tmp 67)
 (.seq (.reg [oX 68 (.ia 4 1 (.tmp 9) (kX 0)),
 oX 69 (.ld1 (.tmp 68)),
 oX 70 (.bin .eql (.tmp 69) (.const (.int .i32 0))),
 oX 71 (.call 39 [(.tmp 70)]),
 oX 72 (.build [(.int .i32 0),(.int .i32 0),(.int .i32 0),(.int .i32 0)] [(0,1,(.tmp 71))]),
 ⟨none,.stn 4 (.tmp 12) (.tmp 72),none⟩])
 (.ret))
 (.skip)))
 (.seq (.seq (.reg [vX 73 0,
 oX 74 (bK .eql 73 11)])
 (.cond (.tmp 74)
 (.seq (.reg [oX 75 (.ldn 4 (.tmp 9)),
 vX 76 2,
 oX 77 (.call 57 [(.tmp 75),(.tmp 76)]),
 ⟨none,.stn 4 (.tmp 12) (.tmp 77),none⟩])
 (.ret))
 (.skip)))
 (.seq (.seq (.reg [vX 78 0,
 oX 79 (bK .eql 78 17)])
 (.cond (.tmp 79)
 (.seq (.reg [vX 80 2,
 oX 81 (.ldn 4 (.tmp 9)),
 oX 82 (.ldn 4 (.tmp 10)),
 oX 83 (.ldn 4 (.tmp 11)),
 oX 84 (.call 58 [(.tmp 80),(.tmp 81),(.tmp 82),(.tmp 83)]),
 ⟨none,.stn 4 (.tmp 12) (.tmp 84),none⟩])
 (.ret))
 (.skip)))
 (.seq (.seq (.reg [vX 85 0,
 oX 86 (bK .eql 85 18)])
 (.cond (.tmp 86)
 (.seq (.reg [vX 87 2,
 oX 88 (.ldn 4 (.tmp 9)),
 oX 89 (.ldn 4 (.tmp 10)),
 oX 90 (.ldn 4 (.tmp 11)),
 oX 91 (.call 59 [(.tmp 87),(.tmp 88),(.tmp 89),(.tmp 90)]),
 ⟨none,.stn 4 (.tmp 12) (.tmp 91),none⟩])
 (.ret))
 (.skip)))
 (.seq (.seq (.reg [vX 92 0,
 oX 93 (bK .eql 92 19)])
 (.cond (.tmp 93)
 (.seq (.reg [vX 94 2,
 oX 95 (.ldn 4 (.tmp 9)),
 oX 96 (.ldn 4 (.tmp 10)),
 oX 97 (.call 60 [(.tmp 94),(.tmp 95),(.tmp 96)]),
 oX 98 (.build [(.int .i32 0),(.int .i32 0),(.int .i32 0),(.int .i32 0)] [(0,1,(.tmp 97))]),
 ⟨none,.stn 4 (.tmp 12) (.tmp 98),none⟩])
 (.ret))
 (.skip)))
 (.seq (.seq (.reg [vX 99 0,
 oX 100 (bK .eql 99 20)])
 (.cond (.tmp 100)
 (.seq (.reg [oX 101 (.ldn 4 (.tmp 9)),
 vX 102 2,
 oX 103 (.call 61 [(.tmp 101),(.tmp 102)]),
 oX 104 (.build [(.int .i32 0),(.int .i32 0),(.int .i32 0),(.int .i32 0)] [(0,1,(.tmp 103))]),
 ⟨none,.stn 4 (.tmp 12) (.tmp 104),none⟩])
 (.ret))
 (.skip)))
 (.seq (.seq (.reg [vX 105 0,
 oX 106 (bK .eql 105 21)])
 (.cond (.tmp 106)
 (.seq (.reg [oX 107 (.ldn 4 (.tmp 9)),
 oX 108 (.ldn 4 (.tmp 10)),
 oX 109 (.call 62 [(.tmp 107),(.tmp 108)]),
 ⟨none,.stn 4 (.tmp 12) (.tmp 109),none⟩])
 (.ret))
 (.skip)))
 (.seq (.reg [oX 13 (.alloc 28 [(.int .i32 0),(.int .i32 0),(.int .i32 0),(.int .i32 0)])])
 (.seq (.seq (.reg [oX 14 (.mv (kX 0))])
 (.block 0 (.loop (.seq (.seq (.reg [vX 110 14,
 vX 111 2,
 oX 112 (bX .lss 110 111)])
 (.cond (.tmp 112)
 (.skip)
 (.exit 0)))
 (.seq (.block 1 (.seq (.reg [vX 115 1,
 oX 116 (bK .eql 115 2)])
 (.cond (.tmp 116)
 (.any [(true,0,[],vX 117 14),
 (true,1,[],vX 118 0),
 (true,2,[],vX 119 14),
 (true,3,[],oX 120 (.ia 4 1 (.tmp 9) (.tmp 119))),
 (true,4,[],oX 121 (.ld1 (.tmp 120))),
 (true,5,[],oX 122 (.conv .i64 (.tmp 121))),
 (false,6,[0,1,2,3,4,5],vX 123 14),
 (false,7,[0,1,2,3,4,5],oX 124 (.ia 4 1 (.tmp 10) (.tmp 123))),
 (false,8,[0,1,2,3,4,5],oX 125 (.ld1 (.tmp 124))),
 (false,9,[0,1,2,3,4,5],oX 126 (.conv .i64 (.tmp 125))),
 (false,10,[0],oX 127 (.call 63 [(.tmp 118),(.tmp 122),(.tmp 126)])),
 (false,11,[],oX 128 (.ia 4 1 (.tmp 13) (.tmp 117))),
 (false,12,[],⟨none,.st1 (.tmp 128) (.tmp 127),none⟩)])
 (.seq (.reg [vX 129 0,
 oX 130 (bK .geq 129 24),
 vX 131 130,
 ⟨(some 132),.mv (.tmp 0),(some (131,true))⟩,
 ⟨(some 133),bK .leq 132 27,(some (131,true))⟩,
 oX 134 (.pick (.tmp 131) (.tmp 133) (.const (.bool false)))])
 (.cond (.tmp 134)
 (.any [(true,0,[],vX 135 14),
 (true,1,[],vX 136 0),
 (true,2,[],oX 137 (bK .sub 136 24)),
 (true,3,[],vX 138 14),
 (true,4,[],oX 139 (.ia 4 1 (.tmp 9) (.tmp 138))),
 (true,5,[],oX 140 (.ld1 (.tmp 139))),
 (false,6,[0,1,2,3,4,5],vX 141 14),
 (false,7,[0,1,2,3,4,5],oX 142 (.ia 4 1 (.tmp 10) (.tmp 141))),
 (false,8,[0,1,2,3,4,5],oX 143 (.ld1 (.tmp 142))),
 (false,9,[0],oX 144 (.call 64 [(.tmp 137),(.tmp 140),(.tmp 143)])),
 (false,10,[],oX 145 (.ia 4 1 (.tmp 13) (.tmp 135))),
 (false,11,[],⟨none,.st1 (.tmp 145) (.tmp 144),none⟩)])
 (.seq (.reg [vX 146 0,
 oX 147 (bK .eql 146 28)])
 (.cond (.tmp 147)
 (.reg [vX 148 14,
 vX 149 14,
 oX 150 (.ia 4 1 (.tmp 9) (.tmp 149)),
 oX 151 (.ld1 (.tmp 150)),
 oX 152 (.call 65 [(.tmp 151)]),
 oX 153 (.ia 4 1 (.tmp 13) (.tmp 148)),
 ⟨none,.st1 (.tmp 153) (.tmp 152),none⟩])
 (.seq (.reg [vX 154 0,
 oX 155 (bK .eql 154 15)])
 (.cond (.tmp 155)
 (.any [(true,0,[],vX 156 14),
 (true,1,[],vX 157 14),
 (true,2,[],oX 158 (.ia 4 1 (.tmp 9) (.tmp 157))),
 (true,3,[],oX 159 (.ld1 (.tmp 158))),
 (false,4,[0,1,2,3],vX 160 14),
 (false,5,[0,1,2,3],oX 161 (.ia 4 1 (.tmp 10) (.tmp 160))),
 (false,6,[0,1,2,3],oX 162 (.ld1 (.tmp 161))),
 (false,7,[0],oX 163 (.call 66 [(.tmp 159),(.tmp 162)])),
 (false,8,[],oX 164 (.ia 4 1 (.tmp 13) (.tmp 156))),
 (false,9,[],⟨none,.st1 (.tmp 164) (.tmp 163),none⟩)])
 (.seq (.reg [vX 165 0,
 oX 166 (bK .geq 165 12),
 vX 167 166,
 ⟨(some 168),.mv (.tmp 0),(some (167,true))⟩,
 ⟨(some 169),bK .leq 168 14,(some (167,true))⟩,
 oX 170 (.pick (.tmp 167) (.tmp 169) (.const (.bool false)))])
 (.cond (.tmp 170)
 (.any [(true,0,[],vX 171 14),
 (true,1,[],vX 172 0),
 (true,2,[],oX 173 (bK .sub 172 8)),
 (true,3,[],vX 174 14),
 (true,4,[],oX 175 (.ia 4 1 (.tmp 9) (.tmp 174))),
 (true,5,[],oX 176 (.ld1 (.tmp 175))),
 (false,6,[0,1,2,3,4,5],vX 177 14),
 (false,7,[0,1,2,3,4,5],oX 178 (.ia 4 1 (.tmp 10) (.tmp 177))),
 (false,8,[0,1,2,3,4,5],oX 179 (.ld1 (.tmp 178))),
 (false,9,[0],oX 180 (.call 64 [(.tmp 173),(.tmp 176),(.tmp 179)])),
 (false,10,[],oX 181 (.ia 4 1 (.tmp 13) (.tmp 171))),
 (false,11,[],⟨none,.st1 (.tmp 181) (.tmp 180),none⟩)])
 (.seq (.reg [vX 182 0,
 oX 183 (bK .eql 182 16)])
 (.cond (.tmp 183)
 (.any [(true,0,[],vX 184 14),
 (true,1,[],vX 185 14),
 (true,2,[],oX 186 (.ia 4 1 (.tmp 9) (.tmp 185))),
 (true,3,[],oX 187 (.ld1 (.tmp 186))),
 (false,4,[0,1,2,3],vX 188 14),
 (false,5,[0,1,2,3],oX 189 (.ia 4 1 (.tmp 10) (.tmp 188))),
 (false,6,[0,1,2,3],oX 190 (.ld1 (.tmp 189))),
 (false,7,[0],oX 191 (.call 64 [(kX 7),(.tmp 187),(.tmp 190)])),
 (false,8,[],oX 192 (.ia 4 1 (.tmp 13) (.tmp 184))),
 (false,9,[],⟨none,.st1 (.tmp 192) (.tmp 191),none⟩)])
 (.reg [vX 193 14,
 vX 194 0,
 vX 195 14,
 oX 196 (.ia 4 1 (.tmp 9) (.tmp 195)),
 oX 197 (.ld1 (.tmp 196)),
 oX 198 (.call 67 [(.tmp 194),(.tmp 197)]),
 oX 199 (.ia 4 1 (.tmp 13) (.tmp 193)),
 ⟨none,.st1 (.tmp 199) (.tmp 198),none⟩]))))))))))))))
 (.reg [vX 113 14,
 oX 114 (bK .add 113 1),
 vX 14 114]))))))
 (.seq (.reg [oX 200 (.ldn 4 (.tmp 13)),
 ⟨none,.stn 4 (.tmp 12) (.tmp 200),none⟩])
 (.ret))))))))))))))))
theorem k33 : fnOk Tryz.prog 33 = some (M33, [.cn 4 12], 201) := by kernel_rfl
/- paintboxref15 one -/
def M39 : MC :=
  .seq (.reg [oX 2 (.mv (.const (.int .i32 0)))])
 (.seq (.seq (.reg [vX 3 0])
 (.cond (.tmp 3)
 (.seq (.reg [oX 2 (.mv (.const (.int .i32 1)))])
 (.ret))
 (.skip)))
 (.seq (.reg [oX 2 (.mv (.const (.int .i32 0)))])
 (.ret)))
theorem k39 : fnOk Tryz.prog 39 = some (M39, [.t 2], 4) := by kernel_rfl
/- paintboxref15 alike -/
def M56 : MC :=
  .seq (.reg [oX 4 (.box 28 (.tmp 1)),
 oX 5 (.box 28 (.tmp 2)),
 oX 6 (.mv (.const (.bool false)))])
 (.seq (.seq (.reg [oX 7 (.mv (kX 0))])
 (.block 0 (.loop (.seq (.seq (.reg [vX 8 7,
 vX 9 0,
 oX 10 (bX .lss 8 9)])
 (.cond (.tmp 10)
 (.skip)
 (.exit 0)))
 (.seq (.block 1 (.seq (.any [(true,0,[],vX 13 7),
 (true,1,[],oX 14 (.ia 4 1 (.tmp 4) (.tmp 13))),
 (true,2,[],oX 15 (.ld1 (.tmp 14))),
 (false,3,[0,1,2],vX 16 7),
 (false,4,[0,1,2],oX 17 (.ia 4 1 (.tmp 5) (.tmp 16))),
 (false,5,[0,1,2],oX 18 (.ld1 (.tmp 17))),
 (false,6,[],oX 19 (bX .neq 15 18))])
 (.cond (.tmp 19)
 (.seq (.reg [oX 6 (.mv (.const (.bool false)))])
 (.ret))
 (.skip))))
 (.reg [vX 11 7,
 oX 12 (bK .add 11 1),
 vX 7 12]))))))
 (.seq (.reg [oX 6 (.mv (.const (.bool true)))])
 (.ret)))
theorem k56 : fnOk Tryz.prog 56 = some (M56, [.t 6], 20) := by kernel_rfl

theorem r_loop (fn bs n : Int) (a b c g : Nat → Int) (hn : 1 ≤ n ∧ n ≤ 4) (ha : ∀ i, I32 (a i)) (hb : ∀ i, I32 (b i))
    (hx : (bs = 2 ∧ (24 ≤ fn ∧ fn ≤ 28) ∧ ∀ (i : Nat) (G : Heap) (K' : Value → Heap → Prop), i < 4 → K' (.int .i32 (g i)) G → HCalls Tryz.prog w0 63 [.int .i64 fn, .int .i64 (a i), .int .i64 (b i)] G K')
      ∨ (¬ bs = 2 ∧ (24 ≤ fn ∧ fn ≤ 27) ∧ ∀ (i : Nat) (G : Heap) (K' : Value → Heap → Prop), i < 4 → K' (.int .i32 (g i)) G → HCalls Tryz.prog w0 64 [.int .i64 (fn - 24), .int .i32 (a i), .int .i32 (b i)] G K')
      ∨ (¬ bs = 2 ∧ fn = 28 ∧ ∀ (i : Nat) (G : Heap) (K' : Value → Heap → Prop), i < 4 → K' (.int .i32 (g i)) G → HCalls Tryz.prog w0 65 [.int .i32 (a i)] G K')
      ∨ (¬ bs = 2 ∧ fn = 15 ∧ ∀ (i : Nat) (G : Heap) (K' : Value → Heap → Prop), i < 4 → K' (.int .i32 (g i)) G → HCalls Tryz.prog w0 66 [.int .i32 (a i), .int .i32 (b i)] G K')
      ∨ (¬ bs = 2 ∧ (12 ≤ fn ∧ fn ≤ 14) ∧ ∀ (i : Nat) (G : Heap) (K' : Value → Heap → Prop), i < 4 → K' (.int .i32 (g i)) G → HCalls Tryz.prog w0 64 [.int .i64 (fn - 8), .int .i32 (a i), .int .i32 (b i)] G K')
      ∨ (¬ bs = 2 ∧ fn = 16 ∧ ∀ (i : Nat) (G : Heap) (K' : Value → Heap → Prop), i < 4 → K' (.int .i32 (g i)) G → HCalls Tryz.prog w0 64 [.int .i64 7, .int .i32 (a i), .int .i32 (b i)] G K')
      ∨ (¬ bs = 2 ∧ (1 ≤ fn ∧ fn ≤ 10) ∧ ∀ (i : Nat) (G : Heap) (K' : Value → Heap → Prop), i < 4 → K' (.int .i32 (g i)) G → HCalls Tryz.prog w0 67 [.int .i64 fn, .int .i32 (a i)] G K'))
    (h : K (VV (fst n g)) H) : HCalls Tryz.prog w0 33 [.int .i64 fn, .int .i64 bs, .int .i64 n, VV a, VV b, VV c] H K := by
  have hwa : ∀ i, IntKind.i64.wrap (a i) = a i := fun i => (ha i).w64
  have hwb : ∀ i, IntKind.i64.wrap (b i) = b i := fun i => (hb i).w64
  clear ha hb
  replace h : Keep _ := h
  replace hn : Keep _ := hn
  rcases hx with ⟨p1, hf, i1⟩ | ⟨p1, hf, i1⟩ | ⟨p1, hf, i1⟩ | ⟨p1, hf, i1⟩ | ⟨p1, hf, i1⟩ | ⟨p1, hf, i1⟩ | ⟨p1, hf, i1⟩
  all_goals
    replace i1 : Keep _ := i1
    have q1 : ¬ fn = 29 := by omega
    have q2 : ¬ fn = 30 := by omega
    have q3 : ¬ fn = 31 := by omega
    have q4 : ¬ fn = 32 := by omega
    have q5 : ¬ fn = 33 := by omega
    have q6 : ¬ fn = 34 := by omega
    have q7 : ¬ fn = 35 := by omega
    have q8 : ¬ fn = 11 := by omega
    have q9 : ¬ fn = 17 := by omega
    have q10 : ¬ fn = 18 := by omega
    have q11 : ¬ fn = 19 := by omega
    have q12 : ¬ fn = 20 := by omega
    have q13 : ¬ fn = 21 := by omega
    first | have p2 : 24 ≤ fn := by omega | have p2 : ¬ 24 ≤ fn := by omega
    try first | have p3 : fn ≤ 27 := by omega | have p3 : ¬ fn ≤ 27 := by omega
    try first | have p4 : fn = 28 := by omega | have p4 : ¬ fn = 28 := by omega
    first | have p5 : fn = 15 := by omega | have p5 : ¬ fn = 15 := by omega
    first | have p6 : 12 ≤ fn := by omega | have p6 : ¬ 12 ≤ fn := by omega
    try first | have p7 : fn ≤ 14 := by omega | have p7 : ¬ fn ≤ 14 := by omega
    first | have p8 : fn = 16 := by omega | have p8 : ¬ fn = 16 := by omega
    have e1 : IntKind.i64.wrap (fn - 24) = fn - 24 := Bw.1 _ (by omega) (by omega)
    have e2 : IntKind.i64.wrap (fn - 8) = fn - 8 := Bw.1 _ (by omega) (by omega)
    clear hf
    refine HL.hc k33 999 ?_; unfold M33
    (all_goals (try simp only [S0,putAt,List.replicate,Int.reduceAdd,Int.reduceSub,Int.reduceMul,Int.reduceTDiv,Int.reduceTMod,Int.reduceMod,Int.reduceDiv,Nat.reduceLT,Nat.reduceEqDiff,Int.reduceLE,Int.reduceLT,Int.reduceToNat,Int.reduceNeg,Int.reduceEq,Nat.reduceLeDiff,Nat.reducePow,Int.reducePow,reduceIte,Nat.reduceSub,Nat.reduceAdd,Nat.reduceMul, *])); repeat' ((first | (with_reducible refine fun _ : True => ?_) | (with_reducible refine any_h ?_) | ((first | refine AllocQ_i ?_ | refine AllocO_i ?_); intro bk hb0 hbk; (try simp only [set_none'] at hbk)) | ((first | refine condS_i ?_ ?_ | refine pick_i ?_ ?_ | refine gS_it ?_ ?_ | refine gS_if ?_ ?_ | refine gP_it ?_ ?_ | refine gP_if ?_ ?_) <;> (intro hc; try simp only [Int.reduceLE,Int.reduceLT,Int.reduceEq,Sn] at hc)) | (with_reducible refine KP_i ?_ ?_; · exact aL) | (with_reducible refine And.intro ?_ ?_)) <;> (try simp only [S0,putAt,List.replicate,Int.reduceAdd,Int.reduceSub,Int.reduceMul,Int.reduceTDiv,Int.reduceTMod,Int.reduceMod,Int.reduceDiv,Nat.reduceLT,Nat.reduceEqDiff,Int.reduceLE,Int.reduceLT,Int.reduceToNat,Int.reduceNeg,Int.reduceEq,Nat.reduceLeDiff,Nat.reducePow,Int.reducePow,reduceIte,Nat.reduceSub,Nat.reduceAdd,Nat.reduceMul, *]))
    rename_i b9 hb9 hn9 b10 hb10 hn10 b11 hb11 hn11 b12 hb12 hn12
    refine loop_g 109 (fun s : Nat => [(14, .int .i64 (s : Nat))]) (fun s => ((((H.set b9 ⟨28, VC a⟩).set b10 ⟨28, VC b⟩).set b11 ⟨28, VC c⟩).set b12 ⟨28, [.int .i32 0, .int .i32 0, .int .i32 0, .int .i32 0]⟩).set bk ⟨28, VC (fst (s : Nat) g)⟩) (fun s => (s : Int) ≤ n) (fun s => (n - s).toNat) 0 (by have := (show _ ∧ _ from hn); show ((0 : Nat) : Int) ≤ n; omega) (Heap.Le.refl _) rfl ?_
    intro s f hs
    have hn2 : 1 ≤ n ∧ n ≤ 4 := hn
    rcases Int.lt_or_le (s : Int) n with t0 | t0
    · have hi : s < 4 := by omega
      have t1 : (0 : Int) ≤ (s : Int) := by omega
      have t2 : (s : Int) < 4 := by omega
      have t3 : ((s : Nat) : Int).toNat = s := rfl
      have t4 : s * 1 = s := Nat.mul_one s
      have ra : ([.int .i32 (a 0), .int .i32 (a 1), .int .i32 (a 2), .int .i32 (a 3)] : List Value)[s]? = some (.int .i32 (a s)) := vc_at a hi
      have rb : ([.int .i32 (b 0), .int .i32 (b 1), .int .i32 (b 2), .int .i32 (b 3)] : List Value)[s]? = some (.int .i32 (b s)) := vc_at b hi
      have hset : ([.int .i32 (fst (s : Nat) g 0), .int .i32 (fst (s : Nat) g 1), .int .i32 (fst (s : Nat) g 2), .int .i32 (fst (s : Nat) g 3)] : List Value).set s (.int .i32 (g s)) = VC (fst ((s + 1 : Nat) : Int) g) := vc_set g hi
      have t5 : IntKind.i64.wrap ((s : Int) + 1) = ((s + 1 : Nat) : Int) := by rw [Bw.1 _ (by omega) (by omega)]; simp
      have ga := hwa s
      have gb := hwb s
      have ic := fun G K' => i1 s G K' hi
      have mu : (n - ((s + 1 : Nat) : Int)).toNat < (n - (s : Int)).toNat ∧ ((s + 1 : Nat) : Int) ≤ n := by omega
      replace ic : Keep _ := ic
      replace mu : Keep _ := mu
      clear hwa hwb i1 hn2 hs
      (all_goals (try simp only [S0,putAt,List.replicate,Int.reduceAdd,Int.reduceSub,Int.reduceMul,Int.reduceTDiv,Int.reduceTMod,Int.reduceMod,Int.reduceDiv,Nat.reduceLT,Nat.reduceEqDiff,Int.reduceLE,Int.reduceLT,Int.reduceToNat,Int.reduceNeg,Int.reduceEq,Nat.reduceLeDiff,Nat.reducePow,Int.reducePow,reduceIte,Nat.reduceSub,Nat.reduceAdd,Nat.reduceMul, *])); repeat' ((first | (with_reducible refine fun _ : True => ?_) | refine ic _ _ ?_ | (with_reducible refine any_h ?_) | ((first | refine AllocQ_i ?_ | refine AllocO_i ?_); intro bk hb0 hbk; (try simp only [set_none'] at hbk)) | ((first | refine condS_i ?_ ?_ | refine pick_i ?_ ?_ | refine gS_it ?_ ?_ | refine gS_if ?_ ?_ | refine gP_it ?_ ?_ | refine gP_if ?_ ?_) <;> (intro hc; try simp only [Int.reduceLE,Int.reduceLT,Int.reduceEq,Sn] at hc)) | (with_reducible refine KP_i ?_ ?_; · exact aL) | (with_reducible refine And.intro ?_ ?_)) <;> (try simp only [S0,putAt,List.replicate,Int.reduceAdd,Int.reduceSub,Int.reduceMul,Int.reduceTDiv,Int.reduceTMod,Int.reduceMod,Int.reduceDiv,Nat.reduceLT,Nat.reduceEqDiff,Int.reduceLE,Int.reduceLT,Int.reduceToNat,Int.reduceNeg,Int.reduceEq,Nat.reduceLeDiff,Nat.reducePow,Int.reducePow,reduceIte,Nat.reduceSub,Nat.reduceAdd,Nat.reduceMul, *]))
      exact Round_mk (s + 1) mu.2 mu.1 (Heap.Le.refl _) rfl rfl
    · obtain rfl : n = (s : Int) := by omega
      have t1 : ¬ (s : Int) < (s : Int) := by omega
      clear hwa hwb i1 hn2 hs t0
      (all_goals (try simp only [S0,putAt,List.replicate,Int.reduceAdd,Int.reduceSub,Int.reduceMul,Int.reduceTDiv,Int.reduceTMod,Int.reduceMod,Int.reduceDiv,Nat.reduceLT,Nat.reduceEqDiff,Int.reduceLE,Int.reduceLT,Int.reduceToNat,Int.reduceNeg,Int.reduceEq,Nat.reduceLeDiff,Nat.reducePow,Int.reducePow,reduceIte,Nat.reduceSub,Nat.reduceAdd,Nat.reduceMul, *])); repeat' ((first | (with_reducible refine fun _ : True => ?_) | (with_reducible refine any_h ?_) | ((first | refine AllocQ_i ?_ | refine AllocO_i ?_); intro bk hb0 hbk; (try simp only [set_none'] at hbk)) | ((first | refine condS_i ?_ ?_ | refine pick_i ?_ ?_ | refine gS_it ?_ ?_ | refine gS_if ?_ ?_ | refine gP_it ?_ ?_ | refine gP_if ?_ ?_) <;> (intro hc; try simp only [Int.reduceLE,Int.reduceLT,Int.reduceEq,Sn] at hc)) | (with_reducible refine KP_i ?_ ?_; · exact aL) | (with_reducible refine And.intro ?_ ?_)) <;> (try simp only [S0,putAt,List.replicate,Int.reduceAdd,Int.reduceSub,Int.reduceMul,Int.reduceTDiv,Int.reduceTMod,Int.reduceMod,Int.reduceDiv,Nat.reduceLT,Nat.reduceEqDiff,Int.reduceLE,Int.reduceLT,Int.reduceToNat,Int.reduceNeg,Int.reduceEq,Nat.reduceLeDiff,Nat.reducePow,Int.reducePow,reduceIte,Nat.reduceSub,Nat.reduceAdd,Nat.reduceMul, *]))
      exact Fin_mk aL h
end Go.Proofs.YtdmnfaefakceiaaGreat
