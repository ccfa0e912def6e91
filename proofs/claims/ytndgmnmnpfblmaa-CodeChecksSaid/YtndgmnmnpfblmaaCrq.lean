/- Whether an instruction may be at its place, by the document (layer 16). -/
import Derived.Test.YtndgmnmnpfblmaaCrp
set_option linter.unusedSimpArgs false
set_option linter.unusedVariables false
set_option maxRecDepth 100000
set_option maxHeartbeats 4000000
namespace Go.Proofs.Ytndgmnmnpfblmaa
open Go.HL Go.RowKit Pb
variable {w0 : World} {H : Heap} {K : Value → Heap → Prop}

def rightB (c : Cd) (k : Int) (i : Ins) : Bool := legalB c k i && decide (keepI i = i) && (regsL i).all fun r => below r c.rg
theorem rightB_iff {c : Cd} {k : Nat} {i : Ins} : rightB c k i = true ↔ okI c k i := by
  unfold rightB okI
  simp only [Bool.and_eq_true, decide_eq_true_eq, List.all_eq_true, and_assoc]
/- paintboxref16 Right -/
def M52 : MC :=
  .seq (.reg [⟨(some 2), .box 34 (.tmp 0), none⟩,
 ⟨(some 4), .mv (.const (.bool false)), none⟩])
 (.seq (.reg [⟨(some 10), .fa 1 (.tmp 2), none⟩,
 ⟨(some 11), .ld1 (.tmp 10), none⟩,
 ⟨(some 12), .mv (.tmp 1), none⟩,
 ⟨(some 13), .is 16 (.tmp 11) (.tmp 12), none⟩,
 ⟨(some 14), .ldn 16 (.tmp 13), none⟩,
 ⟨(some 5), .alloc 30 [(.int .i64 0), (.int .i64 0), (.int .i64 0), (.int .i64 0), (.int .i64 0), (.int .i64 0), (.int .i64 0), (.int .i64 0), (.int .i32 0), (.int .i32 0), (.int .i32 0), (.int .i32 0), (.int .i64 0), (.int .i64 0), (.int .i64 0), (.int .i64 0)], none⟩,
 ⟨none, .stn 16 (.tmp 5) (.tmp 14), none⟩])
 (.seq (.reg [⟨(some 15), .fa 0 (.tmp 2), none⟩,
 ⟨(some 16), .ld1 (.tmp 15), none⟩,
 ⟨(some 17), .bin .eql (.tmp 16) (.const (.int .i64 1)), none⟩,
 ⟨(some 6), .mv (.tmp 17), none⟩])
 (.seq (.reg [⟨(some 18), .fa 0 (.tmp 5), none⟩,
 ⟨(some 19), .ld1 (.tmp 18), none⟩,
 ⟨(some 20), .build [(.int .i64 0), (.int .i64 0), (.int .i64 0), (.int .i64 0), (.int .i64 0), (.int .i64 0), (.int .i64 0), (.int .i64 0), (.int .i32 0), (.int .i32 0), (.int .i32 0), (.int .i32 0), (.int .i64 0), (.int .i64 0), (.int .i64 0), (.int .i64 0)] [(0, 1, (.tmp 19))], none⟩,
 ⟨(some 7), .alloc 30 [(.int .i64 0), (.int .i64 0), (.int .i64 0), (.int .i64 0), (.int .i64 0), (.int .i64 0), (.int .i64 0), (.int .i64 0), (.int .i32 0), (.int .i32 0), (.int .i32 0), (.int .i32 0), (.int .i64 0), (.int .i64 0), (.int .i64 0), (.int .i64 0)], none⟩,
 ⟨none, .stn 16 (.tmp 7) (.tmp 20), none⟩])
 (.seq (.reg [⟨(some 8), .mv (.const (.bool false)), none⟩])
 (.seq (.seq (.reg [⟨(some 21), .fa 0 (.tmp 5), none⟩,
 ⟨(some 22), .ld1 (.tmp 21), none⟩])
 (.block 0 (.seq (.reg [⟨(some 24), .bin .eql (.tmp 22) (.const (.int .i64 1)), none⟩,
 ⟨(some 23), .mv (.tmp 24), none⟩])
 (.cond (.tmp 23)
 (.seq (.any [(true, 0, [], ⟨(some 25), .fa 4 (.tmp 5), none⟩),
 (true, 1, [], ⟨(some 26), .ld1 (.tmp 25), none⟩),
 (true, 2, [], ⟨(some 27), .fa 8 (.tmp 5), none⟩),
 (true, 3, [], ⟨(some 28), .ldn 4 (.tmp 27), none⟩),
 (false, 4, [2, 3], ⟨(some 29), .fa 4 (.tmp 7), none⟩),
 (false, 5, [2, 3], ⟨none, .st1 (.tmp 29) (.tmp 26), none⟩),
 (false, 6, [], ⟨(some 30), .fa 8 (.tmp 7), none⟩),
 (false, 7, [], ⟨none, .stn 4 (.tmp 30) (.tmp 28), none⟩)])
 (.reg [⟨(some 31), .fa 4 (.tmp 5), none⟩,
 ⟨(some 32), .ld1 (.tmp 31), none⟩,
 ⟨(some 33), .fa 2 (.tmp 2), none⟩,
 ⟨(some 34), .ld1 (.tmp 33), none⟩,
 ⟨(some 35), .call 51 [(.tmp 32), (.tmp 34)], none⟩,
 ⟨(some 8), .mv (.tmp 35), none⟩]))
 (.seq (.reg [⟨(some 37), .bin .eql (.tmp 22) (.const (.int .i64 2)), none⟩,
 ⟨(some 36), .mv (.tmp 37), none⟩])
 (.cond (.tmp 36)
 (.seq (.any [(true, 0, [], ⟨(some 38), .fa 4 (.tmp 5), none⟩),
 (true, 1, [], ⟨(some 39), .ld1 (.tmp 38), none⟩),
 (true, 2, [], ⟨(some 40), .fa 5 (.tmp 5), none⟩),
 (true, 3, [], ⟨(some 41), .ld1 (.tmp 40), none⟩),
 (false, 4, [2, 3], ⟨(some 42), .fa 4 (.tmp 7), none⟩),
 (false, 5, [2, 3], ⟨none, .st1 (.tmp 42) (.tmp 39), none⟩),
 (false, 6, [], ⟨(some 43), .fa 5 (.tmp 7), none⟩),
 (false, 7, [], ⟨none, .st1 (.tmp 43) (.tmp 41), none⟩)])
 (.reg [⟨(some 44), .fa 4 (.tmp 5), none⟩,
 ⟨(some 45), .ld1 (.tmp 44), none⟩,
 ⟨(some 46), .fa 2 (.tmp 2), none⟩,
 ⟨(some 47), .ld1 (.tmp 46), none⟩,
 ⟨(some 48), .call 51 [(.tmp 45), (.tmp 47)], none⟩,
 ⟨(some 49), .mv (.tmp 48), none⟩,
 ⟨(some 50), .fa 5 (.tmp 5), (some (49, true))⟩,
 ⟨(some 51), .ld1 (.tmp 50), (some (49, true))⟩,
 ⟨(some 52), .fa 2 (.tmp 2), (some (49, true))⟩,
 ⟨(some 53), .ld1 (.tmp 52), (some (49, true))⟩,
 ⟨(some 54), .call 51 [(.tmp 51), (.tmp 53)], (some (49, true))⟩,
 ⟨(some 55), .pick (.tmp 49) (.tmp 54) (.const (.bool false)), none⟩,
 ⟨(some 8), .mv (.tmp 55), none⟩]))
 (.seq (.reg [⟨(some 57), .bin .eql (.tmp 22) (.const (.int .i64 3)), none⟩,
 ⟨(some 56), .mv (.tmp 57), none⟩])
 (.cond (.tmp 56)
 (.seq (.any [(true, 0, [], ⟨(some 58), .fa 4 (.tmp 5), none⟩),
 (true, 1, [], ⟨(some 59), .ld1 (.tmp 58), none⟩),
 (true, 2, [], ⟨(some 60), .fa 1 (.tmp 5), none⟩),
 (true, 3, [], ⟨(some 61), .ld1 (.tmp 60), none⟩),
 (true, 4, [], ⟨(some 62), .fa 5 (.tmp 5), none⟩),
 (true, 5, [], ⟨(some 63), .ld1 (.tmp 62), none⟩),
 (false, 6, [2, 3, 4, 5], ⟨(some 64), .fa 4 (.tmp 7), none⟩),
 (false, 7, [2, 3, 4, 5], ⟨none, .st1 (.tmp 64) (.tmp 59), none⟩),
 (false, 8, [4, 5], ⟨(some 65), .fa 1 (.tmp 7), none⟩),
 (false, 9, [4, 5], ⟨none, .st1 (.tmp 65) (.tmp 61), none⟩),
 (false, 10, [], ⟨(some 66), .fa 5 (.tmp 7), none⟩),
 (false, 11, [], ⟨none, .st1 (.tmp 66) (.tmp 63), none⟩)])
 (.seq (.seq (.reg [⟨(some 67), .fa 1 (.tmp 5), none⟩,
 ⟨(some 68), .ld1 (.tmp 67), none⟩])
 (.block 1 (.seq (.reg [⟨(some 70), .bin .eql (.tmp 68) (.const (.int .i64 1)), none⟩,
 ⟨(some 69), .mv (.tmp 70), none⟩])
 (.cond (.tmp 69)
 (.reg [⟨(some 71), .mv (.tmp 6), none⟩,
 ⟨(some 72), .mv (.tmp 71), none⟩,
 ⟨(some 73), .fa 5 (.tmp 5), (some (72, true))⟩,
 ⟨(some 74), .ld1 (.tmp 73), (some (72, true))⟩,
 ⟨(some 75), .fa 3 (.tmp 2), (some (72, true))⟩,
 ⟨(some 76), .ld1 (.tmp 75), (some (72, true))⟩,
 ⟨(some 77), .call 51 [(.tmp 74), (.tmp 76)], (some (72, true))⟩,
 ⟨(some 78), .pick (.tmp 72) (.tmp 77) (.const (.bool false)), none⟩,
 ⟨(some 8), .mv (.tmp 78), none⟩])
 (.seq (.reg [⟨(some 80), .bin .eql (.tmp 68) (.const (.int .i64 2)), none⟩,
 ⟨(some 79), .mv (.tmp 80), none⟩])
 (.cond (.tmp 79)
 (.reg [⟨(some 81), .fa 5 (.tmp 5), none⟩,
 ⟨(some 82), .ld1 (.tmp 81), none⟩,
 ⟨(some 83), .fa 4 (.tmp 2), none⟩,
 ⟨(some 84), .ld1 (.tmp 83), none⟩,
 ⟨(some 85), .call 51 [(.tmp 82), (.tmp 84)], none⟩,
 ⟨(some 8), .mv (.tmp 85), none⟩])
 (.seq (.reg [⟨(some 87), .bin .eql (.tmp 68) (.const (.int .i64 3)), none⟩,
 ⟨(some 86), .mv (.tmp 87), none⟩])
 (.cond (.tmp 86)
 (.reg [⟨(some 88), .mv (.tmp 6), none⟩,
 ⟨(some 89), .un .not (.tmp 88), none⟩,
 ⟨(some 90), .mv (.tmp 89), none⟩,
 ⟨(some 91), .fa 5 (.tmp 5), (some (90, true))⟩,
 ⟨(some 92), .ld1 (.tmp 91), (some (90, true))⟩,
 ⟨(some 93), .fa 5 (.tmp 2), (some (90, true))⟩,
 ⟨(some 94), .ld1 (.tmp 93), (some (90, true))⟩,
 ⟨(some 95), .call 51 [(.tmp 92), (.tmp 94)], (some (90, true))⟩,
 ⟨(some 96), .pick (.tmp 90) (.tmp 95) (.const (.bool false)), none⟩,
 ⟨(some 8), .mv (.tmp 96), none⟩])
 (.seq (.seq (.reg [⟨(some 98), .bin .eql (.tmp 68) (.const (.int .i64 4)), none⟩,
 ⟨(some 97), .mv (.tmp 98), none⟩])
 (.cond (.tmp 97)
 (.skip)
 (.seq (.reg [⟨(some 99), .bin .eql (.tmp 68) (.const (.int .i64 5)), none⟩,
 ⟨(some 97), .mv (.tmp 99), none⟩])
 (.cond (.tmp 97)
 (.skip)
 (.reg [⟨(some 100), .bin .eql (.tmp 68) (.const (.int .i64 6)), none⟩,
 ⟨(some 97), .mv (.tmp 100), none⟩])))))
 (.cond (.tmp 97)
 (.reg [⟨(some 101), .mv (.tmp 6), none⟩,
 ⟨(some 102), .un .not (.tmp 101), none⟩,
 ⟨(some 103), .mv (.tmp 102), none⟩,
 ⟨(some 104), .fa 5 (.tmp 5), (some (103, true))⟩,
 ⟨(some 105), .ld1 (.tmp 104), (some (103, true))⟩,
 ⟨(some 106), .bin .eql (.tmp 105) (.const (.int .i64 0)), (some (103, true))⟩,
 ⟨(some 107), .pick (.tmp 103) (.tmp 106) (.const (.bool false)), none⟩,
 ⟨(some 8), .mv (.tmp 107), none⟩])
 (.skip)))))))))))
 (.reg [⟨(some 108), .mv (.tmp 8), none⟩,
 ⟨(some 109), .mv (.tmp 108), none⟩,
 ⟨(some 110), .fa 4 (.tmp 5), (some (109, true))⟩,
 ⟨(some 111), .ld1 (.tmp 110), (some (109, true))⟩,
 ⟨(some 112), .fa 2 (.tmp 2), (some (109, true))⟩,
 ⟨(some 113), .ld1 (.tmp 112), (some (109, true))⟩,
 ⟨(some 114), .call 51 [(.tmp 111), (.tmp 113)], (some (109, true))⟩,
 ⟨(some 115), .pick (.tmp 109) (.tmp 114) (.const (.bool false)), none⟩,
 ⟨(some 8), .mv (.tmp 115), none⟩])))
 (.seq (.reg [⟨(some 117), .bin .eql (.tmp 22) (.const (.int .i64 4)), none⟩,
 ⟨(some 116), .mv (.tmp 117), none⟩])
 (.cond (.tmp 116)
 (.seq (.any [(true, 0, [], ⟨(some 118), .fa 1 (.tmp 5), none⟩),
 (true, 1, [], ⟨(some 119), .ld1 (.tmp 118), none⟩),
 (true, 2, [], ⟨(some 120), .fa 5 (.tmp 5), none⟩),
 (true, 3, [], ⟨(some 121), .ld1 (.tmp 120), none⟩),
 (true, 4, [], ⟨(some 122), .fa 6 (.tmp 5), none⟩),
 (true, 5, [], ⟨(some 123), .ld1 (.tmp 122), none⟩),
 (false, 6, [2, 3, 4, 5], ⟨(some 124), .fa 1 (.tmp 7), none⟩),
 (false, 7, [2, 3, 4, 5], ⟨none, .st1 (.tmp 124) (.tmp 119), none⟩),
 (false, 8, [4, 5], ⟨(some 125), .fa 5 (.tmp 7), none⟩),
 (false, 9, [4, 5], ⟨none, .st1 (.tmp 125) (.tmp 121), none⟩),
 (false, 10, [], ⟨(some 126), .fa 6 (.tmp 7), none⟩),
 (false, 11, [], ⟨none, .st1 (.tmp 126) (.tmp 123), none⟩)])
 (.seq (.seq (.reg [⟨(some 127), .fa 1 (.tmp 5), none⟩,
 ⟨(some 128), .ld1 (.tmp 127), none⟩])
 (.block 2 (.seq (.seq (.reg [⟨(some 130), .bin .eql (.tmp 128) (.const (.int .i64 1)), none⟩,
 ⟨(some 129), .mv (.tmp 130), none⟩])
 (.cond (.tmp 129)
 (.skip)
 (.reg [⟨(some 131), .bin .eql (.tmp 128) (.const (.int .i64 2)), none⟩,
 ⟨(some 129), .mv (.tmp 131), none⟩])))
 (.cond (.tmp 129)
 (.reg [⟨(some 132), .mv (.tmp 6), none⟩,
 ⟨(some 133), .mv (.tmp 132), none⟩,
 ⟨(some 134), .fa 5 (.tmp 5), (some (133, true))⟩,
 ⟨(some 135), .ld1 (.tmp 134), (some (133, true))⟩,
 ⟨(some 136), .bin .eql (.tmp 135) (.const (.int .i64 0)), (some (133, true))⟩,
 ⟨(some 137), .pick (.tmp 133) (.tmp 136) (.const (.bool false)), none⟩,
 ⟨(some 8), .mv (.tmp 137), none⟩])
 (.seq (.reg [⟨(some 139), .bin .eql (.tmp 128) (.const (.int .i64 3)), none⟩,
 ⟨(some 138), .mv (.tmp 139), none⟩])
 (.cond (.tmp 138)
 (.reg [⟨(some 140), .mv (.tmp 6), none⟩,
 ⟨(some 141), .mv (.tmp 140), none⟩,
 ⟨(some 142), .fa 5 (.tmp 5), (some (141, true))⟩,
 ⟨(some 143), .ld1 (.tmp 142), (some (141, true))⟩,
 ⟨(some 144), .fa 5 (.tmp 2), (some (141, true))⟩,
 ⟨(some 145), .ld1 (.tmp 144), (some (141, true))⟩,
 ⟨(some 146), .call 51 [(.tmp 143), (.tmp 145)], (some (141, true))⟩,
 ⟨(some 147), .pick (.tmp 141) (.tmp 146) (.const (.bool false)), none⟩,
 ⟨(some 8), .mv (.tmp 147), none⟩])
 (.seq (.reg [⟨(some 149), .bin .eql (.tmp 128) (.const (.int .i64 4)), none⟩,
 ⟨(some 148), .mv (.tmp 149), none⟩])
 (.cond (.tmp 148)
 (.reg [⟨(some 150), .mv (.tmp 6), none⟩,
 ⟨(some 151), .un .not (.tmp 150), none⟩,
 ⟨(some 152), .mv (.tmp 151), none⟩,
 ⟨(some 153), .fa 5 (.tmp 5), (some (152, true))⟩,
 ⟨(some 154), .ld1 (.tmp 153), (some (152, true))⟩,
 ⟨(some 155), .bin .eql (.tmp 154) (.const (.int .i64 0)), (some (152, true))⟩,
 ⟨(some 156), .pick (.tmp 152) (.tmp 155) (.const (.bool false)), none⟩,
 ⟨(some 8), .mv (.tmp 156), none⟩])
 (.skip)))))))))
 (.reg [⟨(some 157), .mv (.tmp 8), none⟩,
 ⟨(some 158), .mv (.tmp 157), none⟩,
 ⟨(some 159), .fa 6 (.tmp 5), (some (158, true))⟩,
 ⟨(some 160), .ld1 (.tmp 159), (some (158, true))⟩,
 ⟨(some 161), .fa 2 (.tmp 2), (some (158, true))⟩,
 ⟨(some 162), .ld1 (.tmp 161), (some (158, true))⟩,
 ⟨(some 163), .call 51 [(.tmp 160), (.tmp 162)], (some (158, true))⟩,
 ⟨(some 164), .pick (.tmp 158) (.tmp 163) (.const (.bool false)), none⟩,
 ⟨(some 8), .mv (.tmp 164), none⟩])))
 (.seq (.reg [⟨(some 166), .bin .eql (.tmp 22) (.const (.int .i64 5)), none⟩,
 ⟨(some 165), .mv (.tmp 166), none⟩])
 (.cond (.tmp 165)
 (.seq (.any [(true, 0, [], ⟨(some 167), .fa 4 (.tmp 5), none⟩),
 (true, 1, [], ⟨(some 168), .ld1 (.tmp 167), none⟩),
 (true, 2, [], ⟨(some 169), .fa 1 (.tmp 5), none⟩),
 (true, 3, [], ⟨(some 170), .ld1 (.tmp 169), none⟩),
 (true, 4, [], ⟨(some 171), .fa 2 (.tmp 5), none⟩),
 (true, 5, [], ⟨(some 172), .ld1 (.tmp 171), none⟩),
 (true, 6, [], ⟨(some 173), .fa 3 (.tmp 5), none⟩),
 (true, 7, [], ⟨(some 174), .ld1 (.tmp 173), none⟩),
 (false, 8, [2, 3, 4, 5, 6, 7], ⟨(some 175), .fa 4 (.tmp 7), none⟩),
 (false, 9, [2, 3, 4, 5, 6, 7], ⟨none, .st1 (.tmp 175) (.tmp 168), none⟩),
 (false, 10, [4, 5, 6, 7], ⟨(some 176), .fa 1 (.tmp 7), none⟩),
 (false, 11, [4, 5, 6, 7], ⟨none, .st1 (.tmp 176) (.tmp 170), none⟩),
 (false, 12, [6, 7], ⟨(some 177), .fa 2 (.tmp 7), none⟩),
 (false, 13, [6, 7], ⟨none, .st1 (.tmp 177) (.tmp 172), none⟩),
 (false, 14, [], ⟨(some 178), .fa 3 (.tmp 7), none⟩),
 (false, 15, [], ⟨none, .st1 (.tmp 178) (.tmp 174), none⟩)])
 (.seq (.reg [⟨(some 179), .fa 1 (.tmp 5), none⟩,
 ⟨(some 180), .ld1 (.tmp 179), none⟩,
 ⟨(some 181), .fa 2 (.tmp 5), none⟩,
 ⟨(some 182), .ld1 (.tmp 181), none⟩,
 ⟨(some 183), .call 12 [(.tmp 180), (.tmp 182)], none⟩,
 ⟨(some 9), .mv (.tmp 183), none⟩])
 (.seq (.reg [⟨(some 184), .mv (.tmp 9), none⟩,
 ⟨(some 185), .bin .gtr (.tmp 184) (.const (.int .i64 0)), none⟩,
 ⟨(some 186), .mv (.tmp 185), none⟩,
 ⟨(some 187), .fa 3 (.tmp 5), (some (186, true))⟩,
 ⟨(some 188), .ld1 (.tmp 187), (some (186, true))⟩,
 ⟨(some 189), .bin .geq (.tmp 188) (.const (.int .i64 1)), (some (186, true))⟩,
 ⟨(some 190), .pick (.tmp 186) (.tmp 189) (.const (.bool false)), none⟩,
 ⟨(some 191), .mv (.tmp 190), none⟩,
 ⟨(some 192), .fa 3 (.tmp 5), (some (191, true))⟩,
 ⟨(some 193), .ld1 (.tmp 192), (some (191, true))⟩,
 ⟨(some 194), .bin .leq (.tmp 193) (.const (.int .i64 4)), (some (191, true))⟩,
 ⟨(some 195), .pick (.tmp 191) (.tmp 194) (.const (.bool false)), none⟩,
 ⟨(some 196), .mv (.tmp 195), none⟩,
 ⟨(some 197), .fa 4 (.tmp 5), (some (196, true))⟩,
 ⟨(some 198), .ld1 (.tmp 197), (some (196, true))⟩,
 ⟨(some 199), .fa 2 (.tmp 2), (some (196, true))⟩,
 ⟨(some 200), .ld1 (.tmp 199), (some (196, true))⟩,
 ⟨(some 201), .call 51 [(.tmp 198), (.tmp 200)], (some (196, true))⟩,
 ⟨(some 202), .pick (.tmp 196) (.tmp 201) (.const (.bool false)), none⟩,
 ⟨(some 203), .mv (.tmp 202), none⟩,
 ⟨(some 204), .fa 5 (.tmp 5), (some (203, true))⟩,
 ⟨(some 205), .ld1 (.tmp 204), (some (203, true))⟩,
 ⟨(some 206), .fa 2 (.tmp 2), (some (203, true))⟩,
 ⟨(some 207), .ld1 (.tmp 206), (some (203, true))⟩,
 ⟨(some 208), .call 51 [(.tmp 205), (.tmp 207)], (some (203, true))⟩,
 ⟨(some 209), .pick (.tmp 203) (.tmp 208) (.const (.bool false)), none⟩,
 ⟨(some 210), .mv (.tmp 209), none⟩,
 ⟨(some 211), .mv (.tmp 9), (some (210, true))⟩,
 ⟨(some 212), .bin .lss (.tmp 211) (.const (.int .i64 2)), (some (210, true))⟩,
 ⟨(some 213), .mv (.tmp 212), (some (210, true))⟩,
 ⟨(some 214), .fa 6 (.tmp 5), (some (213, false))⟩,
 ⟨(some 215), .ld1 (.tmp 214), (some (213, false))⟩,
 ⟨(some 216), .fa 2 (.tmp 2), (some (213, false))⟩,
 ⟨(some 217), .ld1 (.tmp 216), (some (213, false))⟩,
 ⟨(some 218), .call 51 [(.tmp 215), (.tmp 217)], (some (213, false))⟩,
 ⟨(some 219), .pick (.tmp 213) (.const (.bool true)) (.tmp 218), (some (210, true))⟩,
 ⟨(some 220), .pick (.tmp 210) (.tmp 219) (.const (.bool false)), none⟩,
 ⟨(some 221), .mv (.tmp 220), none⟩,
 ⟨(some 222), .mv (.tmp 9), (some (221, true))⟩,
 ⟨(some 223), .bin .lss (.tmp 222) (.const (.int .i64 3)), (some (221, true))⟩,
 ⟨(some 224), .mv (.tmp 223), (some (221, true))⟩,
 ⟨(some 225), .fa 7 (.tmp 5), (some (224, false))⟩,
 ⟨(some 226), .ld1 (.tmp 225), (some (224, false))⟩,
 ⟨(some 227), .fa 2 (.tmp 2), (some (224, false))⟩,
 ⟨(some 228), .ld1 (.tmp 227), (some (224, false))⟩,
 ⟨(some 229), .call 51 [(.tmp 226), (.tmp 228)], (some (224, false))⟩,
 ⟨(some 230), .pick (.tmp 224) (.const (.bool true)) (.tmp 229), (some (221, true))⟩,
 ⟨(some 231), .pick (.tmp 221) (.tmp 230) (.const (.bool false)), none⟩,
 ⟨(some 8), .mv (.tmp 231), none⟩])
 (.seq (.seq (.reg [⟨(some 232), .fa 5 (.tmp 5), none⟩,
 ⟨(some 233), .ld1 (.tmp 232), none⟩,
 ⟨(some 234), .fa 5 (.tmp 7), none⟩,
 ⟨none, .st1 (.tmp 234) (.tmp 233), none⟩])
 (.seq (.reg [⟨(some 235), .mv (.tmp 9), none⟩,
 ⟨(some 236), .bin .gtr (.tmp 235) (.const (.int .i64 1)), none⟩])
 (.cond (.tmp 236)
 (.reg [⟨(some 237), .fa 6 (.tmp 5), none⟩,
 ⟨(some 238), .ld1 (.tmp 237), none⟩,
 ⟨(some 239), .fa 6 (.tmp 7), none⟩,
 ⟨none, .st1 (.tmp 239) (.tmp 238), none⟩])
 (.skip))))
 (.seq (.reg [⟨(some 240), .mv (.tmp 9), none⟩,
 ⟨(some 241), .bin .gtr (.tmp 240) (.const (.int .i64 2)), none⟩])
 (.cond (.tmp 241)
 (.reg [⟨(some 242), .fa 7 (.tmp 5), none⟩,
 ⟨(some 243), .ld1 (.tmp 242), none⟩,
 ⟨(some 244), .fa 7 (.tmp 7), none⟩,
 ⟨none, .st1 (.tmp 244) (.tmp 243), none⟩])
 (.skip)))))))
 (.seq (.seq (.reg [⟨(some 246), .bin .eql (.tmp 22) (.const (.int .i64 6)), none⟩,
 ⟨(some 245), .mv (.tmp 246), none⟩])
 (.cond (.tmp 245)
 (.skip)
 (.reg [⟨(some 247), .bin .eql (.tmp 22) (.const (.int .i64 7)), none⟩,
 ⟨(some 245), .mv (.tmp 247), none⟩])))
 (.cond (.tmp 245)
 (.seq (.any [(true, 0, [], ⟨(some 248), .fa 4 (.tmp 5), none⟩),
 (true, 1, [], ⟨(some 249), .ld1 (.tmp 248), none⟩),
 (true, 2, [], ⟨(some 250), .fa 5 (.tmp 5), none⟩),
 (true, 3, [], ⟨(some 251), .ld1 (.tmp 250), none⟩),
 (true, 4, [], ⟨(some 252), .fa 3 (.tmp 5), none⟩),
 (true, 5, [], ⟨(some 253), .ld1 (.tmp 252), none⟩),
 (true, 6, [], ⟨(some 254), .fa 12 (.tmp 5), none⟩),
 (true, 7, [], ⟨(some 255), .ldn 4 (.tmp 254), none⟩),
 (false, 8, [2, 3, 4, 5, 6, 7], ⟨(some 256), .fa 4 (.tmp 7), none⟩),
 (false, 9, [2, 3, 4, 5, 6, 7], ⟨none, .st1 (.tmp 256) (.tmp 249), none⟩),
 (false, 10, [4, 5, 6, 7], ⟨(some 257), .fa 5 (.tmp 7), none⟩),
 (false, 11, [4, 5, 6, 7], ⟨none, .st1 (.tmp 257) (.tmp 251), none⟩),
 (false, 12, [6, 7], ⟨(some 258), .fa 3 (.tmp 7), none⟩),
 (false, 13, [6, 7], ⟨none, .st1 (.tmp 258) (.tmp 253), none⟩),
 (false, 14, [], ⟨(some 259), .fa 12 (.tmp 7), none⟩),
 (false, 15, [], ⟨none, .stn 4 (.tmp 259) (.tmp 255), none⟩)])
 (.reg [⟨(some 260), .fa 4 (.tmp 5), none⟩,
 ⟨(some 261), .ld1 (.tmp 260), none⟩,
 ⟨(some 262), .fa 2 (.tmp 2), none⟩,
 ⟨(some 263), .ld1 (.tmp 262), none⟩,
 ⟨(some 264), .call 51 [(.tmp 261), (.tmp 263)], none⟩,
 ⟨(some 265), .mv (.tmp 264), none⟩,
 ⟨(some 266), .fa 5 (.tmp 5), (some (265, true))⟩,
 ⟨(some 267), .ld1 (.tmp 266), (some (265, true))⟩,
 ⟨(some 268), .fa 2 (.tmp 2), (some (265, true))⟩,
 ⟨(some 269), .ld1 (.tmp 268), (some (265, true))⟩,
 ⟨(some 270), .call 51 [(.tmp 267), (.tmp 269)], (some (265, true))⟩,
 ⟨(some 271), .pick (.tmp 265) (.tmp 270) (.const (.bool false)), none⟩,
 ⟨(some 272), .mv (.tmp 271), none⟩,
 ⟨(some 273), .ldn 16 (.tmp 5), (some (272, true))⟩,
 ⟨(some 274), .fa 0 (.tmp 5), (some (272, true))⟩,
 ⟨(some 275), .ld1 (.tmp 274), (some (272, true))⟩,
 ⟨(some 276), .bin .eql (.tmp 275) (.const (.int .i64 6)), (some (272, true))⟩,
 ⟨(some 277), .call 58 [(.tmp 273), (.tmp 276)], (some (272, true))⟩,
 ⟨(some 278), .pick (.tmp 272) (.tmp 277) (.const (.bool false)), none⟩,
 ⟨(some 8), .mv (.tmp 278), none⟩]))
 (.seq (.reg [⟨(some 280), .bin .eql (.tmp 22) (.const (.int .i64 8)), none⟩,
 ⟨(some 279), .mv (.tmp 280), none⟩])
 (.cond (.tmp 279)
 (.seq (.any [(true, 0, [], ⟨(some 281), .fa 4 (.tmp 5), none⟩),
 (true, 1, [], ⟨(some 282), .ld1 (.tmp 281), none⟩),
 (true, 2, [], ⟨(some 283), .fa 5 (.tmp 5), none⟩),
 (true, 3, [], ⟨(some 284), .ld1 (.tmp 283), none⟩),
 (true, 4, [], ⟨(some 285), .fa 3 (.tmp 5), none⟩),
 (true, 5, [], ⟨(some 286), .ld1 (.tmp 285), none⟩),
 (true, 6, [], ⟨(some 287), .fa 2 (.tmp 5), none⟩),
 (true, 7, [], ⟨(some 288), .ld1 (.tmp 287), none⟩),
 (true, 8, [], ⟨(some 289), .fa 1 (.tmp 5), none⟩),
 (true, 9, [], ⟨(some 290), .ld1 (.tmp 289), none⟩),
 (false, 10, [2, 3, 4, 5, 6, 7, 8, 9], ⟨(some 291), .fa 4 (.tmp 7), none⟩),
 (false, 11, [2, 3, 4, 5, 6, 7, 8, 9], ⟨none, .st1 (.tmp 291) (.tmp 282), none⟩),
 (false, 12, [4, 5, 6, 7, 8, 9], ⟨(some 292), .fa 5 (.tmp 7), none⟩),
 (false, 13, [4, 5, 6, 7, 8, 9], ⟨none, .st1 (.tmp 292) (.tmp 284), none⟩),
 (false, 14, [6, 7, 8, 9], ⟨(some 293), .fa 3 (.tmp 7), none⟩),
 (false, 15, [6, 7, 8, 9], ⟨none, .st1 (.tmp 293) (.tmp 286), none⟩),
 (false, 16, [8, 9], ⟨(some 294), .fa 2 (.tmp 7), none⟩),
 (false, 17, [8, 9], ⟨none, .st1 (.tmp 294) (.tmp 288), none⟩),
 (false, 18, [], ⟨(some 295), .fa 1 (.tmp 7), none⟩),
 (false, 19, [], ⟨none, .st1 (.tmp 295) (.tmp 290), none⟩)])
 (.reg [⟨(some 296), .fa 4 (.tmp 5), none⟩,
 ⟨(some 297), .ld1 (.tmp 296), none⟩,
 ⟨(some 298), .fa 2 (.tmp 2), none⟩,
 ⟨(some 299), .ld1 (.tmp 298), none⟩,
 ⟨(some 300), .call 51 [(.tmp 297), (.tmp 299)], none⟩,
 ⟨(some 301), .mv (.tmp 300), none⟩,
 ⟨(some 302), .fa 5 (.tmp 5), (some (301, true))⟩,
 ⟨(some 303), .ld1 (.tmp 302), (some (301, true))⟩,
 ⟨(some 304), .fa 2 (.tmp 2), (some (301, true))⟩,
 ⟨(some 305), .ld1 (.tmp 304), (some (301, true))⟩,
 ⟨(some 306), .call 51 [(.tmp 303), (.tmp 305)], (some (301, true))⟩,
 ⟨(some 307), .pick (.tmp 301) (.tmp 306) (.const (.bool false)), none⟩,
 ⟨(some 308), .mv (.tmp 307), none⟩,
 ⟨(some 309), .fa 3 (.tmp 5), (some (308, true))⟩,
 ⟨(some 310), .ld1 (.tmp 309), (some (308, true))⟩,
 ⟨(some 311), .bin .geq (.tmp 310) (.const (.int .i64 1)), (some (308, true))⟩,
 ⟨(some 312), .pick (.tmp 308) (.tmp 311) (.const (.bool false)), none⟩,
 ⟨(some 313), .mv (.tmp 312), none⟩,
 ⟨(some 314), .fa 3 (.tmp 5), (some (313, true))⟩,
 ⟨(some 315), .ld1 (.tmp 314), (some (313, true))⟩,
 ⟨(some 316), .bin .leq (.tmp 315) (.const (.int .i64 4)), (some (313, true))⟩,
 ⟨(some 317), .pick (.tmp 313) (.tmp 316) (.const (.bool false)), none⟩,
 ⟨(some 318), .mv (.tmp 317), none⟩,
 ⟨(some 319), .fa 2 (.tmp 5), (some (318, true))⟩,
 ⟨(some 320), .ld1 (.tmp 319), (some (318, true))⟩,
 ⟨(some 321), .call 59 [(.tmp 320)], (some (318, true))⟩,
 ⟨(some 322), .pick (.tmp 318) (.tmp 321) (.const (.bool false)), none⟩,
 ⟨(some 323), .mv (.tmp 322), none⟩,
 ⟨(some 324), .fa 1 (.tmp 5), (some (323, true))⟩,
 ⟨(some 325), .ld1 (.tmp 324), (some (323, true))⟩,
 ⟨(some 326), .call 59 [(.tmp 325)], (some (323, true))⟩,
 ⟨(some 327), .pick (.tmp 323) (.tmp 326) (.const (.bool false)), none⟩,
 ⟨(some 8), .mv (.tmp 327), none⟩]))
 (.seq (.reg [⟨(some 329), .bin .eql (.tmp 22) (.const (.int .i64 9)), none⟩,
 ⟨(some 328), .mv (.tmp 329), none⟩])
 (.cond (.tmp 328)
 (.seq (.any [(true, 0, [], ⟨(some 330), .fa 4 (.tmp 5), none⟩),
 (true, 1, [], ⟨(some 331), .ld1 (.tmp 330), none⟩),
 (true, 2, [], ⟨(some 332), .fa 5 (.tmp 5), none⟩),
 (true, 3, [], ⟨(some 333), .ld1 (.tmp 332), none⟩),
 (true, 4, [], ⟨(some 334), .fa 6 (.tmp 5), none⟩),
 (true, 5, [], ⟨(some 335), .ld1 (.tmp 334), none⟩),
 (false, 6, [2, 3, 4, 5], ⟨(some 336), .fa 4 (.tmp 7), none⟩),
 (false, 7, [2, 3, 4, 5], ⟨none, .st1 (.tmp 336) (.tmp 331), none⟩),
 (false, 8, [4, 5], ⟨(some 337), .fa 5 (.tmp 7), none⟩),
 (false, 9, [4, 5], ⟨none, .st1 (.tmp 337) (.tmp 333), none⟩),
 (false, 10, [], ⟨(some 338), .fa 6 (.tmp 7), none⟩),
 (false, 11, [], ⟨none, .st1 (.tmp 338) (.tmp 335), none⟩)])
 (.reg [⟨(some 339), .fa 4 (.tmp 5), none⟩,
 ⟨(some 340), .ld1 (.tmp 339), none⟩,
 ⟨(some 341), .fa 2 (.tmp 2), none⟩,
 ⟨(some 342), .ld1 (.tmp 341), none⟩,
 ⟨(some 343), .call 51 [(.tmp 340), (.tmp 342)], none⟩,
 ⟨(some 344), .mv (.tmp 343), none⟩,
 ⟨(some 345), .fa 5 (.tmp 5), (some (344, true))⟩,
 ⟨(some 346), .ld1 (.tmp 345), (some (344, true))⟩,
 ⟨(some 347), .fa 2 (.tmp 2), (some (344, true))⟩,
 ⟨(some 348), .ld1 (.tmp 347), (some (344, true))⟩,
 ⟨(some 349), .call 51 [(.tmp 346), (.tmp 348)], (some (344, true))⟩,
 ⟨(some 350), .pick (.tmp 344) (.tmp 349) (.const (.bool false)), none⟩,
 ⟨(some 351), .mv (.tmp 350), none⟩,
 ⟨(some 352), .fa 6 (.tmp 5), (some (351, true))⟩,
 ⟨(some 353), .ld1 (.tmp 352), (some (351, true))⟩,
 ⟨(some 354), .fa 2 (.tmp 2), (some (351, true))⟩,
 ⟨(some 355), .ld1 (.tmp 354), (some (351, true))⟩,
 ⟨(some 356), .call 51 [(.tmp 353), (.tmp 355)], (some (351, true))⟩,
 ⟨(some 357), .pick (.tmp 351) (.tmp 356) (.const (.bool false)), none⟩,
 ⟨(some 8), .mv (.tmp 357), none⟩]))
 (.seq (.reg [⟨(some 359), .bin .eql (.tmp 22) (.const (.int .i64 10)), none⟩,
 ⟨(some 358), .mv (.tmp 359), none⟩])
 (.cond (.tmp 358)
 (.seq (.reg [⟨(some 360), .fa 5 (.tmp 5), none⟩,
 ⟨(some 361), .ld1 (.tmp 360), none⟩,
 ⟨(some 362), .fa 5 (.tmp 7), none⟩,
 ⟨none, .st1 (.tmp 362) (.tmp 361), none⟩])
 (.reg [⟨(some 363), .fa 5 (.tmp 5), none⟩,
 ⟨(some 364), .ld1 (.tmp 363), none⟩,
 ⟨(some 365), .mv (.tmp 1), none⟩,
 ⟨(some 366), .bin .gtr (.tmp 364) (.tmp 365), none⟩,
 ⟨(some 367), .mv (.tmp 366), none⟩,
 ⟨(some 368), .fa 5 (.tmp 5), (some (367, true))⟩,
 ⟨(some 369), .ld1 (.tmp 368), (some (367, true))⟩,
 ⟨(some 370), .fa 1 (.tmp 2), (some (367, true))⟩,
 ⟨(some 371), .ld1 (.tmp 370), (some (367, true))⟩,
 ⟨(some 372), .len (.tmp 371), (some (367, true))⟩,
 ⟨(some 373), .bin .leq (.tmp 369) (.tmp 372), (some (367, true))⟩,
 ⟨(some 374), .pick (.tmp 367) (.tmp 373) (.const (.bool false)), none⟩,
 ⟨(some 8), .mv (.tmp 374), none⟩]))
 (.seq (.reg [⟨(some 376), .bin .eql (.tmp 22) (.const (.int .i64 11)), none⟩,
 ⟨(some 375), .mv (.tmp 376), none⟩])
 (.cond (.tmp 375)
 (.seq (.any [(true, 0, [], ⟨(some 377), .fa 5 (.tmp 5), none⟩),
 (true, 1, [], ⟨(some 378), .ld1 (.tmp 377), none⟩),
 (true, 2, [], ⟨(some 379), .fa 6 (.tmp 5), none⟩),
 (true, 3, [], ⟨(some 380), .ld1 (.tmp 379), none⟩),
 (false, 4, [2, 3], ⟨(some 381), .fa 5 (.tmp 7), none⟩),
 (false, 5, [2, 3], ⟨none, .st1 (.tmp 381) (.tmp 378), none⟩),
 (false, 6, [], ⟨(some 382), .fa 6 (.tmp 7), none⟩),
 (false, 7, [], ⟨none, .st1 (.tmp 382) (.tmp 380), none⟩)])
 (.reg [⟨(some 383), .fa 5 (.tmp 5), none⟩,
 ⟨(some 384), .ld1 (.tmp 383), none⟩,
 ⟨(some 385), .mv (.tmp 1), none⟩,
 ⟨(some 386), .bin .gtr (.tmp 384) (.tmp 385), none⟩,
 ⟨(some 387), .mv (.tmp 386), none⟩,
 ⟨(some 388), .fa 5 (.tmp 5), (some (387, true))⟩,
 ⟨(some 389), .ld1 (.tmp 388), (some (387, true))⟩,
 ⟨(some 390), .fa 1 (.tmp 2), (some (387, true))⟩,
 ⟨(some 391), .ld1 (.tmp 390), (some (387, true))⟩,
 ⟨(some 392), .len (.tmp 391), (some (387, true))⟩,
 ⟨(some 393), .bin .leq (.tmp 389) (.tmp 392), (some (387, true))⟩,
 ⟨(some 394), .pick (.tmp 387) (.tmp 393) (.const (.bool false)), none⟩,
 ⟨(some 395), .mv (.tmp 394), none⟩,
 ⟨(some 396), .fa 6 (.tmp 5), (some (395, true))⟩,
 ⟨(some 397), .ld1 (.tmp 396), (some (395, true))⟩,
 ⟨(some 398), .fa 2 (.tmp 2), (some (395, true))⟩,
 ⟨(some 399), .ld1 (.tmp 398), (some (395, true))⟩,
 ⟨(some 400), .call 51 [(.tmp 397), (.tmp 399)], (some (395, true))⟩,
 ⟨(some 401), .pick (.tmp 395) (.tmp 400) (.const (.bool false)), none⟩,
 ⟨(some 8), .mv (.tmp 401), none⟩]))
 (.seq (.reg [⟨(some 403), .bin .eql (.tmp 22) (.const (.int .i64 12)), none⟩,
 ⟨(some 402), .mv (.tmp 403), none⟩])
 (.cond (.tmp 402)
 (.reg [⟨(some 404), .mv (.tmp 6), none⟩,
 ⟨(some 405), .un .not (.tmp 404), none⟩,
 ⟨(some 8), .mv (.tmp 405), none⟩])
 (.skip)))))))))))))))))))))))))
 (.seq (.reg [⟨(some 406), .mv (.tmp 8), none⟩,
 ⟨(some 407), .mv (.tmp 406), none⟩,
 ⟨(some 408), .ldn 16 (.tmp 7), (some (407, true))⟩,
 ⟨(some 409), .ldn 16 (.tmp 5), (some (407, true))⟩,
 ⟨(some 410), .eqa false 16 (.tmp 408) (.tmp 409), (some (407, true))⟩,
 ⟨(some 411), .pick (.tmp 407) (.tmp 410) (.const (.bool false)), none⟩,
 ⟨(some 4), .mv (.tmp 411), none⟩])
 (.ret)))))))
theorem k52 : fnOk Try.prog 52 = some (M52, [.t 4], 412) := by kernel_rfl

section
variable {st : Int} {b o cap : Nat} {is : List Ins} {rg ab un va op fn bs n dst a bb cc m0 m1 m2 m3 p0 p1 p2 p3 : Int} {k len : Nat}
theorem right_1 (hr : rdn w0 H b (o + k * 16) 16 = some (Ins.row ⟨1, fn, bs, n, dst, a, bb, cc, m0, m1, m2, m3, p0, p1, p2, p3⟩)) (hf : ∀ d, w0.heap.size ≤ d → H d = none → d ≠ b)
    (el : is.length = len) (t0 : (k : Int) < len)
    (h : ∀ v, rightB ⟨st, some ⟨b, o, none⟩, cap, is, rg, ab, un, va⟩ k ⟨1, fn, bs, n, dst, a, bb, cc, m0, m1, m2, m3, p0, p1, p2, p3⟩ = v → HL.Fin K (.bool v) H) :
    HCalls Try.prog w0 52 [.agg #[.int .i64 st, .slice (some ⟨b, o, none⟩) len cap, .int .i64 rg, .int .i64 ab, .int .i64 un, .int .i64 va], .int .i64 k] H K := by
  have hq := ceq_row (keepI ⟨1, fn, bs, n, dst, a, bb, cc, m0, m1, m2, m3, p0, p1, p2, p3⟩) ⟨1, fn, bs, n, dst, a, bb, cc, m0, m1, m2, m3, p0, p1, p2, p3⟩
  obtain ⟨q, eq⟩ : ∃ q, decide (keepI ⟨1, fn, bs, n, dst, a, bb, cc, m0, m1, m2, m3, p0, p1, p2, p3⟩ = ⟨1, fn, bs, n, dst, a, bb, cc, m0, m1, m2, m3, p0, p1, p2, p3⟩) = q := ⟨_, rfl⟩
  unfold rightB at h
  simp only [eq] at hq h
  unfold keepI at hq
  unfold legalB regsL wrt reads at h
  simp only [Int.reduceEq, or_true, true_or, or_false, false_or, or_self, decide_true, decide_false, if_true, if_false, Bool.false_eq_true, reduceIte, List.all_cons, List.all_nil, Bool.and_true, Bool.true_and, Bool.false_and, Bool.and_false, Int.reduceLT, Int.reduceLE, Int.reduceToNat, List.take_succ_cons, List.take_zero, el] at h hq
  unfold Ins.row at hq hr
  clear eq el
  replace h : Keep _ := h
  refine HL.hc k52 999 ?_; unfold M52
  (all_goals (try simp only [Sq,Sr,Sh,Si,Sl,Bu,Bb,Bd,Bc,Bw,Bn,Int.reduceAdd,Int.reduceSub,Int.reduceMul,Int.reduceTDiv,Int.reduceTMod,Int.reduceMod,Int.reduceDiv,Nat.reduceLT,Nat.reduceEqDiff,Sa,Sb,Sc,Sd,Se,Sf,Sg,Int.reduceLE,Int.reduceLT,Int.reduceToNat,Int.reduceNeg,Int.reduceEq,Nat.reduceLeDiff,Nat.reducePow,Int.reducePow,reduceIte,Nat.reduceSub,Nat.reduceAdd,Nat.reduceMul,putAt,ceq,List.replicate, *])); repeat' ((first | (with_reducible refine fun _ : True => ?_) | refine r_in _ _ ?_ | ((first | refine AllocQ_i ?_ | refine AllocO_i ?_); intro bk hb0 hbk; (try simp only [set_none'] at hbk); (try (first | have hbn := Grow.none (by assumption) hbk | have hbn := Grow.none (by assumption) hbk.2 | have hbn := Grow.none (by assumption) hbk.2.2 | have hbn := Grow.none (by assumption) hbk.2.2.2 | have hbn := Grow.none (by assumption) hbk.2.2.2.2 | have hbn := Grow.none (by assumption) hbk.2.2.2.2.2)); (try simp only [set_none'] at hbn); (try (first | have hbm := Grow.none (by assumption) hbn | have hbm := Grow.none (by assumption) hbn.2 | have hbm := Grow.none (by assumption) hbn.2.2 | have hbm := Grow.none (by assumption) hbn.2.2.2 | have hbm := Grow.none (by assumption) hbn.2.2.2.2 | have hbm := Grow.none (by assumption) hbn.2.2.2.2.2)); (try simp only [set_none'] at hbm)) | ((first | refine condS_i ?_ ?_ | refine pick_i ?_ ?_ | refine gS_it ?_ ?_ | refine gS_if ?_ ?_ | refine gP_it ?_ ?_ | refine gP_if ?_ ?_) <;> (intro hc; try simp only [Int.reduceLE,Int.reduceLT,Int.reduceEq,Sn] at hc)) | (with_reducible refine KP_i ?_ ?_; · (repeat' (first | exact Heap.Le.refl _ | (with_reducible refine Le_set2 ?_) | (refine Le_known (by first | (simp only [Heap.set_same, set_ne, ne_eq, not_false_eq_true, *] <;> rfl) | fail) ?_) | (refine Le_fresh (by first | (simp only [*] <;> done) | (simp [set_none', Heap.set_same, set_ne, noneH, *] <;> done) | fail) ?_) | (refine Heap.Le.trans ?_ (Grow.le (by assumption))) | exact Le_none | (refine Le_put ?_ (by first | (simp only [Heap.set_same, set_ne, ne_eq, not_false_eq_true, *] <;> rfl) | fail)) | fail))) | (with_reducible refine And.intro ?_ ?_)) <;> (try simp only [Sq,Sr,Sh,Si,Sl,Bu,Bb,Bd,Bc,Bw,Bn,Int.reduceAdd,Int.reduceSub,Int.reduceMul,Int.reduceTDiv,Int.reduceTMod,Int.reduceMod,Int.reduceDiv,Nat.reduceLT,Nat.reduceEqDiff,Sa,Sb,Sc,Sd,Se,Sf,Sg,Int.reduceLE,Int.reduceLT,Int.reduceToNat,Int.reduceNeg,Int.reduceEq,Nat.reduceLeDiff,Nat.reducePow,Int.reducePow,reduceIte,Nat.reduceSub,Nat.reduceAdd,Nat.reduceMul,putAt,ceq,List.replicate, *]))
  rename_i b2 hb2 hn2 b5 hb5 hn5
  refine any_blk (b := b5) (by simp only [Heap.set_same, set_ne, ne_eq, not_false_eq_true, *] <;> rfl) ?_
  (all_goals (try simp only [Sq,Sr,Sh,Si,Sl,Bu,Bb,Bd,Bc,Bw,Bn,Int.reduceAdd,Int.reduceSub,Int.reduceMul,Int.reduceTDiv,Int.reduceTMod,Int.reduceMod,Int.reduceDiv,Nat.reduceLT,Nat.reduceEqDiff,Sa,Sb,Sc,Sd,Se,Sf,Sg,Int.reduceLE,Int.reduceLT,Int.reduceToNat,Int.reduceNeg,Int.reduceEq,Nat.reduceLeDiff,Nat.reducePow,Int.reducePow,reduceIte,Nat.reduceSub,Nat.reduceAdd,Nat.reduceMul,putAt,List.replicate, *])); repeat' ((first | (with_reducible refine fun _ : True => ?_) | refine r_in _ _ ?_ | (with_reducible refine any_h ?_) | ((first | refine AllocQ_i ?_ | refine AllocO_i ?_); intro bk hb0 hbk; (try simp only [set_none'] at hbk); (try (first | have hbn := Grow.none (by assumption) hbk | have hbn := Grow.none (by assumption) hbk.2 | have hbn := Grow.none (by assumption) hbk.2.2 | have hbn := Grow.none (by assumption) hbk.2.2.2 | have hbn := Grow.none (by assumption) hbk.2.2.2.2 | have hbn := Grow.none (by assumption) hbk.2.2.2.2.2)); (try simp only [set_none'] at hbn); (try (first | have hbm := Grow.none (by assumption) hbn | have hbm := Grow.none (by assumption) hbn.2 | have hbm := Grow.none (by assumption) hbn.2.2 | have hbm := Grow.none (by assumption) hbn.2.2.2 | have hbm := Grow.none (by assumption) hbn.2.2.2.2 | have hbm := Grow.none (by assumption) hbn.2.2.2.2.2)); (try simp only [set_none'] at hbm)) | ((first | refine condS_i ?_ ?_ | refine pick_i ?_ ?_ | refine gS_it ?_ ?_ | refine gS_if ?_ ?_ | refine gP_it ?_ ?_ | refine gP_if ?_ ?_) <;> (intro hc; try simp only [Int.reduceLE,Int.reduceLT,Int.reduceEq,Sn] at hc)) | (with_reducible refine KP_i ?_ ?_; · (repeat' (first | exact Heap.Le.refl _ | (with_reducible refine Le_set2 ?_) | (refine Le_known (by first | (simp only [Heap.set_same, set_ne, ne_eq, not_false_eq_true, *] <;> rfl) | fail) ?_) | (refine Le_fresh (by first | (simp only [*] <;> done) | (simp [set_none', Heap.set_same, set_ne, noneH, *] <;> done) | fail) ?_) | (refine Heap.Le.trans ?_ (Grow.le (by assumption))) | exact Le_none | (refine Le_put ?_ (by first | (simp only [Heap.set_same, set_ne, ne_eq, not_false_eq_true, *] <;> rfl) | fail)) | fail))) | (with_reducible refine And.intro ?_ ?_)) <;> (try simp only [Sq,Sr,Sh,Si,Sl,Bu,Bb,Bd,Bc,Bw,Bn,Int.reduceAdd,Int.reduceSub,Int.reduceMul,Int.reduceTDiv,Int.reduceTMod,Int.reduceMod,Int.reduceDiv,Nat.reduceLT,Nat.reduceEqDiff,Sa,Sb,Sc,Sd,Se,Sf,Sg,Int.reduceLE,Int.reduceLT,Int.reduceToNat,Int.reduceNeg,Int.reduceEq,Nat.reduceLeDiff,Nat.reducePow,Int.reducePow,reduceIte,Nat.reduceSub,Nat.reduceAdd,Nat.reduceMul,putAt,List.replicate, *]))
  all_goals
    refine Fin_le ((show ∀ v, _ → _ from h) _ ?_) (by (repeat' (first | exact Heap.Le.refl _ | (with_reducible refine Le_set2 ?_) | (refine Le_known (by first | (simp only [Heap.set_same, set_ne, ne_eq, not_false_eq_true, *] <;> rfl) | fail) ?_) | (refine Le_fresh (by first | (simp only [*] <;> done) | (simp [set_none', Heap.set_same, set_ne, noneH, *] <;> done) | fail) ?_) | (refine Heap.Le.trans ?_ (Grow.le (by assumption))) | exact Le_none | (refine Le_put ?_ (by first | (simp only [Heap.set_same, set_ne, ne_eq, not_false_eq_true, *] <;> rfl) | fail)) | fail)))
    clear h hr hf t0 hq
    first
      | (simp [*]; done)
      | (subst_vars; simp [*]; done)
      | (subst_vars; simp [*, Int.not_lt.2, Int.not_le.2]; done)
theorem right_2 (hr : rdn w0 H b (o + k * 16) 16 = some (Ins.row ⟨2, fn, bs, n, dst, a, bb, cc, m0, m1, m2, m3, p0, p1, p2, p3⟩)) (hf : ∀ d, w0.heap.size ≤ d → H d = none → d ≠ b)
    (el : is.length = len) (t0 : (k : Int) < len)
    (h : ∀ v, rightB ⟨st, some ⟨b, o, none⟩, cap, is, rg, ab, un, va⟩ k ⟨2, fn, bs, n, dst, a, bb, cc, m0, m1, m2, m3, p0, p1, p2, p3⟩ = v → HL.Fin K (.bool v) H) :
    HCalls Try.prog w0 52 [.agg #[.int .i64 st, .slice (some ⟨b, o, none⟩) len cap, .int .i64 rg, .int .i64 ab, .int .i64 un, .int .i64 va], .int .i64 k] H K := by
  have hq := ceq_row (keepI ⟨2, fn, bs, n, dst, a, bb, cc, m0, m1, m2, m3, p0, p1, p2, p3⟩) ⟨2, fn, bs, n, dst, a, bb, cc, m0, m1, m2, m3, p0, p1, p2, p3⟩
  obtain ⟨q, eq⟩ : ∃ q, decide (keepI ⟨2, fn, bs, n, dst, a, bb, cc, m0, m1, m2, m3, p0, p1, p2, p3⟩ = ⟨2, fn, bs, n, dst, a, bb, cc, m0, m1, m2, m3, p0, p1, p2, p3⟩) = q := ⟨_, rfl⟩
  unfold rightB at h
  simp only [eq] at hq h
  unfold keepI at hq
  unfold legalB regsL wrt reads at h
  simp only [Int.reduceEq, or_true, true_or, or_false, false_or, or_self, decide_true, decide_false, if_true, if_false, Bool.false_eq_true, reduceIte, List.all_cons, List.all_nil, Bool.and_true, Bool.true_and, Bool.false_and, Bool.and_false, Int.reduceLT, Int.reduceLE, Int.reduceToNat, List.take_succ_cons, List.take_zero, el] at h hq
  unfold Ins.row at hq hr
  clear eq el
  replace h : Keep _ := h
  refine HL.hc k52 999 ?_; unfold M52
  (all_goals (try simp only [Sq,Sr,Sh,Si,Sl,Bu,Bb,Bd,Bc,Bw,Bn,Int.reduceAdd,Int.reduceSub,Int.reduceMul,Int.reduceTDiv,Int.reduceTMod,Int.reduceMod,Int.reduceDiv,Nat.reduceLT,Nat.reduceEqDiff,Sa,Sb,Sc,Sd,Se,Sf,Sg,Int.reduceLE,Int.reduceLT,Int.reduceToNat,Int.reduceNeg,Int.reduceEq,Nat.reduceLeDiff,Nat.reducePow,Int.reducePow,reduceIte,Nat.reduceSub,Nat.reduceAdd,Nat.reduceMul,putAt,ceq,List.replicate, *])); repeat' ((first | (with_reducible refine fun _ : True => ?_) | refine r_in _ _ ?_ | ((first | refine AllocQ_i ?_ | refine AllocO_i ?_); intro bk hb0 hbk; (try simp only [set_none'] at hbk); (try (first | have hbn := Grow.none (by assumption) hbk | have hbn := Grow.none (by assumption) hbk.2 | have hbn := Grow.none (by assumption) hbk.2.2 | have hbn := Grow.none (by assumption) hbk.2.2.2 | have hbn := Grow.none (by assumption) hbk.2.2.2.2 | have hbn := Grow.none (by assumption) hbk.2.2.2.2.2)); (try simp only [set_none'] at hbn); (try (first | have hbm := Grow.none (by assumption) hbn | have hbm := Grow.none (by assumption) hbn.2 | have hbm := Grow.none (by assumption) hbn.2.2 | have hbm := Grow.none (by assumption) hbn.2.2.2 | have hbm := Grow.none (by assumption) hbn.2.2.2.2 | have hbm := Grow.none (by assumption) hbn.2.2.2.2.2)); (try simp only [set_none'] at hbm)) | ((first | refine condS_i ?_ ?_ | refine pick_i ?_ ?_ | refine gS_it ?_ ?_ | refine gS_if ?_ ?_ | refine gP_it ?_ ?_ | refine gP_if ?_ ?_) <;> (intro hc; try simp only [Int.reduceLE,Int.reduceLT,Int.reduceEq,Sn] at hc)) | (with_reducible refine KP_i ?_ ?_; · (repeat' (first | exact Heap.Le.refl _ | (with_reducible refine Le_set2 ?_) | (refine Le_known (by first | (simp only [Heap.set_same, set_ne, ne_eq, not_false_eq_true, *] <;> rfl) | fail) ?_) | (refine Le_fresh (by first | (simp only [*] <;> done) | (simp [set_none', Heap.set_same, set_ne, noneH, *] <;> done) | fail) ?_) | (refine Heap.Le.trans ?_ (Grow.le (by assumption))) | exact Le_none | (refine Le_put ?_ (by first | (simp only [Heap.set_same, set_ne, ne_eq, not_false_eq_true, *] <;> rfl) | fail)) | fail))) | (with_reducible refine And.intro ?_ ?_)) <;> (try simp only [Sq,Sr,Sh,Si,Sl,Bu,Bb,Bd,Bc,Bw,Bn,Int.reduceAdd,Int.reduceSub,Int.reduceMul,Int.reduceTDiv,Int.reduceTMod,Int.reduceMod,Int.reduceDiv,Nat.reduceLT,Nat.reduceEqDiff,Sa,Sb,Sc,Sd,Se,Sf,Sg,Int.reduceLE,Int.reduceLT,Int.reduceToNat,Int.reduceNeg,Int.reduceEq,Nat.reduceLeDiff,Nat.reducePow,Int.reducePow,reduceIte,Nat.reduceSub,Nat.reduceAdd,Nat.reduceMul,putAt,ceq,List.replicate, *]))
  rename_i b2 hb2 hn2 b5 hb5 hn5
  refine any_blk (b := b5) (by simp only [Heap.set_same, set_ne, ne_eq, not_false_eq_true, *] <;> rfl) ?_
  (all_goals (try simp only [Sq,Sr,Sh,Si,Sl,Bu,Bb,Bd,Bc,Bw,Bn,Int.reduceAdd,Int.reduceSub,Int.reduceMul,Int.reduceTDiv,Int.reduceTMod,Int.reduceMod,Int.reduceDiv,Nat.reduceLT,Nat.reduceEqDiff,Sa,Sb,Sc,Sd,Se,Sf,Sg,Int.reduceLE,Int.reduceLT,Int.reduceToNat,Int.reduceNeg,Int.reduceEq,Nat.reduceLeDiff,Nat.reducePow,Int.reducePow,reduceIte,Nat.reduceSub,Nat.reduceAdd,Nat.reduceMul,putAt,List.replicate, *])); repeat' ((first | (with_reducible refine fun _ : True => ?_) | refine r_in _ _ ?_ | (with_reducible refine any_h ?_) | ((first | refine AllocQ_i ?_ | refine AllocO_i ?_); intro bk hb0 hbk; (try simp only [set_none'] at hbk); (try (first | have hbn := Grow.none (by assumption) hbk | have hbn := Grow.none (by assumption) hbk.2 | have hbn := Grow.none (by assumption) hbk.2.2 | have hbn := Grow.none (by assumption) hbk.2.2.2 | have hbn := Grow.none (by assumption) hbk.2.2.2.2 | have hbn := Grow.none (by assumption) hbk.2.2.2.2.2)); (try simp only [set_none'] at hbn); (try (first | have hbm := Grow.none (by assumption) hbn | have hbm := Grow.none (by assumption) hbn.2 | have hbm := Grow.none (by assumption) hbn.2.2 | have hbm := Grow.none (by assumption) hbn.2.2.2 | have hbm := Grow.none (by assumption) hbn.2.2.2.2 | have hbm := Grow.none (by assumption) hbn.2.2.2.2.2)); (try simp only [set_none'] at hbm)) | ((first | refine condS_i ?_ ?_ | refine pick_i ?_ ?_ | refine gS_it ?_ ?_ | refine gS_if ?_ ?_ | refine gP_it ?_ ?_ | refine gP_if ?_ ?_) <;> (intro hc; try simp only [Int.reduceLE,Int.reduceLT,Int.reduceEq,Sn] at hc)) | (with_reducible refine KP_i ?_ ?_; · (repeat' (first | exact Heap.Le.refl _ | (with_reducible refine Le_set2 ?_) | (refine Le_known (by first | (simp only [Heap.set_same, set_ne, ne_eq, not_false_eq_true, *] <;> rfl) | fail) ?_) | (refine Le_fresh (by first | (simp only [*] <;> done) | (simp [set_none', Heap.set_same, set_ne, noneH, *] <;> done) | fail) ?_) | (refine Heap.Le.trans ?_ (Grow.le (by assumption))) | exact Le_none | (refine Le_put ?_ (by first | (simp only [Heap.set_same, set_ne, ne_eq, not_false_eq_true, *] <;> rfl) | fail)) | fail))) | (with_reducible refine And.intro ?_ ?_)) <;> (try simp only [Sq,Sr,Sh,Si,Sl,Bu,Bb,Bd,Bc,Bw,Bn,Int.reduceAdd,Int.reduceSub,Int.reduceMul,Int.reduceTDiv,Int.reduceTMod,Int.reduceMod,Int.reduceDiv,Nat.reduceLT,Nat.reduceEqDiff,Sa,Sb,Sc,Sd,Se,Sf,Sg,Int.reduceLE,Int.reduceLT,Int.reduceToNat,Int.reduceNeg,Int.reduceEq,Nat.reduceLeDiff,Nat.reducePow,Int.reducePow,reduceIte,Nat.reduceSub,Nat.reduceAdd,Nat.reduceMul,putAt,List.replicate, *]))
  all_goals
    refine Fin_le ((show ∀ v, _ → _ from h) _ ?_) (by (repeat' (first | exact Heap.Le.refl _ | (with_reducible refine Le_set2 ?_) | (refine Le_known (by first | (simp only [Heap.set_same, set_ne, ne_eq, not_false_eq_true, *] <;> rfl) | fail) ?_) | (refine Le_fresh (by first | (simp only [*] <;> done) | (simp [set_none', Heap.set_same, set_ne, noneH, *] <;> done) | fail) ?_) | (refine Heap.Le.trans ?_ (Grow.le (by assumption))) | exact Le_none | (refine Le_put ?_ (by first | (simp only [Heap.set_same, set_ne, ne_eq, not_false_eq_true, *] <;> rfl) | fail)) | fail)))
    clear h hr hf t0 hq
    first
      | (simp [*]; done)
      | (subst_vars; simp [*]; done)
      | (subst_vars; simp [*, Int.not_lt.2, Int.not_le.2]; done)
theorem right_9 (hr : rdn w0 H b (o + k * 16) 16 = some (Ins.row ⟨9, fn, bs, n, dst, a, bb, cc, m0, m1, m2, m3, p0, p1, p2, p3⟩)) (hf : ∀ d, w0.heap.size ≤ d → H d = none → d ≠ b)
    (el : is.length = len) (t0 : (k : Int) < len)
    (h : ∀ v, rightB ⟨st, some ⟨b, o, none⟩, cap, is, rg, ab, un, va⟩ k ⟨9, fn, bs, n, dst, a, bb, cc, m0, m1, m2, m3, p0, p1, p2, p3⟩ = v → HL.Fin K (.bool v) H) :
    HCalls Try.prog w0 52 [.agg #[.int .i64 st, .slice (some ⟨b, o, none⟩) len cap, .int .i64 rg, .int .i64 ab, .int .i64 un, .int .i64 va], .int .i64 k] H K := by
  have hq := ceq_row (keepI ⟨9, fn, bs, n, dst, a, bb, cc, m0, m1, m2, m3, p0, p1, p2, p3⟩) ⟨9, fn, bs, n, dst, a, bb, cc, m0, m1, m2, m3, p0, p1, p2, p3⟩
  obtain ⟨q, eq⟩ : ∃ q, decide (keepI ⟨9, fn, bs, n, dst, a, bb, cc, m0, m1, m2, m3, p0, p1, p2, p3⟩ = ⟨9, fn, bs, n, dst, a, bb, cc, m0, m1, m2, m3, p0, p1, p2, p3⟩) = q := ⟨_, rfl⟩
  unfold rightB at h
  simp only [eq] at hq h
  unfold keepI at hq
  unfold legalB regsL wrt reads at h
  simp only [Int.reduceEq, or_true, true_or, or_false, false_or, or_self, decide_true, decide_false, if_true, if_false, Bool.false_eq_true, reduceIte, List.all_cons, List.all_nil, Bool.and_true, Bool.true_and, Bool.false_and, Bool.and_false, Int.reduceLT, Int.reduceLE, Int.reduceToNat, List.take_succ_cons, List.take_zero, el] at h hq
  unfold Ins.row at hq hr
  clear eq el
  replace h : Keep _ := h
  refine HL.hc k52 999 ?_; unfold M52
  (all_goals (try simp only [Sq,Sr,Sh,Si,Sl,Bu,Bb,Bd,Bc,Bw,Bn,Int.reduceAdd,Int.reduceSub,Int.reduceMul,Int.reduceTDiv,Int.reduceTMod,Int.reduceMod,Int.reduceDiv,Nat.reduceLT,Nat.reduceEqDiff,Sa,Sb,Sc,Sd,Se,Sf,Sg,Int.reduceLE,Int.reduceLT,Int.reduceToNat,Int.reduceNeg,Int.reduceEq,Nat.reduceLeDiff,Nat.reducePow,Int.reducePow,reduceIte,Nat.reduceSub,Nat.reduceAdd,Nat.reduceMul,putAt,ceq,List.replicate, *])); repeat' ((first | (with_reducible refine fun _ : True => ?_) | refine r_in _ _ ?_ | ((first | refine AllocQ_i ?_ | refine AllocO_i ?_); intro bk hb0 hbk; (try simp only [set_none'] at hbk); (try (first | have hbn := Grow.none (by assumption) hbk | have hbn := Grow.none (by assumption) hbk.2 | have hbn := Grow.none (by assumption) hbk.2.2 | have hbn := Grow.none (by assumption) hbk.2.2.2 | have hbn := Grow.none (by assumption) hbk.2.2.2.2 | have hbn := Grow.none (by assumption) hbk.2.2.2.2.2)); (try simp only [set_none'] at hbn); (try (first | have hbm := Grow.none (by assumption) hbn | have hbm := Grow.none (by assumption) hbn.2 | have hbm := Grow.none (by assumption) hbn.2.2 | have hbm := Grow.none (by assumption) hbn.2.2.2 | have hbm := Grow.none (by assumption) hbn.2.2.2.2 | have hbm := Grow.none (by assumption) hbn.2.2.2.2.2)); (try simp only [set_none'] at hbm)) | ((first | refine condS_i ?_ ?_ | refine pick_i ?_ ?_ | refine gS_it ?_ ?_ | refine gS_if ?_ ?_ | refine gP_it ?_ ?_ | refine gP_if ?_ ?_) <;> (intro hc; try simp only [Int.reduceLE,Int.reduceLT,Int.reduceEq,Sn] at hc)) | (with_reducible refine KP_i ?_ ?_; · (repeat' (first | exact Heap.Le.refl _ | (with_reducible refine Le_set2 ?_) | (refine Le_known (by first | (simp only [Heap.set_same, set_ne, ne_eq, not_false_eq_true, *] <;> rfl) | fail) ?_) | (refine Le_fresh (by first | (simp only [*] <;> done) | (simp [set_none', Heap.set_same, set_ne, noneH, *] <;> done) | fail) ?_) | (refine Heap.Le.trans ?_ (Grow.le (by assumption))) | exact Le_none | (refine Le_put ?_ (by first | (simp only [Heap.set_same, set_ne, ne_eq, not_false_eq_true, *] <;> rfl) | fail)) | fail))) | (with_reducible refine And.intro ?_ ?_)) <;> (try simp only [Sq,Sr,Sh,Si,Sl,Bu,Bb,Bd,Bc,Bw,Bn,Int.reduceAdd,Int.reduceSub,Int.reduceMul,Int.reduceTDiv,Int.reduceTMod,Int.reduceMod,Int.reduceDiv,Nat.reduceLT,Nat.reduceEqDiff,Sa,Sb,Sc,Sd,Se,Sf,Sg,Int.reduceLE,Int.reduceLT,Int.reduceToNat,Int.reduceNeg,Int.reduceEq,Nat.reduceLeDiff,Nat.reducePow,Int.reducePow,reduceIte,Nat.reduceSub,Nat.reduceAdd,Nat.reduceMul,putAt,ceq,List.replicate, *]))
  rename_i b2 hb2 hn2 b5 hb5 hn5
  refine any_blk (b := b5) (by simp only [Heap.set_same, set_ne, ne_eq, not_false_eq_true, *] <;> rfl) ?_
  (all_goals (try simp only [Sq,Sr,Sh,Si,Sl,Bu,Bb,Bd,Bc,Bw,Bn,Int.reduceAdd,Int.reduceSub,Int.reduceMul,Int.reduceTDiv,Int.reduceTMod,Int.reduceMod,Int.reduceDiv,Nat.reduceLT,Nat.reduceEqDiff,Sa,Sb,Sc,Sd,Se,Sf,Sg,Int.reduceLE,Int.reduceLT,Int.reduceToNat,Int.reduceNeg,Int.reduceEq,Nat.reduceLeDiff,Nat.reducePow,Int.reducePow,reduceIte,Nat.reduceSub,Nat.reduceAdd,Nat.reduceMul,putAt,List.replicate, *])); repeat' ((first | (with_reducible refine fun _ : True => ?_) | refine r_in _ _ ?_ | (with_reducible refine any_h ?_) | ((first | refine AllocQ_i ?_ | refine AllocO_i ?_); intro bk hb0 hbk; (try simp only [set_none'] at hbk); (try (first | have hbn := Grow.none (by assumption) hbk | have hbn := Grow.none (by assumption) hbk.2 | have hbn := Grow.none (by assumption) hbk.2.2 | have hbn := Grow.none (by assumption) hbk.2.2.2 | have hbn := Grow.none (by assumption) hbk.2.2.2.2 | have hbn := Grow.none (by assumption) hbk.2.2.2.2.2)); (try simp only [set_none'] at hbn); (try (first | have hbm := Grow.none (by assumption) hbn | have hbm := Grow.none (by assumption) hbn.2 | have hbm := Grow.none (by assumption) hbn.2.2 | have hbm := Grow.none (by assumption) hbn.2.2.2 | have hbm := Grow.none (by assumption) hbn.2.2.2.2 | have hbm := Grow.none (by assumption) hbn.2.2.2.2.2)); (try simp only [set_none'] at hbm)) | ((first | refine condS_i ?_ ?_ | refine pick_i ?_ ?_ | refine gS_it ?_ ?_ | refine gS_if ?_ ?_ | refine gP_it ?_ ?_ | refine gP_if ?_ ?_) <;> (intro hc; try simp only [Int.reduceLE,Int.reduceLT,Int.reduceEq,Sn] at hc)) | (with_reducible refine KP_i ?_ ?_; · (repeat' (first | exact Heap.Le.refl _ | (with_reducible refine Le_set2 ?_) | (refine Le_known (by first | (simp only [Heap.set_same, set_ne, ne_eq, not_false_eq_true, *] <;> rfl) | fail) ?_) | (refine Le_fresh (by first | (simp only [*] <;> done) | (simp [set_none', Heap.set_same, set_ne, noneH, *] <;> done) | fail) ?_) | (refine Heap.Le.trans ?_ (Grow.le (by assumption))) | exact Le_none | (refine Le_put ?_ (by first | (simp only [Heap.set_same, set_ne, ne_eq, not_false_eq_true, *] <;> rfl) | fail)) | fail))) | (with_reducible refine And.intro ?_ ?_)) <;> (try simp only [Sq,Sr,Sh,Si,Sl,Bu,Bb,Bd,Bc,Bw,Bn,Int.reduceAdd,Int.reduceSub,Int.reduceMul,Int.reduceTDiv,Int.reduceTMod,Int.reduceMod,Int.reduceDiv,Nat.reduceLT,Nat.reduceEqDiff,Sa,Sb,Sc,Sd,Se,Sf,Sg,Int.reduceLE,Int.reduceLT,Int.reduceToNat,Int.reduceNeg,Int.reduceEq,Nat.reduceLeDiff,Nat.reducePow,Int.reducePow,reduceIte,Nat.reduceSub,Nat.reduceAdd,Nat.reduceMul,putAt,List.replicate, *]))
  all_goals
    refine Fin_le ((show ∀ v, _ → _ from h) _ ?_) (by (repeat' (first | exact Heap.Le.refl _ | (with_reducible refine Le_set2 ?_) | (refine Le_known (by first | (simp only [Heap.set_same, set_ne, ne_eq, not_false_eq_true, *] <;> rfl) | fail) ?_) | (refine Le_fresh (by first | (simp only [*] <;> done) | (simp [set_none', Heap.set_same, set_ne, noneH, *] <;> done) | fail) ?_) | (refine Heap.Le.trans ?_ (Grow.le (by assumption))) | exact Le_none | (refine Le_put ?_ (by first | (simp only [Heap.set_same, set_ne, ne_eq, not_false_eq_true, *] <;> rfl) | fail)) | fail)))
    clear h hr hf t0 hq
    first
      | (simp [*]; done)
      | (subst_vars; simp [*]; done)
      | (subst_vars; simp [*, Int.not_lt.2, Int.not_le.2]; done)
theorem right_11 (hr : rdn w0 H b (o + k * 16) 16 = some (Ins.row ⟨11, fn, bs, n, dst, a, bb, cc, m0, m1, m2, m3, p0, p1, p2, p3⟩)) (hf : ∀ d, w0.heap.size ≤ d → H d = none → d ≠ b)
    (el : is.length = len) (t0 : (k : Int) < len)
    (h : ∀ v, rightB ⟨st, some ⟨b, o, none⟩, cap, is, rg, ab, un, va⟩ k ⟨11, fn, bs, n, dst, a, bb, cc, m0, m1, m2, m3, p0, p1, p2, p3⟩ = v → HL.Fin K (.bool v) H) :
    HCalls Try.prog w0 52 [.agg #[.int .i64 st, .slice (some ⟨b, o, none⟩) len cap, .int .i64 rg, .int .i64 ab, .int .i64 un, .int .i64 va], .int .i64 k] H K := by
  have hq := ceq_row (keepI ⟨11, fn, bs, n, dst, a, bb, cc, m0, m1, m2, m3, p0, p1, p2, p3⟩) ⟨11, fn, bs, n, dst, a, bb, cc, m0, m1, m2, m3, p0, p1, p2, p3⟩
  obtain ⟨q, eq⟩ : ∃ q, decide (keepI ⟨11, fn, bs, n, dst, a, bb, cc, m0, m1, m2, m3, p0, p1, p2, p3⟩ = ⟨11, fn, bs, n, dst, a, bb, cc, m0, m1, m2, m3, p0, p1, p2, p3⟩) = q := ⟨_, rfl⟩
  unfold rightB at h
  simp only [eq] at hq h
  unfold keepI at hq
  unfold legalB regsL wrt reads at h
  simp only [Int.reduceEq, or_true, true_or, or_false, false_or, or_self, decide_true, decide_false, if_true, if_false, Bool.false_eq_true, reduceIte, List.all_cons, List.all_nil, Bool.and_true, Bool.true_and, Bool.false_and, Bool.and_false, Int.reduceLT, Int.reduceLE, Int.reduceToNat, List.take_succ_cons, List.take_zero, el] at h hq
  unfold Ins.row at hq hr
  clear eq el
  replace h : Keep _ := h
  refine HL.hc k52 999 ?_; unfold M52
  (all_goals (try simp only [Sq,Sr,Sh,Si,Sl,Bu,Bb,Bd,Bc,Bw,Bn,Int.reduceAdd,Int.reduceSub,Int.reduceMul,Int.reduceTDiv,Int.reduceTMod,Int.reduceMod,Int.reduceDiv,Nat.reduceLT,Nat.reduceEqDiff,Sa,Sb,Sc,Sd,Se,Sf,Sg,Int.reduceLE,Int.reduceLT,Int.reduceToNat,Int.reduceNeg,Int.reduceEq,Nat.reduceLeDiff,Nat.reducePow,Int.reducePow,reduceIte,Nat.reduceSub,Nat.reduceAdd,Nat.reduceMul,putAt,ceq,List.replicate, *])); repeat' ((first | (with_reducible refine fun _ : True => ?_) | refine r_in _ _ ?_ | ((first | refine AllocQ_i ?_ | refine AllocO_i ?_); intro bk hb0 hbk; (try simp only [set_none'] at hbk); (try (first | have hbn := Grow.none (by assumption) hbk | have hbn := Grow.none (by assumption) hbk.2 | have hbn := Grow.none (by assumption) hbk.2.2 | have hbn := Grow.none (by assumption) hbk.2.2.2 | have hbn := Grow.none (by assumption) hbk.2.2.2.2 | have hbn := Grow.none (by assumption) hbk.2.2.2.2.2)); (try simp only [set_none'] at hbn); (try (first | have hbm := Grow.none (by assumption) hbn | have hbm := Grow.none (by assumption) hbn.2 | have hbm := Grow.none (by assumption) hbn.2.2 | have hbm := Grow.none (by assumption) hbn.2.2.2 | have hbm := Grow.none (by assumption) hbn.2.2.2.2 | have hbm := Grow.none (by assumption) hbn.2.2.2.2.2)); (try simp only [set_none'] at hbm)) | ((first | refine condS_i ?_ ?_ | refine pick_i ?_ ?_ | refine gS_it ?_ ?_ | refine gS_if ?_ ?_ | refine gP_it ?_ ?_ | refine gP_if ?_ ?_) <;> (intro hc; try simp only [Int.reduceLE,Int.reduceLT,Int.reduceEq,Sn] at hc)) | (with_reducible refine KP_i ?_ ?_; · (repeat' (first | exact Heap.Le.refl _ | (with_reducible refine Le_set2 ?_) | (refine Le_known (by first | (simp only [Heap.set_same, set_ne, ne_eq, not_false_eq_true, *] <;> rfl) | fail) ?_) | (refine Le_fresh (by first | (simp only [*] <;> done) | (simp [set_none', Heap.set_same, set_ne, noneH, *] <;> done) | fail) ?_) | (refine Heap.Le.trans ?_ (Grow.le (by assumption))) | exact Le_none | (refine Le_put ?_ (by first | (simp only [Heap.set_same, set_ne, ne_eq, not_false_eq_true, *] <;> rfl) | fail)) | fail))) | (with_reducible refine And.intro ?_ ?_)) <;> (try simp only [Sq,Sr,Sh,Si,Sl,Bu,Bb,Bd,Bc,Bw,Bn,Int.reduceAdd,Int.reduceSub,Int.reduceMul,Int.reduceTDiv,Int.reduceTMod,Int.reduceMod,Int.reduceDiv,Nat.reduceLT,Nat.reduceEqDiff,Sa,Sb,Sc,Sd,Se,Sf,Sg,Int.reduceLE,Int.reduceLT,Int.reduceToNat,Int.reduceNeg,Int.reduceEq,Nat.reduceLeDiff,Nat.reducePow,Int.reducePow,reduceIte,Nat.reduceSub,Nat.reduceAdd,Nat.reduceMul,putAt,ceq,List.replicate, *]))
  rename_i b2 hb2 hn2 b5 hb5 hn5
  refine any_blk (b := b5) (by simp only [Heap.set_same, set_ne, ne_eq, not_false_eq_true, *] <;> rfl) ?_
  (all_goals (try simp only [Sq,Sr,Sh,Si,Sl,Bu,Bb,Bd,Bc,Bw,Bn,Int.reduceAdd,Int.reduceSub,Int.reduceMul,Int.reduceTDiv,Int.reduceTMod,Int.reduceMod,Int.reduceDiv,Nat.reduceLT,Nat.reduceEqDiff,Sa,Sb,Sc,Sd,Se,Sf,Sg,Int.reduceLE,Int.reduceLT,Int.reduceToNat,Int.reduceNeg,Int.reduceEq,Nat.reduceLeDiff,Nat.reducePow,Int.reducePow,reduceIte,Nat.reduceSub,Nat.reduceAdd,Nat.reduceMul,putAt,List.replicate, *])); repeat' ((first | (with_reducible refine fun _ : True => ?_) | refine r_in _ _ ?_ | (with_reducible refine any_h ?_) | ((first | refine AllocQ_i ?_ | refine AllocO_i ?_); intro bk hb0 hbk; (try simp only [set_none'] at hbk); (try (first | have hbn := Grow.none (by assumption) hbk | have hbn := Grow.none (by assumption) hbk.2 | have hbn := Grow.none (by assumption) hbk.2.2 | have hbn := Grow.none (by assumption) hbk.2.2.2 | have hbn := Grow.none (by assumption) hbk.2.2.2.2 | have hbn := Grow.none (by assumption) hbk.2.2.2.2.2)); (try simp only [set_none'] at hbn); (try (first | have hbm := Grow.none (by assumption) hbn | have hbm := Grow.none (by assumption) hbn.2 | have hbm := Grow.none (by assumption) hbn.2.2 | have hbm := Grow.none (by assumption) hbn.2.2.2 | have hbm := Grow.none (by assumption) hbn.2.2.2.2 | have hbm := Grow.none (by assumption) hbn.2.2.2.2.2)); (try simp only [set_none'] at hbm)) | ((first | refine condS_i ?_ ?_ | refine pick_i ?_ ?_ | refine gS_it ?_ ?_ | refine gS_if ?_ ?_ | refine gP_it ?_ ?_ | refine gP_if ?_ ?_) <;> (intro hc; try simp only [Int.reduceLE,Int.reduceLT,Int.reduceEq,Sn] at hc)) | (with_reducible refine KP_i ?_ ?_; · (repeat' (first | exact Heap.Le.refl _ | (with_reducible refine Le_set2 ?_) | (refine Le_known (by first | (simp only [Heap.set_same, set_ne, ne_eq, not_false_eq_true, *] <;> rfl) | fail) ?_) | (refine Le_fresh (by first | (simp only [*] <;> done) | (simp [set_none', Heap.set_same, set_ne, noneH, *] <;> done) | fail) ?_) | (refine Heap.Le.trans ?_ (Grow.le (by assumption))) | exact Le_none | (refine Le_put ?_ (by first | (simp only [Heap.set_same, set_ne, ne_eq, not_false_eq_true, *] <;> rfl) | fail)) | fail))) | (with_reducible refine And.intro ?_ ?_)) <;> (try simp only [Sq,Sr,Sh,Si,Sl,Bu,Bb,Bd,Bc,Bw,Bn,Int.reduceAdd,Int.reduceSub,Int.reduceMul,Int.reduceTDiv,Int.reduceTMod,Int.reduceMod,Int.reduceDiv,Nat.reduceLT,Nat.reduceEqDiff,Sa,Sb,Sc,Sd,Se,Sf,Sg,Int.reduceLE,Int.reduceLT,Int.reduceToNat,Int.reduceNeg,Int.reduceEq,Nat.reduceLeDiff,Nat.reducePow,Int.reducePow,reduceIte,Nat.reduceSub,Nat.reduceAdd,Nat.reduceMul,putAt,List.replicate, *]))
  all_goals
    refine Fin_le ((show ∀ v, _ → _ from h) _ ?_) (by (repeat' (first | exact Heap.Le.refl _ | (with_reducible refine Le_set2 ?_) | (refine Le_known (by first | (simp only [Heap.set_same, set_ne, ne_eq, not_false_eq_true, *] <;> rfl) | fail) ?_) | (refine Le_fresh (by first | (simp only [*] <;> done) | (simp [set_none', Heap.set_same, set_ne, noneH, *] <;> done) | fail) ?_) | (refine Heap.Le.trans ?_ (Grow.le (by assumption))) | exact Le_none | (refine Le_put ?_ (by first | (simp only [Heap.set_same, set_ne, ne_eq, not_false_eq_true, *] <;> rfl) | fail)) | fail)))
    clear h hr hf t0 hq
    first
      | (simp [*]; done)
      | (subst_vars; simp [*]; done)
      | (subst_vars; simp [*, Int.not_lt.2, Int.not_le.2]; done)
theorem right_10 (hr : rdn w0 H b (o + k * 16) 16 = some (Ins.row ⟨10, fn, bs, n, dst, a, bb, cc, m0, m1, m2, m3, p0, p1, p2, p3⟩)) (hf : ∀ d, w0.heap.size ≤ d → H d = none → d ≠ b)
    (el : is.length = len) (t0 : (k : Int) < len)
    (h : ∀ v, rightB ⟨st, some ⟨b, o, none⟩, cap, is, rg, ab, un, va⟩ k ⟨10, fn, bs, n, dst, a, bb, cc, m0, m1, m2, m3, p0, p1, p2, p3⟩ = v → HL.Fin K (.bool v) H) :
    HCalls Try.prog w0 52 [.agg #[.int .i64 st, .slice (some ⟨b, o, none⟩) len cap, .int .i64 rg, .int .i64 ab, .int .i64 un, .int .i64 va], .int .i64 k] H K := by
  have hq := ceq_row (keepI ⟨10, fn, bs, n, dst, a, bb, cc, m0, m1, m2, m3, p0, p1, p2, p3⟩) ⟨10, fn, bs, n, dst, a, bb, cc, m0, m1, m2, m3, p0, p1, p2, p3⟩
  obtain ⟨q, eq⟩ : ∃ q, decide (keepI ⟨10, fn, bs, n, dst, a, bb, cc, m0, m1, m2, m3, p0, p1, p2, p3⟩ = ⟨10, fn, bs, n, dst, a, bb, cc, m0, m1, m2, m3, p0, p1, p2, p3⟩) = q := ⟨_, rfl⟩
  unfold rightB at h
  simp only [eq] at hq h
  unfold keepI at hq
  unfold legalB regsL wrt reads at h
  simp only [Int.reduceEq, or_true, true_or, or_false, false_or, or_self, decide_true, decide_false, if_true, if_false, Bool.false_eq_true, reduceIte, List.all_cons, List.all_nil, Bool.and_true, Bool.true_and, Bool.false_and, Bool.and_false, Int.reduceLT, Int.reduceLE, Int.reduceToNat, List.take_succ_cons, List.take_zero, el] at h hq
  unfold Ins.row at hq hr
  clear eq el
  replace h : Keep _ := h
  refine HL.hc k52 999 ?_; unfold M52
  (all_goals (try simp only [Sq,Sr,Sh,Si,Sl,Bu,Bb,Bd,Bc,Bw,Bn,Int.reduceAdd,Int.reduceSub,Int.reduceMul,Int.reduceTDiv,Int.reduceTMod,Int.reduceMod,Int.reduceDiv,Nat.reduceLT,Nat.reduceEqDiff,Sa,Sb,Sc,Sd,Se,Sf,Sg,Int.reduceLE,Int.reduceLT,Int.reduceToNat,Int.reduceNeg,Int.reduceEq,Nat.reduceLeDiff,Nat.reducePow,Int.reducePow,reduceIte,Nat.reduceSub,Nat.reduceAdd,Nat.reduceMul,putAt,List.replicate, *])); repeat' ((first | (with_reducible refine fun _ : True => ?_) | refine r_in _ _ ?_ | (with_reducible refine any_h ?_) | ((first | refine AllocQ_i ?_ | refine AllocO_i ?_); intro bk hb0 hbk; (try simp only [set_none'] at hbk); (try (first | have hbn := Grow.none (by assumption) hbk | have hbn := Grow.none (by assumption) hbk.2 | have hbn := Grow.none (by assumption) hbk.2.2 | have hbn := Grow.none (by assumption) hbk.2.2.2 | have hbn := Grow.none (by assumption) hbk.2.2.2.2 | have hbn := Grow.none (by assumption) hbk.2.2.2.2.2)); (try simp only [set_none'] at hbn); (try (first | have hbm := Grow.none (by assumption) hbn | have hbm := Grow.none (by assumption) hbn.2 | have hbm := Grow.none (by assumption) hbn.2.2 | have hbm := Grow.none (by assumption) hbn.2.2.2 | have hbm := Grow.none (by assumption) hbn.2.2.2.2 | have hbm := Grow.none (by assumption) hbn.2.2.2.2.2)); (try simp only [set_none'] at hbm)) | ((first | refine condS_i ?_ ?_ | refine pick_i ?_ ?_ | refine gS_it ?_ ?_ | refine gS_if ?_ ?_ | refine gP_it ?_ ?_ | refine gP_if ?_ ?_) <;> (intro hc; try simp only [Int.reduceLE,Int.reduceLT,Int.reduceEq,Sn] at hc)) | (with_reducible refine KP_i ?_ ?_; · (repeat' (first | exact Heap.Le.refl _ | (with_reducible refine Le_set2 ?_) | (refine Le_known (by first | (simp only [Heap.set_same, set_ne, ne_eq, not_false_eq_true, *] <;> rfl) | fail) ?_) | (refine Le_fresh (by first | (simp only [*] <;> done) | (simp [set_none', Heap.set_same, set_ne, noneH, *] <;> done) | fail) ?_) | (refine Heap.Le.trans ?_ (Grow.le (by assumption))) | exact Le_none | (refine Le_put ?_ (by first | (simp only [Heap.set_same, set_ne, ne_eq, not_false_eq_true, *] <;> rfl) | fail)) | fail))) | (with_reducible refine And.intro ?_ ?_)) <;> (try simp only [Sq,Sr,Sh,Si,Sl,Bu,Bb,Bd,Bc,Bw,Bn,Int.reduceAdd,Int.reduceSub,Int.reduceMul,Int.reduceTDiv,Int.reduceTMod,Int.reduceMod,Int.reduceDiv,Nat.reduceLT,Nat.reduceEqDiff,Sa,Sb,Sc,Sd,Se,Sf,Sg,Int.reduceLE,Int.reduceLT,Int.reduceToNat,Int.reduceNeg,Int.reduceEq,Nat.reduceLeDiff,Nat.reducePow,Int.reducePow,reduceIte,Nat.reduceSub,Nat.reduceAdd,Nat.reduceMul,putAt,List.replicate, *]))
  all_goals
    refine Fin_le ((show ∀ v, _ → _ from h) _ ?_) (by (repeat' (first | exact Heap.Le.refl _ | (with_reducible refine Le_set2 ?_) | (refine Le_known (by first | (simp only [Heap.set_same, set_ne, ne_eq, not_false_eq_true, *] <;> rfl) | fail) ?_) | (refine Le_fresh (by first | (simp only [*] <;> done) | (simp [set_none', Heap.set_same, set_ne, noneH, *] <;> done) | fail) ?_) | (refine Heap.Le.trans ?_ (Grow.le (by assumption))) | exact Le_none | (refine Le_put ?_ (by first | (simp only [Heap.set_same, set_ne, ne_eq, not_false_eq_true, *] <;> rfl) | fail)) | fail)))
    clear h hr hf t0 hq
    first
      | (simp [*]; done)
      | (subst_vars; simp [*]; done)
      | (subst_vars; simp [*, Int.not_lt.2, Int.not_le.2]; done)
theorem right_12 (hr : rdn w0 H b (o + k * 16) 16 = some (Ins.row ⟨12, fn, bs, n, dst, a, bb, cc, m0, m1, m2, m3, p0, p1, p2, p3⟩)) (hf : ∀ d, w0.heap.size ≤ d → H d = none → d ≠ b)
    (el : is.length = len) (t0 : (k : Int) < len)
    (h : ∀ v, rightB ⟨st, some ⟨b, o, none⟩, cap, is, rg, ab, un, va⟩ k ⟨12, fn, bs, n, dst, a, bb, cc, m0, m1, m2, m3, p0, p1, p2, p3⟩ = v → HL.Fin K (.bool v) H) :
    HCalls Try.prog w0 52 [.agg #[.int .i64 st, .slice (some ⟨b, o, none⟩) len cap, .int .i64 rg, .int .i64 ab, .int .i64 un, .int .i64 va], .int .i64 k] H K := by
  have hq := ceq_row (keepI ⟨12, fn, bs, n, dst, a, bb, cc, m0, m1, m2, m3, p0, p1, p2, p3⟩) ⟨12, fn, bs, n, dst, a, bb, cc, m0, m1, m2, m3, p0, p1, p2, p3⟩
  obtain ⟨q, eq⟩ : ∃ q, decide (keepI ⟨12, fn, bs, n, dst, a, bb, cc, m0, m1, m2, m3, p0, p1, p2, p3⟩ = ⟨12, fn, bs, n, dst, a, bb, cc, m0, m1, m2, m3, p0, p1, p2, p3⟩) = q := ⟨_, rfl⟩
  unfold rightB at h
  simp only [eq] at hq h
  unfold keepI at hq
  unfold legalB regsL wrt reads at h
  simp only [Int.reduceEq, or_true, true_or, or_false, false_or, or_self, decide_true, decide_false, if_true, if_false, Bool.false_eq_true, reduceIte, List.all_cons, List.all_nil, Bool.and_true, Bool.true_and, Bool.false_and, Bool.and_false, Int.reduceLT, Int.reduceLE, Int.reduceToNat, List.take_succ_cons, List.take_zero, el] at h hq
  unfold Ins.row at hq hr
  clear eq el
  replace h : Keep _ := h
  refine HL.hc k52 999 ?_; unfold M52
  (all_goals (try simp only [Sq,Sr,Sh,Si,Sl,Bu,Bb,Bd,Bc,Bw,Bn,Int.reduceAdd,Int.reduceSub,Int.reduceMul,Int.reduceTDiv,Int.reduceTMod,Int.reduceMod,Int.reduceDiv,Nat.reduceLT,Nat.reduceEqDiff,Sa,Sb,Sc,Sd,Se,Sf,Sg,Int.reduceLE,Int.reduceLT,Int.reduceToNat,Int.reduceNeg,Int.reduceEq,Nat.reduceLeDiff,Nat.reducePow,Int.reducePow,reduceIte,Nat.reduceSub,Nat.reduceAdd,Nat.reduceMul,putAt,List.replicate, *])); repeat' ((first | (with_reducible refine fun _ : True => ?_) | refine r_in _ _ ?_ | (with_reducible refine any_h ?_) | ((first | refine AllocQ_i ?_ | refine AllocO_i ?_); intro bk hb0 hbk; (try simp only [set_none'] at hbk); (try (first | have hbn := Grow.none (by assumption) hbk | have hbn := Grow.none (by assumption) hbk.2 | have hbn := Grow.none (by assumption) hbk.2.2 | have hbn := Grow.none (by assumption) hbk.2.2.2 | have hbn := Grow.none (by assumption) hbk.2.2.2.2 | have hbn := Grow.none (by assumption) hbk.2.2.2.2.2)); (try simp only [set_none'] at hbn); (try (first | have hbm := Grow.none (by assumption) hbn | have hbm := Grow.none (by assumption) hbn.2 | have hbm := Grow.none (by assumption) hbn.2.2 | have hbm := Grow.none (by assumption) hbn.2.2.2 | have hbm := Grow.none (by assumption) hbn.2.2.2.2 | have hbm := Grow.none (by assumption) hbn.2.2.2.2.2)); (try simp only [set_none'] at hbm)) | ((first | refine condS_i ?_ ?_ | refine pick_i ?_ ?_ | refine gS_it ?_ ?_ | refine gS_if ?_ ?_ | refine gP_it ?_ ?_ | refine gP_if ?_ ?_) <;> (intro hc; try simp only [Int.reduceLE,Int.reduceLT,Int.reduceEq,Sn] at hc)) | (with_reducible refine KP_i ?_ ?_; · (repeat' (first | exact Heap.Le.refl _ | (with_reducible refine Le_set2 ?_) | (refine Le_known (by first | (simp only [Heap.set_same, set_ne, ne_eq, not_false_eq_true, *] <;> rfl) | fail) ?_) | (refine Le_fresh (by first | (simp only [*] <;> done) | (simp [set_none', Heap.set_same, set_ne, noneH, *] <;> done) | fail) ?_) | (refine Heap.Le.trans ?_ (Grow.le (by assumption))) | exact Le_none | (refine Le_put ?_ (by first | (simp only [Heap.set_same, set_ne, ne_eq, not_false_eq_true, *] <;> rfl) | fail)) | fail))) | (with_reducible refine And.intro ?_ ?_)) <;> (try simp only [Sq,Sr,Sh,Si,Sl,Bu,Bb,Bd,Bc,Bw,Bn,Int.reduceAdd,Int.reduceSub,Int.reduceMul,Int.reduceTDiv,Int.reduceTMod,Int.reduceMod,Int.reduceDiv,Nat.reduceLT,Nat.reduceEqDiff,Sa,Sb,Sc,Sd,Se,Sf,Sg,Int.reduceLE,Int.reduceLT,Int.reduceToNat,Int.reduceNeg,Int.reduceEq,Nat.reduceLeDiff,Nat.reducePow,Int.reducePow,reduceIte,Nat.reduceSub,Nat.reduceAdd,Nat.reduceMul,putAt,List.replicate, *]))
  all_goals
    refine Fin_le ((show ∀ v, _ → _ from h) _ ?_) (by (repeat' (first | exact Heap.Le.refl _ | (with_reducible refine Le_set2 ?_) | (refine Le_known (by first | (simp only [Heap.set_same, set_ne, ne_eq, not_false_eq_true, *] <;> rfl) | fail) ?_) | (refine Le_fresh (by first | (simp only [*] <;> done) | (simp [set_none', Heap.set_same, set_ne, noneH, *] <;> done) | fail) ?_) | (refine Heap.Le.trans ?_ (Grow.le (by assumption))) | exact Le_none | (refine Le_put ?_ (by first | (simp only [Heap.set_same, set_ne, ne_eq, not_false_eq_true, *] <;> rfl) | fail)) | fail)))
    clear h hr hf t0 hq
    first
      | (simp [*]; done)
      | (subst_vars; simp [*]; done)
      | (subst_vars; simp [*, Int.not_lt.2, Int.not_le.2]; done)
theorem right_e (ho : op < 1 ∨ 12 < op) (hr : rdn w0 H b (o + k * 16) 16 = some (Ins.row ⟨op, fn, bs, n, dst, a, bb, cc, m0, m1, m2, m3, p0, p1, p2, p3⟩)) (hf : ∀ d, w0.heap.size ≤ d → H d = none → d ≠ b)
    (el : is.length = len) (t0 : (k : Int) < len)
    (h : ∀ v, rightB ⟨st, some ⟨b, o, none⟩, cap, is, rg, ab, un, va⟩ k ⟨op, fn, bs, n, dst, a, bb, cc, m0, m1, m2, m3, p0, p1, p2, p3⟩ = v → HL.Fin K (.bool v) H) :
    HCalls Try.prog w0 52 [.agg #[.int .i64 st, .slice (some ⟨b, o, none⟩) len cap, .int .i64 rg, .int .i64 ab, .int .i64 un, .int .i64 va], .int .i64 k] H K := by
  have hq := ceq_row (keepI ⟨op, fn, bs, n, dst, a, bb, cc, m0, m1, m2, m3, p0, p1, p2, p3⟩) ⟨op, fn, bs, n, dst, a, bb, cc, m0, m1, m2, m3, p0, p1, p2, p3⟩
  obtain ⟨q, eq⟩ : ∃ q, decide (keepI ⟨op, fn, bs, n, dst, a, bb, cc, m0, m1, m2, m3, p0, p1, p2, p3⟩ = ⟨op, fn, bs, n, dst, a, bb, cc, m0, m1, m2, m3, p0, p1, p2, p3⟩) = q := ⟨_, rfl⟩
  unfold rightB at h
  simp only [eq] at hq h
  unfold keepI at hq
  unfold legalB regsL wrt reads at h
  have o1 : ¬ op = 1 := by omega
  have o2 : ¬ op = 2 := by omega
  have o3 : ¬ op = 3 := by omega
  have o4 : ¬ op = 4 := by omega
  have o5 : ¬ op = 5 := by omega
  have o6 : ¬ op = 6 := by omega
  have o7 : ¬ op = 7 := by omega
  have o8 : ¬ op = 8 := by omega
  have o9 : ¬ op = 9 := by omega
  have o10 : ¬ op = 10 := by omega
  have o11 : ¬ op = 11 := by omega
  have o12 : ¬ op = 12 := by omega
  clear ho
  simp only [Int.reduceEq, or_true, true_or, or_false, false_or, or_self, decide_true, decide_false, if_true, if_false, Bool.false_eq_true, reduceIte, List.all_cons, List.all_nil, Bool.and_true, Bool.true_and, Bool.false_and, Bool.and_false, Int.reduceLT, Int.reduceLE, Int.reduceToNat, List.take_succ_cons, List.take_zero, o1, o2, o3, o4, o5, o6, o7, o8, o9, o10, o11, o12, el] at h hq
  unfold Ins.row at hq hr
  clear eq el
  replace h : Keep _ := h
  refine HL.hc k52 999 ?_; unfold M52
  (all_goals (try simp only [Sq,Sr,Sh,Si,Sl,Bu,Bb,Bd,Bc,Bw,Bn,Int.reduceAdd,Int.reduceSub,Int.reduceMul,Int.reduceTDiv,Int.reduceTMod,Int.reduceMod,Int.reduceDiv,Nat.reduceLT,Nat.reduceEqDiff,Sa,Sb,Sc,Sd,Se,Sf,Sg,Int.reduceLE,Int.reduceLT,Int.reduceToNat,Int.reduceNeg,Int.reduceEq,Nat.reduceLeDiff,Nat.reducePow,Int.reducePow,reduceIte,Nat.reduceSub,Nat.reduceAdd,Nat.reduceMul,putAt,List.replicate, *])); repeat' ((first | (with_reducible refine fun _ : True => ?_) | refine r_in _ _ ?_ | (with_reducible refine any_h ?_) | ((first | refine AllocQ_i ?_ | refine AllocO_i ?_); intro bk hb0 hbk; (try simp only [set_none'] at hbk); (try (first | have hbn := Grow.none (by assumption) hbk | have hbn := Grow.none (by assumption) hbk.2 | have hbn := Grow.none (by assumption) hbk.2.2 | have hbn := Grow.none (by assumption) hbk.2.2.2 | have hbn := Grow.none (by assumption) hbk.2.2.2.2 | have hbn := Grow.none (by assumption) hbk.2.2.2.2.2)); (try simp only [set_none'] at hbn); (try (first | have hbm := Grow.none (by assumption) hbn | have hbm := Grow.none (by assumption) hbn.2 | have hbm := Grow.none (by assumption) hbn.2.2 | have hbm := Grow.none (by assumption) hbn.2.2.2 | have hbm := Grow.none (by assumption) hbn.2.2.2.2 | have hbm := Grow.none (by assumption) hbn.2.2.2.2.2)); (try simp only [set_none'] at hbm)) | ((first | refine condS_i ?_ ?_ | refine pick_i ?_ ?_ | refine gS_it ?_ ?_ | refine gS_if ?_ ?_ | refine gP_it ?_ ?_ | refine gP_if ?_ ?_) <;> (intro hc; try simp only [Int.reduceLE,Int.reduceLT,Int.reduceEq,Sn] at hc)) | (with_reducible refine KP_i ?_ ?_; · (repeat' (first | exact Heap.Le.refl _ | (with_reducible refine Le_set2 ?_) | (refine Le_known (by first | (simp only [Heap.set_same, set_ne, ne_eq, not_false_eq_true, *] <;> rfl) | fail) ?_) | (refine Le_fresh (by first | (simp only [*] <;> done) | (simp [set_none', Heap.set_same, set_ne, noneH, *] <;> done) | fail) ?_) | (refine Heap.Le.trans ?_ (Grow.le (by assumption))) | exact Le_none | (refine Le_put ?_ (by first | (simp only [Heap.set_same, set_ne, ne_eq, not_false_eq_true, *] <;> rfl) | fail)) | fail))) | (with_reducible refine And.intro ?_ ?_)) <;> (try simp only [Sq,Sr,Sh,Si,Sl,Bu,Bb,Bd,Bc,Bw,Bn,Int.reduceAdd,Int.reduceSub,Int.reduceMul,Int.reduceTDiv,Int.reduceTMod,Int.reduceMod,Int.reduceDiv,Nat.reduceLT,Nat.reduceEqDiff,Sa,Sb,Sc,Sd,Se,Sf,Sg,Int.reduceLE,Int.reduceLT,Int.reduceToNat,Int.reduceNeg,Int.reduceEq,Nat.reduceLeDiff,Nat.reducePow,Int.reducePow,reduceIte,Nat.reduceSub,Nat.reduceAdd,Nat.reduceMul,putAt,List.replicate, *]))
  all_goals
    refine Fin_le ((show ∀ v, _ → _ from h) _ ?_) (by (repeat' (first | exact Heap.Le.refl _ | (with_reducible refine Le_set2 ?_) | (refine Le_known (by first | (simp only [Heap.set_same, set_ne, ne_eq, not_false_eq_true, *] <;> rfl) | fail) ?_) | (refine Le_fresh (by first | (simp only [*] <;> done) | (simp [set_none', Heap.set_same, set_ne, noneH, *] <;> done) | fail) ?_) | (refine Heap.Le.trans ?_ (Grow.le (by assumption))) | exact Le_none | (refine Le_put ?_ (by first | (simp only [Heap.set_same, set_ne, ne_eq, not_false_eq_true, *] <;> rfl) | fail)) | fail)))
    clear h hr hf t0 hq
    first
      | (simp [*]; done)
      | (subst_vars; simp [*]; done)
      | (subst_vars; simp [*, Int.not_lt.2, Int.not_le.2]; done)
end
end Go.Proofs.Ytndgmnmnpfblmaa
