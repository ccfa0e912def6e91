/- Which levels can't be put (layer 8). -/
import Derived.Test.YtdaipgnhconfnaaInf
set_option linter.unusedSimpArgs false
set_option linter.unusedVariables false
set_option maxRecDepth 100000
set_option maxHeartbeats 4000000
namespace Go.Proofs.Ytdaipgnhconfnaa
open Go Go.HL Go.RowKit Pb
variable {w0 : World} {H : Heap} {K : Value → Heap → Prop}

def argBad (lv f : Int) (z : LvR) : Prop := lv < 0 ∨ 7 ≤ lv ∨ sizeI f = 0 ∨ ¬ sideP z.w ∨ ¬ sideP z.h
def lenBad (f : Int) (z : LvR) : Prop := z.l.length ≠ 0 ∧ (z.l.length : Int) ≠ z.w * z.h * sizeI f
def fmtBad (x : Im) (lv f : Int) : Prop := 0 < lv ∧ 0 < x.ls.length ∧ f ≠ x.f
/-- Why a level can't be put. -/
inductive PutE (x : Im) (lv f : Int) (z : LvR) : Int → Prop
  | image (h : ¬ x.right) : PutE x lv f z 180
  | arg (h : x.right) (h1 : argBad lv f z) : PutE x lv f z 2
  | len (h : x.right) (h1 : ¬ argBad lv f z) (h2 : lenBad f z) : PutE x lv f z 7
  | fmt (h : x.right) (h1 : ¬ argBad lv f z) (h2 : ¬ lenBad f z) (h3 : fmtBad x lv f) : PutE x lv f z 181
/- image Put -/
def M22 : MC :=
  .seq (.reg [⟨(some 4), .box 24 (.tmp 0), none⟩,
 ⟨(some 7), .box 38 (.tmp 3), none⟩,
 ⟨(some 8), .alloc 24 [(.int .i64 0), (.slice none 0 0), (.int .i64 0), (.int .i64 0), (.int .i64 0), (.int .i64 0)], none⟩,
 ⟨(some 9), .mv (.const (.int .i64 0)), none⟩])
 (.seq (.seq (.reg [⟨(some 13), .ldn 6 (.tmp 4), none⟩,
 ⟨(some 14), .call 19 [(.tmp 13)], none⟩,
 ⟨(some 10), .mv (.tmp 14), none⟩])
 (.seq (.reg [⟨(some 15), .mv (.tmp 10), none⟩,
 ⟨(some 16), .bin .neq (.tmp 15) (.const (.int .i64 0)), none⟩])
 (.cond (.tmp 16)
 (.seq (.reg [⟨(some 17), .build [(.int .i64 0), (.slice none 0 0), (.int .i64 0), (.int .i64 0), (.int .i64 0), (.int .i64 0)] [], none⟩,
 ⟨(some 18), .mv (.tmp 10), none⟩,
 ⟨none, .stn 6 (.tmp 8) (.tmp 17), none⟩,
 ⟨(some 9), .mv (.tmp 18), none⟩])
 (.ret))
 (.skip))))
 (.seq (.reg [⟨(some 19), .mv (.tmp 2), none⟩,
 ⟨(some 20), .call 48 [(.tmp 19)], none⟩,
 ⟨(some 11), .mv (.tmp 20), none⟩])
 (.seq (.block 0 (.seq (.reg [⟨(some 22), .mv (.tmp 1), none⟩,
 ⟨(some 23), .bin .lss (.tmp 22) (.const (.int .i64 0)), none⟩,
 ⟨(some 24), .mv (.tmp 23), none⟩,
 ⟨(some 25), .mv (.tmp 1), (some (24, false))⟩,
 ⟨(some 26), .bin .geq (.tmp 25) (.const (.int .i64 7)), (some (24, false))⟩,
 ⟨(some 27), .pick (.tmp 24) (.const (.bool true)) (.tmp 26), none⟩,
 ⟨(some 28), .mv (.tmp 27), none⟩,
 ⟨(some 29), .mv (.tmp 11), (some (28, false))⟩,
 ⟨(some 30), .bin .eql (.tmp 29) (.const (.int .i64 0)), (some (28, false))⟩,
 ⟨(some 31), .pick (.tmp 28) (.const (.bool true)) (.tmp 30), none⟩,
 ⟨(some 32), .mv (.tmp 31), none⟩,
 ⟨(some 33), .fa 0 (.tmp 7), (some (32, false))⟩,
 ⟨(some 34), .ld1 (.tmp 33), (some (32, false))⟩,
 ⟨(some 35), .call 50 [(.tmp 34)], (some (32, false))⟩,
 ⟨(some 36), .un .not (.tmp 35), (some (32, false))⟩,
 ⟨(some 37), .pick (.tmp 32) (.const (.bool true)) (.tmp 36), none⟩,
 ⟨(some 38), .mv (.tmp 37), none⟩,
 ⟨(some 39), .fa 1 (.tmp 7), (some (38, false))⟩,
 ⟨(some 40), .ld1 (.tmp 39), (some (38, false))⟩,
 ⟨(some 41), .call 50 [(.tmp 40)], (some (38, false))⟩,
 ⟨(some 42), .un .not (.tmp 41), (some (38, false))⟩,
 ⟨(some 43), .pick (.tmp 38) (.const (.bool true)) (.tmp 42), none⟩,
 ⟨(some 21), .mv (.tmp 43), none⟩])
 (.cond (.tmp 21)
 (.seq (.reg [⟨(some 44), .build [(.int .i64 0), (.slice none 0 0), (.int .i64 0), (.int .i64 0), (.int .i64 0), (.int .i64 0)] [], none⟩,
 ⟨none, .stn 6 (.tmp 8) (.tmp 44), none⟩,
 ⟨(some 9), .mv (.const (.int .i64 2)), none⟩])
 (.ret))
 (.seq (.reg [⟨(some 46), .fa 2 (.tmp 7), none⟩,
 ⟨(some 47), .ld1 (.tmp 46), none⟩,
 ⟨(some 48), .len (.tmp 47), none⟩,
 ⟨(some 49), .bin .gtr (.tmp 48) (.const (.int .i64 0)), none⟩,
 ⟨(some 50), .mv (.tmp 49), none⟩,
 ⟨(some 51), .fa 2 (.tmp 7), (some (50, true))⟩,
 ⟨(some 52), .ld1 (.tmp 51), (some (50, true))⟩,
 ⟨(some 53), .len (.tmp 52), (some (50, true))⟩,
 ⟨(some 54), .fa 0 (.tmp 7), (some (50, true))⟩,
 ⟨(some 55), .ld1 (.tmp 54), (some (50, true))⟩,
 ⟨(some 56), .fa 1 (.tmp 7), (some (50, true))⟩,
 ⟨(some 57), .ld1 (.tmp 56), (some (50, true))⟩,
 ⟨(some 58), .bin .mul (.tmp 55) (.tmp 57), (some (50, true))⟩,
 ⟨(some 59), .mv (.tmp 11), (some (50, true))⟩,
 ⟨(some 60), .bin .mul (.tmp 58) (.tmp 59), (some (50, true))⟩,
 ⟨(some 61), .bin .neq (.tmp 53) (.tmp 60), (some (50, true))⟩,
 ⟨(some 62), .pick (.tmp 50) (.tmp 61) (.const (.bool false)), none⟩,
 ⟨(some 45), .mv (.tmp 62), none⟩])
 (.cond (.tmp 45)
 (.seq (.reg [⟨(some 63), .build [(.int .i64 0), (.slice none 0 0), (.int .i64 0), (.int .i64 0), (.int .i64 0), (.int .i64 0)] [], none⟩,
 ⟨none, .stn 6 (.tmp 8) (.tmp 63), none⟩,
 ⟨(some 9), .mv (.const (.int .i64 7)), none⟩])
 (.ret))
 (.seq (.reg [⟨(some 65), .mv (.tmp 1), none⟩,
 ⟨(some 66), .bin .gtr (.tmp 65) (.const (.int .i64 0)), none⟩,
 ⟨(some 67), .mv (.tmp 66), none⟩,
 ⟨(some 68), .fa 1 (.tmp 4), (some (67, true))⟩,
 ⟨(some 69), .ld1 (.tmp 68), (some (67, true))⟩,
 ⟨(some 70), .len (.tmp 69), (some (67, true))⟩,
 ⟨(some 71), .bin .gtr (.tmp 70) (.const (.int .i64 0)), (some (67, true))⟩,
 ⟨(some 72), .pick (.tmp 67) (.tmp 71) (.const (.bool false)), none⟩,
 ⟨(some 73), .mv (.tmp 72), none⟩,
 ⟨(some 74), .mv (.tmp 2), (some (73, true))⟩,
 ⟨(some 75), .fa 0 (.tmp 4), (some (73, true))⟩,
 ⟨(some 76), .ld1 (.tmp 75), (some (73, true))⟩,
 ⟨(some 77), .bin .neq (.tmp 74) (.tmp 76), (some (73, true))⟩,
 ⟨(some 78), .pick (.tmp 73) (.tmp 77) (.const (.bool false)), none⟩,
 ⟨(some 64), .mv (.tmp 78), none⟩])
 (.cond (.tmp 64)
 (.seq (.reg [⟨(some 79), .build [(.int .i64 0), (.slice none 0 0), (.int .i64 0), (.int .i64 0), (.int .i64 0), (.int .i64 0)] [], none⟩,
 ⟨none, .stn 6 (.tmp 8) (.tmp 79), none⟩,
 ⟨(some 9), .mv (.const (.int .i64 181)), none⟩])
 (.ret))
 (.skip))))))))
 (.seq (.seq (.reg [⟨(some 80), .mv (.tmp 2), none⟩,
 ⟨(some 81), .fa 0 (.tmp 4), none⟩,
 ⟨(some 82), .ld1 (.tmp 81), none⟩,
 ⟨(some 83), .bin .neq (.tmp 80) (.tmp 82), none⟩])
 (.cond (.tmp 83)
 (.reg [⟨(some 84), .fa 1 (.tmp 4), none⟩,
 ⟨none, .st1 (.tmp 84) (.const (.slice none 0 0)), none⟩])
 (.skip)))
 (.seq (.reg [⟨(some 85), .ldn 6 (.tmp 4), none⟩,
 ⟨(some 86), .call 41 [(.tmp 85)], none⟩,
 ⟨none, .stn 6 (.tmp 4) (.tmp 86), none⟩])
 (.seq (.reg [⟨(some 87), .mv (.tmp 2), none⟩,
 ⟨(some 88), .fa 0 (.tmp 4), none⟩,
 ⟨none, .st1 (.tmp 88) (.tmp 87), none⟩])
 (.seq (.block 1 (.loop (.seq (.seq (.reg [⟨(some 89), .fa 1 (.tmp 4), none⟩,
 ⟨(some 90), .ld1 (.tmp 89), none⟩,
 ⟨(some 91), .len (.tmp 90), none⟩,
 ⟨(some 92), .mv (.tmp 1), none⟩,
 ⟨(some 93), .bin .leq (.tmp 91) (.tmp 92), none⟩])
 (.cond (.tmp 93)
 (.skip)
 (.exit 1)))
 (.block 2 (.reg [⟨(some 94), .fa 1 (.tmp 4), none⟩,
 ⟨(some 95), .ld1 (.tmp 94), none⟩,
 ⟨(some 96), .build [(.int .i64 0), (.int .i64 0), (.slice none 0 0)] [], none⟩,
 ⟨(some 97), .bslice 38 1 [(.int .i64 0), (.int .i64 0), (.slice none 0 0)] [(0, 3, (.tmp 96))], none⟩,
 ⟨(some 98), .app 38 3 40 [(.int .i64 0), (.int .i64 0), (.slice none 0 0)] (.tmp 95) (.tmp 97), none⟩,
 ⟨(some 99), .fa 1 (.tmp 4), none⟩,
 ⟨none, .st1 (.tmp 99) (.tmp 98), none⟩])))))
 (.seq (.reg [⟨(some 100), .fa 0 (.tmp 7), none⟩,
 ⟨(some 101), .ld1 (.tmp 100), none⟩,
 ⟨(some 102), .fa 1 (.tmp 7), none⟩,
 ⟨(some 103), .ld1 (.tmp 102), none⟩,
 ⟨(some 104), .bin .mul (.tmp 101) (.tmp 103), none⟩,
 ⟨(some 105), .mv (.tmp 11), none⟩,
 ⟨(some 106), .bin .mul (.tmp 104) (.tmp 105), none⟩,
 ⟨(some 107), .mks 5 1 [(.int .u8 0)] (.tmp 106) (.tmp 106), none⟩,
 ⟨(some 12), .mv (.tmp 107), none⟩])
 (.seq (.reg [⟨(some 108), .mv (.tmp 12), none⟩,
 ⟨(some 109), .fa 2 (.tmp 7), none⟩,
 ⟨(some 110), .ld1 (.tmp 109), none⟩,
 ⟨(some 111), .cpy 1 (.tmp 108) (.tmp 110), none⟩])
 (.seq (.reg [⟨(some 112), .fa 1 (.tmp 4), none⟩,
 ⟨(some 113), .ld1 (.tmp 112), none⟩,
 ⟨(some 114), .mv (.tmp 1), none⟩,
 ⟨(some 115), .fa 0 (.tmp 7), none⟩,
 ⟨(some 116), .ld1 (.tmp 115), none⟩,
 ⟨(some 117), .fa 1 (.tmp 7), none⟩,
 ⟨(some 118), .ld1 (.tmp 117), none⟩,
 ⟨(some 119), .mv (.tmp 12), none⟩,
 ⟨(some 120), .build [(.int .i64 0), (.int .i64 0), (.slice none 0 0)] [(0, 1, (.tmp 116)), (1, 1, (.tmp 118)), (2, 1, (.tmp 119))], none⟩,
 ⟨(some 121), .is 3 (.tmp 113) (.tmp 114), none⟩,
 ⟨none, .stn 3 (.tmp 121) (.tmp 120), none⟩])
 (.seq (.reg [⟨(some 122), .ldn 6 (.tmp 4), none⟩,
 ⟨none, .stn 6 (.tmp 8) (.tmp 122), none⟩,
 ⟨(some 9), .mv (.const (.int .i64 0)), none⟩])
 (.ret))))))))))))
theorem k22 : fnOk Try.prog 22 = some (M22, [.cn 6 8, .t 9], 123) := by kernel_rfl

end Go.Proofs.Ytdaipgnhconfnaa
