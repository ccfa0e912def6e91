/- The document's linear colour of a level (layer 9). -/
import Derived.Test.YtfokghepfcfbjaaImh
set_option linter.unusedSimpArgs false
set_option linter.unusedVariables false
set_option maxRecDepth 100000
set_option maxHeartbeats 8000000
namespace Go.Proofs.Ytfokghepfcfbjaa
open Go.HL Go.RowKit Pb
variable {w0 : World} {H : Heap} {K : Value → Heap → Prop}

def A24_1 : PT := (.one true true ⟨(some 52), .ldn 6 (.tmp 4), none⟩ (.one true true ⟨(some 53), .mv (.tmp 1), none⟩ (.one true true ⟨(some 54), .mv (.tmp 12), none⟩ (.one true true ⟨(some 55), .mv (.tmp 13), none⟩ (.one true true ⟨(some 57), .ldn 6 (.tmp 4), none⟩ (.one true true ⟨(some 58), .mv (.tmp 1), none⟩ (.one true true ⟨(some 59), .mv (.tmp 12), none⟩ (.one true true ⟨(some 60), .bin .add (.tmp 59) (.const (.int .i64 1)), none⟩ (.one true true ⟨(some 61), .mv (.tmp 13), none⟩ (.alt (.one false true ⟨(some 56), .call 20 [(.tmp 52), (.tmp 53), (.tmp 54), (.tmp 55)], none⟩ (.alt (.one false true ⟨(some 62), .call 20 [(.tmp 57), (.tmp 58), (.tmp 60), (.tmp 61)], none⟩ (.alt (.one false true ⟨(some 16), .alloc 34 [(.int .i32 0), (.int .i32 0), (.int .i32 0), (.int .i32 0)], none⟩ (.one false true ⟨(some 17), .alloc 34 [(.int .i32 0), (.int .i32 0), (.int .i32 0), (.int .i32 0)], none⟩ (.one false false ⟨none, .stn 4 (.tmp 16) (.tmp 56), none⟩ (.one false false ⟨none, .stn 4 (.tmp 17) (.tmp 62), none⟩ .nil))))
      (.one false true ⟨(some 17), .alloc 34 [(.int .i32 0), (.int .i32 0), (.int .i32 0), (.int .i32 0)], none⟩ (.one false true ⟨(some 16), .alloc 34 [(.int .i32 0), (.int .i32 0), (.int .i32 0), (.int .i32 0)], none⟩ (.one false false ⟨none, .stn 4 (.tmp 16) (.tmp 56), none⟩ (.one false false ⟨none, .stn 4 (.tmp 17) (.tmp 62), none⟩ .nil))))))
      (.alt (.one false true ⟨(some 16), .alloc 34 [(.int .i32 0), (.int .i32 0), (.int .i32 0), (.int .i32 0)], none⟩ (.alt (.one false true ⟨(some 62), .call 20 [(.tmp 57), (.tmp 58), (.tmp 60), (.tmp 61)], none⟩ (.one false true ⟨(some 17), .alloc 34 [(.int .i32 0), (.int .i32 0), (.int .i32 0), (.int .i32 0)], none⟩ (.one false false ⟨none, .stn 4 (.tmp 16) (.tmp 56), none⟩ (.one false false ⟨none, .stn 4 (.tmp 17) (.tmp 62), none⟩ .nil))))
      (.one false true ⟨(some 17), .alloc 34 [(.int .i32 0), (.int .i32 0), (.int .i32 0), (.int .i32 0)], none⟩ (.one false true ⟨(some 62), .call 20 [(.tmp 57), (.tmp 58), (.tmp 60), (.tmp 61)], none⟩ (.one false false ⟨none, .stn 4 (.tmp 16) (.tmp 56), none⟩ (.one false false ⟨none, .stn 4 (.tmp 17) (.tmp 62), none⟩ .nil))))))
      (.one false true ⟨(some 17), .alloc 34 [(.int .i32 0), (.int .i32 0), (.int .i32 0), (.int .i32 0)], none⟩ (.alt (.one false true ⟨(some 62), .call 20 [(.tmp 57), (.tmp 58), (.tmp 60), (.tmp 61)], none⟩ (.one false true ⟨(some 16), .alloc 34 [(.int .i32 0), (.int .i32 0), (.int .i32 0), (.int .i32 0)], none⟩ (.one false false ⟨none, .stn 4 (.tmp 16) (.tmp 56), none⟩ (.one false false ⟨none, .stn 4 (.tmp 17) (.tmp 62), none⟩ .nil))))
      (.one false true ⟨(some 16), .alloc 34 [(.int .i32 0), (.int .i32 0), (.int .i32 0), (.int .i32 0)], none⟩ (.one false true ⟨(some 62), .call 20 [(.tmp 57), (.tmp 58), (.tmp 60), (.tmp 61)], none⟩ (.one false false ⟨none, .stn 4 (.tmp 16) (.tmp 56), none⟩ (.one false false ⟨none, .stn 4 (.tmp 17) (.tmp 62), none⟩ .nil)))))))))
      (.alt (.one false true ⟨(some 16), .alloc 34 [(.int .i32 0), (.int .i32 0), (.int .i32 0), (.int .i32 0)], none⟩ (.alt (.one false true ⟨(some 56), .call 20 [(.tmp 52), (.tmp 53), (.tmp 54), (.tmp 55)], none⟩ (.alt (.one false true ⟨(some 62), .call 20 [(.tmp 57), (.tmp 58), (.tmp 60), (.tmp 61)], none⟩ (.one false true ⟨(some 17), .alloc 34 [(.int .i32 0), (.int .i32 0), (.int .i32 0), (.int .i32 0)], none⟩ (.one false false ⟨none, .stn 4 (.tmp 16) (.tmp 56), none⟩ (.one false false ⟨none, .stn 4 (.tmp 17) (.tmp 62), none⟩ .nil))))
      (.one false true ⟨(some 17), .alloc 34 [(.int .i32 0), (.int .i32 0), (.int .i32 0), (.int .i32 0)], none⟩ (.one false true ⟨(some 62), .call 20 [(.tmp 57), (.tmp 58), (.tmp 60), (.tmp 61)], none⟩ (.one false false ⟨none, .stn 4 (.tmp 16) (.tmp 56), none⟩ (.one false false ⟨none, .stn 4 (.tmp 17) (.tmp 62), none⟩ .nil))))))
      (.one false true ⟨(some 17), .alloc 34 [(.int .i32 0), (.int .i32 0), (.int .i32 0), (.int .i32 0)], none⟩ (.one false true ⟨(some 56), .call 20 [(.tmp 52), (.tmp 53), (.tmp 54), (.tmp 55)], none⟩ (.one false true ⟨(some 62), .call 20 [(.tmp 57), (.tmp 58), (.tmp 60), (.tmp 61)], none⟩ (.one false false ⟨none, .stn 4 (.tmp 16) (.tmp 56), none⟩ (.one false false ⟨none, .stn 4 (.tmp 17) (.tmp 62), none⟩ .nil)))))))
      (.one false true ⟨(some 17), .alloc 34 [(.int .i32 0), (.int .i32 0), (.int .i32 0), (.int .i32 0)], none⟩ (.alt (.one false true ⟨(some 56), .call 20 [(.tmp 52), (.tmp 53), (.tmp 54), (.tmp 55)], none⟩ (.alt (.one false true ⟨(some 62), .call 20 [(.tmp 57), (.tmp 58), (.tmp 60), (.tmp 61)], none⟩ (.one false true ⟨(some 16), .alloc 34 [(.int .i32 0), (.int .i32 0), (.int .i32 0), (.int .i32 0)], none⟩ (.one false false ⟨none, .stn 4 (.tmp 16) (.tmp 56), none⟩ (.one false false ⟨none, .stn 4 (.tmp 17) (.tmp 62), none⟩ .nil))))
      (.one false true ⟨(some 16), .alloc 34 [(.int .i32 0), (.int .i32 0), (.int .i32 0), (.int .i32 0)], none⟩ (.one false true ⟨(some 62), .call 20 [(.tmp 57), (.tmp 58), (.tmp 60), (.tmp 61)], none⟩ (.one false false ⟨none, .stn 4 (.tmp 16) (.tmp 56), none⟩ (.one false false ⟨none, .stn 4 (.tmp 17) (.tmp 62), none⟩ .nil))))))
      (.one false true ⟨(some 16), .alloc 34 [(.int .i32 0), (.int .i32 0), (.int .i32 0), (.int .i32 0)], none⟩ (.one false true ⟨(some 56), .call 20 [(.tmp 52), (.tmp 53), (.tmp 54), (.tmp 55)], none⟩ (.one false true ⟨(some 62), .call 20 [(.tmp 57), (.tmp 58), (.tmp 60), (.tmp 61)], none⟩ (.one false false ⟨none, .stn 4 (.tmp 16) (.tmp 56), none⟩ (.one false false ⟨none, .stn 4 (.tmp 17) (.tmp 62), none⟩ .nil))))))))))))))))))
def A24_2 : PT := (.one true true ⟨(some 63), .ldn 6 (.tmp 4), none⟩ (.one true true ⟨(some 64), .mv (.tmp 1), none⟩ (.one true true ⟨(some 65), .mv (.tmp 12), none⟩ (.one true true ⟨(some 66), .mv (.tmp 13), none⟩ (.one true true ⟨(some 67), .bin .add (.tmp 66) (.const (.int .i64 1)), none⟩ (.one true true ⟨(some 69), .ldn 6 (.tmp 4), none⟩ (.one true true ⟨(some 70), .mv (.tmp 1), none⟩ (.one true true ⟨(some 71), .mv (.tmp 12), none⟩ (.one true true ⟨(some 72), .bin .add (.tmp 71) (.const (.int .i64 1)), none⟩ (.one true true ⟨(some 73), .mv (.tmp 13), none⟩ (.one true true ⟨(some 74), .bin .add (.tmp 73) (.const (.int .i64 1)), none⟩ (.alt (.one false true ⟨(some 68), .call 20 [(.tmp 63), (.tmp 64), (.tmp 65), (.tmp 67)], none⟩ (.alt (.one false true ⟨(some 75), .call 20 [(.tmp 69), (.tmp 70), (.tmp 72), (.tmp 74)], none⟩ (.alt (.one false true ⟨(some 18), .alloc 34 [(.int .i32 0), (.int .i32 0), (.int .i32 0), (.int .i32 0)], none⟩ (.one false true ⟨(some 19), .alloc 34 [(.int .i32 0), (.int .i32 0), (.int .i32 0), (.int .i32 0)], none⟩ (.one false false ⟨none, .stn 4 (.tmp 18) (.tmp 68), none⟩ (.one false false ⟨none, .stn 4 (.tmp 19) (.tmp 75), none⟩ .nil))))
      (.one false true ⟨(some 19), .alloc 34 [(.int .i32 0), (.int .i32 0), (.int .i32 0), (.int .i32 0)], none⟩ (.one false true ⟨(some 18), .alloc 34 [(.int .i32 0), (.int .i32 0), (.int .i32 0), (.int .i32 0)], none⟩ (.one false false ⟨none, .stn 4 (.tmp 18) (.tmp 68), none⟩ (.one false false ⟨none, .stn 4 (.tmp 19) (.tmp 75), none⟩ .nil))))))
      (.alt (.one false true ⟨(some 18), .alloc 34 [(.int .i32 0), (.int .i32 0), (.int .i32 0), (.int .i32 0)], none⟩ (.alt (.one false true ⟨(some 75), .call 20 [(.tmp 69), (.tmp 70), (.tmp 72), (.tmp 74)], none⟩ (.one false true ⟨(some 19), .alloc 34 [(.int .i32 0), (.int .i32 0), (.int .i32 0), (.int .i32 0)], none⟩ (.one false false ⟨none, .stn 4 (.tmp 18) (.tmp 68), none⟩ (.one false false ⟨none, .stn 4 (.tmp 19) (.tmp 75), none⟩ .nil))))
      (.one false true ⟨(some 19), .alloc 34 [(.int .i32 0), (.int .i32 0), (.int .i32 0), (.int .i32 0)], none⟩ (.one false true ⟨(some 75), .call 20 [(.tmp 69), (.tmp 70), (.tmp 72), (.tmp 74)], none⟩ (.one false false ⟨none, .stn 4 (.tmp 18) (.tmp 68), none⟩ (.one false false ⟨none, .stn 4 (.tmp 19) (.tmp 75), none⟩ .nil))))))
      (.one false true ⟨(some 19), .alloc 34 [(.int .i32 0), (.int .i32 0), (.int .i32 0), (.int .i32 0)], none⟩ (.alt (.one false true ⟨(some 75), .call 20 [(.tmp 69), (.tmp 70), (.tmp 72), (.tmp 74)], none⟩ (.one false true ⟨(some 18), .alloc 34 [(.int .i32 0), (.int .i32 0), (.int .i32 0), (.int .i32 0)], none⟩ (.one false false ⟨none, .stn 4 (.tmp 18) (.tmp 68), none⟩ (.one false false ⟨none, .stn 4 (.tmp 19) (.tmp 75), none⟩ .nil))))
      (.one false true ⟨(some 18), .alloc 34 [(.int .i32 0), (.int .i32 0), (.int .i32 0), (.int .i32 0)], none⟩ (.one false true ⟨(some 75), .call 20 [(.tmp 69), (.tmp 70), (.tmp 72), (.tmp 74)], none⟩ (.one false false ⟨none, .stn 4 (.tmp 18) (.tmp 68), none⟩ (.one false false ⟨none, .stn 4 (.tmp 19) (.tmp 75), none⟩ .nil)))))))))
      (.alt (.one false true ⟨(some 18), .alloc 34 [(.int .i32 0), (.int .i32 0), (.int .i32 0), (.int .i32 0)], none⟩ (.alt (.one false true ⟨(some 68), .call 20 [(.tmp 63), (.tmp 64), (.tmp 65), (.tmp 67)], none⟩ (.alt (.one false true ⟨(some 75), .call 20 [(.tmp 69), (.tmp 70), (.tmp 72), (.tmp 74)], none⟩ (.one false true ⟨(some 19), .alloc 34 [(.int .i32 0), (.int .i32 0), (.int .i32 0), (.int .i32 0)], none⟩ (.one false false ⟨none, .stn 4 (.tmp 18) (.tmp 68), none⟩ (.one false false ⟨none, .stn 4 (.tmp 19) (.tmp 75), none⟩ .nil))))
      (.one false true ⟨(some 19), .alloc 34 [(.int .i32 0), (.int .i32 0), (.int .i32 0), (.int .i32 0)], none⟩ (.one false true ⟨(some 75), .call 20 [(.tmp 69), (.tmp 70), (.tmp 72), (.tmp 74)], none⟩ (.one false false ⟨none, .stn 4 (.tmp 18) (.tmp 68), none⟩ (.one false false ⟨none, .stn 4 (.tmp 19) (.tmp 75), none⟩ .nil))))))
      (.one false true ⟨(some 19), .alloc 34 [(.int .i32 0), (.int .i32 0), (.int .i32 0), (.int .i32 0)], none⟩ (.one false true ⟨(some 68), .call 20 [(.tmp 63), (.tmp 64), (.tmp 65), (.tmp 67)], none⟩ (.one false true ⟨(some 75), .call 20 [(.tmp 69), (.tmp 70), (.tmp 72), (.tmp 74)], none⟩ (.one false false ⟨none, .stn 4 (.tmp 18) (.tmp 68), none⟩ (.one false false ⟨none, .stn 4 (.tmp 19) (.tmp 75), none⟩ .nil)))))))
      (.one false true ⟨(some 19), .alloc 34 [(.int .i32 0), (.int .i32 0), (.int .i32 0), (.int .i32 0)], none⟩ (.alt (.one false true ⟨(some 68), .call 20 [(.tmp 63), (.tmp 64), (.tmp 65), (.tmp 67)], none⟩ (.alt (.one false true ⟨(some 75), .call 20 [(.tmp 69), (.tmp 70), (.tmp 72), (.tmp 74)], none⟩ (.one false true ⟨(some 18), .alloc 34 [(.int .i32 0), (.int .i32 0), (.int .i32 0), (.int .i32 0)], none⟩ (.one false false ⟨none, .stn 4 (.tmp 18) (.tmp 68), none⟩ (.one false false ⟨none, .stn 4 (.tmp 19) (.tmp 75), none⟩ .nil))))
      (.one false true ⟨(some 18), .alloc 34 [(.int .i32 0), (.int .i32 0), (.int .i32 0), (.int .i32 0)], none⟩ (.one false true ⟨(some 75), .call 20 [(.tmp 69), (.tmp 70), (.tmp 72), (.tmp 74)], none⟩ (.one false false ⟨none, .stn 4 (.tmp 18) (.tmp 68), none⟩ (.one false false ⟨none, .stn 4 (.tmp 19) (.tmp 75), none⟩ .nil))))))
      (.one false true ⟨(some 18), .alloc 34 [(.int .i32 0), (.int .i32 0), (.int .i32 0), (.int .i32 0)], none⟩ (.one false true ⟨(some 68), .call 20 [(.tmp 63), (.tmp 64), (.tmp 65), (.tmp 67)], none⟩ (.one false true ⟨(some 75), .call 20 [(.tmp 69), (.tmp 70), (.tmp 72), (.tmp 74)], none⟩ (.one false false ⟨none, .stn 4 (.tmp 18) (.tmp 68), none⟩ (.one false false ⟨none, .stn 4 (.tmp 19) (.tmp 75), none⟩ .nil))))))))))))))))))))
/- paintboxref09 Linear -/
def M24 : MC :=
  .seq (.reg [⟨(some 4), .box 29 (.tmp 0), none⟩,
     ⟨(some 8), .alloc 34 [(.int .i32 0), (.int .i32 0), (.int .i32 0), (.int .i32 0)], none⟩])
  (.seq (.reg [⟨(some 23), .fa 1 (.tmp 4), none⟩,
      ⟨(some 24), .ld1 (.tmp 23), none⟩,
      ⟨(some 25), .mv (.tmp 1), none⟩,
      ⟨(some 26), .is 3 (.tmp 24) (.tmp 25), none⟩,
      ⟨(some 27), .ldn 3 (.tmp 26), none⟩,
      ⟨(some 9), .alloc 51 [(.int .i64 0), (.int .i64 0), (.slice none 0 0)], none⟩,
      ⟨none, .stn 3 (.tmp 9) (.tmp 27), none⟩])
   (.seq (.reg [⟨(some 28), .fa 0 (.tmp 9), none⟩,
       ⟨(some 29), .ld1 (.tmp 28), none⟩,
       ⟨(some 30), .mv (.tmp 2), none⟩,
       ⟨(some 31), .conv .i64 (.tmp 30), none⟩,
       ⟨(some 32), .bin .mul (.tmp 29) (.tmp 31), none⟩,
       ⟨(some 33), .bin .sub (.tmp 32) (.const (.int .i64 32768)), none⟩,
       ⟨(some 10), .mv (.tmp 33), none⟩])
    (.seq (.reg [⟨(some 34), .fa 1 (.tmp 9), none⟩,
        ⟨(some 35), .ld1 (.tmp 34), none⟩,
        ⟨(some 36), .mv (.tmp 3), none⟩,
        ⟨(some 37), .conv .i64 (.tmp 36), none⟩,
        ⟨(some 38), .bin .mul (.tmp 35) (.tmp 37), none⟩,
        ⟨(some 39), .bin .sub (.tmp 38) (.const (.int .i64 32768)), none⟩,
        ⟨(some 11), .mv (.tmp 39), none⟩])
     (.seq (.reg [⟨(some 40), .mv (.tmp 10), none⟩,
         ⟨(some 41), .call 27 [(.tmp 40), (.const (.int .i64 65536))], none⟩,
         ⟨(some 42), .mv (.tmp 11), none⟩,
         ⟨(some 43), .call 27 [(.tmp 42), (.const (.int .i64 65536))], none⟩,
         ⟨(some 12), .mv (.tmp 41), none⟩,
         ⟨(some 13), .mv (.tmp 43), none⟩])
      (.seq (.reg [⟨(some 44), .mv (.tmp 10), none⟩,
          ⟨(some 45), .mv (.tmp 12), none⟩,
          ⟨(some 46), .bin .mul (.const (.int .i64 65536)) (.tmp 45), none⟩,
          ⟨(some 47), .bin .sub (.tmp 44) (.tmp 46), none⟩,
          ⟨(some 48), .mv (.tmp 11), none⟩,
          ⟨(some 49), .mv (.tmp 13), none⟩,
          ⟨(some 50), .bin .mul (.const (.int .i64 65536)) (.tmp 49), none⟩,
          ⟨(some 51), .bin .sub (.tmp 48) (.tmp 50), none⟩,
          ⟨(some 14), .mv (.tmp 47), none⟩,
          ⟨(some 15), .mv (.tmp 51), none⟩])
       (.seq (.alts A24_1)
        (.seq (.alts A24_2)
         (.seq (.reg [⟨(some 20), .alloc 34 [(.int .i32 0), (.int .i32 0), (.int .i32 0), (.int .i32 0)], none⟩])
          (.seq (.seq (.reg [⟨(some 21), .mv (.const (.int .i64 0)), none⟩])
            (.block 0 (.loop (.seq (.seq (.reg [⟨(some 76), .mv (.tmp 21), none⟩,
                   ⟨(some 77), .bin .lss (.tmp 76) (.const (.int .i64 4)), none⟩])
                (.cond (.tmp 77)
                 (.skip)
                 (.exit 0)))
               (.seq (.block 1 (.seq (.any [(true, true, ⟨(some 80), .mv (.tmp 21), none⟩),
                     (true, true, ⟨(some 81), .ia 4 1 (.tmp 16) (.tmp 80), none⟩),
                     (true, true, ⟨(some 82), .ld1 (.tmp 81), none⟩),
                     (true, true, ⟨(some 83), .conv .i64 (.tmp 82), none⟩),
                     (true, true, ⟨(some 84), .mv (.tmp 14), none⟩),
                     (true, true, ⟨(some 85), .bin .sub (.const (.int .i64 65536)) (.tmp 84), none⟩),
                     (true, true, ⟨(some 86), .bin .mul (.tmp 83) (.tmp 85), none⟩),
                     (true, true, ⟨(some 87), .mv (.tmp 15), none⟩),
                     (true, true, ⟨(some 88), .bin .sub (.const (.int .i64 65536)) (.tmp 87), none⟩),
                     (true, true, ⟨(some 89), .bin .mul (.tmp 86) (.tmp 88), none⟩),
                     (true, true, ⟨(some 90), .mv (.tmp 21), none⟩),
                     (true, true, ⟨(some 91), .ia 4 1 (.tmp 17) (.tmp 90), none⟩),
                     (true, true, ⟨(some 92), .ld1 (.tmp 91), none⟩),
                     (true, true, ⟨(some 93), .conv .i64 (.tmp 92), none⟩),
                     (true, true, ⟨(some 94), .mv (.tmp 14), none⟩),
                     (true, true, ⟨(some 95), .bin .mul (.tmp 93) (.tmp 94), none⟩),
                     (true, true, ⟨(some 96), .mv (.tmp 15), none⟩),
                     (true, true, ⟨(some 97), .bin .sub (.const (.int .i64 65536)) (.tmp 96), none⟩),
                     (true, true, ⟨(some 98), .bin .mul (.tmp 95) (.tmp 97), none⟩),
                     (true, true, ⟨(some 99), .bin .add (.tmp 89) (.tmp 98), none⟩),
                     (true, true, ⟨(some 100), .mv (.tmp 21), none⟩),
                     (true, true, ⟨(some 101), .ia 4 1 (.tmp 18) (.tmp 100), none⟩),
                     (true, true, ⟨(some 102), .ld1 (.tmp 101), none⟩),
                     (true, true, ⟨(some 103), .conv .i64 (.tmp 102), none⟩),
                     (true, true, ⟨(some 104), .mv (.tmp 14), none⟩),
                     (true, true, ⟨(some 105), .bin .sub (.const (.int .i64 65536)) (.tmp 104), none⟩),
                     (true, true, ⟨(some 106), .bin .mul (.tmp 103) (.tmp 105), none⟩),
                     (true, true, ⟨(some 107), .mv (.tmp 15), none⟩),
                     (true, true, ⟨(some 108), .bin .mul (.tmp 106) (.tmp 107), none⟩),
                     (true, true, ⟨(some 109), .bin .add (.tmp 99) (.tmp 108), none⟩),
                     (true, true, ⟨(some 110), .mv (.tmp 21), none⟩),
                     (true, true, ⟨(some 111), .ia 4 1 (.tmp 19) (.tmp 110), none⟩),
                     (true, true, ⟨(some 112), .ld1 (.tmp 111), none⟩),
                     (true, true, ⟨(some 113), .conv .i64 (.tmp 112), none⟩),
                     (true, true, ⟨(some 114), .mv (.tmp 14), none⟩),
                     (true, true, ⟨(some 115), .bin .mul (.tmp 113) (.tmp 114), none⟩),
                     (false, true, ⟨(some 116), .mv (.tmp 15), none⟩),
                     (false, true, ⟨(some 117), .bin .mul (.tmp 115) (.tmp 116), none⟩),
                     (false, false, ⟨(some 118), .bin .add (.tmp 109) (.tmp 117), none⟩),
                     (false, false, ⟨(some 22), .mv (.tmp 118), none⟩)])
                  (.reg [⟨(some 119), .mv (.tmp 21), none⟩,
                     ⟨(some 120), .mv (.tmp 22), none⟩,
                     ⟨(some 121), .bin .add (.tmp 120) (.const (.int .i64 2147483648)), none⟩,
                     ⟨(some 122), .bin .quo (.tmp 121) (.const (.int .i64 4294967296)), none⟩,
                     ⟨(some 123), .conv .i32 (.tmp 122), none⟩,
                     ⟨(some 124), .ia 4 1 (.tmp 20) (.tmp 119), none⟩,
                     ⟨none, .st1 (.tmp 124) (.tmp 123), none⟩])))
                (.reg [⟨(some 78), .mv (.tmp 21), none⟩,
                   ⟨(some 79), .bin .add (.tmp 78) (.const (.int .i64 1)), none⟩,
                   ⟨(some 21), .mv (.tmp 79), none⟩]))))))
           (.seq (.reg [⟨(some 125), .ldn 4 (.tmp 20), none⟩,
               ⟨none, .stn 4 (.tmp 8) (.tmp 125), none⟩])
            (.ret)))))))))))
theorem k24 : fnOk Try.prog 24 = some (M24, [.cn 4 8], 126) := by kernel_rfl

theorem r_Linear (x : Im) (hx : ImOk w0 H x) (k : Nat) (y : LvR) (hk : x.ls[k]? = some y) (u v : Int) (hy : Lvl w0 H x y) (hu : I32 u) (hv : I32 v) (h : K (V4 (linI x y u v)) H) :
    HCalls Try.prog w0 24 [x.v, .int .i64 (k : Nat), .int .i32 u, .int .i32 v] H K := by
  have p1 := plcI_le hy.w hu
  have p2 := plcI_le hy.h hv
  have ht : ∀ (G : Heap) (K : Value → Heap → Prop) (i j : Int), Grow w0 H G → (-1152921504606846976 < i ∧ i < 1152921504606846976) → (-1152921504606846976 < j ∧ j < 1152921504606846976) → K (V4 (colI x y i j)) G → HCalls Try.prog w0 20 [x.v, .int .i64 (k : Nat), .int .i64 i, .int .i64 j] G K := fun G K i j g hi hj hk' => r_Texel x (hx.grow g) k y hk i j (hy.grow g) hi hj hk'
  have hC := colI_le x y
  have hm := side_mul hy.w hu
  have hm2 := side_mul hy.h hv
  have f1 := plcF_le y.w u
  have f2 := plcF_le y.h v
  unfold I32 at hu hv
  have e1 : IntKind.i64.wrap u = u := Bw.1 _ (by omega) (by omega)
  have e2 : IntKind.i64.wrap (y.w * u) = y.w * u := Bw.1 _ (by omega) (by omega)
  have e3 : IntKind.i64.wrap v = v := Bw.1 _ (by omega) (by omega)
  have e4 : IntKind.i64.wrap (y.h * v) = y.h * v := Bw.1 _ (by omega) (by omega)
  have e5 : IntKind.i64.wrap (y.w * u - 32768) = y.w * u - 32768 := Bw.1 _ (by omega) (by omega)
  have e6 : IntKind.i64.wrap (y.h * v - 32768) = y.h * v - 32768 := Bw.1 _ (by omega) (by omega)
  have d1 : ∀ (G : Heap) (K : Value → Heap → Prop), K (.int .i64 (plcI y.w u)) G → HCalls Try.prog w0 27 [.int .i64 (y.w * u - 32768), .int .i64 65536] G K := fun G K hk => r_down65 _ 65536 (by omega) (by omega) hk
  have d2 : ∀ (G : Heap) (K : Value → Heap → Prop), K (.int .i64 (plcI y.h v)) G → HCalls Try.prog w0 27 [.int .i64 (y.h * v - 32768), .int .i64 65536] G K := fun G K hk => r_down65 _ 65536 (by omega) (by omega) hk
  have g1 : IntKind.i64.wrap (65536 * plcI y.w u) = 65536 * plcI y.w u := Bw.1 _ (by omega) (by omega)
  have g2 : IntKind.i64.wrap (65536 * plcI y.h v) = 65536 * plcI y.h v := Bw.1 _ (by omega) (by omega)
  have g3 : IntKind.i64.wrap (y.w * u - 32768 - 65536 * plcI y.w u) = plcF y.w u := by
    rw [show y.w * u - 32768 - 65536 * plcI y.w u = plcF y.w u by unfold plcI plcF; omega]; exact Bw.1 _ (by omega) (by omega)
  have g4 : IntKind.i64.wrap (y.h * v - 32768 - 65536 * plcI y.h v) = plcF y.h v := by
    rw [show y.h * v - 32768 - 65536 * plcI y.h v = plcF y.h v by unfold plcI plcF; omega]; exact Bw.1 _ (by omega) (by omega)
  obtain ⟨bx, ox, ea, hr0, hf0⟩ := im_row hx hk
  have hkl : (k : Int) < (x.ls.length : Int) := by have := (List.getElem?_eq_some_iff.1 hk).1; omega
  unfold linI lin4 at h
  generalize colI x y = C at *
  generalize plcI y.w u = i at *
  generalize plcI y.h v = j at *
  generalize plcF y.w u = f at *
  generalize plcF y.h v = g at *
  obtain ⟨a0, a1, c1, m1, m2, m3, m4, m5, m6, -, t2, t3, t4, t5, t6, t7⟩ := linF (i := i) (j := j) hC f1 f2
  have q4 : ¬ (4294967296 : Int) = 0 := by decide
  have i1 : IntKind.i64.wrap (i + 1) = i + 1 := Bw.1 _ (by omega) (by omega)
  have j1 : IntKind.i64.wrap (j + 1) = j + 1 := Bw.1 _ (by omega) (by omega)
  have k0 : -1152921504606846976 < i ∧ i < 1152921504606846976 := by omega
  have k1 : -1152921504606846976 < i + 1 ∧ i + 1 < 1152921504606846976 := by omega
  have k2 : -1152921504606846976 < j ∧ j < 1152921504606846976 := by omega
  have k3 : -1152921504606846976 < j + 1 ∧ j + 1 < 1152921504606846976 := by omega
  clear p1 p2 hC f1 f2 hu hv hy hm hm2 hx hk
  unfold Im.v at ht ⊢
  rw [ea] at ht ⊢
  refine HL.hc k24 2500 ?_; unfold M24
  (all_goals (refine (fun f : True → _ => f trivial) ?_)); repeat' ((first | (with_reducible refine fun _ : True => ?_) | refine d1 _ _ ?_ | refine d2 _ _ ?_ | (refine AllocQ_i ?_; intro bk hb0 hbk; (try simp only [set_none'] at hbk); (try (first | have hbn := Grow.none (by assumption) hbk | have hbn := Grow.none (by assumption) hbk.2 | have hbn := Grow.none (by assumption) hbk.2.2 | have hbn := Grow.none (by assumption) hbk.2.2.2 | have hbn := Grow.none (by assumption) hbk.2.2.2.2 | have hbn := Grow.none (by assumption) hbk.2.2.2.2.2)); (try simp only [set_none'] at hbn); (try (first | have hbm := Grow.none (by assumption) hbn | have hbm := Grow.none (by assumption) hbn.2 | have hbm := Grow.none (by assumption) hbn.2.2 | have hbm := Grow.none (by assumption) hbn.2.2.2 | have hbm := Grow.none (by assumption) hbn.2.2.2.2 | have hbm := Grow.none (by assumption) hbn.2.2.2.2.2)); (try simp only [set_none'] at hbm)) | ((first | refine condS_i ?_ ?_ | refine pick_i ?_ ?_ | refine gS_it ?_ ?_ | refine gS_if ?_ ?_ | refine gP_it ?_ ?_ | refine gP_if ?_ ?_) <;> (intro hc; try simp only [Int.reduceLE,Int.reduceLT,Int.reduceEq,and_self,not_true_eq_false,not_false_eq_true,and_true,true_and,false_and,and_false,true_or,or_true,false_or,or_false,decide_eq_true_eq,decide_eq_false_iff_not,beq_iff_eq,beq_eq_false_iff_ne,bne_iff_ne,ne_eq,gt_iff_lt,ge_iff_le,Bool.not_eq_true,Bool.not_eq_false,Bool.not_eq_true',Bool.not_eq_false',Bool.not_eq_eq_eq_not,Bool.not_true,Bool.not_false] at hc)) | (refine KP_i (by (repeat' (first | exact Heap.Le.refl _ | (refine Le_known (by first | (simp only [Heap.set_same, set_ne, ne_eq, not_false_eq_true, *] <;> rfl) | fail) ?_) | (refine Le_fresh (by first | (simp only [*] <;> done) | (simp [set_none', Heap.set_same, set_ne, *] <;> done) | fail) ?_) | (refine Heap.Le.trans ?_ (Grow.le (by assumption)))))) ?_) | (with_reducible refine And.intro ?_ ?_)) <;> (try simp only [Sh,Si,Sl,Bu,Bb,Bd,Bc,Bw,Bn,Int.reduceAdd,Int.reduceSub,Int.reduceMul,Int.reduceTDiv,Int.reduceTMod,Int.reduceMod,Int.reduceDiv,Nat.reduceLT,Nat.reduceEqDiff,decide_true,decide_false,Sa,Sb,Sc,Sd,Se,Sf,Sg,true_and,and_true,and_self,eq_self,b_i64,b_i32,b_u64,b_u32,b_u8,Int.reduceLE,Int.reduceLT,Int.reduceToNat,Int.reduceNeg,Int.reduceEq,Nat.reduceLeDiff,Nat.reducePow,Int.reducePow,Nat.min_def,reduceIte,Nat.reduceSub,Nat.reduceAdd,Nat.reduceMul,KP_same,KP_f,condS_t,condS_f,pick_t,pick_f,gS_tt,gS_ff,gS_tf,gS_ft,gS_u,gP_tt,gP_ff,gP_tf,gP_ft,gP_u,ptrV_eq,slcV_eq,cells_agg,cells_int,cells_bool,cells_ptr,cells_slice,oc_int,oc_bool,oc_slice,oc_ptr,rd1_set,rd1_ne,rdn_set,rdn_ne,Heap.set_same,set_ne,Heap.set_set,set_up,set_up2,set_up3,putAt,ceq,List.map_cons,List.map_nil,List.length_cons,List.length_nil,List.length_set,List.cons_append,List.nil_append,List.append_nil,List.replicate,List.size_toArray,List.all_cons,List.all_nil,Bool.and_self,Bool.and_true,List.drop_zero,List.drop_succ_cons,List.take_succ_cons,List.take_zero,List.set_cons_zero,List.set_cons_succ,List.getElem?_cons_zero,List.getElem?_cons_succ,Option.map_some,Option.map_none,ne_eq,not_false_eq_true,not_true_eq_false,gt_iff_lt,ge_iff_le,Int.one_mul,Nat.zero_add,Nat.zero_mul,Bool.not_true,Bool.not_false,Bool.false_eq_true,Bool.and_false,Bool.false_and,Bool.true_and, *]))
  refine pt_heap (fun G0 eG => ?_)
  refine alts_g (S := Nat × Nat) 23 (fun s => [(16, .pointer (some ⟨s.1, 0, none⟩)), (17, .pointer (some ⟨s.2, 0, none⟩))]) (fun s => (G0.set s.1 ⟨34, [.int .i32 (C i j 0), .int .i32 (C i j 1), .int .i32 (C i j 2), .int .i32 (C i j 3)]⟩).set s.2 ⟨34, [.int .i32 (C (i + 1) j 0), .int .i32 (C (i + 1) j 1), .int .i32 (C (i + 1) j 2), .int .i32 (C (i + 1) j 3)]⟩)
    (fun s => (s.1 ≠ s.2 ∧ s.2 ≠ s.1) ∧ w0.heap.size ≤ s.1 ∧ w0.heap.size ≤ s.2 ∧ G0 s.1 = none ∧ G0 s.2 = none) 100 2000 ?_ ?_ (by decide)
  · subst eG
    unfold A24_1
    (all_goals (refine (fun f : True → _ => f trivial) ?_)); repeat' ((first | (with_reducible refine fun _ : True => ?_) | refine ht _ _ _ _ (by (repeat' (first | exact Grow.refl _ | assumption | (refine Grow_known (by first | (simp only [Heap.set_same, set_ne, ne_eq, not_false_eq_true, *] <;> rfl) | fail) ?_) | (refine Grow.set ?_ (by assumption) (by first | (simp only [*] <;> done) | (simp [set_none', Heap.set_same, set_ne, *] <;> done) | fail)) | (refine Grow.trans ?_ (by assumption))))) (by assumption) (by assumption) ?_ | (refine AllocQ_i ?_; intro bk hb0 hbk; (try simp only [set_none'] at hbk); (try (first | have hbn := Grow.none (by assumption) hbk | have hbn := Grow.none (by assumption) hbk.2 | have hbn := Grow.none (by assumption) hbk.2.2 | have hbn := Grow.none (by assumption) hbk.2.2.2 | have hbn := Grow.none (by assumption) hbk.2.2.2.2 | have hbn := Grow.none (by assumption) hbk.2.2.2.2.2)); (try simp only [set_none'] at hbn); (try (first | have hbm := Grow.none (by assumption) hbn | have hbm := Grow.none (by assumption) hbn.2 | have hbm := Grow.none (by assumption) hbn.2.2 | have hbm := Grow.none (by assumption) hbn.2.2.2 | have hbm := Grow.none (by assumption) hbn.2.2.2.2 | have hbm := Grow.none (by assumption) hbn.2.2.2.2.2)); (try simp only [set_none'] at hbm)) | ((first | refine condS_i ?_ ?_ | refine pick_i ?_ ?_ | refine gS_it ?_ ?_ | refine gS_if ?_ ?_ | refine gP_it ?_ ?_ | refine gP_if ?_ ?_) <;> (intro hc; try simp only [Int.reduceLE,Int.reduceLT,Int.reduceEq,and_self,not_true_eq_false,not_false_eq_true,and_true,true_and,false_and,and_false,true_or,or_true,false_or,or_false,decide_eq_true_eq,decide_eq_false_iff_not,beq_iff_eq,beq_eq_false_iff_ne,bne_iff_ne,ne_eq,gt_iff_lt,ge_iff_le,Bool.not_eq_true,Bool.not_eq_false,Bool.not_eq_true',Bool.not_eq_false',Bool.not_eq_eq_eq_not,Bool.not_true,Bool.not_false] at hc)) | (refine KP_i (by (repeat' (first | exact Heap.Le.refl _ | (refine Le_known (by first | (simp only [Heap.set_same, set_ne, ne_eq, not_false_eq_true, *] <;> rfl) | fail) ?_) | (refine Le_fresh (by first | (simp only [*] <;> done) | (simp [set_none', Heap.set_same, set_ne, *] <;> done) | fail) ?_) | (refine Heap.Le.trans ?_ (Grow.le (by assumption)))))) ?_) | (with_reducible refine And.intro ?_ ?_)) <;> (try simp only [Sh,Si,Sl,Bu,Bb,Bd,Bc,Bw,Bn,Int.reduceAdd,Int.reduceSub,Int.reduceMul,Int.reduceTDiv,Int.reduceTMod,Int.reduceMod,Int.reduceDiv,Nat.reduceLT,Nat.reduceEqDiff,decide_true,decide_false,Sa,Sb,Sc,Sd,Se,Sf,Sg,true_and,and_true,and_self,eq_self,b_i64,b_i32,b_u64,b_u32,b_u8,Int.reduceLE,Int.reduceLT,Int.reduceToNat,Int.reduceNeg,Int.reduceEq,Nat.reduceLeDiff,Nat.reducePow,Int.reducePow,Nat.min_def,reduceIte,Nat.reduceSub,Nat.reduceAdd,Nat.reduceMul,KP_same,KP_f,condS_t,condS_f,pick_t,pick_f,gS_tt,gS_ff,gS_tf,gS_ft,gS_u,gP_tt,gP_ff,gP_tf,gP_ft,gP_u,ptrV_eq,slcV_eq,cells_agg,cells_int,cells_bool,cells_ptr,cells_slice,oc_int,oc_bool,oc_slice,oc_ptr,rd1_set,rd1_ne,rdn_set,rdn_ne,Heap.set_same,set_ne,Heap.set_set,set_up,set_up2,set_up3,putAt,ceq,List.map_cons,List.map_nil,List.length_cons,List.length_nil,List.length_set,List.cons_append,List.nil_append,List.append_nil,List.replicate,List.size_toArray,List.all_cons,List.all_nil,Bool.and_self,Bool.and_true,List.drop_zero,List.drop_succ_cons,List.take_succ_cons,List.take_zero,List.set_cons_zero,List.set_cons_succ,List.getElem?_cons_zero,List.getElem?_cons_succ,Option.map_some,Option.map_none,ne_eq,not_false_eq_true,not_true_eq_false,gt_iff_lt,ge_iff_le,Int.one_mul,Nat.zero_add,Nat.zero_mul,Bool.not_true,Bool.not_false,Bool.false_eq_true,Bool.and_false,Bool.false_and,Bool.true_and, *]))
    all_goals
      apply Meet2_mk
      · exact rfl
      · exact rfl
      · exact ⟨⟨(by first | (simp only [*] <;> done) | (simp [set_none', Heap.set_same, set_ne, *] <;> done) | fail), (by first | (simp only [*] <;> done) | (simp [set_none', Heap.set_same, set_ne, *] <;> done) | fail)⟩, by assumption, by assumption, (by first | (simp only [*] <;> done) | (simp [set_none', Heap.set_same, set_ne, *] <;> done) | fail), (by first | (simp only [*] <;> done) | (simp [set_none', Heap.set_same, set_ne, *] <;> done) | fail)⟩
      · first | exact rfl | exact set_comm (by first | (simp only [*] <;> done) | (simp [set_none', Heap.set_same, set_ne, *] <;> done) | fail)
  · rintro ⟨b16, b17⟩ f16 ⟨hne, z16, z17, n16, n17⟩
    subst eG
    simp only [set_none'] at hne z16 z17 n16 n17
    (all_goals (refine (fun f : True → _ => f trivial) ?_)); repeat' ((first | (with_reducible refine fun _ : True => ?_) | (refine AllocQ_i ?_; intro bk hb0 hbk; (try simp only [set_none'] at hbk); (try (first | have hbn := Grow.none (by assumption) hbk | have hbn := Grow.none (by assumption) hbk.2 | have hbn := Grow.none (by assumption) hbk.2.2 | have hbn := Grow.none (by assumption) hbk.2.2.2 | have hbn := Grow.none (by assumption) hbk.2.2.2.2 | have hbn := Grow.none (by assumption) hbk.2.2.2.2.2)); (try simp only [set_none'] at hbn); (try (first | have hbm := Grow.none (by assumption) hbn | have hbm := Grow.none (by assumption) hbn.2 | have hbm := Grow.none (by assumption) hbn.2.2 | have hbm := Grow.none (by assumption) hbn.2.2.2 | have hbm := Grow.none (by assumption) hbn.2.2.2.2 | have hbm := Grow.none (by assumption) hbn.2.2.2.2.2)); (try simp only [set_none'] at hbm)) | ((first | refine condS_i ?_ ?_ | refine pick_i ?_ ?_ | refine gS_it ?_ ?_ | refine gS_if ?_ ?_ | refine gP_it ?_ ?_ | refine gP_if ?_ ?_) <;> (intro hc; try simp only [Int.reduceLE,Int.reduceLT,Int.reduceEq,and_self,not_true_eq_false,not_false_eq_true,and_true,true_and,false_and,and_false,true_or,or_true,false_or,or_false,decide_eq_true_eq,decide_eq_false_iff_not,beq_iff_eq,beq_eq_false_iff_ne,bne_iff_ne,ne_eq,gt_iff_lt,ge_iff_le,Bool.not_eq_true,Bool.not_eq_false,Bool.not_eq_true',Bool.not_eq_false',Bool.not_eq_eq_eq_not,Bool.not_true,Bool.not_false] at hc)) | (refine KP_i (by (repeat' (first | exact Heap.Le.refl _ | (refine Le_known (by first | (simp only [Heap.set_same, set_ne, ne_eq, not_false_eq_true, *] <;> rfl) | fail) ?_) | (refine Le_fresh (by first | (simp only [*] <;> done) | (simp [set_none', Heap.set_same, set_ne, *] <;> done) | fail) ?_) | (refine Heap.Le.trans ?_ (Grow.le (by assumption)))))) ?_) | (with_reducible refine And.intro ?_ ?_)) <;> (try simp only [Sh,Si,Sl,Bu,Bb,Bd,Bc,Bw,Bn,Int.reduceAdd,Int.reduceSub,Int.reduceMul,Int.reduceTDiv,Int.reduceTMod,Int.reduceMod,Int.reduceDiv,Nat.reduceLT,Nat.reduceEqDiff,decide_true,decide_false,Sa,Sb,Sc,Sd,Se,Sf,Sg,true_and,and_true,and_self,eq_self,b_i64,b_i32,b_u64,b_u32,b_u8,Int.reduceLE,Int.reduceLT,Int.reduceToNat,Int.reduceNeg,Int.reduceEq,Nat.reduceLeDiff,Nat.reducePow,Int.reducePow,Nat.min_def,reduceIte,Nat.reduceSub,Nat.reduceAdd,Nat.reduceMul,KP_same,KP_f,condS_t,condS_f,pick_t,pick_f,gS_tt,gS_ff,gS_tf,gS_ft,gS_u,gP_tt,gP_ff,gP_tf,gP_ft,gP_u,ptrV_eq,slcV_eq,cells_agg,cells_int,cells_bool,cells_ptr,cells_slice,oc_int,oc_bool,oc_slice,oc_ptr,rd1_set,rd1_ne,rdn_set,rdn_ne,Heap.set_same,set_ne,Heap.set_set,set_up,set_up2,set_up3,putAt,ceq,List.map_cons,List.map_nil,List.length_cons,List.length_nil,List.length_set,List.cons_append,List.nil_append,List.append_nil,List.replicate,List.size_toArray,List.all_cons,List.all_nil,Bool.and_self,Bool.and_true,List.drop_zero,List.drop_succ_cons,List.take_succ_cons,List.take_zero,List.set_cons_zero,List.set_cons_succ,List.getElem?_cons_zero,List.getElem?_cons_succ,Option.map_some,Option.map_none,ne_eq,not_false_eq_true,not_true_eq_false,gt_iff_lt,ge_iff_le,Int.one_mul,Nat.zero_add,Nat.zero_mul,Bool.not_true,Bool.not_false,Bool.false_eq_true,Bool.and_false,Bool.false_and,Bool.true_and, *]))
    refine pt_heap (fun G1 eG => ?_)
    refine alts_g (S := Nat × Nat) 23 (fun s => [(18, .pointer (some ⟨s.1, 0, none⟩)), (19, .pointer (some ⟨s.2, 0, none⟩))]) (fun s => (G1.set s.1 ⟨34, [.int .i32 (C i (j + 1) 0), .int .i32 (C i (j + 1) 1), .int .i32 (C i (j + 1) 2), .int .i32 (C i (j + 1) 3)]⟩).set s.2 ⟨34, [.int .i32 (C (i + 1) (j + 1) 0), .int .i32 (C (i + 1) (j + 1) 1), .int .i32 (C (i + 1) (j + 1) 2), .int .i32 (C (i + 1) (j + 1) 3)]⟩)
      (fun s => (s.1 ≠ s.2 ∧ s.2 ≠ s.1) ∧ w0.heap.size ≤ s.1 ∧ w0.heap.size ≤ s.2 ∧ G1 s.1 = none ∧ G1 s.2 = none) 100 1500 ?_ ?_ (by decide)
    · subst eG
      unfold A24_2
      (all_goals (refine (fun f : True → _ => f trivial) ?_)); repeat' ((first | (with_reducible refine fun _ : True => ?_) | refine ht _ _ _ _ (by (repeat' (first | exact Grow.refl _ | assumption | (refine Grow_known (by first | (simp only [Heap.set_same, set_ne, ne_eq, not_false_eq_true, *] <;> rfl) | fail) ?_) | (refine Grow.set ?_ (by assumption) (by first | (simp only [*] <;> done) | (simp [set_none', Heap.set_same, set_ne, *] <;> done) | fail)) | (refine Grow.trans ?_ (by assumption))))) (by assumption) (by assumption) ?_ | (refine AllocQ_i ?_; intro bk hb0 hbk; (try simp only [set_none'] at hbk); (try (first | have hbn := Grow.none (by assumption) hbk | have hbn := Grow.none (by assumption) hbk.2 | have hbn := Grow.none (by assumption) hbk.2.2 | have hbn := Grow.none (by assumption) hbk.2.2.2 | have hbn := Grow.none (by assumption) hbk.2.2.2.2 | have hbn := Grow.none (by assumption) hbk.2.2.2.2.2)); (try simp only [set_none'] at hbn); (try (first | have hbm := Grow.none (by assumption) hbn | have hbm := Grow.none (by assumption) hbn.2 | have hbm := Grow.none (by assumption) hbn.2.2 | have hbm := Grow.none (by assumption) hbn.2.2.2 | have hbm := Grow.none (by assumption) hbn.2.2.2.2 | have hbm := Grow.none (by assumption) hbn.2.2.2.2.2)); (try simp only [set_none'] at hbm)) | ((first | refine condS_i ?_ ?_ | refine pick_i ?_ ?_ | refine gS_it ?_ ?_ | refine gS_if ?_ ?_ | refine gP_it ?_ ?_ | refine gP_if ?_ ?_) <;> (intro hc; try simp only [Int.reduceLE,Int.reduceLT,Int.reduceEq,and_self,not_true_eq_false,not_false_eq_true,and_true,true_and,false_and,and_false,true_or,or_true,false_or,or_false,decide_eq_true_eq,decide_eq_false_iff_not,beq_iff_eq,beq_eq_false_iff_ne,bne_iff_ne,ne_eq,gt_iff_lt,ge_iff_le,Bool.not_eq_true,Bool.not_eq_false,Bool.not_eq_true',Bool.not_eq_false',Bool.not_eq_eq_eq_not,Bool.not_true,Bool.not_false] at hc)) | (refine KP_i (by (repeat' (first | exact Heap.Le.refl _ | (refine Le_known (by first | (simp only [Heap.set_same, set_ne, ne_eq, not_false_eq_true, *] <;> rfl) | fail) ?_) | (refine Le_fresh (by first | (simp only [*] <;> done) | (simp [set_none', Heap.set_same, set_ne, *] <;> done) | fail) ?_) | (refine Heap.Le.trans ?_ (Grow.le (by assumption)))))) ?_) | (with_reducible refine And.intro ?_ ?_)) <;> (try simp only [Sh,Si,Sl,Bu,Bb,Bd,Bc,Bw,Bn,Int.reduceAdd,Int.reduceSub,Int.reduceMul,Int.reduceTDiv,Int.reduceTMod,Int.reduceMod,Int.reduceDiv,Nat.reduceLT,Nat.reduceEqDiff,decide_true,decide_false,Sa,Sb,Sc,Sd,Se,Sf,Sg,true_and,and_true,and_self,eq_self,b_i64,b_i32,b_u64,b_u32,b_u8,Int.reduceLE,Int.reduceLT,Int.reduceToNat,Int.reduceNeg,Int.reduceEq,Nat.reduceLeDiff,Nat.reducePow,Int.reducePow,Nat.min_def,reduceIte,Nat.reduceSub,Nat.reduceAdd,Nat.reduceMul,KP_same,KP_f,condS_t,condS_f,pick_t,pick_f,gS_tt,gS_ff,gS_tf,gS_ft,gS_u,gP_tt,gP_ff,gP_tf,gP_ft,gP_u,ptrV_eq,slcV_eq,cells_agg,cells_int,cells_bool,cells_ptr,cells_slice,oc_int,oc_bool,oc_slice,oc_ptr,rd1_set,rd1_ne,rdn_set,rdn_ne,Heap.set_same,set_ne,Heap.set_set,set_up,set_up2,set_up3,putAt,ceq,List.map_cons,List.map_nil,List.length_cons,List.length_nil,List.length_set,List.cons_append,List.nil_append,List.append_nil,List.replicate,List.size_toArray,List.all_cons,List.all_nil,Bool.and_self,Bool.and_true,List.drop_zero,List.drop_succ_cons,List.take_succ_cons,List.take_zero,List.set_cons_zero,List.set_cons_succ,List.getElem?_cons_zero,List.getElem?_cons_succ,Option.map_some,Option.map_none,ne_eq,not_false_eq_true,not_true_eq_false,gt_iff_lt,ge_iff_le,Int.one_mul,Nat.zero_add,Nat.zero_mul,Bool.not_true,Bool.not_false,Bool.false_eq_true,Bool.and_false,Bool.false_and,Bool.true_and, *]))
      all_goals
        apply Meet2_mk
        · exact rfl
        · exact rfl
        · exact ⟨⟨(by first | (simp only [*] <;> done) | (simp [set_none', Heap.set_same, set_ne, *] <;> done) | fail), (by first | (simp only [*] <;> done) | (simp [set_none', Heap.set_same, set_ne, *] <;> done) | fail)⟩, by assumption, by assumption, (by first | (simp only [*] <;> done) | (simp [set_none', Heap.set_same, set_ne, *] <;> done) | fail), (by first | (simp only [*] <;> done) | (simp [set_none', Heap.set_same, set_ne, *] <;> done) | fail)⟩
        · first | exact rfl | exact set_comm (by first | (simp only [*] <;> done) | (simp [set_none', Heap.set_same, set_ne, *] <;> done) | fail)
    · rintro ⟨b18, b19⟩ f18 ⟨hne2, z18, z19, n18, n19⟩
      subst eG
      simp only [set_none'] at hne2 z18 z19 n18 n19
      (all_goals (refine (fun f : True → _ => f trivial) ?_)); repeat' ((first | (with_reducible refine fun _ : True => ?_) | (refine AllocQ_i ?_; intro bk hb0 hbk; (try simp only [set_none'] at hbk); (try (first | have hbn := Grow.none (by assumption) hbk | have hbn := Grow.none (by assumption) hbk.2 | have hbn := Grow.none (by assumption) hbk.2.2 | have hbn := Grow.none (by assumption) hbk.2.2.2 | have hbn := Grow.none (by assumption) hbk.2.2.2.2 | have hbn := Grow.none (by assumption) hbk.2.2.2.2.2)); (try simp only [set_none'] at hbn); (try (first | have hbm := Grow.none (by assumption) hbn | have hbm := Grow.none (by assumption) hbn.2 | have hbm := Grow.none (by assumption) hbn.2.2 | have hbm := Grow.none (by assumption) hbn.2.2.2 | have hbm := Grow.none (by assumption) hbn.2.2.2.2 | have hbm := Grow.none (by assumption) hbn.2.2.2.2.2)); (try simp only [set_none'] at hbm)) | ((first | refine condS_i ?_ ?_ | refine pick_i ?_ ?_ | refine gS_it ?_ ?_ | refine gS_if ?_ ?_ | refine gP_it ?_ ?_ | refine gP_if ?_ ?_) <;> (intro hc; try simp only [Int.reduceLE,Int.reduceLT,Int.reduceEq,and_self,not_true_eq_false,not_false_eq_true,and_true,true_and,false_and,and_false,true_or,or_true,false_or,or_false,decide_eq_true_eq,decide_eq_false_iff_not,beq_iff_eq,beq_eq_false_iff_ne,bne_iff_ne,ne_eq,gt_iff_lt,ge_iff_le,Bool.not_eq_true,Bool.not_eq_false,Bool.not_eq_true',Bool.not_eq_false',Bool.not_eq_eq_eq_not,Bool.not_true,Bool.not_false] at hc)) | (refine KP_i (by (repeat' (first | exact Heap.Le.refl _ | (refine Le_known (by first | (simp only [Heap.set_same, set_ne, ne_eq, not_false_eq_true, *] <;> rfl) | fail) ?_) | (refine Le_fresh (by first | (simp only [*] <;> done) | (simp [set_none', Heap.set_same, set_ne, *] <;> done) | fail) ?_) | (refine Heap.Le.trans ?_ (Grow.le (by assumption)))))) ?_) | (with_reducible refine loop_u ?_) | (with_reducible refine And.intro ?_ ?_)) <;> (try simp only [Sh,Si,Sl,Bu,Bb,Bd,Bc,Bw,Bn,Int.reduceAdd,Int.reduceSub,Int.reduceMul,Int.reduceTDiv,Int.reduceTMod,Int.reduceMod,Int.reduceDiv,Nat.reduceLT,Nat.reduceEqDiff,decide_true,decide_false,Sa,Sb,Sc,Sd,Se,Sf,Sg,true_and,and_true,and_self,eq_self,b_i64,b_i32,b_u64,b_u32,b_u8,Int.reduceLE,Int.reduceLT,Int.reduceToNat,Int.reduceNeg,Int.reduceEq,Nat.reduceLeDiff,Nat.reducePow,Int.reducePow,Nat.min_def,reduceIte,Nat.reduceSub,Nat.reduceAdd,Nat.reduceMul,KP_same,KP_f,condS_t,condS_f,pick_t,pick_f,gS_tt,gS_ff,gS_tf,gS_ft,gS_u,gP_tt,gP_ff,gP_tf,gP_ft,gP_u,ptrV_eq,slcV_eq,cells_agg,cells_int,cells_bool,cells_ptr,cells_slice,oc_int,oc_bool,oc_slice,oc_ptr,rd1_set,rd1_ne,rdn_set,rdn_ne,Heap.set_same,set_ne,Heap.set_set,set_up,set_up2,set_up3,putAt,ceq,List.map_cons,List.map_nil,List.length_cons,List.length_nil,List.length_set,List.cons_append,List.nil_append,List.append_nil,List.replicate,List.size_toArray,List.all_cons,List.all_nil,Bool.and_self,Bool.and_true,List.drop_zero,List.drop_succ_cons,List.take_succ_cons,List.take_zero,List.set_cons_zero,List.set_cons_succ,List.getElem?_cons_zero,List.getElem?_cons_succ,Option.map_some,Option.map_none,ne_eq,not_false_eq_true,not_true_eq_false,gt_iff_lt,ge_iff_le,Int.one_mul,Nat.zero_add,Nat.zero_mul,Bool.not_true,Bool.not_false,Bool.false_eq_true,Bool.and_false,Bool.false_and,Bool.true_and, *]))
      exact Fin_mk (by (repeat' (first | exact Heap.Le.refl _ | (refine Le_known (by first | (simp only [Heap.set_same, set_ne, ne_eq, not_false_eq_true, *] <;> rfl) | fail) ?_) | (refine Le_fresh (by first | (simp only [*] <;> done) | (simp [set_none', Heap.set_same, set_ne, *] <;> done) | fail) ?_) | (refine Heap.Le.trans ?_ (Grow.le (by assumption)))))) h
end Go.Proofs.Ytfokghepfcfbjaa
