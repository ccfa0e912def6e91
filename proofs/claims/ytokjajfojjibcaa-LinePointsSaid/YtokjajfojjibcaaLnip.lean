/- A point as the document says (layer 23). -/
import Derived.Test.YtokjajfojjibcaaLni
set_option linter.unusedSimpArgs false
set_option linter.unusedVariables false
set_option maxRecDepth 100000
set_option maxHeartbeats 8000000
namespace Go.Proofs.Ytokjajfojjibcaa
open Go Go.HL Go.RowKit Go.ChangeShapes Go.WideShapes Pb
variable {w0 : World} {H : Heap} {K : Value → Heap → Prop}

/- paintboxref23 Point -/
def M15 : MC :=
  .seq (.reg [⟨(some 1), .box 25 (.tmp 0), none⟩,
     ⟨(some 2), .mv (.const (.slice none 0 0)), none⟩])
  (.seq (.reg [⟨(some 9), .fa 4 (.tmp 1), none⟩,
      ⟨(some 10), .ld1 (.tmp 9), none⟩,
      ⟨(some 11), .call 34 [(.tmp 10), (.const (.int .i32 32768))], none⟩,
      ⟨(some 12), .call 33 [(.tmp 11)], none⟩,
      ⟨(some 3), .mv (.tmp 12), none⟩])
   (.seq (.seq (.reg [⟨(some 13), .mv (.tmp 3), none⟩,
        ⟨(some 14), .bin .lss (.tmp 13) (.const (.int .i64 1)), none⟩])
     (.cond (.tmp 14)
      (.reg [⟨(some 3), .mv (.const (.int .i64 1)), none⟩])
      (.skip)))
    (.seq (.seq (.reg [⟨(some 15), .mv (.tmp 3), none⟩,
         ⟨(some 16), .bin .gtr (.tmp 15) (.const (.int .i64 64)), none⟩])
      (.cond (.tmp 16)
       (.reg [⟨(some 3), .mv (.const (.int .i64 64)), none⟩])
       (.skip)))
     (.seq (.reg [⟨(some 4), .mv (.const (.slice none 0 0)), none⟩])
      (.seq (.seq (.reg [⟨(some 5), .mv (.const (.int .i64 0)), none⟩])
        (.block 0 (.loop (.seq (.seq (.reg [⟨(some 17), .mv (.tmp 5), none⟩,
               ⟨(some 18), .bin .lss (.tmp 17) (.const (.int .i64 64)), none⟩])
            (.cond (.tmp 18)
             (.skip)
             (.exit 0)))
           (.seq (.block 1 (.seq (.reg [⟨(some 6), .mv (.const (.int .i64 0)), none⟩])
              (.block 2 (.loop (.seq (.seq (.reg [⟨(some 21), .mv (.tmp 6), none⟩,
                     ⟨(some 22), .bin .lss (.tmp 21) (.const (.int .i64 64)), none⟩])
                  (.cond (.tmp 22)
                   (.skip)
                   (.exit 2)))
                 (.seq (.block 3 (.seq (.reg [⟨(some 25), .mv (.tmp 6), none⟩,
                       ⟨(some 26), .bin .mul (.const (.int .i64 256)) (.tmp 25), none⟩,
                       ⟨(some 27), .bin .add (.tmp 26) (.const (.int .i64 128)), none⟩,
                       ⟨(some 28), .fa 0 (.tmp 1), none⟩,
                       ⟨(some 29), .ld1 (.tmp 28), none⟩,
                       ⟨(some 30), .mv (.tmp 3), none⟩,
                       ⟨(some 31), .bin .mul (.const (.int .i64 128)) (.tmp 30), none⟩,
                       ⟨(some 32), .bin .sub (.tmp 29) (.tmp 31), none⟩,
                       ⟨(some 33), .bin .sub (.tmp 27) (.tmp 32), none⟩,
                       ⟨(some 7), .mv (.tmp 33), none⟩])
                    (.seq (.reg [⟨(some 34), .mv (.tmp 5), none⟩,
                        ⟨(some 35), .bin .mul (.const (.int .i64 256)) (.tmp 34), none⟩,
                        ⟨(some 36), .bin .add (.tmp 35) (.const (.int .i64 128)), none⟩,
                        ⟨(some 37), .fa 1 (.tmp 1), none⟩,
                        ⟨(some 38), .ld1 (.tmp 37), none⟩,
                        ⟨(some 39), .mv (.tmp 3), none⟩,
                        ⟨(some 40), .bin .mul (.const (.int .i64 128)) (.tmp 39), none⟩,
                        ⟨(some 41), .bin .sub (.tmp 38) (.tmp 40), none⟩,
                        ⟨(some 42), .bin .sub (.tmp 36) (.tmp 41), none⟩,
                        ⟨(some 8), .mv (.tmp 42), none⟩])
                     (.seq (.reg [⟨(some 43), .mv (.tmp 7), none⟩,
                         ⟨(some 44), .bin .geq (.tmp 43) (.const (.int .i64 0)), none⟩,
                         ⟨(some 45), .mv (.tmp 44), none⟩,
                         ⟨(some 46), .mv (.tmp 7), (some (45, true))⟩,
                         ⟨(some 47), .mv (.tmp 3), (some (45, true))⟩,
                         ⟨(some 48), .bin .mul (.const (.int .i64 256)) (.tmp 47), (some (45, true))⟩,
                         ⟨(some 49), .bin .lss (.tmp 46) (.tmp 48), (some (45, true))⟩,
                         ⟨(some 50), .pick (.tmp 45) (.tmp 49) (.const (.bool false)), none⟩,
                         ⟨(some 51), .mv (.tmp 50), none⟩,
                         ⟨(some 52), .mv (.tmp 8), (some (51, true))⟩,
                         ⟨(some 53), .bin .geq (.tmp 52) (.const (.int .i64 0)), (some (51, true))⟩,
                         ⟨(some 54), .pick (.tmp 51) (.tmp 53) (.const (.bool false)), none⟩,
                         ⟨(some 55), .mv (.tmp 54), none⟩,
                         ⟨(some 56), .mv (.tmp 8), (some (55, true))⟩,
                         ⟨(some 57), .mv (.tmp 3), (some (55, true))⟩,
                         ⟨(some 58), .bin .mul (.const (.int .i64 256)) (.tmp 57), (some (55, true))⟩,
                         ⟨(some 59), .bin .lss (.tmp 56) (.tmp 58), (some (55, true))⟩,
                         ⟨(some 60), .pick (.tmp 55) (.tmp 59) (.const (.bool false)), none⟩])
                      (.cond (.tmp 60)
                       (.any [(true, true, ⟨(some 61), .mv (.tmp 4), none⟩),
                          (true, true, ⟨(some 62), .mv (.tmp 6), none⟩),
                          (true, true, ⟨(some 63), .mv (.tmp 5), none⟩),
                          (true, true, ⟨(some 64), .fa 2 (.tmp 1), none⟩),
                          (true, true, ⟨(some 65), .ld1 (.tmp 64), none⟩),
                          (true, true, ⟨(some 66), .fa 3 (.tmp 1), none⟩),
                          (true, true, ⟨(some 67), .ld1 (.tmp 66), none⟩),
                          (true, true, ⟨(some 69), .mv (.tmp 7), none⟩),
                          (true, true, ⟨(some 70), .bin .mul (.const (.int .i64 65536)) (.tmp 69), none⟩),
                          (true, true, ⟨(some 71), .mv (.tmp 3), none⟩),
                          (true, true, ⟨(some 72), .bin .mul (.const (.int .i64 256)) (.tmp 71), none⟩),
                          (true, true, ⟨(some 73), .bin .quo (.tmp 70) (.tmp 72), none⟩),
                          (true, true, ⟨(some 74), .conv .i32 (.tmp 73), none⟩),
                          (true, true, ⟨(some 75), .mv (.tmp 8), none⟩),
                          (true, true, ⟨(some 76), .bin .mul (.const (.int .i64 65536)) (.tmp 75), none⟩),
                          (true, true, ⟨(some 77), .mv (.tmp 3), none⟩),
                          (true, true, ⟨(some 78), .bin .mul (.const (.int .i64 256)) (.tmp 77), none⟩),
                          (true, true, ⟨(some 79), .bin .quo (.tmp 76) (.tmp 78), none⟩),
                          (true, true, ⟨(some 80), .conv .i32 (.tmp 79), none⟩),
                          (true, true, ⟨(some 81), .build [(.int .i32 0), (.int .i32 0), (.int .i32 0), (.int .i32 0)] [(0, 1, (.tmp 74)), (1, 1, (.tmp 80))], none⟩),
                          (true, true, ⟨(some 82), .fa 5 (.tmp 1), none⟩),
                          (true, true, ⟨(some 83), .ld1 (.tmp 82), none⟩),
                          (false, true, ⟨(some 68), .call 35 [(.const (.int .i32 65536)), (.tmp 67)], none⟩),
                          (false, true, ⟨(some 84), .build [(.int .i64 0), (.int .i64 0), (.int .i32 0), (.int .i32 0), (.bool false), (.int .i32 0), (.int .i32 0), (.int .i32 0), (.int .i32 0), (.slice none 0 0)] [(0, 1, (.tmp 62)), (1, 1, (.tmp 63)), (2, 1, (.tmp 65)), (3, 1, (.tmp 68)), (4, 1, (.const (.bool true))), (5, 4, (.tmp 81)), (9, 1, (.tmp 83))], none⟩),
                          (false, true, ⟨(some 85), .bslice 46 1 [(.int .i64 0), (.int .i64 0), (.int .i32 0), (.int .i32 0), (.bool false), (.int .i32 0), (.int .i32 0), (.int .i32 0), (.int .i32 0), (.slice none 0 0)] [(0, 10, (.tmp 84))], none⟩),
                          (false, false, ⟨(some 86), .app 46 10 72 [(.int .i64 0), (.int .i64 0), (.int .i32 0), (.int .i32 0), (.bool false), (.int .i32 0), (.int .i32 0), (.int .i32 0), (.int .i32 0), (.slice none 0 0)] (.tmp 61) (.tmp 85), none⟩),
                          (false, false, ⟨(some 4), .mv (.tmp 86), none⟩)])
                       (.skip))))))
                  (.reg [⟨(some 23), .mv (.tmp 6), none⟩,
                     ⟨(some 24), .bin .add (.tmp 23) (.const (.int .i64 1)), none⟩,
                     ⟨(some 6), .mv (.tmp 24), none⟩])))))))
            (.reg [⟨(some 19), .mv (.tmp 5), none⟩,
               ⟨(some 20), .bin .add (.tmp 19) (.const (.int .i64 1)), none⟩,
               ⟨(some 5), .mv (.tmp 20), none⟩]))))))
       (.seq (.reg [⟨(some 87), .mv (.tmp 4), none⟩,
           ⟨(some 2), .mv (.tmp 87), none⟩])
        (.ret)))))))
theorem k15 : fnOk Try.prog 15 = some (M15, [.t 2], 88) := by kernel_rfl

end Go.Proofs.Ytokjajfojjibcaa
