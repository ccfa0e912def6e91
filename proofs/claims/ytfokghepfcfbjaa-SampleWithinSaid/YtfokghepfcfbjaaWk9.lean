/- The trial of layer 9, reckoned. -/
import Derived.Test.YtfokghepfcfbjaaHlw
import Derived.Test.YtfokghepfcfbjaaProg
set_option linter.unusedSimpArgs false
set_option linter.unusedVariables false
set_option maxRecDepth 100000
namespace Go.Proofs.Ytfokghepfcfbjaa
open Go.HL
namespace Wakes
def M10 : MC :=
  .seq (.reg [⟨(some 0), .mv (.const (.bool false)), none⟩])
  (.seq (.reg [⟨(some 6), .call 25 [], none⟩,
      ⟨(some 7), .call 14 [(.tmp 6), (.const (.int .i32 32768)), (.const (.int .i32 0)), (.const (.int .i32 0))], none⟩,
      ⟨(some 5), .mv (.tmp 7), none⟩,
      ⟨(some 8), .ext 0 (.tmp 5), none⟩,
      ⟨(some 9), .ext 1 (.tmp 5), none⟩,
      ⟨(some 1), .alloc 34 [(.int .i32 0), (.int .i32 0), (.int .i32 0), (.int .i32 0)], none⟩,
      ⟨none, .stn 4 (.tmp 1) (.tmp 8), none⟩,
      ⟨(some 2), .mv (.tmp 9), none⟩])
   (.seq (.reg [⟨(some 11), .call 25 [], none⟩,
       ⟨(some 12), .call 22 [(.tmp 11), (.const (.int .i64 0)), (.const (.int .i32 32768)), (.const (.int .i32 0))], none⟩,
       ⟨(some 10), .mv (.tmp 12), none⟩,
       ⟨(some 13), .ext 0 (.tmp 10), none⟩,
       ⟨(some 14), .ext 1 (.tmp 10), none⟩,
       ⟨(some 3), .alloc 34 [(.int .i32 0), (.int .i32 0), (.int .i32 0), (.int .i32 0)], none⟩,
       ⟨none, .stn 4 (.tmp 3) (.tmp 13), none⟩,
       ⟨(some 4), .mv (.tmp 14), none⟩])
    (.seq (.reg [⟨(some 15), .mv (.tmp 2), none⟩,
        ⟨(some 16), .bin .eql (.tmp 15) (.const (.int .i64 0)), none⟩,
        ⟨(some 17), .mv (.tmp 16), none⟩,
        ⟨(some 18), .mv (.tmp 4), (some (17, true))⟩,
        ⟨(some 19), .bin .eql (.tmp 18) (.const (.int .i64 0)), (some (17, true))⟩,
        ⟨(some 20), .pick (.tmp 17) (.tmp 19) (.const (.bool false)), none⟩,
        ⟨(some 21), .mv (.tmp 20), none⟩,
        ⟨(some 22), .ia 4 1 (.tmp 1) (.const (.int .i64 0)), (some (21, true))⟩,
        ⟨(some 23), .ld1 (.tmp 22), (some (21, true))⟩,
        ⟨(some 24), .bin .eql (.tmp 23) (.const (.int .i32 65536)), (some (21, true))⟩,
        ⟨(some 25), .pick (.tmp 21) (.tmp 24) (.const (.bool false)), none⟩,
        ⟨(some 26), .mv (.tmp 25), none⟩,
        ⟨(some 27), .ia 4 1 (.tmp 3) (.const (.int .i64 0)), (some (26, true))⟩,
        ⟨(some 28), .ld1 (.tmp 27), (some (26, true))⟩,
        ⟨(some 29), .bin .eql (.tmp 28) (.const (.int .i32 32768)), (some (26, true))⟩,
        ⟨(some 30), .pick (.tmp 26) (.tmp 29) (.const (.bool false)), none⟩,
        ⟨(some 31), .mv (.tmp 30), none⟩,
        ⟨(some 32), .call 11 [(.const (.int .i64 3)), (.const (.int .i64 5)), (.const (.int .i64 4))], (some (31, true))⟩,
        ⟨(some 33), .bin .eql (.tmp 32) (.const (.int .i64 2)), (some (31, true))⟩,
        ⟨(some 34), .pick (.tmp 31) (.tmp 33) (.const (.bool false)), none⟩,
        ⟨(some 0), .mv (.tmp 34), none⟩])
     (.ret))))
theorem k10 : fnOk Try.prog 10 = some (M10, [.t 0], 35) := by kernel_rfl
def M11 : MC :=
  .seq (.reg [⟨(some 6), .mv (.const (.int .i64 0)), none⟩])
  (.seq (.seq (.reg [⟨(some 8), .mv (.tmp 2), none⟩,
       ⟨(some 9), .bin .lss (.tmp 8) (.const (.int .i64 1)), none⟩,
       ⟨(some 10), .mv (.tmp 9), none⟩,
       ⟨(some 11), .mv (.tmp 2), (some (10, false))⟩,
       ⟨(some 12), .bin .gtr (.tmp 11) (.const (.int .i64 64)), (some (10, false))⟩,
       ⟨(some 13), .pick (.tmp 10) (.const (.bool true)) (.tmp 12), none⟩])
    (.cond (.tmp 13)
     (.seq (.reg [⟨(some 6), .mv (.const (.int .i64 0)), none⟩])
      (.ret))
     (.skip)))
   (.seq (.seq (.reg [⟨(some 14), .mv (.tmp 0), none⟩])
     (.block 0 (.seq (.reg [⟨(some 16), .bin .eql (.tmp 14) (.const (.int .i64 1)), none⟩,
          ⟨(some 15), .mv (.tmp 16), none⟩])
       (.cond (.tmp 15)
        (.seq (.reg [⟨(some 17), .mv (.tmp 1), none⟩,
            ⟨(some 18), .mv (.tmp 2), none⟩,
            ⟨(some 19), .call 26 [(.tmp 17), (.tmp 18)], none⟩,
            ⟨(some 6), .mv (.tmp 19), none⟩])
         (.ret))
        (.seq (.reg [⟨(some 21), .bin .eql (.tmp 14) (.const (.int .i64 2)), none⟩,
            ⟨(some 20), .mv (.tmp 21), none⟩])
         (.cond (.tmp 20)
          (.seq (.reg [⟨(some 22), .mv (.tmp 1), none⟩,
              ⟨(some 23), .mx (.tmp 22) (.const (.int .i64 0)), none⟩,
              ⟨(some 24), .mv (.tmp 2), none⟩,
              ⟨(some 25), .bin .sub (.tmp 24) (.const (.int .i64 1)), none⟩,
              ⟨(some 26), .mn (.tmp 23) (.tmp 25), none⟩,
              ⟨(some 6), .mv (.tmp 26), none⟩])
           (.ret))
          (.seq (.reg [⟨(some 28), .bin .eql (.tmp 14) (.const (.int .i64 3)), none⟩,
              ⟨(some 27), .mv (.tmp 28), none⟩])
           (.cond (.tmp 27)
            (.seq (.reg [⟨(some 29), .mv (.tmp 1), none⟩,
                ⟨(some 30), .mv (.tmp 2), none⟩,
                ⟨(some 31), .bin .mul (.const (.int .i64 2)) (.tmp 30), none⟩,
                ⟨(some 32), .call 26 [(.tmp 29), (.tmp 31)], none⟩,
                ⟨(some 7), .mv (.tmp 32), none⟩])
             (.seq (.reg [⟨(some 33), .mv (.tmp 7), none⟩,
                 ⟨(some 34), .mv (.tmp 2), none⟩,
                 ⟨(some 35), .bin .lss (.tmp 33) (.tmp 34), none⟩])
              (.cond (.tmp 35)
               (.seq (.reg [⟨(some 36), .mv (.tmp 7), none⟩,
                   ⟨(some 6), .mv (.tmp 36), none⟩])
                (.ret))
               (.seq (.reg [⟨(some 37), .mv (.tmp 2), none⟩,
                   ⟨(some 38), .bin .mul (.const (.int .i64 2)) (.tmp 37), none⟩,
                   ⟨(some 39), .bin .sub (.tmp 38) (.const (.int .i64 1)), none⟩,
                   ⟨(some 40), .mv (.tmp 7), none⟩,
                   ⟨(some 41), .bin .sub (.tmp 39) (.tmp 40), none⟩,
                   ⟨(some 6), .mv (.tmp 41), none⟩])
                (.ret)))))
            (.skip)))))))))
    (.seq (.reg [⟨(some 6), .mv (.const (.int .i64 0)), none⟩])
     (.ret))))
theorem k11 : fnOk Try.prog 11 = some (M11, [.t 6], 42) := by kernel_rfl
def M26 : MC :=
  .seq (.reg [⟨(some 4), .mv (.const (.int .i64 0)), none⟩])
  (.seq (.reg [⟨(some 5), .mv (.tmp 0), none⟩,
      ⟨(some 6), .mv (.tmp 1), none⟩,
      ⟨(some 7), .bin .rem (.tmp 5) (.tmp 6), none⟩,
      ⟨(some 8), .mv (.tmp 1), none⟩,
      ⟨(some 9), .bin .add (.tmp 7) (.tmp 8), none⟩,
      ⟨(some 10), .mv (.tmp 1), none⟩,
      ⟨(some 11), .bin .rem (.tmp 9) (.tmp 10), none⟩,
      ⟨(some 4), .mv (.tmp 11), none⟩])
   (.ret))
theorem k26 : fnOk Try.prog 26 = some (M26, [.t 4], 12) := by kernel_rfl
def M22 : MC :=
  .seq (.reg [⟨(some 4), .box 29 (.tmp 0), none⟩,
     ⟨(some 8), .alloc 34 [(.int .i32 0), (.int .i32 0), (.int .i32 0), (.int .i32 0)], none⟩,
     ⟨(some 9), .mv (.const (.int .i64 0)), none⟩])
  (.seq (.reg [⟨(some 13), .ldn 6 (.tmp 4), none⟩,
      ⟨(some 14), .mv (.tmp 1), none⟩,
      ⟨(some 15), .call 39 [(.tmp 13), (.tmp 14)], none⟩,
      ⟨(some 12), .mv (.tmp 15), none⟩,
      ⟨(some 16), .ext 0 (.tmp 12), none⟩,
      ⟨(some 17), .ext 1 (.tmp 12), none⟩,
      ⟨(some 10), .alloc 51 [(.int .i64 0), (.int .i64 0), (.slice none 0 0)], none⟩,
      ⟨none, .stn 3 (.tmp 10) (.tmp 16), none⟩,
      ⟨(some 11), .mv (.tmp 17), none⟩])
   (.seq (.seq (.reg [⟨(some 18), .mv (.tmp 11), none⟩,
        ⟨(some 19), .bin .neq (.tmp 18) (.const (.int .i64 0)), none⟩])
     (.cond (.tmp 19)
      (.seq (.reg [⟨(some 20), .build [(.int .i32 0), (.int .i32 0), (.int .i32 0), (.int .i32 0)] [], none⟩,
          ⟨(some 21), .mv (.tmp 11), none⟩,
          ⟨none, .stn 4 (.tmp 8) (.tmp 20), none⟩,
          ⟨(some 9), .mv (.tmp 21), none⟩])
       (.ret))
      (.skip)))
    (.seq (.reg [⟨(some 22), .ldn 6 (.tmp 4), none⟩,
        ⟨(some 23), .ldn 3 (.tmp 10), none⟩,
        ⟨(some 24), .mv (.tmp 2), none⟩,
        ⟨(some 25), .mv (.tmp 3), none⟩,
        ⟨(some 26), .call 32 [(.tmp 22), (.tmp 23), (.tmp 24), (.tmp 25)], none⟩,
        ⟨none, .stn 4 (.tmp 8) (.tmp 26), none⟩,
        ⟨(some 9), .mv (.const (.int .i64 0)), none⟩])
     (.ret))))
theorem k22 : fnOk Try.prog 22 = some (M22, [.cn 4 8, .t 9], 27) := by kernel_rfl
def M32 : MC :=
  .seq (.reg [⟨(some 4), .box 29 (.tmp 0), none⟩,
     ⟨(some 5), .box 51 (.tmp 1), none⟩,
     ⟨(some 8), .alloc 34 [(.int .i32 0), (.int .i32 0), (.int .i32 0), (.int .i32 0)], none⟩])
  (.seq (.reg [⟨(some 23), .fa 0 (.tmp 5), none⟩,
      ⟨(some 24), .ld1 (.tmp 23), none⟩,
      ⟨(some 25), .mv (.tmp 2), none⟩,
      ⟨(some 26), .call 50 [(.tmp 24), (.tmp 25)], none⟩,
      ⟨(some 22), .mv (.tmp 26), none⟩,
      ⟨(some 27), .ext 0 (.tmp 22), none⟩,
      ⟨(some 28), .ext 1 (.tmp 22), none⟩,
      ⟨(some 9), .mv (.tmp 27), none⟩,
      ⟨(some 10), .mv (.tmp 28), none⟩])
   (.seq (.reg [⟨(some 30), .fa 1 (.tmp 5), none⟩,
       ⟨(some 31), .ld1 (.tmp 30), none⟩,
       ⟨(some 32), .mv (.tmp 3), none⟩,
       ⟨(some 33), .call 50 [(.tmp 31), (.tmp 32)], none⟩,
       ⟨(some 29), .mv (.tmp 33), none⟩,
       ⟨(some 34), .ext 0 (.tmp 29), none⟩,
       ⟨(some 35), .ext 1 (.tmp 29), none⟩,
       ⟨(some 11), .mv (.tmp 34), none⟩,
       ⟨(some 12), .mv (.tmp 35), none⟩])
    (.seq (.reg [⟨(some 13), .alloc 34 [(.int .i32 0), (.int .i32 0), (.int .i32 0), (.int .i32 0)], none⟩])
     (.seq (.reg [⟨(some 14), .alloc 67 [(.int .i64 0), (.int .i64 0), (.int .i64 0), (.int .i64 0)], none⟩])
      (.seq (.seq (.reg [⟨(some 36), .mv (.const (.int .i64 0)), none⟩])
        (.block 0 (.loop (.seq (.reg [⟨(some 37), .bin .lss (.tmp 36) (.const (.int .i64 4)), none⟩])
           (.seq (.cond (.tmp 37)
             (.skip)
             (.exit 0))
            (.seq (.block 1 (.seq (.reg [⟨(some 38), .mv (.tmp 36), none⟩,
                  ⟨(some 15), .mv (.tmp 38), none⟩])
               (.seq (.reg [⟨(some 39), .mv (.tmp 10), none⟩,
                   ⟨(some 40), .bin .sub (.const (.int .i64 65536)) (.tmp 39), none⟩,
                   ⟨(some 41), .mv (.tmp 12), none⟩,
                   ⟨(some 42), .bin .sub (.const (.int .i64 65536)) (.tmp 41), none⟩,
                   ⟨(some 16), .mv (.tmp 40), none⟩,
                   ⟨(some 17), .mv (.tmp 42), none⟩])
                (.seq (.seq (.reg [⟨(some 43), .mv (.tmp 15), none⟩,
                     ⟨(some 44), .bin .and (.tmp 43) (.const (.int .i64 1)), none⟩,
                     ⟨(some 45), .bin .eql (.tmp 44) (.const (.int .i64 1)), none⟩])
                  (.cond (.tmp 45)
                   (.reg [⟨(some 46), .mv (.tmp 10), none⟩,
                      ⟨(some 16), .mv (.tmp 46), none⟩])
                   (.skip)))
                 (.seq (.seq (.reg [⟨(some 47), .mv (.tmp 15), none⟩,
                      ⟨(some 48), .bin .and (.tmp 47) (.const (.int .i64 2)), none⟩,
                      ⟨(some 49), .bin .eql (.tmp 48) (.const (.int .i64 2)), none⟩])
                   (.cond (.tmp 49)
                    (.reg [⟨(some 50), .mv (.tmp 12), none⟩,
                       ⟨(some 17), .mv (.tmp 50), none⟩])
                    (.skip)))
                  (.seq (.reg [⟨(some 51), .ldn 6 (.tmp 4), none⟩,
                      ⟨(some 52), .ldn 3 (.tmp 5), none⟩,
                      ⟨(some 53), .mv (.tmp 9), none⟩,
                      ⟨(some 54), .mv (.tmp 15), none⟩,
                      ⟨(some 55), .bin .and (.tmp 54) (.const (.int .i64 1)), none⟩,
                      ⟨(some 56), .bin .add (.tmp 53) (.tmp 55), none⟩,
                      ⟨(some 57), .mv (.tmp 11), none⟩,
                      ⟨(some 58), .mv (.tmp 15), none⟩,
                      ⟨(some 59), .bin .shr (.tmp 58) (.const (.int .u64 1)), none⟩,
                      ⟨(some 60), .bin .add (.tmp 57) (.tmp 59), none⟩,
                      ⟨(some 61), .call 40 [(.tmp 51), (.tmp 52), (.tmp 56), (.tmp 60)], none⟩,
                      ⟨(some 18), .alloc 34 [(.int .i32 0), (.int .i32 0), (.int .i32 0), (.int .i32 0)], none⟩,
                      ⟨none, .stn 4 (.tmp 18) (.tmp 61), none⟩])
                   (.seq (.reg [⟨(some 62), .mv (.const (.int .i64 0)), none⟩])
                    (.block 2 (.loop (.seq (.reg [⟨(some 63), .bin .lss (.tmp 62) (.const (.int .i64 4)), none⟩])
                       (.seq (.cond (.tmp 63)
                         (.skip)
                         (.exit 2))
                        (.seq (.block 3 (.seq (.reg [⟨(some 64), .mv (.tmp 62), none⟩,
                              ⟨(some 19), .mv (.tmp 64), none⟩])
                           (.any [(true, 0, [], ⟨(some 65), .mv (.tmp 19), none⟩),
                              (true, 1, [], ⟨(some 66), .ia 4 1 (.tmp 14) (.tmp 65), none⟩),
                              (true, 2, [], ⟨(some 67), .ld1 (.tmp 66), none⟩),
                              (true, 3, [], ⟨(some 68), .mv (.tmp 19), none⟩),
                              (true, 4, [], ⟨(some 69), .ia 4 1 (.tmp 18) (.tmp 68), none⟩),
                              (true, 5, [], ⟨(some 70), .ld1 (.tmp 69), none⟩),
                              (true, 6, [], ⟨(some 71), .conv .i64 (.tmp 70), none⟩),
                              (true, 7, [], ⟨(some 72), .mv (.tmp 16), none⟩),
                              (true, 8, [], ⟨(some 73), .bin .mul (.tmp 71) (.tmp 72), none⟩),
                              (false, 9, [0, 1, 2, 3, 4, 5, 6, 7, 8], ⟨(some 74), .mv (.tmp 17), none⟩),
                              (false, 10, [0, 1, 2], ⟨(some 75), .bin .mul (.tmp 73) (.tmp 74), none⟩),
                              (false, 11, [], ⟨(some 76), .bin .add (.tmp 67) (.tmp 75), none⟩),
                              (false, 12, [], ⟨(some 77), .ia 4 1 (.tmp 14) (.tmp 65), none⟩),
                              (false, 13, [], ⟨none, .st1 (.tmp 77) (.tmp 76), none⟩)])))
                         (.reg [⟨(some 78), .bin .add (.tmp 62) (.const (.int .i64 1)), none⟩,
                            ⟨(some 62), .mv (.tmp 78), none⟩])))))))))))))
             (.reg [⟨(some 79), .bin .add (.tmp 36) (.const (.int .i64 1)), none⟩,
                ⟨(some 36), .mv (.tmp 79), none⟩])))))))
       (.seq (.seq (.reg [⟨(some 80), .ldn 4 (.tmp 14), none⟩,
            ⟨(some 81), .mv (.const (.int .i64 0)), none⟩])
         (.block 4 (.loop (.seq (.reg [⟨(some 82), .bin .lss (.tmp 81) (.const (.int .i64 4)), none⟩])
            (.seq (.cond (.tmp 82)
              (.skip)
              (.exit 4))
             (.seq (.block 5 (.seq (.reg [⟨(some 83), .mv (.tmp 81), none⟩,
                   ⟨(some 84), .ix 4 (.tmp 80) (.tmp 81), none⟩,
                   ⟨(some 20), .mv (.tmp 83), none⟩,
                   ⟨(some 21), .mv (.tmp 84), none⟩])
                (.reg [⟨(some 85), .mv (.tmp 20), none⟩,
                   ⟨(some 86), .mv (.tmp 21), none⟩,
                   ⟨(some 87), .bin .add (.tmp 86) (.const (.int .i64 2147483648)), none⟩,
                   ⟨(some 88), .bin .shr (.tmp 87) (.const (.int .u64 32)), none⟩,
                   ⟨(some 89), .conv .i32 (.tmp 88), none⟩,
                   ⟨(some 90), .ia 4 1 (.tmp 13) (.tmp 85), none⟩,
                   ⟨none, .st1 (.tmp 90) (.tmp 89), none⟩])))
              (.reg [⟨(some 91), .bin .add (.tmp 81) (.const (.int .i64 1)), none⟩,
                 ⟨(some 81), .mv (.tmp 91), none⟩])))))))
        (.seq (.reg [⟨(some 92), .ldn 4 (.tmp 13), none⟩,
            ⟨none, .stn 4 (.tmp 8) (.tmp 92), none⟩])
         (.ret))))))))
theorem k32 : fnOk Try.prog 32 = some (M32, [.cn 4 8], 93) := by kernel_rfl
def M40 : MC :=
  .seq (.reg [⟨(some 4), .box 29 (.tmp 0), none⟩,
     ⟨(some 5), .box 51 (.tmp 1), none⟩,
     ⟨(some 8), .alloc 34 [(.int .i32 0), (.int .i32 0), (.int .i32 0), (.int .i32 0)], none⟩])
  (.seq (.reg [⟨(some 13), .fa 0 (.tmp 4), none⟩,
      ⟨(some 14), .ld1 (.tmp 13), none⟩,
      ⟨(some 15), .call 43 [(.tmp 14)], none⟩,
      ⟨(some 9), .mv (.tmp 15), none⟩])
   (.seq (.any [(true, 0, [], ⟨(some 16), .fa 3 (.tmp 4), none⟩),
       (true, 1, [], ⟨(some 17), .ld1 (.tmp 16), none⟩),
       (true, 2, [], ⟨(some 18), .mv (.tmp 3), none⟩),
       (true, 3, [], ⟨(some 19), .fa 1 (.tmp 5), none⟩),
       (true, 4, [], ⟨(some 20), .ld1 (.tmp 19), none⟩),
       (true, 6, [], ⟨(some 22), .fa 0 (.tmp 5), none⟩),
       (true, 7, [], ⟨(some 23), .ld1 (.tmp 22), none⟩),
       (true, 9, [], ⟨(some 25), .fa 2 (.tmp 4), none⟩),
       (true, 10, [], ⟨(some 26), .ld1 (.tmp 25), none⟩),
       (true, 11, [], ⟨(some 27), .mv (.tmp 2), none⟩),
       (true, 12, [], ⟨(some 28), .fa 0 (.tmp 5), none⟩),
       (true, 13, [], ⟨(some 29), .ld1 (.tmp 28), none⟩),
       (true, 16, [], ⟨(some 32), .mv (.tmp 9), none⟩),
       (false, 5, [6, 7, 9, 10, 11, 12, 13, 16, 8], ⟨(some 21), .call 11 [(.tmp 17), (.tmp 18), (.tmp 20)], none⟩),
       (true, 8, [], ⟨(some 24), .bin .mul (.tmp 21) (.tmp 23), none⟩),
       (false, 14, [6, 7, 16, 8], ⟨(some 30), .call 11 [(.tmp 26), (.tmp 27), (.tmp 29)], none⟩),
       (false, 15, [16], ⟨(some 31), .bin .add (.tmp 24) (.tmp 30), none⟩),
       (false, 17, [], ⟨(some 33), .bin .mul (.tmp 31) (.tmp 32), none⟩),
       (false, 18, [], ⟨(some 10), .mv (.tmp 33), none⟩)])
    (.seq (.alts (.one true 0 [] ⟨(some 35), .fa 0 (.tmp 4), none⟩ (.one true 1 [] ⟨(some 36), .ld1 (.tmp 35), none⟩ (.one true 2 [] ⟨(some 37), .fa 2 (.tmp 5), none⟩ (.one true 3 [] ⟨(some 38), .ld1 (.tmp 37), none⟩ (.one true 4 [] ⟨(some 39), .mv (.tmp 10), none⟩ (.one true 5 [] ⟨(some 40), .mv (.tmp 10), none⟩ (.one true 6 [] ⟨(some 41), .mv (.tmp 9), none⟩ (.one true 7 [] ⟨(some 42), .bin .add (.tmp 40) (.tmp 41), none⟩ (.one true 8 [] ⟨(some 43), .slc 1 (.tmp 38) (some (.tmp 39)) (some (.tmp 42)), none⟩ (.alt (.one false 9 [10, 11, 12, 11, 12] ⟨(some 44), .call 53 [(.tmp 36), (.tmp 43)], none⟩ (.one true 10 [] ⟨(some 34), .mv (.tmp 44), none⟩ (.one true 11 [] ⟨(some 45), .ext 0 (.tmp 34), none⟩ (.one true 12 [] ⟨(some 46), .ext 1 (.tmp 34), none⟩ (.one false 13 [10, 11, 12, 11, 12] ⟨(some 11), .alloc 34 [(.int .i32 0), (.int .i32 0), (.int .i32 0), (.int .i32 0)], none⟩ (.one false 14 [12, 12] ⟨none, .stn 4 (.tmp 11) (.tmp 45), none⟩ (.one false 15 [] ⟨(some 12), .mv (.tmp 46), none⟩ .nil)))))))
      (.one false 13 [0, 1, 2, 3, 4, 5, 6, 7, 8, 10, 11, 12, 11, 12] ⟨(some 11), .alloc 34 [(.int .i32 0), (.int .i32 0), (.int .i32 0), (.int .i32 0)], none⟩ (.one false 9 [10, 11, 12, 11, 12] ⟨(some 44), .call 53 [(.tmp 36), (.tmp 43)], none⟩ (.one false 10 [10, 11, 12, 11, 12] ⟨(some 34), .mv (.tmp 44), none⟩ (.one true 11 [] ⟨(some 45), .ext 0 (.tmp 34), none⟩ (.one true 12 [] ⟨(some 46), .ext 1 (.tmp 34), none⟩ (.one false 14 [12, 12] ⟨none, .stn 4 (.tmp 11) (.tmp 45), none⟩ (.one false 15 [] ⟨(some 12), .mv (.tmp 46), none⟩ .nil))))))))))))))))))
     (.seq (.reg [⟨(some 47), .ldn 4 (.tmp 11), none⟩,
         ⟨none, .stn 4 (.tmp 8) (.tmp 47), none⟩])
      (.ret)))))
theorem k40 : fnOk Try.prog 40 = some (M40, [.cn 4 8], 48) := by kernel_rfl
def M53 : MC :=
  .seq (.reg [⟨(some 4), .alloc 34 [(.int .i32 0), (.int .i32 0), (.int .i32 0), (.int .i32 0)], none⟩,
     ⟨(some 5), .mv (.const (.int .i64 0)), none⟩])
  (.seq (.reg [⟨(some 15), .mv (.tmp 0), none⟩,
      ⟨(some 16), .call 58 [(.tmp 15)], none⟩,
      ⟨(some 14), .mv (.tmp 16), none⟩,
      ⟨(some 17), .ext 0 (.tmp 14), none⟩,
      ⟨(some 18), .ext 1 (.tmp 14), none⟩,
      ⟨(some 6), .alloc 78 [(.int .i64 0), (.slice none 0 0), (.int .i32 0), (.int .i32 0), (.int .i32 0), (.int .i32 0)], none⟩,
      ⟨none, .stn 6 (.tmp 6) (.tmp 17), none⟩,
      ⟨(some 7), .mv (.tmp 18), none⟩])
   (.seq (.block 0 (.seq (.reg [⟨(some 20), .mv (.tmp 7), none⟩,
         ⟨(some 21), .un .not (.tmp 20), none⟩,
         ⟨(some 19), .mv (.tmp 21), none⟩])
      (.cond (.tmp 19)
       (.seq (.reg [⟨(some 22), .build [(.int .i32 0), (.int .i32 0), (.int .i32 0), (.int .i32 0)] [], none⟩,
           ⟨none, .stn 4 (.tmp 4) (.tmp 22), none⟩,
           ⟨(some 5), .mv (.const (.int .i64 2)), none⟩])
        (.ret))
       (.seq (.reg [⟨(some 24), .mv (.tmp 1), none⟩,
           ⟨(some 25), .len (.tmp 24), none⟩,
           ⟨(some 26), .fa 0 (.tmp 6), none⟩,
           ⟨(some 27), .ld1 (.tmp 26), none⟩,
           ⟨(some 28), .bin .neq (.tmp 25) (.tmp 27), none⟩,
           ⟨(some 23), .mv (.tmp 28), none⟩])
        (.cond (.tmp 23)
         (.seq (.reg [⟨(some 29), .build [(.int .i32 0), (.int .i32 0), (.int .i32 0), (.int .i32 0)] [], none⟩,
             ⟨none, .stn 4 (.tmp 4) (.tmp 29), none⟩,
             ⟨(some 5), .mv (.const (.int .i64 7)), none⟩])
          (.ret))
         (.skip))))))
    (.seq (.reg [⟨(some 8), .mv (.const (.int .u32 0)), none⟩])
     (.seq (.seq (.reg [⟨(some 30), .mv (.tmp 1), none⟩,
          ⟨(some 31), .len (.tmp 30), none⟩,
          ⟨(some 32), .mv (.const (.int .i64 0)), none⟩])
       (.block 1 (.loop (.seq (.reg [⟨(some 33), .bin .lss (.tmp 32) (.tmp 31), none⟩])
          (.seq (.cond (.tmp 33)
            (.skip)
            (.exit 1))
           (.seq (.block 2 (.seq (.reg [⟨(some 34), .mv (.tmp 32), none⟩,
                 ⟨(some 35), .is 1 (.tmp 30) (.tmp 32), none⟩,
                 ⟨(some 36), .ld1 (.tmp 35), none⟩,
                 ⟨(some 9), .mv (.tmp 34), none⟩,
                 ⟨(some 10), .mv (.tmp 36), none⟩])
              (.reg [⟨(some 37), .mv (.tmp 8), none⟩,
                 ⟨(some 38), .mv (.tmp 10), none⟩,
                 ⟨(some 39), .conv .u32 (.tmp 38), none⟩,
                 ⟨(some 40), .mv (.tmp 9), none⟩,
                 ⟨(some 41), .bin .mul (.const (.int .i64 8)) (.tmp 40), none⟩,
                 ⟨(some 42), .bin .shl (.tmp 39) (.tmp 41), none⟩,
                 ⟨(some 43), .bin .or (.tmp 37) (.tmp 42), none⟩,
                 ⟨(some 8), .mv (.tmp 43), none⟩])))
            (.reg [⟨(some 44), .bin .add (.tmp 32) (.const (.int .i64 1)), none⟩,
               ⟨(some 32), .mv (.tmp 44), none⟩])))))))
      (.seq (.reg [⟨(some 45), .fa 2 (.tmp 6), none⟩,
          ⟨(some 46), .ldn 4 (.tmp 45), none⟩,
          ⟨(some 11), .alloc 34 [(.int .i32 0), (.int .i32 0), (.int .i32 0), (.int .i32 0)], none⟩,
          ⟨none, .stn 4 (.tmp 11) (.tmp 46), none⟩])
       (.seq (.seq (.reg [⟨(some 47), .fa 1 (.tmp 6), none⟩,
            ⟨(some 48), .ld1 (.tmp 47), none⟩,
            ⟨(some 49), .len (.tmp 48), none⟩,
            ⟨(some 50), .mv (.const (.int .i64 0)), none⟩])
         (.block 3 (.loop (.seq (.reg [⟨(some 51), .bin .lss (.tmp 50) (.tmp 49), none⟩])
            (.seq (.cond (.tmp 51)
              (.skip)
              (.exit 3))
             (.seq (.block 4 (.seq (.reg [⟨(some 52), .is 3 (.tmp 48) (.tmp 50), none⟩,
                   ⟨(some 53), .ldn 3 (.tmp 52), none⟩,
                   ⟨(some 13), .alloc 83 [(.int .i64 0), (.int .i64 0), (.int .i64 0)], none⟩,
                   ⟨none, .stn 3 (.tmp 13) (.tmp 53), none⟩])
                (.any [(true, 0, [], ⟨(some 54), .fa 0 (.tmp 13), none⟩),
                   (true, 1, [], ⟨(some 55), .ld1 (.tmp 54), none⟩),
                   (true, 2, [], ⟨(some 56), .mv (.tmp 8), none⟩),
                   (true, 3, [], ⟨(some 57), .fa 2 (.tmp 13), none⟩),
                   (true, 4, [], ⟨(some 58), .ld1 (.tmp 57), none⟩),
                   (true, 5, [], ⟨(some 59), .bin .shr (.tmp 56) (.tmp 58), none⟩),
                   (true, 6, [], ⟨(some 60), .fa 1 (.tmp 13), none⟩),
                   (true, 7, [], ⟨(some 61), .ld1 (.tmp 60), none⟩),
                   (true, 8, [], ⟨(some 62), .bin .shl (.const (.int .u32 1)) (.tmp 61), none⟩),
                   (true, 9, [], ⟨(some 63), .bin .sub (.tmp 62) (.const (.int .u32 1)), none⟩),
                   (true, 10, [], ⟨(some 64), .bin .and (.tmp 59) (.tmp 63), none⟩),
                   (false, 11, [0, 1, 2, 3, 4, 5, 6, 7, 8, 9, 10], ⟨(some 65), .fa 1 (.tmp 13), none⟩),
                   (false, 12, [0, 1, 2, 3, 4, 5, 6, 7, 8, 9, 10], ⟨(some 66), .ld1 (.tmp 65), none⟩),
                   (false, 13, [0, 1], ⟨(some 67), .call 60 [(.tmp 64), (.tmp 66)], none⟩),
                   (false, 14, [], ⟨(some 68), .ia 4 1 (.tmp 11) (.tmp 55), none⟩),
                   (false, 15, [], ⟨none, .st1 (.tmp 68) (.tmp 67), none⟩)])))
              (.reg [⟨(some 69), .bin .add (.tmp 50) (.const (.int .i64 1)), none⟩,
                 ⟨(some 50), .mv (.tmp 69), none⟩])))))))
        (.seq (.seq (.reg [⟨(some 70), .mv (.tmp 0), none⟩,
             ⟨(some 71), .call 61 [(.tmp 70)], none⟩])
          (.cond (.tmp 71)
           (.reg [⟨(some 72), .ia 4 1 (.tmp 11) (.const (.int .i64 0)), none⟩,
              ⟨(some 73), .ld1 (.tmp 72), none⟩,
              ⟨(some 74), .ia 4 1 (.tmp 11) (.const (.int .i64 0)), none⟩,
              ⟨(some 75), .ld1 (.tmp 74), none⟩,
              ⟨(some 76), .ia 4 1 (.tmp 11) (.const (.int .i64 1)), none⟩,
              ⟨none, .st1 (.tmp 76) (.tmp 73), none⟩,
              ⟨(some 77), .ia 4 1 (.tmp 11) (.const (.int .i64 2)), none⟩,
              ⟨none, .st1 (.tmp 77) (.tmp 75), none⟩])
           (.skip)))
         (.seq (.reg [⟨(some 78), .ldn 4 (.tmp 11), none⟩,
             ⟨none, .stn 4 (.tmp 4) (.tmp 78), none⟩,
             ⟨(some 5), .mv (.const (.int .i64 0)), none⟩])
          (.ret)))))))))
theorem k53 : fnOk Try.prog 53 = some (M53, [.cn 4 4, .t 5], 79) := by kernel_rfl
def M61 : MC :=
  .seq (.reg [⟨(some 2), .mv (.const (.bool false)), none⟩])
  (.seq (.reg [⟨(some 3), .mv (.tmp 0), none⟩,
      ⟨(some 4), .bin .eql (.tmp 3) (.const (.int .i64 5)), none⟩,
      ⟨(some 5), .mv (.tmp 4), none⟩,
      ⟨(some 6), .mv (.tmp 0), (some (5, false))⟩,
      ⟨(some 7), .bin .eql (.tmp 6) (.const (.int .i64 7)), (some (5, false))⟩,
      ⟨(some 8), .pick (.tmp 5) (.const (.bool true)) (.tmp 7), none⟩,
      ⟨(some 2), .mv (.tmp 8), none⟩])
   (.ret))
theorem k61 : fnOk Try.prog 61 = some (M61, [.t 2], 9) := by kernel_rfl
def M60 : MC :=
  .seq (.reg [⟨(some 4), .mv (.const (.int .i32 0)), none⟩])
  (.seq (.reg [⟨(some 6), .mv (.tmp 1), none⟩,
      ⟨(some 7), .bin .shl (.const (.int .i64 1)) (.tmp 6), none⟩,
      ⟨(some 8), .bin .sub (.tmp 7) (.const (.int .i64 1)), none⟩,
      ⟨(some 5), .mv (.tmp 8), none⟩])
   (.seq (.reg [⟨(some 9), .mv (.tmp 0), none⟩,
       ⟨(some 10), .conv .i64 (.tmp 9), none⟩,
       ⟨(some 11), .bin .mul (.tmp 10) (.const (.int .i64 65536)), none⟩,
       ⟨(some 12), .mv (.tmp 5), none⟩,
       ⟨(some 13), .bin .quo (.tmp 12) (.const (.int .i64 2)), none⟩,
       ⟨(some 14), .bin .add (.tmp 11) (.tmp 13), none⟩,
       ⟨(some 15), .mv (.tmp 5), none⟩,
       ⟨(some 16), .bin .quo (.tmp 14) (.tmp 15), none⟩,
       ⟨(some 17), .conv .i32 (.tmp 16), none⟩,
       ⟨(some 4), .mv (.tmp 17), none⟩])
    (.ret)))
theorem k60 : fnOk Try.prog 60 = some (M60, [.t 4], 18) := by kernel_rfl
def M58 : MC :=
  .seq (.reg [⟨(some 2), .alloc 78 [(.int .i64 0), (.slice none 0 0), (.int .i32 0), (.int .i32 0), (.int .i32 0), (.int .i32 0)], none⟩,
     ⟨(some 3), .mv (.const (.bool false)), none⟩])
  (.seq (.reg [⟨(some 5), .call 62 [], none⟩,
      ⟨(some 4), .mv (.tmp 5), none⟩])
   (.seq (.seq (.reg [⟨(some 6), .mv (.tmp 0), none⟩,
        ⟨(some 7), .bin .lss (.tmp 6) (.const (.int .i64 1)), none⟩,
        ⟨(some 8), .mv (.tmp 7), none⟩,
        ⟨(some 9), .mv (.tmp 0), (some (8, false))⟩,
        ⟨(some 10), .mv (.tmp 4), (some (8, false))⟩,
        ⟨(some 11), .len (.tmp 10), (some (8, false))⟩,
        ⟨(some 12), .bin .geq (.tmp 9) (.tmp 11), (some (8, false))⟩,
        ⟨(some 13), .pick (.tmp 8) (.const (.bool true)) (.tmp 12), none⟩])
     (.cond (.tmp 13)
      (.seq (.reg [⟨(some 14), .build [(.int .i64 0), (.slice none 0 0), (.int .i32 0), (.int .i32 0), (.int .i32 0), (.int .i32 0)] [], none⟩,
          ⟨none, .stn 6 (.tmp 2) (.tmp 14), none⟩,
          ⟨(some 3), .mv (.const (.bool false)), none⟩])
       (.ret))
      (.skip)))
    (.seq (.reg [⟨(some 15), .mv (.tmp 4), none⟩,
        ⟨(some 16), .mv (.tmp 0), none⟩,
        ⟨(some 17), .is 6 (.tmp 15) (.tmp 16), none⟩,
        ⟨(some 18), .ldn 6 (.tmp 17), none⟩,
        ⟨none, .stn 6 (.tmp 2) (.tmp 18), none⟩,
        ⟨(some 3), .mv (.const (.bool true)), none⟩])
     (.ret))))
theorem k58 : fnOk Try.prog 58 = some (M58, [.cn 6 2, .t 3], 19) := by kernel_rfl
def M62 : MC :=
  .seq (.reg [⟨(some 0), .mv (.const (.slice none 0 0)), none⟩])
  (.seq (.reg [⟨(some 2), .build [(.int .i32 0), (.int .i32 0), (.int .i32 0), (.int .i32 0)] [(0, 1, (.const (.int .i32 0))), (1, 1, (.const (.int .i32 0))), (2, 1, (.const (.int .i32 0))), (3, 1, (.const (.int .i32 65536)))], none⟩,
      ⟨(some 1), .alloc 34 [(.int .i32 0), (.int .i32 0), (.int .i32 0), (.int .i32 0)], none⟩,
      ⟨none, .stn 4 (.tmp 1) (.tmp 2), none⟩])
   (.seq (.reg [⟨(some 3), .build [(.int .i64 0), (.slice none 0 0), (.int .i32 0), (.int .i32 0), (.int .i32 0), (.int .i32 0)] [], none⟩,
       ⟨(some 4), .build [(.int .i64 0), (.int .i64 0), (.int .i64 0)] [(0, 1, (.const (.int .i64 0))), (1, 1, (.const (.int .i64 8))), (2, 1, (.const (.int .i64 0)))], none⟩,
       ⟨(some 5), .build [(.int .i64 0), (.int .i64 0), (.int .i64 0)] [(0, 1, (.const (.int .i64 1))), (1, 1, (.const (.int .i64 8))), (2, 1, (.const (.int .i64 8)))], none⟩,
       ⟨(some 6), .build [(.int .i64 0), (.int .i64 0), (.int .i64 0)] [(0, 1, (.const (.int .i64 2))), (1, 1, (.const (.int .i64 8))), (2, 1, (.const (.int .i64 16)))], none⟩,
       ⟨(some 7), .build [(.int .i64 0), (.int .i64 0), (.int .i64 0)] [(0, 1, (.const (.int .i64 3))), (1, 1, (.const (.int .i64 8))), (2, 1, (.const (.int .i64 24)))], none⟩,
       ⟨(some 8), .bslice 83 4 [(.int .i64 0), (.int .i64 0), (.int .i64 0), (.int .i64 0), (.int .i64 0), (.int .i64 0), (.int .i64 0), (.int .i64 0), (.int .i64 0), (.int .i64 0), (.int .i64 0), (.int .i64 0)] [(0, 3, (.tmp 4)), (3, 3, (.tmp 5)), (6, 3, (.tmp 6)), (9, 3, (.tmp 7))], none⟩,
       ⟨(some 9), .build [(.int .i32 0), (.int .i32 0), (.int .i32 0), (.int .i32 0)] [], none⟩,
       ⟨(some 10), .build [(.int .i64 0), (.slice none 0 0), (.int .i32 0), (.int .i32 0), (.int .i32 0), (.int .i32 0)] [(0, 1, (.const (.int .i64 4))), (1, 1, (.tmp 8)), (2, 4, (.tmp 9))], none⟩,
       ⟨(some 11), .build [(.int .i64 0), (.int .i64 0), (.int .i64 0)] [(0, 1, (.const (.int .i64 0))), (1, 1, (.const (.int .i64 5))), (2, 1, (.const (.int .i64 11)))], none⟩,
       ⟨(some 12), .build [(.int .i64 0), (.int .i64 0), (.int .i64 0)] [(0, 1, (.const (.int .i64 1))), (1, 1, (.const (.int .i64 6))), (2, 1, (.const (.int .i64 5)))], none⟩,
       ⟨(some 13), .build [(.int .i64 0), (.int .i64 0), (.int .i64 0)] [(0, 1, (.const (.int .i64 2))), (1, 1, (.const (.int .i64 5))), (2, 1, (.const (.int .i64 0)))], none⟩,
       ⟨(some 14), .bslice 83 3 [(.int .i64 0), (.int .i64 0), (.int .i64 0), (.int .i64 0), (.int .i64 0), (.int .i64 0), (.int .i64 0), (.int .i64 0), (.int .i64 0)] [(0, 3, (.tmp 11)), (3, 3, (.tmp 12)), (6, 3, (.tmp 13))], none⟩,
       ⟨(some 15), .ldn 4 (.tmp 1), none⟩,
       ⟨(some 16), .build [(.int .i64 0), (.slice none 0 0), (.int .i32 0), (.int .i32 0), (.int .i32 0), (.int .i32 0)] [(0, 1, (.const (.int .i64 2))), (1, 1, (.tmp 14)), (2, 4, (.tmp 15))], none⟩,
       ⟨(some 17), .build [(.int .i64 0), (.int .i64 0), (.int .i64 0)] [(0, 1, (.const (.int .i64 0))), (1, 1, (.const (.int .i64 4))), (2, 1, (.const (.int .i64 12)))], none⟩,
       ⟨(some 18), .build [(.int .i64 0), (.int .i64 0), (.int .i64 0)] [(0, 1, (.const (.int .i64 1))), (1, 1, (.const (.int .i64 4))), (2, 1, (.const (.int .i64 8)))], none⟩,
       ⟨(some 19), .build [(.int .i64 0), (.int .i64 0), (.int .i64 0)] [(0, 1, (.const (.int .i64 2))), (1, 1, (.const (.int .i64 4))), (2, 1, (.const (.int .i64 4)))], none⟩,
       ⟨(some 20), .build [(.int .i64 0), (.int .i64 0), (.int .i64 0)] [(0, 1, (.const (.int .i64 3))), (1, 1, (.const (.int .i64 4))), (2, 1, (.const (.int .i64 0)))], none⟩,
       ⟨(some 21), .bslice 83 4 [(.int .i64 0), (.int .i64 0), (.int .i64 0), (.int .i64 0), (.int .i64 0), (.int .i64 0), (.int .i64 0), (.int .i64 0), (.int .i64 0), (.int .i64 0), (.int .i64 0), (.int .i64 0)] [(0, 3, (.tmp 17)), (3, 3, (.tmp 18)), (6, 3, (.tmp 19)), (9, 3, (.tmp 20))], none⟩,
       ⟨(some 22), .build [(.int .i32 0), (.int .i32 0), (.int .i32 0), (.int .i32 0)] [], none⟩,
       ⟨(some 23), .build [(.int .i64 0), (.slice none 0 0), (.int .i32 0), (.int .i32 0), (.int .i32 0), (.int .i32 0)] [(0, 1, (.const (.int .i64 2))), (1, 1, (.tmp 21)), (2, 4, (.tmp 22))], none⟩,
       ⟨(some 24), .build [(.int .i64 0), (.int .i64 0), (.int .i64 0)] [(0, 1, (.const (.int .i64 0))), (1, 1, (.const (.int .i64 5))), (2, 1, (.const (.int .i64 11)))], none⟩,
       ⟨(some 25), .build [(.int .i64 0), (.int .i64 0), (.int .i64 0)] [(0, 1, (.const (.int .i64 1))), (1, 1, (.const (.int .i64 5))), (2, 1, (.const (.int .i64 6)))], none⟩,
       ⟨(some 26), .build [(.int .i64 0), (.int .i64 0), (.int .i64 0)] [(0, 1, (.const (.int .i64 2))), (1, 1, (.const (.int .i64 5))), (2, 1, (.const (.int .i64 1)))], none⟩,
       ⟨(some 27), .build [(.int .i64 0), (.int .i64 0), (.int .i64 0)] [(0, 1, (.const (.int .i64 3))), (1, 1, (.const (.int .i64 1))), (2, 1, (.const (.int .i64 0)))], none⟩,
       ⟨(some 28), .bslice 83 4 [(.int .i64 0), (.int .i64 0), (.int .i64 0), (.int .i64 0), (.int .i64 0), (.int .i64 0), (.int .i64 0), (.int .i64 0), (.int .i64 0), (.int .i64 0), (.int .i64 0), (.int .i64 0)] [(0, 3, (.tmp 24)), (3, 3, (.tmp 25)), (6, 3, (.tmp 26)), (9, 3, (.tmp 27))], none⟩,
       ⟨(some 29), .build [(.int .i32 0), (.int .i32 0), (.int .i32 0), (.int .i32 0)] [], none⟩,
       ⟨(some 30), .build [(.int .i64 0), (.slice none 0 0), (.int .i32 0), (.int .i32 0), (.int .i32 0), (.int .i32 0)] [(0, 1, (.const (.int .i64 2))), (1, 1, (.tmp 28)), (2, 4, (.tmp 29))], none⟩,
       ⟨(some 31), .build [(.int .i64 0), (.int .i64 0), (.int .i64 0)] [(0, 1, (.const (.int .i64 0))), (1, 1, (.const (.int .i64 8))), (2, 1, (.const (.int .i64 0)))], none⟩,
       ⟨(some 32), .bslice 83 1 [(.int .i64 0), (.int .i64 0), (.int .i64 0)] [(0, 3, (.tmp 31))], none⟩,
       ⟨(some 33), .ldn 4 (.tmp 1), none⟩,
       ⟨(some 34), .build [(.int .i64 0), (.slice none 0 0), (.int .i32 0), (.int .i32 0), (.int .i32 0), (.int .i32 0)] [(0, 1, (.const (.int .i64 1))), (1, 1, (.tmp 32)), (2, 4, (.tmp 33))], none⟩,
       ⟨(some 35), .build [(.int .i64 0), (.int .i64 0), (.int .i64 0)] [(0, 1, (.const (.int .i64 3))), (1, 1, (.const (.int .i64 8))), (2, 1, (.const (.int .i64 0)))], none⟩,
       ⟨(some 36), .bslice 83 1 [(.int .i64 0), (.int .i64 0), (.int .i64 0)] [(0, 3, (.tmp 35))], none⟩,
       ⟨(some 37), .build [(.int .i32 0), (.int .i32 0), (.int .i32 0), (.int .i32 0)] [], none⟩,
       ⟨(some 38), .build [(.int .i64 0), (.slice none 0 0), (.int .i32 0), (.int .i32 0), (.int .i32 0), (.int .i32 0)] [(0, 1, (.const (.int .i64 1))), (1, 1, (.tmp 36)), (2, 4, (.tmp 37))], none⟩,
       ⟨(some 39), .build [(.int .i64 0), (.int .i64 0), (.int .i64 0)] [(0, 1, (.const (.int .i64 0))), (1, 1, (.const (.int .i64 8))), (2, 1, (.const (.int .i64 0)))], none⟩,
       ⟨(some 40), .build [(.int .i64 0), (.int .i64 0), (.int .i64 0)] [(0, 1, (.const (.int .i64 3))), (1, 1, (.const (.int .i64 8))), (2, 1, (.const (.int .i64 8)))], none⟩,
       ⟨(some 41), .bslice 83 2 [(.int .i64 0), (.int .i64 0), (.int .i64 0), (.int .i64 0), (.int .i64 0), (.int .i64 0)] [(0, 3, (.tmp 39)), (3, 3, (.tmp 40))], none⟩,
       ⟨(some 42), .build [(.int .i32 0), (.int .i32 0), (.int .i32 0), (.int .i32 0)] [], none⟩,
       ⟨(some 43), .build [(.int .i64 0), (.slice none 0 0), (.int .i32 0), (.int .i32 0), (.int .i32 0), (.int .i32 0)] [(0, 1, (.const (.int .i64 2))), (1, 1, (.tmp 41)), (2, 4, (.tmp 42))], none⟩,
       ⟨(some 44), .bslice 78 8 [(.int .i64 0), (.slice none 0 0), (.int .i32 0), (.int .i32 0), (.int .i32 0), (.int .i32 0), (.int .i64 0), (.slice none 0 0), (.int .i32 0), (.int .i32 0), (.int .i32 0), (.int .i32 0), (.int .i64 0), (.slice none 0 0), (.int .i32 0), (.int .i32 0), (.int .i32 0), (.int .i32 0), (.int .i64 0), (.slice none 0 0), (.int .i32 0), (.int .i32 0), (.int .i32 0), (.int .i32 0), (.int .i64 0), (.slice none 0 0), (.int .i32 0), (.int .i32 0), (.int .i32 0), (.int .i32 0), (.int .i64 0), (.slice none 0 0), (.int .i32 0), (.int .i32 0), (.int .i32 0), (.int .i32 0), (.int .i64 0), (.slice none 0 0), (.int .i32 0), (.int .i32 0), (.int .i32 0), (.int .i32 0), (.int .i64 0), (.slice none 0 0), (.int .i32 0), (.int .i32 0), (.int .i32 0), (.int .i32 0)] [(0, 6, (.tmp 3)), (6, 6, (.tmp 10)), (12, 6, (.tmp 16)), (18, 6, (.tmp 23)), (24, 6, (.tmp 30)), (30, 6, (.tmp 34)), (36, 6, (.tmp 38)), (42, 6, (.tmp 43))], none⟩,
       ⟨(some 0), .mv (.tmp 44), none⟩])
    (.ret)))
theorem k62 : fnOk Try.prog 62 = some (M62, [.t 0], 45) := by kernel_rfl
def M43 : MC :=
  .seq (.reg [⟨(some 2), .mv (.const (.int .i64 0)), none⟩])
  (.seq (.reg [⟨(some 6), .mv (.tmp 0), none⟩,
      ⟨(some 7), .call 58 [(.tmp 6)], none⟩,
      ⟨(some 5), .mv (.tmp 7), none⟩,
      ⟨(some 8), .ext 0 (.tmp 5), none⟩,
      ⟨(some 9), .ext 1 (.tmp 5), none⟩,
      ⟨(some 3), .alloc 78 [(.int .i64 0), (.slice none 0 0), (.int .i32 0), (.int .i32 0), (.int .i32 0), (.int .i32 0)], none⟩,
      ⟨none, .stn 6 (.tmp 3) (.tmp 8), none⟩,
      ⟨(some 4), .mv (.tmp 9), none⟩])
   (.seq (.reg [⟨(some 10), .fa 0 (.tmp 3), none⟩,
       ⟨(some 11), .ld1 (.tmp 10), none⟩,
       ⟨(some 2), .mv (.tmp 11), none⟩])
    (.ret)))
theorem k43 : fnOk Try.prog 43 = some (M43, [.t 2], 12) := by kernel_rfl
def M50 : MC :=
  .seq (.reg [⟨(some 4), .mv (.const (.int .i64 0)), none⟩,
     ⟨(some 5), .mv (.const (.int .i64 0)), none⟩])
  (.seq (.reg [⟨(some 7), .mv (.tmp 0), none⟩,
      ⟨(some 8), .mv (.tmp 1), none⟩,
      ⟨(some 9), .conv .i64 (.tmp 8), none⟩,
      ⟨(some 10), .bin .mul (.tmp 7) (.tmp 9), none⟩,
      ⟨(some 11), .bin .sub (.tmp 10) (.const (.int .i64 32768)), none⟩,
      ⟨(some 6), .mv (.tmp 11), none⟩])
   (.seq (.reg [⟨(some 12), .mv (.tmp 6), none⟩,
       ⟨(some 13), .bin .shr (.tmp 12) (.const (.int .u64 16)), none⟩,
       ⟨(some 14), .mv (.tmp 6), none⟩,
       ⟨(some 15), .bin .and (.tmp 14) (.const (.int .i64 65535)), none⟩,
       ⟨(some 4), .mv (.tmp 13), none⟩,
       ⟨(some 5), .mv (.tmp 15), none⟩])
    (.ret)))
theorem k50 : fnOk Try.prog 50 = some (M50, [.t 4, .t 5], 16) := by kernel_rfl
def M39 : MC :=
  .seq (.reg [⟨(some 2), .box 29 (.tmp 0), none⟩,
     ⟨(some 4), .alloc 51 [(.int .i64 0), (.int .i64 0), (.slice none 0 0)], none⟩,
     ⟨(some 5), .mv (.const (.int .i64 0)), none⟩])
  (.seq (.seq (.reg [⟨(some 7), .ldn 6 (.tmp 2), none⟩,
       ⟨(some 8), .call 28 [(.tmp 7)], none⟩,
       ⟨(some 6), .mv (.tmp 8), none⟩])
    (.seq (.reg [⟨(some 9), .mv (.tmp 6), none⟩,
        ⟨(some 10), .bin .neq (.tmp 9) (.const (.int .i64 0)), none⟩])
     (.cond (.tmp 10)
      (.seq (.reg [⟨(some 11), .build [(.int .i64 0), (.int .i64 0), (.slice none 0 0)] [], none⟩,
          ⟨(some 12), .mv (.tmp 6), none⟩,
          ⟨none, .stn 3 (.tmp 4) (.tmp 11), none⟩,
          ⟨(some 5), .mv (.tmp 12), none⟩])
       (.ret))
      (.skip))))
   (.seq (.seq (.reg [⟨(some 13), .mv (.tmp 1), none⟩,
        ⟨(some 14), .bin .lss (.tmp 13) (.const (.int .i64 0)), none⟩,
        ⟨(some 15), .mv (.tmp 14), none⟩,
        ⟨(some 16), .mv (.tmp 1), (some (15, false))⟩,
        ⟨(some 17), .fa 1 (.tmp 2), (some (15, false))⟩,
        ⟨(some 18), .ld1 (.tmp 17), (some (15, false))⟩,
        ⟨(some 19), .len (.tmp 18), (some (15, false))⟩,
        ⟨(some 20), .bin .geq (.tmp 16) (.tmp 19), (some (15, false))⟩,
        ⟨(some 21), .pick (.tmp 15) (.const (.bool true)) (.tmp 20), none⟩,
        ⟨(some 22), .mv (.tmp 21), none⟩,
        ⟨(some 23), .fa 1 (.tmp 2), (some (22, false))⟩,
        ⟨(some 24), .ld1 (.tmp 23), (some (22, false))⟩,
        ⟨(some 25), .mv (.tmp 1), (some (22, false))⟩,
        ⟨(some 26), .is 3 (.tmp 24) (.tmp 25), (some (22, false))⟩,
        ⟨(some 27), .fa 0 (.tmp 26), (some (22, false))⟩,
        ⟨(some 28), .ld1 (.tmp 27), (some (22, false))⟩,
        ⟨(some 29), .bin .eql (.tmp 28) (.const (.int .i64 0)), (some (22, false))⟩,
        ⟨(some 30), .pick (.tmp 22) (.const (.bool true)) (.tmp 29), none⟩])
     (.cond (.tmp 30)
      (.seq (.reg [⟨(some 31), .build [(.int .i64 0), (.int .i64 0), (.slice none 0 0)] [], none⟩,
          ⟨none, .stn 3 (.tmp 4) (.tmp 31), none⟩,
          ⟨(some 5), .mv (.const (.int .i64 4)), none⟩])
       (.ret))
      (.skip)))
    (.seq (.reg [⟨(some 32), .fa 1 (.tmp 2), none⟩,
        ⟨(some 33), .ld1 (.tmp 32), none⟩,
        ⟨(some 34), .mv (.tmp 1), none⟩,
        ⟨(some 35), .is 3 (.tmp 33) (.tmp 34), none⟩,
        ⟨(some 36), .ldn 3 (.tmp 35), none⟩,
        ⟨none, .stn 3 (.tmp 4) (.tmp 36), none⟩,
        ⟨(some 5), .mv (.const (.int .i64 0)), none⟩])
     (.ret))))
theorem k39 : fnOk Try.prog 39 = some (M39, [.cn 3 4, .t 5], 37) := by kernel_rfl
def M28 : MC :=
  .seq (.reg [⟨(some 1), .box 29 (.tmp 0), none⟩,
     ⟨(some 2), .mv (.const (.int .i64 0)), none⟩])
  (.seq (.reg [⟨(some 6), .fa 0 (.tmp 1), none⟩,
      ⟨(some 7), .ld1 (.tmp 6), none⟩,
      ⟨(some 8), .call 43 [(.tmp 7)], none⟩,
      ⟨(some 3), .alloc 3 [(.int .i64 0)], none⟩,
      ⟨none, .st1 (.tmp 3) (.tmp 8), none⟩])
   (.seq (.reg [⟨(some 9), .fn 44 [(.tmp 3)], none⟩,
       ⟨(some 4), .mv (.tmp 9), none⟩])
    (.seq (.reg [⟨(some 10), .fa 1 (.tmp 1), none⟩,
        ⟨(some 11), .ld1 (.tmp 10), none⟩,
        ⟨(some 12), .len (.tmp 11), none⟩,
        ⟨(some 5), .mv (.tmp 12), none⟩])
     (.seq (.block 0 (.seq (.seq (.reg [⟨(some 14), .mv (.tmp 5), none⟩,
            ⟨(some 15), .bin .gtr (.tmp 14) (.const (.int .i64 7)), none⟩,
            ⟨(some 13), .mv (.tmp 15), none⟩])
         (.cond (.tmp 13)
          (.skip)
          (.seq (.reg [⟨(some 16), .mv (.tmp 5), none⟩,
              ⟨(some 17), .bin .eql (.tmp 16) (.const (.int .i64 0)), none⟩,
              ⟨(some 18), .mv (.tmp 17), none⟩,
              ⟨(some 19), .fa 0 (.tmp 1), (some (18, true))⟩,
              ⟨(some 20), .ld1 (.tmp 19), (some (18, true))⟩,
              ⟨(some 21), .bin .neq (.tmp 20) (.const (.int .i64 0)), (some (18, true))⟩,
              ⟨(some 22), .pick (.tmp 18) (.tmp 21) (.const (.bool false)), none⟩,
              ⟨(some 13), .mv (.tmp 22), none⟩])
           (.cond (.tmp 13)
            (.skip)
            (.seq (.reg [⟨(some 23), .mv (.tmp 5), none⟩,
                ⟨(some 24), .bin .gtr (.tmp 23) (.const (.int .i64 0)), none⟩,
                ⟨(some 25), .mv (.tmp 24), none⟩,
                ⟨(some 26), .ld1 (.tmp 3), (some (25, true))⟩,
                ⟨(some 27), .bin .eql (.tmp 26) (.const (.int .i64 0)), (some (25, true))⟩,
                ⟨(some 28), .mv (.tmp 27), (some (25, true))⟩,
                ⟨(some 29), .fa 1 (.tmp 1), (some (28, false))⟩,
                ⟨(some 30), .ld1 (.tmp 29), (some (28, false))⟩,
                ⟨(some 31), .mv (.tmp 5), (some (28, false))⟩,
                ⟨(some 32), .bin .sub (.tmp 31) (.const (.int .i64 1)), (some (28, false))⟩,
                ⟨(some 33), .is 3 (.tmp 30) (.tmp 32), (some (28, false))⟩,
                ⟨(some 34), .ldn 3 (.tmp 33), (some (28, false))⟩,
                ⟨(some 35), .call 45 [(.tmp 34)], (some (28, false))⟩,
                ⟨(some 36), .pick (.tmp 28) (.const (.bool true)) (.tmp 35), (some (25, true))⟩,
                ⟨(some 37), .pick (.tmp 25) (.tmp 36) (.const (.bool false)), none⟩,
                ⟨(some 13), .mv (.tmp 37), none⟩])
             (.cond (.tmp 13)
              (.skip)
              (.reg [⟨(some 38), .fa 1 (.tmp 1), none⟩,
                 ⟨(some 39), .ld1 (.tmp 38), none⟩,
                 ⟨(some 40), .mv (.tmp 4), none⟩,
                 ⟨(some 41), .call 47 [(.tmp 39), (.tmp 40)], none⟩,
                 ⟨(some 13), .mv (.tmp 41), none⟩])))))))
        (.cond (.tmp 13)
         (.seq (.reg [⟨(some 2), .mv (.const (.int .i64 180)), none⟩])
          (.ret))
         (.seq (.seq (.reg [⟨(some 43), .fa 2 (.tmp 1), none⟩,
              ⟨(some 44), .ld1 (.tmp 43), none⟩,
              ⟨(some 45), .call 48 [(.const (.int .i64 1)), (.tmp 44)], none⟩,
              ⟨(some 46), .un .not (.tmp 45), none⟩,
              ⟨(some 42), .mv (.tmp 46), none⟩])
           (.cond (.tmp 42)
            (.skip)
            (.seq (.reg [⟨(some 47), .fa 3 (.tmp 1), none⟩,
                ⟨(some 48), .ld1 (.tmp 47), none⟩,
                ⟨(some 49), .call 48 [(.const (.int .i64 2)), (.tmp 48)], none⟩,
                ⟨(some 50), .un .not (.tmp 49), none⟩,
                ⟨(some 42), .mv (.tmp 50), none⟩])
             (.cond (.tmp 42)
              (.skip)
              (.seq (.reg [⟨(some 51), .fa 4 (.tmp 1), none⟩,
                  ⟨(some 52), .ld1 (.tmp 51), none⟩,
                  ⟨(some 53), .call 48 [(.const (.int .i64 3)), (.tmp 52)], none⟩,
                  ⟨(some 54), .un .not (.tmp 53), none⟩,
                  ⟨(some 42), .mv (.tmp 54), none⟩])
               (.cond (.tmp 42)
                (.skip)
                (.reg [⟨(some 55), .fa 5 (.tmp 1), none⟩,
                   ⟨(some 56), .ld1 (.tmp 55), none⟩,
                   ⟨(some 57), .call 48 [(.const (.int .i64 4)), (.tmp 56)], none⟩,
                   ⟨(some 58), .un .not (.tmp 57), none⟩,
                   ⟨(some 42), .mv (.tmp 58), none⟩])))))))
          (.cond (.tmp 42)
           (.seq (.reg [⟨(some 2), .mv (.const (.int .i64 180)), none⟩])
            (.ret))
           (.skip))))))
      (.seq (.reg [⟨(some 2), .mv (.const (.int .i64 0)), none⟩])
       (.ret))))))
theorem k28 : fnOk Try.prog 28 = some (M28, [.t 2], 59) := by kernel_rfl
def M48 : MC :=
  .seq (.reg [⟨(some 4), .mv (.const (.bool false)), none⟩])
  (.seq (.reg [⟨(some 5), .mv (.const (.int .i64 0)), none⟩])
   (.seq (.seq (.reg [⟨(some 6), .mv (.tmp 0), none⟩])
     (.block 0 (.seq (.seq (.reg [⟨(some 8), .bin .eql (.tmp 6) (.const (.int .i64 1)), none⟩,
           ⟨(some 7), .mv (.tmp 8), none⟩])
        (.cond (.tmp 7)
         (.skip)
         (.reg [⟨(some 9), .bin .eql (.tmp 6) (.const (.int .i64 2)), none⟩,
            ⟨(some 7), .mv (.tmp 9), none⟩])))
       (.cond (.tmp 7)
        (.reg [⟨(some 5), .mv (.const (.int .i64 3)), none⟩])
        (.seq (.reg [⟨(some 11), .bin .eql (.tmp 6) (.const (.int .i64 3)), none⟩,
            ⟨(some 10), .mv (.tmp 11), none⟩])
         (.cond (.tmp 10)
          (.reg [⟨(some 5), .mv (.const (.int .i64 4)), none⟩])
          (.seq (.reg [⟨(some 13), .bin .eql (.tmp 6) (.const (.int .i64 4)), none⟩,
              ⟨(some 12), .mv (.tmp 13), none⟩])
           (.cond (.tmp 12)
            (.reg [⟨(some 5), .mv (.const (.int .i64 2)), none⟩])
            (.skip)))))))))
    (.seq (.reg [⟨(some 14), .mv (.tmp 1), none⟩,
        ⟨(some 15), .bin .geq (.tmp 14) (.const (.int .i64 1)), none⟩,
        ⟨(some 16), .mv (.tmp 15), none⟩,
        ⟨(some 17), .mv (.tmp 1), (some (16, true))⟩,
        ⟨(some 18), .mv (.tmp 5), (some (16, true))⟩,
        ⟨(some 19), .bin .leq (.tmp 17) (.tmp 18), (some (16, true))⟩,
        ⟨(some 20), .pick (.tmp 16) (.tmp 19) (.const (.bool false)), none⟩,
        ⟨(some 4), .mv (.tmp 20), none⟩])
     (.ret))))
theorem k48 : fnOk Try.prog 48 = some (M48, [.t 4], 21) := by kernel_rfl
def M47 : MC :=
  .seq (.reg [⟨(some 4), .mv (.const (.bool false)), none⟩])
  (.seq (.reg [⟨(some 5), .mv (.tmp 0), none⟩,
      ⟨(some 6), .mv (.tmp 1), none⟩,
      ⟨(some 7), .call 59 [(.tmp 5), (.tmp 6)], none⟩,
      ⟨(some 8), .bin .geq (.tmp 7) (.const (.int .i64 0)), none⟩,
      ⟨(some 4), .mv (.tmp 8), none⟩])
   (.ret))
theorem k47 : fnOk Try.prog 47 = some (M47, [.t 4], 9) := by kernel_rfl
def M59 : MC :=
  .seq (.reg [⟨(some 4), .mv (.const (.int .i64 0)), none⟩])
  (.seq (.seq (.reg [⟨(some 6), .mv (.tmp 0), none⟩,
       ⟨(some 7), .len (.tmp 6), none⟩,
       ⟨(some 8), .mv (.const (.int .i64 0)), none⟩])
    (.block 0 (.loop (.seq (.reg [⟨(some 9), .bin .lss (.tmp 8) (.tmp 7), none⟩])
       (.seq (.cond (.tmp 9)
         (.skip)
         (.exit 0))
        (.seq (.block 1 (.seq (.reg [⟨(some 10), .mv (.tmp 8), none⟩,
              ⟨(some 5), .mv (.tmp 10), none⟩])
           (.seq (.reg [⟨(some 11), .mv (.tmp 1), none⟩,
               ⟨(some 12), .mv (.tmp 0), none⟩,
               ⟨(some 13), .mv (.tmp 5), none⟩,
               ⟨(some 14), .is 3 (.tmp 12) (.tmp 13), none⟩,
               ⟨(some 15), .ldn 3 (.tmp 14), none⟩,
               ⟨(some 16), .yv (.tmp 11) [(.tmp 15)], none⟩])
            (.cond (.tmp 16)
             (.seq (.reg [⟨(some 17), .mv (.tmp 5), none⟩,
                 ⟨(some 4), .mv (.tmp 17), none⟩])
              (.ret))
             (.skip)))))
         (.reg [⟨(some 18), .bin .add (.tmp 8) (.const (.int .i64 1)), none⟩,
            ⟨(some 8), .mv (.tmp 18), none⟩])))))))
   (.seq (.reg [⟨(some 4), .mv (.const (.int .i64 (-1))), none⟩])
    (.ret)))
theorem k59 : fnOk Try.prog 59 = some (M59, [.t 4], 19) := by kernel_rfl
def M45 : MC :=
  .seq (.reg [⟨(some 1), .box 51 (.tmp 0), none⟩,
     ⟨(some 2), .mv (.const (.bool false)), none⟩])
  (.seq (.reg [⟨(some 3), .fa 0 (.tmp 1), none⟩,
      ⟨(some 4), .ld1 (.tmp 3), none⟩,
      ⟨(some 5), .bin .eql (.tmp 4) (.const (.int .i64 0)), none⟩,
      ⟨(some 6), .mv (.tmp 5), none⟩,
      ⟨(some 7), .fa 1 (.tmp 1), (some (6, true))⟩,
      ⟨(some 8), .ld1 (.tmp 7), (some (6, true))⟩,
      ⟨(some 9), .bin .eql (.tmp 8) (.const (.int .i64 0)), (some (6, true))⟩,
      ⟨(some 10), .pick (.tmp 6) (.tmp 9) (.const (.bool false)), none⟩,
      ⟨(some 11), .mv (.tmp 10), none⟩,
      ⟨(some 12), .fa 2 (.tmp 1), (some (11, true))⟩,
      ⟨(some 13), .ld1 (.tmp 12), (some (11, true))⟩,
      ⟨(some 14), .len (.tmp 13), (some (11, true))⟩,
      ⟨(some 15), .bin .eql (.tmp 14) (.const (.int .i64 0)), (some (11, true))⟩,
      ⟨(some 16), .pick (.tmp 11) (.tmp 15) (.const (.bool false)), none⟩,
      ⟨(some 2), .mv (.tmp 16), none⟩])
   (.ret))
theorem k45 : fnOk Try.prog 45 = some (M45, [.t 2], 17) := by kernel_rfl
def M44 : MC :=
  .seq (.reg [⟨(some 2), .box 51 (.tmp 0), none⟩,
     ⟨(some 3), .mv (.const (.bool false)), none⟩])
  (.seq (.reg [⟨(some 4), .ldn 3 (.tmp 2), none⟩,
      ⟨(some 5), .call 45 [(.tmp 4)], none⟩,
      ⟨(some 6), .un .not (.tmp 5), none⟩,
      ⟨(some 7), .mv (.tmp 6), none⟩,
      ⟨(some 8), .fa 0 (.tmp 2), (some (7, true))⟩,
      ⟨(some 9), .ld1 (.tmp 8), (some (7, true))⟩,
      ⟨(some 10), .call 46 [(.tmp 9)], (some (7, true))⟩,
      ⟨(some 11), .un .not (.tmp 10), (some (7, true))⟩,
      ⟨(some 12), .mv (.tmp 11), (some (7, true))⟩,
      ⟨(some 13), .fa 1 (.tmp 2), (some (12, false))⟩,
      ⟨(some 14), .ld1 (.tmp 13), (some (12, false))⟩,
      ⟨(some 15), .call 46 [(.tmp 14)], (some (12, false))⟩,
      ⟨(some 16), .un .not (.tmp 15), (some (12, false))⟩,
      ⟨(some 17), .pick (.tmp 12) (.const (.bool true)) (.tmp 16), (some (7, true))⟩,
      ⟨(some 18), .mv (.tmp 17), (some (7, true))⟩,
      ⟨(some 19), .fa 2 (.tmp 2), (some (18, false))⟩,
      ⟨(some 20), .ld1 (.tmp 19), (some (18, false))⟩,
      ⟨(some 21), .len (.tmp 20), (some (18, false))⟩,
      ⟨(some 22), .fa 0 (.tmp 2), (some (18, false))⟩,
      ⟨(some 23), .ld1 (.tmp 22), (some (18, false))⟩,
      ⟨(some 24), .fa 1 (.tmp 2), (some (18, false))⟩,
      ⟨(some 25), .ld1 (.tmp 24), (some (18, false))⟩,
      ⟨(some 26), .bin .mul (.tmp 23) (.tmp 25), (some (18, false))⟩,
      ⟨(some 27), .ld1 (.tmp 1), (some (18, false))⟩,
      ⟨(some 28), .bin .mul (.tmp 26) (.tmp 27), (some (18, false))⟩,
      ⟨(some 29), .bin .neq (.tmp 21) (.tmp 28), (some (18, false))⟩,
      ⟨(some 30), .pick (.tmp 18) (.const (.bool true)) (.tmp 29), (some (7, true))⟩,
      ⟨(some 31), .pick (.tmp 7) (.tmp 30) (.const (.bool false)), none⟩,
      ⟨(some 3), .mv (.tmp 31), none⟩])
   (.ret))
theorem k44 : fnOk Try.prog 44 = some (M44, [.t 3], 32) := by kernel_rfl
def M46 : MC :=
  .seq (.reg [⟨(some 2), .mv (.const (.bool false)), none⟩])
  (.seq (.reg [⟨(some 3), .mv (.tmp 0), none⟩,
      ⟨(some 4), .bin .gtr (.tmp 3) (.const (.int .i64 0)), none⟩,
      ⟨(some 5), .mv (.tmp 4), none⟩,
      ⟨(some 6), .mv (.tmp 0), (some (5, true))⟩,
      ⟨(some 7), .bin .leq (.tmp 6) (.const (.int .i64 64)), (some (5, true))⟩,
      ⟨(some 8), .pick (.tmp 5) (.tmp 7) (.const (.bool false)), none⟩,
      ⟨(some 2), .mv (.tmp 8), none⟩])
   (.ret))
theorem k46 : fnOk Try.prog 46 = some (M46, [.t 2], 9) := by kernel_rfl
def M25 : MC :=
  .seq (.reg [⟨(some 0), .alloc 29 [(.int .i64 0), (.slice none 0 0), (.int .i64 0), (.int .i64 0), (.int .i64 0), (.int .i64 0)], none⟩])
  (.seq (.reg [⟨(some 1), .bslice 5 2 [(.int .u8 0), (.int .u8 0)] [(0, 1, (.const (.int .u8 0))), (1, 1, (.const (.int .u8 255)))], none⟩,
      ⟨(some 2), .build [(.int .i64 0), (.int .i64 0), (.slice none 0 0)] [(0, 1, (.const (.int .i64 2))), (1, 1, (.const (.int .i64 1))), (2, 1, (.tmp 1))], none⟩,
      ⟨(some 3), .bslice 51 1 [(.int .i64 0), (.int .i64 0), (.slice none 0 0)] [(0, 3, (.tmp 2))], none⟩,
      ⟨(some 4), .build [(.int .i64 0), (.slice none 0 0), (.int .i64 0), (.int .i64 0), (.int .i64 0), (.int .i64 0)] [(0, 1, (.const (.int .i64 5))), (1, 1, (.tmp 3)), (2, 1, (.const (.int .i64 2))), (3, 1, (.const (.int .i64 2))), (4, 1, (.const (.int .i64 1))), (5, 1, (.const (.int .i64 1)))], none⟩,
      ⟨none, .stn 6 (.tmp 0) (.tmp 4), none⟩])
   (.ret))
theorem k25 : fnOk Try.prog 25 = some (M25, [.cn 6 0], 5) := by kernel_rfl
def M14 : MC :=
  .seq (.reg [⟨(some 4), .box 29 (.tmp 0), none⟩,
     ⟨(some 8), .alloc 34 [(.int .i32 0), (.int .i32 0), (.int .i32 0), (.int .i32 0)], none⟩,
     ⟨(some 9), .mv (.const (.int .i64 0)), none⟩])
  (.seq (.seq (.reg [⟨(some 13), .ldn 6 (.tmp 4), none⟩,
       ⟨(some 14), .call 28 [(.tmp 13)], none⟩,
       ⟨(some 10), .mv (.tmp 14), none⟩])
    (.seq (.reg [⟨(some 15), .mv (.tmp 10), none⟩,
        ⟨(some 16), .bin .neq (.tmp 15) (.const (.int .i64 0)), none⟩])
     (.cond (.tmp 16)
      (.seq (.reg [⟨(some 17), .build [(.int .i32 0), (.int .i32 0), (.int .i32 0), (.int .i32 0)] [], none⟩,
          ⟨(some 18), .mv (.tmp 10), none⟩,
          ⟨none, .stn 4 (.tmp 8) (.tmp 17), none⟩,
          ⟨(some 9), .mv (.tmp 18), none⟩])
       (.ret))
      (.skip))))
   (.seq (.seq (.reg [⟨(some 19), .ldn 6 (.tmp 4), none⟩,
        ⟨(some 20), .call 29 [(.tmp 19)], none⟩,
        ⟨(some 21), .un .not (.tmp 20), none⟩])
     (.cond (.tmp 21)
      (.seq (.reg [⟨(some 22), .build [(.int .i32 0), (.int .i32 0), (.int .i32 0), (.int .i32 0)] [(0, 1, (.const (.int .i32 0))), (1, 1, (.const (.int .i32 0))), (2, 1, (.const (.int .i32 0))), (3, 1, (.const (.int .i32 65536)))], none⟩,
          ⟨none, .stn 4 (.tmp 8) (.tmp 22), none⟩,
          ⟨(some 9), .mv (.const (.int .i64 0)), none⟩])
       (.ret))
      (.skip)))
    (.seq (.reg [⟨(some 23), .fa 5 (.tmp 4), none⟩,
        ⟨(some 24), .ld1 (.tmp 23), none⟩,
        ⟨(some 11), .mv (.tmp 24), none⟩,
        ⟨(some 12), .mv (.const (.int .i64 0)), none⟩])
     (.seq (.seq (.reg [⟨(some 25), .mv (.tmp 3), none⟩,
          ⟨(some 26), .bin .gtr (.tmp 25) (.const (.int .i32 0)), none⟩])
       (.cond (.tmp 26)
        (.seq (.reg [⟨(some 27), .fa 4 (.tmp 4), none⟩,
            ⟨(some 28), .ld1 (.tmp 27), none⟩,
            ⟨(some 11), .mv (.tmp 28), none⟩])
         (.seq (.reg [⟨(some 29), .mv (.tmp 11), none⟩,
             ⟨(some 30), .bin .eql (.tmp 29) (.const (.int .i64 3)), none⟩,
             ⟨(some 31), .mv (.tmp 30), none⟩,
             ⟨(some 32), .mv (.tmp 11), (some (31, false))⟩,
             ⟨(some 33), .bin .eql (.tmp 32) (.const (.int .i64 4)), (some (31, false))⟩,
             ⟨(some 34), .pick (.tmp 31) (.const (.bool true)) (.tmp 33), none⟩])
          (.cond (.tmp 34)
           (.any [(true, 0, [], ⟨(some 35), .mv (.tmp 3), none⟩),
              (true, 1, [], ⟨(some 36), .conv .i64 (.tmp 35), none⟩),
              (true, 2, [], ⟨(some 37), .bin .add (.tmp 36) (.const (.int .i64 32768)), none⟩),
              (true, 3, [], ⟨(some 38), .bin .shr (.tmp 37) (.const (.int .u64 16)), none⟩),
              (true, 4, [], ⟨(some 39), .fa 1 (.tmp 4), none⟩),
              (true, 5, [], ⟨(some 40), .ld1 (.tmp 39), none⟩),
              (true, 6, [], ⟨(some 41), .is 3 (.tmp 40) (.const (.int .i64 0)), none⟩),
              (true, 7, [], ⟨(some 42), .fa 0 (.tmp 41), none⟩),
              (true, 8, [], ⟨(some 43), .ld1 (.tmp 42), none⟩),
              (false, 9, [0, 1, 2, 3, 4, 5, 6, 7, 8], ⟨(some 44), .fa 1 (.tmp 4), none⟩),
              (false, 10, [0, 1, 2, 3, 4, 5, 6, 7, 8], ⟨(some 45), .ld1 (.tmp 44), none⟩),
              (false, 11, [0, 1, 2, 3, 4, 5, 6, 7, 8], ⟨(some 46), .is 3 (.tmp 45) (.const (.int .i64 0)), none⟩),
              (false, 12, [0, 1, 2, 3, 4, 5, 6, 7, 8], ⟨(some 47), .fa 1 (.tmp 46), none⟩),
              (false, 13, [0, 1, 2, 3, 4, 5, 6, 7, 8], ⟨(some 48), .ld1 (.tmp 47), none⟩),
              (false, 14, [0, 1, 2, 3], ⟨(some 49), .call 30 [(.tmp 43), (.tmp 48)], none⟩),
              (false, 15, [0, 1, 2, 3], ⟨(some 50), .bin .sub (.tmp 49) (.const (.int .i64 1)), none⟩),
              (false, 16, [], ⟨(some 51), .mn (.tmp 38) (.tmp 50), none⟩),
              (false, 17, [], ⟨(some 12), .mv (.tmp 51), none⟩)])
           (.skip))))
        (.skip)))
      (.seq (.seq (.reg [⟨(some 52), .mv (.tmp 11), none⟩,
           ⟨(some 53), .bin .eql (.tmp 52) (.const (.int .i64 1)), none⟩,
           ⟨(some 54), .mv (.tmp 53), none⟩,
           ⟨(some 55), .mv (.tmp 11), (some (54, false))⟩,
           ⟨(some 56), .bin .eql (.tmp 55) (.const (.int .i64 3)), (some (54, false))⟩,
           ⟨(some 57), .pick (.tmp 54) (.const (.bool true)) (.tmp 56), none⟩])
        (.cond (.tmp 57)
         (.seq (.any [(true, 0, [], ⟨(some 58), .ldn 6 (.tmp 4), none⟩),
             (true, 1, [], ⟨(some 59), .fa 1 (.tmp 4), none⟩),
             (true, 2, [], ⟨(some 60), .ld1 (.tmp 59), none⟩),
             (true, 3, [], ⟨(some 61), .mv (.tmp 12), none⟩),
             (true, 4, [], ⟨(some 62), .is 3 (.tmp 60) (.tmp 61), none⟩),
             (true, 5, [], ⟨(some 63), .ldn 3 (.tmp 62), none⟩),
             (true, 6, [], ⟨(some 64), .mv (.tmp 1), none⟩),
             (false, 7, [0, 1, 2, 3, 4, 5, 6], ⟨(some 65), .mv (.tmp 2), none⟩),
             (false, 8, [], ⟨(some 66), .call 31 [(.tmp 58), (.tmp 63), (.tmp 64), (.tmp 65)], none⟩),
             (false, 9, [], ⟨none, .stn 4 (.tmp 8) (.tmp 66), none⟩),
             (false, 10, [], ⟨(some 9), .mv (.const (.int .i64 0)), none⟩)])
          (.ret))
         (.skip)))
       (.seq (.any [(true, 0, [], ⟨(some 67), .ldn 6 (.tmp 4), none⟩),
           (true, 1, [], ⟨(some 68), .fa 1 (.tmp 4), none⟩),
           (true, 2, [], ⟨(some 69), .ld1 (.tmp 68), none⟩),
           (true, 3, [], ⟨(some 70), .mv (.tmp 12), none⟩),
           (true, 4, [], ⟨(some 71), .is 3 (.tmp 69) (.tmp 70), none⟩),
           (true, 5, [], ⟨(some 72), .ldn 3 (.tmp 71), none⟩),
           (true, 6, [], ⟨(some 73), .mv (.tmp 1), none⟩),
           (false, 7, [0, 1, 2, 3, 4, 5, 6], ⟨(some 74), .mv (.tmp 2), none⟩),
           (false, 8, [], ⟨(some 75), .call 32 [(.tmp 67), (.tmp 72), (.tmp 73), (.tmp 74)], none⟩),
           (false, 9, [], ⟨none, .stn 4 (.tmp 8) (.tmp 75), none⟩),
           (false, 10, [], ⟨(some 9), .mv (.const (.int .i64 0)), none⟩)])
        (.ret)))))))
theorem k14 : fnOk Try.prog 14 = some (M14, [.cn 4 8, .t 9], 76) := by kernel_rfl
def M31 : MC :=
  .seq (.reg [⟨(some 4), .box 29 (.tmp 0), none⟩,
     ⟨(some 5), .box 51 (.tmp 1), none⟩,
     ⟨(some 8), .alloc 34 [(.int .i32 0), (.int .i32 0), (.int .i32 0), (.int .i32 0)], none⟩])
  (.seq (.reg [⟨(some 9), .ldn 6 (.tmp 4), none⟩,
      ⟨(some 10), .ldn 3 (.tmp 5), none⟩,
      ⟨(some 11), .fa 0 (.tmp 5), none⟩,
      ⟨(some 12), .ld1 (.tmp 11), none⟩,
      ⟨(some 13), .mv (.tmp 2), none⟩,
      ⟨(some 14), .conv .i64 (.tmp 13), none⟩,
      ⟨(some 15), .bin .mul (.tmp 12) (.tmp 14), none⟩,
      ⟨(some 16), .bin .shr (.tmp 15) (.const (.int .u64 16)), none⟩,
      ⟨(some 17), .fa 1 (.tmp 5), none⟩,
      ⟨(some 18), .ld1 (.tmp 17), none⟩,
      ⟨(some 19), .mv (.tmp 3), none⟩,
      ⟨(some 20), .conv .i64 (.tmp 19), none⟩,
      ⟨(some 21), .bin .mul (.tmp 18) (.tmp 20), none⟩,
      ⟨(some 22), .bin .shr (.tmp 21) (.const (.int .u64 16)), none⟩,
      ⟨(some 23), .call 40 [(.tmp 9), (.tmp 10), (.tmp 16), (.tmp 22)], none⟩,
      ⟨none, .stn 4 (.tmp 8) (.tmp 23), none⟩])
   (.ret))
theorem k31 : fnOk Try.prog 31 = some (M31, [.cn 4 8], 24) := by kernel_rfl
def M30 : MC :=
  .seq (.reg [⟨(some 4), .mv (.const (.int .i64 0)), none⟩])
  (.seq (.seq (.reg [⟨(some 7), .mv (.tmp 0), none⟩,
       ⟨(some 8), .call 46 [(.tmp 7)], none⟩,
       ⟨(some 9), .un .not (.tmp 8), none⟩,
       ⟨(some 10), .mv (.tmp 9), none⟩,
       ⟨(some 11), .mv (.tmp 1), (some (10, false))⟩,
       ⟨(some 12), .call 46 [(.tmp 11)], (some (10, false))⟩,
       ⟨(some 13), .un .not (.tmp 12), (some (10, false))⟩,
       ⟨(some 14), .pick (.tmp 10) (.const (.bool true)) (.tmp 13), none⟩])
    (.cond (.tmp 14)
     (.seq (.reg [⟨(some 4), .mv (.const (.int .i64 0)), none⟩])
      (.ret))
     (.skip)))
   (.seq (.reg [⟨(some 5), .mv (.const (.int .i64 1)), none⟩])
    (.seq (.seq (.reg [⟨(some 15), .mv (.tmp 0), none⟩,
         ⟨(some 16), .mv (.tmp 1), none⟩,
         ⟨(some 17), .mx (.tmp 15) (.tmp 16), none⟩,
         ⟨(some 6), .mv (.tmp 17), none⟩])
      (.block 0 (.loop (.seq (.seq (.reg [⟨(some 18), .mv (.tmp 6), none⟩,
             ⟨(some 19), .bin .gtr (.tmp 18) (.const (.int .i64 1)), none⟩])
          (.cond (.tmp 19)
           (.skip)
           (.exit 0)))
         (.seq (.block 1 (.reg [⟨(some 22), .mv (.tmp 5), none⟩,
              ⟨(some 23), .bin .add (.tmp 22) (.const (.int .i64 1)), none⟩,
              ⟨(some 5), .mv (.tmp 23), none⟩]))
          (.reg [⟨(some 20), .mv (.tmp 6), none⟩,
             ⟨(some 21), .bin .shr (.tmp 20) (.const (.int .u64 1)), none⟩,
             ⟨(some 6), .mv (.tmp 21), none⟩]))))))
     (.seq (.reg [⟨(some 24), .mv (.tmp 5), none⟩,
         ⟨(some 4), .mv (.tmp 24), none⟩])
      (.ret)))))
theorem k30 : fnOk Try.prog 30 = some (M30, [.t 4], 25) := by kernel_rfl
def M29 : MC :=
  .seq (.reg [⟨(some 1), .box 29 (.tmp 0), none⟩,
     ⟨(some 2), .mv (.const (.bool false)), none⟩])
  (.seq (.seq (.reg [⟨(some 9), .ldn 6 (.tmp 1), none⟩,
       ⟨(some 10), .call 28 [(.tmp 9)], none⟩,
       ⟨(some 11), .bin .neq (.tmp 10) (.const (.int .i64 0)), none⟩,
       ⟨(some 12), .mv (.tmp 11), none⟩,
       ⟨(some 13), .fa 1 (.tmp 1), (some (12, false))⟩,
       ⟨(some 14), .ld1 (.tmp 13), (some (12, false))⟩,
       ⟨(some 15), .len (.tmp 14), (some (12, false))⟩,
       ⟨(some 16), .bin .eql (.tmp 15) (.const (.int .i64 0)), (some (12, false))⟩,
       ⟨(some 17), .pick (.tmp 12) (.const (.bool true)) (.tmp 16), none⟩,
       ⟨(some 18), .mv (.tmp 17), none⟩,
       ⟨(some 19), .fa 1 (.tmp 1), (some (18, false))⟩,
       ⟨(some 20), .ld1 (.tmp 19), (some (18, false))⟩,
       ⟨(some 21), .is 3 (.tmp 20) (.const (.int .i64 0)), (some (18, false))⟩,
       ⟨(some 22), .ldn 3 (.tmp 21), (some (18, false))⟩,
       ⟨(some 23), .call 45 [(.tmp 22)], (some (18, false))⟩,
       ⟨(some 24), .pick (.tmp 18) (.const (.bool true)) (.tmp 23), none⟩])
    (.cond (.tmp 24)
     (.seq (.reg [⟨(some 2), .mv (.const (.bool false)), none⟩])
      (.ret))
     (.skip)))
   (.seq (.any [(true, 0, [], ⟨(some 25), .fa 1 (.tmp 1), none⟩),
       (true, 1, [], ⟨(some 26), .ld1 (.tmp 25), none⟩),
       (true, 2, [], ⟨(some 27), .is 3 (.tmp 26) (.const (.int .i64 0)), none⟩),
       (true, 3, [], ⟨(some 28), .fa 0 (.tmp 27), none⟩),
       (true, 4, [], ⟨(some 29), .ld1 (.tmp 28), none⟩),
       (true, 5, [], ⟨(some 30), .fa 1 (.tmp 1), none⟩),
       (true, 6, [], ⟨(some 31), .ld1 (.tmp 30), none⟩),
       (true, 7, [], ⟨(some 32), .is 3 (.tmp 31) (.const (.int .i64 0)), none⟩),
       (true, 8, [], ⟨(some 33), .fa 1 (.tmp 32), none⟩),
       (true, 9, [], ⟨(some 34), .ld1 (.tmp 33), none⟩),
       (false, 10, [5, 6, 7, 8, 9], ⟨(some 3), .mv (.tmp 29), none⟩),
       (false, 11, [], ⟨(some 4), .mv (.tmp 34), none⟩)])
    (.seq (.reg [⟨(some 35), .fa 4 (.tmp 1), none⟩,
        ⟨(some 36), .ld1 (.tmp 35), none⟩,
        ⟨(some 37), .bin .eql (.tmp 36) (.const (.int .i64 3)), none⟩,
        ⟨(some 38), .mv (.tmp 37), none⟩,
        ⟨(some 39), .fa 4 (.tmp 1), (some (38, false))⟩,
        ⟨(some 40), .ld1 (.tmp 39), (some (38, false))⟩,
        ⟨(some 41), .bin .eql (.tmp 40) (.const (.int .i64 4)), (some (38, false))⟩,
        ⟨(some 42), .pick (.tmp 38) (.const (.bool true)) (.tmp 41), none⟩,
        ⟨(some 5), .mv (.tmp 42), none⟩])
     (.seq (.seq (.reg [⟨(some 43), .mv (.tmp 3), none⟩,
          ⟨(some 44), .call 49 [(.tmp 43)], none⟩,
          ⟨(some 45), .un .not (.tmp 44), none⟩,
          ⟨(some 46), .mv (.tmp 45), none⟩,
          ⟨(some 47), .mv (.tmp 4), (some (46, false))⟩,
          ⟨(some 48), .call 49 [(.tmp 47)], (some (46, false))⟩,
          ⟨(some 49), .un .not (.tmp 48), (some (46, false))⟩,
          ⟨(some 50), .pick (.tmp 46) (.const (.bool true)) (.tmp 49), none⟩])
       (.cond (.tmp 50)
        (.seq (.reg [⟨(some 51), .fa 2 (.tmp 1), none⟩,
            ⟨(some 52), .ld1 (.tmp 51), none⟩,
            ⟨(some 53), .bin .eql (.tmp 52) (.const (.int .i64 2)), none⟩,
            ⟨(some 54), .mv (.tmp 53), none⟩,
            ⟨(some 55), .fa 3 (.tmp 1), (some (54, true))⟩,
            ⟨(some 56), .ld1 (.tmp 55), (some (54, true))⟩,
            ⟨(some 57), .bin .eql (.tmp 56) (.const (.int .i64 2)), (some (54, true))⟩,
            ⟨(some 58), .pick (.tmp 54) (.tmp 57) (.const (.bool false)), none⟩,
            ⟨(some 59), .mv (.tmp 58), none⟩,
            ⟨(some 60), .mv (.tmp 5), (some (59, true))⟩,
            ⟨(some 61), .un .not (.tmp 60), (some (59, true))⟩,
            ⟨(some 62), .pick (.tmp 59) (.tmp 61) (.const (.bool false)), none⟩,
            ⟨(some 2), .mv (.tmp 62), none⟩])
         (.ret))
        (.skip)))
      (.seq (.seq (.reg [⟨(some 63), .mv (.tmp 5), none⟩,
           ⟨(some 64), .un .not (.tmp 63), none⟩])
        (.cond (.tmp 64)
         (.seq (.reg [⟨(some 2), .mv (.const (.bool true)), none⟩])
          (.ret))
         (.skip)))
       (.seq (.reg [⟨(some 65), .mv (.tmp 3), none⟩,
           ⟨(some 66), .mv (.tmp 4), none⟩,
           ⟨(some 67), .call 30 [(.tmp 65), (.tmp 66)], none⟩,
           ⟨(some 6), .mv (.tmp 67), none⟩])
        (.seq (.seq (.reg [⟨(some 68), .fa 1 (.tmp 1), none⟩,
             ⟨(some 69), .ld1 (.tmp 68), none⟩,
             ⟨(some 70), .len (.tmp 69), none⟩,
             ⟨(some 71), .mv (.tmp 6), none⟩,
             ⟨(some 72), .bin .lss (.tmp 70) (.tmp 71), none⟩])
          (.cond (.tmp 72)
           (.seq (.reg [⟨(some 2), .mv (.const (.bool false)), none⟩])
            (.ret))
           (.skip)))
         (.seq (.seq (.reg [⟨(some 73), .fa 1 (.tmp 1), none⟩,
              ⟨(some 74), .ld1 (.tmp 73), none⟩,
              ⟨(some 75), .mv (.tmp 6), none⟩,
              ⟨(some 76), .slc 3 (.tmp 74) none (some (.tmp 75)), none⟩,
              ⟨(some 77), .len (.tmp 76), none⟩,
              ⟨(some 78), .mv (.const (.int .i64 0)), none⟩])
           (.block 0 (.loop (.seq (.reg [⟨(some 79), .bin .lss (.tmp 78) (.tmp 77), none⟩])
              (.seq (.cond (.tmp 79)
                (.skip)
                (.exit 0))
               (.seq (.block 1 (.seq (.reg [⟨(some 80), .mv (.tmp 78), none⟩,
                     ⟨(some 81), .is 3 (.tmp 76) (.tmp 78), none⟩,
                     ⟨(some 82), .ldn 3 (.tmp 81), none⟩,
                     ⟨(some 8), .alloc 51 [(.int .i64 0), (.int .i64 0), (.slice none 0 0)], none⟩,
                     ⟨(some 7), .mv (.tmp 80), none⟩,
                     ⟨none, .stn 3 (.tmp 8) (.tmp 82), none⟩])
                  (.seq (.any [(true, 0, [], ⟨(some 83), .fa 0 (.tmp 8), none⟩),
                      (true, 1, [], ⟨(some 84), .ld1 (.tmp 83), none⟩),
                      (true, 2, [], ⟨(some 85), .mv (.tmp 3), none⟩),
                      (false, 3, [0, 1, 2, 8, 9, 10], ⟨(some 86), .mv (.tmp 7), none⟩),
                      (false, 4, [0, 1, 8, 9, 10], ⟨(some 87), .bin .shr (.tmp 85) (.tmp 86), none⟩),
                      (false, 5, [0, 1, 8, 9, 10], ⟨(some 88), .mx (.tmp 87) (.const (.int .i64 1)), none⟩),
                      (false, 6, [8, 9, 10], ⟨(some 89), .bin .neq (.tmp 84) (.tmp 88), none⟩),
                      (false, 7, [8, 9, 10], ⟨(some 90), .mv (.tmp 89), none⟩),
                      (true, 8, [], ⟨(some 91), .fa 1 (.tmp 8), (some (90, false))⟩),
                      (true, 9, [], ⟨(some 92), .ld1 (.tmp 91), (some (90, false))⟩),
                      (true, 10, [], ⟨(some 93), .mv (.tmp 4), (some (90, false))⟩),
                      (false, 11, [8, 9, 10], ⟨(some 94), .mv (.tmp 7), (some (90, false))⟩),
                      (false, 12, [8, 9], ⟨(some 95), .bin .shr (.tmp 93) (.tmp 94), (some (90, false))⟩),
                      (false, 13, [8, 9], ⟨(some 96), .mx (.tmp 95) (.const (.int .i64 1)), (some (90, false))⟩),
                      (false, 14, [], ⟨(some 97), .bin .neq (.tmp 92) (.tmp 96), (some (90, false))⟩),
                      (false, 15, [], ⟨(some 98), .pick (.tmp 90) (.const (.bool true)) (.tmp 97), none⟩)])
                   (.cond (.tmp 98)
                    (.seq (.reg [⟨(some 2), .mv (.const (.bool false)), none⟩])
                     (.ret))
                    (.skip)))))
                (.reg [⟨(some 99), .bin .add (.tmp 78) (.const (.int .i64 1)), none⟩,
                   ⟨(some 78), .mv (.tmp 99), none⟩])))))))
          (.seq (.reg [⟨(some 2), .mv (.const (.bool true)), none⟩])
           (.ret))))))))))
theorem k29 : fnOk Try.prog 29 = some (M29, [.t 2], 100) := by kernel_rfl
def M49 : MC :=
  .seq (.reg [⟨(some 2), .mv (.const (.bool false)), none⟩])
  (.seq (.reg [⟨(some 3), .mv (.tmp 0), none⟩,
      ⟨(some 4), .bin .gtr (.tmp 3) (.const (.int .i64 0)), none⟩,
      ⟨(some 5), .mv (.tmp 4), none⟩,
      ⟨(some 6), .mv (.tmp 0), (some (5, true))⟩,
      ⟨(some 7), .mv (.tmp 0), (some (5, true))⟩,
      ⟨(some 8), .bin .sub (.tmp 7) (.const (.int .i64 1)), (some (5, true))⟩,
      ⟨(some 9), .bin .and (.tmp 6) (.tmp 8), (some (5, true))⟩,
      ⟨(some 10), .bin .eql (.tmp 9) (.const (.int .i64 0)), (some (5, true))⟩,
      ⟨(some 11), .pick (.tmp 5) (.tmp 10) (.const (.bool false)), none⟩,
      ⟨(some 2), .mv (.tmp 11), none⟩])
   (.ret))
theorem k49 : fnOk Try.prog 49 = some (M49, [.t 2], 12) := by kernel_rfl
def tbl : List (FuncId × (MC × List RV × Nat)) := [(10, (M10, [.t 0], 35)), (11, (M11, [.t 6], 42)), (26, (M26, [.t 4], 12)), (22, (M22, [.cn 4 8, .t 9], 27)), (32, (M32, [.cn 4 8], 93)), (40, (M40, [.cn 4 8], 48)), (53, (M53, [.cn 4 4, .t 5], 79)), (61, (M61, [.t 2], 9)), (60, (M60, [.t 4], 18)), (58, (M58, [.cn 6 2, .t 3], 19)), (62, (M62, [.t 0], 45)), (43, (M43, [.t 2], 12)), (50, (M50, [.t 4, .t 5], 16)), (39, (M39, [.cn 3 4, .t 5], 37)), (28, (M28, [.t 2], 59)), (48, (M48, [.t 4], 21)), (47, (M47, [.t 4], 9)), (59, (M59, [.t 4], 19)), (45, (M45, [.t 2], 17)), (44, (M44, [.t 3], 32)), (46, (M46, [.t 2], 9)), (25, (M25, [.cn 6 0], 5)), (14, (M14, [.cn 4 8, .t 9], 76)), (31, (M31, [.cn 4 8], 24)), (30, (M30, [.t 4], 25)), (29, (M29, [.t 2], 100)), (49, (M49, [.t 2], 12))]
theorem tblOk : AllOk Try.prog tbl := ⟨k10, k11, k26, k22, k32, k40, k53, k61, k60, k58, k62, k43, k50, k39, k28, k48, k47, k59, k45, k44, k46, k25, k14, k31, k30, k29, k49, trivial⟩
theorem done : (exec (tblOf tbl) 100000 [.t 0] [.code M10] ([] ++ List.replicate (35 - List.length ([] : List Value)) undef) [] (fun u _ => eqS u (.bool true))) = true := by kernel_rfl
end Wakes
theorem x_Wakes {w0 : World} {H : Heap} {K : Value → Heap → Prop} (h : K (.bool true) H) : HCalls Try.prog w0 10 [] H K := hc_exec Wakes.k10 (tblOf_ok Wakes.tblOk) [] rfl 100000 rfl Wakes.done h

end Go.Proofs.Ytfokghepfcfbjaa
