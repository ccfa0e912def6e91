/- The trial of layer 18, reckoned. -/
import Derived.Test.YtdmnfaefakceiaaGreatHlw
import Derived.Test.YtdmnfaefakceiaaGreatProg
set_option linter.unusedSimpArgs false
set_option linter.unusedVariables false
set_option maxRecDepth 100000
namespace Go.Proofs.YtdmnfaefakceiaaGreat
open Go.HL
namespace Wakes
def M10 : MC :=
  .seq (.reg [⟨(some 0), .mv (.const (.bool false)), none⟩])
  (.seq (.reg [⟨(some 6), .build [(.int .i32 0), (.int .i32 0), (.int .i32 0), (.int .i32 0)] [(0, 1, (.const (.int .i32 1))), (1, 1, (.const (.int .i32 2))), (2, 1, (.const (.int .i32 3))), (3, 1, (.const (.int .i32 4)))], none⟩,
      ⟨(some 7), .build [(.int .i64 0), (.int .i64 0), (.int .i64 0), (.int .i64 0), (.int .i64 0), (.int .i64 0), (.int .i64 0), (.int .i64 0), (.int .i32 0), (.int .i32 0), (.int .i32 0), (.int .i32 0), (.int .i64 0), (.int .i64 0), (.int .i64 0), (.int .i64 0)] [(0, 1, (.const (.int .i64 1))), (8, 4, (.tmp 6))], none⟩,
      ⟨(some 8), .build [(.int .i64 0), (.int .i64 0), (.int .i64 0), (.int .i64 0)] [(0, 1, (.const (.int .i64 3))), (1, 1, (.const (.int .i64 2))), (2, 1, (.const (.int .i64 1))), (3, 1, (.const (.int .i64 0)))], none⟩,
      ⟨(some 9), .build [(.int .i64 0), (.int .i64 0), (.int .i64 0), (.int .i64 0), (.int .i64 0), (.int .i64 0), (.int .i64 0), (.int .i64 0), (.int .i32 0), (.int .i32 0), (.int .i32 0), (.int .i32 0), (.int .i64 0), (.int .i64 0), (.int .i64 0), (.int .i64 0)] [(0, 1, (.const (.int .i64 6))), (4, 1, (.const (.int .i64 1))), (3, 1, (.const (.int .i64 4))), (12, 4, (.tmp 8))], none⟩,
      ⟨(some 10), .build [(.int .i64 0), (.int .i64 0), (.int .i64 0), (.int .i64 0), (.int .i64 0), (.int .i64 0), (.int .i64 0), (.int .i64 0), (.int .i32 0), (.int .i32 0), (.int .i32 0), (.int .i32 0), (.int .i64 0), (.int .i64 0), (.int .i64 0), (.int .i64 0)] [(0, 1, (.const (.int .i64 4))), (1, 1, (.const (.int .i64 4))), (6, 1, (.const (.int .i64 1)))], none⟩,
      ⟨(some 11), .bslice 46 3 [(.int .i64 0), (.int .i64 0), (.int .i64 0), (.int .i64 0), (.int .i64 0), (.int .i64 0), (.int .i64 0), (.int .i64 0), (.int .i32 0), (.int .i32 0), (.int .i32 0), (.int .i32 0), (.int .i64 0), (.int .i64 0), (.int .i64 0), (.int .i64 0), (.int .i64 0), (.int .i64 0), (.int .i64 0), (.int .i64 0), (.int .i64 0), (.int .i64 0), (.int .i64 0), (.int .i64 0), (.int .i32 0), (.int .i32 0), (.int .i32 0), (.int .i32 0), (.int .i64 0), (.int .i64 0), (.int .i64 0), (.int .i64 0), (.int .i64 0), (.int .i64 0), (.int .i64 0), (.int .i64 0), (.int .i64 0), (.int .i64 0), (.int .i64 0), (.int .i64 0), (.int .i32 0), (.int .i32 0), (.int .i32 0), (.int .i32 0), (.int .i64 0), (.int .i64 0), (.int .i64 0), (.int .i64 0)] [(0, 16, (.tmp 7)), (16, 16, (.tmp 9)), (32, 16, (.tmp 10))], none⟩,
      ⟨(some 12), .build [(.int .i64 0), (.slice none 0 0), (.int .i64 0), (.int .i64 0), (.int .i64 0), (.int .i64 0)] [(0, 1, (.const (.int .i64 2))), (2, 1, (.const (.int .i64 2))), (1, 1, (.tmp 11))], none⟩,
      ⟨(some 1), .alloc 24 [(.int .i64 0), (.slice none 0 0), (.int .i64 0), (.int .i64 0), (.int .i64 0), (.int .i64 0)], none⟩,
      ⟨none, .stn 6 (.tmp 1) (.tmp 12), none⟩])
   (.seq (.reg [⟨(some 14), .ldn 6 (.tmp 1), none⟩,
       ⟨(some 15), .build [(.slice none 0 0), (.slice none 0 0), (.slice none 0 0), (.int .i32 0), (.int .i32 0), (.int .i32 0), (.int .i32 0), (.bool false), (.int .i32 0), (.int .i32 0), (.int .i32 0), (.int .i32 0), (.slice none 0 0)] [], none⟩,
       ⟨(some 16), .call 13 [(.tmp 14), (.tmp 15)], none⟩,
       ⟨(some 13), .mv (.tmp 16), none⟩,
       ⟨(some 17), .ext 0 (.tmp 13), none⟩,
       ⟨(some 18), .ext 1 (.tmp 13), none⟩,
       ⟨(some 2), .alloc 36 [(.int .i32 0), (.int .i32 0), (.int .i32 0), (.int .i32 0), (.int .i32 0), (.slice none 0 0), (.int .i32 0), (.int .i32 0), (.int .i32 0), (.int .i32 0), (.bool false)], none⟩,
       ⟨none, .stn 11 (.tmp 2) (.tmp 17), none⟩,
       ⟨(some 3), .mv (.tmp 18), none⟩])
    (.seq (.reg [⟨(some 20), .build [(.int .i32 0), (.int .i32 0), (.int .i32 0), (.int .i32 0)] [(0, 1, (.const (.int .i32 7)))], none⟩,
        ⟨(some 21), .build [(.int .i32 0), (.int .i32 0), (.int .i32 0), (.int .i32 0)] [(0, 1, (.const (.int .i32 2)))], none⟩,
        ⟨(some 22), .build [(.int .i32 0), (.int .i32 0), (.int .i32 0), (.int .i32 0)] [], none⟩,
        ⟨(some 23), .call 28 [(.const (.int .i64 27)), (.const (.int .i64 2)), (.const (.int .i64 1)), (.tmp 20), (.tmp 21), (.tmp 22)], none⟩,
        ⟨(some 19), .mv (.tmp 23), none⟩,
        ⟨(some 24), .ext 0 (.tmp 19), none⟩,
        ⟨(some 25), .ext 1 (.tmp 19), none⟩,
        ⟨(some 4), .alloc 28 [(.int .i32 0), (.int .i32 0), (.int .i32 0), (.int .i32 0)], none⟩,
        ⟨none, .stn 4 (.tmp 4) (.tmp 24), none⟩,
        ⟨(some 5), .mv (.tmp 25), none⟩])
     (.seq (.reg [⟨(some 26), .mv (.tmp 3), none⟩,
         ⟨(some 27), .bin .eql (.tmp 26) (.const (.int .i64 0)), none⟩,
         ⟨(some 28), .mv (.tmp 27), none⟩,
         ⟨(some 29), .fa 6 (.tmp 2), (some (28, true))⟩,
         ⟨(some 30), .ldn 4 (.tmp 29), (some (28, true))⟩,
         ⟨(some 31), .build [(.int .i32 0), (.int .i32 0), (.int .i32 0), (.int .i32 0)] [(0, 1, (.const (.int .i32 4))), (1, 1, (.const (.int .i32 3))), (2, 1, (.const (.int .i32 2))), (3, 1, (.const (.int .i32 1)))], (some (28, true))⟩,
         ⟨(some 32), .eqa false 4 (.tmp 30) (.tmp 31), (some (28, true))⟩,
         ⟨(some 33), .pick (.tmp 28) (.tmp 32) (.const (.bool false)), none⟩,
         ⟨(some 34), .mv (.tmp 33), none⟩,
         ⟨(some 35), .mv (.tmp 5), (some (34, true))⟩,
         ⟨(some 36), .bin .eql (.tmp 35) (.const (.int .i64 0)), (some (34, true))⟩,
         ⟨(some 37), .pick (.tmp 34) (.tmp 36) (.const (.bool false)), none⟩,
         ⟨(some 38), .mv (.tmp 37), none⟩,
         ⟨(some 39), .ldn 4 (.tmp 4), (some (38, true))⟩,
         ⟨(some 40), .build [(.int .i32 0), (.int .i32 0), (.int .i32 0), (.int .i32 0)] [(0, 1, (.const (.int .i32 3)))], (some (38, true))⟩,
         ⟨(some 41), .eqa false 4 (.tmp 39) (.tmp 40), (some (38, true))⟩,
         ⟨(some 42), .pick (.tmp 38) (.tmp 41) (.const (.bool false)), none⟩,
         ⟨(some 0), .mv (.tmp 42), none⟩])
      (.ret)))))
theorem k10 : fnOk Tryz.prog 10 = some (M10, [.t 0], 43) := by kernel_rfl
def M28 : MC :=
  .seq (.reg [⟨(some 9), .box 28 (.tmp 3), none⟩,
     ⟨(some 10), .box 28 (.tmp 4), none⟩,
     ⟨(some 11), .box 28 (.tmp 5), none⟩,
     ⟨(some 12), .alloc 28 [(.int .i32 0), (.int .i32 0), (.int .i32 0), (.int .i32 0)], none⟩,
     ⟨(some 13), .mv (.const (.int .i64 0)), none⟩])
  (.seq (.seq (.reg [⟨(some 16), .mv (.tmp 0), none⟩,
       ⟨(some 17), .mv (.tmp 1), none⟩,
       ⟨(some 18), .call 43 [(.tmp 16), (.tmp 17)], none⟩,
       ⟨(some 19), .bin .eql (.tmp 18) (.const (.int .i64 0)), none⟩,
       ⟨(some 20), .mv (.tmp 19), none⟩,
       ⟨(some 21), .mv (.tmp 2), (some (20, false))⟩,
       ⟨(some 22), .bin .lss (.tmp 21) (.const (.int .i64 1)), (some (20, false))⟩,
       ⟨(some 23), .pick (.tmp 20) (.const (.bool true)) (.tmp 22), none⟩,
       ⟨(some 24), .mv (.tmp 23), none⟩,
       ⟨(some 25), .mv (.tmp 2), (some (24, false))⟩,
       ⟨(some 26), .bin .gtr (.tmp 25) (.const (.int .i64 4)), (some (24, false))⟩,
       ⟨(some 27), .pick (.tmp 24) (.const (.bool true)) (.tmp 26), none⟩])
    (.cond (.tmp 27)
     (.seq (.reg [⟨(some 28), .build [(.int .i32 0), (.int .i32 0), (.int .i32 0), (.int .i32 0)] [], none⟩,
         ⟨none, .stn 4 (.tmp 12) (.tmp 28), none⟩,
         ⟨(some 13), .mv (.const (.int .i64 2)), none⟩])
      (.ret))
     (.skip)))
   (.seq (.block 0 (.seq (.reg [⟨(some 30), .mv (.tmp 0), none⟩,
         ⟨(some 31), .bin .geq (.tmp 30) (.const (.int .i64 29)), none⟩,
         ⟨(some 32), .mv (.tmp 31), none⟩,
         ⟨(some 33), .mv (.tmp 0), (some (32, true))⟩,
         ⟨(some 34), .bin .leq (.tmp 33) (.const (.int .i64 35)), (some (32, true))⟩,
         ⟨(some 35), .pick (.tmp 32) (.tmp 34) (.const (.bool false)), none⟩,
         ⟨(some 29), .mv (.tmp 35), none⟩])
      (.cond (.tmp 29)
       (.seq (.reg [⟨(some 36), .mv (.tmp 0), none⟩,
           ⟨(some 37), .mv (.tmp 2), none⟩,
           ⟨(some 38), .ldn 4 (.tmp 9), none⟩,
           ⟨(some 39), .ldn 4 (.tmp 10), none⟩,
           ⟨(some 40), .call 44 [(.tmp 36), (.tmp 37), (.tmp 38), (.tmp 39)], none⟩,
           ⟨(some 41), .call 37 [(.tmp 40)], none⟩,
           ⟨(some 42), .build [(.int .i32 0), (.int .i32 0), (.int .i32 0), (.int .i32 0)] [(0, 1, (.tmp 41))], none⟩,
           ⟨none, .stn 4 (.tmp 12) (.tmp 42), none⟩,
           ⟨(some 13), .mv (.const (.int .i64 0)), none⟩])
        (.ret))
       (.seq (.reg [⟨(some 44), .mv (.tmp 1), none⟩,
           ⟨(some 45), .bin .eql (.tmp 44) (.const (.int .i64 2)), none⟩,
           ⟨(some 43), .mv (.tmp 45), none⟩])
        (.cond (.tmp 43)
         (.seq (.any [(true, 0, [], ⟨(some 46), .mv (.tmp 2), none⟩),
             (true, 1, [], ⟨(some 47), .ldn 4 (.tmp 9), none⟩),
             (true, 2, [], ⟨(some 48), .ldn 4 (.tmp 10), none⟩),
             (false, 3, [0, 1, 2], ⟨(some 49), .mv (.tmp 0), none⟩),
             (false, 4, [0, 1, 2], ⟨(some 50), .call 46 [(.tmp 49)], none⟩),
             (false, 5, [], ⟨(some 51), .call 45 [(.tmp 46), (.tmp 47), (.tmp 48), (.tmp 50)], none⟩),
             (false, 6, [], ⟨none, .stn 4 (.tmp 12) (.tmp 51), none⟩),
             (false, 7, [], ⟨(some 13), .mv (.const (.int .i64 0)), none⟩)])
          (.ret))
         (.seq (.reg [⟨(some 53), .mv (.tmp 0), none⟩,
             ⟨(some 54), .bin .geq (.tmp 53) (.const (.int .i64 24)), none⟩,
             ⟨(some 55), .mv (.tmp 54), none⟩,
             ⟨(some 56), .mv (.tmp 0), (some (55, true))⟩,
             ⟨(some 57), .bin .leq (.tmp 56) (.const (.int .i64 27)), (some (55, true))⟩,
             ⟨(some 58), .pick (.tmp 55) (.tmp 57) (.const (.bool false)), none⟩,
             ⟨(some 52), .mv (.tmp 58), none⟩])
          (.cond (.tmp 52)
           (.seq (.reg [⟨(some 60), .mv (.tmp 0), none⟩,
               ⟨(some 61), .bin .sub (.tmp 60) (.const (.int .i64 24)), none⟩,
               ⟨(some 62), .bin .add (.tmp 61) (.const (.int .i64 0)), none⟩,
               ⟨(some 63), .mv (.tmp 2), none⟩,
               ⟨(some 64), .ldn 4 (.tmp 9), none⟩,
               ⟨(some 65), .ldn 4 (.tmp 10), none⟩,
               ⟨(some 66), .call 47 [(.tmp 62), (.tmp 63), (.tmp 64), (.tmp 65)], none⟩,
               ⟨(some 59), .mv (.tmp 66), none⟩,
               ⟨(some 67), .ext 0 (.tmp 59), none⟩,
               ⟨(some 68), .ext 1 (.tmp 59), none⟩,
               ⟨(some 14), .alloc 28 [(.int .i32 0), (.int .i32 0), (.int .i32 0), (.int .i32 0)], none⟩,
               ⟨none, .stn 4 (.tmp 14) (.tmp 67), none⟩,
               ⟨(some 15), .mv (.tmp 68), none⟩])
            (.seq (.reg [⟨(some 69), .ldn 4 (.tmp 14), none⟩,
                ⟨(some 70), .mv (.tmp 15), none⟩,
                ⟨none, .stn 4 (.tmp 12) (.tmp 69), none⟩,
                ⟨(some 13), .mv (.tmp 70), none⟩])
             (.ret)))
           (.skip))))))))
    (.seq (.reg [⟨(some 71), .mv (.tmp 0), none⟩,
        ⟨(some 72), .mv (.tmp 2), none⟩,
        ⟨(some 73), .ldn 4 (.tmp 9), none⟩,
        ⟨(some 74), .ldn 4 (.tmp 10), none⟩,
        ⟨(some 75), .ldn 4 (.tmp 11), none⟩,
        ⟨(some 76), .call 48 [(.tmp 71), (.tmp 72), (.tmp 73), (.tmp 74), (.tmp 75)], none⟩,
        ⟨(some 77), .ext 0 (.tmp 76), none⟩,
        ⟨(some 78), .ext 1 (.tmp 76), none⟩,
        ⟨none, .stn 4 (.tmp 12) (.tmp 77), none⟩,
        ⟨(some 13), .mv (.tmp 78), none⟩])
     (.ret))))
theorem k28 : fnOk Tryz.prog 28 = some (M28, [.cn 4 12, .t 13], 79) := by kernel_rfl
def M45 : MC :=
  .seq (.reg [⟨(some 5), .box 28 (.tmp 1), none⟩,
     ⟨(some 6), .box 28 (.tmp 2), none⟩,
     ⟨(some 8), .alloc 28 [(.int .i32 0), (.int .i32 0), (.int .i32 0), (.int .i32 0)], none⟩])
  (.seq (.reg [⟨(some 9), .alloc 28 [(.int .i32 0), (.int .i32 0), (.int .i32 0), (.int .i32 0)], none⟩])
   (.seq (.seq (.reg [⟨(some 11), .mv (.tmp 0), none⟩,
        ⟨(some 12), .mv (.const (.int .i64 0)), none⟩])
     (.block 0 (.loop (.seq (.reg [⟨(some 13), .bin .lss (.tmp 12) (.tmp 11), none⟩])
        (.seq (.cond (.tmp 13)
          (.skip)
          (.exit 0))
         (.seq (.block 1 (.seq (.reg [⟨(some 14), .mv (.tmp 12), none⟩,
               ⟨(some 10), .mv (.tmp 14), none⟩])
            (.any [(true, 0, [], ⟨(some 15), .mv (.tmp 10), none⟩),
               (true, 1, [], ⟨(some 16), .mv (.tmp 3), none⟩),
               (true, 2, [], ⟨(some 17), .mv (.tmp 10), none⟩),
               (true, 3, [], ⟨(some 18), .ia 4 1 (.tmp 5) (.tmp 17), none⟩),
               (true, 4, [], ⟨(some 19), .ld1 (.tmp 18), none⟩),
               (false, 5, [0, 1, 2, 3, 4], ⟨(some 20), .mv (.tmp 10), none⟩),
               (false, 6, [0, 1, 2, 3, 4], ⟨(some 21), .ia 4 1 (.tmp 6) (.tmp 20), none⟩),
               (false, 7, [0, 1, 2, 3, 4], ⟨(some 22), .ld1 (.tmp 21), none⟩),
               (false, 8, [0], ⟨(some 23), .callv (.tmp 16) [(.tmp 19), (.tmp 22)], none⟩),
               (false, 9, [], ⟨(some 24), .ia 4 1 (.tmp 9) (.tmp 15), none⟩),
               (false, 10, [], ⟨none, .st1 (.tmp 24) (.tmp 23), none⟩)])))
          (.reg [⟨(some 25), .bin .add (.tmp 12) (.const (.int .i64 1)), none⟩,
             ⟨(some 12), .mv (.tmp 25), none⟩])))))))
    (.seq (.reg [⟨(some 26), .ldn 4 (.tmp 9), none⟩,
        ⟨none, .stn 4 (.tmp 8) (.tmp 26), none⟩])
     (.ret))))
theorem k45 : fnOk Tryz.prog 45 = some (M45, [.cn 4 8], 27) := by kernel_rfl
def M46 : MC :=
  .seq (.reg [⟨(some 2), .mv (.const .nilFunc), none⟩])
  (.seq (.seq (.reg [⟨(some 3), .mv (.tmp 0), none⟩])
    (.block 0 (.seq (.reg [⟨(some 5), .bin .eql (.tmp 3) (.const (.int .i64 24)), none⟩,
         ⟨(some 4), .mv (.tmp 5), none⟩])
      (.cond (.tmp 4)
       (.seq (.reg [⟨(some 2), .mv (.func 77), none⟩])
        (.ret))
       (.seq (.reg [⟨(some 7), .bin .eql (.tmp 3) (.const (.int .i64 25)), none⟩,
           ⟨(some 6), .mv (.tmp 7), none⟩])
        (.cond (.tmp 6)
         (.seq (.reg [⟨(some 2), .mv (.func 78), none⟩])
          (.ret))
         (.seq (.reg [⟨(some 9), .bin .eql (.tmp 3) (.const (.int .i64 26)), none⟩,
             ⟨(some 8), .mv (.tmp 9), none⟩])
          (.cond (.tmp 8)
           (.seq (.reg [⟨(some 2), .mv (.func 79), none⟩])
            (.ret))
           (.seq (.reg [⟨(some 11), .bin .eql (.tmp 3) (.const (.int .i64 27)), none⟩,
               ⟨(some 10), .mv (.tmp 11), none⟩])
            (.cond (.tmp 10)
             (.seq (.reg [⟨(some 2), .mv (.func 80), none⟩])
              (.ret))
             (.skip)))))))))))
   (.seq (.reg [⟨(some 2), .mv (.func 81), none⟩])
    (.ret)))
theorem k46 : fnOk Tryz.prog 46 = some (M46, [.t 2], 12) := by kernel_rfl
def M81 : MC :=
  .seq (.reg [⟨(some 4), .mv (.const (.int .i32 0)), none⟩])
  (.seq (.reg [⟨(some 5), .mv (.tmp 0), none⟩,
      ⟨(some 6), .un .neg (.tmp 5), none⟩,
      ⟨(some 4), .mv (.tmp 6), none⟩])
   (.ret))
theorem k81 : fnOk Tryz.prog 81 = some (M81, [.t 4], 7) := by kernel_rfl
def M80 : MC :=
  .seq (.reg [⟨(some 4), .mv (.const (.int .i32 0)), none⟩])
  (.seq (.seq (.reg [⟨(some 5), .mv (.tmp 1), none⟩,
       ⟨(some 6), .bin .eql (.tmp 5) (.const (.int .i32 0)), none⟩])
    (.cond (.tmp 6)
     (.seq (.reg [⟨(some 4), .mv (.const (.int .i32 0)), none⟩])
      (.ret))
     (.skip)))
   (.seq (.reg [⟨(some 7), .mv (.tmp 0), none⟩,
       ⟨(some 8), .conv .i64 (.tmp 7), none⟩,
       ⟨(some 9), .mv (.tmp 1), none⟩,
       ⟨(some 10), .conv .i64 (.tmp 9), none⟩,
       ⟨(some 11), .bin .quo (.tmp 8) (.tmp 10), none⟩,
       ⟨(some 12), .conv .i32 (.tmp 11), none⟩,
       ⟨(some 4), .mv (.tmp 12), none⟩])
    (.ret)))
theorem k80 : fnOk Tryz.prog 80 = some (M80, [.t 4], 13) := by kernel_rfl
def M79 : MC :=
  .seq (.reg [⟨(some 4), .mv (.const (.int .i32 0)), none⟩])
  (.seq (.reg [⟨(some 5), .mv (.tmp 0), none⟩,
      ⟨(some 6), .mv (.tmp 1), none⟩,
      ⟨(some 7), .bin .mul (.tmp 5) (.tmp 6), none⟩,
      ⟨(some 4), .mv (.tmp 7), none⟩])
   (.ret))
theorem k79 : fnOk Tryz.prog 79 = some (M79, [.t 4], 8) := by kernel_rfl
def M78 : MC :=
  .seq (.reg [⟨(some 4), .mv (.const (.int .i32 0)), none⟩])
  (.seq (.reg [⟨(some 5), .mv (.tmp 0), none⟩,
      ⟨(some 6), .mv (.tmp 1), none⟩,
      ⟨(some 7), .bin .sub (.tmp 5) (.tmp 6), none⟩,
      ⟨(some 4), .mv (.tmp 7), none⟩])
   (.ret))
theorem k78 : fnOk Tryz.prog 78 = some (M78, [.t 4], 8) := by kernel_rfl
def M77 : MC :=
  .seq (.reg [⟨(some 4), .mv (.const (.int .i32 0)), none⟩])
  (.seq (.reg [⟨(some 5), .mv (.tmp 0), none⟩,
      ⟨(some 6), .mv (.tmp 1), none⟩,
      ⟨(some 7), .bin .add (.tmp 5) (.tmp 6), none⟩,
      ⟨(some 4), .mv (.tmp 7), none⟩])
   (.ret))
theorem k77 : fnOk Tryz.prog 77 = some (M77, [.t 4], 8) := by kernel_rfl
def M37 : MC :=
  .seq (.reg [⟨(some 2), .mv (.const (.int .i32 0)), none⟩])
  (.seq (.seq (.reg [⟨(some 3), .mv (.tmp 0), none⟩])
    (.cond (.tmp 3)
     (.seq (.reg [⟨(some 2), .mv (.const (.int .i32 1)), none⟩])
      (.ret))
     (.skip)))
   (.seq (.reg [⟨(some 2), .mv (.const (.int .i32 0)), none⟩])
    (.ret)))
theorem k37 : fnOk Tryz.prog 37 = some (M37, [.t 2], 4) := by kernel_rfl
def M43 : MC :=
  .seq (.reg [⟨(some 4), .mv (.const (.int .i64 0)), none⟩])
  (.seq (.reg [⟨(some 5), .mv (.const (.int .i64 0)), none⟩,
      ⟨(some 6), .mv (.const (.int .i64 1)), none⟩])
   (.seq (.block 0 (.seq (.seq (.reg [⟨(some 8), .mv (.tmp 0), none⟩,
          ⟨(some 9), .bin .geq (.tmp 8) (.const (.int .i64 1)), none⟩,
          ⟨(some 10), .mv (.tmp 9), none⟩,
          ⟨(some 11), .mv (.tmp 0), (some (10, true))⟩,
          ⟨(some 12), .bin .leq (.tmp 11) (.const (.int .i64 11)), (some (10, true))⟩,
          ⟨(some 13), .pick (.tmp 10) (.tmp 12) (.const (.bool false)), none⟩,
          ⟨(some 7), .mv (.tmp 13), none⟩])
       (.cond (.tmp 7)
        (.skip)
        (.reg [⟨(some 14), .mv (.tmp 0), none⟩,
           ⟨(some 15), .bin .eql (.tmp 14) (.const (.int .i64 20)), none⟩,
           ⟨(some 7), .mv (.tmp 15), none⟩])))
      (.cond (.tmp 7)
       (.reg [⟨(some 5), .mv (.const (.int .i64 1)), none⟩])
       (.seq (.seq (.reg [⟨(some 17), .mv (.tmp 0), none⟩,
            ⟨(some 18), .bin .geq (.tmp 17) (.const (.int .i64 12)), none⟩,
            ⟨(some 19), .mv (.tmp 18), none⟩,
            ⟨(some 20), .mv (.tmp 0), (some (19, true))⟩,
            ⟨(some 21), .bin .leq (.tmp 20) (.const (.int .i64 16)), (some (19, true))⟩,
            ⟨(some 22), .pick (.tmp 19) (.tmp 21) (.const (.bool false)), none⟩,
            ⟨(some 16), .mv (.tmp 22), none⟩])
         (.cond (.tmp 16)
          (.skip)
          (.seq (.reg [⟨(some 23), .mv (.tmp 0), none⟩,
              ⟨(some 24), .bin .eql (.tmp 23) (.const (.int .i64 19)), none⟩,
              ⟨(some 16), .mv (.tmp 24), none⟩])
           (.cond (.tmp 16)
            (.skip)
            (.reg [⟨(some 25), .mv (.tmp 0), none⟩,
               ⟨(some 26), .bin .eql (.tmp 25) (.const (.int .i64 21)), none⟩,
               ⟨(some 16), .mv (.tmp 26), none⟩])))))
        (.cond (.tmp 16)
         (.reg [⟨(some 5), .mv (.const (.int .i64 2)), none⟩])
         (.seq (.seq (.reg [⟨(some 28), .mv (.tmp 0), none⟩,
              ⟨(some 29), .bin .eql (.tmp 28) (.const (.int .i64 17)), none⟩,
              ⟨(some 27), .mv (.tmp 29), none⟩])
           (.cond (.tmp 27)
            (.skip)
            (.reg [⟨(some 30), .mv (.tmp 0), none⟩,
               ⟨(some 31), .bin .eql (.tmp 30) (.const (.int .i64 18)), none⟩,
               ⟨(some 27), .mv (.tmp 31), none⟩])))
          (.cond (.tmp 27)
           (.reg [⟨(some 5), .mv (.const (.int .i64 3)), none⟩])
           (.seq (.reg [⟨(some 33), .mv (.tmp 0), none⟩,
               ⟨(some 34), .bin .eql (.tmp 33) (.const (.int .i64 28)), none⟩,
               ⟨(some 32), .mv (.tmp 34), none⟩])
            (.cond (.tmp 32)
             (.reg [⟨(some 5), .mv (.const (.int .i64 1)), none⟩,
                ⟨(some 6), .mv (.const (.int .i64 2)), none⟩])
             (.seq (.seq (.reg [⟨(some 36), .mv (.tmp 0), none⟩,
                  ⟨(some 37), .bin .geq (.tmp 36) (.const (.int .i64 24)), none⟩,
                  ⟨(some 38), .mv (.tmp 37), none⟩,
                  ⟨(some 39), .mv (.tmp 0), (some (38, true))⟩,
                  ⟨(some 40), .bin .leq (.tmp 39) (.const (.int .i64 27)), (some (38, true))⟩,
                  ⟨(some 41), .pick (.tmp 38) (.tmp 40) (.const (.bool false)), none⟩,
                  ⟨(some 35), .mv (.tmp 41), none⟩])
               (.cond (.tmp 35)
                (.skip)
                (.reg [⟨(some 42), .mv (.tmp 0), none⟩,
                   ⟨(some 43), .bin .geq (.tmp 42) (.const (.int .i64 29)), none⟩,
                   ⟨(some 44), .mv (.tmp 43), none⟩,
                   ⟨(some 45), .mv (.tmp 0), (some (44, true))⟩,
                   ⟨(some 46), .bin .leq (.tmp 45) (.const (.int .i64 32)), (some (44, true))⟩,
                   ⟨(some 47), .pick (.tmp 44) (.tmp 46) (.const (.bool false)), none⟩,
                   ⟨(some 35), .mv (.tmp 47), none⟩])))
              (.cond (.tmp 35)
               (.reg [⟨(some 5), .mv (.const (.int .i64 2)), none⟩,
                  ⟨(some 6), .mv (.const (.int .i64 2)), none⟩])
               (.seq (.seq (.reg [⟨(some 49), .mv (.tmp 0), none⟩,
                    ⟨(some 50), .bin .eql (.tmp 49) (.const (.int .i64 33)), none⟩,
                    ⟨(some 48), .mv (.tmp 50), none⟩])
                 (.cond (.tmp 48)
                  (.skip)
                  (.reg [⟨(some 51), .mv (.tmp 0), none⟩,
                     ⟨(some 52), .bin .eql (.tmp 51) (.const (.int .i64 34)), none⟩,
                     ⟨(some 48), .mv (.tmp 52), none⟩])))
                (.cond (.tmp 48)
                 (.reg [⟨(some 5), .mv (.const (.int .i64 2)), none⟩,
                    ⟨(some 6), .mv (.const (.int .i64 3)), none⟩])
                 (.seq (.reg [⟨(some 54), .mv (.tmp 0), none⟩,
                     ⟨(some 55), .bin .eql (.tmp 54) (.const (.int .i64 35)), none⟩,
                     ⟨(some 56), .mv (.tmp 55), none⟩,
                     ⟨(some 57), .mv (.tmp 1), (some (56, true))⟩,
                     ⟨(some 58), .bin .eql (.tmp 57) (.const (.int .i64 3)), (some (56, true))⟩,
                     ⟨(some 59), .pick (.tmp 56) (.tmp 58) (.const (.bool false)), none⟩,
                     ⟨(some 53), .mv (.tmp 59), none⟩])
                  (.cond (.tmp 53)
                   (.seq (.reg [⟨(some 4), .mv (.const (.int .i64 1)), none⟩])
                    (.ret))
                   (.skip))))))))))))))))
    (.seq (.seq (.reg [⟨(some 60), .mv (.tmp 1), none⟩,
         ⟨(some 61), .bin .lss (.tmp 60) (.const (.int .i64 1)), none⟩,
         ⟨(some 62), .mv (.tmp 61), none⟩,
         ⟨(some 63), .mv (.tmp 1), (some (62, false))⟩,
         ⟨(some 64), .mv (.tmp 6), (some (62, false))⟩,
         ⟨(some 65), .bin .gtr (.tmp 63) (.tmp 64), (some (62, false))⟩,
         ⟨(some 66), .pick (.tmp 62) (.const (.bool true)) (.tmp 65), none⟩])
      (.cond (.tmp 66)
       (.seq (.reg [⟨(some 4), .mv (.const (.int .i64 0)), none⟩])
        (.ret))
       (.skip)))
     (.seq (.reg [⟨(some 67), .mv (.tmp 5), none⟩,
         ⟨(some 4), .mv (.tmp 67), none⟩])
      (.ret)))))
theorem k43 : fnOk Tryz.prog 43 = some (M43, [.t 4], 68) := by kernel_rfl
def M13 : MC :=
  .seq (.reg [⟨(some 2), .box 24 (.tmp 0), none⟩,
     ⟨(some 3), .box 31 (.tmp 1), none⟩,
     ⟨(some 4), .alloc 36 [(.int .i32 0), (.int .i32 0), (.int .i32 0), (.int .i32 0), (.int .i32 0), (.slice none 0 0), (.int .i32 0), (.int .i32 0), (.int .i32 0), (.int .i32 0), (.bool false)], none⟩,
     ⟨(some 5), .mv (.const (.int .i64 0)), none⟩])
  (.seq (.reg [⟨(some 10), .ldn 6 (.tmp 2), none⟩,
      ⟨(some 11), .ldn 13 (.tmp 3), none⟩,
      ⟨(some 12), .call 29 [(.tmp 10), (.tmp 11)], none⟩,
      ⟨(some 9), .mv (.tmp 12), none⟩,
      ⟨(some 13), .ext 0 (.tmp 9), none⟩,
      ⟨(some 14), .ext 1 (.tmp 9), none⟩,
      ⟨(some 15), .ext 2 (.tmp 9), none⟩,
      ⟨(some 6), .mv (.tmp 13), none⟩,
      ⟨(some 7), .mv (.tmp 14), none⟩,
      ⟨(some 8), .mv (.tmp 15), none⟩])
   (.seq (.seq (.reg [⟨(some 16), .mv (.tmp 8), none⟩,
        ⟨(some 17), .bin .neq (.tmp 16) (.const (.int .i64 0)), none⟩])
     (.cond (.tmp 17)
      (.seq (.reg [⟨(some 18), .build [(.int .i32 0), (.int .i32 0), (.int .i32 0), (.int .i32 0), (.int .i32 0), (.slice none 0 0), (.int .i32 0), (.int .i32 0), (.int .i32 0), (.int .i32 0), (.bool false)] [], none⟩,
          ⟨(some 19), .mv (.tmp 8), none⟩,
          ⟨none, .stn 11 (.tmp 4) (.tmp 18), none⟩,
          ⟨(some 5), .mv (.tmp 19), none⟩])
       (.ret))
      (.skip)))
    (.seq (.reg [⟨(some 20), .mv (.tmp 6), none⟩,
        ⟨(some 21), .nilc (.tmp 20), none⟩,
        ⟨(some 22), .fa 13 (.tmp 21), none⟩,
        ⟨(some 23), .ldn 11 (.tmp 22), none⟩,
        ⟨none, .stn 11 (.tmp 4) (.tmp 23), none⟩,
        ⟨(some 5), .mv (.const (.int .i64 0)), none⟩])
     (.ret))))
theorem k13 : fnOk Tryz.prog 13 = some (M13, [.cn 11 4, .t 5], 24) := by kernel_rfl
def M29 : MC :=
  .seq (.reg [⟨(some 2), .box 24 (.tmp 0), none⟩,
     ⟨(some 3), .box 31 (.tmp 1), none⟩,
     ⟨(some 4), .mv (.const (.pointer none)), none⟩,
     ⟨(some 5), .mv (.const (.slice none 0 0)), none⟩,
     ⟨(some 6), .mv (.const (.int .i64 0)), none⟩])
  (.seq (.block 0 (.seq (.reg [⟨(some 9), .ldn 6 (.tmp 2), none⟩,
        ⟨(some 10), .call 31 [(.tmp 9)], none⟩,
        ⟨(some 11), .bin .neq (.tmp 10) (.const (.int .i64 0)), none⟩,
        ⟨(some 8), .mv (.tmp 11), none⟩])
     (.cond (.tmp 8)
      (.seq (.reg [⟨(some 4), .mv (.const (.pointer none)), none⟩,
          ⟨(some 5), .mv (.const (.slice none 0 0)), none⟩,
          ⟨(some 6), .mv (.const (.int .i64 260)), none⟩])
       (.ret))
      (.seq (.reg [⟨(some 13), .ldn 6 (.tmp 2), none⟩,
          ⟨(some 14), .ldn 13 (.tmp 3), none⟩,
          ⟨(some 15), .call 17 [(.tmp 13), (.tmp 14)], none⟩,
          ⟨(some 16), .un .not (.tmp 15), none⟩,
          ⟨(some 12), .mv (.tmp 16), none⟩])
       (.cond (.tmp 12)
        (.seq (.reg [⟨(some 4), .mv (.const (.pointer none)), none⟩,
            ⟨(some 5), .mv (.const (.slice none 0 0)), none⟩,
            ⟨(some 6), .mv (.const (.int .i64 2)), none⟩])
         (.ret))
        (.skip))))))
   (.seq (.any [(true, 0, [], ⟨(some 17), .ldn 13 (.tmp 3), none⟩),
       (false, 1, [0], ⟨(some 18), .fa 2 (.tmp 2), none⟩),
       (false, 2, [0], ⟨(some 19), .ld1 (.tmp 18), none⟩),
       (false, 3, [0], ⟨(some 20), .mks 28 16 [(.int .i32 0), (.int .i32 0), (.int .i32 0), (.int .i32 0)] (.tmp 19) (.tmp 19), none⟩),
       (false, 4, [], ⟨(some 21), .build [(.slice none 0 0), (.slice none 0 0), (.slice none 0 0), (.int .i32 0), (.int .i32 0), (.int .i32 0), (.int .i32 0), (.bool false), (.int .i32 0), (.int .i32 0), (.int .i32 0), (.int .i32 0), (.slice none 0 0), (.int .i32 0), (.int .i32 0), (.int .i32 0), (.int .i32 0), (.int .i32 0), (.slice none 0 0), (.int .i32 0), (.int .i32 0), (.int .i32 0), (.int .i32 0), (.bool false), (.slice none 0 0)] [(0, 13, (.tmp 17)), (24, 1, (.tmp 20))], none⟩),
       (false, 5, [], ⟨(some 22), .box 73 (.tmp 21), none⟩),
       (false, 6, [], ⟨(some 7), .mv (.tmp 22), none⟩)])
    (.seq (.seq (.reg [⟨(some 23), .fa 0 (.tmp 2), none⟩,
         ⟨(some 24), .ld1 (.tmp 23), none⟩,
         ⟨(some 25), .bin .eql (.tmp 24) (.const (.int .i64 1)), none⟩])
      (.cond (.tmp 25)
       (.reg [⟨(some 26), .mv (.tmp 7), none⟩,
          ⟨(some 27), .fa 5 (.tmp 2), none⟩,
          ⟨(some 28), .ld1 (.tmp 27), none⟩,
          ⟨(some 29), .mks 28 16 [(.int .i32 0), (.int .i32 0), (.int .i32 0), (.int .i32 0)] (.tmp 28) (.tmp 28), none⟩,
          ⟨(some 30), .nilc (.tmp 26), none⟩,
          ⟨(some 31), .fa 13 (.tmp 30), none⟩,
          ⟨(some 32), .fa 5 (.tmp 31), none⟩,
          ⟨none, .st1 (.tmp 32) (.tmp 29), none⟩])
       (.skip)))
     (.seq (.reg [⟨(some 33), .mv (.tmp 7), none⟩,
         ⟨(some 34), .mv (.tmp 7), none⟩,
         ⟨(some 35), .fa 1 (.tmp 2), none⟩,
         ⟨(some 36), .ld1 (.tmp 35), none⟩,
         ⟨(some 37), .call 49 [(.tmp 34), (.tmp 36)], none⟩,
         ⟨(some 4), .mv (.tmp 33), none⟩,
         ⟨(some 5), .mv (.tmp 37), none⟩,
         ⟨(some 6), .mv (.const (.int .i64 0)), none⟩])
      (.ret)))))
theorem k29 : fnOk Tryz.prog 29 = some (M29, [.t 4, .t 5, .t 6], 38) := by kernel_rfl
def M49 : MC :=
  .seq (.reg [⟨(some 4), .mv (.const (.slice none 0 0)), none⟩])
  (.scope (.seq (.reg [⟨(some 5), .mv (.const (.slice none 0 0)), none⟩])
    (.seq (.reg [⟨(some 6), .mv (.const (.int .i64 0)), none⟩])
     (.seq (.skip)
      (.seq (.block 0 (.loop (.seq (.seq (.reg [⟨(some 8), .mv (.tmp 6), none⟩,
              ⟨(some 9), .mv (.tmp 1), none⟩,
              ⟨(some 10), .len (.tmp 9), none⟩,
              ⟨(some 11), .bin .lss (.tmp 8) (.tmp 10), none⟩])
           (.cond (.tmp 11)
            (.skip)
            (.exit 0)))
          (.block 1 (.seq (.reg [⟨(some 12), .mv (.tmp 1), none⟩,
               ⟨(some 13), .mv (.tmp 6), none⟩,
               ⟨(some 14), .is 16 (.tmp 12) (.tmp 13), none⟩,
               ⟨(some 15), .ldn 16 (.tmp 14), none⟩,
               ⟨(some 7), .alloc 46 [(.int .i64 0), (.int .i64 0), (.int .i64 0), (.int .i64 0), (.int .i64 0), (.int .i64 0), (.int .i64 0), (.int .i64 0), (.int .i32 0), (.int .i32 0), (.int .i32 0), (.int .i32 0), (.int .i64 0), (.int .i64 0), (.int .i64 0), (.int .i64 0)], none⟩,
               ⟨none, .stn 16 (.tmp 7) (.tmp 15), none⟩])
            (.seq (.reg [⟨(some 16), .mv (.tmp 5), none⟩,
                ⟨(some 17), .mv (.tmp 6), none⟩,
                ⟨(some 18), .bslice 3 1 [(.int .i64 0)] [(0, 1, (.tmp 17))], none⟩,
                ⟨(some 19), .app 3 1 8 [(.int .i64 0)] (.tmp 16) (.tmp 18), none⟩,
                ⟨(some 5), .mv (.tmp 19), none⟩])
             (.seq (.reg [⟨(some 20), .mv (.tmp 6), none⟩,
                 ⟨(some 21), .bin .add (.tmp 20) (.const (.int .i64 1)), none⟩,
                 ⟨(some 6), .mv (.tmp 21), none⟩])
              (.seq (.reg [⟨(some 22), .fa 0 (.tmp 7), none⟩,
                  ⟨(some 23), .ld1 (.tmp 22), none⟩])
               (.block 2 (.seq (.reg [⟨(some 35), .bin .eql (.tmp 23) (.const (.int .i64 12)), none⟩,
                    ⟨(some 34), .mv (.tmp 35), none⟩])
                 (.cond (.tmp 34)
                  (.seq (.reg [⟨(some 36), .mv (.tmp 0), none⟩,
                      ⟨(some 37), .build [(.int .i32 0), (.int .i32 0), (.int .i32 0), (.int .i32 0), (.int .i32 0), (.slice none 0 0), (.int .i32 0), (.int .i32 0), (.int .i32 0), (.int .i32 0), (.bool false)] [(10, 1, (.const (.bool true)))], none⟩,
                      ⟨(some 38), .nilc (.tmp 36), none⟩,
                      ⟨(some 39), .fa 13 (.tmp 38), none⟩,
                      ⟨none, .stn 11 (.tmp 39) (.tmp 37), none⟩])
                   (.exit 0))
                  (.seq (.reg [⟨(some 41), .bin .eql (.tmp 23) (.const (.int .i64 10)), none⟩,
                      ⟨(some 40), .mv (.tmp 41), none⟩])
                   (.cond (.tmp 40)
                    (.reg [⟨(some 42), .fa 5 (.tmp 7), none⟩,
                       ⟨(some 43), .ld1 (.tmp 42), none⟩,
                       ⟨(some 6), .mv (.tmp 43), none⟩])
                    (.seq (.reg [⟨(some 45), .bin .eql (.tmp 23) (.const (.int .i64 11)), none⟩,
                        ⟨(some 44), .mv (.tmp 45), none⟩])
                     (.cond (.tmp 44)
                      (.seq (.any [(true, 0, [], ⟨(some 46), .mv (.tmp 0), none⟩),
                          (true, 1, [], ⟨(some 47), .nilc (.tmp 46), none⟩),
                          (true, 2, [], ⟨(some 48), .fa 24 (.tmp 47), none⟩),
                          (true, 3, [], ⟨(some 49), .ld1 (.tmp 48), none⟩),
                          (false, 4, [0, 1, 2, 3], ⟨(some 50), .fa 6 (.tmp 7), none⟩),
                          (false, 5, [0, 1, 2, 3], ⟨(some 51), .ld1 (.tmp 50), none⟩),
                          (false, 6, [], ⟨(some 52), .is 4 (.tmp 49) (.tmp 51), none⟩),
                          (false, 7, [], ⟨(some 53), .ia 4 1 (.tmp 52) (.const (.int .i64 0)), none⟩),
                          (false, 8, [], ⟨(some 54), .ld1 (.tmp 53), none⟩),
                          (false, 9, [], ⟨(some 55), .bin .eql (.tmp 54) (.const (.int .i32 0)), none⟩)])
                       (.cond (.tmp 55)
                        (.reg [⟨(some 56), .fa 5 (.tmp 7), none⟩,
                           ⟨(some 57), .ld1 (.tmp 56), none⟩,
                           ⟨(some 6), .mv (.tmp 57), none⟩])
                        (.skip)))
                      (.seq (.reg [⟨(some 59), .bin .eql (.tmp 23) (.const (.int .i64 4)), none⟩,
                          ⟨(some 58), .mv (.tmp 59), none⟩])
                       (.cond (.tmp 58)
                        (.reg [⟨(some 60), .mv (.tmp 0), none⟩,
                           ⟨(some 61), .ldn 16 (.tmp 7), none⟩,
                           ⟨(some 62), .call 100 [(.tmp 60), (.tmp 61)], none⟩])
                        (.any [(true, 0, [], ⟨(some 24), .mv (.tmp 0), none⟩),
                           (true, 1, [], ⟨(some 25), .nilc (.tmp 24), none⟩),
                           (true, 2, [], ⟨(some 26), .fa 24 (.tmp 25), none⟩),
                           (true, 3, [], ⟨(some 27), .ld1 (.tmp 26), none⟩),
                           (true, 4, [], ⟨(some 28), .fa 4 (.tmp 7), none⟩),
                           (true, 5, [], ⟨(some 29), .ld1 (.tmp 28), none⟩),
                           (true, 6, [], ⟨(some 30), .mv (.tmp 0), none⟩),
                           (false, 7, [0, 1, 2, 3, 4, 5, 6], ⟨(some 31), .ldn 16 (.tmp 7), none⟩),
                           (false, 8, [0, 1, 2, 3, 4, 5], ⟨(some 32), .call 101 [(.tmp 30), (.tmp 31)], none⟩),
                           (false, 9, [], ⟨(some 33), .is 4 (.tmp 27) (.tmp 29), none⟩),
                           (false, 10, [], ⟨none, .stn 4 (.tmp 33) (.tmp 32), none⟩)]))))))))))))))))))
       (.seq (.reg [⟨(some 63), .mv (.tmp 5), none⟩,
           ⟨(some 4), .mv (.tmp 63), none⟩])
        (.ret)))))))
theorem k49 : fnOk Tryz.prog 49 = some (M49, [.t 4], 64) := by kernel_rfl
def M101 : MC :=
  .seq (.reg [⟨(some 2), .box 69 (.tmp 0), none⟩,
     ⟨(some 3), .box 46 (.tmp 1), none⟩,
     ⟨(some 4), .alloc 28 [(.int .i32 0), (.int .i32 0), (.int .i32 0), (.int .i32 0)], none⟩])
  (.seq (.reg [⟨(some 14), .fn 145 [(.tmp 2)], none⟩,
      ⟨(some 5), .mv (.tmp 14), none⟩])
   (.seq (.seq (.reg [⟨(some 15), .fa 0 (.tmp 3), none⟩,
        ⟨(some 16), .ld1 (.tmp 15), none⟩])
     (.block 0 (.seq (.reg [⟨(some 18), .bin .eql (.tmp 16) (.const (.int .i64 1)), none⟩,
          ⟨(some 17), .mv (.tmp 18), none⟩])
       (.cond (.tmp 17)
        (.seq (.reg [⟨(some 19), .fa 8 (.tmp 3), none⟩,
            ⟨(some 20), .ldn 4 (.tmp 19), none⟩,
            ⟨none, .stn 4 (.tmp 4) (.tmp 20), none⟩])
         (.ret))
        (.seq (.reg [⟨(some 22), .bin .eql (.tmp 16) (.const (.int .i64 2)), none⟩,
            ⟨(some 21), .mv (.tmp 22), none⟩])
         (.cond (.tmp 21)
          (.seq (.reg [⟨(some 23), .mv (.tmp 5), none⟩,
              ⟨(some 24), .fa 5 (.tmp 3), none⟩,
              ⟨(some 25), .ld1 (.tmp 24), none⟩,
              ⟨(some 26), .yv (.tmp 23) [(.tmp 25)], none⟩,
              ⟨none, .stn 4 (.tmp 4) (.tmp 26), none⟩])
           (.ret))
          (.seq (.reg [⟨(some 28), .bin .eql (.tmp 16) (.const (.int .i64 3)), none⟩,
              ⟨(some 27), .mv (.tmp 28), none⟩])
           (.cond (.tmp 27)
            (.seq (.reg [⟨(some 29), .ld1 (.tmp 2), none⟩,
                ⟨(some 30), .ldn 16 (.tmp 3), none⟩,
                ⟨(some 31), .call 146 [(.tmp 29), (.tmp 30)], none⟩,
                ⟨none, .stn 4 (.tmp 4) (.tmp 31), none⟩])
             (.ret))
            (.seq (.reg [⟨(some 33), .bin .eql (.tmp 16) (.const (.int .i64 5)), none⟩,
                ⟨(some 32), .mv (.tmp 33), none⟩])
             (.cond (.tmp 32)
              (.seq (.alts (.one true 0 [] ⟨(some 35), .fa 1 (.tmp 3), none⟩ (.one true 1 [] ⟨(some 36), .ld1 (.tmp 35), none⟩ (.one true 2 [] ⟨(some 37), .fa 2 (.tmp 3), none⟩ (.one true 3 [] ⟨(some 38), .ld1 (.tmp 37), none⟩ (.one true 4 [] ⟨(some 39), .fa 3 (.tmp 3), none⟩ (.one true 5 [] ⟨(some 40), .ld1 (.tmp 39), none⟩ (.one true 6 [] ⟨(some 41), .mv (.tmp 5), none⟩ (.one true 7 [] ⟨(some 42), .fa 5 (.tmp 3), none⟩ (.one true 8 [] ⟨(some 43), .ld1 (.tmp 42), none⟩ (.one true 10 [] ⟨(some 45), .mv (.tmp 5), none⟩ (.one true 11 [] ⟨(some 46), .fa 6 (.tmp 3), none⟩ (.one true 12 [] ⟨(some 47), .ld1 (.tmp 46), none⟩ (.one true 14 [] ⟨(some 49), .mv (.tmp 5), none⟩ (.one true 15 [] ⟨(some 50), .fa 7 (.tmp 3), none⟩ (.one true 16 [] ⟨(some 51), .ld1 (.tmp 50), none⟩ (.alt (.one false 9 [0, 1, 2, 3, 4, 5, 10, 11, 12, 14, 15, 16, 19, 20, 21, 20, 21, 20, 21, 20, 21, 20, 21] ⟨(some 44), .callv (.tmp 41) [(.tmp 43)], none⟩ (.alt (.one false 13 [0, 1, 2, 3, 4, 5, 14, 15, 16, 19, 20, 21, 20, 21, 20, 21, 20, 21, 20, 21] ⟨(some 48), .callv (.tmp 45) [(.tmp 47)], none⟩ (.alt (.one false 17 [0, 1, 2, 3, 4, 5, 19, 20, 21, 20, 21, 20, 21, 20, 21, 20, 21] ⟨(some 52), .callv (.tmp 49) [(.tmp 51)], none⟩ (.alt (.one false 18 [19, 20, 21, 20, 21, 20, 21, 20, 21, 20, 21] ⟨(some 53), .call 28 [(.tmp 36), (.tmp 38), (.tmp 40), (.tmp 44), (.tmp 48), (.tmp 52)], none⟩ (.one true 19 [] ⟨(some 34), .mv (.tmp 53), none⟩ (.one true 20 [] ⟨(some 54), .ext 0 (.tmp 34), none⟩ (.one true 21 [] ⟨(some 55), .ext 1 (.tmp 34), none⟩ (.one false 22 [19, 20, 21, 20, 21, 20, 21, 20, 21, 20, 21] ⟨(some 6), .alloc 28 [(.int .i32 0), (.int .i32 0), (.int .i32 0), (.int .i32 0)], none⟩ (.one false 23 [21, 21, 21, 21, 21] ⟨none, .stn 4 (.tmp 6) (.tmp 54), none⟩ (.one false 24 [] ⟨(some 7), .mv (.tmp 55), none⟩ .nil)))))))
      (.one false 22 [0, 1, 2, 3, 4, 5, 19, 20, 21, 20, 21, 20, 21, 20, 21, 20, 21] ⟨(some 6), .alloc 28 [(.int .i32 0), (.int .i32 0), (.int .i32 0), (.int .i32 0)], none⟩ (.one false 18 [19, 20, 21, 20, 21, 20, 21, 20, 21, 20, 21] ⟨(some 53), .call 28 [(.tmp 36), (.tmp 38), (.tmp 40), (.tmp 44), (.tmp 48), (.tmp 52)], none⟩ (.one false 19 [19, 20, 21, 20, 21, 20, 21, 20, 21, 20, 21] ⟨(some 34), .mv (.tmp 53), none⟩ (.one true 20 [] ⟨(some 54), .ext 0 (.tmp 34), none⟩ (.one true 21 [] ⟨(some 55), .ext 1 (.tmp 34), none⟩ (.one false 23 [21, 21, 21, 21, 21] ⟨none, .stn 4 (.tmp 6) (.tmp 54), none⟩ (.one false 24 [] ⟨(some 7), .mv (.tmp 55), none⟩ .nil)))))))))
      (.one false 22 [0, 1, 2, 3, 4, 5, 14, 15, 16, 19, 20, 21, 20, 21, 20, 21, 20, 21, 20, 21] ⟨(some 6), .alloc 28 [(.int .i32 0), (.int .i32 0), (.int .i32 0), (.int .i32 0)], none⟩ (.one false 17 [0, 1, 2, 3, 4, 5, 19, 20, 21, 20, 21, 20, 21, 20, 21, 20, 21] ⟨(some 52), .callv (.tmp 49) [(.tmp 51)], none⟩ (.one false 18 [19, 20, 21, 20, 21, 20, 21, 20, 21, 20, 21] ⟨(some 53), .call 28 [(.tmp 36), (.tmp 38), (.tmp 40), (.tmp 44), (.tmp 48), (.tmp 52)], none⟩ (.one false 19 [19, 20, 21, 20, 21, 20, 21, 20, 21, 20, 21] ⟨(some 34), .mv (.tmp 53), none⟩ (.one true 20 [] ⟨(some 54), .ext 0 (.tmp 34), none⟩ (.one true 21 [] ⟨(some 55), .ext 1 (.tmp 34), none⟩ (.one false 23 [21, 21, 21, 21, 21] ⟨none, .stn 4 (.tmp 6) (.tmp 54), none⟩ (.one false 24 [] ⟨(some 7), .mv (.tmp 55), none⟩ .nil))))))))))
      (.one false 22 [0, 1, 2, 3, 4, 5, 10, 11, 12, 14, 15, 16, 19, 20, 21, 20, 21, 20, 21, 20, 21, 20, 21] ⟨(some 6), .alloc 28 [(.int .i32 0), (.int .i32 0), (.int .i32 0), (.int .i32 0)], none⟩ (.one false 13 [0, 1, 2, 3, 4, 5, 14, 15, 16, 19, 20, 21, 20, 21, 20, 21, 20, 21, 20, 21] ⟨(some 48), .callv (.tmp 45) [(.tmp 47)], none⟩ (.one false 17 [0, 1, 2, 3, 4, 5, 19, 20, 21, 20, 21, 20, 21, 20, 21, 20, 21] ⟨(some 52), .callv (.tmp 49) [(.tmp 51)], none⟩ (.one false 18 [19, 20, 21, 20, 21, 20, 21, 20, 21, 20, 21] ⟨(some 53), .call 28 [(.tmp 36), (.tmp 38), (.tmp 40), (.tmp 44), (.tmp 48), (.tmp 52)], none⟩ (.one false 19 [19, 20, 21, 20, 21, 20, 21, 20, 21, 20, 21] ⟨(some 34), .mv (.tmp 53), none⟩ (.one true 20 [] ⟨(some 54), .ext 0 (.tmp 34), none⟩ (.one true 21 [] ⟨(some 55), .ext 1 (.tmp 34), none⟩ (.one false 23 [21, 21, 21, 21, 21] ⟨none, .stn 4 (.tmp 6) (.tmp 54), none⟩ (.one false 24 [] ⟨(some 7), .mv (.tmp 55), none⟩ .nil)))))))))))
      (.one false 22 [0, 1, 2, 3, 4, 5, 6, 7, 8, 10, 11, 12, 14, 15, 16, 19, 20, 21, 20, 21, 20, 21, 20, 21, 20, 21] ⟨(some 6), .alloc 28 [(.int .i32 0), (.int .i32 0), (.int .i32 0), (.int .i32 0)], none⟩ (.one false 9 [0, 1, 2, 3, 4, 5, 10, 11, 12, 14, 15, 16, 19, 20, 21, 20, 21, 20, 21, 20, 21, 20, 21] ⟨(some 44), .callv (.tmp 41) [(.tmp 43)], none⟩ (.one false 13 [0, 1, 2, 3, 4, 5, 14, 15, 16, 19, 20, 21, 20, 21, 20, 21, 20, 21, 20, 21] ⟨(some 48), .callv (.tmp 45) [(.tmp 47)], none⟩ (.one false 17 [0, 1, 2, 3, 4, 5, 19, 20, 21, 20, 21, 20, 21, 20, 21, 20, 21] ⟨(some 52), .callv (.tmp 49) [(.tmp 51)], none⟩ (.one false 18 [19, 20, 21, 20, 21, 20, 21, 20, 21, 20, 21] ⟨(some 53), .call 28 [(.tmp 36), (.tmp 38), (.tmp 40), (.tmp 44), (.tmp 48), (.tmp 52)], none⟩ (.one false 19 [19, 20, 21, 20, 21, 20, 21, 20, 21, 20, 21] ⟨(some 34), .mv (.tmp 53), none⟩ (.one true 20 [] ⟨(some 54), .ext 0 (.tmp 34), none⟩ (.one true 21 [] ⟨(some 55), .ext 1 (.tmp 34), none⟩ (.one false 23 [21, 21, 21, 21, 21] ⟨none, .stn 4 (.tmp 6) (.tmp 54), none⟩ (.one false 24 [] ⟨(some 7), .mv (.tmp 55), none⟩ .nil)))))))))))))))))))))))))))
               (.seq (.reg [⟨(some 56), .ldn 4 (.tmp 6), none⟩,
                   ⟨none, .stn 4 (.tmp 4) (.tmp 56), none⟩])
                (.ret)))
              (.seq (.reg [⟨(some 58), .bin .eql (.tmp 16) (.const (.int .i64 8)), none⟩,
                  ⟨(some 57), .mv (.tmp 58), none⟩])
               (.cond (.tmp 57)
                (.seq (.alts (.one true 0 [] ⟨(some 60), .fa 2 (.tmp 3), none⟩ (.one true 1 [] ⟨(some 61), .ld1 (.tmp 60), none⟩ (.one true 2 [] ⟨(some 62), .fa 1 (.tmp 3), none⟩ (.one true 3 [] ⟨(some 63), .ld1 (.tmp 62), none⟩ (.one true 4 [] ⟨(some 64), .fa 3 (.tmp 3), none⟩ (.one true 5 [] ⟨(some 65), .ld1 (.tmp 64), none⟩ (.one true 6 [] ⟨(some 66), .mv (.tmp 5), none⟩ (.one true 7 [] ⟨(some 67), .fa 5 (.tmp 3), none⟩ (.one true 8 [] ⟨(some 68), .ld1 (.tmp 67), none⟩ (.alt (.one false 9 [0, 1, 2, 3, 4, 5, 11, 12, 13, 12, 13, 12, 13] ⟨(some 69), .callv (.tmp 66) [(.tmp 68)], none⟩ (.alt (.one false 10 [11, 12, 13, 12, 13, 12, 13] ⟨(some 70), .call 20 [(.tmp 61), (.tmp 63), (.tmp 65), (.tmp 69)], none⟩ (.one true 11 [] ⟨(some 59), .mv (.tmp 70), none⟩ (.one true 12 [] ⟨(some 71), .ext 0 (.tmp 59), none⟩ (.one true 13 [] ⟨(some 72), .ext 1 (.tmp 59), none⟩ (.one false 14 [11, 12, 13, 12, 13, 12, 13] ⟨(some 8), .alloc 28 [(.int .i32 0), (.int .i32 0), (.int .i32 0), (.int .i32 0)], none⟩ (.one false 15 [13, 13, 13] ⟨none, .stn 4 (.tmp 8) (.tmp 71), none⟩ (.one false 16 [] ⟨(some 9), .mv (.tmp 72), none⟩ .nil)))))))
      (.one false 14 [0, 1, 2, 3, 4, 5, 11, 12, 13, 12, 13, 12, 13] ⟨(some 8), .alloc 28 [(.int .i32 0), (.int .i32 0), (.int .i32 0), (.int .i32 0)], none⟩ (.one false 10 [11, 12, 13, 12, 13, 12, 13] ⟨(some 70), .call 20 [(.tmp 61), (.tmp 63), (.tmp 65), (.tmp 69)], none⟩ (.one false 11 [11, 12, 13, 12, 13, 12, 13] ⟨(some 59), .mv (.tmp 70), none⟩ (.one true 12 [] ⟨(some 71), .ext 0 (.tmp 59), none⟩ (.one true 13 [] ⟨(some 72), .ext 1 (.tmp 59), none⟩ (.one false 15 [13, 13, 13] ⟨none, .stn 4 (.tmp 8) (.tmp 71), none⟩ (.one false 16 [] ⟨(some 9), .mv (.tmp 72), none⟩ .nil)))))))))
      (.one false 14 [0, 1, 2, 3, 4, 5, 6, 7, 8, 11, 12, 13, 12, 13, 12, 13] ⟨(some 8), .alloc 28 [(.int .i32 0), (.int .i32 0), (.int .i32 0), (.int .i32 0)], none⟩ (.one false 9 [0, 1, 2, 3, 4, 5, 11, 12, 13, 12, 13, 12, 13] ⟨(some 69), .callv (.tmp 66) [(.tmp 68)], none⟩ (.one false 10 [11, 12, 13, 12, 13, 12, 13] ⟨(some 70), .call 20 [(.tmp 61), (.tmp 63), (.tmp 65), (.tmp 69)], none⟩ (.one false 11 [11, 12, 13, 12, 13, 12, 13] ⟨(some 59), .mv (.tmp 70), none⟩ (.one true 12 [] ⟨(some 71), .ext 0 (.tmp 59), none⟩ (.one true 13 [] ⟨(some 72), .ext 1 (.tmp 59), none⟩ (.one false 15 [13, 13, 13] ⟨none, .stn 4 (.tmp 8) (.tmp 71), none⟩ (.one false 16 [] ⟨(some 9), .mv (.tmp 72), none⟩ .nil)))))))))))))))))))
                 (.seq (.reg [⟨(some 73), .ldn 4 (.tmp 8), none⟩,
                     ⟨none, .stn 4 (.tmp 4) (.tmp 73), none⟩])
                  (.ret)))
                (.seq (.reg [⟨(some 75), .bin .eql (.tmp 16) (.const (.int .i64 9)), none⟩,
                    ⟨(some 74), .mv (.tmp 75), none⟩])
                 (.cond (.tmp 74)
                  (.seq (.any [(true, 0, [], ⟨(some 76), .ld1 (.tmp 2), none⟩),
                      (true, 1, [], ⟨(some 77), .mv (.tmp 5), none⟩),
                      (true, 2, [], ⟨(some 78), .fa 5 (.tmp 3), none⟩),
                      (true, 3, [], ⟨(some 79), .ld1 (.tmp 78), none⟩),
                      (true, 5, [], ⟨(some 81), .mv (.tmp 5), none⟩),
                      (true, 6, [], ⟨(some 82), .fa 6 (.tmp 3), none⟩),
                      (true, 7, [], ⟨(some 83), .ld1 (.tmp 82), none⟩),
                      (false, 4, [0, 5, 6, 7], ⟨(some 80), .callv (.tmp 77) [(.tmp 79)], none⟩),
                      (false, 8, [0], ⟨(some 84), .callv (.tmp 81) [(.tmp 83)], none⟩),
                      (false, 9, [], ⟨(some 85), .call 147 [(.tmp 76), (.tmp 80), (.tmp 84)], none⟩),
                      (false, 10, [], ⟨none, .stn 4 (.tmp 4) (.tmp 85), none⟩)])
                   (.ret))
                  (.skip)))))))))))))))
    (.seq (.reg [⟨(some 86), .mv (.tmp 5), none⟩,
        ⟨(some 87), .fa 5 (.tmp 3), none⟩,
        ⟨(some 88), .ld1 (.tmp 87), none⟩,
        ⟨(some 89), .yv (.tmp 86) [(.tmp 88)], none⟩,
        ⟨(some 90), .build [(.int .i32 0), (.int .i32 0), (.int .i32 0), (.int .i32 0)] [], none⟩,
        ⟨(some 10), .alloc 28 [(.int .i32 0), (.int .i32 0), (.int .i32 0), (.int .i32 0)], none⟩,
        ⟨(some 11), .alloc 28 [(.int .i32 0), (.int .i32 0), (.int .i32 0), (.int .i32 0)], none⟩,
        ⟨none, .stn 4 (.tmp 10) (.tmp 89), none⟩,
        ⟨none, .stn 4 (.tmp 11) (.tmp 90), none⟩])
     (.seq (.seq (.reg [⟨(some 91), .fa 0 (.tmp 3), none⟩,
          ⟨(some 92), .ld1 (.tmp 91), none⟩,
          ⟨(some 93), .bin .eql (.tmp 92) (.const (.int .i64 7)), none⟩])
       (.cond (.tmp 93)
        (.reg [⟨(some 94), .mv (.tmp 5), none⟩,
           ⟨(some 95), .fa 4 (.tmp 3), none⟩,
           ⟨(some 96), .ld1 (.tmp 95), none⟩,
           ⟨(some 97), .yv (.tmp 94) [(.tmp 96)], none⟩,
           ⟨none, .stn 4 (.tmp 11) (.tmp 97), none⟩])
        (.skip)))
      (.seq (.seq (.reg [⟨(some 98), .fa 12 (.tmp 3), none⟩,
           ⟨(some 99), .fa 3 (.tmp 3), none⟩,
           ⟨(some 100), .ld1 (.tmp 99), none⟩,
           ⟨(some 101), .sla 4 1 (.tmp 98) none (some (.tmp 100)), none⟩,
           ⟨(some 102), .len (.tmp 101), none⟩,
           ⟨(some 103), .mv (.const (.int .i64 0)), none⟩])
        (.block 1 (.loop (.seq (.reg [⟨(some 104), .bin .lss (.tmp 103) (.tmp 102), none⟩])
           (.seq (.cond (.tmp 104)
             (.skip)
             (.exit 1))
            (.seq (.block 2 (.seq (.reg [⟨(some 105), .mv (.tmp 103), none⟩,
                  ⟨(some 106), .is 1 (.tmp 101) (.tmp 103), none⟩,
                  ⟨(some 107), .ld1 (.tmp 106), none⟩,
                  ⟨(some 12), .mv (.tmp 105), none⟩,
                  ⟨(some 13), .mv (.tmp 107), none⟩])
               (.seq (.reg [⟨(some 108), .fa 0 (.tmp 3), none⟩,
                   ⟨(some 109), .ld1 (.tmp 108), none⟩,
                   ⟨(some 110), .bin .eql (.tmp 109) (.const (.int .i64 7)), none⟩])
                (.cond (.tmp 110)
                 (.reg [⟨(some 111), .mv (.tmp 13), none⟩,
                    ⟨(some 112), .mv (.tmp 12), none⟩,
                    ⟨(some 113), .ia 4 1 (.tmp 10) (.tmp 112), none⟩,
                    ⟨(some 114), .ld1 (.tmp 113), none⟩,
                    ⟨(some 115), .ia 4 1 (.tmp 11) (.tmp 111), none⟩,
                    ⟨none, .st1 (.tmp 115) (.tmp 114), none⟩])
                 (.reg [⟨(some 116), .mv (.tmp 12), none⟩,
                    ⟨(some 117), .mv (.tmp 13), none⟩,
                    ⟨(some 118), .ia 4 1 (.tmp 10) (.tmp 117), none⟩,
                    ⟨(some 119), .ld1 (.tmp 118), none⟩,
                    ⟨(some 120), .ia 4 1 (.tmp 11) (.tmp 116), none⟩,
                    ⟨none, .st1 (.tmp 120) (.tmp 119), none⟩])))))
             (.reg [⟨(some 121), .bin .add (.tmp 103) (.const (.int .i64 1)), none⟩,
                ⟨(some 103), .mv (.tmp 121), none⟩])))))))
       (.seq (.reg [⟨(some 122), .ldn 4 (.tmp 11), none⟩,
           ⟨none, .stn 4 (.tmp 4) (.tmp 122), none⟩])
        (.ret)))))))
theorem k101 : fnOk Tryz.prog 101 = some (M101, [.cn 4 4], 123) := by kernel_rfl
def M20 : MC :=
  .seq (.reg [⟨(some 4), .box 3 (.tmp 0), none⟩,
     ⟨(some 5), .box 3 (.tmp 1), none⟩,
     ⟨(some 7), .box 28 (.tmp 3), none⟩,
     ⟨(some 8), .alloc 28 [(.int .i32 0), (.int .i32 0), (.int .i32 0), (.int .i32 0)], none⟩,
     ⟨(some 9), .mv (.const (.int .i64 0)), none⟩])
  (.seq (.reg [⟨(some 10), .mv (.func 34), none⟩])
   (.seq (.seq (.reg [⟨(some 11), .mv (.tmp 10), none⟩,
        ⟨(some 12), .ld1 (.tmp 4), none⟩,
        ⟨(some 13), .yv (.tmp 11) [(.tmp 12)], none⟩,
        ⟨(some 14), .un .not (.tmp 13), none⟩,
        ⟨(some 15), .mv (.tmp 14), none⟩,
        ⟨(some 16), .mv (.tmp 10), (some (15, false))⟩,
        ⟨(some 17), .ld1 (.tmp 5), (some (15, false))⟩,
        ⟨(some 18), .yv (.tmp 16) [(.tmp 17)], (some (15, false))⟩,
        ⟨(some 19), .un .not (.tmp 18), (some (15, false))⟩,
        ⟨(some 20), .pick (.tmp 15) (.const (.bool true)) (.tmp 19), none⟩,
        ⟨(some 21), .mv (.tmp 20), none⟩,
        ⟨(some 22), .mv (.tmp 2), (some (21, false))⟩,
        ⟨(some 23), .bin .lss (.tmp 22) (.const (.int .i64 1)), (some (21, false))⟩,
        ⟨(some 24), .pick (.tmp 21) (.const (.bool true)) (.tmp 23), none⟩,
        ⟨(some 25), .mv (.tmp 24), none⟩,
        ⟨(some 26), .mv (.tmp 2), (some (25, false))⟩,
        ⟨(some 27), .bin .gtr (.tmp 26) (.const (.int .i64 4)), (some (25, false))⟩,
        ⟨(some 28), .pick (.tmp 25) (.const (.bool true)) (.tmp 27), none⟩])
     (.cond (.tmp 28)
      (.seq (.reg [⟨(some 29), .build [(.int .i32 0), (.int .i32 0), (.int .i32 0), (.int .i32 0)] [], none⟩,
          ⟨none, .stn 4 (.tmp 8) (.tmp 29), none⟩,
          ⟨(some 9), .mv (.const (.int .i64 2)), none⟩])
       (.ret))
      (.skip)))
    (.seq (.reg [⟨(some 30), .mv (.tmp 2), none⟩,
        ⟨(some 31), .ldn 4 (.tmp 7), none⟩,
        ⟨(some 32), .fn 36 [(.tmp 4), (.tmp 5)], none⟩,
        ⟨(some 33), .call 35 [(.tmp 30), (.tmp 31), (.tmp 32)], none⟩,
        ⟨(some 34), .ext 0 (.tmp 33), none⟩,
        ⟨(some 35), .ext 1 (.tmp 33), none⟩,
        ⟨none, .stn 4 (.tmp 8) (.tmp 34), none⟩,
        ⟨(some 9), .mv (.tmp 35), none⟩])
     (.ret))))
theorem k20 : fnOk Tryz.prog 20 = some (M20, [.cn 4 8, .t 9], 36) := by kernel_rfl
def M35 : MC :=
  .seq (.reg [⟨(some 4), .box 28 (.tmp 1), none⟩,
     ⟨(some 5), .box 81 (.tmp 2), none⟩,
     ⟨(some 6), .alloc 28 [(.int .i32 0), (.int .i32 0), (.int .i32 0), (.int .i32 0)], none⟩,
     ⟨(some 7), .mv (.const (.int .i64 0)), none⟩])
  (.seq (.reg [⟨(some 8), .mv (.tmp 0), none⟩,
      ⟨(some 9), .ldn 4 (.tmp 4), none⟩,
      ⟨(some 10), .ldn 4 (.tmp 4), none⟩,
      ⟨(some 11), .fn 68 [(.tmp 5)], none⟩,
      ⟨(some 12), .call 45 [(.tmp 8), (.tmp 9), (.tmp 10), (.tmp 11)], none⟩,
      ⟨none, .stn 4 (.tmp 6) (.tmp 12), none⟩,
      ⟨(some 7), .mv (.const (.int .i64 0)), none⟩])
   (.ret))
theorem k35 : fnOk Tryz.prog 35 = some (M35, [.cn 4 6, .t 7], 13) := by kernel_rfl
def M68 : MC :=
  .seq (.reg [⟨(some 5), .mv (.const (.int .i32 0)), none⟩])
  (.seq (.reg [⟨(some 6), .ld1 (.tmp 2), none⟩,
      ⟨(some 7), .mv (.tmp 0), none⟩,
      ⟨(some 8), .yv (.tmp 6) [(.tmp 7)], none⟩,
      ⟨(some 5), .mv (.tmp 8), none⟩])
   (.ret))
theorem k68 : fnOk Tryz.prog 68 = some (M68, [.t 5], 9) := by kernel_rfl
def M36 : MC :=
  .seq (.reg [⟨(some 4), .mv (.const (.int .i32 0)), none⟩])
  (.seq (.block 0 (.seq (.reg [⟨(some 6), .ld1 (.tmp 1), none⟩,
        ⟨(some 7), .ld1 (.tmp 2), none⟩,
        ⟨(some 8), .bin .eql (.tmp 6) (.tmp 7), none⟩,
        ⟨(some 5), .mv (.tmp 8), none⟩])
     (.cond (.tmp 5)
      (.seq (.reg [⟨(some 9), .mv (.tmp 0), none⟩,
          ⟨(some 4), .mv (.tmp 9), none⟩])
       (.ret))
      (.seq (.reg [⟨(some 11), .ld1 (.tmp 2), none⟩,
          ⟨(some 12), .bin .eql (.tmp 11) (.const (.int .i64 3)), none⟩,
          ⟨(some 10), .mv (.tmp 12), none⟩])
       (.cond (.tmp 10)
        (.seq (.reg [⟨(some 13), .mv (.tmp 0), none⟩,
            ⟨(some 14), .bin .neq (.tmp 13) (.const (.int .i32 0)), none⟩,
            ⟨(some 15), .call 37 [(.tmp 14)], none⟩,
            ⟨(some 4), .mv (.tmp 15), none⟩])
         (.ret))
        (.seq (.reg [⟨(some 17), .ld1 (.tmp 2), none⟩,
            ⟨(some 18), .bin .eql (.tmp 17) (.const (.int .i64 1)), none⟩,
            ⟨(some 19), .mv (.tmp 18), none⟩,
            ⟨(some 20), .ld1 (.tmp 1), (some (19, true))⟩,
            ⟨(some 21), .bin .eql (.tmp 20) (.const (.int .i64 3)), (some (19, true))⟩,
            ⟨(some 22), .pick (.tmp 19) (.tmp 21) (.const (.bool false)), none⟩,
            ⟨(some 16), .mv (.tmp 22), none⟩])
         (.cond (.tmp 16)
          (.seq (.reg [⟨(some 23), .mv (.tmp 0), none⟩,
              ⟨(some 24), .bin .neq (.tmp 23) (.const (.int .i32 0)), none⟩,
              ⟨(some 25), .call 37 [(.tmp 24)], none⟩,
              ⟨(some 26), .bin .mul (.tmp 25) (.const (.int .i32 65536)), none⟩,
              ⟨(some 4), .mv (.tmp 26), none⟩])
           (.ret))
          (.seq (.reg [⟨(some 28), .ld1 (.tmp 2), none⟩,
              ⟨(some 29), .bin .eql (.tmp 28) (.const (.int .i64 1)), none⟩,
              ⟨(some 27), .mv (.tmp 29), none⟩])
           (.cond (.tmp 27)
            (.seq (.reg [⟨(some 30), .mv (.tmp 0), none⟩,
                ⟨(some 31), .conv .i64 (.tmp 30), none⟩,
                ⟨(some 32), .call 38 [(.tmp 31)], none⟩,
                ⟨(some 4), .mv (.tmp 32), none⟩])
             (.ret))
            (.seq (.reg [⟨(some 34), .ld1 (.tmp 1), none⟩,
                ⟨(some 35), .bin .eql (.tmp 34) (.const (.int .i64 1)), none⟩,
                ⟨(some 33), .mv (.tmp 35), none⟩])
             (.cond (.tmp 33)
              (.seq (.reg [⟨(some 36), .mv (.tmp 0), none⟩,
                  ⟨(some 37), .bin .quo (.tmp 36) (.const (.int .i32 65536)), none⟩,
                  ⟨(some 4), .mv (.tmp 37), none⟩])
               (.ret))
              (.skip))))))))))))
   (.seq (.reg [⟨(some 38), .mv (.tmp 0), none⟩,
       ⟨(some 4), .mv (.tmp 38), none⟩])
    (.ret)))
theorem k36 : fnOk Tryz.prog 36 = some (M36, [.t 4], 39) := by kernel_rfl
def M34 : MC :=
  .seq (.reg [⟨(some 2), .mv (.const (.bool false)), none⟩])
  (.seq (.reg [⟨(some 3), .mv (.tmp 0), none⟩,
      ⟨(some 4), .bin .geq (.tmp 3) (.const (.int .i64 1)), none⟩,
      ⟨(some 5), .mv (.tmp 4), none⟩,
      ⟨(some 6), .mv (.tmp 0), (some (5, true))⟩,
      ⟨(some 7), .bin .leq (.tmp 6) (.const (.int .i64 3)), (some (5, true))⟩,
      ⟨(some 8), .pick (.tmp 5) (.tmp 7) (.const (.bool false)), none⟩,
      ⟨(some 2), .mv (.tmp 8), none⟩])
   (.ret))
theorem k34 : fnOk Tryz.prog 34 = some (M34, [.t 2], 9) := by kernel_rfl
def M145 : MC :=
  .seq (.reg [⟨(some 3), .alloc 28 [(.int .i32 0), (.int .i32 0), (.int .i32 0), (.int .i32 0)], none⟩])
  (.seq (.reg [⟨(some 4), .ld1 (.tmp 1), none⟩,
      ⟨(some 5), .nilc (.tmp 4), none⟩,
      ⟨(some 6), .fa 24 (.tmp 5), none⟩,
      ⟨(some 7), .ld1 (.tmp 6), none⟩,
      ⟨(some 8), .mv (.tmp 0), none⟩,
      ⟨(some 9), .is 4 (.tmp 7) (.tmp 8), none⟩,
      ⟨(some 10), .ldn 4 (.tmp 9), none⟩,
      ⟨none, .stn 4 (.tmp 3) (.tmp 10), none⟩])
   (.ret))
theorem k145 : fnOk Tryz.prog 145 = some (M145, [.cn 4 3], 11) := by kernel_rfl
def M100 : MC :=
  .seq (.reg [⟨(some 3), .box 46 (.tmp 1), none⟩])
  (.seq (.any [(true, 0, [], ⟨(some 5), .mv (.tmp 0), none⟩),
      (true, 1, [], ⟨(some 6), .nilc (.tmp 5), none⟩),
      (true, 2, [], ⟨(some 7), .fa 24 (.tmp 6), none⟩),
      (true, 3, [], ⟨(some 8), .ld1 (.tmp 7), none⟩),
      (true, 4, [], ⟨(some 9), .fa 6 (.tmp 3), none⟩),
      (true, 5, [], ⟨(some 10), .ld1 (.tmp 9), none⟩),
      (true, 6, [], ⟨(some 11), .is 4 (.tmp 8) (.tmp 10), none⟩),
      (true, 7, [], ⟨(some 12), .ldn 4 (.tmp 11), none⟩),
      (false, 8, [0, 1, 2, 3, 4, 5, 6, 7], ⟨(some 4), .alloc 28 [(.int .i32 0), (.int .i32 0), (.int .i32 0), (.int .i32 0)], none⟩),
      (false, 9, [], ⟨none, .stn 4 (.tmp 4) (.tmp 12), none⟩)])
   (.seq (.reg [⟨(some 13), .fa 1 (.tmp 3), none⟩,
       ⟨(some 14), .ld1 (.tmp 13), none⟩])
    (.block 0 (.seq (.reg [⟨(some 16), .bin .eql (.tmp 14) (.const (.int .i64 1)), none⟩,
         ⟨(some 15), .mv (.tmp 16), none⟩])
      (.cond (.tmp 15)
       (.reg [⟨(some 17), .mv (.tmp 0), none⟩,
          ⟨(some 18), .ldn 4 (.tmp 4), none⟩,
          ⟨(some 19), .nilc (.tmp 17), none⟩,
          ⟨(some 20), .fa 13 (.tmp 19), none⟩,
          ⟨(some 21), .fa 0 (.tmp 20), none⟩,
          ⟨none, .stn 4 (.tmp 21) (.tmp 18), none⟩])
       (.seq (.reg [⟨(some 23), .bin .eql (.tmp 14) (.const (.int .i64 2)), none⟩,
           ⟨(some 22), .mv (.tmp 23), none⟩])
        (.cond (.tmp 22)
         (.reg [⟨(some 24), .mv (.tmp 0), none⟩,
            ⟨(some 25), .ia 4 1 (.tmp 4) (.const (.int .i64 0)), none⟩,
            ⟨(some 26), .ld1 (.tmp 25), none⟩,
            ⟨(some 27), .nilc (.tmp 24), none⟩,
            ⟨(some 28), .fa 13 (.tmp 27), none⟩,
            ⟨(some 29), .fa 4 (.tmp 28), none⟩,
            ⟨none, .st1 (.tmp 29) (.tmp 26), none⟩])
         (.seq (.reg [⟨(some 31), .bin .eql (.tmp 14) (.const (.int .i64 3)), none⟩,
             ⟨(some 30), .mv (.tmp 31), none⟩])
          (.cond (.tmp 30)
           (.any [(true, 0, [], ⟨(some 32), .mv (.tmp 0), none⟩),
              (true, 1, [], ⟨(some 33), .nilc (.tmp 32), none⟩),
              (true, 2, [], ⟨(some 34), .fa 13 (.tmp 33), none⟩),
              (true, 3, [], ⟨(some 35), .fa 5 (.tmp 34), none⟩),
              (true, 4, [], ⟨(some 36), .ld1 (.tmp 35), none⟩),
              (true, 5, [], ⟨(some 37), .fa 5 (.tmp 3), none⟩),
              (true, 6, [], ⟨(some 38), .ld1 (.tmp 37), none⟩),
              (false, 7, [0, 1, 2, 3, 4, 5, 6], ⟨(some 39), .ldn 4 (.tmp 4), none⟩),
              (false, 8, [], ⟨(some 40), .is 4 (.tmp 36) (.tmp 38), none⟩),
              (false, 9, [], ⟨none, .stn 4 (.tmp 40) (.tmp 39), none⟩)])
           (.seq (.reg [⟨(some 42), .bin .eql (.tmp 14) (.const (.int .i64 4)), none⟩,
               ⟨(some 41), .mv (.tmp 42), none⟩])
            (.cond (.tmp 41)
             (.reg [⟨(some 43), .mv (.tmp 0), none⟩,
                ⟨(some 44), .ldn 4 (.tmp 4), none⟩,
                ⟨(some 45), .nilc (.tmp 43), none⟩,
                ⟨(some 46), .fa 13 (.tmp 45), none⟩,
                ⟨(some 47), .fa 6 (.tmp 46), none⟩,
                ⟨none, .stn 4 (.tmp 47) (.tmp 44), none⟩])
             (.skip))))))))))))
theorem k100 : fnOk Tryz.prog 100 = some (M100, [], 48) := by kernel_rfl
def M17 : MC :=
  .seq (.reg [⟨(some 2), .box 24 (.tmp 0), none⟩,
     ⟨(some 3), .box 31 (.tmp 1), none⟩,
     ⟨(some 4), .mv (.const (.bool false)), none⟩])
  (.seq (.reg [⟨(some 6), .fa 5 (.tmp 2), none⟩,
      ⟨(some 7), .ld1 (.tmp 6), none⟩,
      ⟨(some 5), .mv (.tmp 7), none⟩])
   (.seq (.seq (.reg [⟨(some 8), .fa 0 (.tmp 2), none⟩,
        ⟨(some 9), .ld1 (.tmp 8), none⟩,
        ⟨(some 10), .bin .eql (.tmp 9) (.const (.int .i64 1)), none⟩])
     (.cond (.tmp 10)
      (.reg [⟨(some 5), .mv (.const (.int .i64 0)), none⟩])
      (.skip)))
    (.seq (.reg [⟨(some 11), .ldn 6 (.tmp 2), none⟩,
        ⟨(some 12), .call 31 [(.tmp 11)], none⟩,
        ⟨(some 13), .bin .eql (.tmp 12) (.const (.int .i64 0)), none⟩,
        ⟨(some 14), .mv (.tmp 13), none⟩,
        ⟨(some 15), .fa 0 (.tmp 3), (some (14, true))⟩,
        ⟨(some 16), .ld1 (.tmp 15), (some (14, true))⟩,
        ⟨(some 17), .len (.tmp 16), (some (14, true))⟩,
        ⟨(some 18), .fa 3 (.tmp 2), (some (14, true))⟩,
        ⟨(some 19), .ld1 (.tmp 18), (some (14, true))⟩,
        ⟨(some 20), .bin .eql (.tmp 17) (.tmp 19), (some (14, true))⟩,
        ⟨(some 21), .pick (.tmp 14) (.tmp 20) (.const (.bool false)), none⟩,
        ⟨(some 22), .mv (.tmp 21), none⟩,
        ⟨(some 23), .fa 1 (.tmp 3), (some (22, true))⟩,
        ⟨(some 24), .ld1 (.tmp 23), (some (22, true))⟩,
        ⟨(some 25), .len (.tmp 24), (some (22, true))⟩,
        ⟨(some 26), .fa 4 (.tmp 2), (some (22, true))⟩,
        ⟨(some 27), .ld1 (.tmp 26), (some (22, true))⟩,
        ⟨(some 28), .bin .eql (.tmp 25) (.tmp 27), (some (22, true))⟩,
        ⟨(some 29), .pick (.tmp 22) (.tmp 28) (.const (.bool false)), none⟩,
        ⟨(some 30), .mv (.tmp 29), none⟩,
        ⟨(some 31), .fa 2 (.tmp 3), (some (30, true))⟩,
        ⟨(some 32), .ld1 (.tmp 31), (some (30, true))⟩,
        ⟨(some 33), .len (.tmp 32), (some (30, true))⟩,
        ⟨(some 34), .mv (.tmp 5), (some (30, true))⟩,
        ⟨(some 35), .bin .eql (.tmp 33) (.tmp 34), (some (30, true))⟩,
        ⟨(some 36), .pick (.tmp 30) (.tmp 35) (.const (.bool false)), none⟩,
        ⟨(some 4), .mv (.tmp 36), none⟩])
     (.ret))))
theorem k17 : fnOk Tryz.prog 17 = some (M17, [.t 4], 37) := by kernel_rfl
def M31 : MC :=
  .seq (.reg [⟨(some 1), .box 24 (.tmp 0), none⟩,
     ⟨(some 2), .mv (.const (.int .i64 0)), none⟩])
  (.seq (.reg [⟨(some 3), .mv (.const (.int .i64 8)), none⟩])
   (.seq (.seq (.reg [⟨(some 6), .fa 0 (.tmp 1), none⟩,
        ⟨(some 7), .ld1 (.tmp 6), none⟩])
     (.block 0 (.seq (.reg [⟨(some 9), .bin .eql (.tmp 7) (.const (.int .i64 1)), none⟩,
          ⟨(some 8), .mv (.tmp 9), none⟩])
       (.cond (.tmp 8)
        (.skip)
        (.seq (.reg [⟨(some 11), .bin .eql (.tmp 7) (.const (.int .i64 2)), none⟩,
            ⟨(some 10), .mv (.tmp 11), none⟩])
         (.cond (.tmp 10)
          (.reg [⟨(some 3), .mv (.const (.int .i64 0)), none⟩])
          (.seq (.reg [⟨(some 2), .mv (.const (.int .i64 260)), none⟩])
           (.ret))))))))
    (.seq (.seq (.reg [⟨(some 12), .fa 1 (.tmp 1), none⟩,
         ⟨(some 13), .ld1 (.tmp 12), none⟩,
         ⟨(some 14), .len (.tmp 13), none⟩,
         ⟨(some 15), .bin .gtr (.tmp 14) (.const (.int .i64 4096)), none⟩,
         ⟨(some 16), .mv (.tmp 15), none⟩,
         ⟨(some 17), .fa 2 (.tmp 1), (some (16, false))⟩,
         ⟨(some 18), .ld1 (.tmp 17), (some (16, false))⟩,
         ⟨(some 19), .call 50 [(.tmp 18), (.const (.int .i64 1025))], (some (16, false))⟩,
         ⟨(some 20), .un .not (.tmp 19), (some (16, false))⟩,
         ⟨(some 21), .pick (.tmp 16) (.const (.bool true)) (.tmp 20), none⟩,
         ⟨(some 22), .mv (.tmp 21), none⟩,
         ⟨(some 23), .fa 3 (.tmp 1), (some (22, false))⟩,
         ⟨(some 24), .ld1 (.tmp 23), (some (22, false))⟩,
         ⟨(some 25), .mv (.tmp 3), (some (22, false))⟩,
         ⟨(some 26), .bin .add (.tmp 25) (.const (.int .i64 1)), (some (22, false))⟩,
         ⟨(some 27), .call 50 [(.tmp 24), (.tmp 26)], (some (22, false))⟩,
         ⟨(some 28), .un .not (.tmp 27), (some (22, false))⟩,
         ⟨(some 29), .pick (.tmp 22) (.const (.bool true)) (.tmp 28), none⟩,
         ⟨(some 30), .mv (.tmp 29), none⟩,
         ⟨(some 31), .fa 4 (.tmp 1), (some (30, false))⟩,
         ⟨(some 32), .ld1 (.tmp 31), (some (30, false))⟩,
         ⟨(some 33), .call 50 [(.tmp 32), (.const (.int .i64 33))], (some (30, false))⟩,
         ⟨(some 34), .un .not (.tmp 33), (some (30, false))⟩,
         ⟨(some 35), .pick (.tmp 30) (.const (.bool true)) (.tmp 34), none⟩,
         ⟨(some 36), .mv (.tmp 35), none⟩,
         ⟨(some 37), .fa 5 (.tmp 1), (some (36, false))⟩,
         ⟨(some 38), .ld1 (.tmp 37), (some (36, false))⟩,
         ⟨(some 39), .call 50 [(.tmp 38), (.const (.int .i64 5))], (some (36, false))⟩,
         ⟨(some 40), .un .not (.tmp 39), (some (36, false))⟩,
         ⟨(some 41), .pick (.tmp 36) (.const (.bool true)) (.tmp 40), none⟩])
      (.cond (.tmp 41)
       (.seq (.reg [⟨(some 2), .mv (.const (.int .i64 260)), none⟩])
        (.ret))
       (.skip)))
     (.seq (.seq (.reg [⟨(some 42), .fa 1 (.tmp 1), none⟩,
          ⟨(some 43), .ld1 (.tmp 42), none⟩,
          ⟨(some 44), .len (.tmp 43), none⟩,
          ⟨(some 45), .mv (.const (.int .i64 0)), none⟩])
       (.block 1 (.loop (.seq (.reg [⟨(some 46), .bin .lss (.tmp 45) (.tmp 44), none⟩])
          (.seq (.cond (.tmp 46)
            (.skip)
            (.exit 1))
           (.seq (.block 2 (.seq (.reg [⟨(some 47), .mv (.tmp 45), none⟩,
                 ⟨(some 48), .is 16 (.tmp 43) (.tmp 45), none⟩,
                 ⟨(some 49), .ldn 16 (.tmp 48), none⟩,
                 ⟨(some 5), .alloc 46 [(.int .i64 0), (.int .i64 0), (.int .i64 0), (.int .i64 0), (.int .i64 0), (.int .i64 0), (.int .i64 0), (.int .i64 0), (.int .i32 0), (.int .i32 0), (.int .i32 0), (.int .i32 0), (.int .i64 0), (.int .i64 0), (.int .i64 0), (.int .i64 0)], none⟩,
                 ⟨(some 4), .mv (.tmp 47), none⟩,
                 ⟨none, .stn 16 (.tmp 5) (.tmp 49), none⟩])
              (.seq (.any [(true, 0, [], ⟨(some 50), .ldn 6 (.tmp 1), none⟩),
                  (false, 1, [0, 5, 7, 11, 13], ⟨(some 51), .mv (.tmp 4), none⟩),
                  (false, 2, [5, 7, 11, 13], ⟨(some 52), .call 51 [(.tmp 50), (.tmp 51)], none⟩),
                  (false, 3, [5, 7, 11, 13], ⟨(some 53), .un .not (.tmp 52), none⟩),
                  (false, 4, [5, 7, 11, 13], ⟨(some 54), .mv (.tmp 53), none⟩),
                  (true, 5, [], ⟨(some 55), .ldn 16 (.tmp 5), (some (54, false))⟩),
                  (true, 7, [], ⟨(some 57), .ldn 16 (.tmp 5), (some (54, false))⟩),
                  (false, 6, [7, 11, 13], ⟨(some 56), .call 52 [(.tmp 55)], (some (54, false))⟩),
                  (false, 8, [11, 13], ⟨(some 58), .eqa true 16 (.tmp 56) (.tmp 57), (some (54, false))⟩),
                  (false, 9, [11, 13], ⟨(some 59), .pick (.tmp 54) (.const (.bool true)) (.tmp 58), none⟩),
                  (false, 10, [11, 13], ⟨(some 60), .mv (.tmp 59), none⟩),
                  (true, 11, [], ⟨(some 61), .ldn 16 (.tmp 5), (some (60, false))⟩),
                  (true, 13, [], ⟨(some 63), .fn 55 [(.tmp 1)], (some (60, false))⟩),
                  (false, 12, [13], ⟨(some 62), .call 54 [(.tmp 61)], (some (60, false))⟩),
                  (false, 14, [], ⟨(some 64), .call 53 [(.tmp 62), (.tmp 63)], (some (60, false))⟩),
                  (false, 15, [], ⟨(some 65), .pick (.tmp 60) (.const (.bool true)) (.tmp 64), none⟩)])
               (.cond (.tmp 65)
                (.seq (.reg [⟨(some 2), .mv (.const (.int .i64 260)), none⟩])
                 (.ret))
                (.skip)))))
            (.reg [⟨(some 66), .bin .add (.tmp 45) (.const (.int .i64 1)), none⟩,
               ⟨(some 45), .mv (.tmp 66), none⟩])))))))
      (.seq (.reg [⟨(some 2), .mv (.const (.int .i64 0)), none⟩])
       (.ret))))))
theorem k31 : fnOk Tryz.prog 31 = some (M31, [.t 2], 67) := by kernel_rfl
def M53 : MC :=
  .seq (.reg [⟨(some 4), .mv (.const (.bool false)), none⟩])
  (.seq (.reg [⟨(some 5), .mv (.tmp 0), none⟩,
      ⟨(some 6), .mv (.tmp 1), none⟩,
      ⟨(some 7), .call 107 [(.tmp 5), (.tmp 6)], none⟩,
      ⟨(some 8), .bin .geq (.tmp 7) (.const (.int .i64 0)), none⟩,
      ⟨(some 4), .mv (.tmp 8), none⟩])
   (.ret))
theorem k53 : fnOk Tryz.prog 53 = some (M53, [.t 4], 9) := by kernel_rfl
def M107 : MC :=
  .seq (.reg [⟨(some 4), .mv (.const (.int .i64 0)), none⟩])
  (.seq (.seq (.reg [⟨(some 6), .mv (.tmp 0), none⟩,
       ⟨(some 7), .len (.tmp 6), none⟩,
       ⟨(some 8), .mv (.const (.int .i64 0)), none⟩])
    (.block 0 (.loop (.seq (.reg [⟨(some 9), .bin .lss (.tmp 8) (.tmp 7), none⟩])
       (.seq (.cond (.tmp 9)
         (.skip)
         (.exit 0))
        (.seq (.block 1 (.seq (.reg [⟨(some 10), .mv (.tmp 8), none⟩,
              ⟨(some 5), .mv (.tmp 10), none⟩])
           (.seq (.reg [⟨(some 11), .mv (.tmp 1), none⟩,
               ⟨(some 12), .mv (.tmp 0), none⟩,
               ⟨(some 13), .mv (.tmp 5), none⟩,
               ⟨(some 14), .is 1 (.tmp 12) (.tmp 13), none⟩,
               ⟨(some 15), .ld1 (.tmp 14), none⟩,
               ⟨(some 16), .yv (.tmp 11) [(.tmp 15)], none⟩])
            (.cond (.tmp 16)
             (.seq (.reg [⟨(some 17), .mv (.tmp 5), none⟩,
                 ⟨(some 4), .mv (.tmp 17), none⟩])
              (.ret))
             (.skip)))))
         (.reg [⟨(some 18), .bin .add (.tmp 8) (.const (.int .i64 1)), none⟩,
            ⟨(some 8), .mv (.tmp 18), none⟩])))))))
   (.seq (.reg [⟨(some 4), .mv (.const (.int .i64 (-1))), none⟩])
    (.ret)))
theorem k107 : fnOk Tryz.prog 107 = some (M107, [.t 4], 19) := by kernel_rfl
def M54 : MC :=
  .seq (.reg [⟨(some 1), .box 46 (.tmp 0), none⟩,
     ⟨(some 2), .mv (.const (.slice none 0 0)), none⟩])
  (.seq (.reg [⟨(some 6), .ldn 16 (.tmp 1), none⟩,
      ⟨(some 7), .call 106 [(.tmp 6)], none⟩,
      ⟨(some 3), .mv (.tmp 7), none⟩])
   (.seq (.seq (.reg [⟨(some 9), .ldn 16 (.tmp 1), none⟩,
        ⟨(some 10), .call 105 [(.tmp 9)], none⟩,
        ⟨(some 8), .mv (.tmp 10), none⟩,
        ⟨(some 11), .ext 0 (.tmp 8), none⟩,
        ⟨(some 12), .ext 1 (.tmp 8), none⟩,
        ⟨(some 4), .mv (.tmp 11), none⟩,
        ⟨(some 5), .mv (.tmp 12), none⟩])
     (.seq (.reg [⟨(some 13), .mv (.tmp 5), none⟩])
      (.cond (.tmp 13)
       (.reg [⟨(some 14), .mv (.tmp 4), none⟩,
          ⟨(some 15), .bslice 3 1 [(.int .i64 0)] [(0, 1, (.tmp 14))], none⟩,
          ⟨(some 16), .mv (.tmp 3), none⟩,
          ⟨(some 17), .app 3 1 8 [(.int .i64 0)] (.tmp 15) (.tmp 16), none⟩,
          ⟨(some 3), .mv (.tmp 17), none⟩])
       (.skip))))
    (.seq (.reg [⟨(some 18), .mv (.tmp 3), none⟩,
        ⟨(some 2), .mv (.tmp 18), none⟩])
     (.ret))))
theorem k54 : fnOk Tryz.prog 54 = some (M54, [.t 2], 19) := by kernel_rfl
def M105 : MC :=
  .seq (.reg [⟨(some 1), .box 46 (.tmp 0), none⟩,
     ⟨(some 2), .mv (.const (.int .i64 0)), none⟩,
     ⟨(some 3), .mv (.const (.bool false)), none⟩])
  (.seq (.seq (.reg [⟨(some 4), .fa 0 (.tmp 1), none⟩,
       ⟨(some 5), .ld1 (.tmp 4), none⟩])
    (.block 0 (.seq (.seq (.reg [⟨(some 7), .bin .eql (.tmp 5) (.const (.int .i64 4)), none⟩,
          ⟨(some 6), .mv (.tmp 7), none⟩])
       (.cond (.tmp 6)
        (.skip)
        (.seq (.reg [⟨(some 8), .bin .eql (.tmp 5) (.const (.int .i64 10)), none⟩,
            ⟨(some 6), .mv (.tmp 8), none⟩])
         (.cond (.tmp 6)
          (.skip)
          (.seq (.reg [⟨(some 9), .bin .eql (.tmp 5) (.const (.int .i64 11)), none⟩,
              ⟨(some 6), .mv (.tmp 9), none⟩])
           (.cond (.tmp 6)
            (.skip)
            (.reg [⟨(some 10), .bin .eql (.tmp 5) (.const (.int .i64 12)), none⟩,
               ⟨(some 6), .mv (.tmp 10), none⟩])))))))
      (.cond (.tmp 6)
       (.seq (.reg [⟨(some 2), .mv (.const (.int .i64 0)), none⟩,
           ⟨(some 3), .mv (.const (.bool false)), none⟩])
        (.ret))
       (.skip)))))
   (.seq (.seq (.reg [⟨(some 11), .fa 0 (.tmp 1), none⟩,
        ⟨(some 12), .ld1 (.tmp 11), none⟩,
        ⟨(some 13), .bin .lss (.tmp 12) (.const (.int .i64 1)), none⟩,
        ⟨(some 14), .mv (.tmp 13), none⟩,
        ⟨(some 15), .fa 0 (.tmp 1), (some (14, false))⟩,
        ⟨(some 16), .ld1 (.tmp 15), (some (14, false))⟩,
        ⟨(some 17), .bin .gtr (.tmp 16) (.const (.int .i64 12)), (some (14, false))⟩,
        ⟨(some 18), .pick (.tmp 14) (.const (.bool true)) (.tmp 17), none⟩])
     (.cond (.tmp 18)
      (.seq (.reg [⟨(some 2), .mv (.const (.int .i64 0)), none⟩,
          ⟨(some 3), .mv (.const (.bool false)), none⟩])
       (.ret))
      (.skip)))
    (.seq (.reg [⟨(some 19), .fa 4 (.tmp 1), none⟩,
        ⟨(some 20), .ld1 (.tmp 19), none⟩,
        ⟨(some 2), .mv (.tmp 20), none⟩,
        ⟨(some 3), .mv (.const (.bool true)), none⟩])
     (.ret))))
theorem k105 : fnOk Tryz.prog 105 = some (M105, [.t 2, .t 3], 21) := by kernel_rfl
def M106 : MC :=
  .seq (.reg [⟨(some 1), .box 46 (.tmp 0), none⟩,
     ⟨(some 2), .mv (.const (.slice none 0 0)), none⟩])
  (.seq (.seq (.reg [⟨(some 4), .fa 0 (.tmp 1), none⟩,
       ⟨(some 5), .ld1 (.tmp 4), none⟩])
    (.block 0 (.seq (.seq (.reg [⟨(some 7), .bin .eql (.tmp 5) (.const (.int .i64 2)), none⟩,
          ⟨(some 6), .mv (.tmp 7), none⟩])
       (.cond (.tmp 6)
        (.skip)
        (.seq (.reg [⟨(some 8), .bin .eql (.tmp 5) (.const (.int .i64 6)), none⟩,
            ⟨(some 6), .mv (.tmp 8), none⟩])
         (.cond (.tmp 6)
          (.skip)
          (.reg [⟨(some 9), .bin .eql (.tmp 5) (.const (.int .i64 8)), none⟩,
             ⟨(some 6), .mv (.tmp 9), none⟩])))))
      (.cond (.tmp 6)
       (.seq (.reg [⟨(some 10), .fa 5 (.tmp 1), none⟩,
           ⟨(some 11), .ld1 (.tmp 10), none⟩,
           ⟨(some 12), .bslice 3 1 [(.int .i64 0)] [(0, 1, (.tmp 11))], none⟩,
           ⟨(some 2), .mv (.tmp 12), none⟩])
        (.ret))
       (.seq (.seq (.reg [⟨(some 14), .bin .eql (.tmp 5) (.const (.int .i64 4)), none⟩,
            ⟨(some 13), .mv (.tmp 14), none⟩])
         (.cond (.tmp 13)
          (.skip)
          (.reg [⟨(some 15), .bin .eql (.tmp 5) (.const (.int .i64 11)), none⟩,
             ⟨(some 13), .mv (.tmp 15), none⟩])))
        (.cond (.tmp 13)
         (.seq (.reg [⟨(some 16), .fa 6 (.tmp 1), none⟩,
             ⟨(some 17), .ld1 (.tmp 16), none⟩,
             ⟨(some 18), .bslice 3 1 [(.int .i64 0)] [(0, 1, (.tmp 17))], none⟩,
             ⟨(some 2), .mv (.tmp 18), none⟩])
          (.ret))
         (.seq (.reg [⟨(some 20), .bin .eql (.tmp 5) (.const (.int .i64 5)), none⟩,
             ⟨(some 19), .mv (.tmp 20), none⟩])
          (.cond (.tmp 19)
           (.seq (.reg [⟨(some 21), .fa 5 (.tmp 1), none⟩,
               ⟨(some 22), .ld1 (.tmp 21), none⟩,
               ⟨(some 23), .fa 6 (.tmp 1), none⟩,
               ⟨(some 24), .ld1 (.tmp 23), none⟩,
               ⟨(some 25), .fa 7 (.tmp 1), none⟩,
               ⟨(some 26), .ld1 (.tmp 25), none⟩,
               ⟨(some 27), .bslice 3 3 [(.int .i64 0), (.int .i64 0), (.int .i64 0)] [(0, 1, (.tmp 22)), (1, 1, (.tmp 24)), (2, 1, (.tmp 26))], none⟩,
               ⟨(some 3), .mv (.tmp 27), none⟩])
            (.seq (.reg [⟨(some 28), .mv (.tmp 3), none⟩,
                ⟨(some 29), .fa 1 (.tmp 1), none⟩,
                ⟨(some 30), .ld1 (.tmp 29), none⟩,
                ⟨(some 31), .fa 2 (.tmp 1), none⟩,
                ⟨(some 32), .ld1 (.tmp 31), none⟩,
                ⟨(some 33), .call 43 [(.tmp 30), (.tmp 32)], none⟩,
                ⟨(some 34), .slc 1 (.tmp 28) none (some (.tmp 33)), none⟩,
                ⟨(some 2), .mv (.tmp 34), none⟩])
             (.ret)))
           (.seq (.reg [⟨(some 36), .bin .eql (.tmp 5) (.const (.int .i64 7)), none⟩,
               ⟨(some 35), .mv (.tmp 36), none⟩])
            (.cond (.tmp 35)
             (.seq (.reg [⟨(some 37), .fa 5 (.tmp 1), none⟩,
                 ⟨(some 38), .ld1 (.tmp 37), none⟩,
                 ⟨(some 39), .fa 4 (.tmp 1), none⟩,
                 ⟨(some 40), .ld1 (.tmp 39), none⟩,
                 ⟨(some 41), .bslice 3 2 [(.int .i64 0), (.int .i64 0)] [(0, 1, (.tmp 38)), (1, 1, (.tmp 40))], none⟩,
                 ⟨(some 2), .mv (.tmp 41), none⟩])
              (.ret))
             (.seq (.reg [⟨(some 43), .bin .eql (.tmp 5) (.const (.int .i64 9)), none⟩,
                 ⟨(some 42), .mv (.tmp 43), none⟩])
              (.cond (.tmp 42)
               (.seq (.reg [⟨(some 44), .fa 5 (.tmp 1), none⟩,
                   ⟨(some 45), .ld1 (.tmp 44), none⟩,
                   ⟨(some 46), .fa 6 (.tmp 1), none⟩,
                   ⟨(some 47), .ld1 (.tmp 46), none⟩,
                   ⟨(some 48), .bslice 3 2 [(.int .i64 0), (.int .i64 0)] [(0, 1, (.tmp 45)), (1, 1, (.tmp 47))], none⟩,
                   ⟨(some 2), .mv (.tmp 48), none⟩])
                (.ret))
               (.skip)))))))))))))
   (.seq (.reg [⟨(some 2), .mv (.const (.slice none 0 0)), none⟩])
    (.ret)))
theorem k106 : fnOk Tryz.prog 106 = some (M106, [.t 2], 49) := by kernel_rfl
def M55 : MC :=
  .seq (.reg [⟨(some 3), .mv (.const (.bool false)), none⟩])
  (.seq (.reg [⟨(some 4), .mv (.tmp 0), none⟩,
      ⟨(some 5), .fa 2 (.tmp 1), none⟩,
      ⟨(some 6), .ld1 (.tmp 5), none⟩,
      ⟨(some 7), .call 50 [(.tmp 4), (.tmp 6)], none⟩,
      ⟨(some 8), .un .not (.tmp 7), none⟩,
      ⟨(some 3), .mv (.tmp 8), none⟩])
   (.ret))
theorem k55 : fnOk Tryz.prog 55 = some (M55, [.t 3], 9) := by kernel_rfl
def M50 : MC :=
  .seq (.reg [⟨(some 4), .mv (.const (.bool false)), none⟩])
  (.seq (.reg [⟨(some 5), .mv (.tmp 0), none⟩,
      ⟨(some 6), .bin .geq (.tmp 5) (.const (.int .i64 0)), none⟩,
      ⟨(some 7), .mv (.tmp 6), none⟩,
      ⟨(some 8), .mv (.tmp 0), (some (7, true))⟩,
      ⟨(some 9), .mv (.tmp 1), (some (7, true))⟩,
      ⟨(some 10), .bin .lss (.tmp 8) (.tmp 9), (some (7, true))⟩,
      ⟨(some 11), .pick (.tmp 7) (.tmp 10) (.const (.bool false)), none⟩,
      ⟨(some 4), .mv (.tmp 11), none⟩])
   (.ret))
theorem k50 : fnOk Tryz.prog 50 = some (M50, [.t 4], 12) := by kernel_rfl
def M52 : MC :=
  .seq (.reg [⟨(some 1), .box 46 (.tmp 0), none⟩,
     ⟨(some 2), .alloc 46 [(.int .i64 0), (.int .i64 0), (.int .i64 0), (.int .i64 0), (.int .i64 0), (.int .i64 0), (.int .i64 0), (.int .i64 0), (.int .i32 0), (.int .i32 0), (.int .i32 0), (.int .i32 0), (.int .i64 0), (.int .i64 0), (.int .i64 0), (.int .i64 0)], none⟩])
  (.seq (.reg [⟨(some 6), .fa 0 (.tmp 1), none⟩,
      ⟨(some 7), .ld1 (.tmp 6), none⟩,
      ⟨(some 8), .build [(.int .i64 0), (.int .i64 0), (.int .i64 0), (.int .i64 0), (.int .i64 0), (.int .i64 0), (.int .i64 0), (.int .i64 0), (.int .i32 0), (.int .i32 0), (.int .i32 0), (.int .i32 0), (.int .i64 0), (.int .i64 0), (.int .i64 0), (.int .i64 0)] [(0, 1, (.tmp 7))], none⟩,
      ⟨(some 3), .alloc 46 [(.int .i64 0), (.int .i64 0), (.int .i64 0), (.int .i64 0), (.int .i64 0), (.int .i64 0), (.int .i64 0), (.int .i64 0), (.int .i32 0), (.int .i32 0), (.int .i32 0), (.int .i32 0), (.int .i64 0), (.int .i64 0), (.int .i64 0), (.int .i64 0)], none⟩,
      ⟨none, .stn 16 (.tmp 3) (.tmp 8), none⟩])
   (.seq (.reg [⟨(some 10), .ldn 16 (.tmp 1), none⟩,
       ⟨(some 11), .call 105 [(.tmp 10)], none⟩,
       ⟨(some 9), .mv (.tmp 11), none⟩,
       ⟨(some 12), .ext 0 (.tmp 9), none⟩,
       ⟨(some 13), .ext 1 (.tmp 9), none⟩,
       ⟨(some 14), .fa 4 (.tmp 3), none⟩,
       ⟨none, .st1 (.tmp 14) (.tmp 12), none⟩])
    (.seq (.seq (.reg [⟨(some 15), .fa 0 (.tmp 1), none⟩,
         ⟨(some 16), .ld1 (.tmp 15), none⟩])
      (.block 0 (.seq (.reg [⟨(some 18), .bin .eql (.tmp 16) (.const (.int .i64 1)), none⟩,
           ⟨(some 17), .mv (.tmp 18), none⟩])
        (.cond (.tmp 17)
         (.reg [⟨(some 19), .fa 8 (.tmp 1), none⟩,
            ⟨(some 20), .ldn 4 (.tmp 19), none⟩,
            ⟨(some 21), .fa 8 (.tmp 3), none⟩,
            ⟨none, .stn 4 (.tmp 21) (.tmp 20), none⟩])
         (.seq (.seq (.reg [⟨(some 23), .bin .eql (.tmp 16) (.const (.int .i64 2)), none⟩,
              ⟨(some 22), .mv (.tmp 23), none⟩])
           (.cond (.tmp 22)
            (.skip)
            (.reg [⟨(some 24), .bin .eql (.tmp 16) (.const (.int .i64 10)), none⟩,
               ⟨(some 22), .mv (.tmp 24), none⟩])))
          (.cond (.tmp 22)
           (.reg [⟨(some 25), .fa 5 (.tmp 1), none⟩,
              ⟨(some 26), .ld1 (.tmp 25), none⟩,
              ⟨(some 27), .fa 5 (.tmp 3), none⟩,
              ⟨none, .st1 (.tmp 27) (.tmp 26), none⟩])
           (.seq (.reg [⟨(some 29), .bin .eql (.tmp 16) (.const (.int .i64 3)), none⟩,
               ⟨(some 28), .mv (.tmp 29), none⟩])
            (.cond (.tmp 28)
             (.any [(true, 0, [], ⟨(some 30), .fa 1 (.tmp 1), none⟩),
                (true, 1, [], ⟨(some 31), .ld1 (.tmp 30), none⟩),
                (true, 2, [], ⟨(some 32), .fa 5 (.tmp 1), none⟩),
                (true, 3, [], ⟨(some 33), .ld1 (.tmp 32), none⟩),
                (false, 4, [2, 3], ⟨(some 34), .fa 1 (.tmp 3), none⟩),
                (false, 5, [2, 3], ⟨none, .st1 (.tmp 34) (.tmp 31), none⟩),
                (false, 6, [], ⟨(some 35), .fa 5 (.tmp 3), none⟩),
                (false, 7, [], ⟨none, .st1 (.tmp 35) (.tmp 33), none⟩)])
             (.seq (.reg [⟨(some 37), .bin .eql (.tmp 16) (.const (.int .i64 4)), none⟩,
                 ⟨(some 36), .mv (.tmp 37), none⟩])
              (.cond (.tmp 36)
               (.any [(true, 0, [], ⟨(some 38), .fa 1 (.tmp 1), none⟩),
                  (true, 1, [], ⟨(some 39), .ld1 (.tmp 38), none⟩),
                  (true, 2, [], ⟨(some 40), .fa 5 (.tmp 1), none⟩),
                  (true, 3, [], ⟨(some 41), .ld1 (.tmp 40), none⟩),
                  (true, 4, [], ⟨(some 42), .fa 6 (.tmp 1), none⟩),
                  (true, 5, [], ⟨(some 43), .ld1 (.tmp 42), none⟩),
                  (false, 6, [2, 3, 4, 5], ⟨(some 44), .fa 1 (.tmp 3), none⟩),
                  (false, 7, [2, 3, 4, 5], ⟨none, .st1 (.tmp 44) (.tmp 39), none⟩),
                  (false, 8, [4, 5], ⟨(some 45), .fa 5 (.tmp 3), none⟩),
                  (false, 9, [4, 5], ⟨none, .st1 (.tmp 45) (.tmp 41), none⟩),
                  (false, 10, [], ⟨(some 46), .fa 6 (.tmp 3), none⟩),
                  (false, 11, [], ⟨none, .st1 (.tmp 46) (.tmp 43), none⟩)])
               (.seq (.reg [⟨(some 48), .bin .eql (.tmp 16) (.const (.int .i64 5)), none⟩,
                   ⟨(some 47), .mv (.tmp 48), none⟩])
                (.cond (.tmp 47)
                 (.seq (.any [(true, 0, [], ⟨(some 49), .fa 1 (.tmp 1), none⟩),
                     (true, 1, [], ⟨(some 50), .ld1 (.tmp 49), none⟩),
                     (true, 2, [], ⟨(some 51), .fa 2 (.tmp 1), none⟩),
                     (true, 3, [], ⟨(some 52), .ld1 (.tmp 51), none⟩),
                     (true, 4, [], ⟨(some 53), .fa 3 (.tmp 1), none⟩),
                     (true, 5, [], ⟨(some 54), .ld1 (.tmp 53), none⟩),
                     (false, 6, [2, 3, 4, 5], ⟨(some 55), .fa 1 (.tmp 3), none⟩),
                     (false, 7, [2, 3, 4, 5], ⟨none, .st1 (.tmp 55) (.tmp 50), none⟩),
                     (false, 8, [4, 5], ⟨(some 56), .fa 2 (.tmp 3), none⟩),
                     (false, 9, [4, 5], ⟨none, .st1 (.tmp 56) (.tmp 52), none⟩),
                     (false, 10, [], ⟨(some 57), .fa 3 (.tmp 3), none⟩),
                     (false, 11, [], ⟨none, .st1 (.tmp 57) (.tmp 54), none⟩)])
                  (.seq (.reg [⟨(some 58), .ldn 16 (.tmp 1), none⟩,
                      ⟨(some 59), .call 106 [(.tmp 58)], none⟩,
                      ⟨(some 60), .len (.tmp 59), none⟩,
                      ⟨(some 61), .mv (.const (.int .i64 0)), none⟩])
                   (.block 1 (.loop (.seq (.reg [⟨(some 62), .bin .lss (.tmp 61) (.tmp 60), none⟩])
                      (.seq (.cond (.tmp 62)
                        (.skip)
                        (.exit 1))
                       (.seq (.block 2 (.seq (.reg [⟨(some 63), .mv (.tmp 61), none⟩,
                             ⟨(some 64), .is 1 (.tmp 59) (.tmp 61), none⟩,
                             ⟨(some 65), .ld1 (.tmp 64), none⟩,
                             ⟨(some 4), .mv (.tmp 63), none⟩,
                             ⟨(some 5), .mv (.tmp 65), none⟩])
                          (.reg [⟨(some 66), .fa 5 (.tmp 3), none⟩,
                             ⟨(some 67), .fa 6 (.tmp 3), none⟩,
                             ⟨(some 68), .fa 7 (.tmp 3), none⟩,
                             ⟨(some 69), .bslice 122 3 [(.pointer none), (.pointer none), (.pointer none)] [(0, 1, (.tmp 66)), (1, 1, (.tmp 67)), (2, 1, (.tmp 68))], none⟩,
                             ⟨(some 70), .mv (.tmp 4), none⟩,
                             ⟨(some 71), .is 1 (.tmp 69) (.tmp 70), none⟩,
                             ⟨(some 72), .ld1 (.tmp 71), none⟩,
                             ⟨(some 73), .mv (.tmp 5), none⟩,
                             ⟨(some 74), .nilc (.tmp 72), none⟩,
                             ⟨none, .st1 (.tmp 74) (.tmp 73), none⟩])))
                        (.reg [⟨(some 75), .bin .add (.tmp 61) (.const (.int .i64 1)), none⟩,
                           ⟨(some 61), .mv (.tmp 75), none⟩]))))))))
                 (.seq (.seq (.reg [⟨(some 77), .bin .eql (.tmp 16) (.const (.int .i64 6)), none⟩,
                      ⟨(some 76), .mv (.tmp 77), none⟩])
                   (.cond (.tmp 76)
                    (.skip)
                    (.reg [⟨(some 78), .bin .eql (.tmp 16) (.const (.int .i64 7)), none⟩,
                       ⟨(some 76), .mv (.tmp 78), none⟩])))
                  (.cond (.tmp 76)
                   (.any [(true, 0, [], ⟨(some 79), .fa 5 (.tmp 1), none⟩),
                      (true, 1, [], ⟨(some 80), .ld1 (.tmp 79), none⟩),
                      (true, 2, [], ⟨(some 81), .fa 3 (.tmp 1), none⟩),
                      (true, 3, [], ⟨(some 82), .ld1 (.tmp 81), none⟩),
                      (true, 4, [], ⟨(some 83), .fa 12 (.tmp 1), none⟩),
                      (true, 5, [], ⟨(some 84), .ldn 4 (.tmp 83), none⟩),
                      (false, 6, [2, 3, 4, 5], ⟨(some 85), .fa 5 (.tmp 3), none⟩),
                      (false, 7, [2, 3, 4, 5], ⟨none, .st1 (.tmp 85) (.tmp 80), none⟩),
                      (false, 8, [4, 5], ⟨(some 86), .fa 3 (.tmp 3), none⟩),
                      (false, 9, [4, 5], ⟨none, .st1 (.tmp 86) (.tmp 82), none⟩),
                      (false, 10, [], ⟨(some 87), .fa 12 (.tmp 3), none⟩),
                      (false, 11, [], ⟨none, .stn 4 (.tmp 87) (.tmp 84), none⟩)])
                   (.seq (.reg [⟨(some 89), .bin .eql (.tmp 16) (.const (.int .i64 8)), none⟩,
                       ⟨(some 88), .mv (.tmp 89), none⟩])
                    (.cond (.tmp 88)
                     (.any [(true, 0, [], ⟨(some 90), .fa 5 (.tmp 1), none⟩),
                        (true, 1, [], ⟨(some 91), .ld1 (.tmp 90), none⟩),
                        (true, 2, [], ⟨(some 92), .fa 3 (.tmp 1), none⟩),
                        (true, 3, [], ⟨(some 93), .ld1 (.tmp 92), none⟩),
                        (true, 4, [], ⟨(some 94), .fa 2 (.tmp 1), none⟩),
                        (true, 5, [], ⟨(some 95), .ld1 (.tmp 94), none⟩),
                        (true, 6, [], ⟨(some 96), .fa 1 (.tmp 1), none⟩),
                        (true, 7, [], ⟨(some 97), .ld1 (.tmp 96), none⟩),
                        (false, 8, [2, 3, 4, 5, 6, 7], ⟨(some 98), .fa 5 (.tmp 3), none⟩),
                        (false, 9, [2, 3, 4, 5, 6, 7], ⟨none, .st1 (.tmp 98) (.tmp 91), none⟩),
                        (false, 10, [4, 5, 6, 7], ⟨(some 99), .fa 3 (.tmp 3), none⟩),
                        (false, 11, [4, 5, 6, 7], ⟨none, .st1 (.tmp 99) (.tmp 93), none⟩),
                        (false, 12, [6, 7], ⟨(some 100), .fa 2 (.tmp 3), none⟩),
                        (false, 13, [6, 7], ⟨none, .st1 (.tmp 100) (.tmp 95), none⟩),
                        (false, 14, [], ⟨(some 101), .fa 1 (.tmp 3), none⟩),
                        (false, 15, [], ⟨none, .st1 (.tmp 101) (.tmp 97), none⟩)])
                     (.seq (.seq (.reg [⟨(some 103), .bin .eql (.tmp 16) (.const (.int .i64 9)), none⟩,
                          ⟨(some 102), .mv (.tmp 103), none⟩])
                       (.cond (.tmp 102)
                        (.skip)
                        (.reg [⟨(some 104), .bin .eql (.tmp 16) (.const (.int .i64 11)), none⟩,
                           ⟨(some 102), .mv (.tmp 104), none⟩])))
                      (.cond (.tmp 102)
                       (.any [(true, 0, [], ⟨(some 105), .fa 5 (.tmp 1), none⟩),
                          (true, 1, [], ⟨(some 106), .ld1 (.tmp 105), none⟩),
                          (true, 2, [], ⟨(some 107), .fa 6 (.tmp 1), none⟩),
                          (true, 3, [], ⟨(some 108), .ld1 (.tmp 107), none⟩),
                          (false, 4, [2, 3], ⟨(some 109), .fa 5 (.tmp 3), none⟩),
                          (false, 5, [2, 3], ⟨none, .st1 (.tmp 109) (.tmp 106), none⟩),
                          (false, 6, [], ⟨(some 110), .fa 6 (.tmp 3), none⟩),
                          (false, 7, [], ⟨none, .st1 (.tmp 110) (.tmp 108), none⟩)])
                       (.skip)))))))))))))))))))
     (.seq (.reg [⟨(some 111), .ldn 16 (.tmp 3), none⟩,
         ⟨none, .stn 16 (.tmp 2) (.tmp 111), none⟩])
      (.ret)))))
theorem k52 : fnOk Tryz.prog 52 = some (M52, [.cn 16 2], 112) := by kernel_rfl
def M51 : MC :=
  .seq (.reg [⟨(some 2), .box 24 (.tmp 0), none⟩,
     ⟨(some 4), .mv (.const (.bool false)), none⟩])
  (.seq (.reg [⟨(some 7), .fa 1 (.tmp 2), none⟩,
      ⟨(some 8), .ld1 (.tmp 7), none⟩,
      ⟨(some 9), .mv (.tmp 1), none⟩,
      ⟨(some 10), .is 16 (.tmp 8) (.tmp 9), none⟩,
      ⟨(some 11), .ldn 16 (.tmp 10), none⟩,
      ⟨(some 5), .alloc 46 [(.int .i64 0), (.int .i64 0), (.int .i64 0), (.int .i64 0), (.int .i64 0), (.int .i64 0), (.int .i64 0), (.int .i64 0), (.int .i32 0), (.int .i32 0), (.int .i32 0), (.int .i32 0), (.int .i64 0), (.int .i64 0), (.int .i64 0), (.int .i64 0)], none⟩,
      ⟨none, .stn 16 (.tmp 5) (.tmp 11), none⟩])
   (.seq (.reg [⟨(some 12), .fa 0 (.tmp 2), none⟩,
       ⟨(some 13), .ld1 (.tmp 12), none⟩,
       ⟨(some 14), .bin .eql (.tmp 13) (.const (.int .i64 1)), none⟩,
       ⟨(some 6), .mv (.tmp 14), none⟩])
    (.seq (.seq (.reg [⟨(some 15), .fa 0 (.tmp 5), none⟩,
         ⟨(some 16), .ld1 (.tmp 15), none⟩])
      (.block 0 (.seq (.seq (.reg [⟨(some 18), .bin .eql (.tmp 16) (.const (.int .i64 1)), none⟩,
            ⟨(some 17), .mv (.tmp 18), none⟩])
         (.cond (.tmp 17)
          (.skip)
          (.seq (.reg [⟨(some 19), .bin .eql (.tmp 16) (.const (.int .i64 2)), none⟩,
              ⟨(some 17), .mv (.tmp 19), none⟩])
           (.cond (.tmp 17)
            (.skip)
            (.reg [⟨(some 20), .bin .eql (.tmp 16) (.const (.int .i64 9)), none⟩,
               ⟨(some 17), .mv (.tmp 20), none⟩])))))
        (.cond (.tmp 17)
         (.seq (.reg [⟨(some 4), .mv (.const (.bool true)), none⟩])
          (.ret))
         (.seq (.reg [⟨(some 22), .bin .eql (.tmp 16) (.const (.int .i64 3)), none⟩,
             ⟨(some 21), .mv (.tmp 22), none⟩])
          (.cond (.tmp 21)
           (.seq (.reg [⟨(some 23), .fa 1 (.tmp 5), none⟩,
               ⟨(some 24), .ld1 (.tmp 23), none⟩])
            (.block 1 (.seq (.reg [⟨(some 26), .bin .eql (.tmp 24) (.const (.int .i64 1)), none⟩,
                 ⟨(some 25), .mv (.tmp 26), none⟩])
              (.cond (.tmp 25)
               (.seq (.reg [⟨(some 27), .mv (.tmp 6), none⟩,
                   ⟨(some 28), .mv (.tmp 27), none⟩,
                   ⟨(some 29), .fa 5 (.tmp 5), (some (28, true))⟩,
                   ⟨(some 30), .ld1 (.tmp 29), (some (28, true))⟩,
                   ⟨(some 31), .fa 3 (.tmp 2), (some (28, true))⟩,
                   ⟨(some 32), .ld1 (.tmp 31), (some (28, true))⟩,
                   ⟨(some 33), .call 50 [(.tmp 30), (.tmp 32)], (some (28, true))⟩,
                   ⟨(some 34), .pick (.tmp 28) (.tmp 33) (.const (.bool false)), none⟩,
                   ⟨(some 4), .mv (.tmp 34), none⟩])
                (.ret))
               (.seq (.reg [⟨(some 36), .bin .eql (.tmp 24) (.const (.int .i64 2)), none⟩,
                   ⟨(some 35), .mv (.tmp 36), none⟩])
                (.cond (.tmp 35)
                 (.seq (.reg [⟨(some 37), .fa 5 (.tmp 5), none⟩,
                     ⟨(some 38), .ld1 (.tmp 37), none⟩,
                     ⟨(some 39), .fa 4 (.tmp 2), none⟩,
                     ⟨(some 40), .ld1 (.tmp 39), none⟩,
                     ⟨(some 41), .call 50 [(.tmp 38), (.tmp 40)], none⟩,
                     ⟨(some 4), .mv (.tmp 41), none⟩])
                  (.ret))
                 (.seq (.reg [⟨(some 43), .bin .eql (.tmp 24) (.const (.int .i64 3)), none⟩,
                     ⟨(some 42), .mv (.tmp 43), none⟩])
                  (.cond (.tmp 42)
                   (.seq (.reg [⟨(some 44), .mv (.tmp 6), none⟩,
                       ⟨(some 45), .un .not (.tmp 44), none⟩,
                       ⟨(some 46), .mv (.tmp 45), none⟩,
                       ⟨(some 47), .fa 5 (.tmp 5), (some (46, true))⟩,
                       ⟨(some 48), .ld1 (.tmp 47), (some (46, true))⟩,
                       ⟨(some 49), .fa 5 (.tmp 2), (some (46, true))⟩,
                       ⟨(some 50), .ld1 (.tmp 49), (some (46, true))⟩,
                       ⟨(some 51), .call 50 [(.tmp 48), (.tmp 50)], (some (46, true))⟩,
                       ⟨(some 52), .pick (.tmp 46) (.tmp 51) (.const (.bool false)), none⟩,
                       ⟨(some 4), .mv (.tmp 52), none⟩])
                    (.ret))
                   (.seq (.seq (.reg [⟨(some 54), .bin .eql (.tmp 24) (.const (.int .i64 4)), none⟩,
                        ⟨(some 53), .mv (.tmp 54), none⟩])
                     (.cond (.tmp 53)
                      (.skip)
                      (.seq (.reg [⟨(some 55), .bin .eql (.tmp 24) (.const (.int .i64 5)), none⟩,
                          ⟨(some 53), .mv (.tmp 55), none⟩])
                       (.cond (.tmp 53)
                        (.skip)
                        (.reg [⟨(some 56), .bin .eql (.tmp 24) (.const (.int .i64 6)), none⟩,
                           ⟨(some 53), .mv (.tmp 56), none⟩])))))
                    (.cond (.tmp 53)
                     (.seq (.reg [⟨(some 57), .mv (.tmp 6), none⟩,
                         ⟨(some 58), .un .not (.tmp 57), none⟩,
                         ⟨(some 59), .mv (.tmp 58), none⟩,
                         ⟨(some 60), .fa 5 (.tmp 5), (some (59, true))⟩,
                         ⟨(some 61), .ld1 (.tmp 60), (some (59, true))⟩,
                         ⟨(some 62), .bin .eql (.tmp 61) (.const (.int .i64 0)), (some (59, true))⟩,
                         ⟨(some 63), .pick (.tmp 59) (.tmp 62) (.const (.bool false)), none⟩,
                         ⟨(some 4), .mv (.tmp 63), none⟩])
                      (.ret))
                     (.skip)))))))))))
           (.seq (.reg [⟨(some 65), .bin .eql (.tmp 16) (.const (.int .i64 4)), none⟩,
               ⟨(some 64), .mv (.tmp 65), none⟩])
            (.cond (.tmp 64)
             (.seq (.reg [⟨(some 66), .fa 1 (.tmp 5), none⟩,
                 ⟨(some 67), .ld1 (.tmp 66), none⟩])
              (.block 2 (.seq (.seq (.reg [⟨(some 69), .bin .eql (.tmp 67) (.const (.int .i64 1)), none⟩,
                    ⟨(some 68), .mv (.tmp 69), none⟩])
                 (.cond (.tmp 68)
                  (.skip)
                  (.reg [⟨(some 70), .bin .eql (.tmp 67) (.const (.int .i64 2)), none⟩,
                     ⟨(some 68), .mv (.tmp 70), none⟩])))
                (.cond (.tmp 68)
                 (.seq (.reg [⟨(some 71), .mv (.tmp 6), none⟩,
                     ⟨(some 72), .mv (.tmp 71), none⟩,
                     ⟨(some 73), .fa 5 (.tmp 5), (some (72, true))⟩,
                     ⟨(some 74), .ld1 (.tmp 73), (some (72, true))⟩,
                     ⟨(some 75), .bin .eql (.tmp 74) (.const (.int .i64 0)), (some (72, true))⟩,
                     ⟨(some 76), .pick (.tmp 72) (.tmp 75) (.const (.bool false)), none⟩,
                     ⟨(some 4), .mv (.tmp 76), none⟩])
                  (.ret))
                 (.seq (.reg [⟨(some 78), .bin .eql (.tmp 67) (.const (.int .i64 3)), none⟩,
                     ⟨(some 77), .mv (.tmp 78), none⟩])
                  (.cond (.tmp 77)
                   (.seq (.reg [⟨(some 79), .mv (.tmp 6), none⟩,
                       ⟨(some 80), .mv (.tmp 79), none⟩,
                       ⟨(some 81), .fa 5 (.tmp 5), (some (80, true))⟩,
                       ⟨(some 82), .ld1 (.tmp 81), (some (80, true))⟩,
                       ⟨(some 83), .fa 5 (.tmp 2), (some (80, true))⟩,
                       ⟨(some 84), .ld1 (.tmp 83), (some (80, true))⟩,
                       ⟨(some 85), .call 50 [(.tmp 82), (.tmp 84)], (some (80, true))⟩,
                       ⟨(some 86), .pick (.tmp 80) (.tmp 85) (.const (.bool false)), none⟩,
                       ⟨(some 4), .mv (.tmp 86), none⟩])
                    (.ret))
                   (.seq (.reg [⟨(some 88), .bin .eql (.tmp 67) (.const (.int .i64 4)), none⟩,
                       ⟨(some 87), .mv (.tmp 88), none⟩])
                    (.cond (.tmp 87)
                     (.seq (.reg [⟨(some 89), .mv (.tmp 6), none⟩,
                         ⟨(some 90), .un .not (.tmp 89), none⟩,
                         ⟨(some 91), .mv (.tmp 90), none⟩,
                         ⟨(some 92), .fa 5 (.tmp 5), (some (91, true))⟩,
                         ⟨(some 93), .ld1 (.tmp 92), (some (91, true))⟩,
                         ⟨(some 94), .bin .eql (.tmp 93) (.const (.int .i64 0)), (some (91, true))⟩,
                         ⟨(some 95), .pick (.tmp 91) (.tmp 94) (.const (.bool false)), none⟩,
                         ⟨(some 4), .mv (.tmp 95), none⟩])
                      (.ret))
                     (.skip)))))))))
             (.seq (.reg [⟨(some 97), .bin .eql (.tmp 16) (.const (.int .i64 5)), none⟩,
                 ⟨(some 96), .mv (.tmp 97), none⟩])
              (.cond (.tmp 96)
               (.seq (.reg [⟨(some 98), .fa 1 (.tmp 5), none⟩,
                   ⟨(some 99), .ld1 (.tmp 98), none⟩,
                   ⟨(some 100), .fa 2 (.tmp 5), none⟩,
                   ⟨(some 101), .ld1 (.tmp 100), none⟩,
                   ⟨(some 102), .call 43 [(.tmp 99), (.tmp 101)], none⟩,
                   ⟨(some 103), .bin .gtr (.tmp 102) (.const (.int .i64 0)), none⟩,
                   ⟨(some 104), .mv (.tmp 103), none⟩,
                   ⟨(some 105), .fa 3 (.tmp 5), (some (104, true))⟩,
                   ⟨(some 106), .ld1 (.tmp 105), (some (104, true))⟩,
                   ⟨(some 107), .call 102 [(.tmp 106)], (some (104, true))⟩,
                   ⟨(some 108), .pick (.tmp 104) (.tmp 107) (.const (.bool false)), none⟩,
                   ⟨(some 4), .mv (.tmp 108), none⟩])
                (.ret))
               (.seq (.seq (.reg [⟨(some 110), .bin .eql (.tmp 16) (.const (.int .i64 6)), none⟩,
                    ⟨(some 109), .mv (.tmp 110), none⟩])
                 (.cond (.tmp 109)
                  (.skip)
                  (.reg [⟨(some 111), .bin .eql (.tmp 16) (.const (.int .i64 7)), none⟩,
                     ⟨(some 109), .mv (.tmp 111), none⟩])))
                (.cond (.tmp 109)
                 (.seq (.reg [⟨(some 112), .ldn 16 (.tmp 5), none⟩,
                     ⟨(some 113), .call 103 [(.tmp 112)], none⟩,
                     ⟨(some 4), .mv (.tmp 113), none⟩])
                  (.ret))
                 (.seq (.reg [⟨(some 115), .bin .eql (.tmp 16) (.const (.int .i64 8)), none⟩,
                     ⟨(some 114), .mv (.tmp 115), none⟩])
                  (.cond (.tmp 114)
                   (.seq (.reg [⟨(some 116), .fa 3 (.tmp 5), none⟩,
                       ⟨(some 117), .ld1 (.tmp 116), none⟩,
                       ⟨(some 118), .call 102 [(.tmp 117)], none⟩,
                       ⟨(some 119), .mv (.tmp 118), none⟩,
                       ⟨(some 120), .fa 2 (.tmp 5), (some (119, true))⟩,
                       ⟨(some 121), .ld1 (.tmp 120), (some (119, true))⟩,
                       ⟨(some 122), .call 104 [(.tmp 121)], (some (119, true))⟩,
                       ⟨(some 123), .pick (.tmp 119) (.tmp 122) (.const (.bool false)), none⟩,
                       ⟨(some 124), .mv (.tmp 123), none⟩,
                       ⟨(some 125), .fa 1 (.tmp 5), (some (124, true))⟩,
                       ⟨(some 126), .ld1 (.tmp 125), (some (124, true))⟩,
                       ⟨(some 127), .call 104 [(.tmp 126)], (some (124, true))⟩,
                       ⟨(some 128), .pick (.tmp 124) (.tmp 127) (.const (.bool false)), none⟩,
                       ⟨(some 4), .mv (.tmp 128), none⟩])
                    (.ret))
                   (.seq (.seq (.reg [⟨(some 130), .bin .eql (.tmp 16) (.const (.int .i64 10)), none⟩,
                        ⟨(some 129), .mv (.tmp 130), none⟩])
                     (.cond (.tmp 129)
                      (.skip)
                      (.reg [⟨(some 131), .bin .eql (.tmp 16) (.const (.int .i64 11)), none⟩,
                         ⟨(some 129), .mv (.tmp 131), none⟩])))
                    (.cond (.tmp 129)
                     (.seq (.reg [⟨(some 132), .fa 5 (.tmp 5), none⟩,
                         ⟨(some 133), .ld1 (.tmp 132), none⟩,
                         ⟨(some 134), .mv (.tmp 1), none⟩,
                         ⟨(some 135), .bin .gtr (.tmp 133) (.tmp 134), none⟩,
                         ⟨(some 136), .mv (.tmp 135), none⟩,
                         ⟨(some 137), .fa 5 (.tmp 5), (some (136, true))⟩,
                         ⟨(some 138), .ld1 (.tmp 137), (some (136, true))⟩,
                         ⟨(some 139), .fa 1 (.tmp 2), (some (136, true))⟩,
                         ⟨(some 140), .ld1 (.tmp 139), (some (136, true))⟩,
                         ⟨(some 141), .len (.tmp 140), (some (136, true))⟩,
                         ⟨(some 142), .bin .leq (.tmp 138) (.tmp 141), (some (136, true))⟩,
                         ⟨(some 143), .pick (.tmp 136) (.tmp 142) (.const (.bool false)), none⟩,
                         ⟨(some 4), .mv (.tmp 143), none⟩])
                      (.ret))
                     (.seq (.reg [⟨(some 145), .bin .eql (.tmp 16) (.const (.int .i64 12)), none⟩,
                         ⟨(some 144), .mv (.tmp 145), none⟩])
                      (.cond (.tmp 144)
                       (.seq (.reg [⟨(some 146), .mv (.tmp 6), none⟩,
                           ⟨(some 147), .un .not (.tmp 146), none⟩,
                           ⟨(some 4), .mv (.tmp 147), none⟩])
                        (.ret))
                       (.skip)))))))))))))))))))
     (.seq (.reg [⟨(some 4), .mv (.const (.bool false)), none⟩])
      (.ret)))))
theorem k51 : fnOk Tryz.prog 51 = some (M51, [.t 4], 148) := by kernel_rfl
def M104 : MC :=
  .seq (.reg [⟨(some 2), .mv (.const (.bool false)), none⟩])
  (.seq (.reg [⟨(some 3), .mv (.tmp 0), none⟩,
      ⟨(some 4), .bin .geq (.tmp 3) (.const (.int .i64 1)), none⟩,
      ⟨(some 5), .mv (.tmp 4), none⟩,
      ⟨(some 6), .mv (.tmp 0), (some (5, true))⟩,
      ⟨(some 7), .bin .leq (.tmp 6) (.const (.int .i64 3)), (some (5, true))⟩,
      ⟨(some 8), .pick (.tmp 5) (.tmp 7) (.const (.bool false)), none⟩,
      ⟨(some 2), .mv (.tmp 8), none⟩])
   (.ret))
theorem k104 : fnOk Tryz.prog 104 = some (M104, [.t 2], 9) := by kernel_rfl
def M102 : MC :=
  .seq (.reg [⟨(some 2), .mv (.const (.bool false)), none⟩])
  (.seq (.reg [⟨(some 3), .mv (.tmp 0), none⟩,
      ⟨(some 4), .bin .geq (.tmp 3) (.const (.int .i64 1)), none⟩,
      ⟨(some 5), .mv (.tmp 4), none⟩,
      ⟨(some 6), .mv (.tmp 0), (some (5, true))⟩,
      ⟨(some 7), .bin .leq (.tmp 6) (.const (.int .i64 4)), (some (5, true))⟩,
      ⟨(some 8), .pick (.tmp 5) (.tmp 7) (.const (.bool false)), none⟩,
      ⟨(some 2), .mv (.tmp 8), none⟩])
   (.ret))
theorem k102 : fnOk Tryz.prog 102 = some (M102, [.t 2], 9) := by kernel_rfl
def M103 : MC :=
  .seq (.reg [⟨(some 1), .box 46 (.tmp 0), none⟩,
     ⟨(some 2), .mv (.const (.bool false)), none⟩])
  (.seq (.seq (.reg [⟨(some 6), .fa 3 (.tmp 1), none⟩,
       ⟨(some 7), .ld1 (.tmp 6), none⟩,
       ⟨(some 8), .call 102 [(.tmp 7)], none⟩,
       ⟨(some 9), .un .not (.tmp 8), none⟩])
    (.cond (.tmp 9)
     (.seq (.reg [⟨(some 2), .mv (.const (.bool false)), none⟩])
      (.ret))
     (.skip)))
   (.seq (.reg [⟨(some 10), .build [(.bool false), (.bool false), (.bool false), (.bool false)] [], none⟩,
       ⟨(some 3), .alloc 148 [(.bool false), (.bool false), (.bool false), (.bool false)], none⟩,
       ⟨none, .stn 4 (.tmp 3) (.tmp 10), none⟩])
    (.seq (.seq (.reg [⟨(some 11), .fa 12 (.tmp 1), none⟩,
         ⟨(some 12), .ldn 4 (.tmp 11), none⟩,
         ⟨(some 13), .mv (.const (.int .i64 0)), none⟩])
      (.block 0 (.loop (.seq (.reg [⟨(some 14), .bin .lss (.tmp 13) (.const (.int .i64 4)), none⟩])
         (.seq (.cond (.tmp 14)
           (.skip)
           (.exit 0))
          (.seq (.block 1 (.seq (.reg [⟨(some 15), .mv (.tmp 13), none⟩,
                ⟨(some 16), .ix 4 (.tmp 12) (.tmp 13), none⟩,
                ⟨(some 4), .mv (.tmp 15), none⟩,
                ⟨(some 5), .mv (.tmp 16), none⟩])
             (.seq (.seq (.reg [⟨(some 17), .mv (.tmp 5), none⟩,
                  ⟨(some 18), .call 50 [(.tmp 17), (.const (.int .i64 4))], none⟩,
                  ⟨(some 19), .un .not (.tmp 18), none⟩,
                  ⟨(some 20), .mv (.tmp 19), none⟩,
                  ⟨(some 21), .mv (.tmp 4), (some (20, false))⟩,
                  ⟨(some 22), .fa 3 (.tmp 1), (some (20, false))⟩,
                  ⟨(some 23), .ld1 (.tmp 22), (some (20, false))⟩,
                  ⟨(some 24), .bin .geq (.tmp 21) (.tmp 23), (some (20, false))⟩,
                  ⟨(some 25), .mv (.tmp 24), (some (20, false))⟩,
                  ⟨(some 26), .mv (.tmp 5), (some (25, true))⟩,
                  ⟨(some 27), .bin .neq (.tmp 26) (.const (.int .i64 0)), (some (25, true))⟩,
                  ⟨(some 28), .pick (.tmp 25) (.tmp 27) (.const (.bool false)), (some (20, false))⟩,
                  ⟨(some 29), .pick (.tmp 20) (.const (.bool true)) (.tmp 28), none⟩,
                  ⟨(some 30), .mv (.tmp 29), none⟩,
                  ⟨(some 31), .mv (.tmp 4), (some (30, false))⟩,
                  ⟨(some 32), .fa 3 (.tmp 1), (some (30, false))⟩,
                  ⟨(some 33), .ld1 (.tmp 32), (some (30, false))⟩,
                  ⟨(some 34), .bin .lss (.tmp 31) (.tmp 33), (some (30, false))⟩,
                  ⟨(some 35), .mv (.tmp 34), (some (30, false))⟩,
                  ⟨(some 36), .fa 0 (.tmp 1), (some (35, true))⟩,
                  ⟨(some 37), .ld1 (.tmp 36), (some (35, true))⟩,
                  ⟨(some 38), .bin .eql (.tmp 37) (.const (.int .i64 7)), (some (35, true))⟩,
                  ⟨(some 39), .pick (.tmp 35) (.tmp 38) (.const (.bool false)), (some (30, false))⟩,
                  ⟨(some 40), .mv (.tmp 39), (some (30, false))⟩,
                  ⟨(some 41), .mv (.tmp 5), (some (40, true))⟩,
                  ⟨(some 42), .ia 4 1 (.tmp 3) (.tmp 41), (some (40, true))⟩,
                  ⟨(some 43), .ld1 (.tmp 42), (some (40, true))⟩,
                  ⟨(some 44), .pick (.tmp 40) (.tmp 43) (.const (.bool false)), (some (30, false))⟩,
                  ⟨(some 45), .pick (.tmp 30) (.const (.bool true)) (.tmp 44), none⟩])
               (.cond (.tmp 45)
                (.seq (.reg [⟨(some 2), .mv (.const (.bool false)), none⟩])
                 (.ret))
                (.skip)))
              (.reg [⟨(some 46), .mv (.tmp 5), none⟩,
                 ⟨(some 47), .ia 4 1 (.tmp 3) (.tmp 46), none⟩,
                 ⟨none, .st1 (.tmp 47) (.const (.bool true)), none⟩]))))
           (.reg [⟨(some 48), .bin .add (.tmp 13) (.const (.int .i64 1)), none⟩,
              ⟨(some 13), .mv (.tmp 48), none⟩])))))))
     (.seq (.reg [⟨(some 2), .mv (.const (.bool true)), none⟩])
      (.ret)))))
theorem k103 : fnOk Tryz.prog 103 = some (M103, [.t 2], 49) := by kernel_rfl
def tbl : List (FuncId × (MC × List RV × Nat)) := [(10, (M10, [.t 0], 43)), (28, (M28, [.cn 4 12, .t 13], 79)), (45, (M45, [.cn 4 8], 27)), (46, (M46, [.t 2], 12)), (81, (M81, [.t 4], 7)), (80, (M80, [.t 4], 13)), (79, (M79, [.t 4], 8)), (78, (M78, [.t 4], 8)), (77, (M77, [.t 4], 8)), (37, (M37, [.t 2], 4)), (43, (M43, [.t 4], 68)), (13, (M13, [.cn 11 4, .t 5], 24)), (29, (M29, [.t 4, .t 5, .t 6], 38)), (49, (M49, [.t 4], 64)), (101, (M101, [.cn 4 4], 123)), (20, (M20, [.cn 4 8, .t 9], 36)), (35, (M35, [.cn 4 6, .t 7], 13)), (68, (M68, [.t 5], 9)), (36, (M36, [.t 4], 39)), (34, (M34, [.t 2], 9)), (145, (M145, [.cn 4 3], 11)), (100, (M100, [], 48)), (17, (M17, [.t 4], 37)), (31, (M31, [.t 2], 67)), (53, (M53, [.t 4], 9)), (107, (M107, [.t 4], 19)), (54, (M54, [.t 2], 19)), (105, (M105, [.t 2, .t 3], 21)), (106, (M106, [.t 2], 49)), (55, (M55, [.t 3], 9)), (50, (M50, [.t 4], 12)), (52, (M52, [.cn 16 2], 112)), (51, (M51, [.t 4], 148)), (104, (M104, [.t 2], 9)), (102, (M102, [.t 2], 9)), (103, (M103, [.t 2], 49))]
theorem tblOk : AllOk Tryz.prog tbl := ⟨k10, k28, k45, k46, k81, k80, k79, k78, k77, k37, k43, k13, k29, k49, k101, k20, k35, k68, k36, k34, k145, k100, k17, k31, k53, k107, k54, k105, k106, k55, k50, k52, k51, k104, k102, k103, trivial⟩
theorem done : (exec (tblOf tbl) 100000 [.t 0] [.code M10] ([] ++ List.replicate (43 - List.length ([] : List Value)) undef) [] (fun u _ => eqS u (.bool true))) = true := by kernel_rfl
end Wakes
theorem x_Wakes {w0 : World} {H : Heap} {K : Value → Heap → Prop} (h : K (.bool true) H) : HCalls Tryz.prog w0 10 [] H K := hc_exec Wakes.k10 (tblOf_ok Wakes.tblOk) [] rfl 100000 rfl Wakes.done h

end Go.Proofs.YtdmnfaefakceiaaGreat
