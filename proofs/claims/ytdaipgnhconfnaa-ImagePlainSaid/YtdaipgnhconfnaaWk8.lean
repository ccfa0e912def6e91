/- The trial of layer 8, reckoned. -/
import Derived.Test.YtdaipgnhconfnaaHlw
import Derived.Test.YtdaipgnhconfnaaProg
set_option linter.unusedSimpArgs false
set_option linter.unusedVariables false
set_option maxRecDepth 100000
namespace Go.Proofs.Ytdaipgnhconfnaa
open Go.HL
namespace Wakes
def M12 : MC :=
  .seq (.reg [⟨(some 0), .mv (.const (.bool false)), none⟩])
  (.seq (.reg [⟨(some 5), .call 18 [], none⟩,
      ⟨(some 6), .bslice 5 4 [(.int .u8 0), (.int .u8 0), (.int .u8 0), (.int .u8 0)] [(0, 1, (.const (.int .u8 0))), (1, 1, (.const (.int .u8 1))), (2, 1, (.const (.int .u8 2))), (3, 1, (.const (.int .u8 4)))], none⟩,
      ⟨(some 7), .build [(.int .i64 0), (.int .i64 0), (.slice none 0 0)] [(0, 1, (.const (.int .i64 2))), (1, 1, (.const (.int .i64 2))), (2, 1, (.tmp 6))], none⟩,
      ⟨(some 8), .call 22 [(.tmp 5), (.const (.int .i64 0)), (.const (.int .i64 5)), (.tmp 7)], none⟩,
      ⟨(some 4), .mv (.tmp 8), none⟩,
      ⟨(some 9), .ext 0 (.tmp 4), none⟩,
      ⟨(some 10), .ext 1 (.tmp 4), none⟩,
      ⟨(some 1), .alloc 24 [(.int .i64 0), (.slice none 0 0), (.int .i64 0), (.int .i64 0), (.int .i64 0), (.int .i64 0)], none⟩,
      ⟨none, .stn 6 (.tmp 1) (.tmp 9), none⟩,
      ⟨(some 2), .mv (.tmp 10), none⟩])
   (.seq (.seq (.reg [⟨(some 11), .mv (.tmp 2), none⟩,
        ⟨(some 12), .bin .neq (.tmp 11) (.const (.int .i64 0)), none⟩,
        ⟨(some 13), .mv (.tmp 12), none⟩,
        ⟨(some 14), .fa 1 (.tmp 1), (some (13, false))⟩,
        ⟨(some 15), .ld1 (.tmp 14), (some (13, false))⟩,
        ⟨(some 16), .len (.tmp 15), (some (13, false))⟩,
        ⟨(some 17), .bin .neq (.tmp 16) (.const (.int .i64 1)), (some (13, false))⟩,
        ⟨(some 18), .pick (.tmp 13) (.const (.bool true)) (.tmp 17), none⟩,
        ⟨(some 19), .mv (.tmp 18), none⟩,
        ⟨(some 20), .ldn 6 (.tmp 1), (some (19, false))⟩,
        ⟨(some 21), .call 30 [(.tmp 20)], (some (19, false))⟩,
        ⟨(some 22), .pick (.tmp 19) (.const (.bool true)) (.tmp 21), none⟩])
     (.cond (.tmp 22)
      (.seq (.reg [⟨(some 0), .mv (.const (.bool false)), none⟩])
       (.ret))
      (.skip)))
    (.seq (.reg [⟨(some 24), .ldn 6 (.tmp 1), none⟩,
        ⟨(some 25), .call 15 [(.tmp 24)], none⟩,
        ⟨(some 23), .mv (.tmp 25), none⟩,
        ⟨(some 26), .ext 0 (.tmp 23), none⟩,
        ⟨(some 27), .ext 1 (.tmp 23), none⟩,
        ⟨(some 3), .alloc 24 [(.int .i64 0), (.slice none 0 0), (.int .i64 0), (.int .i64 0), (.int .i64 0), (.int .i64 0)], none⟩,
        ⟨none, .stn 6 (.tmp 3) (.tmp 26), none⟩,
        ⟨(some 2), .mv (.tmp 27), none⟩])
     (.seq (.reg [⟨(some 28), .mv (.tmp 2), none⟩,
         ⟨(some 29), .bin .eql (.tmp 28) (.const (.int .i64 0)), none⟩,
         ⟨(some 30), .mv (.tmp 29), none⟩,
         ⟨(some 31), .fa 1 (.tmp 3), (some (30, true))⟩,
         ⟨(some 32), .ld1 (.tmp 31), (some (30, true))⟩,
         ⟨(some 33), .len (.tmp 32), (some (30, true))⟩,
         ⟨(some 34), .bin .eql (.tmp 33) (.const (.int .i64 2)), (some (30, true))⟩,
         ⟨(some 35), .pick (.tmp 30) (.tmp 34) (.const (.bool false)), none⟩,
         ⟨(some 36), .mv (.tmp 35), none⟩,
         ⟨(some 37), .fa 1 (.tmp 3), (some (36, true))⟩,
         ⟨(some 38), .ld1 (.tmp 37), (some (36, true))⟩,
         ⟨(some 39), .is 3 (.tmp 38) (.const (.int .i64 1)), (some (36, true))⟩,
         ⟨(some 40), .fa 2 (.tmp 39), (some (36, true))⟩,
         ⟨(some 41), .ld1 (.tmp 40), (some (36, true))⟩,
         ⟨(some 42), .len (.tmp 41), (some (36, true))⟩,
         ⟨(some 43), .bin .eql (.tmp 42) (.const (.int .i64 1)), (some (36, true))⟩,
         ⟨(some 44), .pick (.tmp 36) (.tmp 43) (.const (.bool false)), none⟩,
         ⟨(some 45), .mv (.tmp 44), none⟩,
         ⟨(some 46), .fa 1 (.tmp 3), (some (45, true))⟩,
         ⟨(some 47), .ld1 (.tmp 46), (some (45, true))⟩,
         ⟨(some 48), .is 3 (.tmp 47) (.const (.int .i64 1)), (some (45, true))⟩,
         ⟨(some 49), .fa 2 (.tmp 48), (some (45, true))⟩,
         ⟨(some 50), .ld1 (.tmp 49), (some (45, true))⟩,
         ⟨(some 51), .is 1 (.tmp 50) (.const (.int .i64 0)), (some (45, true))⟩,
         ⟨(some 52), .ld1 (.tmp 51), (some (45, true))⟩,
         ⟨(some 53), .bin .eql (.tmp 52) (.const (.int .u8 2)), (some (45, true))⟩,
         ⟨(some 54), .pick (.tmp 45) (.tmp 53) (.const (.bool false)), none⟩,
         ⟨(some 55), .mv (.tmp 54), none⟩,
         ⟨(some 56), .ldn 6 (.tmp 3), (some (55, true))⟩,
         ⟨(some 57), .call 30 [(.tmp 56)], (some (55, true))⟩,
         ⟨(some 58), .pick (.tmp 55) (.tmp 57) (.const (.bool false)), none⟩,
         ⟨(some 0), .mv (.tmp 58), none⟩])
      (.ret)))))
theorem k12 : fnOk Try.prog 12 = some (M12, [.t 0], 59) := by kernel_rfl
def M30 : MC :=
  .seq (.reg [⟨(some 1), .box 24 (.tmp 0), none⟩,
     ⟨(some 2), .mv (.const (.bool false)), none⟩])
  (.seq (.seq (.reg [⟨(some 9), .ldn 6 (.tmp 1), none⟩,
       ⟨(some 10), .call 19 [(.tmp 9)], none⟩,
       ⟨(some 11), .bin .neq (.tmp 10) (.const (.int .i64 0)), none⟩,
       ⟨(some 12), .mv (.tmp 11), none⟩,
       ⟨(some 13), .fa 1 (.tmp 1), (some (12, false))⟩,
       ⟨(some 14), .ld1 (.tmp 13), (some (12, false))⟩,
       ⟨(some 15), .len (.tmp 14), (some (12, false))⟩,
       ⟨(some 16), .bin .eql (.tmp 15) (.const (.int .i64 0)), (some (12, false))⟩,
       ⟨(some 17), .pick (.tmp 12) (.const (.bool true)) (.tmp 16), none⟩,
       ⟨(some 18), .mv (.tmp 17), none⟩,
       ⟨(some 19), .fa 1 (.tmp 1), (some (18, false))⟩,
       ⟨(some 20), .ld1 (.tmp 19), (some (18, false))⟩,
       ⟨(some 21), .is 3 (.tmp 20) (.const (.int .i64 0)), (some (18, false))⟩,
       ⟨(some 22), .ldn 3 (.tmp 21), (some (18, false))⟩,
       ⟨(some 23), .call 39 [(.tmp 22)], (some (18, false))⟩,
       ⟨(some 24), .pick (.tmp 18) (.const (.bool true)) (.tmp 23), none⟩])
    (.cond (.tmp 24)
     (.seq (.reg [⟨(some 2), .mv (.const (.bool false)), none⟩])
      (.ret))
     (.skip)))
   (.seq (.any [(true, 0, [], ⟨(some 25), .fa 1 (.tmp 1), none⟩),
       (true, 1, [], ⟨(some 26), .ld1 (.tmp 25), none⟩),
       (true, 2, [], ⟨(some 27), .is 3 (.tmp 26) (.const (.int .i64 0)), none⟩),
       (true, 3, [], ⟨(some 28), .fa 0 (.tmp 27), none⟩),
       (true, 4, [], ⟨(some 29), .ld1 (.tmp 28), none⟩),
       (true, 5, [], ⟨(some 30), .fa 1 (.tmp 1), none⟩),
       (true, 6, [], ⟨(some 31), .ld1 (.tmp 30), none⟩),
       (true, 7, [], ⟨(some 32), .is 3 (.tmp 31) (.const (.int .i64 0)), none⟩),
       (true, 8, [], ⟨(some 33), .fa 1 (.tmp 32), none⟩),
       (true, 9, [], ⟨(some 34), .ld1 (.tmp 33), none⟩),
       (false, 10, [5, 6, 7, 8, 9], ⟨(some 3), .mv (.tmp 29), none⟩),
       (false, 11, [], ⟨(some 4), .mv (.tmp 34), none⟩)])
    (.seq (.reg [⟨(some 35), .fa 4 (.tmp 1), none⟩,
        ⟨(some 36), .ld1 (.tmp 35), none⟩,
        ⟨(some 37), .bin .eql (.tmp 36) (.const (.int .i64 3)), none⟩,
        ⟨(some 38), .mv (.tmp 37), none⟩,
        ⟨(some 39), .fa 4 (.tmp 1), (some (38, false))⟩,
        ⟨(some 40), .ld1 (.tmp 39), (some (38, false))⟩,
        ⟨(some 41), .bin .eql (.tmp 40) (.const (.int .i64 4)), (some (38, false))⟩,
        ⟨(some 42), .pick (.tmp 38) (.const (.bool true)) (.tmp 41), none⟩,
        ⟨(some 5), .mv (.tmp 42), none⟩])
     (.seq (.seq (.reg [⟨(some 43), .mv (.tmp 3), none⟩,
          ⟨(some 44), .call 40 [(.tmp 43)], none⟩,
          ⟨(some 45), .un .not (.tmp 44), none⟩,
          ⟨(some 46), .mv (.tmp 45), none⟩,
          ⟨(some 47), .mv (.tmp 4), (some (46, false))⟩,
          ⟨(some 48), .call 40 [(.tmp 47)], (some (46, false))⟩,
          ⟨(some 49), .un .not (.tmp 48), (some (46, false))⟩,
          ⟨(some 50), .pick (.tmp 46) (.const (.bool true)) (.tmp 49), none⟩])
       (.cond (.tmp 50)
        (.seq (.reg [⟨(some 51), .fa 2 (.tmp 1), none⟩,
            ⟨(some 52), .ld1 (.tmp 51), none⟩,
            ⟨(some 53), .bin .eql (.tmp 52) (.const (.int .i64 2)), none⟩,
            ⟨(some 54), .mv (.tmp 53), none⟩,
            ⟨(some 55), .fa 3 (.tmp 1), (some (54, true))⟩,
            ⟨(some 56), .ld1 (.tmp 55), (some (54, true))⟩,
            ⟨(some 57), .bin .eql (.tmp 56) (.const (.int .i64 2)), (some (54, true))⟩,
            ⟨(some 58), .pick (.tmp 54) (.tmp 57) (.const (.bool false)), none⟩,
            ⟨(some 59), .mv (.tmp 58), none⟩,
            ⟨(some 60), .mv (.tmp 5), (some (59, true))⟩,
            ⟨(some 61), .un .not (.tmp 60), (some (59, true))⟩,
            ⟨(some 62), .pick (.tmp 59) (.tmp 61) (.const (.bool false)), none⟩,
            ⟨(some 2), .mv (.tmp 62), none⟩])
         (.ret))
        (.skip)))
      (.seq (.seq (.reg [⟨(some 63), .mv (.tmp 5), none⟩,
           ⟨(some 64), .un .not (.tmp 63), none⟩])
        (.cond (.tmp 64)
         (.seq (.reg [⟨(some 2), .mv (.const (.bool true)), none⟩])
          (.ret))
         (.skip)))
       (.seq (.reg [⟨(some 65), .mv (.tmp 3), none⟩,
           ⟨(some 66), .mv (.tmp 4), none⟩,
           ⟨(some 67), .call 20 [(.tmp 65), (.tmp 66)], none⟩,
           ⟨(some 6), .mv (.tmp 67), none⟩])
        (.seq (.seq (.reg [⟨(some 68), .fa 1 (.tmp 1), none⟩,
             ⟨(some 69), .ld1 (.tmp 68), none⟩,
             ⟨(some 70), .len (.tmp 69), none⟩,
             ⟨(some 71), .mv (.tmp 6), none⟩,
             ⟨(some 72), .bin .lss (.tmp 70) (.tmp 71), none⟩])
          (.cond (.tmp 72)
           (.seq (.reg [⟨(some 2), .mv (.const (.bool false)), none⟩])
            (.ret))
           (.skip)))
         (.seq (.seq (.reg [⟨(some 73), .fa 1 (.tmp 1), none⟩,
              ⟨(some 74), .ld1 (.tmp 73), none⟩,
              ⟨(some 75), .mv (.tmp 6), none⟩,
              ⟨(some 76), .slc 3 (.tmp 74) none (some (.tmp 75)), none⟩,
              ⟨(some 77), .len (.tmp 76), none⟩,
              ⟨(some 78), .mv (.const (.int .i64 0)), none⟩])
           (.block 0 (.loop (.seq (.reg [⟨(some 79), .bin .lss (.tmp 78) (.tmp 77), none⟩])
              (.seq (.cond (.tmp 79)
                (.skip)
                (.exit 0))
               (.seq (.block 1 (.seq (.reg [⟨(some 80), .mv (.tmp 78), none⟩,
                     ⟨(some 81), .is 3 (.tmp 76) (.tmp 78), none⟩,
                     ⟨(some 82), .ldn 3 (.tmp 81), none⟩,
                     ⟨(some 8), .alloc 38 [(.int .i64 0), (.int .i64 0), (.slice none 0 0)], none⟩,
                     ⟨(some 7), .mv (.tmp 80), none⟩,
                     ⟨none, .stn 3 (.tmp 8) (.tmp 82), none⟩])
                  (.seq (.any [(true, 0, [], ⟨(some 83), .fa 0 (.tmp 8), none⟩),
                      (true, 1, [], ⟨(some 84), .ld1 (.tmp 83), none⟩),
                      (true, 2, [], ⟨(some 85), .mv (.tmp 3), none⟩),
                      (false, 3, [0, 1, 2, 8, 9, 10], ⟨(some 86), .mv (.tmp 7), none⟩),
                      (false, 4, [0, 1, 8, 9, 10], ⟨(some 87), .bin .shr (.tmp 85) (.tmp 86), none⟩),
                      (false, 5, [0, 1, 8, 9, 10], ⟨(some 88), .mx (.tmp 87) (.const (.int .i64 1)), none⟩),
                      (false, 6, [8, 9, 10], ⟨(some 89), .bin .neq (.tmp 84) (.tmp 88), none⟩),
                      (false, 7, [8, 9, 10], ⟨(some 90), .mv (.tmp 89), none⟩),
                      (true, 8, [], ⟨(some 91), .fa 1 (.tmp 8), (some (90, false))⟩),
                      (true, 9, [], ⟨(some 92), .ld1 (.tmp 91), (some (90, false))⟩),
                      (true, 10, [], ⟨(some 93), .mv (.tmp 4), (some (90, false))⟩),
                      (false, 11, [8, 9, 10], ⟨(some 94), .mv (.tmp 7), (some (90, false))⟩),
                      (false, 12, [8, 9], ⟨(some 95), .bin .shr (.tmp 93) (.tmp 94), (some (90, false))⟩),
                      (false, 13, [8, 9], ⟨(some 96), .mx (.tmp 95) (.const (.int .i64 1)), (some (90, false))⟩),
                      (false, 14, [], ⟨(some 97), .bin .neq (.tmp 92) (.tmp 96), (some (90, false))⟩),
                      (false, 15, [], ⟨(some 98), .pick (.tmp 90) (.const (.bool true)) (.tmp 97), none⟩)])
                   (.cond (.tmp 98)
                    (.seq (.reg [⟨(some 2), .mv (.const (.bool false)), none⟩])
                     (.ret))
                    (.skip)))))
                (.reg [⟨(some 99), .bin .add (.tmp 78) (.const (.int .i64 1)), none⟩,
                   ⟨(some 78), .mv (.tmp 99), none⟩])))))))
          (.seq (.reg [⟨(some 2), .mv (.const (.bool true)), none⟩])
           (.ret))))))))))
theorem k30 : fnOk Try.prog 30 = some (M30, [.t 2], 100) := by kernel_rfl
def M20 : MC :=
  .seq (.reg [⟨(some 4), .mv (.const (.int .i64 0)), none⟩])
  (.seq (.seq (.reg [⟨(some 7), .mv (.tmp 0), none⟩,
       ⟨(some 8), .call 50 [(.tmp 7)], none⟩,
       ⟨(some 9), .un .not (.tmp 8), none⟩,
       ⟨(some 10), .mv (.tmp 9), none⟩,
       ⟨(some 11), .mv (.tmp 1), (some (10, false))⟩,
       ⟨(some 12), .call 50 [(.tmp 11)], (some (10, false))⟩,
       ⟨(some 13), .un .not (.tmp 12), (some (10, false))⟩,
       ⟨(some 14), .pick (.tmp 10) (.const (.bool true)) (.tmp 13), none⟩])
    (.cond (.tmp 14)
     (.seq (.reg [⟨(some 4), .mv (.const (.int .i64 0)), none⟩])
      (.ret))
     (.skip)))
   (.seq (.reg [⟨(some 5), .mv (.const (.int .i64 1)), none⟩])
    (.seq (.seq (.reg [⟨(some 15), .mv (.tmp 0), none⟩,
         ⟨(some 16), .mv (.tmp 1), none⟩,
         ⟨(some 17), .mx (.tmp 15) (.tmp 16), none⟩,
         ⟨(some 6), .mv (.tmp 17), none⟩])
      (.block 0 (.loop (.seq (.seq (.reg [⟨(some 18), .mv (.tmp 6), none⟩,
             ⟨(some 19), .bin .gtr (.tmp 18) (.const (.int .i64 1)), none⟩])
          (.cond (.tmp 19)
           (.skip)
           (.exit 0)))
         (.seq (.block 1 (.reg [⟨(some 22), .mv (.tmp 5), none⟩,
              ⟨(some 23), .bin .add (.tmp 22) (.const (.int .i64 1)), none⟩,
              ⟨(some 5), .mv (.tmp 23), none⟩]))
          (.reg [⟨(some 20), .mv (.tmp 6), none⟩,
             ⟨(some 21), .bin .shr (.tmp 20) (.const (.int .u64 1)), none⟩,
             ⟨(some 6), .mv (.tmp 21), none⟩]))))))
     (.seq (.reg [⟨(some 24), .mv (.tmp 5), none⟩,
         ⟨(some 4), .mv (.tmp 24), none⟩])
      (.ret)))))
theorem k20 : fnOk Try.prog 20 = some (M20, [.t 4], 25) := by kernel_rfl
def M50 : MC :=
  .seq (.reg [⟨(some 2), .mv (.const (.bool false)), none⟩])
  (.seq (.reg [⟨(some 3), .mv (.tmp 0), none⟩,
      ⟨(some 4), .bin .gtr (.tmp 3) (.const (.int .i64 0)), none⟩,
      ⟨(some 5), .mv (.tmp 4), none⟩,
      ⟨(some 6), .mv (.tmp 0), (some (5, true))⟩,
      ⟨(some 7), .bin .leq (.tmp 6) (.const (.int .i64 64)), (some (5, true))⟩,
      ⟨(some 8), .pick (.tmp 5) (.tmp 7) (.const (.bool false)), none⟩,
      ⟨(some 2), .mv (.tmp 8), none⟩])
   (.ret))
theorem k50 : fnOk Try.prog 50 = some (M50, [.t 2], 9) := by kernel_rfl
def M40 : MC :=
  .seq (.reg [⟨(some 2), .mv (.const (.bool false)), none⟩])
  (.seq (.reg [⟨(some 3), .mv (.tmp 0), none⟩,
      ⟨(some 4), .bin .gtr (.tmp 3) (.const (.int .i64 0)), none⟩,
      ⟨(some 5), .mv (.tmp 4), none⟩,
      ⟨(some 6), .mv (.tmp 0), (some (5, true))⟩,
      ⟨(some 7), .mv (.tmp 0), (some (5, true))⟩,
      ⟨(some 8), .bin .sub (.tmp 7) (.const (.int .i64 1)), (some (5, true))⟩,
      ⟨(some 9), .bin .and (.tmp 6) (.tmp 8), (some (5, true))⟩,
      ⟨(some 10), .bin .eql (.tmp 9) (.const (.int .i64 0)), (some (5, true))⟩,
      ⟨(some 11), .pick (.tmp 5) (.tmp 10) (.const (.bool false)), none⟩,
      ⟨(some 2), .mv (.tmp 11), none⟩])
   (.ret))
theorem k40 : fnOk Try.prog 40 = some (M40, [.t 2], 12) := by kernel_rfl
def M39 : MC :=
  .seq (.reg [⟨(some 1), .box 38 (.tmp 0), none⟩,
     ⟨(some 2), .mv (.const (.bool false)), none⟩])
  (.seq (.reg [⟨(some 3), .fa 0 (.tmp 1), none⟩,
      ⟨(some 4), .ld1 (.tmp 3), none⟩,
      ⟨(some 5), .bin .eql (.tmp 4) (.const (.int .i64 0)), none⟩,
      ⟨(some 6), .mv (.tmp 5), none⟩,
      ⟨(some 7), .fa 1 (.tmp 1), (some (6, true))⟩,
      ⟨(some 8), .ld1 (.tmp 7), (some (6, true))⟩,
      ⟨(some 9), .bin .eql (.tmp 8) (.const (.int .i64 0)), (some (6, true))⟩,
      ⟨(some 10), .pick (.tmp 6) (.tmp 9) (.const (.bool false)), none⟩,
      ⟨(some 11), .mv (.tmp 10), none⟩,
      ⟨(some 12), .fa 2 (.tmp 1), (some (11, true))⟩,
      ⟨(some 13), .ld1 (.tmp 12), (some (11, true))⟩,
      ⟨(some 14), .len (.tmp 13), (some (11, true))⟩,
      ⟨(some 15), .bin .eql (.tmp 14) (.const (.int .i64 0)), (some (11, true))⟩,
      ⟨(some 16), .pick (.tmp 11) (.tmp 15) (.const (.bool false)), none⟩,
      ⟨(some 2), .mv (.tmp 16), none⟩])
   (.ret))
theorem k39 : fnOk Try.prog 39 = some (M39, [.t 2], 17) := by kernel_rfl
def M19 : MC :=
  .seq (.reg [⟨(some 1), .box 24 (.tmp 0), none⟩,
     ⟨(some 2), .mv (.const (.int .i64 0)), none⟩])
  (.seq (.reg [⟨(some 6), .fa 0 (.tmp 1), none⟩,
      ⟨(some 7), .ld1 (.tmp 6), none⟩,
      ⟨(some 8), .call 48 [(.tmp 7)], none⟩,
      ⟨(some 3), .alloc 3 [(.int .i64 0)], none⟩,
      ⟨none, .st1 (.tmp 3) (.tmp 8), none⟩])
   (.seq (.reg [⟨(some 9), .fn 49 [(.tmp 3)], none⟩,
       ⟨(some 4), .mv (.tmp 9), none⟩])
    (.seq (.reg [⟨(some 10), .fa 1 (.tmp 1), none⟩,
        ⟨(some 11), .ld1 (.tmp 10), none⟩,
        ⟨(some 12), .len (.tmp 11), none⟩,
        ⟨(some 5), .mv (.tmp 12), none⟩])
     (.seq (.block 0 (.seq (.seq (.reg [⟨(some 14), .mv (.tmp 5), none⟩,
            ⟨(some 15), .bin .gtr (.tmp 14) (.const (.int .i64 7)), none⟩,
            ⟨(some 13), .mv (.tmp 15), none⟩])
         (.cond (.tmp 13)
          (.skip)
          (.seq (.reg [⟨(some 16), .mv (.tmp 5), none⟩,
              ⟨(some 17), .bin .eql (.tmp 16) (.const (.int .i64 0)), none⟩,
              ⟨(some 18), .mv (.tmp 17), none⟩,
              ⟨(some 19), .fa 0 (.tmp 1), (some (18, true))⟩,
              ⟨(some 20), .ld1 (.tmp 19), (some (18, true))⟩,
              ⟨(some 21), .bin .neq (.tmp 20) (.const (.int .i64 0)), (some (18, true))⟩,
              ⟨(some 22), .pick (.tmp 18) (.tmp 21) (.const (.bool false)), none⟩,
              ⟨(some 13), .mv (.tmp 22), none⟩])
           (.cond (.tmp 13)
            (.skip)
            (.seq (.reg [⟨(some 23), .mv (.tmp 5), none⟩,
                ⟨(some 24), .bin .gtr (.tmp 23) (.const (.int .i64 0)), none⟩,
                ⟨(some 25), .mv (.tmp 24), none⟩,
                ⟨(some 26), .ld1 (.tmp 3), (some (25, true))⟩,
                ⟨(some 27), .bin .eql (.tmp 26) (.const (.int .i64 0)), (some (25, true))⟩,
                ⟨(some 28), .mv (.tmp 27), (some (25, true))⟩,
                ⟨(some 29), .fa 1 (.tmp 1), (some (28, false))⟩,
                ⟨(some 30), .ld1 (.tmp 29), (some (28, false))⟩,
                ⟨(some 31), .mv (.tmp 5), (some (28, false))⟩,
                ⟨(some 32), .bin .sub (.tmp 31) (.const (.int .i64 1)), (some (28, false))⟩,
                ⟨(some 33), .is 3 (.tmp 30) (.tmp 32), (some (28, false))⟩,
                ⟨(some 34), .ldn 3 (.tmp 33), (some (28, false))⟩,
                ⟨(some 35), .call 39 [(.tmp 34)], (some (28, false))⟩,
                ⟨(some 36), .pick (.tmp 28) (.const (.bool true)) (.tmp 35), (some (25, true))⟩,
                ⟨(some 37), .pick (.tmp 25) (.tmp 36) (.const (.bool false)), none⟩,
                ⟨(some 13), .mv (.tmp 37), none⟩])
             (.cond (.tmp 13)
              (.skip)
              (.reg [⟨(some 38), .fa 1 (.tmp 1), none⟩,
                 ⟨(some 39), .ld1 (.tmp 38), none⟩,
                 ⟨(some 40), .mv (.tmp 4), none⟩,
                 ⟨(some 41), .call 51 [(.tmp 39), (.tmp 40)], none⟩,
                 ⟨(some 13), .mv (.tmp 41), none⟩])))))))
        (.cond (.tmp 13)
         (.seq (.reg [⟨(some 2), .mv (.const (.int .i64 180)), none⟩])
          (.ret))
         (.seq (.seq (.reg [⟨(some 43), .fa 2 (.tmp 1), none⟩,
              ⟨(some 44), .ld1 (.tmp 43), none⟩,
              ⟨(some 45), .call 52 [(.const (.int .i64 1)), (.tmp 44)], none⟩,
              ⟨(some 46), .un .not (.tmp 45), none⟩,
              ⟨(some 42), .mv (.tmp 46), none⟩])
           (.cond (.tmp 42)
            (.skip)
            (.seq (.reg [⟨(some 47), .fa 3 (.tmp 1), none⟩,
                ⟨(some 48), .ld1 (.tmp 47), none⟩,
                ⟨(some 49), .call 52 [(.const (.int .i64 2)), (.tmp 48)], none⟩,
                ⟨(some 50), .un .not (.tmp 49), none⟩,
                ⟨(some 42), .mv (.tmp 50), none⟩])
             (.cond (.tmp 42)
              (.skip)
              (.seq (.reg [⟨(some 51), .fa 4 (.tmp 1), none⟩,
                  ⟨(some 52), .ld1 (.tmp 51), none⟩,
                  ⟨(some 53), .call 52 [(.const (.int .i64 3)), (.tmp 52)], none⟩,
                  ⟨(some 54), .un .not (.tmp 53), none⟩,
                  ⟨(some 42), .mv (.tmp 54), none⟩])
               (.cond (.tmp 42)
                (.skip)
                (.reg [⟨(some 55), .fa 5 (.tmp 1), none⟩,
                   ⟨(some 56), .ld1 (.tmp 55), none⟩,
                   ⟨(some 57), .call 52 [(.const (.int .i64 4)), (.tmp 56)], none⟩,
                   ⟨(some 58), .un .not (.tmp 57), none⟩,
                   ⟨(some 42), .mv (.tmp 58), none⟩])))))))
          (.cond (.tmp 42)
           (.seq (.reg [⟨(some 2), .mv (.const (.int .i64 180)), none⟩])
            (.ret))
           (.skip))))))
      (.seq (.reg [⟨(some 2), .mv (.const (.int .i64 0)), none⟩])
       (.ret))))))
theorem k19 : fnOk Try.prog 19 = some (M19, [.t 2], 59) := by kernel_rfl
def M52 : MC :=
  .seq (.reg [⟨(some 4), .mv (.const (.bool false)), none⟩])
  (.seq (.reg [⟨(some 5), .mv (.const (.int .i64 0)), none⟩])
   (.seq (.seq (.reg [⟨(some 6), .mv (.tmp 0), none⟩])
     (.block 0 (.seq (.seq (.reg [⟨(some 8), .bin .eql (.tmp 6) (.const (.int .i64 1)), none⟩,
           ⟨(some 7), .mv (.tmp 8), none⟩])
        (.cond (.tmp 7)
         (.skip)
         (.reg [⟨(some 9), .bin .eql (.tmp 6) (.const (.int .i64 2)), none⟩,
            ⟨(some 7), .mv (.tmp 9), none⟩])))
       (.cond (.tmp 7)
        (.reg [⟨(some 5), .mv (.const (.int .i64 3)), none⟩])
        (.seq (.reg [⟨(some 11), .bin .eql (.tmp 6) (.const (.int .i64 3)), none⟩,
            ⟨(some 10), .mv (.tmp 11), none⟩])
         (.cond (.tmp 10)
          (.reg [⟨(some 5), .mv (.const (.int .i64 4)), none⟩])
          (.seq (.reg [⟨(some 13), .bin .eql (.tmp 6) (.const (.int .i64 4)), none⟩,
              ⟨(some 12), .mv (.tmp 13), none⟩])
           (.cond (.tmp 12)
            (.reg [⟨(some 5), .mv (.const (.int .i64 2)), none⟩])
            (.skip)))))))))
    (.seq (.reg [⟨(some 14), .mv (.tmp 1), none⟩,
        ⟨(some 15), .bin .geq (.tmp 14) (.const (.int .i64 1)), none⟩,
        ⟨(some 16), .mv (.tmp 15), none⟩,
        ⟨(some 17), .mv (.tmp 1), (some (16, true))⟩,
        ⟨(some 18), .mv (.tmp 5), (some (16, true))⟩,
        ⟨(some 19), .bin .leq (.tmp 17) (.tmp 18), (some (16, true))⟩,
        ⟨(some 20), .pick (.tmp 16) (.tmp 19) (.const (.bool false)), none⟩,
        ⟨(some 4), .mv (.tmp 20), none⟩])
     (.ret))))
theorem k52 : fnOk Try.prog 52 = some (M52, [.t 4], 21) := by kernel_rfl
def M51 : MC :=
  .seq (.reg [⟨(some 4), .mv (.const (.bool false)), none⟩])
  (.seq (.reg [⟨(some 5), .mv (.tmp 0), none⟩,
      ⟨(some 6), .mv (.tmp 1), none⟩,
      ⟨(some 7), .call 70 [(.tmp 5), (.tmp 6)], none⟩,
      ⟨(some 8), .bin .geq (.tmp 7) (.const (.int .i64 0)), none⟩,
      ⟨(some 4), .mv (.tmp 8), none⟩])
   (.ret))
theorem k51 : fnOk Try.prog 51 = some (M51, [.t 4], 9) := by kernel_rfl
def M70 : MC :=
  .seq (.reg [⟨(some 4), .mv (.const (.int .i64 0)), none⟩])
  (.seq (.seq (.reg [⟨(some 6), .mv (.tmp 0), none⟩,
       ⟨(some 7), .len (.tmp 6), none⟩,
       ⟨(some 8), .mv (.const (.int .i64 0)), none⟩])
    (.block 0 (.loop (.seq (.reg [⟨(some 9), .bin .lss (.tmp 8) (.tmp 7), none⟩])
       (.seq (.cond (.tmp 9)
         (.skip)
         (.exit 0))
        (.seq (.block 1 (.seq (.reg [⟨(some 10), .mv (.tmp 8), none⟩,
              ⟨(some 5), .mv (.tmp 10), none⟩])
           (.seq (.reg [⟨(some 11), .mv (.tmp 1), none⟩,
               ⟨(some 12), .mv (.tmp 0), none⟩,
               ⟨(some 13), .mv (.tmp 5), none⟩,
               ⟨(some 14), .is 3 (.tmp 12) (.tmp 13), none⟩,
               ⟨(some 15), .ldn 3 (.tmp 14), none⟩,
               ⟨(some 16), .yv (.tmp 11) [(.tmp 15)], none⟩])
            (.cond (.tmp 16)
             (.seq (.reg [⟨(some 17), .mv (.tmp 5), none⟩,
                 ⟨(some 4), .mv (.tmp 17), none⟩])
              (.ret))
             (.skip)))))
         (.reg [⟨(some 18), .bin .add (.tmp 8) (.const (.int .i64 1)), none⟩,
            ⟨(some 8), .mv (.tmp 18), none⟩])))))))
   (.seq (.reg [⟨(some 4), .mv (.const (.int .i64 (-1))), none⟩])
    (.ret)))
theorem k70 : fnOk Try.prog 70 = some (M70, [.t 4], 19) := by kernel_rfl
def M49 : MC :=
  .seq (.reg [⟨(some 2), .box 38 (.tmp 0), none⟩,
     ⟨(some 3), .mv (.const (.bool false)), none⟩])
  (.seq (.reg [⟨(some 4), .ldn 3 (.tmp 2), none⟩,
      ⟨(some 5), .call 39 [(.tmp 4)], none⟩,
      ⟨(some 6), .un .not (.tmp 5), none⟩,
      ⟨(some 7), .mv (.tmp 6), none⟩,
      ⟨(some 8), .fa 0 (.tmp 2), (some (7, true))⟩,
      ⟨(some 9), .ld1 (.tmp 8), (some (7, true))⟩,
      ⟨(some 10), .call 50 [(.tmp 9)], (some (7, true))⟩,
      ⟨(some 11), .un .not (.tmp 10), (some (7, true))⟩,
      ⟨(some 12), .mv (.tmp 11), (some (7, true))⟩,
      ⟨(some 13), .fa 1 (.tmp 2), (some (12, false))⟩,
      ⟨(some 14), .ld1 (.tmp 13), (some (12, false))⟩,
      ⟨(some 15), .call 50 [(.tmp 14)], (some (12, false))⟩,
      ⟨(some 16), .un .not (.tmp 15), (some (12, false))⟩,
      ⟨(some 17), .pick (.tmp 12) (.const (.bool true)) (.tmp 16), (some (7, true))⟩,
      ⟨(some 18), .mv (.tmp 17), (some (7, true))⟩,
      ⟨(some 19), .fa 2 (.tmp 2), (some (18, false))⟩,
      ⟨(some 20), .ld1 (.tmp 19), (some (18, false))⟩,
      ⟨(some 21), .len (.tmp 20), (some (18, false))⟩,
      ⟨(some 22), .fa 0 (.tmp 2), (some (18, false))⟩,
      ⟨(some 23), .ld1 (.tmp 22), (some (18, false))⟩,
      ⟨(some 24), .fa 1 (.tmp 2), (some (18, false))⟩,
      ⟨(some 25), .ld1 (.tmp 24), (some (18, false))⟩,
      ⟨(some 26), .bin .mul (.tmp 23) (.tmp 25), (some (18, false))⟩,
      ⟨(some 27), .ld1 (.tmp 1), (some (18, false))⟩,
      ⟨(some 28), .bin .mul (.tmp 26) (.tmp 27), (some (18, false))⟩,
      ⟨(some 29), .bin .neq (.tmp 21) (.tmp 28), (some (18, false))⟩,
      ⟨(some 30), .pick (.tmp 18) (.const (.bool true)) (.tmp 29), (some (7, true))⟩,
      ⟨(some 31), .pick (.tmp 7) (.tmp 30) (.const (.bool false)), none⟩,
      ⟨(some 3), .mv (.tmp 31), none⟩])
   (.ret))
theorem k49 : fnOk Try.prog 49 = some (M49, [.t 3], 32) := by kernel_rfl
def M48 : MC :=
  .seq (.reg [⟨(some 2), .mv (.const (.int .i64 0)), none⟩])
  (.seq (.reg [⟨(some 6), .mv (.tmp 0), none⟩,
      ⟨(some 7), .call 69 [(.tmp 6)], none⟩,
      ⟨(some 5), .mv (.tmp 7), none⟩,
      ⟨(some 8), .ext 0 (.tmp 5), none⟩,
      ⟨(some 9), .ext 1 (.tmp 5), none⟩,
      ⟨(some 3), .alloc 95 [(.int .i64 0), (.slice none 0 0), (.int .i32 0), (.int .i32 0), (.int .i32 0), (.int .i32 0)], none⟩,
      ⟨none, .stn 6 (.tmp 3) (.tmp 8), none⟩,
      ⟨(some 4), .mv (.tmp 9), none⟩])
   (.seq (.reg [⟨(some 10), .fa 0 (.tmp 3), none⟩,
       ⟨(some 11), .ld1 (.tmp 10), none⟩,
       ⟨(some 2), .mv (.tmp 11), none⟩])
    (.ret)))
theorem k48 : fnOk Try.prog 48 = some (M48, [.t 2], 12) := by kernel_rfl
def M69 : MC :=
  .seq (.reg [⟨(some 2), .alloc 95 [(.int .i64 0), (.slice none 0 0), (.int .i32 0), (.int .i32 0), (.int .i32 0), (.int .i32 0)], none⟩,
     ⟨(some 3), .mv (.const (.bool false)), none⟩])
  (.seq (.reg [⟨(some 5), .call 75 [], none⟩,
      ⟨(some 4), .mv (.tmp 5), none⟩])
   (.seq (.seq (.reg [⟨(some 6), .mv (.tmp 0), none⟩,
        ⟨(some 7), .bin .lss (.tmp 6) (.const (.int .i64 1)), none⟩,
        ⟨(some 8), .mv (.tmp 7), none⟩,
        ⟨(some 9), .mv (.tmp 0), (some (8, false))⟩,
        ⟨(some 10), .mv (.tmp 4), (some (8, false))⟩,
        ⟨(some 11), .len (.tmp 10), (some (8, false))⟩,
        ⟨(some 12), .bin .geq (.tmp 9) (.tmp 11), (some (8, false))⟩,
        ⟨(some 13), .pick (.tmp 8) (.const (.bool true)) (.tmp 12), none⟩])
     (.cond (.tmp 13)
      (.seq (.reg [⟨(some 14), .build [(.int .i64 0), (.slice none 0 0), (.int .i32 0), (.int .i32 0), (.int .i32 0), (.int .i32 0)] [], none⟩,
          ⟨none, .stn 6 (.tmp 2) (.tmp 14), none⟩,
          ⟨(some 3), .mv (.const (.bool false)), none⟩])
       (.ret))
      (.skip)))
    (.seq (.reg [⟨(some 15), .mv (.tmp 4), none⟩,
        ⟨(some 16), .mv (.tmp 0), none⟩,
        ⟨(some 17), .is 6 (.tmp 15) (.tmp 16), none⟩,
        ⟨(some 18), .ldn 6 (.tmp 17), none⟩,
        ⟨none, .stn 6 (.tmp 2) (.tmp 18), none⟩,
        ⟨(some 3), .mv (.const (.bool true)), none⟩])
     (.ret))))
theorem k69 : fnOk Try.prog 69 = some (M69, [.cn 6 2, .t 3], 19) := by kernel_rfl
def M75 : MC :=
  .seq (.reg [⟨(some 0), .mv (.const (.slice none 0 0)), none⟩])
  (.seq (.reg [⟨(some 2), .build [(.int .i32 0), (.int .i32 0), (.int .i32 0), (.int .i32 0)] [(0, 1, (.const (.int .i32 0))), (1, 1, (.const (.int .i32 0))), (2, 1, (.const (.int .i32 0))), (3, 1, (.const (.int .i32 65536)))], none⟩,
      ⟨(some 1), .alloc 93 [(.int .i32 0), (.int .i32 0), (.int .i32 0), (.int .i32 0)], none⟩,
      ⟨none, .stn 4 (.tmp 1) (.tmp 2), none⟩])
   (.seq (.reg [⟨(some 3), .build [(.int .i64 0), (.slice none 0 0), (.int .i32 0), (.int .i32 0), (.int .i32 0), (.int .i32 0)] [], none⟩,
       ⟨(some 4), .build [(.int .i64 0), (.int .i64 0), (.int .i64 0)] [(0, 1, (.const (.int .i64 0))), (1, 1, (.const (.int .i64 8))), (2, 1, (.const (.int .i64 0)))], none⟩,
       ⟨(some 5), .build [(.int .i64 0), (.int .i64 0), (.int .i64 0)] [(0, 1, (.const (.int .i64 1))), (1, 1, (.const (.int .i64 8))), (2, 1, (.const (.int .i64 8)))], none⟩,
       ⟨(some 6), .build [(.int .i64 0), (.int .i64 0), (.int .i64 0)] [(0, 1, (.const (.int .i64 2))), (1, 1, (.const (.int .i64 8))), (2, 1, (.const (.int .i64 16)))], none⟩,
       ⟨(some 7), .build [(.int .i64 0), (.int .i64 0), (.int .i64 0)] [(0, 1, (.const (.int .i64 3))), (1, 1, (.const (.int .i64 8))), (2, 1, (.const (.int .i64 24)))], none⟩,
       ⟨(some 8), .bslice 108 4 [(.int .i64 0), (.int .i64 0), (.int .i64 0), (.int .i64 0), (.int .i64 0), (.int .i64 0), (.int .i64 0), (.int .i64 0), (.int .i64 0), (.int .i64 0), (.int .i64 0), (.int .i64 0)] [(0, 3, (.tmp 4)), (3, 3, (.tmp 5)), (6, 3, (.tmp 6)), (9, 3, (.tmp 7))], none⟩,
       ⟨(some 9), .build [(.int .i32 0), (.int .i32 0), (.int .i32 0), (.int .i32 0)] [], none⟩,
       ⟨(some 10), .build [(.int .i64 0), (.slice none 0 0), (.int .i32 0), (.int .i32 0), (.int .i32 0), (.int .i32 0)] [(0, 1, (.const (.int .i64 4))), (1, 1, (.tmp 8)), (2, 4, (.tmp 9))], none⟩,
       ⟨(some 11), .build [(.int .i64 0), (.int .i64 0), (.int .i64 0)] [(0, 1, (.const (.int .i64 0))), (1, 1, (.const (.int .i64 5))), (2, 1, (.const (.int .i64 11)))], none⟩,
       ⟨(some 12), .build [(.int .i64 0), (.int .i64 0), (.int .i64 0)] [(0, 1, (.const (.int .i64 1))), (1, 1, (.const (.int .i64 6))), (2, 1, (.const (.int .i64 5)))], none⟩,
       ⟨(some 13), .build [(.int .i64 0), (.int .i64 0), (.int .i64 0)] [(0, 1, (.const (.int .i64 2))), (1, 1, (.const (.int .i64 5))), (2, 1, (.const (.int .i64 0)))], none⟩,
       ⟨(some 14), .bslice 108 3 [(.int .i64 0), (.int .i64 0), (.int .i64 0), (.int .i64 0), (.int .i64 0), (.int .i64 0), (.int .i64 0), (.int .i64 0), (.int .i64 0)] [(0, 3, (.tmp 11)), (3, 3, (.tmp 12)), (6, 3, (.tmp 13))], none⟩,
       ⟨(some 15), .ldn 4 (.tmp 1), none⟩,
       ⟨(some 16), .build [(.int .i64 0), (.slice none 0 0), (.int .i32 0), (.int .i32 0), (.int .i32 0), (.int .i32 0)] [(0, 1, (.const (.int .i64 2))), (1, 1, (.tmp 14)), (2, 4, (.tmp 15))], none⟩,
       ⟨(some 17), .build [(.int .i64 0), (.int .i64 0), (.int .i64 0)] [(0, 1, (.const (.int .i64 0))), (1, 1, (.const (.int .i64 4))), (2, 1, (.const (.int .i64 12)))], none⟩,
       ⟨(some 18), .build [(.int .i64 0), (.int .i64 0), (.int .i64 0)] [(0, 1, (.const (.int .i64 1))), (1, 1, (.const (.int .i64 4))), (2, 1, (.const (.int .i64 8)))], none⟩,
       ⟨(some 19), .build [(.int .i64 0), (.int .i64 0), (.int .i64 0)] [(0, 1, (.const (.int .i64 2))), (1, 1, (.const (.int .i64 4))), (2, 1, (.const (.int .i64 4)))], none⟩,
       ⟨(some 20), .build [(.int .i64 0), (.int .i64 0), (.int .i64 0)] [(0, 1, (.const (.int .i64 3))), (1, 1, (.const (.int .i64 4))), (2, 1, (.const (.int .i64 0)))], none⟩,
       ⟨(some 21), .bslice 108 4 [(.int .i64 0), (.int .i64 0), (.int .i64 0), (.int .i64 0), (.int .i64 0), (.int .i64 0), (.int .i64 0), (.int .i64 0), (.int .i64 0), (.int .i64 0), (.int .i64 0), (.int .i64 0)] [(0, 3, (.tmp 17)), (3, 3, (.tmp 18)), (6, 3, (.tmp 19)), (9, 3, (.tmp 20))], none⟩,
       ⟨(some 22), .build [(.int .i32 0), (.int .i32 0), (.int .i32 0), (.int .i32 0)] [], none⟩,
       ⟨(some 23), .build [(.int .i64 0), (.slice none 0 0), (.int .i32 0), (.int .i32 0), (.int .i32 0), (.int .i32 0)] [(0, 1, (.const (.int .i64 2))), (1, 1, (.tmp 21)), (2, 4, (.tmp 22))], none⟩,
       ⟨(some 24), .build [(.int .i64 0), (.int .i64 0), (.int .i64 0)] [(0, 1, (.const (.int .i64 0))), (1, 1, (.const (.int .i64 5))), (2, 1, (.const (.int .i64 11)))], none⟩,
       ⟨(some 25), .build [(.int .i64 0), (.int .i64 0), (.int .i64 0)] [(0, 1, (.const (.int .i64 1))), (1, 1, (.const (.int .i64 5))), (2, 1, (.const (.int .i64 6)))], none⟩,
       ⟨(some 26), .build [(.int .i64 0), (.int .i64 0), (.int .i64 0)] [(0, 1, (.const (.int .i64 2))), (1, 1, (.const (.int .i64 5))), (2, 1, (.const (.int .i64 1)))], none⟩,
       ⟨(some 27), .build [(.int .i64 0), (.int .i64 0), (.int .i64 0)] [(0, 1, (.const (.int .i64 3))), (1, 1, (.const (.int .i64 1))), (2, 1, (.const (.int .i64 0)))], none⟩,
       ⟨(some 28), .bslice 108 4 [(.int .i64 0), (.int .i64 0), (.int .i64 0), (.int .i64 0), (.int .i64 0), (.int .i64 0), (.int .i64 0), (.int .i64 0), (.int .i64 0), (.int .i64 0), (.int .i64 0), (.int .i64 0)] [(0, 3, (.tmp 24)), (3, 3, (.tmp 25)), (6, 3, (.tmp 26)), (9, 3, (.tmp 27))], none⟩,
       ⟨(some 29), .build [(.int .i32 0), (.int .i32 0), (.int .i32 0), (.int .i32 0)] [], none⟩,
       ⟨(some 30), .build [(.int .i64 0), (.slice none 0 0), (.int .i32 0), (.int .i32 0), (.int .i32 0), (.int .i32 0)] [(0, 1, (.const (.int .i64 2))), (1, 1, (.tmp 28)), (2, 4, (.tmp 29))], none⟩,
       ⟨(some 31), .build [(.int .i64 0), (.int .i64 0), (.int .i64 0)] [(0, 1, (.const (.int .i64 0))), (1, 1, (.const (.int .i64 8))), (2, 1, (.const (.int .i64 0)))], none⟩,
       ⟨(some 32), .bslice 108 1 [(.int .i64 0), (.int .i64 0), (.int .i64 0)] [(0, 3, (.tmp 31))], none⟩,
       ⟨(some 33), .ldn 4 (.tmp 1), none⟩,
       ⟨(some 34), .build [(.int .i64 0), (.slice none 0 0), (.int .i32 0), (.int .i32 0), (.int .i32 0), (.int .i32 0)] [(0, 1, (.const (.int .i64 1))), (1, 1, (.tmp 32)), (2, 4, (.tmp 33))], none⟩,
       ⟨(some 35), .build [(.int .i64 0), (.int .i64 0), (.int .i64 0)] [(0, 1, (.const (.int .i64 3))), (1, 1, (.const (.int .i64 8))), (2, 1, (.const (.int .i64 0)))], none⟩,
       ⟨(some 36), .bslice 108 1 [(.int .i64 0), (.int .i64 0), (.int .i64 0)] [(0, 3, (.tmp 35))], none⟩,
       ⟨(some 37), .build [(.int .i32 0), (.int .i32 0), (.int .i32 0), (.int .i32 0)] [], none⟩,
       ⟨(some 38), .build [(.int .i64 0), (.slice none 0 0), (.int .i32 0), (.int .i32 0), (.int .i32 0), (.int .i32 0)] [(0, 1, (.const (.int .i64 1))), (1, 1, (.tmp 36)), (2, 4, (.tmp 37))], none⟩,
       ⟨(some 39), .build [(.int .i64 0), (.int .i64 0), (.int .i64 0)] [(0, 1, (.const (.int .i64 0))), (1, 1, (.const (.int .i64 8))), (2, 1, (.const (.int .i64 0)))], none⟩,
       ⟨(some 40), .build [(.int .i64 0), (.int .i64 0), (.int .i64 0)] [(0, 1, (.const (.int .i64 3))), (1, 1, (.const (.int .i64 8))), (2, 1, (.const (.int .i64 8)))], none⟩,
       ⟨(some 41), .bslice 108 2 [(.int .i64 0), (.int .i64 0), (.int .i64 0), (.int .i64 0), (.int .i64 0), (.int .i64 0)] [(0, 3, (.tmp 39)), (3, 3, (.tmp 40))], none⟩,
       ⟨(some 42), .build [(.int .i32 0), (.int .i32 0), (.int .i32 0), (.int .i32 0)] [], none⟩,
       ⟨(some 43), .build [(.int .i64 0), (.slice none 0 0), (.int .i32 0), (.int .i32 0), (.int .i32 0), (.int .i32 0)] [(0, 1, (.const (.int .i64 2))), (1, 1, (.tmp 41)), (2, 4, (.tmp 42))], none⟩,
       ⟨(some 44), .bslice 95 8 [(.int .i64 0), (.slice none 0 0), (.int .i32 0), (.int .i32 0), (.int .i32 0), (.int .i32 0), (.int .i64 0), (.slice none 0 0), (.int .i32 0), (.int .i32 0), (.int .i32 0), (.int .i32 0), (.int .i64 0), (.slice none 0 0), (.int .i32 0), (.int .i32 0), (.int .i32 0), (.int .i32 0), (.int .i64 0), (.slice none 0 0), (.int .i32 0), (.int .i32 0), (.int .i32 0), (.int .i32 0), (.int .i64 0), (.slice none 0 0), (.int .i32 0), (.int .i32 0), (.int .i32 0), (.int .i32 0), (.int .i64 0), (.slice none 0 0), (.int .i32 0), (.int .i32 0), (.int .i32 0), (.int .i32 0), (.int .i64 0), (.slice none 0 0), (.int .i32 0), (.int .i32 0), (.int .i32 0), (.int .i32 0), (.int .i64 0), (.slice none 0 0), (.int .i32 0), (.int .i32 0), (.int .i32 0), (.int .i32 0)] [(0, 6, (.tmp 3)), (6, 6, (.tmp 10)), (12, 6, (.tmp 16)), (18, 6, (.tmp 23)), (24, 6, (.tmp 30)), (30, 6, (.tmp 34)), (36, 6, (.tmp 38)), (42, 6, (.tmp 43))], none⟩,
       ⟨(some 0), .mv (.tmp 44), none⟩])
    (.ret)))
theorem k75 : fnOk Try.prog 75 = some (M75, [.t 0], 45) := by kernel_rfl
def M15 : MC :=
  .seq (.reg [⟨(some 1), .box 24 (.tmp 0), none⟩,
     ⟨(some 2), .alloc 24 [(.int .i64 0), (.slice none 0 0), (.int .i64 0), (.int .i64 0), (.int .i64 0), (.int .i64 0)], none⟩,
     ⟨(some 3), .mv (.const (.int .i64 0)), none⟩])
  (.scope (.seq (.seq (.reg [⟨(some 6), .ldn 6 (.tmp 1), none⟩,
        ⟨(some 7), .call 19 [(.tmp 6)], none⟩,
        ⟨(some 4), .mv (.tmp 7), none⟩])
     (.seq (.reg [⟨(some 8), .mv (.tmp 4), none⟩,
         ⟨(some 9), .bin .neq (.tmp 8) (.const (.int .i64 0)), none⟩])
      (.cond (.tmp 9)
       (.seq (.reg [⟨(some 10), .build [(.int .i64 0), (.slice none 0 0), (.int .i64 0), (.int .i64 0), (.int .i64 0), (.int .i64 0)] [], none⟩,
           ⟨(some 11), .mv (.tmp 4), none⟩,
           ⟨none, .stn 6 (.tmp 2) (.tmp 10), none⟩,
           ⟨(some 3), .mv (.tmp 11), none⟩])
        (.ret))
       (.skip))))
    (.seq (.seq (.reg [⟨(some 12), .fa 1 (.tmp 1), none⟩,
         ⟨(some 13), .ld1 (.tmp 12), none⟩,
         ⟨(some 14), .len (.tmp 13), none⟩,
         ⟨(some 15), .bin .eql (.tmp 14) (.const (.int .i64 0)), none⟩,
         ⟨(some 16), .mv (.tmp 15), none⟩,
         ⟨(some 17), .fa 1 (.tmp 1), (some (16, false))⟩,
         ⟨(some 18), .ld1 (.tmp 17), (some (16, false))⟩,
         ⟨(some 19), .is 3 (.tmp 18) (.const (.int .i64 0)), (some (16, false))⟩,
         ⟨(some 20), .ldn 3 (.tmp 19), (some (16, false))⟩,
         ⟨(some 21), .call 39 [(.tmp 20)], (some (16, false))⟩,
         ⟨(some 22), .pick (.tmp 16) (.const (.bool true)) (.tmp 21), none⟩])
      (.cond (.tmp 22)
       (.seq (.reg [⟨(some 23), .build [(.int .i64 0), (.slice none 0 0), (.int .i64 0), (.int .i64 0), (.int .i64 0), (.int .i64 0)] [], none⟩,
           ⟨none, .stn 6 (.tmp 2) (.tmp 23), none⟩,
           ⟨(some 3), .mv (.const (.int .i64 4)), none⟩])
        (.ret))
       (.skip)))
     (.seq (.reg [⟨(some 24), .fa 1 (.tmp 1), none⟩,
         ⟨(some 25), .ld1 (.tmp 24), none⟩,
         ⟨(some 26), .is 3 (.tmp 25) (.const (.int .i64 0)), none⟩,
         ⟨(some 27), .ldn 3 (.tmp 26), none⟩,
         ⟨(some 5), .alloc 38 [(.int .i64 0), (.int .i64 0), (.slice none 0 0)], none⟩,
         ⟨none, .stn 3 (.tmp 5) (.tmp 27), none⟩])
      (.seq (.seq (.reg [⟨(some 28), .fa 0 (.tmp 5), none⟩,
           ⟨(some 29), .ld1 (.tmp 28), none⟩,
           ⟨(some 30), .call 40 [(.tmp 29)], none⟩,
           ⟨(some 31), .un .not (.tmp 30), none⟩,
           ⟨(some 32), .mv (.tmp 31), none⟩,
           ⟨(some 33), .fa 1 (.tmp 5), (some (32, false))⟩,
           ⟨(some 34), .ld1 (.tmp 33), (some (32, false))⟩,
           ⟨(some 35), .call 40 [(.tmp 34)], (some (32, false))⟩,
           ⟨(some 36), .un .not (.tmp 35), (some (32, false))⟩,
           ⟨(some 37), .pick (.tmp 32) (.const (.bool true)) (.tmp 36), none⟩])
        (.cond (.tmp 37)
         (.seq (.reg [⟨(some 38), .build [(.int .i64 0), (.slice none 0 0), (.int .i64 0), (.int .i64 0), (.int .i64 0), (.int .i64 0)] [], none⟩,
             ⟨none, .stn 6 (.tmp 2) (.tmp 38), none⟩,
             ⟨(some 3), .mv (.const (.int .i64 2)), none⟩])
          (.ret))
         (.skip)))
       (.seq (.reg [⟨(some 39), .fa 1 (.tmp 1), none⟩,
           ⟨(some 40), .ld1 (.tmp 39), none⟩,
           ⟨(some 41), .slc 3 (.tmp 40) none (some (.const (.int .i64 1))), none⟩,
           ⟨(some 42), .fa 1 (.tmp 1), none⟩,
           ⟨none, .st1 (.tmp 42) (.tmp 41), none⟩])
        (.seq (.reg [⟨(some 43), .ldn 6 (.tmp 1), none⟩,
            ⟨(some 44), .call 41 [(.tmp 43)], none⟩,
            ⟨none, .stn 6 (.tmp 1) (.tmp 44), none⟩])
         (.seq (.skip)
          (.seq (.block 0 (.loop (.block 1 (.seq (.seq (.reg [⟨(some 45), .fa 0 (.tmp 5), none⟩,
                   ⟨(some 46), .ld1 (.tmp 45), none⟩,
                   ⟨(some 47), .bin .eql (.tmp 46) (.const (.int .i64 1)), none⟩,
                   ⟨(some 48), .mv (.tmp 47), none⟩,
                   ⟨(some 49), .fa 1 (.tmp 5), (some (48, true))⟩,
                   ⟨(some 50), .ld1 (.tmp 49), (some (48, true))⟩,
                   ⟨(some 51), .bin .eql (.tmp 50) (.const (.int .i64 1)), (some (48, true))⟩,
                   ⟨(some 52), .pick (.tmp 48) (.tmp 51) (.const (.bool false)), none⟩])
                (.cond (.tmp 52)
                 (.exit 0)
                 (.skip)))
               (.seq (.reg [⟨(some 53), .ldn 3 (.tmp 5), none⟩,
                   ⟨(some 54), .fa 0 (.tmp 1), none⟩,
                   ⟨(some 55), .ld1 (.tmp 54), none⟩,
                   ⟨(some 56), .call 42 [(.tmp 53), (.tmp 55)], none⟩,
                   ⟨none, .stn 3 (.tmp 5) (.tmp 56), none⟩])
                (.reg [⟨(some 57), .fa 1 (.tmp 1), none⟩,
                   ⟨(some 58), .ld1 (.tmp 57), none⟩,
                   ⟨(some 59), .ldn 3 (.tmp 5), none⟩,
                   ⟨(some 60), .bslice 38 1 [(.int .i64 0), (.int .i64 0), (.slice none 0 0)] [(0, 3, (.tmp 59))], none⟩,
                   ⟨(some 61), .app 38 3 40 [(.int .i64 0), (.int .i64 0), (.slice none 0 0)] (.tmp 58) (.tmp 60), none⟩,
                   ⟨(some 62), .fa 1 (.tmp 1), none⟩,
                   ⟨none, .st1 (.tmp 62) (.tmp 61), none⟩]))))))
           (.seq (.reg [⟨(some 63), .ldn 6 (.tmp 1), none⟩,
               ⟨none, .stn 6 (.tmp 2) (.tmp 63), none⟩,
               ⟨(some 3), .mv (.const (.int .i64 0)), none⟩])
            (.ret)))))))))))
theorem k15 : fnOk Try.prog 15 = some (M15, [.cn 6 2, .t 3], 64) := by kernel_rfl
def M42 : MC :=
  .seq (.reg [⟨(some 2), .box 38 (.tmp 0), none⟩,
     ⟨(some 4), .alloc 38 [(.int .i64 0), (.int .i64 0), (.slice none 0 0)], none⟩])
  (.seq (.reg [⟨(some 21), .mv (.tmp 1), none⟩,
      ⟨(some 22), .call 48 [(.tmp 21)], none⟩,
      ⟨(some 5), .alloc 3 [(.int .i64 0)], none⟩,
      ⟨none, .st1 (.tmp 5) (.tmp 22), none⟩])
   (.seq (.reg [⟨(some 23), .fa 0 (.tmp 2), none⟩,
       ⟨(some 24), .ld1 (.tmp 23), none⟩,
       ⟨(some 25), .bin .quo (.tmp 24) (.const (.int .i64 2)), none⟩,
       ⟨(some 26), .mx (.tmp 25) (.const (.int .i64 1)), none⟩,
       ⟨(some 27), .fa 1 (.tmp 2), none⟩,
       ⟨(some 28), .ld1 (.tmp 27), none⟩,
       ⟨(some 29), .bin .quo (.tmp 28) (.const (.int .i64 2)), none⟩,
       ⟨(some 30), .mx (.tmp 29) (.const (.int .i64 1)), none⟩,
       ⟨(some 31), .build [(.int .i64 0), (.int .i64 0), (.slice none 0 0)] [(0, 1, (.tmp 26)), (1, 1, (.tmp 30))], none⟩,
       ⟨(some 6), .alloc 38 [(.int .i64 0), (.int .i64 0), (.slice none 0 0)], none⟩,
       ⟨none, .stn 3 (.tmp 6) (.tmp 31), none⟩])
    (.seq (.reg [⟨(some 32), .fn 66 [(.tmp 2), (.tmp 5)], none⟩,
        ⟨(some 7), .mv (.tmp 32), none⟩])
     (.seq (.seq (.reg [⟨(some 33), .fa 1 (.tmp 6), none⟩,
          ⟨(some 34), .ld1 (.tmp 33), none⟩,
          ⟨(some 35), .mv (.const (.int .i64 0)), none⟩])
       (.block 0 (.loop (.seq (.reg [⟨(some 36), .bin .lss (.tmp 35) (.tmp 34), none⟩])
          (.seq (.cond (.tmp 36)
            (.skip)
            (.exit 0))
           (.seq (.block 1 (.seq (.reg [⟨(some 37), .mv (.tmp 35), none⟩,
                 ⟨(some 8), .mv (.tmp 37), none⟩])
              (.seq (.reg [⟨(some 38), .fa 0 (.tmp 6), none⟩,
                  ⟨(some 39), .ld1 (.tmp 38), none⟩,
                  ⟨(some 40), .mv (.const (.int .i64 0)), none⟩])
               (.block 2 (.loop (.seq (.reg [⟨(some 41), .bin .lss (.tmp 40) (.tmp 39), none⟩])
                  (.seq (.cond (.tmp 41)
                    (.skip)
                    (.exit 2))
                   (.seq (.block 3 (.seq (.reg [⟨(some 42), .mv (.tmp 40), none⟩,
                         ⟨(some 9), .mv (.tmp 42), none⟩])
                      (.seq (.reg [⟨(some 10), .mv (.const (.slice none 0 0)), none⟩])
                       (.seq (.seq (.reg [⟨(some 43), .mv (.tmp 8), none⟩,
                            ⟨(some 44), .bin .mul (.const (.int .i64 2)) (.tmp 43), none⟩,
                            ⟨(some 11), .mv (.tmp 44), none⟩])
                         (.block 4 (.loop (.seq (.seq (.reg [⟨(some 45), .mv (.tmp 11), none⟩,
                                ⟨(some 46), .mv (.tmp 8), none⟩,
                                ⟨(some 47), .bin .mul (.const (.int .i64 2)) (.tmp 46), none⟩,
                                ⟨(some 48), .bin .add (.tmp 47) (.const (.int .i64 2)), none⟩,
                                ⟨(some 49), .fa 1 (.tmp 2), none⟩,
                                ⟨(some 50), .ld1 (.tmp 49), none⟩,
                                ⟨(some 51), .mn (.tmp 48) (.tmp 50), none⟩,
                                ⟨(some 52), .bin .lss (.tmp 45) (.tmp 51), none⟩])
                             (.cond (.tmp 52)
                              (.skip)
                              (.exit 4)))
                            (.seq (.block 5 (.seq (.reg [⟨(some 55), .mv (.tmp 9), none⟩,
                                  ⟨(some 56), .bin .mul (.const (.int .i64 2)) (.tmp 55), none⟩,
                                  ⟨(some 12), .mv (.tmp 56), none⟩])
                               (.block 6 (.loop (.seq (.seq (.reg [⟨(some 57), .mv (.tmp 12), none⟩,
                                      ⟨(some 58), .mv (.tmp 9), none⟩,
                                      ⟨(some 59), .bin .mul (.const (.int .i64 2)) (.tmp 58), none⟩,
                                      ⟨(some 60), .bin .add (.tmp 59) (.const (.int .i64 2)), none⟩,
                                      ⟨(some 61), .fa 0 (.tmp 2), none⟩,
                                      ⟨(some 62), .ld1 (.tmp 61), none⟩,
                                      ⟨(some 63), .mn (.tmp 60) (.tmp 62), none⟩,
                                      ⟨(some 64), .bin .lss (.tmp 57) (.tmp 63), none⟩])
                                   (.cond (.tmp 64)
                                    (.skip)
                                    (.exit 6)))
                                  (.seq (.block 7 (.reg [⟨(some 67), .mv (.tmp 10), none⟩,
                                       ⟨(some 68), .mv (.tmp 7), none⟩,
                                       ⟨(some 69), .mv (.tmp 12), none⟩,
                                       ⟨(some 70), .mv (.tmp 11), none⟩,
                                       ⟨(some 71), .yv (.tmp 68) [(.tmp 69), (.tmp 70)], none⟩,
                                       ⟨(some 72), .bslice 85 1 [(.int .u32 0)] [(0, 1, (.tmp 71))], none⟩,
                                       ⟨(some 73), .app 85 1 4 [(.int .u32 0)] (.tmp 67) (.tmp 72), none⟩,
                                       ⟨(some 10), .mv (.tmp 73), none⟩]))
                                   (.reg [⟨(some 65), .mv (.tmp 12), none⟩,
                                      ⟨(some 66), .bin .add (.tmp 65) (.const (.int .i64 1)), none⟩,
                                      ⟨(some 12), .mv (.tmp 66), none⟩])))))))
                             (.reg [⟨(some 53), .mv (.tmp 11), none⟩,
                                ⟨(some 54), .bin .add (.tmp 53) (.const (.int .i64 1)), none⟩,
                                ⟨(some 11), .mv (.tmp 54), none⟩]))))))
                        (.seq (.reg [⟨(some 13), .mv (.const (.int .u32 0)), none⟩,
                            ⟨(some 14), .mv (.const (.int .i64 0)), none⟩])
                         (.seq (.seq (.reg [⟨(some 74), .mv (.tmp 1), none⟩,
                              ⟨(some 75), .call 67 [(.tmp 74)], none⟩,
                              ⟨(some 76), .len (.tmp 75), none⟩,
                              ⟨(some 77), .mv (.const (.int .i64 0)), none⟩])
                           (.block 8 (.loop (.seq (.reg [⟨(some 78), .bin .lss (.tmp 77) (.tmp 76), none⟩])
                              (.seq (.cond (.tmp 78)
                                (.skip)
                                (.exit 8))
                               (.seq (.block 9 (.seq (.reg [⟨(some 79), .is 1 (.tmp 75) (.tmp 77), none⟩,
                                     ⟨(some 80), .ld1 (.tmp 79), none⟩,
                                     ⟨(some 16), .mv (.tmp 80), none⟩])
                                  (.seq (.reg [⟨(some 81), .mv (.tmp 10), none⟩,
                                      ⟨(some 82), .len (.tmp 81), none⟩,
                                      ⟨(some 83), .bin .quo (.tmp 82) (.const (.int .i64 2)), none⟩,
                                      ⟨(some 84), .conv .u32 (.tmp 83), none⟩,
                                      ⟨(some 17), .mv (.tmp 84), none⟩])
                                   (.seq (.seq (.reg [⟨(some 85), .mv (.tmp 10), none⟩,
                                        ⟨(some 86), .len (.tmp 85), none⟩,
                                        ⟨(some 87), .mv (.const (.int .i64 0)), none⟩])
                                     (.block 10 (.loop (.seq (.reg [⟨(some 88), .bin .lss (.tmp 87) (.tmp 86), none⟩])
                                        (.seq (.cond (.tmp 88)
                                          (.skip)
                                          (.exit 10))
                                         (.seq (.block 11 (.seq (.reg [⟨(some 89), .is 1 (.tmp 85) (.tmp 87), none⟩,
                                               ⟨(some 90), .ld1 (.tmp 89), none⟩,
                                               ⟨(some 19), .mv (.tmp 90), none⟩])
                                            (.any [(true, 0, [], ⟨(some 91), .mv (.tmp 17), none⟩),
                                               (true, 1, [], ⟨(some 92), .mv (.tmp 19), none⟩),
                                               (true, 2, [], ⟨(some 93), .mv (.tmp 14), none⟩),
                                               (true, 3, [], ⟨(some 94), .bin .shr (.tmp 92) (.tmp 93), none⟩),
                                               (false, 4, [0, 1, 2, 3], ⟨(some 95), .mv (.tmp 16), none⟩),
                                               (false, 5, [0, 1, 2, 3], ⟨(some 96), .bin .shl (.const (.int .u32 1)) (.tmp 95), none⟩),
                                               (false, 6, [0, 1, 2, 3], ⟨(some 97), .bin .sub (.tmp 96) (.const (.int .u32 1)), none⟩),
                                               (false, 7, [0], ⟨(some 98), .bin .and (.tmp 94) (.tmp 97), none⟩),
                                               (false, 8, [], ⟨(some 99), .bin .add (.tmp 91) (.tmp 98), none⟩),
                                               (false, 9, [], ⟨(some 17), .mv (.tmp 99), none⟩)])))
                                          (.reg [⟨(some 100), .bin .add (.tmp 87) (.const (.int .i64 1)), none⟩,
                                             ⟨(some 87), .mv (.tmp 100), none⟩])))))))
                                    (.seq (.reg [⟨(some 101), .mv (.tmp 13), none⟩,
                                        ⟨(some 102), .mv (.tmp 17), none⟩,
                                        ⟨(some 103), .mv (.tmp 10), none⟩,
                                        ⟨(some 104), .len (.tmp 103), none⟩,
                                        ⟨(some 105), .conv .u32 (.tmp 104), none⟩,
                                        ⟨(some 106), .bin .quo (.tmp 102) (.tmp 105), none⟩,
                                        ⟨(some 107), .mv (.tmp 14), none⟩,
                                        ⟨(some 108), .bin .shl (.tmp 106) (.tmp 107), none⟩,
                                        ⟨(some 109), .bin .or (.tmp 101) (.tmp 108), none⟩,
                                        ⟨(some 13), .mv (.tmp 109), none⟩])
                                     (.reg [⟨(some 110), .mv (.tmp 14), none⟩,
                                        ⟨(some 111), .mv (.tmp 16), none⟩,
                                        ⟨(some 112), .bin .add (.tmp 110) (.tmp 111), none⟩,
                                        ⟨(some 14), .mv (.tmp 112), none⟩]))))))
                                (.reg [⟨(some 113), .bin .add (.tmp 77) (.const (.int .i64 1)), none⟩,
                                   ⟨(some 77), .mv (.tmp 113), none⟩])))))))
                          (.seq (.reg [⟨(some 114), .ld1 (.tmp 5), none⟩,
                              ⟨(some 115), .mv (.const (.int .i64 0)), none⟩])
                           (.block 12 (.loop (.seq (.reg [⟨(some 116), .bin .lss (.tmp 115) (.tmp 114), none⟩])
                              (.seq (.cond (.tmp 116)
                                (.skip)
                                (.exit 12))
                               (.seq (.block 13 (.seq (.reg [⟨(some 117), .mv (.tmp 115), none⟩,
                                     ⟨(some 20), .mv (.tmp 117), none⟩])
                                  (.any [(true, 0, [], ⟨(some 118), .fa 2 (.tmp 6), none⟩),
                                     (true, 1, [], ⟨(some 119), .ld1 (.tmp 118), none⟩),
                                     (true, 2, [], ⟨(some 120), .mv (.tmp 13), none⟩),
                                     (false, 3, [0, 1, 2], ⟨(some 121), .mv (.tmp 20), none⟩),
                                     (false, 4, [0, 1, 2], ⟨(some 122), .bin .mul (.const (.int .i64 8)) (.tmp 121), none⟩),
                                     (false, 5, [0, 1], ⟨(some 123), .bin .shr (.tmp 120) (.tmp 122), none⟩),
                                     (false, 6, [0, 1], ⟨(some 124), .conv .u8 (.tmp 123), none⟩),
                                     (false, 7, [0, 1], ⟨(some 125), .bslice 5 1 [(.int .u8 0)] [(0, 1, (.tmp 124))], none⟩),
                                     (false, 8, [], ⟨(some 126), .app 5 1 1 [(.int .u8 0)] (.tmp 119) (.tmp 125), none⟩),
                                     (false, 9, [], ⟨(some 127), .fa 2 (.tmp 6), none⟩),
                                     (false, 10, [], ⟨none, .st1 (.tmp 127) (.tmp 126), none⟩)])))
                                (.reg [⟨(some 128), .bin .add (.tmp 115) (.const (.int .i64 1)), none⟩,
                                   ⟨(some 115), .mv (.tmp 128), none⟩])))))))))))))
                    (.reg [⟨(some 129), .bin .add (.tmp 40) (.const (.int .i64 1)), none⟩,
                       ⟨(some 40), .mv (.tmp 129), none⟩])))))))))
            (.reg [⟨(some 130), .bin .add (.tmp 35) (.const (.int .i64 1)), none⟩,
               ⟨(some 35), .mv (.tmp 130), none⟩])))))))
      (.seq (.reg [⟨(some 131), .ldn 3 (.tmp 6), none⟩,
          ⟨none, .stn 3 (.tmp 4) (.tmp 131), none⟩])
       (.ret))))))
theorem k42 : fnOk Try.prog 42 = some (M42, [.cn 3 4], 132) := by kernel_rfl
def M67 : MC :=
  .seq (.reg [⟨(some 2), .mv (.const (.slice none 0 0)), none⟩])
  (.seq (.seq (.reg [⟨(some 3), .mv (.tmp 0), none⟩])
    (.block 0 (.seq (.reg [⟨(some 5), .bin .eql (.tmp 3) (.const (.int .i64 2)), none⟩,
         ⟨(some 4), .mv (.tmp 5), none⟩])
      (.cond (.tmp 4)
       (.seq (.reg [⟨(some 6), .bslice 3 3 [(.int .i64 0), (.int .i64 0), (.int .i64 0)] [(0, 1, (.const (.int .i64 5))), (1, 1, (.const (.int .i64 6))), (2, 1, (.const (.int .i64 5)))], none⟩,
           ⟨(some 2), .mv (.tmp 6), none⟩])
        (.ret))
       (.seq (.reg [⟨(some 8), .bin .eql (.tmp 3) (.const (.int .i64 3)), none⟩,
           ⟨(some 7), .mv (.tmp 8), none⟩])
        (.cond (.tmp 7)
         (.seq (.reg [⟨(some 9), .bslice 3 4 [(.int .i64 0), (.int .i64 0), (.int .i64 0), (.int .i64 0)] [(0, 1, (.const (.int .i64 4))), (1, 1, (.const (.int .i64 4))), (2, 1, (.const (.int .i64 4))), (3, 1, (.const (.int .i64 4)))], none⟩,
             ⟨(some 2), .mv (.tmp 9), none⟩])
          (.ret))
         (.seq (.reg [⟨(some 11), .bin .eql (.tmp 3) (.const (.int .i64 4)), none⟩,
             ⟨(some 10), .mv (.tmp 11), none⟩])
          (.cond (.tmp 10)
           (.seq (.reg [⟨(some 12), .bslice 3 4 [(.int .i64 0), (.int .i64 0), (.int .i64 0), (.int .i64 0)] [(0, 1, (.const (.int .i64 1))), (1, 1, (.const (.int .i64 5))), (2, 1, (.const (.int .i64 5))), (3, 1, (.const (.int .i64 5)))], none⟩,
               ⟨(some 2), .mv (.tmp 12), none⟩])
            (.ret))
           (.skip)))))))))
   (.seq (.reg [⟨(some 13), .bslice 3 4 [(.int .i64 0), (.int .i64 0), (.int .i64 0), (.int .i64 0)] [(0, 1, (.const (.int .i64 8))), (1, 1, (.const (.int .i64 8))), (2, 1, (.const (.int .i64 8))), (3, 1, (.const (.int .i64 8)))], none⟩,
       ⟨(some 14), .mv (.tmp 0), none⟩,
       ⟨(some 15), .call 48 [(.tmp 14)], none⟩,
       ⟨(some 16), .slc 1 (.tmp 13) none (some (.tmp 15)), none⟩,
       ⟨(some 2), .mv (.tmp 16), none⟩])
    (.ret)))
theorem k67 : fnOk Try.prog 67 = some (M67, [.t 2], 17) := by kernel_rfl
def M66 : MC :=
  .seq (.reg [⟨(some 6), .mv (.const (.int .u32 0)), none⟩])
  (.seq (.reg [⟨(some 7), .mv (.const (.int .u32 0)), none⟩])
   (.seq (.seq (.any [(true, 0, [], ⟨(some 10), .fa 2 (.tmp 2), none⟩),
        (true, 1, [], ⟨(some 11), .ld1 (.tmp 10), none⟩),
        (true, 2, [], ⟨(some 12), .mv (.tmp 1), none⟩),
        (true, 3, [], ⟨(some 13), .fa 0 (.tmp 2), none⟩),
        (true, 4, [], ⟨(some 14), .ld1 (.tmp 13), none⟩),
        (true, 5, [], ⟨(some 15), .bin .mul (.tmp 12) (.tmp 14), none⟩),
        (true, 6, [], ⟨(some 16), .mv (.tmp 0), none⟩),
        (true, 7, [], ⟨(some 17), .bin .add (.tmp 15) (.tmp 16), none⟩),
        (true, 8, [], ⟨(some 18), .ld1 (.tmp 3), none⟩),
        (true, 9, [], ⟨(some 19), .bin .mul (.tmp 17) (.tmp 18), none⟩),
        (true, 10, [], ⟨(some 20), .slc 1 (.tmp 11) (some (.tmp 19)) none, none⟩),
        (true, 11, [], ⟨(some 21), .ld1 (.tmp 3), none⟩),
        (true, 12, [], ⟨(some 22), .slc 1 (.tmp 20) none (some (.tmp 21)), none⟩),
        (true, 13, [], ⟨(some 23), .len (.tmp 22), none⟩),
        (false, 14, [0, 1, 2, 3, 4, 5, 6, 7, 8, 9, 10, 11, 12, 13], ⟨(some 24), .mv (.const (.int .i64 0)), none⟩)])
     (.block 0 (.loop (.seq (.reg [⟨(some 25), .bin .lss (.tmp 24) (.tmp 23), none⟩])
        (.seq (.cond (.tmp 25)
          (.skip)
          (.exit 0))
         (.seq (.block 1 (.seq (.reg [⟨(some 26), .mv (.tmp 24), none⟩,
               ⟨(some 27), .is 1 (.tmp 22) (.tmp 24), none⟩,
               ⟨(some 28), .ld1 (.tmp 27), none⟩,
               ⟨(some 8), .mv (.tmp 26), none⟩,
               ⟨(some 9), .mv (.tmp 28), none⟩])
            (.reg [⟨(some 29), .mv (.tmp 7), none⟩,
               ⟨(some 30), .mv (.tmp 9), none⟩,
               ⟨(some 31), .conv .u32 (.tmp 30), none⟩,
               ⟨(some 32), .mv (.tmp 8), none⟩,
               ⟨(some 33), .bin .mul (.const (.int .i64 8)) (.tmp 32), none⟩,
               ⟨(some 34), .bin .shl (.tmp 31) (.tmp 33), none⟩,
               ⟨(some 35), .bin .or (.tmp 29) (.tmp 34), none⟩,
               ⟨(some 7), .mv (.tmp 35), none⟩])))
          (.reg [⟨(some 36), .bin .add (.tmp 24) (.const (.int .i64 1)), none⟩,
             ⟨(some 24), .mv (.tmp 36), none⟩])))))))
    (.seq (.reg [⟨(some 37), .mv (.tmp 7), none⟩,
        ⟨(some 6), .mv (.tmp 37), none⟩])
     (.ret))))
theorem k66 : fnOk Try.prog 66 = some (M66, [.t 6], 38) := by kernel_rfl
def M41 : MC :=
  .seq (.reg [⟨(some 1), .box 24 (.tmp 0), none⟩,
     ⟨(some 2), .alloc 24 [(.int .i64 0), (.slice none 0 0), (.int .i64 0), (.int .i64 0), (.int .i64 0), (.int .i64 0)], none⟩])
  (.seq (.reg [⟨(some 4), .fa 1 (.tmp 1), none⟩,
      ⟨(some 5), .ld1 (.tmp 4), none⟩,
      ⟨(some 6), .call 64 [(.tmp 5)], none⟩,
      ⟨(some 7), .fa 1 (.tmp 1), none⟩,
      ⟨none, .st1 (.tmp 7) (.tmp 6), none⟩])
   (.seq (.seq (.reg [⟨(some 8), .fa 1 (.tmp 1), none⟩,
        ⟨(some 9), .ld1 (.tmp 8), none⟩,
        ⟨(some 10), .len (.tmp 9), none⟩,
        ⟨(some 11), .mv (.const (.int .i64 0)), none⟩])
     (.block 0 (.loop (.seq (.reg [⟨(some 12), .bin .lss (.tmp 11) (.tmp 10), none⟩])
        (.seq (.cond (.tmp 12)
          (.skip)
          (.exit 0))
         (.seq (.block 1 (.seq (.reg [⟨(some 13), .mv (.tmp 11), none⟩,
               ⟨(some 3), .mv (.tmp 13), none⟩])
            (.any [(true, 0, [], ⟨(some 14), .fa 1 (.tmp 1), none⟩),
               (true, 1, [], ⟨(some 15), .ld1 (.tmp 14), none⟩),
               (true, 2, [], ⟨(some 16), .mv (.tmp 3), none⟩),
               (true, 3, [], ⟨(some 17), .fa 1 (.tmp 1), none⟩),
               (true, 4, [], ⟨(some 18), .ld1 (.tmp 17), none⟩),
               (false, 5, [0, 1, 2, 3, 4], ⟨(some 19), .mv (.tmp 3), none⟩),
               (false, 6, [0, 1, 2], ⟨(some 20), .is 3 (.tmp 18) (.tmp 19), none⟩),
               (false, 7, [0, 1, 2], ⟨(some 21), .fa 2 (.tmp 20), none⟩),
               (false, 8, [0, 1, 2], ⟨(some 22), .ld1 (.tmp 21), none⟩),
               (false, 9, [0, 1, 2], ⟨(some 23), .call 65 [(.tmp 22)], none⟩),
               (false, 10, [], ⟨(some 24), .is 3 (.tmp 15) (.tmp 16), none⟩),
               (false, 11, [], ⟨(some 25), .fa 2 (.tmp 24), none⟩),
               (false, 12, [], ⟨none, .st1 (.tmp 25) (.tmp 23), none⟩)])))
          (.reg [⟨(some 26), .bin .add (.tmp 11) (.const (.int .i64 1)), none⟩,
             ⟨(some 11), .mv (.tmp 26), none⟩])))))))
    (.seq (.reg [⟨(some 27), .ldn 6 (.tmp 1), none⟩,
        ⟨none, .stn 6 (.tmp 2) (.tmp 27), none⟩])
     (.ret))))
theorem k41 : fnOk Try.prog 41 = some (M41, [.cn 6 2], 28) := by kernel_rfl
def M65 : MC :=
  .seq (.reg [⟨(some 2), .mv (.const (.slice none 0 0)), none⟩])
  (.seq (.seq (.reg [⟨(some 3), .mv (.tmp 0), none⟩,
       ⟨(some 4), .eqs false (.tmp 3) (.const (.slice none 0 0)), none⟩])
    (.cond (.tmp 4)
     (.seq (.reg [⟨(some 2), .mv (.const (.slice none 0 0)), none⟩])
      (.ret))
     (.skip)))
   (.seq (.reg [⟨(some 5), .bslice 5 0 [] [], none⟩,
       ⟨(some 6), .mv (.tmp 0), none⟩,
       ⟨(some 7), .app 5 1 1 [(.int .u8 0)] (.tmp 5) (.tmp 6), none⟩,
       ⟨(some 2), .mv (.tmp 7), none⟩])
    (.ret)))
theorem k65 : fnOk Try.prog 65 = some (M65, [.t 2], 8) := by kernel_rfl
def M64 : MC :=
  .seq (.reg [⟨(some 2), .mv (.const (.slice none 0 0)), none⟩])
  (.seq (.seq (.reg [⟨(some 3), .mv (.tmp 0), none⟩,
       ⟨(some 4), .eqs false (.tmp 3) (.const (.slice none 0 0)), none⟩])
    (.cond (.tmp 4)
     (.seq (.reg [⟨(some 2), .mv (.const (.slice none 0 0)), none⟩])
      (.ret))
     (.skip)))
   (.seq (.reg [⟨(some 5), .bslice 38 0 [] [], none⟩,
       ⟨(some 6), .mv (.tmp 0), none⟩,
       ⟨(some 7), .app 38 3 40 [(.int .i64 0), (.int .i64 0), (.slice none 0 0)] (.tmp 5) (.tmp 6), none⟩,
       ⟨(some 2), .mv (.tmp 7), none⟩])
    (.ret)))
theorem k64 : fnOk Try.prog 64 = some (M64, [.t 2], 8) := by kernel_rfl
def M22 : MC :=
  .seq (.reg [⟨(some 4), .box 24 (.tmp 0), none⟩,
     ⟨(some 7), .box 38 (.tmp 3), none⟩,
     ⟨(some 8), .alloc 24 [(.int .i64 0), (.slice none 0 0), (.int .i64 0), (.int .i64 0), (.int .i64 0), (.int .i64 0)], none⟩,
     ⟨(some 9), .mv (.const (.int .i64 0)), none⟩])
  (.seq (.seq (.reg [⟨(some 13), .ldn 6 (.tmp 4), none⟩,
       ⟨(some 14), .call 19 [(.tmp 13)], none⟩,
       ⟨(some 10), .mv (.tmp 14), none⟩])
    (.seq (.reg [⟨(some 15), .mv (.tmp 10), none⟩,
        ⟨(some 16), .bin .neq (.tmp 15) (.const (.int .i64 0)), none⟩])
     (.cond (.tmp 16)
      (.seq (.reg [⟨(some 17), .build [(.int .i64 0), (.slice none 0 0), (.int .i64 0), (.int .i64 0), (.int .i64 0), (.int .i64 0)] [], none⟩,
          ⟨(some 18), .mv (.tmp 10), none⟩,
          ⟨none, .stn 6 (.tmp 8) (.tmp 17), none⟩,
          ⟨(some 9), .mv (.tmp 18), none⟩])
       (.ret))
      (.skip))))
   (.seq (.reg [⟨(some 19), .mv (.tmp 2), none⟩,
       ⟨(some 20), .call 48 [(.tmp 19)], none⟩,
       ⟨(some 11), .mv (.tmp 20), none⟩])
    (.seq (.block 0 (.seq (.reg [⟨(some 22), .mv (.tmp 1), none⟩,
          ⟨(some 23), .bin .lss (.tmp 22) (.const (.int .i64 0)), none⟩,
          ⟨(some 24), .mv (.tmp 23), none⟩,
          ⟨(some 25), .mv (.tmp 1), (some (24, false))⟩,
          ⟨(some 26), .bin .geq (.tmp 25) (.const (.int .i64 7)), (some (24, false))⟩,
          ⟨(some 27), .pick (.tmp 24) (.const (.bool true)) (.tmp 26), none⟩,
          ⟨(some 28), .mv (.tmp 27), none⟩,
          ⟨(some 29), .mv (.tmp 11), (some (28, false))⟩,
          ⟨(some 30), .bin .eql (.tmp 29) (.const (.int .i64 0)), (some (28, false))⟩,
          ⟨(some 31), .pick (.tmp 28) (.const (.bool true)) (.tmp 30), none⟩,
          ⟨(some 32), .mv (.tmp 31), none⟩,
          ⟨(some 33), .fa 0 (.tmp 7), (some (32, false))⟩,
          ⟨(some 34), .ld1 (.tmp 33), (some (32, false))⟩,
          ⟨(some 35), .call 50 [(.tmp 34)], (some (32, false))⟩,
          ⟨(some 36), .un .not (.tmp 35), (some (32, false))⟩,
          ⟨(some 37), .pick (.tmp 32) (.const (.bool true)) (.tmp 36), none⟩,
          ⟨(some 38), .mv (.tmp 37), none⟩,
          ⟨(some 39), .fa 1 (.tmp 7), (some (38, false))⟩,
          ⟨(some 40), .ld1 (.tmp 39), (some (38, false))⟩,
          ⟨(some 41), .call 50 [(.tmp 40)], (some (38, false))⟩,
          ⟨(some 42), .un .not (.tmp 41), (some (38, false))⟩,
          ⟨(some 43), .pick (.tmp 38) (.const (.bool true)) (.tmp 42), none⟩,
          ⟨(some 21), .mv (.tmp 43), none⟩])
       (.cond (.tmp 21)
        (.seq (.reg [⟨(some 44), .build [(.int .i64 0), (.slice none 0 0), (.int .i64 0), (.int .i64 0), (.int .i64 0), (.int .i64 0)] [], none⟩,
            ⟨none, .stn 6 (.tmp 8) (.tmp 44), none⟩,
            ⟨(some 9), .mv (.const (.int .i64 2)), none⟩])
         (.ret))
        (.seq (.reg [⟨(some 46), .fa 2 (.tmp 7), none⟩,
            ⟨(some 47), .ld1 (.tmp 46), none⟩,
            ⟨(some 48), .len (.tmp 47), none⟩,
            ⟨(some 49), .bin .gtr (.tmp 48) (.const (.int .i64 0)), none⟩,
            ⟨(some 50), .mv (.tmp 49), none⟩,
            ⟨(some 51), .fa 2 (.tmp 7), (some (50, true))⟩,
            ⟨(some 52), .ld1 (.tmp 51), (some (50, true))⟩,
            ⟨(some 53), .len (.tmp 52), (some (50, true))⟩,
            ⟨(some 54), .fa 0 (.tmp 7), (some (50, true))⟩,
            ⟨(some 55), .ld1 (.tmp 54), (some (50, true))⟩,
            ⟨(some 56), .fa 1 (.tmp 7), (some (50, true))⟩,
            ⟨(some 57), .ld1 (.tmp 56), (some (50, true))⟩,
            ⟨(some 58), .bin .mul (.tmp 55) (.tmp 57), (some (50, true))⟩,
            ⟨(some 59), .mv (.tmp 11), (some (50, true))⟩,
            ⟨(some 60), .bin .mul (.tmp 58) (.tmp 59), (some (50, true))⟩,
            ⟨(some 61), .bin .neq (.tmp 53) (.tmp 60), (some (50, true))⟩,
            ⟨(some 62), .pick (.tmp 50) (.tmp 61) (.const (.bool false)), none⟩,
            ⟨(some 45), .mv (.tmp 62), none⟩])
         (.cond (.tmp 45)
          (.seq (.reg [⟨(some 63), .build [(.int .i64 0), (.slice none 0 0), (.int .i64 0), (.int .i64 0), (.int .i64 0), (.int .i64 0)] [], none⟩,
              ⟨none, .stn 6 (.tmp 8) (.tmp 63), none⟩,
              ⟨(some 9), .mv (.const (.int .i64 7)), none⟩])
           (.ret))
          (.seq (.reg [⟨(some 65), .mv (.tmp 1), none⟩,
              ⟨(some 66), .bin .gtr (.tmp 65) (.const (.int .i64 0)), none⟩,
              ⟨(some 67), .mv (.tmp 66), none⟩,
              ⟨(some 68), .fa 1 (.tmp 4), (some (67, true))⟩,
              ⟨(some 69), .ld1 (.tmp 68), (some (67, true))⟩,
              ⟨(some 70), .len (.tmp 69), (some (67, true))⟩,
              ⟨(some 71), .bin .gtr (.tmp 70) (.const (.int .i64 0)), (some (67, true))⟩,
              ⟨(some 72), .pick (.tmp 67) (.tmp 71) (.const (.bool false)), none⟩,
              ⟨(some 73), .mv (.tmp 72), none⟩,
              ⟨(some 74), .mv (.tmp 2), (some (73, true))⟩,
              ⟨(some 75), .fa 0 (.tmp 4), (some (73, true))⟩,
              ⟨(some 76), .ld1 (.tmp 75), (some (73, true))⟩,
              ⟨(some 77), .bin .neq (.tmp 74) (.tmp 76), (some (73, true))⟩,
              ⟨(some 78), .pick (.tmp 73) (.tmp 77) (.const (.bool false)), none⟩,
              ⟨(some 64), .mv (.tmp 78), none⟩])
           (.cond (.tmp 64)
            (.seq (.reg [⟨(some 79), .build [(.int .i64 0), (.slice none 0 0), (.int .i64 0), (.int .i64 0), (.int .i64 0), (.int .i64 0)] [], none⟩,
                ⟨none, .stn 6 (.tmp 8) (.tmp 79), none⟩,
                ⟨(some 9), .mv (.const (.int .i64 181)), none⟩])
             (.ret))
            (.skip))))))))
     (.seq (.seq (.reg [⟨(some 80), .mv (.tmp 2), none⟩,
          ⟨(some 81), .fa 0 (.tmp 4), none⟩,
          ⟨(some 82), .ld1 (.tmp 81), none⟩,
          ⟨(some 83), .bin .neq (.tmp 80) (.tmp 82), none⟩])
       (.cond (.tmp 83)
        (.reg [⟨(some 84), .fa 1 (.tmp 4), none⟩,
           ⟨none, .st1 (.tmp 84) (.const (.slice none 0 0)), none⟩])
        (.skip)))
      (.seq (.reg [⟨(some 85), .ldn 6 (.tmp 4), none⟩,
          ⟨(some 86), .call 41 [(.tmp 85)], none⟩,
          ⟨none, .stn 6 (.tmp 4) (.tmp 86), none⟩])
       (.seq (.reg [⟨(some 87), .mv (.tmp 2), none⟩,
           ⟨(some 88), .fa 0 (.tmp 4), none⟩,
           ⟨none, .st1 (.tmp 88) (.tmp 87), none⟩])
        (.seq (.block 1 (.loop (.seq (.seq (.reg [⟨(some 89), .fa 1 (.tmp 4), none⟩,
                ⟨(some 90), .ld1 (.tmp 89), none⟩,
                ⟨(some 91), .len (.tmp 90), none⟩,
                ⟨(some 92), .mv (.tmp 1), none⟩,
                ⟨(some 93), .bin .leq (.tmp 91) (.tmp 92), none⟩])
             (.cond (.tmp 93)
              (.skip)
              (.exit 1)))
            (.block 2 (.reg [⟨(some 94), .fa 1 (.tmp 4), none⟩,
                ⟨(some 95), .ld1 (.tmp 94), none⟩,
                ⟨(some 96), .build [(.int .i64 0), (.int .i64 0), (.slice none 0 0)] [], none⟩,
                ⟨(some 97), .bslice 38 1 [(.int .i64 0), (.int .i64 0), (.slice none 0 0)] [(0, 3, (.tmp 96))], none⟩,
                ⟨(some 98), .app 38 3 40 [(.int .i64 0), (.int .i64 0), (.slice none 0 0)] (.tmp 95) (.tmp 97), none⟩,
                ⟨(some 99), .fa 1 (.tmp 4), none⟩,
                ⟨none, .st1 (.tmp 99) (.tmp 98), none⟩])))))
         (.seq (.reg [⟨(some 100), .fa 0 (.tmp 7), none⟩,
             ⟨(some 101), .ld1 (.tmp 100), none⟩,
             ⟨(some 102), .fa 1 (.tmp 7), none⟩,
             ⟨(some 103), .ld1 (.tmp 102), none⟩,
             ⟨(some 104), .bin .mul (.tmp 101) (.tmp 103), none⟩,
             ⟨(some 105), .mv (.tmp 11), none⟩,
             ⟨(some 106), .bin .mul (.tmp 104) (.tmp 105), none⟩,
             ⟨(some 107), .mks 5 1 [(.int .u8 0)] (.tmp 106) (.tmp 106), none⟩,
             ⟨(some 12), .mv (.tmp 107), none⟩])
          (.seq (.reg [⟨(some 108), .mv (.tmp 12), none⟩,
              ⟨(some 109), .fa 2 (.tmp 7), none⟩,
              ⟨(some 110), .ld1 (.tmp 109), none⟩,
              ⟨(some 111), .cpy 1 (.tmp 108) (.tmp 110), none⟩])
           (.seq (.reg [⟨(some 112), .fa 1 (.tmp 4), none⟩,
               ⟨(some 113), .ld1 (.tmp 112), none⟩,
               ⟨(some 114), .mv (.tmp 1), none⟩,
               ⟨(some 115), .fa 0 (.tmp 7), none⟩,
               ⟨(some 116), .ld1 (.tmp 115), none⟩,
               ⟨(some 117), .fa 1 (.tmp 7), none⟩,
               ⟨(some 118), .ld1 (.tmp 117), none⟩,
               ⟨(some 119), .mv (.tmp 12), none⟩,
               ⟨(some 120), .build [(.int .i64 0), (.int .i64 0), (.slice none 0 0)] [(0, 1, (.tmp 116)), (1, 1, (.tmp 118)), (2, 1, (.tmp 119))], none⟩,
               ⟨(some 121), .is 3 (.tmp 113) (.tmp 114), none⟩,
               ⟨none, .stn 3 (.tmp 121) (.tmp 120), none⟩])
            (.seq (.reg [⟨(some 122), .ldn 6 (.tmp 4), none⟩,
                ⟨none, .stn 6 (.tmp 8) (.tmp 122), none⟩,
                ⟨(some 9), .mv (.const (.int .i64 0)), none⟩])
             (.ret))))))))))))
theorem k22 : fnOk Try.prog 22 = some (M22, [.cn 6 8, .t 9], 123) := by kernel_rfl
def M18 : MC :=
  .seq (.reg [⟨(some 0), .alloc 24 [(.int .i64 0), (.slice none 0 0), (.int .i64 0), (.int .i64 0), (.int .i64 0), (.int .i64 0)], none⟩])
  (.seq (.reg [⟨(some 1), .build [(.int .i64 0), (.slice none 0 0), (.int .i64 0), (.int .i64 0), (.int .i64 0), (.int .i64 0)] [(2, 1, (.const (.int .i64 1))), (3, 1, (.const (.int .i64 1))), (4, 1, (.const (.int .i64 3))), (5, 1, (.const (.int .i64 2)))], none⟩,
      ⟨none, .stn 6 (.tmp 0) (.tmp 1), none⟩])
   (.ret))
theorem k18 : fnOk Try.prog 18 = some (M18, [.cn 6 0], 2) := by kernel_rfl
def tbl : List (FuncId × (MC × List RV × Nat)) := [(12, (M12, [.t 0], 59)), (30, (M30, [.t 2], 100)), (20, (M20, [.t 4], 25)), (50, (M50, [.t 2], 9)), (40, (M40, [.t 2], 12)), (39, (M39, [.t 2], 17)), (19, (M19, [.t 2], 59)), (52, (M52, [.t 4], 21)), (51, (M51, [.t 4], 9)), (70, (M70, [.t 4], 19)), (49, (M49, [.t 3], 32)), (48, (M48, [.t 2], 12)), (69, (M69, [.cn 6 2, .t 3], 19)), (75, (M75, [.t 0], 45)), (15, (M15, [.cn 6 2, .t 3], 64)), (42, (M42, [.cn 3 4], 132)), (67, (M67, [.t 2], 17)), (66, (M66, [.t 6], 38)), (41, (M41, [.cn 6 2], 28)), (65, (M65, [.t 2], 8)), (64, (M64, [.t 2], 8)), (22, (M22, [.cn 6 8, .t 9], 123)), (18, (M18, [.cn 6 0], 2))]
theorem tblOk : AllOk Try.prog tbl := ⟨k12, k30, k20, k50, k40, k39, k19, k52, k51, k70, k49, k48, k69, k75, k15, k42, k67, k66, k41, k65, k64, k22, k18, trivial⟩
theorem done : (exec (tblOf tbl) 100000 [.t 0] [.code M12] ([] ++ List.replicate (59 - List.length ([] : List Value)) undef) [] (fun u _ => eqS u (.bool true))) = true := by kernel_rfl
end Wakes
theorem x_Wakes {w0 : World} {H : Heap} {K : Value → Heap → Prop} (h : K (.bool true) H) : HCalls Try.prog w0 12 [] H K := hc_exec Wakes.k12 (tblOf_ok Wakes.tblOk) [] rfl 100000 rfl Wakes.done h

end Go.Proofs.Ytdaipgnhconfnaa
