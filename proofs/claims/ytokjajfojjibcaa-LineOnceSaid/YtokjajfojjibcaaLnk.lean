/- The trial of layer 23. -/
import Derived.Test.YtokjajfojjibcaaLnj
import Derived.Test.YtokjajfojjibcaaHlw
set_option linter.unusedSimpArgs false
set_option linter.unusedVariables false
set_option maxRecDepth 100000
set_option maxHeartbeats 8000000
namespace Go.Proofs.Ytokjajfojjibcaa
open Go Go.HL Go.RowKit Go.ChangeShapes Go.WideShapes Pb
variable {w0 : World} {H : Heap} {K : Value → Heap → Prop}

namespace RL
def M10 : MC :=
  .seq (.reg [⟨(some 2), .box 25 (.tmp 0), none⟩,
     ⟨(some 3), .box 25 (.tmp 1), none⟩,
     ⟨(some 4), .mv (.const (.slice none 0 0)), none⟩,
     ⟨(some 5), .mv (.const (.int .i64 0)), none⟩])
  (.scope (.seq (.seq (.reg [⟨(some 27), .ldn 6 (.tmp 2), none⟩,
        ⟨(some 28), .ldn 6 (.tmp 3), none⟩,
        ⟨(some 29), .bslice 25 2 [(.int .i64 0), (.int .i64 0), (.int .i32 0), (.int .i32 0), (.int .i32 0), (.slice none 0 0), (.int .i64 0), (.int .i64 0), (.int .i32 0), (.int .i32 0), (.int .i32 0), (.slice none 0 0)] [(0, 6, (.tmp 27)), (6, 6, (.tmp 28))], none⟩,
        ⟨(some 30), .call 20 [(.tmp 29)], none⟩,
        ⟨(some 6), .mv (.tmp 30), none⟩])
     (.seq (.reg [⟨(some 31), .mv (.tmp 6), none⟩,
         ⟨(some 32), .bin .neq (.tmp 31) (.const (.int .i64 0)), none⟩])
      (.cond (.tmp 32)
       (.seq (.reg [⟨(some 33), .mv (.tmp 6), none⟩,
           ⟨(some 4), .mv (.const (.slice none 0 0)), none⟩,
           ⟨(some 5), .mv (.tmp 33), none⟩])
        (.ret))
       (.skip))))
    (.seq (.reg [⟨(some 7), .mv (.func 21), none⟩])
     (.seq (.reg [⟨(some 8), .mv (.func 22), none⟩])
      (.seq (.seq (.any [(true, 0, [], ⟨(some 34), .fa 0 (.tmp 2), none⟩),
           (true, 1, [], ⟨(some 35), .ld1 (.tmp 34), none⟩),
           (true, 2, [], ⟨(some 36), .fa 0 (.tmp 3), none⟩),
           (true, 3, [], ⟨(some 37), .ld1 (.tmp 36), none⟩),
           (true, 5, [], ⟨(some 39), .fa 1 (.tmp 2), none⟩),
           (true, 6, [], ⟨(some 40), .ld1 (.tmp 39), none⟩),
           (true, 7, [], ⟨(some 41), .fa 1 (.tmp 3), none⟩),
           (true, 8, [], ⟨(some 42), .ld1 (.tmp 41), none⟩),
           (false, 4, [5, 6, 7, 8], ⟨(some 38), .call 23 [(.tmp 35), (.tmp 37)], none⟩),
           (false, 9, [], ⟨(some 43), .call 23 [(.tmp 40), (.tmp 42)], none⟩),
           (false, 10, [], ⟨(some 44), .bin .lss (.tmp 38) (.tmp 43), none⟩)])
        (.cond (.tmp 44)
         (.reg [⟨(some 45), .mv (.tmp 8), none⟩,
            ⟨(some 46), .mv (.tmp 7), none⟩,
            ⟨(some 7), .mv (.tmp 45), none⟩,
            ⟨(some 8), .mv (.tmp 46), none⟩])
         (.skip)))
       (.seq (.any [(true, 0, [], ⟨(some 47), .mv (.tmp 7), none⟩),
           (true, 4, [], ⟨(some 51), .mv (.tmp 7), none⟩),
           (true, 8, [], ⟨(some 55), .mv (.tmp 8), none⟩),
           (true, 12, [], ⟨(some 59), .mv (.tmp 8), none⟩),
           (false, 1, [4, 8, 12, 2, 3, 6, 7, 10, 11, 14, 15], ⟨(some 48), .callv (.tmp 47) [(.tmp 2)], none⟩),
           (true, 2, [], ⟨(some 49), .nilc (.tmp 48), none⟩),
           (true, 3, [], ⟨(some 50), .ld1 (.tmp 49), none⟩),
           (false, 5, [8, 12, 2, 3, 6, 7, 10, 11, 14, 15], ⟨(some 52), .callv (.tmp 51) [(.tmp 3)], none⟩),
           (true, 6, [], ⟨(some 53), .nilc (.tmp 52), none⟩),
           (true, 7, [], ⟨(some 54), .ld1 (.tmp 53), none⟩),
           (false, 9, [12, 2, 3, 6, 7, 10, 11, 14, 15], ⟨(some 56), .callv (.tmp 55) [(.tmp 2)], none⟩),
           (true, 10, [], ⟨(some 57), .nilc (.tmp 56), none⟩),
           (true, 11, [], ⟨(some 58), .ld1 (.tmp 57), none⟩),
           (false, 13, [2, 3, 6, 7, 10, 11, 14, 15], ⟨(some 60), .callv (.tmp 59) [(.tmp 3)], none⟩),
           (true, 14, [], ⟨(some 61), .nilc (.tmp 60), none⟩),
           (true, 15, [], ⟨(some 62), .ld1 (.tmp 61), none⟩),
           (false, 16, [6, 7, 10, 11, 14, 15], ⟨(some 9), .mv (.tmp 50), none⟩),
           (false, 17, [10, 11, 14, 15], ⟨(some 10), .mv (.tmp 54), none⟩),
           (false, 18, [14, 15], ⟨(some 11), .mv (.tmp 58), none⟩),
           (false, 19, [], ⟨(some 12), .mv (.tmp 62), none⟩)])
        (.seq (.any [(true, 0, [], ⟨(some 63), .fa 3 (.tmp 2), none⟩),
            (true, 1, [], ⟨(some 64), .ld1 (.tmp 63), none⟩),
            (true, 3, [], ⟨(some 66), .fa 3 (.tmp 3), none⟩),
            (true, 4, [], ⟨(some 67), .ld1 (.tmp 66), none⟩),
            (false, 2, [3, 4], ⟨(some 65), .call 24 [(.const (.int .i32 65536)), (.tmp 64)], none⟩),
            (false, 5, [], ⟨(some 68), .call 24 [(.const (.int .i32 65536)), (.tmp 67)], none⟩),
            (false, 6, [], ⟨(some 13), .mv (.tmp 65), none⟩),
            (false, 7, [], ⟨(some 14), .mv (.tmp 68), none⟩)])
         (.seq (.reg [⟨(some 15), .mv (.const (.slice none 0 0)), none⟩])
          (.seq (.reg [⟨(some 70), .mv (.tmp 9), none⟩,
              ⟨(some 71), .mv (.tmp 10), none⟩,
              ⟨(some 72), .call 25 [(.tmp 70), (.tmp 71)], none⟩,
              ⟨(some 69), .mv (.tmp 72), none⟩,
              ⟨(some 73), .ext 0 (.tmp 69), none⟩,
              ⟨(some 74), .ext 1 (.tmp 69), none⟩,
              ⟨(some 16), .mv (.tmp 73), none⟩,
              ⟨(some 17), .mv (.tmp 74), none⟩])
           (.seq (.skip)
            (.seq (.block 0 (.loop (.seq (.seq (.reg [⟨(some 75), .mv (.tmp 16), none⟩,
                    ⟨(some 76), .bin .geq (.tmp 75) (.const (.int .i64 0)), none⟩,
                    ⟨(some 77), .mv (.tmp 76), none⟩,
                    ⟨(some 78), .mv (.tmp 16), (some (77, true))⟩,
                    ⟨(some 79), .bin .lss (.tmp 78) (.const (.int .i64 64)), (some (77, true))⟩,
                    ⟨(some 80), .pick (.tmp 77) (.tmp 79) (.const (.bool false)), none⟩])
                 (.cond (.tmp 80)
                  (.skip)
                  (.exit 0)))
                (.seq (.block 1 (.seq (.reg [⟨(some 84), .mv (.tmp 16), none⟩,
                      ⟨(some 85), .bin .mul (.const (.int .i64 256)) (.tmp 84), none⟩,
                      ⟨(some 86), .bin .add (.tmp 85) (.const (.int .i64 128)), none⟩,
                      ⟨(some 18), .mv (.tmp 86), none⟩])
                   (.seq (.seq (.reg [⟨(some 87), .mv (.tmp 17), none⟩,
                        ⟨(some 88), .bin .gtr (.tmp 87) (.const (.int .i64 0)), none⟩,
                        ⟨(some 89), .mv (.tmp 88), none⟩,
                        ⟨(some 90), .mv (.tmp 18), (some (89, true))⟩,
                        ⟨(some 91), .mv (.tmp 10), (some (89, true))⟩,
                        ⟨(some 92), .bin .geq (.tmp 90) (.tmp 91), (some (89, true))⟩,
                        ⟨(some 93), .pick (.tmp 89) (.tmp 92) (.const (.bool false)), none⟩,
                        ⟨(some 94), .mv (.tmp 93), none⟩,
                        ⟨(some 95), .mv (.tmp 17), (some (94, false))⟩,
                        ⟨(some 96), .bin .lss (.tmp 95) (.const (.int .i64 0)), (some (94, false))⟩,
                        ⟨(some 97), .mv (.tmp 96), (some (94, false))⟩,
                        ⟨(some 98), .mv (.tmp 18), (some (97, true))⟩,
                        ⟨(some 99), .mv (.tmp 10), (some (97, true))⟩,
                        ⟨(some 100), .bin .leq (.tmp 98) (.tmp 99), (some (97, true))⟩,
                        ⟨(some 101), .pick (.tmp 97) (.tmp 100) (.const (.bool false)), (some (94, false))⟩,
                        ⟨(some 102), .pick (.tmp 94) (.const (.bool true)) (.tmp 101), none⟩,
                        ⟨(some 103), .mv (.tmp 102), none⟩,
                        ⟨(some 104), .mv (.tmp 9), (some (103, false))⟩,
                        ⟨(some 105), .mv (.tmp 10), (some (103, false))⟩,
                        ⟨(some 106), .bin .eql (.tmp 104) (.tmp 105), (some (103, false))⟩,
                        ⟨(some 107), .pick (.tmp 103) (.const (.bool true)) (.tmp 106), none⟩])
                     (.cond (.tmp 107)
                      (.exit 0)
                      (.skip)))
                    (.seq (.reg [⟨(some 108), .mv (.tmp 10), none⟩,
                        ⟨(some 109), .mv (.tmp 18), none⟩,
                        ⟨(some 110), .call 23 [(.tmp 108), (.tmp 109)], none⟩,
                        ⟨(some 111), .conv .i32 (.tmp 110), none⟩,
                        ⟨(some 112), .mv (.tmp 18), none⟩,
                        ⟨(some 113), .mv (.tmp 9), none⟩,
                        ⟨(some 114), .call 23 [(.tmp 112), (.tmp 113)], none⟩,
                        ⟨(some 115), .conv .i32 (.tmp 114), none⟩,
                        ⟨(some 19), .mv (.tmp 111), none⟩,
                        ⟨(some 20), .mv (.tmp 115), none⟩])
                     (.seq (.reg [⟨(some 116), .mv (.tmp 11), none⟩,
                         ⟨(some 117), .mv (.tmp 12), none⟩,
                         ⟨(some 118), .mv (.tmp 18), none⟩,
                         ⟨(some 119), .mv (.tmp 9), none⟩,
                         ⟨(some 120), .bin .sub (.tmp 118) (.tmp 119), none⟩,
                         ⟨(some 121), .mv (.tmp 10), none⟩,
                         ⟨(some 122), .mv (.tmp 9), none⟩,
                         ⟨(some 123), .bin .sub (.tmp 121) (.tmp 122), none⟩,
                         ⟨(some 124), .call 26 [(.tmp 116), (.tmp 117), (.tmp 120), (.tmp 123)], none⟩,
                         ⟨(some 21), .mv (.tmp 124), none⟩])
                      (.seq (.seq (.reg [⟨(some 125), .mv (.tmp 21), none⟩,
                           ⟨(some 126), .bin .lss (.tmp 125) (.const (.int .i64 0)), none⟩,
                           ⟨(some 127), .mv (.tmp 126), none⟩,
                           ⟨(some 128), .mv (.tmp 21), (some (127, false))⟩,
                           ⟨(some 129), .bin .geq (.tmp 128) (.const (.int .i64 64)), (some (127, false))⟩,
                           ⟨(some 130), .pick (.tmp 127) (.const (.bool true)) (.tmp 129), none⟩])
                        (.cond (.tmp 130)
                         (.exit 1)
                         (.skip)))
                       (.seq (.reg [⟨(some 131), .fa 2 (.tmp 2), none⟩,
                           ⟨(some 132), .ld1 (.tmp 131), none⟩,
                           ⟨(some 133), .fa 2 (.tmp 3), none⟩,
                           ⟨(some 134), .ld1 (.tmp 133), none⟩,
                           ⟨(some 135), .mv (.tmp 19), none⟩,
                           ⟨(some 136), .mv (.tmp 20), none⟩,
                           ⟨(some 137), .call 27 [(.tmp 132), (.tmp 134), (.tmp 135), (.tmp 136)], none⟩,
                           ⟨(some 138), .mv (.tmp 13), none⟩,
                           ⟨(some 139), .mv (.tmp 14), none⟩,
                           ⟨(some 140), .mv (.tmp 19), none⟩,
                           ⟨(some 141), .mv (.tmp 20), none⟩,
                           ⟨(some 142), .call 27 [(.tmp 138), (.tmp 139), (.tmp 140), (.tmp 141)], none⟩,
                           ⟨(some 143), .build [(.int .i64 0), (.int .i64 0), (.int .i32 0), (.int .i32 0), (.bool false), (.int .i32 0), (.int .i32 0), (.int .i32 0), (.int .i32 0), (.slice none 0 0)] [(4, 1, (.const (.bool true))), (2, 1, (.tmp 137)), (3, 1, (.tmp 142))], none⟩,
                           ⟨(some 22), .alloc 46 [(.int .i64 0), (.int .i64 0), (.int .i32 0), (.int .i32 0), (.bool false), (.int .i32 0), (.int .i32 0), (.int .i32 0), (.int .i32 0), (.slice none 0 0)], none⟩,
                           ⟨none, .stn 10 (.tmp 22) (.tmp 143), none⟩])
                        (.seq (.reg [⟨(some 144), .mv (.tmp 16), none⟩,
                            ⟨(some 145), .mv (.tmp 21), none⟩,
                            ⟨(some 146), .fa 0 (.tmp 22), none⟩,
                            ⟨none, .st1 (.tmp 146) (.tmp 144), none⟩,
                            ⟨(some 147), .fa 1 (.tmp 22), none⟩,
                            ⟨none, .st1 (.tmp 147) (.tmp 145), none⟩])
                         (.seq (.seq (.reg [⟨(some 148), .mv (.tmp 7), none⟩,
                              ⟨(some 149), .build [(.int .i64 0), (.int .i64 0), (.int .i32 0), (.int .i32 0), (.int .i32 0), (.slice none 0 0)] [(0, 1, (.const (.int .i64 1)))], none⟩,
                              ⟨(some 150), .box 25 (.tmp 149), none⟩,
                              ⟨(some 151), .yv (.tmp 148) [(.tmp 150)], none⟩,
                              ⟨(some 152), .nilc (.tmp 151), none⟩,
                              ⟨(some 153), .ld1 (.tmp 152), none⟩,
                              ⟨(some 154), .bin .eql (.tmp 153) (.const (.int .i64 0)), none⟩])
                           (.cond (.tmp 154)
                            (.reg [⟨(some 155), .mv (.tmp 21), none⟩,
                               ⟨(some 156), .mv (.tmp 16), none⟩,
                               ⟨(some 157), .fa 0 (.tmp 22), none⟩,
                               ⟨none, .st1 (.tmp 157) (.tmp 155), none⟩,
                               ⟨(some 158), .fa 1 (.tmp 22), none⟩,
                               ⟨none, .st1 (.tmp 158) (.tmp 156), none⟩])
                            (.skip)))
                          (.seq (.seq (.reg [⟨(some 159), .fa 5 (.tmp 2), none⟩,
                               ⟨(some 160), .ld1 (.tmp 159), none⟩,
                               ⟨(some 161), .len (.tmp 160), none⟩,
                               ⟨(some 162), .mv (.const (.int .i64 0)), none⟩])
                            (.block 2 (.loop (.seq (.reg [⟨(some 163), .bin .lss (.tmp 162) (.tmp 161), none⟩])
                               (.seq (.cond (.tmp 163)
                                 (.skip)
                                 (.exit 2))
                                (.seq (.block 3 (.seq (.reg [⟨(some 164), .mv (.tmp 162), none⟩,
                                      ⟨(some 165), .is 4 (.tmp 160) (.tmp 162), none⟩,
                                      ⟨(some 166), .ldn 4 (.tmp 165), none⟩,
                                      ⟨(some 24), .alloc 38 [(.int .i32 0), (.int .i32 0), (.int .i32 0), (.int .i32 0)], none⟩,
                                      ⟨(some 23), .mv (.tmp 164), none⟩,
                                      ⟨none, .stn 4 (.tmp 24) (.tmp 166), none⟩])
                                   (.seq (.reg [⟨(some 25), .alloc 38 [(.int .i32 0), (.int .i32 0), (.int .i32 0), (.int .i32 0)], none⟩])
                                    (.seq (.seq (.reg [⟨(some 167), .mv (.const (.int .i64 0)), none⟩])
                                      (.block 4 (.loop (.seq (.reg [⟨(some 168), .bin .lss (.tmp 167) (.const (.int .i64 4)), none⟩])
                                         (.seq (.cond (.tmp 168)
                                           (.skip)
                                           (.exit 4))
                                          (.seq (.block 5 (.seq (.reg [⟨(some 169), .mv (.tmp 167), none⟩,
                                                ⟨(some 26), .mv (.tmp 169), none⟩])
                                             (.any [(true, 0, [], ⟨(some 170), .mv (.tmp 26), none⟩),
                                                (true, 1, [], ⟨(some 171), .mv (.tmp 26), none⟩),
                                                (true, 2, [], ⟨(some 172), .ia 4 1 (.tmp 24) (.tmp 171), none⟩),
                                                (true, 3, [], ⟨(some 173), .ld1 (.tmp 172), none⟩),
                                                (true, 4, [], ⟨(some 174), .fa 5 (.tmp 3), none⟩),
                                                (true, 5, [], ⟨(some 175), .ld1 (.tmp 174), none⟩),
                                                (true, 6, [], ⟨(some 176), .mv (.tmp 23), none⟩),
                                                (true, 7, [], ⟨(some 177), .mv (.tmp 26), none⟩),
                                                (true, 8, [], ⟨(some 178), .is 4 (.tmp 175) (.tmp 176), none⟩),
                                                (true, 9, [], ⟨(some 179), .ia 4 1 (.tmp 178) (.tmp 177), none⟩),
                                                (true, 10, [], ⟨(some 180), .ld1 (.tmp 179), none⟩),
                                                (true, 11, [], ⟨(some 181), .mv (.tmp 19), none⟩),
                                                (true, 12, [], ⟨(some 182), .mv (.tmp 20), none⟩),
                                                (true, 13, [], ⟨(some 183), .fa 3 (.tmp 2), none⟩),
                                                (true, 14, [], ⟨(some 184), .ld1 (.tmp 183), none⟩),
                                                (false, 15, [0, 1, 2, 3, 4, 5, 6, 7, 8, 9, 10, 11, 12, 13, 14], ⟨(some 185), .fa 3 (.tmp 3), none⟩),
                                                (false, 16, [0, 1, 2, 3, 4, 5, 6, 7, 8, 9, 10, 11, 12, 13, 14], ⟨(some 186), .ld1 (.tmp 185), none⟩),
                                                (false, 17, [0, 1, 2, 3, 4, 5, 6, 7, 8, 9, 10, 11, 12], ⟨(some 187), .build [(.int .i32 0), (.int .i32 0)] [(0, 1, (.tmp 184)), (1, 1, (.tmp 186))], none⟩),
                                                (false, 18, [0], ⟨(some 188), .call 16 [(.tmp 173), (.tmp 180), (.tmp 181), (.tmp 182), (.tmp 187)], none⟩),
                                                (false, 19, [], ⟨(some 189), .ia 4 1 (.tmp 25) (.tmp 170), none⟩),
                                                (false, 20, [], ⟨none, .st1 (.tmp 189) (.tmp 188), none⟩)])))
                                           (.reg [⟨(some 190), .bin .add (.tmp 167) (.const (.int .i64 1)), none⟩,
                                              ⟨(some 167), .mv (.tmp 190), none⟩])))))))
                                     (.reg [⟨(some 191), .fa 9 (.tmp 22), none⟩,
                                        ⟨(some 192), .ld1 (.tmp 191), none⟩,
                                        ⟨(some 193), .ldn 4 (.tmp 25), none⟩,
                                        ⟨(some 194), .bslice 38 1 [(.int .i32 0), (.int .i32 0), (.int .i32 0), (.int .i32 0)] [(0, 4, (.tmp 193))], none⟩,
                                        ⟨(some 195), .app 38 4 16 [(.int .i32 0), (.int .i32 0), (.int .i32 0), (.int .i32 0)] (.tmp 192) (.tmp 194), none⟩,
                                        ⟨(some 196), .fa 9 (.tmp 22), none⟩,
                                        ⟨none, .st1 (.tmp 196) (.tmp 195), none⟩])))))
                                 (.reg [⟨(some 197), .bin .add (.tmp 162) (.const (.int .i64 1)), none⟩,
                                    ⟨(some 162), .mv (.tmp 197), none⟩])))))))
                           (.reg [⟨(some 198), .mv (.tmp 15), none⟩,
                              ⟨(some 199), .ldn 10 (.tmp 22), none⟩,
                              ⟨(some 200), .bslice 46 1 [(.int .i64 0), (.int .i64 0), (.int .i32 0), (.int .i32 0), (.bool false), (.int .i32 0), (.int .i32 0), (.int .i32 0), (.int .i32 0), (.slice none 0 0)] [(0, 10, (.tmp 199))], none⟩,
                              ⟨(some 201), .app 46 10 72 [(.int .i64 0), (.int .i64 0), (.int .i32 0), (.int .i32 0), (.bool false), (.int .i32 0), (.int .i32 0), (.int .i32 0), (.int .i32 0), (.slice none 0 0)] (.tmp 198) (.tmp 200), none⟩,
                              ⟨(some 15), .mv (.tmp 201), none⟩])))))))))))
                 (.reg [⟨(some 81), .mv (.tmp 16), none⟩,
                    ⟨(some 82), .mv (.tmp 17), none⟩,
                    ⟨(some 83), .bin .add (.tmp 81) (.tmp 82), none⟩,
                    ⟨(some 16), .mv (.tmp 83), none⟩])))))
             (.seq (.reg [⟨(some 202), .mv (.tmp 15), none⟩,
                 ⟨(some 4), .mv (.tmp 202), none⟩,
                 ⟨(some 5), .mv (.const (.int .i64 0)), none⟩])
              (.ret)))))))))))))
theorem k10 : fnOk Try.prog 10 = some (M10, [.t 4, .t 5], 203) := by kernel_rfl
def M16 : MC :=
  .seq (.reg [⟨(some 9), .box 39 (.tmp 4), none⟩,
     ⟨(some 10), .mv (.const (.int .i32 0)), none⟩])
  (.seq (.seq (.reg [⟨(some 13), .mv (.tmp 2), none⟩,
       ⟨(some 14), .bin .lss (.tmp 13) (.const (.int .i32 0)), none⟩,
       ⟨(some 15), .mv (.tmp 14), none⟩,
       ⟨(some 16), .mv (.tmp 3), (some (15, false))⟩,
       ⟨(some 17), .bin .lss (.tmp 16) (.const (.int .i32 0)), (some (15, false))⟩,
       ⟨(some 18), .pick (.tmp 15) (.const (.bool true)) (.tmp 17), none⟩,
       ⟨(some 19), .mv (.tmp 18), none⟩,
       ⟨(some 20), .mv (.tmp 2), (some (19, false))⟩,
       ⟨(some 21), .bin .eql (.tmp 20) (.const (.int .i32 0)), (some (19, false))⟩,
       ⟨(some 22), .mv (.tmp 21), (some (19, false))⟩,
       ⟨(some 23), .mv (.tmp 3), (some (22, true))⟩,
       ⟨(some 24), .bin .eql (.tmp 23) (.const (.int .i32 0)), (some (22, true))⟩,
       ⟨(some 25), .pick (.tmp 22) (.tmp 24) (.const (.bool false)), (some (19, false))⟩,
       ⟨(some 26), .pick (.tmp 19) (.const (.bool true)) (.tmp 25), none⟩,
       ⟨(some 27), .mv (.tmp 26), none⟩,
       ⟨(some 28), .ia 2 1 (.tmp 9) (.const (.int .i64 0)), (some (27, false))⟩,
       ⟨(some 29), .ld1 (.tmp 28), (some (27, false))⟩,
       ⟨(some 30), .bin .leq (.tmp 29) (.const (.int .i32 0)), (some (27, false))⟩,
       ⟨(some 31), .pick (.tmp 27) (.const (.bool true)) (.tmp 30), none⟩,
       ⟨(some 32), .mv (.tmp 31), none⟩,
       ⟨(some 33), .ia 2 1 (.tmp 9) (.const (.int .i64 1)), (some (32, false))⟩,
       ⟨(some 34), .ld1 (.tmp 33), (some (32, false))⟩,
       ⟨(some 35), .bin .leq (.tmp 34) (.const (.int .i32 0)), (some (32, false))⟩,
       ⟨(some 36), .pick (.tmp 32) (.const (.bool true)) (.tmp 35), none⟩])
    (.cond (.tmp 36)
     (.seq (.reg [⟨(some 10), .mv (.const (.int .i32 0)), none⟩])
      (.ret))
     (.skip)))
   (.seq (.any [(true, 0, [], ⟨(some 37), .mv (.tmp 2), none⟩),
       (true, 1, [], ⟨(some 38), .conv .u64 (.tmp 37), none⟩),
       (true, 2, [], ⟨(some 39), .ia 2 1 (.tmp 9) (.const (.int .i64 1)), none⟩),
       (true, 3, [], ⟨(some 40), .ld1 (.tmp 39), none⟩),
       (true, 4, [], ⟨(some 41), .conv .u64 (.tmp 40), none⟩),
       (true, 5, [], ⟨(some 42), .bin .mul (.tmp 38) (.tmp 41), none⟩),
       (true, 6, [], ⟨(some 43), .mv (.tmp 3), none⟩),
       (true, 7, [], ⟨(some 44), .conv .u64 (.tmp 43), none⟩),
       (true, 8, [], ⟨(some 45), .ia 2 1 (.tmp 9) (.const (.int .i64 0)), none⟩),
       (true, 9, [], ⟨(some 46), .ld1 (.tmp 45), none⟩),
       (true, 10, [], ⟨(some 47), .conv .u64 (.tmp 46), none⟩),
       (true, 11, [], ⟨(some 48), .bin .mul (.tmp 44) (.tmp 47), none⟩),
       (false, 12, [6, 7, 8, 9, 10, 11], ⟨(some 11), .mv (.tmp 42), none⟩),
       (false, 13, [], ⟨(some 12), .mv (.tmp 48), none⟩)])
    (.seq (.reg [⟨(some 49), .mv (.tmp 0), none⟩,
        ⟨(some 50), .conv .i64 (.tmp 49), none⟩,
        ⟨(some 51), .mv (.tmp 1), none⟩,
        ⟨(some 52), .conv .i64 (.tmp 51), none⟩,
        ⟨(some 53), .mv (.tmp 12), none⟩,
        ⟨(some 54), .mv (.tmp 11), none⟩,
        ⟨(some 55), .mv (.tmp 12), none⟩,
        ⟨(some 56), .bin .add (.tmp 54) (.tmp 55), none⟩,
        ⟨(some 57), .call 37 [(.tmp 50), (.tmp 52), (.tmp 53), (.tmp 56)], none⟩,
        ⟨(some 58), .call 36 [(.tmp 57)], none⟩,
        ⟨(some 10), .mv (.tmp 58), none⟩])
     (.ret))))
theorem k16 : fnOk Try.prog 16 = some (M16, [.t 10], 59) := by kernel_rfl
def M36 : MC :=
  .seq (.reg [⟨(some 2), .mv (.const (.int .i32 0)), none⟩])
  (.seq (.reg [⟨(some 3), .mv (.tmp 0), none⟩,
      ⟨(some 4), .call 43 [(.tmp 3), (.const (.int .i64 (-2147483648))), (.const (.int .i64 2147483647))], none⟩,
      ⟨(some 5), .conv .i32 (.tmp 4), none⟩,
      ⟨(some 2), .mv (.tmp 5), none⟩])
   (.ret))
theorem k36 : fnOk Try.prog 36 = some (M36, [.t 2], 6) := by kernel_rfl
def M43 : MC :=
  .seq (.reg [⟨(some 6), .mv (.const (.int .i64 0)), none⟩])
  (.seq (.reg [⟨(some 7), .mv (.tmp 0), none⟩,
      ⟨(some 8), .mv (.tmp 1), none⟩,
      ⟨(some 9), .mx (.tmp 7) (.tmp 8), none⟩,
      ⟨(some 10), .mv (.tmp 2), none⟩,
      ⟨(some 11), .mn (.tmp 9) (.tmp 10), none⟩,
      ⟨(some 6), .mv (.tmp 11), none⟩])
   (.ret))
theorem k43 : fnOk Try.prog 43 = some (M43, [.t 6], 12) := by kernel_rfl
def M37 : MC :=
  .seq (.reg [⟨(some 8), .mv (.const (.int .i64 0)), none⟩])
  (.seq (.reg [⟨(some 16), .mv (.tmp 1), none⟩,
      ⟨(some 17), .mv (.tmp 0), none⟩,
      ⟨(some 18), .bin .lss (.tmp 16) (.tmp 17), none⟩,
      ⟨(some 9), .mv (.tmp 18), none⟩])
   (.seq (.reg [⟨(some 19), .mv (.tmp 1), none⟩,
       ⟨(some 20), .mv (.tmp 0), none⟩,
       ⟨(some 21), .bin .sub (.tmp 19) (.tmp 20), none⟩,
       ⟨(some 22), .conv .u64 (.tmp 21), none⟩,
       ⟨(some 10), .mv (.tmp 22), none⟩])
    (.seq (.seq (.reg [⟨(some 23), .mv (.tmp 9), none⟩])
      (.cond (.tmp 23)
       (.reg [⟨(some 24), .mv (.tmp 0), none⟩,
          ⟨(some 25), .mv (.tmp 1), none⟩,
          ⟨(some 26), .bin .sub (.tmp 24) (.tmp 25), none⟩,
          ⟨(some 27), .conv .u64 (.tmp 26), none⟩,
          ⟨(some 10), .mv (.tmp 27), none⟩])
       (.skip)))
     (.seq (.reg [⟨(some 29), .mv (.tmp 2), none⟩,
         ⟨(some 30), .mv (.tmp 10), none⟩,
         ⟨(some 31), .call 44 [(.tmp 29), (.tmp 30)], none⟩,
         ⟨(some 28), .mv (.tmp 31), none⟩,
         ⟨(some 32), .ext 0 (.tmp 28), none⟩,
         ⟨(some 33), .ext 1 (.tmp 28), none⟩,
         ⟨(some 11), .mv (.tmp 32), none⟩,
         ⟨(some 12), .mv (.tmp 33), none⟩])
      (.seq (.reg [⟨(some 35), .mv (.tmp 11), none⟩,
          ⟨(some 36), .mv (.tmp 12), none⟩,
          ⟨(some 37), .mv (.tmp 3), none⟩,
          ⟨(some 38), .call 45 [(.tmp 35), (.tmp 36), (.tmp 37)], none⟩,
          ⟨(some 34), .mv (.tmp 38), none⟩,
          ⟨(some 39), .ext 0 (.tmp 34), none⟩,
          ⟨(some 40), .ext 1 (.tmp 34), none⟩,
          ⟨(some 13), .mv (.tmp 39), none⟩,
          ⟨(some 14), .mv (.tmp 40), none⟩])
       (.seq (.reg [⟨(some 41), .mv (.tmp 0), none⟩,
           ⟨(some 42), .mv (.tmp 13), none⟩,
           ⟨(some 43), .conv .i64 (.tmp 42), none⟩,
           ⟨(some 44), .bin .add (.tmp 41) (.tmp 43), none⟩,
           ⟨(some 15), .mv (.tmp 44), none⟩])
        (.seq (.seq (.reg [⟨(some 45), .mv (.tmp 9), none⟩])
          (.cond (.tmp 45)
           (.seq (.reg [⟨(some 46), .mv (.tmp 0), none⟩,
               ⟨(some 47), .mv (.tmp 13), none⟩,
               ⟨(some 48), .conv .i64 (.tmp 47), none⟩,
               ⟨(some 49), .bin .sub (.tmp 46) (.tmp 48), none⟩,
               ⟨(some 15), .mv (.tmp 49), none⟩])
            (.seq (.reg [⟨(some 50), .mv (.tmp 14), none⟩,
                ⟨(some 51), .bin .gtr (.tmp 50) (.const (.int .u64 0)), none⟩])
             (.cond (.tmp 51)
              (.reg [⟨(some 52), .mv (.tmp 15), none⟩,
                 ⟨(some 53), .bin .sub (.tmp 52) (.const (.int .i64 1)), none⟩,
                 ⟨(some 54), .mv (.tmp 3), none⟩,
                 ⟨(some 55), .mv (.tmp 14), none⟩,
                 ⟨(some 56), .bin .sub (.tmp 54) (.tmp 55), none⟩,
                 ⟨(some 15), .mv (.tmp 53), none⟩,
                 ⟨(some 14), .mv (.tmp 56), none⟩])
              (.skip))))
           (.skip)))
         (.seq (.seq (.reg [⟨(some 57), .mv (.tmp 14), none⟩,
              ⟨(some 58), .mv (.tmp 3), none⟩,
              ⟨(some 59), .mv (.tmp 14), none⟩,
              ⟨(some 60), .bin .sub (.tmp 58) (.tmp 59), none⟩,
              ⟨(some 61), .bin .gtr (.tmp 57) (.tmp 60), none⟩,
              ⟨(some 62), .mv (.tmp 61), none⟩,
              ⟨(some 63), .mv (.tmp 14), (some (62, false))⟩,
              ⟨(some 64), .mv (.tmp 3), (some (62, false))⟩,
              ⟨(some 65), .mv (.tmp 14), (some (62, false))⟩,
              ⟨(some 66), .bin .sub (.tmp 64) (.tmp 65), (some (62, false))⟩,
              ⟨(some 67), .bin .eql (.tmp 63) (.tmp 66), (some (62, false))⟩,
              ⟨(some 68), .mv (.tmp 67), (some (62, false))⟩,
              ⟨(some 69), .mv (.tmp 15), (some (68, true))⟩,
              ⟨(some 70), .bin .geq (.tmp 69) (.const (.int .i64 0)), (some (68, true))⟩,
              ⟨(some 71), .pick (.tmp 68) (.tmp 70) (.const (.bool false)), (some (62, false))⟩,
              ⟨(some 72), .pick (.tmp 62) (.const (.bool true)) (.tmp 71), none⟩])
           (.cond (.tmp 72)
            (.reg [⟨(some 73), .mv (.tmp 15), none⟩,
               ⟨(some 74), .bin .add (.tmp 73) (.const (.int .i64 1)), none⟩,
               ⟨(some 15), .mv (.tmp 74), none⟩])
            (.skip)))
          (.seq (.reg [⟨(some 75), .mv (.tmp 15), none⟩,
              ⟨(some 8), .mv (.tmp 75), none⟩])
           (.ret))))))))))
theorem k37 : fnOk Try.prog 37 = some (M37, [.t 8], 76) := by kernel_rfl
def M45 : MC :=
  .seq (.reg [⟨(some 6), .mv (.const (.int .u64 0)), none⟩,
     ⟨(some 7), .mv (.const (.int .u64 0)), none⟩])
  (.seq (.seq (.reg [⟨(some 19), .mv (.tmp 2), none⟩,
       ⟨(some 20), .bin .eql (.tmp 19) (.const (.int .u64 0)), none⟩])
    (.cond (.tmp 20)
     (.reg [⟨(some 21), .ld1 (.global 0), none⟩,
        ⟨none, .bad, none⟩])
     (.skip)))
   (.seq (.seq (.reg [⟨(some 22), .mv (.tmp 2), none⟩,
        ⟨(some 23), .mv (.tmp 0), none⟩,
        ⟨(some 24), .bin .leq (.tmp 22) (.tmp 23), none⟩])
     (.cond (.tmp 24)
      (.reg [⟨(some 25), .ld1 (.global 1), none⟩,
         ⟨none, .bad, none⟩])
      (.skip)))
    (.seq (.seq (.reg [⟨(some 26), .mv (.tmp 0), none⟩,
         ⟨(some 27), .bin .eql (.tmp 26) (.const (.int .u64 0)), none⟩])
      (.cond (.tmp 27)
       (.seq (.any [(true, 0, [], ⟨(some 28), .mv (.tmp 1), none⟩),
           (true, 1, [], ⟨(some 29), .mv (.tmp 2), none⟩),
           (true, 2, [], ⟨(some 30), .bin .quo (.tmp 28) (.tmp 29), none⟩),
           (true, 3, [], ⟨(some 31), .mv (.tmp 1), none⟩),
           (true, 4, [], ⟨(some 32), .mv (.tmp 2), none⟩),
           (true, 5, [], ⟨(some 33), .bin .rem (.tmp 31) (.tmp 32), none⟩),
           (false, 6, [3, 4, 5], ⟨(some 6), .mv (.tmp 30), none⟩),
           (false, 7, [], ⟨(some 7), .mv (.tmp 33), none⟩)])
        (.ret))
       (.skip)))
     (.seq (.reg [⟨(some 34), .mv (.tmp 2), none⟩,
         ⟨(some 35), .call 46 [(.tmp 34)], none⟩,
         ⟨(some 36), .conv .u64 (.tmp 35), none⟩,
         ⟨(some 8), .mv (.tmp 36), none⟩])
      (.seq (.reg [⟨(some 37), .mv (.tmp 2), none⟩,
          ⟨(some 38), .mv (.tmp 8), none⟩,
          ⟨(some 39), .bin .shl (.tmp 37) (.tmp 38), none⟩,
          ⟨(some 2), .mv (.tmp 39), none⟩])
       (.seq (.reg [⟨(some 40), .mv (.tmp 2), none⟩,
           ⟨(some 41), .bin .shr (.tmp 40) (.const (.int .u64 32)), none⟩,
           ⟨(some 9), .mv (.tmp 41), none⟩])
        (.seq (.reg [⟨(some 42), .mv (.tmp 2), none⟩,
            ⟨(some 43), .bin .and (.tmp 42) (.const (.int .u64 4294967295)), none⟩,
            ⟨(some 10), .mv (.tmp 43), none⟩])
         (.seq (.reg [⟨(some 44), .mv (.tmp 0), none⟩,
             ⟨(some 45), .mv (.tmp 8), none⟩,
             ⟨(some 46), .bin .shl (.tmp 44) (.tmp 45), none⟩,
             ⟨(some 47), .mv (.tmp 1), none⟩,
             ⟨(some 48), .mv (.tmp 8), none⟩,
             ⟨(some 49), .bin .sub (.const (.int .u64 64)) (.tmp 48), none⟩,
             ⟨(some 50), .bin .shr (.tmp 47) (.tmp 49), none⟩,
             ⟨(some 51), .bin .or (.tmp 46) (.tmp 50), none⟩,
             ⟨(some 11), .mv (.tmp 51), none⟩])
          (.seq (.reg [⟨(some 52), .mv (.tmp 1), none⟩,
              ⟨(some 53), .mv (.tmp 8), none⟩,
              ⟨(some 54), .bin .shl (.tmp 52) (.tmp 53), none⟩,
              ⟨(some 12), .mv (.tmp 54), none⟩])
           (.seq (.reg [⟨(some 55), .mv (.tmp 12), none⟩,
               ⟨(some 56), .bin .shr (.tmp 55) (.const (.int .u64 32)), none⟩,
               ⟨(some 13), .mv (.tmp 56), none⟩])
            (.seq (.reg [⟨(some 57), .mv (.tmp 12), none⟩,
                ⟨(some 58), .bin .and (.tmp 57) (.const (.int .u64 4294967295)), none⟩,
                ⟨(some 14), .mv (.tmp 58), none⟩])
             (.seq (.reg [⟨(some 59), .mv (.tmp 11), none⟩,
                 ⟨(some 60), .mv (.tmp 9), none⟩,
                 ⟨(some 61), .bin .quo (.tmp 59) (.tmp 60), none⟩,
                 ⟨(some 15), .mv (.tmp 61), none⟩])
              (.seq (.reg [⟨(some 62), .mv (.tmp 11), none⟩,
                  ⟨(some 63), .mv (.tmp 15), none⟩,
                  ⟨(some 64), .mv (.tmp 9), none⟩,
                  ⟨(some 65), .bin .mul (.tmp 63) (.tmp 64), none⟩,
                  ⟨(some 66), .bin .sub (.tmp 62) (.tmp 65), none⟩,
                  ⟨(some 16), .mv (.tmp 66), none⟩])
               (.seq (.block 0 (.loop (.seq (.seq (.reg [⟨(some 67), .mv (.tmp 15), none⟩,
                       ⟨(some 68), .bin .geq (.tmp 67) (.const (.int .u64 4294967296)), none⟩,
                       ⟨(some 69), .mv (.tmp 68), none⟩,
                       ⟨(some 70), .mv (.tmp 15), (some (69, false))⟩,
                       ⟨(some 71), .mv (.tmp 10), (some (69, false))⟩,
                       ⟨(some 72), .bin .mul (.tmp 70) (.tmp 71), (some (69, false))⟩,
                       ⟨(some 73), .mv (.tmp 16), (some (69, false))⟩,
                       ⟨(some 74), .bin .mul (.const (.int .u64 4294967296)) (.tmp 73), (some (69, false))⟩,
                       ⟨(some 75), .mv (.tmp 13), (some (69, false))⟩,
                       ⟨(some 76), .bin .add (.tmp 74) (.tmp 75), (some (69, false))⟩,
                       ⟨(some 77), .bin .gtr (.tmp 72) (.tmp 76), (some (69, false))⟩,
                       ⟨(some 78), .pick (.tmp 69) (.const (.bool true)) (.tmp 77), none⟩])
                    (.cond (.tmp 78)
                     (.skip)
                     (.exit 0)))
                   (.block 1 (.seq (.reg [⟨(some 79), .mv (.tmp 15), none⟩,
                        ⟨(some 80), .bin .sub (.tmp 79) (.const (.int .u64 1)), none⟩,
                        ⟨(some 15), .mv (.tmp 80), none⟩])
                     (.seq (.reg [⟨(some 81), .mv (.tmp 16), none⟩,
                         ⟨(some 82), .mv (.tmp 9), none⟩,
                         ⟨(some 83), .bin .add (.tmp 81) (.tmp 82), none⟩,
                         ⟨(some 16), .mv (.tmp 83), none⟩])
                      (.seq (.reg [⟨(some 84), .mv (.tmp 16), none⟩,
                          ⟨(some 85), .bin .geq (.tmp 84) (.const (.int .u64 4294967296)), none⟩])
                       (.cond (.tmp 85)
                        (.exit 0)
                        (.skip)))))))))
                (.seq (.reg [⟨(some 86), .mv (.tmp 11), none⟩,
                    ⟨(some 87), .bin .mul (.tmp 86) (.const (.int .u64 4294967296)), none⟩,
                    ⟨(some 88), .mv (.tmp 13), none⟩,
                    ⟨(some 89), .bin .add (.tmp 87) (.tmp 88), none⟩,
                    ⟨(some 90), .mv (.tmp 15), none⟩,
                    ⟨(some 91), .mv (.tmp 2), none⟩,
                    ⟨(some 92), .bin .mul (.tmp 90) (.tmp 91), none⟩,
                    ⟨(some 93), .bin .sub (.tmp 89) (.tmp 92), none⟩,
                    ⟨(some 17), .mv (.tmp 93), none⟩])
                 (.seq (.reg [⟨(some 94), .mv (.tmp 17), none⟩,
                     ⟨(some 95), .mv (.tmp 9), none⟩,
                     ⟨(some 96), .bin .quo (.tmp 94) (.tmp 95), none⟩,
                     ⟨(some 18), .mv (.tmp 96), none⟩])
                  (.seq (.reg [⟨(some 97), .mv (.tmp 17), none⟩,
                      ⟨(some 98), .mv (.tmp 18), none⟩,
                      ⟨(some 99), .mv (.tmp 9), none⟩,
                      ⟨(some 100), .bin .mul (.tmp 98) (.tmp 99), none⟩,
                      ⟨(some 101), .bin .sub (.tmp 97) (.tmp 100), none⟩,
                      ⟨(some 16), .mv (.tmp 101), none⟩])
                   (.seq (.block 2 (.loop (.seq (.seq (.reg [⟨(some 102), .mv (.tmp 18), none⟩,
                           ⟨(some 103), .bin .geq (.tmp 102) (.const (.int .u64 4294967296)), none⟩,
                           ⟨(some 104), .mv (.tmp 103), none⟩,
                           ⟨(some 105), .mv (.tmp 18), (some (104, false))⟩,
                           ⟨(some 106), .mv (.tmp 10), (some (104, false))⟩,
                           ⟨(some 107), .bin .mul (.tmp 105) (.tmp 106), (some (104, false))⟩,
                           ⟨(some 108), .mv (.tmp 16), (some (104, false))⟩,
                           ⟨(some 109), .bin .mul (.const (.int .u64 4294967296)) (.tmp 108), (some (104, false))⟩,
                           ⟨(some 110), .mv (.tmp 14), (some (104, false))⟩,
                           ⟨(some 111), .bin .add (.tmp 109) (.tmp 110), (some (104, false))⟩,
                           ⟨(some 112), .bin .gtr (.tmp 107) (.tmp 111), (some (104, false))⟩,
                           ⟨(some 113), .pick (.tmp 104) (.const (.bool true)) (.tmp 112), none⟩])
                        (.cond (.tmp 113)
                         (.skip)
                         (.exit 2)))
                       (.block 3 (.seq (.reg [⟨(some 114), .mv (.tmp 18), none⟩,
                            ⟨(some 115), .bin .sub (.tmp 114) (.const (.int .u64 1)), none⟩,
                            ⟨(some 18), .mv (.tmp 115), none⟩])
                         (.seq (.reg [⟨(some 116), .mv (.tmp 16), none⟩,
                             ⟨(some 117), .mv (.tmp 9), none⟩,
                             ⟨(some 118), .bin .add (.tmp 116) (.tmp 117), none⟩,
                             ⟨(some 16), .mv (.tmp 118), none⟩])
                          (.seq (.reg [⟨(some 119), .mv (.tmp 16), none⟩,
                              ⟨(some 120), .bin .geq (.tmp 119) (.const (.int .u64 4294967296)), none⟩])
                           (.cond (.tmp 120)
                            (.exit 2)
                            (.skip)))))))))
                    (.seq (.reg [⟨(some 121), .mv (.tmp 15), none⟩,
                        ⟨(some 122), .bin .mul (.tmp 121) (.const (.int .u64 4294967296)), none⟩,
                        ⟨(some 123), .mv (.tmp 18), none⟩,
                        ⟨(some 124), .bin .add (.tmp 122) (.tmp 123), none⟩,
                        ⟨(some 125), .mv (.tmp 17), none⟩,
                        ⟨(some 126), .bin .mul (.tmp 125) (.const (.int .u64 4294967296)), none⟩,
                        ⟨(some 127), .mv (.tmp 14), none⟩,
                        ⟨(some 128), .bin .add (.tmp 126) (.tmp 127), none⟩,
                        ⟨(some 129), .mv (.tmp 18), none⟩,
                        ⟨(some 130), .mv (.tmp 2), none⟩,
                        ⟨(some 131), .bin .mul (.tmp 129) (.tmp 130), none⟩,
                        ⟨(some 132), .bin .sub (.tmp 128) (.tmp 131), none⟩,
                        ⟨(some 133), .mv (.tmp 8), none⟩,
                        ⟨(some 134), .bin .shr (.tmp 132) (.tmp 133), none⟩,
                        ⟨(some 6), .mv (.tmp 124), none⟩,
                        ⟨(some 7), .mv (.tmp 134), none⟩])
                     (.ret))))))))))))))))))))
theorem k45 : fnOk Try.prog 45 = some (M45, [.t 6, .t 7], 135) := by kernel_rfl
def M46 : MC :=
  .seq (.reg [⟨(some 2), .mv (.const (.int .i64 0)), none⟩])
  (.seq (.reg [⟨(some 3), .mv (.tmp 0), none⟩,
      ⟨(some 4), .call 47 [(.tmp 3)], none⟩,
      ⟨(some 5), .bin .sub (.const (.int .i64 64)) (.tmp 4), none⟩,
      ⟨(some 2), .mv (.tmp 5), none⟩])
   (.ret))
theorem k46 : fnOk Try.prog 46 = some (M46, [.t 2], 6) := by kernel_rfl
def M47 : MC :=
  .seq (.reg [⟨(some 2), .mv (.const (.int .i64 0)), none⟩])
  (.seq (.seq (.reg [⟨(some 3), .mv (.tmp 0), none⟩,
       ⟨(some 4), .bin .geq (.tmp 3) (.const (.int .u64 4294967296)), none⟩])
    (.cond (.tmp 4)
     (.seq (.reg [⟨(some 5), .mv (.tmp 0), none⟩,
         ⟨(some 6), .bin .shr (.tmp 5) (.const (.int .u64 32)), none⟩,
         ⟨(some 0), .mv (.tmp 6), none⟩])
      (.reg [⟨(some 2), .mv (.const (.int .i64 32)), none⟩]))
     (.skip)))
   (.seq (.seq (.reg [⟨(some 7), .mv (.tmp 0), none⟩,
        ⟨(some 8), .bin .geq (.tmp 7) (.const (.int .u64 65536)), none⟩])
     (.cond (.tmp 8)
      (.seq (.reg [⟨(some 9), .mv (.tmp 0), none⟩,
          ⟨(some 10), .bin .shr (.tmp 9) (.const (.int .u64 16)), none⟩,
          ⟨(some 0), .mv (.tmp 10), none⟩])
       (.reg [⟨(some 11), .mv (.tmp 2), none⟩,
          ⟨(some 12), .bin .add (.tmp 11) (.const (.int .i64 16)), none⟩,
          ⟨(some 2), .mv (.tmp 12), none⟩]))
      (.skip)))
    (.seq (.seq (.reg [⟨(some 13), .mv (.tmp 0), none⟩,
         ⟨(some 14), .bin .geq (.tmp 13) (.const (.int .u64 256)), none⟩])
      (.cond (.tmp 14)
       (.seq (.reg [⟨(some 15), .mv (.tmp 0), none⟩,
           ⟨(some 16), .bin .shr (.tmp 15) (.const (.int .u64 8)), none⟩,
           ⟨(some 0), .mv (.tmp 16), none⟩])
        (.reg [⟨(some 17), .mv (.tmp 2), none⟩,
           ⟨(some 18), .bin .add (.tmp 17) (.const (.int .i64 8)), none⟩,
           ⟨(some 2), .mv (.tmp 18), none⟩]))
       (.skip)))
     (.seq (.reg [⟨(some 19), .mv (.tmp 2), none⟩,
         ⟨(some 20), .mv (.tmp 0), none⟩,
         ⟨(some 21), .conv .u8 (.tmp 20), none⟩,
         ⟨(some 22), .ixs (.const (.string ⟨⟨[0, 1, 2, 2, 3, 3, 3, 3, 4, 4, 4, 4, 4, 4, 4, 4, 5, 5, 5, 5, 5, 5, 5, 5, 5, 5, 5, 5, 5, 5, 5, 5, 6, 6, 6, 6, 6, 6, 6, 6, 6, 6, 6, 6, 6, 6, 6, 6, 6, 6, 6, 6, 6, 6, 6, 6, 6, 6, 6, 6, 6, 6, 6, 6, 7, 7, 7, 7, 7, 7, 7, 7, 7, 7, 7, 7, 7, 7, 7, 7, 7, 7, 7, 7, 7, 7, 7, 7, 7, 7, 7, 7, 7, 7, 7, 7, 7, 7, 7, 7, 7, 7, 7, 7, 7, 7, 7, 7, 7, 7, 7, 7, 7, 7, 7, 7, 7, 7, 7, 7, 7, 7, 7, 7, 7, 7, 7, 7, 8, 8, 8, 8, 8, 8, 8, 8, 8, 8, 8, 8, 8, 8, 8, 8, 8, 8, 8, 8, 8, 8, 8, 8, 8, 8, 8, 8, 8, 8, 8, 8, 8, 8, 8, 8, 8, 8, 8, 8, 8, 8, 8, 8, 8, 8, 8, 8, 8, 8, 8, 8, 8, 8, 8, 8, 8, 8, 8, 8, 8, 8, 8, 8, 8, 8, 8, 8, 8, 8, 8, 8, 8, 8, 8, 8, 8, 8, 8, 8, 8, 8, 8, 8, 8, 8, 8, 8, 8, 8, 8, 8, 8, 8, 8, 8, 8, 8, 8, 8, 8, 8, 8, 8, 8, 8, 8, 8, 8, 8, 8, 8, 8, 8, 8, 8, 8, 8, 8, 8, 8, 8, 8, 8, 8, 8, 8, 8]⟩⟩)) (.tmp 21), none⟩,
         ⟨(some 23), .conv .i64 (.tmp 22), none⟩,
         ⟨(some 24), .bin .add (.tmp 19) (.tmp 23), none⟩,
         ⟨(some 2), .mv (.tmp 24), none⟩])
      (.ret)))))
theorem k47 : fnOk Try.prog 47 = some (M47, [.t 2], 25) := by kernel_rfl
def M44 : MC :=
  .seq (.reg [⟨(some 4), .mv (.const (.int .u64 0)), none⟩,
     ⟨(some 5), .mv (.const (.int .u64 0)), none⟩])
  (.seq (.reg [⟨(some 14), .mv (.tmp 0), none⟩,
      ⟨(some 15), .bin .and (.tmp 14) (.const (.int .u64 4294967295)), none⟩,
      ⟨(some 6), .mv (.tmp 15), none⟩])
   (.seq (.reg [⟨(some 16), .mv (.tmp 0), none⟩,
       ⟨(some 17), .bin .shr (.tmp 16) (.const (.int .u64 32)), none⟩,
       ⟨(some 7), .mv (.tmp 17), none⟩])
    (.seq (.reg [⟨(some 18), .mv (.tmp 1), none⟩,
        ⟨(some 19), .bin .and (.tmp 18) (.const (.int .u64 4294967295)), none⟩,
        ⟨(some 8), .mv (.tmp 19), none⟩])
     (.seq (.reg [⟨(some 20), .mv (.tmp 1), none⟩,
         ⟨(some 21), .bin .shr (.tmp 20) (.const (.int .u64 32)), none⟩,
         ⟨(some 9), .mv (.tmp 21), none⟩])
      (.seq (.reg [⟨(some 22), .mv (.tmp 6), none⟩,
          ⟨(some 23), .mv (.tmp 8), none⟩,
          ⟨(some 24), .bin .mul (.tmp 22) (.tmp 23), none⟩,
          ⟨(some 10), .mv (.tmp 24), none⟩])
       (.seq (.reg [⟨(some 25), .mv (.tmp 7), none⟩,
           ⟨(some 26), .mv (.tmp 8), none⟩,
           ⟨(some 27), .bin .mul (.tmp 25) (.tmp 26), none⟩,
           ⟨(some 28), .mv (.tmp 10), none⟩,
           ⟨(some 29), .bin .shr (.tmp 28) (.const (.int .u64 32)), none⟩,
           ⟨(some 30), .bin .add (.tmp 27) (.tmp 29), none⟩,
           ⟨(some 11), .mv (.tmp 30), none⟩])
        (.seq (.reg [⟨(some 31), .mv (.tmp 11), none⟩,
            ⟨(some 32), .bin .and (.tmp 31) (.const (.int .u64 4294967295)), none⟩,
            ⟨(some 12), .mv (.tmp 32), none⟩])
         (.seq (.reg [⟨(some 33), .mv (.tmp 11), none⟩,
             ⟨(some 34), .bin .shr (.tmp 33) (.const (.int .u64 32)), none⟩,
             ⟨(some 13), .mv (.tmp 34), none⟩])
          (.seq (.reg [⟨(some 35), .mv (.tmp 12), none⟩,
              ⟨(some 36), .mv (.tmp 6), none⟩,
              ⟨(some 37), .mv (.tmp 9), none⟩,
              ⟨(some 38), .bin .mul (.tmp 36) (.tmp 37), none⟩,
              ⟨(some 39), .bin .add (.tmp 35) (.tmp 38), none⟩,
              ⟨(some 12), .mv (.tmp 39), none⟩])
           (.seq (.reg [⟨(some 40), .mv (.tmp 7), none⟩,
               ⟨(some 41), .mv (.tmp 9), none⟩,
               ⟨(some 42), .bin .mul (.tmp 40) (.tmp 41), none⟩,
               ⟨(some 43), .mv (.tmp 13), none⟩,
               ⟨(some 44), .bin .add (.tmp 42) (.tmp 43), none⟩,
               ⟨(some 45), .mv (.tmp 12), none⟩,
               ⟨(some 46), .bin .shr (.tmp 45) (.const (.int .u64 32)), none⟩,
               ⟨(some 47), .bin .add (.tmp 44) (.tmp 46), none⟩,
               ⟨(some 4), .mv (.tmp 47), none⟩])
            (.seq (.reg [⟨(some 48), .mv (.tmp 0), none⟩,
                ⟨(some 49), .mv (.tmp 1), none⟩,
                ⟨(some 50), .bin .mul (.tmp 48) (.tmp 49), none⟩,
                ⟨(some 5), .mv (.tmp 50), none⟩])
             (.ret))))))))))))
theorem k44 : fnOk Try.prog 44 = some (M44, [.t 4, .t 5], 51) := by kernel_rfl
def M27 : MC :=
  .seq (.reg [⟨(some 8), .mv (.const (.int .i32 0)), none⟩])
  (.seq (.reg [⟨(some 9), .mv (.tmp 0), none⟩,
      ⟨(some 10), .mv (.tmp 1), none⟩,
      ⟨(some 11), .mv (.tmp 2), none⟩,
      ⟨(some 12), .mv (.tmp 3), none⟩,
      ⟨(some 13), .build [(.int .i32 0), (.int .i32 0)] [(0, 1, (.const (.int .i32 1))), (1, 1, (.const (.int .i32 1)))], none⟩,
      ⟨(some 14), .call 16 [(.tmp 9), (.tmp 10), (.tmp 11), (.tmp 12), (.tmp 13)], none⟩,
      ⟨(some 8), .mv (.tmp 14), none⟩])
   (.ret))
theorem k27 : fnOk Try.prog 27 = some (M27, [.t 8], 15) := by kernel_rfl
def M26 : MC :=
  .seq (.reg [⟨(some 8), .mv (.const (.int .i64 0)), none⟩])
  (.seq (.seq (.reg [⟨(some 11), .mv (.tmp 3), none⟩,
       ⟨(some 12), .bin .lss (.tmp 11) (.const (.int .i64 0)), none⟩])
    (.cond (.tmp 12)
     (.reg [⟨(some 13), .mv (.tmp 2), none⟩,
        ⟨(some 14), .un .neg (.tmp 13), none⟩,
        ⟨(some 15), .mv (.tmp 3), none⟩,
        ⟨(some 16), .un .neg (.tmp 15), none⟩,
        ⟨(some 2), .mv (.tmp 14), none⟩,
        ⟨(some 3), .mv (.tmp 16), none⟩])
     (.skip)))
   (.seq (.reg [⟨(some 17), .mv (.tmp 0), none⟩,
       ⟨(some 18), .mv (.tmp 3), none⟩,
       ⟨(some 19), .bin .mul (.tmp 17) (.tmp 18), none⟩,
       ⟨(some 20), .mv (.tmp 1), none⟩,
       ⟨(some 21), .mv (.tmp 0), none⟩,
       ⟨(some 22), .bin .sub (.tmp 20) (.tmp 21), none⟩,
       ⟨(some 23), .mv (.tmp 2), none⟩,
       ⟨(some 24), .bin .mul (.tmp 22) (.tmp 23), none⟩,
       ⟨(some 25), .bin .add (.tmp 19) (.tmp 24), none⟩,
       ⟨(some 9), .mv (.tmp 25), none⟩])
    (.seq (.reg [⟨(some 26), .mv (.tmp 3), none⟩,
        ⟨(some 27), .bin .mul (.tmp 26) (.const (.int .i64 256)), none⟩,
        ⟨(some 3), .mv (.tmp 27), none⟩])
     (.seq (.reg [⟨(some 28), .mv (.tmp 9), none⟩,
         ⟨(some 29), .mv (.tmp 3), none⟩,
         ⟨(some 30), .bin .quo (.tmp 28) (.tmp 29), none⟩,
         ⟨(some 10), .mv (.tmp 30), none⟩])
      (.seq (.seq (.reg [⟨(some 31), .mv (.tmp 9), none⟩,
           ⟨(some 32), .mv (.tmp 3), none⟩,
           ⟨(some 33), .bin .rem (.tmp 31) (.tmp 32), none⟩,
           ⟨(some 34), .bin .lss (.tmp 33) (.const (.int .i64 0)), none⟩])
        (.cond (.tmp 34)
         (.reg [⟨(some 35), .mv (.tmp 10), none⟩,
            ⟨(some 36), .bin .sub (.tmp 35) (.const (.int .i64 1)), none⟩,
            ⟨(some 10), .mv (.tmp 36), none⟩])
         (.skip)))
       (.seq (.reg [⟨(some 37), .mv (.tmp 10), none⟩,
           ⟨(some 8), .mv (.tmp 37), none⟩])
        (.ret)))))))
theorem k26 : fnOk Try.prog 26 = some (M26, [.t 8], 38) := by kernel_rfl
def M23 : MC :=
  .seq (.reg [⟨(some 4), .mv (.const (.int .i64 0)), none⟩])
  (.seq (.reg [⟨(some 5), .mv (.tmp 0), none⟩,
      ⟨(some 6), .mv (.tmp 1), none⟩,
      ⟨(some 7), .mx (.tmp 5) (.tmp 6), none⟩,
      ⟨(some 8), .mv (.tmp 0), none⟩,
      ⟨(some 9), .mv (.tmp 1), none⟩,
      ⟨(some 10), .mn (.tmp 8) (.tmp 9), none⟩,
      ⟨(some 11), .bin .sub (.tmp 7) (.tmp 10), none⟩,
      ⟨(some 4), .mv (.tmp 11), none⟩])
   (.ret))
theorem k23 : fnOk Try.prog 23 = some (M23, [.t 4], 12) := by kernel_rfl
def M25 : MC :=
  .seq (.reg [⟨(some 4), .mv (.const (.int .i64 0)), none⟩,
     ⟨(some 5), .mv (.const (.int .i64 0)), none⟩])
  (.seq (.seq (.reg [⟨(some 6), .mv (.tmp 1), none⟩,
       ⟨(some 7), .mv (.tmp 0), none⟩,
       ⟨(some 8), .bin .geq (.tmp 6) (.tmp 7), none⟩])
    (.cond (.tmp 8)
     (.seq (.reg [⟨(some 9), .mv (.tmp 0), none⟩,
         ⟨(some 10), .bin .add (.tmp 9) (.const (.int .i64 128)), none⟩,
         ⟨(some 11), .bin .sub (.tmp 10) (.const (.int .i64 1)), none⟩,
         ⟨(some 12), .bin .shr (.tmp 11) (.const (.int .u64 8)), none⟩,
         ⟨(some 4), .mv (.tmp 12), none⟩,
         ⟨(some 5), .mv (.const (.int .i64 1)), none⟩])
      (.ret))
     (.skip)))
   (.seq (.reg [⟨(some 13), .mv (.tmp 0), none⟩,
       ⟨(some 14), .bin .sub (.tmp 13) (.const (.int .i64 128)), none⟩,
       ⟨(some 15), .bin .shr (.tmp 14) (.const (.int .u64 8)), none⟩,
       ⟨(some 4), .mv (.tmp 15), none⟩,
       ⟨(some 5), .mv (.const (.int .i64 (-1))), none⟩])
    (.ret)))
theorem k25 : fnOk Try.prog 25 = some (M25, [.t 4, .t 5], 16) := by kernel_rfl
def M24 : MC :=
  .seq (.reg [⟨(some 4), .mv (.const (.int .i32 0)), none⟩])
  (.seq (.reg [⟨(some 7), .mv (.tmp 0), none⟩,
      ⟨(some 8), .conv .i64 (.tmp 7), none⟩,
      ⟨(some 9), .bin .shl (.tmp 8) (.const (.int .u64 16)), none⟩,
      ⟨(some 10), .mv (.tmp 1), none⟩,
      ⟨(some 11), .conv .i64 (.tmp 10), none⟩,
      ⟨(some 5), .mv (.tmp 9), none⟩,
      ⟨(some 6), .mv (.tmp 11), none⟩])
   (.seq (.seq (.reg [⟨(some 12), .mv (.tmp 6), none⟩,
        ⟨(some 13), .bin .lss (.tmp 12) (.const (.int .i64 0)), none⟩])
     (.cond (.tmp 13)
      (.reg [⟨(some 14), .mv (.tmp 5), none⟩,
         ⟨(some 15), .un .neg (.tmp 14), none⟩,
         ⟨(some 16), .mv (.tmp 6), none⟩,
         ⟨(some 17), .un .neg (.tmp 16), none⟩,
         ⟨(some 5), .mv (.tmp 15), none⟩,
         ⟨(some 6), .mv (.tmp 17), none⟩])
      (.skip)))
    (.seq (.block 0 (.seq (.reg [⟨(some 19), .mv (.tmp 6), none⟩,
          ⟨(some 20), .bin .eql (.tmp 19) (.const (.int .i64 0)), none⟩,
          ⟨(some 21), .mv (.tmp 20), none⟩,
          ⟨(some 22), .mv (.tmp 5), (some (21, true))⟩,
          ⟨(some 23), .bin .gtr (.tmp 22) (.const (.int .i64 0)), (some (21, true))⟩,
          ⟨(some 24), .pick (.tmp 21) (.tmp 23) (.const (.bool false)), none⟩,
          ⟨(some 18), .mv (.tmp 24), none⟩])
       (.cond (.tmp 18)
        (.seq (.reg [⟨(some 4), .mv (.const (.int .i32 2147483647)), none⟩])
         (.ret))
        (.seq (.reg [⟨(some 26), .mv (.tmp 6), none⟩,
            ⟨(some 27), .bin .eql (.tmp 26) (.const (.int .i64 0)), none⟩,
            ⟨(some 28), .mv (.tmp 27), none⟩,
            ⟨(some 29), .mv (.tmp 5), (some (28, true))⟩,
            ⟨(some 30), .bin .lss (.tmp 29) (.const (.int .i64 0)), (some (28, true))⟩,
            ⟨(some 31), .pick (.tmp 28) (.tmp 30) (.const (.bool false)), none⟩,
            ⟨(some 25), .mv (.tmp 31), none⟩])
         (.cond (.tmp 25)
          (.seq (.reg [⟨(some 4), .mv (.const (.int .i32 (-2147483648))), none⟩])
           (.ret))
          (.seq (.reg [⟨(some 33), .mv (.tmp 6), none⟩,
              ⟨(some 34), .bin .eql (.tmp 33) (.const (.int .i64 0)), none⟩,
              ⟨(some 32), .mv (.tmp 34), none⟩])
           (.cond (.tmp 32)
            (.seq (.reg [⟨(some 4), .mv (.const (.int .i32 0)), none⟩])
             (.ret))
            (.seq (.reg [⟨(some 36), .mv (.tmp 5), none⟩,
                ⟨(some 37), .bin .lss (.tmp 36) (.const (.int .i64 0)), none⟩,
                ⟨(some 35), .mv (.tmp 37), none⟩])
             (.cond (.tmp 35)
              (.seq (.reg [⟨(some 38), .mv (.tmp 5), none⟩,
                  ⟨(some 39), .bin .mul (.const (.int .i64 (-2))) (.tmp 38), none⟩,
                  ⟨(some 40), .mv (.tmp 6), none⟩,
                  ⟨(some 41), .bin .add (.tmp 39) (.tmp 40), none⟩,
                  ⟨(some 42), .mv (.tmp 6), none⟩,
                  ⟨(some 43), .bin .mul (.const (.int .i64 2)) (.tmp 42), none⟩,
                  ⟨(some 44), .bin .quo (.tmp 41) (.tmp 43), none⟩,
                  ⟨(some 45), .un .neg (.tmp 44), none⟩,
                  ⟨(some 46), .call 36 [(.tmp 45)], none⟩,
                  ⟨(some 4), .mv (.tmp 46), none⟩])
               (.ret))
              (.skip))))))))))
     (.seq (.reg [⟨(some 47), .mv (.tmp 5), none⟩,
         ⟨(some 48), .bin .mul (.const (.int .i64 2)) (.tmp 47), none⟩,
         ⟨(some 49), .mv (.tmp 6), none⟩,
         ⟨(some 50), .bin .add (.tmp 48) (.tmp 49), none⟩,
         ⟨(some 51), .mv (.tmp 6), none⟩,
         ⟨(some 52), .bin .mul (.const (.int .i64 2)) (.tmp 51), none⟩,
         ⟨(some 53), .bin .quo (.tmp 50) (.tmp 52), none⟩,
         ⟨(some 54), .call 36 [(.tmp 53)], none⟩,
         ⟨(some 4), .mv (.tmp 54), none⟩])
      (.ret)))))
theorem k24 : fnOk Try.prog 24 = some (M24, [.t 4], 55) := by kernel_rfl
def M22 : MC :=
  .seq (.reg [⟨(some 2), .mv (.const (.pointer none)), none⟩])
  (.seq (.reg [⟨(some 3), .mv (.tmp 0), none⟩,
      ⟨(some 4), .nilc (.tmp 3), none⟩,
      ⟨(some 5), .fa 1 (.tmp 4), none⟩,
      ⟨(some 2), .mv (.tmp 5), none⟩])
   (.ret))
theorem k22 : fnOk Try.prog 22 = some (M22, [.t 2], 6) := by kernel_rfl
def M21 : MC :=
  .seq (.reg [⟨(some 2), .mv (.const (.pointer none)), none⟩])
  (.seq (.reg [⟨(some 3), .mv (.tmp 0), none⟩,
      ⟨(some 4), .nilc (.tmp 3), none⟩,
      ⟨(some 5), .fa 0 (.tmp 4), none⟩,
      ⟨(some 2), .mv (.tmp 5), none⟩])
   (.ret))
theorem k21 : fnOk Try.prog 21 = some (M21, [.t 2], 6) := by kernel_rfl
def M20 : MC :=
  .seq (.reg [⟨(some 2), .mv (.const (.int .i64 0)), none⟩])
  (.seq (.seq (.reg [⟨(some 5), .mv (.tmp 0), none⟩,
       ⟨(some 6), .len (.tmp 5), none⟩,
       ⟨(some 7), .mv (.const (.int .i64 0)), none⟩])
    (.block 0 (.loop (.seq (.reg [⟨(some 8), .bin .lss (.tmp 7) (.tmp 6), none⟩])
       (.seq (.cond (.tmp 8)
         (.skip)
         (.exit 0))
        (.seq (.block 1 (.seq (.reg [⟨(some 9), .is 6 (.tmp 5) (.tmp 7), none⟩,
              ⟨(some 10), .ldn 6 (.tmp 9), none⟩,
              ⟨(some 4), .alloc 25 [(.int .i64 0), (.int .i64 0), (.int .i32 0), (.int .i32 0), (.int .i32 0), (.slice none 0 0)], none⟩,
              ⟨none, .stn 6 (.tmp 4) (.tmp 10), none⟩])
           (.seq (.any [(false, 0, [30, 31, 32], ⟨(some 11), .fa 0 (.tmp 4), none⟩),
               (false, 1, [30, 31, 32], ⟨(some 12), .ld1 (.tmp 11), none⟩),
               (false, 2, [30, 31, 32], ⟨(some 13), .bin .lss (.tmp 12) (.const (.int .i64 0)), none⟩),
               (false, 3, [30, 31, 32], ⟨(some 14), .mv (.tmp 13), none⟩),
               (false, 4, [30, 31, 32], ⟨(some 15), .fa 0 (.tmp 4), (some (14, false))⟩),
               (false, 5, [30, 31, 32], ⟨(some 16), .ld1 (.tmp 15), (some (14, false))⟩),
               (false, 6, [30, 31, 32], ⟨(some 17), .bin .gtr (.tmp 16) (.const (.int .i64 16384)), (some (14, false))⟩),
               (false, 7, [30, 31, 32], ⟨(some 18), .pick (.tmp 14) (.const (.bool true)) (.tmp 17), none⟩),
               (false, 8, [30, 31, 32], ⟨(some 19), .mv (.tmp 18), none⟩),
               (false, 9, [30, 31, 32], ⟨(some 20), .fa 1 (.tmp 4), (some (19, false))⟩),
               (false, 10, [30, 31, 32], ⟨(some 21), .ld1 (.tmp 20), (some (19, false))⟩),
               (false, 11, [30, 31, 32], ⟨(some 22), .bin .lss (.tmp 21) (.const (.int .i64 0)), (some (19, false))⟩),
               (false, 12, [30, 31, 32], ⟨(some 23), .pick (.tmp 19) (.const (.bool true)) (.tmp 22), none⟩),
               (false, 13, [30, 31, 32], ⟨(some 24), .mv (.tmp 23), none⟩),
               (false, 14, [30, 31, 32], ⟨(some 25), .fa 1 (.tmp 4), (some (24, false))⟩),
               (false, 15, [30, 31, 32], ⟨(some 26), .ld1 (.tmp 25), (some (24, false))⟩),
               (false, 16, [30, 31, 32], ⟨(some 27), .bin .gtr (.tmp 26) (.const (.int .i64 16384)), (some (24, false))⟩),
               (false, 17, [30, 31, 32], ⟨(some 28), .pick (.tmp 24) (.const (.bool true)) (.tmp 27), none⟩),
               (false, 18, [30, 31, 32], ⟨(some 29), .mv (.tmp 28), none⟩),
               (false, 19, [30, 31, 32], ⟨(some 30), .fa 3 (.tmp 4), (some (29, false))⟩),
               (false, 20, [30, 31, 32], ⟨(some 31), .ld1 (.tmp 30), (some (29, false))⟩),
               (false, 21, [30, 31, 32], ⟨(some 32), .bin .leq (.tmp 31) (.const (.int .i32 0)), (some (29, false))⟩),
               (false, 22, [30, 31, 32], ⟨(some 33), .pick (.tmp 29) (.const (.bool true)) (.tmp 32), none⟩),
               (false, 23, [30, 31, 32], ⟨(some 34), .mv (.tmp 33), none⟩),
               (false, 24, [30, 31, 32], ⟨(some 35), .fa 5 (.tmp 4), (some (34, false))⟩),
               (false, 25, [30, 31, 32], ⟨(some 36), .ld1 (.tmp 35), (some (34, false))⟩),
               (false, 26, [30, 31, 32], ⟨(some 37), .len (.tmp 36), (some (34, false))⟩),
               (false, 27, [30, 31, 32], ⟨(some 38), .bin .gtr (.tmp 37) (.const (.int .i64 4)), (some (34, false))⟩),
               (false, 28, [30, 31, 32], ⟨(some 39), .pick (.tmp 34) (.const (.bool true)) (.tmp 38), none⟩),
               (false, 29, [30, 31, 32], ⟨(some 40), .mv (.tmp 39), none⟩),
               (true, 30, [], ⟨(some 41), .fa 5 (.tmp 4), (some (40, false))⟩),
               (true, 31, [], ⟨(some 42), .ld1 (.tmp 41), (some (40, false))⟩),
               (true, 32, [], ⟨(some 43), .len (.tmp 42), (some (40, false))⟩),
               (false, 33, [30, 31, 32], ⟨(some 44), .mv (.tmp 0), (some (40, false))⟩),
               (false, 34, [30, 31, 32], ⟨(some 45), .is 6 (.tmp 44) (.const (.int .i64 0)), (some (40, false))⟩),
               (false, 35, [30, 31, 32], ⟨(some 46), .fa 5 (.tmp 45), (some (40, false))⟩),
               (false, 36, [30, 31, 32], ⟨(some 47), .ld1 (.tmp 46), (some (40, false))⟩),
               (false, 37, [30, 31, 32], ⟨(some 48), .len (.tmp 47), (some (40, false))⟩),
               (false, 38, [], ⟨(some 49), .bin .neq (.tmp 43) (.tmp 48), (some (40, false))⟩),
               (false, 39, [], ⟨(some 50), .pick (.tmp 40) (.const (.bool true)) (.tmp 49), none⟩)])
            (.cond (.tmp 50)
             (.seq (.reg [⟨(some 2), .mv (.const (.int .i64 320)), none⟩])
              (.ret))
             (.skip)))))
         (.reg [⟨(some 51), .bin .add (.tmp 7) (.const (.int .i64 1)), none⟩,
            ⟨(some 7), .mv (.tmp 51), none⟩])))))))
   (.seq (.reg [⟨(some 2), .mv (.const (.int .i64 0)), none⟩])
    (.ret)))
theorem k20 : fnOk Try.prog 20 = some (M20, [.t 2], 52) := by kernel_rfl
def tbl : List (FuncId × (MC × List RV × Nat)) := [(10, (M10, [.t 4, .t 5], 203)), (16, (M16, [.t 10], 59)), (36, (M36, [.t 2], 6)), (43, (M43, [.t 6], 12)), (37, (M37, [.t 8], 76)), (45, (M45, [.t 6, .t 7], 135)), (46, (M46, [.t 2], 6)), (47, (M47, [.t 2], 25)), (44, (M44, [.t 4, .t 5], 51)), (27, (M27, [.t 8], 15)), (26, (M26, [.t 8], 38)), (23, (M23, [.t 4], 12)), (25, (M25, [.t 4, .t 5], 16)), (24, (M24, [.t 4], 55)), (22, (M22, [.t 2], 6)), (21, (M21, [.t 2], 6)), (20, (M20, [.t 2], 52))]
theorem tblOk : AllOk Try.prog tbl := ⟨k10, k16, k36, k43, k37, k45, k46, k47, k44, k27, k26, k23, k25, k24, k22, k21, k20, trivial⟩
def rv := ([.t 4, .t 5] : List RV)
def nt := 203
def m := M10
theorem k : fnOk Try.prog 10 = some (m, rv, nt) := k10
end RL

def isI (n : Int) : Option Value → Bool
  | some (.int .i64 m) => decide (m = n)
  | _ => false
theorem isI_eq {n : Int} {o : Option Value} (h : isI n o = true) : o = some (.int .i64 n) := by
  unfold isI at h
  split at h
  · rw [of_decide_eq_true h]
  · cases h
def kbL (u : Value) (h : RH) : Bool := match u with
  | .tuple ⟨[.slice (some ⟨r, 0, none⟩) n _, .int .i64 m]⟩ => decide (n = 4) && decide (m = 0) && (match getB h r with | some x => isI 3 x.cells[30]? && isI 0 x.cells[31]? | none => false)
  | _ => false
def wl1 : WnR := ⟨⟨0, 128, 0, 65536, 0, []⟩, none, 0⟩
def wl2 : WnR := ⟨⟨1024, 128, 0, 65536, 0, []⟩, none, 0⟩
def wp1 : WnR := ⟨⟨512, 512, 0, 65536, 131072, []⟩, none, 0⟩
theorem RL_done : (exec (tblOf RL.tbl) 60000 RL.rv [.code RL.m] ([wl1.v, wl2.v] ++ List.replicate (RL.nt - 2) undef) [] kbL) = true := by kernel_rfl
theorem run_line (h : ∀ (b c : Nat) (ty : TypeId) (X : List Value), w0.heap.size ≤ b → H b = none → X[30]? = some (.int .i64 3) → X[31]? = some (.int .i64 0) → K (.tuple #[.slice (some ⟨b, 0, none⟩) 4 c, .int .i64 0]) (H.set b ⟨ty, X⟩)) : HCalls Try.prog w0 10 [wl1.v, wl2.v] H K := by
  refine hc RL.k 60000 ?_
  refine exec_sound (tblOf_ok RL.tblOk) 60000 RL.rv _ _ _ _ RL_done [] H ([wl1.v, wl2.v] ++ List.replicate (RL.nt - 2) undef) [.code RL.m] (Fin K) (VRs.append ?_ (VRs.rep VR.undef _)) ⟨⟨fun r x e => by simp [getB] at e⟩, rfl, fun r r' x x' b g b' g' e => by simp [getB] at e⟩ (.same (.code RL.m .nil)) fun v1 h2 l2 u H2 ev _ hu hh hp => ?_
  · exact .cons (.agg (simps_vr rfl)) (.cons (.agg (simps_vr rfl)) .nil)
  · unfold kbL at ev
    split at ev
    · rename_i r n c m
      simp only [Bool.and_eq_true, decide_eq_true_eq] at ev
      obtain ⟨⟨rfl, rfl⟩, ev⟩ := ev
      split at ev
      · rename_i x hx
        simp only [Bool.and_eq_true] at ev
        have e1 := isI_eq ev.1
        have e2 := isI_eq ev.2
        cases hu with
        | tup hu =>
        cases hu with
        | cons a t =>
        cases t with
        | cons a' t =>
        cases t
        cases a'
        cases a with
        | slc o n c c' hl hc h0 h1 =>
        rename_i b0 g0
        obtain ⟨b', g', cs, ex, q1, q2, q3, q4, -, -⟩ := hh.blk r x hx
        rw [hl] at q1; cases q1
        have hn : H b0 = none := by
          rcases hp.names r _ _ (Nat.zero_le _) hl with e | ⟨r', g', y, e, -⟩
          · exact e
          · simp at e
        obtain ⟨v1, f1, f2⟩ := q4.get e1
        obtain ⟨v2, f3, f4⟩ := q4.get e2
        cases f2
        cases f4
        refine Fin_mk (show Heap.Le (H.set b0 ⟨x.ty, cs ++ ex⟩) H2 from fun d z e => ?_) (h _ _ _ _ q2 hn ?_ ?_)
        · by_cases hd : d = b0
          · subst hd; rw [Heap.set_same] at e; cases e; exact q3
          · rw [Heap.set_other _ _ hd] at e
            exact hp.keep d z e fun r y g e => by simp [getB] at e
        · rw [List.getElem?_append_left (List.getElem?_eq_some_iff.1 f1).1]; exact f1
        · rw [List.getElem?_append_left (List.getElem?_eq_some_iff.1 f3).1]; exact f3
      · cases ev
    · cases ev
theorem wp1_ok : WnOk w0 H wp1 := ⟨⟨SlAt.nil, Nat.le_refl _, by decide, by decide, by simp [wp1]⟩, by unfold I64; decide, by unfold I64; decide, i32_of rfl, i32_of rfl, i32_of rfl⟩
theorem wp1_right : wp1.right := ⟨by decide, by decide, by decide, by decide⟩
def frK (o : Fr) : Int × Int × Int × Int := (o.p 0, o.p 1, o.p 2, o.p 3)
theorem wp1_side : sideA wp1.toWn = 2 := by kernel_rfl
theorem wp1_list : (pointA wp1.toWn 64).map frK = [(16384, 16384, 0, 0), (49152, 16384, 0, 0), (16384, 49152, 0, 0), (49152, 49152, 0, 0)] := by
  unfold pointA dotsA dotA
  rw [wp1_side]
  kernel_rfl
theorem len4g {α : Type} {l : List α} (h : l.length = 4) : ∃ a b c d, l = [a, b, c, d] := by
  match l, h with
  | [a, b, c, d], _ => exact ⟨a, b, c, d, rfl⟩
/- paintboxlaw23 wakes -/
def M9 : MC :=
  .seq (.reg [⟨(some 0), .mv (.const (.bool false)), none⟩])
  (.seq (.reg [⟨(some 6), .build [(.int .i64 0), (.int .i64 0), (.int .i32 0), (.int .i32 0), (.int .i32 0), (.slice none 0 0)] [(1, 1, (.const (.int .i64 128))), (3, 1, (.const (.int .i32 65536)))], none⟩,
      ⟨(some 7), .build [(.int .i64 0), (.int .i64 0), (.int .i32 0), (.int .i32 0), (.int .i32 0), (.slice none 0 0)] [(0, 1, (.const (.int .i64 1024))), (1, 1, (.const (.int .i64 128))), (3, 1, (.const (.int .i32 65536)))], none⟩,
      ⟨(some 8), .call 10 [(.tmp 6), (.tmp 7)], none⟩,
      ⟨(some 5), .mv (.tmp 8), none⟩,
      ⟨(some 9), .ext 0 (.tmp 5), none⟩,
      ⟨(some 10), .ext 1 (.tmp 5), none⟩,
      ⟨(some 1), .mv (.tmp 9), none⟩,
      ⟨(some 2), .mv (.tmp 10), none⟩])
   (.seq (.reg [⟨(some 12), .build [(.int .i64 0), (.int .i64 0), (.int .i32 0), (.int .i32 0), (.int .i32 0), (.slice none 0 0)] [(0, 1, (.const (.int .i64 512))), (1, 1, (.const (.int .i64 512))), (3, 1, (.const (.int .i32 65536))), (4, 1, (.const (.int .i32 131072)))], none⟩,
       ⟨(some 13), .call 14 [(.tmp 12)], none⟩,
       ⟨(some 11), .mv (.tmp 13), none⟩,
       ⟨(some 14), .ext 0 (.tmp 11), none⟩,
       ⟨(some 15), .ext 1 (.tmp 11), none⟩,
       ⟨(some 3), .mv (.tmp 14), none⟩,
       ⟨(some 4), .mv (.tmp 15), none⟩])
    (.seq (.reg [⟨(some 16), .mv (.tmp 2), none⟩,
        ⟨(some 17), .bin .eql (.tmp 16) (.const (.int .i64 0)), none⟩,
        ⟨(some 18), .mv (.tmp 17), none⟩,
        ⟨(some 19), .mv (.tmp 4), (some (18, true))⟩,
        ⟨(some 20), .bin .eql (.tmp 19) (.const (.int .i64 0)), (some (18, true))⟩,
        ⟨(some 21), .pick (.tmp 18) (.tmp 20) (.const (.bool false)), none⟩,
        ⟨(some 22), .mv (.tmp 21), none⟩,
        ⟨(some 23), .mv (.tmp 1), (some (22, true))⟩,
        ⟨(some 24), .len (.tmp 23), (some (22, true))⟩,
        ⟨(some 25), .bin .eql (.tmp 24) (.const (.int .i64 4)), (some (22, true))⟩,
        ⟨(some 26), .pick (.tmp 22) (.tmp 25) (.const (.bool false)), none⟩,
        ⟨(some 27), .mv (.tmp 26), none⟩,
        ⟨(some 28), .mv (.tmp 1), (some (27, true))⟩,
        ⟨(some 29), .is 10 (.tmp 28) (.const (.int .i64 3)), (some (27, true))⟩,
        ⟨(some 30), .fa 0 (.tmp 29), (some (27, true))⟩,
        ⟨(some 31), .ld1 (.tmp 30), (some (27, true))⟩,
        ⟨(some 32), .bin .eql (.tmp 31) (.const (.int .i64 3)), (some (27, true))⟩,
        ⟨(some 33), .pick (.tmp 27) (.tmp 32) (.const (.bool false)), none⟩,
        ⟨(some 34), .mv (.tmp 33), none⟩,
        ⟨(some 35), .mv (.tmp 1), (some (34, true))⟩,
        ⟨(some 36), .is 10 (.tmp 35) (.const (.int .i64 3)), (some (34, true))⟩,
        ⟨(some 37), .fa 1 (.tmp 36), (some (34, true))⟩,
        ⟨(some 38), .ld1 (.tmp 37), (some (34, true))⟩,
        ⟨(some 39), .bin .eql (.tmp 38) (.const (.int .i64 0)), (some (34, true))⟩,
        ⟨(some 40), .pick (.tmp 34) (.tmp 39) (.const (.bool false)), none⟩,
        ⟨(some 41), .mv (.tmp 40), none⟩,
        ⟨(some 42), .mv (.tmp 3), (some (41, true))⟩,
        ⟨(some 43), .len (.tmp 42), (some (41, true))⟩,
        ⟨(some 44), .bin .eql (.tmp 43) (.const (.int .i64 4)), (some (41, true))⟩,
        ⟨(some 45), .pick (.tmp 41) (.tmp 44) (.const (.bool false)), none⟩,
        ⟨(some 46), .mv (.tmp 45), none⟩,
        ⟨(some 47), .mv (.tmp 3), (some (46, true))⟩,
        ⟨(some 48), .is 10 (.tmp 47) (.const (.int .i64 0)), (some (46, true))⟩,
        ⟨(some 49), .fa 5 (.tmp 48), (some (46, true))⟩,
        ⟨(some 50), .ldn 4 (.tmp 49), (some (46, true))⟩,
        ⟨(some 51), .build [(.int .i32 0), (.int .i32 0), (.int .i32 0), (.int .i32 0)] [(0, 1, (.const (.int .i32 16384))), (1, 1, (.const (.int .i32 16384)))], (some (46, true))⟩,
        ⟨(some 52), .eqa false 4 (.tmp 50) (.tmp 51), (some (46, true))⟩,
        ⟨(some 53), .pick (.tmp 46) (.tmp 52) (.const (.bool false)), none⟩,
        ⟨(some 0), .mv (.tmp 53), none⟩])
     (.ret))))
theorem k9 : fnOk Try.prog 9 = some (M9, [.t 0], 54) := by kernel_rfl

theorem l_wakes (h : K (.bool true) H) : HCalls Try.prog w0 9 [] H K := by
  have cL : ∀ (G : Heap) (K : Value → Heap → Prop), (∀ (b c : Nat) (ty : TypeId) (X : List Value), w0.heap.size ≤ b → G b = none → X[30]? = some (.int .i64 3) → X[31]? = some (.int .i64 0) → K (.tuple #[.slice (some ⟨b, 0, none⟩) 4 c, .int .i64 0]) (G.set b ⟨ty, X⟩)) → HCalls Try.prog w0 10 [wl1.v, wl2.v] G K := fun G K hk => run_line hk
  have cP : ∀ (G : Heap) (K : Value → Heap → Prop), (∀ (b o c : Nat) H', Grow w0 G H' → (∀ c, w0.heap.size ≤ c → H' c = none → c ≠ b) → rdn w0 H' b (o + 5) 4 = some [.int .i32 16384, .int .i32 16384, .int .i32 0, .int .i32 0] → K (.tuple #[.slice (some ⟨b, o, none⟩) 4 c, .int .i64 0]) H') → HCalls Try.prog w0 14 [wp1.v] G K := fun G K hk => by
    refine c_Point_yes wp1 wp1_ok wp1_right fun a' cap' os H' e hR hg => ?_
    have e2 : os.map (fun o => frK o.toFr) = [(16384, 16384, 0, 0), (49152, 16384, 0, 0), (16384, 49152, 0, 0), (49152, 49152, 0, 0)] := by rw [← wp1_list, ← e, List.map_map]; rfl
    obtain ⟨o0, o1, o2, o3, rfl⟩ := len4g (by simpa using congrArg List.length e2)
    obtain ⟨b, o, rfl, r1, hf⟩ := hR.row (k := 0) (y := o0) rfl
    simp only [List.map_cons, List.cons.injEq, frK, Prod.mk.injEq] at e2
    obtain ⟨⟨f0, f1, f2, f3⟩, -⟩ := e2
    refine hk b o cap' H' hg hf ?_
    have q := fun i hi => (rd1_of_rdn r1 (i := i) hi).1
    refine rdn_of (cs := [_, _, _, _]) (by simp) fun i hi => ?_
    have hi' : i < 4 := hi
    have q5 := q (i + 5) (by show i + 5 < 10; omega)
    rw [show o + 5 + i = o + 0 * fragT.sz + (i + 5) by omega, q5]
    rcases i with _ | _ | _ | _ | i <;> first | omega | (show some (Value.int .i32 _) = some (Value.int .i32 _); simp [f0, f1, f2, f3])
  have p1 := wp1_list
  unfold WnR.v wl1 wl2 wp1 at *
  refine HL.hc k9 999 ?_; unfold M9
  (all_goals (try simp only [Sq,Sr,Sh,Si,Sl,Bu,Bb,Bd,Bc,Bw,Bn,Int.reduceAdd,Int.reduceSub,Int.reduceMul,Int.reduceTDiv,Int.reduceTMod,Int.reduceMod,Int.reduceDiv,Nat.reduceLT,Nat.reduceEqDiff,Sa,Sb,Sc,Sd,Se,Sf,Sg,Int.reduceLE,Int.reduceLT,Int.reduceToNat,Int.reduceNeg,Int.reduceEq,Nat.reduceLeDiff,Nat.reducePow,Int.reducePow,reduceIte,Nat.reduceSub,Nat.reduceAdd,Nat.reduceMul,putAt,ceq,List.replicate, *])); repeat' ((first | (with_reducible refine fun _ : True => ?_) | refine cL _ _ (fun b c ty X hb hn e1 e2 => ?_)  | (with_reducible refine any_h ?_) | ((first | refine AllocQ_i ?_ | refine AllocO_i ?_); intro bk hb0 hbk; (try simp only [set_none'] at hbk); (try (first | have hbn := Grow.none (by assumption) hbk | have hbn := Grow.none (by assumption) hbk.2 | have hbn := Grow.none (by assumption) hbk.2.2 | have hbn := Grow.none (by assumption) hbk.2.2.2 | have hbn := Grow.none (by assumption) hbk.2.2.2.2 | have hbn := Grow.none (by assumption) hbk.2.2.2.2.2)); (try simp only [set_none'] at hbn); (try (first | have hbm := Grow.none (by assumption) hbn | have hbm := Grow.none (by assumption) hbn.2 | have hbm := Grow.none (by assumption) hbn.2.2 | have hbm := Grow.none (by assumption) hbn.2.2.2 | have hbm := Grow.none (by assumption) hbn.2.2.2.2 | have hbm := Grow.none (by assumption) hbn.2.2.2.2.2)); (try simp only [set_none'] at hbm)) | ((first | refine condS_i ?_ ?_ | refine pick_i ?_ ?_ | refine gS_it ?_ ?_ | refine gS_if ?_ ?_ | refine gP_it ?_ ?_ | refine gP_if ?_ ?_) <;> (intro hc; try simp only [Int.reduceLE,Int.reduceLT,Int.reduceEq,Sn] at hc)) | (with_reducible refine KP_i ?_ ?_; · (repeat' (first | exact Heap.Le.refl _ | (with_reducible refine Le_set2 ?_) | (refine Le_known (by first | (simp only [Heap.set_same, set_ne, ne_eq, not_false_eq_true, *] <;> rfl) | fail) ?_) | (refine Le_fresh (by first | (simp only [*] <;> done) | (simp [set_none', Heap.set_same, set_ne, noneH, *] <;> done) | fail) ?_) | (refine Heap.Le.trans ?_ (Grow.le (by assumption))) | exact Le_none | (refine Le_put ?_ (by first | (simp only [Heap.set_same, set_ne, ne_eq, not_false_eq_true, *] <;> rfl) | fail)) | fail))) | (with_reducible refine And.intro ?_ ?_)) <;> (try simp only [Sq,Sr,Sh,Si,Sl,Bu,Bb,Bd,Bc,Bw,Bn,Int.reduceAdd,Int.reduceSub,Int.reduceMul,Int.reduceTDiv,Int.reduceTMod,Int.reduceMod,Int.reduceDiv,Nat.reduceLT,Nat.reduceEqDiff,Sa,Sb,Sc,Sd,Se,Sf,Sg,Int.reduceLE,Int.reduceLT,Int.reduceToNat,Int.reduceNeg,Int.reduceEq,Nat.reduceLeDiff,Nat.reducePow,Int.reducePow,reduceIte,Nat.reduceSub,Nat.reduceAdd,Nat.reduceMul,putAt,ceq,List.replicate, *]))
  refine cP _ _ (fun b2 o2 c2 G2 hg hf2 r2 => ?_)
  have k1 : G2 b = some ⟨ty, X⟩ := hg.some at1
  have u1 : HL.rd1 w0 G2 b 30 = some (.int .i64 3) := by unfold HL.rd1; rw [k1]; exact e1
  have u2 : HL.rd1 w0 G2 b 31 = some (.int .i64 0) := by unfold HL.rd1; rw [k1]; exact e2
  have e0 : ∀ i : Int, (i == i) = true := fun i => beq_self_eq_true i
  have gF := (Grow.set (Grow.refl H) hb hn).trans hg
  clear cL cP hg k1 e1 e2
  (all_goals (try simp only [Sq,Sr,Sh,Si,Sl,Bu,Bb,Bd,Bc,Bw,Bn,Int.reduceAdd,Int.reduceSub,Int.reduceMul,Int.reduceTDiv,Int.reduceTMod,Int.reduceMod,Int.reduceDiv,Nat.reduceLT,Nat.reduceEqDiff,Sa,Sb,Sc,Sd,Se,Sf,Sg,Int.reduceLE,Int.reduceLT,Int.reduceToNat,Int.reduceNeg,Int.reduceEq,Nat.reduceLeDiff,Nat.reducePow,Int.reducePow,reduceIte,Nat.reduceSub,Nat.reduceAdd,Nat.reduceMul,putAt,ceq,List.replicate, *])); repeat' ((first | (with_reducible refine fun _ : True => ?_) | (with_reducible refine any_h ?_) | ((first | refine AllocQ_i ?_ | refine AllocO_i ?_); intro bk hb0 hbk; (try simp only [set_none'] at hbk); (try (first | have hbn := Grow.none (by assumption) hbk | have hbn := Grow.none (by assumption) hbk.2 | have hbn := Grow.none (by assumption) hbk.2.2 | have hbn := Grow.none (by assumption) hbk.2.2.2 | have hbn := Grow.none (by assumption) hbk.2.2.2.2 | have hbn := Grow.none (by assumption) hbk.2.2.2.2.2)); (try simp only [set_none'] at hbn); (try (first | have hbm := Grow.none (by assumption) hbn | have hbm := Grow.none (by assumption) hbn.2 | have hbm := Grow.none (by assumption) hbn.2.2 | have hbm := Grow.none (by assumption) hbn.2.2.2 | have hbm := Grow.none (by assumption) hbn.2.2.2.2 | have hbm := Grow.none (by assumption) hbn.2.2.2.2.2)); (try simp only [set_none'] at hbm)) | ((first | refine condS_i ?_ ?_ | refine pick_i ?_ ?_ | refine gS_it ?_ ?_ | refine gS_if ?_ ?_ | refine gP_it ?_ ?_ | refine gP_if ?_ ?_) <;> (intro hc; try simp only [Int.reduceLE,Int.reduceLT,Int.reduceEq,Sn] at hc)) | (with_reducible refine KP_i ?_ ?_; · (repeat' (first | exact Heap.Le.refl _ | (with_reducible refine Le_set2 ?_) | (refine Le_known (by first | (simp only [Heap.set_same, set_ne, ne_eq, not_false_eq_true, *] <;> rfl) | fail) ?_) | (refine Le_fresh (by first | (simp only [*] <;> done) | (simp [set_none', Heap.set_same, set_ne, noneH, *] <;> done) | fail) ?_) | (refine Heap.Le.trans ?_ (Grow.le (by assumption))) | exact Le_none | (refine Le_put ?_ (by first | (simp only [Heap.set_same, set_ne, ne_eq, not_false_eq_true, *] <;> rfl) | fail)) | fail))) | (with_reducible refine And.intro ?_ ?_)) <;> (try simp only [Sq,Sr,Sh,Si,Sl,Bu,Bb,Bd,Bc,Bw,Bn,Int.reduceAdd,Int.reduceSub,Int.reduceMul,Int.reduceTDiv,Int.reduceTMod,Int.reduceMod,Int.reduceDiv,Nat.reduceLT,Nat.reduceEqDiff,Sa,Sb,Sc,Sd,Se,Sf,Sg,Int.reduceLE,Int.reduceLT,Int.reduceToNat,Int.reduceNeg,Int.reduceEq,Nat.reduceLeDiff,Nat.reducePow,Int.reducePow,reduceIte,Nat.reduceSub,Nat.reduceAdd,Nat.reduceMul,putAt,ceq,List.replicate, *]))
  exact Fin_mk (fun c x e => gF.some e) h
end Go.Proofs.Ytokjajfojjibcaa
