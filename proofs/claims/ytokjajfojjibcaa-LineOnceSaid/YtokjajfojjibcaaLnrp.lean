/- A line as fragments: what the walks share (layer 23). -/
import Derived.Test.YtokjajfojjibcaaLno
import Derived.Test.YtokjajfojjibcaaLnj
set_option linter.unusedSimpArgs false
set_option linter.unusedVariables false
set_option maxRecDepth 100000
set_option maxHeartbeats 4000000
namespace Go.Proofs.Ytokjajfojjibcaa
open Go Go.HL Go.RowKit Go.ChangeShapes Go.WideShapes Pb
variable {w0 : World} {H : Heap} {K : Value → Heap → Prop}

section
variable {P : Program} {rec : List It → List Value → Heap → Prop} {m0 : MC} {k0 k : List It} {T0 T : List Value} {G : Heap} {m : MC}
theorem of_true {p : Prop} (f : True → p) : p := f trivial
/-- The code, what stands behind and the values, named: goals are small until the steps begin. -/
theorem loopq_name (h : ∀ m k T, m = m0 → k = k0 → T = T0 → LoopQ rec m k T G) : LoopQ rec m0 k0 T0 G := h _ _ _ rfl rfl rfl
theorem loop_g5 {A B C D E : Type} (p : Nat) (w : A → B → C → D → E → List (Nat × Value)) (ok : A → B → C → D → E → Heap → Prop) (μ : A → Nat) (a0 : A) (b0 : B) (c0 : C) (d0 : D) (e0 : E) (ok0 : ok a0 b0 c0 d0 e0 G) (h0 : T.take p = (sts T (w a0 b0 c0 d0 e0)).take p)
    (body : ∀ a b c d e G f, ok a b c d e G → rec (.code m :: .chk (Round T p (fun s : (A × B × C × D × E) × Heap => w s.1.1 s.1.2.1 s.1.2.2.1 s.1.2.2.2.1 s.1.2.2.2.2) (fun s => s.2) (fun s => ok s.1.1 s.1.2.1 s.1.2.2.1 s.1.2.2.2.1 s.1.2.2.2.2 s.2) (fun s => μ s.1.1) (μ a)) :: k) ((sts T (w a b c d e)).take p ++ mkT f (T.drop p).length 0) G) : LoopQ rec m k T G :=
  loop_g p (fun s : (A × B × C × D × E) × Heap => w s.1.1 s.1.2.1 s.1.2.2.1 s.1.2.2.2.1 s.1.2.2.2.2) (fun s => s.2) (fun s => ok s.1.1 s.1.2.1 s.1.2.2.1 s.1.2.2.2.1 s.1.2.2.2.2 s.2) (fun s => μ s.1.1) ((a0, b0, c0, d0, e0), G) ok0 (Heap.Le.refl _) h0 (fun ⟨⟨a, b, c, d, e⟩, G⟩ f hok => body a b c d e G f hok)
end
theorem Round_k {A : Type} {T : List Value} {p : Nat} {w : A × Heap → List (Nat × Value)} {ok : A × Heap → Prop} {μ : A × Heap → Nat} {z : Nat} {T' : List Value} {H' : Heap} (i n : Nat) (f : List Value → A) (ok' : ok (f ((T'.drop i).take n), H')) (lt : μ (f ((T'.drop i).take n), H') < z)
    (e : T'.take p = (sts T (w (f ((T'.drop i).take n), H'))).take p) (l : (T'.drop p).length = (T.drop p).length) : Round T p w (fun s => s.2) ok μ z T' H' := Round_p _ ok' lt e l
theorem vs_rd {G : Heap} {b o : Nat} {v : Nat → Int} (h : rdn w0 G b o 4 = some (VC v)) : HL.rd1 w0 G b o = some (.int .i32 (v 0)) ∧ HL.rd1 w0 G b (o + 1) = some (.int .i32 (v 1)) ∧ HL.rd1 w0 G b (o + 2) = some (.int .i32 (v 2)) ∧ HL.rd1 w0 G b (o + 3) = some (.int .i32 (v 3)) :=
  ⟨(rd1_of_rdn h (i := 0) (by decide)).1, (rd1_of_rdn h (i := 1) (by decide)).1, (rd1_of_rdn h (i := 2) (by decide)).1, (rd1_of_rdn h (i := 3) (by decide)).1⟩
theorem tog2 {x y : Wn} (h : Tog [x, y]) : x.right ∧ y.right ∧ x.l.length = y.l.length := by
  have h1 := h x (by simp)
  have h2 := h y (by simp)
  exact ⟨h1.1, h2.1, (h2.2 x (by simp)).symm⟩
theorem tog2_iff {x y : Wn} : Tog [x, y] ↔ x.right ∧ y.right ∧ x.l.length = y.l.length := by
  refine ⟨tog2, fun ⟨h1, h2, h3⟩ z hz => ?_⟩
  simp only [List.mem_cons, List.not_mem_nil, or_false] at hz
  rcases hz with rfl | rfl
  · exact ⟨h1, fun w hw => by simp at hw; rw [hw]⟩
  · exact ⟨h2, fun w hw => by simp at hw; rw [← hw, h3]⟩
theorem cs_two {x y : WnR} (hx : WnOk w0 H x) (hy : WnOk w0 H y) (G : Heap) (b : Nat) (t : TypeId) (g : Grow w0 H G) (e : G b = some ⟨t, x.row ++ y.row⟩) : CsOk w0 G (some ⟨b, 0, none⟩) 2 [x, y] :=
  ⟨.blk (z := []) (by rw [List.append_nil]; simpa using e), by simp, by simp [maxLen], fun z hz => by
    simp only [List.mem_cons, List.not_mem_nil, or_false] at hz
    rcases hz with rfl | rfl
    · exact hx.grow g
    · exact hy.grow g⟩
/- line Line -/
def M10 : MC :=
  .seq (.reg [⟨(some 2), .box 25 (.tmp 0), none⟩,
     ⟨(some 3), .box 25 (.tmp 1), none⟩,
     ⟨(some 4), .mv (.const (.slice none 0 0)), none⟩,
     ⟨(some 5), .mv (.const (.int .i64 0)), none⟩])
  (.scope (.seq (.seq (.reg [⟨(some 27), .ldn 6 (.tmp 2), none⟩,
        ⟨(some 28), .ldn 6 (.tmp 3), none⟩,
        ⟨(some 29), .bslice 25 2 [(.int .i64 0), (.int .i64 0), (.int .i32 0), (.int .i32 0), (.int .i32 0), (.slice none 0 0), (.int .i64 0), (.int .i64 0), (.int .i32 0), (.int .i32 0), (.int .i32 0), (.slice none 0 0)] [(0, 6, (.tmp 27)), (6, 6, (.tmp 28))], none⟩,
        ⟨(some 30), .call 20 [(.tmp 29)], none⟩,
        ⟨(some 6), .mv (.tmp 30), none⟩])
     (.seq (.reg [⟨(some 31), .mv (.tmp 6), none⟩,
         ⟨(some 32), .bin .neq (.tmp 31) (.const (.int .i64 0)), none⟩])
      (.cond (.tmp 32)
       (.seq (.reg [⟨(some 33), .mv (.tmp 6), none⟩,
           ⟨(some 4), .mv (.const (.slice none 0 0)), none⟩,
           ⟨(some 5), .mv (.tmp 33), none⟩])
        (.ret))
       (.skip))))
    (.seq (.reg [⟨(some 7), .mv (.func 21), none⟩])
     (.seq (.reg [⟨(some 8), .mv (.func 22), none⟩])
      (.seq (.seq (.any [(true, 0, [], ⟨(some 34), .fa 0 (.tmp 2), none⟩),
           (true, 1, [], ⟨(some 35), .ld1 (.tmp 34), none⟩),
           (true, 2, [], ⟨(some 36), .fa 0 (.tmp 3), none⟩),
           (true, 3, [], ⟨(some 37), .ld1 (.tmp 36), none⟩),
           (true, 5, [], ⟨(some 39), .fa 1 (.tmp 2), none⟩),
           (true, 6, [], ⟨(some 40), .ld1 (.tmp 39), none⟩),
           (true, 7, [], ⟨(some 41), .fa 1 (.tmp 3), none⟩),
           (true, 8, [], ⟨(some 42), .ld1 (.tmp 41), none⟩),
           (false, 4, [5, 6, 7, 8], ⟨(some 38), .call 23 [(.tmp 35), (.tmp 37)], none⟩),
           (false, 9, [], ⟨(some 43), .call 23 [(.tmp 40), (.tmp 42)], none⟩),
           (false, 10, [], ⟨(some 44), .bin .lss (.tmp 38) (.tmp 43), none⟩)])
        (.cond (.tmp 44)
         (.reg [⟨(some 45), .mv (.tmp 8), none⟩,
            ⟨(some 46), .mv (.tmp 7), none⟩,
            ⟨(some 7), .mv (.tmp 45), none⟩,
            ⟨(some 8), .mv (.tmp 46), none⟩])
         (.skip)))
       (.seq (.any [(true, 0, [], ⟨(some 47), .mv (.tmp 7), none⟩),
           (true, 4, [], ⟨(some 51), .mv (.tmp 7), none⟩),
           (true, 8, [], ⟨(some 55), .mv (.tmp 8), none⟩),
           (true, 12, [], ⟨(some 59), .mv (.tmp 8), none⟩),
           (false, 1, [4, 8, 12, 2, 3, 6, 7, 10, 11, 14, 15], ⟨(some 48), .callv (.tmp 47) [(.tmp 2)], none⟩),
           (true, 2, [], ⟨(some 49), .nilc (.tmp 48), none⟩),
           (true, 3, [], ⟨(some 50), .ld1 (.tmp 49), none⟩),
           (false, 5, [8, 12, 2, 3, 6, 7, 10, 11, 14, 15], ⟨(some 52), .callv (.tmp 51) [(.tmp 3)], none⟩),
           (true, 6, [], ⟨(some 53), .nilc (.tmp 52), none⟩),
           (true, 7, [], ⟨(some 54), .ld1 (.tmp 53), none⟩),
           (false, 9, [12, 2, 3, 6, 7, 10, 11, 14, 15], ⟨(some 56), .callv (.tmp 55) [(.tmp 2)], none⟩),
           (true, 10, [], ⟨(some 57), .nilc (.tmp 56), none⟩),
           (true, 11, [], ⟨(some 58), .ld1 (.tmp 57), none⟩),
           (false, 13, [2, 3, 6, 7, 10, 11, 14, 15], ⟨(some 60), .callv (.tmp 59) [(.tmp 3)], none⟩),
           (true, 14, [], ⟨(some 61), .nilc (.tmp 60), none⟩),
           (true, 15, [], ⟨(some 62), .ld1 (.tmp 61), none⟩),
           (false, 16, [6, 7, 10, 11, 14, 15], ⟨(some 9), .mv (.tmp 50), none⟩),
           (false, 17, [10, 11, 14, 15], ⟨(some 10), .mv (.tmp 54), none⟩),
           (false, 18, [14, 15], ⟨(some 11), .mv (.tmp 58), none⟩),
           (false, 19, [], ⟨(some 12), .mv (.tmp 62), none⟩)])
        (.seq (.any [(true, 0, [], ⟨(some 63), .fa 3 (.tmp 2), none⟩),
            (true, 1, [], ⟨(some 64), .ld1 (.tmp 63), none⟩),
            (true, 3, [], ⟨(some 66), .fa 3 (.tmp 3), none⟩),
            (true, 4, [], ⟨(some 67), .ld1 (.tmp 66), none⟩),
            (false, 2, [3, 4], ⟨(some 65), .call 24 [(.const (.int .i32 65536)), (.tmp 64)], none⟩),
            (false, 5, [], ⟨(some 68), .call 24 [(.const (.int .i32 65536)), (.tmp 67)], none⟩),
            (false, 6, [], ⟨(some 13), .mv (.tmp 65), none⟩),
            (false, 7, [], ⟨(some 14), .mv (.tmp 68), none⟩)])
         (.seq (.reg [⟨(some 15), .mv (.const (.slice none 0 0)), none⟩])
          (.seq (.reg [⟨(some 70), .mv (.tmp 9), none⟩,
              ⟨(some 71), .mv (.tmp 10), none⟩,
              ⟨(some 72), .call 25 [(.tmp 70), (.tmp 71)], none⟩,
              ⟨(some 69), .mv (.tmp 72), none⟩,
              ⟨(some 73), .ext 0 (.tmp 69), none⟩,
              ⟨(some 74), .ext 1 (.tmp 69), none⟩,
              ⟨(some 16), .mv (.tmp 73), none⟩,
              ⟨(some 17), .mv (.tmp 74), none⟩])
           (.seq (.skip)
            (.seq (.block 0 (.loop (.seq (.seq (.reg [⟨(some 75), .mv (.tmp 16), none⟩,
                    ⟨(some 76), .bin .geq (.tmp 75) (.const (.int .i64 0)), none⟩,
                    ⟨(some 77), .mv (.tmp 76), none⟩,
                    ⟨(some 78), .mv (.tmp 16), (some (77, true))⟩,
                    ⟨(some 79), .bin .lss (.tmp 78) (.const (.int .i64 64)), (some (77, true))⟩,
                    ⟨(some 80), .pick (.tmp 77) (.tmp 79) (.const (.bool false)), none⟩])
                 (.cond (.tmp 80)
                  (.skip)
                  (.exit 0)))
                (.seq (.block 1 (.seq (.reg [⟨(some 84), .mv (.tmp 16), none⟩,
                      ⟨(some 85), .bin .mul (.const (.int .i64 256)) (.tmp 84), none⟩,
                      ⟨(some 86), .bin .add (.tmp 85) (.const (.int .i64 128)), none⟩,
                      ⟨(some 18), .mv (.tmp 86), none⟩])
                   (.seq (.seq (.reg [⟨(some 87), .mv (.tmp 17), none⟩,
                        ⟨(some 88), .bin .gtr (.tmp 87) (.const (.int .i64 0)), none⟩,
                        ⟨(some 89), .mv (.tmp 88), none⟩,
                        ⟨(some 90), .mv (.tmp 18), (some (89, true))⟩,
                        ⟨(some 91), .mv (.tmp 10), (some (89, true))⟩,
                        ⟨(some 92), .bin .geq (.tmp 90) (.tmp 91), (some (89, true))⟩,
                        ⟨(some 93), .pick (.tmp 89) (.tmp 92) (.const (.bool false)), none⟩,
                        ⟨(some 94), .mv (.tmp 93), none⟩,
                        ⟨(some 95), .mv (.tmp 17), (some (94, false))⟩,
                        ⟨(some 96), .bin .lss (.tmp 95) (.const (.int .i64 0)), (some (94, false))⟩,
                        ⟨(some 97), .mv (.tmp 96), (some (94, false))⟩,
                        ⟨(some 98), .mv (.tmp 18), (some (97, true))⟩,
                        ⟨(some 99), .mv (.tmp 10), (some (97, true))⟩,
                        ⟨(some 100), .bin .leq (.tmp 98) (.tmp 99), (some (97, true))⟩,
                        ⟨(some 101), .pick (.tmp 97) (.tmp 100) (.const (.bool false)), (some (94, false))⟩,
                        ⟨(some 102), .pick (.tmp 94) (.const (.bool true)) (.tmp 101), none⟩,
                        ⟨(some 103), .mv (.tmp 102), none⟩,
                        ⟨(some 104), .mv (.tmp 9), (some (103, false))⟩,
                        ⟨(some 105), .mv (.tmp 10), (some (103, false))⟩,
                        ⟨(some 106), .bin .eql (.tmp 104) (.tmp 105), (some (103, false))⟩,
                        ⟨(some 107), .pick (.tmp 103) (.const (.bool true)) (.tmp 106), none⟩])
                     (.cond (.tmp 107)
                      (.exit 0)
                      (.skip)))
                    (.seq (.reg [⟨(some 108), .mv (.tmp 10), none⟩,
                        ⟨(some 109), .mv (.tmp 18), none⟩,
                        ⟨(some 110), .call 23 [(.tmp 108), (.tmp 109)], none⟩,
                        ⟨(some 111), .conv .i32 (.tmp 110), none⟩,
                        ⟨(some 112), .mv (.tmp 18), none⟩,
                        ⟨(some 113), .mv (.tmp 9), none⟩,
                        ⟨(some 114), .call 23 [(.tmp 112), (.tmp 113)], none⟩,
                        ⟨(some 115), .conv .i32 (.tmp 114), none⟩,
                        ⟨(some 19), .mv (.tmp 111), none⟩,
                        ⟨(some 20), .mv (.tmp 115), none⟩])
                     (.seq (.reg [⟨(some 116), .mv (.tmp 11), none⟩,
                         ⟨(some 117), .mv (.tmp 12), none⟩,
                         ⟨(some 118), .mv (.tmp 18), none⟩,
                         ⟨(some 119), .mv (.tmp 9), none⟩,
                         ⟨(some 120), .bin .sub (.tmp 118) (.tmp 119), none⟩,
                         ⟨(some 121), .mv (.tmp 10), none⟩,
                         ⟨(some 122), .mv (.tmp 9), none⟩,
                         ⟨(some 123), .bin .sub (.tmp 121) (.tmp 122), none⟩,
                         ⟨(some 124), .call 26 [(.tmp 116), (.tmp 117), (.tmp 120), (.tmp 123)], none⟩,
                         ⟨(some 21), .mv (.tmp 124), none⟩])
                      (.seq (.seq (.reg [⟨(some 125), .mv (.tmp 21), none⟩,
                           ⟨(some 126), .bin .lss (.tmp 125) (.const (.int .i64 0)), none⟩,
                           ⟨(some 127), .mv (.tmp 126), none⟩,
                           ⟨(some 128), .mv (.tmp 21), (some (127, false))⟩,
                           ⟨(some 129), .bin .geq (.tmp 128) (.const (.int .i64 64)), (some (127, false))⟩,
                           ⟨(some 130), .pick (.tmp 127) (.const (.bool true)) (.tmp 129), none⟩])
                        (.cond (.tmp 130)
                         (.exit 1)
                         (.skip)))
                       (.seq (.reg [⟨(some 131), .fa 2 (.tmp 2), none⟩,
                           ⟨(some 132), .ld1 (.tmp 131), none⟩,
                           ⟨(some 133), .fa 2 (.tmp 3), none⟩,
                           ⟨(some 134), .ld1 (.tmp 133), none⟩,
                           ⟨(some 135), .mv (.tmp 19), none⟩,
                           ⟨(some 136), .mv (.tmp 20), none⟩,
                           ⟨(some 137), .call 27 [(.tmp 132), (.tmp 134), (.tmp 135), (.tmp 136)], none⟩,
                           ⟨(some 138), .mv (.tmp 13), none⟩,
                           ⟨(some 139), .mv (.tmp 14), none⟩,
                           ⟨(some 140), .mv (.tmp 19), none⟩,
                           ⟨(some 141), .mv (.tmp 20), none⟩,
                           ⟨(some 142), .call 27 [(.tmp 138), (.tmp 139), (.tmp 140), (.tmp 141)], none⟩,
                           ⟨(some 143), .build [(.int .i64 0), (.int .i64 0), (.int .i32 0), (.int .i32 0), (.bool false), (.int .i32 0), (.int .i32 0), (.int .i32 0), (.int .i32 0), (.slice none 0 0)] [(4, 1, (.const (.bool true))), (2, 1, (.tmp 137)), (3, 1, (.tmp 142))], none⟩,
                           ⟨(some 22), .alloc 46 [(.int .i64 0), (.int .i64 0), (.int .i32 0), (.int .i32 0), (.bool false), (.int .i32 0), (.int .i32 0), (.int .i32 0), (.int .i32 0), (.slice none 0 0)], none⟩,
                           ⟨none, .stn 10 (.tmp 22) (.tmp 143), none⟩])
                        (.seq (.reg [⟨(some 144), .mv (.tmp 16), none⟩,
                            ⟨(some 145), .mv (.tmp 21), none⟩,
                            ⟨(some 146), .fa 0 (.tmp 22), none⟩,
                            ⟨none, .st1 (.tmp 146) (.tmp 144), none⟩,
                            ⟨(some 147), .fa 1 (.tmp 22), none⟩,
                            ⟨none, .st1 (.tmp 147) (.tmp 145), none⟩])
                         (.seq (.seq (.reg [⟨(some 148), .mv (.tmp 7), none⟩,
                              ⟨(some 149), .build [(.int .i64 0), (.int .i64 0), (.int .i32 0), (.int .i32 0), (.int .i32 0), (.slice none 0 0)] [(0, 1, (.const (.int .i64 1)))], none⟩,
                              ⟨(some 150), .box 25 (.tmp 149), none⟩,
                              ⟨(some 151), .yv (.tmp 148) [(.tmp 150)], none⟩,
                              ⟨(some 152), .nilc (.tmp 151), none⟩,
                              ⟨(some 153), .ld1 (.tmp 152), none⟩,
                              ⟨(some 154), .bin .eql (.tmp 153) (.const (.int .i64 0)), none⟩])
                           (.cond (.tmp 154)
                            (.reg [⟨(some 155), .mv (.tmp 21), none⟩,
                               ⟨(some 156), .mv (.tmp 16), none⟩,
                               ⟨(some 157), .fa 0 (.tmp 22), none⟩,
                               ⟨none, .st1 (.tmp 157) (.tmp 155), none⟩,
                               ⟨(some 158), .fa 1 (.tmp 22), none⟩,
                               ⟨none, .st1 (.tmp 158) (.tmp 156), none⟩])
                            (.skip)))
                          (.seq (.seq (.reg [⟨(some 159), .fa 5 (.tmp 2), none⟩,
                               ⟨(some 160), .ld1 (.tmp 159), none⟩,
                               ⟨(some 161), .len (.tmp 160), none⟩,
                               ⟨(some 162), .mv (.const (.int .i64 0)), none⟩])
                            (.block 2 (.loop (.seq (.reg [⟨(some 163), .bin .lss (.tmp 162) (.tmp 161), none⟩])
                               (.seq (.cond (.tmp 163)
                                 (.skip)
                                 (.exit 2))
                                (.seq (.block 3 (.seq (.reg [⟨(some 164), .mv (.tmp 162), none⟩,
                                      ⟨(some 165), .is 4 (.tmp 160) (.tmp 162), none⟩,
                                      ⟨(some 166), .ldn 4 (.tmp 165), none⟩,
                                      ⟨(some 24), .alloc 38 [(.int .i32 0), (.int .i32 0), (.int .i32 0), (.int .i32 0)], none⟩,
                                      ⟨(some 23), .mv (.tmp 164), none⟩,
                                      ⟨none, .stn 4 (.tmp 24) (.tmp 166), none⟩])
                                   (.seq (.reg [⟨(some 25), .alloc 38 [(.int .i32 0), (.int .i32 0), (.int .i32 0), (.int .i32 0)], none⟩])
                                    (.seq (.seq (.reg [⟨(some 167), .mv (.const (.int .i64 0)), none⟩])
                                      (.block 4 (.loop (.seq (.reg [⟨(some 168), .bin .lss (.tmp 167) (.const (.int .i64 4)), none⟩])
                                         (.seq (.cond (.tmp 168)
                                           (.skip)
                                           (.exit 4))
                                          (.seq (.block 5 (.seq (.reg [⟨(some 169), .mv (.tmp 167), none⟩,
                                                ⟨(some 26), .mv (.tmp 169), none⟩])
                                             (.any [(true, 0, [], ⟨(some 170), .mv (.tmp 26), none⟩),
                                                (true, 1, [], ⟨(some 171), .mv (.tmp 26), none⟩),
                                                (true, 2, [], ⟨(some 172), .ia 4 1 (.tmp 24) (.tmp 171), none⟩),
                                                (true, 3, [], ⟨(some 173), .ld1 (.tmp 172), none⟩),
                                                (true, 4, [], ⟨(some 174), .fa 5 (.tmp 3), none⟩),
                                                (true, 5, [], ⟨(some 175), .ld1 (.tmp 174), none⟩),
                                                (true, 6, [], ⟨(some 176), .mv (.tmp 23), none⟩),
                                                (true, 7, [], ⟨(some 177), .mv (.tmp 26), none⟩),
                                                (true, 8, [], ⟨(some 178), .is 4 (.tmp 175) (.tmp 176), none⟩),
                                                (true, 9, [], ⟨(some 179), .ia 4 1 (.tmp 178) (.tmp 177), none⟩),
                                                (true, 10, [], ⟨(some 180), .ld1 (.tmp 179), none⟩),
                                                (true, 11, [], ⟨(some 181), .mv (.tmp 19), none⟩),
                                                (true, 12, [], ⟨(some 182), .mv (.tmp 20), none⟩),
                                                (true, 13, [], ⟨(some 183), .fa 3 (.tmp 2), none⟩),
                                                (true, 14, [], ⟨(some 184), .ld1 (.tmp 183), none⟩),
                                                (false, 15, [0, 1, 2, 3, 4, 5, 6, 7, 8, 9, 10, 11, 12, 13, 14], ⟨(some 185), .fa 3 (.tmp 3), none⟩),
                                                (false, 16, [0, 1, 2, 3, 4, 5, 6, 7, 8, 9, 10, 11, 12, 13, 14], ⟨(some 186), .ld1 (.tmp 185), none⟩),
                                                (false, 17, [0, 1, 2, 3, 4, 5, 6, 7, 8, 9, 10, 11, 12], ⟨(some 187), .build [(.int .i32 0), (.int .i32 0)] [(0, 1, (.tmp 184)), (1, 1, (.tmp 186))], none⟩),
                                                (false, 18, [0], ⟨(some 188), .call 16 [(.tmp 173), (.tmp 180), (.tmp 181), (.tmp 182), (.tmp 187)], none⟩),
                                                (false, 19, [], ⟨(some 189), .ia 4 1 (.tmp 25) (.tmp 170), none⟩),
                                                (false, 20, [], ⟨none, .st1 (.tmp 189) (.tmp 188), none⟩)])))
                                           (.reg [⟨(some 190), .bin .add (.tmp 167) (.const (.int .i64 1)), none⟩,
                                              ⟨(some 167), .mv (.tmp 190), none⟩])))))))
                                     (.reg [⟨(some 191), .fa 9 (.tmp 22), none⟩,
                                        ⟨(some 192), .ld1 (.tmp 191), none⟩,
                                        ⟨(some 193), .ldn 4 (.tmp 25), none⟩,
                                        ⟨(some 194), .bslice 38 1 [(.int .i32 0), (.int .i32 0), (.int .i32 0), (.int .i32 0)] [(0, 4, (.tmp 193))], none⟩,
                                        ⟨(some 195), .app 38 4 16 [(.int .i32 0), (.int .i32 0), (.int .i32 0), (.int .i32 0)] (.tmp 192) (.tmp 194), none⟩,
                                        ⟨(some 196), .fa 9 (.tmp 22), none⟩,
                                        ⟨none, .st1 (.tmp 196) (.tmp 195), none⟩])))))
                                 (.reg [⟨(some 197), .bin .add (.tmp 162) (.const (.int .i64 1)), none⟩,
                                    ⟨(some 162), .mv (.tmp 197), none⟩])))))))
                           (.reg [⟨(some 198), .mv (.tmp 15), none⟩,
                              ⟨(some 199), .ldn 10 (.tmp 22), none⟩,
                              ⟨(some 200), .bslice 46 1 [(.int .i64 0), (.int .i64 0), (.int .i32 0), (.int .i32 0), (.bool false), (.int .i32 0), (.int .i32 0), (.int .i32 0), (.int .i32 0), (.slice none 0 0)] [(0, 10, (.tmp 199))], none⟩,
                              ⟨(some 201), .app 46 10 72 [(.int .i64 0), (.int .i64 0), (.int .i32 0), (.int .i32 0), (.bool false), (.int .i32 0), (.int .i32 0), (.int .i32 0), (.int .i32 0), (.slice none 0 0)] (.tmp 198) (.tmp 200), none⟩,
                              ⟨(some 15), .mv (.tmp 201), none⟩])))))))))))
                 (.reg [⟨(some 81), .mv (.tmp 16), none⟩,
                    ⟨(some 82), .mv (.tmp 17), none⟩,
                    ⟨(some 83), .bin .add (.tmp 81) (.tmp 82), none⟩,
                    ⟨(some 16), .mv (.tmp 83), none⟩])))))
             (.seq (.reg [⟨(some 202), .mv (.tmp 15), none⟩,
                 ⟨(some 4), .mv (.tmp 202), none⟩,
                 ⟨(some 5), .mv (.const (.int .i64 0)), none⟩])
              (.ret)))))))))))))
theorem k10 : fnOk Try.prog 10 = some (M10, [.t 4, .t 5], 203) := by kernel_rfl

theorem c_Line_no (x y : WnR) (hx : WnOk w0 H x) (hy : WnOk w0 H y) (hr : ¬ Tog [x.toWn, y.toWn]) (h : K (.tuple #[.slice none 0 0, .int .i64 320]) H) : HCalls Try.prog w0 10 [x.v, y.v] H K := by
  have hcC : ∀ (b : Nat) (t : TypeId) (G : Heap) (K : Value → Heap → Prop), Grow w0 H G → G b = some ⟨t, x.row ++ y.row⟩ → K (.int .i64 320) G → HCalls Try.prog w0 20 [.slice (some ⟨b, 0, none⟩) 2 2] G K := fun b t G K g e hk => c_Check (some ⟨b, 0, none⟩) 2 [x, y] (by simp) (cs_two hx hy G b t g e) (fun hh => (hr hh).elim) (fun _ => hk)
  unfold WnR.row at hcC
  unfold WnR.v
  refine HL.hc k10 999 ?_; unfold M10
  (all_goals (try simp only [Sq,Sr,Sh,Si,Sl,Bu,Bb,Bd,Bc,Bw,Bn,Int.reduceAdd,Int.reduceSub,Int.reduceMul,Int.reduceTDiv,Int.reduceTMod,Int.reduceMod,Int.reduceDiv,Nat.reduceLT,Nat.reduceEqDiff,Sa,Sb,Sc,Sd,Se,Sf,Sg,Int.reduceLE,Int.reduceLT,Int.reduceToNat,Int.reduceNeg,Int.reduceEq,Nat.reduceLeDiff,Nat.reducePow,Int.reducePow,reduceIte,Nat.reduceSub,Nat.reduceAdd,Nat.reduceMul,putAt,ceq,List.replicate, *])); repeat' ((first | (with_reducible refine fun _ : True => ?_) | refine hcC _ _ _ _ (by (repeat' (first | exact Grow.refl _ | assumption | (refine Grow_known (by first | (simp only [Heap.set_same, set_ne, ne_eq, not_false_eq_true, *] <;> rfl) | fail) ?_) | (refine Grow.set ?_ (by assumption) (by first | (simp only [*] <;> done) | (simp [set_none', Heap.set_same, set_ne, noneH, *] <;> done) | fail)) | (refine Grow.trans ?_ (by assumption))))) (by simp only [Heap.set_same, set_ne, ne_eq, not_false_eq_true, *] <;> rfl) ?_ | (with_reducible refine any_h ?_) | ((first | refine AllocQ_i ?_ | refine AllocO_i ?_); intro bk hb0 hbk; (try simp only [set_none'] at hbk); (try (first | have hbn := Grow.none (by assumption) hbk | have hbn := Grow.none (by assumption) hbk.2 | have hbn := Grow.none (by assumption) hbk.2.2 | have hbn := Grow.none (by assumption) hbk.2.2.2 | have hbn := Grow.none (by assumption) hbk.2.2.2.2 | have hbn := Grow.none (by assumption) hbk.2.2.2.2.2)); (try simp only [set_none'] at hbn); (try (first | have hbm := Grow.none (by assumption) hbn | have hbm := Grow.none (by assumption) hbn.2 | have hbm := Grow.none (by assumption) hbn.2.2 | have hbm := Grow.none (by assumption) hbn.2.2.2 | have hbm := Grow.none (by assumption) hbn.2.2.2.2 | have hbm := Grow.none (by assumption) hbn.2.2.2.2.2)); (try simp only [set_none'] at hbm)) | ((first | refine condS_i ?_ ?_ | refine pick_i ?_ ?_ | refine gS_it ?_ ?_ | refine gS_if ?_ ?_ | refine gP_it ?_ ?_ | refine gP_if ?_ ?_) <;> (intro hc; try simp only [Int.reduceLE,Int.reduceLT,Int.reduceEq,Sn] at hc)) | (with_reducible refine KP_i ?_ ?_; · (repeat' (first | exact Heap.Le.refl _ | (with_reducible refine Le_set2 ?_) | (refine Le_known (by first | (simp only [Heap.set_same, set_ne, ne_eq, not_false_eq_true, *] <;> rfl) | fail) ?_) | (refine Le_fresh (by first | (simp only [*] <;> done) | (simp [set_none', Heap.set_same, set_ne, noneH, *] <;> done) | fail) ?_) | (refine Heap.Le.trans ?_ (Grow.le (by assumption))) | exact Le_none | (refine Le_put ?_ (by first | (simp only [Heap.set_same, set_ne, ne_eq, not_false_eq_true, *] <;> rfl) | fail)) | fail))) | (with_reducible refine And.intro ?_ ?_)) <;> (try simp only [Sq,Sr,Sh,Si,Sl,Bu,Bb,Bd,Bc,Bw,Bn,Int.reduceAdd,Int.reduceSub,Int.reduceMul,Int.reduceTDiv,Int.reduceTMod,Int.reduceMod,Int.reduceDiv,Nat.reduceLT,Nat.reduceEqDiff,Sa,Sb,Sc,Sd,Se,Sf,Sg,Int.reduceLE,Int.reduceLT,Int.reduceToNat,Int.reduceNeg,Int.reduceEq,Nat.reduceLeDiff,Nat.reducePow,Int.reducePow,reduceIte,Nat.reduceSub,Nat.reduceAdd,Nat.reduceMul,putAt,ceq,List.replicate, *]))
  exact Fin_mk (by (repeat' (first | exact Heap.Le.refl _ | (with_reducible refine Le_set2 ?_) | (refine Le_known (by first | (simp only [Heap.set_same, set_ne, ne_eq, not_false_eq_true, *] <;> rfl) | fail) ?_) | (refine Le_fresh (by first | (simp only [*] <;> done) | (simp [set_none', Heap.set_same, set_ne, noneH, *] <;> done) | fail) ?_) | (refine Heap.Le.trans ?_ (Grow.le (by assumption))) | exact Le_none | (refine Le_put ?_ (by first | (simp only [Heap.set_same, set_ne, ne_eq, not_false_eq_true, *] <;> rfl) | fail)) | fail))) h
def FrR.v (o : FrR) : Value := .agg #[.int .i64 o.x, .int .i64 o.y, .int .i32 o.z, .int .i32 o.w, .bool o.f, .int .i32 (o.p 0), .int .i32 (o.p 1), .int .i32 (o.p 2), .int .i32 (o.p 3), .slice o.a o.l.length o.cap]
/- paintboxref23 at -/
def M29 : MC :=
  .seq (.reg [⟨(some 4), .box 25 (.tmp 0), none⟩,
     ⟨(some 5), .box 25 (.tmp 1), none⟩,
     ⟨(some 8), .alloc 46 [(.int .i64 0), (.int .i64 0), (.int .i32 0), (.int .i32 0), (.bool false), (.int .i32 0), (.int .i32 0), (.int .i32 0), (.int .i32 0), (.slice none 0 0)], none⟩,
     ⟨(some 9), .mv (.const (.bool false)), none⟩])
  (.seq (.any [(true, 0, [], ⟨(some 22), .fa 1 (.tmp 4), none⟩),
      (true, 1, [], ⟨(some 23), .ld1 (.tmp 22), none⟩),
      (true, 2, [], ⟨(some 24), .fa 1 (.tmp 5), none⟩),
      (true, 3, [], ⟨(some 25), .ld1 (.tmp 24), none⟩),
      (true, 4, [], ⟨(some 26), .fa 0 (.tmp 4), none⟩),
      (true, 5, [], ⟨(some 27), .ld1 (.tmp 26), none⟩),
      (true, 6, [], ⟨(some 28), .fa 0 (.tmp 5), none⟩),
      (true, 7, [], ⟨(some 29), .ld1 (.tmp 28), none⟩),
      (false, 8, [2, 3, 4, 5, 6, 7], ⟨(some 10), .mv (.tmp 23), none⟩),
      (false, 9, [4, 5, 6, 7], ⟨(some 11), .mv (.tmp 25), none⟩),
      (false, 10, [6, 7], ⟨(some 12), .mv (.tmp 27), none⟩),
      (false, 11, [], ⟨(some 13), .mv (.tmp 29), none⟩)])
   (.seq (.seq (.reg [⟨(some 30), .mv (.tmp 2), none⟩])
     (.cond (.tmp 30)
      (.any [(true, 0, [], ⟨(some 31), .fa 0 (.tmp 4), none⟩),
         (true, 1, [], ⟨(some 32), .ld1 (.tmp 31), none⟩),
         (true, 2, [], ⟨(some 33), .fa 0 (.tmp 5), none⟩),
         (true, 3, [], ⟨(some 34), .ld1 (.tmp 33), none⟩),
         (true, 4, [], ⟨(some 35), .fa 1 (.tmp 4), none⟩),
         (true, 5, [], ⟨(some 36), .ld1 (.tmp 35), none⟩),
         (true, 6, [], ⟨(some 37), .fa 1 (.tmp 5), none⟩),
         (true, 7, [], ⟨(some 38), .ld1 (.tmp 37), none⟩),
         (false, 8, [2, 3, 4, 5, 6, 7], ⟨(some 10), .mv (.tmp 32), none⟩),
         (false, 9, [4, 5, 6, 7], ⟨(some 11), .mv (.tmp 34), none⟩),
         (false, 10, [6, 7], ⟨(some 12), .mv (.tmp 36), none⟩),
         (false, 11, [], ⟨(some 13), .mv (.tmp 38), none⟩)])
      (.skip)))
    (.seq (.reg [⟨(some 39), .mv (.tmp 3), none⟩,
        ⟨(some 40), .bin .mul (.const (.int .i64 256)) (.tmp 39), none⟩,
        ⟨(some 41), .bin .add (.tmp 40) (.const (.int .i64 128)), none⟩,
        ⟨(some 14), .mv (.tmp 41), none⟩])
     (.seq (.seq (.reg [⟨(some 42), .mv (.tmp 11), none⟩,
          ⟨(some 43), .mv (.tmp 10), none⟩,
          ⟨(some 44), .bin .gtr (.tmp 42) (.tmp 43), none⟩,
          ⟨(some 45), .mv (.tmp 44), none⟩,
          ⟨(some 46), .mv (.tmp 14), (some (45, true))⟩,
          ⟨(some 47), .mv (.tmp 10), (some (45, true))⟩,
          ⟨(some 48), .bin .geq (.tmp 46) (.tmp 47), (some (45, true))⟩,
          ⟨(some 49), .pick (.tmp 45) (.tmp 48) (.const (.bool false)), none⟩,
          ⟨(some 50), .mv (.tmp 49), none⟩,
          ⟨(some 51), .mv (.tmp 14), (some (50, true))⟩,
          ⟨(some 52), .mv (.tmp 11), (some (50, true))⟩,
          ⟨(some 53), .bin .lss (.tmp 51) (.tmp 52), (some (50, true))⟩,
          ⟨(some 54), .pick (.tmp 50) (.tmp 53) (.const (.bool false)), none⟩,
          ⟨(some 55), .mv (.tmp 54), none⟩,
          ⟨(some 56), .mv (.tmp 11), (some (55, false))⟩,
          ⟨(some 57), .mv (.tmp 10), (some (55, false))⟩,
          ⟨(some 58), .bin .lss (.tmp 56) (.tmp 57), (some (55, false))⟩,
          ⟨(some 59), .mv (.tmp 58), (some (55, false))⟩,
          ⟨(some 60), .mv (.tmp 14), (some (59, true))⟩,
          ⟨(some 61), .mv (.tmp 10), (some (59, true))⟩,
          ⟨(some 62), .bin .leq (.tmp 60) (.tmp 61), (some (59, true))⟩,
          ⟨(some 63), .pick (.tmp 59) (.tmp 62) (.const (.bool false)), (some (55, false))⟩,
          ⟨(some 64), .mv (.tmp 63), (some (55, false))⟩,
          ⟨(some 65), .mv (.tmp 14), (some (64, true))⟩,
          ⟨(some 66), .mv (.tmp 11), (some (64, true))⟩,
          ⟨(some 67), .bin .gtr (.tmp 65) (.tmp 66), (some (64, true))⟩,
          ⟨(some 68), .pick (.tmp 64) (.tmp 67) (.const (.bool false)), (some (55, false))⟩,
          ⟨(some 69), .pick (.tmp 55) (.const (.bool true)) (.tmp 68), none⟩,
          ⟨(some 70), .un .not (.tmp 69), none⟩])
       (.cond (.tmp 70)
        (.seq (.reg [⟨(some 71), .build [(.int .i64 0), (.int .i64 0), (.int .i32 0), (.int .i32 0), (.bool false), (.int .i32 0), (.int .i32 0), (.int .i32 0), (.int .i32 0), (.slice none 0 0)] [], none⟩,
            ⟨none, .stn 10 (.tmp 8) (.tmp 71), none⟩,
            ⟨(some 9), .mv (.const (.bool false)), none⟩])
         (.ret))
        (.skip)))
      (.seq (.reg [⟨(some 72), .mv (.tmp 12), none⟩,
          ⟨(some 73), .mv (.tmp 11), none⟩,
          ⟨(some 74), .mv (.tmp 10), none⟩,
          ⟨(some 75), .bin .sub (.tmp 73) (.tmp 74), none⟩,
          ⟨(some 76), .bin .mul (.tmp 72) (.tmp 75), none⟩,
          ⟨(some 77), .mv (.tmp 13), none⟩,
          ⟨(some 78), .mv (.tmp 12), none⟩,
          ⟨(some 79), .bin .sub (.tmp 77) (.tmp 78), none⟩,
          ⟨(some 80), .mv (.tmp 14), none⟩,
          ⟨(some 81), .mv (.tmp 10), none⟩,
          ⟨(some 82), .bin .sub (.tmp 80) (.tmp 81), none⟩,
          ⟨(some 83), .bin .mul (.tmp 79) (.tmp 82), none⟩,
          ⟨(some 84), .bin .add (.tmp 76) (.tmp 83), none⟩,
          ⟨(some 85), .mv (.tmp 11), none⟩,
          ⟨(some 86), .mv (.tmp 10), none⟩,
          ⟨(some 87), .bin .sub (.tmp 85) (.tmp 86), none⟩,
          ⟨(some 88), .bin .mul (.const (.int .i64 256)) (.tmp 87), none⟩,
          ⟨(some 89), .call 40 [(.tmp 84), (.tmp 88)], none⟩,
          ⟨(some 15), .mv (.tmp 89), none⟩])
       (.seq (.seq (.reg [⟨(some 90), .mv (.tmp 11), none⟩,
            ⟨(some 91), .mv (.tmp 10), none⟩,
            ⟨(some 92), .bin .lss (.tmp 90) (.tmp 91), none⟩])
         (.cond (.tmp 92)
          (.reg [⟨(some 93), .mv (.tmp 12), none⟩,
             ⟨(some 94), .mv (.tmp 10), none⟩,
             ⟨(some 95), .mv (.tmp 11), none⟩,
             ⟨(some 96), .bin .sub (.tmp 94) (.tmp 95), none⟩,
             ⟨(some 97), .bin .mul (.tmp 93) (.tmp 96), none⟩,
             ⟨(some 98), .mv (.tmp 13), none⟩,
             ⟨(some 99), .mv (.tmp 12), none⟩,
             ⟨(some 100), .bin .sub (.tmp 98) (.tmp 99), none⟩,
             ⟨(some 101), .mv (.tmp 10), none⟩,
             ⟨(some 102), .mv (.tmp 14), none⟩,
             ⟨(some 103), .bin .sub (.tmp 101) (.tmp 102), none⟩,
             ⟨(some 104), .bin .mul (.tmp 100) (.tmp 103), none⟩,
             ⟨(some 105), .bin .add (.tmp 97) (.tmp 104), none⟩,
             ⟨(some 106), .mv (.tmp 10), none⟩,
             ⟨(some 107), .mv (.tmp 11), none⟩,
             ⟨(some 108), .bin .sub (.tmp 106) (.tmp 107), none⟩,
             ⟨(some 109), .bin .mul (.const (.int .i64 256)) (.tmp 108), none⟩,
             ⟨(some 110), .call 40 [(.tmp 105), (.tmp 109)], none⟩,
             ⟨(some 15), .mv (.tmp 110), none⟩])
          (.skip)))
        (.seq (.seq (.reg [⟨(some 111), .mv (.tmp 15), none⟩,
             ⟨(some 112), .bin .lss (.tmp 111) (.const (.int .i64 0)), none⟩,
             ⟨(some 113), .mv (.tmp 112), none⟩,
             ⟨(some 114), .mv (.tmp 15), (some (113, false))⟩,
             ⟨(some 115), .bin .gtr (.tmp 114) (.const (.int .i64 63)), (some (113, false))⟩,
             ⟨(some 116), .pick (.tmp 113) (.const (.bool true)) (.tmp 115), none⟩])
          (.cond (.tmp 116)
           (.seq (.reg [⟨(some 117), .build [(.int .i64 0), (.int .i64 0), (.int .i32 0), (.int .i32 0), (.bool false), (.int .i32 0), (.int .i32 0), (.int .i32 0), (.int .i32 0), (.slice none 0 0)] [], none⟩,
               ⟨none, .stn 10 (.tmp 8) (.tmp 117), none⟩,
               ⟨(some 9), .mv (.const (.bool false)), none⟩])
            (.ret))
           (.skip)))
         (.seq (.reg [⟨(some 118), .mv (.tmp 11), none⟩,
             ⟨(some 119), .mv (.tmp 14), none⟩,
             ⟨(some 120), .bin .sub (.tmp 118) (.tmp 119), none⟩,
             ⟨(some 121), .call 28 [(.tmp 120)], none⟩,
             ⟨(some 122), .mv (.tmp 14), none⟩,
             ⟨(some 123), .mv (.tmp 10), none⟩,
             ⟨(some 124), .bin .sub (.tmp 122) (.tmp 123), none⟩,
             ⟨(some 125), .call 28 [(.tmp 124)], none⟩,
             ⟨(some 16), .mv (.tmp 121), none⟩,
             ⟨(some 17), .mv (.tmp 125), none⟩])
          (.seq (.reg [⟨(some 126), .mv (.tmp 15), none⟩,
              ⟨(some 127), .mv (.tmp 3), none⟩,
              ⟨(some 128), .build [(.int .i64 0), (.int .i64 0), (.int .i32 0), (.int .i32 0), (.bool false), (.int .i32 0), (.int .i32 0), (.int .i32 0), (.int .i32 0), (.slice none 0 0)] [(0, 1, (.tmp 126)), (1, 1, (.tmp 127)), (4, 1, (.const (.bool true)))], none⟩,
              ⟨(some 18), .alloc 46 [(.int .i64 0), (.int .i64 0), (.int .i32 0), (.int .i32 0), (.bool false), (.int .i32 0), (.int .i32 0), (.int .i32 0), (.int .i32 0), (.slice none 0 0)], none⟩,
              ⟨none, .stn 10 (.tmp 18) (.tmp 128), none⟩])
           (.seq (.seq (.reg [⟨(some 129), .mv (.tmp 2), none⟩])
             (.cond (.tmp 129)
              (.reg [⟨(some 130), .mv (.tmp 3), none⟩,
                 ⟨(some 131), .mv (.tmp 15), none⟩,
                 ⟨(some 132), .fa 0 (.tmp 18), none⟩,
                 ⟨none, .st1 (.tmp 132) (.tmp 130), none⟩,
                 ⟨(some 133), .fa 1 (.tmp 18), none⟩,
                 ⟨none, .st1 (.tmp 133) (.tmp 131), none⟩])
              (.skip)))
            (.seq (.reg [⟨(some 134), .fa 2 (.tmp 4), none⟩,
                ⟨(some 135), .ld1 (.tmp 134), none⟩,
                ⟨(some 136), .fa 2 (.tmp 5), none⟩,
                ⟨(some 137), .ld1 (.tmp 136), none⟩,
                ⟨(some 138), .mv (.tmp 17), none⟩,
                ⟨(some 139), .mv (.tmp 16), none⟩,
                ⟨(some 140), .mv (.tmp 17), none⟩,
                ⟨(some 141), .bin .add (.tmp 139) (.tmp 140), none⟩,
                ⟨(some 142), .call 38 [(.tmp 135), (.tmp 137), (.tmp 138), (.tmp 141)], none⟩,
                ⟨(some 143), .fa 2 (.tmp 18), none⟩,
                ⟨none, .st1 (.tmp 143) (.tmp 142), none⟩])
             (.seq (.any [(true, 0, [], ⟨(some 144), .fa 3 (.tmp 4), none⟩),
                 (true, 1, [], ⟨(some 145), .ld1 (.tmp 144), none⟩),
                 (true, 3, [], ⟨(some 147), .fa 3 (.tmp 5), none⟩),
                 (true, 4, [], ⟨(some 148), .ld1 (.tmp 147), none⟩),
                 (true, 6, [], ⟨(some 150), .mv (.tmp 17), none⟩),
                 (true, 7, [], ⟨(some 151), .mv (.tmp 16), none⟩),
                 (true, 8, [], ⟨(some 152), .mv (.tmp 17), none⟩),
                 (true, 9, [], ⟨(some 153), .bin .add (.tmp 151) (.tmp 152), none⟩),
                 (false, 2, [3, 4, 6, 7, 8, 9], ⟨(some 146), .call 35 [(.const (.int .i32 65536)), (.tmp 145)], none⟩),
                 (false, 5, [6, 7, 8, 9], ⟨(some 149), .call 35 [(.const (.int .i32 65536)), (.tmp 148)], none⟩),
                 (false, 10, [], ⟨(some 154), .call 38 [(.tmp 146), (.tmp 149), (.tmp 150), (.tmp 153)], none⟩),
                 (false, 11, [], ⟨(some 155), .fa 3 (.tmp 18), none⟩),
                 (false, 12, [], ⟨none, .st1 (.tmp 155) (.tmp 154), none⟩)])
              (.seq (.seq (.reg [⟨(some 19), .mv (.const (.int .i64 0)), none⟩])
                (.block 0 (.loop (.seq (.seq (.reg [⟨(some 156), .mv (.tmp 19), none⟩,
                       ⟨(some 157), .fa 5 (.tmp 4), none⟩,
                       ⟨(some 158), .ld1 (.tmp 157), none⟩,
                       ⟨(some 159), .len (.tmp 158), none⟩,
                       ⟨(some 160), .bin .lss (.tmp 156) (.tmp 159), none⟩])
                    (.cond (.tmp 160)
                     (.skip)
                     (.exit 0)))
                   (.seq (.block 1 (.seq (.reg [⟨(some 20), .alloc 38 [(.int .i32 0), (.int .i32 0), (.int .i32 0), (.int .i32 0)], none⟩])
                      (.seq (.seq (.reg [⟨(some 21), .mv (.const (.int .i64 0)), none⟩])
                        (.block 2 (.loop (.seq (.seq (.reg [⟨(some 163), .mv (.tmp 21), none⟩,
                               ⟨(some 164), .bin .lss (.tmp 163) (.const (.int .i64 4)), none⟩])
                            (.cond (.tmp 164)
                             (.skip)
                             (.exit 2)))
                           (.seq (.block 3 (.any [(true, 0, [], ⟨(some 167), .mv (.tmp 21), none⟩),
                                (true, 1, [], ⟨(some 168), .fa 5 (.tmp 4), none⟩),
                                (true, 2, [], ⟨(some 169), .ld1 (.tmp 168), none⟩),
                                (true, 3, [], ⟨(some 170), .mv (.tmp 19), none⟩),
                                (true, 4, [], ⟨(some 171), .mv (.tmp 21), none⟩),
                                (true, 5, [], ⟨(some 172), .is 4 (.tmp 169) (.tmp 170), none⟩),
                                (true, 6, [], ⟨(some 173), .ia 4 1 (.tmp 172) (.tmp 171), none⟩),
                                (true, 7, [], ⟨(some 174), .ld1 (.tmp 173), none⟩),
                                (true, 8, [], ⟨(some 175), .fa 5 (.tmp 5), none⟩),
                                (true, 9, [], ⟨(some 176), .ld1 (.tmp 175), none⟩),
                                (true, 10, [], ⟨(some 177), .mv (.tmp 19), none⟩),
                                (true, 11, [], ⟨(some 178), .mv (.tmp 21), none⟩),
                                (true, 12, [], ⟨(some 179), .is 4 (.tmp 176) (.tmp 177), none⟩),
                                (true, 13, [], ⟨(some 180), .ia 4 1 (.tmp 179) (.tmp 178), none⟩),
                                (true, 14, [], ⟨(some 181), .ld1 (.tmp 180), none⟩),
                                (true, 15, [], ⟨(some 182), .mv (.tmp 16), none⟩),
                                (true, 16, [], ⟨(some 183), .mv (.tmp 17), none⟩),
                                (true, 17, [], ⟨(some 184), .fa 3 (.tmp 4), none⟩),
                                (true, 18, [], ⟨(some 185), .ld1 (.tmp 184), none⟩),
                                (false, 19, [0, 1, 2, 3, 4, 5, 6, 7, 8, 9, 10, 11, 12, 13, 14, 15, 16, 17, 18], ⟨(some 186), .fa 3 (.tmp 5), none⟩),
                                (false, 20, [0, 1, 2, 3, 4, 5, 6, 7, 8, 9, 10, 11, 12, 13, 14, 15, 16, 17, 18], ⟨(some 187), .ld1 (.tmp 186), none⟩),
                                (false, 21, [0], ⟨(some 188), .call 17 [(.tmp 174), (.tmp 181), (.tmp 182), (.tmp 183), (.tmp 185), (.tmp 187)], none⟩),
                                (false, 22, [], ⟨(some 189), .ia 4 1 (.tmp 20) (.tmp 167), none⟩),
                                (false, 23, [], ⟨none, .st1 (.tmp 189) (.tmp 188), none⟩)]))
                            (.reg [⟨(some 165), .mv (.tmp 21), none⟩,
                               ⟨(some 166), .bin .add (.tmp 165) (.const (.int .i64 1)), none⟩,
                               ⟨(some 21), .mv (.tmp 166), none⟩]))))))
                       (.reg [⟨(some 190), .fa 9 (.tmp 18), none⟩,
                          ⟨(some 191), .ld1 (.tmp 190), none⟩,
                          ⟨(some 192), .ldn 4 (.tmp 20), none⟩,
                          ⟨(some 193), .bslice 38 1 [(.int .i32 0), (.int .i32 0), (.int .i32 0), (.int .i32 0)] [(0, 4, (.tmp 192))], none⟩,
                          ⟨(some 194), .app 38 4 16 [(.int .i32 0), (.int .i32 0), (.int .i32 0), (.int .i32 0)] (.tmp 191) (.tmp 193), none⟩,
                          ⟨(some 195), .fa 9 (.tmp 18), none⟩,
                          ⟨none, .st1 (.tmp 195) (.tmp 194), none⟩]))))
                    (.reg [⟨(some 161), .mv (.tmp 19), none⟩,
                       ⟨(some 162), .bin .add (.tmp 161) (.const (.int .i64 1)), none⟩,
                       ⟨(some 19), .mv (.tmp 162), none⟩]))))))
               (.seq (.reg [⟨(some 196), .ldn 10 (.tmp 18), none⟩,
                   ⟨none, .stn 10 (.tmp 8) (.tmp 196), none⟩,
                   ⟨(some 9), .mv (.const (.bool true)), none⟩])
                (.ret)))))))))))))))
theorem k29 : fnOk Try.prog 29 = some (M29, [.cn 10 8, .t 9], 197) := by kernel_rfl

/- paintboxref23 Line -/
def M13 : MC :=
  .seq (.reg [⟨(some 2), .box 25 (.tmp 0), none⟩,
     ⟨(some 3), .box 25 (.tmp 1), none⟩,
     ⟨(some 4), .mv (.const (.slice none 0 0)), none⟩])
  (.seq (.any [(true, 0, [], ⟨(some 12), .fa 0 (.tmp 3), none⟩),
      (true, 1, [], ⟨(some 13), .ld1 (.tmp 12), none⟩),
      (true, 2, [], ⟨(some 14), .fa 0 (.tmp 2), none⟩),
      (true, 3, [], ⟨(some 15), .ld1 (.tmp 14), none⟩),
      (true, 4, [], ⟨(some 16), .bin .sub (.tmp 13) (.tmp 15), none⟩),
      (true, 6, [], ⟨(some 18), .fa 1 (.tmp 3), none⟩),
      (true, 7, [], ⟨(some 19), .ld1 (.tmp 18), none⟩),
      (true, 8, [], ⟨(some 20), .fa 1 (.tmp 2), none⟩),
      (true, 9, [], ⟨(some 21), .ld1 (.tmp 20), none⟩),
      (true, 10, [], ⟨(some 22), .bin .sub (.tmp 19) (.tmp 21), none⟩),
      (false, 5, [6, 7, 8, 9, 10], ⟨(some 17), .call 28 [(.tmp 16)], none⟩),
      (false, 11, [], ⟨(some 23), .call 28 [(.tmp 22)], none⟩),
      (false, 12, [], ⟨(some 24), .bin .geq (.tmp 17) (.tmp 23), none⟩),
      (false, 13, [], ⟨(some 5), .mv (.tmp 24), none⟩)])
   (.seq (.reg [⟨(some 25), .mv (.tmp 5), none⟩,
       ⟨(some 26), .mv (.tmp 25), none⟩,
       ⟨(some 27), .fa 0 (.tmp 3), (some (26, true))⟩,
       ⟨(some 28), .ld1 (.tmp 27), (some (26, true))⟩,
       ⟨(some 29), .fa 0 (.tmp 2), (some (26, true))⟩,
       ⟨(some 30), .ld1 (.tmp 29), (some (26, true))⟩,
       ⟨(some 31), .bin .lss (.tmp 28) (.tmp 30), (some (26, true))⟩,
       ⟨(some 32), .pick (.tmp 26) (.tmp 31) (.const (.bool false)), none⟩,
       ⟨(some 33), .mv (.tmp 32), none⟩,
       ⟨(some 34), .mv (.tmp 5), (some (33, false))⟩,
       ⟨(some 35), .un .not (.tmp 34), (some (33, false))⟩,
       ⟨(some 36), .mv (.tmp 35), (some (33, false))⟩,
       ⟨(some 37), .fa 1 (.tmp 3), (some (36, true))⟩,
       ⟨(some 38), .ld1 (.tmp 37), (some (36, true))⟩,
       ⟨(some 39), .fa 1 (.tmp 2), (some (36, true))⟩,
       ⟨(some 40), .ld1 (.tmp 39), (some (36, true))⟩,
       ⟨(some 41), .bin .lss (.tmp 38) (.tmp 40), (some (36, true))⟩,
       ⟨(some 42), .pick (.tmp 36) (.tmp 41) (.const (.bool false)), (some (33, false))⟩,
       ⟨(some 43), .pick (.tmp 33) (.const (.bool true)) (.tmp 42), none⟩,
       ⟨(some 6), .mv (.tmp 43), none⟩])
    (.seq (.reg [⟨(some 7), .mv (.const (.slice none 0 0)), none⟩])
     (.seq (.seq (.reg [⟨(some 8), .mv (.const (.int .i64 0)), none⟩])
       (.block 0 (.loop (.seq (.seq (.reg [⟨(some 44), .mv (.tmp 8), none⟩,
              ⟨(some 45), .bin .lss (.tmp 44) (.const (.int .i64 64)), none⟩])
           (.cond (.tmp 45)
            (.skip)
            (.exit 0)))
          (.seq (.block 1 (.seq (.reg [⟨(some 48), .mv (.tmp 8), none⟩,
                ⟨(some 9), .mv (.tmp 48), none⟩])
             (.seq (.seq (.reg [⟨(some 49), .mv (.tmp 6), none⟩])
               (.cond (.tmp 49)
                (.reg [⟨(some 50), .mv (.tmp 8), none⟩,
                   ⟨(some 51), .bin .sub (.const (.int .i64 63)) (.tmp 50), none⟩,
                   ⟨(some 9), .mv (.tmp 51), none⟩])
                (.skip)))
              (.seq (.reg [⟨(some 53), .ldn 6 (.tmp 2), none⟩,
                  ⟨(some 54), .ldn 6 (.tmp 3), none⟩,
                  ⟨(some 55), .mv (.tmp 5), none⟩,
                  ⟨(some 56), .mv (.tmp 9), none⟩,
                  ⟨(some 57), .call 29 [(.tmp 53), (.tmp 54), (.tmp 55), (.tmp 56)], none⟩,
                  ⟨(some 52), .mv (.tmp 57), none⟩,
                  ⟨(some 58), .ext 0 (.tmp 52), none⟩,
                  ⟨(some 59), .ext 1 (.tmp 52), none⟩,
                  ⟨(some 10), .alloc 46 [(.int .i64 0), (.int .i64 0), (.int .i32 0), (.int .i32 0), (.bool false), (.int .i32 0), (.int .i32 0), (.int .i32 0), (.int .i32 0), (.slice none 0 0)], none⟩,
                  ⟨none, .stn 10 (.tmp 10) (.tmp 58), none⟩,
                  ⟨(some 11), .mv (.tmp 59), none⟩])
               (.seq (.reg [⟨(some 60), .mv (.tmp 11), none⟩])
                (.cond (.tmp 60)
                 (.reg [⟨(some 61), .mv (.tmp 7), none⟩,
                    ⟨(some 62), .ldn 10 (.tmp 10), none⟩,
                    ⟨(some 63), .bslice 46 1 [(.int .i64 0), (.int .i64 0), (.int .i32 0), (.int .i32 0), (.bool false), (.int .i32 0), (.int .i32 0), (.int .i32 0), (.int .i32 0), (.slice none 0 0)] [(0, 10, (.tmp 62))], none⟩,
                    ⟨(some 64), .app 46 10 72 [(.int .i64 0), (.int .i64 0), (.int .i32 0), (.int .i32 0), (.bool false), (.int .i32 0), (.int .i32 0), (.int .i32 0), (.int .i32 0), (.slice none 0 0)] (.tmp 61) (.tmp 63), none⟩,
                    ⟨(some 7), .mv (.tmp 64), none⟩])
                 (.skip)))))))
           (.reg [⟨(some 46), .mv (.tmp 8), none⟩,
              ⟨(some 47), .bin .add (.tmp 46) (.const (.int .i64 1)), none⟩,
              ⟨(some 8), .mv (.tmp 47), none⟩]))))))
      (.seq (.reg [⟨(some 65), .mv (.tmp 7), none⟩,
          ⟨(some 4), .mv (.tmp 65), none⟩])
       (.ret))))))
theorem k13 : fnOk Try.prog 13 = some (M13, [.t 4], 66) := by kernel_rfl

end Go.Proofs.Ytokjajfojjibcaa
