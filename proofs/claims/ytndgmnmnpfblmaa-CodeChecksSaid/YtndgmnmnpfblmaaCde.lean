/- Codes as values; whether an instruction may be at its place but for its registers, by the program (layer 16). -/
import Derived.Test.YtndgmnmnpfblmaaCdd
set_option linter.unusedSimpArgs false
set_option linter.unusedVariables false
set_option maxRecDepth 100000
set_option maxHeartbeats 4000000
namespace Go.Proofs.Ytndgmnmnpfblmaa
open Go.HL Go.RowKit Pb
variable {w0 : World} {H : Heap} {K : Value → Heap → Prop}

/-- A code. -/
structure Cd where
  st : Int
  adr : Option Addr
  cap : Nat
  is : List Ins
  rg : Int
  ab : Int
  un : Int
  va : Int
def Cd.v (c : Cd) : Value := .agg #[.int .i64 c.st, .slice c.adr c.is.length c.cap, .int .i64 c.rg, .int .i64 c.ab, .int .i64 c.un, .int .i64 c.va]
/-- Its instructions stand in memory. -/
structure CdAt (w0 : World) (H : Heap) (c : Cd) : Prop where
  at_ : SlAt w0 H c.adr (c.is.map Ins.row).flatten
  lm : c.is.length ≤ maxLen
  lc : c.is.length ≤ c.cap
theorem CdAt.grow {G : Heap} {c : Cd} (h : CdAt w0 H c) (g : Grow w0 H G) : CdAt w0 G c := ⟨h.at_.grow g, h.lm, h.lc⟩
theorem row_len (i : Ins) : i.row.length = 16 := rfl
theorem CdAt.row {c : Cd} (h : CdAt w0 H c) {k : Nat} {i : Ins} (hk : c.is[k]? = some i) : ∃ b o, c.adr = some ⟨b, o, none⟩ ∧ rdn w0 H b (o + k * 16) 16 = some i.row ∧ ∀ d, w0.heap.size ≤ d → H d = none → d ≠ b :=
  h.at_.row (fun r hr => by obtain ⟨j, -, rfl⟩ := List.mem_map.1 hr; exact row_len j) (by omega) (i := k) (by rw [List.getElem?_map, hk]; rfl)

/-- May an instruction be at its place, but for its registers? -/
def legalB (c : Cd) (k : Int) (i : Ins) : Bool :=
  if i.op = 1 ∨ i.op = 2 ∨ i.op = 9 then true
  else if i.op = 3 then
    (if i.fn = 1 then decide (c.st = 1) && below i.a c.ab else if i.fn = 2 then below i.a c.un else if i.fn = 3 then decide (c.st ≠ 1) && below i.a c.va else if i.fn = 4 ∨ i.fn = 5 ∨ i.fn = 6 then decide (c.st ≠ 1) && decide (i.a = 0) else false)
  else if i.op = 4 then
    (if i.fn = 1 ∨ i.fn = 2 then decide (c.st = 1) && decide (i.a = 0) else if i.fn = 3 then decide (c.st = 1) && below i.a c.va else if i.fn = 4 then decide (c.st ≠ 1) && decide (i.a = 0) else false)
  else if i.op = 5 then decide (0 < args i.fn i.bs) && sized i.n
  else if i.op = 6 ∨ i.op = 7 then spreadB (decide (i.op = 7)) i
  else if i.op = 8 then sized i.n && isBase i.bs && isBase i.fn
  else if i.op = 10 ∨ i.op = 11 then decide (k < i.a) && decide (i.a ≤ c.is.length)
  else if i.op = 12 then decide (c.st ≠ 1)
  else false
/- code legal -/
def M31 : MC :=
  .seq (.reg [⟨(some 2), .box 34 (.tmp 0), none⟩,
     ⟨(some 4), .mv (.const (.bool false)), none⟩])
  (.seq (.reg [⟨(some 7), .fa 1 (.tmp 2), none⟩,
      ⟨(some 8), .ld1 (.tmp 7), none⟩,
      ⟨(some 9), .mv (.tmp 1), none⟩,
      ⟨(some 10), .is 16 (.tmp 8) (.tmp 9), none⟩,
      ⟨(some 11), .ldn 16 (.tmp 10), none⟩,
      ⟨(some 5), .alloc 30 [(.int .i64 0), (.int .i64 0), (.int .i64 0), (.int .i64 0), (.int .i64 0), (.int .i64 0), (.int .i64 0), (.int .i64 0), (.int .i32 0), (.int .i32 0), (.int .i32 0), (.int .i32 0), (.int .i64 0), (.int .i64 0), (.int .i64 0), (.int .i64 0)], none⟩,
      ⟨none, .stn 16 (.tmp 5) (.tmp 11), none⟩])
   (.seq (.reg [⟨(some 12), .fa 0 (.tmp 2), none⟩,
       ⟨(some 13), .ld1 (.tmp 12), none⟩,
       ⟨(some 14), .bin .eql (.tmp 13) (.const (.int .i64 1)), none⟩,
       ⟨(some 6), .mv (.tmp 14), none⟩])
    (.seq (.seq (.reg [⟨(some 15), .fa 0 (.tmp 5), none⟩,
         ⟨(some 16), .ld1 (.tmp 15), none⟩])
      (.block 0 (.seq (.seq (.reg [⟨(some 18), .bin .eql (.tmp 16) (.const (.int .i64 1)), none⟩,
            ⟨(some 17), .mv (.tmp 18), none⟩])
         (.cond (.tmp 17)
          (.skip)
          (.seq (.reg [⟨(some 19), .bin .eql (.tmp 16) (.const (.int .i64 2)), none⟩,
              ⟨(some 17), .mv (.tmp 19), none⟩])
           (.cond (.tmp 17)
            (.skip)
            (.reg [⟨(some 20), .bin .eql (.tmp 16) (.const (.int .i64 9)), none⟩,
               ⟨(some 17), .mv (.tmp 20), none⟩])))))
        (.cond (.tmp 17)
         (.seq (.reg [⟨(some 4), .mv (.const (.bool true)), none⟩])
          (.ret))
         (.seq (.reg [⟨(some 22), .bin .eql (.tmp 16) (.const (.int .i64 3)), none⟩,
             ⟨(some 21), .mv (.tmp 22), none⟩])
          (.cond (.tmp 21)
           (.seq (.reg [⟨(some 23), .fa 1 (.tmp 5), none⟩,
               ⟨(some 24), .ld1 (.tmp 23), none⟩])
            (.block 1 (.seq (.reg [⟨(some 26), .bin .eql (.tmp 24) (.const (.int .i64 1)), none⟩,
                 ⟨(some 25), .mv (.tmp 26), none⟩])
              (.cond (.tmp 25)
               (.seq (.reg [⟨(some 27), .mv (.tmp 6), none⟩,
                   ⟨(some 28), .mv (.tmp 27), none⟩,
                   ⟨(some 29), .fa 5 (.tmp 5), (some (28, true))⟩,
                   ⟨(some 30), .ld1 (.tmp 29), (some (28, true))⟩,
                   ⟨(some 31), .fa 3 (.tmp 2), (some (28, true))⟩,
                   ⟨(some 32), .ld1 (.tmp 31), (some (28, true))⟩,
                   ⟨(some 33), .call 30 [(.tmp 30), (.tmp 32)], (some (28, true))⟩,
                   ⟨(some 34), .pick (.tmp 28) (.tmp 33) (.const (.bool false)), none⟩,
                   ⟨(some 4), .mv (.tmp 34), none⟩])
                (.ret))
               (.seq (.reg [⟨(some 36), .bin .eql (.tmp 24) (.const (.int .i64 2)), none⟩,
                   ⟨(some 35), .mv (.tmp 36), none⟩])
                (.cond (.tmp 35)
                 (.seq (.reg [⟨(some 37), .fa 5 (.tmp 5), none⟩,
                     ⟨(some 38), .ld1 (.tmp 37), none⟩,
                     ⟨(some 39), .fa 4 (.tmp 2), none⟩,
                     ⟨(some 40), .ld1 (.tmp 39), none⟩,
                     ⟨(some 41), .call 30 [(.tmp 38), (.tmp 40)], none⟩,
                     ⟨(some 4), .mv (.tmp 41), none⟩])
                  (.ret))
                 (.seq (.reg [⟨(some 43), .bin .eql (.tmp 24) (.const (.int .i64 3)), none⟩,
                     ⟨(some 42), .mv (.tmp 43), none⟩])
                  (.cond (.tmp 42)
                   (.seq (.reg [⟨(some 44), .mv (.tmp 6), none⟩,
                       ⟨(some 45), .un .not (.tmp 44), none⟩,
                       ⟨(some 46), .mv (.tmp 45), none⟩,
                       ⟨(some 47), .fa 5 (.tmp 5), (some (46, true))⟩,
                       ⟨(some 48), .ld1 (.tmp 47), (some (46, true))⟩,
                       ⟨(some 49), .fa 5 (.tmp 2), (some (46, true))⟩,
                       ⟨(some 50), .ld1 (.tmp 49), (some (46, true))⟩,
                       ⟨(some 51), .call 30 [(.tmp 48), (.tmp 50)], (some (46, true))⟩,
                       ⟨(some 52), .pick (.tmp 46) (.tmp 51) (.const (.bool false)), none⟩,
                       ⟨(some 4), .mv (.tmp 52), none⟩])
                    (.ret))
                   (.seq (.seq (.reg [⟨(some 54), .bin .eql (.tmp 24) (.const (.int .i64 4)), none⟩,
                        ⟨(some 53), .mv (.tmp 54), none⟩])
                     (.cond (.tmp 53)
                      (.skip)
                      (.seq (.reg [⟨(some 55), .bin .eql (.tmp 24) (.const (.int .i64 5)), none⟩,
                          ⟨(some 53), .mv (.tmp 55), none⟩])
                       (.cond (.tmp 53)
                        (.skip)
                        (.reg [⟨(some 56), .bin .eql (.tmp 24) (.const (.int .i64 6)), none⟩,
                           ⟨(some 53), .mv (.tmp 56), none⟩])))))
                    (.cond (.tmp 53)
                     (.seq (.reg [⟨(some 57), .mv (.tmp 6), none⟩,
                         ⟨(some 58), .un .not (.tmp 57), none⟩,
                         ⟨(some 59), .mv (.tmp 58), none⟩,
                         ⟨(some 60), .fa 5 (.tmp 5), (some (59, true))⟩,
                         ⟨(some 61), .ld1 (.tmp 60), (some (59, true))⟩,
                         ⟨(some 62), .bin .eql (.tmp 61) (.const (.int .i64 0)), (some (59, true))⟩,
                         ⟨(some 63), .pick (.tmp 59) (.tmp 62) (.const (.bool false)), none⟩,
                         ⟨(some 4), .mv (.tmp 63), none⟩])
                      (.ret))
                     (.skip)))))))))))
           (.seq (.reg [⟨(some 65), .bin .eql (.tmp 16) (.const (.int .i64 4)), none⟩,
               ⟨(some 64), .mv (.tmp 65), none⟩])
            (.cond (.tmp 64)
             (.seq (.reg [⟨(some 66), .fa 1 (.tmp 5), none⟩,
                 ⟨(some 67), .ld1 (.tmp 66), none⟩])
              (.block 2 (.seq (.seq (.reg [⟨(some 69), .bin .eql (.tmp 67) (.const (.int .i64 1)), none⟩,
                    ⟨(some 68), .mv (.tmp 69), none⟩])
                 (.cond (.tmp 68)
                  (.skip)
                  (.reg [⟨(some 70), .bin .eql (.tmp 67) (.const (.int .i64 2)), none⟩,
                     ⟨(some 68), .mv (.tmp 70), none⟩])))
                (.cond (.tmp 68)
                 (.seq (.reg [⟨(some 71), .mv (.tmp 6), none⟩,
                     ⟨(some 72), .mv (.tmp 71), none⟩,
                     ⟨(some 73), .fa 5 (.tmp 5), (some (72, true))⟩,
                     ⟨(some 74), .ld1 (.tmp 73), (some (72, true))⟩,
                     ⟨(some 75), .bin .eql (.tmp 74) (.const (.int .i64 0)), (some (72, true))⟩,
                     ⟨(some 76), .pick (.tmp 72) (.tmp 75) (.const (.bool false)), none⟩,
                     ⟨(some 4), .mv (.tmp 76), none⟩])
                  (.ret))
                 (.seq (.reg [⟨(some 78), .bin .eql (.tmp 67) (.const (.int .i64 3)), none⟩,
                     ⟨(some 77), .mv (.tmp 78), none⟩])
                  (.cond (.tmp 77)
                   (.seq (.reg [⟨(some 79), .mv (.tmp 6), none⟩,
                       ⟨(some 80), .mv (.tmp 79), none⟩,
                       ⟨(some 81), .fa 5 (.tmp 5), (some (80, true))⟩,
                       ⟨(some 82), .ld1 (.tmp 81), (some (80, true))⟩,
                       ⟨(some 83), .fa 5 (.tmp 2), (some (80, true))⟩,
                       ⟨(some 84), .ld1 (.tmp 83), (some (80, true))⟩,
                       ⟨(some 85), .call 30 [(.tmp 82), (.tmp 84)], (some (80, true))⟩,
                       ⟨(some 86), .pick (.tmp 80) (.tmp 85) (.const (.bool false)), none⟩,
                       ⟨(some 4), .mv (.tmp 86), none⟩])
                    (.ret))
                   (.seq (.reg [⟨(some 88), .bin .eql (.tmp 67) (.const (.int .i64 4)), none⟩,
                       ⟨(some 87), .mv (.tmp 88), none⟩])
                    (.cond (.tmp 87)
                     (.seq (.reg [⟨(some 89), .mv (.tmp 6), none⟩,
                         ⟨(some 90), .un .not (.tmp 89), none⟩,
                         ⟨(some 91), .mv (.tmp 90), none⟩,
                         ⟨(some 92), .fa 5 (.tmp 5), (some (91, true))⟩,
                         ⟨(some 93), .ld1 (.tmp 92), (some (91, true))⟩,
                         ⟨(some 94), .bin .eql (.tmp 93) (.const (.int .i64 0)), (some (91, true))⟩,
                         ⟨(some 95), .pick (.tmp 91) (.tmp 94) (.const (.bool false)), none⟩,
                         ⟨(some 4), .mv (.tmp 95), none⟩])
                      (.ret))
                     (.skip)))))))))
             (.seq (.reg [⟨(some 97), .bin .eql (.tmp 16) (.const (.int .i64 5)), none⟩,
                 ⟨(some 96), .mv (.tmp 97), none⟩])
              (.cond (.tmp 96)
               (.seq (.reg [⟨(some 98), .fa 1 (.tmp 5), none⟩,
                   ⟨(some 99), .ld1 (.tmp 98), none⟩,
                   ⟨(some 100), .fa 2 (.tmp 5), none⟩,
                   ⟨(some 101), .ld1 (.tmp 100), none⟩,
                   ⟨(some 102), .call 11 [(.tmp 99), (.tmp 101)], none⟩,
                   ⟨(some 103), .bin .gtr (.tmp 102) (.const (.int .i64 0)), none⟩,
                   ⟨(some 104), .mv (.tmp 103), none⟩,
                   ⟨(some 105), .fa 3 (.tmp 5), (some (104, true))⟩,
                   ⟨(some 106), .ld1 (.tmp 105), (some (104, true))⟩,
                   ⟨(some 107), .call 47 [(.tmp 106)], (some (104, true))⟩,
                   ⟨(some 108), .pick (.tmp 104) (.tmp 107) (.const (.bool false)), none⟩,
                   ⟨(some 4), .mv (.tmp 108), none⟩])
                (.ret))
               (.seq (.seq (.reg [⟨(some 110), .bin .eql (.tmp 16) (.const (.int .i64 6)), none⟩,
                    ⟨(some 109), .mv (.tmp 110), none⟩])
                 (.cond (.tmp 109)
                  (.skip)
                  (.reg [⟨(some 111), .bin .eql (.tmp 16) (.const (.int .i64 7)), none⟩,
                     ⟨(some 109), .mv (.tmp 111), none⟩])))
                (.cond (.tmp 109)
                 (.seq (.reg [⟨(some 112), .ldn 16 (.tmp 5), none⟩,
                     ⟨(some 113), .call 48 [(.tmp 112)], none⟩,
                     ⟨(some 4), .mv (.tmp 113), none⟩])
                  (.ret))
                 (.seq (.reg [⟨(some 115), .bin .eql (.tmp 16) (.const (.int .i64 8)), none⟩,
                     ⟨(some 114), .mv (.tmp 115), none⟩])
                  (.cond (.tmp 114)
                   (.seq (.reg [⟨(some 116), .fa 3 (.tmp 5), none⟩,
                       ⟨(some 117), .ld1 (.tmp 116), none⟩,
                       ⟨(some 118), .call 47 [(.tmp 117)], none⟩,
                       ⟨(some 119), .mv (.tmp 118), none⟩,
                       ⟨(some 120), .fa 2 (.tmp 5), (some (119, true))⟩,
                       ⟨(some 121), .ld1 (.tmp 120), (some (119, true))⟩,
                       ⟨(some 122), .call 49 [(.tmp 121)], (some (119, true))⟩,
                       ⟨(some 123), .pick (.tmp 119) (.tmp 122) (.const (.bool false)), none⟩,
                       ⟨(some 124), .mv (.tmp 123), none⟩,
                       ⟨(some 125), .fa 1 (.tmp 5), (some (124, true))⟩,
                       ⟨(some 126), .ld1 (.tmp 125), (some (124, true))⟩,
                       ⟨(some 127), .call 49 [(.tmp 126)], (some (124, true))⟩,
                       ⟨(some 128), .pick (.tmp 124) (.tmp 127) (.const (.bool false)), none⟩,
                       ⟨(some 4), .mv (.tmp 128), none⟩])
                    (.ret))
                   (.seq (.seq (.reg [⟨(some 130), .bin .eql (.tmp 16) (.const (.int .i64 10)), none⟩,
                        ⟨(some 129), .mv (.tmp 130), none⟩])
                     (.cond (.tmp 129)
                      (.skip)
                      (.reg [⟨(some 131), .bin .eql (.tmp 16) (.const (.int .i64 11)), none⟩,
                         ⟨(some 129), .mv (.tmp 131), none⟩])))
                    (.cond (.tmp 129)
                     (.seq (.reg [⟨(some 132), .fa 5 (.tmp 5), none⟩,
                         ⟨(some 133), .ld1 (.tmp 132), none⟩,
                         ⟨(some 134), .mv (.tmp 1), none⟩,
                         ⟨(some 135), .bin .gtr (.tmp 133) (.tmp 134), none⟩,
                         ⟨(some 136), .mv (.tmp 135), none⟩,
                         ⟨(some 137), .fa 5 (.tmp 5), (some (136, true))⟩,
                         ⟨(some 138), .ld1 (.tmp 137), (some (136, true))⟩,
                         ⟨(some 139), .fa 1 (.tmp 2), (some (136, true))⟩,
                         ⟨(some 140), .ld1 (.tmp 139), (some (136, true))⟩,
                         ⟨(some 141), .len (.tmp 140), (some (136, true))⟩,
                         ⟨(some 142), .bin .leq (.tmp 138) (.tmp 141), (some (136, true))⟩,
                         ⟨(some 143), .pick (.tmp 136) (.tmp 142) (.const (.bool false)), none⟩,
                         ⟨(some 4), .mv (.tmp 143), none⟩])
                      (.ret))
                     (.seq (.reg [⟨(some 145), .bin .eql (.tmp 16) (.const (.int .i64 12)), none⟩,
                         ⟨(some 144), .mv (.tmp 145), none⟩])
                      (.cond (.tmp 144)
                       (.seq (.reg [⟨(some 146), .mv (.tmp 6), none⟩,
                           ⟨(some 147), .un .not (.tmp 146), none⟩,
                           ⟨(some 4), .mv (.tmp 147), none⟩])
                        (.ret))
                       (.skip)))))))))))))))))))
     (.seq (.reg [⟨(some 4), .mv (.const (.bool false)), none⟩])
      (.ret)))))
theorem k31 : fnOk Try.prog 31 = some (M31, [.t 4], 148) := by kernel_rfl

/-- The rest of a walk through `legal`. -/
theorem legal_a {st : Int} {b o cap : Nat} {is : List Ins} {rg ab un va op fn bs n dst a bb cc m0 m1 m2 m3 p0 p1 p2 p3 : Int} {k len : Nat}
    (hr : rdn w0 H b (o + k * 16) 16 = some (Ins.row ⟨op, fn, bs, n, dst, a, bb, cc, m0, m1, m2, m3, p0, p1, p2, p3⟩)) (hf : ∀ d, w0.heap.size ≤ d → H d = none → d ≠ b)
    (el : is.length = len) (t0 : (k : Int) < len)
    (h : ∀ v, legalB ⟨st, some ⟨b, o, none⟩, cap, is, rg, ab, un, va⟩ k ⟨op, fn, bs, n, dst, a, bb, cc, m0, m1, m2, m3, p0, p1, p2, p3⟩ = v → HL.Fin K (.bool v) H) :
    HCalls Try.prog w0 31 [.agg #[.int .i64 st, .slice (some ⟨b, o, none⟩) len cap, .int .i64 rg, .int .i64 ab, .int .i64 un, .int .i64 va], .int .i64 k] H K := by
  have hs := fun (G : Heap) (K : Value → Heap → Prop) => c_spread (w0 := w0) (H := G) (K := K) ⟨op, fn, bs, n, dst, a, bb, cc, m0, m1, m2, m3, p0, p1, p2, p3⟩
  obtain ⟨sp, es⟩ : ∃ s, spreadB (decide (op = 7)) ⟨op, fn, bs, n, dst, a, bb, cc, m0, m1, m2, m3, p0, p1, p2, p3⟩ = s := ⟨_, rfl⟩
  unfold legalB at h
  simp only [el, es] at h
  simp only [es] at hs
  unfold Ins.v Ins.row at hs
  unfold Ins.row at hr
  clear el es
  replace h : Keep _ := h
  replace hs : Keep _ := hs
  by_cases q6 : op = 6
  · subst q6
    refine HL.hc k31 999 ?_; unfold M31
    (all_goals (try simp only [Sh,Si,Sl,Bu,Bb,Bd,Bc,Bw,Bn,Int.reduceAdd,Int.reduceSub,Int.reduceMul,Int.reduceTDiv,Int.reduceTMod,Int.reduceMod,Int.reduceDiv,Nat.reduceLT,Nat.reduceEqDiff,decide_true,decide_false,Sa,Sb,Sc,Sd,Se,Sf,Sg,true_and,and_true,and_self,eq_self,b_i64,b_i32,b_u64,b_u32,b_u8,Int.reduceLE,Int.reduceLT,Int.reduceToNat,Int.reduceNeg,Int.reduceEq,Nat.reduceLeDiff,Nat.reducePow,Int.reducePow,Nat.min_def,reduceIte,Nat.reduceSub,Nat.reduceAdd,Nat.reduceMul,KP_same,KP_f,condS_t,condS_f,pick_t,pick_f,gS_tt,gS_ff,gS_tf,gS_ft,gS_u,gP_tt,gP_ff,gP_tf,gP_ft,gP_u,ptrV_eq,slcV_eq,mapV_eq,cells_agg,cells_int,cells_bool,cells_ptr,cells_slice,oc_int,oc_bool,oc_slice,oc_ptr,rd1_set,rd1_ne,rdn_set,rdn_ne,Heap.set_same,set_ne,Heap.set_set,set_up,set_up2,set_up3,putAt,ceq,List.map_cons,List.map_nil,List.length_cons,List.length_nil,List.length_set,List.cons_append,List.nil_append,List.append_nil,List.replicate,List.size_toArray,List.all_cons,List.all_nil,Bool.and_self,Bool.and_true,List.drop_zero,List.drop_succ_cons,List.take_succ_cons,List.take_zero,List.set_cons_zero,List.set_cons_succ,List.getElem?_cons_zero,List.getElem?_cons_succ,Option.map_some,Option.map_none,ne_eq,not_false_eq_true,not_true_eq_false,gt_iff_lt,ge_iff_le,Int.one_mul,Nat.zero_add,Nat.zero_mul,Bool.not_true,Bool.not_false,Bool.false_eq_true,Bool.and_false,Bool.false_and,Bool.true_and, *])); repeat' ((first | (with_reducible refine fun _ : True => ?_) | refine c_below _ _ ?_ | refine hs _ _ ?_ | (with_reducible refine any_h ?_) | ((first | refine AllocQ_i ?_ | refine AllocO_i ?_); intro bk hb0 hbk; try simp only [set_none'] at hbk) | ((first | refine condS_i ?_ ?_ | refine pick_i ?_ ?_ | refine gS_it ?_ ?_ | refine gS_if ?_ ?_ | refine gP_it ?_ ?_ | refine gP_if ?_ ?_) <;> (intro hc; try simp only [Int.reduceLE,Int.reduceLT,Int.reduceEq,and_self,not_true_eq_false,not_false_eq_true,and_true,true_and,false_and,and_false,true_or,or_true,false_or,or_false,decide_eq_true_eq,decide_eq_false_iff_not,beq_iff_eq,beq_eq_false_iff_ne,bne_iff_ne,ne_eq,gt_iff_lt,ge_iff_le,Bool.not_eq_true,Bool.not_eq_false,Bool.not_eq_true',Bool.not_eq_false',Bool.not_eq_eq_eq_not,Bool.not_true,Bool.not_false] at hc; try (exfalso; omega))) | (refine KP_i (by (repeat' (first | exact Heap.Le.refl _ | (refine Le_fresh (by first | exact (by simp only [*]) | exact (by simp [set_none', *])) ?_) | (refine Heap.Le.trans ?_ (Grow.le (by assumption)))))) ?_) | (with_reducible refine And.intro ?_ ?_)) <;> (try simp only [Sh,Si,Sl,Bu,Bb,Bd,Bc,Bw,Bn,Int.reduceAdd,Int.reduceSub,Int.reduceMul,Int.reduceTDiv,Int.reduceTMod,Int.reduceMod,Int.reduceDiv,Nat.reduceLT,Nat.reduceEqDiff,decide_true,decide_false,Sa,Sb,Sc,Sd,Se,Sf,Sg,true_and,and_true,and_self,eq_self,b_i64,b_i32,b_u64,b_u32,b_u8,Int.reduceLE,Int.reduceLT,Int.reduceToNat,Int.reduceNeg,Int.reduceEq,Nat.reduceLeDiff,Nat.reducePow,Int.reducePow,Nat.min_def,reduceIte,Nat.reduceSub,Nat.reduceAdd,Nat.reduceMul,KP_same,KP_f,condS_t,condS_f,pick_t,pick_f,gS_tt,gS_ff,gS_tf,gS_ft,gS_u,gP_tt,gP_ff,gP_tf,gP_ft,gP_u,ptrV_eq,slcV_eq,mapV_eq,cells_agg,cells_int,cells_bool,cells_ptr,cells_slice,oc_int,oc_bool,oc_slice,oc_ptr,rd1_set,rd1_ne,rdn_set,rdn_ne,Heap.set_same,set_ne,Heap.set_set,set_up,set_up2,set_up3,putAt,ceq,List.map_cons,List.map_nil,List.length_cons,List.length_nil,List.length_set,List.cons_append,List.nil_append,List.append_nil,List.replicate,List.size_toArray,List.all_cons,List.all_nil,Bool.and_self,Bool.and_true,List.drop_zero,List.drop_succ_cons,List.take_succ_cons,List.take_zero,List.set_cons_zero,List.set_cons_succ,List.getElem?_cons_zero,List.getElem?_cons_succ,Option.map_some,Option.map_none,ne_eq,not_false_eq_true,not_true_eq_false,gt_iff_lt,ge_iff_le,Int.one_mul,Nat.zero_add,Nat.zero_mul,Bool.not_true,Bool.not_false,Bool.false_eq_true,Bool.and_false,Bool.false_and,Bool.true_and, *]))
    all_goals exact Fin_le (h _ (by simp)) (by (repeat' (first | exact Heap.Le.refl _ | (with_reducible refine Le_set2 ?_) | (refine Le_known (by first | (simp only [Heap.set_same, set_ne, ne_eq, not_false_eq_true, *] <;> rfl) | fail) ?_) | (refine Le_fresh (by first | (simp only [*] <;> done) | (simp [set_none', Heap.set_same, set_ne, noneH, *] <;> done) | fail) ?_) | (refine Heap.Le.trans ?_ (Grow.le (by assumption))) | exact Le_none | (refine Le_put ?_ (by first | (simp only [Heap.set_same, set_ne, ne_eq, not_false_eq_true, *] <;> rfl) | fail)) | fail)))
  · by_cases q7 : op = 7
    · subst q7
      refine HL.hc k31 999 ?_; unfold M31
      (all_goals (try simp only [Sh,Si,Sl,Bu,Bb,Bd,Bc,Bw,Bn,Int.reduceAdd,Int.reduceSub,Int.reduceMul,Int.reduceTDiv,Int.reduceTMod,Int.reduceMod,Int.reduceDiv,Nat.reduceLT,Nat.reduceEqDiff,decide_true,decide_false,Sa,Sb,Sc,Sd,Se,Sf,Sg,true_and,and_true,and_self,eq_self,b_i64,b_i32,b_u64,b_u32,b_u8,Int.reduceLE,Int.reduceLT,Int.reduceToNat,Int.reduceNeg,Int.reduceEq,Nat.reduceLeDiff,Nat.reducePow,Int.reducePow,Nat.min_def,reduceIte,Nat.reduceSub,Nat.reduceAdd,Nat.reduceMul,KP_same,KP_f,condS_t,condS_f,pick_t,pick_f,gS_tt,gS_ff,gS_tf,gS_ft,gS_u,gP_tt,gP_ff,gP_tf,gP_ft,gP_u,ptrV_eq,slcV_eq,mapV_eq,cells_agg,cells_int,cells_bool,cells_ptr,cells_slice,oc_int,oc_bool,oc_slice,oc_ptr,rd1_set,rd1_ne,rdn_set,rdn_ne,Heap.set_same,set_ne,Heap.set_set,set_up,set_up2,set_up3,putAt,ceq,List.map_cons,List.map_nil,List.length_cons,List.length_nil,List.length_set,List.cons_append,List.nil_append,List.append_nil,List.replicate,List.size_toArray,List.all_cons,List.all_nil,Bool.and_self,Bool.and_true,List.drop_zero,List.drop_succ_cons,List.take_succ_cons,List.take_zero,List.set_cons_zero,List.set_cons_succ,List.getElem?_cons_zero,List.getElem?_cons_succ,Option.map_some,Option.map_none,ne_eq,not_false_eq_true,not_true_eq_false,gt_iff_lt,ge_iff_le,Int.one_mul,Nat.zero_add,Nat.zero_mul,Bool.not_true,Bool.not_false,Bool.false_eq_true,Bool.and_false,Bool.false_and,Bool.true_and, *])); repeat' ((first | (with_reducible refine fun _ : True => ?_) | refine c_below _ _ ?_ | refine hs _ _ ?_ | (with_reducible refine any_h ?_) | ((first | refine AllocQ_i ?_ | refine AllocO_i ?_); intro bk hb0 hbk; try simp only [set_none'] at hbk) | ((first | refine condS_i ?_ ?_ | refine pick_i ?_ ?_ | refine gS_it ?_ ?_ | refine gS_if ?_ ?_ | refine gP_it ?_ ?_ | refine gP_if ?_ ?_) <;> (intro hc; try simp only [Int.reduceLE,Int.reduceLT,Int.reduceEq,and_self,not_true_eq_false,not_false_eq_true,and_true,true_and,false_and,and_false,true_or,or_true,false_or,or_false,decide_eq_true_eq,decide_eq_false_iff_not,beq_iff_eq,beq_eq_false_iff_ne,bne_iff_ne,ne_eq,gt_iff_lt,ge_iff_le,Bool.not_eq_true,Bool.not_eq_false,Bool.not_eq_true',Bool.not_eq_false',Bool.not_eq_eq_eq_not,Bool.not_true,Bool.not_false] at hc; try (exfalso; omega))) | (refine KP_i (by (repeat' (first | exact Heap.Le.refl _ | (refine Le_fresh (by first | exact (by simp only [*]) | exact (by simp [set_none', *])) ?_) | (refine Heap.Le.trans ?_ (Grow.le (by assumption)))))) ?_) | (with_reducible refine And.intro ?_ ?_)) <;> (try simp only [Sh,Si,Sl,Bu,Bb,Bd,Bc,Bw,Bn,Int.reduceAdd,Int.reduceSub,Int.reduceMul,Int.reduceTDiv,Int.reduceTMod,Int.reduceMod,Int.reduceDiv,Nat.reduceLT,Nat.reduceEqDiff,decide_true,decide_false,Sa,Sb,Sc,Sd,Se,Sf,Sg,true_and,and_true,and_self,eq_self,b_i64,b_i32,b_u64,b_u32,b_u8,Int.reduceLE,Int.reduceLT,Int.reduceToNat,Int.reduceNeg,Int.reduceEq,Nat.reduceLeDiff,Nat.reducePow,Int.reducePow,Nat.min_def,reduceIte,Nat.reduceSub,Nat.reduceAdd,Nat.reduceMul,KP_same,KP_f,condS_t,condS_f,pick_t,pick_f,gS_tt,gS_ff,gS_tf,gS_ft,gS_u,gP_tt,gP_ff,gP_tf,gP_ft,gP_u,ptrV_eq,slcV_eq,mapV_eq,cells_agg,cells_int,cells_bool,cells_ptr,cells_slice,oc_int,oc_bool,oc_slice,oc_ptr,rd1_set,rd1_ne,rdn_set,rdn_ne,Heap.set_same,set_ne,Heap.set_set,set_up,set_up2,set_up3,putAt,ceq,List.map_cons,List.map_nil,List.length_cons,List.length_nil,List.length_set,List.cons_append,List.nil_append,List.append_nil,List.replicate,List.size_toArray,List.all_cons,List.all_nil,Bool.and_self,Bool.and_true,List.drop_zero,List.drop_succ_cons,List.take_succ_cons,List.take_zero,List.set_cons_zero,List.set_cons_succ,List.getElem?_cons_zero,List.getElem?_cons_succ,Option.map_some,Option.map_none,ne_eq,not_false_eq_true,not_true_eq_false,gt_iff_lt,ge_iff_le,Int.one_mul,Nat.zero_add,Nat.zero_mul,Bool.not_true,Bool.not_false,Bool.false_eq_true,Bool.and_false,Bool.false_and,Bool.true_and, *]))
      all_goals exact Fin_le (h _ (by simp)) (by (repeat' (first | exact Heap.Le.refl _ | (with_reducible refine Le_set2 ?_) | (refine Le_known (by first | (simp only [Heap.set_same, set_ne, ne_eq, not_false_eq_true, *] <;> rfl) | fail) ?_) | (refine Le_fresh (by first | (simp only [*] <;> done) | (simp [set_none', Heap.set_same, set_ne, noneH, *] <;> done) | fail) ?_) | (refine Heap.Le.trans ?_ (Grow.le (by assumption))) | exact Le_none | (refine Le_put ?_ (by first | (simp only [Heap.set_same, set_ne, ne_eq, not_false_eq_true, *] <;> rfl) | fail)) | fail)))
    · clear hs
      refine HL.hc k31 999 ?_; unfold M31
      (all_goals (try simp only [Sh,Si,Sl,Bu,Bb,Bd,Bc,Bw,Bn,Int.reduceAdd,Int.reduceSub,Int.reduceMul,Int.reduceTDiv,Int.reduceTMod,Int.reduceMod,Int.reduceDiv,Nat.reduceLT,Nat.reduceEqDiff,decide_true,decide_false,Sa,Sb,Sc,Sd,Se,Sf,Sg,true_and,and_true,and_self,eq_self,b_i64,b_i32,b_u64,b_u32,b_u8,Int.reduceLE,Int.reduceLT,Int.reduceToNat,Int.reduceNeg,Int.reduceEq,Nat.reduceLeDiff,Nat.reducePow,Int.reducePow,Nat.min_def,reduceIte,Nat.reduceSub,Nat.reduceAdd,Nat.reduceMul,KP_same,KP_f,condS_t,condS_f,pick_t,pick_f,gS_tt,gS_ff,gS_tf,gS_ft,gS_u,gP_tt,gP_ff,gP_tf,gP_ft,gP_u,ptrV_eq,slcV_eq,mapV_eq,cells_agg,cells_int,cells_bool,cells_ptr,cells_slice,oc_int,oc_bool,oc_slice,oc_ptr,rd1_set,rd1_ne,rdn_set,rdn_ne,Heap.set_same,set_ne,Heap.set_set,set_up,set_up2,set_up3,putAt,ceq,List.map_cons,List.map_nil,List.length_cons,List.length_nil,List.length_set,List.cons_append,List.nil_append,List.append_nil,List.replicate,List.size_toArray,List.all_cons,List.all_nil,Bool.and_self,Bool.and_true,List.drop_zero,List.drop_succ_cons,List.take_succ_cons,List.take_zero,List.set_cons_zero,List.set_cons_succ,List.getElem?_cons_zero,List.getElem?_cons_succ,Option.map_some,Option.map_none,ne_eq,not_false_eq_true,not_true_eq_false,gt_iff_lt,ge_iff_le,Int.one_mul,Nat.zero_add,Nat.zero_mul,Bool.not_true,Bool.not_false,Bool.false_eq_true,Bool.and_false,Bool.false_and,Bool.true_and, *])); repeat' ((first | (with_reducible refine fun _ : True => ?_) | refine c_below _ _ ?_ | refine c_Args _ _ ?_ | refine c_sized _ ?_ | refine c_base _ ?_ | (with_reducible refine any_h ?_) | ((first | refine AllocQ_i ?_ | refine AllocO_i ?_); intro bk hb0 hbk; try simp only [set_none'] at hbk) | ((first | refine condS_i ?_ ?_ | refine pick_i ?_ ?_ | refine gS_it ?_ ?_ | refine gS_if ?_ ?_ | refine gP_it ?_ ?_ | refine gP_if ?_ ?_) <;> (intro hc; try simp only [Int.reduceLE,Int.reduceLT,Int.reduceEq,and_self,not_true_eq_false,not_false_eq_true,and_true,true_and,false_and,and_false,true_or,or_true,false_or,or_false,decide_eq_true_eq,decide_eq_false_iff_not,beq_iff_eq,beq_eq_false_iff_ne,bne_iff_ne,ne_eq,gt_iff_lt,ge_iff_le,Bool.not_eq_true,Bool.not_eq_false,Bool.not_eq_true',Bool.not_eq_false',Bool.not_eq_eq_eq_not,Bool.not_true,Bool.not_false] at hc; try (exfalso; omega))) | (refine KP_i (by (repeat' (first | exact Heap.Le.refl _ | (refine Le_fresh (by first | exact (by simp only [*]) | exact (by simp [set_none', *])) ?_) | (refine Heap.Le.trans ?_ (Grow.le (by assumption)))))) ?_) | (with_reducible refine And.intro ?_ ?_)) <;> (try simp only [Sh,Si,Sl,Bu,Bb,Bd,Bc,Bw,Bn,Int.reduceAdd,Int.reduceSub,Int.reduceMul,Int.reduceTDiv,Int.reduceTMod,Int.reduceMod,Int.reduceDiv,Nat.reduceLT,Nat.reduceEqDiff,decide_true,decide_false,Sa,Sb,Sc,Sd,Se,Sf,Sg,true_and,and_true,and_self,eq_self,b_i64,b_i32,b_u64,b_u32,b_u8,Int.reduceLE,Int.reduceLT,Int.reduceToNat,Int.reduceNeg,Int.reduceEq,Nat.reduceLeDiff,Nat.reducePow,Int.reducePow,Nat.min_def,reduceIte,Nat.reduceSub,Nat.reduceAdd,Nat.reduceMul,KP_same,KP_f,condS_t,condS_f,pick_t,pick_f,gS_tt,gS_ff,gS_tf,gS_ft,gS_u,gP_tt,gP_ff,gP_tf,gP_ft,gP_u,ptrV_eq,slcV_eq,mapV_eq,cells_agg,cells_int,cells_bool,cells_ptr,cells_slice,oc_int,oc_bool,oc_slice,oc_ptr,rd1_set,rd1_ne,rdn_set,rdn_ne,Heap.set_same,set_ne,Heap.set_set,set_up,set_up2,set_up3,putAt,ceq,List.map_cons,List.map_nil,List.length_cons,List.length_nil,List.length_set,List.cons_append,List.nil_append,List.append_nil,List.replicate,List.size_toArray,List.all_cons,List.all_nil,Bool.and_self,Bool.and_true,List.drop_zero,List.drop_succ_cons,List.take_succ_cons,List.take_zero,List.set_cons_zero,List.set_cons_succ,List.getElem?_cons_zero,List.getElem?_cons_succ,Option.map_some,Option.map_none,ne_eq,not_false_eq_true,not_true_eq_false,gt_iff_lt,ge_iff_le,Int.one_mul,Nat.zero_add,Nat.zero_mul,Bool.not_true,Bool.not_false,Bool.false_eq_true,Bool.and_false,Bool.false_and,Bool.true_and, *]))
      all_goals first
        | exact Fin_le (h _ (by clear t0 hr hf h; subst_vars; simp [*]; done)) (by (repeat' (first | exact Heap.Le.refl _ | (with_reducible refine Le_set2 ?_) | (refine Le_known (by first | (simp only [Heap.set_same, set_ne, ne_eq, not_false_eq_true, *] <;> rfl) | fail) ?_) | (refine Le_fresh (by first | (simp only [*] <;> done) | (simp [set_none', Heap.set_same, set_ne, noneH, *] <;> done) | fail) ?_) | (refine Heap.Le.trans ?_ (Grow.le (by assumption))) | exact Le_none | (refine Le_put ?_ (by first | (simp only [Heap.set_same, set_ne, ne_eq, not_false_eq_true, *] <;> rfl) | fail)) | fail)))
        | exact Fin_le (h _ (by clear t0 hr hf h; subst_vars; simp [*, Int.not_lt.2, Int.not_le.2]; done)) (by (repeat' (first | exact Heap.Le.refl _ | (with_reducible refine Le_set2 ?_) | (refine Le_known (by first | (simp only [Heap.set_same, set_ne, ne_eq, not_false_eq_true, *] <;> rfl) | fail) ?_) | (refine Le_fresh (by first | (simp only [*] <;> done) | (simp [set_none', Heap.set_same, set_ne, noneH, *] <;> done) | fail) ?_) | (refine Heap.Le.trans ?_ (Grow.le (by assumption))) | exact Le_none | (refine Le_put ?_ (by first | (simp only [Heap.set_same, set_ne, ne_eq, not_false_eq_true, *] <;> rfl) | fail)) | fail)))
        | skip
theorem c_legal (c : Cd) (k : Nat) (i : Ins) (hc : CdAt w0 H c) (hk : c.is[k]? = some i) (h : K (.bool (legalB c k i)) H) : HCalls Try.prog w0 31 [c.v, .int .i64 k] H K := by
  obtain ⟨b, o, ea, hr, hf⟩ := hc.row hk
  have hl : k < c.is.length := (List.getElem?_eq_some_iff.1 hk).1
  obtain ⟨st, adr, cap, is, rg, ab, un, va⟩ := c
  obtain ⟨op, fn, bs, n, dst, a, bb, cc, m0, m1, m2, m3, p0, p1, p2, p3⟩ := i
  simp only at ea hl
  subst ea
  exact legal_a hr hf rfl (by simp only; omega) fun v e => Fin_mk (Heap.Le.refl _) (by rw [← e]; exact h)
end Go.Proofs.Ytndgmnmnpfblmaa
