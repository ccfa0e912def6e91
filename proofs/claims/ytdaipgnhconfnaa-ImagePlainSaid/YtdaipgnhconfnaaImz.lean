/- How many bytes a pixel of a format has: reckoned, for the formats that there are (layer 5). -/
import Derived.Test.YtdaipgnhconfnaaHlw
import Derived.Test.YtdaipgnhconfnaaProg
set_option linter.unusedSimpArgs false
set_option linter.unusedVariables false
set_option maxRecDepth 100000
namespace Go.Proofs.Ytdaipgnhconfnaa
open Go.HL
namespace Size1
def M48 : MC :=
  .seq (.reg [⟨(some 2), .mv (.const (.int .i64 0)), none⟩])
  (.seq (.reg [⟨(some 6), .mv (.tmp 0), none⟩,
      ⟨(some 7), .call 69 [(.tmp 6)], none⟩,
      ⟨(some 5), .mv (.tmp 7), none⟩,
      ⟨(some 8), .ext 0 (.tmp 5), none⟩,
      ⟨(some 9), .ext 1 (.tmp 5), none⟩,
      ⟨(some 3), .alloc 95 [(.int .i64 0), (.slice none 0 0), (.int .i32 0), (.int .i32 0), (.int .i32 0), (.int .i32 0)], none⟩,
      ⟨none, .stn 6 (.tmp 3) (.tmp 8), none⟩,
      ⟨(some 4), .mv (.tmp 9), none⟩])
   (.seq (.reg [⟨(some 10), .fa 0 (.tmp 3), none⟩,
       ⟨(some 11), .ld1 (.tmp 10), none⟩,
       ⟨(some 2), .mv (.tmp 11), none⟩])
    (.ret)))
theorem k48 : fnOk Try.prog 48 = some (M48, [.t 2], 12) := by kernel_rfl
def M69 : MC :=
  .seq (.reg [⟨(some 2), .alloc 95 [(.int .i64 0), (.slice none 0 0), (.int .i32 0), (.int .i32 0), (.int .i32 0), (.int .i32 0)], none⟩,
     ⟨(some 3), .mv (.const (.bool false)), none⟩])
  (.seq (.reg [⟨(some 5), .call 75 [], none⟩,
      ⟨(some 4), .mv (.tmp 5), none⟩])
   (.seq (.seq (.reg [⟨(some 6), .mv (.tmp 0), none⟩,
        ⟨(some 7), .bin .lss (.tmp 6) (.const (.int .i64 1)), none⟩,
        ⟨(some 8), .mv (.tmp 7), none⟩,
        ⟨(some 9), .mv (.tmp 0), (some (8, false))⟩,
        ⟨(some 10), .mv (.tmp 4), (some (8, false))⟩,
        ⟨(some 11), .len (.tmp 10), (some (8, false))⟩,
        ⟨(some 12), .bin .geq (.tmp 9) (.tmp 11), (some (8, false))⟩,
        ⟨(some 13), .pick (.tmp 8) (.const (.bool true)) (.tmp 12), none⟩])
     (.cond (.tmp 13)
      (.seq (.reg [⟨(some 14), .build [(.int .i64 0), (.slice none 0 0), (.int .i32 0), (.int .i32 0), (.int .i32 0), (.int .i32 0)] [], none⟩,
          ⟨none, .stn 6 (.tmp 2) (.tmp 14), none⟩,
          ⟨(some 3), .mv (.const (.bool false)), none⟩])
       (.ret))
      (.skip)))
    (.seq (.reg [⟨(some 15), .mv (.tmp 4), none⟩,
        ⟨(some 16), .mv (.tmp 0), none⟩,
        ⟨(some 17), .is 6 (.tmp 15) (.tmp 16), none⟩,
        ⟨(some 18), .ldn 6 (.tmp 17), none⟩,
        ⟨none, .stn 6 (.tmp 2) (.tmp 18), none⟩,
        ⟨(some 3), .mv (.const (.bool true)), none⟩])
     (.ret))))
theorem k69 : fnOk Try.prog 69 = some (M69, [.cn 6 2, .t 3], 19) := by kernel_rfl
def M75 : MC :=
  .seq (.reg [⟨(some 0), .mv (.const (.slice none 0 0)), none⟩])
  (.seq (.reg [⟨(some 2), .build [(.int .i32 0), (.int .i32 0), (.int .i32 0), (.int .i32 0)] [(0, 1, (.const (.int .i32 0))), (1, 1, (.const (.int .i32 0))), (2, 1, (.const (.int .i32 0))), (3, 1, (.const (.int .i32 65536)))], none⟩,
      ⟨(some 1), .alloc 93 [(.int .i32 0), (.int .i32 0), (.int .i32 0), (.int .i32 0)], none⟩,
      ⟨none, .stn 4 (.tmp 1) (.tmp 2), none⟩])
   (.seq (.reg [⟨(some 3), .build [(.int .i64 0), (.slice none 0 0), (.int .i32 0), (.int .i32 0), (.int .i32 0), (.int .i32 0)] [], none⟩,
       ⟨(some 4), .build [(.int .i64 0), (.int .i64 0), (.int .i64 0)] [(0, 1, (.const (.int .i64 0))), (1, 1, (.const (.int .i64 8))), (2, 1, (.const (.int .i64 0)))], none⟩,
       ⟨(some 5), .build [(.int .i64 0), (.int .i64 0), (.int .i64 0)] [(0, 1, (.const (.int .i64 1))), (1, 1, (.const (.int .i64 8))), (2, 1, (.const (.int .i64 8)))], none⟩,
       ⟨(some 6), .build [(.int .i64 0), (.int .i64 0), (.int .i64 0)] [(0, 1, (.const (.int .i64 2))), (1, 1, (.const (.int .i64 8))), (2, 1, (.const (.int .i64 16)))], none⟩,
       ⟨(some 7), .build [(.int .i64 0), (.int .i64 0), (.int .i64 0)] [(0, 1, (.const (.int .i64 3))), (1, 1, (.const (.int .i64 8))), (2, 1, (.const (.int .i64 24)))], none⟩,
       ⟨(some 8), .bslice 108 4 [(.int .i64 0), (.int .i64 0), (.int .i64 0), (.int .i64 0), (.int .i64 0), (.int .i64 0), (.int .i64 0), (.int .i64 0), (.int .i64 0), (.int .i64 0), (.int .i64 0), (.int .i64 0)] [(0, 3, (.tmp 4)), (3, 3, (.tmp 5)), (6, 3, (.tmp 6)), (9, 3, (.tmp 7))], none⟩,
       ⟨(some 9), .build [(.int .i32 0), (.int .i32 0), (.int .i32 0), (.int .i32 0)] [], none⟩,
       ⟨(some 10), .build [(.int .i64 0), (.slice none 0 0), (.int .i32 0), (.int .i32 0), (.int .i32 0), (.int .i32 0)] [(0, 1, (.const (.int .i64 4))), (1, 1, (.tmp 8)), (2, 4, (.tmp 9))], none⟩,
       ⟨(some 11), .build [(.int .i64 0), (.int .i64 0), (.int .i64 0)] [(0, 1, (.const (.int .i64 0))), (1, 1, (.const (.int .i64 5))), (2, 1, (.const (.int .i64 11)))], none⟩,
       ⟨(some 12), .build [(.int .i64 0), (.int .i64 0), (.int .i64 0)] [(0, 1, (.const (.int .i64 1))), (1, 1, (.const (.int .i64 6))), (2, 1, (.const (.int .i64 5)))], none⟩,
       ⟨(some 13), .build [(.int .i64 0), (.int .i64 0), (.int .i64 0)] [(0, 1, (.const (.int .i64 2))), (1, 1, (.const (.int .i64 5))), (2, 1, (.const (.int .i64 0)))], none⟩,
       ⟨(some 14), .bslice 108 3 [(.int .i64 0), (.int .i64 0), (.int .i64 0), (.int .i64 0), (.int .i64 0), (.int .i64 0), (.int .i64 0), (.int .i64 0), (.int .i64 0)] [(0, 3, (.tmp 11)), (3, 3, (.tmp 12)), (6, 3, (.tmp 13))], none⟩,
       ⟨(some 15), .ldn 4 (.tmp 1), none⟩,
       ⟨(some 16), .build [(.int .i64 0), (.slice none 0 0), (.int .i32 0), (.int .i32 0), (.int .i32 0), (.int .i32 0)] [(0, 1, (.const (.int .i64 2))), (1, 1, (.tmp 14)), (2, 4, (.tmp 15))], none⟩,
       ⟨(some 17), .build [(.int .i64 0), (.int .i64 0), (.int .i64 0)] [(0, 1, (.const (.int .i64 0))), (1, 1, (.const (.int .i64 4))), (2, 1, (.const (.int .i64 12)))], none⟩,
       ⟨(some 18), .build [(.int .i64 0), (.int .i64 0), (.int .i64 0)] [(0, 1, (.const (.int .i64 1))), (1, 1, (.const (.int .i64 4))), (2, 1, (.const (.int .i64 8)))], none⟩,
       ⟨(some 19), .build [(.int .i64 0), (.int .i64 0), (.int .i64 0)] [(0, 1, (.const (.int .i64 2))), (1, 1, (.const (.int .i64 4))), (2, 1, (.const (.int .i64 4)))], none⟩,
       ⟨(some 20), .build [(.int .i64 0), (.int .i64 0), (.int .i64 0)] [(0, 1, (.const (.int .i64 3))), (1, 1, (.const (.int .i64 4))), (2, 1, (.const (.int .i64 0)))], none⟩,
       ⟨(some 21), .bslice 108 4 [(.int .i64 0), (.int .i64 0), (.int .i64 0), (.int .i64 0), (.int .i64 0), (.int .i64 0), (.int .i64 0), (.int .i64 0), (.int .i64 0), (.int .i64 0), (.int .i64 0), (.int .i64 0)] [(0, 3, (.tmp 17)), (3, 3, (.tmp 18)), (6, 3, (.tmp 19)), (9, 3, (.tmp 20))], none⟩,
       ⟨(some 22), .build [(.int .i32 0), (.int .i32 0), (.int .i32 0), (.int .i32 0)] [], none⟩,
       ⟨(some 23), .build [(.int .i64 0), (.slice none 0 0), (.int .i32 0), (.int .i32 0), (.int .i32 0), (.int .i32 0)] [(0, 1, (.const (.int .i64 2))), (1, 1, (.tmp 21)), (2, 4, (.tmp 22))], none⟩,
       ⟨(some 24), .build [(.int .i64 0), (.int .i64 0), (.int .i64 0)] [(0, 1, (.const (.int .i64 0))), (1, 1, (.const (.int .i64 5))), (2, 1, (.const (.int .i64 11)))], none⟩,
       ⟨(some 25), .build [(.int .i64 0), (.int .i64 0), (.int .i64 0)] [(0, 1, (.const (.int .i64 1))), (1, 1, (.const (.int .i64 5))), (2, 1, (.const (.int .i64 6)))], none⟩,
       ⟨(some 26), .build [(.int .i64 0), (.int .i64 0), (.int .i64 0)] [(0, 1, (.const (.int .i64 2))), (1, 1, (.const (.int .i64 5))), (2, 1, (.const (.int .i64 1)))], none⟩,
       ⟨(some 27), .build [(.int .i64 0), (.int .i64 0), (.int .i64 0)] [(0, 1, (.const (.int .i64 3))), (1, 1, (.const (.int .i64 1))), (2, 1, (.const (.int .i64 0)))], none⟩,
       ⟨(some 28), .bslice 108 4 [(.int .i64 0), (.int .i64 0), (.int .i64 0), (.int .i64 0), (.int .i64 0), (.int .i64 0), (.int .i64 0), (.int .i64 0), (.int .i64 0), (.int .i64 0), (.int .i64 0), (.int .i64 0)] [(0, 3, (.tmp 24)), (3, 3, (.tmp 25)), (6, 3, (.tmp 26)), (9, 3, (.tmp 27))], none⟩,
       ⟨(some 29), .build [(.int .i32 0), (.int .i32 0), (.int .i32 0), (.int .i32 0)] [], none⟩,
       ⟨(some 30), .build [(.int .i64 0), (.slice none 0 0), (.int .i32 0), (.int .i32 0), (.int .i32 0), (.int .i32 0)] [(0, 1, (.const (.int .i64 2))), (1, 1, (.tmp 28)), (2, 4, (.tmp 29))], none⟩,
       ⟨(some 31), .build [(.int .i64 0), (.int .i64 0), (.int .i64 0)] [(0, 1, (.const (.int .i64 0))), (1, 1, (.const (.int .i64 8))), (2, 1, (.const (.int .i64 0)))], none⟩,
       ⟨(some 32), .bslice 108 1 [(.int .i64 0), (.int .i64 0), (.int .i64 0)] [(0, 3, (.tmp 31))], none⟩,
       ⟨(some 33), .ldn 4 (.tmp 1), none⟩,
       ⟨(some 34), .build [(.int .i64 0), (.slice none 0 0), (.int .i32 0), (.int .i32 0), (.int .i32 0), (.int .i32 0)] [(0, 1, (.const (.int .i64 1))), (1, 1, (.tmp 32)), (2, 4, (.tmp 33))], none⟩,
       ⟨(some 35), .build [(.int .i64 0), (.int .i64 0), (.int .i64 0)] [(0, 1, (.const (.int .i64 3))), (1, 1, (.const (.int .i64 8))), (2, 1, (.const (.int .i64 0)))], none⟩,
       ⟨(some 36), .bslice 108 1 [(.int .i64 0), (.int .i64 0), (.int .i64 0)] [(0, 3, (.tmp 35))], none⟩,
       ⟨(some 37), .build [(.int .i32 0), (.int .i32 0), (.int .i32 0), (.int .i32 0)] [], none⟩,
       ⟨(some 38), .build [(.int .i64 0), (.slice none 0 0), (.int .i32 0), (.int .i32 0), (.int .i32 0), (.int .i32 0)] [(0, 1, (.const (.int .i64 1))), (1, 1, (.tmp 36)), (2, 4, (.tmp 37))], none⟩,
       ⟨(some 39), .build [(.int .i64 0), (.int .i64 0), (.int .i64 0)] [(0, 1, (.const (.int .i64 0))), (1, 1, (.const (.int .i64 8))), (2, 1, (.const (.int .i64 0)))], none⟩,
       ⟨(some 40), .build [(.int .i64 0), (.int .i64 0), (.int .i64 0)] [(0, 1, (.const (.int .i64 3))), (1, 1, (.const (.int .i64 8))), (2, 1, (.const (.int .i64 8)))], none⟩,
       ⟨(some 41), .bslice 108 2 [(.int .i64 0), (.int .i64 0), (.int .i64 0), (.int .i64 0), (.int .i64 0), (.int .i64 0)] [(0, 3, (.tmp 39)), (3, 3, (.tmp 40))], none⟩,
       ⟨(some 42), .build [(.int .i32 0), (.int .i32 0), (.int .i32 0), (.int .i32 0)] [], none⟩,
       ⟨(some 43), .build [(.int .i64 0), (.slice none 0 0), (.int .i32 0), (.int .i32 0), (.int .i32 0), (.int .i32 0)] [(0, 1, (.const (.int .i64 2))), (1, 1, (.tmp 41)), (2, 4, (.tmp 42))], none⟩,
       ⟨(some 44), .bslice 95 8 [(.int .i64 0), (.slice none 0 0), (.int .i32 0), (.int .i32 0), (.int .i32 0), (.int .i32 0), (.int .i64 0), (.slice none 0 0), (.int .i32 0), (.int .i32 0), (.int .i32 0), (.int .i32 0), (.int .i64 0), (.slice none 0 0), (.int .i32 0), (.int .i32 0), (.int .i32 0), (.int .i32 0), (.int .i64 0), (.slice none 0 0), (.int .i32 0), (.int .i32 0), (.int .i32 0), (.int .i32 0), (.int .i64 0), (.slice none 0 0), (.int .i32 0), (.int .i32 0), (.int .i32 0), (.int .i32 0), (.int .i64 0), (.slice none 0 0), (.int .i32 0), (.int .i32 0), (.int .i32 0), (.int .i32 0), (.int .i64 0), (.slice none 0 0), (.int .i32 0), (.int .i32 0), (.int .i32 0), (.int .i32 0), (.int .i64 0), (.slice none 0 0), (.int .i32 0), (.int .i32 0), (.int .i32 0), (.int .i32 0)] [(0, 6, (.tmp 3)), (6, 6, (.tmp 10)), (12, 6, (.tmp 16)), (18, 6, (.tmp 23)), (24, 6, (.tmp 30)), (30, 6, (.tmp 34)), (36, 6, (.tmp 38)), (42, 6, (.tmp 43))], none⟩,
       ⟨(some 0), .mv (.tmp 44), none⟩])
    (.ret)))
theorem k75 : fnOk Try.prog 75 = some (M75, [.t 0], 45) := by kernel_rfl
def tbl : List (FuncId × (MC × List RV × Nat)) := [(48, (M48, [.t 2], 12)), (69, (M69, [.cn 6 2, .t 3], 19)), (75, (M75, [.t 0], 45))]
theorem tblOk : AllOk Try.prog tbl := ⟨k48, k69, k75, trivial⟩
theorem done : (exec (tblOf tbl) 1000 [.t 2] [.code M48] ([.int .i64 1] ++ List.replicate (12 - List.length ([.int .i64 1] : List Value)) undef) [] (fun u _ => eqS u (.int .i64 4))) = true := by kernel_rfl
end Size1
theorem x_Size1 {w0 : World} {H : Heap} {K : Value → Heap → Prop} (h : K (.int .i64 4) H) : HCalls Try.prog w0 48 [.int .i64 1] H K := hc_exec Size1.k48 (tblOf_ok Size1.tblOk) [.int .i64 1] rfl 1000 rfl Size1.done h

namespace Size2
theorem done : (exec (tblOf Size1.tbl) 1000 [.t 2] [.code Size1.M48] ([.int .i64 2] ++ List.replicate (12 - List.length ([.int .i64 2] : List Value)) undef) [] (fun u _ => eqS u (.int .i64 2))) = true := by kernel_rfl
end Size2
theorem x_Size2 {w0 : World} {H : Heap} {K : Value → Heap → Prop} (h : K (.int .i64 2) H) : HCalls Try.prog w0 48 [.int .i64 2] H K := hc_exec Size1.k48 (tblOf_ok Size1.tblOk) [.int .i64 2] rfl 1000 rfl Size2.done h

namespace Size3
theorem done : (exec (tblOf Size1.tbl) 1000 [.t 2] [.code Size1.M48] ([.int .i64 3] ++ List.replicate (12 - List.length ([.int .i64 3] : List Value)) undef) [] (fun u _ => eqS u (.int .i64 2))) = true := by kernel_rfl
end Size3
theorem x_Size3 {w0 : World} {H : Heap} {K : Value → Heap → Prop} (h : K (.int .i64 2) H) : HCalls Try.prog w0 48 [.int .i64 3] H K := hc_exec Size1.k48 (tblOf_ok Size1.tblOk) [.int .i64 3] rfl 1000 rfl Size3.done h

namespace Size4
theorem done : (exec (tblOf Size1.tbl) 1000 [.t 2] [.code Size1.M48] ([.int .i64 4] ++ List.replicate (12 - List.length ([.int .i64 4] : List Value)) undef) [] (fun u _ => eqS u (.int .i64 2))) = true := by kernel_rfl
end Size4
theorem x_Size4 {w0 : World} {H : Heap} {K : Value → Heap → Prop} (h : K (.int .i64 2) H) : HCalls Try.prog w0 48 [.int .i64 4] H K := hc_exec Size1.k48 (tblOf_ok Size1.tblOk) [.int .i64 4] rfl 1000 rfl Size4.done h

namespace Size5
theorem done : (exec (tblOf Size1.tbl) 1000 [.t 2] [.code Size1.M48] ([.int .i64 5] ++ List.replicate (12 - List.length ([.int .i64 5] : List Value)) undef) [] (fun u _ => eqS u (.int .i64 1))) = true := by kernel_rfl
end Size5
theorem x_Size5 {w0 : World} {H : Heap} {K : Value → Heap → Prop} (h : K (.int .i64 1) H) : HCalls Try.prog w0 48 [.int .i64 5] H K := hc_exec Size1.k48 (tblOf_ok Size1.tblOk) [.int .i64 5] rfl 1000 rfl Size5.done h

namespace Size6
theorem done : (exec (tblOf Size1.tbl) 1000 [.t 2] [.code Size1.M48] ([.int .i64 6] ++ List.replicate (12 - List.length ([.int .i64 6] : List Value)) undef) [] (fun u _ => eqS u (.int .i64 1))) = true := by kernel_rfl
end Size6
theorem x_Size6 {w0 : World} {H : Heap} {K : Value → Heap → Prop} (h : K (.int .i64 1) H) : HCalls Try.prog w0 48 [.int .i64 6] H K := hc_exec Size1.k48 (tblOf_ok Size1.tblOk) [.int .i64 6] rfl 1000 rfl Size6.done h

namespace Size7
theorem done : (exec (tblOf Size1.tbl) 1000 [.t 2] [.code Size1.M48] ([.int .i64 7] ++ List.replicate (12 - List.length ([.int .i64 7] : List Value)) undef) [] (fun u _ => eqS u (.int .i64 2))) = true := by kernel_rfl
end Size7
theorem x_Size7 {w0 : World} {H : Heap} {K : Value → Heap → Prop} (h : K (.int .i64 2) H) : HCalls Try.prog w0 48 [.int .i64 7] H K := hc_exec Size1.k48 (tblOf_ok Size1.tblOk) [.int .i64 7] rfl 1000 rfl Size7.done h

end Go.Proofs.Ytdaipgnhconfnaa
