/- The bytes of a code, by the document (layer 16). -/
import Derived.Test.YtndgmnmnpfblmaaCdj
import Derived.Test.YtndgmnmnpfblmaaCdr
set_option linter.unusedSimpArgs false
set_option linter.unusedVariables false
set_option maxRecDepth 100000
set_option maxHeartbeats 4000000
namespace Go.Proofs.Ytndgmnmnpfblmaa
open Go.HL Go.RowKit Pb
variable {w0 : World} {H G : Heap} {K : Value → Heap → Prop}

theorem u8_mod (x : Int) : IntKind.u8.wrap x = x % 256 := by simp [IntKind.wrap, IntKind.signed, IntKind.bits]
/- paintboxref16 low -/
def M57 : MC :=
  .seq (.reg [⟨(some 2), .mv (.const (.slice none 0 0)), none⟩])
 (.seq (.reg [⟨(some 3), .mv (.tmp 0), none⟩,
 ⟨(some 4), .conv .u8 (.tmp 3), none⟩,
 ⟨(some 5), .mv (.tmp 0), none⟩,
 ⟨(some 6), .bin .shr (.tmp 5) (.const (.int .u64 8)), none⟩,
 ⟨(some 7), .conv .u8 (.tmp 6), none⟩,
 ⟨(some 8), .mv (.tmp 0), none⟩,
 ⟨(some 9), .bin .shr (.tmp 8) (.const (.int .u64 16)), none⟩,
 ⟨(some 10), .conv .u8 (.tmp 9), none⟩,
 ⟨(some 11), .mv (.tmp 0), none⟩,
 ⟨(some 12), .bin .shr (.tmp 11) (.const (.int .u64 24)), none⟩,
 ⟨(some 13), .conv .u8 (.tmp 12), none⟩,
 ⟨(some 14), .bslice 5 4 [(.int .u8 0), (.int .u8 0), (.int .u8 0), (.int .u8 0)] [(0, 1, (.tmp 4)), (1, 1, (.tmp 7)), (2, 1, (.tmp 10)), (3, 1, (.tmp 13))], none⟩,
 ⟨(some 2), .mv (.tmp 14), none⟩])
 (.ret))
theorem k57 : fnOk Try.prog 57 = some (M57, [.t 2], 15) := by kernel_rfl

theorem r_low (x : Int) (hx : -9223372036854775808 ≤ x ∧ x ≤ 9223372036854775807) (h : ∀ b G, BB w0 H G (some ⟨b, 0, none⟩) 4 (low4 x) → Grow w0 H G → K (.slice (some ⟨b, 0, none⟩) 4 4) G) : HCalls Try.prog w0 57 [.int .i64 x] H K := by
  have w1 : IntKind.i64.wrap (x / 256) = x / 256 := Bw.1 _ (by omega) (by omega)
  have w2 : IntKind.i64.wrap (x / 65536) = x / 65536 := Bw.1 _ (by omega) (by omega)
  have w3 : IntKind.i64.wrap (x / 16777216) = x / 16777216 := Bw.1 _ (by omega) (by omega)
  have d1 : x.fdiv 256 = x / 256 := Int.fdiv_eq_ediv_of_nonneg _ (by omega)
  have d2 : x.fdiv 65536 = x / 65536 := Int.fdiv_eq_ediv_of_nonneg _ (by omega)
  have d3 : x.fdiv 16777216 = x / 16777216 := Int.fdiv_eq_ediv_of_nonneg _ (by omega)
  have q0 := u8_mod x
  have q1 := u8_mod (x / 256)
  have q2 := u8_mod (x / 65536)
  have q3 := u8_mod (x / 16777216)
  clear hx
  replace h : Keep _ := h
  refine HL.hc k57 999 ?_; unfold M57
  (all_goals (try simp only [Sq,Sr,Sh,Si,Sl,Bu,Bb,Bd,Bc,Bw,Bn,Int.reduceAdd,Int.reduceSub,Int.reduceMul,Int.reduceTDiv,Int.reduceTMod,Int.reduceMod,Int.reduceDiv,Nat.reduceLT,Nat.reduceEqDiff,Sa,Sb,Sc,Sd,Se,Sf,Sg,Int.reduceLE,Int.reduceLT,Int.reduceToNat,Int.reduceNeg,Int.reduceEq,Nat.reduceLeDiff,Nat.reducePow,Int.reducePow,reduceIte,Nat.reduceSub,Nat.reduceAdd,Nat.reduceMul,putAt,ceq,List.replicate, *])); repeat' ((first | (with_reducible refine fun _ : True => ?_) | (with_reducible refine any_h ?_) | ((first | refine AllocQ_i ?_ | refine AllocO_i ?_); intro bk hb0 hbk; (try simp only [set_none'] at hbk)) | ((first | refine condS_i ?_ ?_ | refine pick_i ?_ ?_ | refine gS_it ?_ ?_ | refine gS_if ?_ ?_ | refine gP_it ?_ ?_ | refine gP_if ?_ ?_) <;> (intro hc; try simp only [Int.reduceLE,Int.reduceLT,Int.reduceEq,Sn] at hc)) | (with_reducible refine And.intro ?_ ?_)) <;> (try simp only [Sq,Sr,Sh,Si,Sl,Bu,Bb,Bd,Bc,Bw,Bn,Int.reduceAdd,Int.reduceSub,Int.reduceMul,Int.reduceTDiv,Int.reduceTMod,Int.reduceMod,Int.reduceDiv,Nat.reduceLT,Nat.reduceEqDiff,Sa,Sb,Sc,Sd,Se,Sf,Sg,Int.reduceLE,Int.reduceLT,Int.reduceToNat,Int.reduceNeg,Int.reduceEq,Nat.reduceLeDiff,Nat.reducePow,Int.reducePow,reduceIte,Nat.reduceSub,Nat.reduceAdd,Nat.reduceMul,putAt,ceq,List.replicate, *]))
  exact Fin_mk (Heap.Le.refl _) ((show ∀ b G, _ → Grow w0 H G → K _ G from h) bk _ (.inl ⟨bk, [], rfl, hb0, hbk, Heap.set_same _ _ _, rfl⟩) ((Grow.refl _).set hb0 hbk))
theorem app_low {H0 : Heap} {a : Option Addr} {k n c4 b4 : Nat} {cur : List Int} {x : Int} (hB : BB w0 H G a k cur) (hg : Grow w0 H G) (h4 : BB w0 H0 G (some ⟨b4, 0, none⟩) 4 (low4 x)) (hn : cur.length = n) (hl : n ≤ 1000000000)
    (h : ∀ a' k' G', BB w0 H G' a' k' (cur ++ low4 x) → Grow w0 H G' → (∀ d z, G d = some z → z.ty ≠ .t 5 → G' d = some z) → K (.slice a' (n + 4) k') G') :
    appQ w0 G K 5 1 1 [.int .u8 0] (.slice a n k) (.slice (some ⟨b4, 0, none⟩) 4 c4) := by
  have hs := h4.slAt.srd
  rw [List.length_map, show (low4 x).length = 4 from rfl] at hs
  refine app_bld (n := n) (m := 4) hB (by rw [List.length_map, hn, Nat.mul_one]) rfl (by rw [Nat.mul_one]; exact hs) (by simp [low4]) hg ⟨by omega, by omega⟩ (by simp [low4, Value.oneCell']) (fun a' k' G' hB' hg' hk' _ => ?_)
  exact h a' k' G' (by unfold BB; rw [List.map_append]; exact hB') hg' (fun d z hd hz => hk' d z hd (fun e => (hz e).elim))
theorem rdn_sub {G : Heap} {b k n : Nat} {t : Kd} {l cs : List Value} (h : G b = some ⟨t, l⟩) (e : (l.drop k).take n = cs) (hl : cs.length = n) (hn : 0 < n) : rdn w0 G b k n = some cs := by
  subst hl
  refine rdn_of (fun e => by subst e; simp at hn) fun i hi => ?_
  unfold rd1; rw [h]
  rw [← e, List.getElem?_take_of_lt (by omega), List.getElem?_drop]
theorem kpy {p : Prop} (h : Keep p) : p := h
theorem hd_take_len (c : Cd) {j : Nat} (h : j ≤ 7) : (bytesL (c.hd.take j)).length = 4 * j := by
  rw [bytesL_len, List.length_take, show c.hd.length = 7 from rfl, Nat.min_eq_left h]
/-- The bytes up to a row, and up to a number of a row. -/
def rowB (c : Cd) (k : Nat) : List Int := bytesL (c.hd ++ ((c.is.take k).map Ins.nums).flatten)
def curB (c : Cd) (k : Nat) (i : Ins) (j : Nat) : List Int := bytesL (c.hd ++ (((c.is.take k).map Ins.nums).flatten ++ i.nums.take j))
theorem rowB_zero (c : Cd) : rowB c 0 = bytesL (c.hd.take 7) := by
  have e : c.hd.take 7 = c.hd := rfl
  rw [e]; simp [rowB]
theorem rowB_all (c : Cd) : rowB c c.is.length = c.bytes := by unfold rowB Cd.bytes Cd.nums; rw [List.take_length]
theorem rowB_len (c : Cd) {k : Nat} (h : k ≤ c.is.length) : (rowB c k).length = 28 + 64 * k := by
  unfold rowB
  rw [bytesL_len, List.length_append, nums_len, List.length_take, show c.hd.length = 7 from rfl, Nat.min_eq_left h]; omega
theorem curB_zero (c : Cd) (k : Nat) (i : Ins) : curB c k i 0 = rowB c k := by simp [curB, rowB]
theorem curB_succ (c : Cd) (k : Nat) {i : Ins} {j : Nat} {x : Int} (h : i.nums[j]? = some x) : curB c k i j ++ low4 x = curB c k i (j + 1) := by
  unfold curB; rw [← bytesL_snoc, take_succ' h, List.append_assoc, List.append_assoc]
theorem curB_len (c : Cd) {k j : Nat} (i : Ins) (h : k < c.is.length) (hj : j ≤ 16) : (curB c k i j).length = 28 + 64 * k + 4 * j := by
  unfold curB
  rw [bytesL_len, List.length_append, List.length_append, nums_len, List.length_take, List.length_take, show c.hd.length = 7 from rfl, show i.nums.length = 16 from rfl, Nat.min_eq_left (by omega), Nat.min_eq_left hj]; omega
theorem curB_16 (c : Cd) {k : Nat} {i : Ins} (h : c.is[k]? = some i) : curB c k i 16 = rowB c (k + 1) := by
  unfold curB rowB
  have e : i.nums.take 16 = i.nums := rfl
  rw [e, List.take_add_one, h]; simp
theorem nums_mem (c : Cd) {k j : Nat} {i : Ins} {x : Int} (h : c.is[k]? = some i) (hx : i.nums[j]? = some x) : x ∈ c.nums := by
  unfold Cd.nums
  refine List.mem_append.2 (.inr (List.mem_flatten.2 ⟨_, List.mem_map.2 ⟨i, List.mem_iff_getElem?.2 ⟨k, h⟩, rfl⟩, List.mem_iff_getElem?.2 ⟨j, hx⟩⟩))
/- paintboxref16 Bytes -/
def M46 : MC :=
  .seq (.reg [⟨(some 1), .box 34 (.tmp 0), none⟩,
 ⟨(some 2), .mv (.const (.slice none 0 0)), none⟩])
 (.seq (.reg [⟨(some 3), .mv (.const (.slice none 0 0)), none⟩])
 (.seq (.seq (.reg [⟨(some 14), .fa 0 (.tmp 1), none⟩,
 ⟨(some 15), .ld1 (.tmp 14), none⟩,
 ⟨(some 16), .fa 2 (.tmp 1), none⟩,
 ⟨(some 17), .ld1 (.tmp 16), none⟩,
 ⟨(some 18), .fa 3 (.tmp 1), none⟩,
 ⟨(some 19), .ld1 (.tmp 18), none⟩,
 ⟨(some 20), .fa 4 (.tmp 1), none⟩,
 ⟨(some 21), .ld1 (.tmp 20), none⟩,
 ⟨(some 22), .fa 5 (.tmp 1), none⟩,
 ⟨(some 23), .ld1 (.tmp 22), none⟩,
 ⟨(some 24), .fa 1 (.tmp 1), none⟩,
 ⟨(some 25), .ld1 (.tmp 24), none⟩,
 ⟨(some 26), .len (.tmp 25), none⟩,
 ⟨(some 27), .build [(.int .i64 0), (.int .i64 0), (.int .i64 0), (.int .i64 0), (.int .i64 0), (.int .i64 0), (.int .i64 0)] [(0, 1, (.const (.int .i64 1128353872))), (1, 1, (.tmp 15)), (2, 1, (.tmp 17)), (3, 1, (.tmp 19)), (4, 1, (.tmp 21)), (5, 1, (.tmp 23)), (6, 1, (.tmp 26))], none⟩,
 ⟨(some 28), .mv (.const (.int .i64 0)), none⟩])
 (.block 0 (.loop (.seq (.reg [⟨(some 29), .bin .lss (.tmp 28) (.const (.int .i64 7)), none⟩])
 (.seq (.cond (.tmp 29)
 (.skip)
 (.exit 0))
 (.seq (.block 1 (.seq (.reg [⟨(some 30), .ix 7 (.tmp 27) (.tmp 28), none⟩,
 ⟨(some 5), .mv (.tmp 30), none⟩])
 (.reg [⟨(some 31), .mv (.tmp 3), none⟩,
 ⟨(some 32), .mv (.tmp 5), none⟩,
 ⟨(some 33), .call 57 [(.tmp 32)], none⟩,
 ⟨(some 34), .app 5 1 1 [(.int .u8 0)] (.tmp 31) (.tmp 33), none⟩,
 ⟨(some 3), .mv (.tmp 34), none⟩])))
 (.reg [⟨(some 35), .bin .add (.tmp 28) (.const (.int .i64 1)), none⟩,
 ⟨(some 28), .mv (.tmp 35), none⟩])))))))
 (.seq (.seq (.reg [⟨(some 36), .fa 1 (.tmp 1), none⟩,
 ⟨(some 37), .ld1 (.tmp 36), none⟩,
 ⟨(some 38), .len (.tmp 37), none⟩,
 ⟨(some 39), .mv (.const (.int .i64 0)), none⟩])
 (.block 2 (.loop (.seq (.reg [⟨(some 40), .bin .lss (.tmp 39) (.tmp 38), none⟩])
 (.seq (.cond (.tmp 40)
 (.skip)
 (.exit 2))
 (.seq (.block 3 (.seq (.reg [⟨(some 41), .is 16 (.tmp 37) (.tmp 39), none⟩,
 ⟨(some 42), .ldn 16 (.tmp 41), none⟩,
 ⟨(some 7), .alloc 30 [(.int .i64 0), (.int .i64 0), (.int .i64 0), (.int .i64 0), (.int .i64 0), (.int .i64 0), (.int .i64 0), (.int .i64 0), (.int .i32 0), (.int .i32 0), (.int .i32 0), (.int .i32 0), (.int .i64 0), (.int .i64 0), (.int .i64 0), (.int .i64 0)], none⟩,
 ⟨none, .stn 16 (.tmp 7) (.tmp 42), none⟩])
 (.seq (.seq (.reg [⟨(some 43), .fa 0 (.tmp 7), none⟩,
 ⟨(some 44), .ld1 (.tmp 43), none⟩,
 ⟨(some 45), .fa 1 (.tmp 7), none⟩,
 ⟨(some 46), .ld1 (.tmp 45), none⟩,
 ⟨(some 47), .fa 2 (.tmp 7), none⟩,
 ⟨(some 48), .ld1 (.tmp 47), none⟩,
 ⟨(some 49), .fa 3 (.tmp 7), none⟩,
 ⟨(some 50), .ld1 (.tmp 49), none⟩,
 ⟨(some 51), .fa 4 (.tmp 7), none⟩,
 ⟨(some 52), .ld1 (.tmp 51), none⟩,
 ⟨(some 53), .fa 5 (.tmp 7), none⟩,
 ⟨(some 54), .ld1 (.tmp 53), none⟩,
 ⟨(some 55), .fa 6 (.tmp 7), none⟩,
 ⟨(some 56), .ld1 (.tmp 55), none⟩,
 ⟨(some 57), .fa 7 (.tmp 7), none⟩,
 ⟨(some 58), .ld1 (.tmp 57), none⟩,
 ⟨(some 59), .build [(.int .i64 0), (.int .i64 0), (.int .i64 0), (.int .i64 0), (.int .i64 0), (.int .i64 0), (.int .i64 0), (.int .i64 0)] [(0, 1, (.tmp 44)), (1, 1, (.tmp 46)), (2, 1, (.tmp 48)), (3, 1, (.tmp 50)), (4, 1, (.tmp 52)), (5, 1, (.tmp 54)), (6, 1, (.tmp 56)), (7, 1, (.tmp 58))], none⟩,
 ⟨(some 60), .mv (.const (.int .i64 0)), none⟩])
 (.block 4 (.loop (.seq (.reg [⟨(some 61), .bin .lss (.tmp 60) (.const (.int .i64 8)), none⟩])
 (.seq (.cond (.tmp 61)
 (.skip)
 (.exit 4))
 (.seq (.block 5 (.seq (.reg [⟨(some 62), .ix 8 (.tmp 59) (.tmp 60), none⟩,
 ⟨(some 9), .mv (.tmp 62), none⟩])
 (.reg [⟨(some 63), .mv (.tmp 3), none⟩,
 ⟨(some 64), .mv (.tmp 9), none⟩,
 ⟨(some 65), .call 57 [(.tmp 64)], none⟩,
 ⟨(some 66), .app 5 1 1 [(.int .u8 0)] (.tmp 63) (.tmp 65), none⟩,
 ⟨(some 3), .mv (.tmp 66), none⟩])))
 (.reg [⟨(some 67), .bin .add (.tmp 60) (.const (.int .i64 1)), none⟩,
 ⟨(some 60), .mv (.tmp 67), none⟩])))))))
 (.seq (.seq (.reg [⟨(some 68), .fa 8 (.tmp 7), none⟩,
 ⟨(some 69), .ldn 4 (.tmp 68), none⟩,
 ⟨(some 70), .mv (.const (.int .i64 0)), none⟩])
 (.block 6 (.loop (.seq (.reg [⟨(some 71), .bin .lss (.tmp 70) (.const (.int .i64 4)), none⟩])
 (.seq (.cond (.tmp 71)
 (.skip)
 (.exit 6))
 (.seq (.block 7 (.seq (.reg [⟨(some 72), .ix 4 (.tmp 69) (.tmp 70), none⟩,
 ⟨(some 11), .mv (.tmp 72), none⟩])
 (.reg [⟨(some 73), .mv (.tmp 3), none⟩,
 ⟨(some 74), .mv (.tmp 11), none⟩,
 ⟨(some 75), .conv .i64 (.tmp 74), none⟩,
 ⟨(some 76), .call 57 [(.tmp 75)], none⟩,
 ⟨(some 77), .app 5 1 1 [(.int .u8 0)] (.tmp 73) (.tmp 76), none⟩,
 ⟨(some 3), .mv (.tmp 77), none⟩])))
 (.reg [⟨(some 78), .bin .add (.tmp 70) (.const (.int .i64 1)), none⟩,
 ⟨(some 70), .mv (.tmp 78), none⟩])))))))
 (.seq (.reg [⟨(some 79), .fa 12 (.tmp 7), none⟩,
 ⟨(some 80), .ldn 4 (.tmp 79), none⟩,
 ⟨(some 81), .mv (.const (.int .i64 0)), none⟩])
 (.block 8 (.loop (.seq (.reg [⟨(some 82), .bin .lss (.tmp 81) (.const (.int .i64 4)), none⟩])
 (.seq (.cond (.tmp 82)
 (.skip)
 (.exit 8))
 (.seq (.block 9 (.seq (.reg [⟨(some 83), .ix 4 (.tmp 80) (.tmp 81), none⟩,
 ⟨(some 13), .mv (.tmp 83), none⟩])
 (.reg [⟨(some 84), .mv (.tmp 3), none⟩,
 ⟨(some 85), .mv (.tmp 13), none⟩,
 ⟨(some 86), .call 57 [(.tmp 85)], none⟩,
 ⟨(some 87), .app 5 1 1 [(.int .u8 0)] (.tmp 84) (.tmp 86), none⟩,
 ⟨(some 3), .mv (.tmp 87), none⟩])))
 (.reg [⟨(some 88), .bin .add (.tmp 81) (.const (.int .i64 1)), none⟩,
 ⟨(some 81), .mv (.tmp 88), none⟩])))))))))))
 (.reg [⟨(some 89), .bin .add (.tmp 39) (.const (.int .i64 1)), none⟩,
 ⟨(some 39), .mv (.tmp 89), none⟩])))))))
 (.seq (.reg [⟨(some 90), .mv (.tmp 3), none⟩,
 ⟨(some 2), .mv (.tmp 90), none⟩])
 (.ret)))))
theorem k46 : fnOk Try.prog 46 = some (M46, [.t 2], 91) := by kernel_rfl

theorem r_Bytes (c : Cd) (hc : CdAt w0 H c) (hlen : c.is.length ≤ 4096) (hB : ∀ x ∈ c.nums, -9223372036854775808 ≤ x ∧ x ≤ 9223372036854775807) (h : ∀ a k G, BB w0 H G a k c.bytes → Grow w0 H G → K (.slice a c.bytes.length k) G) :
    HCalls Try.prog w0 46 [c.v] H K := by
  have hlow := fun (G : Heap) (K : Value → Heap → Prop) (x : Int) (hx : x ∈ c.nums) => r_low (w0 := w0) (H := G) (K := K) x (hB x hx)
  have hrow := fun (G : Heap) (g : Grow w0 H G) (k : Nat) (i : Ins) => (hc.grow g).row (k := k) (i := i)
  replace h : Keep _ := h
  have hBd := hB
  replace hBd : Keep _ := hBd
  replace hlow : Keep _ := hlow
  replace hrow : Keep _ := hrow
  clear hc hB
  unfold Cd.v
  refine HL.hc k46 999 ?_; unfold M46
  (all_goals (try simp only [Sq,Sr,Sh,Si,Sl,Bu,Bb,Bd,Bc,Bw,Bn,Int.reduceAdd,Int.reduceSub,Int.reduceMul,Int.reduceTDiv,Int.reduceTMod,Int.reduceMod,Int.reduceDiv,Nat.reduceLT,Nat.reduceEqDiff,Sa,Sb,Sc,Sd,Se,Sf,Sg,Int.reduceLE,Int.reduceLT,Int.reduceToNat,Int.reduceNeg,Int.reduceEq,Nat.reduceLeDiff,Nat.reducePow,Int.reducePow,reduceIte,Nat.reduceSub,Nat.reduceAdd,Nat.reduceMul,putAt,ceq,List.replicate, *])); repeat' ((first | (with_reducible refine fun _ : True => ?_) | (with_reducible refine any_h ?_) | ((first | refine AllocQ_i ?_ | refine AllocO_i ?_); intro bk hb0 hbk; (try simp only [set_none'] at hbk)) | ((first | refine condS_i ?_ ?_ | refine pick_i ?_ ?_ | refine gS_it ?_ ?_ | refine gS_if ?_ ?_ | refine gP_it ?_ ?_ | refine gP_if ?_ ?_) <;> (intro hc; try simp only [Int.reduceLE,Int.reduceLT,Int.reduceEq,Sn] at hc)) | (with_reducible refine And.intro ?_ ?_)) <;> (try simp only [Sq,Sr,Sh,Si,Sl,Bu,Bb,Bd,Bc,Bw,Bn,Int.reduceAdd,Int.reduceSub,Int.reduceMul,Int.reduceTDiv,Int.reduceTMod,Int.reduceMod,Int.reduceDiv,Nat.reduceLT,Nat.reduceEqDiff,Sa,Sb,Sc,Sd,Se,Sf,Sg,Int.reduceLE,Int.reduceLT,Int.reduceToNat,Int.reduceNeg,Int.reduceEq,Nat.reduceLeDiff,Nat.reducePow,Int.reducePow,reduceIte,Nat.reduceSub,Nat.reduceAdd,Nat.reduceMul,putAt,ceq,List.replicate, *]))
  refine loopq_heap ?_
  intro H0 eH
  have g0 : Grow w0 H H0 := by rw [eH]; exact (by (repeat' (first | exact Grow.refl _ | assumption | (refine Grow_known (by first | (simp only [Heap.set_same, set_ne, ne_eq, not_false_eq_true, *] <;> rfl) | fail) ?_) | (refine Grow.set ?_ (by assumption) (by first | (simp only [*] <;> done) | (simp [set_none', Heap.set_same, set_ne, noneH, *] <;> done) | fail)) | (refine Grow.trans ?_ (by assumption)))))
  have kb : H0 bk = some _ := at_of eH (Heap.set_same _ _ _)
  clear eH hbk hb0
  have hB0 : BB w0 H H0 none 0 (bytesL (c.hd.take 0)) := Bld.none
  refine loop_g 29 (fun s : Nat × Value × Option Addr × Nat × Heap => [(3, .slice s.2.2.1 (4 * s.1) s.2.2.2.1), (5, s.2.1), (28, .int .i64 (s.1 : Nat))]) (fun s => s.2.2.2.2) (fun s => s.1 ≤ 7 ∧ BB w0 H s.2.2.2.2 s.2.2.1 s.2.2.2.1 (bytesL (c.hd.take s.1)) ∧ Grow w0 H s.2.2.2.2 ∧ s.2.2.2.2 bk = H0 bk) (fun s => 7 - s.1) (0, undef, none, 0, H0) ⟨Nat.zero_le _, hB0, g0, rfl⟩ (Heap.Le.refl _) rfl ?_
  clear hB0
  intro ⟨j, v5, a, k, G⟩ g ⟨hj, hBj, hg, hb⟩
  simp only at hj hBj hg hb
  rw [kb] at hb
  by_cases hlt : j < 7
  · obtain ⟨x, ex⟩ : ∃ x, c.hd[j]? = some x := ⟨_, List.getElem?_eq_getElem (by rw [show c.hd.length = 7 from rfl]; exact hlt)⟩
    have el : [Value.int .i64 1128353872, .int .i64 c.st, .int .i64 c.rg, .int .i64 c.ab, .int .i64 c.un, .int .i64 c.va, .int .i64 c.is.length][j]? = some (.int .i64 x) := by
      have : [Value.int .i64 1128353872, .int .i64 c.st, .int .i64 c.rg, .int .i64 c.ab, .int .i64 c.un, .int .i64 c.va, .int .i64 c.is.length] = c.hd.map fun x => .int .i64 x := rfl
      rw [this, List.getElem?_map, ex]; rfl
    have t0 : (j : Int) < 7 := by omega
    have t6 : IntKind.i64.wrap ((j : Int) + 1) = ((j + 1 : Nat) : Int) := by rw [Bw.1 _ (by omega) (by omega)]; omega
    have hxm : x ∈ c.nums := List.mem_append.2 (.inl (List.mem_iff_getElem?.2 ⟨j, ex⟩))
    have hln := hd_take_len c hj
    have hlo := fun (G : Heap) (K : Value → Heap → Prop) => kpy hlow G K x hxm
    replace hln : Keep _ := hln
    replace hlo : Keep _ := hlo
    (all_goals (try simp only [Sq,Sr,Sh,Si,Sl,Bu,Bb,Bd,Bc,Bw,Bn,Int.reduceAdd,Int.reduceSub,Int.reduceMul,Int.reduceTDiv,Int.reduceTMod,Int.reduceMod,Int.reduceDiv,Nat.reduceLT,Nat.reduceEqDiff,Sa,Sb,Sc,Sd,Se,Sf,Sg,Int.reduceLE,Int.reduceLT,Int.reduceToNat,Int.reduceNeg,Int.reduceEq,Nat.reduceLeDiff,Nat.reducePow,Int.reducePow,reduceIte,Nat.reduceSub,Nat.reduceAdd,Nat.reduceMul,putAt,ceq,List.replicate, *])); repeat' ((first | (with_reducible refine fun _ : True => ?_) | refine hlo _ _ (fun b4 G1 h4 hg1 => ?_)  | (with_reducible refine any_h ?_) | ((first | refine AllocQ_i ?_ | refine AllocO_i ?_); intro bk hb0 hbk; (try simp only [set_none'] at hbk)) | ((first | refine condS_i ?_ ?_ | refine pick_i ?_ ?_ | refine gS_it ?_ ?_ | refine gS_if ?_ ?_ | refine gP_it ?_ ?_ | refine gP_if ?_ ?_) <;> (intro hc; try simp only [Int.reduceLE,Int.reduceLT,Int.reduceEq,Sn] at hc)) | (with_reducible refine And.intro ?_ ?_)) <;> (try simp only [Sq,Sr,Sh,Si,Sl,Bu,Bb,Bd,Bc,Bw,Bn,Int.reduceAdd,Int.reduceSub,Int.reduceMul,Int.reduceTDiv,Int.reduceTMod,Int.reduceMod,Int.reduceDiv,Nat.reduceLT,Nat.reduceEqDiff,Sa,Sb,Sc,Sd,Se,Sf,Sg,Int.reduceLE,Int.reduceLT,Int.reduceToNat,Int.reduceNeg,Int.reduceEq,Nat.reduceLeDiff,Nat.reducePow,Int.reducePow,reduceIte,Nat.reduceSub,Nat.reduceAdd,Nat.reduceMul,putAt,ceq,List.replicate, *]))
    refine app_low (hBj.grow hg1) (hg.trans hg1) h4 (kpy hln) (by omega) (fun a' k' G' hB2 hg2 hk2 => ?_)
    have hb2 := hk2 bk _ (hg1.some hb) (fun e => by cases e)
    rw [← bytesL_snoc, ← take_succ' ex] at hB2
    clear hBj h4 hk2 hb
    (all_goals (try simp only [Sq,Sr,Sh,Si,Sl,Bu,Bb,Bd,Bc,Bw,Bn,Int.reduceAdd,Int.reduceSub,Int.reduceMul,Int.reduceTDiv,Int.reduceTMod,Int.reduceMod,Int.reduceDiv,Nat.reduceLT,Nat.reduceEqDiff,Sa,Sb,Sc,Sd,Se,Sf,Sg,Int.reduceLE,Int.reduceLT,Int.reduceToNat,Int.reduceNeg,Int.reduceEq,Nat.reduceLeDiff,Nat.reducePow,Int.reducePow,reduceIte,Nat.reduceSub,Nat.reduceAdd,Nat.reduceMul,putAt,ceq,List.replicate, *])); repeat' ((first | (with_reducible refine fun _ : True => ?_) | (with_reducible refine any_h ?_) | ((first | refine AllocQ_i ?_ | refine AllocO_i ?_); intro bk hb0 hbk; (try simp only [set_none'] at hbk)) | ((first | refine condS_i ?_ ?_ | refine pick_i ?_ ?_ | refine gS_it ?_ ?_ | refine gS_if ?_ ?_ | refine gP_it ?_ ?_ | refine gP_if ?_ ?_) <;> (intro hc; try simp only [Int.reduceLE,Int.reduceLT,Int.reduceEq,Sn] at hc)) | (with_reducible refine And.intro ?_ ?_)) <;> (try simp only [Sq,Sr,Sh,Si,Sl,Bu,Bb,Bd,Bc,Bw,Bn,Int.reduceAdd,Int.reduceSub,Int.reduceMul,Int.reduceTDiv,Int.reduceTMod,Int.reduceMod,Int.reduceDiv,Nat.reduceLT,Nat.reduceEqDiff,Sa,Sb,Sc,Sd,Se,Sf,Sg,Int.reduceLE,Int.reduceLT,Int.reduceToNat,Int.reduceNeg,Int.reduceEq,Nat.reduceLeDiff,Nat.reducePow,Int.reducePow,reduceIte,Nat.reduceSub,Nat.reduceAdd,Nat.reduceMul,putAt,ceq,List.replicate, *]))
    exact Round_mk (j + 1, _, a', k', G') ⟨hlt, hB2, hg2, hb2⟩ (Nat.sub_succ_lt_self 7 j hlt) (Heap.Le.refl _) rfl rfl
  · obtain rfl : j = 7 := by omega
    have t0 : ¬ ((7 : Nat) : Int) < 7 := by omega
    rw [← rowB_zero] at hBj
    have f1 := rdn_blk (w0 := w0) (n := 6) hb rfl (by omega)
    have f2 : rd1 w0 G bk 1 = some (.slice c.adr c.is.length c.cap) := by unfold rd1; rw [hb]; rfl
    have z1 : rdn w0 G bk 0 6 = _ := f1
    (all_goals (try simp only [Sq,Sr,Sh,Si,Sl,Bu,Bb,Bd,Bc,Bw,Bn,Int.reduceAdd,Int.reduceSub,Int.reduceMul,Int.reduceTDiv,Int.reduceTMod,Int.reduceMod,Int.reduceDiv,Nat.reduceLT,Nat.reduceEqDiff,Sa,Sb,Sc,Sd,Se,Sf,Sg,Int.reduceLE,Int.reduceLT,Int.reduceToNat,Int.reduceNeg,Int.reduceEq,Nat.reduceLeDiff,Nat.reducePow,Int.reducePow,reduceIte,Nat.reduceSub,Nat.reduceAdd,Nat.reduceMul,putAt,ceq,List.replicate, *])); repeat' ((first | (with_reducible refine fun _ : True => ?_) | (with_reducible refine any_h ?_) | ((first | refine AllocQ_i ?_ | refine AllocO_i ?_); intro bk hb0 hbk; (try simp only [set_none'] at hbk)) | ((first | refine condS_i ?_ ?_ | refine pick_i ?_ ?_ | refine gS_it ?_ ?_ | refine gS_if ?_ ?_ | refine gP_it ?_ ?_ | refine gP_if ?_ ?_) <;> (intro hc; try simp only [Int.reduceLE,Int.reduceLT,Int.reduceEq,Sn] at hc)) | (with_reducible refine And.intro ?_ ?_)) <;> (try simp only [Sq,Sr,Sh,Si,Sl,Bu,Bb,Bd,Bc,Bw,Bn,Int.reduceAdd,Int.reduceSub,Int.reduceMul,Int.reduceTDiv,Int.reduceTMod,Int.reduceMod,Int.reduceDiv,Nat.reduceLT,Nat.reduceEqDiff,Sa,Sb,Sc,Sd,Se,Sf,Sg,Int.reduceLE,Int.reduceLT,Int.reduceToNat,Int.reduceNeg,Int.reduceEq,Nat.reduceLeDiff,Nat.reducePow,Int.reducePow,reduceIte,Nat.reduceSub,Nat.reduceAdd,Nat.reduceMul,putAt,ceq,List.replicate, *]))
    refine loop_g 40 (fun s : Nat × (Value × Value × Value × Value) × Option Addr × Nat × Heap => [(3, .slice s.2.2.1 (28 + 64 * s.1) s.2.2.2.1), (7, s.2.1.1), (9, s.2.1.2.1), (11, s.2.1.2.2.1), (13, s.2.1.2.2.2), (39, .int .i64 (s.1 : Nat))]) (fun s => s.2.2.2.2) (fun s => s.1 ≤ c.is.length ∧ BB w0 H s.2.2.2.2 s.2.2.1 s.2.2.2.1 (rowB c s.1) ∧ Grow w0 H s.2.2.2.2 ∧ s.2.2.2.2 bk = G bk) (fun s => c.is.length - s.1) (0, (undef, undef, undef, undef), a, k, G) ⟨Nat.zero_le _, hBj, hg, rfl⟩ (Heap.Le.refl _) rfl ?_
    clear hBj hj hlt f1 f2 z1 hg g0 kb
    intro ⟨k, ⟨v7, v9, v11, v13⟩, a, kc, G0⟩ g ⟨hk, hBk, hg, hb'⟩
    simp only at hk hBk hg hb'
    rw [hb] at hb'
    by_cases hlt : k < c.is.length
    · obtain ⟨i, ei⟩ : ∃ i, c.is[k]? = some i := ⟨_, List.getElem?_eq_getElem hlt⟩
      obtain ⟨b, o, ea, hr, hf⟩ := kpy hrow G0 hg k i ei
      have t0 : (k : Int) < c.is.length := by omega
      have t6 : IntKind.i64.wrap ((k : Int) + 1) = ((k + 1 : Nat) : Int) := by rw [Bw.1 _ (by omega) (by omega)]; omega
      unfold Ins.row at hr
      have hcl : ∀ j, j ≤ 16 → (curB c k i j).length = 28 + 64 * k + 4 * j := fun j => curB_len c i hlt
      have hcs : ∀ j x, i.nums[j]? = some x → curB c k i j ++ low4 x = curB c k i (j + 1) := fun j x => curB_succ c k
      have hlo : ∀ j x (G : Heap) (K : Value → Heap → Prop), i.nums[j]? = some x → _ := fun j x G K e => kpy hlow G K x (nums_mem c ei e)
      have hwr : ∀ j x, i.nums[j]? = some x → IntKind.i64.wrap x = x := fun j x e => by
        have := kpy hBd x (nums_mem c ei e); exact Bw.1 _ this.1 this.2
      rw [← curB_zero c k i] at hBk
      have e16 := curB_16 c ei
      have hsm : 28 + 64 * k + 64 ≤ 1000000000 := by omega
      replace hsm : Keep _ := hsm
      replace hcl : Keep _ := hcl
      replace hcs : Keep _ := hcs
      replace hlo : Keep _ := hlo
      replace hwr : Keep _ := hwr
      replace e16 : Keep _ := e16
      clear hrow hlow hBd h
      obtain ⟨bo, rfl⟩ : ∃ x, x = bk := ⟨_, rfl⟩
      (all_goals (try simp only [Sq,Sr,Sh,Si,Sl,Bu,Bb,Bd,Bc,Bw,Bn,Int.reduceAdd,Int.reduceSub,Int.reduceMul,Int.reduceTDiv,Int.reduceTMod,Int.reduceMod,Int.reduceDiv,Nat.reduceLT,Nat.reduceEqDiff,Sa,Sb,Sc,Sd,Se,Sf,Sg,Int.reduceLE,Int.reduceLT,Int.reduceToNat,Int.reduceNeg,Int.reduceEq,Nat.reduceLeDiff,Nat.reducePow,Int.reducePow,reduceIte,Nat.reduceSub,Nat.reduceAdd,Nat.reduceMul,putAt,ceq,List.replicate, *])); repeat' ((first | (with_reducible refine fun _ : True => ?_) | (with_reducible refine any_h ?_) | ((first | refine AllocQ_i ?_ | refine AllocO_i ?_); intro bk hb0 hbk; (try simp only [set_none'] at hbk)) | ((first | refine condS_i ?_ ?_ | refine pick_i ?_ ?_ | refine gS_it ?_ ?_ | refine gS_if ?_ ?_ | refine gP_it ?_ ?_ | refine gP_if ?_ ?_) <;> (intro hc; try simp only [Int.reduceLE,Int.reduceLT,Int.reduceEq,Sn] at hc)) | (with_reducible refine And.intro ?_ ?_)) <;> (try simp only [Sq,Sr,Sh,Si,Sl,Bu,Bb,Bd,Bc,Bw,Bn,Int.reduceAdd,Int.reduceSub,Int.reduceMul,Int.reduceTDiv,Int.reduceTMod,Int.reduceMod,Int.reduceDiv,Nat.reduceLT,Nat.reduceEqDiff,Sa,Sb,Sc,Sd,Se,Sf,Sg,Int.reduceLE,Int.reduceLT,Int.reduceToNat,Int.reduceNeg,Int.reduceEq,Nat.reduceLeDiff,Nat.reducePow,Int.reducePow,reduceIte,Nat.reduceSub,Nat.reduceAdd,Nat.reduceMul,putAt,ceq,List.replicate, *]))
      have hbn := hg.none hbk
      refine loopq_heap ?_
      intro H1 eH
      have k1 : H1 bo = some _ := at_of eH ((Heap.set_other _ _ ((blk_ne hb' _ hbk).2)).trans hb')
      have k2 : H1 bk = some _ := at_of eH (Heap.set_same _ _ _)
      have hB0 : BB w0 H H1 a kc (curB c k i 0) := by rw [eH]; exact hBk.grow (by (repeat' (first | exact Grow.refl _ | assumption | (refine Grow_known (by first | (simp only [Heap.set_same, set_ne, ne_eq, not_false_eq_true, *] <;> rfl) | fail) ?_) | (refine Grow.set ?_ (by assumption) (by first | (simp only [*] <;> done) | (simp [set_none', Heap.set_same, set_ne, noneH, *] <;> done) | fail)) | (refine Grow.trans ?_ (by assumption)))))
      have g1 : Grow w0 H H1 := by rw [eH]; exact (by (repeat' (first | exact Grow.refl _ | assumption | (refine Grow_known (by first | (simp only [Heap.set_same, set_ne, ne_eq, not_false_eq_true, *] <;> rfl) | fail) ?_) | (refine Grow.set ?_ (by assumption) (by first | (simp only [*] <;> done) | (simp [set_none', Heap.set_same, set_ne, noneH, *] <;> done) | fail)) | (refine Grow.trans ?_ (by assumption)))))
      clear eH hBk hb0 hbk hb' hr hf hg
      have hlt' := hlt
      clear hlt
      refine loop_g 61 (fun s : Nat × Value × Option Addr × Nat × Heap => [(3, .slice s.2.2.1 (28 + 64 * k + 4 * s.1) s.2.2.2.1), (9, s.2.1), (60, .int .i64 (s.1 : Nat))]) (fun s => s.2.2.2.2) (fun s => s.1 ≤ 8 ∧ BB w0 H s.2.2.2.2 s.2.2.1 s.2.2.2.1 (curB c k i s.1) ∧ Grow w0 H s.2.2.2.2 ∧ s.2.2.2.2 bo = H1 bo ∧ s.2.2.2.2 bk = H1 bk) (fun s => 8 - s.1) (0, v9, a, kc, H1) ⟨Nat.zero_le _, hB0, g1, rfl, rfl⟩ (Heap.Le.refl _) rfl ?_
      clear hB0 g1 t0
      intro ⟨j, v9, a, kc, G1⟩ g ⟨hj, hB1, hg1, b1, b2⟩
      simp only at hj hB1 hg1 b1 b2
      rw [k1] at b1
      rw [k2] at b2
      have kk1 : Keep _ := k1
      have kk2 : Keep _ := k2
      clear k1 k2
      by_cases hlt : j < 8
      · obtain ⟨x, ex⟩ : ∃ x, i.nums[j]? = some x := ⟨_, List.getElem?_eq_getElem (by rw [show i.nums.length = 16 from rfl]; omega)⟩
        have el : [Value.int .i64 i.op, .int .i64 i.fn, .int .i64 i.bs, .int .i64 i.n, .int .i64 i.dst, .int .i64 i.a, .int .i64 i.b, .int .i64 i.c][j]? = some (.int .i64 x) := by
          have : [Value.int .i64 i.op, .int .i64 i.fn, .int .i64 i.bs, .int .i64 i.n, .int .i64 i.dst, .int .i64 i.a, .int .i64 i.b, .int .i64 i.c] = (i.nums.take 8).map fun x => .int .i64 x := rfl
          rw [this, List.getElem?_map, List.getElem?_take_of_lt hlt, ex]; rfl
        have t0 : (j : Int) < 8 := by omega
        have t6 : IntKind.i64.wrap ((j : Int) + 1) = ((j + 1 : Nat) : Int) := by rw [Bw.1 _ (by omega) (by omega)]; omega
        have hln := kpy hcl j (by omega)
        have hl1 := fun (G : Heap) (K : Value → Heap → Prop) => kpy hlo j x G K ex
        have es := kpy hcs j x ex
        replace hln : Keep _ := hln
        replace hl1 : Keep _ := hl1
        replace es : Keep _ := es
        clear hcl hcs hlo hwr e16 ex
        (all_goals (try simp only [Sq,Sr,Sh,Si,Sl,Bu,Bb,Bd,Bc,Bw,Bn,Int.reduceAdd,Int.reduceSub,Int.reduceMul,Int.reduceTDiv,Int.reduceTMod,Int.reduceMod,Int.reduceDiv,Nat.reduceLT,Nat.reduceEqDiff,Sa,Sb,Sc,Sd,Se,Sf,Sg,Int.reduceLE,Int.reduceLT,Int.reduceToNat,Int.reduceNeg,Int.reduceEq,Nat.reduceLeDiff,Nat.reducePow,Int.reducePow,reduceIte,Nat.reduceSub,Nat.reduceAdd,Nat.reduceMul,putAt,ceq,List.replicate, *])); repeat' ((first | (with_reducible refine fun _ : True => ?_) | refine hl1 _ _ (fun b4 G4 h4 hg4 => ?_)  | (with_reducible refine any_h ?_) | ((first | refine AllocQ_i ?_ | refine AllocO_i ?_); intro bk hb0 hbk; (try simp only [set_none'] at hbk)) | ((first | refine condS_i ?_ ?_ | refine pick_i ?_ ?_ | refine gS_it ?_ ?_ | refine gS_if ?_ ?_ | refine gP_it ?_ ?_ | refine gP_if ?_ ?_) <;> (intro hc; try simp only [Int.reduceLE,Int.reduceLT,Int.reduceEq,Sn] at hc)) | (with_reducible refine And.intro ?_ ?_)) <;> (try simp only [Sq,Sr,Sh,Si,Sl,Bu,Bb,Bd,Bc,Bw,Bn,Int.reduceAdd,Int.reduceSub,Int.reduceMul,Int.reduceTDiv,Int.reduceTMod,Int.reduceMod,Int.reduceDiv,Nat.reduceLT,Nat.reduceEqDiff,Sa,Sb,Sc,Sd,Se,Sf,Sg,Int.reduceLE,Int.reduceLT,Int.reduceToNat,Int.reduceNeg,Int.reduceEq,Nat.reduceLeDiff,Nat.reducePow,Int.reducePow,reduceIte,Nat.reduceSub,Nat.reduceAdd,Nat.reduceMul,putAt,ceq,List.replicate, *]))
        refine app_low (hB1.grow hg4) (hg1.trans hg4) h4 (kpy hln) (by have := kpy hsm; omega) (fun a' k' G' hB5 hg5 hk5 => ?_)
        have q1 := hk5 bo _ (hg4.some b1) (fun e => by cases e)
        have q2 := hk5 bk _ (hg4.some b2) (fun e => by cases e)
        rw [kpy es] at hB5
        rw [show 28 + 64 * k + 4 * j + 4 = 28 + 64 * k + 4 * (j + 1) by omega]
        clear hB1 h4 hk5 b1 b2
        (all_goals (try simp only [Sq,Sr,Sh,Si,Sl,Bu,Bb,Bd,Bc,Bw,Bn,Int.reduceAdd,Int.reduceSub,Int.reduceMul,Int.reduceTDiv,Int.reduceTMod,Int.reduceMod,Int.reduceDiv,Nat.reduceLT,Nat.reduceEqDiff,Sa,Sb,Sc,Sd,Se,Sf,Sg,Int.reduceLE,Int.reduceLT,Int.reduceToNat,Int.reduceNeg,Int.reduceEq,Nat.reduceLeDiff,Nat.reducePow,Int.reducePow,reduceIte,Nat.reduceSub,Nat.reduceAdd,Nat.reduceMul,putAt,ceq,List.replicate, *])); repeat' ((first | (with_reducible refine fun _ : True => ?_) | (with_reducible refine any_h ?_) | ((first | refine AllocQ_i ?_ | refine AllocO_i ?_); intro bk hb0 hbk; (try simp only [set_none'] at hbk)) | ((first | refine condS_i ?_ ?_ | refine pick_i ?_ ?_ | refine gS_it ?_ ?_ | refine gS_if ?_ ?_ | refine gP_it ?_ ?_ | refine gP_if ?_ ?_) <;> (intro hc; try simp only [Int.reduceLE,Int.reduceLT,Int.reduceEq,Sn] at hc)) | (with_reducible refine And.intro ?_ ?_)) <;> (try simp only [Sq,Sr,Sh,Si,Sl,Bu,Bb,Bd,Bc,Bw,Bn,Int.reduceAdd,Int.reduceSub,Int.reduceMul,Int.reduceTDiv,Int.reduceTMod,Int.reduceMod,Int.reduceDiv,Nat.reduceLT,Nat.reduceEqDiff,Sa,Sb,Sc,Sd,Se,Sf,Sg,Int.reduceLE,Int.reduceLT,Int.reduceToNat,Int.reduceNeg,Int.reduceEq,Nat.reduceLeDiff,Nat.reducePow,Int.reducePow,reduceIte,Nat.reduceSub,Nat.reduceAdd,Nat.reduceMul,putAt,ceq,List.replicate, *]))
        exact Round_mk (j + 1, _, a', k', G') ⟨hlt, hB5, hg5, q1.trans (kpy kk1).symm, q2.trans (kpy kk2).symm⟩ (Nat.sub_succ_lt_self 8 j hlt) (Heap.Le.refl _) rfl rfl
      obtain rfl : j = 8 := by omega
      have t0 : ¬ ((8 : Nat) : Int) < 8 := by omega
      have k1 := b1
      have k2 := b2
      clear b1 b2 kk1 kk2
      have z2 : rdn w0 G1 bk 8 4 = some [.int .i32 i.m0, .int .i32 i.m1, .int .i32 i.m2, .int .i32 i.m3] := rdn_sub k2 rfl rfl (by omega)
      (all_goals (try simp only [Sq,Sr,Sh,Si,Sl,Bu,Bb,Bd,Bc,Bw,Bn,Int.reduceAdd,Int.reduceSub,Int.reduceMul,Int.reduceTDiv,Int.reduceTMod,Int.reduceMod,Int.reduceDiv,Nat.reduceLT,Nat.reduceEqDiff,Sa,Sb,Sc,Sd,Se,Sf,Sg,Int.reduceLE,Int.reduceLT,Int.reduceToNat,Int.reduceNeg,Int.reduceEq,Nat.reduceLeDiff,Nat.reducePow,Int.reducePow,reduceIte,Nat.reduceSub,Nat.reduceAdd,Nat.reduceMul,putAt,ceq,List.replicate, *])); repeat' ((first | (with_reducible refine fun _ : True => ?_) | (with_reducible refine any_h ?_) | ((first | refine AllocQ_i ?_ | refine AllocO_i ?_); intro bk hb0 hbk; (try simp only [set_none'] at hbk)) | ((first | refine condS_i ?_ ?_ | refine pick_i ?_ ?_ | refine gS_it ?_ ?_ | refine gS_if ?_ ?_ | refine gP_it ?_ ?_ | refine gP_if ?_ ?_) <;> (intro hc; try simp only [Int.reduceLE,Int.reduceLT,Int.reduceEq,Sn] at hc)) | (with_reducible refine And.intro ?_ ?_)) <;> (try simp only [Sq,Sr,Sh,Si,Sl,Bu,Bb,Bd,Bc,Bw,Bn,Int.reduceAdd,Int.reduceSub,Int.reduceMul,Int.reduceTDiv,Int.reduceTMod,Int.reduceMod,Int.reduceDiv,Nat.reduceLT,Nat.reduceEqDiff,Sa,Sb,Sc,Sd,Se,Sf,Sg,Int.reduceLE,Int.reduceLT,Int.reduceToNat,Int.reduceNeg,Int.reduceEq,Nat.reduceLeDiff,Nat.reducePow,Int.reducePow,reduceIte,Nat.reduceSub,Nat.reduceAdd,Nat.reduceMul,putAt,ceq,List.replicate, *]))
      clear z2
      refine loop_g 71 (fun s : Nat × Value × Option Addr × Nat × Heap => [(3, .slice s.2.2.1 (28 + 64 * k + 4 * (8 + s.1)) s.2.2.2.1), (11, s.2.1), (70, .int .i64 (s.1 : Nat))]) (fun s => s.2.2.2.2) (fun s => s.1 ≤ 4 ∧ BB w0 H s.2.2.2.2 s.2.2.1 s.2.2.2.1 (curB c k i (8 + s.1)) ∧ Grow w0 H s.2.2.2.2 ∧ s.2.2.2.2 bo = G1 bo ∧ s.2.2.2.2 bk = G1 bk) (fun s => 4 - s.1) (0, v11, a, kc, G1) ⟨Nat.zero_le _, hB1, hg1, rfl, rfl⟩ (Heap.Le.refl _) rfl ?_
      clear hB1 hg1 t0 hlt
      intro ⟨j, v11, a, kc, G2⟩ g ⟨hj, hB2, hg2, b1, b2⟩
      simp only at hj hB2 hg2 b1 b2
      rw [k1] at b1
      rw [k2] at b2
      have kk1 : Keep _ := k1
      have kk2 : Keep _ := k2
      clear k1 k2
      by_cases hlt : j < 4
      · obtain ⟨x, ex⟩ : ∃ x, i.nums[8 + j]? = some x := ⟨_, List.getElem?_eq_getElem (by rw [show i.nums.length = 16 from rfl]; omega)⟩
        have el : [Value.int .i32 i.m0, .int .i32 i.m1, .int .i32 i.m2, .int .i32 i.m3][j]? = some (.int .i32 x) := by
          have : [Value.int .i32 i.m0, .int .i32 i.m1, .int .i32 i.m2, .int .i32 i.m3] = ((i.nums.drop 8).take 4).map fun x => .int .i32 x := rfl
          rw [this, List.getElem?_map, List.getElem?_take_of_lt hlt, List.getElem?_drop, ex]; rfl
        have t0 : (j : Int) < 4 := by omega
        have t6 : IntKind.i64.wrap ((j : Int) + 1) = ((j + 1 : Nat) : Int) := by rw [Bw.1 _ (by omega) (by omega)]; omega
        have hln := kpy hcl (8 + j) (by omega)
        have hl1 := fun (G : Heap) (K : Value → Heap → Prop) => kpy hlo (8 + j) x G K ex
        have es := kpy hcs (8 + j) x ex
        have ew := kpy hwr _ x ex
        replace hln : Keep _ := hln
        replace hl1 : Keep _ := hl1
        replace es : Keep _ := es
        clear hcl hcs hlo hwr e16 ex
        (all_goals (try simp only [Sq,Sr,Sh,Si,Sl,Bu,Bb,Bd,Bc,Bw,Bn,Int.reduceAdd,Int.reduceSub,Int.reduceMul,Int.reduceTDiv,Int.reduceTMod,Int.reduceMod,Int.reduceDiv,Nat.reduceLT,Nat.reduceEqDiff,Sa,Sb,Sc,Sd,Se,Sf,Sg,Int.reduceLE,Int.reduceLT,Int.reduceToNat,Int.reduceNeg,Int.reduceEq,Nat.reduceLeDiff,Nat.reducePow,Int.reducePow,reduceIte,Nat.reduceSub,Nat.reduceAdd,Nat.reduceMul,putAt,ceq,List.replicate, *])); repeat' ((first | (with_reducible refine fun _ : True => ?_) | refine hl1 _ _ (fun b4 G4 h4 hg4 => ?_)  | (with_reducible refine any_h ?_) | ((first | refine AllocQ_i ?_ | refine AllocO_i ?_); intro bk hb0 hbk; (try simp only [set_none'] at hbk)) | ((first | refine condS_i ?_ ?_ | refine pick_i ?_ ?_ | refine gS_it ?_ ?_ | refine gS_if ?_ ?_ | refine gP_it ?_ ?_ | refine gP_if ?_ ?_) <;> (intro hc; try simp only [Int.reduceLE,Int.reduceLT,Int.reduceEq,Sn] at hc)) | (with_reducible refine And.intro ?_ ?_)) <;> (try simp only [Sq,Sr,Sh,Si,Sl,Bu,Bb,Bd,Bc,Bw,Bn,Int.reduceAdd,Int.reduceSub,Int.reduceMul,Int.reduceTDiv,Int.reduceTMod,Int.reduceMod,Int.reduceDiv,Nat.reduceLT,Nat.reduceEqDiff,Sa,Sb,Sc,Sd,Se,Sf,Sg,Int.reduceLE,Int.reduceLT,Int.reduceToNat,Int.reduceNeg,Int.reduceEq,Nat.reduceLeDiff,Nat.reducePow,Int.reducePow,reduceIte,Nat.reduceSub,Nat.reduceAdd,Nat.reduceMul,putAt,ceq,List.replicate, *]))
        refine app_low (hB2.grow hg4) (hg2.trans hg4) h4 (kpy hln) (by have := kpy hsm; omega) (fun a' k' G' hB5 hg5 hk5 => ?_)
        have q1 := hk5 bo _ (hg4.some b1) (fun e => by cases e)
        have q2 := hk5 bk _ (hg4.some b2) (fun e => by cases e)
        rw [kpy es] at hB5
        rw [show 28 + 64 * k + 4 * (8 + j) + 4 = 28 + 64 * k + 4 * (8 + (j + 1)) by omega]
        clear hB2 h4 hk5 b1 b2
        (all_goals (try simp only [Sq,Sr,Sh,Si,Sl,Bu,Bb,Bd,Bc,Bw,Bn,Int.reduceAdd,Int.reduceSub,Int.reduceMul,Int.reduceTDiv,Int.reduceTMod,Int.reduceMod,Int.reduceDiv,Nat.reduceLT,Nat.reduceEqDiff,Sa,Sb,Sc,Sd,Se,Sf,Sg,Int.reduceLE,Int.reduceLT,Int.reduceToNat,Int.reduceNeg,Int.reduceEq,Nat.reduceLeDiff,Nat.reducePow,Int.reducePow,reduceIte,Nat.reduceSub,Nat.reduceAdd,Nat.reduceMul,putAt,ceq,List.replicate, *])); repeat' ((first | (with_reducible refine fun _ : True => ?_) | (with_reducible refine any_h ?_) | ((first | refine AllocQ_i ?_ | refine AllocO_i ?_); intro bk hb0 hbk; (try simp only [set_none'] at hbk)) | ((first | refine condS_i ?_ ?_ | refine pick_i ?_ ?_ | refine gS_it ?_ ?_ | refine gS_if ?_ ?_ | refine gP_it ?_ ?_ | refine gP_if ?_ ?_) <;> (intro hc; try simp only [Int.reduceLE,Int.reduceLT,Int.reduceEq,Sn] at hc)) | (with_reducible refine And.intro ?_ ?_)) <;> (try simp only [Sq,Sr,Sh,Si,Sl,Bu,Bb,Bd,Bc,Bw,Bn,Int.reduceAdd,Int.reduceSub,Int.reduceMul,Int.reduceTDiv,Int.reduceTMod,Int.reduceMod,Int.reduceDiv,Nat.reduceLT,Nat.reduceEqDiff,Sa,Sb,Sc,Sd,Se,Sf,Sg,Int.reduceLE,Int.reduceLT,Int.reduceToNat,Int.reduceNeg,Int.reduceEq,Nat.reduceLeDiff,Nat.reducePow,Int.reducePow,reduceIte,Nat.reduceSub,Nat.reduceAdd,Nat.reduceMul,putAt,ceq,List.replicate, *]))
        exact Round_mk (j + 1, _, a', k', G') ⟨hlt, hB5, hg5, q1.trans (kpy kk1).symm, q2.trans (kpy kk2).symm⟩ (Nat.sub_succ_lt_self 4 j hlt) (Heap.Le.refl _) rfl rfl
      obtain rfl : j = 4 := by omega
      have t0 : ¬ ((4 : Nat) : Int) < 4 := by omega
      have k1 := b1
      have k2 := b2
      clear b1 b2 kk1 kk2
      have z2 : rdn w0 G2 bk 12 4 = some [.int .i64 i.p0, .int .i64 i.p1, .int .i64 i.p2, .int .i64 i.p3] := rdn_sub k2 rfl rfl (by omega)
      (all_goals (try simp only [Sq,Sr,Sh,Si,Sl,Bu,Bb,Bd,Bc,Bw,Bn,Int.reduceAdd,Int.reduceSub,Int.reduceMul,Int.reduceTDiv,Int.reduceTMod,Int.reduceMod,Int.reduceDiv,Nat.reduceLT,Nat.reduceEqDiff,Sa,Sb,Sc,Sd,Se,Sf,Sg,Int.reduceLE,Int.reduceLT,Int.reduceToNat,Int.reduceNeg,Int.reduceEq,Nat.reduceLeDiff,Nat.reducePow,Int.reducePow,reduceIte,Nat.reduceSub,Nat.reduceAdd,Nat.reduceMul,putAt,ceq,List.replicate, *])); repeat' ((first | (with_reducible refine fun _ : True => ?_) | (with_reducible refine any_h ?_) | ((first | refine AllocQ_i ?_ | refine AllocO_i ?_); intro bk hb0 hbk; (try simp only [set_none'] at hbk)) | ((first | refine condS_i ?_ ?_ | refine pick_i ?_ ?_ | refine gS_it ?_ ?_ | refine gS_if ?_ ?_ | refine gP_it ?_ ?_ | refine gP_if ?_ ?_) <;> (intro hc; try simp only [Int.reduceLE,Int.reduceLT,Int.reduceEq,Sn] at hc)) | (with_reducible refine And.intro ?_ ?_)) <;> (try simp only [Sq,Sr,Sh,Si,Sl,Bu,Bb,Bd,Bc,Bw,Bn,Int.reduceAdd,Int.reduceSub,Int.reduceMul,Int.reduceTDiv,Int.reduceTMod,Int.reduceMod,Int.reduceDiv,Nat.reduceLT,Nat.reduceEqDiff,Sa,Sb,Sc,Sd,Se,Sf,Sg,Int.reduceLE,Int.reduceLT,Int.reduceToNat,Int.reduceNeg,Int.reduceEq,Nat.reduceLeDiff,Nat.reducePow,Int.reducePow,reduceIte,Nat.reduceSub,Nat.reduceAdd,Nat.reduceMul,putAt,ceq,List.replicate, *]))
      clear z2
      refine loop_g 82 (fun s : Nat × Value × Option Addr × Nat × Heap => [(3, .slice s.2.2.1 (28 + 64 * k + 4 * (12 + s.1)) s.2.2.2.1), (13, s.2.1), (81, .int .i64 (s.1 : Nat))]) (fun s => s.2.2.2.2) (fun s => s.1 ≤ 4 ∧ BB w0 H s.2.2.2.2 s.2.2.1 s.2.2.2.1 (curB c k i (12 + s.1)) ∧ Grow w0 H s.2.2.2.2 ∧ s.2.2.2.2 bo = G2 bo ∧ s.2.2.2.2 bk = G2 bk) (fun s => 4 - s.1) (0, v13, a, kc, G2) ⟨Nat.zero_le _, hB2, hg2, rfl, rfl⟩ (Heap.Le.refl _) rfl ?_
      clear hB2 hg2 t0 hlt
      intro ⟨j, v13, a, kc, G3⟩ g ⟨hj, hB3, hg3, b1, b2⟩
      simp only at hj hB3 hg3 b1 b2
      rw [k1] at b1
      rw [k2] at b2
      have kk1 : Keep _ := k1
      have kk2 : Keep _ := k2
      clear k1 k2
      by_cases hlt : j < 4
      · obtain ⟨x, ex⟩ : ∃ x, i.nums[12 + j]? = some x := ⟨_, List.getElem?_eq_getElem (by rw [show i.nums.length = 16 from rfl]; omega)⟩
        have el : [Value.int .i64 i.p0, .int .i64 i.p1, .int .i64 i.p2, .int .i64 i.p3][j]? = some (.int .i64 x) := by
          have : [Value.int .i64 i.p0, .int .i64 i.p1, .int .i64 i.p2, .int .i64 i.p3] = ((i.nums.drop 12).take 4).map fun x => .int .i64 x := rfl
          rw [this, List.getElem?_map, List.getElem?_take_of_lt hlt, List.getElem?_drop, ex]; rfl
        have t0 : (j : Int) < 4 := by omega
        have t6 : IntKind.i64.wrap ((j : Int) + 1) = ((j + 1 : Nat) : Int) := by rw [Bw.1 _ (by omega) (by omega)]; omega
        have hln := kpy hcl (12 + j) (by omega)
        have hl1 := fun (G : Heap) (K : Value → Heap → Prop) => kpy hlo (12 + j) x G K ex
        have es := kpy hcs (12 + j) x ex
        replace hln : Keep _ := hln
        replace hl1 : Keep _ := hl1
        replace es : Keep _ := es
        clear hcl hcs hlo hwr e16 ex
        (all_goals (try simp only [Sq,Sr,Sh,Si,Sl,Bu,Bb,Bd,Bc,Bw,Bn,Int.reduceAdd,Int.reduceSub,Int.reduceMul,Int.reduceTDiv,Int.reduceTMod,Int.reduceMod,Int.reduceDiv,Nat.reduceLT,Nat.reduceEqDiff,Sa,Sb,Sc,Sd,Se,Sf,Sg,Int.reduceLE,Int.reduceLT,Int.reduceToNat,Int.reduceNeg,Int.reduceEq,Nat.reduceLeDiff,Nat.reducePow,Int.reducePow,reduceIte,Nat.reduceSub,Nat.reduceAdd,Nat.reduceMul,putAt,ceq,List.replicate, *])); repeat' ((first | (with_reducible refine fun _ : True => ?_) | refine hl1 _ _ (fun b4 G4 h4 hg4 => ?_)  | (with_reducible refine any_h ?_) | ((first | refine AllocQ_i ?_ | refine AllocO_i ?_); intro bk hb0 hbk; (try simp only [set_none'] at hbk)) | ((first | refine condS_i ?_ ?_ | refine pick_i ?_ ?_ | refine gS_it ?_ ?_ | refine gS_if ?_ ?_ | refine gP_it ?_ ?_ | refine gP_if ?_ ?_) <;> (intro hc; try simp only [Int.reduceLE,Int.reduceLT,Int.reduceEq,Sn] at hc)) | (with_reducible refine And.intro ?_ ?_)) <;> (try simp only [Sq,Sr,Sh,Si,Sl,Bu,Bb,Bd,Bc,Bw,Bn,Int.reduceAdd,Int.reduceSub,Int.reduceMul,Int.reduceTDiv,Int.reduceTMod,Int.reduceMod,Int.reduceDiv,Nat.reduceLT,Nat.reduceEqDiff,Sa,Sb,Sc,Sd,Se,Sf,Sg,Int.reduceLE,Int.reduceLT,Int.reduceToNat,Int.reduceNeg,Int.reduceEq,Nat.reduceLeDiff,Nat.reducePow,Int.reducePow,reduceIte,Nat.reduceSub,Nat.reduceAdd,Nat.reduceMul,putAt,ceq,List.replicate, *]))
        refine app_low (hB3.grow hg4) (hg3.trans hg4) h4 (kpy hln) (by have := kpy hsm; omega) (fun a' k' G' hB5 hg5 hk5 => ?_)
        have q1 := hk5 bo _ (hg4.some b1) (fun e => by cases e)
        have q2 := hk5 bk _ (hg4.some b2) (fun e => by cases e)
        rw [kpy es] at hB5
        rw [show 28 + 64 * k + 4 * (12 + j) + 4 = 28 + 64 * k + 4 * (12 + (j + 1)) by omega]
        clear hB3 h4 hk5 b1 b2
        (all_goals (try simp only [Sq,Sr,Sh,Si,Sl,Bu,Bb,Bd,Bc,Bw,Bn,Int.reduceAdd,Int.reduceSub,Int.reduceMul,Int.reduceTDiv,Int.reduceTMod,Int.reduceMod,Int.reduceDiv,Nat.reduceLT,Nat.reduceEqDiff,Sa,Sb,Sc,Sd,Se,Sf,Sg,Int.reduceLE,Int.reduceLT,Int.reduceToNat,Int.reduceNeg,Int.reduceEq,Nat.reduceLeDiff,Nat.reducePow,Int.reducePow,reduceIte,Nat.reduceSub,Nat.reduceAdd,Nat.reduceMul,putAt,ceq,List.replicate, *])); repeat' ((first | (with_reducible refine fun _ : True => ?_) | (with_reducible refine any_h ?_) | ((first | refine AllocQ_i ?_ | refine AllocO_i ?_); intro bk hb0 hbk; (try simp only [set_none'] at hbk)) | ((first | refine condS_i ?_ ?_ | refine pick_i ?_ ?_ | refine gS_it ?_ ?_ | refine gS_if ?_ ?_ | refine gP_it ?_ ?_ | refine gP_if ?_ ?_) <;> (intro hc; try simp only [Int.reduceLE,Int.reduceLT,Int.reduceEq,Sn] at hc)) | (with_reducible refine And.intro ?_ ?_)) <;> (try simp only [Sq,Sr,Sh,Si,Sl,Bu,Bb,Bd,Bc,Bw,Bn,Int.reduceAdd,Int.reduceSub,Int.reduceMul,Int.reduceTDiv,Int.reduceTMod,Int.reduceMod,Int.reduceDiv,Nat.reduceLT,Nat.reduceEqDiff,Sa,Sb,Sc,Sd,Se,Sf,Sg,Int.reduceLE,Int.reduceLT,Int.reduceToNat,Int.reduceNeg,Int.reduceEq,Nat.reduceLeDiff,Nat.reducePow,Int.reducePow,reduceIte,Nat.reduceSub,Nat.reduceAdd,Nat.reduceMul,putAt,ceq,List.replicate, *]))
        exact Round_mk (j + 1, _, a', k', G') ⟨hlt, hB5, hg5, q1.trans (kpy kk1).symm, q2.trans (kpy kk2).symm⟩ (Nat.sub_succ_lt_self 4 j hlt) (Heap.Le.refl _) rfl rfl
      obtain rfl : j = 4 := by omega
      have t0 : ¬ ((4 : Nat) : Int) < 4 := by omega
      have k1 := b1
      have k2 := b2
      clear b1 b2 kk1 kk2
      have hB4 : BB w0 H G3 a kc (rowB c (k + 1)) := by rw [← kpy e16]; exact hB3
      (all_goals (try simp only [Sq,Sr,Sh,Si,Sl,Bu,Bb,Bd,Bc,Bw,Bn,Int.reduceAdd,Int.reduceSub,Int.reduceMul,Int.reduceTDiv,Int.reduceTMod,Int.reduceMod,Int.reduceDiv,Nat.reduceLT,Nat.reduceEqDiff,Sa,Sb,Sc,Sd,Se,Sf,Sg,Int.reduceLE,Int.reduceLT,Int.reduceToNat,Int.reduceNeg,Int.reduceEq,Nat.reduceLeDiff,Nat.reducePow,Int.reducePow,reduceIte,Nat.reduceSub,Nat.reduceAdd,Nat.reduceMul,putAt,ceq,List.replicate, *])); repeat' ((first | (with_reducible refine fun _ : True => ?_) | (with_reducible refine any_h ?_) | ((first | refine AllocQ_i ?_ | refine AllocO_i ?_); intro bk hb0 hbk; (try simp only [set_none'] at hbk)) | ((first | refine condS_i ?_ ?_ | refine pick_i ?_ ?_ | refine gS_it ?_ ?_ | refine gS_if ?_ ?_ | refine gP_it ?_ ?_ | refine gP_if ?_ ?_) <;> (intro hc; try simp only [Int.reduceLE,Int.reduceLT,Int.reduceEq,Sn] at hc)) | (with_reducible refine And.intro ?_ ?_)) <;> (try simp only [Sq,Sr,Sh,Si,Sl,Bu,Bb,Bd,Bc,Bw,Bn,Int.reduceAdd,Int.reduceSub,Int.reduceMul,Int.reduceTDiv,Int.reduceTMod,Int.reduceMod,Int.reduceDiv,Nat.reduceLT,Nat.reduceEqDiff,Sa,Sb,Sc,Sd,Se,Sf,Sg,Int.reduceLE,Int.reduceLT,Int.reduceToNat,Int.reduceNeg,Int.reduceEq,Nat.reduceLeDiff,Nat.reducePow,Int.reducePow,reduceIte,Nat.reduceSub,Nat.reduceAdd,Nat.reduceMul,putAt,ceq,List.replicate, *]))
      exact Round_mk (k + 1, (_, _, _, _), a, kc, G3) ⟨hlt', hB4, hg3, k1.trans (by rw [ea])⟩ (Nat.sub_succ_lt_self _ k hlt') (Heap.Le.refl _) rfl rfl
    · obtain rfl : k = c.is.length := by omega
      have t0 : ¬ (c.is.length : Int) < (c.is.length : Int) := by omega
      rw [rowB_all] at hBk
      have e5 : 28 + 64 * c.is.length = c.bytes.length := by rw [← rowB_all, rowB_len c (Nat.le_refl _)]
      have hK := kpy h a kc G0 hBk hg
      clear hrow hlow hBk h hBd
      replace hK : Keep _ := hK
      (all_goals (try simp only [Sq,Sr,Sh,Si,Sl,Bu,Bb,Bd,Bc,Bw,Bn,Int.reduceAdd,Int.reduceSub,Int.reduceMul,Int.reduceTDiv,Int.reduceTMod,Int.reduceMod,Int.reduceDiv,Nat.reduceLT,Nat.reduceEqDiff,Sa,Sb,Sc,Sd,Se,Sf,Sg,Int.reduceLE,Int.reduceLT,Int.reduceToNat,Int.reduceNeg,Int.reduceEq,Nat.reduceLeDiff,Nat.reducePow,Int.reducePow,reduceIte,Nat.reduceSub,Nat.reduceAdd,Nat.reduceMul,putAt,ceq,List.replicate, *])); repeat' ((first | (with_reducible refine fun _ : True => ?_) | (with_reducible refine any_h ?_) | ((first | refine AllocQ_i ?_ | refine AllocO_i ?_); intro bk hb0 hbk; (try simp only [set_none'] at hbk)) | ((first | refine condS_i ?_ ?_ | refine pick_i ?_ ?_ | refine gS_it ?_ ?_ | refine gS_if ?_ ?_ | refine gP_it ?_ ?_ | refine gP_if ?_ ?_) <;> (intro hc; try simp only [Int.reduceLE,Int.reduceLT,Int.reduceEq,Sn] at hc)) | (with_reducible refine And.intro ?_ ?_)) <;> (try simp only [Sq,Sr,Sh,Si,Sl,Bu,Bb,Bd,Bc,Bw,Bn,Int.reduceAdd,Int.reduceSub,Int.reduceMul,Int.reduceTDiv,Int.reduceTMod,Int.reduceMod,Int.reduceDiv,Nat.reduceLT,Nat.reduceEqDiff,Sa,Sb,Sc,Sd,Se,Sf,Sg,Int.reduceLE,Int.reduceLT,Int.reduceToNat,Int.reduceNeg,Int.reduceEq,Nat.reduceLeDiff,Nat.reducePow,Int.reducePow,reduceIte,Nat.reduceSub,Nat.reduceAdd,Nat.reduceMul,putAt,ceq,List.replicate, *]))
      exact Fin_mk (Heap.Le.refl _) (kpy hK)
end Go.Proofs.Ytndgmnmnpfblmaa
