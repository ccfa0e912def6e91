/- The statement ImageBack, as a call (layer 8). -/
import Derived.Test.YtdaipgnhconfnaaIrg
import Derived.Test.YtdaipgnhconfnaaWk8
set_option linter.unusedSimpArgs false
set_option linter.unusedVariables false
set_option maxRecDepth 100000
set_option maxHeartbeats 4000000
namespace Go.Proofs.Ytdaipgnhconfnaa
open Go Go.HL Go.RowKit Pb
variable {w0 : World} {H G : Heap} {K : Value → Heap → Prop}

theorem cShort {x : Im} (hx : ImOk w0 H x) (G : Heap) (K : Value → Heap → Prop) (g : Grow w0 H G)
    (h : ∀ y H' Hy, x.Short y → ImOk w0 Hy y → Grow w0 Hy H' → (∀ b, w0.heap.size ≤ b → (G b).isSome = true → Hy b = none) → (∀ b, H' b = none → Hy b = none) → Grow w0 H H' → Grow w0 G H' → K y.v H') :
    HCalls Try.prog w0 13 [x.v] G K :=
  l_short x (hx.grow g) fun y H' hE hC hg => h y H' (newHp w0 G H') hE hC.newHp.ok (newHp_grow hg) (fun b h1 h2 => by unfold newHp; rw [if_pos ⟨h1, h2⟩]) (fun b e => (newHp_grow hg).none e) (g.trans hg) hg
theorem hc_heap {f : FuncId} {args : List Value} (h : ∀ G, G = H → HCalls Try.prog w0 f args G K) : HCalls Try.prog w0 f args H K := h H rfl
def cutV (lv : Int) (p : Pc) (a : Option Addr) (n c : Nat) : Value := .agg #[.int .i64 lv, .int .i64 p.x, .int .i64 p.y, .int .i64 p.w, .int .i64 p.h, .slice a n c]
theorem BsOk.cut {a : Option Addr} {c : Nat} {l : List Int} (h : BsOk w0 H a c l) (n : Nat) : BsOk w0 H a c (l.take n) := by
  refine ⟨ints_take h.at_ n, ?_, h.pl, fun v hv => h.by_ v (List.mem_of_mem_take hv)⟩
  have := h.cap
  rw [List.length_take]
  omega
theorem slc_hi {φ : Value → Prop} {a : Option Addr} {len cap sz m : Nat} {k : IntKind} (h1 : (m : Int) ≤ (cap : Int)) (h : φ (.slice a m cap)) : slcQ φ sz (.slice a len cap) none (some (.int k (m : Nat))) := by
  cases a with
  | none => exact ⟨by omega, h1, h⟩
  | some ad =>
    obtain ⟨b, o, s⟩ := ad
    cases s <;> exact ⟨by omega, h1, h⟩
/- paintboxlaw08 ImageBack -/
def M11 : MC :=
  .seq (.reg [⟨(some 2), .box 24 (.tmp 0), none⟩,
 ⟨(some 3), .box 51 (.tmp 1), none⟩,
 ⟨(some 4), .mv (.const (.bool false)), none⟩])
 (.seq (.seq (.reg [⟨(some 11), .call 12 [], none⟩,
 ⟨(some 12), .un .not (.tmp 11), none⟩])
 (.cond (.tmp 12)
 (.seq (.reg [⟨(some 4), .mv (.const (.bool false)), none⟩])
 (.ret))
 (.skip)))
 (.seq (.reg [⟨(some 13), .ldn 6 (.tmp 2), none⟩,
 ⟨(some 14), .call 13 [(.tmp 13)], none⟩,
 ⟨none, .stn 6 (.tmp 2) (.tmp 14), none⟩])
 (.seq (.reg [⟨(some 15), .fa 5 (.tmp 3), none⟩,
 ⟨(some 16), .ld1 (.tmp 15), none⟩,
 ⟨(some 17), .fa 5 (.tmp 3), none⟩,
 ⟨(some 18), .ld1 (.tmp 17), none⟩,
 ⟨(some 19), .len (.tmp 18), none⟩,
 ⟨(some 20), .mn (.tmp 19) (.const (.int .i64 20000)), none⟩,
 ⟨(some 21), .slc 1 (.tmp 16) none (some (.tmp 20)), none⟩,
 ⟨(some 22), .fa 5 (.tmp 3), none⟩,
 ⟨none, .st1 (.tmp 22) (.tmp 21), none⟩])
 (.seq (.reg [⟨(some 24), .ldn 6 (.tmp 2), none⟩,
 ⟨(some 25), .fa 0 (.tmp 3), none⟩,
 ⟨(some 26), .ld1 (.tmp 25), none⟩,
 ⟨(some 27), .fa 1 (.tmp 3), none⟩,
 ⟨(some 28), .ldn 4 (.tmp 27), none⟩,
 ⟨(some 29), .fa 5 (.tmp 3), none⟩,
 ⟨(some 30), .ld1 (.tmp 29), none⟩,
 ⟨(some 31), .call 34 [(.tmp 24), (.tmp 26), (.tmp 28), (.tmp 30)], none⟩,
 ⟨(some 23), .mv (.tmp 31), none⟩,
 ⟨(some 32), .ext 0 (.tmp 23), none⟩,
 ⟨(some 33), .ext 1 (.tmp 23), none⟩,
 ⟨(some 5), .alloc 24 [(.int .i64 0), (.slice none 0 0), (.int .i64 0), (.int .i64 0), (.int .i64 0), (.int .i64 0)], none⟩,
 ⟨none, .stn 6 (.tmp 5) (.tmp 32), none⟩,
 ⟨(some 6), .mv (.tmp 33), none⟩])
 (.seq (.seq (.reg [⟨(some 34), .mv (.tmp 6), none⟩,
 ⟨(some 35), .bin .neq (.tmp 34) (.const (.int .i64 0)), none⟩])
 (.cond (.tmp 35)
 (.seq (.reg [⟨(some 36), .fa 1 (.tmp 5), none⟩,
 ⟨(some 37), .ld1 (.tmp 36), none⟩,
 ⟨(some 38), .len (.tmp 37), none⟩,
 ⟨(some 39), .bin .eql (.tmp 38) (.const (.int .i64 0)), none⟩,
 ⟨(some 4), .mv (.tmp 39), none⟩])
 (.ret))
 (.skip)))
 (.seq (.reg [⟨(some 41), .ldn 6 (.tmp 5), none⟩,
 ⟨(some 42), .fa 0 (.tmp 3), none⟩,
 ⟨(some 43), .ld1 (.tmp 42), none⟩,
 ⟨(some 44), .fa 1 (.tmp 3), none⟩,
 ⟨(some 45), .ldn 4 (.tmp 44), none⟩,
 ⟨(some 46), .call 36 [(.tmp 41), (.tmp 43), (.tmp 45)], none⟩,
 ⟨(some 40), .mv (.tmp 46), none⟩,
 ⟨(some 47), .ext 0 (.tmp 40), none⟩,
 ⟨(some 48), .ext 1 (.tmp 40), none⟩,
 ⟨(some 7), .mv (.tmp 47), none⟩,
 ⟨(some 6), .mv (.tmp 48), none⟩])
 (.seq (.seq (.any [(false, 0, [3, 15, 17, 22, 24], ⟨(some 49), .mv (.tmp 6), none⟩),
 (false, 1, [3, 15, 17, 22, 24], ⟨(some 50), .bin .neq (.tmp 49) (.const (.int .i64 0)), none⟩),
 (false, 2, [3, 15, 17, 22, 24], ⟨(some 51), .mv (.tmp 50), none⟩),
 (true, 3, [], ⟨(some 52), .mv (.tmp 7), (some (51, false))⟩),
 (false, 4, [3, 15, 17, 22, 24], ⟨(some 53), .fa 5 (.tmp 3), (some (51, false))⟩),
 (false, 5, [3, 15, 17, 22, 24], ⟨(some 54), .ld1 (.tmp 53), (some (51, false))⟩),
 (false, 6, [15, 17, 22, 24], ⟨(some 55), .call 24 [(.tmp 52), (.tmp 54)], (some (51, false))⟩),
 (false, 7, [15, 17, 22, 24], ⟨(some 56), .un .not (.tmp 55), (some (51, false))⟩),
 (false, 8, [15, 17, 22, 24], ⟨(some 57), .pick (.tmp 51) (.const (.bool true)) (.tmp 56), none⟩),
 (false, 9, [15, 17, 22, 24], ⟨(some 58), .mv (.tmp 57), none⟩),
 (false, 10, [15, 17, 22, 24], ⟨(some 59), .ldn 6 (.tmp 5), (some (58, false))⟩),
 (false, 11, [15, 17, 22, 24], ⟨(some 60), .call 19 [(.tmp 59)], (some (58, false))⟩),
 (false, 12, [15, 17, 22, 24], ⟨(some 61), .bin .neq (.tmp 60) (.const (.int .i64 0)), (some (58, false))⟩),
 (false, 13, [15, 17, 22, 24], ⟨(some 62), .pick (.tmp 58) (.const (.bool true)) (.tmp 61), none⟩),
 (false, 14, [15, 17, 22, 24], ⟨(some 63), .mv (.tmp 62), none⟩),
 (true, 15, [], ⟨(some 64), .ldn 6 (.tmp 5), (some (63, false))⟩),
 (true, 17, [], ⟨(some 66), .ldn 6 (.tmp 2), (some (63, false))⟩),
 (false, 16, [17, 22, 24], ⟨(some 65), .call 32 [(.tmp 64)], (some (63, false))⟩),
 (false, 18, [22, 24], ⟨(some 67), .call 32 [(.tmp 66)], (some (63, false))⟩),
 (false, 19, [22, 24], ⟨(some 68), .bin .neq (.tmp 65) (.tmp 67), (some (63, false))⟩),
 (false, 20, [22, 24], ⟨(some 69), .pick (.tmp 63) (.const (.bool true)) (.tmp 68), none⟩),
 (false, 21, [22, 24], ⟨(some 70), .mv (.tmp 69), none⟩),
 (true, 22, [], ⟨(some 71), .ldn 6 (.tmp 5), (some (70, false))⟩),
 (true, 24, [], ⟨(some 73), .ldn 6 (.tmp 2), (some (70, false))⟩),
 (false, 23, [24], ⟨(some 72), .call 30 [(.tmp 71)], (some (70, false))⟩),
 (false, 25, [], ⟨(some 74), .call 30 [(.tmp 73)], (some (70, false))⟩),
 (false, 26, [], ⟨(some 75), .eqb true (.tmp 72) (.tmp 74), (some (70, false))⟩),
 (false, 27, [], ⟨(some 76), .pick (.tmp 70) (.const (.bool true)) (.tmp 75), none⟩)])
 (.cond (.tmp 76)
 (.seq (.reg [⟨(some 4), .mv (.const (.bool false)), none⟩])
 (.ret))
 (.skip)))
 (.seq (.reg [⟨(some 78), .ldn 6 (.tmp 2), none⟩,
 ⟨(some 79), .fa 0 (.tmp 3), none⟩,
 ⟨(some 80), .ld1 (.tmp 79), none⟩,
 ⟨(some 81), .fa 1 (.tmp 3), none⟩,
 ⟨(some 82), .ldn 4 (.tmp 81), none⟩,
 ⟨(some 83), .call 36 [(.tmp 78), (.tmp 80), (.tmp 82)], none⟩,
 ⟨(some 77), .mv (.tmp 83), none⟩,
 ⟨(some 84), .ext 0 (.tmp 77), none⟩,
 ⟨(some 85), .ext 1 (.tmp 77), none⟩,
 ⟨(some 8), .mv (.tmp 84), none⟩,
 ⟨(some 6), .mv (.tmp 85), none⟩])
 (.seq (.reg [⟨(some 87), .ldn 6 (.tmp 5), none⟩,
 ⟨(some 88), .fa 0 (.tmp 3), none⟩,
 ⟨(some 89), .ld1 (.tmp 88), none⟩,
 ⟨(some 90), .fa 1 (.tmp 3), none⟩,
 ⟨(some 91), .ldn 4 (.tmp 90), none⟩,
 ⟨(some 92), .mv (.tmp 8), none⟩,
 ⟨(some 93), .call 34 [(.tmp 87), (.tmp 89), (.tmp 91), (.tmp 92)], none⟩,
 ⟨(some 86), .mv (.tmp 93), none⟩,
 ⟨(some 94), .ext 0 (.tmp 86), none⟩,
 ⟨(some 95), .ext 1 (.tmp 86), none⟩,
 ⟨(some 9), .alloc 24 [(.int .i64 0), (.slice none 0 0), (.int .i64 0), (.int .i64 0), (.int .i64 0), (.int .i64 0)], none⟩,
 ⟨none, .stn 6 (.tmp 9) (.tmp 94), none⟩,
 ⟨(some 10), .mv (.tmp 95), none⟩])
 (.seq (.reg [⟨(some 96), .mv (.tmp 6), none⟩,
 ⟨(some 97), .bin .eql (.tmp 96) (.const (.int .i64 0)), none⟩,
 ⟨(some 98), .mv (.tmp 97), none⟩,
 ⟨(some 99), .mv (.tmp 10), (some (98, true))⟩,
 ⟨(some 100), .bin .eql (.tmp 99) (.const (.int .i64 0)), (some (98, true))⟩,
 ⟨(some 101), .pick (.tmp 98) (.tmp 100) (.const (.bool false)), none⟩,
 ⟨(some 102), .mv (.tmp 101), none⟩,
 ⟨(some 103), .ldn 6 (.tmp 9), (some (102, true))⟩,
 ⟨(some 104), .ldn 6 (.tmp 2), (some (102, true))⟩,
 ⟨(some 105), .call 25 [(.tmp 103), (.tmp 104)], (some (102, true))⟩,
 ⟨(some 106), .pick (.tmp 102) (.tmp 105) (.const (.bool false)), none⟩,
 ⟨(some 4), .mv (.tmp 106), none⟩])
 (.ret)))))))))))
theorem k11 : fnOk Try.prog 11 = some (M11, [.t 4], 107) := by kernel_rfl

theorem l_ImageBack (x : Im) (hx : ImOk w0 H x) (lv : Int) (p : Pc) (a : Option Addr) (c : Nat) (l : List Int) (hb0 : BsOk w0 H a c l) (hll : l.length ≤ 9223372036854775807) (h : K (.bool true) H) : HCalls Try.prog w0 11 [x.v, cutV lv p a l.length c] H K := by
  have cX := cShort hx
  have hbb := hb0.cut 20000
  obtain ⟨b, eb⟩ : ∃ b, l.take 20000 = b := ⟨_, rfl⟩
  have hbn : b.length = min l.length 20000 := by rw [← eb, List.length_take, Nat.min_comm]
  rw [eb] at hbb
  have mn : (if (20000 : Int) < (l.length : Int) then (20000 : Int) else (l.length : Int)) = (b.length : Nat) := by
    rw [hbn]
    split <;> omega
  have mc : ((b.length : Nat) : Int) ≤ (c : Int) := by have := hbb.cap; omega
  clear hx hb0 hbn hll
  replace eb : Keep _ := eb
  unfold Im.v at cX
  unfold Im.v cutV
  refine HL.hc k11 3000 ?_; unfold M11
  (all_goals (try simp only [Sq,Sr,Sh,Si,Sl,Bu,Bb,Bd,Bc,Bw,Bn,Int.reduceAdd,Int.reduceSub,Int.reduceMul,Int.reduceTDiv,Int.reduceTMod,Int.reduceMod,Int.reduceDiv,Nat.reduceLT,Nat.reduceEqDiff,Sa,Sb,Sc,Sd,Se,Sf,Sg,Int.reduceLE,Int.reduceLT,Int.reduceToNat,Int.reduceNeg,Int.reduceEq,Nat.reduceLeDiff,Nat.reducePow,Int.reducePow,reduceIte,Nat.reduceSub,Nat.reduceAdd,Nat.reduceMul,putAt,ceq,List.replicate, *])); repeat' ((first | (with_reducible refine fun _ : True => ?_) | refine x_Wakes ?_ | refine cX _ _ (by (repeat' (first | exact Grow.refl _ | assumption | (refine Grow_known (by first | (simp only [Heap.set_same, set_ne, ne_eq, not_false_eq_true, *] <;> rfl) | fail) ?_) | (refine Grow.set ?_ (by assumption) (by first | (simp only [*] <;> done) | (simp [set_none', Heap.set_same, set_ne, noneH, *] <;> done) | fail)) | (refine Grow.trans ?_ (by assumption))))) (fun x1 H1 Hx hSx hIx gx nx fx gHx hg => ?_)  | (with_reducible refine any_h ?_) | ((first | refine AllocQ_i ?_ | refine AllocO_i ?_); intro bk hb0 hbk; (try simp only [set_none'] at hbk); (try (first | have hbn := Grow.none (by assumption) hbk | have hbn := Grow.none (by assumption) hbk.2 | have hbn := Grow.none (by assumption) hbk.2.2 | have hbn := Grow.none (by assumption) hbk.2.2.2 | have hbn := Grow.none (by assumption) hbk.2.2.2.2 | have hbn := Grow.none (by assumption) hbk.2.2.2.2.2)); (try simp only [set_none'] at hbn); (try (first | have hbm := Grow.none (by assumption) hbn | have hbm := Grow.none (by assumption) hbn.2 | have hbm := Grow.none (by assumption) hbn.2.2 | have hbm := Grow.none (by assumption) hbn.2.2.2 | have hbm := Grow.none (by assumption) hbn.2.2.2.2 | have hbm := Grow.none (by assumption) hbn.2.2.2.2.2)); (try simp only [set_none'] at hbm)) | ((first | refine condS_i ?_ ?_ | refine pick_i ?_ ?_ | refine gS_it ?_ ?_ | refine gS_if ?_ ?_ | refine gP_it ?_ ?_ | refine gP_if ?_ ?_) <;> (intro hc; try simp only [Int.reduceLE,Int.reduceLT,Int.reduceEq,Sn] at hc)) | (with_reducible refine KP_i ?_ ?_; · (repeat' (first | exact Heap.Le.refl _ | (with_reducible refine Le_set2 ?_) | (refine Le_known (by first | (simp only [Heap.set_same, set_ne, ne_eq, not_false_eq_true, *] <;> rfl) | fail) ?_) | (refine Le_fresh (by first | (simp only [*] <;> done) | (simp [set_none', Heap.set_same, set_ne, noneH, *] <;> done) | fail) ?_) | (refine Heap.Le.trans ?_ (Grow.le (by assumption))) | exact Le_none | (refine Le_put ?_ (by first | (simp only [Heap.set_same, set_ne, ne_eq, not_false_eq_true, *] <;> rfl) | fail)) | fail))) | (with_reducible refine And.intro ?_ ?_)) <;> (try simp only [Sq,Sr,Sh,Si,Sl,Bu,Bb,Bd,Bc,Bw,Bn,Int.reduceAdd,Int.reduceSub,Int.reduceMul,Int.reduceTDiv,Int.reduceTMod,Int.reduceMod,Int.reduceDiv,Nat.reduceLT,Nat.reduceEqDiff,Sa,Sb,Sc,Sd,Se,Sf,Sg,Int.reduceLE,Int.reduceLT,Int.reduceToNat,Int.reduceNeg,Int.reduceEq,Nat.reduceLeDiff,Nat.reducePow,Int.reducePow,reduceIte,Nat.reduceSub,Nat.reduceAdd,Nat.reduceMul,putAt,ceq,List.replicate, *]))
  rename_i b1 s1 n1
  obtain ⟨b2, rfl⟩ : ∃ b2, b2 = bk := ⟨_, rfl⟩
  have s2 : w0.heap.size ≤ b2 := hb0
  have d12 : b1 ≠ b2 := hbk.1.2
  have d21 : b2 ≠ b1 := hbk.1.1
  have n2 : H b2 = none := hbk.2
  have nx1 : Hx b1 = none := nx b1 s1 (by rw [Heap.set_other _ _ d12, Heap.set_same]; rfl)
  have nx2 : Hx b2 = none := nx b2 s2 (by rw [Heap.set_same]; rfl)
  have gH1 : Grow w0 H H1 := Grow.trans (by (repeat' (first | exact Grow.refl _ | assumption | (refine Grow_known (by first | (simp only [Heap.set_same, set_ne, ne_eq, not_false_eq_true, *] <;> rfl) | fail) ?_) | (refine Grow.set ?_ (by assumption) (by first | (simp only [*] <;> done) | (simp [set_none', Heap.set_same, set_ne, noneH, *] <;> done) | fail)) | (refine Grow.trans ?_ (by assumption))))) hg
  rw [up2 hg (by simp only [Heap.set_same, set_ne, ne_eq, not_false_eq_true, *] <;> rfl)]
  clear hg nx cX fx hbk hb0
  (all_goals (try simp only [Sq,Sr,Sh,Si,Sl,Bu,Bb,Bd,Bc,Bw,Bn,Int.reduceAdd,Int.reduceSub,Int.reduceMul,Int.reduceTDiv,Int.reduceTMod,Int.reduceMod,Int.reduceDiv,Nat.reduceLT,Nat.reduceEqDiff,Sa,Sb,Sc,Sd,Se,Sf,Sg,Int.reduceLE,Int.reduceLT,Int.reduceToNat,Int.reduceNeg,Int.reduceEq,Nat.reduceLeDiff,Nat.reducePow,Int.reducePow,reduceIte,Nat.reduceSub,Nat.reduceAdd,Nat.reduceMul,putAt,ceq,List.replicate, *])); repeat' ((first | (with_reducible refine fun _ : True => ?_) | refine slc_hi mc ?_ | (with_reducible refine any_h ?_) | ((first | refine AllocQ_i ?_ | refine AllocO_i ?_); intro bk hb0 hbk; (try simp only [set_none'] at hbk); (try (first | have hbn := Grow.none (by assumption) hbk | have hbn := Grow.none (by assumption) hbk.2 | have hbn := Grow.none (by assumption) hbk.2.2 | have hbn := Grow.none (by assumption) hbk.2.2.2 | have hbn := Grow.none (by assumption) hbk.2.2.2.2 | have hbn := Grow.none (by assumption) hbk.2.2.2.2.2)); (try simp only [set_none'] at hbn); (try (first | have hbm := Grow.none (by assumption) hbn | have hbm := Grow.none (by assumption) hbn.2 | have hbm := Grow.none (by assumption) hbn.2.2 | have hbm := Grow.none (by assumption) hbn.2.2.2 | have hbm := Grow.none (by assumption) hbn.2.2.2.2 | have hbm := Grow.none (by assumption) hbn.2.2.2.2.2)); (try simp only [set_none'] at hbm)) | ((first | refine condS_i ?_ ?_ | refine pick_i ?_ ?_ | refine gS_it ?_ ?_ | refine gS_if ?_ ?_ | refine gP_it ?_ ?_ | refine gP_if ?_ ?_) <;> (intro hc; try simp only [Int.reduceLE,Int.reduceLT,Int.reduceEq,Sn] at hc)) | (with_reducible refine KP_i ?_ ?_; · (repeat' (first | exact Heap.Le.refl _ | (with_reducible refine Le_set2 ?_) | (refine Le_known (by first | (simp only [Heap.set_same, set_ne, ne_eq, not_false_eq_true, *] <;> rfl) | fail) ?_) | (refine Le_fresh (by first | (simp only [*] <;> done) | (simp [set_none', Heap.set_same, set_ne, noneH, *] <;> done) | fail) ?_) | (refine Heap.Le.trans ?_ (Grow.le (by assumption))) | exact Le_none | (refine Le_put ?_ (by first | (simp only [Heap.set_same, set_ne, ne_eq, not_false_eq_true, *] <;> rfl) | fail)) | fail))) | (with_reducible refine And.intro ?_ ?_)) <;> (try simp only [Sq,Sr,Sh,Si,Sl,Bu,Bb,Bd,Bc,Bw,Bn,Int.reduceAdd,Int.reduceSub,Int.reduceMul,Int.reduceTDiv,Int.reduceTMod,Int.reduceMod,Int.reduceDiv,Nat.reduceLT,Nat.reduceEqDiff,Sa,Sb,Sc,Sd,Se,Sf,Sg,Int.reduceLE,Int.reduceLT,Int.reduceToNat,Int.reduceNeg,Int.reduceEq,Nat.reduceLeDiff,Nat.reducePow,Int.reducePow,reduceIte,Nat.reduceSub,Nat.reduceAdd,Nat.reduceMul,putAt,ceq,List.replicate, *]))
  refine hc_heap (fun G3 e3 => ?_)
  have k1 : G3 b1 = some ⟨.t 24, [.int .i64 x1.f, .slice x1.a x1.ls.length x1.cap, .int .i64 x1.s, .int .i64 x1.t, .int .i64 x1.mn, .int .i64 x1.mg]⟩ := at_of e3 (b := b1) (by simp only [Heap.set_same, set_ne, ne_eq, not_false_eq_true, *] <;> rfl)
  have k2 : G3 b2 = some ⟨.t 51, [.int .i64 lv, .int .i64 p.x, .int .i64 p.y, .int .i64 p.w, .int .i64 p.h, .slice a b.length c]⟩ := at_of e3 (b := b2) (by simp only [Heap.set_same, set_ne, ne_eq, not_false_eq_true, *] <;> rfl)
  have gx3 : Grow w0 Hx G3 := by rw [e3]; exact (gx.set s1 nx1).set s2 nx2
  have gH3 : Grow w0 H G3 := by rw [e3]; exact (gH1.set s1 n1).set s2 n2
  clear e3 gx gHx mn mc
  have hb3 := hbb.grow gH3
  rcases find_cases x1 lv p with ⟨e, he⟩ | ⟨k, z, f⟩
  · have hne : ¬ e = 0 := by cases he <;> decide
    refine c_Sub_err x1 (hIx.grow gx3) lv p a _ c e he ?_
    rw [root2 d12 k1 k2]
    clear he
    (all_goals (try simp only [Sq,Sr,Sh,Si,Sl,Bu,Bb,Bd,Bc,Bw,Bn,Int.reduceAdd,Int.reduceSub,Int.reduceMul,Int.reduceTDiv,Int.reduceTMod,Int.reduceMod,Int.reduceDiv,Nat.reduceLT,Nat.reduceEqDiff,Sa,Sb,Sc,Sd,Se,Sf,Sg,Int.reduceLE,Int.reduceLT,Int.reduceToNat,Int.reduceNeg,Int.reduceEq,Nat.reduceLeDiff,Nat.reducePow,Int.reducePow,reduceIte,Nat.reduceSub,Nat.reduceAdd,Nat.reduceMul,putAt,ceq,List.replicate, *])); repeat' ((first | (with_reducible refine fun _ : True => ?_) | (with_reducible refine any_h ?_) | ((first | refine AllocQ_i ?_ | refine AllocO_i ?_); intro bk hb0 hbk; (try simp only [set_none'] at hbk); (try (first | have hbn := Grow.none (by assumption) hbk | have hbn := Grow.none (by assumption) hbk.2 | have hbn := Grow.none (by assumption) hbk.2.2 | have hbn := Grow.none (by assumption) hbk.2.2.2 | have hbn := Grow.none (by assumption) hbk.2.2.2.2 | have hbn := Grow.none (by assumption) hbk.2.2.2.2.2)); (try simp only [set_none'] at hbn); (try (first | have hbm := Grow.none (by assumption) hbn | have hbm := Grow.none (by assumption) hbn.2 | have hbm := Grow.none (by assumption) hbn.2.2 | have hbm := Grow.none (by assumption) hbn.2.2.2 | have hbm := Grow.none (by assumption) hbn.2.2.2.2 | have hbm := Grow.none (by assumption) hbn.2.2.2.2.2)); (try simp only [set_none'] at hbm)) | ((first | refine condS_i ?_ ?_ | refine pick_i ?_ ?_ | refine gS_it ?_ ?_ | refine gS_if ?_ ?_ | refine gP_it ?_ ?_ | refine gP_if ?_ ?_) <;> (intro hc; try simp only [Int.reduceLE,Int.reduceLT,Int.reduceEq,Sn] at hc)) | (with_reducible refine KP_i ?_ ?_; · (repeat' (first | exact Heap.Le.refl _ | (with_reducible refine Le_set2 ?_) | (refine Le_known (by first | (simp only [Heap.set_same, set_ne, ne_eq, not_false_eq_true, *] <;> rfl) | fail) ?_) | (refine Le_fresh (by first | (simp only [*] <;> done) | (simp [set_none', Heap.set_same, set_ne, noneH, *] <;> done) | fail) ?_) | (refine Heap.Le.trans ?_ (Grow.le (by assumption))) | exact Le_none | (refine Le_put ?_ (by first | (simp only [Heap.set_same, set_ne, ne_eq, not_false_eq_true, *] <;> rfl) | fail)) | fail))) | (with_reducible refine And.intro ?_ ?_)) <;> (try simp only [Sq,Sr,Sh,Si,Sl,Bu,Bb,Bd,Bc,Bw,Bn,Int.reduceAdd,Int.reduceSub,Int.reduceMul,Int.reduceTDiv,Int.reduceTMod,Int.reduceMod,Int.reduceDiv,Nat.reduceLT,Nat.reduceEqDiff,Sa,Sb,Sc,Sd,Se,Sf,Sg,Int.reduceLE,Int.reduceLT,Int.reduceToNat,Int.reduceNeg,Int.reduceEq,Nat.reduceLeDiff,Nat.reducePow,Int.reducePow,reduceIte,Nat.reduceSub,Nat.reduceAdd,Nat.reduceMul,putAt,ceq,List.replicate, *]))
    all_goals exact Fin_mk (Heap.Le.trans (Grow.le gH3) (by (repeat' (first | exact Heap.Le.refl _ | (with_reducible refine Le_set2 ?_) | (refine Le_known (by first | (simp only [Heap.set_same, set_ne, ne_eq, not_false_eq_true, *] <;> rfl) | fail) ?_) | (refine Le_fresh (by first | (simp only [*] <;> done) | (simp [set_none', Heap.set_same, set_ne, noneH, *] <;> done) | fail) ?_) | (refine Heap.Le.trans ?_ (Grow.le (by assumption))) | exact Le_none | (refine Le_put ?_ (by first | (simp only [Heap.set_same, set_ne, ne_eq, not_false_eq_true, *] <;> rfl) | fail)) | fail)))) h
  · obtain ⟨S, W, V, X, Y, P, Q, g⟩ := pg_of f
    by_cases hn : b.length = P * Q * S
    · have hbQ : b.length = Q * (P * S) := by rw [hn, Nat.mul_comm P Q, Nat.mul_assoc]
      refine c_Sub_ok x1 (hIx.grow gx3) lv p k z f g a c b hb3 hn (fun y H4 hS hC4 g4 => ?_)
      obtain ⟨u, f2, g2, hc⟩ := sub_find f g hn hS
      have sh := sub_shape f g hn hS
      have ul : u.l = subB z.l b S W X Y P Q := congrArg (fun q : Int × Int × List Int => q.2.2) hc
      have hpb : pieceB u.l S W X Y P Q = b := by rw [ul]; exact get_sub (by have := g.xw; omega) hbQ (fun j hj => (seg_b g hj).1)
      have j1 := g4.some k1
      have j2 := g4.some k2
      have hS' : Keep _ := hS
      have sh' : Keep _ := sh
      have ul' : Keep _ := ul
      have hc' : Keep _ := hc
      have hn' : Keep _ := hn
      have hbQ' : Keep _ := hbQ
      clear hS sh ul hc hn hbQ
      rw [root2 d12 j1 j2]
      unfold Im.v
      (all_goals (try simp only [Sq,Sr,Sh,Si,Sl,Bu,Bb,Bd,Bc,Bw,Bn,Int.reduceAdd,Int.reduceSub,Int.reduceMul,Int.reduceTDiv,Int.reduceTMod,Int.reduceMod,Int.reduceDiv,Nat.reduceLT,Nat.reduceEqDiff,Sa,Sb,Sc,Sd,Se,Sf,Sg,Int.reduceLE,Int.reduceLT,Int.reduceToNat,Int.reduceNeg,Int.reduceEq,Nat.reduceLeDiff,Nat.reducePow,Int.reducePow,reduceIte,Nat.reduceSub,Nat.reduceAdd,Nat.reduceMul,putAt,ceq,List.replicate, *])); repeat' ((first | (with_reducible refine fun _ : True => ?_) | (with_reducible refine any_h ?_) | ((first | refine AllocQ_i ?_ | refine AllocO_i ?_); intro bk hb0 hbk; (try simp only [set_none'] at hbk); (try (first | have hbn := Grow.none (by assumption) hbk | have hbn := Grow.none (by assumption) hbk.2 | have hbn := Grow.none (by assumption) hbk.2.2 | have hbn := Grow.none (by assumption) hbk.2.2.2 | have hbn := Grow.none (by assumption) hbk.2.2.2.2 | have hbn := Grow.none (by assumption) hbk.2.2.2.2.2)); (try simp only [set_none'] at hbn); (try (first | have hbm := Grow.none (by assumption) hbn | have hbm := Grow.none (by assumption) hbn.2 | have hbm := Grow.none (by assumption) hbn.2.2 | have hbm := Grow.none (by assumption) hbn.2.2.2 | have hbm := Grow.none (by assumption) hbn.2.2.2.2 | have hbm := Grow.none (by assumption) hbn.2.2.2.2.2)); (try simp only [set_none'] at hbm)) | ((first | refine condS_i ?_ ?_ | refine pick_i ?_ ?_ | refine gS_it ?_ ?_ | refine gS_if ?_ ?_ | refine gP_it ?_ ?_ | refine gP_if ?_ ?_) <;> (intro hc; try simp only [Int.reduceLE,Int.reduceLT,Int.reduceEq,Sn] at hc)) | (with_reducible refine KP_i ?_ ?_; · (repeat' (first | exact Heap.Le.refl _ | (with_reducible refine Le_set2 ?_) | (refine Le_known (by first | (simp only [Heap.set_same, set_ne, ne_eq, not_false_eq_true, *] <;> rfl) | fail) ?_) | (refine Le_fresh (by first | (simp only [*] <;> done) | (simp [set_none', Heap.set_same, set_ne, noneH, *] <;> done) | fail) ?_) | (refine Heap.Le.trans ?_ (Grow.le (by assumption))) | exact Le_none | (refine Le_put ?_ (by first | (simp only [Heap.set_same, set_ne, ne_eq, not_false_eq_true, *] <;> rfl) | fail)) | fail))) | (with_reducible refine And.intro ?_ ?_)) <;> (try simp only [Sq,Sr,Sh,Si,Sl,Bu,Bb,Bd,Bc,Bw,Bn,Int.reduceAdd,Int.reduceSub,Int.reduceMul,Int.reduceTDiv,Int.reduceTMod,Int.reduceMod,Int.reduceDiv,Nat.reduceLT,Nat.reduceEqDiff,Sa,Sb,Sc,Sd,Se,Sf,Sg,Int.reduceLE,Int.reduceLT,Int.reduceToNat,Int.reduceNeg,Int.reduceEq,Nat.reduceLeDiff,Nat.reducePow,Int.reducePow,reduceIte,Nat.reduceSub,Nat.reduceAdd,Nat.reduceMul,putAt,ceq,List.replicate, *]))
      obtain ⟨b5, rfl⟩ : ∃ b5, b5 = bk := ⟨_, rfl⟩
      have s5 : w0.heap.size ≤ b5 := by assumption
      have n5 : H4 b5 = none := hbk.2.2
      refine hc_heap (fun G5 e5 => ?_)
      have m1 := at_of e5 (b := b1) (by simp only [Heap.set_same, set_ne, ne_eq, not_false_eq_true, *] <;> rfl)
      have m2 := at_of e5 (b := b2) (by simp only [Heap.set_same, set_ne, ne_eq, not_false_eq_true, *] <;> rfl)
      have m5 := at_of e5 (b := b5) (by simp only [Heap.set_same, set_ne, ne_eq, not_false_eq_true, *] <;> rfl)
      have g45 : Grow w0 H4 G5 := by rw [e5]; exact (by (repeat' (first | exact Grow.refl _ | assumption | (refine Grow_known (by first | (simp only [Heap.set_same, set_ne, ne_eq, not_false_eq_true, *] <;> rfl) | fail) ?_) | (refine Grow.set ?_ (by assumption) (by first | (simp only [*] <;> done) | (simp [set_none', Heap.set_same, set_ne, noneH, *] <;> done) | fail)) | (refine Grow.trans ?_ (by assumption)))))
      have d15 : b1 ≠ b5 := hbk.2.1.2
      have d25 : b2 ≠ b5 := hbk.1.2
      have d51 := Ne.symm d15
      have d52 := Ne.symm d25
      clear e5 hbk hbn hbm
      refine c_Get_ok y (hC4.ok.grow g45) lv p k u f2 g2 (fun a2 c2 H6 hB6 hp6 g6 => ?_)
      rw [hpb] at hB6 ⊢
      have i1 := g6.some m1
      have i2 := g6.some m2
      have i5 := g6.some m5
      have gx6 : Grow w0 Hx H6 := gx3.trans (g4.trans (g45.trans g6))
      have gH6 : Grow w0 H H6 := gH3.trans (g4.trans (g45.trans g6))
      have hy6 := hC4.ok.grow (g45.trans g6)
      have hx6 := hIx.grow gx6
      have sh : Shape x1 y := sh'
      have cE : ∀ (G : Heap) (K : Value → Heap → Prop), Grow w0 H6 G → K (.bool true) G → HCalls Try.prog w0 24 [.slice a2 b.length c2, .slice a b.length c] G K := fun G K g hk => c_bytesEqual _ _ _ _ _ _ b b rfl rfl ((SlAt.toInts hB6.slAt).grow g) ((hbb.at_.grow gH6).grow g) hbb.by_ hbb.by_ (by rw [decide_eq_true rfl]; exact hk)
      have cC : ∀ (G : Heap) (K : Value → Heap → Prop), Grow w0 H6 G → K (.int .i64 0) G → HCalls Try.prog w0 19 [(.agg #[.int .i64 y.f, .slice y.a y.ls.length y.cap, .int .i64 y.s, .int .i64 y.t, .int .i64 y.mn, .int .i64 y.mg])] G K := fun G K g hk => c_Check y (hy6.grow g) (by rw [if_pos f2.r]; exact hk)
      have cK1 : ∀ (G : Heap) (K : Value → Heap → Prop), Grow w0 H6 G → K (.int .i64 (costI x1)) G → HCalls Try.prog w0 32 [(.agg #[.int .i64 y.f, .slice y.a y.ls.length y.cap, .int .i64 y.s, .int .i64 y.t, .int .i64 y.mn, .int .i64 y.mg])] G K := fun G K g hk => c_Cost y (hy6.grow g) (by rw [cost_shp sh]; exact hk)
      have cK2 : ∀ (G : Heap) (K : Value → Heap → Prop), Grow w0 H6 G → K (.int .i64 (costI x1)) G → HCalls Try.prog w0 32 [(.agg #[.int .i64 x1.f, .slice x1.a x1.ls.length x1.cap, .int .i64 x1.s, .int .i64 x1.t, .int .i64 x1.mn, .int .i64 x1.mg])] G K := fun G K g hk => c_Cost x1 (hx6.grow g) hk
      obtain ⟨cb, ecb⟩ : ∃ cb : Bool, (cb = true ↔ x1.compl) := by
        by_cases q : x1.compl
        · exact ⟨true, by simp [q]⟩
        · exact ⟨false, by simp [q]⟩
      have cD1 : ∀ (G : Heap) (K : Value → Heap → Prop), Grow w0 H6 G → K (.bool cb) G → HCalls Try.prog w0 30 [(.agg #[.int .i64 y.f, .slice y.a y.ls.length y.cap, .int .i64 y.s, .int .i64 y.t, .int .i64 y.mn, .int .i64 y.mg])] G K := fun G K g hk => c_Complete y (hy6.grow g) (fun q => by have := ecb.2 (compl_shp sh.symm q); rw [this] at hk; exact hk) (fun q => by
        cases hcb : cb with
        | true => exact (q (compl_shp sh (ecb.1 hcb))).elim
        | false => rw [hcb] at hk; exact hk)
      have cD2 : ∀ (G : Heap) (K : Value → Heap → Prop), Grow w0 H6 G → K (.bool cb) G → HCalls Try.prog w0 30 [(.agg #[.int .i64 x1.f, .slice x1.a x1.ls.length x1.cap, .int .i64 x1.s, .int .i64 x1.t, .int .i64 x1.mn, .int .i64 x1.mg])] G K := fun G K g hk => c_Complete x1 (hx6.grow g) (fun q => by have := ecb.2 q; rw [this] at hk; exact hk) (fun q => by
        cases hcb : cb with
        | true => exact (q (ecb.1 hcb)).elim
        | false => rw [hcb] at hk; exact hk)
      have cG : ∀ (G : Heap) (K : Value → Heap → Prop), Grow w0 H6 G → (∀ a c G', Bld w0 G G' a c 1 5 ((pieceB z.l S W X Y P Q).map (.int .u8)) → plainO a → Grow w0 G G' → K (.tuple #[.slice a (pieceB z.l S W X Y P Q).length c, .int .i64 0]) G') → HCalls Try.prog w0 36 [(.agg #[.int .i64 x1.f, .slice x1.a x1.ls.length x1.cap, .int .i64 x1.s, .int .i64 x1.t, .int .i64 x1.mn, .int .i64 x1.mg]), .int .i64 lv, (.agg #[.int .i64 p.x, .int .i64 p.y, .int .i64 p.w, .int .i64 p.h])] G K := fun G K g0 hk => c_Get_ok x1 (hx6.grow g0) lv p k z f g hk
      clear hpb sh ecb
      rw [root3 i1 i2 i5]
      (all_goals (try simp only [Sq,Sr,Sh,Si,Sl,Bu,Bb,Bd,Bc,Bw,Bn,Int.reduceAdd,Int.reduceSub,Int.reduceMul,Int.reduceTDiv,Int.reduceTMod,Int.reduceMod,Int.reduceDiv,Nat.reduceLT,Nat.reduceEqDiff,Sa,Sb,Sc,Sd,Se,Sf,Sg,Int.reduceLE,Int.reduceLT,Int.reduceToNat,Int.reduceNeg,Int.reduceEq,Nat.reduceLeDiff,Nat.reducePow,Int.reducePow,reduceIte,Nat.reduceSub,Nat.reduceAdd,Nat.reduceMul,putAt,ceq,List.replicate, *])); repeat' ((first | (with_reducible refine fun _ : True => ?_) | refine cE _ _ (by (repeat' (first | exact Grow.refl _ | assumption | (refine Grow_known (by first | (simp only [Heap.set_same, set_ne, ne_eq, not_false_eq_true, *] <;> rfl) | fail) ?_) | (refine Grow.set ?_ (by assumption) (by first | (simp only [*] <;> done) | (simp [set_none', Heap.set_same, set_ne, noneH, *] <;> done) | fail)) | (refine Grow.trans ?_ (by assumption))))) ?_ | refine cC _ _ (by (repeat' (first | exact Grow.refl _ | assumption | (refine Grow_known (by first | (simp only [Heap.set_same, set_ne, ne_eq, not_false_eq_true, *] <;> rfl) | fail) ?_) | (refine Grow.set ?_ (by assumption) (by first | (simp only [*] <;> done) | (simp [set_none', Heap.set_same, set_ne, noneH, *] <;> done) | fail)) | (refine Grow.trans ?_ (by assumption))))) ?_ | refine cK1 _ _ (by (repeat' (first | exact Grow.refl _ | assumption | (refine Grow_known (by first | (simp only [Heap.set_same, set_ne, ne_eq, not_false_eq_true, *] <;> rfl) | fail) ?_) | (refine Grow.set ?_ (by assumption) (by first | (simp only [*] <;> done) | (simp [set_none', Heap.set_same, set_ne, noneH, *] <;> done) | fail)) | (refine Grow.trans ?_ (by assumption))))) ?_ | refine cK2 _ _ (by (repeat' (first | exact Grow.refl _ | assumption | (refine Grow_known (by first | (simp only [Heap.set_same, set_ne, ne_eq, not_false_eq_true, *] <;> rfl) | fail) ?_) | (refine Grow.set ?_ (by assumption) (by first | (simp only [*] <;> done) | (simp [set_none', Heap.set_same, set_ne, noneH, *] <;> done) | fail)) | (refine Grow.trans ?_ (by assumption))))) ?_ | refine cD1 _ _ (by (repeat' (first | exact Grow.refl _ | assumption | (refine Grow_known (by first | (simp only [Heap.set_same, set_ne, ne_eq, not_false_eq_true, *] <;> rfl) | fail) ?_) | (refine Grow.set ?_ (by assumption) (by first | (simp only [*] <;> done) | (simp [set_none', Heap.set_same, set_ne, noneH, *] <;> done) | fail)) | (refine Grow.trans ?_ (by assumption))))) ?_ | refine cD2 _ _ (by (repeat' (first | exact Grow.refl _ | assumption | (refine Grow_known (by first | (simp only [Heap.set_same, set_ne, ne_eq, not_false_eq_true, *] <;> rfl) | fail) ?_) | (refine Grow.set ?_ (by assumption) (by first | (simp only [*] <;> done) | (simp [set_none', Heap.set_same, set_ne, noneH, *] <;> done) | fail)) | (refine Grow.trans ?_ (by assumption))))) ?_ | refine cG _ _ (by (repeat' (first | exact Grow.refl _ | assumption | (refine Grow_known (by first | (simp only [Heap.set_same, set_ne, ne_eq, not_false_eq_true, *] <;> rfl) | fail) ?_) | (refine Grow.set ?_ (by assumption) (by first | (simp only [*] <;> done) | (simp [set_none', Heap.set_same, set_ne, noneH, *] <;> done) | fail)) | (refine Grow.trans ?_ (by assumption))))) (fun a3 c3 H8 hB8 hp8 g8 => ?_)  | (with_reducible refine any_h ?_) | ((first | refine AllocQ_i ?_ | refine AllocO_i ?_); intro bk hb0 hbk; (try simp only [set_none'] at hbk); (try (first | have hbn := Grow.none (by assumption) hbk | have hbn := Grow.none (by assumption) hbk.2 | have hbn := Grow.none (by assumption) hbk.2.2 | have hbn := Grow.none (by assumption) hbk.2.2.2 | have hbn := Grow.none (by assumption) hbk.2.2.2.2 | have hbn := Grow.none (by assumption) hbk.2.2.2.2.2)); (try simp only [set_none'] at hbn); (try (first | have hbm := Grow.none (by assumption) hbn | have hbm := Grow.none (by assumption) hbn.2 | have hbm := Grow.none (by assumption) hbn.2.2 | have hbm := Grow.none (by assumption) hbn.2.2.2 | have hbm := Grow.none (by assumption) hbn.2.2.2.2 | have hbm := Grow.none (by assumption) hbn.2.2.2.2.2)); (try simp only [set_none'] at hbm)) | ((first | refine condS_i ?_ ?_ | refine pick_i ?_ ?_ | refine gS_it ?_ ?_ | refine gS_if ?_ ?_ | refine gP_it ?_ ?_ | refine gP_if ?_ ?_) <;> (intro hc; try simp only [Int.reduceLE,Int.reduceLT,Int.reduceEq,Sn] at hc)) | (with_reducible refine KP_i ?_ ?_; · (repeat' (first | exact Heap.Le.refl _ | (with_reducible refine Le_set2 ?_) | (refine Le_known (by first | (simp only [Heap.set_same, set_ne, ne_eq, not_false_eq_true, *] <;> rfl) | fail) ?_) | (refine Le_fresh (by first | (simp only [*] <;> done) | (simp [set_none', Heap.set_same, set_ne, noneH, *] <;> done) | fail) ?_) | (refine Heap.Le.trans ?_ (Grow.le (by assumption))) | exact Le_none | (refine Le_put ?_ (by first | (simp only [Heap.set_same, set_ne, ne_eq, not_false_eq_true, *] <;> rfl) | fail)) | fail))) | (with_reducible refine And.intro ?_ ?_)) <;> (try simp only [Sq,Sr,Sh,Si,Sl,Bu,Bb,Bd,Bc,Bw,Bn,Int.reduceAdd,Int.reduceSub,Int.reduceMul,Int.reduceTDiv,Int.reduceTMod,Int.reduceMod,Int.reduceDiv,Nat.reduceLT,Nat.reduceEqDiff,Sa,Sb,Sc,Sd,Se,Sf,Sg,Int.reduceLE,Int.reduceLT,Int.reduceToNat,Int.reduceNeg,Int.reduceEq,Nat.reduceLeDiff,Nat.reducePow,Int.reducePow,reduceIte,Nat.reduceSub,Nat.reduceAdd,Nat.reduceMul,putAt,ceq,List.replicate, *]))
      rw [Heap.set_id H6 b1 _ i1, Heap.set_id H6 b2 _ i2, Heap.set_id H6 b5 _ i5] at g8 hB8
      have r1 := g8.some i1
      have r2 := g8.some i2
      have r5 := g8.some i5
      have hlz := hx6.lv z (List.mem_of_getElem? f.at_)
      have hn8 : (pieceB z.l S W X Y P Q).length = P * Q * S := by rw [pieceB_len Q (fun j hj => (seg_b g hj).1), Nat.mul_comm P Q, Nat.mul_assoc]
      have hbs : BsOk w0 H8 a3 c3 (pieceB z.l S W X Y P Q) := ⟨SlAt.toInts hB8.slAt, by have := hB8.le; rw [List.length_map, Nat.mul_one] at this; exact this, hp8, pieceB_by hlz.by_ S W X Y P Q⟩
      have gx8 := gx6.trans g8
      have gH8 := gH6.trans g8
      have hS : SubOk x1 k z b S W X Y P Q y := hS'
      have hc : u.core = (z.w, z.h, subB z.l b S W X Y P Q) := hc'
      have hn : b.length = P * Q * S := hn'
      have again := fun (yy : Im) (q : SubOk y k u (pieceB z.l S W X Y P Q) S W X Y P Q yy) => sub_again f g hn hS hc q
      have cU : ∀ (G : Heap) (K : Value → Heap → Prop), Grow w0 H8 G → (∀ yy H', SubOk y k u (pieceB z.l S W X Y P Q) S W X Y P Q yy → ImC w0 G H' yy → Grow w0 G H' → K (.tuple #[yy.v, .int .i64 0]) H') → HCalls Try.prog w0 34 [(.agg #[.int .i64 y.f, .slice y.a y.ls.length y.cap, .int .i64 y.s, .int .i64 y.t, .int .i64 y.mn, .int .i64 y.mg]), .int .i64 lv, (.agg #[.int .i64 p.x, .int .i64 p.y, .int .i64 p.w, .int .i64 p.h]), .slice a3 (pieceB z.l S W X Y P Q).length c3] G K := fun G K g0 hk => c_Sub_ok y (hy6.grow (g8.trans g0)) lv p k u f2 g2 a3 c3 _ (hbs.grow g0) hn8 hk
      have hx8 := hIx.grow gx8
      clear cE cC cK1 cK2 cD1 cD2 cG hS hc hn hn8 hbs hB8 hB6 hlz g4 g45 g6 gx3 gx6 gH3 gH6 gH1 k1 k2 j1 j2 m1 m2 m5 hb3
      replace again : Keep _ := again
      rw [root3 r1 r2 r5]
      (all_goals (try simp only [Sq,Sr,Sh,Si,Sl,Bu,Bb,Bd,Bc,Bw,Bn,Int.reduceAdd,Int.reduceSub,Int.reduceMul,Int.reduceTDiv,Int.reduceTMod,Int.reduceMod,Int.reduceDiv,Nat.reduceLT,Nat.reduceEqDiff,Sa,Sb,Sc,Sd,Se,Sf,Sg,Int.reduceLE,Int.reduceLT,Int.reduceToNat,Int.reduceNeg,Int.reduceEq,Nat.reduceLeDiff,Nat.reducePow,Int.reducePow,reduceIte,Nat.reduceSub,Nat.reduceAdd,Nat.reduceMul,putAt,ceq,List.replicate, *])); repeat' ((first | (with_reducible refine fun _ : True => ?_) | refine cU _ _ (by (repeat' (first | exact Grow.refl _ | assumption | (refine Grow_known (by first | (simp only [Heap.set_same, set_ne, ne_eq, not_false_eq_true, *] <;> rfl) | fail) ?_) | (refine Grow.set ?_ (by assumption) (by first | (simp only [*] <;> done) | (simp [set_none', Heap.set_same, set_ne, noneH, *] <;> done) | fail)) | (refine Grow.trans ?_ (by assumption))))) (fun yy H9 hS9 hC9 g9 => ?_)  | (with_reducible refine any_h ?_) | ((first | refine AllocQ_i ?_ | refine AllocO_i ?_); intro bk hb0 hbk; (try simp only [set_none'] at hbk); (try (first | have hbn := Grow.none (by assumption) hbk | have hbn := Grow.none (by assumption) hbk.2 | have hbn := Grow.none (by assumption) hbk.2.2 | have hbn := Grow.none (by assumption) hbk.2.2.2 | have hbn := Grow.none (by assumption) hbk.2.2.2.2 | have hbn := Grow.none (by assumption) hbk.2.2.2.2.2)); (try simp only [set_none'] at hbn); (try (first | have hbm := Grow.none (by assumption) hbn | have hbm := Grow.none (by assumption) hbn.2 | have hbm := Grow.none (by assumption) hbn.2.2 | have hbm := Grow.none (by assumption) hbn.2.2.2 | have hbm := Grow.none (by assumption) hbn.2.2.2.2 | have hbm := Grow.none (by assumption) hbn.2.2.2.2.2)); (try simp only [set_none'] at hbm)) | ((first | refine condS_i ?_ ?_ | refine pick_i ?_ ?_ | refine gS_it ?_ ?_ | refine gS_if ?_ ?_ | refine gP_it ?_ ?_ | refine gP_if ?_ ?_) <;> (intro hc; try simp only [Int.reduceLE,Int.reduceLT,Int.reduceEq,Sn] at hc)) | (with_reducible refine KP_i ?_ ?_; · (repeat' (first | exact Heap.Le.refl _ | (with_reducible refine Le_set2 ?_) | (refine Le_known (by first | (simp only [Heap.set_same, set_ne, ne_eq, not_false_eq_true, *] <;> rfl) | fail) ?_) | (refine Le_fresh (by first | (simp only [*] <;> done) | (simp [set_none', Heap.set_same, set_ne, noneH, *] <;> done) | fail) ?_) | (refine Heap.Le.trans ?_ (Grow.le (by assumption))) | exact Le_none | (refine Le_put ?_ (by first | (simp only [Heap.set_same, set_ne, ne_eq, not_false_eq_true, *] <;> rfl) | fail)) | fail))) | (with_reducible refine And.intro ?_ ?_)) <;> (try simp only [Sq,Sr,Sh,Si,Sl,Bu,Bb,Bd,Bc,Bw,Bn,Int.reduceAdd,Int.reduceSub,Int.reduceMul,Int.reduceTDiv,Int.reduceTMod,Int.reduceMod,Int.reduceDiv,Nat.reduceLT,Nat.reduceEqDiff,Sa,Sb,Sc,Sd,Se,Sf,Sg,Int.reduceLE,Int.reduceLT,Int.reduceToNat,Int.reduceNeg,Int.reduceEq,Nat.reduceLeDiff,Nat.reducePow,Int.reducePow,reduceIte,Nat.reduceSub,Nat.reduceAdd,Nat.reduceMul,putAt,ceq,List.replicate, *]))
      rw [Heap.set_id H8 b1 _ r1, Heap.set_id H8 b2 _ r2, Heap.set_id H8 b5 _ r5] at g9 hC9
      have q1 := g9.some r1
      have q2 := g9.some r2
      have q5 := g9.some r5
      have hEq : Im.Eqv yy x1 := (show ∀ yy, _ → _ from again) yy hS9
      have cZ : ∀ (G : Heap) (K : Value → Heap → Prop), Grow w0 H9 G → K (.bool true) G → HCalls Try.prog w0 25 [(.agg #[.int .i64 yy.f, .slice yy.a yy.ls.length yy.cap, .int .i64 yy.s, .int .i64 yy.t, .int .i64 yy.mn, .int .i64 yy.mg]), (.agg #[.int .i64 x1.f, .slice x1.a x1.ls.length x1.cap, .int .i64 x1.s, .int .i64 x1.t, .int .i64 x1.mn, .int .i64 x1.mg])] G K := fun G K g0 hk => c_Same yy x1 (hC9.ok.grow g0) ((hx8.grow g9).grow g0) (fun _ => hk) (fun q => (q hEq).elim)
      have gH9 := gH8.trans g9
      clear hEq hS9 hC9 again cU
      unfold Im.v
      rw [root3 q1 q2 q5]
      (all_goals (try simp only [Sq,Sr,Sh,Si,Sl,Bu,Bb,Bd,Bc,Bw,Bn,Int.reduceAdd,Int.reduceSub,Int.reduceMul,Int.reduceTDiv,Int.reduceTMod,Int.reduceMod,Int.reduceDiv,Nat.reduceLT,Nat.reduceEqDiff,Sa,Sb,Sc,Sd,Se,Sf,Sg,Int.reduceLE,Int.reduceLT,Int.reduceToNat,Int.reduceNeg,Int.reduceEq,Nat.reduceLeDiff,Nat.reducePow,Int.reducePow,reduceIte,Nat.reduceSub,Nat.reduceAdd,Nat.reduceMul,putAt,ceq,List.replicate, *])); repeat' ((first | (with_reducible refine fun _ : True => ?_) | refine cZ _ _ (by (repeat' (first | exact Grow.refl _ | assumption | (refine Grow_known (by first | (simp only [Heap.set_same, set_ne, ne_eq, not_false_eq_true, *] <;> rfl) | fail) ?_) | (refine Grow.set ?_ (by assumption) (by first | (simp only [*] <;> done) | (simp [set_none', Heap.set_same, set_ne, noneH, *] <;> done) | fail)) | (refine Grow.trans ?_ (by assumption))))) ?_ | (with_reducible refine any_h ?_) | ((first | refine AllocQ_i ?_ | refine AllocO_i ?_); intro bk hb0 hbk; (try simp only [set_none'] at hbk); (try (first | have hbn := Grow.none (by assumption) hbk | have hbn := Grow.none (by assumption) hbk.2 | have hbn := Grow.none (by assumption) hbk.2.2 | have hbn := Grow.none (by assumption) hbk.2.2.2 | have hbn := Grow.none (by assumption) hbk.2.2.2.2 | have hbn := Grow.none (by assumption) hbk.2.2.2.2.2)); (try simp only [set_none'] at hbn); (try (first | have hbm := Grow.none (by assumption) hbn | have hbm := Grow.none (by assumption) hbn.2 | have hbm := Grow.none (by assumption) hbn.2.2 | have hbm := Grow.none (by assumption) hbn.2.2.2 | have hbm := Grow.none (by assumption) hbn.2.2.2.2 | have hbm := Grow.none (by assumption) hbn.2.2.2.2.2)); (try simp only [set_none'] at hbm)) | ((first | refine condS_i ?_ ?_ | refine pick_i ?_ ?_ | refine gS_it ?_ ?_ | refine gS_if ?_ ?_ | refine gP_it ?_ ?_ | refine gP_if ?_ ?_) <;> (intro hc; try simp only [Int.reduceLE,Int.reduceLT,Int.reduceEq,Sn] at hc)) | (with_reducible refine KP_i ?_ ?_; · (repeat' (first | exact Heap.Le.refl _ | (with_reducible refine Le_set2 ?_) | (refine Le_known (by first | (simp only [Heap.set_same, set_ne, ne_eq, not_false_eq_true, *] <;> rfl) | fail) ?_) | (refine Le_fresh (by first | (simp only [*] <;> done) | (simp [set_none', Heap.set_same, set_ne, noneH, *] <;> done) | fail) ?_) | (refine Heap.Le.trans ?_ (Grow.le (by assumption))) | exact Le_none | (refine Le_put ?_ (by first | (simp only [Heap.set_same, set_ne, ne_eq, not_false_eq_true, *] <;> rfl) | fail)) | fail))) | (with_reducible refine And.intro ?_ ?_)) <;> (try simp only [Sq,Sr,Sh,Si,Sl,Bu,Bb,Bd,Bc,Bw,Bn,Int.reduceAdd,Int.reduceSub,Int.reduceMul,Int.reduceTDiv,Int.reduceTMod,Int.reduceMod,Int.reduceDiv,Nat.reduceLT,Nat.reduceEqDiff,Sa,Sb,Sc,Sd,Se,Sf,Sg,Int.reduceLE,Int.reduceLT,Int.reduceToNat,Int.reduceNeg,Int.reduceEq,Nat.reduceLeDiff,Nat.reducePow,Int.reducePow,reduceIte,Nat.reduceSub,Nat.reduceAdd,Nat.reduceMul,putAt,ceq,List.replicate, *]))
      all_goals exact Fin_mk (Heap.Le.trans (Grow.le gH9) (by (repeat' (first | exact Heap.Le.refl _ | (with_reducible refine Le_set2 ?_) | (refine Le_known (by first | (simp only [Heap.set_same, set_ne, ne_eq, not_false_eq_true, *] <;> rfl) | fail) ?_) | (refine Le_fresh (by first | (simp only [*] <;> done) | (simp [set_none', Heap.set_same, set_ne, noneH, *] <;> done) | fail) ?_) | (refine Heap.Le.trans ?_ (Grow.le (by assumption))) | exact Le_none | (refine Le_put ?_ (by first | (simp only [Heap.set_same, set_ne, ne_eq, not_false_eq_true, *] <;> rfl) | fail)) | fail)))) h
    · refine c_Sub_short x1 (hIx.grow gx3) lv p k z f g a _ c hn ?_
      rw [root2 d12 k1 k2]
      clear f g hn
      (all_goals (try simp only [Sq,Sr,Sh,Si,Sl,Bu,Bb,Bd,Bc,Bw,Bn,Int.reduceAdd,Int.reduceSub,Int.reduceMul,Int.reduceTDiv,Int.reduceTMod,Int.reduceMod,Int.reduceDiv,Nat.reduceLT,Nat.reduceEqDiff,Sa,Sb,Sc,Sd,Se,Sf,Sg,Int.reduceLE,Int.reduceLT,Int.reduceToNat,Int.reduceNeg,Int.reduceEq,Nat.reduceLeDiff,Nat.reducePow,Int.reducePow,reduceIte,Nat.reduceSub,Nat.reduceAdd,Nat.reduceMul,putAt,ceq,List.replicate, *])); repeat' ((first | (with_reducible refine fun _ : True => ?_) | (with_reducible refine any_h ?_) | ((first | refine AllocQ_i ?_ | refine AllocO_i ?_); intro bk hb0 hbk; (try simp only [set_none'] at hbk); (try (first | have hbn := Grow.none (by assumption) hbk | have hbn := Grow.none (by assumption) hbk.2 | have hbn := Grow.none (by assumption) hbk.2.2 | have hbn := Grow.none (by assumption) hbk.2.2.2 | have hbn := Grow.none (by assumption) hbk.2.2.2.2 | have hbn := Grow.none (by assumption) hbk.2.2.2.2.2)); (try simp only [set_none'] at hbn); (try (first | have hbm := Grow.none (by assumption) hbn | have hbm := Grow.none (by assumption) hbn.2 | have hbm := Grow.none (by assumption) hbn.2.2 | have hbm := Grow.none (by assumption) hbn.2.2.2 | have hbm := Grow.none (by assumption) hbn.2.2.2.2 | have hbm := Grow.none (by assumption) hbn.2.2.2.2.2)); (try simp only [set_none'] at hbm)) | ((first | refine condS_i ?_ ?_ | refine pick_i ?_ ?_ | refine gS_it ?_ ?_ | refine gS_if ?_ ?_ | refine gP_it ?_ ?_ | refine gP_if ?_ ?_) <;> (intro hc; try simp only [Int.reduceLE,Int.reduceLT,Int.reduceEq,Sn] at hc)) | (with_reducible refine KP_i ?_ ?_; · (repeat' (first | exact Heap.Le.refl _ | (with_reducible refine Le_set2 ?_) | (refine Le_known (by first | (simp only [Heap.set_same, set_ne, ne_eq, not_false_eq_true, *] <;> rfl) | fail) ?_) | (refine Le_fresh (by first | (simp only [*] <;> done) | (simp [set_none', Heap.set_same, set_ne, noneH, *] <;> done) | fail) ?_) | (refine Heap.Le.trans ?_ (Grow.le (by assumption))) | exact Le_none | (refine Le_put ?_ (by first | (simp only [Heap.set_same, set_ne, ne_eq, not_false_eq_true, *] <;> rfl) | fail)) | fail))) | (with_reducible refine And.intro ?_ ?_)) <;> (try simp only [Sq,Sr,Sh,Si,Sl,Bu,Bb,Bd,Bc,Bw,Bn,Int.reduceAdd,Int.reduceSub,Int.reduceMul,Int.reduceTDiv,Int.reduceTMod,Int.reduceMod,Int.reduceDiv,Nat.reduceLT,Nat.reduceEqDiff,Sa,Sb,Sc,Sd,Se,Sf,Sg,Int.reduceLE,Int.reduceLT,Int.reduceToNat,Int.reduceNeg,Int.reduceEq,Nat.reduceLeDiff,Nat.reducePow,Int.reducePow,reduceIte,Nat.reduceSub,Nat.reduceAdd,Nat.reduceMul,putAt,ceq,List.replicate, *]))
      all_goals exact Fin_mk (Heap.Le.trans (Grow.le gH3) (by (repeat' (first | exact Heap.Le.refl _ | (with_reducible refine Le_set2 ?_) | (refine Le_known (by first | (simp only [Heap.set_same, set_ne, ne_eq, not_false_eq_true, *] <;> rfl) | fail) ?_) | (refine Le_fresh (by first | (simp only [*] <;> done) | (simp [set_none', Heap.set_same, set_ne, noneH, *] <;> done) | fail) ?_) | (refine Heap.Le.trans ?_ (Grow.le (by assumption))) | exact Le_none | (refine Le_put ?_ (by first | (simp only [Heap.set_same, set_ne, ne_eq, not_false_eq_true, *] <;> rfl) | fail)) | fail)))) h
end Go.Proofs.Ytdaipgnhconfnaa
