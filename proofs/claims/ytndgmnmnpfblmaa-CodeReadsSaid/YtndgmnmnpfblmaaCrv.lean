/- Which code any bytes are, by the document (layer 16). -/
import Derived.Test.YtndgmnmnpfblmaaCrs
import Derived.Test.YtndgmnmnpfblmaaCru
import Derived.Test.YtndgmnmnpfblmaaCdm
import Derived.Test.YtndgmnmnpfblmaaCdr
set_option linter.unusedSimpArgs false
set_option linter.unusedVariables false
set_option maxRecDepth 100000
set_option maxHeartbeats 4000000
namespace Go.Proofs.Ytndgmnmnpfblmaa
open Go.HL Go.RowKit Pb
variable {w0 : World} {H G : Heap} {K : Value → Heap → Prop}

theorem decIs_succ (l : List Int) (k : Nat) : decIs l (k + 1) = decIs l k ++ [insA l (28 + 64 * k)] := by
  unfold decIs; rw [List.range_succ, List.map_append]; rfl
theorem decIs_len (l : List Int) (k : Nat) : (decIs l k).length = k := by unfold decIs; simp
theorem rowsC_snoc (l : List Ins) (i : Ins) : rowsC (l ++ [i]) = rowsC l ++ i.row := by unfold rowsC; simp
theorem kq {p : Prop} (h : Keep p) : p := h
/- paintboxref16 Of -/
def M21 : MC :=
  .seq (.reg [⟨(some 2), .alloc 34 [(.int .i64 0), (.slice none 0 0), (.int .i64 0), (.int .i64 0), (.int .i64 0), (.int .i64 0)], none⟩,
 ⟨(some 3), .mv (.const (.bool false)), none⟩])
 (.seq (.seq (.reg [⟨(some 8), .mv (.tmp 0), none⟩,
 ⟨(some 9), .len (.tmp 8), none⟩,
 ⟨(some 10), .bin .lss (.tmp 9) (.const (.int .i64 28)), none⟩,
 ⟨(some 11), .mv (.tmp 10), none⟩,
 ⟨(some 12), .mv (.tmp 0), (some (11, false))⟩,
 ⟨(some 13), .len (.tmp 12), (some (11, false))⟩,
 ⟨(some 14), .bin .sub (.tmp 13) (.const (.int .i64 28)), (some (11, false))⟩,
 ⟨(some 15), .bin .rem (.tmp 14) (.const (.int .i64 64)), (some (11, false))⟩,
 ⟨(some 16), .bin .neq (.tmp 15) (.const (.int .i64 0)), (some (11, false))⟩,
 ⟨(some 17), .pick (.tmp 11) (.const (.bool true)) (.tmp 16), none⟩,
 ⟨(some 18), .mv (.tmp 17), none⟩,
 ⟨(some 19), .mv (.tmp 0), (some (18, false))⟩,
 ⟨(some 20), .len (.tmp 19), (some (18, false))⟩,
 ⟨(some 21), .bin .gtr (.tmp 20) (.const (.int .i64 262172)), (some (18, false))⟩,
 ⟨(some 22), .pick (.tmp 18) (.const (.bool true)) (.tmp 21), none⟩])
 (.cond (.tmp 22)
 (.seq (.reg [⟨(some 23), .build [(.int .i64 0), (.slice none 0 0), (.int .i64 0), (.int .i64 0), (.int .i64 0), (.int .i64 0)] [], none⟩,
 ⟨none, .stn 6 (.tmp 2) (.tmp 23), none⟩,
 ⟨(some 3), .mv (.const (.bool false)), none⟩])
 (.ret))
 (.skip)))
 (.seq (.reg [⟨(some 24), .mv (.tmp 0), none⟩,
 ⟨(some 25), .call 36 [(.tmp 24), (.const (.int .i64 4))], none⟩,
 ⟨(some 26), .mv (.tmp 0), none⟩,
 ⟨(some 27), .call 36 [(.tmp 26), (.const (.int .i64 8))], none⟩,
 ⟨(some 28), .mv (.tmp 0), none⟩,
 ⟨(some 29), .call 36 [(.tmp 28), (.const (.int .i64 12))], none⟩,
 ⟨(some 30), .mv (.tmp 0), none⟩,
 ⟨(some 31), .call 36 [(.tmp 30), (.const (.int .i64 16))], none⟩,
 ⟨(some 32), .mv (.tmp 0), none⟩,
 ⟨(some 33), .call 36 [(.tmp 32), (.const (.int .i64 20))], none⟩,
 ⟨(some 34), .build [(.int .i64 0), (.slice none 0 0), (.int .i64 0), (.int .i64 0), (.int .i64 0), (.int .i64 0)] [(0, 1, (.tmp 25)), (2, 1, (.tmp 27)), (3, 1, (.tmp 29)), (4, 1, (.tmp 31)), (5, 1, (.tmp 33))], none⟩,
 ⟨(some 4), .alloc 34 [(.int .i64 0), (.slice none 0 0), (.int .i64 0), (.int .i64 0), (.int .i64 0), (.int .i64 0)], none⟩,
 ⟨none, .stn 6 (.tmp 4) (.tmp 34), none⟩])
 (.seq (.seq (.reg [⟨(some 35), .mv (.tmp 0), none⟩,
 ⟨(some 36), .call 36 [(.tmp 35), (.const (.int .i64 0))], none⟩,
 ⟨(some 37), .bin .neq (.tmp 36) (.const (.int .i64 1128353872)), none⟩,
 ⟨(some 38), .mv (.tmp 37), none⟩,
 ⟨(some 39), .mv (.tmp 0), (some (38, false))⟩,
 ⟨(some 40), .call 36 [(.tmp 39), (.const (.int .i64 24))], (some (38, false))⟩,
 ⟨(some 41), .mv (.tmp 0), (some (38, false))⟩,
 ⟨(some 42), .len (.tmp 41), (some (38, false))⟩,
 ⟨(some 43), .bin .sub (.tmp 42) (.const (.int .i64 28)), (some (38, false))⟩,
 ⟨(some 44), .bin .quo (.tmp 43) (.const (.int .i64 64)), (some (38, false))⟩,
 ⟨(some 45), .bin .neq (.tmp 40) (.tmp 44), (some (38, false))⟩,
 ⟨(some 46), .pick (.tmp 38) (.const (.bool true)) (.tmp 45), none⟩])
 (.cond (.tmp 46)
 (.seq (.reg [⟨(some 47), .build [(.int .i64 0), (.slice none 0 0), (.int .i64 0), (.int .i64 0), (.int .i64 0), (.int .i64 0)] [], none⟩,
 ⟨none, .stn 6 (.tmp 2) (.tmp 47), none⟩,
 ⟨(some 3), .mv (.const (.bool false)), none⟩])
 (.ret))
 (.skip)))
 (.seq (.seq (.reg [⟨(some 5), .mv (.const (.int .i64 28)), none⟩])
 (.block 0 (.loop (.seq (.seq (.reg [⟨(some 48), .mv (.tmp 5), none⟩,
 ⟨(some 49), .mv (.tmp 0), none⟩,
 ⟨(some 50), .len (.tmp 49), none⟩,
 ⟨(some 51), .bin .lss (.tmp 48) (.tmp 50), none⟩])
 (.cond (.tmp 51)
 (.skip)
 (.exit 0)))
 (.seq (.block 1 (.seq (.reg [⟨(some 54), .mv (.tmp 0), none⟩,
 ⟨(some 55), .mv (.tmp 5), none⟩,
 ⟨(some 56), .call 36 [(.tmp 54), (.tmp 55)], none⟩,
 ⟨(some 57), .mv (.tmp 0), none⟩,
 ⟨(some 58), .mv (.tmp 5), none⟩,
 ⟨(some 59), .bin .add (.tmp 58) (.const (.int .i64 4)), none⟩,
 ⟨(some 60), .call 36 [(.tmp 57), (.tmp 59)], none⟩,
 ⟨(some 61), .mv (.tmp 0), none⟩,
 ⟨(some 62), .mv (.tmp 5), none⟩,
 ⟨(some 63), .bin .add (.tmp 62) (.const (.int .i64 8)), none⟩,
 ⟨(some 64), .call 36 [(.tmp 61), (.tmp 63)], none⟩,
 ⟨(some 65), .mv (.tmp 0), none⟩,
 ⟨(some 66), .mv (.tmp 5), none⟩,
 ⟨(some 67), .bin .add (.tmp 66) (.const (.int .i64 12)), none⟩,
 ⟨(some 68), .call 36 [(.tmp 65), (.tmp 67)], none⟩,
 ⟨(some 69), .mv (.tmp 0), none⟩,
 ⟨(some 70), .mv (.tmp 5), none⟩,
 ⟨(some 71), .bin .add (.tmp 70) (.const (.int .i64 16)), none⟩,
 ⟨(some 72), .call 36 [(.tmp 69), (.tmp 71)], none⟩,
 ⟨(some 73), .mv (.tmp 0), none⟩,
 ⟨(some 74), .mv (.tmp 5), none⟩,
 ⟨(some 75), .bin .add (.tmp 74) (.const (.int .i64 20)), none⟩,
 ⟨(some 76), .call 36 [(.tmp 73), (.tmp 75)], none⟩,
 ⟨(some 77), .mv (.tmp 0), none⟩,
 ⟨(some 78), .mv (.tmp 5), none⟩,
 ⟨(some 79), .bin .add (.tmp 78) (.const (.int .i64 24)), none⟩,
 ⟨(some 80), .call 36 [(.tmp 77), (.tmp 79)], none⟩,
 ⟨(some 81), .mv (.tmp 0), none⟩,
 ⟨(some 82), .mv (.tmp 5), none⟩,
 ⟨(some 83), .bin .add (.tmp 82) (.const (.int .i64 28)), none⟩,
 ⟨(some 84), .call 36 [(.tmp 81), (.tmp 83)], none⟩,
 ⟨(some 85), .build [(.int .i64 0), (.int .i64 0), (.int .i64 0), (.int .i64 0), (.int .i64 0), (.int .i64 0), (.int .i64 0), (.int .i64 0), (.int .i32 0), (.int .i32 0), (.int .i32 0), (.int .i32 0), (.int .i64 0), (.int .i64 0), (.int .i64 0), (.int .i64 0)] [(0, 1, (.tmp 56)), (1, 1, (.tmp 60)), (2, 1, (.tmp 64)), (3, 1, (.tmp 68)), (4, 1, (.tmp 72)), (5, 1, (.tmp 76)), (6, 1, (.tmp 80)), (7, 1, (.tmp 84))], none⟩,
 ⟨(some 6), .alloc 30 [(.int .i64 0), (.int .i64 0), (.int .i64 0), (.int .i64 0), (.int .i64 0), (.int .i64 0), (.int .i64 0), (.int .i64 0), (.int .i32 0), (.int .i32 0), (.int .i32 0), (.int .i32 0), (.int .i64 0), (.int .i64 0), (.int .i64 0), (.int .i64 0)], none⟩,
 ⟨none, .stn 16 (.tmp 6) (.tmp 85), none⟩])
 (.seq (.seq (.reg [⟨(some 86), .mv (.const (.int .i64 0)), none⟩])
 (.block 2 (.loop (.seq (.reg [⟨(some 87), .bin .lss (.tmp 86) (.const (.int .i64 4)), none⟩])
 (.seq (.cond (.tmp 87)
 (.skip)
 (.exit 2))
 (.seq (.block 3 (.seq (.reg [⟨(some 88), .mv (.tmp 86), none⟩,
 ⟨(some 7), .mv (.tmp 88), none⟩])
 (.seq (.reg [⟨(some 89), .mv (.tmp 7), none⟩,
 ⟨(some 90), .mv (.tmp 0), none⟩,
 ⟨(some 91), .mv (.tmp 5), none⟩,
 ⟨(some 92), .bin .add (.tmp 91) (.const (.int .i64 32)), none⟩,
 ⟨(some 93), .mv (.tmp 7), none⟩,
 ⟨(some 94), .bin .mul (.const (.int .i64 4)) (.tmp 93), none⟩,
 ⟨(some 95), .bin .add (.tmp 92) (.tmp 94), none⟩,
 ⟨(some 96), .call 36 [(.tmp 90), (.tmp 95)], none⟩,
 ⟨(some 97), .conv .u32 (.tmp 96), none⟩,
 ⟨(some 98), .conv .i32 (.tmp 97), none⟩,
 ⟨(some 99), .fa 8 (.tmp 6), none⟩,
 ⟨(some 100), .ia 4 1 (.tmp 99) (.tmp 89), none⟩,
 ⟨none, .st1 (.tmp 100) (.tmp 98), none⟩])
 (.reg [⟨(some 101), .mv (.tmp 7), none⟩,
 ⟨(some 102), .mv (.tmp 0), none⟩,
 ⟨(some 103), .mv (.tmp 5), none⟩,
 ⟨(some 104), .bin .add (.tmp 103) (.const (.int .i64 48)), none⟩,
 ⟨(some 105), .mv (.tmp 7), none⟩,
 ⟨(some 106), .bin .mul (.const (.int .i64 4)) (.tmp 105), none⟩,
 ⟨(some 107), .bin .add (.tmp 104) (.tmp 106), none⟩,
 ⟨(some 108), .call 36 [(.tmp 102), (.tmp 107)], none⟩,
 ⟨(some 109), .fa 12 (.tmp 6), none⟩,
 ⟨(some 110), .ia 4 1 (.tmp 109) (.tmp 101), none⟩,
 ⟨none, .st1 (.tmp 110) (.tmp 108), none⟩]))))
 (.reg [⟨(some 111), .bin .add (.tmp 86) (.const (.int .i64 1)), none⟩,
 ⟨(some 86), .mv (.tmp 111), none⟩])))))))
 (.reg [⟨(some 112), .fa 1 (.tmp 4), none⟩,
 ⟨(some 113), .ld1 (.tmp 112), none⟩,
 ⟨(some 114), .ldn 16 (.tmp 6), none⟩,
 ⟨(some 115), .bslice 30 1 [(.int .i64 0), (.int .i64 0), (.int .i64 0), (.int .i64 0), (.int .i64 0), (.int .i64 0), (.int .i64 0), (.int .i64 0), (.int .i32 0), (.int .i32 0), (.int .i32 0), (.int .i32 0), (.int .i64 0), (.int .i64 0), (.int .i64 0), (.int .i64 0)] [(0, 16, (.tmp 114))], none⟩,
 ⟨(some 116), .app 30 16 112 [(.int .i64 0), (.int .i64 0), (.int .i64 0), (.int .i64 0), (.int .i64 0), (.int .i64 0), (.int .i64 0), (.int .i64 0), (.int .i32 0), (.int .i32 0), (.int .i32 0), (.int .i32 0), (.int .i64 0), (.int .i64 0), (.int .i64 0), (.int .i64 0)] (.tmp 113) (.tmp 115), none⟩,
 ⟨(some 117), .fa 1 (.tmp 4), none⟩,
 ⟨none, .st1 (.tmp 117) (.tmp 116), none⟩]))))
 (.reg [⟨(some 52), .mv (.tmp 5), none⟩,
 ⟨(some 53), .bin .add (.tmp 52) (.const (.int .i64 64)), none⟩,
 ⟨(some 5), .mv (.tmp 53), none⟩]))))))
 (.seq (.any [(true, 0, [], ⟨(some 118), .ldn 6 (.tmp 4), none⟩),
 (false, 1, [0], ⟨(some 119), .ldn 6 (.tmp 4), none⟩),
 (false, 2, [0], ⟨(some 120), .call 37 [(.tmp 119)], none⟩),
 (false, 3, [], ⟨none, .stn 6 (.tmp 2) (.tmp 118), none⟩),
 (false, 4, [], ⟨(some 3), .mv (.tmp 120), none⟩)])
 (.ret))))))
theorem k21 : fnOk Try.prog 21 = some (M21, [.cn 6 2, .t 3], 121) := by kernel_rfl

theorem r_Of_yes (a : Option Addr) (cp : Nat) (l : List Int) (hA : IntsAt w0 H .u8 a l) (hl : l.length ≤ 1000000000) (hw : ∀ x ∈ l, 0 ≤ x ∧ x < 256)
    (hk : okHd l) (hy : ∀ ad k u G, Bld w0 H G ad k 16 30 (rowsC (decC l).is) → (decC l).is.length ≤ k → Grow w0 H G → (u = true ↔ mayP (decC l)) → K (.tuple #[({ decC l with adr := ad, cap := k } : Cd).v, .bool u]) G) : HCalls Try.prog w0 21 [.slice a l.length cp] H K := by
  have hN := fun (G : Heap) (K : Value → Heap → Prop) (g : Grow w0 H G) (p : Nat) (hp : p + 4 ≤ l.length) => r_num (K := K) a cp l p (hA.grow g) hl hw hp
  have hwp := fun p => (numL_lt ((l.drop p).take 4) fun x hx => hw x (List.mem_of_mem_drop (List.mem_of_mem_take hx))).1
  have hwp : ∀ p, 0 ≤ numA l p := hwp
  · obtain ⟨h1, h2, h3, h4⟩ := hk
    obtain ⟨n, en⟩ : ∃ n : Nat, numA l 24 = n := ⟨(numA l 24).toNat, by have := hwp 24; omega⟩
    rw [en, Int.toNat_natCast] at h4
    rw [en] at h3
    have eC : ∀ ad k, ({ decC l with adr := ad, cap := k } : Cd) = ⟨numA l 4, ad, k, decIs l n, numA l 8, numA l 12, numA l 16, numA l 20⟩ := fun ad k => by
      unfold decC; rw [en]; rfl
    have eI : (decC l).is = decIs l n := by unfold decC; rw [en]; rfl
    have hmay : ∀ ad k, mayP ⟨numA l 4, ad, k, decIs l n, numA l 8, numA l 12, numA l 16, numA l 20⟩ ↔ mayP (decC l) := fun ad k => by rw [← eC]; exact Iff.rfl
    simp only [eC, eI, decIs_len] at hy
    generalize mayP (decC l) = may at hy hmay
    have hMay := fun (G : Heap) (K : Value → Heap → Prop) (ad : Option Addr) (k : Nat) (hc : CdAt w0 G ⟨numA l 4, ad, k, decIs l n, numA l 8, numA l 12, numA l 16, numA l 20⟩) (h : ∀ u : Bool, (u = true ↔ may) → K (.bool u) G) =>
      r_May (w0 := w0) (H := G) (K := K) _ hc (fun hm => h true (by simp [(hmay ad k).1 hm])) (fun hm => h false (by simp; exact fun hx => hm ((hmay ad k).2 hx)))
    unfold Cd.v at hMay hy
    simp only [decIs_len] at hMay hy
    obtain ⟨len, el⟩ : ∃ n, l.length = n := ⟨_, rfl⟩
    rw [el] at h1 h4 hl ⊢
    simp only [el] at hN
    have hN24 := fun G K g => hN G K g 24 (by omega)
    have hN0 := fun G K g => hN G K g 0 (by omega)
    have hN4 := fun G K g => hN G K g 4 (by omega)
    have hN8 := fun G K g => hN G K g 8 (by omega)
    have hN12 := fun G K g => hN G K g 12 (by omega)
    have hN16 := fun G K g => hN G K g 16 (by omega)
    have hN20 := fun G K g => hN G K g 20 (by omega)
    rw [en] at hN24
    rw [h2] at hN0
    have f1 : ¬ (len : Int) < 28 := by omega
    have f2 : IntKind.i64.wrap ((len : Int) - 28) = (len : Int) - 28 := Bw.1 _ (by omega) (by omega)
    have f3 : ((len : Int) - 28).tmod 64 = 0 := by rw [Int.tmod_eq_emod_of_nonneg (by omega)]; omega
    have f4 : ¬ (262172 : Int) < (len : Int) := by omega
    have f5 : ((len : Int) - 28).tdiv 64 = n := by rw [Int.tdiv_eq_ediv_of_nonneg (by omega)]; omega
    have f6 : IntKind.i64.wrap (n : Int) = n := Bw.1 _ (by omega) (by omega)
    clear hA hw hwp hmay el en h2
    replace h4 : Keep _ := h4
    replace hN : Keep _ := hN
    replace hN24 : Keep _ := hN24
    replace hN0 : Keep _ := hN0
    replace hN4 : Keep _ := hN4
    replace hN8 : Keep _ := hN8
    replace hN12 : Keep _ := hN12
    replace hN16 : Keep _ := hN16
    replace hN20 : Keep _ := hN20
    replace hMay : Keep _ := hMay
    replace hy : Keep _ := hy
    refine HL.hc k21 999 ?_; unfold M21
    (all_goals (try simp only [Sq,Sr,Sh,Si,Sl,Bu,Bb,Bd,Bc,Bw,Bn,Int.reduceAdd,Int.reduceSub,Int.reduceMul,Int.reduceTDiv,Int.reduceTMod,Int.reduceMod,Int.reduceDiv,Nat.reduceLT,Nat.reduceEqDiff,Sa,Sb,Sc,Sd,Se,Sf,Sg,Int.reduceLE,Int.reduceLT,Int.reduceToNat,Int.reduceNeg,Int.reduceEq,Nat.reduceLeDiff,Nat.reducePow,Int.reducePow,reduceIte,Nat.reduceSub,Nat.reduceAdd,Nat.reduceMul,putAt,ceq,List.replicate, *])); repeat' ((first | (with_reducible refine fun _ : True => ?_) | refine hN4 _ _ (by (repeat' (first | exact Grow.refl _ | assumption | (refine Grow_known (by first | (simp only [Heap.set_same, set_ne, ne_eq, not_false_eq_true, *] <;> rfl) | fail) ?_) | (refine Grow.set ?_ (by assumption) (by first | (simp only [*] <;> done) | (simp [set_none', Heap.set_same, set_ne, noneH, *] <;> done) | fail)) | (refine Grow.trans ?_ (by assumption))))) ?_ | refine hN8 _ _ (by (repeat' (first | exact Grow.refl _ | assumption | (refine Grow_known (by first | (simp only [Heap.set_same, set_ne, ne_eq, not_false_eq_true, *] <;> rfl) | fail) ?_) | (refine Grow.set ?_ (by assumption) (by first | (simp only [*] <;> done) | (simp [set_none', Heap.set_same, set_ne, noneH, *] <;> done) | fail)) | (refine Grow.trans ?_ (by assumption))))) ?_ | refine hN12 _ _ (by (repeat' (first | exact Grow.refl _ | assumption | (refine Grow_known (by first | (simp only [Heap.set_same, set_ne, ne_eq, not_false_eq_true, *] <;> rfl) | fail) ?_) | (refine Grow.set ?_ (by assumption) (by first | (simp only [*] <;> done) | (simp [set_none', Heap.set_same, set_ne, noneH, *] <;> done) | fail)) | (refine Grow.trans ?_ (by assumption))))) ?_ | refine hN16 _ _ (by (repeat' (first | exact Grow.refl _ | assumption | (refine Grow_known (by first | (simp only [Heap.set_same, set_ne, ne_eq, not_false_eq_true, *] <;> rfl) | fail) ?_) | (refine Grow.set ?_ (by assumption) (by first | (simp only [*] <;> done) | (simp [set_none', Heap.set_same, set_ne, noneH, *] <;> done) | fail)) | (refine Grow.trans ?_ (by assumption))))) ?_ | refine hN20 _ _ (by (repeat' (first | exact Grow.refl _ | assumption | (refine Grow_known (by first | (simp only [Heap.set_same, set_ne, ne_eq, not_false_eq_true, *] <;> rfl) | fail) ?_) | (refine Grow.set ?_ (by assumption) (by first | (simp only [*] <;> done) | (simp [set_none', Heap.set_same, set_ne, noneH, *] <;> done) | fail)) | (refine Grow.trans ?_ (by assumption))))) ?_ | refine hN0 _ _ (by (repeat' (first | exact Grow.refl _ | assumption | (refine Grow_known (by first | (simp only [Heap.set_same, set_ne, ne_eq, not_false_eq_true, *] <;> rfl) | fail) ?_) | (refine Grow.set ?_ (by assumption) (by first | (simp only [*] <;> done) | (simp [set_none', Heap.set_same, set_ne, noneH, *] <;> done) | fail)) | (refine Grow.trans ?_ (by assumption))))) ?_ | refine hN24 _ _ (by (repeat' (first | exact Grow.refl _ | assumption | (refine Grow_known (by first | (simp only [Heap.set_same, set_ne, ne_eq, not_false_eq_true, *] <;> rfl) | fail) ?_) | (refine Grow.set ?_ (by assumption) (by first | (simp only [*] <;> done) | (simp [set_none', Heap.set_same, set_ne, noneH, *] <;> done) | fail)) | (refine Grow.trans ?_ (by assumption))))) ?_ | (with_reducible refine any_h ?_) | ((first | refine AllocQ_i ?_ | refine AllocO_i ?_); intro bk hb0 hbk; (try simp only [set_none'] at hbk); (try (first | have hbn := Grow.none (by assumption) hbk | have hbn := Grow.none (by assumption) hbk.2 | have hbn := Grow.none (by assumption) hbk.2.2 | have hbn := Grow.none (by assumption) hbk.2.2.2 | have hbn := Grow.none (by assumption) hbk.2.2.2.2 | have hbn := Grow.none (by assumption) hbk.2.2.2.2.2)); (try simp only [set_none'] at hbn); (try (first | have hbm := Grow.none (by assumption) hbn | have hbm := Grow.none (by assumption) hbn.2 | have hbm := Grow.none (by assumption) hbn.2.2 | have hbm := Grow.none (by assumption) hbn.2.2.2 | have hbm := Grow.none (by assumption) hbn.2.2.2.2 | have hbm := Grow.none (by assumption) hbn.2.2.2.2.2)); (try simp only [set_none'] at hbm)) | ((first | refine condS_i ?_ ?_ | refine pick_i ?_ ?_ | refine gS_it ?_ ?_ | refine gS_if ?_ ?_ | refine gP_it ?_ ?_ | refine gP_if ?_ ?_) <;> (intro hc; try simp only [Int.reduceLE,Int.reduceLT,Int.reduceEq,Sn] at hc)) | (refine KP_i (by (repeat' (first | exact Heap.Le.refl _ | (with_reducible refine Le_set2 ?_) | (refine Le_known (by first | (simp only [Heap.set_same, set_ne, ne_eq, not_false_eq_true, *] <;> rfl) | fail) ?_) | (refine Le_fresh (by first | (simp only [*] <;> done) | (simp [set_none', Heap.set_same, set_ne, noneH, *] <;> done) | fail) ?_) | (refine Heap.Le.trans ?_ (Grow.le (by assumption))) | exact Le_none | (refine Le_put ?_ (by first | (simp only [Heap.set_same, set_ne, ne_eq, not_false_eq_true, *] <;> rfl) | fail)) | fail))) ?_) | (with_reducible refine And.intro ?_ ?_)) <;> (try simp only [Sq,Sr,Sh,Si,Sl,Bu,Bb,Bd,Bc,Bw,Bn,Int.reduceAdd,Int.reduceSub,Int.reduceMul,Int.reduceTDiv,Int.reduceTMod,Int.reduceMod,Int.reduceDiv,Nat.reduceLT,Nat.reduceEqDiff,Sa,Sb,Sc,Sd,Se,Sf,Sg,Int.reduceLE,Int.reduceLT,Int.reduceToNat,Int.reduceNeg,Int.reduceEq,Nat.reduceLeDiff,Nat.reducePow,Int.reducePow,reduceIte,Nat.reduceSub,Nat.reduceAdd,Nat.reduceMul,putAt,ceq,List.replicate, *]))
    rename_i b2 hb2 hn2
    obtain ⟨b4, rfl⟩ : ∃ x, x = bk := ⟨_, rfl⟩
    refine loopq_heap ?_
    intro Ga eG
    have ga : Grow w0 H Ga := by rw [eG]; exact (by (repeat' (first | exact Grow.refl _ | assumption | (refine Grow_known (by first | (simp only [Heap.set_same, set_ne, ne_eq, not_false_eq_true, *] <;> rfl) | fail) ?_) | (refine Grow.set ?_ (by assumption) (by first | (simp only [*] <;> done) | (simp [set_none', Heap.set_same, set_ne, noneH, *] <;> done) | fail)) | (refine Grow.trans ?_ (by assumption)))))
    have a4 : Ga b4 = some _ := at_of eG (by simp only [Heap.set_same, set_ne, ne_eq, not_false_eq_true, *] <;> rfl)
    have a2 : Ga b2 = some _ := at_of eG (by simp only [Heap.set_same, set_ne, ne_eq, not_false_eq_true, *] <;> rfl)
    have n24 : b2 ≠ b4 ∧ b4 ≠ b2 := ⟨hbk.1.2, hbk.1.1⟩
    have n4 : H b4 = none := hbk.2
    have hb4 := hb0
    clear eG hbk
    refine loop_g 6 (fun s : Nat × Nat × Option Addr × Nat × Heap => [(5, .int .i64 (s.2.1 : Nat))]) (fun s => s.2.2.2.2) (fun s => s.1 ≤ n ∧ s.2.1 = 28 + 64 * s.1 ∧ Bld w0 H s.2.2.2.2 s.2.2.1 s.2.2.2.1 16 30 (rowsC (decIs l s.1)) ∧ s.1 ≤ s.2.2.2.1 ∧ Grow w0 H s.2.2.2.2 ∧ s.2.2.2.2 b4 = some ⟨.t 34, [.int .i64 (numA l 4), .slice s.2.2.1 s.1 s.2.2.2.1, .int .i64 (numA l 8), .int .i64 (numA l 12), .int .i64 (numA l 16), .int .i64 (numA l 20)]⟩ ∧ s.2.2.2.2 b2 = some ⟨.t 34, [.int .i64 0, .slice none 0 0, .int .i64 0, .int .i64 0, .int .i64 0, .int .i64 0]⟩)
      (fun s => n - s.1) (0, 28, none, 0, Ga) ⟨Nat.zero_le _, rfl, .inr ⟨rfl, rfl⟩, Nat.le_refl _, ga, a4, a2⟩ (Heap.Le.refl _) rfl ?_
    clear ga a4 a2
    intro ⟨k, q, ad, kk, G⟩ g ⟨hk, hq, hB, hkk, hg, k4, k2⟩
    simp only at hk hq hB hkk hg k4 k2
    have h4' : len = 28 + 64 * n := h4
    by_cases hlt : k < n
    · have t0 : (q : Int) < (len : Int) := by omega
      have hql : q + 64 ≤ len := by omega
      have hp0 : q + 4 ≤ len := by omega
      have hpj : ∀ j, j ≤ 60 → (q + j) + 4 ≤ len := fun j hj => by omega
      have v4 : IntKind.i64.wrap ((q : Int) + 4) = ((q + 4 : Nat) : Int) := by rw [Bw.1 _ (by omega) (by omega)]; omega
      have v8 : IntKind.i64.wrap ((q : Int) + 8) = ((q + 8 : Nat) : Int) := by rw [Bw.1 _ (by omega) (by omega)]; omega
      have v12 : IntKind.i64.wrap ((q : Int) + 12) = ((q + 12 : Nat) : Int) := by rw [Bw.1 _ (by omega) (by omega)]; omega
      have v16 : IntKind.i64.wrap ((q : Int) + 16) = ((q + 16 : Nat) : Int) := by rw [Bw.1 _ (by omega) (by omega)]; omega
      have v20 : IntKind.i64.wrap ((q : Int) + 20) = ((q + 20 : Nat) : Int) := by rw [Bw.1 _ (by omega) (by omega)]; omega
      have v24 : IntKind.i64.wrap ((q : Int) + 24) = ((q + 24 : Nat) : Int) := by rw [Bw.1 _ (by omega) (by omega)]; omega
      have v28 : IntKind.i64.wrap ((q : Int) + 28) = ((q + 28 : Nat) : Int) := by rw [Bw.1 _ (by omega) (by omega)]; omega
      have v32 : IntKind.i64.wrap ((q : Int) + 32) = ((q + 32 : Nat) : Int) := by rw [Bw.1 _ (by omega) (by omega)]; omega
      have v48 : IntKind.i64.wrap ((q : Int) + 48) = ((q + 48 : Nat) : Int) := by rw [Bw.1 _ (by omega) (by omega)]; omega
      have v64 : IntKind.i64.wrap ((q : Int) + 64) = ((q + 64 : Nat) : Int) := by rw [Bw.1 _ (by omega) (by omega)]; omega
      have u32_0 : IntKind.i64.wrap (((q + 32 : Nat) : Int) + 0) = ((q + 32 : Nat) : Int) := by rw [Bw.1 _ (by omega) (by omega)]; omega
      have u32_4 : IntKind.i64.wrap (((q + 32 : Nat) : Int) + 4) = ((q + 36 : Nat) : Int) := by rw [Bw.1 _ (by omega) (by omega)]; omega
      have u32_8 : IntKind.i64.wrap (((q + 32 : Nat) : Int) + 8) = ((q + 40 : Nat) : Int) := by rw [Bw.1 _ (by omega) (by omega)]; omega
      have u32_12 : IntKind.i64.wrap (((q + 32 : Nat) : Int) + 12) = ((q + 44 : Nat) : Int) := by rw [Bw.1 _ (by omega) (by omega)]; omega
      have u48_0 : IntKind.i64.wrap (((q + 48 : Nat) : Int) + 0) = ((q + 48 : Nat) : Int) := by rw [Bw.1 _ (by omega) (by omega)]; omega
      have u48_4 : IntKind.i64.wrap (((q + 48 : Nat) : Int) + 4) = ((q + 52 : Nat) : Int) := by rw [Bw.1 _ (by omega) (by omega)]; omega
      have u48_8 : IntKind.i64.wrap (((q + 48 : Nat) : Int) + 8) = ((q + 56 : Nat) : Int) := by rw [Bw.1 _ (by omega) (by omega)]; omega
      have u48_12 : IntKind.i64.wrap (((q + 48 : Nat) : Int) + 12) = ((q + 60 : Nat) : Int) := by rw [Bw.1 _ (by omega) (by omega)]; omega
      have hkn : k ≤ 4096 := by omega
      have nx : q + 64 = 28 + 64 * (k + 1) := by omega
      have hBs : rowsC (decIs l (k + 1)) = rowsC (decIs l k) ++ (insA l q).row := by rw [decIs_succ, rowsC_snoc, hq]
      have hBl : (rowsC (decIs l k)).length = k * 16 := by rw [rowsC_len, decIs_len]
      have r4 : HL.rd1 w0 G b4 1 = some (.slice ad k kk) := by unfold HL.rd1; rw [k4]; rfl
      have hne4 := blk_ne k4
      have hne2 := blk_ne k2
      clear h4' hq hN0 hN4 hN8 hN12 hN16 hN20 hN24 hMay hy
      unfold Ins.row insA s32 at hBs
      simp only at hBs
      replace hBs : Keep _ := hBs
      replace hBl : Keep _ := hBl
      replace nx : Keep _ := nx
      replace k4 : Keep _ := k4
      replace k2 : Keep _ := k2
      replace v32 : Keep _ := v32
      replace v48 : Keep _ := v48
      replace v64 : Keep _ := v64
      replace u32_0 : Keep _ := u32_0
      replace u32_4 : Keep _ := u32_4
      replace u32_8 : Keep _ := u32_8
      replace u32_12 : Keep _ := u32_12
      replace u48_0 : Keep _ := u48_0
      replace u48_4 : Keep _ := u48_4
      replace u48_8 : Keep _ := u48_8
      replace u48_12 : Keep _ := u48_12
      (all_goals (try simp only [Sq,Sr,Sh,Si,Sl,Bu,Bb,Bd,Bc,Bw,Bn,Int.reduceAdd,Int.reduceSub,Int.reduceMul,Int.reduceTDiv,Int.reduceTMod,Int.reduceMod,Int.reduceDiv,Nat.reduceLT,Nat.reduceEqDiff,Sa,Sb,Sc,Sd,Se,Sf,Sg,Int.reduceLE,Int.reduceLT,Int.reduceToNat,Int.reduceNeg,Int.reduceEq,Nat.reduceLeDiff,Nat.reducePow,Int.reducePow,reduceIte,Nat.reduceSub,Nat.reduceAdd,Nat.reduceMul,putAt,ceq,List.replicate, *])); repeat' ((first | (with_reducible refine fun _ : True => ?_) | refine hN _ _ (by (repeat' (first | exact Grow.refl _ | assumption | (refine Grow_known (by first | (simp only [Heap.set_same, set_ne, ne_eq, not_false_eq_true, *] <;> rfl) | fail) ?_) | (refine Grow.set ?_ (by assumption) (by first | (simp only [*] <;> done) | (simp [set_none', Heap.set_same, set_ne, noneH, *] <;> done) | fail)) | (refine Grow.trans ?_ (by assumption))))) (q + _) (hpj _ (by decide)) ?_ | refine hN _ _ (by (repeat' (first | exact Grow.refl _ | assumption | (refine Grow_known (by first | (simp only [Heap.set_same, set_ne, ne_eq, not_false_eq_true, *] <;> rfl) | fail) ?_) | (refine Grow.set ?_ (by assumption) (by first | (simp only [*] <;> done) | (simp [set_none', Heap.set_same, set_ne, noneH, *] <;> done) | fail)) | (refine Grow.trans ?_ (by assumption))))) q hp0 ?_ | (with_reducible refine any_h ?_) | ((first | refine AllocQ_i ?_ | refine AllocO_i ?_); intro bk hb0 hbk; (try simp only [set_none'] at hbk); (try (first | have hbn := Grow.none (by assumption) hbk | have hbn := Grow.none (by assumption) hbk.2 | have hbn := Grow.none (by assumption) hbk.2.2 | have hbn := Grow.none (by assumption) hbk.2.2.2 | have hbn := Grow.none (by assumption) hbk.2.2.2.2 | have hbn := Grow.none (by assumption) hbk.2.2.2.2.2)); (try simp only [set_none'] at hbn); (try (first | have hbm := Grow.none (by assumption) hbn | have hbm := Grow.none (by assumption) hbn.2 | have hbm := Grow.none (by assumption) hbn.2.2 | have hbm := Grow.none (by assumption) hbn.2.2.2 | have hbm := Grow.none (by assumption) hbn.2.2.2.2 | have hbm := Grow.none (by assumption) hbn.2.2.2.2.2)); (try simp only [set_none'] at hbm)) | ((first | refine condS_i ?_ ?_ | refine pick_i ?_ ?_ | refine gS_it ?_ ?_ | refine gS_if ?_ ?_ | refine gP_it ?_ ?_ | refine gP_if ?_ ?_) <;> (intro hc; try simp only [Int.reduceLE,Int.reduceLT,Int.reduceEq,Sn] at hc)) | (refine KP_i (by (repeat' (first | exact Heap.Le.refl _ | (with_reducible refine Le_set2 ?_) | (refine Le_known (by first | (simp only [Heap.set_same, set_ne, ne_eq, not_false_eq_true, *] <;> rfl) | fail) ?_) | (refine Le_fresh (by first | (simp only [*] <;> done) | (simp [set_none', Heap.set_same, set_ne, noneH, *] <;> done) | fail) ?_) | (refine Heap.Le.trans ?_ (Grow.le (by assumption))) | exact Le_none | (refine Le_put ?_ (by first | (simp only [Heap.set_same, set_ne, ne_eq, not_false_eq_true, *] <;> rfl) | fail)) | fail))) ?_) | (with_reducible refine And.intro ?_ ?_)) <;> (try simp only [Sq,Sr,Sh,Si,Sl,Bu,Bb,Bd,Bc,Bw,Bn,Int.reduceAdd,Int.reduceSub,Int.reduceMul,Int.reduceTDiv,Int.reduceTMod,Int.reduceMod,Int.reduceDiv,Nat.reduceLT,Nat.reduceEqDiff,Sa,Sb,Sc,Sd,Se,Sf,Sg,Int.reduceLE,Int.reduceLT,Int.reduceToNat,Int.reduceNeg,Int.reduceEq,Nat.reduceLeDiff,Nat.reducePow,Int.reducePow,reduceIte,Nat.reduceSub,Nat.reduceAdd,Nat.reduceMul,putAt,ceq,List.replicate, *]))
      clear v4 v8 v12 v16 v20 v24 v28 hp0
      replace v32 := kq v32
      replace v48 := kq v48
      replace u32_0 := kq u32_0
      replace u32_4 := kq u32_4
      replace u32_8 := kq u32_8
      replace u32_12 := kq u32_12
      replace u48_0 := kq u48_0
      replace u48_4 := kq u48_4
      replace u48_8 := kq u48_8
      replace u48_12 := kq u48_12
      (all_goals (try simp only [Sq,Sr,Sh,Si,Sl,Bu,Bb,Bd,Bc,Bw,Bn,Int.reduceAdd,Int.reduceSub,Int.reduceMul,Int.reduceTDiv,Int.reduceTMod,Int.reduceMod,Int.reduceDiv,Nat.reduceLT,Nat.reduceEqDiff,Sa,Sb,Sc,Sd,Se,Sf,Sg,Int.reduceLE,Int.reduceLT,Int.reduceToNat,Int.reduceNeg,Int.reduceEq,Nat.reduceLeDiff,Nat.reducePow,Int.reducePow,reduceIte,Nat.reduceSub,Nat.reduceAdd,Nat.reduceMul,putAt,ceq,List.replicate, *])); repeat' ((first | (with_reducible refine fun _ : True => ?_) | refine hN _ _ (by (repeat' (first | exact Grow.refl _ | assumption | (refine Grow_known (by first | (simp only [Heap.set_same, set_ne, ne_eq, not_false_eq_true, *] <;> rfl) | fail) ?_) | (refine Grow.set ?_ (by assumption) (by first | (simp only [*] <;> done) | (simp [set_none', Heap.set_same, set_ne, noneH, *] <;> done) | fail)) | (refine Grow.trans ?_ (by assumption))))) (q + _) (hpj _ (by decide)) ?_ | (with_reducible refine any_h ?_) | ((first | refine AllocQ_i ?_ | refine AllocO_i ?_); intro bk hb0 hbk; (try simp only [set_none'] at hbk); (try (first | have hbn := Grow.none (by assumption) hbk | have hbn := Grow.none (by assumption) hbk.2 | have hbn := Grow.none (by assumption) hbk.2.2 | have hbn := Grow.none (by assumption) hbk.2.2.2 | have hbn := Grow.none (by assumption) hbk.2.2.2.2 | have hbn := Grow.none (by assumption) hbk.2.2.2.2.2)); (try simp only [set_none'] at hbn); (try (first | have hbm := Grow.none (by assumption) hbn | have hbm := Grow.none (by assumption) hbn.2 | have hbm := Grow.none (by assumption) hbn.2.2 | have hbm := Grow.none (by assumption) hbn.2.2.2 | have hbm := Grow.none (by assumption) hbn.2.2.2.2 | have hbm := Grow.none (by assumption) hbn.2.2.2.2.2)); (try simp only [set_none'] at hbm)) | ((first | refine condS_i ?_ ?_ | refine pick_i ?_ ?_ | refine gS_it ?_ ?_ | refine gS_if ?_ ?_ | refine gP_it ?_ ?_ | refine gP_if ?_ ?_) <;> (intro hc; try simp only [Int.reduceLE,Int.reduceLT,Int.reduceEq,Sn] at hc)) | (refine KP_i (by (repeat' (first | exact Heap.Le.refl _ | (with_reducible refine Le_set2 ?_) | (refine Le_known (by first | (simp only [Heap.set_same, set_ne, ne_eq, not_false_eq_true, *] <;> rfl) | fail) ?_) | (refine Le_fresh (by first | (simp only [*] <;> done) | (simp [set_none', Heap.set_same, set_ne, noneH, *] <;> done) | fail) ?_) | (refine Heap.Le.trans ?_ (Grow.le (by assumption))) | exact Le_none | (refine Le_put ?_ (by first | (simp only [Heap.set_same, set_ne, ne_eq, not_false_eq_true, *] <;> rfl) | fail)) | fail))) ?_) | (with_reducible refine loop_u ?_) | (with_reducible refine And.intro ?_ ?_)) <;> (try simp only [Sq,Sr,Sh,Si,Sl,Bu,Bb,Bd,Bc,Bw,Bn,Int.reduceAdd,Int.reduceSub,Int.reduceMul,Int.reduceTDiv,Int.reduceTMod,Int.reduceMod,Int.reduceDiv,Nat.reduceLT,Nat.reduceEqDiff,Sa,Sb,Sc,Sd,Se,Sf,Sg,Int.reduceLE,Int.reduceLT,Int.reduceToNat,Int.reduceNeg,Int.reduceEq,Nat.reduceLeDiff,Nat.reducePow,Int.reducePow,reduceIte,Nat.reduceSub,Nat.reduceAdd,Nat.reduceMul,putAt,ceq,List.replicate, *]))
      clear v32 v48 u32_0 u32_4 u32_8 u32_12 u48_0 u48_4 u48_8 u48_12 hN hpj
      have k4 := kq k4
      have k2 := kq k2
      refine app_bld (H := H) (n := k) (m := 1) (cs := rowsC (decIs l k)) (hB.grow (by (repeat' (first | exact Grow.refl _ | assumption | (refine Grow_known (by first | (simp only [Heap.set_same, set_ne, ne_eq, not_false_eq_true, *] <;> rfl) | fail) ?_) | (refine Grow.set ?_ (by assumption) (by first | (simp only [*] <;> done) | (simp [set_none', Heap.set_same, set_ne, noneH, *] <;> done) | fail)) | (refine Grow.trans ?_ (by assumption)))))) (kq hBl) rfl (srd_blk (by simp only [Heap.set_same, set_ne, ne_eq, not_false_eq_true, *] <;> rfl) rfl) rfl (by (repeat' (first | exact Grow.refl _ | assumption | (refine Grow_known (by first | (simp only [Heap.set_same, set_ne, ne_eq, not_false_eq_true, *] <;> rfl) | fail) ?_) | (refine Grow.set ?_ (by assumption) (by first | (simp only [*] <;> done) | (simp [set_none', Heap.set_same, set_ne, noneH, *] <;> done) | fail)) | (refine Grow.trans ?_ (by assumption))))) ⟨Nat.le_trans (Nat.mul_le_mul_right _ (Nat.succ_le_succ hkn)) (by decide), Nat.le_trans (Nat.succ_le_succ hkn) (by decide)⟩ rfl (fun ad' kk' G' hB' hg' hk' hc' => ?_)
      have k4' : G' b4 = some _ := hk' _ _ (by simp only [Heap.set_same, set_ne, ne_eq, not_false_eq_true, *] <;> rfl) (fun e => absurd (Kd.t_inj e) (by decide))
      have k2' : G' b2 = some _ := hk' _ _ (by simp only [Heap.set_same, set_ne, ne_eq, not_false_eq_true, *] <;> rfl) (fun e => absurd (Kd.t_inj e) (by decide))
      have hBs := kq hBs
      rw [← hBs] at hB'
      have v64 := kq v64
      clear hB hk' k4 k2 hBs r4 hne4 hne2 hbk hb0
      (all_goals (try simp only [Sq,Sr,Sh,Si,Sl,Bu,Bb,Bd,Bc,Bw,Bn,Int.reduceAdd,Int.reduceSub,Int.reduceMul,Int.reduceTDiv,Int.reduceTMod,Int.reduceMod,Int.reduceDiv,Nat.reduceLT,Nat.reduceEqDiff,Sa,Sb,Sc,Sd,Se,Sf,Sg,Int.reduceLE,Int.reduceLT,Int.reduceToNat,Int.reduceNeg,Int.reduceEq,Nat.reduceLeDiff,Nat.reducePow,Int.reducePow,reduceIte,Nat.reduceSub,Nat.reduceAdd,Nat.reduceMul,putAt,ceq,List.replicate, *])); repeat' ((first | (with_reducible refine fun _ : True => ?_) | (with_reducible refine any_h ?_) | ((first | refine AllocQ_i ?_ | refine AllocO_i ?_); intro bk hb0 hbk; (try simp only [set_none'] at hbk); (try (first | have hbn := Grow.none (by assumption) hbk | have hbn := Grow.none (by assumption) hbk.2 | have hbn := Grow.none (by assumption) hbk.2.2 | have hbn := Grow.none (by assumption) hbk.2.2.2 | have hbn := Grow.none (by assumption) hbk.2.2.2.2 | have hbn := Grow.none (by assumption) hbk.2.2.2.2.2)); (try simp only [set_none'] at hbn); (try (first | have hbm := Grow.none (by assumption) hbn | have hbm := Grow.none (by assumption) hbn.2 | have hbm := Grow.none (by assumption) hbn.2.2 | have hbm := Grow.none (by assumption) hbn.2.2.2 | have hbm := Grow.none (by assumption) hbn.2.2.2.2 | have hbm := Grow.none (by assumption) hbn.2.2.2.2.2)); (try simp only [set_none'] at hbm)) | ((first | refine condS_i ?_ ?_ | refine pick_i ?_ ?_ | refine gS_it ?_ ?_ | refine gS_if ?_ ?_ | refine gP_it ?_ ?_ | refine gP_if ?_ ?_) <;> (intro hc; try simp only [Int.reduceLE,Int.reduceLT,Int.reduceEq,Sn] at hc)) | (refine KP_i (by (repeat' (first | exact Heap.Le.refl _ | (with_reducible refine Le_set2 ?_) | (refine Le_known (by first | (simp only [Heap.set_same, set_ne, ne_eq, not_false_eq_true, *] <;> rfl) | fail) ?_) | (refine Le_fresh (by first | (simp only [*] <;> done) | (simp [set_none', Heap.set_same, set_ne, noneH, *] <;> done) | fail) ?_) | (refine Heap.Le.trans ?_ (Grow.le (by assumption))) | exact Le_none | (refine Le_put ?_ (by first | (simp only [Heap.set_same, set_ne, ne_eq, not_false_eq_true, *] <;> rfl) | fail)) | fail))) ?_) | (with_reducible refine And.intro ?_ ?_)) <;> (try simp only [Sq,Sr,Sh,Si,Sl,Bu,Bb,Bd,Bc,Bw,Bn,Int.reduceAdd,Int.reduceSub,Int.reduceMul,Int.reduceTDiv,Int.reduceTMod,Int.reduceMod,Int.reduceDiv,Nat.reduceLT,Nat.reduceEqDiff,Sa,Sb,Sc,Sd,Se,Sf,Sg,Int.reduceLE,Int.reduceLT,Int.reduceToNat,Int.reduceNeg,Int.reduceEq,Nat.reduceLeDiff,Nat.reducePow,Int.reducePow,reduceIte,Nat.reduceSub,Nat.reduceAdd,Nat.reduceMul,putAt,ceq,List.replicate, *]))
      exact Round_mk (k + 1, q + 64, ad', kk', G'.set b4 ⟨.t 34, [.int .i64 (numA l 4), .slice ad' (k + 1) kk', .int .i64 (numA l 8), .int .i64 (numA l 12), .int .i64 (numA l 16), .int .i64 (numA l 20)]⟩) ⟨hlt, kq nx, hB'.turn k4' (fun e => absurd (Kd.t_inj e) (by decide)), hc', hg'.set hb4 n4, Heap.set_same _ _ _, (Heap.set_other _ _ n24.1).trans k2'⟩ (Nat.sub_succ_lt_self n k hlt) (Heap.Le.refl _) rfl rfl
    · obtain rfl : k = n := by omega
      have t0 : ¬ (q : Int) < (len : Int) := by omega
      have hcd : CdAt w0 G ⟨numA l 4, ad, kk, decIs l k, numA l 8, numA l 12, numA l 16, numA l 20⟩ := ⟨hB.slAt, by unfold maxLen; simp only [decIs_len]; omega, by simp only [decIs_len]; exact hkk⟩
      have hMay := fun (K : Value → Heap → Prop) => kq hMay G K ad kk hcd
      have r4 := rdn_blk (w0 := w0) (n := 6) k4 rfl (by omega)
      clear h4' hq hN0 hN4 hN8 hN12 hN16 hN20 hN24 hN hcd
      replace hMay : Keep _ := hMay
      replace k4 : Keep _ := k4
      (all_goals (try simp only [Sq,Sr,Sh,Si,Sl,Bu,Bb,Bd,Bc,Bw,Bn,Int.reduceAdd,Int.reduceSub,Int.reduceMul,Int.reduceTDiv,Int.reduceTMod,Int.reduceMod,Int.reduceDiv,Nat.reduceLT,Nat.reduceEqDiff,Sa,Sb,Sc,Sd,Se,Sf,Sg,Int.reduceLE,Int.reduceLT,Int.reduceToNat,Int.reduceNeg,Int.reduceEq,Nat.reduceLeDiff,Nat.reducePow,Int.reducePow,reduceIte,Nat.reduceSub,Nat.reduceAdd,Nat.reduceMul,putAt,ceq,List.replicate, *])); repeat' ((first | (with_reducible refine fun _ : True => ?_) | refine hMay _ (fun u hu => ?_)  | (with_reducible refine any_h ?_) | ((first | refine AllocQ_i ?_ | refine AllocO_i ?_); intro bk hb0 hbk; (try simp only [set_none'] at hbk); (try (first | have hbn := Grow.none (by assumption) hbk | have hbn := Grow.none (by assumption) hbk.2 | have hbn := Grow.none (by assumption) hbk.2.2 | have hbn := Grow.none (by assumption) hbk.2.2.2 | have hbn := Grow.none (by assumption) hbk.2.2.2.2 | have hbn := Grow.none (by assumption) hbk.2.2.2.2.2)); (try simp only [set_none'] at hbn); (try (first | have hbm := Grow.none (by assumption) hbn | have hbm := Grow.none (by assumption) hbn.2 | have hbm := Grow.none (by assumption) hbn.2.2 | have hbm := Grow.none (by assumption) hbn.2.2.2 | have hbm := Grow.none (by assumption) hbn.2.2.2.2 | have hbm := Grow.none (by assumption) hbn.2.2.2.2.2)); (try simp only [set_none'] at hbm)) | ((first | refine condS_i ?_ ?_ | refine pick_i ?_ ?_ | refine gS_it ?_ ?_ | refine gS_if ?_ ?_ | refine gP_it ?_ ?_ | refine gP_if ?_ ?_) <;> (intro hc; try simp only [Int.reduceLE,Int.reduceLT,Int.reduceEq,Sn] at hc)) | (refine KP_i (by (repeat' (first | exact Heap.Le.refl _ | (with_reducible refine Le_set2 ?_) | (refine Le_known (by first | (simp only [Heap.set_same, set_ne, ne_eq, not_false_eq_true, *] <;> rfl) | fail) ?_) | (refine Le_fresh (by first | (simp only [*] <;> done) | (simp [set_none', Heap.set_same, set_ne, noneH, *] <;> done) | fail) ?_) | (refine Heap.Le.trans ?_ (Grow.le (by assumption))) | exact Le_none | (refine Le_put ?_ (by first | (simp only [Heap.set_same, set_ne, ne_eq, not_false_eq_true, *] <;> rfl) | fail)) | fail))) ?_) | (with_reducible refine And.intro ?_ ?_)) <;> (try simp only [Sq,Sr,Sh,Si,Sl,Bu,Bb,Bd,Bc,Bw,Bn,Int.reduceAdd,Int.reduceSub,Int.reduceMul,Int.reduceTDiv,Int.reduceTMod,Int.reduceMod,Int.reduceDiv,Nat.reduceLT,Nat.reduceEqDiff,Sa,Sb,Sc,Sd,Se,Sf,Sg,Int.reduceLE,Int.reduceLT,Int.reduceToNat,Int.reduceNeg,Int.reduceEq,Nat.reduceLeDiff,Nat.reducePow,Int.reducePow,reduceIte,Nat.reduceSub,Nat.reduceAdd,Nat.reduceMul,putAt,ceq,List.replicate, *]))
      exact Fin_mk (Heap.Le.refl _) (kq hy ad kk u _ (hB.turn k2 (fun e => absurd (Kd.t_inj e) (by decide))) hkk (hg.set hb2 hn2) hu)
theorem r_Of_no (a : Option Addr) (cp : Nat) (l : List Int) (hA : IntsAt w0 H .u8 a l) (hl : l.length ≤ 1000000000) (hw : ∀ x ∈ l, 0 ≤ x ∧ x < 256)
    (hk : ¬ okHd l) (hn : K (.tuple #[zeroC, .bool false]) H) : HCalls Try.prog w0 21 [.slice a l.length cp] H K := by
  have hN := fun (G : Heap) (K : Value → Heap → Prop) (g : Grow w0 H G) (p : Nat) (hp : p + 4 ≤ l.length) => r_num (K := K) a cp l p (hA.grow g) hl hw hp
  have hwp := fun p => (numL_lt ((l.drop p).take 4) fun x hx => hw x (List.mem_of_mem_drop (List.mem_of_mem_take hx))).1
  have hwp : ∀ p, 0 ≤ numA l p := hwp
  · unfold zeroC at hn
    obtain ⟨len, el⟩ : ∃ n, l.length = n := ⟨_, rfl⟩
    have hk : ¬ (28 ≤ len ∧ numA l 0 = 1128353872 ∧ numA l 24 ≤ 4096 ∧ len = 28 + 64 * (numA l 24).toNat) := fun h => hk (by unfold okHd; rw [el]; exact h)
    rw [el] at hl ⊢
    simp only [el] at hN
    clear hA hw el
    replace hn : Keep _ := hn
    have f2 : 28 ≤ len → IntKind.i64.wrap ((len : Int) - 28) = (len : Int) - 28 := fun _ => Bw.1 _ (by omega) (by omega)
    have e3 : 28 ≤ len → ((len : Int) - 28).tmod 64 = ((len : Int) - 28) % 64 := fun _ => Int.tmod_eq_emod_of_nonneg (by omega)
    have e5 : 28 ≤ len → ((len : Int) - 28).tdiv 64 = ((len : Int) - 28) / 64 := fun _ => Int.tdiv_eq_ediv_of_nonneg (by omega)
    have hN24 := fun (G : Heap) (K : Value → Heap → Prop) (g : Grow w0 H G) (hl : 28 ≤ len) => hN G K g 24 (by omega)
    have hN0 := fun (G : Heap) (K : Value → Heap → Prop) (g : Grow w0 H G) (hl : 28 ≤ len) => hN G K g 0 (by omega)
    have hN4 := fun (G : Heap) (K : Value → Heap → Prop) (g : Grow w0 H G) (hl : 28 ≤ len) => hN G K g 4 (by omega)
    have hN8 := fun (G : Heap) (K : Value → Heap → Prop) (g : Grow w0 H G) (hl : 28 ≤ len) => hN G K g 8 (by omega)
    have hN12 := fun (G : Heap) (K : Value → Heap → Prop) (g : Grow w0 H G) (hl : 28 ≤ len) => hN G K g 12 (by omega)
    have hN16 := fun (G : Heap) (K : Value → Heap → Prop) (g : Grow w0 H G) (hl : 28 ≤ len) => hN G K g 16 (by omega)
    have hN20 := fun (G : Heap) (K : Value → Heap → Prop) (g : Grow w0 H G) (hl : 28 ≤ len) => hN G K g 20 (by omega)
    obtain ⟨D, eD⟩ : ∃ D, ((len : Int) - 28) / 64 = D := ⟨_, rfl⟩
    obtain ⟨M, eM⟩ : ∃ D, ((len : Int) - 28) % 64 = D := ⟨_, rfl⟩
    rw [eD] at e5
    rw [eM] at e3
    have f6 : IntKind.i64.wrap D = D := Bw.1 _ (by omega) (by omega)
    have hp24 := hwp 24
    have hcs : ((len : Int) < 28) ∨ (28 ≤ len ∧ ¬ (len : Int) < 28 ∧ ((¬ M = 0) ∨ (M = 0 ∧ (((262172 : Int) < (len : Int)) ∨ (¬ (262172 : Int) < (len : Int) ∧ ((¬ numA l 0 = 1128353872) ∨ (numA l 0 = 1128353872 ∧ ¬ numA l 24 = D))))))) := by omega
    clear hk hN hwp hp24 eD eM hl
    replace hN24 : Keep _ := hN24
    replace hN0 : Keep _ := hN0
    replace hN4 : Keep _ := hN4
    replace hN8 : Keep _ := hN8
    replace hN12 : Keep _ := hN12
    replace hN16 : Keep _ := hN16
    replace hN20 : Keep _ := hN20
    rcases hcs with c1 | ⟨c0, c1, c2 | ⟨rfl, c3 | ⟨c3, c4 | ⟨c4, c5⟩⟩⟩⟩
    rotate_left
    all_goals try
      have f2 := f2 c0
      have e3 := e3 c0
      have e5 := e5 c0
    all_goals
      refine HL.hc k21 999 ?_; unfold M21
      (all_goals (try simp only [Sq,Sr,Sh,Si,Sl,Bu,Bb,Bd,Bc,Bw,Bn,Int.reduceAdd,Int.reduceSub,Int.reduceMul,Int.reduceTDiv,Int.reduceTMod,Int.reduceMod,Int.reduceDiv,Nat.reduceLT,Nat.reduceEqDiff,Sa,Sb,Sc,Sd,Se,Sf,Sg,Int.reduceLE,Int.reduceLT,Int.reduceToNat,Int.reduceNeg,Int.reduceEq,Nat.reduceLeDiff,Nat.reducePow,Int.reducePow,reduceIte,Nat.reduceSub,Nat.reduceAdd,Nat.reduceMul,putAt,ceq,List.replicate, *])); repeat' ((first | (with_reducible refine fun _ : True => ?_) | refine hN4 _ _ (by (repeat' (first | exact Grow.refl _ | assumption | (refine Grow_known (by first | (simp only [Heap.set_same, set_ne, ne_eq, not_false_eq_true, *] <;> rfl) | fail) ?_) | (refine Grow.set ?_ (by assumption) (by first | (simp only [*] <;> done) | (simp [set_none', Heap.set_same, set_ne, noneH, *] <;> done) | fail)) | (refine Grow.trans ?_ (by assumption))))) c0 ?_ | refine hN8 _ _ (by (repeat' (first | exact Grow.refl _ | assumption | (refine Grow_known (by first | (simp only [Heap.set_same, set_ne, ne_eq, not_false_eq_true, *] <;> rfl) | fail) ?_) | (refine Grow.set ?_ (by assumption) (by first | (simp only [*] <;> done) | (simp [set_none', Heap.set_same, set_ne, noneH, *] <;> done) | fail)) | (refine Grow.trans ?_ (by assumption))))) c0 ?_ | refine hN12 _ _ (by (repeat' (first | exact Grow.refl _ | assumption | (refine Grow_known (by first | (simp only [Heap.set_same, set_ne, ne_eq, not_false_eq_true, *] <;> rfl) | fail) ?_) | (refine Grow.set ?_ (by assumption) (by first | (simp only [*] <;> done) | (simp [set_none', Heap.set_same, set_ne, noneH, *] <;> done) | fail)) | (refine Grow.trans ?_ (by assumption))))) c0 ?_ | refine hN16 _ _ (by (repeat' (first | exact Grow.refl _ | assumption | (refine Grow_known (by first | (simp only [Heap.set_same, set_ne, ne_eq, not_false_eq_true, *] <;> rfl) | fail) ?_) | (refine Grow.set ?_ (by assumption) (by first | (simp only [*] <;> done) | (simp [set_none', Heap.set_same, set_ne, noneH, *] <;> done) | fail)) | (refine Grow.trans ?_ (by assumption))))) c0 ?_ | refine hN20 _ _ (by (repeat' (first | exact Grow.refl _ | assumption | (refine Grow_known (by first | (simp only [Heap.set_same, set_ne, ne_eq, not_false_eq_true, *] <;> rfl) | fail) ?_) | (refine Grow.set ?_ (by assumption) (by first | (simp only [*] <;> done) | (simp [set_none', Heap.set_same, set_ne, noneH, *] <;> done) | fail)) | (refine Grow.trans ?_ (by assumption))))) c0 ?_ | refine hN0 _ _ (by (repeat' (first | exact Grow.refl _ | assumption | (refine Grow_known (by first | (simp only [Heap.set_same, set_ne, ne_eq, not_false_eq_true, *] <;> rfl) | fail) ?_) | (refine Grow.set ?_ (by assumption) (by first | (simp only [*] <;> done) | (simp [set_none', Heap.set_same, set_ne, noneH, *] <;> done) | fail)) | (refine Grow.trans ?_ (by assumption))))) c0 ?_ | refine hN24 _ _ (by (repeat' (first | exact Grow.refl _ | assumption | (refine Grow_known (by first | (simp only [Heap.set_same, set_ne, ne_eq, not_false_eq_true, *] <;> rfl) | fail) ?_) | (refine Grow.set ?_ (by assumption) (by first | (simp only [*] <;> done) | (simp [set_none', Heap.set_same, set_ne, noneH, *] <;> done) | fail)) | (refine Grow.trans ?_ (by assumption))))) c0 ?_ | (with_reducible refine any_h ?_) | ((first | refine AllocQ_i ?_ | refine AllocO_i ?_); intro bk hb0 hbk; (try simp only [set_none'] at hbk); (try (first | have hbn := Grow.none (by assumption) hbk | have hbn := Grow.none (by assumption) hbk.2 | have hbn := Grow.none (by assumption) hbk.2.2 | have hbn := Grow.none (by assumption) hbk.2.2.2 | have hbn := Grow.none (by assumption) hbk.2.2.2.2 | have hbn := Grow.none (by assumption) hbk.2.2.2.2.2)); (try simp only [set_none'] at hbn); (try (first | have hbm := Grow.none (by assumption) hbn | have hbm := Grow.none (by assumption) hbn.2 | have hbm := Grow.none (by assumption) hbn.2.2 | have hbm := Grow.none (by assumption) hbn.2.2.2 | have hbm := Grow.none (by assumption) hbn.2.2.2.2 | have hbm := Grow.none (by assumption) hbn.2.2.2.2.2)); (try simp only [set_none'] at hbm)) | ((first | refine condS_i ?_ ?_ | refine pick_i ?_ ?_ | refine gS_it ?_ ?_ | refine gS_if ?_ ?_ | refine gP_it ?_ ?_ | refine gP_if ?_ ?_) <;> (intro hc; try simp only [Int.reduceLE,Int.reduceLT,Int.reduceEq,Sn] at hc)) | (refine KP_i (by (repeat' (first | exact Heap.Le.refl _ | (with_reducible refine Le_set2 ?_) | (refine Le_known (by first | (simp only [Heap.set_same, set_ne, ne_eq, not_false_eq_true, *] <;> rfl) | fail) ?_) | (refine Le_fresh (by first | (simp only [*] <;> done) | (simp [set_none', Heap.set_same, set_ne, noneH, *] <;> done) | fail) ?_) | (refine Heap.Le.trans ?_ (Grow.le (by assumption))) | exact Le_none | (refine Le_put ?_ (by first | (simp only [Heap.set_same, set_ne, ne_eq, not_false_eq_true, *] <;> rfl) | fail)) | fail))) ?_) | (with_reducible refine And.intro ?_ ?_)) <;> (try simp only [Sq,Sr,Sh,Si,Sl,Bu,Bb,Bd,Bc,Bw,Bn,Int.reduceAdd,Int.reduceSub,Int.reduceMul,Int.reduceTDiv,Int.reduceTMod,Int.reduceMod,Int.reduceDiv,Nat.reduceLT,Nat.reduceEqDiff,Sa,Sb,Sc,Sd,Se,Sf,Sg,Int.reduceLE,Int.reduceLT,Int.reduceToNat,Int.reduceNeg,Int.reduceEq,Nat.reduceLeDiff,Nat.reducePow,Int.reducePow,reduceIte,Nat.reduceSub,Nat.reduceAdd,Nat.reduceMul,putAt,ceq,List.replicate, *]))
      all_goals exact Fin_mk (by (repeat' (first | exact Heap.Le.refl _ | (with_reducible refine Le_set2 ?_) | (refine Le_known (by first | (simp only [Heap.set_same, set_ne, ne_eq, not_false_eq_true, *] <;> rfl) | fail) ?_) | (refine Le_fresh (by first | (simp only [*] <;> done) | (simp [set_none', Heap.set_same, set_ne, noneH, *] <;> done) | fail) ?_) | (refine Heap.Le.trans ?_ (Grow.le (by assumption))) | exact Le_none | (refine Le_put ?_ (by first | (simp only [Heap.set_same, set_ne, ne_eq, not_false_eq_true, *] <;> rfl) | fail)) | fail))) hn
theorem r_Of (a : Option Addr) (cp : Nat) (l : List Int) (hA : IntsAt w0 H .u8 a l) (hl : l.length ≤ 1000000000) (hw : ∀ x ∈ l, 0 ≤ x ∧ x < 256)
    (hy : okHd l → ∀ ad k u G, Bld w0 H G ad k 16 30 (rowsC (decC l).is) → (decC l).is.length ≤ k → Grow w0 H G → (u = true ↔ mayP (decC l)) → K (.tuple #[({ decC l with adr := ad, cap := k } : Cd).v, .bool u]) G)
    (hn : ¬ okHd l → K (.tuple #[zeroC, .bool false]) H) : HCalls Try.prog w0 21 [.slice a l.length cp] H K := by
  by_cases hk : okHd l
  · exact r_Of_yes a cp l hA hl hw hk (hy hk)
  · exact r_Of_no a cp l hA hl hw hk (hn hk)
end Go.Proofs.Ytndgmnmnpfblmaa
