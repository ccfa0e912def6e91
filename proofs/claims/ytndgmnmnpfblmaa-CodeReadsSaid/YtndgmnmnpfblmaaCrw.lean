/- The statement CodeReads, as a call (layer 16). -/
import Derived.Test.YtndgmnmnpfblmaaCrv
import Derived.Test.YtndgmnmnpfblmaaCdo
import Derived.Test.YtndgmnmnpfblmaaCdy
set_option linter.unusedSimpArgs false
set_option linter.unusedVariables false
set_option maxRecDepth 100000
set_option maxHeartbeats 4000000
namespace Go.Proofs.Ytndgmnmnpfblmaa
open Go Go.HL Go.RowKit Pb
variable {w0 : World} {H G : Heap} {K : Value → Heap → Prop}

theorem u8_wf {n : Int} (h : (Lit.int .u8 n).wf = true) : 0 ≤ n ∧ n ≤ 255 := bounds_u8 h
theorem slc_pre {φ : Value → Prop} {z n c : Nat} {a : Option Addr} {k : IntKind} {h : Int} (h0 : 0 ≤ h) (h1 : h ≤ c) (hφ : φ (.slice a h.toNat c)) : slcQ φ z (.slice a n c) none (some (.int k h)) := by
  rcases a with _ | ⟨b, o, _ | s⟩ <;> exact ⟨h0, h1, hφ⟩
theorem ints_take {k : IntKind} {a : Option Addr} {l : List Int} (h : IntsAt w0 H k a l) (q : Nat) : IntsAt w0 H k a (l.take q) := by
  apply SlAt.toInts
  rw [List.map_take]
  exact slTake (SlAt.ints h) q
theorem le_new2 {G F E : Heap} {b : Nat} {x : Blk} (h : Heap.Le G F) (hb : F b = none) (h2 : Heap.Le F E) : Heap.Le G (E.set b x) := fun c y hc => by
  have h3 := h c y hc
  rw [Heap.set_other _ _ (fun e => by subst e; rw [hb] at h3; cases h3)]
  exact h2 c y h3
def zC : Cd := ⟨0, none, 0, [], 0, 0, 0, 0⟩
theorem zC_at : CdAt w0 G zC := ⟨SlAt.nil, by unfold maxLen zC; simp, by unfold zC; simp⟩
/- paintboxlaw16 CodeReads -/
def M6 : MC :=
  .seq (.reg [⟨(some 2), .mv (.const (.bool false)), none⟩])
 (.seq (.seq (.reg [⟨(some 10), .call 10 [], none⟩,
 ⟨(some 11), .un .not (.tmp 10), none⟩])
 (.cond (.tmp 11)
 (.seq (.reg [⟨(some 2), .mv (.const (.bool false)), none⟩])
 (.ret))
 (.skip)))
 (.seq (.reg [⟨(some 12), .mv (.tmp 0), none⟩,
 ⟨(some 13), .mv (.tmp 0), none⟩,
 ⟨(some 14), .len (.tmp 13), none⟩,
 ⟨(some 15), .mn (.tmp 14) (.const (.int .i64 20000)), none⟩,
 ⟨(some 16), .slc 1 (.tmp 12) none (some (.tmp 15)), none⟩,
 ⟨(some 0), .mv (.tmp 16), none⟩])
 (.seq (.reg [⟨(some 17), .mv (.tmp 0), none⟩,
 ⟨(some 18), .len (.tmp 17), none⟩,
 ⟨(some 19), .bin .add (.tmp 18) (.const (.int .i64 2)), none⟩,
 ⟨(some 20), .mks 5 1 [(.int .u8 0)] (.const (.int .i64 0)) (.tmp 19), none⟩,
 ⟨(some 21), .mv (.tmp 0), none⟩,
 ⟨(some 22), .app 5 1 1 [(.int .u8 0)] (.tmp 20) (.tmp 21), none⟩,
 ⟨(some 23), .bslice 5 1 [(.int .u8 0)] [(0, 1, (.const (.int .u8 7)))], none⟩,
 ⟨(some 24), .app 5 1 1 [(.int .u8 0)] (.tmp 22) (.tmp 23), none⟩,
 ⟨(some 3), .mv (.tmp 24), none⟩])
 (.seq (.reg [⟨(some 26), .mv (.tmp 0), none⟩,
 ⟨(some 27), .call 21 [(.tmp 26)], none⟩,
 ⟨(some 25), .mv (.tmp 27), none⟩,
 ⟨(some 28), .ext 0 (.tmp 25), none⟩,
 ⟨(some 29), .ext 1 (.tmp 25), none⟩,
 ⟨(some 4), .alloc 34 [(.int .i64 0), (.slice none 0 0), (.int .i64 0), (.int .i64 0), (.int .i64 0), (.int .i64 0)], none⟩,
 ⟨none, .stn 6 (.tmp 4) (.tmp 28), none⟩,
 ⟨(some 5), .mv (.tmp 29), none⟩])
 (.seq (.seq (.reg [⟨(some 6), .mv (.const (.int .i64 0)), none⟩])
 (.block 0 (.loop (.seq (.seq (.reg [⟨(some 30), .mv (.tmp 6), none⟩,
 ⟨(some 31), .bin .lss (.tmp 30) (.const (.int .i64 2)), none⟩])
 (.cond (.tmp 31)
 (.skip)
 (.exit 0)))
 (.seq (.block 1 (.seq (.reg [⟨(some 35), .mv (.tmp 3), none⟩,
 ⟨(some 36), .mv (.tmp 0), none⟩,
 ⟨(some 37), .len (.tmp 36), none⟩,
 ⟨(some 38), .slc 1 (.tmp 35) none (some (.tmp 37)), none⟩,
 ⟨(some 39), .call 22 [(.tmp 38)], none⟩,
 ⟨(some 34), .mv (.tmp 39), none⟩,
 ⟨(some 40), .ext 0 (.tmp 34), none⟩,
 ⟨(some 41), .ext 1 (.tmp 34), none⟩,
 ⟨(some 7), .alloc 34 [(.int .i64 0), (.slice none 0 0), (.int .i64 0), (.int .i64 0), (.int .i64 0), (.int .i64 0)], none⟩,
 ⟨none, .stn 6 (.tmp 7) (.tmp 40), none⟩,
 ⟨(some 8), .mv (.tmp 41), none⟩])
 (.seq (.seq (.reg [⟨(some 42), .mv (.tmp 3), none⟩,
 ⟨(some 43), .mv (.tmp 0), none⟩,
 ⟨(some 44), .len (.tmp 43), none⟩,
 ⟨(some 45), .slc 1 (.tmp 42) none (some (.tmp 44)), none⟩,
 ⟨(some 46), .mv (.tmp 0), none⟩,
 ⟨(some 47), .call 23 [(.tmp 45), (.tmp 46)], none⟩,
 ⟨(some 48), .un .not (.tmp 47), none⟩,
 ⟨(some 49), .mv (.tmp 48), none⟩,
 ⟨(some 50), .mv (.tmp 3), (some (49, false))⟩,
 ⟨(some 51), .mv (.tmp 0), (some (49, false))⟩,
 ⟨(some 52), .len (.tmp 51), (some (49, false))⟩,
 ⟨(some 53), .is 1 (.tmp 50) (.tmp 52), (some (49, false))⟩,
 ⟨(some 54), .ld1 (.tmp 53), (some (49, false))⟩,
 ⟨(some 55), .bin .neq (.tmp 54) (.const (.int .u8 7)), (some (49, false))⟩,
 ⟨(some 56), .pick (.tmp 49) (.const (.bool true)) (.tmp 55), none⟩])
 (.cond (.tmp 56)
 (.seq (.reg [⟨(some 2), .mv (.const (.bool false)), none⟩])
 (.ret))
 (.skip)))
 (.seq (.seq (.reg [⟨(some 57), .mv (.tmp 5), none⟩,
 ⟨(some 58), .un .not (.tmp 57), none⟩])
 (.cond (.tmp 58)
 (.seq (.seq (.reg [⟨(some 59), .mv (.tmp 8), none⟩,
 ⟨(some 60), .bin .neq (.tmp 59) (.const (.int .i64 261)), none⟩,
 ⟨(some 61), .mv (.tmp 60), none⟩,
 ⟨(some 62), .ldn 6 (.tmp 7), (some (61, false))⟩,
 ⟨(some 63), .build [(.int .i64 0), (.slice none 0 0), (.int .i64 0), (.int .i64 0), (.int .i64 0), (.int .i64 0)] [], (some (61, false))⟩,
 ⟨(some 64), .call 16 [(.tmp 62), (.tmp 63)], (some (61, false))⟩,
 ⟨(some 65), .un .not (.tmp 64), (some (61, false))⟩,
 ⟨(some 66), .pick (.tmp 61) (.const (.bool true)) (.tmp 65), none⟩])
 (.cond (.tmp 66)
 (.seq (.reg [⟨(some 2), .mv (.const (.bool false)), none⟩])
 (.ret))
 (.skip)))
 (.exit 1))
 (.skip)))
 (.seq (.seq (.reg [⟨(some 67), .mv (.tmp 8), none⟩,
 ⟨(some 68), .bin .neq (.tmp 67) (.const (.int .i64 0)), none⟩,
 ⟨(some 69), .mv (.tmp 68), none⟩,
 ⟨(some 70), .ldn 6 (.tmp 7), (some (69, false))⟩,
 ⟨(some 71), .ldn 6 (.tmp 4), (some (69, false))⟩,
 ⟨(some 72), .call 16 [(.tmp 70), (.tmp 71)], (some (69, false))⟩,
 ⟨(some 73), .un .not (.tmp 72), (some (69, false))⟩,
 ⟨(some 74), .pick (.tmp 69) (.const (.bool true)) (.tmp 73), none⟩])
 (.cond (.tmp 74)
 (.seq (.reg [⟨(some 2), .mv (.const (.bool false)), none⟩])
 (.ret))
 (.skip)))
 (.seq (.reg [⟨(some 75), .fa 1 (.tmp 7), none⟩,
 ⟨(some 76), .ld1 (.tmp 75), none⟩,
 ⟨(some 77), .len (.tmp 76), none⟩,
 ⟨(some 78), .mv (.const (.int .i64 0)), none⟩])
 (.block 2 (.loop (.seq (.reg [⟨(some 79), .bin .lss (.tmp 78) (.tmp 77), none⟩])
 (.seq (.cond (.tmp 79)
 (.skip)
 (.exit 2))
 (.seq (.block 3 (.seq (.reg [⟨(some 80), .mv (.tmp 78), none⟩,
 ⟨(some 9), .mv (.tmp 80), none⟩])
 (.reg [⟨(some 81), .fa 1 (.tmp 7), none⟩,
 ⟨(some 82), .ld1 (.tmp 81), none⟩,
 ⟨(some 83), .mv (.tmp 9), none⟩,
 ⟨(some 84), .build [(.int .i64 0), (.int .i64 0), (.int .i64 0), (.int .i64 0), (.int .i64 0), (.int .i64 0), (.int .i64 0), (.int .i64 0), (.int .i32 0), (.int .i32 0), (.int .i32 0), (.int .i32 0), (.int .i64 0), (.int .i64 0), (.int .i64 0), (.int .i64 0)] [], none⟩,
 ⟨(some 85), .is 16 (.tmp 82) (.tmp 83), none⟩,
 ⟨none, .stn 16 (.tmp 85) (.tmp 84), none⟩])))
 (.reg [⟨(some 86), .bin .add (.tmp 78) (.const (.int .i64 1)), none⟩,
 ⟨(some 78), .mv (.tmp 86), none⟩]))))))))))))
 (.reg [⟨(some 32), .mv (.tmp 6), none⟩,
 ⟨(some 33), .bin .add (.tmp 32) (.const (.int .i64 1)), none⟩,
 ⟨(some 6), .mv (.tmp 33), none⟩]))))))
 (.seq (.reg [⟨(some 2), .mv (.const (.bool true)), none⟩])
 (.ret)))))))
theorem k6 : fnOk Try.prog 6 = some (M6, [.t 2], 87) := by kernel_rfl

theorem l_CodeReads {a : Option Addr} {cap : Nat} (l : List Int) (hI : IntsAt w0 H .u8 a l) (hlc : l.length ≤ cap) (hlm : l.length ≤ maxLen) (hby : ∀ b ∈ l, 0 ≤ b ∧ b ≤ 255) (h : K (.bool true) H) :
    HCalls Try.prog w0 6 [.slice a l.length cap] H K := by
  obtain ⟨len, el⟩ : ∃ n, l.length = n := ⟨_, rfl⟩
  obtain ⟨m, em⟩ : ∃ m, (l.take 20000).length = m := ⟨_, rfl⟩
  have em2 : m = min 20000 len := by rw [← em, List.length_take, el]
  have hI2 := ints_take hI 20000
  have hw2 : ∀ x ∈ l.take 20000, 0 ≤ x ∧ x < 256 := fun x hx => by have := hby x (List.mem_of_mem_take hx); omega
  have hw3 : ∀ x ∈ l.take 20000, 0 ≤ x ∧ x ≤ 255 := fun x hx => by have := hw2 x hx; omega
  rw [el] at hlc hlm ⊢
  unfold maxLen at hlm
  have e1 : (if (20000 : Int) < (len : Int) then (20000 : Int) else (len : Int)) = m := by split <;> omega
  have e2 : (m : Int) ≤ cap := by omega
  have e3 : (0 : Int) ≤ m := by omega
  have e5 : m ≤ 20000 := by omega
  have e6 : IntKind.i64.wrap ((m : Int) + 2) = (m : Int) + 2 := Bw.1 _ (by omega) (by omega)
  have e7 : ((m : Int) + 2).toNat = m + 2 := by omega
  have e8 : (m : Int) ≤ ((m + 2 : Nat) : Int) := by omega
  have e9 : (m : Int) < ((m + 1 : Nat) : Int) := by omega
  generalize l.take 20000 = L at hI2 hw2 hw3 em
  have hL : (L.map fun x => Value.int .u8 x).length = m * 1 := by rw [List.length_map, em, Nat.mul_one]
  have hO : (L.map fun x => Value.int .u8 x).all Value.oneCell' = true := by simp [Value.oneCell']
  have hS : ∀ G, Grow w0 H G → srd w0 G a (m * 1) = some (L.map fun x => .int .u8 x) := fun G g => by
    have := (SlAt.ints (hI2.grow g)).srd
    rw [hL] at this; exact this
  have hz1 : (L.map fun x => Value.int .u8 x).length ≤ (zeroL [Value.int .u8 0] (m + 2)).length := by rw [hL, zeroL_len]; simp
  have hz2 : 1 ≤ ((zeroL [Value.int .u8 0] (m + 2)).drop (L.map fun x => Value.int .u8 x).length).length := by rw [List.length_drop, hL, zeroL_len]; simp
  have hOf := fun (G : Heap) (K : Value → Heap → Prop) (g : Grow w0 H G) => r_Of (w0 := w0) (H := G) (K := K) a cap L (hI2.grow g) (by rw [em]; omega) hw2
  have hD := fun (G : Heap) (K : Value → Heap → Prop) (b c : Nat) (hx : IntsAt w0 G .u8 (some ⟨b, 0, none⟩) L) (hc : m ≤ c) => c_Decode (w0 := w0) (H := G) (K := K) (some ⟨b, 0, none⟩) c L hx (by rw [em]; exact hc) (by rw [em]; omega) hw2
  rw [em] at hOf hD
  clear el em2 hI hby hlc hlm
  replace h : Keep _ := h
  replace em : Keep _ := em
  replace hw3 : Keep _ := hw3
  replace hI2 : Keep _ := hI2
  replace hL : Keep _ := hL
  replace hO : Keep _ := hO
  replace hS : Keep _ := hS
  replace hz1 : Keep _ := hz1
  replace hz2 : Keep _ := hz2
  clear hw2
  refine HL.hc k6 999 ?_; unfold M6
  by_cases hm : okHd L ∧ mayP (decC L)
  · obtain ⟨D, eD⟩ : ∃ D, decC L = D := ⟨_, rfl⟩
    have hOf := fun (G : Heap) (K : Value → Heap → Prop) (g : Grow w0 H G) (h : ∀ ad k G', Bld w0 G G' ad k 16 30 (rowsC (decC L).is) → (decC L).is.length ≤ k → Grow w0 G G' → K (.tuple #[({ decC L with adr := ad, cap := k } : Cd).v, .bool true]) G') =>
      hOf G K g (fun h1 ad k u G' hB hl hg hu => by
        obtain rfl : u = true := hu.2 hm.2
        exact h ad k G' hB hl hg) (fun h1 => absurd hm.1 h1)
    have hD := fun (G : Heap) (K : Value → Heap → Prop) (b c : Nat) (hx : IntsAt w0 G .u8 (some ⟨b, 0, none⟩) L) (hc : m ≤ c) h => hD G K b c hx hc (fun h1 h2 => h) (fun h' => absurd hm h')
    have hSm := fun (G : Heap) (K : Value → Heap → Prop) (ad ad2 : Option Addr) (k k2 : Nat) (h1 : CdAt w0 G ({ decC L with adr := ad2, cap := k2 } : Cd)) (h2 : CdAt w0 G ({ decC L with adr := ad, cap := k } : Cd)) h => r_Same (w0 := w0) (H := G) (K := K) _ _ h1 h2 (fun _ => h) (fun h' => absurd ⟨rfl, rfl, rfl, rfl, rfl, rfl⟩ h')
    have hcd : ∀ (G : Heap) (ad : Option Addr) (k : Nat), SlAt w0 G ad (rowsC (decC L).is) → (decC L).is.length ≤ k → CdAt w0 G ({ decC L with adr := ad, cap := k } : Cd) := fun G ad k h1 h2 => ⟨h1, by unfold maxLen; have := hm.2.2.1; simp only; omega, h2⟩
    have hnn := hm.2.2.1
    rw [eD] at hOf hD hSm hcd hnn
    unfold Cd.v at hOf hD hSm
    simp only at hOf hD hSm
    clear hm eD
    obtain ⟨nn, enn⟩ : ∃ n, D.is.length = n := ⟨_, rfl⟩
    have hrl : (rowsC D.is).length = nn * 16 := by rw [rowsC_len, enn]
    rw [show (D.is.map Ins.row).flatten = rowsC D.is from rfl] at hD
    simp only [enn] at hOf hD hSm hcd hnn
    generalize rowsC D.is = Rw at hOf hD hcd hrl
    replace hOf : Keep _ := hOf
    replace hD : Keep _ := hD
    replace hSm : Keep _ := hSm
    replace hcd : Keep _ := hcd
    replace hrl : Keep _ := hrl
    clear enn
    (all_goals (try simp only [Sq,Sr,Sh,Si,Sl,Bu,Bb,Bd,Bc,Bw,Bn,Int.reduceAdd,Int.reduceSub,Int.reduceMul,Int.reduceTDiv,Int.reduceTMod,Int.reduceMod,Int.reduceDiv,Nat.reduceLT,Nat.reduceEqDiff,Sa,Sb,Sc,Sd,Se,Sf,Sg,Int.reduceLE,Int.reduceLT,Int.reduceToNat,Int.reduceNeg,Int.reduceEq,Nat.reduceLeDiff,Nat.reducePow,Int.reducePow,reduceIte,Nat.reduceSub,Nat.reduceAdd,Nat.reduceMul,putAt,ceq,List.replicate, *])); repeat' ((first | (with_reducible refine fun _ : True => ?_) | refine c_wakes ?_ | refine slc_pre e3 e2 ?_ | refine mks_i (by omega) (by omega) (by omega) (by omega) ?_ | refine app_fit (cs := []) (z := zeroL [.int .u8 0] (m + 2)) (ns := L.map fun x => .int .u8 x) (n := 0) (by simp only [Heap.set_same, set_ne, ne_eq, not_false_eq_true, *] <;> rfl) rfl ((show ∀ G, Grow w0 H G → srd w0 G a (m * 1) = some (L.map fun x => .int .u8 x) from hS) _ (by (repeat' (first | exact Grow.refl _ | assumption | (refine Grow_known (by first | (simp only [Heap.set_same, set_ne, ne_eq, not_false_eq_true, *] <;> rfl) | fail) ?_) | (refine Grow.set ?_ (by assumption) (by first | (simp only [*] <;> done) | (simp [set_none', Heap.set_same, set_ne, noneH, *] <;> done) | fail)) | (refine Grow.trans ?_ (by assumption)))))) (by omega) hz1 hO (by omega) ?_ | refine app_fit (cs := L.map fun x => .int .u8 x) (z := (zeroL [.int .u8 0] (m + 2)).drop (L.map fun x => Value.int .u8 x).length) (ns := [.int .u8 7]) (n := m) (by simp only [Heap.set_same, set_ne, ne_eq, not_false_eq_true, *] <;> rfl) hL (srd_blk (by simp only [Heap.set_same, set_ne, ne_eq, not_false_eq_true, *] <;> rfl) rfl) (by omega) hz2 rfl (by omega) ?_ | refine hOf _ _ (by (repeat' (first | exact Grow.refl _ | assumption | (refine Grow_known (by first | (simp only [Heap.set_same, set_ne, ne_eq, not_false_eq_true, *] <;> rfl) | fail) ?_) | (refine Grow.set ?_ (by assumption) (by first | (simp only [*] <;> done) | (simp [set_none', Heap.set_same, set_ne, noneH, *] <;> done) | fail)) | (refine Grow.trans ?_ (by assumption))))) (fun ad kk G hB hkk hg => ?_)  | (with_reducible refine any_h ?_) | ((first | refine AllocQ_i ?_ | refine AllocO_i ?_); intro bk hb0 hbk; (try simp only [set_none'] at hbk); (try (first | have hbn := Grow.none (by assumption) hbk | have hbn := Grow.none (by assumption) hbk.2 | have hbn := Grow.none (by assumption) hbk.2.2 | have hbn := Grow.none (by assumption) hbk.2.2.2 | have hbn := Grow.none (by assumption) hbk.2.2.2.2 | have hbn := Grow.none (by assumption) hbk.2.2.2.2.2)); (try simp only [set_none'] at hbn); (try (first | have hbm := Grow.none (by assumption) hbn | have hbm := Grow.none (by assumption) hbn.2 | have hbm := Grow.none (by assumption) hbn.2.2 | have hbm := Grow.none (by assumption) hbn.2.2.2 | have hbm := Grow.none (by assumption) hbn.2.2.2.2 | have hbm := Grow.none (by assumption) hbn.2.2.2.2.2)); (try simp only [set_none'] at hbm)) | ((first | refine condS_i ?_ ?_ | refine pick_i ?_ ?_ | refine gS_it ?_ ?_ | refine gS_if ?_ ?_ | refine gP_it ?_ ?_ | refine gP_if ?_ ?_) <;> (intro hc; try simp only [Int.reduceLE,Int.reduceLT,Int.reduceEq,Sn] at hc)) | (refine KP_i (by (repeat' (first | exact Heap.Le.refl _ | (with_reducible refine Le_set2 ?_) | (refine Le_known (by first | (simp only [Heap.set_same, set_ne, ne_eq, not_false_eq_true, *] <;> rfl) | fail) ?_) | (refine Le_fresh (by first | (simp only [*] <;> done) | (simp [set_none', Heap.set_same, set_ne, noneH, *] <;> done) | fail) ?_) | (refine Heap.Le.trans ?_ (Grow.le (by assumption))) | exact Le_none | (refine Le_put ?_ (by first | (simp only [Heap.set_same, set_ne, ne_eq, not_false_eq_true, *] <;> rfl) | fail)) | fail))) ?_) | (with_reducible refine And.intro ?_ ?_)) <;> (try simp only [Sq,Sr,Sh,Si,Sl,Bu,Bb,Bd,Bc,Bw,Bn,Int.reduceAdd,Int.reduceSub,Int.reduceMul,Int.reduceTDiv,Int.reduceTMod,Int.reduceMod,Int.reduceDiv,Nat.reduceLT,Nat.reduceEqDiff,Sa,Sb,Sc,Sd,Se,Sf,Sg,Int.reduceLE,Int.reduceLT,Int.reduceToNat,Int.reduceNeg,Int.reduceEq,Nat.reduceLeDiff,Nat.reducePow,Int.reducePow,reduceIte,Nat.reduceSub,Nat.reduceAdd,Nat.reduceMul,putAt,ceq,List.replicate, *]))
    rename_i bo hbo hno b7 hb7 hn7
    have kG : G bo = some _ := hg.some (by simp only [Heap.set_same, set_ne, ne_eq, not_false_eq_true, *] <;> rfl)
    have gG : Grow w0 H G := Grow.trans (by (repeat' (first | exact Grow.refl _ | assumption | (refine Grow_known (by first | (simp only [Heap.set_same, set_ne, ne_eq, not_false_eq_true, *] <;> rfl) | fail) ?_) | (refine Grow.set ?_ (by assumption) (by first | (simp only [*] <;> done) | (simp [set_none', Heap.set_same, set_ne, noneH, *] <;> done) | fail)) | (refine Grow.trans ?_ (by assumption))))) hg
    have hW := kq hcd G ad kk hB.slAt hkk
    refine loopq_heap ?_
    intro G0 eG
    have g0 : Grow w0 H G0 := by rw [eG]; exact (by (repeat' (first | exact Grow.refl _ | assumption | (refine Grow_known (by first | (simp only [Heap.set_same, set_ne, ne_eq, not_false_eq_true, *] <;> rfl) | fail) ?_) | (refine Grow.set ?_ (by assumption) (by first | (simp only [*] <;> done) | (simp [set_none', Heap.set_same, set_ne, noneH, *] <;> done) | fail)) | (refine Grow.trans ?_ (by assumption)))))
    have hW := hW.grow (G := G0) (by rw [eG]; exact (by (repeat' (first | exact Grow.refl _ | assumption | (refine Grow_known (by first | (simp only [Heap.set_same, set_ne, ne_eq, not_false_eq_true, *] <;> rfl) | fail) ?_) | (refine Grow.set ?_ (by assumption) (by first | (simp only [*] <;> done) | (simp [set_none', Heap.set_same, set_ne, noneH, *] <;> done) | fail)) | (refine Grow.trans ?_ (by assumption))))))
    have kw : G0 bk = some _ := at_of eG (Heap.set_same _ _ _)
    have ko0 : G0 bo = some _ := (congrFun eG bo).trans ((Heap.set_other _ _ (fun e => by subst e; rw [kG] at hbk; cases hbk)).trans kG)
    obtain ⟨z, ko⟩ : ∃ z, G0 bo = some ⟨.t 5, (L.map fun x => Value.int .u8 x) ++ ([.int .u8 7] ++ z)⟩ := ⟨_, by rw [ko0, List.append_assoc]⟩
    have hIo : IntsAt w0 G0 .u8 (some ⟨bo, 0, none⟩) L := SlAt.toInts (SlAt.blk ko)
    have f7 : HL.rd1 w0 G0 bo m = some (.int .u8 7) := by
      unfold HL.rd1; rw [ko]
      simp only
      have hL' : (L.map fun x => Value.int .u8 x).length = m := by rw [List.length_map, kq em]
      rw [List.getElem?_append_right (by rw [hL']; exact Nat.le_refl _), hL', Nat.sub_self]
      rfl
    have hI0 := IntsAt.grow (kq hI2) g0
    clear eG hg kG gG hbk hbn hb0 ko0 hS hz1 hz2 hOf hL hO hno hn7 hb7 hbo hB hkk e1 e6 e7 e2
    obtain ⟨bw, rfl⟩ : ∃ x, x = bk := ⟨_, rfl⟩
    replace hI0 : Keep _ := hI0
    replace hIo : Keep _ := hIo
    replace hW : Keep _ := hW
    replace kw : Keep _ := kw
    replace ko : Keep _ := ko
    refine loop_g 7 (fun r : Nat => [(6, .int .i64 (r : Nat))]) (fun _ => G0) (fun r => r ≤ 2) (fun r => 2 - r) 0 (Nat.zero_le _) (Heap.Le.refl _) rfl ?_
    intro r g hr
    by_cases hrt : r < 2
    · have t0 : (r : Int) < 2 := by omega
      have t6 : IntKind.i64.wrap ((r : Int) + 1) = ((r + 1 : Nat) : Int) := by rw [Bw.1 _ (by omega) (by omega)]; omega
      (all_goals (try simp only [Sq,Sr,Sh,Si,Sl,Bu,Bb,Bd,Bc,Bw,Bn,Int.reduceAdd,Int.reduceSub,Int.reduceMul,Int.reduceTDiv,Int.reduceTMod,Int.reduceMod,Int.reduceDiv,Nat.reduceLT,Nat.reduceEqDiff,Sa,Sb,Sc,Sd,Se,Sf,Sg,Int.reduceLE,Int.reduceLT,Int.reduceToNat,Int.reduceNeg,Int.reduceEq,Nat.reduceLeDiff,Nat.reducePow,Int.reducePow,reduceIte,Nat.reduceSub,Nat.reduceAdd,Nat.reduceMul,putAt,ceq,List.replicate, *])); repeat' ((first | (with_reducible refine fun _ : True => ?_) | refine slc_pre e3 e8 ?_ | refine hD _ _ _ _ (IntsAt.grow (kq hIo) (by (repeat' (first | exact Grow.refl _ | assumption | (refine Grow_known (by first | (simp only [Heap.set_same, set_ne, ne_eq, not_false_eq_true, *] <;> rfl) | fail) ?_) | (refine Grow.set ?_ (by assumption) (by first | (simp only [*] <;> done) | (simp [set_none', Heap.set_same, set_ne, noneH, *] <;> done) | fail)) | (refine Grow.trans ?_ (by assumption)))))) (Nat.le_add_right m 2) (fun ad2 k2 G5 hB5 hl5 hg5 => ?_)  | (with_reducible refine any_h ?_) | ((first | refine AllocQ_i ?_ | refine AllocO_i ?_); intro bk hb0 hbk; (try simp only [set_none'] at hbk); (try (first | have hbn := Grow.none (by assumption) hbk | have hbn := Grow.none (by assumption) hbk.2 | have hbn := Grow.none (by assumption) hbk.2.2 | have hbn := Grow.none (by assumption) hbk.2.2.2 | have hbn := Grow.none (by assumption) hbk.2.2.2.2 | have hbn := Grow.none (by assumption) hbk.2.2.2.2.2)); (try simp only [set_none'] at hbn); (try (first | have hbm := Grow.none (by assumption) hbn | have hbm := Grow.none (by assumption) hbn.2 | have hbm := Grow.none (by assumption) hbn.2.2 | have hbm := Grow.none (by assumption) hbn.2.2.2 | have hbm := Grow.none (by assumption) hbn.2.2.2.2 | have hbm := Grow.none (by assumption) hbn.2.2.2.2.2)); (try simp only [set_none'] at hbm)) | ((first | refine condS_i ?_ ?_ | refine pick_i ?_ ?_ | refine gS_it ?_ ?_ | refine gS_if ?_ ?_ | refine gP_it ?_ ?_ | refine gP_if ?_ ?_) <;> (intro hc; try simp only [Int.reduceLE,Int.reduceLT,Int.reduceEq,Sn] at hc)) | (refine KP_i (by (repeat' (first | exact Heap.Le.refl _ | (with_reducible refine Le_set2 ?_) | (refine Le_known (by first | (simp only [Heap.set_same, set_ne, ne_eq, not_false_eq_true, *] <;> rfl) | fail) ?_) | (refine Le_fresh (by first | (simp only [*] <;> done) | (simp [set_none', Heap.set_same, set_ne, noneH, *] <;> done) | fail) ?_) | (refine Heap.Le.trans ?_ (Grow.le (by assumption))) | exact Le_none | (refine Le_put ?_ (by first | (simp only [Heap.set_same, set_ne, ne_eq, not_false_eq_true, *] <;> rfl) | fail)) | fail))) ?_) | (with_reducible refine And.intro ?_ ?_)) <;> (try simp only [Sq,Sr,Sh,Si,Sl,Bu,Bb,Bd,Bc,Bw,Bn,Int.reduceAdd,Int.reduceSub,Int.reduceMul,Int.reduceTDiv,Int.reduceTMod,Int.reduceMod,Int.reduceDiv,Nat.reduceLT,Nat.reduceEqDiff,Sa,Sb,Sc,Sd,Se,Sf,Sg,Int.reduceLE,Int.reduceLT,Int.reduceToNat,Int.reduceNeg,Int.reduceEq,Nat.reduceLeDiff,Nat.reducePow,Int.reducePow,reduceIte,Nat.reduceSub,Nat.reduceAdd,Nat.reduceMul,putAt,ceq,List.replicate, *]))
      have f7 := hg5.rd1 f7
      have ko5 := hg5.some (kq ko)
      have kw5 := hg5.some (kq kw)
      have hno := blk_ne ko5
      have hnw := blk_ne kw5
      have rw5 := rdn_blk (w0 := w0) (n := 6) kw5 rfl (by omega)
      have hC5 := kq hcd G5 ad2 k2 hB5.slAt hl5
      have hW5 := (kq hW).grow hg5
      have hIo5 := IntsAt.grow (kq hIo) hg5
      have hI5 := IntsAt.grow (kq hI0) hg5
      clear ko5 kw5
      replace hIo5 : Keep _ := hIo5
      replace hI5 : Keep _ := hI5
      replace hC5 : Keep _ := hC5
      replace hW5 : Keep _ := hW5
      (all_goals (try simp only [Sq,Sr,Sh,Si,Sl,Bu,Bb,Bd,Bc,Bw,Bn,Int.reduceAdd,Int.reduceSub,Int.reduceMul,Int.reduceTDiv,Int.reduceTMod,Int.reduceMod,Int.reduceDiv,Nat.reduceLT,Nat.reduceEqDiff,Sa,Sb,Sc,Sd,Se,Sf,Sg,Int.reduceLE,Int.reduceLT,Int.reduceToNat,Int.reduceNeg,Int.reduceEq,Nat.reduceLeDiff,Nat.reducePow,Int.reducePow,reduceIte,Nat.reduceSub,Nat.reduceAdd,Nat.reduceMul,putAt,ceq,List.replicate, *])); repeat' ((first | (with_reducible refine fun _ : True => ?_) | refine slc_pre e3 e8 ?_ | refine c_bytesEqual _ _ _ _ _ _ L L (kq em) (kq em) (IntsAt.grow (kq hIo5) (by (repeat' (first | exact Grow.refl _ | assumption | (refine Grow_known (by first | (simp only [Heap.set_same, set_ne, ne_eq, not_false_eq_true, *] <;> rfl) | fail) ?_) | (refine Grow.set ?_ (by assumption) (by first | (simp only [*] <;> done) | (simp [set_none', Heap.set_same, set_ne, noneH, *] <;> done) | fail)) | (refine Grow.trans ?_ (by assumption)))))) (IntsAt.grow (kq hI5) (by (repeat' (first | exact Grow.refl _ | assumption | (refine Grow_known (by first | (simp only [Heap.set_same, set_ne, ne_eq, not_false_eq_true, *] <;> rfl) | fail) ?_) | (refine Grow.set ?_ (by assumption) (by first | (simp only [*] <;> done) | (simp [set_none', Heap.set_same, set_ne, noneH, *] <;> done) | fail)) | (refine Grow.trans ?_ (by assumption)))))) (kq hw3) (kq hw3) ?_ | refine hSm _ _ _ _ _ _ ((kq hC5).grow (by (repeat' (first | exact Grow.refl _ | assumption | (refine Grow_known (by first | (simp only [Heap.set_same, set_ne, ne_eq, not_false_eq_true, *] <;> rfl) | fail) ?_) | (refine Grow.set ?_ (by assumption) (by first | (simp only [*] <;> done) | (simp [set_none', Heap.set_same, set_ne, noneH, *] <;> done) | fail)) | (refine Grow.trans ?_ (by assumption)))))) ((kq hW5).grow (by (repeat' (first | exact Grow.refl _ | assumption | (refine Grow_known (by first | (simp only [Heap.set_same, set_ne, ne_eq, not_false_eq_true, *] <;> rfl) | fail) ?_) | (refine Grow.set ?_ (by assumption) (by first | (simp only [*] <;> done) | (simp [set_none', Heap.set_same, set_ne, noneH, *] <;> done) | fail)) | (refine Grow.trans ?_ (by assumption)))))) ?_ | (with_reducible refine any_h ?_) | ((first | refine AllocQ_i ?_ | refine AllocO_i ?_); intro bk hb0 hbk; (try simp only [set_none'] at hbk); (try (first | have hbn := Grow.none (by assumption) hbk | have hbn := Grow.none (by assumption) hbk.2 | have hbn := Grow.none (by assumption) hbk.2.2 | have hbn := Grow.none (by assumption) hbk.2.2.2 | have hbn := Grow.none (by assumption) hbk.2.2.2.2 | have hbn := Grow.none (by assumption) hbk.2.2.2.2.2)); (try simp only [set_none'] at hbn); (try (first | have hbm := Grow.none (by assumption) hbn | have hbm := Grow.none (by assumption) hbn.2 | have hbm := Grow.none (by assumption) hbn.2.2 | have hbm := Grow.none (by assumption) hbn.2.2.2 | have hbm := Grow.none (by assumption) hbn.2.2.2.2 | have hbm := Grow.none (by assumption) hbn.2.2.2.2.2)); (try simp only [set_none'] at hbm)) | ((first | refine condS_i ?_ ?_ | refine pick_i ?_ ?_ | refine gS_it ?_ ?_ | refine gS_if ?_ ?_ | refine gP_it ?_ ?_ | refine gP_if ?_ ?_) <;> (intro hc; try simp only [Int.reduceLE,Int.reduceLT,Int.reduceEq,Sn] at hc)) | (refine KP_i (by (repeat' (first | exact Heap.Le.refl _ | (with_reducible refine Le_set2 ?_) | (refine Le_known (by first | (simp only [Heap.set_same, set_ne, ne_eq, not_false_eq_true, *] <;> rfl) | fail) ?_) | (refine Le_fresh (by first | (simp only [*] <;> done) | (simp [set_none', Heap.set_same, set_ne, noneH, *] <;> done) | fail) ?_) | (refine Heap.Le.trans ?_ (Grow.le (by assumption))) | exact Le_none | (refine Le_put ?_ (by first | (simp only [Heap.set_same, set_ne, ne_eq, not_false_eq_true, *] <;> rfl) | fail)) | fail))) ?_) | (with_reducible refine And.intro ?_ ?_)) <;> (try simp only [Sq,Sr,Sh,Si,Sl,Bu,Bb,Bd,Bc,Bw,Bn,Int.reduceAdd,Int.reduceSub,Int.reduceMul,Int.reduceTDiv,Int.reduceTMod,Int.reduceMod,Int.reduceDiv,Nat.reduceLT,Nat.reduceEqDiff,Sa,Sb,Sc,Sd,Se,Sf,Sg,Int.reduceLE,Int.reduceLT,Int.reduceToNat,Int.reduceNeg,Int.reduceEq,Nat.reduceLeDiff,Nat.reducePow,Int.reducePow,reduceIte,Nat.reduceSub,Nat.reduceAdd,Nat.reduceMul,putAt,ceq,List.replicate, *]))
      clear hIo5 hI5 hC5 hW5 rw5 hnw hno f7 hD hSm hcd hIo hI0 hW kw ko
      rcases hB5 with ⟨bn, z5, rfl, hbs, hbn0, kn, hcl⟩ | ⟨hk2, hRw⟩
      · have hnb := And.symm (blk_ne kn bk hbk)
        obtain ⟨C, eC⟩ : ∃ C, (Rw ++ z5).length = C := ⟨_, rfl⟩
        have hC : nn * 16 ≤ C := by rw [← eC, List.length_append, kq hrl]; omega
        refine loopq_heap ?_
        intro G6 eG6
        have l6 : Heap.Le G0 G6 := hg5.le.trans (by rw [eG6]; exact (by (repeat' (first | exact Heap.Le.refl _ | (with_reducible refine Le_set2 ?_) | (refine Le_known (by first | (simp only [Heap.set_same, set_ne, ne_eq, not_false_eq_true, *] <;> rfl) | fail) ?_) | (refine Le_fresh (by first | (simp only [*] <;> done) | (simp [set_none', Heap.set_same, set_ne, noneH, *] <;> done) | fail) ?_) | (refine Heap.Le.trans ?_ (Grow.le (by assumption))) | exact Le_none | (refine Le_put ?_ (by first | (simp only [Heap.set_same, set_ne, ne_eq, not_false_eq_true, *] <;> rfl) | fail)) | fail))))
        have kn6 : G6 bn = some _ := (congrFun eG6 bn).trans ((Heap.set_other _ _ hnb.1).trans kn)
        have kc6 : G6 bk = some _ := at_of eG6 (Heap.set_same _ _ _)
        have rc6 : HL.rd1 w0 G6 bk 1 = some (.slice (some ⟨bn, 0, none⟩) nn k2) := by unfold HL.rd1; rw [kc6]; rfl
        rw [root1 kn6]
        clear eG6 kn6 kc6 hbk hb0 kn hg5 hbn hbm
        refine loop_g 79 (fun s : Nat × Value × List Value => [(9, s.2.1), (78, .int .i64 (s.1 : Nat))]) (fun s => G6.set bn ⟨.t 30, s.2.2⟩) (fun s => s.1 ≤ nn ∧ s.2.2.length = C) (fun s => nn - s.1) (0, _, Rw ++ z5) ⟨Nat.zero_le _, eC⟩ (Heap.Le.refl _) rfl ?_
        intro ⟨i, v9, X⟩ g9 ⟨hi, hX⟩
        simp only at hi hX
        by_cases hit : i < nn
        · have s0 : (i : Int) < (nn : Int) := by omega
          have s6 : IntKind.i64.wrap ((i : Int) + 1) = ((i + 1 : Nat) : Int) := by rw [Bw.1 _ (by omega) (by omega)]; omega
          have sX : i * 16 + 16 ≤ C := by omega
          clear hC hcl hl5
          (all_goals (try simp only [Sq,Sr,Sh,Si,Sl,Bu,Bb,Bd,Bc,Bw,Bn,Int.reduceAdd,Int.reduceSub,Int.reduceMul,Int.reduceTDiv,Int.reduceTMod,Int.reduceMod,Int.reduceDiv,Nat.reduceLT,Nat.reduceEqDiff,Sa,Sb,Sc,Sd,Se,Sf,Sg,Int.reduceLE,Int.reduceLT,Int.reduceToNat,Int.reduceNeg,Int.reduceEq,Nat.reduceLeDiff,Nat.reducePow,Int.reducePow,reduceIte,Nat.reduceSub,Nat.reduceAdd,Nat.reduceMul,putAt,ceq,List.replicate, *])); repeat' ((first | (with_reducible refine fun _ : True => ?_) | (with_reducible refine any_h ?_) | ((first | refine AllocQ_i ?_ | refine AllocO_i ?_); intro bk hb0 hbk; (try simp only [set_none'] at hbk); (try (first | have hbn := Grow.none (by assumption) hbk | have hbn := Grow.none (by assumption) hbk.2 | have hbn := Grow.none (by assumption) hbk.2.2 | have hbn := Grow.none (by assumption) hbk.2.2.2 | have hbn := Grow.none (by assumption) hbk.2.2.2.2 | have hbn := Grow.none (by assumption) hbk.2.2.2.2.2)); (try simp only [set_none'] at hbn); (try (first | have hbm := Grow.none (by assumption) hbn | have hbm := Grow.none (by assumption) hbn.2 | have hbm := Grow.none (by assumption) hbn.2.2 | have hbm := Grow.none (by assumption) hbn.2.2.2 | have hbm := Grow.none (by assumption) hbn.2.2.2.2 | have hbm := Grow.none (by assumption) hbn.2.2.2.2.2)); (try simp only [set_none'] at hbm)) | ((first | refine condS_i ?_ ?_ | refine pick_i ?_ ?_ | refine gS_it ?_ ?_ | refine gS_if ?_ ?_ | refine gP_it ?_ ?_ | refine gP_if ?_ ?_) <;> (intro hc; try simp only [Int.reduceLE,Int.reduceLT,Int.reduceEq,Sn] at hc)) | (refine KP_i (by (repeat' (first | exact Heap.Le.refl _ | (with_reducible refine Le_set2 ?_) | (refine Le_known (by first | (simp only [Heap.set_same, set_ne, ne_eq, not_false_eq_true, *] <;> rfl) | fail) ?_) | (refine Le_fresh (by first | (simp only [*] <;> done) | (simp [set_none', Heap.set_same, set_ne, noneH, *] <;> done) | fail) ?_) | (refine Heap.Le.trans ?_ (Grow.le (by assumption))) | exact Le_none | (refine Le_put ?_ (by first | (simp only [Heap.set_same, set_ne, ne_eq, not_false_eq_true, *] <;> rfl) | fail)) | fail))) ?_) | (with_reducible refine And.intro ?_ ?_)) <;> (try simp only [Sq,Sr,Sh,Si,Sl,Bu,Bb,Bd,Bc,Bw,Bn,Int.reduceAdd,Int.reduceSub,Int.reduceMul,Int.reduceTDiv,Int.reduceTMod,Int.reduceMod,Int.reduceDiv,Nat.reduceLT,Nat.reduceEqDiff,Sa,Sb,Sc,Sd,Se,Sf,Sg,Int.reduceLE,Int.reduceLT,Int.reduceToNat,Int.reduceNeg,Int.reduceEq,Nat.reduceLeDiff,Nat.reducePow,Int.reducePow,reduceIte,Nat.reduceSub,Nat.reduceAdd,Nat.reduceMul,putAt,ceq,List.replicate, *]))
          exact Round_mk (i + 1, _, putAt X (i * 16) [.int .i64 0, .int .i64 0, .int .i64 0, .int .i64 0, .int .i64 0, .int .i64 0, .int .i64 0, .int .i64 0, .int .i32 0, .int .i32 0, .int .i32 0, .int .i32 0, .int .i64 0, .int .i64 0, .int .i64 0, .int .i64 0]) ⟨hit, by rw [putAt_length]; exact hX⟩ (Nat.sub_succ_lt_self nn i hit) (Heap.Le.refl _) rfl rfl
        · obtain rfl : i = nn := by omega
          have s0 : ¬ (i : Int) < (i : Int) := by omega
          clear hC hcl hl5
          (all_goals (try simp only [Sq,Sr,Sh,Si,Sl,Bu,Bb,Bd,Bc,Bw,Bn,Int.reduceAdd,Int.reduceSub,Int.reduceMul,Int.reduceTDiv,Int.reduceTMod,Int.reduceMod,Int.reduceDiv,Nat.reduceLT,Nat.reduceEqDiff,Sa,Sb,Sc,Sd,Se,Sf,Sg,Int.reduceLE,Int.reduceLT,Int.reduceToNat,Int.reduceNeg,Int.reduceEq,Nat.reduceLeDiff,Nat.reducePow,Int.reducePow,reduceIte,Nat.reduceSub,Nat.reduceAdd,Nat.reduceMul,putAt,ceq,List.replicate, *])); repeat' ((first | (with_reducible refine fun _ : True => ?_) | (with_reducible refine any_h ?_) | ((first | refine AllocQ_i ?_ | refine AllocO_i ?_); intro bk hb0 hbk; (try simp only [set_none'] at hbk); (try (first | have hbn := Grow.none (by assumption) hbk | have hbn := Grow.none (by assumption) hbk.2 | have hbn := Grow.none (by assumption) hbk.2.2 | have hbn := Grow.none (by assumption) hbk.2.2.2 | have hbn := Grow.none (by assumption) hbk.2.2.2.2 | have hbn := Grow.none (by assumption) hbk.2.2.2.2.2)); (try simp only [set_none'] at hbn); (try (first | have hbm := Grow.none (by assumption) hbn | have hbm := Grow.none (by assumption) hbn.2 | have hbm := Grow.none (by assumption) hbn.2.2 | have hbm := Grow.none (by assumption) hbn.2.2.2 | have hbm := Grow.none (by assumption) hbn.2.2.2.2 | have hbm := Grow.none (by assumption) hbn.2.2.2.2.2)); (try simp only [set_none'] at hbm)) | ((first | refine condS_i ?_ ?_ | refine pick_i ?_ ?_ | refine gS_it ?_ ?_ | refine gS_if ?_ ?_ | refine gP_it ?_ ?_ | refine gP_if ?_ ?_) <;> (intro hc; try simp only [Int.reduceLE,Int.reduceLT,Int.reduceEq,Sn] at hc)) | (refine KP_i (by (repeat' (first | exact Heap.Le.refl _ | (with_reducible refine Le_set2 ?_) | (refine Le_known (by first | (simp only [Heap.set_same, set_ne, ne_eq, not_false_eq_true, *] <;> rfl) | fail) ?_) | (refine Le_fresh (by first | (simp only [*] <;> done) | (simp [set_none', Heap.set_same, set_ne, noneH, *] <;> done) | fail) ?_) | (refine Heap.Le.trans ?_ (Grow.le (by assumption))) | exact Le_none | (refine Le_put ?_ (by first | (simp only [Heap.set_same, set_ne, ne_eq, not_false_eq_true, *] <;> rfl) | fail)) | fail))) ?_) | (with_reducible refine And.intro ?_ ?_)) <;> (try simp only [Sq,Sr,Sh,Si,Sl,Bu,Bb,Bd,Bc,Bw,Bn,Int.reduceAdd,Int.reduceSub,Int.reduceMul,Int.reduceTDiv,Int.reduceTMod,Int.reduceMod,Int.reduceDiv,Nat.reduceLT,Nat.reduceEqDiff,Sa,Sb,Sc,Sd,Se,Sf,Sg,Int.reduceLE,Int.reduceLT,Int.reduceToNat,Int.reduceNeg,Int.reduceEq,Nat.reduceLeDiff,Nat.reducePow,Int.reducePow,reduceIte,Nat.reduceSub,Nat.reduceAdd,Nat.reduceMul,putAt,ceq,List.replicate, *]))
          exact Round_mk (r + 1) hrt (Nat.sub_succ_lt_self 2 r hrt) (le_new2 (Heap.Le.refl _) hbn0 l6) rfl rfl
      · have hz : nn = 0 := by have := kq hrl; rw [hRw] at this; simp at this; omega
        subst hz
        have s0 : ¬ (0 : Int) < ((0 : Nat) : Int) := by decide
        (all_goals (try simp only [Sq,Sr,Sh,Si,Sl,Bu,Bb,Bd,Bc,Bw,Bn,Int.reduceAdd,Int.reduceSub,Int.reduceMul,Int.reduceTDiv,Int.reduceTMod,Int.reduceMod,Int.reduceDiv,Nat.reduceLT,Nat.reduceEqDiff,Sa,Sb,Sc,Sd,Se,Sf,Sg,Int.reduceLE,Int.reduceLT,Int.reduceToNat,Int.reduceNeg,Int.reduceEq,Nat.reduceLeDiff,Nat.reducePow,Int.reducePow,reduceIte,Nat.reduceSub,Nat.reduceAdd,Nat.reduceMul,putAt,ceq,List.replicate, *])); repeat' ((first | (with_reducible refine fun _ : True => ?_) | (with_reducible refine any_h ?_) | ((first | refine AllocQ_i ?_ | refine AllocO_i ?_); intro bk hb0 hbk; (try simp only [set_none'] at hbk); (try (first | have hbn := Grow.none (by assumption) hbk | have hbn := Grow.none (by assumption) hbk.2 | have hbn := Grow.none (by assumption) hbk.2.2 | have hbn := Grow.none (by assumption) hbk.2.2.2 | have hbn := Grow.none (by assumption) hbk.2.2.2.2 | have hbn := Grow.none (by assumption) hbk.2.2.2.2.2)); (try simp only [set_none'] at hbn); (try (first | have hbm := Grow.none (by assumption) hbn | have hbm := Grow.none (by assumption) hbn.2 | have hbm := Grow.none (by assumption) hbn.2.2 | have hbm := Grow.none (by assumption) hbn.2.2.2 | have hbm := Grow.none (by assumption) hbn.2.2.2.2 | have hbm := Grow.none (by assumption) hbn.2.2.2.2.2)); (try simp only [set_none'] at hbm)) | ((first | refine condS_i ?_ ?_ | refine pick_i ?_ ?_ | refine gS_it ?_ ?_ | refine gS_if ?_ ?_ | refine gP_it ?_ ?_ | refine gP_if ?_ ?_) <;> (intro hc; try simp only [Int.reduceLE,Int.reduceLT,Int.reduceEq,Sn] at hc)) | (refine KP_i (by (repeat' (first | exact Heap.Le.refl _ | (with_reducible refine Le_set2 ?_) | (refine Le_known (by first | (simp only [Heap.set_same, set_ne, ne_eq, not_false_eq_true, *] <;> rfl) | fail) ?_) | (refine Le_fresh (by first | (simp only [*] <;> done) | (simp [set_none', Heap.set_same, set_ne, noneH, *] <;> done) | fail) ?_) | (refine Heap.Le.trans ?_ (Grow.le (by assumption))) | exact Le_none | (refine Le_put ?_ (by first | (simp only [Heap.set_same, set_ne, ne_eq, not_false_eq_true, *] <;> rfl) | fail)) | fail))) ?_) | (with_reducible refine loop_u ?_) | (with_reducible refine And.intro ?_ ?_)) <;> (try simp only [Sq,Sr,Sh,Si,Sl,Bu,Bb,Bd,Bc,Bw,Bn,Int.reduceAdd,Int.reduceSub,Int.reduceMul,Int.reduceTDiv,Int.reduceTMod,Int.reduceMod,Int.reduceDiv,Nat.reduceLT,Nat.reduceEqDiff,Sa,Sb,Sc,Sd,Se,Sf,Sg,Int.reduceLE,Int.reduceLT,Int.reduceToNat,Int.reduceNeg,Int.reduceEq,Nat.reduceLeDiff,Nat.reducePow,Int.reducePow,reduceIte,Nat.reduceSub,Nat.reduceAdd,Nat.reduceMul,putAt,ceq,List.replicate, *]))
        all_goals exact Round_mk (r + 1) hrt (Nat.sub_succ_lt_self 2 r hrt) (by (repeat' (first | exact Heap.Le.refl _ | (with_reducible refine Le_set2 ?_) | (refine Le_known (by first | (simp only [Heap.set_same, set_ne, ne_eq, not_false_eq_true, *] <;> rfl) | fail) ?_) | (refine Le_fresh (by first | (simp only [*] <;> done) | (simp [set_none', Heap.set_same, set_ne, noneH, *] <;> done) | fail) ?_) | (refine Heap.Le.trans ?_ (Grow.le (by assumption))) | exact Le_none | (refine Le_put ?_ (by first | (simp only [Heap.set_same, set_ne, ne_eq, not_false_eq_true, *] <;> rfl) | fail)) | fail))) rfl rfl
    · obtain rfl : r = 2 := by omega
      have t0 : ¬ ((2 : Nat) : Int) < 2 := by omega
      clear hD hSm
      (all_goals (try simp only [Sq,Sr,Sh,Si,Sl,Bu,Bb,Bd,Bc,Bw,Bn,Int.reduceAdd,Int.reduceSub,Int.reduceMul,Int.reduceTDiv,Int.reduceTMod,Int.reduceMod,Int.reduceDiv,Nat.reduceLT,Nat.reduceEqDiff,Sa,Sb,Sc,Sd,Se,Sf,Sg,Int.reduceLE,Int.reduceLT,Int.reduceToNat,Int.reduceNeg,Int.reduceEq,Nat.reduceLeDiff,Nat.reducePow,Int.reducePow,reduceIte,Nat.reduceSub,Nat.reduceAdd,Nat.reduceMul,putAt,ceq,List.replicate, *])); repeat' ((first | (with_reducible refine fun _ : True => ?_) | (with_reducible refine any_h ?_) | ((first | refine AllocQ_i ?_ | refine AllocO_i ?_); intro bk hb0 hbk; (try simp only [set_none'] at hbk); (try (first | have hbn := Grow.none (by assumption) hbk | have hbn := Grow.none (by assumption) hbk.2 | have hbn := Grow.none (by assumption) hbk.2.2 | have hbn := Grow.none (by assumption) hbk.2.2.2 | have hbn := Grow.none (by assumption) hbk.2.2.2.2 | have hbn := Grow.none (by assumption) hbk.2.2.2.2.2)); (try simp only [set_none'] at hbn); (try (first | have hbm := Grow.none (by assumption) hbn | have hbm := Grow.none (by assumption) hbn.2 | have hbm := Grow.none (by assumption) hbn.2.2 | have hbm := Grow.none (by assumption) hbn.2.2.2 | have hbm := Grow.none (by assumption) hbn.2.2.2.2 | have hbm := Grow.none (by assumption) hbn.2.2.2.2.2)); (try simp only [set_none'] at hbm)) | ((first | refine condS_i ?_ ?_ | refine pick_i ?_ ?_ | refine gS_it ?_ ?_ | refine gS_if ?_ ?_ | refine gP_it ?_ ?_ | refine gP_if ?_ ?_) <;> (intro hc; try simp only [Int.reduceLE,Int.reduceLT,Int.reduceEq,Sn] at hc)) | (refine KP_i (by (repeat' (first | exact Heap.Le.refl _ | (with_reducible refine Le_set2 ?_) | (refine Le_known (by first | (simp only [Heap.set_same, set_ne, ne_eq, not_false_eq_true, *] <;> rfl) | fail) ?_) | (refine Le_fresh (by first | (simp only [*] <;> done) | (simp [set_none', Heap.set_same, set_ne, noneH, *] <;> done) | fail) ?_) | (refine Heap.Le.trans ?_ (Grow.le (by assumption))) | exact Le_none | (refine Le_put ?_ (by first | (simp only [Heap.set_same, set_ne, ne_eq, not_false_eq_true, *] <;> rfl) | fail)) | fail))) ?_) | (with_reducible refine And.intro ?_ ?_)) <;> (try simp only [Sq,Sr,Sh,Si,Sl,Bu,Bb,Bd,Bc,Bw,Bn,Int.reduceAdd,Int.reduceSub,Int.reduceMul,Int.reduceTDiv,Int.reduceTMod,Int.reduceMod,Int.reduceDiv,Nat.reduceLT,Nat.reduceEqDiff,Sa,Sb,Sc,Sd,Se,Sf,Sg,Int.reduceLE,Int.reduceLT,Int.reduceToNat,Int.reduceNeg,Int.reduceEq,Nat.reduceLeDiff,Nat.reducePow,Int.reducePow,reduceIte,Nat.reduceSub,Nat.reduceAdd,Nat.reduceMul,putAt,ceq,List.replicate, *]))
      exact Fin_mk g0.le h
  · have hOf := fun (G : Heap) (K : Value → Heap → Prop) (g : Grow w0 H G) (h : ∀ (st : Int) (ad : Option Addr) (nn k : Nat) (rg ab un va : Int) G', Grow w0 G G' → K (.tuple #[.agg #[.int .i64 st, .slice ad nn k, .int .i64 rg, .int .i64 ab, .int .i64 un, .int .i64 va], .bool false]) G') =>
      hOf G K g (fun h1 ad k u G' hB hl hg hu => by
        have : u = false := by
          cases u with
          | false => rfl
          | true => exact (hm ⟨h1, hu.1 rfl⟩).elim
        subst this
        exact h _ ad _ k _ _ _ _ G' hg) (fun h1 => h 0 none 0 0 0 0 0 0 G (Grow.refl _))
    have hD := fun (G : Heap) (K : Value → Heap → Prop) (b c : Nat) (hx : IntsAt w0 G .u8 (some ⟨b, 0, none⟩) L) (hc : m ≤ c) h => hD G K b c hx hc (fun h1 h2 => absurd ⟨h1, h2⟩ hm) (fun _ => h)
    have hSm := fun (G : Heap) (K : Value → Heap → Prop) h => r_Same (w0 := w0) (H := G) (K := K) zC zC zC_at zC_at (fun _ => h) (fun h' => absurd ⟨rfl, rfl, rfl, rfl, rfl, rfl⟩ h')
    unfold zeroC at hD
    unfold Cd.v zC at hSm
    simp only [List.length_nil] at hSm
    clear hm
    replace hOf : Keep _ := hOf
    replace hD : Keep _ := hD
    replace hSm : Keep _ := hSm
    (all_goals (try simp only [Sq,Sr,Sh,Si,Sl,Bu,Bb,Bd,Bc,Bw,Bn,Int.reduceAdd,Int.reduceSub,Int.reduceMul,Int.reduceTDiv,Int.reduceTMod,Int.reduceMod,Int.reduceDiv,Nat.reduceLT,Nat.reduceEqDiff,Sa,Sb,Sc,Sd,Se,Sf,Sg,Int.reduceLE,Int.reduceLT,Int.reduceToNat,Int.reduceNeg,Int.reduceEq,Nat.reduceLeDiff,Nat.reducePow,Int.reducePow,reduceIte,Nat.reduceSub,Nat.reduceAdd,Nat.reduceMul,putAt,ceq,List.replicate, *])); repeat' ((first | (with_reducible refine fun _ : True => ?_) | refine c_wakes ?_ | refine slc_pre e3 e2 ?_ | refine mks_i (by omega) (by omega) (by omega) (by omega) ?_ | refine app_fit (cs := []) (z := zeroL [.int .u8 0] (m + 2)) (ns := L.map fun x => .int .u8 x) (n := 0) (by simp only [Heap.set_same, set_ne, ne_eq, not_false_eq_true, *] <;> rfl) rfl ((show ∀ G, Grow w0 H G → srd w0 G a (m * 1) = some (L.map fun x => .int .u8 x) from hS) _ (by (repeat' (first | exact Grow.refl _ | assumption | (refine Grow_known (by first | (simp only [Heap.set_same, set_ne, ne_eq, not_false_eq_true, *] <;> rfl) | fail) ?_) | (refine Grow.set ?_ (by assumption) (by first | (simp only [*] <;> done) | (simp [set_none', Heap.set_same, set_ne, noneH, *] <;> done) | fail)) | (refine Grow.trans ?_ (by assumption)))))) (by omega) hz1 hO (by omega) ?_ | refine app_fit (cs := L.map fun x => .int .u8 x) (z := (zeroL [.int .u8 0] (m + 2)).drop (L.map fun x => Value.int .u8 x).length) (ns := [.int .u8 7]) (n := m) (by simp only [Heap.set_same, set_ne, ne_eq, not_false_eq_true, *] <;> rfl) hL (srd_blk (by simp only [Heap.set_same, set_ne, ne_eq, not_false_eq_true, *] <;> rfl) rfl) (by omega) hz2 rfl (by omega) ?_ | refine hOf _ _ (by (repeat' (first | exact Grow.refl _ | assumption | (refine Grow_known (by first | (simp only [Heap.set_same, set_ne, ne_eq, not_false_eq_true, *] <;> rfl) | fail) ?_) | (refine Grow.set ?_ (by assumption) (by first | (simp only [*] <;> done) | (simp [set_none', Heap.set_same, set_ne, noneH, *] <;> done) | fail)) | (refine Grow.trans ?_ (by assumption))))) (fun st ad nn k rg ab un va G hg => ?_)  | (with_reducible refine any_h ?_) | ((first | refine AllocQ_i ?_ | refine AllocO_i ?_); intro bk hb0 hbk; (try simp only [set_none'] at hbk); (try (first | have hbn := Grow.none (by assumption) hbk | have hbn := Grow.none (by assumption) hbk.2 | have hbn := Grow.none (by assumption) hbk.2.2 | have hbn := Grow.none (by assumption) hbk.2.2.2 | have hbn := Grow.none (by assumption) hbk.2.2.2.2 | have hbn := Grow.none (by assumption) hbk.2.2.2.2.2)); (try simp only [set_none'] at hbn); (try (first | have hbm := Grow.none (by assumption) hbn | have hbm := Grow.none (by assumption) hbn.2 | have hbm := Grow.none (by assumption) hbn.2.2 | have hbm := Grow.none (by assumption) hbn.2.2.2 | have hbm := Grow.none (by assumption) hbn.2.2.2.2 | have hbm := Grow.none (by assumption) hbn.2.2.2.2.2)); (try simp only [set_none'] at hbm)) | ((first | refine condS_i ?_ ?_ | refine pick_i ?_ ?_ | refine gS_it ?_ ?_ | refine gS_if ?_ ?_ | refine gP_it ?_ ?_ | refine gP_if ?_ ?_) <;> (intro hc; try simp only [Int.reduceLE,Int.reduceLT,Int.reduceEq,Sn] at hc)) | (refine KP_i (by (repeat' (first | exact Heap.Le.refl _ | (with_reducible refine Le_set2 ?_) | (refine Le_known (by first | (simp only [Heap.set_same, set_ne, ne_eq, not_false_eq_true, *] <;> rfl) | fail) ?_) | (refine Le_fresh (by first | (simp only [*] <;> done) | (simp [set_none', Heap.set_same, set_ne, noneH, *] <;> done) | fail) ?_) | (refine Heap.Le.trans ?_ (Grow.le (by assumption))) | exact Le_none | (refine Le_put ?_ (by first | (simp only [Heap.set_same, set_ne, ne_eq, not_false_eq_true, *] <;> rfl) | fail)) | fail))) ?_) | (with_reducible refine And.intro ?_ ?_)) <;> (try simp only [Sq,Sr,Sh,Si,Sl,Bu,Bb,Bd,Bc,Bw,Bn,Int.reduceAdd,Int.reduceSub,Int.reduceMul,Int.reduceTDiv,Int.reduceTMod,Int.reduceMod,Int.reduceDiv,Nat.reduceLT,Nat.reduceEqDiff,Sa,Sb,Sc,Sd,Se,Sf,Sg,Int.reduceLE,Int.reduceLT,Int.reduceToNat,Int.reduceNeg,Int.reduceEq,Nat.reduceLeDiff,Nat.reducePow,Int.reducePow,reduceIte,Nat.reduceSub,Nat.reduceAdd,Nat.reduceMul,putAt,ceq,List.replicate, *]))
    rename_i bo hbo hno b7 hb7 hn7
    have kG : G bo = some _ := hg.some (by simp only [Heap.set_same, set_ne, ne_eq, not_false_eq_true, *] <;> rfl)
    have gG : Grow w0 H G := Grow.trans (by (repeat' (first | exact Grow.refl _ | assumption | (refine Grow_known (by first | (simp only [Heap.set_same, set_ne, ne_eq, not_false_eq_true, *] <;> rfl) | fail) ?_) | (refine Grow.set ?_ (by assumption) (by first | (simp only [*] <;> done) | (simp [set_none', Heap.set_same, set_ne, noneH, *] <;> done) | fail)) | (refine Grow.trans ?_ (by assumption))))) hg
    refine loopq_heap ?_
    intro G0 eG
    have g0 : Grow w0 H G0 := by rw [eG]; exact (by (repeat' (first | exact Grow.refl _ | assumption | (refine Grow_known (by first | (simp only [Heap.set_same, set_ne, ne_eq, not_false_eq_true, *] <;> rfl) | fail) ?_) | (refine Grow.set ?_ (by assumption) (by first | (simp only [*] <;> done) | (simp [set_none', Heap.set_same, set_ne, noneH, *] <;> done) | fail)) | (refine Grow.trans ?_ (by assumption)))))
    have ko0 : G0 bo = some _ := (congrFun eG bo).trans ((Heap.set_other _ _ (fun e => by subst e; rw [kG] at hbk; cases hbk)).trans kG)
    obtain ⟨z, ko⟩ : ∃ z, G0 bo = some ⟨.t 5, (L.map fun x => Value.int .u8 x) ++ ([.int .u8 7] ++ z)⟩ := ⟨_, by rw [ko0, List.append_assoc]⟩
    have hIo : IntsAt w0 G0 .u8 (some ⟨bo, 0, none⟩) L := SlAt.toInts (SlAt.blk ko)
    have f7 : HL.rd1 w0 G0 bo m = some (.int .u8 7) := by
      unfold HL.rd1; rw [ko]
      simp only
      have hL' : (L.map fun x => Value.int .u8 x).length = m := by rw [List.length_map, kq em]
      rw [List.getElem?_append_right (by rw [hL']; exact Nat.le_refl _), hL', Nat.sub_self]
      rfl
    have hI0 := IntsAt.grow (kq hI2) g0
    have hno' := blk_ne ko
    clear eG hg kG gG hbk hbn hb0 ko ko0 hS hz1 hz2 hOf hL hO hno hn7 hb7 hbo
    replace hI0 : Keep _ := hI0
    replace hIo : Keep _ := hIo
    refine loop_g 7 (fun r : Nat => [(6, .int .i64 (r : Nat))]) (fun _ => G0) (fun r => r ≤ 2) (fun r => 2 - r) 0 (Nat.zero_le _) (Heap.Le.refl _) rfl ?_
    intro r g hr
    by_cases hrt : r < 2
    · have t0 : (r : Int) < 2 := by omega
      have t6 : IntKind.i64.wrap ((r : Int) + 1) = ((r + 1 : Nat) : Int) := by rw [Bw.1 _ (by omega) (by omega)]; omega
      (all_goals (try simp only [Sq,Sr,Sh,Si,Sl,Bu,Bb,Bd,Bc,Bw,Bn,Int.reduceAdd,Int.reduceSub,Int.reduceMul,Int.reduceTDiv,Int.reduceTMod,Int.reduceMod,Int.reduceDiv,Nat.reduceLT,Nat.reduceEqDiff,Sa,Sb,Sc,Sd,Se,Sf,Sg,Int.reduceLE,Int.reduceLT,Int.reduceToNat,Int.reduceNeg,Int.reduceEq,Nat.reduceLeDiff,Nat.reducePow,Int.reducePow,reduceIte,Nat.reduceSub,Nat.reduceAdd,Nat.reduceMul,putAt,ceq,List.replicate, *])); repeat' ((first | (with_reducible refine fun _ : True => ?_) | refine slc_pre e3 e8 ?_ | refine hD _ _ _ _ (IntsAt.grow (kq hIo) (by (repeat' (first | exact Grow.refl _ | assumption | (refine Grow_known (by first | (simp only [Heap.set_same, set_ne, ne_eq, not_false_eq_true, *] <;> rfl) | fail) ?_) | (refine Grow.set ?_ (by assumption) (by first | (simp only [*] <;> done) | (simp [set_none', Heap.set_same, set_ne, noneH, *] <;> done) | fail)) | (refine Grow.trans ?_ (by assumption)))))) (Nat.le_add_right m 2) ?_ | refine c_bytesEqual _ _ _ _ _ _ L L (kq em) (kq em) (IntsAt.grow (kq hIo) (by (repeat' (first | exact Grow.refl _ | assumption | (refine Grow_known (by first | (simp only [Heap.set_same, set_ne, ne_eq, not_false_eq_true, *] <;> rfl) | fail) ?_) | (refine Grow.set ?_ (by assumption) (by first | (simp only [*] <;> done) | (simp [set_none', Heap.set_same, set_ne, noneH, *] <;> done) | fail)) | (refine Grow.trans ?_ (by assumption)))))) (IntsAt.grow (kq hI0) (by (repeat' (first | exact Grow.refl _ | assumption | (refine Grow_known (by first | (simp only [Heap.set_same, set_ne, ne_eq, not_false_eq_true, *] <;> rfl) | fail) ?_) | (refine Grow.set ?_ (by assumption) (by first | (simp only [*] <;> done) | (simp [set_none', Heap.set_same, set_ne, noneH, *] <;> done) | fail)) | (refine Grow.trans ?_ (by assumption)))))) (kq hw3) (kq hw3) ?_ | refine hSm _ _ ?_ | (with_reducible refine any_h ?_) | ((first | refine AllocQ_i ?_ | refine AllocO_i ?_); intro bk hb0 hbk; (try simp only [set_none'] at hbk); (try (first | have hbn := Grow.none (by assumption) hbk | have hbn := Grow.none (by assumption) hbk.2 | have hbn := Grow.none (by assumption) hbk.2.2 | have hbn := Grow.none (by assumption) hbk.2.2.2 | have hbn := Grow.none (by assumption) hbk.2.2.2.2 | have hbn := Grow.none (by assumption) hbk.2.2.2.2.2)); (try simp only [set_none'] at hbn); (try (first | have hbm := Grow.none (by assumption) hbn | have hbm := Grow.none (by assumption) hbn.2 | have hbm := Grow.none (by assumption) hbn.2.2 | have hbm := Grow.none (by assumption) hbn.2.2.2 | have hbm := Grow.none (by assumption) hbn.2.2.2.2 | have hbm := Grow.none (by assumption) hbn.2.2.2.2.2)); (try simp only [set_none'] at hbm)) | ((first | refine condS_i ?_ ?_ | refine pick_i ?_ ?_ | refine gS_it ?_ ?_ | refine gS_if ?_ ?_ | refine gP_it ?_ ?_ | refine gP_if ?_ ?_) <;> (intro hc; try simp only [Int.reduceLE,Int.reduceLT,Int.reduceEq,Sn] at hc)) | (refine KP_i (by (repeat' (first | exact Heap.Le.refl _ | (with_reducible refine Le_set2 ?_) | (refine Le_known (by first | (simp only [Heap.set_same, set_ne, ne_eq, not_false_eq_true, *] <;> rfl) | fail) ?_) | (refine Le_fresh (by first | (simp only [*] <;> done) | (simp [set_none', Heap.set_same, set_ne, noneH, *] <;> done) | fail) ?_) | (refine Heap.Le.trans ?_ (Grow.le (by assumption))) | exact Le_none | (refine Le_put ?_ (by first | (simp only [Heap.set_same, set_ne, ne_eq, not_false_eq_true, *] <;> rfl) | fail)) | fail))) ?_) | (with_reducible refine And.intro ?_ ?_)) <;> (try simp only [Sq,Sr,Sh,Si,Sl,Bu,Bb,Bd,Bc,Bw,Bn,Int.reduceAdd,Int.reduceSub,Int.reduceMul,Int.reduceTDiv,Int.reduceTMod,Int.reduceMod,Int.reduceDiv,Nat.reduceLT,Nat.reduceEqDiff,Sa,Sb,Sc,Sd,Se,Sf,Sg,Int.reduceLE,Int.reduceLT,Int.reduceToNat,Int.reduceNeg,Int.reduceEq,Nat.reduceLeDiff,Nat.reducePow,Int.reducePow,reduceIte,Nat.reduceSub,Nat.reduceAdd,Nat.reduceMul,putAt,ceq,List.replicate, *]))
      all_goals exact Round_mk (r + 1) hrt (Nat.sub_succ_lt_self 2 r hrt) (by (repeat' (first | exact Heap.Le.refl _ | (with_reducible refine Le_set2 ?_) | (refine Le_known (by first | (simp only [Heap.set_same, set_ne, ne_eq, not_false_eq_true, *] <;> rfl) | fail) ?_) | (refine Le_fresh (by first | (simp only [*] <;> done) | (simp [set_none', Heap.set_same, set_ne, noneH, *] <;> done) | fail) ?_) | (refine Heap.Le.trans ?_ (Grow.le (by assumption))) | exact Le_none | (refine Le_put ?_ (by first | (simp only [Heap.set_same, set_ne, ne_eq, not_false_eq_true, *] <;> rfl) | fail)) | fail))) rfl rfl
    · obtain rfl : r = 2 := by omega
      have t0 : ¬ ((2 : Nat) : Int) < 2 := by omega
      clear hD hSm
      (all_goals (try simp only [Sq,Sr,Sh,Si,Sl,Bu,Bb,Bd,Bc,Bw,Bn,Int.reduceAdd,Int.reduceSub,Int.reduceMul,Int.reduceTDiv,Int.reduceTMod,Int.reduceMod,Int.reduceDiv,Nat.reduceLT,Nat.reduceEqDiff,Sa,Sb,Sc,Sd,Se,Sf,Sg,Int.reduceLE,Int.reduceLT,Int.reduceToNat,Int.reduceNeg,Int.reduceEq,Nat.reduceLeDiff,Nat.reducePow,Int.reducePow,reduceIte,Nat.reduceSub,Nat.reduceAdd,Nat.reduceMul,putAt,ceq,List.replicate, *])); repeat' ((first | (with_reducible refine fun _ : True => ?_) | (with_reducible refine any_h ?_) | ((first | refine AllocQ_i ?_ | refine AllocO_i ?_); intro bk hb0 hbk; (try simp only [set_none'] at hbk); (try (first | have hbn := Grow.none (by assumption) hbk | have hbn := Grow.none (by assumption) hbk.2 | have hbn := Grow.none (by assumption) hbk.2.2 | have hbn := Grow.none (by assumption) hbk.2.2.2 | have hbn := Grow.none (by assumption) hbk.2.2.2.2 | have hbn := Grow.none (by assumption) hbk.2.2.2.2.2)); (try simp only [set_none'] at hbn); (try (first | have hbm := Grow.none (by assumption) hbn | have hbm := Grow.none (by assumption) hbn.2 | have hbm := Grow.none (by assumption) hbn.2.2 | have hbm := Grow.none (by assumption) hbn.2.2.2 | have hbm := Grow.none (by assumption) hbn.2.2.2.2 | have hbm := Grow.none (by assumption) hbn.2.2.2.2.2)); (try simp only [set_none'] at hbm)) | ((first | refine condS_i ?_ ?_ | refine pick_i ?_ ?_ | refine gS_it ?_ ?_ | refine gS_if ?_ ?_ | refine gP_it ?_ ?_ | refine gP_if ?_ ?_) <;> (intro hc; try simp only [Int.reduceLE,Int.reduceLT,Int.reduceEq,Sn] at hc)) | (refine KP_i (by (repeat' (first | exact Heap.Le.refl _ | (with_reducible refine Le_set2 ?_) | (refine Le_known (by first | (simp only [Heap.set_same, set_ne, ne_eq, not_false_eq_true, *] <;> rfl) | fail) ?_) | (refine Le_fresh (by first | (simp only [*] <;> done) | (simp [set_none', Heap.set_same, set_ne, noneH, *] <;> done) | fail) ?_) | (refine Heap.Le.trans ?_ (Grow.le (by assumption))) | exact Le_none | (refine Le_put ?_ (by first | (simp only [Heap.set_same, set_ne, ne_eq, not_false_eq_true, *] <;> rfl) | fail)) | fail))) ?_) | (with_reducible refine And.intro ?_ ?_)) <;> (try simp only [Sq,Sr,Sh,Si,Sl,Bu,Bb,Bd,Bc,Bw,Bn,Int.reduceAdd,Int.reduceSub,Int.reduceMul,Int.reduceTDiv,Int.reduceTMod,Int.reduceMod,Int.reduceDiv,Nat.reduceLT,Nat.reduceEqDiff,Sa,Sb,Sc,Sd,Se,Sf,Sg,Int.reduceLE,Int.reduceLT,Int.reduceToNat,Int.reduceNeg,Int.reduceEq,Nat.reduceLeDiff,Nat.reducePow,Int.reducePow,reduceIte,Nat.reduceSub,Nat.reduceAdd,Nat.reduceMul,putAt,ceq,List.replicate, *]))
      exact Fin_mk g0.le h
end Go.Proofs.Ytndgmnmnpfblmaa
