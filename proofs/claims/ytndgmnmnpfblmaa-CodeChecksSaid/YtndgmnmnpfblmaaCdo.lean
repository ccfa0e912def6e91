/- The layer does something (layer 16). -/
import Derived.Test.YtndgmnmnpfblmaaCdm
import Derived.Test.YtndgmnmnpfblmaaCdn
import Derived.Test.YtndgmnmnpfblmaaHlu
set_option linter.unusedSimpArgs false
set_option linter.unusedVariables false
set_option maxRecDepth 100000
set_option maxHeartbeats 4000000
namespace Go.Proofs.Ytndgmnmnpfblmaa
open Go.HL Go.RowKit Pb
variable {w0 : World} {H : Heap} {K : Value → Heap → Prop}

def wi1 : Ins := ⟨1, 0, 0, 0, 1, 0, 0, 0, 0, 0, 0, 0, 0, 0, 0, 0⟩
def wi2 : Ins := ⟨4, 1, 0, 0, 0, 0, 1, 0, 0, 0, 0, 0, 0, 0, 0, 0⟩
def wc (a : Option Addr) (k : Nat) : Cd := ⟨1, a, k, [wi1, wi2], 2, 0, 0, 0⟩
theorem wc_may (a : Option Addr) (k : Nat) : mayP (wc a k) := by
  refine ⟨.inl rfl, show 2 ≤ 4096 by decide, show below 2 1025 = true by decide, show below 0 9 = true by decide, show below 0 33 = true by decide, show below 0 5 = true by decide, fun j i h => ?_⟩
  rcases j with _ | _ | j
  · simp [wc] at h
    subst h
    exact ⟨rfl, rfl, show ∀ r ∈ _, below r 2 = true by decide⟩
  · simp [wc] at h
    subst h
    exact ⟨rfl, rfl, show ∀ r ∈ _, below r 2 = true by decide⟩
  · simp [wc] at h
def wB : List Int := (wc none 0).bytes
theorem wc_bytes (a : Option Addr) (k : Nat) : (wc a k).bytes = wB := rfl
theorem wB_len : wB.length = 156 := rfl
theorem wB_dec : decC wB = wc none 0 := by kernel_rfl
theorem wB_hd : okHd wB := by unfold okHd; decide +kernel
theorem wB_wf : ∀ x ∈ wB, 0 ≤ x ∧ x < 256 := by decide +kernel
theorem zero_may (a : Option Addr) (k : Nat) : ¬ mayP ⟨0, a, k, [], 0, 0, 0, 0⟩ := fun h => by
  have := h.1
  simp at this
/- paintboxlaw16 wakes -/
def M10 : MC :=
  .seq (.reg [⟨(some 0), .mv (.const (.bool false)), none⟩])
 (.seq (.reg [⟨(some 6), .build [(.int .i64 0), (.int .i64 0), (.int .i64 0), (.int .i64 0), (.int .i64 0), (.int .i64 0), (.int .i64 0), (.int .i64 0), (.int .i32 0), (.int .i32 0), (.int .i32 0), (.int .i32 0), (.int .i64 0), (.int .i64 0), (.int .i64 0), (.int .i64 0)] [(0, 1, (.const (.int .i64 1))), (4, 1, (.const (.int .i64 1)))], none⟩,
 ⟨(some 7), .build [(.int .i64 0), (.int .i64 0), (.int .i64 0), (.int .i64 0), (.int .i64 0), (.int .i64 0), (.int .i64 0), (.int .i64 0), (.int .i32 0), (.int .i32 0), (.int .i32 0), (.int .i32 0), (.int .i64 0), (.int .i64 0), (.int .i64 0), (.int .i64 0)] [(0, 1, (.const (.int .i64 4))), (1, 1, (.const (.int .i64 1))), (6, 1, (.const (.int .i64 1)))], none⟩,
 ⟨(some 8), .bslice 30 2 [(.int .i64 0), (.int .i64 0), (.int .i64 0), (.int .i64 0), (.int .i64 0), (.int .i64 0), (.int .i64 0), (.int .i64 0), (.int .i32 0), (.int .i32 0), (.int .i32 0), (.int .i32 0), (.int .i64 0), (.int .i64 0), (.int .i64 0), (.int .i64 0), (.int .i64 0), (.int .i64 0), (.int .i64 0), (.int .i64 0), (.int .i64 0), (.int .i64 0), (.int .i64 0), (.int .i64 0), (.int .i32 0), (.int .i32 0), (.int .i32 0), (.int .i32 0), (.int .i64 0), (.int .i64 0), (.int .i64 0), (.int .i64 0)] [(0, 16, (.tmp 6)), (16, 16, (.tmp 7))], none⟩,
 ⟨(some 9), .build [(.int .i64 0), (.slice none 0 0), (.int .i64 0), (.int .i64 0), (.int .i64 0), (.int .i64 0)] [(0, 1, (.const (.int .i64 1))), (2, 1, (.const (.int .i64 2))), (1, 1, (.tmp 8))], none⟩,
 ⟨(some 1), .alloc 34 [(.int .i64 0), (.slice none 0 0), (.int .i64 0), (.int .i64 0), (.int .i64 0), (.int .i64 0)], none⟩,
 ⟨none, .stn 6 (.tmp 1) (.tmp 9), none⟩])
 (.seq (.reg [⟨(some 11), .ldn 6 (.tmp 1), none⟩,
 ⟨(some 12), .call 24 [(.tmp 11)], none⟩,
 ⟨(some 10), .mv (.tmp 12), none⟩,
 ⟨(some 13), .ext 0 (.tmp 10), none⟩,
 ⟨(some 14), .ext 1 (.tmp 10), none⟩,
 ⟨(some 2), .mv (.tmp 13), none⟩,
 ⟨(some 3), .mv (.tmp 14), none⟩])
 (.seq (.reg [⟨(some 16), .mv (.tmp 2), none⟩,
 ⟨(some 17), .call 22 [(.tmp 16)], none⟩,
 ⟨(some 15), .mv (.tmp 17), none⟩,
 ⟨(some 18), .ext 0 (.tmp 15), none⟩,
 ⟨(some 19), .ext 1 (.tmp 15), none⟩,
 ⟨(some 4), .alloc 34 [(.int .i64 0), (.slice none 0 0), (.int .i64 0), (.int .i64 0), (.int .i64 0), (.int .i64 0)], none⟩,
 ⟨none, .stn 6 (.tmp 4) (.tmp 18), none⟩,
 ⟨(some 5), .mv (.tmp 19), none⟩])
 (.seq (.reg [⟨(some 20), .ldn 6 (.tmp 1), none⟩,
 ⟨(some 21), .call 18 [(.tmp 20)], none⟩,
 ⟨(some 22), .bin .eql (.tmp 21) (.const (.int .i64 0)), none⟩,
 ⟨(some 23), .mv (.tmp 22), none⟩,
 ⟨(some 24), .mv (.tmp 3), (some (23, true))⟩,
 ⟨(some 25), .bin .eql (.tmp 24) (.const (.int .i64 0)), (some (23, true))⟩,
 ⟨(some 26), .pick (.tmp 23) (.tmp 25) (.const (.bool false)), none⟩,
 ⟨(some 27), .mv (.tmp 26), none⟩,
 ⟨(some 28), .mv (.tmp 5), (some (27, true))⟩,
 ⟨(some 29), .bin .eql (.tmp 28) (.const (.int .i64 0)), (some (27, true))⟩,
 ⟨(some 30), .pick (.tmp 27) (.tmp 29) (.const (.bool false)), none⟩,
 ⟨(some 31), .mv (.tmp 30), none⟩,
 ⟨(some 32), .mv (.tmp 2), (some (31, true))⟩,
 ⟨(some 33), .len (.tmp 32), (some (31, true))⟩,
 ⟨(some 34), .bin .eql (.tmp 33) (.const (.int .i64 156)), (some (31, true))⟩,
 ⟨(some 35), .pick (.tmp 31) (.tmp 34) (.const (.bool false)), none⟩,
 ⟨(some 36), .mv (.tmp 35), none⟩,
 ⟨(some 37), .ldn 6 (.tmp 1), (some (36, true))⟩,
 ⟨(some 38), .ldn 6 (.tmp 4), (some (36, true))⟩,
 ⟨(some 39), .call 15 [(.tmp 37), (.tmp 38)], (some (36, true))⟩,
 ⟨(some 40), .pick (.tmp 36) (.tmp 39) (.const (.bool false)), none⟩,
 ⟨(some 41), .mv (.tmp 40), none⟩,
 ⟨(some 42), .build [(.int .i64 0), (.slice none 0 0), (.int .i64 0), (.int .i64 0), (.int .i64 0), (.int .i64 0)] [], (some (41, true))⟩,
 ⟨(some 43), .call 18 [(.tmp 42)], (some (41, true))⟩,
 ⟨(some 44), .bin .eql (.tmp 43) (.const (.int .i64 260)), (some (41, true))⟩,
 ⟨(some 45), .pick (.tmp 41) (.tmp 44) (.const (.bool false)), none⟩,
 ⟨(some 46), .mv (.tmp 45), none⟩,
 ⟨(some 47), .call 11 [(.const (.int .i64 17)), (.const (.int .i64 1))], (some (46, true))⟩,
 ⟨(some 48), .bin .eql (.tmp 47) (.const (.int .i64 3)), (some (46, true))⟩,
 ⟨(some 49), .pick (.tmp 46) (.tmp 48) (.const (.bool false)), none⟩,
 ⟨(some 0), .mv (.tmp 49), none⟩])
 (.ret)))))
theorem k10 : fnOk Try.prog 10 = some (M10, [.t 0], 50) := by kernel_rfl

theorem c_wakes (h : K (.bool true) H) : HCalls Try.prog w0 10 [] H K := by
  replace h : Keep _ := h
  refine HL.hc k10 999 ?_; unfold M10
  (all_goals (try simp only [Sq,Sr,Sh,Si,Sl,Bu,Bb,Bd,Bc,Bw,Bn,Int.reduceAdd,Int.reduceSub,Int.reduceMul,Int.reduceTDiv,Int.reduceTMod,Int.reduceMod,Int.reduceDiv,Nat.reduceLT,Nat.reduceEqDiff,Sa,Sb,Sc,Sd,Se,Sf,Sg,Int.reduceLE,Int.reduceLT,Int.reduceToNat,Int.reduceNeg,Int.reduceEq,Nat.reduceLeDiff,Nat.reducePow,Int.reducePow,reduceIte,Nat.reduceSub,Nat.reduceAdd,Nat.reduceMul,putAt,ceq,List.replicate, *])); repeat' ((first | (with_reducible refine fun _ : True => ?_) | (with_reducible refine any_h ?_) | ((first | refine AllocQ_i ?_ | refine AllocO_i ?_); intro bk hb0 hbk; (try simp only [set_none'] at hbk); (try (first | have hbn := Grow.none (by assumption) hbk | have hbn := Grow.none (by assumption) hbk.2 | have hbn := Grow.none (by assumption) hbk.2.2 | have hbn := Grow.none (by assumption) hbk.2.2.2 | have hbn := Grow.none (by assumption) hbk.2.2.2.2 | have hbn := Grow.none (by assumption) hbk.2.2.2.2.2)); (try simp only [set_none'] at hbn); (try (first | have hbm := Grow.none (by assumption) hbn | have hbm := Grow.none (by assumption) hbn.2 | have hbm := Grow.none (by assumption) hbn.2.2 | have hbm := Grow.none (by assumption) hbn.2.2.2 | have hbm := Grow.none (by assumption) hbn.2.2.2.2 | have hbm := Grow.none (by assumption) hbn.2.2.2.2.2)); (try simp only [set_none'] at hbm)) | ((first | refine condS_i ?_ ?_ | refine pick_i ?_ ?_ | refine gS_it ?_ ?_ | refine gS_if ?_ ?_ | refine gP_it ?_ ?_ | refine gP_if ?_ ?_) <;> (intro hc; try simp only [Int.reduceLE,Int.reduceLT,Int.reduceEq,Sn] at hc)) | (refine KP_i (by (repeat' (first | exact Heap.Le.refl _ | (with_reducible refine Le_set2 ?_) | (refine Le_known (by first | (simp only [Heap.set_same, set_ne, ne_eq, not_false_eq_true, *] <;> rfl) | fail) ?_) | (refine Le_fresh (by first | (simp only [*] <;> done) | (simp [set_none', Heap.set_same, set_ne, noneH, *] <;> done) | fail) ?_) | (refine Heap.Le.trans ?_ (Grow.le (by assumption))) | exact Le_none | (refine Le_put ?_ (by first | (simp only [Heap.set_same, set_ne, ne_eq, not_false_eq_true, *] <;> rfl) | fail)) | fail))) ?_) | (with_reducible refine And.intro ?_ ?_)) <;> (try simp only [Sq,Sr,Sh,Si,Sl,Bu,Bb,Bd,Bc,Bw,Bn,Int.reduceAdd,Int.reduceSub,Int.reduceMul,Int.reduceTDiv,Int.reduceTMod,Int.reduceMod,Int.reduceDiv,Nat.reduceLT,Nat.reduceEqDiff,Sa,Sb,Sc,Sd,Se,Sf,Sg,Int.reduceLE,Int.reduceLT,Int.reduceToNat,Int.reduceNeg,Int.reduceEq,Nat.reduceLeDiff,Nat.reducePow,Int.reducePow,reduceIte,Nat.reduceSub,Nat.reduceAdd,Nat.reduceMul,putAt,ceq,List.replicate, *]))
  rename_i ba hba hna
  generalize hH1 : ((H.set ba _).set bk _) = H1
  have ka : H1 ba = some ⟨.t 30, ([wi1, wi2].map Ins.row).flatten⟩ := by rw [← hH1]; exact (by simp only [Heap.set_same, set_ne, ne_eq, not_false_eq_true, *] <;> rfl)
  have kc : H1 bk = some ⟨.t 34, [.int .i64 1, .slice (some ⟨ba, 0, none⟩) 2 2, .int .i64 2, .int .i64 0, .int .i64 0, .int .i64 0]⟩ := by rw [← hH1]; exact (by simp only [Heap.set_same, set_ne, ne_eq, not_false_eq_true, *] <;> rfl)
  have g1 : Grow w0 H H1 := by rw [← hH1]; exact (by (repeat' (first | exact Grow.refl _ | assumption | (refine Grow_known (by first | (simp only [Heap.set_same, set_ne, ne_eq, not_false_eq_true, *] <;> rfl) | fail) ?_) | (refine Grow.set ?_ (by assumption) (by first | (simp only [*] <;> done) | (simp [set_none', Heap.set_same, set_ne, noneH, *] <;> done) | fail)) | (refine Grow.trans ?_ (by assumption)))))
  clear hH1 hbk hna hba hb0
  have hc1 : CdAt w0 H1 (wc (some ⟨ba, 0, none⟩) 2) := ⟨SlAt.blk (z := []) (by rw [ka, List.append_nil]; rfl), by unfold maxLen; simp [wc], by simp [wc]⟩
  have hE := fun (K : Value → Heap → Prop) h => c_Encode (w0 := w0) (H := H1) (K := K) (wc (some ⟨ba, 0, none⟩) 2) hc1 (fun _ => h) (fun h' => absurd (wc_may _ _) h')
  have hCk := fun (G : Heap) (K : Value → Heap → Prop) (g : Grow w0 H1 G) h => c_Check (w0 := w0) (H := G) (K := K) (wc (some ⟨ba, 0, none⟩) 2) (hc1.grow g) (fun _ => h) (fun h' => absurd (wc_may _ _) h')
  have hZ := fun (G : Heap) (K : Value → Heap → Prop) h => c_Check (w0 := w0) (H := G) (K := K) ⟨0, none, 0, [], 0, 0, 0, 0⟩ ⟨SlAt.nil, by unfold maxLen; simp, by simp⟩ (fun h' => absurd h' (zero_may _ _)) (fun _ => h)
  have hA := fun (G : Heap) (K : Value → Heap → Prop) => c_Args (w0 := w0) (H := G) (K := K) 17 1
  rw [show args 17 1 = 3 by decide] at hA
  have hD := fun (G : Heap) (K : Value → Heap → Prop) (a : Option Addr) (cp : Nat) hA hlc h => c_Decode (w0 := w0) (H := G) (K := K) a cp wB hA hlc (by rw [wB_len]; decide) wB_wf (fun _ _ => h) (fun h' => absurd ⟨wB_hd, by rw [wB_dec]; exact wc_may _ _⟩ h')
  rw [wB_dec] at hD
  have hSm := fun (G : Heap) (K : Value → Heap → Prop) (a : Option Addr) (cp : Nat) (hc : CdAt w0 G (wc (some ⟨ba, 0, none⟩) 2)) (hd : CdAt w0 G (wc a cp)) h => c_Same (w0 := w0) (H := G) (K := K) _ _ hc hd (fun _ => h) (fun h' => absurd ⟨rfl, rfl, rfl, rfl, rfl, rfl⟩ h')
  simp only [wc_bytes, wB_len] at hE
  unfold Cd.v at hE hCk hZ hD hSm
  simp only [wB_len, wc, List.length_cons, List.length_nil, Nat.reduceAdd] at hE hCk hZ hD hSm
  replace hE : Keep _ := hE
  replace hCk : Keep _ := hCk
  replace hZ : Keep _ := hZ
  replace hA : Keep _ := hA
  replace hD : Keep _ := hD
  replace hSm : Keep _ := hSm
  (all_goals (try simp only [Sq,Sr,Sh,Si,Sl,Bu,Bb,Bd,Bc,Bw,Bn,Int.reduceAdd,Int.reduceSub,Int.reduceMul,Int.reduceTDiv,Int.reduceTMod,Int.reduceMod,Int.reduceDiv,Nat.reduceLT,Nat.reduceEqDiff,Sa,Sb,Sc,Sd,Se,Sf,Sg,Int.reduceLE,Int.reduceLT,Int.reduceToNat,Int.reduceNeg,Int.reduceEq,Nat.reduceLeDiff,Nat.reducePow,Int.reducePow,reduceIte,Nat.reduceSub,Nat.reduceAdd,Nat.reduceMul,putAt,ceq,List.replicate, *])); repeat' ((first | (with_reducible refine fun _ : True => ?_) | refine hE _ (fun a k G hB hg => ?_)  | (with_reducible refine any_h ?_) | ((first | refine AllocQ_i ?_ | refine AllocO_i ?_); intro bk hb0 hbk; (try simp only [set_none'] at hbk); (try (first | have hbn := Grow.none (by assumption) hbk | have hbn := Grow.none (by assumption) hbk.2 | have hbn := Grow.none (by assumption) hbk.2.2 | have hbn := Grow.none (by assumption) hbk.2.2.2 | have hbn := Grow.none (by assumption) hbk.2.2.2.2 | have hbn := Grow.none (by assumption) hbk.2.2.2.2.2)); (try simp only [set_none'] at hbn); (try (first | have hbm := Grow.none (by assumption) hbn | have hbm := Grow.none (by assumption) hbn.2 | have hbm := Grow.none (by assumption) hbn.2.2 | have hbm := Grow.none (by assumption) hbn.2.2.2 | have hbm := Grow.none (by assumption) hbn.2.2.2.2 | have hbm := Grow.none (by assumption) hbn.2.2.2.2.2)); (try simp only [set_none'] at hbm)) | ((first | refine condS_i ?_ ?_ | refine pick_i ?_ ?_ | refine gS_it ?_ ?_ | refine gS_if ?_ ?_ | refine gP_it ?_ ?_ | refine gP_if ?_ ?_) <;> (intro hc; try simp only [Int.reduceLE,Int.reduceLT,Int.reduceEq,Sn] at hc)) | (refine KP_i (by (repeat' (first | exact Heap.Le.refl _ | (with_reducible refine Le_set2 ?_) | (refine Le_known (by first | (simp only [Heap.set_same, set_ne, ne_eq, not_false_eq_true, *] <;> rfl) | fail) ?_) | (refine Le_fresh (by first | (simp only [*] <;> done) | (simp [set_none', Heap.set_same, set_ne, noneH, *] <;> done) | fail) ?_) | (refine Heap.Le.trans ?_ (Grow.le (by assumption))) | exact Le_none | (refine Le_put ?_ (by first | (simp only [Heap.set_same, set_ne, ne_eq, not_false_eq_true, *] <;> rfl) | fail)) | fail))) ?_) | (with_reducible refine And.intro ?_ ?_)) <;> (try simp only [Sq,Sr,Sh,Si,Sl,Bu,Bb,Bd,Bc,Bw,Bn,Int.reduceAdd,Int.reduceSub,Int.reduceMul,Int.reduceTDiv,Int.reduceTMod,Int.reduceMod,Int.reduceDiv,Nat.reduceLT,Nat.reduceEqDiff,Sa,Sb,Sc,Sd,Se,Sf,Sg,Int.reduceLE,Int.reduceLT,Int.reduceToNat,Int.reduceNeg,Int.reduceEq,Nat.reduceLeDiff,Nat.reducePow,Int.reducePow,reduceIte,Nat.reduceSub,Nat.reduceAdd,Nat.reduceMul,putAt,ceq,List.replicate, *]))
  have hlk : 156 ≤ k := by
    have := hB.le
    rw [List.length_map, wB_len] at this
    omega
  refine hD _ _ _ _ (SlAt.toInts hB.slAt) hlk (fun ad kk G2 hB2 hl2 hg2 => ?_)
  have g12 : Grow w0 H1 G2 := hg.trans hg2
  have hd2 : CdAt w0 G2 (wc ad kk) := ⟨hB2.slAt, by unfold maxLen; simp [wc], hl2⟩
  have kc2 := g12.some kc
  have hr := rdn_blk (w0 := w0) (n := 6) kc2 rfl (by omega)
  have hne := blk_ne kc2
  have hl : Heap.Le H G2 := g1.le.trans g12.le
  clear hE hD hB hB2 hg hg2 kc kc2 ka
  (all_goals (try simp only [Sq,Sr,Sh,Si,Sl,Bu,Bb,Bd,Bc,Bw,Bn,Int.reduceAdd,Int.reduceSub,Int.reduceMul,Int.reduceTDiv,Int.reduceTMod,Int.reduceMod,Int.reduceDiv,Nat.reduceLT,Nat.reduceEqDiff,Sa,Sb,Sc,Sd,Se,Sf,Sg,Int.reduceLE,Int.reduceLT,Int.reduceToNat,Int.reduceNeg,Int.reduceEq,Nat.reduceLeDiff,Nat.reducePow,Int.reducePow,reduceIte,Nat.reduceSub,Nat.reduceAdd,Nat.reduceMul,putAt,ceq,List.replicate, *])); repeat' ((first | (with_reducible refine fun _ : True => ?_) | refine hCk _ _ (by (repeat' (first | exact Grow.refl _ | assumption | (refine Grow_known (by first | (simp only [Heap.set_same, set_ne, ne_eq, not_false_eq_true, *] <;> rfl) | fail) ?_) | (refine Grow.set ?_ (by assumption) (by first | (simp only [*] <;> done) | (simp [set_none', Heap.set_same, set_ne, noneH, *] <;> done) | fail)) | (refine Grow.trans ?_ (by assumption))))) ?_ | refine hSm _ _ _ _ (hc1.grow (by (repeat' (first | exact Grow.refl _ | assumption | (refine Grow_known (by first | (simp only [Heap.set_same, set_ne, ne_eq, not_false_eq_true, *] <;> rfl) | fail) ?_) | (refine Grow.set ?_ (by assumption) (by first | (simp only [*] <;> done) | (simp [set_none', Heap.set_same, set_ne, noneH, *] <;> done) | fail)) | (refine Grow.trans ?_ (by assumption)))))) (hd2.grow (by (repeat' (first | exact Grow.refl _ | assumption | (refine Grow_known (by first | (simp only [Heap.set_same, set_ne, ne_eq, not_false_eq_true, *] <;> rfl) | fail) ?_) | (refine Grow.set ?_ (by assumption) (by first | (simp only [*] <;> done) | (simp [set_none', Heap.set_same, set_ne, noneH, *] <;> done) | fail)) | (refine Grow.trans ?_ (by assumption)))))) ?_ | refine hZ _ _ ?_ | refine hA _ _ ?_ | (with_reducible refine any_h ?_) | ((first | refine AllocQ_i ?_ | refine AllocO_i ?_); intro bk hb0 hbk; (try simp only [set_none'] at hbk); (try (first | have hbn := Grow.none (by assumption) hbk | have hbn := Grow.none (by assumption) hbk.2 | have hbn := Grow.none (by assumption) hbk.2.2 | have hbn := Grow.none (by assumption) hbk.2.2.2 | have hbn := Grow.none (by assumption) hbk.2.2.2.2 | have hbn := Grow.none (by assumption) hbk.2.2.2.2.2)); (try simp only [set_none'] at hbn); (try (first | have hbm := Grow.none (by assumption) hbn | have hbm := Grow.none (by assumption) hbn.2 | have hbm := Grow.none (by assumption) hbn.2.2 | have hbm := Grow.none (by assumption) hbn.2.2.2 | have hbm := Grow.none (by assumption) hbn.2.2.2.2 | have hbm := Grow.none (by assumption) hbn.2.2.2.2.2)); (try simp only [set_none'] at hbm)) | ((first | refine condS_i ?_ ?_ | refine pick_i ?_ ?_ | refine gS_it ?_ ?_ | refine gS_if ?_ ?_ | refine gP_it ?_ ?_ | refine gP_if ?_ ?_) <;> (intro hc; try simp only [Int.reduceLE,Int.reduceLT,Int.reduceEq,Sn] at hc)) | (refine KP_i (by (repeat' (first | exact Heap.Le.refl _ | (with_reducible refine Le_set2 ?_) | (refine Le_known (by first | (simp only [Heap.set_same, set_ne, ne_eq, not_false_eq_true, *] <;> rfl) | fail) ?_) | (refine Le_fresh (by first | (simp only [*] <;> done) | (simp [set_none', Heap.set_same, set_ne, noneH, *] <;> done) | fail) ?_) | (refine Heap.Le.trans ?_ (Grow.le (by assumption))) | exact Le_none | (refine Le_put ?_ (by first | (simp only [Heap.set_same, set_ne, ne_eq, not_false_eq_true, *] <;> rfl) | fail)) | fail))) ?_) | (with_reducible refine And.intro ?_ ?_)) <;> (try simp only [Sq,Sr,Sh,Si,Sl,Bu,Bb,Bd,Bc,Bw,Bn,Int.reduceAdd,Int.reduceSub,Int.reduceMul,Int.reduceTDiv,Int.reduceTMod,Int.reduceMod,Int.reduceDiv,Nat.reduceLT,Nat.reduceEqDiff,Sa,Sb,Sc,Sd,Se,Sf,Sg,Int.reduceLE,Int.reduceLT,Int.reduceToNat,Int.reduceNeg,Int.reduceEq,Nat.reduceLeDiff,Nat.reducePow,Int.reducePow,reduceIte,Nat.reduceSub,Nat.reduceAdd,Nat.reduceMul,putAt,ceq,List.replicate, *]))
  all_goals exact Fin_le (Fin_mk hl h) (by (repeat' (first | exact Heap.Le.refl _ | (with_reducible refine Le_set2 ?_) | (refine Le_known (by first | (simp only [Heap.set_same, set_ne, ne_eq, not_false_eq_true, *] <;> rfl) | fail) ?_) | (refine Le_fresh (by first | (simp only [*] <;> done) | (simp [set_none', Heap.set_same, set_ne, noneH, *] <;> done) | fail) ?_) | (refine Heap.Le.trans ?_ (Grow.le (by assumption))) | exact Le_none | (refine Le_put ?_ (by first | (simp only [Heap.set_same, set_ne, ne_eq, not_false_eq_true, *] <;> rfl) | fail)) | fail)))
end Go.Proofs.Ytndgmnmnpfblmaa
