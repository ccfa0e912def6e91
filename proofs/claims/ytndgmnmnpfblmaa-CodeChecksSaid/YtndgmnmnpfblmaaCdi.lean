/- The bytes of a code, one number (layer 16). -/
import Derived.Test.YtndgmnmnpfblmaaCdh
import Derived.Test.YtndgmnmnpfblmaaHlu
set_option linter.unusedSimpArgs false
set_option linter.unusedVariables false
set_option maxRecDepth 100000
set_option maxHeartbeats 4000000
namespace Go.Proofs.Ytndgmnmnpfblmaa
open Go.HL Go.RowKit Pb
variable {w0 : World} {H G : Heap} {K : Value → Heap → Prop}

theorem low4_wrap (x : Int) : low4 (IntKind.u32.wrap x) = low4 x := by
  have e : IntKind.u32.wrap x = x % 4294967296 := by simp [IntKind.wrap, IntKind.signed, IntKind.bits]
  rw [e]
  unfold low4
  simp only [List.cons.injEq, and_true]
  omega
theorem u32_in (x : Int) : 0 ≤ IntKind.u32.wrap x ∧ IntKind.u32.wrap x < 4294967296 := by
  have e : IntKind.u32.wrap x = x % 4294967296 := by simp [IntKind.wrap, IntKind.signed, IntKind.bits]
  rw [e]
  omega
/-- The bytes so far, in the variable at bb. -/
structure EnSt (w0 : World) (H G : Heap) (bb : Nat) (l : List Int) : Prop where
  ex : ∃ a c, G bb = some ⟨.t 44, [.slice a l.length c]⟩ ∧ BB w0 H G a c l
  g : Grow w0 H G
  n : H bb = none
  s : w0.heap.size ≤ bb
/-- What stays where the bytes grow. -/
def Kept (bb : Nat) (G G' : Heap) : Prop := ∀ d z, G d = some z → d ≠ bb → z.ty ≠ .t 5 → G' d = some z
theorem Kept.refl {bb : Nat} {G : Heap} : Kept bb G G := fun _ _ h _ _ => h
theorem Kept.trans {bb : Nat} {G1 G2 G3 : Heap} (a : Kept bb G1 G2) (b : Kept bb G2 G3) : Kept bb G1 G3 := fun d z h1 h2 h3 => b d z (a d z h1 h2 h3) h2 h3
/- code Encode 1 -/
def M42 : MC :=
  .any [(true, 0, [], ⟨(some 3), .ld1 (.tmp 1), none⟩),
    (false, 1, [0], ⟨(some 4), .mv (.tmp 0), none⟩),
    (false, 2, [0], ⟨(some 5), .conv .u32 (.tmp 4), none⟩),
    (false, 3, [0], ⟨(some 6), .call 43 [(.const (.slice none 0 0)), (.tmp 5)], none⟩),
    (false, 4, [], ⟨(some 7), .app 5 1 1 [(.int .u8 0)] (.tmp 3) (.tmp 6), none⟩),
    (false, 5, [], ⟨none, .st1 (.tmp 1) (.tmp 7), none⟩)]
theorem k42 : fnOk Try.prog 42 = some (M42, [], 8) := by kernel_rfl

theorem c_enc1 {bb : Nat} {l : List Int} {x : Int} (hS : EnSt w0 H G bb l) (hl : l.length ≤ 1000000000)
    (h : ∀ G', EnSt w0 H G' bb (l ++ low4 x) → Kept bb G G' → K (.tuple #[]) G') : HCalls Try.prog w0 42 [.int .i64 x, .pointer (some ⟨bb, 0, none⟩)] G K := by
  obtain ⟨⟨a, c, h1, hB⟩, hg, hn, hs⟩ := hS
  have hp := fun (G : Heap) (K : Value → Heap → Prop) => c_Put32 (w0 := w0) (H := G) (K := K) (IntKind.u32.wrap x) (u32_in x)
  rw [low4_wrap] at hp
  have hr : rd1 w0 G bb 0 = some (.slice a l.length c) := by unfold rd1; rw [h1]; rfl
  obtain ⟨y, ey⟩ : ∃ y, IntKind.u32.wrap x = y := ⟨_, rfl⟩
  simp only [ey] at hp
  replace hp : Keep _ := hp
  replace h : Keep _ := h
  refine HL.hc k42 999 ?_; unfold M42
  (all_goals (try simp only [Sq,Sr,Sh,Si,Sl,Bu,Bb,Bd,Bc,Bw,Bn,Int.reduceAdd,Int.reduceSub,Int.reduceMul,Int.reduceTDiv,Int.reduceTMod,Int.reduceMod,Int.reduceDiv,Nat.reduceLT,Nat.reduceEqDiff,Sa,Sb,Sc,Sd,Se,Sf,Sg,Int.reduceLE,Int.reduceLT,Int.reduceToNat,Int.reduceNeg,Int.reduceEq,Nat.reduceLeDiff,Nat.reducePow,Int.reducePow,reduceIte,Nat.reduceSub,Nat.reduceAdd,Nat.reduceMul,putAt,ceq,List.replicate, *])); repeat' ((first | (with_reducible refine fun _ : True => ?_) | refine hp _ _ (fun ra rc G1 hB1 hg1 => ?_)  | (with_reducible refine any_h ?_) | ((first | refine AllocQ_i ?_ | refine AllocO_i ?_); intro bk hb0 hbk; (try simp only [set_none'] at hbk); (try (first | have hbn := Grow.none (by assumption) hbk | have hbn := Grow.none (by assumption) hbk.2 | have hbn := Grow.none (by assumption) hbk.2.2 | have hbn := Grow.none (by assumption) hbk.2.2.2 | have hbn := Grow.none (by assumption) hbk.2.2.2.2 | have hbn := Grow.none (by assumption) hbk.2.2.2.2.2)); (try simp only [set_none'] at hbn); (try (first | have hbm := Grow.none (by assumption) hbn | have hbm := Grow.none (by assumption) hbn.2 | have hbm := Grow.none (by assumption) hbn.2.2 | have hbm := Grow.none (by assumption) hbn.2.2.2 | have hbm := Grow.none (by assumption) hbn.2.2.2.2 | have hbm := Grow.none (by assumption) hbn.2.2.2.2.2)); (try simp only [set_none'] at hbm)) | ((first | refine condS_i ?_ ?_ | refine pick_i ?_ ?_ | refine gS_it ?_ ?_ | refine gS_if ?_ ?_ | refine gP_it ?_ ?_ | refine gP_if ?_ ?_) <;> (intro hc; try simp only [Int.reduceLE,Int.reduceLT,Int.reduceEq,Sn] at hc)) | (refine KP_i (by (repeat' (first | exact Heap.Le.refl _ | (with_reducible refine Le_set2 ?_) | (refine Le_known (by first | (simp only [Heap.set_same, set_ne, ne_eq, not_false_eq_true, *] <;> rfl) | fail) ?_) | (refine Le_fresh (by first | (simp only [*] <;> done) | (simp [set_none', Heap.set_same, set_ne, noneH, *] <;> done) | fail) ?_) | (refine Heap.Le.trans ?_ (Grow.le (by assumption))) | exact Le_none | (refine Le_put ?_ (by first | (simp only [Heap.set_same, set_ne, ne_eq, not_false_eq_true, *] <;> rfl) | fail)) | fail))) ?_) | (with_reducible refine And.intro ?_ ?_)) <;> (try simp only [Sq,Sr,Sh,Si,Sl,Bu,Bb,Bd,Bc,Bw,Bn,Int.reduceAdd,Int.reduceSub,Int.reduceMul,Int.reduceTDiv,Int.reduceTMod,Int.reduceMod,Int.reduceDiv,Nat.reduceLT,Nat.reduceEqDiff,Sa,Sb,Sc,Sd,Se,Sf,Sg,Int.reduceLE,Int.reduceLT,Int.reduceToNat,Int.reduceNeg,Int.reduceEq,Nat.reduceLeDiff,Nat.reducePow,Int.reducePow,reduceIte,Nat.reduceSub,Nat.reduceAdd,Nat.reduceMul,putAt,ceq,List.replicate, *]))
  have hx1 : srd w0 G1 ra (4 * 1) = some ((low4 x).map fun x => .int .u8 x) := hB1.slAt.srd
  have k1 := hg1.some h1
  refine app_bld (H := H) (n := l.length) (cs := l.map fun x => .int .u8 x) (ns := (low4 x).map fun x => .int .u8 x) (hB.grow hg1) (by simp) rfl hx1 rfl (hg.trans hg1) ⟨by omega, by omega⟩ (by simp [low4, Value.oneCell']) fun a2 c2 G2 hB2 hg2 hk2 hc2 => ?_
  have k2 := hk2 _ _ k1 (fun e => by cases e)
  have hB3 : BB w0 H G2 a2 c2 (l ++ low4 x) := by
    unfold BB
    rw [List.map_append]
    exact hB2
  clear hB2 hx1 hB hr
  (all_goals (try simp only [Sq,Sr,Sh,Si,Sl,Bu,Bb,Bd,Bc,Bw,Bn,Int.reduceAdd,Int.reduceSub,Int.reduceMul,Int.reduceTDiv,Int.reduceTMod,Int.reduceMod,Int.reduceDiv,Nat.reduceLT,Nat.reduceEqDiff,Sa,Sb,Sc,Sd,Se,Sf,Sg,Int.reduceLE,Int.reduceLT,Int.reduceToNat,Int.reduceNeg,Int.reduceEq,Nat.reduceLeDiff,Nat.reducePow,Int.reducePow,reduceIte,Nat.reduceSub,Nat.reduceAdd,Nat.reduceMul,putAt,ceq,List.replicate, *])); repeat' ((first | (with_reducible refine fun _ : True => ?_) | (with_reducible refine any_h ?_) | ((first | refine AllocQ_i ?_ | refine AllocO_i ?_); intro bk hb0 hbk; (try simp only [set_none'] at hbk); (try (first | have hbn := Grow.none (by assumption) hbk | have hbn := Grow.none (by assumption) hbk.2 | have hbn := Grow.none (by assumption) hbk.2.2 | have hbn := Grow.none (by assumption) hbk.2.2.2 | have hbn := Grow.none (by assumption) hbk.2.2.2.2 | have hbn := Grow.none (by assumption) hbk.2.2.2.2.2)); (try simp only [set_none'] at hbn); (try (first | have hbm := Grow.none (by assumption) hbn | have hbm := Grow.none (by assumption) hbn.2 | have hbm := Grow.none (by assumption) hbn.2.2 | have hbm := Grow.none (by assumption) hbn.2.2.2 | have hbm := Grow.none (by assumption) hbn.2.2.2.2 | have hbm := Grow.none (by assumption) hbn.2.2.2.2.2)); (try simp only [set_none'] at hbm)) | ((first | refine condS_i ?_ ?_ | refine pick_i ?_ ?_ | refine gS_it ?_ ?_ | refine gS_if ?_ ?_ | refine gP_it ?_ ?_ | refine gP_if ?_ ?_) <;> (intro hc; try simp only [Int.reduceLE,Int.reduceLT,Int.reduceEq,Sn] at hc)) | (refine KP_i (by (repeat' (first | exact Heap.Le.refl _ | (with_reducible refine Le_set2 ?_) | (refine Le_known (by first | (simp only [Heap.set_same, set_ne, ne_eq, not_false_eq_true, *] <;> rfl) | fail) ?_) | (refine Le_fresh (by first | (simp only [*] <;> done) | (simp [set_none', Heap.set_same, set_ne, noneH, *] <;> done) | fail) ?_) | (refine Heap.Le.trans ?_ (Grow.le (by assumption))) | exact Le_none | (refine Le_put ?_ (by first | (simp only [Heap.set_same, set_ne, ne_eq, not_false_eq_true, *] <;> rfl) | fail)) | fail))) ?_) | (with_reducible refine And.intro ?_ ?_)) <;> (try simp only [Sq,Sr,Sh,Si,Sl,Bu,Bb,Bd,Bc,Bw,Bn,Int.reduceAdd,Int.reduceSub,Int.reduceMul,Int.reduceTDiv,Int.reduceTMod,Int.reduceMod,Int.reduceDiv,Nat.reduceLT,Nat.reduceEqDiff,Sa,Sb,Sc,Sd,Se,Sf,Sg,Int.reduceLE,Int.reduceLT,Int.reduceToNat,Int.reduceNeg,Int.reduceEq,Nat.reduceLeDiff,Nat.reducePow,Int.reducePow,reduceIte,Nat.reduceSub,Nat.reduceAdd,Nat.reduceMul,putAt,ceq,List.replicate, *]))
  refine Fin_mk (Heap.Le.refl _) ((show ∀ G', _ from h) _ ⟨⟨a2, c2, ?_, ?_⟩, ?_, hn, hs⟩ ?_)
  · rw [Heap.set_same, List.length_append]
    rfl
  · exact hB3.turn k2 (fun e => by cases e)
  · exact hg2.set hs hn
  · intro d z e1 e2 e3
    rw [Heap.set_other _ _ e2]
    exact hk2 d z (hg1.some e1) (fun e => absurd e e3)
/- code numbers -/
def M41 : MC :=
  .seq (.reg [⟨(some 1), .box 75 (.tmp 0), none⟩,
     ⟨(some 2), .mv (.const .nilFunc), none⟩])
  (.seq (.reg [⟨(some 3), .fn 55 [(.tmp 1)], none⟩,
      ⟨(some 2), .mv (.tmp 3), none⟩])
   (.ret))
theorem k41 : fnOk Try.prog 41 = some (M41, [.t 2], 4) := by kernel_rfl
/- code numbers 1 -/
def M55 : MC :=
  .seq (.any [(true, 0, [], ⟨(some 5), .ld1 (.tmp 1), none⟩),
     (true, 1, [], ⟨(some 6), .nilc (.tmp 5), none⟩),
     (true, 2, [], ⟨(some 7), .fa 0 (.tmp 6), none⟩),
     (true, 3, [], ⟨(some 8), .ld1 (.tmp 1), none⟩),
     (true, 4, [], ⟨(some 9), .nilc (.tmp 8), none⟩),
     (true, 5, [], ⟨(some 10), .fa 1 (.tmp 9), none⟩),
     (true, 6, [], ⟨(some 11), .ld1 (.tmp 1), none⟩),
     (true, 7, [], ⟨(some 12), .nilc (.tmp 11), none⟩),
     (true, 8, [], ⟨(some 13), .fa 2 (.tmp 12), none⟩),
     (true, 9, [], ⟨(some 14), .ld1 (.tmp 1), none⟩),
     (true, 10, [], ⟨(some 15), .nilc (.tmp 14), none⟩),
     (true, 11, [], ⟨(some 16), .fa 3 (.tmp 15), none⟩),
     (true, 12, [], ⟨(some 17), .ld1 (.tmp 1), none⟩),
     (true, 13, [], ⟨(some 18), .nilc (.tmp 17), none⟩),
     (true, 14, [], ⟨(some 19), .fa 4 (.tmp 18), none⟩),
     (true, 15, [], ⟨(some 20), .ld1 (.tmp 1), none⟩),
     (true, 16, [], ⟨(some 21), .nilc (.tmp 20), none⟩),
     (true, 17, [], ⟨(some 22), .fa 5 (.tmp 21), none⟩),
     (true, 18, [], ⟨(some 23), .ld1 (.tmp 1), none⟩),
     (true, 19, [], ⟨(some 24), .nilc (.tmp 23), none⟩),
     (true, 20, [], ⟨(some 25), .fa 6 (.tmp 24), none⟩),
     (true, 21, [], ⟨(some 26), .ld1 (.tmp 1), none⟩),
     (true, 22, [], ⟨(some 27), .nilc (.tmp 26), none⟩),
     (true, 23, [], ⟨(some 28), .fa 7 (.tmp 27), none⟩),
     (true, 26, [], ⟨(some 31), .mv (.const (.int .i64 0)), none⟩),
     (false, 24, [26], ⟨(some 29), .bslice 76 8 [(.pointer none), (.pointer none), (.pointer none), (.pointer none), (.pointer none), (.pointer none), (.pointer none), (.pointer none)] [(0, 1, (.tmp 7)), (1, 1, (.tmp 10)), (2, 1, (.tmp 13)), (3, 1, (.tmp 16)), (4, 1, (.tmp 19)), (5, 1, (.tmp 22)), (6, 1, (.tmp 25)), (7, 1, (.tmp 28))], none⟩),
     (false, 25, [26], ⟨(some 30), .len (.tmp 29), none⟩)])
  (.block 0 (.loop (.seq (.reg [⟨(some 32), .bin .lss (.tmp 31) (.tmp 30), none⟩])
     (.seq (.cond (.tmp 32)
       (.skip)
       (.exit 0))
      (.seq (.block 1 (.seq (.reg [⟨(some 33), .is 1 (.tmp 29) (.tmp 31), none⟩,
            ⟨(some 34), .ld1 (.tmp 33), none⟩,
            ⟨(some 4), .mv (.tmp 34), none⟩])
         (.seq (.reg [⟨(some 35), .mv (.tmp 0), none⟩,
             ⟨(some 36), .mv (.tmp 4), none⟩,
             ⟨(some 37), .yv (.tmp 35) [(.tmp 36)], none⟩,
             ⟨(some 38), .un .not (.tmp 37), none⟩])
          (.cond (.tmp 38)
           (.ret)
           (.skip)))))
       (.reg [⟨(some 39), .bin .add (.tmp 31) (.const (.int .i64 1)), none⟩,
          ⟨(some 31), .mv (.tmp 39), none⟩]))))))
theorem k55 : fnOk Try.prog 55 = some (M55, [], 40) := by kernel_rfl

theorem c_numbers {ib : Nat} (h : ∀ b, w0.heap.size ≤ b → G b = none → K (.func (.func 55) #[] #[.pointer (some ⟨b, 0, none⟩)]) (G.set b ⟨.t 75, [.pointer (some ⟨ib, 0, none⟩)]⟩)) : HCalls Try.prog w0 41 [.pointer (some ⟨ib, 0, none⟩)] G K := by
  refine HL.hc k41 999 ?_; unfold M41
  (all_goals (try simp only [Sq,Sr,Sh,Si,Sl,Bu,Bb,Bd,Bc,Bw,Bn,Int.reduceAdd,Int.reduceSub,Int.reduceMul,Int.reduceTDiv,Int.reduceTMod,Int.reduceMod,Int.reduceDiv,Nat.reduceLT,Nat.reduceEqDiff,Sa,Sb,Sc,Sd,Se,Sf,Sg,Int.reduceLE,Int.reduceLT,Int.reduceToNat,Int.reduceNeg,Int.reduceEq,Nat.reduceLeDiff,Nat.reducePow,Int.reducePow,reduceIte,Nat.reduceSub,Nat.reduceAdd,Nat.reduceMul,putAt,ceq,List.replicate, *])); repeat' ((first | (with_reducible refine fun _ : True => ?_) | (with_reducible refine any_h ?_) | ((first | refine AllocQ_i ?_ | refine AllocO_i ?_); intro bk hb0 hbk; (try simp only [set_none'] at hbk); (try (first | have hbn := Grow.none (by assumption) hbk | have hbn := Grow.none (by assumption) hbk.2 | have hbn := Grow.none (by assumption) hbk.2.2 | have hbn := Grow.none (by assumption) hbk.2.2.2 | have hbn := Grow.none (by assumption) hbk.2.2.2.2 | have hbn := Grow.none (by assumption) hbk.2.2.2.2.2)); (try simp only [set_none'] at hbn); (try (first | have hbm := Grow.none (by assumption) hbn | have hbm := Grow.none (by assumption) hbn.2 | have hbm := Grow.none (by assumption) hbn.2.2 | have hbm := Grow.none (by assumption) hbn.2.2.2 | have hbm := Grow.none (by assumption) hbn.2.2.2.2 | have hbm := Grow.none (by assumption) hbn.2.2.2.2.2)); (try simp only [set_none'] at hbm)) | ((first | refine condS_i ?_ ?_ | refine pick_i ?_ ?_ | refine gS_it ?_ ?_ | refine gS_if ?_ ?_ | refine gP_it ?_ ?_ | refine gP_if ?_ ?_) <;> (intro hc; try simp only [Int.reduceLE,Int.reduceLT,Int.reduceEq,Sn] at hc)) | (refine KP_i (by (repeat' (first | exact Heap.Le.refl _ | (with_reducible refine Le_set2 ?_) | (refine Le_known (by first | (simp only [Heap.set_same, set_ne, ne_eq, not_false_eq_true, *] <;> rfl) | fail) ?_) | (refine Le_fresh (by first | (simp only [*] <;> done) | (simp [set_none', Heap.set_same, set_ne, noneH, *] <;> done) | fail) ?_) | (refine Heap.Le.trans ?_ (Grow.le (by assumption))) | exact Le_none | (refine Le_put ?_ (by first | (simp only [Heap.set_same, set_ne, ne_eq, not_false_eq_true, *] <;> rfl) | fail)) | fail))) ?_) | (with_reducible refine And.intro ?_ ?_)) <;> (try simp only [Sq,Sr,Sh,Si,Sl,Bu,Bb,Bd,Bc,Bw,Bn,Int.reduceAdd,Int.reduceSub,Int.reduceMul,Int.reduceTDiv,Int.reduceTMod,Int.reduceMod,Int.reduceDiv,Nat.reduceLT,Nat.reduceEqDiff,Sa,Sb,Sc,Sd,Se,Sf,Sg,Int.reduceLE,Int.reduceLT,Int.reduceToNat,Int.reduceNeg,Int.reduceEq,Nat.reduceLeDiff,Nat.reducePow,Int.reducePow,reduceIte,Nat.reduceSub,Nat.reduceAdd,Nat.reduceMul,putAt,ceq,List.replicate, *]))
  exact Fin_mk (Heap.Le.refl _) (h _ hb0 hbk)
def ptrs (ib : Nat) : List Value := (List.range 8).map fun j => .pointer (some ⟨ib, j, none⟩)
theorem c_numbers1 {b ib ll : Nat} (I : Nat → Heap → Prop) (hb : G b = some ⟨.t 75, [.pointer (some ⟨ib, 0, none⟩)]⟩) (h0 : ∀ G', Grow w0 G G' → I 0 G')
    (hs : ∀ j G' (K' : Value → Heap → Prop), j < 8 → I j G' → (∀ G'', I (j + 1) G'' → (∀ d z, G' d = some z → z.ty = .t 76 → G'' d = some z) → K' (.bool true) G'') → HRound Try.prog w0 ll [.pointer (some ⟨ib, j, none⟩)] G' K')
    (h : ∀ G', I 8 G' → K (.tuple #[]) G') : HCalls Try.prog w0 55 [.func (.yield ll) #[] #[], .pointer (some ⟨b, 0, none⟩)] G K := by
  have hr : rd1 w0 G b 0 = some (.pointer (some ⟨ib, 0, none⟩)) := by unfold rd1; rw [hb]; rfl
  replace hs : Keep _ := hs
  replace h : Keep _ := h
  replace h0 : Keep _ := h0
  refine HL.hc k55 999 ?_; unfold M55
  (all_goals (try simp only [Sq,Sr,Sh,Si,Sl,Bu,Bb,Bd,Bc,Bw,Bn,Int.reduceAdd,Int.reduceSub,Int.reduceMul,Int.reduceTDiv,Int.reduceTMod,Int.reduceMod,Int.reduceDiv,Nat.reduceLT,Nat.reduceEqDiff,Sa,Sb,Sc,Sd,Se,Sf,Sg,Int.reduceLE,Int.reduceLT,Int.reduceToNat,Int.reduceNeg,Int.reduceEq,Nat.reduceLeDiff,Nat.reducePow,Int.reducePow,reduceIte,Nat.reduceSub,Nat.reduceAdd,Nat.reduceMul,putAt,ceq,List.replicate, *])); repeat' ((first | (with_reducible refine fun _ : True => ?_) | (with_reducible refine any_h ?_) | ((first | refine AllocQ_i ?_ | refine AllocO_i ?_); intro bk hb0 hbk; (try simp only [set_none'] at hbk); (try (first | have hbn := Grow.none (by assumption) hbk | have hbn := Grow.none (by assumption) hbk.2 | have hbn := Grow.none (by assumption) hbk.2.2 | have hbn := Grow.none (by assumption) hbk.2.2.2 | have hbn := Grow.none (by assumption) hbk.2.2.2.2 | have hbn := Grow.none (by assumption) hbk.2.2.2.2.2)); (try simp only [set_none'] at hbn); (try (first | have hbm := Grow.none (by assumption) hbn | have hbm := Grow.none (by assumption) hbn.2 | have hbm := Grow.none (by assumption) hbn.2.2 | have hbm := Grow.none (by assumption) hbn.2.2.2 | have hbm := Grow.none (by assumption) hbn.2.2.2.2 | have hbm := Grow.none (by assumption) hbn.2.2.2.2.2)); (try simp only [set_none'] at hbm)) | ((first | refine condS_i ?_ ?_ | refine pick_i ?_ ?_ | refine gS_it ?_ ?_ | refine gS_if ?_ ?_ | refine gP_it ?_ ?_ | refine gP_if ?_ ?_) <;> (intro hc; try simp only [Int.reduceLE,Int.reduceLT,Int.reduceEq,Sn] at hc)) | (refine KP_i (by (repeat' (first | exact Heap.Le.refl _ | (with_reducible refine Le_set2 ?_) | (refine Le_known (by first | (simp only [Heap.set_same, set_ne, ne_eq, not_false_eq_true, *] <;> rfl) | fail) ?_) | (refine Le_fresh (by first | (simp only [*] <;> done) | (simp [set_none', Heap.set_same, set_ne, noneH, *] <;> done) | fail) ?_) | (refine Heap.Le.trans ?_ (Grow.le (by assumption))) | exact Le_none | (refine Le_put ?_ (by first | (simp only [Heap.set_same, set_ne, ne_eq, not_false_eq_true, *] <;> rfl) | fail)) | fail))) ?_) | (with_reducible refine And.intro ?_ ?_)) <;> (try simp only [Sq,Sr,Sh,Si,Sl,Bu,Bb,Bd,Bc,Bw,Bn,Int.reduceAdd,Int.reduceSub,Int.reduceMul,Int.reduceTDiv,Int.reduceTMod,Int.reduceMod,Int.reduceDiv,Nat.reduceLT,Nat.reduceEqDiff,Sa,Sb,Sc,Sd,Se,Sf,Sg,Int.reduceLE,Int.reduceLT,Int.reduceToNat,Int.reduceNeg,Int.reduceEq,Nat.reduceLeDiff,Nat.reducePow,Int.reducePow,reduceIte,Nat.reduceSub,Nat.reduceAdd,Nat.reduceMul,putAt,ceq,List.replicate, *]))
  have hI0 : I 0 (G.set bk ⟨.t 76, ptrs ib⟩) := (show ∀ G', _ from h0) _ (Grow.set (Grow.refl _) hb0 hbk)
  refine loop_g 32 (fun s : Nat × Value × Heap => [(4, s.2.1), (31, .int .i64 (s.1 : Nat))]) (fun s => s.2.2) (fun s => s.1 ≤ 8 ∧ I s.1 s.2.2 ∧ s.2.2 bk = some ⟨.t 76, ptrs ib⟩) (fun s => 8 - s.1) (0, undef, _) ⟨Nat.zero_le _, hI0, Heap.set_same _ _ _⟩ (Heap.Le.refl _) rfl ?_
  clear hI0 h0 hr hb hbk
  intro ⟨k, v, G1⟩ g ⟨hk, hI, hb⟩
  simp only at hk hI hb
  rcases Nat.lt_or_ge k 8 with hlt | hge
  · have hr : rd1 w0 G1 bk k = some (.pointer (some ⟨ib, k, none⟩)) := by
      unfold rd1
      rw [hb]
      rcases (show k = 0 ∨ k = 1 ∨ k = 2 ∨ k = 3 ∨ k = 4 ∨ k = 5 ∨ k = 6 ∨ k = 7 by omega) with rfl | rfl | rfl | rfl | rfl | rfl | rfl | rfl <;> rfl
    have t0 : (k : Int) < 8 := by omega
    have t6 : IntKind.i64.wrap ((k : Int) + 1) = (k : Int) + 1 := Bw.1 _ (by omega) (by omega)
    replace hb : Keep _ := hb
    (all_goals (try simp only [Sq,Sr,Sh,Si,Sl,Bu,Bb,Bd,Bc,Bw,Bn,Int.reduceAdd,Int.reduceSub,Int.reduceMul,Int.reduceTDiv,Int.reduceTMod,Int.reduceMod,Int.reduceDiv,Nat.reduceLT,Nat.reduceEqDiff,Sa,Sb,Sc,Sd,Se,Sf,Sg,Int.reduceLE,Int.reduceLT,Int.reduceToNat,Int.reduceNeg,Int.reduceEq,Nat.reduceLeDiff,Nat.reducePow,Int.reducePow,reduceIte,Nat.reduceSub,Nat.reduceAdd,Nat.reduceMul,putAt,ceq,List.replicate, *])); repeat' ((first | (with_reducible refine fun _ : True => ?_) | refine hs _ _ _ hlt hI (fun G2 hI2 hk2 => ?_)  | (with_reducible refine any_h ?_) | ((first | refine AllocQ_i ?_ | refine AllocO_i ?_); intro bk hb0 hbk; (try simp only [set_none'] at hbk); (try (first | have hbn := Grow.none (by assumption) hbk | have hbn := Grow.none (by assumption) hbk.2 | have hbn := Grow.none (by assumption) hbk.2.2 | have hbn := Grow.none (by assumption) hbk.2.2.2 | have hbn := Grow.none (by assumption) hbk.2.2.2.2 | have hbn := Grow.none (by assumption) hbk.2.2.2.2.2)); (try simp only [set_none'] at hbn); (try (first | have hbm := Grow.none (by assumption) hbn | have hbm := Grow.none (by assumption) hbn.2 | have hbm := Grow.none (by assumption) hbn.2.2 | have hbm := Grow.none (by assumption) hbn.2.2.2 | have hbm := Grow.none (by assumption) hbn.2.2.2.2 | have hbm := Grow.none (by assumption) hbn.2.2.2.2.2)); (try simp only [set_none'] at hbm)) | ((first | refine condS_i ?_ ?_ | refine pick_i ?_ ?_ | refine gS_it ?_ ?_ | refine gS_if ?_ ?_ | refine gP_it ?_ ?_ | refine gP_if ?_ ?_) <;> (intro hc; try simp only [Int.reduceLE,Int.reduceLT,Int.reduceEq,Sn] at hc)) | (refine KP_i (by (repeat' (first | exact Heap.Le.refl _ | (with_reducible refine Le_set2 ?_) | (refine Le_known (by first | (simp only [Heap.set_same, set_ne, ne_eq, not_false_eq_true, *] <;> rfl) | fail) ?_) | (refine Le_fresh (by first | (simp only [*] <;> done) | (simp [set_none', Heap.set_same, set_ne, noneH, *] <;> done) | fail) ?_) | (refine Heap.Le.trans ?_ (Grow.le (by assumption))) | exact Le_none | (refine Le_put ?_ (by first | (simp only [Heap.set_same, set_ne, ne_eq, not_false_eq_true, *] <;> rfl) | fail)) | fail))) ?_) | (with_reducible refine And.intro ?_ ?_)) <;> (try simp only [Sq,Sr,Sh,Si,Sl,Bu,Bb,Bd,Bc,Bw,Bn,Int.reduceAdd,Int.reduceSub,Int.reduceMul,Int.reduceTDiv,Int.reduceTMod,Int.reduceMod,Int.reduceDiv,Nat.reduceLT,Nat.reduceEqDiff,Sa,Sb,Sc,Sd,Se,Sf,Sg,Int.reduceLE,Int.reduceLT,Int.reduceToNat,Int.reduceNeg,Int.reduceEq,Nat.reduceLeDiff,Nat.reducePow,Int.reducePow,reduceIte,Nat.reduceSub,Nat.reduceAdd,Nat.reduceMul,putAt,ceq,List.replicate, *]))
    exact Round_mk (k + 1, _, G2) ⟨hlt, hI2, hk2 _ _ hb rfl⟩ (by simp only; omega) (Heap.Le.refl _) rfl rfl
  · obtain rfl : k = 8 := by omega
    have t0 : ¬ ((8 : Nat) : Int) < 8 := by omega
    (all_goals (try simp only [Sq,Sr,Sh,Si,Sl,Bu,Bb,Bd,Bc,Bw,Bn,Int.reduceAdd,Int.reduceSub,Int.reduceMul,Int.reduceTDiv,Int.reduceTMod,Int.reduceMod,Int.reduceDiv,Nat.reduceLT,Nat.reduceEqDiff,Sa,Sb,Sc,Sd,Se,Sf,Sg,Int.reduceLE,Int.reduceLT,Int.reduceToNat,Int.reduceNeg,Int.reduceEq,Nat.reduceLeDiff,Nat.reducePow,Int.reducePow,reduceIte,Nat.reduceSub,Nat.reduceAdd,Nat.reduceMul,putAt,ceq,List.replicate, *])); repeat' ((first | (with_reducible refine fun _ : True => ?_) | (with_reducible refine any_h ?_) | ((first | refine AllocQ_i ?_ | refine AllocO_i ?_); intro bk hb0 hbk; (try simp only [set_none'] at hbk); (try (first | have hbn := Grow.none (by assumption) hbk | have hbn := Grow.none (by assumption) hbk.2 | have hbn := Grow.none (by assumption) hbk.2.2 | have hbn := Grow.none (by assumption) hbk.2.2.2 | have hbn := Grow.none (by assumption) hbk.2.2.2.2 | have hbn := Grow.none (by assumption) hbk.2.2.2.2.2)); (try simp only [set_none'] at hbn); (try (first | have hbm := Grow.none (by assumption) hbn | have hbm := Grow.none (by assumption) hbn.2 | have hbm := Grow.none (by assumption) hbn.2.2 | have hbm := Grow.none (by assumption) hbn.2.2.2 | have hbm := Grow.none (by assumption) hbn.2.2.2.2 | have hbm := Grow.none (by assumption) hbn.2.2.2.2.2)); (try simp only [set_none'] at hbm)) | ((first | refine condS_i ?_ ?_ | refine pick_i ?_ ?_ | refine gS_it ?_ ?_ | refine gS_if ?_ ?_ | refine gP_it ?_ ?_ | refine gP_if ?_ ?_) <;> (intro hc; try simp only [Int.reduceLE,Int.reduceLT,Int.reduceEq,Sn] at hc)) | (refine KP_i (by (repeat' (first | exact Heap.Le.refl _ | (with_reducible refine Le_set2 ?_) | (refine Le_known (by first | (simp only [Heap.set_same, set_ne, ne_eq, not_false_eq_true, *] <;> rfl) | fail) ?_) | (refine Le_fresh (by first | (simp only [*] <;> done) | (simp [set_none', Heap.set_same, set_ne, noneH, *] <;> done) | fail) ?_) | (refine Heap.Le.trans ?_ (Grow.le (by assumption))) | exact Le_none | (refine Le_put ?_ (by first | (simp only [Heap.set_same, set_ne, ne_eq, not_false_eq_true, *] <;> rfl) | fail)) | fail))) ?_) | (with_reducible refine And.intro ?_ ?_)) <;> (try simp only [Sq,Sr,Sh,Si,Sl,Bu,Bb,Bd,Bc,Bw,Bn,Int.reduceAdd,Int.reduceSub,Int.reduceMul,Int.reduceTDiv,Int.reduceTMod,Int.reduceMod,Int.reduceDiv,Nat.reduceLT,Nat.reduceEqDiff,Sa,Sb,Sc,Sd,Se,Sf,Sg,Int.reduceLE,Int.reduceLT,Int.reduceToNat,Int.reduceNeg,Int.reduceEq,Nat.reduceLeDiff,Nat.reducePow,Int.reducePow,reduceIte,Nat.reduceSub,Nat.reduceAdd,Nat.reduceMul,putAt,ceq,List.replicate, *]))
    exact Fin_mk (Heap.Le.refl _) ((show ∀ G', _ from h) _ hI)
end Go.Proofs.Ytndgmnmnpfblmaa
