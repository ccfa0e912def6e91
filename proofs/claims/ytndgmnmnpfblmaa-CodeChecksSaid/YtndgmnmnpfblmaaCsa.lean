/- Is a code checked, encoded and gone through as the document says (layer 16)? -/
import Derived.Test.YtndgmnmnpfblmaaCdq
import Derived.Test.YtndgmnmnpfblmaaCdj
import Derived.Test.YtndgmnmnpfblmaaCrs
import Derived.Test.YtndgmnmnpfblmaaCrx
import Derived.Test.YtndgmnmnpfblmaaCry
import Derived.Test.YtndgmnmnpfblmaaCrz
import Derived.Test.YtndgmnmnpfblmaaCdy
set_option linter.unusedSimpArgs false
set_option linter.unusedVariables false
set_option maxRecDepth 100000
set_option maxHeartbeats 4000000
namespace Go.Proofs.Ytndgmnmnpfblmaa
open Go.HL Go.RowKit Pb
variable {w0 : World} {H G : Heap} {K : Value → Heap → Prop}

theorem kpz {p : Prop} (h : Keep p) : p := h
theorem mayP_few {c : Cd} {b : Nat} {a : Option Addr} {k : Nat} : mayP ({ c.few b with adr := a, cap := k } : Cd) ↔ mayP (c.few 0) := Iff.rfl
theorem low4_b (x : Int) : ∀ b ∈ low4 x, 0 ≤ b ∧ b ≤ 255 := by
  unfold low4
  intro b hb
  simp only [List.mem_cons, List.not_mem_nil, or_false] at hb
  omega
theorem bytesL_b (l : List Int) : ∀ b ∈ bytesL l, 0 ≤ b ∧ b ≤ 255 := by
  unfold bytesL
  intro b hb
  obtain ⟨m, hm, hb⟩ := List.mem_flatten.1 hb
  obtain ⟨x, -, rfl⟩ := List.mem_map.1 hm
  exact low4_b x b hb
theorem hcalls_heap {P : Program} {f : FuncId} {args : List Value} (h : ∀ H0, H0 = H → HCalls P w0 f args H0 K) : HCalls P w0 f args H K := h H rfl
theorem fcz {c : Cd} {b : Nat} {z : List Value} {G : Heap} (h : G b = some ⟨.t 30, rowsC (c.is.take 4097) ++ z⟩) : CdAt w0 G (c.few b) :=
  ⟨SlAt.blk h, by unfold maxLen Cd.few; simp only [List.length_take]; omega, by unfold Cd.few; simp only; omega⟩
theorem few_le (c : Cd) (b : Nat) : (c.few b).is.length ≤ 4097 := by unfold Cd.few; simp only [List.length_take]; omega
/- paintboxlaw16 checks -/
def M26 : MC :=
  .seq (.reg [⟨(some 1), .box 34 (.tmp 0), none⟩,
 ⟨(some 2), .mv (.const (.bool false)), none⟩])
 (.seq (.reg [⟨(some 11), .ldn 6 (.tmp 1), none⟩,
 ⟨(some 12), .call 14 [(.tmp 11)], none⟩,
 ⟨none, .stn 6 (.tmp 1) (.tmp 12), none⟩])
 (.seq (.reg [⟨(some 13), .ldn 6 (.tmp 1), none⟩,
 ⟨(some 14), .call 17 [(.tmp 13)], none⟩,
 ⟨(some 3), .alloc 34 [(.int .i64 0), (.slice none 0 0), (.int .i64 0), (.int .i64 0), (.int .i64 0), (.int .i64 0)], none⟩,
 ⟨none, .stn 6 (.tmp 3) (.tmp 14), none⟩])
 (.seq (.reg [⟨(some 15), .ldn 6 (.tmp 3), none⟩,
 ⟨(some 16), .call 37 [(.tmp 15)], none⟩,
 ⟨(some 4), .mv (.tmp 16), none⟩])
 (.seq (.reg [⟨(some 17), .ldn 6 (.tmp 1), none⟩,
 ⟨(some 18), .call 18 [(.tmp 17)], none⟩,
 ⟨(some 5), .mv (.tmp 18), none⟩])
 (.seq (.reg [⟨(some 20), .ldn 6 (.tmp 1), none⟩,
 ⟨(some 21), .call 24 [(.tmp 20)], none⟩,
 ⟨(some 19), .mv (.tmp 21), none⟩,
 ⟨(some 22), .ext 0 (.tmp 19), none⟩,
 ⟨(some 23), .ext 1 (.tmp 19), none⟩,
 ⟨(some 6), .mv (.tmp 22), none⟩,
 ⟨(some 7), .mv (.tmp 23), none⟩])
 (.seq (.reg [⟨(some 24), .ldn 6 (.tmp 1), none⟩,
 ⟨(some 25), .call 25 [(.tmp 24)], none⟩,
 ⟨(some 8), .mv (.tmp 25), none⟩])
 (.seq (.seq (.reg [⟨(some 26), .ldn 6 (.tmp 1), none⟩,
 ⟨(some 27), .ldn 6 (.tmp 3), none⟩,
 ⟨(some 28), .call 44 [(.tmp 26), (.tmp 27)], none⟩,
 ⟨(some 29), .un .not (.tmp 28), none⟩])
 (.cond (.tmp 29)
 (.seq (.reg [⟨(some 2), .mv (.const (.bool false)), none⟩])
 (.ret))
 (.skip)))
 (.seq (.seq (.reg [⟨(some 30), .mv (.tmp 4), none⟩,
 ⟨(some 31), .un .not (.tmp 30), none⟩])
 (.cond (.tmp 31)
 (.seq (.reg [⟨(some 32), .mv (.tmp 5), none⟩,
 ⟨(some 33), .bin .eql (.tmp 32) (.const (.int .i64 260)), none⟩,
 ⟨(some 34), .mv (.tmp 33), none⟩,
 ⟨(some 35), .mv (.tmp 7), (some (34, true))⟩,
 ⟨(some 36), .bin .eql (.tmp 35) (.const (.int .i64 260)), (some (34, true))⟩,
 ⟨(some 37), .pick (.tmp 34) (.tmp 36) (.const (.bool false)), none⟩,
 ⟨(some 38), .mv (.tmp 37), none⟩,
 ⟨(some 39), .mv (.tmp 6), (some (38, true))⟩,
 ⟨(some 40), .len (.tmp 39), (some (38, true))⟩,
 ⟨(some 41), .bin .eql (.tmp 40) (.const (.int .i64 0)), (some (38, true))⟩,
 ⟨(some 42), .pick (.tmp 38) (.tmp 41) (.const (.bool false)), none⟩,
 ⟨(some 43), .mv (.tmp 42), none⟩,
 ⟨(some 44), .mv (.tmp 8), (some (43, true))⟩,
 ⟨(some 45), .len (.tmp 44), (some (43, true))⟩,
 ⟨(some 46), .bin .eql (.tmp 45) (.const (.int .i64 0)), (some (43, true))⟩,
 ⟨(some 47), .pick (.tmp 43) (.tmp 46) (.const (.bool false)), none⟩,
 ⟨(some 2), .mv (.tmp 47), none⟩])
 (.ret))
 (.skip)))
 (.seq (.reg [⟨(some 48), .ldn 6 (.tmp 3), none⟩,
 ⟨(some 49), .call 45 [(.tmp 48)], none⟩,
 ⟨(some 9), .mv (.tmp 49), none⟩])
 (.seq (.seq (.reg [⟨(some 50), .mv (.tmp 5), none⟩,
 ⟨(some 51), .bin .neq (.tmp 50) (.const (.int .i64 0)), none⟩,
 ⟨(some 52), .mv (.tmp 51), none⟩,
 ⟨(some 53), .mv (.tmp 7), (some (52, false))⟩,
 ⟨(some 54), .bin .neq (.tmp 53) (.const (.int .i64 0)), (some (52, false))⟩,
 ⟨(some 55), .pick (.tmp 52) (.const (.bool true)) (.tmp 54), none⟩,
 ⟨(some 56), .mv (.tmp 55), none⟩,
 ⟨(some 57), .mv (.tmp 6), (some (56, false))⟩,
 ⟨(some 58), .ldn 6 (.tmp 3), (some (56, false))⟩,
 ⟨(some 59), .call 46 [(.tmp 58)], (some (56, false))⟩,
 ⟨(some 60), .call 23 [(.tmp 57), (.tmp 59)], (some (56, false))⟩,
 ⟨(some 61), .un .not (.tmp 60), (some (56, false))⟩,
 ⟨(some 62), .pick (.tmp 56) (.const (.bool true)) (.tmp 61), none⟩,
 ⟨(some 63), .mv (.tmp 62), none⟩,
 ⟨(some 64), .mv (.tmp 8), (some (63, false))⟩,
 ⟨(some 65), .len (.tmp 64), (some (63, false))⟩,
 ⟨(some 66), .mv (.tmp 9), (some (63, false))⟩,
 ⟨(some 67), .len (.tmp 66), (some (63, false))⟩,
 ⟨(some 68), .bin .neq (.tmp 65) (.tmp 67), (some (63, false))⟩,
 ⟨(some 69), .pick (.tmp 63) (.const (.bool true)) (.tmp 68), none⟩])
 (.cond (.tmp 69)
 (.seq (.reg [⟨(some 2), .mv (.const (.bool false)), none⟩])
 (.ret))
 (.skip)))
 (.seq (.seq (.reg [⟨(some 70), .mv (.tmp 9), none⟩,
 ⟨(some 71), .len (.tmp 70), none⟩,
 ⟨(some 72), .mv (.const (.int .i64 0)), none⟩])
 (.block 0 (.loop (.seq (.reg [⟨(some 73), .bin .lss (.tmp 72) (.tmp 71), none⟩])
 (.seq (.cond (.tmp 73)
 (.skip)
 (.exit 0))
 (.seq (.block 1 (.seq (.reg [⟨(some 74), .mv (.tmp 72), none⟩,
 ⟨(some 10), .mv (.tmp 74), none⟩])
 (.seq (.any [(true, 0, [], ⟨(some 75), .mv (.tmp 8), none⟩),
 (true, 1, [], ⟨(some 76), .mv (.tmp 10), none⟩),
 (true, 2, [], ⟨(some 77), .is 1 (.tmp 75) (.tmp 76), none⟩),
 (true, 3, [], ⟨(some 78), .ld1 (.tmp 77), none⟩),
 (true, 4, [], ⟨(some 79), .mv (.tmp 9), none⟩),
 (false, 5, [0, 1, 2, 3, 4], ⟨(some 80), .mv (.tmp 10), none⟩),
 (false, 6, [0, 1, 2, 3], ⟨(some 81), .is 1 (.tmp 79) (.tmp 80), none⟩),
 (false, 7, [0, 1, 2, 3], ⟨(some 82), .ld1 (.tmp 81), none⟩),
 (false, 8, [], ⟨(some 83), .eqb true (.tmp 78) (.tmp 82), none⟩)])
 (.cond (.tmp 83)
 (.seq (.reg [⟨(some 2), .mv (.const (.bool false)), none⟩])
 (.ret))
 (.skip)))))
 (.reg [⟨(some 84), .bin .add (.tmp 72) (.const (.int .i64 1)), none⟩,
 ⟨(some 72), .mv (.tmp 84), none⟩])))))))
 (.seq (.reg [⟨(some 2), .mv (.const (.bool true)), none⟩])
 (.ret)))))))))))))
theorem k26 : fnOk Try.prog 26 = some (M26, [.t 2], 85) := by kernel_rfl

set_option maxHeartbeats 8000000 in
theorem c_checks0 (c : Cd) (hc : CdAt w0 H c) (hI : ∀ x ∈ (c.few 0).nums, -9223372036854775808 ≤ x ∧ x ≤ 9223372036854775807) (h : K (.bool true) H) : HCalls Try.prog w0 26 [c.v] H K := by
  have h1 := fun (G : Heap) (K : Value → Heap → Prop) (g : Grow w0 H G) (h : ∀ b G', Grow w0 G G' → FewAt w0 G G' c b → K (c.few b).v G') => c_few (w0 := w0) (H := G) (K := K) c (hc.grow g) (fun b G' hF => h b G' hF.g hF)
  replace h1 : Keep _ := h1
  replace h : Keep _ := h
  unfold Cd.v
  refine HL.hc k26 999 ?_; unfold M26
  (all_goals (try simp only [Sq,Sr,Sh,Si,Sl,Bu,Bb,Bd,Bc,Bw,Bn,Int.reduceAdd,Int.reduceSub,Int.reduceMul,Int.reduceTDiv,Int.reduceTMod,Int.reduceMod,Int.reduceDiv,Nat.reduceLT,Nat.reduceEqDiff,Sa,Sb,Sc,Sd,Se,Sf,Sg,Int.reduceLE,Int.reduceLT,Int.reduceToNat,Int.reduceNeg,Int.reduceEq,Nat.reduceLeDiff,Nat.reducePow,Int.reducePow,reduceIte,Nat.reduceSub,Nat.reduceAdd,Nat.reduceMul,putAt,ceq,List.replicate, *])); repeat' ((first | (with_reducible refine fun _ : True => ?_) | refine h1 _ _ (by (repeat' (first | exact Grow.refl _ | assumption | (refine Grow_known (by first | (simp only [Heap.set_same, set_ne, ne_eq, not_false_eq_true, *] <;> rfl) | fail) ?_) | (refine Grow.set ?_ (by assumption) (by first | (simp only [*] <;> done) | (simp [set_none', Heap.set_same, set_ne, noneH, *] <;> done) | fail)) | (refine Grow.trans ?_ (by assumption))))) (fun b G hg hF => ?_)  | ((first | refine AllocQ_i ?_ | refine AllocO_i ?_); intro bk hb0 hbk; (try simp only [set_none'] at hbk)) | ((first | refine condS_i ?_ ?_ | refine pick_i ?_ ?_ | refine gS_it ?_ ?_ | refine gS_if ?_ ?_ | refine gP_it ?_ ?_ | refine gP_if ?_ ?_) <;> (intro hc; try simp only [Int.reduceLE,Int.reduceLT,Int.reduceEq,Sn] at hc)) | (refine KP_i (by (repeat' (first | exact Heap.Le.refl _ | (with_reducible refine Le_set2 ?_) | (refine Le_known (by first | (simp only [Heap.set_same, set_ne, ne_eq, not_false_eq_true, *] <;> rfl) | fail) ?_) | (refine Le_fresh (by first | (simp only [*] <;> done) | (simp [set_none', Heap.set_same, set_ne, noneH, *] <;> done) | fail) ?_) | (refine Heap.Le.trans ?_ (Grow.le (by assumption))) | exact Le_none | (refine Le_put ?_ (by first | (simp only [Heap.set_same, set_ne, ne_eq, not_false_eq_true, *] <;> rfl) | fail)) | fail))) ?_) | (with_reducible refine And.intro ?_ ?_)) <;> (try simp only [Sq,Sr,Sh,Si,Sl,Bu,Bb,Bd,Bc,Bw,Bn,Int.reduceAdd,Int.reduceSub,Int.reduceMul,Int.reduceTDiv,Int.reduceTMod,Int.reduceMod,Int.reduceDiv,Nat.reduceLT,Nat.reduceEqDiff,Sa,Sb,Sc,Sd,Se,Sf,Sg,Int.reduceLE,Int.reduceLT,Int.reduceToNat,Int.reduceNeg,Int.reduceEq,Nat.reduceLeDiff,Nat.reducePow,Int.reducePow,reduceIte,Nat.reduceSub,Nat.reduceAdd,Nat.reduceMul,putAt,ceq,List.replicate, *]))
  have g2 : Grow w0 H G := Grow.trans (by (repeat' (first | exact Grow.refl _ | assumption | (refine Grow.set ?_ (by assumption) (by first | exact (by simp only [*]) | exact (by simp [set_none', *]) | exact Grow.none (by assumption) (by simp [set_none', *]))) | (refine Grow.trans ?_ (by assumption))))) hg
  obtain ⟨z, hz⟩ := hF.at_
  have k2 : G bk = some _ := hg.some (by simp only [Heap.set_same, set_ne, ne_eq, not_false_eq_true, *] <;> rfl)
  have hnb := hF.hn
  simp only [set_none'] at hnb
  rw [show (c.few b).v = .agg #[.int .i64 c.st, .slice (some ⟨b, 0, none⟩) (c.is.take 4097).length ((c.is.take 4097).length + 2), .int .i64 c.rg, .int .i64 c.ab, .int .i64 c.un, .int .i64 c.va] from rfl]
  clear hF hg h1 hc
  rw [root1 k2]
  (all_goals (try simp only [Sq,Sr,Sh,Si,Sl,Bu,Bb,Bd,Bc,Bw,Bn,Int.reduceAdd,Int.reduceSub,Int.reduceMul,Int.reduceTDiv,Int.reduceTMod,Int.reduceMod,Int.reduceDiv,Nat.reduceLT,Nat.reduceEqDiff,Sa,Sb,Sc,Sd,Se,Sf,Sg,Int.reduceLE,Int.reduceLT,Int.reduceToNat,Int.reduceNeg,Int.reduceEq,Nat.reduceLeDiff,Nat.reducePow,Int.reducePow,reduceIte,Nat.reduceSub,Nat.reduceAdd,Nat.reduceMul,putAt,ceq,List.replicate, *])); repeat' ((first | (with_reducible refine fun _ : True => ?_) | ((first | refine AllocQ_i ?_ | refine AllocO_i ?_); intro bk hb0 hbk; (try simp only [set_none'] at hbk)) | ((first | refine condS_i ?_ ?_ | refine pick_i ?_ ?_ | refine gS_it ?_ ?_ | refine gS_if ?_ ?_ | refine gP_it ?_ ?_ | refine gP_if ?_ ?_) <;> (intro hc; try simp only [Int.reduceLE,Int.reduceLT,Int.reduceEq,Sn] at hc)) | (refine KP_i (by (repeat' (first | exact Heap.Le.refl _ | (with_reducible refine Le_set2 ?_) | (refine Le_known (by first | (simp only [Heap.set_same, set_ne, ne_eq, not_false_eq_true, *] <;> rfl) | fail) ?_) | (refine Le_fresh (by first | (simp only [*] <;> done) | (simp [set_none', Heap.set_same, set_ne, noneH, *] <;> done) | fail) ?_) | (refine Heap.Le.trans ?_ (Grow.le (by assumption))) | exact Le_none | (refine Le_put ?_ (by first | (simp only [Heap.set_same, set_ne, ne_eq, not_false_eq_true, *] <;> rfl) | fail)) | fail))) ?_) | (with_reducible refine And.intro ?_ ?_)) <;> (try simp only [Sq,Sr,Sh,Si,Sl,Bu,Bb,Bd,Bc,Bw,Bn,Int.reduceAdd,Int.reduceSub,Int.reduceMul,Int.reduceTDiv,Int.reduceTMod,Int.reduceMod,Int.reduceDiv,Nat.reduceLT,Nat.reduceEqDiff,Sa,Sb,Sc,Sd,Se,Sf,Sg,Int.reduceLE,Int.reduceLT,Int.reduceToNat,Int.reduceNeg,Int.reduceEq,Nat.reduceLeDiff,Nat.reducePow,Int.reducePow,reduceIte,Nat.reduceSub,Nat.reduceAdd,Nat.reduceMul,putAt,ceq,List.replicate, *]))
  have nb : b ≠ bk := hnb.1.1
  refine hcalls_heap ?_
  intro G3 eH
  have q2 : G3 bk = some _ := at_of eH (Heap.set_same _ _ _)
  have q3 : G3 b = some ⟨.t 30, _⟩ := at_of eH ((Heap.set_other _ _ nb).trans hz)
  have q5 : Grow w0 H G3 := by rw [eH]; exact g2.set hb0 hbk
  have hA : CdAt w0 G3 (c.few b) := fcz q3
  clear eH hbk hb0 hnb k2 hz g2 nb
  obtain ⟨bx, rfl⟩ : ∃ bx, bx = bk := ⟨_, rfl⟩
  have hCp := fun (K : Value → Heap → Prop) (h : ∀ a k G, Bld w0 G3 G a k 16 30 (rowsC (c.is.take 4097)) → (c.is.take 4097).length ≤ k → Grow w0 G3 G → K (.agg #[.int .i64 c.st, .slice a (c.is.take 4097).length k, .int .i64 c.rg, .int .i64 c.ab, .int .i64 c.un, .int .i64 c.va]) G) => c_copied (w0 := w0) (H := G3) (K := K) (c.few b) hA (few_le c b) (fun a k G hB hk hg => h a k G hB hk hg)
  rw [show (c.few b).v = .agg #[.int .i64 c.st, .slice (some ⟨b, 0, none⟩) (c.is.take 4097).length ((c.is.take 4097).length + 2), .int .i64 c.rg, .int .i64 c.ab, .int .i64 c.un, .int .i64 c.va] from rfl] at hCp
  replace hCp : Keep _ := hCp
  clear hA
  (all_goals (try simp only [Sq,Sr,Sh,Si,Sl,Bu,Bb,Bd,Bc,Bw,Bn,Int.reduceAdd,Int.reduceSub,Int.reduceMul,Int.reduceTDiv,Int.reduceTMod,Int.reduceMod,Int.reduceDiv,Nat.reduceLT,Nat.reduceEqDiff,Sa,Sb,Sc,Sd,Se,Sf,Sg,Int.reduceLE,Int.reduceLT,Int.reduceToNat,Int.reduceNeg,Int.reduceEq,Nat.reduceLeDiff,Nat.reducePow,Int.reducePow,reduceIte,Nat.reduceSub,Nat.reduceAdd,Nat.reduceMul,putAt,ceq,List.replicate, *])); repeat' ((first | (with_reducible refine fun _ : True => ?_) | refine hCp _ (fun a k G4 hB hka hg4 => ?_)  | (with_reducible refine any_h ?_) | ((first | refine AllocQ_i ?_ | refine AllocO_i ?_); intro bk hb0 hbk; (try simp only [set_none'] at hbk)) | ((first | refine condS_i ?_ ?_ | refine pick_i ?_ ?_ | refine gS_it ?_ ?_ | refine gS_if ?_ ?_ | refine gP_it ?_ ?_ | refine gP_if ?_ ?_) <;> (intro hc; try simp only [Int.reduceLE,Int.reduceLT,Int.reduceEq,Sn] at hc)) | (refine KP_i (by (repeat' (first | exact Heap.Le.refl _ | (with_reducible refine Le_set2 ?_) | (refine Le_known (by first | (simp only [Heap.set_same, set_ne, ne_eq, not_false_eq_true, *] <;> rfl) | fail) ?_) | (refine Le_fresh (by first | (simp only [*] <;> done) | (simp [set_none', Heap.set_same, set_ne, noneH, *] <;> done) | fail) ?_) | (refine Heap.Le.trans ?_ (Grow.le (by assumption))) | exact Le_none | (refine Le_put ?_ (by first | (simp only [Heap.set_same, set_ne, ne_eq, not_false_eq_true, *] <;> rfl) | fail)) | fail))) ?_) | (with_reducible refine And.intro ?_ ?_)) <;> (try simp only [Sq,Sr,Sh,Si,Sl,Bu,Bb,Bd,Bc,Bw,Bn,Int.reduceAdd,Int.reduceSub,Int.reduceMul,Int.reduceTDiv,Int.reduceTMod,Int.reduceMod,Int.reduceDiv,Nat.reduceLT,Nat.reduceEqDiff,Sa,Sb,Sc,Sd,Se,Sf,Sg,Int.reduceLE,Int.reduceLT,Int.reduceToNat,Int.reduceNeg,Int.reduceEq,Nat.reduceLeDiff,Nat.reducePow,Int.reducePow,reduceIte,Nat.reduceSub,Nat.reduceAdd,Nat.reduceMul,putAt,ceq,List.replicate, *]))
  have k1 := hg4.some q2
  have g4 := q5.trans hg4
  have z4 := hg4.some q3
  have hne := blk_ne k1
  have hnz := blk_ne z4
  clear hCp q2 q3 q5 hg4
  replace k1 : Keep _ := k1
  replace z4 : Keep _ := z4
  (all_goals (try simp only [Sq,Sr,Sh,Si,Sl,Bu,Bb,Bd,Bc,Bw,Bn,Int.reduceAdd,Int.reduceSub,Int.reduceMul,Int.reduceTDiv,Int.reduceTMod,Int.reduceMod,Int.reduceDiv,Nat.reduceLT,Nat.reduceEqDiff,Sa,Sb,Sc,Sd,Se,Sf,Sg,Int.reduceLE,Int.reduceLT,Int.reduceToNat,Int.reduceNeg,Int.reduceEq,Nat.reduceLeDiff,Nat.reducePow,Int.reducePow,reduceIte,Nat.reduceSub,Nat.reduceAdd,Nat.reduceMul,putAt,ceq,List.replicate, *])); repeat' ((first | (with_reducible refine fun _ : True => ?_) | ((first | refine AllocQ_i ?_ | refine AllocO_i ?_); intro bk hb0 hbk; (try simp only [set_none'] at hbk)) | ((first | refine condS_i ?_ ?_ | refine pick_i ?_ ?_ | refine gS_it ?_ ?_ | refine gS_if ?_ ?_ | refine gP_it ?_ ?_ | refine gP_if ?_ ?_) <;> (intro hc; try simp only [Int.reduceLE,Int.reduceLT,Int.reduceEq,Sn] at hc)) | (refine KP_i (by (repeat' (first | exact Heap.Le.refl _ | (with_reducible refine Le_set2 ?_) | (refine Le_known (by first | (simp only [Heap.set_same, set_ne, ne_eq, not_false_eq_true, *] <;> rfl) | fail) ?_) | (refine Le_fresh (by first | (simp only [*] <;> done) | (simp [set_none', Heap.set_same, set_ne, noneH, *] <;> done) | fail) ?_) | (refine Heap.Le.trans ?_ (Grow.le (by assumption))) | exact Le_none | (refine Le_put ?_ (by first | (simp only [Heap.set_same, set_ne, ne_eq, not_false_eq_true, *] <;> rfl) | fail)) | fail))) ?_) | (with_reducible refine And.intro ?_ ?_)) <;> (try simp only [Sq,Sr,Sh,Si,Sl,Bu,Bb,Bd,Bc,Bw,Bn,Int.reduceAdd,Int.reduceSub,Int.reduceMul,Int.reduceTDiv,Int.reduceTMod,Int.reduceMod,Int.reduceDiv,Nat.reduceLT,Nat.reduceEqDiff,Sa,Sb,Sc,Sd,Se,Sf,Sg,Int.reduceLE,Int.reduceLT,Int.reduceToNat,Int.reduceNeg,Int.reduceEq,Nat.reduceLeDiff,Nat.reducePow,Int.reducePow,reduceIte,Nat.reduceSub,Nat.reduceAdd,Nat.reduceMul,putAt,ceq,List.replicate, *]))
  refine hcalls_heap ?_
  intro G5 eH
  have e3 : G5 bk = some _ := at_of eH (Heap.set_same _ _ _)
  have e1 : G5 bx = some _ := at_of eH ((Heap.set_other _ _ (hne _ hbk).2).trans (kpz k1))
  have z5 : G5 b = some ⟨.t 30, _⟩ := at_of eH ((Heap.set_other _ _ (hnz _ hbk).2).trans (kpz z4))
  have g5 : Grow w0 H G5 := by rw [eH]; exact g4.set hb0 (g4.none hbk)
  have hB5 : SlAt w0 G5 a (rowsC (c.is.take 4097)) := by rw [eH]; exact hB.slAt.grow (Grow.set (Grow.refl _) hb0 hbk)
  clear eH hbk hb0 k1 z4 g4 hne hnz hB
  have hA : CdAt w0 G5 (c.few b) := fcz z5
  have hW : CdAt w0 G5 ({ c.few b with adr := a, cap := k } : Cd) := ⟨hB5, hA.lm, hka⟩
  by_cases hm : mayP (c.few 0)
  · have hMay : ∀ (K : Value → Heap → Prop), K (.bool true) G5 → HCalls Try.prog w0 37 [.agg #[.int .i64 c.st, .slice a (c.is.take 4097).length k, .int .i64 c.rg, .int .i64 c.ab, .int .i64 c.un, .int .i64 c.va]] G5 K := fun K h => r_May ({ c.few b with adr := a, cap := k } : Cd) hW (fun _ => h) (fun n => absurd hm n)
    have hCk : ∀ (K : Value → Heap → Prop), K (.int .i64 0) G5 → HCalls Try.prog w0 18 [.agg #[.int .i64 c.st, .slice (some ⟨b, 0, none⟩) (c.is.take 4097).length ((c.is.take 4097).length + 2), .int .i64 c.rg, .int .i64 c.ab, .int .i64 c.un, .int .i64 c.va]] G5 K := fun K h => c_Check (c.few b) hA (fun _ => h) (fun n => absurd hm n)
    have hEn : ∀ (K : Value → Heap → Prop), (∀ x y G, BB w0 G5 G x y (c.few 0).bytes → Grow w0 G5 G → K (.tuple #[.slice x (c.few 0).bytes.length y, .int .i64 0]) G) → HCalls Try.prog w0 24 [.agg #[.int .i64 c.st, .slice (some ⟨b, 0, none⟩) (c.is.take 4097).length ((c.is.take 4097).length + 2), .int .i64 c.rg, .int .i64 c.ab, .int .i64 c.un, .int .i64 c.va]] G5 K := fun K h => c_Encode (c.few b) hA (fun _ => h) (fun n => absurd hm n)
    have hRc : ∀ G, Grow w0 G5 G → ∀ (K : Value → Heap → Prop), (∀ d G', G' d = some ⟨.t 4, rB (c.is.take 4097) (c.is.take 4097).length⟩ → Grow w0 G G' → K (.slice (some ⟨d, 0, none⟩) ((c.is.take 4097).length + 1) ((c.is.take 4097).length + 1)) G') → HCalls Try.prog w0 25 [.agg #[.int .i64 c.st, .slice (some ⟨b, 0, none⟩) (c.is.take 4097).length ((c.is.take 4097).length + 2), .int .i64 c.rg, .int .i64 c.ab, .int .i64 c.un, .int .i64 c.va]] G K := fun G g K h => c_Reach (c.few b) (hA.grow g) (fun _ => h) (fun n => absurd hm n)
    have hWh : ∀ G, Grow w0 G5 G → ∀ (K : Value → Heap → Prop), K (.bool true) G → HCalls Try.prog w0 44 [.agg #[.int .i64 c.st, .slice (some ⟨b, 0, none⟩) (c.is.take 4097).length ((c.is.take 4097).length + 2), .int .i64 c.rg, .int .i64 c.ab, .int .i64 c.un, .int .i64 c.va], .agg #[.int .i64 c.st, .slice a (c.is.take 4097).length k, .int .i64 c.rg, .int .i64 c.ab, .int .i64 c.un, .int .i64 c.va]] G K := fun G g K h => c_whole c ({ c.few b with adr := a, cap := k } : Cd) b _ (g.some z5) (hW.grow g) ⟨rfl, rfl, rfl, rfl, rfl, rfl⟩ h
    have hRr : ∀ G, Grow w0 G5 G → ∀ (K : Value → Heap → Prop), (∀ d G', G' d = some ⟨.t 4, rB (c.is.take 4097) (c.is.take 4097).length⟩ → Grow w0 G G' → K (.slice (some ⟨d, 0, none⟩) ((c.is.take 4097).length + 1) ((c.is.take 4097).length + 1)) G') → HCalls Try.prog w0 45 [.agg #[.int .i64 c.st, .slice a (c.is.take 4097).length k, .int .i64 c.rg, .int .i64 c.ab, .int .i64 c.un, .int .i64 c.va]] G K := fun G g K h => r_Reach ({ c.few b with adr := a, cap := k } : Cd) (hW.grow g) hm (fun d G' h1 h2 _ _ => h d G' h1 h2)
    have hBy : ∀ G, Grow w0 G5 G → ∀ (K : Value → Heap → Prop), (∀ x y G', BB w0 G G' x y (c.few 0).bytes → Grow w0 G G' → K (.slice x (c.few 0).bytes.length y) G') → HCalls Try.prog w0 46 [.agg #[.int .i64 c.st, .slice a (c.is.take 4097).length k, .int .i64 c.rg, .int .i64 c.ab, .int .i64 c.un, .int .i64 c.va]] G K := fun G g K h => r_Bytes ({ c.few b with adr := a, cap := k } : Cd) (hW.grow g) hm.2.1 hI h
    have hb3 : ∀ x ∈ (c.few 0).bytes, 0 ≤ x ∧ x ≤ 255 := bytesL_b _
    have hn := hm.2.1
    replace hn : (c.is.take 4097).length ≤ 4096 := hn
    have rgt := fun j => rB_get (is := (c.is.take 4097)) (k := (c.is.take 4097).length) (j := j)
    generalize (c.few 0).bytes = B at hEn hBy hb3
    clear hA hW hB5 z5 hm hI z
    generalize (c.is.take 4097) = L at hMay hCk hEn hRc hWh hRr hBy e1 e3 hn rgt hka ⊢
    obtain ⟨n, en⟩ : ∃ n, L.length = n := ⟨_, rfl⟩
    simp only [en] at hMay hCk hEn hRc hWh hRr hBy e1 e3 hn rgt hka ⊢
    generalize reachN L n = R at rgt
    generalize rB L n = V at hRc hRr rgt
    clear en
    have hl5 := g5.le
    have h5 : HL.Fin K (.bool true) G5 := Fin_mk hl5 h
    replace hMay : Keep _ := hMay
    replace hCk : Keep _ := hCk
    replace hEn : Keep _ := hEn
    replace hRc : Keep _ := hRc
    replace hWh : Keep _ := hWh
    replace hRr : Keep _ := hRr
    replace hBy : Keep _ := hBy
    replace rgt : Keep _ := rgt
    replace hb3 : Keep _ := hb3
    replace h5 : Keep _ := h5
    clear h g5 hl5 hka
    obtain ⟨b1, rfl⟩ : ∃ y, y = bx := ⟨_, rfl⟩
    obtain ⟨b3, rfl⟩ : ∃ y, y = bk := ⟨_, rfl⟩
    have r1 := rdn_blk (w0 := w0) (n := 6) e1 rfl (by omega)
    have r3 := rdn_blk (w0 := w0) (n := 6) e3 rfl (by omega)
    replace e1 : Keep _ := e1
    replace e3 : Keep _ := e3
    (all_goals (try simp only [Sq,Sr,Sh,Si,Sl,Bu,Bb,Bd,Bc,Bw,Bn,Int.reduceAdd,Int.reduceSub,Int.reduceMul,Int.reduceTDiv,Int.reduceTMod,Int.reduceMod,Int.reduceDiv,Nat.reduceLT,Nat.reduceEqDiff,Sa,Sb,Sc,Sd,Se,Sf,Sg,Int.reduceLE,Int.reduceLT,Int.reduceToNat,Int.reduceNeg,Int.reduceEq,Nat.reduceLeDiff,Nat.reducePow,Int.reducePow,reduceIte,Nat.reduceSub,Nat.reduceAdd,Nat.reduceMul,putAt,ceq,List.replicate, *])); repeat' ((first | (with_reducible refine fun _ : True => ?_) | refine hMay _ ?_ | refine hCk _ ?_ | refine hEn _ (fun a6 k6 G6 hB6 hg6 => ?_)  | (with_reducible refine any_h ?_) | ((first | refine AllocQ_i ?_ | refine AllocO_i ?_); intro bk hb0 hbk; (try simp only [set_none'] at hbk)) | ((first | refine condS_i ?_ ?_ | refine pick_i ?_ ?_ | refine gS_it ?_ ?_ | refine gS_if ?_ ?_ | refine gP_it ?_ ?_ | refine gP_if ?_ ?_) <;> (intro hc; try simp only [Int.reduceLE,Int.reduceLT,Int.reduceEq,Sn] at hc)) | (refine KP_i (by (repeat' (first | exact Heap.Le.refl _ | (with_reducible refine Le_set2 ?_) | (refine Le_known (by first | (simp only [Heap.set_same, set_ne, ne_eq, not_false_eq_true, *] <;> rfl) | fail) ?_) | (refine Le_fresh (by first | (simp only [*] <;> done) | (simp [set_none', Heap.set_same, set_ne, noneH, *] <;> done) | fail) ?_) | (refine Heap.Le.trans ?_ (Grow.le (by assumption))) | exact Le_none | (refine Le_put ?_ (by first | (simp only [Heap.set_same, set_ne, ne_eq, not_false_eq_true, *] <;> rfl) | fail)) | fail))) ?_) | (with_reducible refine And.intro ?_ ?_)) <;> (try simp only [Sq,Sr,Sh,Si,Sl,Bu,Bb,Bd,Bc,Bw,Bn,Int.reduceAdd,Int.reduceSub,Int.reduceMul,Int.reduceTDiv,Int.reduceTMod,Int.reduceMod,Int.reduceDiv,Nat.reduceLT,Nat.reduceEqDiff,Sa,Sb,Sc,Sd,Se,Sf,Sg,Int.reduceLE,Int.reduceLT,Int.reduceToNat,Int.reduceNeg,Int.reduceEq,Nat.reduceLeDiff,Nat.reducePow,Int.reducePow,reduceIte,Nat.reduceSub,Nat.reduceAdd,Nat.reduceMul,putAt,ceq,List.replicate, *]))
    replace r1 := rdn_blk (w0 := w0) (n := 6) (hg6.some (kpz e1)) rfl (by omega)
    replace r3 := rdn_blk (w0 := w0) (n := 6) (hg6.some (kpz e3)) rfl (by omega)
    replace hRc := kpz hRc G6 hg6
    have hI6 : IntsAt w0 G6 .u8 a6 B := SlAt.toInts hB6.slAt
    replace hRc : Keep _ := hRc
    replace hI6 : Keep _ := hI6
    clear hB6 hMay hCk hEn
    (all_goals (try simp only [Sq,Sr,Sh,Si,Sl,Bu,Bb,Bd,Bc,Bw,Bn,Int.reduceAdd,Int.reduceSub,Int.reduceMul,Int.reduceTDiv,Int.reduceTMod,Int.reduceMod,Int.reduceDiv,Nat.reduceLT,Nat.reduceEqDiff,Sa,Sb,Sc,Sd,Se,Sf,Sg,Int.reduceLE,Int.reduceLT,Int.reduceToNat,Int.reduceNeg,Int.reduceEq,Nat.reduceLeDiff,Nat.reducePow,Int.reducePow,reduceIte,Nat.reduceSub,Nat.reduceAdd,Nat.reduceMul,putAt,ceq,List.replicate, *])); repeat' ((first | (with_reducible refine fun _ : True => ?_) | refine hRc _ (fun b7 G7 hR7 hg7 => ?_)  | (with_reducible refine any_h ?_) | ((first | refine AllocQ_i ?_ | refine AllocO_i ?_); intro bk hb0 hbk; (try simp only [set_none'] at hbk)) | ((first | refine condS_i ?_ ?_ | refine pick_i ?_ ?_ | refine gS_it ?_ ?_ | refine gS_if ?_ ?_ | refine gP_it ?_ ?_ | refine gP_if ?_ ?_) <;> (intro hc; try simp only [Int.reduceLE,Int.reduceLT,Int.reduceEq,Sn] at hc)) | (refine KP_i (by (repeat' (first | exact Heap.Le.refl _ | (with_reducible refine Le_set2 ?_) | (refine Le_known (by first | (simp only [Heap.set_same, set_ne, ne_eq, not_false_eq_true, *] <;> rfl) | fail) ?_) | (refine Le_fresh (by first | (simp only [*] <;> done) | (simp [set_none', Heap.set_same, set_ne, noneH, *] <;> done) | fail) ?_) | (refine Heap.Le.trans ?_ (Grow.le (by assumption))) | exact Le_none | (refine Le_put ?_ (by first | (simp only [Heap.set_same, set_ne, ne_eq, not_false_eq_true, *] <;> rfl) | fail)) | fail))) ?_) | (with_reducible refine And.intro ?_ ?_)) <;> (try simp only [Sq,Sr,Sh,Si,Sl,Bu,Bb,Bd,Bc,Bw,Bn,Int.reduceAdd,Int.reduceSub,Int.reduceMul,Int.reduceTDiv,Int.reduceTMod,Int.reduceMod,Int.reduceDiv,Nat.reduceLT,Nat.reduceEqDiff,Sa,Sb,Sc,Sd,Se,Sf,Sg,Int.reduceLE,Int.reduceLT,Int.reduceToNat,Int.reduceNeg,Int.reduceEq,Nat.reduceLeDiff,Nat.reducePow,Int.reducePow,reduceIte,Nat.reduceSub,Nat.reduceAdd,Nat.reduceMul,putAt,ceq,List.replicate, *]))
    have g57 := hg6.trans hg7
    replace r1 := rdn_blk (w0 := w0) (n := 6) (g57.some (kpz e1)) rfl (by omega)
    replace r3 := rdn_blk (w0 := w0) (n := 6) (g57.some (kpz e3)) rfl (by omega)
    replace hWh := kpz hWh G7 g57
    replace hRr := kpz hRr G7 g57
    replace hI6 := IntsAt.grow (kpz hI6) hg7
    replace hI6 : Keep _ := hI6
    replace hWh : Keep _ := hWh
    replace hRr : Keep _ := hRr
    replace hR7 : Keep _ := hR7
    clear hRc hg7 hg6
    (all_goals (try simp only [Sq,Sr,Sh,Si,Sl,Bu,Bb,Bd,Bc,Bw,Bn,Int.reduceAdd,Int.reduceSub,Int.reduceMul,Int.reduceTDiv,Int.reduceTMod,Int.reduceMod,Int.reduceDiv,Nat.reduceLT,Nat.reduceEqDiff,Sa,Sb,Sc,Sd,Se,Sf,Sg,Int.reduceLE,Int.reduceLT,Int.reduceToNat,Int.reduceNeg,Int.reduceEq,Nat.reduceLeDiff,Nat.reducePow,Int.reducePow,reduceIte,Nat.reduceSub,Nat.reduceAdd,Nat.reduceMul,putAt,ceq,List.replicate, *])); repeat' ((first | (with_reducible refine fun _ : True => ?_) | refine hWh _ ?_ | refine hRr _ (fun b8 G8 hR8 hg8 => ?_)  | (with_reducible refine any_h ?_) | ((first | refine AllocQ_i ?_ | refine AllocO_i ?_); intro bk hb0 hbk; (try simp only [set_none'] at hbk)) | ((first | refine condS_i ?_ ?_ | refine pick_i ?_ ?_ | refine gS_it ?_ ?_ | refine gS_if ?_ ?_ | refine gP_it ?_ ?_ | refine gP_if ?_ ?_) <;> (intro hc; try simp only [Int.reduceLE,Int.reduceLT,Int.reduceEq,Sn] at hc)) | (refine KP_i (by (repeat' (first | exact Heap.Le.refl _ | (with_reducible refine Le_set2 ?_) | (refine Le_known (by first | (simp only [Heap.set_same, set_ne, ne_eq, not_false_eq_true, *] <;> rfl) | fail) ?_) | (refine Le_fresh (by first | (simp only [*] <;> done) | (simp [set_none', Heap.set_same, set_ne, noneH, *] <;> done) | fail) ?_) | (refine Heap.Le.trans ?_ (Grow.le (by assumption))) | exact Le_none | (refine Le_put ?_ (by first | (simp only [Heap.set_same, set_ne, ne_eq, not_false_eq_true, *] <;> rfl) | fail)) | fail))) ?_) | (with_reducible refine And.intro ?_ ?_)) <;> (try simp only [Sq,Sr,Sh,Si,Sl,Bu,Bb,Bd,Bc,Bw,Bn,Int.reduceAdd,Int.reduceSub,Int.reduceMul,Int.reduceTDiv,Int.reduceTMod,Int.reduceMod,Int.reduceDiv,Nat.reduceLT,Nat.reduceEqDiff,Sa,Sb,Sc,Sd,Se,Sf,Sg,Int.reduceLE,Int.reduceLT,Int.reduceToNat,Int.reduceNeg,Int.reduceEq,Nat.reduceLeDiff,Nat.reducePow,Int.reducePow,reduceIte,Nat.reduceSub,Nat.reduceAdd,Nat.reduceMul,putAt,ceq,List.replicate, *]))
    have g58 := g57.trans hg8
    replace r1 := rdn_blk (w0 := w0) (n := 6) (g58.some (kpz e1)) rfl (by omega)
    replace r3 := rdn_blk (w0 := w0) (n := 6) (g58.some (kpz e3)) rfl (by omega)
    replace hBy := kpz hBy G8 g58
    replace hI6 := IntsAt.grow (kpz hI6) hg8
    replace hR7 := hg8.some (kpz hR7)
    replace hI6 : Keep _ := hI6
    replace hBy : Keep _ := hBy
    replace hR7 : Keep _ := hR7
    replace hR8 : Keep _ := hR8
    clear hWh hRr hg8 g57
    (all_goals (try simp only [Sq,Sr,Sh,Si,Sl,Bu,Bb,Bd,Bc,Bw,Bn,Int.reduceAdd,Int.reduceSub,Int.reduceMul,Int.reduceTDiv,Int.reduceTMod,Int.reduceMod,Int.reduceDiv,Nat.reduceLT,Nat.reduceEqDiff,Sa,Sb,Sc,Sd,Se,Sf,Sg,Int.reduceLE,Int.reduceLT,Int.reduceToNat,Int.reduceNeg,Int.reduceEq,Nat.reduceLeDiff,Nat.reducePow,Int.reducePow,reduceIte,Nat.reduceSub,Nat.reduceAdd,Nat.reduceMul,putAt,ceq,List.replicate, *])); repeat' ((first | (with_reducible refine fun _ : True => ?_) | refine hBy _ (fun a9 k9 G9 hB9 hg9 => ?_)  | (with_reducible refine any_h ?_) | ((first | refine AllocQ_i ?_ | refine AllocO_i ?_); intro bk hb0 hbk; (try simp only [set_none'] at hbk)) | ((first | refine condS_i ?_ ?_ | refine pick_i ?_ ?_ | refine gS_it ?_ ?_ | refine gS_if ?_ ?_ | refine gP_it ?_ ?_ | refine gP_if ?_ ?_) <;> (intro hc; try simp only [Int.reduceLE,Int.reduceLT,Int.reduceEq,Sn] at hc)) | (refine KP_i (by (repeat' (first | exact Heap.Le.refl _ | (with_reducible refine Le_set2 ?_) | (refine Le_known (by first | (simp only [Heap.set_same, set_ne, ne_eq, not_false_eq_true, *] <;> rfl) | fail) ?_) | (refine Le_fresh (by first | (simp only [*] <;> done) | (simp [set_none', Heap.set_same, set_ne, noneH, *] <;> done) | fail) ?_) | (refine Heap.Le.trans ?_ (Grow.le (by assumption))) | exact Le_none | (refine Le_put ?_ (by first | (simp only [Heap.set_same, set_ne, ne_eq, not_false_eq_true, *] <;> rfl) | fail)) | fail))) ?_) | (with_reducible refine And.intro ?_ ?_)) <;> (try simp only [Sq,Sr,Sh,Si,Sl,Bu,Bb,Bd,Bc,Bw,Bn,Int.reduceAdd,Int.reduceSub,Int.reduceMul,Int.reduceTDiv,Int.reduceTMod,Int.reduceMod,Int.reduceDiv,Nat.reduceLT,Nat.reduceEqDiff,Sa,Sb,Sc,Sd,Se,Sf,Sg,Int.reduceLE,Int.reduceLT,Int.reduceToNat,Int.reduceNeg,Int.reduceEq,Nat.reduceLeDiff,Nat.reducePow,Int.reducePow,reduceIte,Nat.reduceSub,Nat.reduceAdd,Nat.reduceMul,putAt,ceq,List.replicate, *]))
    have g59 := g58.trans hg9
    have hI9 : IntsAt w0 G9 .u8 a9 B := SlAt.toInts hB9.slAt
    replace hI6 := IntsAt.grow (kpz hI6) hg9
    replace hR7 := hg9.some (kpz hR7)
    replace hR8 := hg9.some (kpz hR8)
    have hRd : ∀ j, j < n + 1 → ∃ u, HL.rd1 w0 G9 b7 j = some (.bool u) ∧ HL.rd1 w0 G9 b8 j = some (.bool u) := fun j hj => by
      obtain ⟨u, e1, e2⟩ := kpz rgt j hj
      exact ⟨u, by unfold HL.rd1; rw [hR7]; exact e2, by unfold HL.rd1; rw [hR8]; exact e2⟩
    have h9 : HL.Fin K (.bool true) G9 := Fin_le (kpz h5) g59.le
    replace hI6 : Keep _ := hI6
    replace hI9 : Keep _ := hI9
    replace hRd : Keep _ := hRd
    replace h9 : Keep _ := h9
    clear hBy hg9 g58 hB9 hR7 hR8 g59 r1 r3 e1 e3 rgt h5
    (all_goals (try simp only [Sq,Sr,Sh,Si,Sl,Bu,Bb,Bd,Bc,Bw,Bn,Int.reduceAdd,Int.reduceSub,Int.reduceMul,Int.reduceTDiv,Int.reduceTMod,Int.reduceMod,Int.reduceDiv,Nat.reduceLT,Nat.reduceEqDiff,Sa,Sb,Sc,Sd,Se,Sf,Sg,Int.reduceLE,Int.reduceLT,Int.reduceToNat,Int.reduceNeg,Int.reduceEq,Nat.reduceLeDiff,Nat.reducePow,Int.reducePow,reduceIte,Nat.reduceSub,Nat.reduceAdd,Nat.reduceMul,putAt,ceq,List.replicate, *])); repeat' ((first | (with_reducible refine fun _ : True => ?_) | refine c_bytesEqual _ _ _ _ _ _ B B rfl rfl (kpz hI6) (kpz hI9) (kpz hb3) (kpz hb3) ?_ | (with_reducible refine any_h ?_) | ((first | refine AllocQ_i ?_ | refine AllocO_i ?_); intro bk hb0 hbk; (try simp only [set_none'] at hbk)) | ((first | refine condS_i ?_ ?_ | refine pick_i ?_ ?_ | refine gS_it ?_ ?_ | refine gS_if ?_ ?_ | refine gP_it ?_ ?_ | refine gP_if ?_ ?_) <;> (intro hc; try simp only [Int.reduceLE,Int.reduceLT,Int.reduceEq,Sn] at hc)) | (refine KP_i (by (repeat' (first | exact Heap.Le.refl _ | (with_reducible refine Le_set2 ?_) | (refine Le_known (by first | (simp only [Heap.set_same, set_ne, ne_eq, not_false_eq_true, *] <;> rfl) | fail) ?_) | (refine Le_fresh (by first | (simp only [*] <;> done) | (simp [set_none', Heap.set_same, set_ne, noneH, *] <;> done) | fail) ?_) | (refine Heap.Le.trans ?_ (Grow.le (by assumption))) | exact Le_none | (refine Le_put ?_ (by first | (simp only [Heap.set_same, set_ne, ne_eq, not_false_eq_true, *] <;> rfl) | fail)) | fail))) ?_) | (with_reducible refine And.intro ?_ ?_)) <;> (try simp only [Sq,Sr,Sh,Si,Sl,Bu,Bb,Bd,Bc,Bw,Bn,Int.reduceAdd,Int.reduceSub,Int.reduceMul,Int.reduceTDiv,Int.reduceTMod,Int.reduceMod,Int.reduceDiv,Nat.reduceLT,Nat.reduceEqDiff,Sa,Sb,Sc,Sd,Se,Sf,Sg,Int.reduceLE,Int.reduceLT,Int.reduceToNat,Int.reduceNeg,Int.reduceEq,Nat.reduceLeDiff,Nat.reducePow,Int.reducePow,reduceIte,Nat.reduceSub,Nat.reduceAdd,Nat.reduceMul,putAt,ceq,List.replicate, *]))
    refine loop_g 73 (fun s : Nat × Value => [(10, s.2), (72, .int .i64 (s.1 : Nat))]) (fun s => G9) (fun s => s.1 ≤ n + 1) (fun s => n + 1 - s.1) (0, undef) (Nat.zero_le _) (Heap.Le.refl _) rfl ?_
    intro ⟨j, v10⟩ g hj
    simp only at hj
    by_cases hlt : j < n + 1
    · obtain ⟨u, u1, u2⟩ := kpz hRd j hlt
      have t0 : (j : Int) < ((n + 1 : Nat) : Int) := by omega
      have t6 : IntKind.i64.wrap ((j : Int) + 1) = ((j + 1 : Nat) : Int) := by rw [Bw.1 _ (by omega) (by omega)]; omega
      clear hI6 hI9 hb3
      cases u
      all_goals
        (all_goals (try simp only [Sq,Sr,Sh,Si,Sl,Bu,Bb,Bd,Bc,Bw,Bn,Int.reduceAdd,Int.reduceSub,Int.reduceMul,Int.reduceTDiv,Int.reduceTMod,Int.reduceMod,Int.reduceDiv,Nat.reduceLT,Nat.reduceEqDiff,Sa,Sb,Sc,Sd,Se,Sf,Sg,Int.reduceLE,Int.reduceLT,Int.reduceToNat,Int.reduceNeg,Int.reduceEq,Nat.reduceLeDiff,Nat.reducePow,Int.reducePow,reduceIte,Nat.reduceSub,Nat.reduceAdd,Nat.reduceMul,putAt,ceq,List.replicate, *])); repeat' ((first | (with_reducible refine fun _ : True => ?_) | (with_reducible refine any_h ?_) | ((first | refine AllocQ_i ?_ | refine AllocO_i ?_); intro bk hb0 hbk; (try simp only [set_none'] at hbk)) | ((first | refine condS_i ?_ ?_ | refine pick_i ?_ ?_ | refine gS_it ?_ ?_ | refine gS_if ?_ ?_ | refine gP_it ?_ ?_ | refine gP_if ?_ ?_) <;> (intro hc; try simp only [Int.reduceLE,Int.reduceLT,Int.reduceEq,Sn] at hc)) | (refine KP_i (by (repeat' (first | exact Heap.Le.refl _ | (with_reducible refine Le_set2 ?_) | (refine Le_known (by first | (simp only [Heap.set_same, set_ne, ne_eq, not_false_eq_true, *] <;> rfl) | fail) ?_) | (refine Le_fresh (by first | (simp only [*] <;> done) | (simp [set_none', Heap.set_same, set_ne, noneH, *] <;> done) | fail) ?_) | (refine Heap.Le.trans ?_ (Grow.le (by assumption))) | exact Le_none | (refine Le_put ?_ (by first | (simp only [Heap.set_same, set_ne, ne_eq, not_false_eq_true, *] <;> rfl) | fail)) | fail))) ?_) | (with_reducible refine And.intro ?_ ?_)) <;> (try simp only [Sq,Sr,Sh,Si,Sl,Bu,Bb,Bd,Bc,Bw,Bn,Int.reduceAdd,Int.reduceSub,Int.reduceMul,Int.reduceTDiv,Int.reduceTMod,Int.reduceMod,Int.reduceDiv,Nat.reduceLT,Nat.reduceEqDiff,Sa,Sb,Sc,Sd,Se,Sf,Sg,Int.reduceLE,Int.reduceLT,Int.reduceToNat,Int.reduceNeg,Int.reduceEq,Nat.reduceLeDiff,Nat.reducePow,Int.reducePow,reduceIte,Nat.reduceSub,Nat.reduceAdd,Nat.reduceMul,putAt,ceq,List.replicate, *]))
        exact Round_mk (j + 1, _) hlt (Nat.sub_succ_lt_self (n + 1) j hlt) (Heap.Le.refl _) rfl rfl
    · obtain rfl : j = n + 1 := by omega
      have t0 : ¬ ((n + 1 : Nat) : Int) < ((n + 1 : Nat) : Int) := by omega
      clear hI6 hI9 hb3
      (all_goals (try simp only [Sq,Sr,Sh,Si,Sl,Bu,Bb,Bd,Bc,Bw,Bn,Int.reduceAdd,Int.reduceSub,Int.reduceMul,Int.reduceTDiv,Int.reduceTMod,Int.reduceMod,Int.reduceDiv,Nat.reduceLT,Nat.reduceEqDiff,Sa,Sb,Sc,Sd,Se,Sf,Sg,Int.reduceLE,Int.reduceLT,Int.reduceToNat,Int.reduceNeg,Int.reduceEq,Nat.reduceLeDiff,Nat.reducePow,Int.reducePow,reduceIte,Nat.reduceSub,Nat.reduceAdd,Nat.reduceMul,putAt,ceq,List.replicate, *])); repeat' ((first | (with_reducible refine fun _ : True => ?_) | (with_reducible refine any_h ?_) | ((first | refine AllocQ_i ?_ | refine AllocO_i ?_); intro bk hb0 hbk; (try simp only [set_none'] at hbk)) | ((first | refine condS_i ?_ ?_ | refine pick_i ?_ ?_ | refine gS_it ?_ ?_ | refine gS_if ?_ ?_ | refine gP_it ?_ ?_ | refine gP_if ?_ ?_) <;> (intro hc; try simp only [Int.reduceLE,Int.reduceLT,Int.reduceEq,Sn] at hc)) | (refine KP_i (by (repeat' (first | exact Heap.Le.refl _ | (with_reducible refine Le_set2 ?_) | (refine Le_known (by first | (simp only [Heap.set_same, set_ne, ne_eq, not_false_eq_true, *] <;> rfl) | fail) ?_) | (refine Le_fresh (by first | (simp only [*] <;> done) | (simp [set_none', Heap.set_same, set_ne, noneH, *] <;> done) | fail) ?_) | (refine Heap.Le.trans ?_ (Grow.le (by assumption))) | exact Le_none | (refine Le_put ?_ (by first | (simp only [Heap.set_same, set_ne, ne_eq, not_false_eq_true, *] <;> rfl) | fail)) | fail))) ?_) | (with_reducible refine And.intro ?_ ?_)) <;> (try simp only [Sq,Sr,Sh,Si,Sl,Bu,Bb,Bd,Bc,Bw,Bn,Int.reduceAdd,Int.reduceSub,Int.reduceMul,Int.reduceTDiv,Int.reduceTMod,Int.reduceMod,Int.reduceDiv,Nat.reduceLT,Nat.reduceEqDiff,Sa,Sb,Sc,Sd,Se,Sf,Sg,Int.reduceLE,Int.reduceLT,Int.reduceToNat,Int.reduceNeg,Int.reduceEq,Nat.reduceLeDiff,Nat.reducePow,Int.reducePow,reduceIte,Nat.reduceSub,Nat.reduceAdd,Nat.reduceMul,putAt,ceq,List.replicate, *]))
      exact kpz h9
  · clear hI
    have hMay : ∀ (K : Value → Heap → Prop), K (.bool false) G5 → HCalls Try.prog w0 37 [.agg #[.int .i64 c.st, .slice a (c.is.take 4097).length k, .int .i64 c.rg, .int .i64 c.ab, .int .i64 c.un, .int .i64 c.va]] G5 K := fun K h => r_May ({ c.few b with adr := a, cap := k } : Cd) hW (fun n => absurd n hm) (fun _ => h)
    have hCk : ∀ (K : Value → Heap → Prop), K (.int .i64 260) G5 → HCalls Try.prog w0 18 [.agg #[.int .i64 c.st, .slice (some ⟨b, 0, none⟩) (c.is.take 4097).length ((c.is.take 4097).length + 2), .int .i64 c.rg, .int .i64 c.ab, .int .i64 c.un, .int .i64 c.va]] G5 K := fun K h => c_Check (c.few b) hA (fun n => absurd n hm) (fun _ => h)
    have hEn : ∀ (K : Value → Heap → Prop), K (.tuple #[.slice none 0 0, .int .i64 260]) G5 → HCalls Try.prog w0 24 [.agg #[.int .i64 c.st, .slice (some ⟨b, 0, none⟩) (c.is.take 4097).length ((c.is.take 4097).length + 2), .int .i64 c.rg, .int .i64 c.ab, .int .i64 c.un, .int .i64 c.va]] G5 K := fun K h => c_Encode (c.few b) hA (fun n => absurd n hm) (fun _ => h)
    have hRc : ∀ (K : Value → Heap → Prop), K (.slice none 0 0) G5 → HCalls Try.prog w0 25 [.agg #[.int .i64 c.st, .slice (some ⟨b, 0, none⟩) (c.is.take 4097).length ((c.is.take 4097).length + 2), .int .i64 c.rg, .int .i64 c.ab, .int .i64 c.un, .int .i64 c.va]] G5 K := fun K h => c_Reach (c.few b) hA (fun n => absurd n hm) (fun _ => h)
    have hWh : ∀ (K : Value → Heap → Prop), K (.bool true) G5 → HCalls Try.prog w0 44 [.agg #[.int .i64 c.st, .slice (some ⟨b, 0, none⟩) (c.is.take 4097).length ((c.is.take 4097).length + 2), .int .i64 c.rg, .int .i64 c.ab, .int .i64 c.un, .int .i64 c.va], .agg #[.int .i64 c.st, .slice a (c.is.take 4097).length k, .int .i64 c.rg, .int .i64 c.ab, .int .i64 c.un, .int .i64 c.va]] G5 K := fun K h => c_whole c ({ c.few b with adr := a, cap := k } : Cd) b _ z5 hW ⟨rfl, rfl, rfl, rfl, rfl, rfl⟩ h
    clear hA hW hB5 z5 hm z
    generalize (c.is.take 4097).length = n at hMay hCk hEn hRc hWh e1 e3 hka ⊢
    have h5 : HL.Fin K (.bool true) G5 := Fin_mk g5.le h
    replace hMay : Keep _ := hMay
    replace hCk : Keep _ := hCk
    replace hEn : Keep _ := hEn
    replace hRc : Keep _ := hRc
    replace hWh : Keep _ := hWh
    replace h5 : Keep _ := h5
    clear h g5 hka
    obtain ⟨b1, rfl⟩ : ∃ y, y = bx := ⟨_, rfl⟩
    obtain ⟨b3, rfl⟩ : ∃ y, y = bk := ⟨_, rfl⟩
    have r1 := rdn_blk (w0 := w0) (n := 6) e1 rfl (by omega)
    have r3 := rdn_blk (w0 := w0) (n := 6) e3 rfl (by omega)
    clear e1 e3
    (all_goals (try simp only [Sq,Sr,Sh,Si,Sl,Bu,Bb,Bd,Bc,Bw,Bn,Int.reduceAdd,Int.reduceSub,Int.reduceMul,Int.reduceTDiv,Int.reduceTMod,Int.reduceMod,Int.reduceDiv,Nat.reduceLT,Nat.reduceEqDiff,Sa,Sb,Sc,Sd,Se,Sf,Sg,Int.reduceLE,Int.reduceLT,Int.reduceToNat,Int.reduceNeg,Int.reduceEq,Nat.reduceLeDiff,Nat.reducePow,Int.reducePow,reduceIte,Nat.reduceSub,Nat.reduceAdd,Nat.reduceMul,putAt,ceq,List.replicate, *])); repeat' ((first | (with_reducible refine fun _ : True => ?_) | refine hMay _ ?_ | refine hCk _ ?_ | refine hEn _ ?_ | refine hRc _ ?_ | refine hWh _ ?_ | (with_reducible refine any_h ?_) | ((first | refine AllocQ_i ?_ | refine AllocO_i ?_); intro bk hb0 hbk; (try simp only [set_none'] at hbk)) | ((first | refine condS_i ?_ ?_ | refine pick_i ?_ ?_ | refine gS_it ?_ ?_ | refine gS_if ?_ ?_ | refine gP_it ?_ ?_ | refine gP_if ?_ ?_) <;> (intro hc; try simp only [Int.reduceLE,Int.reduceLT,Int.reduceEq,Sn] at hc)) | (refine KP_i (by (repeat' (first | exact Heap.Le.refl _ | (with_reducible refine Le_set2 ?_) | (refine Le_known (by first | (simp only [Heap.set_same, set_ne, ne_eq, not_false_eq_true, *] <;> rfl) | fail) ?_) | (refine Le_fresh (by first | (simp only [*] <;> done) | (simp [set_none', Heap.set_same, set_ne, noneH, *] <;> done) | fail) ?_) | (refine Heap.Le.trans ?_ (Grow.le (by assumption))) | exact Le_none | (refine Le_put ?_ (by first | (simp only [Heap.set_same, set_ne, ne_eq, not_false_eq_true, *] <;> rfl) | fail)) | fail))) ?_) | (with_reducible refine And.intro ?_ ?_)) <;> (try simp only [Sq,Sr,Sh,Si,Sl,Bu,Bb,Bd,Bc,Bw,Bn,Int.reduceAdd,Int.reduceSub,Int.reduceMul,Int.reduceTDiv,Int.reduceTMod,Int.reduceMod,Int.reduceDiv,Nat.reduceLT,Nat.reduceEqDiff,Sa,Sb,Sc,Sd,Se,Sf,Sg,Int.reduceLE,Int.reduceLT,Int.reduceToNat,Int.reduceNeg,Int.reduceEq,Nat.reduceLeDiff,Nat.reducePow,Int.reducePow,reduceIte,Nat.reduceSub,Nat.reduceAdd,Nat.reduceMul,putAt,ceq,List.replicate, *]))
    exact kpz h5
end Go.Proofs.Ytndgmnmnpfblmaa
