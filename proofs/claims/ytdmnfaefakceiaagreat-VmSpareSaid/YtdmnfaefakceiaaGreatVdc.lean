/- What an operation does, by the program (layer 18). -/
import Derived.Test.YtdmnfaefakceiaaGreatVdb
set_option linter.unusedSimpArgs false
set_option linter.unusedVariables false
set_option maxRecDepth 100000
set_option maxHeartbeats 4000000
namespace Go.Proofs.YtdmnfaefakceiaaGreat
open Go.HL Go.RowKit Pb
variable {w0 : World} {H G : Heap} {K : Value → Heap → Prop}

theorem c_Do (fn bs n : Int) (a b c : Nat → Int) (ha : ∀ i, I32 (a i)) (hb : ∀ i, I32 (b i)) (hc : ∀ i, I32 (c i)) (hok : ¬ args fn bs = 0) (hn4 : 1 ≤ n ∧ n ≤ 4) (h : K (.tuple #[VV (doV fn bs n a b c), .int .i64 0]) H) :
    HCalls Tryz.prog w0 28 [.int .i64 fn, .int .i64 bs, .int .i64 n, VV a, VV b, VV c] H K := by
  have hn : n = 1 ∨ n = 2 ∨ n = 3 ∨ n = 4 := by omega
  have n1 : ¬ n < 1 := by omega
  have n2 : ¬ 4 < n := by omega
  have i0 := fun (G : Heap) (K' : Value → Heap → Prop) => c_Args (w0 := w0) (H := G) (K := K') fn bs
  replace i0 : Keep _ := i0
  rcases args_fn hok with hf | ⟨hf, rfl, hf2⟩ | ⟨hf, hb2, hf2⟩ | ⟨hf, hb2, hf3, hf2⟩
  · have i1 := fun (G : Heap) (K' : Value → Heap → Prop) => c_asks (w0 := w0) (H := G) (K := K') fn n a b hf hn
    have e : doV fn bs n a b c = t1V (if askV fn n a b then 1 else 0) := by unfold doV; rw [if_pos hf]
    rw [e] at h
    obtain ⟨f1, f2⟩ := hf
    replace h : Keep _ := h
    replace i1 : Keep _ := i1
    clear ha hb hc hn hn4 e
    refine HL.hc k28 999 ?_; unfold M28
    (all_goals (try simp only [S0,putAt,List.replicate,Int.reduceAdd,Int.reduceSub,Int.reduceMul,Int.reduceTDiv,Int.reduceTMod,Int.reduceMod,Int.reduceDiv,Nat.reduceLT,Nat.reduceEqDiff,Int.reduceLE,Int.reduceLT,Int.reduceToNat,Int.reduceNeg,Int.reduceEq,Nat.reduceLeDiff,Nat.reducePow,Int.reducePow,reduceIte,Nat.reduceSub,Nat.reduceAdd,Nat.reduceMul, *])); repeat' ((first | (with_reducible refine fun _ : True => ?_) | refine i0 _ _ ?_ | refine i1 _ _ ?_ | refine c_truth _ ?_ | (with_reducible refine any_h ?_) | ((first | refine AllocQ_i ?_ | refine AllocO_i ?_); intro bk hb0 hbk; (try simp only [set_none'] at hbk)) | ((first | refine condS_i ?_ ?_ | refine pick_i ?_ ?_ | refine gS_it ?_ ?_ | refine gS_if ?_ ?_ | refine gP_it ?_ ?_ | refine gP_if ?_ ?_) <;> (intro hc; try simp only [Int.reduceLE,Int.reduceLT,Int.reduceEq,Sn] at hc)) | (with_reducible refine KP_i ?_ ?_; · exact aL) | (with_reducible refine And.intro ?_ ?_)) <;> (try simp only [S0,putAt,List.replicate,Int.reduceAdd,Int.reduceSub,Int.reduceMul,Int.reduceTDiv,Int.reduceTMod,Int.reduceMod,Int.reduceDiv,Nat.reduceLT,Nat.reduceEqDiff,Int.reduceLE,Int.reduceLT,Int.reduceToNat,Int.reduceNeg,Int.reduceEq,Nat.reduceLeDiff,Nat.reducePow,Int.reducePow,reduceIte,Nat.reduceSub,Nat.reduceAdd,Nat.reduceMul, *]))
    exact Fin_mk aL h
  · have e : doV fn 2 n a b c = fst n (fun i => wI fn (a i) (b i)) := by unfold doV; rw [if_neg hf, if_pos rfl]
    rw [e] at h
    have f1 : ¬ 29 ≤ fn := by omega
    have i1 := fun (G : Heap) (K' : Value → Heap → Prop) => c_whole (w0 := w0) (H := G) (K := K') fn hf2
    have i2 := fun (F : FuncId) (hF : ∀ x y (G : Heap) (K' : Value → Heap → Prop), I32 x → I32 y → K' (.int .i32 (wI fn x y)) G → HCalls Tryz.prog w0 F [.int .i32 x, .int .i32 y] G K') (G : Heap) (K' : Value → Heap → Prop) => c_vEach (w0 := w0) (H := G) (K := K') n F #[] #[] a b (fun i => wI fn (a i) (b i)) hn (fun i G K' hi hg hk => hF _ _ _ _ (ha i) (hb i) hk)
    replace h : Keep _ := h
    replace i1 : Keep _ := i1
    replace i2 : Keep _ := i2
    clear ha hb hc hn hn4 e hf hf2
    refine HL.hc k28 999 ?_; unfold M28
    (all_goals (try simp only [S0,putAt,List.replicate,Int.reduceAdd,Int.reduceSub,Int.reduceMul,Int.reduceTDiv,Int.reduceTMod,Int.reduceMod,Int.reduceDiv,Nat.reduceLT,Nat.reduceEqDiff,Int.reduceLE,Int.reduceLT,Int.reduceToNat,Int.reduceNeg,Int.reduceEq,Nat.reduceLeDiff,Nat.reducePow,Int.reducePow,reduceIte,Nat.reduceSub,Nat.reduceAdd,Nat.reduceMul, *])); repeat' ((first | (with_reducible refine fun _ : True => ?_) | refine i0 _ _ ?_ | refine i1 _ _ (fun F hF => ?_)  | refine i2 F hF _ _ ?_ | (with_reducible refine any_h ?_) | ((first | refine AllocQ_i ?_ | refine AllocO_i ?_); intro bk hb0 hbk; (try simp only [set_none'] at hbk)) | ((first | refine condS_i ?_ ?_ | refine pick_i ?_ ?_ | refine gS_it ?_ ?_ | refine gS_if ?_ ?_ | refine gP_it ?_ ?_ | refine gP_if ?_ ?_) <;> (intro hc; try simp only [Int.reduceLE,Int.reduceLT,Int.reduceEq,Sn] at hc)) | (with_reducible refine KP_i ?_ ?_; · exact aL) | (with_reducible refine And.intro ?_ ?_)) <;> (try simp only [S0,putAt,List.replicate,Int.reduceAdd,Int.reduceSub,Int.reduceMul,Int.reduceTDiv,Int.reduceTMod,Int.reduceMod,Int.reduceDiv,Nat.reduceLT,Nat.reduceEqDiff,Int.reduceLE,Int.reduceLT,Int.reduceToNat,Int.reduceNeg,Int.reduceEq,Nat.reduceLeDiff,Nat.reducePow,Int.reducePow,reduceIte,Nat.reduceSub,Nat.reduceAdd,Nat.reduceMul, *]))
    exact Fin_mk aL h
  · have e : doV fn bs n a b c = fst n (fun i => vtwo (fn - 24) (a i) (b i)) := by unfold doV; rw [if_neg hf, if_neg hb2, if_pos hf2]
    rw [e] at h
    have f1 : ¬ 29 ≤ fn := by omega
    obtain ⟨f2, f3⟩ := hf2
    have e1 : IntKind.i64.wrap (fn - 24) = fn - 24 := Bw.1 _ (by omega) (by omega)
    have e2 : IntKind.i64.wrap (fn - 24 + 0) = fn - 24 := by rw [Int.add_zero]; exact e1
    have i1 : ∀ (G : Heap) (K' : Value → Heap → Prop), K' (.tuple #[VV (fst n fun i => vtwo (fn - 24) (a i) (b i)), .int .i64 0]) G → HCalls Tryz.prog w0 47 [.int .i64 (fn - 24), .int .i64 n, VV a, VV b] G K' := fun G K' hk => c_Two (fn - 24) n a b ha hb (fun _ => hk) (fun q => (q ⟨by omega, by omega, hn4⟩).elim)
    replace h : Keep _ := h
    replace i1 : Keep _ := i1
    clear ha hb hc hn hn4 e hf
    refine HL.hc k28 999 ?_; unfold M28
    (all_goals (try simp only [S0,putAt,List.replicate,Int.reduceAdd,Int.reduceSub,Int.reduceMul,Int.reduceTDiv,Int.reduceTMod,Int.reduceMod,Int.reduceDiv,Nat.reduceLT,Nat.reduceEqDiff,Int.reduceLE,Int.reduceLT,Int.reduceToNat,Int.reduceNeg,Int.reduceEq,Nat.reduceLeDiff,Nat.reducePow,Int.reducePow,reduceIte,Nat.reduceSub,Nat.reduceAdd,Nat.reduceMul, *])); repeat' ((first | (with_reducible refine fun _ : True => ?_) | refine i0 _ _ ?_ | refine i1 _ _ ?_ | (with_reducible refine any_h ?_) | ((first | refine AllocQ_i ?_ | refine AllocO_i ?_); intro bk hb0 hbk; (try simp only [set_none'] at hbk)) | ((first | refine condS_i ?_ ?_ | refine pick_i ?_ ?_ | refine gS_it ?_ ?_ | refine gS_if ?_ ?_ | refine gP_it ?_ ?_ | refine gP_if ?_ ?_) <;> (intro hc; try simp only [Int.reduceLE,Int.reduceLT,Int.reduceEq,Sn] at hc)) | (with_reducible refine KP_i ?_ ?_; · exact aL) | (with_reducible refine And.intro ?_ ?_)) <;> (try simp only [S0,putAt,List.replicate,Int.reduceAdd,Int.reduceSub,Int.reduceMul,Int.reduceTDiv,Int.reduceTMod,Int.reduceMod,Int.reduceDiv,Nat.reduceLT,Nat.reduceEqDiff,Int.reduceLE,Int.reduceLT,Int.reduceToNat,Int.reduceNeg,Int.reduceEq,Nat.reduceLeDiff,Nat.reducePow,Int.reducePow,reduceIte,Nat.reduceSub,Nat.reduceAdd,Nat.reduceMul, *]))
    exact Fin_mk aL h
  · have e : doV fn bs n a b c = floV fn n a b c := by unfold doV; rw [if_neg hf, if_neg hb2, if_neg hf3]
    rw [e] at h
    have i1 := fun (G : Heap) (K' : Value → Heap → Prop) => c_floats (w0 := w0) (H := G) (K := K') fn n a b c ha hb hc hf2 hn
    have hq : (¬ 29 ≤ fn ∧ ¬ 24 ≤ fn) ∨ (¬ 29 ≤ fn ∧ 24 ≤ fn ∧ ¬ fn ≤ 27) := by omega
    replace h : Keep _ := h
    replace i1 : Keep _ := i1
    clear ha hb hc hn hn4 e hf hf2 hf3
    rcases hq with ⟨f1, f2⟩ | ⟨f1, f2, f3⟩
    all_goals
      refine HL.hc k28 999 ?_; unfold M28
      (all_goals (try simp only [S0,putAt,List.replicate,Int.reduceAdd,Int.reduceSub,Int.reduceMul,Int.reduceTDiv,Int.reduceTMod,Int.reduceMod,Int.reduceDiv,Nat.reduceLT,Nat.reduceEqDiff,Int.reduceLE,Int.reduceLT,Int.reduceToNat,Int.reduceNeg,Int.reduceEq,Nat.reduceLeDiff,Nat.reducePow,Int.reducePow,reduceIte,Nat.reduceSub,Nat.reduceAdd,Nat.reduceMul, *])); repeat' ((first | (with_reducible refine fun _ : True => ?_) | refine i0 _ _ ?_ | refine i1 _ _ ?_ | (with_reducible refine any_h ?_) | ((first | refine AllocQ_i ?_ | refine AllocO_i ?_); intro bk hb0 hbk; (try simp only [set_none'] at hbk)) | ((first | refine condS_i ?_ ?_ | refine pick_i ?_ ?_ | refine gS_it ?_ ?_ | refine gS_if ?_ ?_ | refine gP_it ?_ ?_ | refine gP_if ?_ ?_) <;> (intro hc; try simp only [Int.reduceLE,Int.reduceLT,Int.reduceEq,Sn] at hc)) | (with_reducible refine KP_i ?_ ?_; · exact aL) | (with_reducible refine And.intro ?_ ?_)) <;> (try simp only [S0,putAt,List.replicate,Int.reduceAdd,Int.reduceSub,Int.reduceMul,Int.reduceTDiv,Int.reduceTMod,Int.reduceMod,Int.reduceDiv,Nat.reduceLT,Nat.reduceEqDiff,Int.reduceLE,Int.reduceLT,Int.reduceToNat,Int.reduceNeg,Int.reduceEq,Nat.reduceLeDiff,Nat.reducePow,Int.reducePow,reduceIte,Nat.reduceSub,Nat.reduceAdd,Nat.reduceMul, *]))
      exact Fin_mk aL h
theorem c_Do_err (fn bs n : Int) (a b c : Nat → Int) (hno : args fn bs = 0 ∨ n < 1 ∨ 4 < n) (h : K (.tuple #[VV fun _ => 0, .int .i64 2]) H) :
    HCalls Tryz.prog w0 28 [.int .i64 fn, .int .i64 bs, .int .i64 n, VV a, VV b, VV c] H K := by
  have i0 := fun (G : Heap) (K' : Value → Heap → Prop) => c_Args (w0 := w0) (H := G) (K := K') fn bs
  have hq : args fn bs = 0 ∨ (¬ args fn bs = 0 ∧ n < 1) ∨ (¬ args fn bs = 0 ∧ ¬ n < 1 ∧ 4 < n) := by omega
  replace h : Keep _ := h
  replace i0 : Keep _ := i0
  clear hno
  rcases hq with f1 | ⟨f1, f2⟩ | ⟨f1, f2, f3⟩
  all_goals
    refine HL.hc k28 999 ?_; unfold M28
    (all_goals (try simp only [S0,putAt,List.replicate,Int.reduceAdd,Int.reduceSub,Int.reduceMul,Int.reduceTDiv,Int.reduceTMod,Int.reduceMod,Int.reduceDiv,Nat.reduceLT,Nat.reduceEqDiff,Int.reduceLE,Int.reduceLT,Int.reduceToNat,Int.reduceNeg,Int.reduceEq,Nat.reduceLeDiff,Nat.reducePow,Int.reducePow,reduceIte,Nat.reduceSub,Nat.reduceAdd,Nat.reduceMul, *])); repeat' ((first | (with_reducible refine fun _ : True => ?_) | refine i0 _ _ ?_ | (with_reducible refine any_h ?_) | ((first | refine AllocQ_i ?_ | refine AllocO_i ?_); intro bk hb0 hbk; (try simp only [set_none'] at hbk)) | ((first | refine condS_i ?_ ?_ | refine pick_i ?_ ?_ | refine gS_it ?_ ?_ | refine gS_if ?_ ?_ | refine gP_it ?_ ?_ | refine gP_if ?_ ?_) <;> (intro hc; try simp only [Int.reduceLE,Int.reduceLT,Int.reduceEq,Sn] at hc)) | (with_reducible refine KP_i ?_ ?_; · exact aL) | (with_reducible refine And.intro ?_ ?_)) <;> (try simp only [S0,putAt,List.replicate,Int.reduceAdd,Int.reduceSub,Int.reduceMul,Int.reduceTDiv,Int.reduceTMod,Int.reduceMod,Int.reduceDiv,Nat.reduceLT,Nat.reduceEqDiff,Int.reduceLE,Int.reduceLT,Int.reduceToNat,Int.reduceNeg,Int.reduceEq,Nat.reduceLeDiff,Nat.reducePow,Int.reducePow,reduceIte,Nat.reduceSub,Nat.reduceAdd,Nat.reduceMul, *]))
    exact Fin_mk aL h
end Go.Proofs.YtdmnfaefakceiaaGreat
