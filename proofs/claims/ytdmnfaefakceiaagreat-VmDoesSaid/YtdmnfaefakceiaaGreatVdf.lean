/- What an operation does, by the document (layer 18). -/
import Derived.Test.YtdmnfaefakceiaaGreatVdd
import Derived.Test.YtdmnfaefakceiaaGreatVde
set_option linter.unusedSimpArgs false
set_option linter.unusedVariables false
set_option maxRecDepth 100000
set_option maxHeartbeats 4000000
namespace Go.Proofs.YtdmnfaefakceiaaGreat
open Go.HL Go.RowKit Pb
variable {w0 : World} {H G : Heap} {K : Value → Heap → Prop}

theorem r_tru (b : Bool) (h : K (.int .i32 (if b then 1 else 0)) H) : HCalls Tryz.prog w0 39 [.bool b] H K := by
  cases b
  all_goals
    refine HL.hc k39 999 ?_; unfold M39
    refine aV ?_
    exact Fin_mk (Heap.Le.refl _) h
theorem alk_no {n : Int} {a b : Nat → Int} {s : Nat} (hs : (s : Int) < n) (h4 : s < 4) (h : a s ≠ b s) : alk n a b = false := by
  have e : fst n a s ≠ fst n b s := by unfold fst; rw [if_pos hs, if_pos hs]; exact h
  unfold alk
  rw [decide_eq_false_iff_not]
  rintro ⟨h0, h1, h2, h3⟩
  rcases (by omega : s = 0 ∨ s = 1 ∨ s = 2 ∨ s = 3) with rfl | rfl | rfl | rfl
  · exact e h0
  · exact e h1
  · exact e h2
  · exact e h3
theorem alk_yes {n : Int} {a b : Nat → Int} (h : ∀ j : Nat, (j : Int) < n → a j = b j) : alk n a b = true := by
  have e : ∀ j, fst n a j = fst n b j := fun j => by unfold fst; split <;> first | exact h j (by assumption) | rfl
  unfold alk
  rw [decide_eq_true_eq]
  exact ⟨e 0, e 1, e 2, e 3⟩
theorem r_alike (n : Int) (a b : Nat → Int) (hn : n = 1 ∨ n = 2 ∨ n = 3 ∨ n = 4) (h : K (.bool (alk n a b)) H) : HCalls Tryz.prog w0 56 [.int .i64 n, VV a, VV b] H K := by
  have no : ∀ s : Nat, (s : Int) < n → s < 4 → a s ≠ b s → Keep (K (.bool false) H) := fun s h1 h2 h3 => by rw [← alk_no h1 h2 h3]; exact h
  have yes : (∀ j : Nat, (j : Int) < n → a j = b j) → Keep (K (.bool true) H) := fun h1 => by rw [← alk_yes h1]; exact h
  replace no : Keep _ := no
  replace yes : Keep _ := yes
  replace hn : Keep _ := hn
  clear h
  refine HL.hc k56 999 ?_; unfold M56
  (all_goals (try simp only [S0,putAt,List.replicate,Int.reduceAdd,Int.reduceSub,Int.reduceMul,Int.reduceTDiv,Int.reduceTMod,Int.reduceMod,Int.reduceDiv,Nat.reduceLT,Nat.reduceEqDiff,Int.reduceLE,Int.reduceLT,Int.reduceToNat,Int.reduceNeg,Int.reduceEq,Nat.reduceLeDiff,Nat.reducePow,Int.reducePow,reduceIte,Nat.reduceSub,Nat.reduceAdd,Nat.reduceMul, *])); repeat' ((first | (with_reducible refine fun _ : True => ?_) | (with_reducible refine any_h ?_) | ((first | refine AllocQ_i ?_ | refine AllocO_i ?_); intro bk hb0 hbk; (try simp only [set_none'] at hbk)) | ((first | refine condS_i ?_ ?_ | refine pick_i ?_ ?_ | refine gS_it ?_ ?_ | refine gS_if ?_ ?_ | refine gP_it ?_ ?_ | refine gP_if ?_ ?_) <;> (intro hc; try simp only [Int.reduceLE,Int.reduceLT,Int.reduceEq,Sn] at hc)) | (with_reducible refine KP_i ?_ ?_; · exact aL) | (with_reducible refine And.intro ?_ ?_)) <;> (try simp only [S0,putAt,List.replicate,Int.reduceAdd,Int.reduceSub,Int.reduceMul,Int.reduceTDiv,Int.reduceTMod,Int.reduceMod,Int.reduceDiv,Nat.reduceLT,Nat.reduceEqDiff,Int.reduceLE,Int.reduceLT,Int.reduceToNat,Int.reduceNeg,Int.reduceEq,Nat.reduceLeDiff,Nat.reducePow,Int.reducePow,reduceIte,Nat.reduceSub,Nat.reduceAdd,Nat.reduceMul, *]))
  rename_i b9 hb9 hn9
  refine loop_g 8 (fun s : Nat => [(7, .int .i64 (s : Nat))]) (fun s => (H.set b9 ⟨28, VC a⟩).set bk ⟨28, VC b⟩) (fun s => (s : Int) ≤ n ∧ ∀ j, j < s → a j = b j) (fun s => (n - s).toNat) 0 ⟨by have := (show _ ∨ _ from hn); show ((0 : Nat) : Int) ≤ n; omega, fun j hj => by omega⟩ (Heap.Le.refl _) rfl ?_
  intro s f ⟨hs, hall⟩
  have hn2 : n = 1 ∨ n = 2 ∨ n = 3 ∨ n = 4 := hn
  rcases Int.lt_or_le (s : Int) n with t0 | t0
  · have hi : s < 4 := by omega
    have t1 : (0 : Int) ≤ (s : Int) := by omega
    have t2 : (s : Int) < 4 := by omega
    have t3 : ((s : Nat) : Int).toNat = s := rfl
    have t4 : s * 1 = s := Nat.mul_one s
    have ra : ([.int .i32 (a 0), .int .i32 (a 1), .int .i32 (a 2), .int .i32 (a 3)] : List Value)[s]? = some (.int .i32 (a s)) := vc_at a hi
    have rb : ([.int .i32 (b 0), .int .i32 (b 1), .int .i32 (b 2), .int .i32 (b 3)] : List Value)[s]? = some (.int .i32 (b s)) := vc_at b hi
    have t5 : IntKind.i64.wrap ((s : Int) + 1) = ((s + 1 : Nat) : Int) := by rw [Bw.1 _ (by omega) (by omega)]; simp
    have mu : (n - ((s + 1 : Nat) : Int)).toNat < (n - (s : Int)).toNat ∧ ((s + 1 : Nat) : Int) ≤ n := by omega
    by_cases he : a s = b s
    · have nx : ∀ j, j < s + 1 → a j = b j := fun j hj => by
        rcases Nat.lt_or_ge j s with h' | h'
        · exact hall j h'
        · obtain rfl : j = s := by omega
          exact he
      replace mu : Keep _ := mu
      replace nx : Keep _ := nx
      clear hall hn2 hs
      (all_goals (try simp only [S0,putAt,List.replicate,Int.reduceAdd,Int.reduceSub,Int.reduceMul,Int.reduceTDiv,Int.reduceTMod,Int.reduceMod,Int.reduceDiv,Nat.reduceLT,Nat.reduceEqDiff,Int.reduceLE,Int.reduceLT,Int.reduceToNat,Int.reduceNeg,Int.reduceEq,Nat.reduceLeDiff,Nat.reducePow,Int.reducePow,reduceIte,Nat.reduceSub,Nat.reduceAdd,Nat.reduceMul, *])); repeat' ((first | (with_reducible refine fun _ : True => ?_) | (with_reducible refine any_h ?_) | ((first | refine AllocQ_i ?_ | refine AllocO_i ?_); intro bk hb0 hbk; (try simp only [set_none'] at hbk)) | ((first | refine condS_i ?_ ?_ | refine pick_i ?_ ?_ | refine gS_it ?_ ?_ | refine gS_if ?_ ?_ | refine gP_it ?_ ?_ | refine gP_if ?_ ?_) <;> (intro hc; try simp only [Int.reduceLE,Int.reduceLT,Int.reduceEq,Sn] at hc)) | (with_reducible refine KP_i ?_ ?_; · exact aL) | (with_reducible refine And.intro ?_ ?_)) <;> (try simp only [S0,putAt,List.replicate,Int.reduceAdd,Int.reduceSub,Int.reduceMul,Int.reduceTDiv,Int.reduceTMod,Int.reduceMod,Int.reduceDiv,Nat.reduceLT,Nat.reduceEqDiff,Int.reduceLE,Int.reduceLT,Int.reduceToNat,Int.reduceNeg,Int.reduceEq,Nat.reduceLeDiff,Nat.reducePow,Int.reducePow,reduceIte,Nat.reduceSub,Nat.reduceAdd,Nat.reduceMul, *]))
      exact Round_mk (s + 1) ⟨mu.2, nx⟩ mu.1 (Heap.Le.refl _) rfl rfl
    · have no := (show ∀ s : Nat, (s : Int) < n → s < 4 → a s ≠ b s → Keep (K (.bool false) H) from no) s t0 hi he
      clear hall hn2 hs mu
      (all_goals (try simp only [S0,putAt,List.replicate,Int.reduceAdd,Int.reduceSub,Int.reduceMul,Int.reduceTDiv,Int.reduceTMod,Int.reduceMod,Int.reduceDiv,Nat.reduceLT,Nat.reduceEqDiff,Int.reduceLE,Int.reduceLT,Int.reduceToNat,Int.reduceNeg,Int.reduceEq,Nat.reduceLeDiff,Nat.reducePow,Int.reducePow,reduceIte,Nat.reduceSub,Nat.reduceAdd,Nat.reduceMul, *])); repeat' ((first | (with_reducible refine fun _ : True => ?_) | (with_reducible refine any_h ?_) | ((first | refine AllocQ_i ?_ | refine AllocO_i ?_); intro bk hb0 hbk; (try simp only [set_none'] at hbk)) | ((first | refine condS_i ?_ ?_ | refine pick_i ?_ ?_ | refine gS_it ?_ ?_ | refine gS_if ?_ ?_ | refine gP_it ?_ ?_ | refine gP_if ?_ ?_) <;> (intro hc; try simp only [Int.reduceLE,Int.reduceLT,Int.reduceEq,Sn] at hc)) | (with_reducible refine KP_i ?_ ?_; · exact aL) | (with_reducible refine And.intro ?_ ?_)) <;> (try simp only [S0,putAt,List.replicate,Int.reduceAdd,Int.reduceSub,Int.reduceMul,Int.reduceTDiv,Int.reduceTMod,Int.reduceMod,Int.reduceDiv,Nat.reduceLT,Nat.reduceEqDiff,Int.reduceLE,Int.reduceLT,Int.reduceToNat,Int.reduceNeg,Int.reduceEq,Nat.reduceLeDiff,Nat.reducePow,Int.reducePow,reduceIte,Nat.reduceSub,Nat.reduceAdd,Nat.reduceMul, *]))
      exact Fin_mk aL no
  · have yes := (show (∀ j : Nat, (j : Int) < n → a j = b j) → Keep (K (.bool true) H) from yes) fun j hj => hall j (by omega)
    have t1 : ¬ (s : Int) < n := by omega
    clear hn2 hs hall t0
    (all_goals (try simp only [S0,putAt,List.replicate,Int.reduceAdd,Int.reduceSub,Int.reduceMul,Int.reduceTDiv,Int.reduceTMod,Int.reduceMod,Int.reduceDiv,Nat.reduceLT,Nat.reduceEqDiff,Int.reduceLE,Int.reduceLT,Int.reduceToNat,Int.reduceNeg,Int.reduceEq,Nat.reduceLeDiff,Nat.reducePow,Int.reducePow,reduceIte,Nat.reduceSub,Nat.reduceAdd,Nat.reduceMul, *])); repeat' ((first | (with_reducible refine fun _ : True => ?_) | (with_reducible refine any_h ?_) | ((first | refine AllocQ_i ?_ | refine AllocO_i ?_); intro bk hb0 hbk; (try simp only [set_none'] at hbk)) | ((first | refine condS_i ?_ ?_ | refine pick_i ?_ ?_ | refine gS_it ?_ ?_ | refine gS_if ?_ ?_ | refine gP_it ?_ ?_ | refine gP_if ?_ ?_) <;> (intro hc; try simp only [Int.reduceLE,Int.reduceLT,Int.reduceEq,Sn] at hc)) | (with_reducible refine KP_i ?_ ?_; · exact aL) | (with_reducible refine And.intro ?_ ?_)) <;> (try simp only [S0,putAt,List.replicate,Int.reduceAdd,Int.reduceSub,Int.reduceMul,Int.reduceTDiv,Int.reduceTMod,Int.reduceMod,Int.reduceDiv,Nat.reduceLT,Nat.reduceEqDiff,Int.reduceLE,Int.reduceLT,Int.reduceToNat,Int.reduceNeg,Int.reduceEq,Nat.reduceLeDiff,Nat.reducePow,Int.reducePow,reduceIte,Nat.reduceSub,Nat.reduceAdd,Nat.reduceMul, *]))
    exact Fin_mk aL yes
theorem K_t1 {x y : Int} (h : K (VV (t1V x)) H) (e : y = x) : K (.agg #[.int .i32 y, .int .i32 0, .int .i32 0, .int .i32 0]) H := by subst e; exact h
theorem compV_y {fn : Int} (x y : Int) (h : 1 ≤ fn ∧ fn ≤ 10) : compV fn x y = compV fn x 0 := by
  rcases (by omega : fn = 1 ∨ fn = 2 ∨ fn = 3 ∨ fn = 4 ∨ fn = 5 ∨ fn = 6 ∨ fn = 7 ∨ fn = 8 ∨ fn = 9 ∨ fn = 10) with rfl | rfl | rfl | rfl | rfl | rfl | rfl | rfl | rfl | rfl <;> simp [compV]
theorem compV_t {fn : Int} (x y : Int) (h : 12 ≤ fn ∧ fn ≤ 14) : compV fn x y = vtwo (fn - 8) x y := by
  rcases (by omega : fn = 12 ∨ fn = 13 ∨ fn = 14) with rfl | rfl | rfl <;> simp [compV]
theorem compV_28 (x y : Int) : compV 28 x y = fneg x := by simp [compV, vone]
theorem compV_15 (x y : Int) : compV 15 x y = (if x ≤ 0 then 0 else expo (fmul y (flog x))) := by simp [compV]
theorem compV_16 (x y : Int) : compV 16 x y = vtwo 7 x y := by simp [compV]
theorem r_ApplyT (fn bs n : Int) (a b c : Nat → Int) (hn : n = 1 ∨ n = 2 ∨ n = 3 ∨ n = 4) (hq : fn = 29 ∨ fn = 30 ∨ fn = 31 ∨ fn = 32) (h : K (VV (t1V (if askV fn n a b then 1 else 0))) H) :
    HCalls Tryz.prog w0 33 [.int .i64 fn, .int .i64 bs, .int .i64 n, VV a, VV b, VV c] H K := by
  rcases hq with rfl | rfl | rfl | rfl
  all_goals
    simp only [askV, Int.reduceEq, if_true, if_false, reduceIte] at h
    replace h : Keep _ := h
    refine HL.hc k33 999 ?_; unfold M33
    (all_goals (try simp only [S0,putAt,List.replicate,Int.reduceAdd,Int.reduceSub,Int.reduceMul,Int.reduceTDiv,Int.reduceTMod,Int.reduceMod,Int.reduceDiv,Nat.reduceLT,Nat.reduceEqDiff,Int.reduceLE,Int.reduceLT,Int.reduceToNat,Int.reduceNeg,Int.reduceEq,Nat.reduceLeDiff,Nat.reducePow,Int.reducePow,reduceIte,Nat.reduceSub,Nat.reduceAdd,Nat.reduceMul, *])); repeat' ((first | (with_reducible refine fun _ : True => ?_) | refine r_tru _ ?_ | (with_reducible refine any_h ?_) | ((first | refine AllocQ_i ?_ | refine AllocO_i ?_); intro bk hb0 hbk; (try simp only [set_none'] at hbk)) | ((first | refine condS_i ?_ ?_ | refine pick_i ?_ ?_ | refine gS_it ?_ ?_ | refine gS_if ?_ ?_ | refine gP_it ?_ ?_ | refine gP_if ?_ ?_) <;> (intro hc; try simp only [Int.reduceLE,Int.reduceLT,Int.reduceEq,Sn] at hc)) | (with_reducible refine KP_i ?_ ?_; · exact aL) | (with_reducible refine And.intro ?_ ?_)) <;> (try simp only [S0,putAt,List.replicate,Int.reduceAdd,Int.reduceSub,Int.reduceMul,Int.reduceTDiv,Int.reduceTMod,Int.reduceMod,Int.reduceDiv,Nat.reduceLT,Nat.reduceEqDiff,Int.reduceLE,Int.reduceLT,Int.reduceToNat,Int.reduceNeg,Int.reduceEq,Nat.reduceLeDiff,Nat.reducePow,Int.reducePow,reduceIte,Nat.reduceSub,Nat.reduceAdd,Nat.reduceMul, *]))
    exact Fin_mk aL (K_t1 h (by first | rfl | (simp; done)))
theorem r_ApplyU (fn bs n : Int) (a b c : Nat → Int) (hn : n = 1 ∨ n = 2 ∨ n = 3 ∨ n = 4) (hq : fn = 33 ∨ fn = 34 ∨ fn = 35) (h : K (VV (t1V (if askV fn n a b then 1 else 0))) H) :
    HCalls Tryz.prog w0 33 [.int .i64 fn, .int .i64 bs, .int .i64 n, VV a, VV b, VV c] H K := by
  have i1 := fun (G : Heap) (K' : Value → Heap → Prop) => r_alike (w0 := w0) (H := G) (K := K') n a b hn
  replace i1 : Keep _ := i1
  rcases hq with rfl | rfl | rfl
  all_goals
    simp only [askV, Int.reduceEq, if_true, if_false, reduceIte] at h
    replace h : Keep _ := h
    refine HL.hc k33 999 ?_; unfold M33
    (all_goals (try simp only [S0,putAt,List.replicate,Int.reduceAdd,Int.reduceSub,Int.reduceMul,Int.reduceTDiv,Int.reduceTMod,Int.reduceMod,Int.reduceDiv,Nat.reduceLT,Nat.reduceEqDiff,Int.reduceLE,Int.reduceLT,Int.reduceToNat,Int.reduceNeg,Int.reduceEq,Nat.reduceLeDiff,Nat.reducePow,Int.reducePow,reduceIte,Nat.reduceSub,Nat.reduceAdd,Nat.reduceMul, *])); repeat' ((first | (with_reducible refine fun _ : True => ?_) | refine i1 _ _ ?_ | refine r_tru _ ?_ | (with_reducible refine any_h ?_) | ((first | refine AllocQ_i ?_ | refine AllocO_i ?_); intro bk hb0 hbk; (try simp only [set_none'] at hbk)) | ((first | refine condS_i ?_ ?_ | refine pick_i ?_ ?_ | refine gS_it ?_ ?_ | refine gS_if ?_ ?_ | refine gP_it ?_ ?_ | refine gP_if ?_ ?_) <;> (intro hc; try simp only [Int.reduceLE,Int.reduceLT,Int.reduceEq,Sn] at hc)) | (with_reducible refine KP_i ?_ ?_; · exact aL) | (with_reducible refine And.intro ?_ ?_)) <;> (try simp only [S0,putAt,List.replicate,Int.reduceAdd,Int.reduceSub,Int.reduceMul,Int.reduceTDiv,Int.reduceTMod,Int.reduceMod,Int.reduceDiv,Nat.reduceLT,Nat.reduceEqDiff,Int.reduceLE,Int.reduceLT,Int.reduceToNat,Int.reduceNeg,Int.reduceEq,Nat.reduceLeDiff,Nat.reducePow,Int.reducePow,reduceIte,Nat.reduceSub,Nat.reduceAdd,Nat.reduceMul, *]))
    exact Fin_mk aL (K_t1 h (by first | rfl | (simp; done) | (cases alk n a b <;> rfl)))
theorem r_ApplyV (fn bs n : Int) (a b c : Nat → Int) (ha : ∀ i, I32 (a i)) (hb : ∀ i, I32 (b i)) (hc : ∀ i, I32 (c i)) (hn4 : 1 ≤ n ∧ n ≤ 4) (hq : fn = 11 ∨ fn = 17 ∨ fn = 18) (h : K (VV (floV fn n a b c)) H) :
    HCalls Tryz.prog w0 33 [.int .i64 fn, .int .i64 bs, .int .i64 n, VV a, VV b, VV c] H K := by
  have i1 := fun (G : Heap) (K' : Value → Heap → Prop) => r_Normalize (w0 := w0) (H := G) (K := K') a n ha
  have i2 := fun (G : Heap) (K' : Value → Heap → Prop) => r_Mix (w0 := w0) (H := G) (K := K') n a b c hn4 ha hb hc
  have i3 := fun (G : Heap) (K' : Value → Heap → Prop) => r_Clamp (w0 := w0) (H := G) (K := K') n a b c hn4 ha hb hc
  replace i1 : Keep _ := i1
  replace i2 : Keep _ := i2
  replace i3 : Keep _ := i3
  clear ha hb hc hn4
  rcases hq with rfl | rfl | rfl
  all_goals
    simp only [floV, Int.reduceEq, if_true, if_false, reduceIte] at h
    replace h : Keep _ := h
    refine HL.hc k33 999 ?_; unfold M33
    (all_goals (try simp only [S0,putAt,List.replicate,Int.reduceAdd,Int.reduceSub,Int.reduceMul,Int.reduceTDiv,Int.reduceTMod,Int.reduceMod,Int.reduceDiv,Nat.reduceLT,Nat.reduceEqDiff,Int.reduceLE,Int.reduceLT,Int.reduceToNat,Int.reduceNeg,Int.reduceEq,Nat.reduceLeDiff,Nat.reducePow,Int.reducePow,reduceIte,Nat.reduceSub,Nat.reduceAdd,Nat.reduceMul, *])); repeat' ((first | (with_reducible refine fun _ : True => ?_) | refine i1 _ _ ?_ | refine i2 _ _ ?_ | refine i3 _ _ ?_ | (with_reducible refine any_h ?_) | ((first | refine AllocQ_i ?_ | refine AllocO_i ?_); intro bk hb0 hbk; (try simp only [set_none'] at hbk)) | ((first | refine condS_i ?_ ?_ | refine pick_i ?_ ?_ | refine gS_it ?_ ?_ | refine gS_if ?_ ?_ | refine gP_it ?_ ?_ | refine gP_if ?_ ?_) <;> (intro hc; try simp only [Int.reduceLE,Int.reduceLT,Int.reduceEq,Sn] at hc)) | (with_reducible refine KP_i ?_ ?_; · exact aL) | (with_reducible refine And.intro ?_ ?_)) <;> (try simp only [S0,putAt,List.replicate,Int.reduceAdd,Int.reduceSub,Int.reduceMul,Int.reduceTDiv,Int.reduceTMod,Int.reduceMod,Int.reduceDiv,Nat.reduceLT,Nat.reduceEqDiff,Int.reduceLE,Int.reduceLT,Int.reduceToNat,Int.reduceNeg,Int.reduceEq,Nat.reduceLeDiff,Nat.reducePow,Int.reducePow,reduceIte,Nat.reduceSub,Nat.reduceAdd,Nat.reduceMul, *]))
    exact Fin_mk aL h
theorem r_ApplyW (fn bs n : Int) (a b c : Nat → Int) (ha : ∀ i, I32 (a i)) (hb : ∀ i, I32 (b i)) (hn4 : 1 ≤ n ∧ n ≤ 4) (hq : fn = 19 ∨ fn = 20 ∨ fn = 21) (h : K (VV (floV fn n a b c)) H) :
    HCalls Tryz.prog w0 33 [.int .i64 fn, .int .i64 bs, .int .i64 n, VV a, VV b, VV c] H K := by
  have i4 := fun (G : Heap) (K' : Value → Heap → Prop) => r_Dot (w0 := w0) (H := G) (K := K') n a b hn4 ha hb
  have i5 := fun (G : Heap) (K' : Value → Heap → Prop) => r_Length (w0 := w0) (H := G) (K := K') a n ha
  have i6 := fun (G : Heap) (K' : Value → Heap → Prop) => r_Cross (w0 := w0) (H := G) (K := K') a b ha hb
  replace i4 : Keep _ := i4
  replace i5 : Keep _ := i5
  replace i6 : Keep _ := i6
  clear ha hb hn4
  rcases hq with rfl | rfl | rfl
  all_goals
    simp only [floV, Int.reduceEq, if_true, if_false, reduceIte] at h
    replace h : Keep _ := h
    refine HL.hc k33 999 ?_; unfold M33
    (all_goals (try simp only [S0,putAt,List.replicate,Int.reduceAdd,Int.reduceSub,Int.reduceMul,Int.reduceTDiv,Int.reduceTMod,Int.reduceMod,Int.reduceDiv,Nat.reduceLT,Nat.reduceEqDiff,Int.reduceLE,Int.reduceLT,Int.reduceToNat,Int.reduceNeg,Int.reduceEq,Nat.reduceLeDiff,Nat.reducePow,Int.reducePow,reduceIte,Nat.reduceSub,Nat.reduceAdd,Nat.reduceMul, *])); repeat' ((first | (with_reducible refine fun _ : True => ?_) | refine i4 _ _ ?_ | refine i5 _ _ ?_ | refine i6 _ _ ?_ | (with_reducible refine any_h ?_) | ((first | refine AllocQ_i ?_ | refine AllocO_i ?_); intro bk hb0 hbk; (try simp only [set_none'] at hbk)) | ((first | refine condS_i ?_ ?_ | refine pick_i ?_ ?_ | refine gS_it ?_ ?_ | refine gS_if ?_ ?_ | refine gP_it ?_ ?_ | refine gP_if ?_ ?_) <;> (intro hc; try simp only [Int.reduceLE,Int.reduceLT,Int.reduceEq,Sn] at hc)) | (with_reducible refine KP_i ?_ ?_; · exact aL) | (with_reducible refine And.intro ?_ ?_)) <;> (try simp only [S0,putAt,List.replicate,Int.reduceAdd,Int.reduceSub,Int.reduceMul,Int.reduceTDiv,Int.reduceTMod,Int.reduceMod,Int.reduceDiv,Nat.reduceLT,Nat.reduceEqDiff,Int.reduceLE,Int.reduceLT,Int.reduceToNat,Int.reduceNeg,Int.reduceEq,Nat.reduceLeDiff,Nat.reducePow,Int.reducePow,reduceIte,Nat.reduceSub,Nat.reduceAdd,Nat.reduceMul, *]))
    exact Fin_mk aL h
theorem r_Apply (fn bs n : Int) (a b c : Nat → Int) (ha : ∀ i, I32 (a i)) (hb : ∀ i, I32 (b i)) (hc : ∀ i, I32 (c i)) (hok : ¬ args fn bs = 0) (hn4 : 1 ≤ n ∧ n ≤ 4) (h : K (VV (doV fn bs n a b c)) H) :
    HCalls Tryz.prog w0 33 [.int .i64 fn, .int .i64 bs, .int .i64 n, VV a, VV b, VV c] H K := by
  have hn : n = 1 ∨ n = 2 ∨ n = 3 ∨ n = 4 := by omega
  rcases args_fn hok with hf | ⟨hf, rfl, hf2⟩ | ⟨hf, hb2, hf2⟩ | ⟨hf, hb2, hf3, hf2⟩
  · have e : doV fn bs n a b c = t1V (if askV fn n a b then 1 else 0) := by unfold doV; rw [if_pos hf]
    rw [e] at h
    rcases (by omega : (fn = 29 ∨ fn = 30 ∨ fn = 31 ∨ fn = 32) ∨ (fn = 33 ∨ fn = 34 ∨ fn = 35)) with hq | hq
    · exact r_ApplyT fn bs n a b c hn hq h
    · exact r_ApplyU fn bs n a b c hn hq h
  · have e : doV fn 2 n a b c = fst n (fun i => wI fn (a i) (b i)) := by unfold doV; rw [if_neg hf, if_pos rfl]
    rw [e] at h
    exact r_loop fn 2 n a b c _ hn4 ha hb (.inl ⟨rfl, by omega, fun i G K' hi hk => r_whole fn _ _ (ha i) (hb i) (by omega) hk⟩) h
  · have e : doV fn bs n a b c = fst n (fun i => vtwo (fn - 24) (a i) (b i)) := by unfold doV; rw [if_neg hf, if_neg hb2, if_pos hf2]
    rw [e] at h
    exact r_loop fn bs n a b c _ hn4 ha hb (.inr (.inl ⟨hb2, hf2, fun i G K' hi hk => r_Two (fn - 24) _ _ (by omega) (ha i) (hb i) hk⟩)) h
  · have e : doV fn bs n a b c = floV fn n a b c := by unfold doV; rw [if_neg hf, if_neg hb2, if_neg hf3]
    rw [e] at h
    clear e
    have hq : (fn = 11 ∨ fn = 17 ∨ fn = 18) ∨ (fn = 19 ∨ fn = 20 ∨ fn = 21) ∨ (¬ (fn = 11 ∨ fn = 17 ∨ fn = 18 ∨ fn = 19 ∨ fn = 20 ∨ fn = 21) ∧ (fn = 28 ∨ fn = 15 ∨ (12 ≤ fn ∧ fn ≤ 14) ∨ fn = 16 ∨ (1 ≤ fn ∧ fn ≤ 10))) := by omega
    rcases hq with hq | hq | ⟨hne, hq⟩
    · exact r_ApplyV fn bs n a b c ha hb hc hn4 hq h
    · exact r_ApplyW fn bs n a b c ha hb hn4 hq h
    · have e : floV fn n a b c = fst n (fun i => compV fn (a i) (b i)) := by
        unfold floV
        rw [if_neg (by omega), if_neg (by omega), if_neg (by omega), if_neg (by omega), if_neg (by omega), if_neg (by omega)]
      rw [e] at h
      refine r_loop fn bs n a b c _ hn4 ha hb ?_ h
      rcases hq with rfl | rfl | hq | rfl | hq
      · exact .inr (.inr (.inl ⟨hb2, rfl, fun i G K' hi hk => r_Neg _ (ha i) (by rw [← compV_28 (a i) (b i)]; exact hk)⟩))
      · exact .inr (.inr (.inr (.inl ⟨hb2, rfl, fun i G K' hi hk => r_Pow _ _ (ha i) (hb i) (by rw [← compV_15]; exact hk)⟩)))
      · refine .inr (.inr (.inr (.inr (.inl ⟨hb2, hq, fun i G K' hi hk => r_Two (fn - 8) _ _ (by omega) (ha i) (hb i) ?_⟩))))
        rw [← compV_t _ _ hq]; exact hk
      · exact .inr (.inr (.inr (.inr (.inr (.inl ⟨hb2, rfl, fun i G K' hi hk => r_Two 7 _ _ (by decide) (ha i) (hb i) (by rw [← compV_16]; exact hk)⟩)))))
      · refine .inr (.inr (.inr (.inr (.inr (.inr ⟨hb2, hq, fun i G K' hi hk => r_single fn _ (ha i) hq ?_⟩)))))
        rw [← compV_y (a i) (b i) hq]; exact hk
end Go.Proofs.YtdmnfaefakceiaaGreat
