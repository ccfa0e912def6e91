/- Smu Smv -/
import Derived.Test.YtdmnfaefakceiaaGreatSga
section
/- Formats of pixels (layer 18). -/
set_option linter.unusedSimpArgs false
set_option linter.unusedVariables false
set_option maxRecDepth 100000
set_option maxHeartbeats 8000000
namespace Go.Proofs.YtdmnfaefakceiaaGreat.Sm
open Go.HL Go.RowKit Pb
variable {w0 : World} {H : Heap} {K : Value → Heap → Prop}

theorem or_shift (a c : Int) (k : Nat) (h0 : 0 ≤ a) (h1 : a < 2 ^ k) (h2 : 0 ≤ c) (h3 : a + c * 2 ^ k < 4294967296) : bitsI .or .u32 a (c * 2 ^ k) = a + c * 2 ^ k := by
  obtain ⟨m, rfl⟩ := Int.eq_ofNat_of_zero_le h0
  obtain ⟨n, rfl⟩ := Int.eq_ofNat_of_zero_le h2
  have e : ((n : Int) * 2 ^ k) = ((2 ^ k * n : Nat) : Int) := by rw [Int.natCast_mul, Int.natCast_pow, Int.mul_comm]; rfl
  rw [e] at h3 ⊢
  have h4 : m < 2 ^ k := by
    have : ((2 ^ k : Nat) : Int) = (2 : Int) ^ k := by simp
    omega
  rw [or_u32 m (2 ^ k * n) (by omega) (by omega), Nat.or_comm, ← Nat.two_pow_add_eq_or_of_lt h4]
  omega
theorem and_mask (a : Int) (k : Nat) (h0 : 0 ≤ a) (h1 : a < 4294967296) (hk : k ≤ 32) : bitsI .and .u32 a (2 ^ k - 1) = a % 2 ^ k := by
  obtain ⟨m, rfl⟩ := Int.eq_ofNat_of_zero_le h0
  have hp : 0 < 2 ^ k := Nat.two_pow_pos k
  have e : ((2 : Int) ^ k - 1) = ((2 ^ k - 1 : Nat) : Int) := by rw [Int.natCast_sub hp]; simp
  have e2 : ((2 : Int) ^ k) = ((2 ^ k : Nat) : Int) := by simp
  have hk2 : 2 ^ k ≤ 4294967296 := Nat.pow_le_pow_right (n := 2) (by omega) hk
  rw [e, e2]
  show IntKind.u32.wrap ((BitVec.ofInt 32 m &&& BitVec.ofInt 32 ((2 ^ k - 1 : Nat) : Int)).toNat : Int) = _
  rw [BitVec.toNat_and, ofInt_nat 32 m (by omega), ofInt_nat 32 _ (by omega), Nat.and_two_pow_sub_one_eq_mod]
  have := Nat.mod_lt m hp
  rw [Bu.2.1 _ (by omega) (by omega)]
  omega
/-- The number of k bits. -/
def numI (x : Int) (k : Nat) : Int := (x * 65536 + (2 ^ k - 1) / 2) / (2 ^ k - 1)
def chan (X : Int) (sh k : Nat) : Int := numI (X / 2 ^ sh % 2 ^ k) k
def unp (f X : Int) : Nat → Int := fun i =>
  if f = 1 then (if i = 0 then chan X 0 8 else if i = 1 then chan X 8 8 else if i = 2 then chan X 16 8 else chan X 24 8)
  else if f = 2 then (if i = 0 then chan X 11 5 else if i = 1 then chan X 5 6 else if i = 2 then chan X 0 5 else 65536)
  else if f = 3 then (if i = 0 then chan X 12 4 else if i = 1 then chan X 8 4 else if i = 2 then chan X 4 4 else chan X 0 4)
  else if f = 4 then (if i = 0 then chan X 11 5 else if i = 1 then chan X 6 5 else if i = 2 then chan X 1 5 else chan X 0 1)
  else if f = 5 then (if i = 0 then chan X 0 8 else if i = 1 then chan X 0 8 else if i = 2 then chan X 0 8 else 65536)
  else if f = 6 then (if i = 0 then 0 else if i = 1 then 0 else if i = 2 then 0 else chan X 0 8)
  else if f = 7 then (if i = 0 then chan X 0 8 else if i = 1 then chan X 0 8 else if i = 2 then chan X 0 8 else chan X 8 8)
  else 0
abbrev V4 (v : Nat → Int) : Value := .agg #[.int .i32 (v 0), .int .i32 (v 1), .int .i32 (v 2), .int .i32 (v 3)]
theorem numI_le {x : Int} {k : Nat} (hk : k = 1 ∨ k = 4 ∨ k = 5 ∨ k = 6 ∨ k = 8) (h0 : 0 ≤ x) (h1 : x < 2 ^ k) : 0 ≤ numI x k ∧ numI x k ≤ 65536 := by
  unfold numI
  rcases hk with rfl | rfl | rfl | rfl | rfl <;> simp at h1 ⊢ <;> omega
theorem chan_le {X : Int} {sh k : Nat} (hk : k = 1 ∨ k = 4 ∨ k = 5 ∨ k = 6 ∨ k = 8) : 0 ≤ chan X sh k ∧ chan X sh k ≤ 65536 := by
  unfold chan
  have hp : (0 : Int) < 2 ^ k := Int.pow_pos (by omega)
  exact numI_le hk (Int.emod_nonneg _ (by omega)) (Int.emod_lt_of_pos _ hp)
/- pixel number -/
def M181 : MC :=
  .seq (.reg [oX 4 (.mv (.const (.int .i32 0)))])
 (.seq (.reg [vX 6 1,
 oX 7 (.bin .shl (kX 1) (.tmp 6)),
 oX 8 (bK .sub 7 1),
 vX 5 8])
 (.seq (.reg [vX 9 0,
 oX 10 (.conv .i64 (.tmp 9)),
 oX 11 (bK .mul 10 65536),
 vX 12 5,
 oX 13 (bK .quo 12 2),
 oX 14 (bX .add 11 13),
 vX 15 5,
 oX 16 (bX .quo 14 15),
 oX 17 (.conv .i32 (.tmp 16)),
 vX 4 17])
 (.ret)))
theorem k181 : fnOk Tryz.prog 181 = some (M181, [.t 4], 18) := by kernel_rfl

theorem c_number (x : Int) (k : Nat) (hk : k = 1 ∨ k = 4 ∨ k = 5 ∨ k = 6 ∨ k = 8) (h0 : 0 ≤ x) (h1 : x < 2 ^ k) (h : K (.int .i32 (numI x k)) H) : HCalls Tryz.prog w0 181 [.int .u32 x, .int .i64 (k : Nat)] H K := by
  have hb := numI_le hk h0 h1
  have hn : IntKind.i32.wrap (numI x k) = numI x k := Bw.2 _ (by omega) (by omega)
  have key : ∀ y : Int, y = numI x k → K (.int .i32 y) H := fun y e => by subst e; exact h
  clear h
  rcases hk with rfl | rfl | rfl | rfl | rfl
  · simp at h1
    have e1 : IntKind.i64.wrap x = x := Bw.1 _ (by omega) (by omega)
    have e2 : IntKind.i64.wrap (x * 65536) = x * 65536 := Bw.1 _ (by omega) (by omega)
    clear hb hn
    refine HL.hc k181 999 ?_; unfold M181
    (all_goals (try simp only [S0,putAt,List.replicate,Int.reduceAdd,Int.reduceSub,Int.reduceMul,Int.reduceTDiv,Int.reduceTMod,Int.reduceMod,Int.reduceDiv,Nat.reduceLT,Nat.reduceEqDiff,Int.reduceLE,Int.reduceLT,Int.reduceToNat,Int.reduceNeg,Int.reduceEq,Nat.reduceLeDiff,Nat.reducePow,Int.reducePow,reduceIte,Nat.reduceSub,Nat.reduceAdd,Nat.reduceMul, *])); repeat' ((first | (with_reducible refine fun _ : True => ?_) | (with_reducible refine any_h ?_) | ((first | refine AllocQ_i ?_ | refine AllocO_i ?_); intro bk hb0 hbk; try simp only [set_none'] at hbk) | ((first | refine condS_i ?_ ?_ | refine pick_i ?_ ?_ | refine gS_it ?_ ?_ | refine gS_if ?_ ?_ | refine gP_it ?_ ?_ | refine gP_if ?_ ?_) <;> (intro hc; try simp only [Int.reduceLE,Int.reduceLT,Int.reduceEq,Sn] at hc)) | (with_reducible refine KP_i ?_ ?_; · exact aE) | (with_reducible refine And.intro ?_ ?_)) <;> (try simp only [S0,putAt,List.replicate,Int.reduceAdd,Int.reduceSub,Int.reduceMul,Int.reduceTDiv,Int.reduceTMod,Int.reduceMod,Int.reduceDiv,Nat.reduceLT,Nat.reduceEqDiff,Int.reduceLE,Int.reduceLT,Int.reduceToNat,Int.reduceNeg,Int.reduceEq,Nat.reduceLeDiff,Nat.reducePow,Int.reducePow,reduceIte,Nat.reduceSub,Nat.reduceAdd,Nat.reduceMul, *]))
    refine Fin_mk (Heap.Le.refl _) (key _ ?_)
    rw [show IntKind.i64.wrap (x * 65536 + 0) = x * 65536 + 0 from Bw.1 _ (by omega) (by omega), Int.tdiv_eq_ediv_of_nonneg (by omega), Bw.1 _ (by omega) (by omega), Bw.2 _ (by omega) (by omega)]
    simp [numI]
  · simp at h1
    have e1 : IntKind.i64.wrap x = x := Bw.1 _ (by omega) (by omega)
    have e2 : IntKind.i64.wrap (x * 65536) = x * 65536 := Bw.1 _ (by omega) (by omega)
    clear hb hn
    refine HL.hc k181 999 ?_; unfold M181
    (all_goals (try simp only [S0,putAt,List.replicate,Int.reduceAdd,Int.reduceSub,Int.reduceMul,Int.reduceTDiv,Int.reduceTMod,Int.reduceMod,Int.reduceDiv,Nat.reduceLT,Nat.reduceEqDiff,Int.reduceLE,Int.reduceLT,Int.reduceToNat,Int.reduceNeg,Int.reduceEq,Nat.reduceLeDiff,Nat.reducePow,Int.reducePow,reduceIte,Nat.reduceSub,Nat.reduceAdd,Nat.reduceMul, *])); repeat' ((first | (with_reducible refine fun _ : True => ?_) | (with_reducible refine any_h ?_) | ((first | refine AllocQ_i ?_ | refine AllocO_i ?_); intro bk hb0 hbk; try simp only [set_none'] at hbk) | ((first | refine condS_i ?_ ?_ | refine pick_i ?_ ?_ | refine gS_it ?_ ?_ | refine gS_if ?_ ?_ | refine gP_it ?_ ?_ | refine gP_if ?_ ?_) <;> (intro hc; try simp only [Int.reduceLE,Int.reduceLT,Int.reduceEq,Sn] at hc)) | (with_reducible refine KP_i ?_ ?_; · exact aE) | (with_reducible refine And.intro ?_ ?_)) <;> (try simp only [S0,putAt,List.replicate,Int.reduceAdd,Int.reduceSub,Int.reduceMul,Int.reduceTDiv,Int.reduceTMod,Int.reduceMod,Int.reduceDiv,Nat.reduceLT,Nat.reduceEqDiff,Int.reduceLE,Int.reduceLT,Int.reduceToNat,Int.reduceNeg,Int.reduceEq,Nat.reduceLeDiff,Nat.reducePow,Int.reducePow,reduceIte,Nat.reduceSub,Nat.reduceAdd,Nat.reduceMul, *]))
    refine Fin_mk (Heap.Le.refl _) (key _ ?_)
    rw [show IntKind.i64.wrap (x * 65536 + 7) = x * 65536 + 7 from Bw.1 _ (by omega) (by omega), Int.tdiv_eq_ediv_of_nonneg (by omega), Bw.1 _ (by omega) (by omega), Bw.2 _ (by omega) (by omega)]
    simp [numI]
  · simp at h1
    have e1 : IntKind.i64.wrap x = x := Bw.1 _ (by omega) (by omega)
    have e2 : IntKind.i64.wrap (x * 65536) = x * 65536 := Bw.1 _ (by omega) (by omega)
    clear hb hn
    refine HL.hc k181 999 ?_; unfold M181
    (all_goals (try simp only [S0,putAt,List.replicate,Int.reduceAdd,Int.reduceSub,Int.reduceMul,Int.reduceTDiv,Int.reduceTMod,Int.reduceMod,Int.reduceDiv,Nat.reduceLT,Nat.reduceEqDiff,Int.reduceLE,Int.reduceLT,Int.reduceToNat,Int.reduceNeg,Int.reduceEq,Nat.reduceLeDiff,Nat.reducePow,Int.reducePow,reduceIte,Nat.reduceSub,Nat.reduceAdd,Nat.reduceMul, *])); repeat' ((first | (with_reducible refine fun _ : True => ?_) | (with_reducible refine any_h ?_) | ((first | refine AllocQ_i ?_ | refine AllocO_i ?_); intro bk hb0 hbk; try simp only [set_none'] at hbk) | ((first | refine condS_i ?_ ?_ | refine pick_i ?_ ?_ | refine gS_it ?_ ?_ | refine gS_if ?_ ?_ | refine gP_it ?_ ?_ | refine gP_if ?_ ?_) <;> (intro hc; try simp only [Int.reduceLE,Int.reduceLT,Int.reduceEq,Sn] at hc)) | (with_reducible refine KP_i ?_ ?_; · exact aE) | (with_reducible refine And.intro ?_ ?_)) <;> (try simp only [S0,putAt,List.replicate,Int.reduceAdd,Int.reduceSub,Int.reduceMul,Int.reduceTDiv,Int.reduceTMod,Int.reduceMod,Int.reduceDiv,Nat.reduceLT,Nat.reduceEqDiff,Int.reduceLE,Int.reduceLT,Int.reduceToNat,Int.reduceNeg,Int.reduceEq,Nat.reduceLeDiff,Nat.reducePow,Int.reducePow,reduceIte,Nat.reduceSub,Nat.reduceAdd,Nat.reduceMul, *]))
    refine Fin_mk (Heap.Le.refl _) (key _ ?_)
    rw [show IntKind.i64.wrap (x * 65536 + 15) = x * 65536 + 15 from Bw.1 _ (by omega) (by omega), Int.tdiv_eq_ediv_of_nonneg (by omega), Bw.1 _ (by omega) (by omega), Bw.2 _ (by omega) (by omega)]
    simp [numI]
  · simp at h1
    have e1 : IntKind.i64.wrap x = x := Bw.1 _ (by omega) (by omega)
    have e2 : IntKind.i64.wrap (x * 65536) = x * 65536 := Bw.1 _ (by omega) (by omega)
    clear hb hn
    refine HL.hc k181 999 ?_; unfold M181
    (all_goals (try simp only [S0,putAt,List.replicate,Int.reduceAdd,Int.reduceSub,Int.reduceMul,Int.reduceTDiv,Int.reduceTMod,Int.reduceMod,Int.reduceDiv,Nat.reduceLT,Nat.reduceEqDiff,Int.reduceLE,Int.reduceLT,Int.reduceToNat,Int.reduceNeg,Int.reduceEq,Nat.reduceLeDiff,Nat.reducePow,Int.reducePow,reduceIte,Nat.reduceSub,Nat.reduceAdd,Nat.reduceMul, *])); repeat' ((first | (with_reducible refine fun _ : True => ?_) | (with_reducible refine any_h ?_) | ((first | refine AllocQ_i ?_ | refine AllocO_i ?_); intro bk hb0 hbk; try simp only [set_none'] at hbk) | ((first | refine condS_i ?_ ?_ | refine pick_i ?_ ?_ | refine gS_it ?_ ?_ | refine gS_if ?_ ?_ | refine gP_it ?_ ?_ | refine gP_if ?_ ?_) <;> (intro hc; try simp only [Int.reduceLE,Int.reduceLT,Int.reduceEq,Sn] at hc)) | (with_reducible refine KP_i ?_ ?_; · exact aE) | (with_reducible refine And.intro ?_ ?_)) <;> (try simp only [S0,putAt,List.replicate,Int.reduceAdd,Int.reduceSub,Int.reduceMul,Int.reduceTDiv,Int.reduceTMod,Int.reduceMod,Int.reduceDiv,Nat.reduceLT,Nat.reduceEqDiff,Int.reduceLE,Int.reduceLT,Int.reduceToNat,Int.reduceNeg,Int.reduceEq,Nat.reduceLeDiff,Nat.reducePow,Int.reducePow,reduceIte,Nat.reduceSub,Nat.reduceAdd,Nat.reduceMul, *]))
    refine Fin_mk (Heap.Le.refl _) (key _ ?_)
    rw [show IntKind.i64.wrap (x * 65536 + 31) = x * 65536 + 31 from Bw.1 _ (by omega) (by omega), Int.tdiv_eq_ediv_of_nonneg (by omega), Bw.1 _ (by omega) (by omega), Bw.2 _ (by omega) (by omega)]
    simp [numI]
  · simp at h1
    have e1 : IntKind.i64.wrap x = x := Bw.1 _ (by omega) (by omega)
    have e2 : IntKind.i64.wrap (x * 65536) = x * 65536 := Bw.1 _ (by omega) (by omega)
    clear hb hn
    refine HL.hc k181 999 ?_; unfold M181
    (all_goals (try simp only [S0,putAt,List.replicate,Int.reduceAdd,Int.reduceSub,Int.reduceMul,Int.reduceTDiv,Int.reduceTMod,Int.reduceMod,Int.reduceDiv,Nat.reduceLT,Nat.reduceEqDiff,Int.reduceLE,Int.reduceLT,Int.reduceToNat,Int.reduceNeg,Int.reduceEq,Nat.reduceLeDiff,Nat.reducePow,Int.reducePow,reduceIte,Nat.reduceSub,Nat.reduceAdd,Nat.reduceMul, *])); repeat' ((first | (with_reducible refine fun _ : True => ?_) | (with_reducible refine any_h ?_) | ((first | refine AllocQ_i ?_ | refine AllocO_i ?_); intro bk hb0 hbk; try simp only [set_none'] at hbk) | ((first | refine condS_i ?_ ?_ | refine pick_i ?_ ?_ | refine gS_it ?_ ?_ | refine gS_if ?_ ?_ | refine gP_it ?_ ?_ | refine gP_if ?_ ?_) <;> (intro hc; try simp only [Int.reduceLE,Int.reduceLT,Int.reduceEq,Sn] at hc)) | (with_reducible refine KP_i ?_ ?_; · exact aE) | (with_reducible refine And.intro ?_ ?_)) <;> (try simp only [S0,putAt,List.replicate,Int.reduceAdd,Int.reduceSub,Int.reduceMul,Int.reduceTDiv,Int.reduceTMod,Int.reduceMod,Int.reduceDiv,Nat.reduceLT,Nat.reduceEqDiff,Int.reduceLE,Int.reduceLT,Int.reduceToNat,Int.reduceNeg,Int.reduceEq,Nat.reduceLeDiff,Nat.reducePow,Int.reducePow,reduceIte,Nat.reduceSub,Nat.reduceAdd,Nat.reduceMul, *]))
    refine Fin_mk (Heap.Le.refl _) (key _ ?_)
    rw [show IntKind.i64.wrap (x * 65536 + 127) = x * 65536 + 127 from Bw.1 _ (by omega) (by omega), Int.tdiv_eq_ediv_of_nonneg (by omega), Bw.1 _ (by omega) (by omega), Bw.2 _ (by omega) (by omega)]
    simp [numI]
theorem c_formats (h : ∀ b b1 b2 b3 b4 b5 b6 b7 H', Grow w0 H H' → H' b = some ⟨.t 167, [.int .i64 0, .slice none 0 0, .int .i32 0, .int .i32 0, .int .i32 0, .int .i32 0, .int .i64 4, .slice (some ⟨b1, 0, none⟩) 4 4, .int .i32 0, .int .i32 0, .int .i32 0, .int .i32 0, .int .i64 2, .slice (some ⟨b2, 0, none⟩) 3 3, .int .i32 0, .int .i32 0, .int .i32 0, .int .i32 65536, .int .i64 2, .slice (some ⟨b3, 0, none⟩) 4 4, .int .i32 0, .int .i32 0, .int .i32 0, .int .i32 0, .int .i64 2, .slice (some ⟨b4, 0, none⟩) 4 4, .int .i32 0, .int .i32 0, .int .i32 0, .int .i32 0, .int .i64 1, .slice (some ⟨b5, 0, none⟩) 1 1, .int .i32 0, .int .i32 0, .int .i32 0, .int .i32 65536, .int .i64 1, .slice (some ⟨b6, 0, none⟩) 1 1, .int .i32 0, .int .i32 0, .int .i32 0, .int .i32 0, .int .i64 2, .slice (some ⟨b7, 0, none⟩) 2 2, .int .i32 0, .int .i32 0, .int .i32 0, .int .i32 0]⟩ → H b1 = none → H b2 = none → H b3 = none → H b4 = none → H b5 = none → H b6 = none → H b7 = none → H' b1 = some ⟨.t 175, [.int .i64 0, .int .i64 8, .int .i64 0, .int .i64 1, .int .i64 8, .int .i64 8, .int .i64 2, .int .i64 8, .int .i64 16, .int .i64 3, .int .i64 8, .int .i64 24]⟩ → H' b2 = some ⟨.t 175, [.int .i64 0, .int .i64 5, .int .i64 11, .int .i64 1, .int .i64 6, .int .i64 5, .int .i64 2, .int .i64 5, .int .i64 0]⟩ → H' b3 = some ⟨.t 175, [.int .i64 0, .int .i64 4, .int .i64 12, .int .i64 1, .int .i64 4, .int .i64 8, .int .i64 2, .int .i64 4, .int .i64 4, .int .i64 3, .int .i64 4, .int .i64 0]⟩ → H' b4 = some ⟨.t 175, [.int .i64 0, .int .i64 5, .int .i64 11, .int .i64 1, .int .i64 5, .int .i64 6, .int .i64 2, .int .i64 5, .int .i64 1, .int .i64 3, .int .i64 1, .int .i64 0]⟩ → H' b5 = some ⟨.t 175, [.int .i64 0, .int .i64 8, .int .i64 0]⟩ → H' b6 = some ⟨.t 175, [.int .i64 3, .int .i64 8, .int .i64 0]⟩ → H' b7 = some ⟨.t 175, [.int .i64 0, .int .i64 8, .int .i64 0, .int .i64 3, .int .i64 8, .int .i64 8]⟩ → K (.slice (some ⟨b, 0, none⟩) 8 8) H') : HCalls Tryz.prog w0 179 [] H K := by
  refine HL.hc k179 999 ?_; unfold M179
  (all_goals (try simp only [S0,putAt,List.replicate,Int.reduceAdd,Int.reduceSub,Int.reduceMul,Int.reduceTDiv,Int.reduceTMod,Int.reduceMod,Int.reduceDiv,Nat.reduceLT,Nat.reduceEqDiff,Int.reduceLE,Int.reduceLT,Int.reduceToNat,Int.reduceNeg,Int.reduceEq,Nat.reduceLeDiff,Nat.reducePow,Int.reducePow,reduceIte,Nat.reduceSub,Nat.reduceAdd,Nat.reduceMul, *])); repeat' ((first | (with_reducible refine fun _ : True => ?_) | (with_reducible refine any_h ?_) | ((first | refine AllocQ_i ?_ | refine AllocO_i ?_); intro bk hb0 hbk; try simp only [set_none'] at hbk) | ((first | refine condS_i ?_ ?_ | refine pick_i ?_ ?_ | refine gS_it ?_ ?_ | refine gS_if ?_ ?_ | refine gP_it ?_ ?_ | refine gP_if ?_ ?_) <;> (intro hc; try simp only [Int.reduceLE,Int.reduceLT,Int.reduceEq,Sn] at hc)) | (with_reducible refine KP_i ?_ ?_; · exact aE) | (with_reducible refine And.intro ?_ ?_)) <;> (try simp only [S0,putAt,List.replicate,Int.reduceAdd,Int.reduceSub,Int.reduceMul,Int.reduceTDiv,Int.reduceTMod,Int.reduceMod,Int.reduceDiv,Nat.reduceLT,Nat.reduceEqDiff,Int.reduceLE,Int.reduceLT,Int.reduceToNat,Int.reduceNeg,Int.reduceEq,Nat.reduceLeDiff,Nat.reducePow,Int.reducePow,reduceIte,Nat.reduceSub,Nat.reduceAdd,Nat.reduceMul, *]))
  exact Fin_mk (Heap.Le.refl _) (h _ _ _ _ _ _ _ _ _ aG aA (by simp only [*]) (by simp only [*]) (by simp only [*]) (by simp only [*]) (by simp only [*]) (by simp only [*]) (by simp only [*]) aA aA aA aA aA aA aA)
theorem c_find1 (h : ∀ b H', Grow w0 H H' → H b = none → H' b = some ⟨.t 175, [.int .i64 0, .int .i64 8, .int .i64 0, .int .i64 1, .int .i64 8, .int .i64 8, .int .i64 2, .int .i64 8, .int .i64 16, .int .i64 3, .int .i64 8, .int .i64 24]⟩ → K (.tuple #[.agg #[.int .i64 4, .slice (some ⟨b, 0, none⟩) 4 4, .int .i32 0, .int .i32 0, .int .i32 0, .int .i32 0], .bool true]) H') : HCalls Tryz.prog w0 175 [.int .i64 1] H K := by
  refine HL.hc k175 999 ?_; unfold M175
  (all_goals (try simp only [S0,putAt,List.replicate,Int.reduceAdd,Int.reduceSub,Int.reduceMul,Int.reduceTDiv,Int.reduceTMod,Int.reduceMod,Int.reduceDiv,Nat.reduceLT,Nat.reduceEqDiff,Int.reduceLE,Int.reduceLT,Int.reduceToNat,Int.reduceNeg,Int.reduceEq,Nat.reduceLeDiff,Nat.reducePow,Int.reducePow,reduceIte,Nat.reduceSub,Nat.reduceAdd,Nat.reduceMul, *])); repeat' ((first | (with_reducible refine fun _ : True => ?_) | (with_reducible refine any_h ?_) | ((first | refine AllocQ_i ?_ | refine AllocO_i ?_); intro bk hb0 hbk; try simp only [set_none'] at hbk) | ((first | refine condS_i ?_ ?_ | refine pick_i ?_ ?_ | refine gS_it ?_ ?_ | refine gS_if ?_ ?_ | refine gP_it ?_ ?_ | refine gP_if ?_ ?_) <;> (intro hc; try simp only [Int.reduceLE,Int.reduceLT,Int.reduceEq,Sn] at hc)) | (with_reducible refine KP_i ?_ ?_; · exact aE) | (with_reducible refine And.intro ?_ ?_)) <;> (try simp only [S0,putAt,List.replicate,Int.reduceAdd,Int.reduceSub,Int.reduceMul,Int.reduceTDiv,Int.reduceTMod,Int.reduceMod,Int.reduceDiv,Nat.reduceLT,Nat.reduceEqDiff,Int.reduceLE,Int.reduceLT,Int.reduceToNat,Int.reduceNeg,Int.reduceEq,Nat.reduceLeDiff,Nat.reducePow,Int.reducePow,reduceIte,Nat.reduceSub,Nat.reduceAdd,Nat.reduceMul, *]))
  refine c_formats (fun b b1 b2 b3 b4 b5 b6 b7 H' g k0 n1 n2 n3 n4 n5 n6 n7 k1 k2 k3 k4 k5 k6 k7 => ?_)
  have nn := (Heap.set_none.1 n1).2
  have kb := g.some (b := bk) aA
  have hne : bk ≠ b1 := fun e => by rw [e, k1] at kb; cases kb
  have hne0 : bk ≠ b := fun e => by rw [e, k0] at kb; cases kb
  have g1 : Grow w0 H H' := Grow.trans aG g
  have r0 := rdn_of (w0 := w0) (H := H') (b := b) (o := 1*6) (cs := [.int .i64 4, .slice (some ⟨b1, 0, none⟩) 4 4, .int .i32 0, .int .i32 0, .int .i32 0, .int .i32 0]) (by simp) (fun i hi => by
    have hi : i < 6 := hi
    unfold rd1; rw [k0]
    rcases (by omega : i = 0 ∨ i = 1 ∨ i = 2 ∨ i = 3 ∨ i = 4 ∨ i = 5) with rfl | rfl | rfl | rfl | rfl | rfl <;> rfl)
  simp only [List.length_cons, List.length_nil, Nat.reduceAdd, Nat.reduceMul] at r0
  rw [root1 kb]
  (all_goals (try simp only [S0,putAt,List.replicate,Int.reduceAdd,Int.reduceSub,Int.reduceMul,Int.reduceTDiv,Int.reduceTMod,Int.reduceMod,Int.reduceDiv,Nat.reduceLT,Nat.reduceEqDiff,Int.reduceLE,Int.reduceLT,Int.reduceToNat,Int.reduceNeg,Int.reduceEq,Nat.reduceLeDiff,Nat.reducePow,Int.reducePow,reduceIte,Nat.reduceSub,Nat.reduceAdd,Nat.reduceMul, *])); repeat' ((first | (with_reducible refine fun _ : True => ?_) | (with_reducible refine any_h ?_) | ((first | refine AllocQ_i ?_ | refine AllocO_i ?_); intro bk hb0 hbk; try simp only [set_none'] at hbk) | ((first | refine condS_i ?_ ?_ | refine pick_i ?_ ?_ | refine gS_it ?_ ?_ | refine gS_if ?_ ?_ | refine gP_it ?_ ?_ | refine gP_if ?_ ?_) <;> (intro hc; try simp only [Int.reduceLE,Int.reduceLT,Int.reduceEq,Sn] at hc)) | (with_reducible refine KP_i ?_ ?_; · exact aE) | (with_reducible refine And.intro ?_ ?_)) <;> (try simp only [S0,putAt,List.replicate,Int.reduceAdd,Int.reduceSub,Int.reduceMul,Int.reduceTDiv,Int.reduceTMod,Int.reduceMod,Int.reduceDiv,Nat.reduceLT,Nat.reduceEqDiff,Int.reduceLE,Int.reduceLT,Int.reduceToNat,Int.reduceNeg,Int.reduceEq,Nat.reduceLeDiff,Nat.reducePow,Int.reducePow,reduceIte,Nat.reduceSub,Nat.reduceAdd,Nat.reduceMul, *]))
  refine Fin_mk (Heap.Le.refl _) (h b1 _ ?_ nn ?_)
  · exact Grow.set g1 (by assumption) (by assumption)
  · rw [Heap.set_other _ _ (Ne.symm hne)]; exact k1
theorem c_find2 (h : ∀ b H', Grow w0 H H' → H b = none → H' b = some ⟨.t 175, [.int .i64 0, .int .i64 5, .int .i64 11, .int .i64 1, .int .i64 6, .int .i64 5, .int .i64 2, .int .i64 5, .int .i64 0]⟩ → K (.tuple #[.agg #[.int .i64 2, .slice (some ⟨b, 0, none⟩) 3 3, .int .i32 0, .int .i32 0, .int .i32 0, .int .i32 65536], .bool true]) H') : HCalls Tryz.prog w0 175 [.int .i64 2] H K := by
  refine HL.hc k175 999 ?_; unfold M175
  (all_goals (try simp only [S0,putAt,List.replicate,Int.reduceAdd,Int.reduceSub,Int.reduceMul,Int.reduceTDiv,Int.reduceTMod,Int.reduceMod,Int.reduceDiv,Nat.reduceLT,Nat.reduceEqDiff,Int.reduceLE,Int.reduceLT,Int.reduceToNat,Int.reduceNeg,Int.reduceEq,Nat.reduceLeDiff,Nat.reducePow,Int.reducePow,reduceIte,Nat.reduceSub,Nat.reduceAdd,Nat.reduceMul, *])); repeat' ((first | (with_reducible refine fun _ : True => ?_) | (with_reducible refine any_h ?_) | ((first | refine AllocQ_i ?_ | refine AllocO_i ?_); intro bk hb0 hbk; try simp only [set_none'] at hbk) | ((first | refine condS_i ?_ ?_ | refine pick_i ?_ ?_ | refine gS_it ?_ ?_ | refine gS_if ?_ ?_ | refine gP_it ?_ ?_ | refine gP_if ?_ ?_) <;> (intro hc; try simp only [Int.reduceLE,Int.reduceLT,Int.reduceEq,Sn] at hc)) | (with_reducible refine KP_i ?_ ?_; · exact aE) | (with_reducible refine And.intro ?_ ?_)) <;> (try simp only [S0,putAt,List.replicate,Int.reduceAdd,Int.reduceSub,Int.reduceMul,Int.reduceTDiv,Int.reduceTMod,Int.reduceMod,Int.reduceDiv,Nat.reduceLT,Nat.reduceEqDiff,Int.reduceLE,Int.reduceLT,Int.reduceToNat,Int.reduceNeg,Int.reduceEq,Nat.reduceLeDiff,Nat.reducePow,Int.reducePow,reduceIte,Nat.reduceSub,Nat.reduceAdd,Nat.reduceMul, *]))
  refine c_formats (fun b b1 b2 b3 b4 b5 b6 b7 H' g k0 n1 n2 n3 n4 n5 n6 n7 k1 k2 k3 k4 k5 k6 k7 => ?_)
  have nn := (Heap.set_none.1 n2).2
  have kb := g.some (b := bk) aA
  have hne : bk ≠ b2 := fun e => by rw [e, k2] at kb; cases kb
  have hne0 : bk ≠ b := fun e => by rw [e, k0] at kb; cases kb
  have g1 : Grow w0 H H' := Grow.trans aG g
  have r0 := rdn_of (w0 := w0) (H := H') (b := b) (o := 2*6) (cs := [.int .i64 2, .slice (some ⟨b2, 0, none⟩) 3 3, .int .i32 0, .int .i32 0, .int .i32 0, .int .i32 65536]) (by simp) (fun i hi => by
    have hi : i < 6 := hi
    unfold rd1; rw [k0]
    rcases (by omega : i = 0 ∨ i = 1 ∨ i = 2 ∨ i = 3 ∨ i = 4 ∨ i = 5) with rfl | rfl | rfl | rfl | rfl | rfl <;> rfl)
  simp only [List.length_cons, List.length_nil, Nat.reduceAdd, Nat.reduceMul] at r0
  rw [root1 kb]
  (all_goals (try simp only [S0,putAt,List.replicate,Int.reduceAdd,Int.reduceSub,Int.reduceMul,Int.reduceTDiv,Int.reduceTMod,Int.reduceMod,Int.reduceDiv,Nat.reduceLT,Nat.reduceEqDiff,Int.reduceLE,Int.reduceLT,Int.reduceToNat,Int.reduceNeg,Int.reduceEq,Nat.reduceLeDiff,Nat.reducePow,Int.reducePow,reduceIte,Nat.reduceSub,Nat.reduceAdd,Nat.reduceMul, *])); repeat' ((first | (with_reducible refine fun _ : True => ?_) | (with_reducible refine any_h ?_) | ((first | refine AllocQ_i ?_ | refine AllocO_i ?_); intro bk hb0 hbk; try simp only [set_none'] at hbk) | ((first | refine condS_i ?_ ?_ | refine pick_i ?_ ?_ | refine gS_it ?_ ?_ | refine gS_if ?_ ?_ | refine gP_it ?_ ?_ | refine gP_if ?_ ?_) <;> (intro hc; try simp only [Int.reduceLE,Int.reduceLT,Int.reduceEq,Sn] at hc)) | (with_reducible refine KP_i ?_ ?_; · exact aE) | (with_reducible refine And.intro ?_ ?_)) <;> (try simp only [S0,putAt,List.replicate,Int.reduceAdd,Int.reduceSub,Int.reduceMul,Int.reduceTDiv,Int.reduceTMod,Int.reduceMod,Int.reduceDiv,Nat.reduceLT,Nat.reduceEqDiff,Int.reduceLE,Int.reduceLT,Int.reduceToNat,Int.reduceNeg,Int.reduceEq,Nat.reduceLeDiff,Nat.reducePow,Int.reducePow,reduceIte,Nat.reduceSub,Nat.reduceAdd,Nat.reduceMul, *]))
  refine Fin_mk (Heap.Le.refl _) (h b2 _ ?_ nn ?_)
  · exact Grow.set g1 (by assumption) (by assumption)
  · rw [Heap.set_other _ _ (Ne.symm hne)]; exact k2
theorem c_find3 (h : ∀ b H', Grow w0 H H' → H b = none → H' b = some ⟨.t 175, [.int .i64 0, .int .i64 4, .int .i64 12, .int .i64 1, .int .i64 4, .int .i64 8, .int .i64 2, .int .i64 4, .int .i64 4, .int .i64 3, .int .i64 4, .int .i64 0]⟩ → K (.tuple #[.agg #[.int .i64 2, .slice (some ⟨b, 0, none⟩) 4 4, .int .i32 0, .int .i32 0, .int .i32 0, .int .i32 0], .bool true]) H') : HCalls Tryz.prog w0 175 [.int .i64 3] H K := by
  refine HL.hc k175 999 ?_; unfold M175
  (all_goals (try simp only [S0,putAt,List.replicate,Int.reduceAdd,Int.reduceSub,Int.reduceMul,Int.reduceTDiv,Int.reduceTMod,Int.reduceMod,Int.reduceDiv,Nat.reduceLT,Nat.reduceEqDiff,Int.reduceLE,Int.reduceLT,Int.reduceToNat,Int.reduceNeg,Int.reduceEq,Nat.reduceLeDiff,Nat.reducePow,Int.reducePow,reduceIte,Nat.reduceSub,Nat.reduceAdd,Nat.reduceMul, *])); repeat' ((first | (with_reducible refine fun _ : True => ?_) | (with_reducible refine any_h ?_) | ((first | refine AllocQ_i ?_ | refine AllocO_i ?_); intro bk hb0 hbk; try simp only [set_none'] at hbk) | ((first | refine condS_i ?_ ?_ | refine pick_i ?_ ?_ | refine gS_it ?_ ?_ | refine gS_if ?_ ?_ | refine gP_it ?_ ?_ | refine gP_if ?_ ?_) <;> (intro hc; try simp only [Int.reduceLE,Int.reduceLT,Int.reduceEq,Sn] at hc)) | (with_reducible refine KP_i ?_ ?_; · exact aE) | (with_reducible refine And.intro ?_ ?_)) <;> (try simp only [S0,putAt,List.replicate,Int.reduceAdd,Int.reduceSub,Int.reduceMul,Int.reduceTDiv,Int.reduceTMod,Int.reduceMod,Int.reduceDiv,Nat.reduceLT,Nat.reduceEqDiff,Int.reduceLE,Int.reduceLT,Int.reduceToNat,Int.reduceNeg,Int.reduceEq,Nat.reduceLeDiff,Nat.reducePow,Int.reducePow,reduceIte,Nat.reduceSub,Nat.reduceAdd,Nat.reduceMul, *]))
  refine c_formats (fun b b1 b2 b3 b4 b5 b6 b7 H' g k0 n1 n2 n3 n4 n5 n6 n7 k1 k2 k3 k4 k5 k6 k7 => ?_)
  have nn := (Heap.set_none.1 n3).2
  have kb := g.some (b := bk) aA
  have hne : bk ≠ b3 := fun e => by rw [e, k3] at kb; cases kb
  have hne0 : bk ≠ b := fun e => by rw [e, k0] at kb; cases kb
  have g1 : Grow w0 H H' := Grow.trans aG g
  have r0 := rdn_of (w0 := w0) (H := H') (b := b) (o := 3*6) (cs := [.int .i64 2, .slice (some ⟨b3, 0, none⟩) 4 4, .int .i32 0, .int .i32 0, .int .i32 0, .int .i32 0]) (by simp) (fun i hi => by
    have hi : i < 6 := hi
    unfold rd1; rw [k0]
    rcases (by omega : i = 0 ∨ i = 1 ∨ i = 2 ∨ i = 3 ∨ i = 4 ∨ i = 5) with rfl | rfl | rfl | rfl | rfl | rfl <;> rfl)
  simp only [List.length_cons, List.length_nil, Nat.reduceAdd, Nat.reduceMul] at r0
  rw [root1 kb]
  (all_goals (try simp only [S0,putAt,List.replicate,Int.reduceAdd,Int.reduceSub,Int.reduceMul,Int.reduceTDiv,Int.reduceTMod,Int.reduceMod,Int.reduceDiv,Nat.reduceLT,Nat.reduceEqDiff,Int.reduceLE,Int.reduceLT,Int.reduceToNat,Int.reduceNeg,Int.reduceEq,Nat.reduceLeDiff,Nat.reducePow,Int.reducePow,reduceIte,Nat.reduceSub,Nat.reduceAdd,Nat.reduceMul, *])); repeat' ((first | (with_reducible refine fun _ : True => ?_) | (with_reducible refine any_h ?_) | ((first | refine AllocQ_i ?_ | refine AllocO_i ?_); intro bk hb0 hbk; try simp only [set_none'] at hbk) | ((first | refine condS_i ?_ ?_ | refine pick_i ?_ ?_ | refine gS_it ?_ ?_ | refine gS_if ?_ ?_ | refine gP_it ?_ ?_ | refine gP_if ?_ ?_) <;> (intro hc; try simp only [Int.reduceLE,Int.reduceLT,Int.reduceEq,Sn] at hc)) | (with_reducible refine KP_i ?_ ?_; · exact aE) | (with_reducible refine And.intro ?_ ?_)) <;> (try simp only [S0,putAt,List.replicate,Int.reduceAdd,Int.reduceSub,Int.reduceMul,Int.reduceTDiv,Int.reduceTMod,Int.reduceMod,Int.reduceDiv,Nat.reduceLT,Nat.reduceEqDiff,Int.reduceLE,Int.reduceLT,Int.reduceToNat,Int.reduceNeg,Int.reduceEq,Nat.reduceLeDiff,Nat.reducePow,Int.reducePow,reduceIte,Nat.reduceSub,Nat.reduceAdd,Nat.reduceMul, *]))
  refine Fin_mk (Heap.Le.refl _) (h b3 _ ?_ nn ?_)
  · exact Grow.set g1 (by assumption) (by assumption)
  · rw [Heap.set_other _ _ (Ne.symm hne)]; exact k3
theorem c_find4 (h : ∀ b H', Grow w0 H H' → H b = none → H' b = some ⟨.t 175, [.int .i64 0, .int .i64 5, .int .i64 11, .int .i64 1, .int .i64 5, .int .i64 6, .int .i64 2, .int .i64 5, .int .i64 1, .int .i64 3, .int .i64 1, .int .i64 0]⟩ → K (.tuple #[.agg #[.int .i64 2, .slice (some ⟨b, 0, none⟩) 4 4, .int .i32 0, .int .i32 0, .int .i32 0, .int .i32 0], .bool true]) H') : HCalls Tryz.prog w0 175 [.int .i64 4] H K := by
  refine HL.hc k175 999 ?_; unfold M175
  (all_goals (try simp only [S0,putAt,List.replicate,Int.reduceAdd,Int.reduceSub,Int.reduceMul,Int.reduceTDiv,Int.reduceTMod,Int.reduceMod,Int.reduceDiv,Nat.reduceLT,Nat.reduceEqDiff,Int.reduceLE,Int.reduceLT,Int.reduceToNat,Int.reduceNeg,Int.reduceEq,Nat.reduceLeDiff,Nat.reducePow,Int.reducePow,reduceIte,Nat.reduceSub,Nat.reduceAdd,Nat.reduceMul, *])); repeat' ((first | (with_reducible refine fun _ : True => ?_) | (with_reducible refine any_h ?_) | ((first | refine AllocQ_i ?_ | refine AllocO_i ?_); intro bk hb0 hbk; try simp only [set_none'] at hbk) | ((first | refine condS_i ?_ ?_ | refine pick_i ?_ ?_ | refine gS_it ?_ ?_ | refine gS_if ?_ ?_ | refine gP_it ?_ ?_ | refine gP_if ?_ ?_) <;> (intro hc; try simp only [Int.reduceLE,Int.reduceLT,Int.reduceEq,Sn] at hc)) | (with_reducible refine KP_i ?_ ?_; · exact aE) | (with_reducible refine And.intro ?_ ?_)) <;> (try simp only [S0,putAt,List.replicate,Int.reduceAdd,Int.reduceSub,Int.reduceMul,Int.reduceTDiv,Int.reduceTMod,Int.reduceMod,Int.reduceDiv,Nat.reduceLT,Nat.reduceEqDiff,Int.reduceLE,Int.reduceLT,Int.reduceToNat,Int.reduceNeg,Int.reduceEq,Nat.reduceLeDiff,Nat.reducePow,Int.reducePow,reduceIte,Nat.reduceSub,Nat.reduceAdd,Nat.reduceMul, *]))
  refine c_formats (fun b b1 b2 b3 b4 b5 b6 b7 H' g k0 n1 n2 n3 n4 n5 n6 n7 k1 k2 k3 k4 k5 k6 k7 => ?_)
  have nn := (Heap.set_none.1 n4).2
  have kb := g.some (b := bk) aA
  have hne : bk ≠ b4 := fun e => by rw [e, k4] at kb; cases kb
  have hne0 : bk ≠ b := fun e => by rw [e, k0] at kb; cases kb
  have g1 : Grow w0 H H' := Grow.trans aG g
  have r0 := rdn_of (w0 := w0) (H := H') (b := b) (o := 4*6) (cs := [.int .i64 2, .slice (some ⟨b4, 0, none⟩) 4 4, .int .i32 0, .int .i32 0, .int .i32 0, .int .i32 0]) (by simp) (fun i hi => by
    have hi : i < 6 := hi
    unfold rd1; rw [k0]
    rcases (by omega : i = 0 ∨ i = 1 ∨ i = 2 ∨ i = 3 ∨ i = 4 ∨ i = 5) with rfl | rfl | rfl | rfl | rfl | rfl <;> rfl)
  simp only [List.length_cons, List.length_nil, Nat.reduceAdd, Nat.reduceMul] at r0
  rw [root1 kb]
  (all_goals (try simp only [S0,putAt,List.replicate,Int.reduceAdd,Int.reduceSub,Int.reduceMul,Int.reduceTDiv,Int.reduceTMod,Int.reduceMod,Int.reduceDiv,Nat.reduceLT,Nat.reduceEqDiff,Int.reduceLE,Int.reduceLT,Int.reduceToNat,Int.reduceNeg,Int.reduceEq,Nat.reduceLeDiff,Nat.reducePow,Int.reducePow,reduceIte,Nat.reduceSub,Nat.reduceAdd,Nat.reduceMul, *])); repeat' ((first | (with_reducible refine fun _ : True => ?_) | (with_reducible refine any_h ?_) | ((first | refine AllocQ_i ?_ | refine AllocO_i ?_); intro bk hb0 hbk; try simp only [set_none'] at hbk) | ((first | refine condS_i ?_ ?_ | refine pick_i ?_ ?_ | refine gS_it ?_ ?_ | refine gS_if ?_ ?_ | refine gP_it ?_ ?_ | refine gP_if ?_ ?_) <;> (intro hc; try simp only [Int.reduceLE,Int.reduceLT,Int.reduceEq,Sn] at hc)) | (with_reducible refine KP_i ?_ ?_; · exact aE) | (with_reducible refine And.intro ?_ ?_)) <;> (try simp only [S0,putAt,List.replicate,Int.reduceAdd,Int.reduceSub,Int.reduceMul,Int.reduceTDiv,Int.reduceTMod,Int.reduceMod,Int.reduceDiv,Nat.reduceLT,Nat.reduceEqDiff,Int.reduceLE,Int.reduceLT,Int.reduceToNat,Int.reduceNeg,Int.reduceEq,Nat.reduceLeDiff,Nat.reducePow,Int.reducePow,reduceIte,Nat.reduceSub,Nat.reduceAdd,Nat.reduceMul, *]))
  refine Fin_mk (Heap.Le.refl _) (h b4 _ ?_ nn ?_)
  · exact Grow.set g1 (by assumption) (by assumption)
  · rw [Heap.set_other _ _ (Ne.symm hne)]; exact k4
theorem c_find5 (h : ∀ b H', Grow w0 H H' → H b = none → H' b = some ⟨.t 175, [.int .i64 0, .int .i64 8, .int .i64 0]⟩ → K (.tuple #[.agg #[.int .i64 1, .slice (some ⟨b, 0, none⟩) 1 1, .int .i32 0, .int .i32 0, .int .i32 0, .int .i32 65536], .bool true]) H') : HCalls Tryz.prog w0 175 [.int .i64 5] H K := by
  refine HL.hc k175 999 ?_; unfold M175
  (all_goals (try simp only [S0,putAt,List.replicate,Int.reduceAdd,Int.reduceSub,Int.reduceMul,Int.reduceTDiv,Int.reduceTMod,Int.reduceMod,Int.reduceDiv,Nat.reduceLT,Nat.reduceEqDiff,Int.reduceLE,Int.reduceLT,Int.reduceToNat,Int.reduceNeg,Int.reduceEq,Nat.reduceLeDiff,Nat.reducePow,Int.reducePow,reduceIte,Nat.reduceSub,Nat.reduceAdd,Nat.reduceMul, *])); repeat' ((first | (with_reducible refine fun _ : True => ?_) | (with_reducible refine any_h ?_) | ((first | refine AllocQ_i ?_ | refine AllocO_i ?_); intro bk hb0 hbk; try simp only [set_none'] at hbk) | ((first | refine condS_i ?_ ?_ | refine pick_i ?_ ?_ | refine gS_it ?_ ?_ | refine gS_if ?_ ?_ | refine gP_it ?_ ?_ | refine gP_if ?_ ?_) <;> (intro hc; try simp only [Int.reduceLE,Int.reduceLT,Int.reduceEq,Sn] at hc)) | (with_reducible refine KP_i ?_ ?_; · exact aE) | (with_reducible refine And.intro ?_ ?_)) <;> (try simp only [S0,putAt,List.replicate,Int.reduceAdd,Int.reduceSub,Int.reduceMul,Int.reduceTDiv,Int.reduceTMod,Int.reduceMod,Int.reduceDiv,Nat.reduceLT,Nat.reduceEqDiff,Int.reduceLE,Int.reduceLT,Int.reduceToNat,Int.reduceNeg,Int.reduceEq,Nat.reduceLeDiff,Nat.reducePow,Int.reducePow,reduceIte,Nat.reduceSub,Nat.reduceAdd,Nat.reduceMul, *]))
  refine c_formats (fun b b1 b2 b3 b4 b5 b6 b7 H' g k0 n1 n2 n3 n4 n5 n6 n7 k1 k2 k3 k4 k5 k6 k7 => ?_)
  have nn := (Heap.set_none.1 n5).2
  have kb := g.some (b := bk) aA
  have hne : bk ≠ b5 := fun e => by rw [e, k5] at kb; cases kb
  have hne0 : bk ≠ b := fun e => by rw [e, k0] at kb; cases kb
  have g1 : Grow w0 H H' := Grow.trans aG g
  have r0 := rdn_of (w0 := w0) (H := H') (b := b) (o := 5*6) (cs := [.int .i64 1, .slice (some ⟨b5, 0, none⟩) 1 1, .int .i32 0, .int .i32 0, .int .i32 0, .int .i32 65536]) (by simp) (fun i hi => by
    have hi : i < 6 := hi
    unfold rd1; rw [k0]
    rcases (by omega : i = 0 ∨ i = 1 ∨ i = 2 ∨ i = 3 ∨ i = 4 ∨ i = 5) with rfl | rfl | rfl | rfl | rfl | rfl <;> rfl)
  simp only [List.length_cons, List.length_nil, Nat.reduceAdd, Nat.reduceMul] at r0
  rw [root1 kb]
  (all_goals (try simp only [S0,putAt,List.replicate,Int.reduceAdd,Int.reduceSub,Int.reduceMul,Int.reduceTDiv,Int.reduceTMod,Int.reduceMod,Int.reduceDiv,Nat.reduceLT,Nat.reduceEqDiff,Int.reduceLE,Int.reduceLT,Int.reduceToNat,Int.reduceNeg,Int.reduceEq,Nat.reduceLeDiff,Nat.reducePow,Int.reducePow,reduceIte,Nat.reduceSub,Nat.reduceAdd,Nat.reduceMul, *])); repeat' ((first | (with_reducible refine fun _ : True => ?_) | (with_reducible refine any_h ?_) | ((first | refine AllocQ_i ?_ | refine AllocO_i ?_); intro bk hb0 hbk; try simp only [set_none'] at hbk) | ((first | refine condS_i ?_ ?_ | refine pick_i ?_ ?_ | refine gS_it ?_ ?_ | refine gS_if ?_ ?_ | refine gP_it ?_ ?_ | refine gP_if ?_ ?_) <;> (intro hc; try simp only [Int.reduceLE,Int.reduceLT,Int.reduceEq,Sn] at hc)) | (with_reducible refine KP_i ?_ ?_; · exact aE) | (with_reducible refine And.intro ?_ ?_)) <;> (try simp only [S0,putAt,List.replicate,Int.reduceAdd,Int.reduceSub,Int.reduceMul,Int.reduceTDiv,Int.reduceTMod,Int.reduceMod,Int.reduceDiv,Nat.reduceLT,Nat.reduceEqDiff,Int.reduceLE,Int.reduceLT,Int.reduceToNat,Int.reduceNeg,Int.reduceEq,Nat.reduceLeDiff,Nat.reducePow,Int.reducePow,reduceIte,Nat.reduceSub,Nat.reduceAdd,Nat.reduceMul, *]))
  refine Fin_mk (Heap.Le.refl _) (h b5 _ ?_ nn ?_)
  · exact Grow.set g1 (by assumption) (by assumption)
  · rw [Heap.set_other _ _ (Ne.symm hne)]; exact k5
theorem c_find6 (h : ∀ b H', Grow w0 H H' → H b = none → H' b = some ⟨.t 175, [.int .i64 3, .int .i64 8, .int .i64 0]⟩ → K (.tuple #[.agg #[.int .i64 1, .slice (some ⟨b, 0, none⟩) 1 1, .int .i32 0, .int .i32 0, .int .i32 0, .int .i32 0], .bool true]) H') : HCalls Tryz.prog w0 175 [.int .i64 6] H K := by
  refine HL.hc k175 999 ?_; unfold M175
  (all_goals (try simp only [S0,putAt,List.replicate,Int.reduceAdd,Int.reduceSub,Int.reduceMul,Int.reduceTDiv,Int.reduceTMod,Int.reduceMod,Int.reduceDiv,Nat.reduceLT,Nat.reduceEqDiff,Int.reduceLE,Int.reduceLT,Int.reduceToNat,Int.reduceNeg,Int.reduceEq,Nat.reduceLeDiff,Nat.reducePow,Int.reducePow,reduceIte,Nat.reduceSub,Nat.reduceAdd,Nat.reduceMul, *])); repeat' ((first | (with_reducible refine fun _ : True => ?_) | (with_reducible refine any_h ?_) | ((first | refine AllocQ_i ?_ | refine AllocO_i ?_); intro bk hb0 hbk; try simp only [set_none'] at hbk) | ((first | refine condS_i ?_ ?_ | refine pick_i ?_ ?_ | refine gS_it ?_ ?_ | refine gS_if ?_ ?_ | refine gP_it ?_ ?_ | refine gP_if ?_ ?_) <;> (intro hc; try simp only [Int.reduceLE,Int.reduceLT,Int.reduceEq,Sn] at hc)) | (with_reducible refine KP_i ?_ ?_; · exact aE) | (with_reducible refine And.intro ?_ ?_)) <;> (try simp only [S0,putAt,List.replicate,Int.reduceAdd,Int.reduceSub,Int.reduceMul,Int.reduceTDiv,Int.reduceTMod,Int.reduceMod,Int.reduceDiv,Nat.reduceLT,Nat.reduceEqDiff,Int.reduceLE,Int.reduceLT,Int.reduceToNat,Int.reduceNeg,Int.reduceEq,Nat.reduceLeDiff,Nat.reducePow,Int.reducePow,reduceIte,Nat.reduceSub,Nat.reduceAdd,Nat.reduceMul, *]))
  refine c_formats (fun b b1 b2 b3 b4 b5 b6 b7 H' g k0 n1 n2 n3 n4 n5 n6 n7 k1 k2 k3 k4 k5 k6 k7 => ?_)
  have nn := (Heap.set_none.1 n6).2
  have kb := g.some (b := bk) aA
  have hne : bk ≠ b6 := fun e => by rw [e, k6] at kb; cases kb
  have hne0 : bk ≠ b := fun e => by rw [e, k0] at kb; cases kb
  have g1 : Grow w0 H H' := Grow.trans aG g
  have r0 := rdn_of (w0 := w0) (H := H') (b := b) (o := 6*6) (cs := [.int .i64 1, .slice (some ⟨b6, 0, none⟩) 1 1, .int .i32 0, .int .i32 0, .int .i32 0, .int .i32 0]) (by simp) (fun i hi => by
    have hi : i < 6 := hi
    unfold rd1; rw [k0]
    rcases (by omega : i = 0 ∨ i = 1 ∨ i = 2 ∨ i = 3 ∨ i = 4 ∨ i = 5) with rfl | rfl | rfl | rfl | rfl | rfl <;> rfl)
  simp only [List.length_cons, List.length_nil, Nat.reduceAdd, Nat.reduceMul] at r0
  rw [root1 kb]
  (all_goals (try simp only [S0,putAt,List.replicate,Int.reduceAdd,Int.reduceSub,Int.reduceMul,Int.reduceTDiv,Int.reduceTMod,Int.reduceMod,Int.reduceDiv,Nat.reduceLT,Nat.reduceEqDiff,Int.reduceLE,Int.reduceLT,Int.reduceToNat,Int.reduceNeg,Int.reduceEq,Nat.reduceLeDiff,Nat.reducePow,Int.reducePow,reduceIte,Nat.reduceSub,Nat.reduceAdd,Nat.reduceMul, *])); repeat' ((first | (with_reducible refine fun _ : True => ?_) | (with_reducible refine any_h ?_) | ((first | refine AllocQ_i ?_ | refine AllocO_i ?_); intro bk hb0 hbk; try simp only [set_none'] at hbk) | ((first | refine condS_i ?_ ?_ | refine pick_i ?_ ?_ | refine gS_it ?_ ?_ | refine gS_if ?_ ?_ | refine gP_it ?_ ?_ | refine gP_if ?_ ?_) <;> (intro hc; try simp only [Int.reduceLE,Int.reduceLT,Int.reduceEq,Sn] at hc)) | (with_reducible refine KP_i ?_ ?_; · exact aE) | (with_reducible refine And.intro ?_ ?_)) <;> (try simp only [S0,putAt,List.replicate,Int.reduceAdd,Int.reduceSub,Int.reduceMul,Int.reduceTDiv,Int.reduceTMod,Int.reduceMod,Int.reduceDiv,Nat.reduceLT,Nat.reduceEqDiff,Int.reduceLE,Int.reduceLT,Int.reduceToNat,Int.reduceNeg,Int.reduceEq,Nat.reduceLeDiff,Nat.reducePow,Int.reducePow,reduceIte,Nat.reduceSub,Nat.reduceAdd,Nat.reduceMul, *]))
  refine Fin_mk (Heap.Le.refl _) (h b6 _ ?_ nn ?_)
  · exact Grow.set g1 (by assumption) (by assumption)
  · rw [Heap.set_other _ _ (Ne.symm hne)]; exact k6
theorem c_find7 (h : ∀ b H', Grow w0 H H' → H b = none → H' b = some ⟨.t 175, [.int .i64 0, .int .i64 8, .int .i64 0, .int .i64 3, .int .i64 8, .int .i64 8]⟩ → K (.tuple #[.agg #[.int .i64 2, .slice (some ⟨b, 0, none⟩) 2 2, .int .i32 0, .int .i32 0, .int .i32 0, .int .i32 0], .bool true]) H') : HCalls Tryz.prog w0 175 [.int .i64 7] H K := by
  refine HL.hc k175 999 ?_; unfold M175
  (all_goals (try simp only [S0,putAt,List.replicate,Int.reduceAdd,Int.reduceSub,Int.reduceMul,Int.reduceTDiv,Int.reduceTMod,Int.reduceMod,Int.reduceDiv,Nat.reduceLT,Nat.reduceEqDiff,Int.reduceLE,Int.reduceLT,Int.reduceToNat,Int.reduceNeg,Int.reduceEq,Nat.reduceLeDiff,Nat.reducePow,Int.reducePow,reduceIte,Nat.reduceSub,Nat.reduceAdd,Nat.reduceMul, *])); repeat' ((first | (with_reducible refine fun _ : True => ?_) | (with_reducible refine any_h ?_) | ((first | refine AllocQ_i ?_ | refine AllocO_i ?_); intro bk hb0 hbk; try simp only [set_none'] at hbk) | ((first | refine condS_i ?_ ?_ | refine pick_i ?_ ?_ | refine gS_it ?_ ?_ | refine gS_if ?_ ?_ | refine gP_it ?_ ?_ | refine gP_if ?_ ?_) <;> (intro hc; try simp only [Int.reduceLE,Int.reduceLT,Int.reduceEq,Sn] at hc)) | (with_reducible refine KP_i ?_ ?_; · exact aE) | (with_reducible refine And.intro ?_ ?_)) <;> (try simp only [S0,putAt,List.replicate,Int.reduceAdd,Int.reduceSub,Int.reduceMul,Int.reduceTDiv,Int.reduceTMod,Int.reduceMod,Int.reduceDiv,Nat.reduceLT,Nat.reduceEqDiff,Int.reduceLE,Int.reduceLT,Int.reduceToNat,Int.reduceNeg,Int.reduceEq,Nat.reduceLeDiff,Nat.reducePow,Int.reducePow,reduceIte,Nat.reduceSub,Nat.reduceAdd,Nat.reduceMul, *]))
  refine c_formats (fun b b1 b2 b3 b4 b5 b6 b7 H' g k0 n1 n2 n3 n4 n5 n6 n7 k1 k2 k3 k4 k5 k6 k7 => ?_)
  have nn := (Heap.set_none.1 n7).2
  have kb := g.some (b := bk) aA
  have hne : bk ≠ b7 := fun e => by rw [e, k7] at kb; cases kb
  have hne0 : bk ≠ b := fun e => by rw [e, k0] at kb; cases kb
  have g1 : Grow w0 H H' := Grow.trans aG g
  have r0 := rdn_of (w0 := w0) (H := H') (b := b) (o := 7*6) (cs := [.int .i64 2, .slice (some ⟨b7, 0, none⟩) 2 2, .int .i32 0, .int .i32 0, .int .i32 0, .int .i32 0]) (by simp) (fun i hi => by
    have hi : i < 6 := hi
    unfold rd1; rw [k0]
    rcases (by omega : i = 0 ∨ i = 1 ∨ i = 2 ∨ i = 3 ∨ i = 4 ∨ i = 5) with rfl | rfl | rfl | rfl | rfl | rfl <;> rfl)
  simp only [List.length_cons, List.length_nil, Nat.reduceAdd, Nat.reduceMul] at r0
  rw [root1 kb]
  (all_goals (try simp only [S0,putAt,List.replicate,Int.reduceAdd,Int.reduceSub,Int.reduceMul,Int.reduceTDiv,Int.reduceTMod,Int.reduceMod,Int.reduceDiv,Nat.reduceLT,Nat.reduceEqDiff,Int.reduceLE,Int.reduceLT,Int.reduceToNat,Int.reduceNeg,Int.reduceEq,Nat.reduceLeDiff,Nat.reducePow,Int.reducePow,reduceIte,Nat.reduceSub,Nat.reduceAdd,Nat.reduceMul, *])); repeat' ((first | (with_reducible refine fun _ : True => ?_) | (with_reducible refine any_h ?_) | ((first | refine AllocQ_i ?_ | refine AllocO_i ?_); intro bk hb0 hbk; try simp only [set_none'] at hbk) | ((first | refine condS_i ?_ ?_ | refine pick_i ?_ ?_ | refine gS_it ?_ ?_ | refine gS_if ?_ ?_ | refine gP_it ?_ ?_ | refine gP_if ?_ ?_) <;> (intro hc; try simp only [Int.reduceLE,Int.reduceLT,Int.reduceEq,Sn] at hc)) | (with_reducible refine KP_i ?_ ?_; · exact aE) | (with_reducible refine And.intro ?_ ?_)) <;> (try simp only [S0,putAt,List.replicate,Int.reduceAdd,Int.reduceSub,Int.reduceMul,Int.reduceTDiv,Int.reduceTMod,Int.reduceMod,Int.reduceDiv,Nat.reduceLT,Nat.reduceEqDiff,Int.reduceLE,Int.reduceLT,Int.reduceToNat,Int.reduceNeg,Int.reduceEq,Nat.reduceLeDiff,Nat.reducePow,Int.reducePow,reduceIte,Nat.reduceSub,Nat.reduceAdd,Nat.reduceMul, *]))
  refine Fin_mk (Heap.Le.refl _) (h b7 _ ?_ nn ?_)
  · exact Grow.set g1 (by assumption) (by assumption)
  · rw [Heap.set_other _ _ (Ne.symm hne)]; exact k7
end Go.Proofs.YtdmnfaefakceiaaGreat.Sm
end
section
/- Colours of pixels (layer 18). -/
set_option linter.unusedSimpArgs false
set_option linter.unusedVariables false
set_option maxRecDepth 100000
set_option maxHeartbeats 8000000
namespace Go.Proofs.YtdmnfaefakceiaaGreat.Sm
open Go.HL Go.RowKit Pb
variable {w0 : World} {H : Heap} {K : Value → Heap → Prop}

/- pixel grey -/
def M182 : MC :=
  .seq (.reg [oX 2 (.mv (.const (.bool false)))])
 (.seq (.reg [vX 3 0,
 oX 4 (bK .eql 3 5),
 vX 5 4,
 ⟨(some 6),.mv (.tmp 0),(some (5,false))⟩,
 ⟨(some 7),bK .eql 6 7,(some (5,false))⟩,
 oX 8 (.pick (.tmp 5) (.const (.bool true)) (.tmp 7)),
 vX 2 8])
 (.ret))
theorem k182 : fnOk Tryz.prog 182 = some (M182, [.t 2], 9) := by kernel_rfl

theorem c_grey (n : Int) (h : K (.bool (decide (n = 5 ∨ n = 7))) H) : HCalls Tryz.prog w0 182 [.int .i64 n] H K := by
  refine HL.hc k182 999 ?_; unfold M182
  (all_goals (try simp only [S0,putAt,List.replicate,Int.reduceAdd,Int.reduceSub,Int.reduceMul,Int.reduceTDiv,Int.reduceTMod,Int.reduceMod,Int.reduceDiv,Nat.reduceLT,Nat.reduceEqDiff,Int.reduceLE,Int.reduceLT,Int.reduceToNat,Int.reduceNeg,Int.reduceEq,Nat.reduceLeDiff,Nat.reducePow,Int.reducePow,reduceIte,Nat.reduceSub,Nat.reduceAdd,Nat.reduceMul, *])); repeat' ((first | (with_reducible refine fun _ : True => ?_) | (with_reducible refine any_h ?_) | ((first | refine AllocQ_i ?_ | refine AllocO_i ?_); intro bk hb0 hbk; try simp only [set_none'] at hbk) | ((first | refine condS_i ?_ ?_ | refine pick_i ?_ ?_ | refine gS_it ?_ ?_ | refine gS_if ?_ ?_ | refine gP_it ?_ ?_ | refine gP_if ?_ ?_) <;> (intro hc; try simp only [Int.reduceLE,Int.reduceLT,Int.reduceEq,Sn] at hc)) | (with_reducible refine KP_i ?_ ?_; · exact aE) | (with_reducible refine And.intro ?_ ?_)) <;> (try simp only [S0,putAt,List.replicate,Int.reduceAdd,Int.reduceSub,Int.reduceMul,Int.reduceTDiv,Int.reduceTMod,Int.reduceMod,Int.reduceDiv,Nat.reduceLT,Nat.reduceEqDiff,Int.reduceLE,Int.reduceLT,Int.reduceToNat,Int.reduceNeg,Int.reduceEq,Nat.reduceLeDiff,Nat.reducePow,Int.reducePow,reduceIte,Nat.reduceSub,Nat.reduceAdd,Nat.reduceMul, *]))
  all_goals (refine Fin_mk (Heap.Le.refl _) (K_dec h ?_); simp [*])
/- pixel Unpack -/
def M178 : MC :=
  .seq (.reg [oX 4 (.alloc 28 [(.int .i32 0),(.int .i32 0),(.int .i32 0),(.int .i32 0)]),
 oX 5 (.mv (kX 0))])
 (.seq (.reg [vX 15 0,
 oX 16 (.call 175 [(.tmp 15)]),
 vX 14 16,
 oX 17 (.ext 0 (.tmp 14)),
 oX 18 (.ext 1 (.tmp 14)),
 oX 6 (.alloc 167 [(.int .i64 0),(.slice none 0 0),(.int .i32 0),(.int .i32 0),(.int .i32 0),(.int .i32 0)]),
 ⟨none,.stn 6 (.tmp 6) (.tmp 17),none⟩,
 vX 7 18])
 (.seq (.block 0 (.seq (.reg [vX 20 7,
 oX 21 (.un .not (.tmp 20)),
 vX 19 21])
 (.cond (.tmp 19)
 (.seq (.reg [oX 22 (.build [(.int .i32 0),(.int .i32 0),(.int .i32 0),(.int .i32 0)] []),
 ⟨none,.stn 4 (.tmp 4) (.tmp 22),none⟩,
 oX 5 (.mv (kX 2))])
 (.ret))
 (.seq (.reg [vX 24 1,
 oX 25 (.len (.tmp 24)),
 oX 26 (.fa 0 (.tmp 6)),
 oX 27 (.ld1 (.tmp 26)),
 oX 28 (bX .neq 25 27),
 vX 23 28])
 (.cond (.tmp 23)
 (.seq (.reg [oX 29 (.build [(.int .i32 0),(.int .i32 0),(.int .i32 0),(.int .i32 0)] []),
 ⟨none,.stn 4 (.tmp 4) (.tmp 29),none⟩,
 oX 5 (.mv (kX 7))])
 (.ret))
 (.skip))))))
 (.seq (.reg [oX 8 (.mv (.const (.int .u32 0)))])
 (.seq (.seq (.reg [vX 30 1,
 oX 31 (.len (.tmp 30)),
 oX 32 (.mv (kX 0))])
 (.block 1 (.loop (.seq (.reg [oX 33 (bX .lss 32 31)])
 (.seq (.cond (.tmp 33)
 (.skip)
 (.exit 1))
 (.seq (.block 2 (.seq (.reg [vX 34 32,
 oX 35 (.is 1 (.tmp 30) (.tmp 32)),
 oX 36 (.ld1 (.tmp 35)),
 vX 9 34,
 vX 10 36])
 (.reg [vX 37 8,
 vX 38 10,
 oX 39 (.conv .u32 (.tmp 38)),
 vX 40 9,
 oX 41 (.bin .mul (kX 8) (.tmp 40)),
 oX 42 (bX .shl 39 41),
 oX 43 (bX .or 37 42),
 vX 8 43])))
 (.reg [oX 44 (bK .add 32 1),
 vX 32 44])))))))
 (.seq (.reg [oX 45 (.fa 2 (.tmp 6)),
 oX 46 (.ldn 4 (.tmp 45)),
 oX 11 (.alloc 28 [(.int .i32 0),(.int .i32 0),(.int .i32 0),(.int .i32 0)]),
 ⟨none,.stn 4 (.tmp 11) (.tmp 46),none⟩])
 (.seq (.seq (.reg [oX 47 (.fa 1 (.tmp 6)),
 oX 48 (.ld1 (.tmp 47)),
 oX 49 (.len (.tmp 48)),
 oX 50 (.mv (kX 0))])
 (.block 3 (.loop (.seq (.reg [oX 51 (bX .lss 50 49)])
 (.seq (.cond (.tmp 51)
 (.skip)
 (.exit 3))
 (.seq (.block 4 (.seq (.reg [oX 52 (.is 3 (.tmp 48) (.tmp 50)),
 oX 53 (.ldn 3 (.tmp 52)),
 oX 13 (.alloc 175 [(.int .i64 0),(.int .i64 0),(.int .i64 0)]),
 ⟨none,.stn 3 (.tmp 13) (.tmp 53),none⟩])
 (.any [(true,0,[],oX 54 (.fa 0 (.tmp 13))),
 (true,1,[],oX 55 (.ld1 (.tmp 54))),
 (true,2,[],vX 56 8),
 (true,3,[],oX 57 (.fa 2 (.tmp 13))),
 (true,4,[],oX 58 (.ld1 (.tmp 57))),
 (true,5,[],oX 59 (bX .shr 56 58)),
 (true,6,[],oX 60 (.fa 1 (.tmp 13))),
 (true,7,[],oX 61 (.ld1 (.tmp 60))),
 (true,8,[],oX 62 (.bin .shl (.const (.int .u32 1)) (.tmp 61))),
 (true,9,[],oX 63 (.bin .sub (.tmp 62) (.const (.int .u32 1)))),
 (true,10,[],oX 64 (bX .and 59 63)),
 (false,11,[0,1,2,3,4,5,6,7,8,9,10],oX 65 (.fa 1 (.tmp 13))),
 (false,12,[0,1,2,3,4,5,6,7,8,9,10],oX 66 (.ld1 (.tmp 65))),
 (false,13,[0,1],oX 67 (.call 181 [(.tmp 64),(.tmp 66)])),
 (false,14,[],oX 68 (.ia 4 1 (.tmp 11) (.tmp 55))),
 (false,15,[],⟨none,.st1 (.tmp 68) (.tmp 67),none⟩)])))
 (.reg [oX 69 (bK .add 50 1),
 vX 50 69])))))))
 (.seq (.seq (.reg [vX 70 0,
 oX 71 (.call 182 [(.tmp 70)])])
 (.cond (.tmp 71)
 (.reg [oX 72 (.ia 4 1 (.tmp 11) (kX 0)),
 oX 73 (.ld1 (.tmp 72)),
 oX 74 (.ia 4 1 (.tmp 11) (kX 0)),
 oX 75 (.ld1 (.tmp 74)),
 oX 76 (.ia 4 1 (.tmp 11) (kX 1)),
 ⟨none,.st1 (.tmp 76) (.tmp 73),none⟩,
 oX 77 (.ia 4 1 (.tmp 11) (kX 2)),
 ⟨none,.st1 (.tmp 77) (.tmp 75),none⟩])
 (.skip)))
 (.seq (.reg [oX 78 (.ldn 4 (.tmp 11)),
 ⟨none,.stn 4 (.tmp 4) (.tmp 78),none⟩,
 oX 5 (.mv (kX 0))])
 (.ret)))))))))
theorem k178 : fnOk Tryz.prog 178 = some (M178, [.cn 4 4, .t 5], 79) := by kernel_rfl

theorem c_Unpack1 (a : Option Addr) (c : Nat) (b0 b1 b2 b3 X : Int) (hX : X = b0 + b1 * 256 + b2 * 65536 + b3 * 16777216) (hb0 : 0 ≤ b0 ∧ b0 ≤ 255) (hb1 : 0 ≤ b1 ∧ b1 ≤ 255) (hb2 : 0 ≤ b2 ∧ b2 ≤ 255) (hb3 : 0 ≤ b3 ∧ b3 ≤ 255) (hA : IntsAt w0 H .u8 a [b0, b1, b2, b3]) (h : K (.tuple #[V4 (unp 1 X), .int .i64 0]) H) : HCalls Tryz.prog w0 178 [.int .i64 1, .slice a 4 c] H K := by
  have key : ∀ v, v = .tuple #[V4 (unp 1 X), .int .i64 0] → K v H := fun v e => by subst e; exact h
  clear h
  obtain ⟨b, o, rfl, hr, hf⟩ := hA (by simp)
  have r0 := hr 0 (by simp)
  have r1 := hr 1 (by simp)
  have r2 := hr 2 (by simp)
  have r3 := hr 3 (by simp)
  simp only [Nat.add_zero, List.getD, List.getElem?_cons_zero, List.getElem?_cons_succ, Option.getD_some] at r0 r1 r2 r3
  clear hr hA
  have z0 : bitsI .or .u32 0 b0 = b0 := by have := or_shift 0 b0 0 (by omega) (by omega) (by omega) (by omega); simp at this; rw [this]
  have z1 : bitsI .or .u32 (b0) (b1 * 256) = b0 + b1 * 256 := by have := or_shift (b0) b1 8 (by omega) (by omega) (by omega) (by omega); simp at this; rw [this]
  have z2 : bitsI .or .u32 (b0 + b1 * 256) (b2 * 65536) = b0 + b1 * 256 + b2 * 65536 := by have := or_shift (b0 + b1 * 256) b2 16 (by omega) (by omega) (by omega) (by omega); simp at this; rw [this]
  have z3 : bitsI .or .u32 (b0 + b1 * 256 + b2 * 65536) (b3 * 16777216) = X := by have := or_shift (b0 + b1 * 256 + b2 * 65536) b3 24 (by omega) (by omega) (by omega) (by omega); simp at this; rw [this]; omega
  have u0 : IntKind.u32.wrap b0 = b0 := Bu.2.1 _ (by omega) (by omega)
  have v0 : IntKind.u32.wrap (b0 * 1) = b0 := by rw [Int.mul_one]; exact u0
  have u1 : IntKind.u32.wrap b1 = b1 := Bu.2.1 _ (by omega) (by omega)
  have v1 : IntKind.u32.wrap (b1 * 256) = b1 * 256 := Bu.2.1 _ (by omega) (by omega)
  have u2 : IntKind.u32.wrap b2 = b2 := Bu.2.1 _ (by omega) (by omega)
  have v2 : IntKind.u32.wrap (b2 * 65536) = b2 * 65536 := Bu.2.1 _ (by omega) (by omega)
  have u3 : IntKind.u32.wrap b3 = b3 := Bu.2.1 _ (by omega) (by omega)
  have v3 : IntKind.u32.wrap (b3 * 16777216) = b3 * 16777216 := Bu.2.1 _ (by omega) (by omega)
  have f0 : X.fdiv 1 = X / 1 := Int.fdiv_eq_ediv_of_nonneg _ (by omega)
  have m0 : bitsI .and .u32 (X / 1) 255 = X / 1 % 256 := by have := and_mask (X / 1) 8 (by omega) (by omega) (by omega); simpa using this
  have f8 : X.fdiv 256 = X / 256 := Int.fdiv_eq_ediv_of_nonneg _ (by omega)
  have m8 : bitsI .and .u32 (X / 256) 255 = X / 256 % 256 := by have := and_mask (X / 256) 8 (by omega) (by omega) (by omega); simpa using this
  have f16 : X.fdiv 65536 = X / 65536 := Int.fdiv_eq_ediv_of_nonneg _ (by omega)
  have m16 : bitsI .and .u32 (X / 65536) 255 = X / 65536 % 256 := by have := and_mask (X / 65536) 8 (by omega) (by omega) (by omega); simpa using this
  have f24 : X.fdiv 16777216 = X / 16777216 := Int.fdiv_eq_ediv_of_nonneg _ (by omega)
  have m24 : bitsI .and .u32 (X / 16777216) 255 = X / 16777216 % 256 := by have := and_mask (X / 16777216) 8 (by omega) (by omega) (by omega); simpa using this
  have hXb : 0 ≤ X ∧ X < 4294967296 := by omega
  clear hX
  refine HL.hc k178 999 ?_; unfold M178
  (all_goals (try simp only [S0,putAt,List.replicate,Int.reduceAdd,Int.reduceSub,Int.reduceMul,Int.reduceTDiv,Int.reduceTMod,Int.reduceMod,Int.reduceDiv,Nat.reduceLT,Nat.reduceEqDiff,Int.reduceLE,Int.reduceLT,Int.reduceToNat,Int.reduceNeg,Int.reduceEq,Nat.reduceLeDiff,Nat.reducePow,Int.reducePow,reduceIte,Nat.reduceSub,Nat.reduceAdd,Nat.reduceMul, *])); repeat' ((first | (with_reducible refine fun _ : True => ?_) | (with_reducible refine any_h ?_) | ((first | refine AllocQ_i ?_ | refine AllocO_i ?_); intro bk hb0 hbk; try simp only [set_none'] at hbk) | ((first | refine condS_i ?_ ?_ | refine pick_i ?_ ?_ | refine gS_it ?_ ?_ | refine gS_if ?_ ?_ | refine gP_it ?_ ?_ | refine gP_if ?_ ?_) <;> (intro hc; try simp only [Int.reduceLE,Int.reduceLT,Int.reduceEq,Sn] at hc)) | (with_reducible refine KP_i ?_ ?_; · exact aE) | (with_reducible refine And.intro ?_ ?_)) <;> (try simp only [S0,putAt,List.replicate,Int.reduceAdd,Int.reduceSub,Int.reduceMul,Int.reduceTDiv,Int.reduceTMod,Int.reduceMod,Int.reduceDiv,Nat.reduceLT,Nat.reduceEqDiff,Int.reduceLE,Int.reduceLT,Int.reduceToNat,Int.reduceNeg,Int.reduceEq,Nat.reduceLeDiff,Nat.reducePow,Int.reducePow,reduceIte,Nat.reduceSub,Nat.reduceAdd,Nat.reduceMul, *]))
  refine c_find1 (fun bc H' g nc kc => ?_)
  have kb := g.some (b := bk) aA
  have hbc : bk ≠ bc := fun e => by rw [e, kc] at kb; cases kb
  have hcb := hbc.symm
  have g1 : Grow w0 H H' := Grow.trans aG g
  have hf1 : bk ≠ b := hf _ hb0 hbk
  have nc2 := (Heap.set_none.1 nc).2
  have hf2 : bc ≠ b := by
    rcases Classical.em (w0.heap.size ≤ bc) with hs | hs
    · exact hf _ hs nc2
    · intro e
      rcases g1 bc with e1 | ⟨e1, e2⟩
      · rw [nc2, kc] at e1; cases e1
      · exact hs e2
  have hf3 : ∀ c, w0.heap.size ≤ c → H' c = none → c ≠ b := fun c h1 h2 => hf c h1 (g1.none h2)
  have q0 := g1.rd1 r0
  have q1 := g1.rd1 r1
  have q2 := g1.rd1 r2
  have q3 := g1.rd1 r3
  clear r0 r1 r2 r3
  rw [root2 hbc kb kc]
  (all_goals (try simp only [S0,putAt,List.replicate,Int.reduceAdd,Int.reduceSub,Int.reduceMul,Int.reduceTDiv,Int.reduceTMod,Int.reduceMod,Int.reduceDiv,Nat.reduceLT,Nat.reduceEqDiff,Int.reduceLE,Int.reduceLT,Int.reduceToNat,Int.reduceNeg,Int.reduceEq,Nat.reduceLeDiff,Nat.reducePow,Int.reducePow,reduceIte,Nat.reduceSub,Nat.reduceAdd,Nat.reduceMul, *])); repeat' ((first | (with_reducible refine fun _ : True => ?_) | refine c_number (X / 1 % 256) 8 (by simp) (by omega) (by omega) ?_ | refine c_number (X / 256 % 256) 8 (by simp) (by omega) (by omega) ?_ | refine c_number (X / 65536 % 256) 8 (by simp) (by omega) (by omega) ?_ | refine c_number (X / 16777216 % 256) 8 (by simp) (by omega) (by omega) ?_ | refine c_grey _ ?_ | (with_reducible refine any_h ?_) | ((first | refine AllocQ_i ?_ | refine AllocO_i ?_); intro bk hb0 hbk; try simp only [set_none'] at hbk) | ((first | refine condS_i ?_ ?_ | refine pick_i ?_ ?_ | refine gS_it ?_ ?_ | refine gS_if ?_ ?_ | refine gP_it ?_ ?_ | refine gP_if ?_ ?_) <;> (intro hc; try simp only [Int.reduceLE,Int.reduceLT,Int.reduceEq,Sn] at hc)) | (with_reducible refine KP_i ?_ ?_; · exact aE) | (with_reducible refine loop_u ?_) | (with_reducible refine And.intro ?_ ?_)) <;> (try simp only [S0,putAt,List.replicate,Int.reduceAdd,Int.reduceSub,Int.reduceMul,Int.reduceTDiv,Int.reduceTMod,Int.reduceMod,Int.reduceDiv,Nat.reduceLT,Nat.reduceEqDiff,Int.reduceLE,Int.reduceLT,Int.reduceToNat,Int.reduceNeg,Int.reduceEq,Nat.reduceLeDiff,Nat.reducePow,Int.reducePow,reduceIte,Nat.reduceSub,Nat.reduceAdd,Nat.reduceMul, *]))
  refine Fin_mk (by (repeat' (first | exact g1.le | (refine Le_fresh (by first | exact nc2 | exact (by simp only [*]) | exact Grow.none g1 (by simp only [*])) ?_)))) (key _ ?_)
  simp [V4, unp, chan]
theorem c_Unpack2 (a : Option Addr) (c : Nat) (b0 b1 X : Int) (hX : X = b0 + b1 * 256) (hb0 : 0 ≤ b0 ∧ b0 ≤ 255) (hb1 : 0 ≤ b1 ∧ b1 ≤ 255) (hA : IntsAt w0 H .u8 a [b0, b1]) (h : K (.tuple #[V4 (unp 2 X), .int .i64 0]) H) : HCalls Tryz.prog w0 178 [.int .i64 2, .slice a 2 c] H K := by
  have key : ∀ v, v = .tuple #[V4 (unp 2 X), .int .i64 0] → K v H := fun v e => by subst e; exact h
  clear h
  obtain ⟨b, o, rfl, hr, hf⟩ := hA (by simp)
  have r0 := hr 0 (by simp)
  have r1 := hr 1 (by simp)
  simp only [Nat.add_zero, List.getD, List.getElem?_cons_zero, List.getElem?_cons_succ, Option.getD_some] at r0 r1
  clear hr hA
  have z0 : bitsI .or .u32 0 b0 = b0 := by have := or_shift 0 b0 0 (by omega) (by omega) (by omega) (by omega); simp at this; rw [this]
  have z1 : bitsI .or .u32 (b0) (b1 * 256) = X := by have := or_shift (b0) b1 8 (by omega) (by omega) (by omega) (by omega); simp at this; rw [this]; omega
  have u0 : IntKind.u32.wrap b0 = b0 := Bu.2.1 _ (by omega) (by omega)
  have v0 : IntKind.u32.wrap (b0 * 1) = b0 := by rw [Int.mul_one]; exact u0
  have u1 : IntKind.u32.wrap b1 = b1 := Bu.2.1 _ (by omega) (by omega)
  have v1 : IntKind.u32.wrap (b1 * 256) = b1 * 256 := Bu.2.1 _ (by omega) (by omega)
  have f11 : X.fdiv 2048 = X / 2048 := Int.fdiv_eq_ediv_of_nonneg _ (by omega)
  have m11 : bitsI .and .u32 (X / 2048) 31 = X / 2048 % 32 := by have := and_mask (X / 2048) 5 (by omega) (by omega) (by omega); simpa using this
  have f5 : X.fdiv 32 = X / 32 := Int.fdiv_eq_ediv_of_nonneg _ (by omega)
  have m5 : bitsI .and .u32 (X / 32) 63 = X / 32 % 64 := by have := and_mask (X / 32) 6 (by omega) (by omega) (by omega); simpa using this
  have f0 : X.fdiv 1 = X / 1 := Int.fdiv_eq_ediv_of_nonneg _ (by omega)
  have m0 : bitsI .and .u32 (X / 1) 31 = X / 1 % 32 := by have := and_mask (X / 1) 5 (by omega) (by omega) (by omega); simpa using this
  have hXb : 0 ≤ X ∧ X < 4294967296 := by omega
  clear hX
  refine HL.hc k178 999 ?_; unfold M178
  (all_goals (try simp only [S0,putAt,List.replicate,Int.reduceAdd,Int.reduceSub,Int.reduceMul,Int.reduceTDiv,Int.reduceTMod,Int.reduceMod,Int.reduceDiv,Nat.reduceLT,Nat.reduceEqDiff,Int.reduceLE,Int.reduceLT,Int.reduceToNat,Int.reduceNeg,Int.reduceEq,Nat.reduceLeDiff,Nat.reducePow,Int.reducePow,reduceIte,Nat.reduceSub,Nat.reduceAdd,Nat.reduceMul, *])); repeat' ((first | (with_reducible refine fun _ : True => ?_) | (with_reducible refine any_h ?_) | ((first | refine AllocQ_i ?_ | refine AllocO_i ?_); intro bk hb0 hbk; try simp only [set_none'] at hbk) | ((first | refine condS_i ?_ ?_ | refine pick_i ?_ ?_ | refine gS_it ?_ ?_ | refine gS_if ?_ ?_ | refine gP_it ?_ ?_ | refine gP_if ?_ ?_) <;> (intro hc; try simp only [Int.reduceLE,Int.reduceLT,Int.reduceEq,Sn] at hc)) | (with_reducible refine KP_i ?_ ?_; · exact aE) | (with_reducible refine And.intro ?_ ?_)) <;> (try simp only [S0,putAt,List.replicate,Int.reduceAdd,Int.reduceSub,Int.reduceMul,Int.reduceTDiv,Int.reduceTMod,Int.reduceMod,Int.reduceDiv,Nat.reduceLT,Nat.reduceEqDiff,Int.reduceLE,Int.reduceLT,Int.reduceToNat,Int.reduceNeg,Int.reduceEq,Nat.reduceLeDiff,Nat.reducePow,Int.reducePow,reduceIte,Nat.reduceSub,Nat.reduceAdd,Nat.reduceMul, *]))
  refine c_find2 (fun bc H' g nc kc => ?_)
  have kb := g.some (b := bk) aA
  have hbc : bk ≠ bc := fun e => by rw [e, kc] at kb; cases kb
  have hcb := hbc.symm
  have g1 : Grow w0 H H' := Grow.trans aG g
  have hf1 : bk ≠ b := hf _ hb0 hbk
  have nc2 := (Heap.set_none.1 nc).2
  have hf2 : bc ≠ b := by
    rcases Classical.em (w0.heap.size ≤ bc) with hs | hs
    · exact hf _ hs nc2
    · intro e
      rcases g1 bc with e1 | ⟨e1, e2⟩
      · rw [nc2, kc] at e1; cases e1
      · exact hs e2
  have hf3 : ∀ c, w0.heap.size ≤ c → H' c = none → c ≠ b := fun c h1 h2 => hf c h1 (g1.none h2)
  have q0 := g1.rd1 r0
  have q1 := g1.rd1 r1
  clear r0 r1
  rw [root2 hbc kb kc]
  (all_goals (try simp only [S0,putAt,List.replicate,Int.reduceAdd,Int.reduceSub,Int.reduceMul,Int.reduceTDiv,Int.reduceTMod,Int.reduceMod,Int.reduceDiv,Nat.reduceLT,Nat.reduceEqDiff,Int.reduceLE,Int.reduceLT,Int.reduceToNat,Int.reduceNeg,Int.reduceEq,Nat.reduceLeDiff,Nat.reducePow,Int.reducePow,reduceIte,Nat.reduceSub,Nat.reduceAdd,Nat.reduceMul, *])); repeat' ((first | (with_reducible refine fun _ : True => ?_) | refine c_number (X / 2048 % 32) 5 (by simp) (by omega) (by omega) ?_ | refine c_number (X / 32 % 64) 6 (by simp) (by omega) (by omega) ?_ | refine c_number (X / 1 % 32) 5 (by simp) (by omega) (by omega) ?_ | refine c_grey _ ?_ | (with_reducible refine any_h ?_) | ((first | refine AllocQ_i ?_ | refine AllocO_i ?_); intro bk hb0 hbk; try simp only [set_none'] at hbk) | ((first | refine condS_i ?_ ?_ | refine pick_i ?_ ?_ | refine gS_it ?_ ?_ | refine gS_if ?_ ?_ | refine gP_it ?_ ?_ | refine gP_if ?_ ?_) <;> (intro hc; try simp only [Int.reduceLE,Int.reduceLT,Int.reduceEq,Sn] at hc)) | (with_reducible refine KP_i ?_ ?_; · exact aE) | (with_reducible refine loop_u ?_) | (with_reducible refine And.intro ?_ ?_)) <;> (try simp only [S0,putAt,List.replicate,Int.reduceAdd,Int.reduceSub,Int.reduceMul,Int.reduceTDiv,Int.reduceTMod,Int.reduceMod,Int.reduceDiv,Nat.reduceLT,Nat.reduceEqDiff,Int.reduceLE,Int.reduceLT,Int.reduceToNat,Int.reduceNeg,Int.reduceEq,Nat.reduceLeDiff,Nat.reducePow,Int.reducePow,reduceIte,Nat.reduceSub,Nat.reduceAdd,Nat.reduceMul, *]))
  refine Fin_mk (by (repeat' (first | exact g1.le | (refine Le_fresh (by first | exact nc2 | exact (by simp only [*]) | exact Grow.none g1 (by simp only [*])) ?_)))) (key _ ?_)
  simp [V4, unp, chan]
theorem c_Unpack3 (a : Option Addr) (c : Nat) (b0 b1 X : Int) (hX : X = b0 + b1 * 256) (hb0 : 0 ≤ b0 ∧ b0 ≤ 255) (hb1 : 0 ≤ b1 ∧ b1 ≤ 255) (hA : IntsAt w0 H .u8 a [b0, b1]) (h : K (.tuple #[V4 (unp 3 X), .int .i64 0]) H) : HCalls Tryz.prog w0 178 [.int .i64 3, .slice a 2 c] H K := by
  have key : ∀ v, v = .tuple #[V4 (unp 3 X), .int .i64 0] → K v H := fun v e => by subst e; exact h
  clear h
  obtain ⟨b, o, rfl, hr, hf⟩ := hA (by simp)
  have r0 := hr 0 (by simp)
  have r1 := hr 1 (by simp)
  simp only [Nat.add_zero, List.getD, List.getElem?_cons_zero, List.getElem?_cons_succ, Option.getD_some] at r0 r1
  clear hr hA
  have z0 : bitsI .or .u32 0 b0 = b0 := by have := or_shift 0 b0 0 (by omega) (by omega) (by omega) (by omega); simp at this; rw [this]
  have z1 : bitsI .or .u32 (b0) (b1 * 256) = X := by have := or_shift (b0) b1 8 (by omega) (by omega) (by omega) (by omega); simp at this; rw [this]; omega
  have u0 : IntKind.u32.wrap b0 = b0 := Bu.2.1 _ (by omega) (by omega)
  have v0 : IntKind.u32.wrap (b0 * 1) = b0 := by rw [Int.mul_one]; exact u0
  have u1 : IntKind.u32.wrap b1 = b1 := Bu.2.1 _ (by omega) (by omega)
  have v1 : IntKind.u32.wrap (b1 * 256) = b1 * 256 := Bu.2.1 _ (by omega) (by omega)
  have f12 : X.fdiv 4096 = X / 4096 := Int.fdiv_eq_ediv_of_nonneg _ (by omega)
  have m12 : bitsI .and .u32 (X / 4096) 15 = X / 4096 % 16 := by have := and_mask (X / 4096) 4 (by omega) (by omega) (by omega); simpa using this
  have f8 : X.fdiv 256 = X / 256 := Int.fdiv_eq_ediv_of_nonneg _ (by omega)
  have m8 : bitsI .and .u32 (X / 256) 15 = X / 256 % 16 := by have := and_mask (X / 256) 4 (by omega) (by omega) (by omega); simpa using this
  have f4 : X.fdiv 16 = X / 16 := Int.fdiv_eq_ediv_of_nonneg _ (by omega)
  have m4 : bitsI .and .u32 (X / 16) 15 = X / 16 % 16 := by have := and_mask (X / 16) 4 (by omega) (by omega) (by omega); simpa using this
  have f0 : X.fdiv 1 = X / 1 := Int.fdiv_eq_ediv_of_nonneg _ (by omega)
  have m0 : bitsI .and .u32 (X / 1) 15 = X / 1 % 16 := by have := and_mask (X / 1) 4 (by omega) (by omega) (by omega); simpa using this
  have hXb : 0 ≤ X ∧ X < 4294967296 := by omega
  clear hX
  refine HL.hc k178 999 ?_; unfold M178
  (all_goals (try simp only [S0,putAt,List.replicate,Int.reduceAdd,Int.reduceSub,Int.reduceMul,Int.reduceTDiv,Int.reduceTMod,Int.reduceMod,Int.reduceDiv,Nat.reduceLT,Nat.reduceEqDiff,Int.reduceLE,Int.reduceLT,Int.reduceToNat,Int.reduceNeg,Int.reduceEq,Nat.reduceLeDiff,Nat.reducePow,Int.reducePow,reduceIte,Nat.reduceSub,Nat.reduceAdd,Nat.reduceMul, *])); repeat' ((first | (with_reducible refine fun _ : True => ?_) | (with_reducible refine any_h ?_) | ((first | refine AllocQ_i ?_ | refine AllocO_i ?_); intro bk hb0 hbk; try simp only [set_none'] at hbk) | ((first | refine condS_i ?_ ?_ | refine pick_i ?_ ?_ | refine gS_it ?_ ?_ | refine gS_if ?_ ?_ | refine gP_it ?_ ?_ | refine gP_if ?_ ?_) <;> (intro hc; try simp only [Int.reduceLE,Int.reduceLT,Int.reduceEq,Sn] at hc)) | (with_reducible refine KP_i ?_ ?_; · exact aE) | (with_reducible refine And.intro ?_ ?_)) <;> (try simp only [S0,putAt,List.replicate,Int.reduceAdd,Int.reduceSub,Int.reduceMul,Int.reduceTDiv,Int.reduceTMod,Int.reduceMod,Int.reduceDiv,Nat.reduceLT,Nat.reduceEqDiff,Int.reduceLE,Int.reduceLT,Int.reduceToNat,Int.reduceNeg,Int.reduceEq,Nat.reduceLeDiff,Nat.reducePow,Int.reducePow,reduceIte,Nat.reduceSub,Nat.reduceAdd,Nat.reduceMul, *]))
  refine c_find3 (fun bc H' g nc kc => ?_)
  have kb := g.some (b := bk) aA
  have hbc : bk ≠ bc := fun e => by rw [e, kc] at kb; cases kb
  have hcb := hbc.symm
  have g1 : Grow w0 H H' := Grow.trans aG g
  have hf1 : bk ≠ b := hf _ hb0 hbk
  have nc2 := (Heap.set_none.1 nc).2
  have hf2 : bc ≠ b := by
    rcases Classical.em (w0.heap.size ≤ bc) with hs | hs
    · exact hf _ hs nc2
    · intro e
      rcases g1 bc with e1 | ⟨e1, e2⟩
      · rw [nc2, kc] at e1; cases e1
      · exact hs e2
  have hf3 : ∀ c, w0.heap.size ≤ c → H' c = none → c ≠ b := fun c h1 h2 => hf c h1 (g1.none h2)
  have q0 := g1.rd1 r0
  have q1 := g1.rd1 r1
  clear r0 r1
  rw [root2 hbc kb kc]
  (all_goals (try simp only [S0,putAt,List.replicate,Int.reduceAdd,Int.reduceSub,Int.reduceMul,Int.reduceTDiv,Int.reduceTMod,Int.reduceMod,Int.reduceDiv,Nat.reduceLT,Nat.reduceEqDiff,Int.reduceLE,Int.reduceLT,Int.reduceToNat,Int.reduceNeg,Int.reduceEq,Nat.reduceLeDiff,Nat.reducePow,Int.reducePow,reduceIte,Nat.reduceSub,Nat.reduceAdd,Nat.reduceMul, *])); repeat' ((first | (with_reducible refine fun _ : True => ?_) | refine c_number (X / 4096 % 16) 4 (by simp) (by omega) (by omega) ?_ | refine c_number (X / 256 % 16) 4 (by simp) (by omega) (by omega) ?_ | refine c_number (X / 16 % 16) 4 (by simp) (by omega) (by omega) ?_ | refine c_number (X / 1 % 16) 4 (by simp) (by omega) (by omega) ?_ | refine c_grey _ ?_ | (with_reducible refine any_h ?_) | ((first | refine AllocQ_i ?_ | refine AllocO_i ?_); intro bk hb0 hbk; try simp only [set_none'] at hbk) | ((first | refine condS_i ?_ ?_ | refine pick_i ?_ ?_ | refine gS_it ?_ ?_ | refine gS_if ?_ ?_ | refine gP_it ?_ ?_ | refine gP_if ?_ ?_) <;> (intro hc; try simp only [Int.reduceLE,Int.reduceLT,Int.reduceEq,Sn] at hc)) | (with_reducible refine KP_i ?_ ?_; · exact aE) | (with_reducible refine loop_u ?_) | (with_reducible refine And.intro ?_ ?_)) <;> (try simp only [S0,putAt,List.replicate,Int.reduceAdd,Int.reduceSub,Int.reduceMul,Int.reduceTDiv,Int.reduceTMod,Int.reduceMod,Int.reduceDiv,Nat.reduceLT,Nat.reduceEqDiff,Int.reduceLE,Int.reduceLT,Int.reduceToNat,Int.reduceNeg,Int.reduceEq,Nat.reduceLeDiff,Nat.reducePow,Int.reducePow,reduceIte,Nat.reduceSub,Nat.reduceAdd,Nat.reduceMul, *]))
  refine Fin_mk (by (repeat' (first | exact g1.le | (refine Le_fresh (by first | exact nc2 | exact (by simp only [*]) | exact Grow.none g1 (by simp only [*])) ?_)))) (key _ ?_)
  simp [V4, unp, chan]
theorem c_Unpack4 (a : Option Addr) (c : Nat) (b0 b1 X : Int) (hX : X = b0 + b1 * 256) (hb0 : 0 ≤ b0 ∧ b0 ≤ 255) (hb1 : 0 ≤ b1 ∧ b1 ≤ 255) (hA : IntsAt w0 H .u8 a [b0, b1]) (h : K (.tuple #[V4 (unp 4 X), .int .i64 0]) H) : HCalls Tryz.prog w0 178 [.int .i64 4, .slice a 2 c] H K := by
  have key : ∀ v, v = .tuple #[V4 (unp 4 X), .int .i64 0] → K v H := fun v e => by subst e; exact h
  clear h
  obtain ⟨b, o, rfl, hr, hf⟩ := hA (by simp)
  have r0 := hr 0 (by simp)
  have r1 := hr 1 (by simp)
  simp only [Nat.add_zero, List.getD, List.getElem?_cons_zero, List.getElem?_cons_succ, Option.getD_some] at r0 r1
  clear hr hA
  have z0 : bitsI .or .u32 0 b0 = b0 := by have := or_shift 0 b0 0 (by omega) (by omega) (by omega) (by omega); simp at this; rw [this]
  have z1 : bitsI .or .u32 (b0) (b1 * 256) = X := by have := or_shift (b0) b1 8 (by omega) (by omega) (by omega) (by omega); simp at this; rw [this]; omega
  have u0 : IntKind.u32.wrap b0 = b0 := Bu.2.1 _ (by omega) (by omega)
  have v0 : IntKind.u32.wrap (b0 * 1) = b0 := by rw [Int.mul_one]; exact u0
  have u1 : IntKind.u32.wrap b1 = b1 := Bu.2.1 _ (by omega) (by omega)
  have v1 : IntKind.u32.wrap (b1 * 256) = b1 * 256 := Bu.2.1 _ (by omega) (by omega)
  have f11 : X.fdiv 2048 = X / 2048 := Int.fdiv_eq_ediv_of_nonneg _ (by omega)
  have m11 : bitsI .and .u32 (X / 2048) 31 = X / 2048 % 32 := by have := and_mask (X / 2048) 5 (by omega) (by omega) (by omega); simpa using this
  have f6 : X.fdiv 64 = X / 64 := Int.fdiv_eq_ediv_of_nonneg _ (by omega)
  have m6 : bitsI .and .u32 (X / 64) 31 = X / 64 % 32 := by have := and_mask (X / 64) 5 (by omega) (by omega) (by omega); simpa using this
  have f1 : X.fdiv 2 = X / 2 := Int.fdiv_eq_ediv_of_nonneg _ (by omega)
  have m1 : bitsI .and .u32 (X / 2) 31 = X / 2 % 32 := by have := and_mask (X / 2) 5 (by omega) (by omega) (by omega); simpa using this
  have f0 : X.fdiv 1 = X / 1 := Int.fdiv_eq_ediv_of_nonneg _ (by omega)
  have m0 : bitsI .and .u32 (X / 1) 1 = X / 1 % 2 := by have := and_mask (X / 1) 1 (by omega) (by omega) (by omega); simpa using this
  have hXb : 0 ≤ X ∧ X < 4294967296 := by omega
  clear hX
  refine HL.hc k178 999 ?_; unfold M178
  (all_goals (try simp only [S0,putAt,List.replicate,Int.reduceAdd,Int.reduceSub,Int.reduceMul,Int.reduceTDiv,Int.reduceTMod,Int.reduceMod,Int.reduceDiv,Nat.reduceLT,Nat.reduceEqDiff,Int.reduceLE,Int.reduceLT,Int.reduceToNat,Int.reduceNeg,Int.reduceEq,Nat.reduceLeDiff,Nat.reducePow,Int.reducePow,reduceIte,Nat.reduceSub,Nat.reduceAdd,Nat.reduceMul, *])); repeat' ((first | (with_reducible refine fun _ : True => ?_) | (with_reducible refine any_h ?_) | ((first | refine AllocQ_i ?_ | refine AllocO_i ?_); intro bk hb0 hbk; try simp only [set_none'] at hbk) | ((first | refine condS_i ?_ ?_ | refine pick_i ?_ ?_ | refine gS_it ?_ ?_ | refine gS_if ?_ ?_ | refine gP_it ?_ ?_ | refine gP_if ?_ ?_) <;> (intro hc; try simp only [Int.reduceLE,Int.reduceLT,Int.reduceEq,Sn] at hc)) | (with_reducible refine KP_i ?_ ?_; · exact aE) | (with_reducible refine And.intro ?_ ?_)) <;> (try simp only [S0,putAt,List.replicate,Int.reduceAdd,Int.reduceSub,Int.reduceMul,Int.reduceTDiv,Int.reduceTMod,Int.reduceMod,Int.reduceDiv,Nat.reduceLT,Nat.reduceEqDiff,Int.reduceLE,Int.reduceLT,Int.reduceToNat,Int.reduceNeg,Int.reduceEq,Nat.reduceLeDiff,Nat.reducePow,Int.reducePow,reduceIte,Nat.reduceSub,Nat.reduceAdd,Nat.reduceMul, *]))
  refine c_find4 (fun bc H' g nc kc => ?_)
  have kb := g.some (b := bk) aA
  have hbc : bk ≠ bc := fun e => by rw [e, kc] at kb; cases kb
  have hcb := hbc.symm
  have g1 : Grow w0 H H' := Grow.trans aG g
  have hf1 : bk ≠ b := hf _ hb0 hbk
  have nc2 := (Heap.set_none.1 nc).2
  have hf2 : bc ≠ b := by
    rcases Classical.em (w0.heap.size ≤ bc) with hs | hs
    · exact hf _ hs nc2
    · intro e
      rcases g1 bc with e1 | ⟨e1, e2⟩
      · rw [nc2, kc] at e1; cases e1
      · exact hs e2
  have hf3 : ∀ c, w0.heap.size ≤ c → H' c = none → c ≠ b := fun c h1 h2 => hf c h1 (g1.none h2)
  have q0 := g1.rd1 r0
  have q1 := g1.rd1 r1
  clear r0 r1
  rw [root2 hbc kb kc]
  (all_goals (try simp only [S0,putAt,List.replicate,Int.reduceAdd,Int.reduceSub,Int.reduceMul,Int.reduceTDiv,Int.reduceTMod,Int.reduceMod,Int.reduceDiv,Nat.reduceLT,Nat.reduceEqDiff,Int.reduceLE,Int.reduceLT,Int.reduceToNat,Int.reduceNeg,Int.reduceEq,Nat.reduceLeDiff,Nat.reducePow,Int.reducePow,reduceIte,Nat.reduceSub,Nat.reduceAdd,Nat.reduceMul, *])); repeat' ((first | (with_reducible refine fun _ : True => ?_) | refine c_number (X / 2048 % 32) 5 (by simp) (by omega) (by omega) ?_ | refine c_number (X / 64 % 32) 5 (by simp) (by omega) (by omega) ?_ | refine c_number (X / 2 % 32) 5 (by simp) (by omega) (by omega) ?_ | refine c_number (X / 1 % 2) 1 (by simp) (by omega) (by omega) ?_ | refine c_grey _ ?_ | (with_reducible refine any_h ?_) | ((first | refine AllocQ_i ?_ | refine AllocO_i ?_); intro bk hb0 hbk; try simp only [set_none'] at hbk) | ((first | refine condS_i ?_ ?_ | refine pick_i ?_ ?_ | refine gS_it ?_ ?_ | refine gS_if ?_ ?_ | refine gP_it ?_ ?_ | refine gP_if ?_ ?_) <;> (intro hc; try simp only [Int.reduceLE,Int.reduceLT,Int.reduceEq,Sn] at hc)) | (with_reducible refine KP_i ?_ ?_; · exact aE) | (with_reducible refine loop_u ?_) | (with_reducible refine And.intro ?_ ?_)) <;> (try simp only [S0,putAt,List.replicate,Int.reduceAdd,Int.reduceSub,Int.reduceMul,Int.reduceTDiv,Int.reduceTMod,Int.reduceMod,Int.reduceDiv,Nat.reduceLT,Nat.reduceEqDiff,Int.reduceLE,Int.reduceLT,Int.reduceToNat,Int.reduceNeg,Int.reduceEq,Nat.reduceLeDiff,Nat.reducePow,Int.reducePow,reduceIte,Nat.reduceSub,Nat.reduceAdd,Nat.reduceMul, *]))
  refine Fin_mk (by (repeat' (first | exact g1.le | (refine Le_fresh (by first | exact nc2 | exact (by simp only [*]) | exact Grow.none g1 (by simp only [*])) ?_)))) (key _ ?_)
  simp [V4, unp, chan]
theorem c_Unpack5 (a : Option Addr) (c : Nat) (b0 X : Int) (hX : X = b0) (hb0 : 0 ≤ b0 ∧ b0 ≤ 255) (hA : IntsAt w0 H .u8 a [b0]) (h : K (.tuple #[V4 (unp 5 X), .int .i64 0]) H) : HCalls Tryz.prog w0 178 [.int .i64 5, .slice a 1 c] H K := by
  have key : ∀ v, v = .tuple #[V4 (unp 5 X), .int .i64 0] → K v H := fun v e => by subst e; exact h
  clear h
  obtain ⟨b, o, rfl, hr, hf⟩ := hA (by simp)
  have r0 := hr 0 (by simp)
  simp only [Nat.add_zero, List.getD, List.getElem?_cons_zero, List.getElem?_cons_succ, Option.getD_some] at r0
  clear hr hA
  have z0 : bitsI .or .u32 0 b0 = X := by have := or_shift 0 b0 0 (by omega) (by omega) (by omega) (by omega); simp at this; rw [this]; omega
  have u0 : IntKind.u32.wrap b0 = b0 := Bu.2.1 _ (by omega) (by omega)
  have v0 : IntKind.u32.wrap (b0 * 1) = b0 := by rw [Int.mul_one]; exact u0
  have f0 : X.fdiv 1 = X / 1 := Int.fdiv_eq_ediv_of_nonneg _ (by omega)
  have m0 : bitsI .and .u32 (X / 1) 255 = X / 1 % 256 := by have := and_mask (X / 1) 8 (by omega) (by omega) (by omega); simpa using this
  have hXb : 0 ≤ X ∧ X < 4294967296 := by omega
  clear hX
  refine HL.hc k178 999 ?_; unfold M178
  (all_goals (try simp only [S0,putAt,List.replicate,Int.reduceAdd,Int.reduceSub,Int.reduceMul,Int.reduceTDiv,Int.reduceTMod,Int.reduceMod,Int.reduceDiv,Nat.reduceLT,Nat.reduceEqDiff,Int.reduceLE,Int.reduceLT,Int.reduceToNat,Int.reduceNeg,Int.reduceEq,Nat.reduceLeDiff,Nat.reducePow,Int.reducePow,reduceIte,Nat.reduceSub,Nat.reduceAdd,Nat.reduceMul, *])); repeat' ((first | (with_reducible refine fun _ : True => ?_) | (with_reducible refine any_h ?_) | ((first | refine AllocQ_i ?_ | refine AllocO_i ?_); intro bk hb0 hbk; try simp only [set_none'] at hbk) | ((first | refine condS_i ?_ ?_ | refine pick_i ?_ ?_ | refine gS_it ?_ ?_ | refine gS_if ?_ ?_ | refine gP_it ?_ ?_ | refine gP_if ?_ ?_) <;> (intro hc; try simp only [Int.reduceLE,Int.reduceLT,Int.reduceEq,Sn] at hc)) | (with_reducible refine KP_i ?_ ?_; · exact aE) | (with_reducible refine And.intro ?_ ?_)) <;> (try simp only [S0,putAt,List.replicate,Int.reduceAdd,Int.reduceSub,Int.reduceMul,Int.reduceTDiv,Int.reduceTMod,Int.reduceMod,Int.reduceDiv,Nat.reduceLT,Nat.reduceEqDiff,Int.reduceLE,Int.reduceLT,Int.reduceToNat,Int.reduceNeg,Int.reduceEq,Nat.reduceLeDiff,Nat.reducePow,Int.reducePow,reduceIte,Nat.reduceSub,Nat.reduceAdd,Nat.reduceMul, *]))
  refine c_find5 (fun bc H' g nc kc => ?_)
  have kb := g.some (b := bk) aA
  have hbc : bk ≠ bc := fun e => by rw [e, kc] at kb; cases kb
  have hcb := hbc.symm
  have g1 : Grow w0 H H' := Grow.trans aG g
  have hf1 : bk ≠ b := hf _ hb0 hbk
  have nc2 := (Heap.set_none.1 nc).2
  have hf2 : bc ≠ b := by
    rcases Classical.em (w0.heap.size ≤ bc) with hs | hs
    · exact hf _ hs nc2
    · intro e
      rcases g1 bc with e1 | ⟨e1, e2⟩
      · rw [nc2, kc] at e1; cases e1
      · exact hs e2
  have hf3 : ∀ c, w0.heap.size ≤ c → H' c = none → c ≠ b := fun c h1 h2 => hf c h1 (g1.none h2)
  have q0 := g1.rd1 r0
  clear r0
  rw [root2 hbc kb kc]
  (all_goals (try simp only [S0,putAt,List.replicate,Int.reduceAdd,Int.reduceSub,Int.reduceMul,Int.reduceTDiv,Int.reduceTMod,Int.reduceMod,Int.reduceDiv,Nat.reduceLT,Nat.reduceEqDiff,Int.reduceLE,Int.reduceLT,Int.reduceToNat,Int.reduceNeg,Int.reduceEq,Nat.reduceLeDiff,Nat.reducePow,Int.reducePow,reduceIte,Nat.reduceSub,Nat.reduceAdd,Nat.reduceMul, *])); repeat' ((first | (with_reducible refine fun _ : True => ?_) | refine c_number (X / 1 % 256) 8 (by simp) (by omega) (by omega) ?_ | refine c_grey _ ?_ | (with_reducible refine any_h ?_) | ((first | refine AllocQ_i ?_ | refine AllocO_i ?_); intro bk hb0 hbk; try simp only [set_none'] at hbk) | ((first | refine condS_i ?_ ?_ | refine pick_i ?_ ?_ | refine gS_it ?_ ?_ | refine gS_if ?_ ?_ | refine gP_it ?_ ?_ | refine gP_if ?_ ?_) <;> (intro hc; try simp only [Int.reduceLE,Int.reduceLT,Int.reduceEq,Sn] at hc)) | (with_reducible refine KP_i ?_ ?_; · exact aE) | (with_reducible refine loop_u ?_) | (with_reducible refine And.intro ?_ ?_)) <;> (try simp only [S0,putAt,List.replicate,Int.reduceAdd,Int.reduceSub,Int.reduceMul,Int.reduceTDiv,Int.reduceTMod,Int.reduceMod,Int.reduceDiv,Nat.reduceLT,Nat.reduceEqDiff,Int.reduceLE,Int.reduceLT,Int.reduceToNat,Int.reduceNeg,Int.reduceEq,Nat.reduceLeDiff,Nat.reducePow,Int.reducePow,reduceIte,Nat.reduceSub,Nat.reduceAdd,Nat.reduceMul, *]))
  refine Fin_mk (by (repeat' (first | exact g1.le | (refine Le_fresh (by first | exact nc2 | exact (by simp only [*]) | exact Grow.none g1 (by simp only [*])) ?_)))) (key _ ?_)
  simp [V4, unp, chan]
theorem c_Unpack6 (a : Option Addr) (c : Nat) (b0 X : Int) (hX : X = b0) (hb0 : 0 ≤ b0 ∧ b0 ≤ 255) (hA : IntsAt w0 H .u8 a [b0]) (h : K (.tuple #[V4 (unp 6 X), .int .i64 0]) H) : HCalls Tryz.prog w0 178 [.int .i64 6, .slice a 1 c] H K := by
  have key : ∀ v, v = .tuple #[V4 (unp 6 X), .int .i64 0] → K v H := fun v e => by subst e; exact h
  clear h
  obtain ⟨b, o, rfl, hr, hf⟩ := hA (by simp)
  have r0 := hr 0 (by simp)
  simp only [Nat.add_zero, List.getD, List.getElem?_cons_zero, List.getElem?_cons_succ, Option.getD_some] at r0
  clear hr hA
  have z0 : bitsI .or .u32 0 b0 = X := by have := or_shift 0 b0 0 (by omega) (by omega) (by omega) (by omega); simp at this; rw [this]; omega
  have u0 : IntKind.u32.wrap b0 = b0 := Bu.2.1 _ (by omega) (by omega)
  have v0 : IntKind.u32.wrap (b0 * 1) = b0 := by rw [Int.mul_one]; exact u0
  have f0 : X.fdiv 1 = X / 1 := Int.fdiv_eq_ediv_of_nonneg _ (by omega)
  have m0 : bitsI .and .u32 (X / 1) 255 = X / 1 % 256 := by have := and_mask (X / 1) 8 (by omega) (by omega) (by omega); simpa using this
  have hXb : 0 ≤ X ∧ X < 4294967296 := by omega
  clear hX
  refine HL.hc k178 999 ?_; unfold M178
  (all_goals (try simp only [S0,putAt,List.replicate,Int.reduceAdd,Int.reduceSub,Int.reduceMul,Int.reduceTDiv,Int.reduceTMod,Int.reduceMod,Int.reduceDiv,Nat.reduceLT,Nat.reduceEqDiff,Int.reduceLE,Int.reduceLT,Int.reduceToNat,Int.reduceNeg,Int.reduceEq,Nat.reduceLeDiff,Nat.reducePow,Int.reducePow,reduceIte,Nat.reduceSub,Nat.reduceAdd,Nat.reduceMul, *])); repeat' ((first | (with_reducible refine fun _ : True => ?_) | (with_reducible refine any_h ?_) | ((first | refine AllocQ_i ?_ | refine AllocO_i ?_); intro bk hb0 hbk; try simp only [set_none'] at hbk) | ((first | refine condS_i ?_ ?_ | refine pick_i ?_ ?_ | refine gS_it ?_ ?_ | refine gS_if ?_ ?_ | refine gP_it ?_ ?_ | refine gP_if ?_ ?_) <;> (intro hc; try simp only [Int.reduceLE,Int.reduceLT,Int.reduceEq,Sn] at hc)) | (with_reducible refine KP_i ?_ ?_; · exact aE) | (with_reducible refine And.intro ?_ ?_)) <;> (try simp only [S0,putAt,List.replicate,Int.reduceAdd,Int.reduceSub,Int.reduceMul,Int.reduceTDiv,Int.reduceTMod,Int.reduceMod,Int.reduceDiv,Nat.reduceLT,Nat.reduceEqDiff,Int.reduceLE,Int.reduceLT,Int.reduceToNat,Int.reduceNeg,Int.reduceEq,Nat.reduceLeDiff,Nat.reducePow,Int.reducePow,reduceIte,Nat.reduceSub,Nat.reduceAdd,Nat.reduceMul, *]))
  refine c_find6 (fun bc H' g nc kc => ?_)
  have kb := g.some (b := bk) aA
  have hbc : bk ≠ bc := fun e => by rw [e, kc] at kb; cases kb
  have hcb := hbc.symm
  have g1 : Grow w0 H H' := Grow.trans aG g
  have hf1 : bk ≠ b := hf _ hb0 hbk
  have nc2 := (Heap.set_none.1 nc).2
  have hf2 : bc ≠ b := by
    rcases Classical.em (w0.heap.size ≤ bc) with hs | hs
    · exact hf _ hs nc2
    · intro e
      rcases g1 bc with e1 | ⟨e1, e2⟩
      · rw [nc2, kc] at e1; cases e1
      · exact hs e2
  have hf3 : ∀ c, w0.heap.size ≤ c → H' c = none → c ≠ b := fun c h1 h2 => hf c h1 (g1.none h2)
  have q0 := g1.rd1 r0
  clear r0
  rw [root2 hbc kb kc]
  (all_goals (try simp only [S0,putAt,List.replicate,Int.reduceAdd,Int.reduceSub,Int.reduceMul,Int.reduceTDiv,Int.reduceTMod,Int.reduceMod,Int.reduceDiv,Nat.reduceLT,Nat.reduceEqDiff,Int.reduceLE,Int.reduceLT,Int.reduceToNat,Int.reduceNeg,Int.reduceEq,Nat.reduceLeDiff,Nat.reducePow,Int.reducePow,reduceIte,Nat.reduceSub,Nat.reduceAdd,Nat.reduceMul, *])); repeat' ((first | (with_reducible refine fun _ : True => ?_) | refine c_number (X / 1 % 256) 8 (by simp) (by omega) (by omega) ?_ | refine c_grey _ ?_ | (with_reducible refine any_h ?_) | ((first | refine AllocQ_i ?_ | refine AllocO_i ?_); intro bk hb0 hbk; try simp only [set_none'] at hbk) | ((first | refine condS_i ?_ ?_ | refine pick_i ?_ ?_ | refine gS_it ?_ ?_ | refine gS_if ?_ ?_ | refine gP_it ?_ ?_ | refine gP_if ?_ ?_) <;> (intro hc; try simp only [Int.reduceLE,Int.reduceLT,Int.reduceEq,Sn] at hc)) | (with_reducible refine KP_i ?_ ?_; · exact aE) | (with_reducible refine loop_u ?_) | (with_reducible refine And.intro ?_ ?_)) <;> (try simp only [S0,putAt,List.replicate,Int.reduceAdd,Int.reduceSub,Int.reduceMul,Int.reduceTDiv,Int.reduceTMod,Int.reduceMod,Int.reduceDiv,Nat.reduceLT,Nat.reduceEqDiff,Int.reduceLE,Int.reduceLT,Int.reduceToNat,Int.reduceNeg,Int.reduceEq,Nat.reduceLeDiff,Nat.reducePow,Int.reducePow,reduceIte,Nat.reduceSub,Nat.reduceAdd,Nat.reduceMul, *]))
  refine Fin_mk (by (repeat' (first | exact g1.le | (refine Le_fresh (by first | exact nc2 | exact (by simp only [*]) | exact Grow.none g1 (by simp only [*])) ?_)))) (key _ ?_)
  simp [V4, unp, chan]
theorem c_Unpack7 (a : Option Addr) (c : Nat) (b0 b1 X : Int) (hX : X = b0 + b1 * 256) (hb0 : 0 ≤ b0 ∧ b0 ≤ 255) (hb1 : 0 ≤ b1 ∧ b1 ≤ 255) (hA : IntsAt w0 H .u8 a [b0, b1]) (h : K (.tuple #[V4 (unp 7 X), .int .i64 0]) H) : HCalls Tryz.prog w0 178 [.int .i64 7, .slice a 2 c] H K := by
  have key : ∀ v, v = .tuple #[V4 (unp 7 X), .int .i64 0] → K v H := fun v e => by subst e; exact h
  clear h
  obtain ⟨b, o, rfl, hr, hf⟩ := hA (by simp)
  have r0 := hr 0 (by simp)
  have r1 := hr 1 (by simp)
  simp only [Nat.add_zero, List.getD, List.getElem?_cons_zero, List.getElem?_cons_succ, Option.getD_some] at r0 r1
  clear hr hA
  have z0 : bitsI .or .u32 0 b0 = b0 := by have := or_shift 0 b0 0 (by omega) (by omega) (by omega) (by omega); simp at this; rw [this]
  have z1 : bitsI .or .u32 (b0) (b1 * 256) = X := by have := or_shift (b0) b1 8 (by omega) (by omega) (by omega) (by omega); simp at this; rw [this]; omega
  have u0 : IntKind.u32.wrap b0 = b0 := Bu.2.1 _ (by omega) (by omega)
  have v0 : IntKind.u32.wrap (b0 * 1) = b0 := by rw [Int.mul_one]; exact u0
  have u1 : IntKind.u32.wrap b1 = b1 := Bu.2.1 _ (by omega) (by omega)
  have v1 : IntKind.u32.wrap (b1 * 256) = b1 * 256 := Bu.2.1 _ (by omega) (by omega)
  have f0 : X.fdiv 1 = X / 1 := Int.fdiv_eq_ediv_of_nonneg _ (by omega)
  have m0 : bitsI .and .u32 (X / 1) 255 = X / 1 % 256 := by have := and_mask (X / 1) 8 (by omega) (by omega) (by omega); simpa using this
  have f8 : X.fdiv 256 = X / 256 := Int.fdiv_eq_ediv_of_nonneg _ (by omega)
  have m8 : bitsI .and .u32 (X / 256) 255 = X / 256 % 256 := by have := and_mask (X / 256) 8 (by omega) (by omega) (by omega); simpa using this
  have hXb : 0 ≤ X ∧ X < 4294967296 := by omega
  clear hX
  refine HL.hc k178 999 ?_; unfold M178
  (all_goals (try simp only [S0,putAt,List.replicate,Int.reduceAdd,Int.reduceSub,Int.reduceMul,Int.reduceTDiv,Int.reduceTMod,Int.reduceMod,Int.reduceDiv,Nat.reduceLT,Nat.reduceEqDiff,Int.reduceLE,Int.reduceLT,Int.reduceToNat,Int.reduceNeg,Int.reduceEq,Nat.reduceLeDiff,Nat.reducePow,Int.reducePow,reduceIte,Nat.reduceSub,Nat.reduceAdd,Nat.reduceMul, *])); repeat' ((first | (with_reducible refine fun _ : True => ?_) | (with_reducible refine any_h ?_) | ((first | refine AllocQ_i ?_ | refine AllocO_i ?_); intro bk hb0 hbk; try simp only [set_none'] at hbk) | ((first | refine condS_i ?_ ?_ | refine pick_i ?_ ?_ | refine gS_it ?_ ?_ | refine gS_if ?_ ?_ | refine gP_it ?_ ?_ | refine gP_if ?_ ?_) <;> (intro hc; try simp only [Int.reduceLE,Int.reduceLT,Int.reduceEq,Sn] at hc)) | (with_reducible refine KP_i ?_ ?_; · exact aE) | (with_reducible refine And.intro ?_ ?_)) <;> (try simp only [S0,putAt,List.replicate,Int.reduceAdd,Int.reduceSub,Int.reduceMul,Int.reduceTDiv,Int.reduceTMod,Int.reduceMod,Int.reduceDiv,Nat.reduceLT,Nat.reduceEqDiff,Int.reduceLE,Int.reduceLT,Int.reduceToNat,Int.reduceNeg,Int.reduceEq,Nat.reduceLeDiff,Nat.reducePow,Int.reducePow,reduceIte,Nat.reduceSub,Nat.reduceAdd,Nat.reduceMul, *]))
  refine c_find7 (fun bc H' g nc kc => ?_)
  have kb := g.some (b := bk) aA
  have hbc : bk ≠ bc := fun e => by rw [e, kc] at kb; cases kb
  have hcb := hbc.symm
  have g1 : Grow w0 H H' := Grow.trans aG g
  have hf1 : bk ≠ b := hf _ hb0 hbk
  have nc2 := (Heap.set_none.1 nc).2
  have hf2 : bc ≠ b := by
    rcases Classical.em (w0.heap.size ≤ bc) with hs | hs
    · exact hf _ hs nc2
    · intro e
      rcases g1 bc with e1 | ⟨e1, e2⟩
      · rw [nc2, kc] at e1; cases e1
      · exact hs e2
  have hf3 : ∀ c, w0.heap.size ≤ c → H' c = none → c ≠ b := fun c h1 h2 => hf c h1 (g1.none h2)
  have q0 := g1.rd1 r0
  have q1 := g1.rd1 r1
  clear r0 r1
  rw [root2 hbc kb kc]
  (all_goals (try simp only [S0,putAt,List.replicate,Int.reduceAdd,Int.reduceSub,Int.reduceMul,Int.reduceTDiv,Int.reduceTMod,Int.reduceMod,Int.reduceDiv,Nat.reduceLT,Nat.reduceEqDiff,Int.reduceLE,Int.reduceLT,Int.reduceToNat,Int.reduceNeg,Int.reduceEq,Nat.reduceLeDiff,Nat.reducePow,Int.reducePow,reduceIte,Nat.reduceSub,Nat.reduceAdd,Nat.reduceMul, *])); repeat' ((first | (with_reducible refine fun _ : True => ?_) | refine c_number (X / 1 % 256) 8 (by simp) (by omega) (by omega) ?_ | refine c_number (X / 256 % 256) 8 (by simp) (by omega) (by omega) ?_ | refine c_grey _ ?_ | (with_reducible refine any_h ?_) | ((first | refine AllocQ_i ?_ | refine AllocO_i ?_); intro bk hb0 hbk; try simp only [set_none'] at hbk) | ((first | refine condS_i ?_ ?_ | refine pick_i ?_ ?_ | refine gS_it ?_ ?_ | refine gS_if ?_ ?_ | refine gP_it ?_ ?_ | refine gP_if ?_ ?_) <;> (intro hc; try simp only [Int.reduceLE,Int.reduceLT,Int.reduceEq,Sn] at hc)) | (with_reducible refine KP_i ?_ ?_; · exact aE) | (with_reducible refine loop_u ?_) | (with_reducible refine And.intro ?_ ?_)) <;> (try simp only [S0,putAt,List.replicate,Int.reduceAdd,Int.reduceSub,Int.reduceMul,Int.reduceTDiv,Int.reduceTMod,Int.reduceMod,Int.reduceDiv,Nat.reduceLT,Nat.reduceEqDiff,Int.reduceLE,Int.reduceLT,Int.reduceToNat,Int.reduceNeg,Int.reduceEq,Nat.reduceLeDiff,Nat.reducePow,Int.reducePow,reduceIte,Nat.reduceSub,Nat.reduceAdd,Nat.reduceMul, *]))
  refine Fin_mk (by (repeat' (first | exact g1.le | (refine Le_fresh (by first | exact nc2 | exact (by simp only [*]) | exact Grow.none g1 (by simp only [*])) ?_)))) (key _ ?_)
  simp [V4, unp, chan]
end Go.Proofs.YtdmnfaefakceiaaGreat.Sm
end
