/- Sms Sme Smf Smh -/
import Derived.Test.YtdmnfaefakceiaaGreatSga
import Derived.Test.YtdmnfaefakceiaaGreatPa
import Derived.Test.YtdmnfaefakceiaaGreatSgb
import Derived.Test.YtdmnfaefakceiaaGreatHlt
section
/- Wrap (layer 18). -/
set_option linter.unusedSimpArgs false
set_option linter.unusedVariables false
set_option maxRecDepth 100000
set_option maxHeartbeats 4000000
namespace Go.Proofs.YtdmnfaefakceiaaGreat.Sm
open Go.HL Go.RowKit Pb
variable {w0 : World} {H : Heap} {K : Value → Heap → Prop}

theorem tmod_mod (i n : Int) (hn : 0 < n) : -n < i.tmod n ∧ i.tmod n < n ∧ (i.tmod n + n).tmod n = i % n := by
  have h1 : (i.tmod n).natAbs < n.natAbs := by rw [Int.natAbs_tmod]; exact Nat.mod_lt _ (by omega)
  have h2 := Int.mul_tdiv_add_tmod i n
  refine ⟨by omega, by omega, ?_⟩
  rw [Int.tmod_eq_emod_of_nonneg (by omega), Int.add_emod_right]
  have h3 : i % n = (n * i.tdiv n + i.tmod n) % n := by rw [h2]
  rw [h3, Int.mul_add_emod_self_left]
def fwrap (mode i n : Int) : Int :=
  if n < 1 ∨ 64 < n then 0 else if mode = 1 then i % n else if mode = 2 then (if i < 0 then 0 else if n ≤ i then n - 1 else i) else if mode = 3 then (if i % (2 * n) < n then i % (2 * n) else 2 * n - 1 - i % (2 * n)) else 0
/- sample mod -/
def M180 : MC :=
  .seq (.reg [oX 4 (.mv (kX 0))])
 (.seq (.reg [vX 5 0,
 vX 6 1,
 oX 7 (bX .rem 5 6),
 vX 8 1,
 oX 9 (bX .add 7 8),
 vX 10 1,
 oX 11 (bX .rem 9 10),
 vX 4 11])
 (.ret))
theorem k180 : fnOk Tryz.prog 180 = some (M180, [.t 4], 12) := by kernel_rfl

theorem c_mod (i n : Int) (hi : I64 i) (hn : 1 ≤ n ∧ n ≤ 128) (h : K (.int .i64 (i % n)) H) : HCalls Tryz.prog w0 180 [.int .i64 i, .int .i64 n] H K := by
  obtain ⟨t1, t2, t3⟩ := tmod_mod i n (by omega)
  have e1 : IntKind.i64.wrap (i.tmod n + n) = i.tmod n + n := Bw.1 _ (by omega) (by omega)
  have e2 : ¬ n = 0 := by omega
  refine HL.hc k180 999 ?_; unfold M180
  (all_goals (try simp only [S0,putAt,List.replicate,Int.reduceAdd,Int.reduceSub,Int.reduceMul,Int.reduceTDiv,Int.reduceTMod,Int.reduceMod,Int.reduceDiv,Nat.reduceLT,Nat.reduceEqDiff,Int.reduceLE,Int.reduceLT,Int.reduceToNat,Int.reduceNeg,Int.reduceEq,Nat.reduceLeDiff,Nat.reducePow,Int.reducePow,reduceIte,Nat.reduceSub,Nat.reduceAdd,Nat.reduceMul, *])); repeat' ((first | (with_reducible refine fun _ : True => ?_) | (with_reducible refine any_h ?_) | ((first | refine AllocQ_i ?_ | refine AllocO_i ?_); intro bk hb0 hbk; try simp only [set_none'] at hbk) | ((first | refine condS_i ?_ ?_ | refine pick_i ?_ ?_ | refine gS_it ?_ ?_ | refine gS_if ?_ ?_ | refine gP_it ?_ ?_ | refine gP_if ?_ ?_) <;> (intro hc; try simp only [Int.reduceLE,Int.reduceLT,Int.reduceEq,Sn] at hc)) | (with_reducible refine KP_i ?_ ?_; · exact aE) | (with_reducible refine And.intro ?_ ?_)) <;> (try simp only [S0,putAt,List.replicate,Int.reduceAdd,Int.reduceSub,Int.reduceMul,Int.reduceTDiv,Int.reduceTMod,Int.reduceMod,Int.reduceDiv,Nat.reduceLT,Nat.reduceEqDiff,Int.reduceLE,Int.reduceLT,Int.reduceToNat,Int.reduceNeg,Int.reduceEq,Nat.reduceLeDiff,Nat.reducePow,Int.reducePow,reduceIte,Nat.reduceSub,Nat.reduceAdd,Nat.reduceMul, *]))
  exact Fin_mk (Heap.Le.refl _) h
/- sample Wrap -/
def M177 : MC :=
  .seq (.reg [oX 6 (.mv (kX 0))])
 (.seq (.seq (.reg [vX 8 2,
 oX 9 (bK .lss 8 1),
 vX 10 9,
 ⟨(some 11),.mv (.tmp 2),(some (10,false))⟩,
 ⟨(some 12),bK .gtr 11 64,(some (10,false))⟩,
 oX 13 (.pick (.tmp 10) (.const (.bool true)) (.tmp 12))])
 (.cond (.tmp 13)
 (.seq (.reg [oX 6 (.mv (kX 0))])
 (.ret))
 (.skip)))
 (.seq (.seq (.reg [vX 14 0])
 (.block 0 (.seq (.reg [oX 16 (bK .eql 14 1),
 vX 15 16])
 (.cond (.tmp 15)
 (.seq (.reg [vX 17 1,
 vX 18 2,
 oX 19 (.call 180 [(.tmp 17),(.tmp 18)]),
 vX 6 19])
 (.ret))
 (.seq (.reg [oX 21 (bK .eql 14 2),
 vX 20 21])
 (.cond (.tmp 20)
 (.seq (.reg [vX 22 1,
 oX 23 (.mx (.tmp 22) (kX 0)),
 vX 24 2,
 oX 25 (bK .sub 24 1),
 oX 26 (.mn (.tmp 23) (.tmp 25)),
 vX 6 26])
 (.ret))
 (.seq (.reg [oX 28 (bK .eql 14 3),
 vX 27 28])
 (.cond (.tmp 27)
 (.seq (.reg [vX 29 1,
 vX 30 2,
 oX 31 (.bin .mul (kX 2) (.tmp 30)),
 oX 32 (.call 180 [(.tmp 29),(.tmp 31)]),
 vX 7 32])
 (.seq (.reg [vX 33 7,
 vX 34 2,
 oX 35 (bX .lss 33 34)])
 (.cond (.tmp 35)
 (.seq (.reg [vX 36 7,
 vX 6 36])
 (.ret))
 (.seq (.reg [vX 37 2,
 oX 38 (.bin .mul (kX 2) (.tmp 37)),
 oX 39 (bK .sub 38 1),
 vX 40 7,
 oX 41 (bX .sub 39 40),
 vX 6 41])
 (.ret)))))
 (.skip)))))))))
 (.seq (.reg [oX 6 (.mv (kX 0))])
 (.ret))))
theorem k177 : fnOk Tryz.prog 177 = some (M177, [.t 6], 42) := by kernel_rfl

theorem c_Wrap (mode i n : Int) (hi : I64 i) (h : K (.int .i64 (fwrap mode i n)) H) : HCalls Tryz.prog w0 177 [.int .i64 mode, .int .i64 i, .int .i64 n] H K := by
  have hi' := hi
  unfold I64 at hi'
  by_cases hn : n < 1 ∨ 64 < n
  · have : fwrap mode i n = 0 := by unfold fwrap; rw [if_pos hn]
    rw [this] at h
    rcases hn with hn | hn
    · refine HL.hc k177 999 ?_; unfold M177
      (all_goals (try simp only [S0,putAt,List.replicate,Int.reduceAdd,Int.reduceSub,Int.reduceMul,Int.reduceTDiv,Int.reduceTMod,Int.reduceMod,Int.reduceDiv,Nat.reduceLT,Nat.reduceEqDiff,Int.reduceLE,Int.reduceLT,Int.reduceToNat,Int.reduceNeg,Int.reduceEq,Nat.reduceLeDiff,Nat.reducePow,Int.reducePow,reduceIte,Nat.reduceSub,Nat.reduceAdd,Nat.reduceMul, *])); repeat' ((first | (with_reducible refine fun _ : True => ?_) | (with_reducible refine any_h ?_) | ((first | refine AllocQ_i ?_ | refine AllocO_i ?_); intro bk hb0 hbk; try simp only [set_none'] at hbk) | ((first | refine condS_i ?_ ?_ | refine pick_i ?_ ?_ | refine gS_it ?_ ?_ | refine gS_if ?_ ?_ | refine gP_it ?_ ?_ | refine gP_if ?_ ?_) <;> (intro hc; try simp only [Int.reduceLE,Int.reduceLT,Int.reduceEq,Sn] at hc)) | (with_reducible refine KP_i ?_ ?_; · exact aE) | (with_reducible refine And.intro ?_ ?_)) <;> (try simp only [S0,putAt,List.replicate,Int.reduceAdd,Int.reduceSub,Int.reduceMul,Int.reduceTDiv,Int.reduceTMod,Int.reduceMod,Int.reduceDiv,Nat.reduceLT,Nat.reduceEqDiff,Int.reduceLE,Int.reduceLT,Int.reduceToNat,Int.reduceNeg,Int.reduceEq,Nat.reduceLeDiff,Nat.reducePow,Int.reducePow,reduceIte,Nat.reduceSub,Nat.reduceAdd,Nat.reduceMul, *]))
      exact Fin_mk (Heap.Le.refl _) h
    · have hn2 : ¬ n < 1 := by omega
      refine HL.hc k177 999 ?_; unfold M177
      (all_goals (try simp only [S0,putAt,List.replicate,Int.reduceAdd,Int.reduceSub,Int.reduceMul,Int.reduceTDiv,Int.reduceTMod,Int.reduceMod,Int.reduceDiv,Nat.reduceLT,Nat.reduceEqDiff,Int.reduceLE,Int.reduceLT,Int.reduceToNat,Int.reduceNeg,Int.reduceEq,Nat.reduceLeDiff,Nat.reducePow,Int.reducePow,reduceIte,Nat.reduceSub,Nat.reduceAdd,Nat.reduceMul, *])); repeat' ((first | (with_reducible refine fun _ : True => ?_) | (with_reducible refine any_h ?_) | ((first | refine AllocQ_i ?_ | refine AllocO_i ?_); intro bk hb0 hbk; try simp only [set_none'] at hbk) | ((first | refine condS_i ?_ ?_ | refine pick_i ?_ ?_ | refine gS_it ?_ ?_ | refine gS_if ?_ ?_ | refine gP_it ?_ ?_ | refine gP_if ?_ ?_) <;> (intro hc; try simp only [Int.reduceLE,Int.reduceLT,Int.reduceEq,Sn] at hc)) | (with_reducible refine KP_i ?_ ?_; · exact aE) | (with_reducible refine And.intro ?_ ?_)) <;> (try simp only [S0,putAt,List.replicate,Int.reduceAdd,Int.reduceSub,Int.reduceMul,Int.reduceTDiv,Int.reduceTMod,Int.reduceMod,Int.reduceDiv,Nat.reduceLT,Nat.reduceEqDiff,Int.reduceLE,Int.reduceLT,Int.reduceToNat,Int.reduceNeg,Int.reduceEq,Nat.reduceLeDiff,Nat.reducePow,Int.reducePow,reduceIte,Nat.reduceSub,Nat.reduceAdd,Nat.reduceMul, *]))
      exact Fin_mk (Heap.Le.refl _) h
  have n1 : ¬ n < 1 := by omega
  have n2 : ¬ 64 < n := by omega
  have e1 : IntKind.i64.wrap (n - 1) = n - 1 := Bw.1 _ (by omega) (by omega)
  have e2 : IntKind.i64.wrap (2 * n) = 2 * n := Bw.1 _ (by omega) (by omega)
  have e3 : IntKind.i64.wrap (2 * n - 1) = 2 * n - 1 := Bw.1 _ (by omega) (by omega)
  have m1 := Int.emod_nonneg i (b := 2 * n) (by omega)
  have m2 := Int.emod_lt_of_pos i (b := 2 * n) (by omega)
  have e4 : IntKind.i64.wrap (2 * n - 1 - i % (2 * n)) = 2 * n - 1 - i % (2 * n) := Bw.1 _ (by omega) (by omega)
  have key : ∀ x, x = fwrap mode i n → HL.Fin K (.int .i64 x) H := fun x hx => by subst hx; exact Fin_mk (Heap.Le.refl _) h
  unfold fwrap at key
  rw [if_neg hn] at key
  clear hn m1 m2 h
  refine HL.hc k177 999 ?_; unfold M177
  (all_goals (try simp only [S0,putAt,List.replicate,Int.reduceAdd,Int.reduceSub,Int.reduceMul,Int.reduceTDiv,Int.reduceTMod,Int.reduceMod,Int.reduceDiv,Nat.reduceLT,Nat.reduceEqDiff,Int.reduceLE,Int.reduceLT,Int.reduceToNat,Int.reduceNeg,Int.reduceEq,Nat.reduceLeDiff,Nat.reducePow,Int.reducePow,reduceIte,Nat.reduceSub,Nat.reduceAdd,Nat.reduceMul, *])); repeat' ((first | (with_reducible refine fun _ : True => ?_) | refine c_mod _ _ hi (by omega) ?_ | (with_reducible refine any_h ?_) | ((first | refine AllocQ_i ?_ | refine AllocO_i ?_); intro bk hb0 hbk; try simp only [set_none'] at hbk) | ((first | refine condS_i ?_ ?_ | refine pick_i ?_ ?_ | refine gS_it ?_ ?_ | refine gS_if ?_ ?_ | refine gP_it ?_ ?_ | refine gP_if ?_ ?_) <;> (intro hc; try simp only [Int.reduceLE,Int.reduceLT,Int.reduceEq,Sn] at hc)) | (with_reducible refine KP_i ?_ ?_; · exact aE) | (with_reducible refine And.intro ?_ ?_)) <;> (try simp only [S0,putAt,List.replicate,Int.reduceAdd,Int.reduceSub,Int.reduceMul,Int.reduceTDiv,Int.reduceTMod,Int.reduceMod,Int.reduceDiv,Nat.reduceLT,Nat.reduceEqDiff,Int.reduceLE,Int.reduceLT,Int.reduceToNat,Int.reduceNeg,Int.reduceEq,Nat.reduceLeDiff,Nat.reducePow,Int.reducePow,reduceIte,Nat.reduceSub,Nat.reduceAdd,Nat.reduceMul, *]))
  all_goals (refine key _ ?_)
  all_goals ((repeat' split) <;> first | rfl | omega)

end Go.Proofs.YtdmnfaefakceiaaGreat.Sm
end
section
/- texel (layer 18). -/
set_option linter.unusedSimpArgs false
set_option linter.unusedVariables false
set_option maxRecDepth 100000
set_option maxHeartbeats 4000000
namespace Go.Proofs.YtdmnfaefakceiaaGreat.Sm
open Go.HL Go.RowKit Pb
variable {w0 : World} {H : Heap} {K : Value → Heap → Prop}

/-- Bytes as a number, the lowest first. -/
def leN : List Int → Int
  | [] => 0
  | b :: l => b + 256 * leN l
theorem size_cases {f : Int} {n : Nat} (h : (n : Int) = sizeI f) (h0 : sizeI f ≠ 0) : (f = 1 ∧ n = 4) ∨ ((f = 2 ∨ f = 3 ∨ f = 4 ∨ f = 7) ∧ n = 2) ∨ ((f = 5 ∨ f = 6) ∧ n = 1) := by
  unfold sizeI at h h0
  split at h
  · exact .inl ⟨by assumption, by omega⟩
  · split at h
    · exact .inr (.inl ⟨by assumption, by omega⟩)
    · split at h
      · exact .inr (.inr ⟨by assumption, by omega⟩)
      · rename_i h1 h2 h3
        rw [if_neg h1, if_neg h2, if_neg h3] at h0
        exact (h0 rfl).elim
theorem list1 {l : List Int} (h : l.length = 1) : ∃ a, l = [a] := by
  match l, h with
  | [a], _ => exact ⟨a, rfl⟩
theorem list2 {l : List Int} (h : l.length = 2) : ∃ a b, l = [a, b] := by
  match l, h with
  | [a, b], _ => exact ⟨a, b, rfl⟩
theorem list4 {l : List Int} (h : l.length = 4) : ∃ a b c d, l = [a, b, c, d] := by
  match l, h with
  | [a, b, c, d], _ => exact ⟨a, b, c, d, rfl⟩
theorem c_Unpack (f : Int) (a : Option Addr) (n c : Nat) (l : List Int) (hn : l.length = n) (hs : (n : Int) = sizeI f) (h0 : sizeI f ≠ 0) (hb : ∀ b ∈ l, 0 ≤ b ∧ b ≤ 255) (hA : IntsAt w0 H .u8 a l) (h : K (.tuple #[V4 (unp f (leN l)), .int .i64 0]) H) :
    HCalls Tryz.prog w0 178 [.int .i64 f, .slice a n c] H K := by
  subst hn
  rcases size_cases hs h0 with ⟨rfl, e⟩ | ⟨e, e'⟩ | ⟨e, e'⟩
  · obtain ⟨b0, b1, b2, b3, rfl⟩ := list4 e
    exact c_Unpack1 a c b0 b1 b2 b3 _ (by simp [leN]; omega) (hb _ (by simp)) (hb _ (by simp)) (hb _ (by simp)) (hb _ (by simp)) hA h
  · obtain ⟨b0, b1, rfl⟩ := list2 e'
    rcases e with rfl | rfl | rfl | rfl
    · exact c_Unpack2 a c b0 b1 _ (by simp [leN]; omega) (hb _ (by simp)) (hb _ (by simp)) hA h
    · exact c_Unpack3 a c b0 b1 _ (by simp [leN]; omega) (hb _ (by simp)) (hb _ (by simp)) hA h
    · exact c_Unpack4 a c b0 b1 _ (by simp [leN]; omega) (hb _ (by simp)) (hb _ (by simp)) hA h
    · exact c_Unpack7 a c b0 b1 _ (by simp [leN]; omega) (hb _ (by simp)) (hb _ (by simp)) hA h
  · obtain ⟨b0, rfl⟩ := list1 e'
    rcases e with rfl | rfl
    · exact c_Unpack5 a c b0 _ (by simp [leN]) (hb _ (by simp)) hA h
    · exact c_Unpack6 a c b0 _ (by simp [leN]) (hb _ (by simp)) hA h
theorem ints_sub {k : IntKind} {b o : Nat} {l : List Int} (h : IntsAt w0 H k (some ⟨b, o, none⟩) l) (i n : Nat) (hi : i + n ≤ l.length) : IntsAt w0 H k (some ⟨b, o + i, none⟩) ((l.drop i).take n) := fun hne => by
  have hn : 0 < n := by
    rcases Nat.eq_zero_or_pos n with e | e
    · subst e; simp at hne
    · exact e
  obtain ⟨b', o', e, hr, hf⟩ := h (by intro e; subst e; simp at hi; omega)
  cases e
  refine ⟨b, o + i, rfl, fun j hj => ?_, hf⟩
  have hl : ((l.drop i).take n).length = n := by simp; omega
  have := hr (i + j) (by omega)
  rw [Nat.add_assoc, this]
  congr 2
  simp only [List.getD, List.getElem?_take, List.getElem?_drop]
  rw [if_pos (by omega)]
theorem fwrap_lt {mode i n : Int} (hn : 1 ≤ n ∧ n ≤ 64) : 0 ≤ fwrap mode i n ∧ fwrap mode i n < n := by
  unfold fwrap
  rw [if_neg (by omega)]
  have h1 := Int.emod_nonneg i (show n ≠ 0 by omega)
  have h2 := Int.emod_lt_of_pos i (show 0 < n by omega)
  have h3 := Int.emod_nonneg i (show 2 * n ≠ 0 by omega)
  have h4 := Int.emod_lt_of_pos i (show 0 < 2 * n by omega)
  (repeat' split) <;> omega
/-- The colour of a level at a place. -/
def colI (x : Im) (y : LvR) (i j : Int) : Nat → Int :=
  unp x.f (leN ((y.l.drop ((fwrap x.t j y.h * y.w + fwrap x.s i y.w) * sizeI x.f).toNat).take (sizeI x.f).toNat))
/-- What is known of a level that is there, of an image that may be. -/
structure Lvl (W : World) (H : Heap) (x : Im) (y : LvR) : Prop where
  ok : LvOk W H y
  w : 1 ≤ y.w ∧ y.w ≤ 64
  h : 1 ≤ y.h ∧ y.h ≤ 64
  l : (y.l.length : Int) = y.w * y.h * sizeI x.f
  f : sizeI x.f ≠ 0
  s : 1 ≤ x.s ∧ x.s ≤ 3
  t : 1 ≤ x.t ∧ x.t ≤ 3
theorem Lvl.grow {W : World} {H G : Heap} {x : Im} {y : LvR} (h : Lvl W H x y) (g : Grow W H G) : Lvl W G x y := ⟨h.ok.grow g, h.w, h.h, h.l, h.f, h.s, h.t⟩
/-- The numbers of a place. -/
theorem place {x : Im} {y : LvR} {W : World} (h : Lvl W H x y) (i j : Int) : ∃ A B w hh S L : Nat, y.w = w ∧ y.h = hh ∧ sizeI x.f = S ∧ fwrap x.t j hh = A ∧ fwrap x.s i w = B ∧
    IntKind.i64.wrap ((A : Int) * w) = ((A * w : Nat) : Int) ∧ IntKind.i64.wrap (((A * w : Nat) : Int) + B) = ((A * w + B : Nat) : Int) ∧ IntKind.i64.wrap (((A * w + B : Nat) : Int) * S) = (L : Int) ∧
    IntKind.i64.wrap ((L : Int) + S) = ((L + S : Nat) : Int) ∧ L + S ≤ y.l.length ∧ 0 < S ∧ S ≤ 4 ∧ colI x y i j = unp x.f (leN ((y.l.drop L).take S)) := by
  obtain ⟨w, ew⟩ := Int.eq_ofNat_of_zero_le (show 0 ≤ y.w by have := h.w; omega)
  obtain ⟨hh, eh⟩ := Int.eq_ofNat_of_zero_le (show 0 ≤ y.h by have := h.h; omega)
  obtain ⟨S, eS⟩ := Int.eq_ofNat_of_zero_le (sizeI_le x.f).1
  have hA := fwrap_lt (mode := x.t) (i := j) (n := y.h) h.h
  have hB := fwrap_lt (mode := x.s) (i := i) (n := y.w) h.w
  obtain ⟨A, eA⟩ := Int.eq_ofNat_of_zero_le hA.1
  obtain ⟨B, eB⟩ := Int.eq_ofNat_of_zero_le hB.1
  have hw := h.w
  have hhh := h.h
  have hl := h.l
  have hS4 := (sizeI_le x.f).2
  have hS0 := h.f
  rw [eA, eh] at hA
  rw [eB, ew] at hB
  rw [ew] at hw
  rw [eh] at hhh
  rw [ew, eh, eS] at hl
  rw [eS] at hS4 hS0
  have hA' : A + 1 ≤ hh := by omega
  have hB' : B + 1 ≤ w := by omega
  have k1 : A * w + w ≤ hh * w := by have := Nat.mul_le_mul_right w hA'; rwa [Nat.add_mul, Nat.one_mul] at this
  have k2 : (A * w + B) * S + S ≤ hh * w * S := by
    have : (A * w + B + 1) * S ≤ hh * w * S := Nat.mul_le_mul_right _ (by omega)
    rwa [Nat.add_mul, Nat.one_mul] at this
  have k3 : y.l.length = hh * w * S := by
    have e : ((y.l.length : Nat) : Int) = ((hh * w * S : Nat) : Int) := by rw [hl, Int.natCast_mul, Int.natCast_mul, Int.mul_comm (w : Int)]
    exact Int.ofNat.inj e
  have k4 : hh * w ≤ 64 * 64 := Nat.mul_le_mul (by omega) (by omega)
  have k5 : hh * w * S ≤ 64 * 64 * 4 := Nat.mul_le_mul k4 (by omega)
  refine ⟨A, B, w, hh, S, (A * w + B) * S, ew, eh, eS, by rw [← eh]; exact eA, by rw [← ew]; exact eB, ?_, ?_, ?_, ?_, by omega, by omega, by omega, ?_⟩
  · rw [← Int.natCast_mul]; exact Bw.1 _ (by omega) (by omega)
  · rw [← Int.natCast_add]; exact Bw.1 _ (by omega) (by omega)
  · rw [← Int.natCast_mul]; exact Bw.1 _ (by omega) (by omega)
  · rw [← Int.natCast_add]; exact Bw.1 _ (by omega) (by omega)
  · unfold colI
    rw [eA, eB, ew, eS]
    congr 4
/- sample texel -/
def M172 : MC :=
  .seq (.reg [oX 4 (.box 134 (.tmp 0)),
 oX 5 (.box 156 (.tmp 1)),
 oX 8 (.alloc 28 [(.int .i32 0),(.int .i32 0),(.int .i32 0),(.int .i32 0)])])
 (.seq (.reg [oX 13 (.fa 0 (.tmp 4)),
 oX 14 (.ld1 (.tmp 13)),
 oX 15 (.call 165 [(.tmp 14)]),
 vX 9 15])
 (.seq (.any [(true,0,[],oX 16 (.fa 3 (.tmp 4))),
 (true,1,[],oX 17 (.ld1 (.tmp 16))),
 (true,2,[],vX 18 3),
 (true,3,[],oX 19 (.fa 1 (.tmp 5))),
 (true,4,[],oX 20 (.ld1 (.tmp 19))),
 (true,6,[],oX 22 (.fa 0 (.tmp 5))),
 (true,7,[],oX 23 (.ld1 (.tmp 22))),
 (true,9,[],oX 25 (.fa 2 (.tmp 4))),
 (true,10,[],oX 26 (.ld1 (.tmp 25))),
 (true,11,[],vX 27 2),
 (true,12,[],oX 28 (.fa 0 (.tmp 5))),
 (true,13,[],oX 29 (.ld1 (.tmp 28))),
 (true,16,[],vX 32 9),
 (false,5,[6,7,9,10,11,12,13,16,8],oX 21 (.call 177 [(.tmp 17),(.tmp 18),(.tmp 20)])),
 (true,8,[],oX 24 (bX .mul 21 23)),
 (false,14,[6,7,16,8],oX 30 (.call 177 [(.tmp 26),(.tmp 27),(.tmp 29)])),
 (false,15,[16],oX 31 (bX .add 24 30)),
 (false,17,[],oX 33 (bX .mul 31 32)),
 (false,18,[],vX 10 33)])
 (.seq (.alts (.one true 0 [] (oX 35 (.fa 0 (.tmp 4))) (.one true 1 [] (oX 36 (.ld1 (.tmp 35))) (.one true 2 [] (oX 37 (.fa 2 (.tmp 5))) (.one true 3 [] (oX 38 (.ld1 (.tmp 37))) (.one true 4 [] (vX 39 10) (.one true 5 [] (vX 40 10) (.one true 6 [] (vX 41 9) (.one true 7 [] (oX 42 (bX .add 40 41)) (.one true 8 [] (oX 43 (.slc 1 (.tmp 38) (some (.tmp 39)) (some (.tmp 42)))) (.alt (.one false 9 [10,11,12,11,12] (oX 44 (.call 178 [(.tmp 36),(.tmp 43)])) (.one true 10 [] (vX 34 44) (.one true 11 [] (oX 45 (.ext 0 (.tmp 34))) (.one true 12 [] (oX 46 (.ext 1 (.tmp 34))) (.one false 13 [10,11,12,11,12] (oX 11 (.alloc 28 [(.int .i32 0),(.int .i32 0),(.int .i32 0),(.int .i32 0)])) (.one false 14 [12,12] ⟨none,.stn 4 (.tmp 11) (.tmp 45),none⟩ (.one false 15 [] (vX 12 46) .nil)))))))
 (.one false 13 [0,1,2,3,4,5,6,7,8,10,11,12,11,12] (oX 11 (.alloc 28 [(.int .i32 0),(.int .i32 0),(.int .i32 0),(.int .i32 0)])) (.one false 9 [10,11,12,11,12] (oX 44 (.call 178 [(.tmp 36),(.tmp 43)])) (.one false 10 [10,11,12,11,12] (vX 34 44) (.one true 11 [] (oX 45 (.ext 0 (.tmp 34))) (.one true 12 [] (oX 46 (.ext 1 (.tmp 34))) (.one false 14 [12,12] ⟨none,.stn 4 (.tmp 11) (.tmp 45),none⟩ (.one false 15 [] (vX 12 46) .nil))))))))))))))))))
 (.seq (.reg [oX 47 (.ldn 4 (.tmp 11)),
 ⟨none,.stn 4 (.tmp 8) (.tmp 47),none⟩])
 (.ret)))))
theorem k172 : fnOk Tryz.prog 172 = some (M172, [.cn 4 8], 48) := by kernel_rfl

theorem c_texel (x : Im) (y : LvR) (i j : Int) (hy : Lvl w0 H x y) (hi : I64 i) (hj : I64 j) (h : K (V4 (colI x y i j)) H) : HCalls Tryz.prog w0 172 [x.v, y.v, .int .i64 i, .int .i64 j] H K := by
  obtain ⟨A, B, w, hh, S, L, ew, eh, eS, eA, eB, m1, m2, m3, m4, hL, hS, hS4, hc⟩ := place hy i j
  have hcap := hy.ok.lc
  have hA := hy.ok.at_
  have hb := hy.ok.by_
  have h0 := hy.f
  rw [hc] at h
  obtain ⟨yw, yh, ya, ycap, yl⟩ := y
  simp only at ew eh hL hcap hA hb h
  subst ew eh
  clear hc hy
  unfold Im.v LvR.v
  obtain ⟨b, o, rfl, hr, hf⟩ := hA (by intro e; subst e; simp at hL; omega)
  have hsub := ints_sub hA L S hL
  have hlen : ((yl.drop L).take S).length = S := by simp; omega
  have hbs : ∀ z ∈ (yl.drop L).take S, 0 ≤ z ∧ z ≤ 255 := fun z hz => hb z (List.mem_of_mem_drop (List.mem_of_mem_take hz))
  generalize hq : (yl.drop L).take S = q at *
  have t1 : (L : Int) ≤ ((L + S : Nat) : Int) := by omega
  have t2 : ((L + S : Nat) : Int) ≤ (ycap : Int) := by omega
  have t3 : ¬ ycap = L := by omega
  have t4 : L + S - L = S := by omega
  clear hr hA hb hL hcap hq
  refine HL.hc k172 999 ?_; unfold M172
  (all_goals (try simp only [S0,putAt,List.replicate,Int.reduceAdd,Int.reduceSub,Int.reduceMul,Int.reduceTDiv,Int.reduceTMod,Int.reduceMod,Int.reduceDiv,Nat.reduceLT,Nat.reduceEqDiff,Int.reduceLE,Int.reduceLT,Int.reduceToNat,Int.reduceNeg,Int.reduceEq,Nat.reduceLeDiff,Nat.reducePow,Int.reducePow,reduceIte,Nat.reduceSub,Nat.reduceAdd,Nat.reduceMul, *])); repeat' ((first | (with_reducible refine fun _ : True => ?_) | refine c_pSize _ ?_ | refine c_Wrap _ _ _ hi ?_ | refine c_Wrap _ _ _ hj ?_ | refine c_Unpack x.f _ _ _ q hlen eS.symm h0 hbs (IntsAt.grow hsub aG) ?_ | (with_reducible refine any_h ?_) | ((first | refine AllocQ_i ?_ | refine AllocO_i ?_); intro bk hb0 hbk; try simp only [set_none'] at hbk) | ((first | refine condS_i ?_ ?_ | refine pick_i ?_ ?_ | refine gS_it ?_ ?_ | refine gS_if ?_ ?_ | refine gP_it ?_ ?_ | refine gP_if ?_ ?_) <;> (intro hc; try simp only [Int.reduceLE,Int.reduceLT,Int.reduceEq,Sn] at hc)) | (with_reducible refine KP_i ?_ ?_; · exact aE) | (with_reducible refine And.intro ?_ ?_)) <;> (try simp only [S0,putAt,List.replicate,Int.reduceAdd,Int.reduceSub,Int.reduceMul,Int.reduceTDiv,Int.reduceTMod,Int.reduceMod,Int.reduceDiv,Nat.reduceLT,Nat.reduceEqDiff,Int.reduceLE,Int.reduceLT,Int.reduceToNat,Int.reduceNeg,Int.reduceEq,Nat.reduceLeDiff,Nat.reducePow,Int.reducePow,reduceIte,Nat.reduceSub,Nat.reduceAdd,Nat.reduceMul, *]))
  all_goals exact Fin_mk aE h

end Go.Proofs.YtdmnfaefakceiaaGreat.Sm
end
section
/- Levels (layer 18). -/
set_option linter.unusedSimpArgs false
set_option linter.unusedVariables false
set_option maxRecDepth 100000
set_option maxHeartbeats 4000000
namespace Go.Proofs.YtdmnfaefakceiaaGreat.Sm
open Go.HL Go.RowKit Pb
variable {w0 : World} {H : Heap} {K : Value → Heap → Prop}

/-- Is there such a level? -/
def Im.has (x : Im) (n : Int) : Prop := ∃ (k : Nat) (y : LvR), n = k ∧ x.ls[k]? = some y ∧ 0 < y.w
theorem lvl_of {x : Im} (hr : x.right) (hx : ImOk w0 H x) {k : Nat} {y : LvR} (hk : x.ls[k]? = some y) (hw : 0 < y.w) : Lvl w0 H x y := by
  have hm : y ∈ x.ls := List.mem_of_getElem? hk
  have hg := hr.2.2.2.1 y hm
  have hlt := (List.getElem?_eq_some_iff.1 hk).1
  have hlast := hr.2.2.1 (x.ls[x.ls.length - 1]'(by omega)) (List.getElem?_eq_getElem (by omega))
  rcases hg with hn | ⟨h1, h2, h3⟩
  · have := hn.1; omega
  · exact ⟨hx.lv y hm, h1, h2, h3, hlast.1, hr.2.2.2.2.1, hr.2.2.2.2.2.1⟩
theorem has_w {x : Im} (hr : x.right) {k : Nat} {y : LvR} (hk : x.ls[k]? = some y) (hw : ¬ 0 < y.w) : y.w = 0 := by
  rcases hr.2.2.2.1 y (List.mem_of_getElem? hk) with hn | ⟨h1, -, -⟩
  · exact hn.1
  · unfold sideP at h1; omega
/-- Why a level isn't there. -/
theorem not_has {x : Im} {n : Int} (h : ¬ x.has n) : n < 0 ∨ (x.ls.length : Int) ≤ n ∨ ∃ (k : Nat) (y : LvR), n = k ∧ x.ls[k]? = some y ∧ ¬ 0 < y.w := by
  rcases Int.lt_or_le n 0 with h1 | h1
  · exact .inl h1
  · obtain ⟨k, rfl⟩ := Int.eq_ofNat_of_zero_le h1
    rcases Nat.lt_or_ge k x.ls.length with h2 | h2
    · exact .inr (.inr ⟨k, _, rfl, List.getElem?_eq_getElem h2, fun hw => h ⟨k, _, rfl, List.getElem?_eq_getElem h2, hw⟩⟩)
    · exact .inr (.inl (by omega))
abbrev zLv : Value := .agg #[.int .i64 0, .int .i64 0, .slice none 0 0]
abbrev z4 : Value := .agg #[.int .i32 0, .int .i32 0, .int .i32 0, .int .i32 0]
theorem c_Check0 (x : Im) (hx : ImOk w0 H x) (hr : x.right) (h : K (.int .i64 0) H) : HCalls Tryz.prog w0 155 [x.v] H K := c_Check x hx (by rw [if_pos hr]; exact h)
theorem c_Check1 (x : Im) (hx : ImOk w0 H x) (hr : ¬ x.right) (h : K (.int .i64 180) H) : HCalls Tryz.prog w0 155 [x.v] H K := c_Check x hx (by rw [if_neg hr]; exact h)


end Go.Proofs.YtdmnfaefakceiaaGreat.Sm
end
section
/- nearest and linear colours (layer 18). -/
set_option linter.unusedSimpArgs false
set_option linter.unusedVariables false
set_option maxRecDepth 100000
set_option maxHeartbeats 8000000
namespace Go.Proofs.YtdmnfaefakceiaaGreat.Sm
open Go.HL Go.RowKit Pb
variable {w0 : World} {H : Heap} {K : Value → Heap → Prop}

def I32 (x : Int) : Prop := -2147483648 ≤ x ∧ x ≤ 2147483647
theorem unp_le (f X : Int) (k : Nat) : 0 ≤ unp f X k ∧ unp f X k ≤ 65536 := by
  unfold unp
  (repeat' split) <;> first | exact chan_le (by omega) | omega
theorem colI_le (x : Im) (y : LvR) (i j : Int) (k : Nat) : 0 ≤ colI x y i j k ∧ colI x y i j k ≤ 65536 := unp_le _ _ _
theorem mul_le2 {a b A B : Int} (h0 : 0 ≤ a) (h1 : a ≤ A) (h2 : 0 ≤ b) (h3 : b ≤ B) : 0 ≤ a * b ∧ a * b ≤ A * B :=
  ⟨Int.mul_nonneg h0 h2, Int.mul_le_mul h1 h3 h2 (Int.le_trans h0 h1)⟩
theorem mul_le3 {c a b : Int} (h0 : 0 ≤ c ∧ c ≤ 65536) (h1 : 0 ≤ a ∧ a ≤ 65536) (h2 : 0 ≤ b ∧ b ≤ 65536) : 0 ≤ c * a ∧ c * a ≤ 4294967296 ∧ 0 ≤ c * a * b ∧ c * a * b ≤ 281474976710656 := by
  have k1 := mul_le2 h0.1 h0.2 h1.1 h1.2
  have k2 := mul_le2 k1.1 k1.2 h2.1 h2.2
  omega
theorem and_low (x : Int) : bitsI .and .i64 x 65535 = x % 65536 := by
  have e : (BitVec.ofInt 64 x).toNat = (x % 18446744073709551616).toNat := by rw [BitVec.toNat_ofInt]; rfl
  show IntKind.i64.wrap ((BitVec.ofInt 64 x &&& BitVec.ofInt 64 65535).toNat : Int) = _
  rw [BitVec.toNat_and, e, show (BitVec.ofInt 64 65535).toNat = 2 ^ 16 - 1 by rfl, Nat.and_two_pow_sub_one_eq_mod]
  have h1 : (((x % 18446744073709551616).toNat % 2 ^ 16 : Nat) : Int) = x % 65536 := by omega
  rw [h1]
  exact Bw.1 _ (by omega) (by omega)
/-- Where a place lies among n pixels. -/
def plcI (n u : Int) : Int := (n * u - 32768) / 65536
def plcF (n u : Int) : Int := (n * u - 32768) % 65536
theorem side_mul {n u : Int} (hn : 1 ≤ n ∧ n ≤ 64) (hu : I32 u) : -137438953472 ≤ n * u ∧ n * u ≤ 137438953472 := by
  unfold I32 at hu
  have h1 : n * u ≤ n * 2147483647 := Int.mul_le_mul_of_nonneg_left hu.2 (by omega)
  have h2 : n * (-2147483648) ≤ n * u := Int.mul_le_mul_of_nonneg_left hu.1 (by omega)
  omega
/- sample spread -/
def M173 : MC :=
  .seq (.reg [oX 4 (.mv (kX 0)),
 oX 5 (.mv (kX 0))])
 (.seq (.reg [vX 7 0,
 vX 8 1,
 oX 9 (.conv .i64 (.tmp 8)),
 oX 10 (bX .mul 7 9),
 oX 11 (bK .sub 10 32768),
 vX 6 11])
 (.seq (.reg [vX 12 6,
 oX 13 (.bin .shr (.tmp 12) (.const (.int .u64 16))),
 vX 14 6,
 oX 15 (bK .and 14 65535),
 vX 4 13,
 vX 5 15])
 (.ret)))
theorem k173 : fnOk Tryz.prog 173 = some (M173, [.t 4, .t 5], 16) := by kernel_rfl

theorem c_spread (n u : Int) (hn : 1 ≤ n ∧ n ≤ 64) (hu : I32 u) (h : K (.tuple #[.int .i64 (plcI n u), .int .i64 (plcF n u)]) H) : HCalls Tryz.prog w0 173 [.int .i64 n, .int .i32 u] H K := by
  have hm := side_mul hn hu
  unfold I32 at hu
  have e1 : IntKind.i64.wrap u = u := Bw.1 _ (by omega) (by omega)
  have e2 : IntKind.i64.wrap (n * u) = n * u := Bw.1 _ (by omega) (by omega)
  have e3 : IntKind.i64.wrap (n * u - 32768) = n * u - 32768 := Bw.1 _ (by omega) (by omega)
  have fd : ∀ a : Int, a.fdiv 65536 = a / 65536 := fun a => Int.fdiv_eq_ediv_of_nonneg _ (by decide)
  have e4 := and_low (n * u - 32768)
  unfold plcI plcF at h
  clear hm hn
  refine HL.hc k173 999 ?_; unfold M173
  (all_goals (try simp only [S0,putAt,List.replicate,Int.reduceAdd,Int.reduceSub,Int.reduceMul,Int.reduceTDiv,Int.reduceTMod,Int.reduceMod,Int.reduceDiv,Nat.reduceLT,Nat.reduceEqDiff,Int.reduceLE,Int.reduceLT,Int.reduceToNat,Int.reduceNeg,Int.reduceEq,Nat.reduceLeDiff,Nat.reducePow,Int.reducePow,reduceIte,Nat.reduceSub,Nat.reduceAdd,Nat.reduceMul, *])); repeat' ((first | (with_reducible refine fun _ : True => ?_) | (with_reducible refine any_h ?_) | ((first | refine AllocQ_i ?_ | refine AllocO_i ?_); intro bk hb0 hbk; try simp only [set_none'] at hbk) | ((first | refine condS_i ?_ ?_ | refine pick_i ?_ ?_ | refine gS_it ?_ ?_ | refine gS_if ?_ ?_ | refine gP_it ?_ ?_ | refine gP_if ?_ ?_) <;> (intro hc; try simp only [Int.reduceLE,Int.reduceLT,Int.reduceEq,Sn] at hc)) | (with_reducible refine KP_i ?_ ?_; · exact aE) | (with_reducible refine And.intro ?_ ?_)) <;> (try simp only [S0,putAt,List.replicate,Int.reduceAdd,Int.reduceSub,Int.reduceMul,Int.reduceTDiv,Int.reduceTMod,Int.reduceMod,Int.reduceDiv,Nat.reduceLT,Nat.reduceEqDiff,Int.reduceLE,Int.reduceLT,Int.reduceToNat,Int.reduceNeg,Int.reduceEq,Nat.reduceLeDiff,Nat.reducePow,Int.reducePow,reduceIte,Nat.reduceSub,Nat.reduceAdd,Nat.reduceMul, *]))
  exact Fin_mk (Heap.Le.refl _) h
def nearP (n u : Int) : Int := n * u / 65536
/- sample near -/
def M158 : MC :=
  .seq (.reg [oX 4 (.box 134 (.tmp 0)),
 oX 5 (.box 156 (.tmp 1)),
 oX 8 (.alloc 28 [(.int .i32 0),(.int .i32 0),(.int .i32 0),(.int .i32 0)])])
 (.seq (.reg [oX 9 (.ldn 6 (.tmp 4)),
 oX 10 (.ldn 3 (.tmp 5)),
 oX 11 (.fa 0 (.tmp 5)),
 oX 12 (.ld1 (.tmp 11)),
 vX 13 2,
 oX 14 (.conv .i64 (.tmp 13)),
 oX 15 (bX .mul 12 14),
 oX 16 (.bin .shr (.tmp 15) (.const (.int .u64 16))),
 oX 17 (.fa 1 (.tmp 5)),
 oX 18 (.ld1 (.tmp 17)),
 vX 19 3,
 oX 20 (.conv .i64 (.tmp 19)),
 oX 21 (bX .mul 18 20),
 oX 22 (.bin .shr (.tmp 21) (.const (.int .u64 16))),
 oX 23 (.call 172 [(.tmp 9),(.tmp 10),(.tmp 16),(.tmp 22)]),
 ⟨none,.stn 4 (.tmp 8) (.tmp 23),none⟩])
 (.ret))
theorem k158 : fnOk Tryz.prog 158 = some (M158, [.cn 4 8], 24) := by kernel_rfl

theorem c_near (x : Im) (y : LvR) (u v : Int) (hy : Lvl w0 H x y) (hu : I32 u) (hv : I32 v) (h : K (V4 (colI x y (nearP y.w u) (nearP y.h v))) H) :
    HCalls Tryz.prog w0 158 [x.v, y.v, .int .i32 u, .int .i32 v] H K := by
  have hm := side_mul hy.w hu
  have hm2 := side_mul hy.h hv
  have ht : ∀ (G : Heap) (K : Value → Heap → Prop) (i j : Int), Grow w0 H G → I64 i → I64 j → K (V4 (colI x y i j)) G → HCalls Tryz.prog w0 172 [x.v, y.v, .int .i64 i, .int .i64 j] G K := fun G K i j g hi hj hk => c_texel x y i j (hy.grow g) hi hj hk
  unfold I32 at hu hv
  have e1 : IntKind.i64.wrap u = u := Bw.1 _ (by omega) (by omega)
  have e2 : IntKind.i64.wrap (y.w * u) = y.w * u := Bw.1 _ (by omega) (by omega)
  have e3 : IntKind.i64.wrap v = v := Bw.1 _ (by omega) (by omega)
  have e4 : IntKind.i64.wrap (y.h * v) = y.h * v := Bw.1 _ (by omega) (by omega)
  have fd : ∀ a : Int, a.fdiv 65536 = a / 65536 := fun a => Int.fdiv_eq_ediv_of_nonneg _ (by decide)
  have i1 : I64 (y.w * u / 65536) := by unfold I64; omega
  have i2 : I64 (y.h * v / 65536) := by unfold I64; omega
  clear hm hm2 hy
  unfold nearP at h
  unfold Im.v LvR.v at ht ⊢
  refine HL.hc k158 999 ?_; unfold M158
  (all_goals (try simp only [S0,putAt,List.replicate,Int.reduceAdd,Int.reduceSub,Int.reduceMul,Int.reduceTDiv,Int.reduceTMod,Int.reduceMod,Int.reduceDiv,Nat.reduceLT,Nat.reduceEqDiff,Int.reduceLE,Int.reduceLT,Int.reduceToNat,Int.reduceNeg,Int.reduceEq,Nat.reduceLeDiff,Nat.reducePow,Int.reducePow,reduceIte,Nat.reduceSub,Nat.reduceAdd,Nat.reduceMul, *])); repeat' ((first | (with_reducible refine fun _ : True => ?_) | refine ht _ _ _ _ aG i1 i2 ?_ | (with_reducible refine any_h ?_) | ((first | refine AllocQ_i ?_ | refine AllocO_i ?_); intro bk hb0 hbk; (try simp only [set_none'] at hbk); (try have hbn := aNn); (try simp only [set_none'] at hbn); (try have hbm := aNm); (try simp only [set_none'] at hbm)) | ((first | refine condS_i ?_ ?_ | refine pick_i ?_ ?_ | refine gS_it ?_ ?_ | refine gS_if ?_ ?_ | refine gP_it ?_ ?_ | refine gP_if ?_ ?_) <;> (intro hc; try simp only [Int.reduceLE,Int.reduceLT,Int.reduceEq,Sn] at hc)) | (with_reducible refine KP_i ?_ ?_; · exact aL) | (with_reducible refine And.intro ?_ ?_)) <;> (try simp only [S0,putAt,List.replicate,Int.reduceAdd,Int.reduceSub,Int.reduceMul,Int.reduceTDiv,Int.reduceTMod,Int.reduceMod,Int.reduceDiv,Nat.reduceLT,Nat.reduceEqDiff,Int.reduceLE,Int.reduceLT,Int.reduceToNat,Int.reduceNeg,Int.reduceEq,Nat.reduceLeDiff,Nat.reducePow,Int.reducePow,reduceIte,Nat.reduceSub,Nat.reduceAdd,Nat.reduceMul, *]))
  exact Fin_mk aL h
def lin4 (a b c d f g : Int) : Int := (a * (65536 - f) * (65536 - g) + b * f * (65536 - g) + c * (65536 - f) * g + d * f * g + 2147483648) / 4294967296
def linI (x : Im) (y : LvR) (u v : Int) : Nat → Int := fun k =>
  lin4 (colI x y (plcI y.w u) (plcI y.h v) k) (colI x y (plcI y.w u + 1) (plcI y.h v) k) (colI x y (plcI y.w u) (plcI y.h v + 1) k) (colI x y (plcI y.w u + 1) (plcI y.h v + 1) k) (plcF y.w u) (plcF y.h v)
/-- What the numbers of a linear colour are bounded by. -/
structure LinF (C : Int → Int → Nat → Int) (i j f g : Int) : Prop where
  a0 : IntKind.i64.wrap (65536 - f) = 65536 - f
  a1 : IntKind.i64.wrap (65536 - g) = 65536 - g
  c1 : ∀ i j k, IntKind.i64.wrap (C i j k) = C i j k
  m1 : ∀ i j k, IntKind.i64.wrap (C i j k * (65536 - f)) = C i j k * (65536 - f)
  m2 : ∀ i j k, IntKind.i64.wrap (C i j k * f) = C i j k * f
  m3 : ∀ i j k, IntKind.i64.wrap (C i j k * (65536 - f) * (65536 - g)) = C i j k * (65536 - f) * (65536 - g)
  m4 : ∀ i j k, IntKind.i64.wrap (C i j k * f * (65536 - g)) = C i j k * f * (65536 - g)
  m5 : ∀ i j k, IntKind.i64.wrap (C i j k * (65536 - f) * g) = C i j k * (65536 - f) * g
  m6 : ∀ i j k, IntKind.i64.wrap (C i j k * f * g) = C i j k * f * g
  s1 : ∀ k, IntKind.i64.wrap (0 + C i j k * (65536 - f) * (65536 - g)) = C i j k * (65536 - f) * (65536 - g)
  s2 : ∀ k, IntKind.i64.wrap (C i j k * (65536 - f) * (65536 - g) + C (i + 1) j k * f * (65536 - g)) = C i j k * (65536 - f) * (65536 - g) + C (i + 1) j k * f * (65536 - g)
  s3 : ∀ k, IntKind.i64.wrap (C i j k * (65536 - f) * (65536 - g) + C (i + 1) j k * f * (65536 - g) + C i (j + 1) k * (65536 - f) * g) = C i j k * (65536 - f) * (65536 - g) + C (i + 1) j k * f * (65536 - g) + C i (j + 1) k * (65536 - f) * g
  s4 : ∀ k, IntKind.i64.wrap (C i j k * (65536 - f) * (65536 - g) + C (i + 1) j k * f * (65536 - g) + C i (j + 1) k * (65536 - f) * g + C (i + 1) (j + 1) k * f * g) = C i j k * (65536 - f) * (65536 - g) + C (i + 1) j k * f * (65536 - g) + C i (j + 1) k * (65536 - f) * g + C (i + 1) (j + 1) k * f * g
  s5 : ∀ k, IntKind.i64.wrap (C i j k * (65536 - f) * (65536 - g) + C (i + 1) j k * f * (65536 - g) + C i (j + 1) k * (65536 - f) * g + C (i + 1) (j + 1) k * f * g + 2147483648) = C i j k * (65536 - f) * (65536 - g) + C (i + 1) j k * f * (65536 - g) + C i (j + 1) k * (65536 - f) * g + C (i + 1) (j + 1) k * f * g + 2147483648
  s6 : ∀ k, IntKind.i32.wrap ((C i j k * (65536 - f) * (65536 - g) + C (i + 1) j k * f * (65536 - g) + C i (j + 1) k * (65536 - f) * g + C (i + 1) (j + 1) k * f * g + 2147483648) / 4294967296) = (C i j k * (65536 - f) * (65536 - g) + C (i + 1) j k * f * (65536 - g) + C i (j + 1) k * (65536 - f) * g + C (i + 1) (j + 1) k * f * g + 2147483648) / 4294967296
  s7 : ∀ k, IntKind.i64.wrap ((C i j k * (65536 - f) * (65536 - g) + C (i + 1) j k * f * (65536 - g) + C i (j + 1) k * (65536 - f) * g + C (i + 1) (j + 1) k * f * g + 2147483648).tdiv 4294967296) = (C i j k * (65536 - f) * (65536 - g) + C (i + 1) j k * f * (65536 - g) + C i (j + 1) k * (65536 - f) * g + C (i + 1) (j + 1) k * f * g + 2147483648) / 4294967296
theorem linF {C : Int → Int → Nat → Int} {i j f g : Int} (hC : ∀ i j k, 0 ≤ C i j k ∧ C i j k ≤ 65536) (hf : 0 ≤ f ∧ f ≤ 65536) (hg : 0 ≤ g ∧ g ≤ 65536) : LinF C i j f g := by
  have hf' : 0 ≤ 65536 - f ∧ 65536 - f ≤ 65536 := by omega
  have hg' : 0 ≤ 65536 - g ∧ 65536 - g ≤ 65536 := by omega
  have q1 := fun i j k => mul_le3 (hC i j k) hf' hg'
  have q2 := fun i j k => mul_le3 (hC i j k) hf hg'
  have q3 := fun i j k => mul_le3 (hC i j k) hf' hg
  have q4 := fun i j k => mul_le3 (hC i j k) hf hg
  refine ⟨?_, ?_, fun i j k => ?_, fun i j k => ?_, fun i j k => ?_, fun i j k => ?_, fun i j k => ?_, fun i j k => ?_, fun i j k => ?_, fun k => ?_, fun k => ?_, fun k => ?_, fun k => ?_, fun k => ?_, fun k => ?_, fun k => ?_⟩
  · exact Bw.1 _ (by omega) (by omega)
  · exact Bw.1 _ (by omega) (by omega)
  · have := hC i j k; exact Bw.1 _ (by omega) (by omega)
  · have := q1 i j k; exact Bw.1 _ (by omega) (by omega)
  · have := q2 i j k; exact Bw.1 _ (by omega) (by omega)
  · have := q1 i j k; exact Bw.1 _ (by omega) (by omega)
  · have := q2 i j k; exact Bw.1 _ (by omega) (by omega)
  · have := q3 i j k; exact Bw.1 _ (by omega) (by omega)
  · have := q4 i j k; exact Bw.1 _ (by omega) (by omega)
  · have := q1 i j k; rw [Int.zero_add]; exact Bw.1 _ (by omega) (by omega)
  all_goals
    have w1 := q1 i j k
    have w2 := q2 (i + 1) j k
    have w3 := q3 i (j + 1) k
    have w4 := q4 (i + 1) (j + 1) k
    generalize C i j k * (65536 - f) * (65536 - g) = A at *
    generalize C (i + 1) j k * f * (65536 - g) = B at *
    generalize C i (j + 1) k * (65536 - f) * g = D at *
    generalize C (i + 1) (j + 1) k * f * g = E at *
  · exact Bw.1 _ (by omega) (by omega)
  · exact Bw.1 _ (by omega) (by omega)
  · exact Bw.1 _ (by omega) (by omega)
  · exact Bw.1 _ (by omega) (by omega)
  · exact Bw.2 _ (by omega) (by omega)
  · rw [Int.tdiv_eq_ediv_of_nonneg (by omega)]; exact Bw.1 _ (by omega) (by omega)
theorem plcF_le (n u : Int) : 0 ≤ plcF n u ∧ plcF n u ≤ 65536 := by unfold plcF; omega
theorem plcI_le {n u : Int} (hn : 1 ≤ n ∧ n ≤ 64) (hu : I32 u) : -2097154 ≤ plcI n u ∧ plcI n u ≤ 2097154 := by
  have := side_mul hn hu
  unfold plcI; omega
/- sample linear -/
def M159 : MC :=
  .seq (.reg [oX 4 (.box 134 (.tmp 0)),
 oX 5 (.box 156 (.tmp 1)),
 oX 8 (.alloc 28 [(.int .i32 0),(.int .i32 0),(.int .i32 0),(.int .i32 0)])])
 (.seq (.reg [oX 23 (.fa 0 (.tmp 5)),
 oX 24 (.ld1 (.tmp 23)),
 vX 25 2,
 oX 26 (.call 173 [(.tmp 24),(.tmp 25)]),
 vX 22 26,
 oX 27 (.ext 0 (.tmp 22)),
 oX 28 (.ext 1 (.tmp 22)),
 vX 9 27,
 vX 10 28])
 (.seq (.reg [oX 30 (.fa 1 (.tmp 5)),
 oX 31 (.ld1 (.tmp 30)),
 vX 32 3,
 oX 33 (.call 173 [(.tmp 31),(.tmp 32)]),
 vX 29 33,
 oX 34 (.ext 0 (.tmp 29)),
 oX 35 (.ext 1 (.tmp 29)),
 vX 11 34,
 vX 12 35])
 (.seq (.reg [oX 13 (.alloc 28 [(.int .i32 0),(.int .i32 0),(.int .i32 0),(.int .i32 0)])])
 (.seq (.reg [oX 14 (.alloc 158 [(.int .i64 0),(.int .i64 0),(.int .i64 0),(.int .i64 0)])])
 (.seq (.seq (.reg [oX 36 (.mv (kX 0))])
 (.block 0 (.loop (.seq (.reg [oX 37 (bK .lss 36 4)])
 (.seq (.cond (.tmp 37)
 (.skip)
 (.exit 0))
 (.seq (.block 1 (.seq (.reg [vX 38 36,
 vX 15 38])
 (.seq (.reg [vX 39 10,
 oX 40 (.bin .sub (kX 65536) (.tmp 39)),
 vX 41 12,
 oX 42 (.bin .sub (kX 65536) (.tmp 41)),
 vX 16 40,
 vX 17 42])
 (.seq (.seq (.reg [vX 43 15,
 oX 44 (bK .and 43 1),
 oX 45 (bK .eql 44 1)])
 (.cond (.tmp 45)
 (.reg [vX 46 10,
 vX 16 46])
 (.skip)))
 (.seq (.seq (.reg [vX 47 15,
 oX 48 (bK .and 47 2),
 oX 49 (bK .eql 48 2)])
 (.cond (.tmp 49)
 (.reg [vX 50 12,
 vX 17 50])
 (.skip)))
 (.seq (.reg [oX 51 (.ldn 6 (.tmp 4)),
 oX 52 (.ldn 3 (.tmp 5)),
 vX 53 9,
 vX 54 15,
 oX 55 (bK .and 54 1),
 oX 56 (bX .add 53 55),
 vX 57 11,
 vX 58 15,
 oX 59 (.bin .shr (.tmp 58) (.const (.int .u64 1))),
 oX 60 (bX .add 57 59),
 oX 61 (.call 172 [(.tmp 51),(.tmp 52),(.tmp 56),(.tmp 60)]),
 oX 18 (.alloc 28 [(.int .i32 0),(.int .i32 0),(.int .i32 0),(.int .i32 0)]),
 ⟨none,.stn 4 (.tmp 18) (.tmp 61),none⟩])
 (.seq (.reg [oX 62 (.mv (kX 0))])
 (.block 2 (.loop (.seq (.reg [oX 63 (bK .lss 62 4)])
 (.seq (.cond (.tmp 63)
 (.skip)
 (.exit 2))
 (.seq (.block 3 (.seq (.reg [vX 64 62,
 vX 19 64])
 (.any [(true,0,[],vX 65 19),
 (true,1,[],oX 66 (.ia 4 1 (.tmp 14) (.tmp 65))),
 (true,2,[],oX 67 (.ld1 (.tmp 66))),
 (true,3,[],vX 68 19),
 (true,4,[],oX 69 (.ia 4 1 (.tmp 18) (.tmp 68))),
 (true,5,[],oX 70 (.ld1 (.tmp 69))),
 (true,6,[],oX 71 (.conv .i64 (.tmp 70))),
 (true,7,[],vX 72 16),
 (true,8,[],oX 73 (bX .mul 71 72)),
 (false,9,[0,1,2,3,4,5,6,7,8],vX 74 17),
 (false,10,[0,1,2],oX 75 (bX .mul 73 74)),
 (false,11,[],oX 76 (bX .add 67 75)),
 (false,12,[],oX 77 (.ia 4 1 (.tmp 14) (.tmp 65))),
 (false,13,[],⟨none,.st1 (.tmp 77) (.tmp 76),none⟩)])))
 (.reg [oX 78 (bK .add 62 1),
 vX 62 78])))))))))))))
 (.reg [oX 79 (bK .add 36 1),
 vX 36 79])))))))
 (.seq (.seq (.reg [oX 80 (.ldn 4 (.tmp 14)),
 oX 81 (.mv (kX 0))])
 (.block 4 (.loop (.seq (.reg [oX 82 (bK .lss 81 4)])
 (.seq (.cond (.tmp 82)
 (.skip)
 (.exit 4))
 (.seq (.block 5 (.seq (.reg [vX 83 81,
 oX 84 (.ix 4 (.tmp 80) (.tmp 81)),
 vX 20 83,
 vX 21 84])
 (.reg [vX 85 20,
 vX 86 21,
 oX 87 (bK .add 86 2147483648),
 oX 88 (.bin .shr (.tmp 87) (.const (.int .u64 32))),
 oX 89 (.conv .i32 (.tmp 88)),
 oX 90 (.ia 4 1 (.tmp 13) (.tmp 85)),
 ⟨none,.st1 (.tmp 90) (.tmp 89),none⟩])))
 (.reg [oX 91 (bK .add 81 1),
 vX 81 91])))))))
 (.seq (.reg [oX 92 (.ldn 4 (.tmp 13)),
 ⟨none,.stn 4 (.tmp 8) (.tmp 92),none⟩])
 (.ret))))))))
theorem k159 : fnOk Tryz.prog 159 = some (M159, [.cn 4 8], 93) := by kernel_rfl

theorem c_linear (x : Im) (y : LvR) (u v : Int) (hy : Lvl w0 H x y) (hu : I32 u) (hv : I32 v) (h : K (V4 (linI x y u v)) H) :
    HCalls Tryz.prog w0 159 [x.v, y.v, .int .i32 u, .int .i32 v] H K := by
  have p1 := plcI_le hy.w hu
  have p2 := plcI_le hy.h hv
  have s1 : ∀ (G : Heap) (K : Value → Heap → Prop), K (.tuple #[.int .i64 (plcI y.w u), .int .i64 (plcF y.w u)]) G → HCalls Tryz.prog w0 173 [.int .i64 y.w, .int .i32 u] G K := fun G K hk => c_spread _ _ hy.w hu hk
  have s2 : ∀ (G : Heap) (K : Value → Heap → Prop), K (.tuple #[.int .i64 (plcI y.h v), .int .i64 (plcF y.h v)]) G → HCalls Tryz.prog w0 173 [.int .i64 y.h, .int .i32 v] G K := fun G K hk => c_spread _ _ hy.h hv hk
  have ht : ∀ (G : Heap) (K : Value → Heap → Prop) (i j : Int), Grow w0 H G → I64 i → I64 j → K (V4 (colI x y i j)) G → HCalls Tryz.prog w0 172 [x.v, y.v, .int .i64 i, .int .i64 j] G K := fun G K i j g hi hj hk => c_texel x y i j (hy.grow g) hi hj hk
  have hC := colI_le x y
  have f1 := plcF_le y.w u
  have f2 := plcF_le y.h v
  unfold linI lin4 at h
  generalize colI x y = C at *
  generalize plcI y.w u = i at *
  generalize plcI y.h v = j at *
  generalize plcF y.w u = f at *
  generalize plcF y.h v = g at *
  obtain ⟨a0, a1, c1, m1, m2, m3, m4, m5, m6, t1, t2, t3, t4, t5, t6, -⟩ := linF (i := i) (j := j) hC f1 f2
  have n1 : bitsI .and .i64 0 1 = 0 ∧ bitsI .and .i64 1 1 = 1 ∧ bitsI .and .i64 2 1 = 0 ∧ bitsI .and .i64 3 1 = 1 ∧ bitsI .and .i64 0 2 = 0 ∧ bitsI .and .i64 1 2 = 0 ∧ bitsI .and .i64 2 2 = 2 ∧ bitsI .and .i64 3 2 = 2 := by decide
  have fd2 : ∀ a : Int, a.fdiv 2 = a / 2 := fun a => Int.fdiv_eq_ediv_of_nonneg _ (by decide)
  have fd : ∀ a : Int, a.fdiv 4294967296 = a / 4294967296 := fun a => Int.fdiv_eq_ediv_of_nonneg _ (by decide)
  have i0 : IntKind.i64.wrap (i + 0) = i := by rw [Int.add_zero]; exact Bw.1 _ (by omega) (by omega)
  have i1 : IntKind.i64.wrap (i + 1) = i + 1 := Bw.1 _ (by omega) (by omega)
  have j0 : IntKind.i64.wrap (j + 0) = j := by rw [Int.add_zero]; exact Bw.1 _ (by omega) (by omega)
  have j1 : IntKind.i64.wrap (j + 1) = j + 1 := Bw.1 _ (by omega) (by omega)
  have k0 : I64 i := by unfold I64; omega
  have k1 : I64 (i + 1) := by unfold I64; omega
  have k2 : I64 j := by unfold I64; omega
  have k3 : I64 (j + 1) := by unfold I64; omega
  clear p1 p2 hC f1 f2 hu hv hy
  unfold Im.v LvR.v at ht ⊢
  refine HL.hc k159 2500 ?_; unfold M159
  (all_goals (try simp only [S0,putAt,List.replicate,Int.reduceAdd,Int.reduceSub,Int.reduceMul,Int.reduceTDiv,Int.reduceTMod,Int.reduceMod,Int.reduceDiv,Nat.reduceLT,Nat.reduceEqDiff,Int.reduceLE,Int.reduceLT,Int.reduceToNat,Int.reduceNeg,Int.reduceEq,Nat.reduceLeDiff,Nat.reducePow,Int.reducePow,reduceIte,Nat.reduceSub,Nat.reduceAdd,Nat.reduceMul, *])); repeat' ((first | (with_reducible refine fun _ : True => ?_) | refine s1 _ _ ?_ | refine s2 _ _ ?_ | refine ht _ _ _ _ aG (by assumption) (by assumption) ?_ | (with_reducible refine any_h ?_) | ((first | refine AllocQ_i ?_ | refine AllocO_i ?_); intro bk hb0 hbk; (try simp only [set_none'] at hbk); (try have hbn := aNn); (try simp only [set_none'] at hbn); (try have hbm := aNm); (try simp only [set_none'] at hbm)) | ((first | refine condS_i ?_ ?_ | refine pick_i ?_ ?_ | refine gS_it ?_ ?_ | refine gS_if ?_ ?_ | refine gP_it ?_ ?_ | refine gP_if ?_ ?_) <;> (intro hc; try simp only [Int.reduceLE,Int.reduceLT,Int.reduceEq,Sn] at hc)) | (with_reducible refine KP_i ?_ ?_; · exact aL) | (with_reducible refine loop_u ?_) | (with_reducible refine And.intro ?_ ?_)) <;> (try simp only [S0,putAt,List.replicate,Int.reduceAdd,Int.reduceSub,Int.reduceMul,Int.reduceTDiv,Int.reduceTMod,Int.reduceMod,Int.reduceDiv,Nat.reduceLT,Nat.reduceEqDiff,Int.reduceLE,Int.reduceLT,Int.reduceToNat,Int.reduceNeg,Int.reduceEq,Nat.reduceLeDiff,Nat.reducePow,Int.reducePow,reduceIte,Nat.reduceSub,Nat.reduceAdd,Nat.reduceMul, *]))
  exact Fin_mk aL h
end Go.Proofs.YtdmnfaefakceiaaGreat.Sm
end
