/- A reader of bytes, by the program (layer 1, as layer 16 uses it). -/
import Derived.Test.YtndgmnmnpfblmaaCdh
import Derived.Test.YtndgmnmnpfblmaaHlu
set_option linter.unusedSimpArgs false
set_option linter.unusedVariables false
set_option maxRecDepth 100000
set_option maxHeartbeats 4000000
namespace Go.Proofs.Ytndgmnmnpfblmaa
open Go.HL Go.RowKit Pb
variable {w0 : World} {H G : Heap} {K : Value → Heap → Prop}

theorem or_u64 (x y : Nat) (hx : x < 2 ^ 64) (hy : y < 2 ^ 64) : bitsI .or .u64 (x : Int) (y : Int) = ((x ||| y : Nat) : Int) := by
  show IntKind.u64.wrap ((BitVec.ofInt 64 (x : Int) ||| BitVec.ofInt 64 (y : Int)).toNat : Int) = _
  have e1 : (BitVec.ofInt 64 (x : Int)).toNat = x := by rw [BitVec.toNat_ofInt]; simp; omega
  have e2 : (BitVec.ofInt 64 (y : Int)).toNat = y := by rw [BitVec.toNat_ofInt]; simp; omega
  rw [BitVec.toNat_or, e1, e2]
  have := Nat.or_lt_two_pow hx hy
  simp [IntKind.wrap, IntKind.signed, IntKind.bits]
  omega
theorem or_byte (s : Nat) (x c : Int) (hs : s ≤ 56) (hx : 0 ≤ x ∧ x < 2 ^ s) (hc : 0 ≤ c ∧ c < 256) : bitsI .or .u64 x (c * 2 ^ s) = x + c * 2 ^ s := by
  obtain ⟨n, rfl⟩ := Int.eq_ofNat_of_zero_le hx.1
  obtain ⟨m, rfl⟩ := Int.eq_ofNat_of_zero_le hc.1
  have e : (m : Int) * 2 ^ s = ((m * 2 ^ s : Nat) : Int) := by simp
  have hn : n < 2 ^ s := by have := hx.2; exact_mod_cast this
  have hm : m < 256 := by omega
  have h1 : 2 ^ s ≤ 2 ^ 56 := Nat.pow_le_pow_right (by omega) hs
  have h2 : m * 2 ^ s ≤ 255 * 2 ^ 56 := Nat.mul_le_mul (by omega) h1
  rw [e, or_u64 n (m * 2 ^ s) (by omega) (by omega)]
  have := Nat.two_pow_add_eq_or_of_lt hn m
  rw [Nat.or_comm, Nat.mul_comm m, ← this]
  simp
  omega
/-- The number of bytes, the lowest first. -/
def numL : List Int → Int
  | [] => 0
  | b :: l => b + 256 * numL l
/-- A reader at rb: bytes, where it is, and its error. -/
structure RdAt (w0 : World) (G : Heap) (rb : Nat) (a : Option Addr) (cp : Nat) (l : List Int) (p : Nat) (e : Int) : Prop where
  at_ : G rb = some ⟨.t 86, [.slice a l.length cp, .int .i64 p, .int .i64 e]⟩
  iv : BB w0 noneH G a cp l
  lc : l.length ≤ cp
  lm : l.length ≤ 1000000000
  lp : p ≤ l.length
  wf : ∀ x ∈ l, 0 ≤ x ∧ x < 256
/-- What the next four bytes are, and where the reader is then. -/
def rdOk (l : List Int) (p : Nat) (e : Int) : Prop := e = 0 ∧ p + 4 ≤ l.length
/- (*paintbox/octet spot) take -/
def M61 : MC :=
  .seq (.reg [⟨(some 4), .mv (.const (.slice none 0 0)), none⟩])
 (.seq (.block 0 (.seq (.reg [⟨(some 6), .mv (.tmp 0), none⟩,
 ⟨(some 7), .nilc (.tmp 6), none⟩,
 ⟨(some 8), .fa 2 (.tmp 7), none⟩,
 ⟨(some 9), .ld1 (.tmp 8), none⟩,
 ⟨(some 10), .bin .neq (.tmp 9) (.const (.int .i64 0)), none⟩,
 ⟨(some 5), .mv (.tmp 10), none⟩])
 (.cond (.tmp 5)
 (.seq (.reg [⟨(some 4), .mv (.const (.slice none 0 0)), none⟩])
 (.ret))
 (.seq (.reg [⟨(some 12), .mv (.tmp 1), none⟩,
 ⟨(some 13), .bin .lss (.tmp 12) (.const (.int .i64 0)), none⟩,
 ⟨(some 11), .mv (.tmp 13), none⟩])
 (.cond (.tmp 11)
 (.seq (.reg [⟨(some 14), .mv (.tmp 0), none⟩,
 ⟨(some 15), .nilc (.tmp 14), none⟩,
 ⟨(some 16), .fa 2 (.tmp 15), none⟩,
 ⟨none, .st1 (.tmp 16) (.const (.int .i64 2)), none⟩])
 (.seq (.reg [⟨(some 4), .mv (.const (.slice none 0 0)), none⟩])
 (.ret)))
 (.seq (.any [(true, 0, [], ⟨(some 18), .mv (.tmp 1), none⟩),
 (true, 1, [], ⟨(some 19), .mv (.tmp 0), none⟩),
 (true, 2, [], ⟨(some 20), .nilc (.tmp 19), none⟩),
 (true, 3, [], ⟨(some 21), .fa 0 (.tmp 20), none⟩),
 (true, 4, [], ⟨(some 22), .ld1 (.tmp 21), none⟩),
 (true, 5, [], ⟨(some 23), .len (.tmp 22), none⟩),
 (false, 6, [0, 1, 2, 3, 4, 5], ⟨(some 24), .mv (.tmp 0), none⟩),
 (false, 7, [0, 1, 2, 3, 4, 5], ⟨(some 25), .nilc (.tmp 24), none⟩),
 (false, 8, [0, 1, 2, 3, 4, 5], ⟨(some 26), .fa 1 (.tmp 25), none⟩),
 (false, 9, [0, 1, 2, 3, 4, 5], ⟨(some 27), .ld1 (.tmp 26), none⟩),
 (false, 10, [0], ⟨(some 28), .bin .sub (.tmp 23) (.tmp 27), none⟩),
 (false, 11, [], ⟨(some 29), .bin .gtr (.tmp 18) (.tmp 28), none⟩),
 (false, 12, [], ⟨(some 17), .mv (.tmp 29), none⟩)])
 (.cond (.tmp 17)
 (.seq (.reg [⟨(some 30), .mv (.tmp 0), none⟩,
 ⟨(some 31), .nilc (.tmp 30), none⟩,
 ⟨(some 32), .fa 2 (.tmp 31), none⟩,
 ⟨none, .st1 (.tmp 32) (.const (.int .i64 7)), none⟩])
 (.seq (.reg [⟨(some 4), .mv (.const (.slice none 0 0)), none⟩])
 (.ret)))
 (.skip))))))))
 (.seq (.reg [⟨(some 33), .mv (.tmp 0), none⟩,
 ⟨(some 34), .nilc (.tmp 33), none⟩,
 ⟨(some 35), .fa 1 (.tmp 34), none⟩,
 ⟨(some 36), .ld1 (.tmp 35), none⟩,
 ⟨(some 37), .mv (.tmp 1), none⟩,
 ⟨(some 38), .bin .add (.tmp 36) (.tmp 37), none⟩,
 ⟨(some 39), .nilc (.tmp 33), none⟩,
 ⟨(some 40), .fa 1 (.tmp 39), none⟩,
 ⟨none, .st1 (.tmp 40) (.tmp 38), none⟩])
 (.seq (.any [(true, 0, [], ⟨(some 41), .mv (.tmp 0), none⟩),
 (true, 1, [], ⟨(some 42), .nilc (.tmp 41), none⟩),
 (true, 2, [], ⟨(some 43), .fa 0 (.tmp 42), none⟩),
 (true, 3, [], ⟨(some 44), .ld1 (.tmp 43), none⟩),
 (true, 4, [], ⟨(some 45), .mv (.tmp 0), none⟩),
 (true, 5, [], ⟨(some 46), .nilc (.tmp 45), none⟩),
 (true, 6, [], ⟨(some 47), .fa 1 (.tmp 46), none⟩),
 (true, 7, [], ⟨(some 48), .ld1 (.tmp 47), none⟩),
 (true, 8, [], ⟨(some 49), .mv (.tmp 1), none⟩),
 (true, 9, [], ⟨(some 50), .bin .sub (.tmp 48) (.tmp 49), none⟩),
 (false, 10, [0, 1, 2, 3, 4, 5, 6, 7, 8, 9], ⟨(some 51), .mv (.tmp 0), none⟩),
 (false, 11, [0, 1, 2, 3, 4, 5, 6, 7, 8, 9], ⟨(some 52), .nilc (.tmp 51), none⟩),
 (false, 12, [0, 1, 2, 3, 4, 5, 6, 7, 8, 9], ⟨(some 53), .fa 1 (.tmp 52), none⟩),
 (false, 13, [0, 1, 2, 3, 4, 5, 6, 7, 8, 9], ⟨(some 54), .ld1 (.tmp 53), none⟩),
 (false, 14, [], ⟨(some 55), .slc 1 (.tmp 44) (some (.tmp 50)) (some (.tmp 54)), none⟩),
 (false, 15, [], ⟨(some 4), .mv (.tmp 55), none⟩)])
 (.ret))))
theorem k61 : fnOk Try.prog 61 = some (M61, [.t 4], 56) := by kernel_rfl
/- (*paintbox/octet Reader) Raw -/
def M60 : MC :=
  .seq (.reg [⟨(some 4), .mv (.const (.slice none 0 0)), none⟩])
 (.seq (.seq (.reg [⟨(some 5), .mv (.tmp 0), none⟩,
 ⟨(some 6), .eqp false (.tmp 5) (.const (.pointer none)), none⟩])
 (.cond (.tmp 6)
 (.seq (.reg [⟨(some 4), .mv (.const (.slice none 0 0)), none⟩])
 (.ret))
 (.skip)))
 (.seq (.reg [⟨(some 7), .mv (.tmp 0), none⟩,
 ⟨(some 8), .nilc (.tmp 7), none⟩,
 ⟨(some 9), .fa 0 (.tmp 8), none⟩,
 ⟨(some 10), .mv (.tmp 1), none⟩,
 ⟨(some 11), .call 61 [(.tmp 9), (.tmp 10)], none⟩,
 ⟨(some 12), .call 53 [(.tmp 11)], none⟩,
 ⟨(some 4), .mv (.tmp 12), none⟩])
 (.ret)))
theorem k60 : fnOk Try.prog 60 = some (M60, [.t 4], 13) := by kernel_rfl
/- (*paintbox/octet Reader) number -/
def M54 : MC :=
  .seq (.reg [⟨(some 4), .mv (.const (.int .u64 0)), none⟩])
 (.seq (.reg [⟨(some 5), .mv (.const (.int .u64 0)), none⟩])
 (.seq (.seq (.reg [⟨(some 8), .mv (.tmp 0), none⟩,
 ⟨(some 9), .mv (.tmp 1), none⟩,
 ⟨(some 10), .call 60 [(.tmp 8), (.tmp 9)], none⟩,
 ⟨(some 11), .len (.tmp 10), none⟩,
 ⟨(some 12), .mv (.const (.int .i64 0)), none⟩])
 (.block 0 (.loop (.seq (.reg [⟨(some 13), .bin .lss (.tmp 12) (.tmp 11), none⟩])
 (.seq (.cond (.tmp 13)
 (.skip)
 (.exit 0))
 (.seq (.block 1 (.seq (.reg [⟨(some 14), .mv (.tmp 12), none⟩,
 ⟨(some 15), .is 1 (.tmp 10) (.tmp 12), none⟩,
 ⟨(some 16), .ld1 (.tmp 15), none⟩,
 ⟨(some 6), .mv (.tmp 14), none⟩,
 ⟨(some 7), .mv (.tmp 16), none⟩])
 (.reg [⟨(some 17), .mv (.tmp 5), none⟩,
 ⟨(some 18), .mv (.tmp 7), none⟩,
 ⟨(some 19), .conv .u64 (.tmp 18), none⟩,
 ⟨(some 20), .mv (.tmp 6), none⟩,
 ⟨(some 21), .bin .mul (.const (.int .i64 8)) (.tmp 20), none⟩,
 ⟨(some 22), .bin .shl (.tmp 19) (.tmp 21), none⟩,
 ⟨(some 23), .bin .or (.tmp 17) (.tmp 22), none⟩,
 ⟨(some 5), .mv (.tmp 23), none⟩])))
 (.reg [⟨(some 24), .bin .add (.tmp 12) (.const (.int .i64 1)), none⟩,
 ⟨(some 12), .mv (.tmp 24), none⟩])))))))
 (.seq (.reg [⟨(some 25), .mv (.tmp 5), none⟩,
 ⟨(some 4), .mv (.tmp 25), none⟩])
 (.ret))))
theorem k54 : fnOk Try.prog 54 = some (M54, [.t 4], 26) := by kernel_rfl
/- (*paintbox/octet Reader) U32 -/
def M40 : MC :=
  .seq (.reg [⟨(some 2), .mv (.const (.int .u32 0)), none⟩])
 (.seq (.reg [⟨(some 3), .mv (.tmp 0), none⟩,
 ⟨(some 4), .call 54 [(.tmp 3), (.const (.int .i64 4))], none⟩,
 ⟨(some 5), .conv .u32 (.tmp 4), none⟩,
 ⟨(some 2), .mv (.tmp 5), none⟩])
 (.ret))
theorem k40 : fnOk Try.prog 40 = some (M40, [.t 2], 6) := by kernel_rfl
/- code Decode 1 -/
def M39 : MC :=
  .seq (.reg [⟨(some 1), .mv (.const (.int .i64 0)), none⟩])
 (.seq (.reg [⟨(some 2), .ld1 (.tmp 0), none⟩,
 ⟨(some 3), .call 40 [(.tmp 2)], none⟩,
 ⟨(some 4), .conv .i64 (.tmp 3), none⟩,
 ⟨(some 1), .mv (.tmp 4), none⟩])
 (.ret))
theorem k39 : fnOk Try.prog 39 = some (M39, [.t 1], 5) := by kernel_rfl

theorem c_take {rb : Nat} {a : Option Addr} {cp : Nat} {l : List Int} {p : Nat} {e : Int} (hR : RdAt w0 G rb a cp l p e)
    (hy : rdOk l p e → ∀ b o, a = some ⟨b, o, none⟩ → K (.slice (some ⟨b, o + p, none⟩) 4 (cp - p)) (G.set rb ⟨.t 86, [.slice a l.length cp, .int .i64 (p + 4), .int .i64 e]⟩))
    (hn : ¬ rdOk l p e → ∀ e' : Int, e' ≠ 0 → K (.slice none 0 0) (G.set rb ⟨.t 86, [.slice a l.length cp, .int .i64 p, .int .i64 e']⟩)) :
    HCalls Try.prog w0 61 [.pointer (some ⟨rb, 0, none⟩), .int .i64 4] G K := by
  obtain ⟨h1, hA0, hlc, hlm, hlp, -⟩ := hR
  have hA : IntsAt w0 G .u8 a l := SlAt.toInts hA0.slAt
  have e1 : G = G.set rb _ := root1 h1
  have hp1 : IntKind.i64.wrap ((p : Int) + 4) = (p : Int) + 4 := Bw.1 _ (by omega) (by omega)
  have hp2 : IntKind.i64.wrap ((l.length : Int) - p) = (l.length : Int) - p := Bw.1 _ (by omega) (by omega)
  have hp3 : IntKind.i64.wrap ((p : Int) + 4 - 4) = (p : Int) := by rw [Int.add_sub_cancel]; exact Bw.1 _ (by omega) (by omega)
  by_cases ho : rdOk l p e
  · replace hy := hy ho
    obtain ⟨rfl, h4⟩ := ho
    obtain ⟨b, o, rfl, hr⟩ := (SlAt.ints hA) (by intro e; rw [List.map_eq_nil_iff] at e; subst e; simp at h4)
    replace hy := hy b o rfl
    clear hn hr hA hA0
    have t0 : ¬ (4 : Int) > (l.length : Int) - p := by omega
    replace hy : Keep _ := hy
    clear h1
    rw [e1]
    clear e1
    refine HL.hc k61 999 ?_; unfold M61
    (all_goals (try simp only [Sq,Sr,Sh,Si,Sl,Bu,Bb,Bd,Bc,Bw,Bn,Int.reduceAdd,Int.reduceSub,Int.reduceMul,Int.reduceTDiv,Int.reduceTMod,Int.reduceMod,Int.reduceDiv,Nat.reduceLT,Nat.reduceEqDiff,Sa,Sb,Sc,Sd,Se,Sf,Sg,Int.reduceLE,Int.reduceLT,Int.reduceToNat,Int.reduceNeg,Int.reduceEq,Nat.reduceLeDiff,Nat.reducePow,Int.reducePow,reduceIte,Nat.reduceSub,Nat.reduceAdd,Nat.reduceMul,putAt,ceq,List.replicate, *])); repeat' ((first | (with_reducible refine fun _ : True => ?_) | (with_reducible refine any_h ?_) | ((first | refine AllocQ_i ?_ | refine AllocO_i ?_); intro bk hb0 hbk; (try simp only [set_none'] at hbk); (try (first | have hbn := Grow.none (by assumption) hbk | have hbn := Grow.none (by assumption) hbk.2 | have hbn := Grow.none (by assumption) hbk.2.2 | have hbn := Grow.none (by assumption) hbk.2.2.2 | have hbn := Grow.none (by assumption) hbk.2.2.2.2 | have hbn := Grow.none (by assumption) hbk.2.2.2.2.2)); (try simp only [set_none'] at hbn); (try (first | have hbm := Grow.none (by assumption) hbn | have hbm := Grow.none (by assumption) hbn.2 | have hbm := Grow.none (by assumption) hbn.2.2 | have hbm := Grow.none (by assumption) hbn.2.2.2 | have hbm := Grow.none (by assumption) hbn.2.2.2.2 | have hbm := Grow.none (by assumption) hbn.2.2.2.2.2)); (try simp only [set_none'] at hbm)) | ((first | refine condS_i ?_ ?_ | refine pick_i ?_ ?_ | refine gS_it ?_ ?_ | refine gS_if ?_ ?_ | refine gP_it ?_ ?_ | refine gP_if ?_ ?_) <;> (intro hc; try simp only [Int.reduceLE,Int.reduceLT,Int.reduceEq,Sn] at hc)) | (with_reducible refine And.intro ?_ ?_)) <;> (try simp only [Sq,Sr,Sh,Si,Sl,Bu,Bb,Bd,Bc,Bw,Bn,Int.reduceAdd,Int.reduceSub,Int.reduceMul,Int.reduceTDiv,Int.reduceTMod,Int.reduceMod,Int.reduceDiv,Nat.reduceLT,Nat.reduceEqDiff,Sa,Sb,Sc,Sd,Se,Sf,Sg,Int.reduceLE,Int.reduceLT,Int.reduceToNat,Int.reduceNeg,Int.reduceEq,Nat.reduceLeDiff,Nat.reducePow,Int.reducePow,reduceIte,Nat.reduceSub,Nat.reduceAdd,Nat.reduceMul,putAt,ceq,List.replicate, *]))
    · omega
    · omega
    · rw [if_neg (by omega), show ((p : Int) + 4).toNat - p = 4 by omega]
      exact Fin_mk (Heap.Le.refl _) hy
  · replace hn := hn ho
    by_cases he : e = 0
    · subst he
      have h4 : ¬ p + 4 ≤ l.length := fun h => ho ⟨rfl, h⟩
      have t0 : (4 : Int) > (l.length : Int) - p := by omega
      have hn := hn 7 (by omega)
      replace hn : Keep _ := hn
      clear h1 hA hA0 ho hy
      rw [e1]
      clear e1
      refine HL.hc k61 999 ?_; unfold M61
      (all_goals (try simp only [Sq,Sr,Sh,Si,Sl,Bu,Bb,Bd,Bc,Bw,Bn,Int.reduceAdd,Int.reduceSub,Int.reduceMul,Int.reduceTDiv,Int.reduceTMod,Int.reduceMod,Int.reduceDiv,Nat.reduceLT,Nat.reduceEqDiff,Sa,Sb,Sc,Sd,Se,Sf,Sg,Int.reduceLE,Int.reduceLT,Int.reduceToNat,Int.reduceNeg,Int.reduceEq,Nat.reduceLeDiff,Nat.reducePow,Int.reducePow,reduceIte,Nat.reduceSub,Nat.reduceAdd,Nat.reduceMul,putAt,ceq,List.replicate, *])); repeat' ((first | (with_reducible refine fun _ : True => ?_) | (with_reducible refine any_h ?_) | ((first | refine AllocQ_i ?_ | refine AllocO_i ?_); intro bk hb0 hbk; (try simp only [set_none'] at hbk); (try (first | have hbn := Grow.none (by assumption) hbk | have hbn := Grow.none (by assumption) hbk.2 | have hbn := Grow.none (by assumption) hbk.2.2 | have hbn := Grow.none (by assumption) hbk.2.2.2 | have hbn := Grow.none (by assumption) hbk.2.2.2.2 | have hbn := Grow.none (by assumption) hbk.2.2.2.2.2)); (try simp only [set_none'] at hbn); (try (first | have hbm := Grow.none (by assumption) hbn | have hbm := Grow.none (by assumption) hbn.2 | have hbm := Grow.none (by assumption) hbn.2.2 | have hbm := Grow.none (by assumption) hbn.2.2.2 | have hbm := Grow.none (by assumption) hbn.2.2.2.2 | have hbm := Grow.none (by assumption) hbn.2.2.2.2.2)); (try simp only [set_none'] at hbm)) | ((first | refine condS_i ?_ ?_ | refine pick_i ?_ ?_ | refine gS_it ?_ ?_ | refine gS_if ?_ ?_ | refine gP_it ?_ ?_ | refine gP_if ?_ ?_) <;> (intro hc; try simp only [Int.reduceLE,Int.reduceLT,Int.reduceEq,Sn] at hc)) | (with_reducible refine And.intro ?_ ?_)) <;> (try simp only [Sq,Sr,Sh,Si,Sl,Bu,Bb,Bd,Bc,Bw,Bn,Int.reduceAdd,Int.reduceSub,Int.reduceMul,Int.reduceTDiv,Int.reduceTMod,Int.reduceMod,Int.reduceDiv,Nat.reduceLT,Nat.reduceEqDiff,Sa,Sb,Sc,Sd,Se,Sf,Sg,Int.reduceLE,Int.reduceLT,Int.reduceToNat,Int.reduceNeg,Int.reduceEq,Nat.reduceLeDiff,Nat.reducePow,Int.reducePow,reduceIte,Nat.reduceSub,Nat.reduceAdd,Nat.reduceMul,putAt,ceq,List.replicate, *]))
      exact Fin_mk (Heap.Le.refl _) hn
    · have hn := hn e he
      replace hn : Keep _ := hn
      clear h1 hA hA0 ho hy
      rw [e1]
      clear e1
      refine HL.hc k61 999 ?_; unfold M61
      (all_goals (try simp only [Sq,Sr,Sh,Si,Sl,Bu,Bb,Bd,Bc,Bw,Bn,Int.reduceAdd,Int.reduceSub,Int.reduceMul,Int.reduceTDiv,Int.reduceTMod,Int.reduceMod,Int.reduceDiv,Nat.reduceLT,Nat.reduceEqDiff,Sa,Sb,Sc,Sd,Se,Sf,Sg,Int.reduceLE,Int.reduceLT,Int.reduceToNat,Int.reduceNeg,Int.reduceEq,Nat.reduceLeDiff,Nat.reducePow,Int.reducePow,reduceIte,Nat.reduceSub,Nat.reduceAdd,Nat.reduceMul,putAt,ceq,List.replicate, *])); repeat' ((first | (with_reducible refine fun _ : True => ?_) | (with_reducible refine any_h ?_) | ((first | refine AllocQ_i ?_ | refine AllocO_i ?_); intro bk hb0 hbk; (try simp only [set_none'] at hbk); (try (first | have hbn := Grow.none (by assumption) hbk | have hbn := Grow.none (by assumption) hbk.2 | have hbn := Grow.none (by assumption) hbk.2.2 | have hbn := Grow.none (by assumption) hbk.2.2.2 | have hbn := Grow.none (by assumption) hbk.2.2.2.2 | have hbn := Grow.none (by assumption) hbk.2.2.2.2.2)); (try simp only [set_none'] at hbn); (try (first | have hbm := Grow.none (by assumption) hbn | have hbm := Grow.none (by assumption) hbn.2 | have hbm := Grow.none (by assumption) hbn.2.2 | have hbm := Grow.none (by assumption) hbn.2.2.2 | have hbm := Grow.none (by assumption) hbn.2.2.2.2 | have hbm := Grow.none (by assumption) hbn.2.2.2.2.2)); (try simp only [set_none'] at hbm)) | ((first | refine condS_i ?_ ?_ | refine pick_i ?_ ?_ | refine gS_it ?_ ?_ | refine gS_if ?_ ?_ | refine gP_it ?_ ?_ | refine gP_if ?_ ?_) <;> (intro hc; try simp only [Int.reduceLE,Int.reduceLT,Int.reduceEq,Sn] at hc)) | (with_reducible refine And.intro ?_ ?_)) <;> (try simp only [Sq,Sr,Sh,Si,Sl,Bu,Bb,Bd,Bc,Bw,Bn,Int.reduceAdd,Int.reduceSub,Int.reduceMul,Int.reduceTDiv,Int.reduceTMod,Int.reduceMod,Int.reduceDiv,Nat.reduceLT,Nat.reduceEqDiff,Sa,Sb,Sc,Sd,Se,Sf,Sg,Int.reduceLE,Int.reduceLT,Int.reduceToNat,Int.reduceNeg,Int.reduceEq,Nat.reduceLeDiff,Nat.reducePow,Int.reducePow,reduceIte,Nat.reduceSub,Nat.reduceAdd,Nat.reduceMul,putAt,ceq,List.replicate, *]))
      exact Fin_mk (Heap.Le.refl _) hn
/-- What a read leaves. -/
structure RdTo (w0 : World) (G G' : Heap) (rb : Nat) (a : Option Addr) (cp : Nat) (l : List Int) (p : Nat) (e : Int) : Prop where
  rd : RdAt w0 G' rb a cp l p e
  kp : ∀ d z, G d = some z → d ≠ rb → G' d = some z
  gr : ∀ H, Grow w0 H G → H rb = none → w0.heap.size ≤ rb → Grow w0 H G'
theorem RdAt.turn {rb : Nat} {a : Option Addr} {cp : Nat} {l : List Int} {p p' : Nat} {e e' : Int} (h : RdAt w0 G rb a cp l p e) (hp : p' ≤ l.length) :
    RdAt w0 (G.set rb ⟨.t 86, [.slice a l.length cp, .int .i64 p', .int .i64 e']⟩) rb a cp l p' e' := by
  exact ⟨Heap.set_same _ _ _, h.iv.turn h.at_ (fun e => by cases e), h.lc, h.lm, hp, h.wf⟩
theorem IntsAt.sub {k : IntKind} {b o : Nat} {l : List Int} (h : IntsAt w0 G k (some ⟨b, o, none⟩) l) (p n : Nat) (hp : p + n ≤ l.length) : IntsAt w0 G k (some ⟨b, o + p, none⟩) ((l.drop p).take n) := fun hl => by
  obtain ⟨b', o', e, hr, hf⟩ := h (by intro e; subst e; simp at hl)
  cases e
  refine ⟨b, o + p, rfl, fun i hi => ?_, hf⟩
  rw [List.length_take, List.length_drop] at hi
  rw [Nat.add_assoc, hr (p + i) (by omega)]
  congr 2
  rw [List.getD_eq_getElem?_getD, List.getD_eq_getElem?_getD, List.getElem?_take, if_pos (by omega), List.getElem?_drop]
theorem RdAt.grow {G' : Heap} {rb : Nat} {a : Option Addr} {cp : Nat} {l : List Int} {p : Nat} {e : Int} (h : RdAt w0 G rb a cp l p e) (g : Grow w0 G G') : RdAt w0 G' rb a cp l p e := ⟨g.some h.at_, h.iv.grow g, h.lc, h.lm, h.lp, h.wf⟩
theorem bld_re {H1 G' : Heap} {a : Option Addr} {cap sz : Nat} {ty : TypeId} {cs : List Value} (h : Bld w0 H1 G' a cap sz ty cs) (hn : ∀ b, H1 b = none → H b = none) : Bld w0 H G' a cap sz ty cs := by
  rcases h with ⟨b, z, rfl, h1, h2, h3, h4⟩ | h
  · exact .inl ⟨b, z, rfl, h1, hn _ h2, h3, h4⟩
  · exact .inr h
theorem set_none_of {rb : Nat} {x : Blk} (b : Nat) (h : (G.set rb x) b = none) : G b = none := by
  by_cases e : b = rb
  · subst e; rw [Heap.set_same] at h; cases h
  · rwa [Heap.set_other _ _ e] at h
theorem rdTo_mk {G' : Heap} {rb : Nat} {a : Option Addr} {cp : Nat} {l : List Int} {p : Nat} {e : Int} {x : Blk} (hT : RdAt w0 (G.set rb x) rb a cp l p e) (hg : Grow w0 (G.set rb x) G') : RdTo w0 G G' rb a cp l p e :=
  ⟨hT.grow hg, fun d z h1 h2 => hg.some ((Heap.set_other _ _ h2).trans h1), fun H0 h1 h2 h3 => (h1.set h3 h2).trans hg⟩
theorem c_Raw {rb : Nat} {a : Option Addr} {cp : Nat} {l : List Int} {p : Nat} {e : Int} (hR : RdAt w0 G rb a cp l p e)
    (hy : rdOk l p e → ∀ a' c' G', BB w0 G G' a' c' ((l.drop p).take 4) → RdTo w0 G G' rb a cp l (p + 4) e → K (.slice a' 4 c') G')
    (hn : ¬ rdOk l p e → ∀ (e' : Int) a' c' G', e' ≠ 0 → RdTo w0 G G' rb a cp l p e' → K (.slice a' 0 c') G') :
    HCalls Try.prog w0 60 [.pointer (some ⟨rb, 0, none⟩), .int .i64 4] G K := by
  have ht := fun (K : Value → Heap → Prop) => c_take (w0 := w0) (K := K) hR
  by_cases ho : rdOk l p e
  · have hy := hy ho
    have ht := fun (K : Value → Heap → Prop) h => ht K (fun _ => h) (fun h => absurd ho h)
    obtain ⟨b, o, rfl, hr⟩ := hR.iv.slAt (by intro e; rw [List.map_eq_nil_iff] at e; subst e; exact absurd ho.2 (by simp))
    have hT := hR.turn (e' := e) ho.2
    have hl4 : ((l.drop p).take 4).length = 4 := by rw [List.length_take, List.length_drop]; have := ho.2; omega
    have hA4 : IntsAt w0 (G.set rb ⟨.t 86, [.slice (some ⟨b, o, none⟩) l.length cp, .int .i64 ((p + 4 : Nat) : Int), .int .i64 e]⟩) .u8 (some ⟨b, o + p, none⟩) ((l.drop p).take 4) := IntsAt.sub (SlAt.toInts hT.iv.slAt) p 4 ho.2
    rw [show ((p + 4 : Nat) : Int) = (p : Int) + 4 by omega] at hA4
    have hc := fun (K : Value → Heap → Prop) => c_cloneB (w0 := w0) (K := K) _ (cp - p) _ hA4 (by omega)
    simp only [hl4] at hc
    replace hc : Keep _ := hc
    replace ht : Keep _ := ht
    replace hy : Keep _ := hy
    refine HL.hc k60 999 ?_; unfold M60
    (all_goals (try simp only [Sq,Sr,Sh,Si,Sl,Bu,Bb,Bd,Bc,Bw,Bn,Int.reduceAdd,Int.reduceSub,Int.reduceMul,Int.reduceTDiv,Int.reduceTMod,Int.reduceMod,Int.reduceDiv,Nat.reduceLT,Nat.reduceEqDiff,Sa,Sb,Sc,Sd,Se,Sf,Sg,Int.reduceLE,Int.reduceLT,Int.reduceToNat,Int.reduceNeg,Int.reduceEq,Nat.reduceLeDiff,Nat.reducePow,Int.reducePow,reduceIte,Nat.reduceSub,Nat.reduceAdd,Nat.reduceMul,putAt,ceq,List.replicate, *])); repeat' ((first | (with_reducible refine fun _ : True => ?_) | refine ht _ (fun b2 o2 e2 => ?_)  | (with_reducible refine any_h ?_) | ((first | refine AllocQ_i ?_ | refine AllocO_i ?_); intro bk hb0 hbk; (try simp only [set_none'] at hbk); (try (first | have hbn := Grow.none (by assumption) hbk | have hbn := Grow.none (by assumption) hbk.2 | have hbn := Grow.none (by assumption) hbk.2.2 | have hbn := Grow.none (by assumption) hbk.2.2.2 | have hbn := Grow.none (by assumption) hbk.2.2.2.2 | have hbn := Grow.none (by assumption) hbk.2.2.2.2.2)); (try simp only [set_none'] at hbn); (try (first | have hbm := Grow.none (by assumption) hbn | have hbm := Grow.none (by assumption) hbn.2 | have hbm := Grow.none (by assumption) hbn.2.2 | have hbm := Grow.none (by assumption) hbn.2.2.2 | have hbm := Grow.none (by assumption) hbn.2.2.2.2 | have hbm := Grow.none (by assumption) hbn.2.2.2.2.2)); (try simp only [set_none'] at hbm)) | ((first | refine condS_i ?_ ?_ | refine pick_i ?_ ?_ | refine gS_it ?_ ?_ | refine gS_if ?_ ?_ | refine gP_it ?_ ?_ | refine gP_if ?_ ?_) <;> (intro hc; try simp only [Int.reduceLE,Int.reduceLT,Int.reduceEq,Sn] at hc)) | (with_reducible refine And.intro ?_ ?_)) <;> (try simp only [Sq,Sr,Sh,Si,Sl,Bu,Bb,Bd,Bc,Bw,Bn,Int.reduceAdd,Int.reduceSub,Int.reduceMul,Int.reduceTDiv,Int.reduceTMod,Int.reduceMod,Int.reduceDiv,Nat.reduceLT,Nat.reduceEqDiff,Sa,Sb,Sc,Sd,Se,Sf,Sg,Int.reduceLE,Int.reduceLT,Int.reduceToNat,Int.reduceNeg,Int.reduceEq,Nat.reduceLeDiff,Nat.reducePow,Int.reducePow,reduceIte,Nat.reduceSub,Nat.reduceAdd,Nat.reduceMul,putAt,ceq,List.replicate, *]))
    cases e2
    (all_goals (try simp only [Sq,Sr,Sh,Si,Sl,Bu,Bb,Bd,Bc,Bw,Bn,Int.reduceAdd,Int.reduceSub,Int.reduceMul,Int.reduceTDiv,Int.reduceTMod,Int.reduceMod,Int.reduceDiv,Nat.reduceLT,Nat.reduceEqDiff,Sa,Sb,Sc,Sd,Se,Sf,Sg,Int.reduceLE,Int.reduceLT,Int.reduceToNat,Int.reduceNeg,Int.reduceEq,Nat.reduceLeDiff,Nat.reducePow,Int.reducePow,reduceIte,Nat.reduceSub,Nat.reduceAdd,Nat.reduceMul,putAt,ceq,List.replicate, *])); repeat' ((first | (with_reducible refine fun _ : True => ?_) | refine hc _ (fun a' c' G' hB hlc hg => ?_)  | (with_reducible refine any_h ?_) | ((first | refine AllocQ_i ?_ | refine AllocO_i ?_); intro bk hb0 hbk; (try simp only [set_none'] at hbk); (try (first | have hbn := Grow.none (by assumption) hbk | have hbn := Grow.none (by assumption) hbk.2 | have hbn := Grow.none (by assumption) hbk.2.2 | have hbn := Grow.none (by assumption) hbk.2.2.2 | have hbn := Grow.none (by assumption) hbk.2.2.2.2 | have hbn := Grow.none (by assumption) hbk.2.2.2.2.2)); (try simp only [set_none'] at hbn); (try (first | have hbm := Grow.none (by assumption) hbn | have hbm := Grow.none (by assumption) hbn.2 | have hbm := Grow.none (by assumption) hbn.2.2 | have hbm := Grow.none (by assumption) hbn.2.2.2 | have hbm := Grow.none (by assumption) hbn.2.2.2.2 | have hbm := Grow.none (by assumption) hbn.2.2.2.2.2)); (try simp only [set_none'] at hbm)) | ((first | refine condS_i ?_ ?_ | refine pick_i ?_ ?_ | refine gS_it ?_ ?_ | refine gS_if ?_ ?_ | refine gP_it ?_ ?_ | refine gP_if ?_ ?_) <;> (intro hc; try simp only [Int.reduceLE,Int.reduceLT,Int.reduceEq,Sn] at hc)) | (with_reducible refine And.intro ?_ ?_)) <;> (try simp only [Sq,Sr,Sh,Si,Sl,Bu,Bb,Bd,Bc,Bw,Bn,Int.reduceAdd,Int.reduceSub,Int.reduceMul,Int.reduceTDiv,Int.reduceTMod,Int.reduceMod,Int.reduceDiv,Nat.reduceLT,Nat.reduceEqDiff,Sa,Sb,Sc,Sd,Se,Sf,Sg,Int.reduceLE,Int.reduceLT,Int.reduceToNat,Int.reduceNeg,Int.reduceEq,Nat.reduceLeDiff,Nat.reducePow,Int.reducePow,reduceIte,Nat.reduceSub,Nat.reduceAdd,Nat.reduceMul,putAt,ceq,List.replicate, *]))
    exact Fin_mk (Heap.Le.refl _) ((show ∀ a' c' G', _ from hy) _ _ _ (bld_re hB set_none_of) (rdTo_mk hT hg))
  · have hn := hn ho
    have ht := fun (K : Value → Heap → Prop) h => ht K (fun h => absurd h ho) (fun _ => h)
    have hc := fun (G : Heap) (K : Value → Heap → Prop) => c_cloneB (w0 := w0) (H := G) (K := K) none 0 [] (fun e => absurd rfl e) (by simp)
    have hT := fun e' : Int => hR.turn (e' := e') hR.lp
    replace hc : Keep _ := hc
    replace ht : Keep _ := ht
    replace hn : Keep _ := hn
    refine HL.hc k60 999 ?_; unfold M60
    (all_goals (try simp only [Sq,Sr,Sh,Si,Sl,Bu,Bb,Bd,Bc,Bw,Bn,Int.reduceAdd,Int.reduceSub,Int.reduceMul,Int.reduceTDiv,Int.reduceTMod,Int.reduceMod,Int.reduceDiv,Nat.reduceLT,Nat.reduceEqDiff,Sa,Sb,Sc,Sd,Se,Sf,Sg,Int.reduceLE,Int.reduceLT,Int.reduceToNat,Int.reduceNeg,Int.reduceEq,Nat.reduceLeDiff,Nat.reducePow,Int.reducePow,reduceIte,Nat.reduceSub,Nat.reduceAdd,Nat.reduceMul,putAt,ceq,List.replicate, *])); repeat' ((first | (with_reducible refine fun _ : True => ?_) | refine ht _ (fun e' he' => ?_)  | refine hc _ _ (fun a' c' G' hB hlc hg => ?_)  | (with_reducible refine any_h ?_) | ((first | refine AllocQ_i ?_ | refine AllocO_i ?_); intro bk hb0 hbk; (try simp only [set_none'] at hbk); (try (first | have hbn := Grow.none (by assumption) hbk | have hbn := Grow.none (by assumption) hbk.2 | have hbn := Grow.none (by assumption) hbk.2.2 | have hbn := Grow.none (by assumption) hbk.2.2.2 | have hbn := Grow.none (by assumption) hbk.2.2.2.2 | have hbn := Grow.none (by assumption) hbk.2.2.2.2.2)); (try simp only [set_none'] at hbn); (try (first | have hbm := Grow.none (by assumption) hbn | have hbm := Grow.none (by assumption) hbn.2 | have hbm := Grow.none (by assumption) hbn.2.2 | have hbm := Grow.none (by assumption) hbn.2.2.2 | have hbm := Grow.none (by assumption) hbn.2.2.2.2 | have hbm := Grow.none (by assumption) hbn.2.2.2.2.2)); (try simp only [set_none'] at hbm)) | ((first | refine condS_i ?_ ?_ | refine pick_i ?_ ?_ | refine gS_it ?_ ?_ | refine gS_if ?_ ?_ | refine gP_it ?_ ?_ | refine gP_if ?_ ?_) <;> (intro hc; try simp only [Int.reduceLE,Int.reduceLT,Int.reduceEq,Sn] at hc)) | (with_reducible refine And.intro ?_ ?_)) <;> (try simp only [Sq,Sr,Sh,Si,Sl,Bu,Bb,Bd,Bc,Bw,Bn,Int.reduceAdd,Int.reduceSub,Int.reduceMul,Int.reduceTDiv,Int.reduceTMod,Int.reduceMod,Int.reduceDiv,Nat.reduceLT,Nat.reduceEqDiff,Sa,Sb,Sc,Sd,Se,Sf,Sg,Int.reduceLE,Int.reduceLT,Int.reduceToNat,Int.reduceNeg,Int.reduceEq,Nat.reduceLeDiff,Nat.reducePow,Int.reducePow,reduceIte,Nat.reduceSub,Nat.reduceAdd,Nat.reduceMul,putAt,ceq,List.replicate, *]))
    exact Fin_mk (Heap.Le.refl _) ((show ∀ (e' : Int) a' c' G', _ from hn) _ _ _ _ he' (rdTo_mk (hT e') hg))
theorem numL_snoc (l : List Int) (c : Int) : numL (l ++ [c]) = numL l + c * 2 ^ (8 * l.length) := by
  induction l with
  | nil => simp [numL]
  | cons b l ih =>
    simp only [List.cons_append, numL, ih, List.length_cons]
    rw [Int.mul_add, ← Int.add_assoc, show 8 * (l.length + 1) = 8 * l.length + 8 by omega, Int.pow_add, show ((2 : Int) ^ 8) = 256 by rfl]
    congr 1
    rw [← Int.mul_assoc, Int.mul_comm 256 c, Int.mul_assoc, Int.mul_comm 256, ← Int.mul_assoc]
theorem numL_lt : ∀ (l : List Int), (∀ x ∈ l, 0 ≤ x ∧ x < 256) → 0 ≤ numL l ∧ numL l < 2 ^ (8 * l.length)
  | [], _ => by simp [numL]
  | b :: l, h => by
    have ih := numL_lt l fun x hx => h x (by simp [hx])
    have hb := h b (by simp)
    simp only [numL, List.length_cons]
    rw [show 8 * (l.length + 1) = 8 * l.length + 8 by omega, Int.pow_add, show ((2 : Int) ^ 8) = 256 by rfl]
    omega
theorem c_number {rb : Nat} {a : Option Addr} {cp : Nat} {l : List Int} {p : Nat} {e : Int} (hR : RdAt w0 G rb a cp l p e)
    (hy : rdOk l p e → ∀ G', RdTo w0 G G' rb a cp l (p + 4) e → K (.int .u64 (numL ((l.drop p).take 4))) G')
    (hn : ¬ rdOk l p e → ∀ (e' : Int) G', e' ≠ 0 → RdTo w0 G G' rb a cp l p e' → K (.int .u64 0) G') :
    HCalls Try.prog w0 54 [.pointer (some ⟨rb, 0, none⟩), .int .i64 4] G K := by
  have ht := fun (K : Value → Heap → Prop) => c_Raw (w0 := w0) (K := K) hR
  by_cases ho : rdOk l p e
  · have hy := hy ho
    have ht := fun (K : Value → Heap → Prop) h => ht K (fun _ => h) (fun h => absurd ho h)
    obtain ⟨ls, els⟩ : ∃ ls, (l.drop p).take 4 = ls := ⟨_, rfl⟩
    have hl4 : ls.length = 4 := by rw [← els, List.length_take, List.length_drop]; have := ho.2; omega
    have hwf : ∀ x ∈ ls, 0 ≤ x ∧ x < 256 := fun x hx => hR.wf x (List.mem_of_mem_drop (List.mem_of_mem_take (by rw [els]; exact hx)))
    rw [els] at hy
    simp only [els] at ht
    clear hn ho hR els
    replace ht : Keep _ := ht
    replace hy : Keep _ := hy
    refine HL.hc k54 999 ?_; unfold M54
    (all_goals (try simp only [Sq,Sr,Sh,Si,Sl,Bu,Bb,Bd,Bc,Bw,Bn,Int.reduceAdd,Int.reduceSub,Int.reduceMul,Int.reduceTDiv,Int.reduceTMod,Int.reduceMod,Int.reduceDiv,Nat.reduceLT,Nat.reduceEqDiff,Sa,Sb,Sc,Sd,Se,Sf,Sg,Int.reduceLE,Int.reduceLT,Int.reduceToNat,Int.reduceNeg,Int.reduceEq,Nat.reduceLeDiff,Nat.reducePow,Int.reducePow,reduceIte,Nat.reduceSub,Nat.reduceAdd,Nat.reduceMul,putAt,ceq,List.replicate, *])); repeat' ((first | (with_reducible refine fun _ : True => ?_) | refine ht _ (fun ra rc G1 hB hT => ?_)  | (with_reducible refine any_h ?_) | ((first | refine AllocQ_i ?_ | refine AllocO_i ?_); intro bk hb0 hbk; (try simp only [set_none'] at hbk); (try (first | have hbn := Grow.none (by assumption) hbk | have hbn := Grow.none (by assumption) hbk.2 | have hbn := Grow.none (by assumption) hbk.2.2 | have hbn := Grow.none (by assumption) hbk.2.2.2 | have hbn := Grow.none (by assumption) hbk.2.2.2.2 | have hbn := Grow.none (by assumption) hbk.2.2.2.2.2)); (try simp only [set_none'] at hbn); (try (first | have hbm := Grow.none (by assumption) hbn | have hbm := Grow.none (by assumption) hbn.2 | have hbm := Grow.none (by assumption) hbn.2.2 | have hbm := Grow.none (by assumption) hbn.2.2.2 | have hbm := Grow.none (by assumption) hbn.2.2.2.2 | have hbm := Grow.none (by assumption) hbn.2.2.2.2.2)); (try simp only [set_none'] at hbm)) | ((first | refine condS_i ?_ ?_ | refine pick_i ?_ ?_ | refine gS_it ?_ ?_ | refine gS_if ?_ ?_ | refine gP_it ?_ ?_ | refine gP_if ?_ ?_) <;> (intro hc; try simp only [Int.reduceLE,Int.reduceLT,Int.reduceEq,Sn] at hc)) | (with_reducible refine And.intro ?_ ?_)) <;> (try simp only [Sq,Sr,Sh,Si,Sl,Bu,Bb,Bd,Bc,Bw,Bn,Int.reduceAdd,Int.reduceSub,Int.reduceMul,Int.reduceTDiv,Int.reduceTMod,Int.reduceMod,Int.reduceDiv,Nat.reduceLT,Nat.reduceEqDiff,Sa,Sb,Sc,Sd,Se,Sf,Sg,Int.reduceLE,Int.reduceLT,Int.reduceToNat,Int.reduceNeg,Int.reduceEq,Nat.reduceLeDiff,Nat.reducePow,Int.reducePow,reduceIte,Nat.reduceSub,Nat.reduceAdd,Nat.reduceMul,putAt,ceq,List.replicate, *]))
    refine loop_g 13 (fun s : Nat × Value × Value => [(5, .int .u64 (numL (ls.take s.1))), (6, s.2.1), (7, s.2.2), (12, .int .i64 (s.1 : Nat))]) (fun s => G1) (fun s => s.1 ≤ 4) (fun s => 4 - s.1) (0, undef, undef) (Nat.zero_le _) (Heap.Le.refl _) rfl ?_
    intro ⟨k, v6, v7⟩ g hk
    simp only at hk
    rcases Nat.lt_or_ge k 4 with hlt | hge
    · obtain ⟨x, ex⟩ : ∃ x, ls[k]? = some x := ⟨_, List.getElem?_eq_getElem (by omega)⟩
      obtain ⟨b, o, rfl, hr, hf⟩ := hB.slAt.read (by rw [List.length_map]; omega)
      have h1 : rd1 w0 G1 b (o + k) = some (.int .u8 x) := by rw [hr k (by rw [List.length_map]; omega), List.getElem?_map, ex]; rfl
      have hx := hwf x (List.mem_of_getElem? ex)
      have hlk : (ls.take k).length = k := by rw [List.length_take]; omega
      have hN := numL_lt (ls.take k) fun x hx => hwf x (List.mem_of_mem_take hx)
      have hs : numL (ls.take (k + 1)) = numL (ls.take k) + x * 2 ^ (8 * k) := by rw [List.take_add_one, ex, Option.toList_some, numL_snoc, hlk]
      rw [hlk] at hN
      obtain ⟨y, ey⟩ : ∃ y, numL (ls.take k) = y := ⟨_, rfl⟩
      rw [ey] at hN hs
      simp only [ey]
      have t0 : (k : Int) < 4 := by omega
      have t1 : IntKind.u64.wrap x = x := Bu.1 _ (by omega) (by omega)
      have t2 : IntKind.i64.wrap (8 * (k : Int)) = 8 * (k : Int) := Bw.1 _ (by omega) (by omega)
      have t3 : (8 * (k : Int)).toNat = 8 * k := by omega
      have t4 : 8 * k ≤ 64 := by omega
      have t9 : 0 ≤ 8 * (k : Int) := by omega
      have t5 : IntKind.u64.wrap (x * 2 ^ (8 * k)) = x * 2 ^ (8 * k) := by
        rcases (show k = 0 ∨ k = 1 ∨ k = 2 ∨ k = 3 by omega) with rfl | rfl | rfl | rfl <;> exact Bu.1 _ (by simp; omega) (by simp; omega)
      have t7 : bitsI .or .u64 y (x * 2 ^ (8 * k)) = y + x * 2 ^ (8 * k) := or_byte _ _ _ (by omega) hN hx
      have t6 : IntKind.i64.wrap ((k : Int) + 1) = (k : Int) + 1 := Bw.1 _ (by omega) (by omega)
      clear hB hwf hN hr hx ex
      replace hs : Keep _ := hs
      (all_goals (try simp only [Sq,Sr,Sh,Si,Sl,Bu,Bb,Bd,Bc,Bw,Bn,Int.reduceAdd,Int.reduceSub,Int.reduceMul,Int.reduceTDiv,Int.reduceTMod,Int.reduceMod,Int.reduceDiv,Nat.reduceLT,Nat.reduceEqDiff,Sa,Sb,Sc,Sd,Se,Sf,Sg,Int.reduceLE,Int.reduceLT,Int.reduceToNat,Int.reduceNeg,Int.reduceEq,Nat.reduceLeDiff,Nat.reducePow,Int.reducePow,reduceIte,Nat.reduceSub,Nat.reduceAdd,Nat.reduceMul,putAt,ceq,List.replicate, *])); repeat' ((first | (with_reducible refine fun _ : True => ?_) | (with_reducible refine any_h ?_) | ((first | refine AllocQ_i ?_ | refine AllocO_i ?_); intro bk hb0 hbk; (try simp only [set_none'] at hbk); (try (first | have hbn := Grow.none (by assumption) hbk | have hbn := Grow.none (by assumption) hbk.2 | have hbn := Grow.none (by assumption) hbk.2.2 | have hbn := Grow.none (by assumption) hbk.2.2.2 | have hbn := Grow.none (by assumption) hbk.2.2.2.2 | have hbn := Grow.none (by assumption) hbk.2.2.2.2.2)); (try simp only [set_none'] at hbn); (try (first | have hbm := Grow.none (by assumption) hbn | have hbm := Grow.none (by assumption) hbn.2 | have hbm := Grow.none (by assumption) hbn.2.2 | have hbm := Grow.none (by assumption) hbn.2.2.2 | have hbm := Grow.none (by assumption) hbn.2.2.2.2 | have hbm := Grow.none (by assumption) hbn.2.2.2.2.2)); (try simp only [set_none'] at hbm)) | ((first | refine condS_i ?_ ?_ | refine pick_i ?_ ?_ | refine gS_it ?_ ?_ | refine gS_if ?_ ?_ | refine gP_it ?_ ?_ | refine gP_if ?_ ?_) <;> (intro hc; try simp only [Int.reduceLE,Int.reduceLT,Int.reduceEq,Sn] at hc)) | (with_reducible refine And.intro ?_ ?_)) <;> (try simp only [Sq,Sr,Sh,Si,Sl,Bu,Bb,Bd,Bc,Bw,Bn,Int.reduceAdd,Int.reduceSub,Int.reduceMul,Int.reduceTDiv,Int.reduceTMod,Int.reduceMod,Int.reduceDiv,Nat.reduceLT,Nat.reduceEqDiff,Sa,Sb,Sc,Sd,Se,Sf,Sg,Int.reduceLE,Int.reduceLT,Int.reduceToNat,Int.reduceNeg,Int.reduceEq,Nat.reduceLeDiff,Nat.reducePow,Int.reducePow,reduceIte,Nat.reduceSub,Nat.reduceAdd,Nat.reduceMul,putAt,ceq,List.replicate, *]))
      rw [show y + x * 2 ^ (8 * k) = numL (ls.take (k + 1)) from (show _ = _ from hs).symm]
      exact Round_mk (k + 1, _, _) hlt (by simp only; omega) (Heap.Le.refl _) rfl rfl
    · obtain rfl : k = 4 := by omega
      have e4 : ls.take 4 = ls := by rw [← hl4]; exact List.take_length
      rw [e4]
      have fin := (show ∀ G', _ from hy) _ hT
      have t0 : ¬ ((4 : Nat) : Int) < 4 := by omega
      clear hB hwf hT
      (all_goals (try simp only [Sq,Sr,Sh,Si,Sl,Bu,Bb,Bd,Bc,Bw,Bn,Int.reduceAdd,Int.reduceSub,Int.reduceMul,Int.reduceTDiv,Int.reduceTMod,Int.reduceMod,Int.reduceDiv,Nat.reduceLT,Nat.reduceEqDiff,Sa,Sb,Sc,Sd,Se,Sf,Sg,Int.reduceLE,Int.reduceLT,Int.reduceToNat,Int.reduceNeg,Int.reduceEq,Nat.reduceLeDiff,Nat.reducePow,Int.reducePow,reduceIte,Nat.reduceSub,Nat.reduceAdd,Nat.reduceMul,putAt,ceq,List.replicate, *])); repeat' ((first | (with_reducible refine fun _ : True => ?_) | (with_reducible refine any_h ?_) | ((first | refine AllocQ_i ?_ | refine AllocO_i ?_); intro bk hb0 hbk; (try simp only [set_none'] at hbk); (try (first | have hbn := Grow.none (by assumption) hbk | have hbn := Grow.none (by assumption) hbk.2 | have hbn := Grow.none (by assumption) hbk.2.2 | have hbn := Grow.none (by assumption) hbk.2.2.2 | have hbn := Grow.none (by assumption) hbk.2.2.2.2 | have hbn := Grow.none (by assumption) hbk.2.2.2.2.2)); (try simp only [set_none'] at hbn); (try (first | have hbm := Grow.none (by assumption) hbn | have hbm := Grow.none (by assumption) hbn.2 | have hbm := Grow.none (by assumption) hbn.2.2 | have hbm := Grow.none (by assumption) hbn.2.2.2 | have hbm := Grow.none (by assumption) hbn.2.2.2.2 | have hbm := Grow.none (by assumption) hbn.2.2.2.2.2)); (try simp only [set_none'] at hbm)) | ((first | refine condS_i ?_ ?_ | refine pick_i ?_ ?_ | refine gS_it ?_ ?_ | refine gS_if ?_ ?_ | refine gP_it ?_ ?_ | refine gP_if ?_ ?_) <;> (intro hc; try simp only [Int.reduceLE,Int.reduceLT,Int.reduceEq,Sn] at hc)) | (with_reducible refine And.intro ?_ ?_)) <;> (try simp only [Sq,Sr,Sh,Si,Sl,Bu,Bb,Bd,Bc,Bw,Bn,Int.reduceAdd,Int.reduceSub,Int.reduceMul,Int.reduceTDiv,Int.reduceTMod,Int.reduceMod,Int.reduceDiv,Nat.reduceLT,Nat.reduceEqDiff,Sa,Sb,Sc,Sd,Se,Sf,Sg,Int.reduceLE,Int.reduceLT,Int.reduceToNat,Int.reduceNeg,Int.reduceEq,Nat.reduceLeDiff,Nat.reducePow,Int.reducePow,reduceIte,Nat.reduceSub,Nat.reduceAdd,Nat.reduceMul,putAt,ceq,List.replicate, *]))
      exact Fin_mk (Heap.Le.refl _) fin
  · have hn := hn ho
    have ht := fun (K : Value → Heap → Prop) h => ht K (fun h => absurd h ho) (fun _ => h)
    clear hy ho hR
    replace ht : Keep _ := ht
    replace hn : Keep _ := hn
    refine HL.hc k54 999 ?_; unfold M54
    (all_goals (try simp only [Sq,Sr,Sh,Si,Sl,Bu,Bb,Bd,Bc,Bw,Bn,Int.reduceAdd,Int.reduceSub,Int.reduceMul,Int.reduceTDiv,Int.reduceTMod,Int.reduceMod,Int.reduceDiv,Nat.reduceLT,Nat.reduceEqDiff,Sa,Sb,Sc,Sd,Se,Sf,Sg,Int.reduceLE,Int.reduceLT,Int.reduceToNat,Int.reduceNeg,Int.reduceEq,Nat.reduceLeDiff,Nat.reducePow,Int.reducePow,reduceIte,Nat.reduceSub,Nat.reduceAdd,Nat.reduceMul,putAt,ceq,List.replicate, *])); repeat' ((first | (with_reducible refine fun _ : True => ?_) | refine ht _ (fun e' a' c' G' he' hT => ?_)  | (with_reducible refine any_h ?_) | ((first | refine AllocQ_i ?_ | refine AllocO_i ?_); intro bk hb0 hbk; (try simp only [set_none'] at hbk); (try (first | have hbn := Grow.none (by assumption) hbk | have hbn := Grow.none (by assumption) hbk.2 | have hbn := Grow.none (by assumption) hbk.2.2 | have hbn := Grow.none (by assumption) hbk.2.2.2 | have hbn := Grow.none (by assumption) hbk.2.2.2.2 | have hbn := Grow.none (by assumption) hbk.2.2.2.2.2)); (try simp only [set_none'] at hbn); (try (first | have hbm := Grow.none (by assumption) hbn | have hbm := Grow.none (by assumption) hbn.2 | have hbm := Grow.none (by assumption) hbn.2.2 | have hbm := Grow.none (by assumption) hbn.2.2.2 | have hbm := Grow.none (by assumption) hbn.2.2.2.2 | have hbm := Grow.none (by assumption) hbn.2.2.2.2.2)); (try simp only [set_none'] at hbm)) | ((first | refine condS_i ?_ ?_ | refine pick_i ?_ ?_ | refine gS_it ?_ ?_ | refine gS_if ?_ ?_ | refine gP_it ?_ ?_ | refine gP_if ?_ ?_) <;> (intro hc; try simp only [Int.reduceLE,Int.reduceLT,Int.reduceEq,Sn] at hc)) | (with_reducible refine loop_u ?_) | (with_reducible refine And.intro ?_ ?_)) <;> (try simp only [Sq,Sr,Sh,Si,Sl,Bu,Bb,Bd,Bc,Bw,Bn,Int.reduceAdd,Int.reduceSub,Int.reduceMul,Int.reduceTDiv,Int.reduceTMod,Int.reduceMod,Int.reduceDiv,Nat.reduceLT,Nat.reduceEqDiff,Sa,Sb,Sc,Sd,Se,Sf,Sg,Int.reduceLE,Int.reduceLT,Int.reduceToNat,Int.reduceNeg,Int.reduceEq,Nat.reduceLeDiff,Nat.reducePow,Int.reducePow,reduceIte,Nat.reduceSub,Nat.reduceAdd,Nat.reduceMul,putAt,ceq,List.replicate, *]))
    exact Fin_mk (Heap.Le.refl _) ((show ∀ (e' : Int) G', _ from hn) _ _ he' hT)
theorem c_U32 {rb : Nat} {a : Option Addr} {cp : Nat} {l : List Int} {p : Nat} {e : Int} (hR : RdAt w0 G rb a cp l p e)
    (hy : rdOk l p e → ∀ G', RdTo w0 G G' rb a cp l (p + 4) e → K (.int .u32 (numL ((l.drop p).take 4))) G')
    (hn : ¬ rdOk l p e → ∀ (e' : Int) G', e' ≠ 0 → RdTo w0 G G' rb a cp l p e' → K (.int .u32 0) G') :
    HCalls Try.prog w0 40 [.pointer (some ⟨rb, 0, none⟩)] G K := by
  have ht := fun (K : Value → Heap → Prop) => c_number (w0 := w0) (K := K) hR
  by_cases ho : rdOk l p e
  · have hy := hy ho
    have ht := fun (K : Value → Heap → Prop) h => ht K (fun _ => h) (fun h => absurd ho h)
    have hl4 : ((l.drop p).take 4).length = 4 := by rw [List.length_take, List.length_drop]; have := ho.2; omega
    have hN := numL_lt ((l.drop p).take 4) fun x hx => hR.wf x (List.mem_of_mem_drop (List.mem_of_mem_take hx))
    rw [hl4] at hN
    obtain ⟨y, ey⟩ : ∃ y, numL ((l.drop p).take 4) = y := ⟨_, rfl⟩
    rw [ey] at hN hy
    simp only [ey] at ht
    have t0 : IntKind.u32.wrap y = y := by simp [IntKind.wrap, IntKind.signed, IntKind.bits]; simp at hN; omega
    clear hn ho hR hN ey hl4
    replace ht : Keep _ := ht
    replace hy : Keep _ := hy
    refine HL.hc k40 999 ?_; unfold M40
    (all_goals (try simp only [Sq,Sr,Sh,Si,Sl,Bu,Bb,Bd,Bc,Bw,Bn,Int.reduceAdd,Int.reduceSub,Int.reduceMul,Int.reduceTDiv,Int.reduceTMod,Int.reduceMod,Int.reduceDiv,Nat.reduceLT,Nat.reduceEqDiff,Sa,Sb,Sc,Sd,Se,Sf,Sg,Int.reduceLE,Int.reduceLT,Int.reduceToNat,Int.reduceNeg,Int.reduceEq,Nat.reduceLeDiff,Nat.reducePow,Int.reducePow,reduceIte,Nat.reduceSub,Nat.reduceAdd,Nat.reduceMul,putAt,ceq,List.replicate, *])); repeat' ((first | (with_reducible refine fun _ : True => ?_) | refine ht _ (fun G1 hT => ?_)  | (with_reducible refine any_h ?_) | ((first | refine AllocQ_i ?_ | refine AllocO_i ?_); intro bk hb0 hbk; (try simp only [set_none'] at hbk); (try (first | have hbn := Grow.none (by assumption) hbk | have hbn := Grow.none (by assumption) hbk.2 | have hbn := Grow.none (by assumption) hbk.2.2 | have hbn := Grow.none (by assumption) hbk.2.2.2 | have hbn := Grow.none (by assumption) hbk.2.2.2.2 | have hbn := Grow.none (by assumption) hbk.2.2.2.2.2)); (try simp only [set_none'] at hbn); (try (first | have hbm := Grow.none (by assumption) hbn | have hbm := Grow.none (by assumption) hbn.2 | have hbm := Grow.none (by assumption) hbn.2.2 | have hbm := Grow.none (by assumption) hbn.2.2.2 | have hbm := Grow.none (by assumption) hbn.2.2.2.2 | have hbm := Grow.none (by assumption) hbn.2.2.2.2.2)); (try simp only [set_none'] at hbm)) | ((first | refine condS_i ?_ ?_ | refine pick_i ?_ ?_ | refine gS_it ?_ ?_ | refine gS_if ?_ ?_ | refine gP_it ?_ ?_ | refine gP_if ?_ ?_) <;> (intro hc; try simp only [Int.reduceLE,Int.reduceLT,Int.reduceEq,Sn] at hc)) | (with_reducible refine And.intro ?_ ?_)) <;> (try simp only [Sq,Sr,Sh,Si,Sl,Bu,Bb,Bd,Bc,Bw,Bn,Int.reduceAdd,Int.reduceSub,Int.reduceMul,Int.reduceTDiv,Int.reduceTMod,Int.reduceMod,Int.reduceDiv,Nat.reduceLT,Nat.reduceEqDiff,Sa,Sb,Sc,Sd,Se,Sf,Sg,Int.reduceLE,Int.reduceLT,Int.reduceToNat,Int.reduceNeg,Int.reduceEq,Nat.reduceLeDiff,Nat.reducePow,Int.reducePow,reduceIte,Nat.reduceSub,Nat.reduceAdd,Nat.reduceMul,putAt,ceq,List.replicate, *]))
    exact Fin_mk (Heap.Le.refl _) ((show ∀ G', _ from hy) _ hT)
  · have hn := hn ho
    have ht := fun (K : Value → Heap → Prop) h => ht K (fun h => absurd h ho) (fun _ => h)
    have t0 : IntKind.u32.wrap 0 = 0 := rfl
    clear hy ho hR
    replace ht : Keep _ := ht
    replace hn : Keep _ := hn
    refine HL.hc k40 999 ?_; unfold M40
    (all_goals (try simp only [Sq,Sr,Sh,Si,Sl,Bu,Bb,Bd,Bc,Bw,Bn,Int.reduceAdd,Int.reduceSub,Int.reduceMul,Int.reduceTDiv,Int.reduceTMod,Int.reduceMod,Int.reduceDiv,Nat.reduceLT,Nat.reduceEqDiff,Sa,Sb,Sc,Sd,Se,Sf,Sg,Int.reduceLE,Int.reduceLT,Int.reduceToNat,Int.reduceNeg,Int.reduceEq,Nat.reduceLeDiff,Nat.reducePow,Int.reducePow,reduceIte,Nat.reduceSub,Nat.reduceAdd,Nat.reduceMul,putAt,ceq,List.replicate, *])); repeat' ((first | (with_reducible refine fun _ : True => ?_) | refine ht _ (fun e' G' he' hT => ?_)  | (with_reducible refine any_h ?_) | ((first | refine AllocQ_i ?_ | refine AllocO_i ?_); intro bk hb0 hbk; (try simp only [set_none'] at hbk); (try (first | have hbn := Grow.none (by assumption) hbk | have hbn := Grow.none (by assumption) hbk.2 | have hbn := Grow.none (by assumption) hbk.2.2 | have hbn := Grow.none (by assumption) hbk.2.2.2 | have hbn := Grow.none (by assumption) hbk.2.2.2.2 | have hbn := Grow.none (by assumption) hbk.2.2.2.2.2)); (try simp only [set_none'] at hbn); (try (first | have hbm := Grow.none (by assumption) hbn | have hbm := Grow.none (by assumption) hbn.2 | have hbm := Grow.none (by assumption) hbn.2.2 | have hbm := Grow.none (by assumption) hbn.2.2.2 | have hbm := Grow.none (by assumption) hbn.2.2.2.2 | have hbm := Grow.none (by assumption) hbn.2.2.2.2.2)); (try simp only [set_none'] at hbm)) | ((first | refine condS_i ?_ ?_ | refine pick_i ?_ ?_ | refine gS_it ?_ ?_ | refine gS_if ?_ ?_ | refine gP_it ?_ ?_ | refine gP_if ?_ ?_) <;> (intro hc; try simp only [Int.reduceLE,Int.reduceLT,Int.reduceEq,Sn] at hc)) | (with_reducible refine And.intro ?_ ?_)) <;> (try simp only [Sq,Sr,Sh,Si,Sl,Bu,Bb,Bd,Bc,Bw,Bn,Int.reduceAdd,Int.reduceSub,Int.reduceMul,Int.reduceTDiv,Int.reduceTMod,Int.reduceMod,Int.reduceDiv,Nat.reduceLT,Nat.reduceEqDiff,Sa,Sb,Sc,Sd,Se,Sf,Sg,Int.reduceLE,Int.reduceLT,Int.reduceToNat,Int.reduceNeg,Int.reduceEq,Nat.reduceLeDiff,Nat.reducePow,Int.reducePow,reduceIte,Nat.reduceSub,Nat.reduceAdd,Nat.reduceMul,putAt,ceq,List.replicate, *]))
    exact Fin_mk (Heap.Le.refl _) ((show ∀ (e' : Int) G', _ from hn) _ _ he' hT)
theorem c_get {rb pb : Nat} {ty : Kd} {a : Option Addr} {cp : Nat} {l : List Int} {p : Nat} {e : Int} (hP : G pb = some ⟨ty, [.pointer (some ⟨rb, 0, none⟩)]⟩) (hR : RdAt w0 G rb a cp l p e)
    (hy : rdOk l p e → ∀ G', RdTo w0 G G' rb a cp l (p + 4) e → K (.int .i64 (numL ((l.drop p).take 4))) G')
    (hn : ¬ rdOk l p e → ∀ (e' : Int) G', e' ≠ 0 → RdTo w0 G G' rb a cp l p e' → K (.int .i64 0) G') :
    HCalls Try.prog w0 39 [.pointer (some ⟨pb, 0, none⟩)] G K := by
  have ht := fun (K : Value → Heap → Prop) => c_U32 (w0 := w0) (K := K) hR
  have r1 : rd1 w0 G pb 0 = some (.pointer (some ⟨rb, 0, none⟩)) := by unfold rd1; rw [hP]; rfl
  by_cases ho : rdOk l p e
  · have hy := hy ho
    have ht := fun (K : Value → Heap → Prop) h => ht K (fun _ => h) (fun h => absurd ho h)
    have hl4 : ((l.drop p).take 4).length = 4 := by rw [List.length_take, List.length_drop]; have := ho.2; omega
    have hN := numL_lt ((l.drop p).take 4) fun x hx => hR.wf x (List.mem_of_mem_drop (List.mem_of_mem_take hx))
    rw [hl4] at hN
    obtain ⟨y, ey⟩ : ∃ y, numL ((l.drop p).take 4) = y := ⟨_, rfl⟩
    rw [ey] at hN hy
    simp only [ey] at ht
    have t0 : IntKind.i64.wrap y = y := Bw.1 _ (by omega) (by simp at hN; omega)
    clear hn ho hR hN ey hl4
    replace ht : Keep _ := ht
    replace hy : Keep _ := hy
    refine HL.hc k39 999 ?_; unfold M39
    (all_goals (try simp only [Sq,Sr,Sh,Si,Sl,Bu,Bb,Bd,Bc,Bw,Bn,Int.reduceAdd,Int.reduceSub,Int.reduceMul,Int.reduceTDiv,Int.reduceTMod,Int.reduceMod,Int.reduceDiv,Nat.reduceLT,Nat.reduceEqDiff,Sa,Sb,Sc,Sd,Se,Sf,Sg,Int.reduceLE,Int.reduceLT,Int.reduceToNat,Int.reduceNeg,Int.reduceEq,Nat.reduceLeDiff,Nat.reducePow,Int.reducePow,reduceIte,Nat.reduceSub,Nat.reduceAdd,Nat.reduceMul,putAt,ceq,List.replicate, *])); repeat' ((first | (with_reducible refine fun _ : True => ?_) | refine ht _ (fun G1 hT => ?_)  | (with_reducible refine any_h ?_) | ((first | refine AllocQ_i ?_ | refine AllocO_i ?_); intro bk hb0 hbk; (try simp only [set_none'] at hbk); (try (first | have hbn := Grow.none (by assumption) hbk | have hbn := Grow.none (by assumption) hbk.2 | have hbn := Grow.none (by assumption) hbk.2.2 | have hbn := Grow.none (by assumption) hbk.2.2.2 | have hbn := Grow.none (by assumption) hbk.2.2.2.2 | have hbn := Grow.none (by assumption) hbk.2.2.2.2.2)); (try simp only [set_none'] at hbn); (try (first | have hbm := Grow.none (by assumption) hbn | have hbm := Grow.none (by assumption) hbn.2 | have hbm := Grow.none (by assumption) hbn.2.2 | have hbm := Grow.none (by assumption) hbn.2.2.2 | have hbm := Grow.none (by assumption) hbn.2.2.2.2 | have hbm := Grow.none (by assumption) hbn.2.2.2.2.2)); (try simp only [set_none'] at hbm)) | ((first | refine condS_i ?_ ?_ | refine pick_i ?_ ?_ | refine gS_it ?_ ?_ | refine gS_if ?_ ?_ | refine gP_it ?_ ?_ | refine gP_if ?_ ?_) <;> (intro hc; try simp only [Int.reduceLE,Int.reduceLT,Int.reduceEq,Sn] at hc)) | (with_reducible refine And.intro ?_ ?_)) <;> (try simp only [Sq,Sr,Sh,Si,Sl,Bu,Bb,Bd,Bc,Bw,Bn,Int.reduceAdd,Int.reduceSub,Int.reduceMul,Int.reduceTDiv,Int.reduceTMod,Int.reduceMod,Int.reduceDiv,Nat.reduceLT,Nat.reduceEqDiff,Sa,Sb,Sc,Sd,Se,Sf,Sg,Int.reduceLE,Int.reduceLT,Int.reduceToNat,Int.reduceNeg,Int.reduceEq,Nat.reduceLeDiff,Nat.reducePow,Int.reducePow,reduceIte,Nat.reduceSub,Nat.reduceAdd,Nat.reduceMul,putAt,ceq,List.replicate, *]))
    exact Fin_mk (Heap.Le.refl _) ((show ∀ G', _ from hy) _ hT)
  · have hn := hn ho
    have ht := fun (K : Value → Heap → Prop) h => ht K (fun h => absurd h ho) (fun _ => h)
    have t0 : IntKind.i64.wrap 0 = 0 := rfl
    clear hy ho hR
    replace ht : Keep _ := ht
    replace hn : Keep _ := hn
    refine HL.hc k39 999 ?_; unfold M39
    (all_goals (try simp only [Sq,Sr,Sh,Si,Sl,Bu,Bb,Bd,Bc,Bw,Bn,Int.reduceAdd,Int.reduceSub,Int.reduceMul,Int.reduceTDiv,Int.reduceTMod,Int.reduceMod,Int.reduceDiv,Nat.reduceLT,Nat.reduceEqDiff,Sa,Sb,Sc,Sd,Se,Sf,Sg,Int.reduceLE,Int.reduceLT,Int.reduceToNat,Int.reduceNeg,Int.reduceEq,Nat.reduceLeDiff,Nat.reducePow,Int.reducePow,reduceIte,Nat.reduceSub,Nat.reduceAdd,Nat.reduceMul,putAt,ceq,List.replicate, *])); repeat' ((first | (with_reducible refine fun _ : True => ?_) | refine ht _ (fun e' G' he' hT => ?_)  | (with_reducible refine any_h ?_) | ((first | refine AllocQ_i ?_ | refine AllocO_i ?_); intro bk hb0 hbk; (try simp only [set_none'] at hbk); (try (first | have hbn := Grow.none (by assumption) hbk | have hbn := Grow.none (by assumption) hbk.2 | have hbn := Grow.none (by assumption) hbk.2.2 | have hbn := Grow.none (by assumption) hbk.2.2.2 | have hbn := Grow.none (by assumption) hbk.2.2.2.2 | have hbn := Grow.none (by assumption) hbk.2.2.2.2.2)); (try simp only [set_none'] at hbn); (try (first | have hbm := Grow.none (by assumption) hbn | have hbm := Grow.none (by assumption) hbn.2 | have hbm := Grow.none (by assumption) hbn.2.2 | have hbm := Grow.none (by assumption) hbn.2.2.2 | have hbm := Grow.none (by assumption) hbn.2.2.2.2 | have hbm := Grow.none (by assumption) hbn.2.2.2.2.2)); (try simp only [set_none'] at hbm)) | ((first | refine condS_i ?_ ?_ | refine pick_i ?_ ?_ | refine gS_it ?_ ?_ | refine gS_if ?_ ?_ | refine gP_it ?_ ?_ | refine gP_if ?_ ?_) <;> (intro hc; try simp only [Int.reduceLE,Int.reduceLT,Int.reduceEq,Sn] at hc)) | (with_reducible refine And.intro ?_ ?_)) <;> (try simp only [Sq,Sr,Sh,Si,Sl,Bu,Bb,Bd,Bc,Bw,Bn,Int.reduceAdd,Int.reduceSub,Int.reduceMul,Int.reduceTDiv,Int.reduceTMod,Int.reduceMod,Int.reduceDiv,Nat.reduceLT,Nat.reduceEqDiff,Sa,Sb,Sc,Sd,Se,Sf,Sg,Int.reduceLE,Int.reduceLT,Int.reduceToNat,Int.reduceNeg,Int.reduceEq,Nat.reduceLeDiff,Nat.reducePow,Int.reducePow,reduceIte,Nat.reduceSub,Nat.reduceAdd,Nat.reduceMul,putAt,ceq,List.replicate, *]))
    exact Fin_mk (Heap.Le.refl _) ((show ∀ (e' : Int) G', _ from hn) _ _ he' hT)
end Go.Proofs.Ytndgmnmnpfblmaa
