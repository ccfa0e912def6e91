/- Bytes, repeated, by Go's library (layer 8). -/
import Derived.Test.YtdaipgnhconfnaaJua
set_option linter.unusedSimpArgs false
set_option linter.unusedVariables false
set_option maxRecDepth 100000
set_option maxHeartbeats 4000000
namespace Go.Proofs.Ytdaipgnhconfnaa
open Go Go.HL Go.RowKit Pb
variable {w0 : World} {H G : Heap} {K : Value → Heap → Prop}

theorem and_small (a : Int) (h0 : 0 ≤ a) (h1 : a ≤ 65535) : bitsI .and .u64 a 4294967295 = a := by
  obtain ⟨m, rfl⟩ := Int.eq_ofNat_of_zero_le h0
  show IntKind.u64.wrap ((BitVec.ofInt 64 m &&& BitVec.ofInt 64 ((4294967295 : Nat) : Int)).toNat : Int) = _
  rw [BitVec.toNat_and, ofInt_nat 64 m (by omega), ofInt_nat 64 _ (by omega), show (4294967295 : Nat) = 2 ^ 32 - 1 from rfl, Nat.and_two_pow_sub_one_eq_mod]
  rw [Bu.1 _ (by omega) (by omega)]
  omega
theorem kp {p : Prop} (h : Keep p) : p := h
/- math/bits Mul64 -/
def M74 : MC :=
  .seq (.reg [⟨(some 4), .mv (.const (.int .u64 0)), none⟩,
 ⟨(some 5), .mv (.const (.int .u64 0)), none⟩])
 (.seq (.reg [⟨(some 14), .mv (.tmp 0), none⟩,
 ⟨(some 15), .bin .and (.tmp 14) (.const (.int .u64 4294967295)), none⟩,
 ⟨(some 6), .mv (.tmp 15), none⟩])
 (.seq (.reg [⟨(some 16), .mv (.tmp 0), none⟩,
 ⟨(some 17), .bin .shr (.tmp 16) (.const (.int .u64 32)), none⟩,
 ⟨(some 7), .mv (.tmp 17), none⟩])
 (.seq (.reg [⟨(some 18), .mv (.tmp 1), none⟩,
 ⟨(some 19), .bin .and (.tmp 18) (.const (.int .u64 4294967295)), none⟩,
 ⟨(some 8), .mv (.tmp 19), none⟩])
 (.seq (.reg [⟨(some 20), .mv (.tmp 1), none⟩,
 ⟨(some 21), .bin .shr (.tmp 20) (.const (.int .u64 32)), none⟩,
 ⟨(some 9), .mv (.tmp 21), none⟩])
 (.seq (.reg [⟨(some 22), .mv (.tmp 6), none⟩,
 ⟨(some 23), .mv (.tmp 8), none⟩,
 ⟨(some 24), .bin .mul (.tmp 22) (.tmp 23), none⟩,
 ⟨(some 10), .mv (.tmp 24), none⟩])
 (.seq (.reg [⟨(some 25), .mv (.tmp 7), none⟩,
 ⟨(some 26), .mv (.tmp 8), none⟩,
 ⟨(some 27), .bin .mul (.tmp 25) (.tmp 26), none⟩,
 ⟨(some 28), .mv (.tmp 10), none⟩,
 ⟨(some 29), .bin .shr (.tmp 28) (.const (.int .u64 32)), none⟩,
 ⟨(some 30), .bin .add (.tmp 27) (.tmp 29), none⟩,
 ⟨(some 11), .mv (.tmp 30), none⟩])
 (.seq (.reg [⟨(some 31), .mv (.tmp 11), none⟩,
 ⟨(some 32), .bin .and (.tmp 31) (.const (.int .u64 4294967295)), none⟩,
 ⟨(some 12), .mv (.tmp 32), none⟩])
 (.seq (.reg [⟨(some 33), .mv (.tmp 11), none⟩,
 ⟨(some 34), .bin .shr (.tmp 33) (.const (.int .u64 32)), none⟩,
 ⟨(some 13), .mv (.tmp 34), none⟩])
 (.seq (.reg [⟨(some 35), .mv (.tmp 12), none⟩,
 ⟨(some 36), .mv (.tmp 6), none⟩,
 ⟨(some 37), .mv (.tmp 9), none⟩,
 ⟨(some 38), .bin .mul (.tmp 36) (.tmp 37), none⟩,
 ⟨(some 39), .bin .add (.tmp 35) (.tmp 38), none⟩,
 ⟨(some 12), .mv (.tmp 39), none⟩])
 (.seq (.reg [⟨(some 40), .mv (.tmp 7), none⟩,
 ⟨(some 41), .mv (.tmp 9), none⟩,
 ⟨(some 42), .bin .mul (.tmp 40) (.tmp 41), none⟩,
 ⟨(some 43), .mv (.tmp 13), none⟩,
 ⟨(some 44), .bin .add (.tmp 42) (.tmp 43), none⟩,
 ⟨(some 45), .mv (.tmp 12), none⟩,
 ⟨(some 46), .bin .shr (.tmp 45) (.const (.int .u64 32)), none⟩,
 ⟨(some 47), .bin .add (.tmp 44) (.tmp 46), none⟩,
 ⟨(some 4), .mv (.tmp 47), none⟩])
 (.seq (.reg [⟨(some 48), .mv (.tmp 0), none⟩,
 ⟨(some 49), .mv (.tmp 1), none⟩,
 ⟨(some 50), .bin .mul (.tmp 48) (.tmp 49), none⟩,
 ⟨(some 5), .mv (.tmp 50), none⟩])
 (.ret))))))))))))
theorem k74 : fnOk Try.prog 74 = some (M74, [.t 4, .t 5], 51) := by kernel_rfl
/- math/bits Mul -/
def M62 : MC :=
  .seq (.reg [⟨(some 4), .mv (.const (.int .u64 0)), none⟩,
 ⟨(some 5), .mv (.const (.int .u64 0)), none⟩])
 (.seq (.cond (.const (.bool false))
 (.seq (.reg [⟨(some 11), .mv (.tmp 0), none⟩,
 ⟨(some 12), .conv .u32 (.tmp 11), none⟩,
 ⟨(some 13), .mv (.tmp 1), none⟩,
 ⟨(some 14), .conv .u32 (.tmp 13), none⟩,
 ⟨(some 15), .call 73 [(.tmp 12), (.tmp 14)], none⟩,
 ⟨(some 10), .mv (.tmp 15), none⟩,
 ⟨(some 16), .ext 0 (.tmp 10), none⟩,
 ⟨(some 17), .ext 1 (.tmp 10), none⟩,
 ⟨(some 6), .mv (.tmp 16), none⟩,
 ⟨(some 7), .mv (.tmp 17), none⟩])
 (.seq (.reg [⟨(some 18), .mv (.tmp 6), none⟩,
 ⟨(some 19), .conv .u64 (.tmp 18), none⟩,
 ⟨(some 20), .mv (.tmp 7), none⟩,
 ⟨(some 21), .conv .u64 (.tmp 20), none⟩,
 ⟨(some 4), .mv (.tmp 19), none⟩,
 ⟨(some 5), .mv (.tmp 21), none⟩])
 (.ret)))
 (.skip))
 (.seq (.reg [⟨(some 23), .mv (.tmp 0), none⟩,
 ⟨(some 24), .mv (.tmp 1), none⟩,
 ⟨(some 25), .call 74 [(.tmp 23), (.tmp 24)], none⟩,
 ⟨(some 22), .mv (.tmp 25), none⟩,
 ⟨(some 26), .ext 0 (.tmp 22), none⟩,
 ⟨(some 27), .ext 1 (.tmp 22), none⟩,
 ⟨(some 8), .mv (.tmp 26), none⟩,
 ⟨(some 9), .mv (.tmp 27), none⟩])
 (.seq (.reg [⟨(some 28), .mv (.tmp 8), none⟩,
 ⟨(some 29), .mv (.tmp 9), none⟩,
 ⟨(some 4), .mv (.tmp 28), none⟩,
 ⟨(some 5), .mv (.tmp 29), none⟩])
 (.ret))))
theorem k62 : fnOk Try.prog 62 = some (M62, [.t 4, .t 5], 30) := by kernel_rfl
/- bytes Repeat -/
def M38 : MC :=
  .seq (.reg [⟨(some 4), .mv (.const (.slice none 0 0)), none⟩])
 (.seq (.seq (.reg [⟨(some 12), .mv (.tmp 1), none⟩,
 ⟨(some 13), .bin .eql (.tmp 12) (.const (.int .i64 0)), none⟩])
 (.cond (.tmp 13)
 (.seq (.reg [⟨(some 14), .bslice 5 0 [] [], none⟩,
 ⟨(some 4), .mv (.tmp 14), none⟩])
 (.ret))
 (.skip)))
 (.seq (.seq (.reg [⟨(some 15), .mv (.tmp 1), none⟩,
 ⟨(some 16), .bin .lss (.tmp 15) (.const (.int .i64 0)), none⟩])
 (.cond (.tmp 16)
 (.reg [⟨(some 17), .bad, none⟩,
 ⟨none, .bad, none⟩])
 (.skip)))
 (.seq (.reg [⟨(some 19), .mv (.tmp 0), none⟩,
 ⟨(some 20), .len (.tmp 19), none⟩,
 ⟨(some 21), .conv .u64 (.tmp 20), none⟩,
 ⟨(some 22), .mv (.tmp 1), none⟩,
 ⟨(some 23), .conv .u64 (.tmp 22), none⟩,
 ⟨(some 24), .call 62 [(.tmp 21), (.tmp 23)], none⟩,
 ⟨(some 18), .mv (.tmp 24), none⟩,
 ⟨(some 25), .ext 0 (.tmp 18), none⟩,
 ⟨(some 26), .ext 1 (.tmp 18), none⟩,
 ⟨(some 5), .mv (.tmp 25), none⟩,
 ⟨(some 6), .mv (.tmp 26), none⟩])
 (.seq (.seq (.reg [⟨(some 27), .mv (.tmp 5), none⟩,
 ⟨(some 28), .bin .gtr (.tmp 27) (.const (.int .u64 0)), none⟩,
 ⟨(some 29), .mv (.tmp 28), none⟩,
 ⟨(some 30), .mv (.tmp 6), (some (29, false))⟩,
 ⟨(some 31), .bin .gtr (.tmp 30) (.const (.int .u64 9223372036854775807)), (some (29, false))⟩,
 ⟨(some 32), .pick (.tmp 29) (.const (.bool true)) (.tmp 31), none⟩])
 (.cond (.tmp 32)
 (.reg [⟨(some 33), .bad, none⟩,
 ⟨none, .bad, none⟩])
 (.skip)))
 (.seq (.reg [⟨(some 34), .mv (.tmp 6), none⟩,
 ⟨(some 35), .conv .i64 (.tmp 34), none⟩,
 ⟨(some 7), .mv (.tmp 35), none⟩])
 (.seq (.seq (.reg [⟨(some 36), .mv (.tmp 0), none⟩,
 ⟨(some 37), .len (.tmp 36), none⟩,
 ⟨(some 38), .bin .eql (.tmp 37) (.const (.int .i64 0)), none⟩])
 (.cond (.tmp 38)
 (.seq (.reg [⟨(some 39), .bslice 5 0 [] [], none⟩,
 ⟨(some 4), .mv (.tmp 39), none⟩])
 (.ret))
 (.skip)))
 (.seq (.reg [⟨(some 40), .mv (.tmp 7), none⟩,
 ⟨(some 8), .mv (.tmp 40), none⟩])
 (.seq (.seq (.reg [⟨(some 41), .mv (.tmp 8), none⟩,
 ⟨(some 42), .bin .gtr (.tmp 41) (.const (.int .i64 8192)), none⟩])
 (.cond (.tmp 42)
 (.seq (.reg [⟨(some 43), .mv (.tmp 0), none⟩,
 ⟨(some 44), .len (.tmp 43), none⟩,
 ⟨(some 45), .bin .quo (.const (.int .i64 8192)) (.tmp 44), none⟩,
 ⟨(some 46), .mv (.tmp 0), none⟩,
 ⟨(some 47), .len (.tmp 46), none⟩,
 ⟨(some 48), .bin .mul (.tmp 45) (.tmp 47), none⟩,
 ⟨(some 8), .mv (.tmp 48), none⟩])
 (.seq (.reg [⟨(some 49), .mv (.tmp 8), none⟩,
 ⟨(some 50), .bin .eql (.tmp 49) (.const (.int .i64 0)), none⟩])
 (.cond (.tmp 50)
 (.reg [⟨(some 51), .mv (.tmp 0), none⟩,
 ⟨(some 52), .len (.tmp 51), none⟩,
 ⟨(some 8), .mv (.tmp 52), none⟩])
 (.skip))))
 (.skip)))
 (.seq (.reg [⟨(some 53), .mv (.tmp 7), none⟩,
 ⟨(some 54), .mnz 5 (.tmp 53), none⟩,
 ⟨(some 55), .mv (.tmp 7), none⟩,
 ⟨(some 56), .mv (.tmp 7), none⟩,
 ⟨(some 57), .slc3 (.tmp 54) (.tmp 55) (.tmp 56), none⟩,
 ⟨(some 9), .mv (.tmp 57), none⟩])
 (.seq (.reg [⟨(some 58), .mv (.tmp 9), none⟩,
 ⟨(some 59), .mv (.tmp 0), none⟩,
 ⟨(some 60), .cpy 1 (.tmp 58) (.tmp 59), none⟩,
 ⟨(some 10), .mv (.tmp 60), none⟩])
 (.seq (.block 0 (.loop (.seq (.seq (.reg [⟨(some 61), .mv (.tmp 10), none⟩,
 ⟨(some 62), .mv (.tmp 7), none⟩,
 ⟨(some 63), .bin .lss (.tmp 61) (.tmp 62), none⟩])
 (.cond (.tmp 63)
 (.skip)
 (.exit 0)))
 (.block 1 (.seq (.reg [⟨(some 64), .mv (.tmp 10), none⟩,
 ⟨(some 65), .mv (.tmp 8), none⟩,
 ⟨(some 66), .mn (.tmp 64) (.tmp 65), none⟩,
 ⟨(some 11), .mv (.tmp 66), none⟩])
 (.any [(true, 0, [], ⟨(some 67), .mv (.tmp 10), none⟩),
 (true, 1, [], ⟨(some 68), .mv (.tmp 9), none⟩),
 (true, 2, [], ⟨(some 69), .mv (.tmp 10), none⟩),
 (true, 3, [], ⟨(some 70), .slc 1 (.tmp 68) (some (.tmp 69)) none, none⟩),
 (true, 4, [], ⟨(some 71), .mv (.tmp 9), none⟩),
 (false, 5, [0, 1, 2, 3, 4], ⟨(some 72), .mv (.tmp 11), none⟩),
 (false, 6, [0, 1, 2, 3], ⟨(some 73), .slc 1 (.tmp 71) none (some (.tmp 72)), none⟩),
 (false, 7, [0], ⟨(some 74), .cpy 1 (.tmp 70) (.tmp 73), none⟩),
 (false, 8, [], ⟨(some 75), .bin .add (.tmp 67) (.tmp 74), none⟩),
 (false, 9, [], ⟨(some 10), .mv (.tmp 75), none⟩)]))))))
 (.seq (.reg [⟨(some 76), .mv (.tmp 9), none⟩,
 ⟨(some 4), .mv (.tmp 76), none⟩])
 (.ret)))))))))))))
theorem k38 : fnOk Try.prog 38 = some (M38, [.t 4], 77) := by kernel_rfl

theorem c_Mul64s (x y : Int) (hx : 0 ≤ x ∧ x ≤ 65535) (hy : 0 ≤ y ∧ y ≤ 65535) (h : K (.tuple #[.int .u64 0, .int .u64 (x * y)]) H) : HCalls Try.prog w0 74 [.int .u64 x, .int .u64 y] H K := by
  have a1 := and_small x hx.1 hx.2
  have a2 := and_small y hy.1 hy.2
  have a3 := and_small 0 (by decide) (by decide)
  have fd : ∀ a : Int, a.fdiv 4294967296 = a / 4294967296 := fun a => Int.fdiv_eq_ediv_of_nonneg a (by omega)
  have d1 : x / 4294967296 = 0 := by omega
  have d2 : y / 4294967296 = 0 := by omega
  have hp : 0 ≤ x * y ∧ x * y ≤ 65535 * 65535 := ⟨Int.mul_nonneg hx.1 hy.1, Int.mul_le_mul hx.2 hy.2 hy.1 (by omega)⟩
  have z1 : ∀ a : Int, 0 * a = 0 := Int.zero_mul
  have z2 : ∀ a : Int, a * 0 = 0 := Int.mul_zero
  have w0' : IntKind.u64.wrap 0 = 0 := Bu.1 _ (by omega) (by omega)
  obtain ⟨p, ep⟩ : ∃ p, x * y = p := ⟨_, rfl⟩
  rw [ep] at hp h
  have w1 : IntKind.u64.wrap p = p := Bu.1 _ (by omega) (by omega)
  have d3 : p / 4294967296 = 0 := by omega
  have z3 : (0 : Int) / 4294967296 = 0 := by decide
  clear hx hy hp
  refine HL.hc k74 999 ?_; unfold M74
  (all_goals (try simp only [Sq,Sr,Sh,Si,Sl,Bu,Bb,Bd,Bc,Bw,Bn,Int.reduceAdd,Int.reduceSub,Int.reduceMul,Int.reduceTDiv,Int.reduceTMod,Int.reduceMod,Int.reduceDiv,Nat.reduceLT,Nat.reduceEqDiff,Sa,Sb,Sc,Sd,Se,Sf,Sg,Int.reduceLE,Int.reduceLT,Int.reduceToNat,Int.reduceNeg,Int.reduceEq,Nat.reduceLeDiff,Nat.reducePow,Int.reducePow,reduceIte,Nat.reduceSub,Nat.reduceAdd,Nat.reduceMul,putAt,ceq,List.replicate, *])); repeat' ((first | (with_reducible refine fun _ : True => ?_) | (with_reducible refine any_h ?_) | ((first | refine AllocQ_i ?_ | refine AllocO_i ?_); intro bk hb0 hbk; (try simp only [set_none'] at hbk)) | ((first | refine condS_i ?_ ?_ | refine pick_i ?_ ?_ | refine gS_it ?_ ?_ | refine gS_if ?_ ?_ | refine gP_it ?_ ?_ | refine gP_if ?_ ?_) <;> (intro hc; try simp only [Int.reduceLE,Int.reduceLT,Int.reduceEq,Sn] at hc)) | (with_reducible refine KP_i ?_ ?_; · (repeat' (first | exact Heap.Le.refl _ | (with_reducible refine Le_set2 ?_) | (refine Le_known (by first | (simp only [Heap.set_same, set_ne, ne_eq, not_false_eq_true, *] <;> rfl) | fail) ?_) | (refine Le_fresh (by first | (simp only [*] <;> done) | (simp [set_none', Heap.set_same, set_ne, noneH, *] <;> done) | fail) ?_) | (refine Heap.Le.trans ?_ (Grow.le (by assumption))) | exact Le_none | (refine Le_put ?_ (by first | (simp only [Heap.set_same, set_ne, ne_eq, not_false_eq_true, *] <;> rfl) | fail)) | fail))) | (with_reducible refine And.intro ?_ ?_)) <;> (try simp only [Sq,Sr,Sh,Si,Sl,Bu,Bb,Bd,Bc,Bw,Bn,Int.reduceAdd,Int.reduceSub,Int.reduceMul,Int.reduceTDiv,Int.reduceTMod,Int.reduceMod,Int.reduceDiv,Nat.reduceLT,Nat.reduceEqDiff,Sa,Sb,Sc,Sd,Se,Sf,Sg,Int.reduceLE,Int.reduceLT,Int.reduceToNat,Int.reduceNeg,Int.reduceEq,Nat.reduceLeDiff,Nat.reducePow,Int.reducePow,reduceIte,Nat.reduceSub,Nat.reduceAdd,Nat.reduceMul,putAt,ceq,List.replicate, *]))
  exact Fin_mk (by (repeat' (first | exact Heap.Le.refl _ | (with_reducible refine Le_set2 ?_) | (refine Le_known (by first | (simp only [Heap.set_same, set_ne, ne_eq, not_false_eq_true, *] <;> rfl) | fail) ?_) | (refine Le_fresh (by first | (simp only [*] <;> done) | (simp [set_none', Heap.set_same, set_ne, noneH, *] <;> done) | fail) ?_) | (refine Heap.Le.trans ?_ (Grow.le (by assumption))) | exact Le_none | (refine Le_put ?_ (by first | (simp only [Heap.set_same, set_ne, ne_eq, not_false_eq_true, *] <;> rfl) | fail)) | fail))) h
theorem c_Muls (x y : Int) (hx : 0 ≤ x ∧ x ≤ 65535) (hy : 0 ≤ y ∧ y ≤ 65535) (h : K (.tuple #[.int .u64 0, .int .u64 (x * y)]) H) : HCalls Try.prog w0 62 [.int .u64 x, .int .u64 y] H K := by
  have cM := fun (G : Heap) (K : Value → Heap → Prop) => c_Mul64s (w0 := w0) (H := G) (K := K) x y hx hy
  refine HL.hc k62 999 ?_; unfold M62
  (all_goals (try simp only [Sq,Sr,Sh,Si,Sl,Bu,Bb,Bd,Bc,Bw,Bn,Int.reduceAdd,Int.reduceSub,Int.reduceMul,Int.reduceTDiv,Int.reduceTMod,Int.reduceMod,Int.reduceDiv,Nat.reduceLT,Nat.reduceEqDiff,Sa,Sb,Sc,Sd,Se,Sf,Sg,Int.reduceLE,Int.reduceLT,Int.reduceToNat,Int.reduceNeg,Int.reduceEq,Nat.reduceLeDiff,Nat.reducePow,Int.reducePow,reduceIte,Nat.reduceSub,Nat.reduceAdd,Nat.reduceMul,putAt,ceq,List.replicate, *])); repeat' ((first | (with_reducible refine fun _ : True => ?_) | refine cM _ _ ?_ | (with_reducible refine any_h ?_) | ((first | refine AllocQ_i ?_ | refine AllocO_i ?_); intro bk hb0 hbk; (try simp only [set_none'] at hbk)) | ((first | refine condS_i ?_ ?_ | refine pick_i ?_ ?_ | refine gS_it ?_ ?_ | refine gS_if ?_ ?_ | refine gP_it ?_ ?_ | refine gP_if ?_ ?_) <;> (intro hc; try simp only [Int.reduceLE,Int.reduceLT,Int.reduceEq,Sn] at hc)) | (with_reducible refine KP_i ?_ ?_; · (repeat' (first | exact Heap.Le.refl _ | (with_reducible refine Le_set2 ?_) | (refine Le_known (by first | (simp only [Heap.set_same, set_ne, ne_eq, not_false_eq_true, *] <;> rfl) | fail) ?_) | (refine Le_fresh (by first | (simp only [*] <;> done) | (simp [set_none', Heap.set_same, set_ne, noneH, *] <;> done) | fail) ?_) | (refine Heap.Le.trans ?_ (Grow.le (by assumption))) | exact Le_none | (refine Le_put ?_ (by first | (simp only [Heap.set_same, set_ne, ne_eq, not_false_eq_true, *] <;> rfl) | fail)) | fail))) | (with_reducible refine And.intro ?_ ?_)) <;> (try simp only [Sq,Sr,Sh,Si,Sl,Bu,Bb,Bd,Bc,Bw,Bn,Int.reduceAdd,Int.reduceSub,Int.reduceMul,Int.reduceTDiv,Int.reduceTMod,Int.reduceMod,Int.reduceDiv,Nat.reduceLT,Nat.reduceEqDiff,Sa,Sb,Sc,Sd,Se,Sf,Sg,Int.reduceLE,Int.reduceLT,Int.reduceToNat,Int.reduceNeg,Int.reduceEq,Nat.reduceLeDiff,Nat.reducePow,Int.reducePow,reduceIte,Nat.reduceSub,Nat.reduceAdd,Nat.reduceMul,putAt,ceq,List.replicate, *]))
  exact Fin_mk (by (repeat' (first | exact Heap.Le.refl _ | (with_reducible refine Le_set2 ?_) | (refine Le_known (by first | (simp only [Heap.set_same, set_ne, ne_eq, not_false_eq_true, *] <;> rfl) | fail) ?_) | (refine Le_fresh (by first | (simp only [*] <;> done) | (simp [set_none', Heap.set_same, set_ne, noneH, *] <;> done) | fail) ?_) | (refine Heap.Le.trans ?_ (Grow.le (by assumption))) | exact Le_none | (refine Le_put ?_ (by first | (simp only [Heap.set_same, set_ne, ne_eq, not_false_eq_true, *] <;> rfl) | fail)) | fail))) h
theorem mnz_i {N : Nat} {e : TypeId} (h1 : N ≤ 65536) (h : ∀ (cs : List Value) b, N ≤ cs.length → w0.heap.size ≤ b → H b = none → K (.slice (some ⟨b, 0, none⟩) N cs.length) (H.set b ⟨.t e, cs⟩)) : mnzQ w0 H K e (.int .i64 (N : Int)) :=
  ⟨by omega, by omega, fun cs hc _ b hb hn => h cs b hc hb hn⟩
theorem cpy_blk {b o n c m xc k : Nat} {xa : Option Addr} {ty : Kd} {cells vs : List Value} (hk : Nat.min m n = k) (hb : G b = some ⟨ty, cells⟩) (hs : srd w0 G xa k = some vs) (h1 : vs.all Value.oneCell' = true) (hle : o + vs.length ≤ cells.length) (h : K (.int .i64 (k : Nat)) (G.set b ⟨ty, putAt cells o vs⟩)) :
    cpyQ w0 G K 1 (.slice (some ⟨b, o, none⟩) n c) (.slice xa m xc) := by
  unfold cpyQ
  subst hk
  simp only [Nat.mul_one, hs, optQ]
  unfold layQ
  by_cases hv : vs = []
  · subst hv
    rw [putAt_nil, Heap.set_id _ _ _ hb] at h
    rw [if_pos rfl]; exact h
  · rw [if_neg hv]
    simp only [hb, optQ, Nat.add_zero]
    exact ⟨h1, hle, h⟩
theorem putAt_take : ∀ (cs : List Value) (B : Nat) (vs : List Value), B + vs.length ≤ cs.length → (putAt cs B vs).take (B + vs.length) = cs.take B ++ vs
  | cs, B, vs, h => by
    have e : cs = cs.take B ++ cs.drop B := (List.take_append_drop B cs).symm
    have hl : (cs.take B).length = B := by rw [List.length_take]; omega
    conv => lhs; rw [e]
    have := putAt_end (cs.take B) vs (cs.drop B) (by rw [List.length_drop]; omega)
    rw [hl] at this
    rw [this]
    rw [show B + vs.length = (cs.take B ++ vs).length by rw [List.length_append, hl], List.take_left]
theorem srd_grow {a : Option Addr} {k : Nat} {cs : List Value} (g : Grow w0 H G) (h : srd w0 H a k = some cs) : srd w0 G a k = some cs := by
  unfold HL.srd at h ⊢
  split
  · rw [if_pos (by assumption)] at h; exact h
  · rw [if_neg (by assumption)] at h
    split at h <;> (try (cases h; done))
    exact g.rdn h (by omega)
theorem int_row (l : List Int) : (l.map (Value.int .u8)).all Value.oneCell' = true := by simp [Value.oneCell']
theorem c_Repeat (a : Option Addr) (c S n : Nat) (l : List Int) (hl : l.length = S) (hS : S = 1 ∨ S = 2 ∨ S = 4) (hn : 1 ≤ n ∧ n ≤ 4096) (hA : IntsAt w0 H .u8 a l)
    (h : ∀ b G, Grow w0 H G → IntsAt w0 G .u8 (some ⟨b, 0, none⟩) (repL l n) → K (.slice (some ⟨b, 0, none⟩) (n * S) (n * S)) G) : HCalls Try.prog w0 38 [.slice a S c, .int .i64 n] H K := by
  obtain ⟨N, eN⟩ : ∃ N, n * S = N := ⟨_, rfl⟩
  rw [eN] at h
  have hN : S ≤ N ∧ N ≤ 16384 := by
    subst eN
    refine ⟨Nat.le_mul_of_pos_left _ (by omega), ?_⟩
    have := Nat.mul_le_mul hn.2 (show S ≤ 4 by omega)
    omega
  have eX : (S : Int) * (n : Int) = (N : Int) := by rw [← eN, Nat.mul_comm]; simp
  have hS4 : 1 ≤ S ∧ S ≤ 4 := by omega
  have cM : ∀ (G : Heap) (K : Value → Heap → Prop), K (.tuple #[.int .u64 0, .int .u64 (N : Int)]) G → HCalls Try.prog w0 62 [.int .u64 S, .int .u64 n] G K := fun G K hk => c_Muls _ _ (by omega) (by omega) (by rw [eX]; exact hk)
  have w1 : IntKind.u64.wrap (S : Int) = S := Bu.1 _ (by omega) (by omega)
  have w2 : IntKind.u64.wrap (n : Int) = n := Bu.1 _ (by omega) (by omega)
  have w3 : IntKind.i64.wrap (N : Int) = N := Bw.1 _ (by omega) (by omega)
  have b1 : ¬ (n : Int) = 0 := by omega
  have b2 : ¬ (n : Int) < 0 := by omega
  have b3 : ¬ (S : Int) = 0 := by omega
  have b4 : ¬ (9223372036854775807 : Int) < (N : Int) := by omega
  have b5 : (0 : Int) ≤ (N : Int) := by omega
  have b6 : ¬ (8192 : Int) = 0 := by decide
  have q1 : IntKind.i64.wrap ((8192 : Int).tdiv S) * (S : Int) = 8192 := by rcases hS with rfl | rfl | rfl <;> decide
  have q2 : IntKind.i64.wrap 8192 = 8192 := by decide
  obtain ⟨M, eM⟩ : ∃ M : Nat, M = if 8192 < N then 8192 else N := ⟨_, rfl⟩
  have m1 : (8192 : Int) < (N : Int) → M = 8192 := fun h => by rw [eM, if_pos (by omega)]
  have m2 : ¬ (8192 : Int) < (N : Int) → M = N := fun h => by rw [eM, if_neg (by omega)]
  have hM : ∃ k, M = k * S ∧ 1 ≤ k := by
    rw [eM]
    split
    · rcases hS with rfl | rfl | rfl
      · exact ⟨8192, rfl, by decide⟩
      · exact ⟨4096, rfl, by decide⟩
      · exact ⟨2048, rfl, by decide⟩
    · exact ⟨n, eN.symm, hn.1⟩
  obtain ⟨mk, eMk, hmk⟩ := hM
  have q1' : Keep _ := q1
  have m1' : Keep _ := m1
  have m2' : Keep _ := m2
  clear q1 m1 m2
  have hR : (repL l n).length = N := by rw [repL_len, hl, eN]
  have hint : ∀ (G : Heap) b (cs : List Value), G b = some ⟨.t 5, cs⟩ → cs.take N = (repL l n).map (.int .u8) → IntsAt w0 G .u8 (some ⟨b, 0, none⟩) (repL l n) := fun G b cs hb hc => SlAt.toInts (by rw [← hc]; exact SlAt.blk (z := cs.drop N) (by rw [List.take_append_drop]; exact hb))
  have eN1 : (N : Int).toNat = N := rfl
  have s0 : srd w0 H a S = some (l.map (.int .u8)) := by have := (SlAt.ints hA).srd; rw [List.length_map, hl] at this; exact this
  have hall := int_row l
  have hln : (l.map (Value.int .u8)).length = S := by rw [List.length_map, hl]
  have hmn : Nat.min S N = S := Nat.min_eq_left hN.1
  have ht0 : ((repL l n).map (Value.int .u8)).take S = l.map (.int .u8) := by
    rw [← List.map_take]
    have := repL_take l 1 n hn.1
    rw [Nat.one_mul, hl] at this
    rw [this]; simp [repL]
  obtain ⟨R, eR⟩ : ∃ R : List Value, (repL l n).map (.int .u8) = R := ⟨_, rfl⟩
  have hRl : R.length = N := by rw [← eR, List.length_map, hR]
  have hRa : ∀ k, (R.take k).all Value.oneCell' = true := fun k => by rw [← eR, ← List.map_take]; exact int_row _
  have hRp : ∀ j k, j ≤ n → j * S + k ≤ N → R.take (j * S + k) = R.take (j * S) ++ R.take k := fun j k hj hk => by
    have e1 : R.drop (j * S) = (repL l (n - j)).map (.int .u8) := by rw [← eR, ← List.map_drop, ← hl, repL_drop l j n hj]
    have e2 : n = (n - j) + j := by omega
    have hk2 : k ≤ (n - j) * S := by rw [Nat.sub_mul, eN]; omega
    have e3 : (R.drop (j * S)).take k = R.take k := by
      rw [e1, ← eR, ← List.map_take, ← List.map_take]
      conv => rhs; rw [e2, repL_add, List.take_append_of_le_length (by rw [repL_len, hl]; exact hk2)]
    rw [← e3, ← List.take_add]
  rw [eR] at ht0
  rw [eR] at hint
  have h' : Keep _ := h
  clear h hA hS
  have wN : IntKind.i64.wrap (N : Int) = N := w3
  by_cases hc : (8192 : Int) < (N : Int)
  all_goals
    first
      | (have hM1 := kp m1' hc)
      | (have hM1 := kp m2' hc)
    have q1 := kp q1'
    refine HL.hc k38 999 ?_; unfold M38
    (all_goals (try simp only [Sq,Sr,Sh,Si,Sl,Bu,Bb,Bd,Bc,Bw,Bn,Int.reduceAdd,Int.reduceSub,Int.reduceMul,Int.reduceTDiv,Int.reduceTMod,Int.reduceMod,Int.reduceDiv,Nat.reduceLT,Nat.reduceEqDiff,Sa,Sb,Sc,Sd,Se,Sf,Sg,Int.reduceLE,Int.reduceLT,Int.reduceToNat,Int.reduceNeg,Int.reduceEq,Nat.reduceLeDiff,Nat.reducePow,Int.reducePow,reduceIte,Nat.reduceSub,Nat.reduceAdd,Nat.reduceMul,putAt,ceq,List.replicate, *])); repeat' ((first | (with_reducible refine fun _ : True => ?_) | refine cM _ _ ?_ | (with_reducible refine any_h ?_) | ((first | refine AllocQ_i ?_ | refine AllocO_i ?_); intro bk hb0 hbk; (try simp only [set_none'] at hbk)) | ((first | refine condS_i ?_ ?_ | refine pick_i ?_ ?_ | refine gS_it ?_ ?_ | refine gS_if ?_ ?_ | refine gP_it ?_ ?_ | refine gP_if ?_ ?_) <;> (intro hc; try simp only [Int.reduceLE,Int.reduceLT,Int.reduceEq,Sn] at hc)) | (with_reducible refine KP_i ?_ ?_; · (repeat' (first | exact Heap.Le.refl _ | (with_reducible refine Le_set2 ?_) | (refine Le_known (by first | (simp only [Heap.set_same, set_ne, ne_eq, not_false_eq_true, *] <;> rfl) | fail) ?_) | (refine Le_fresh (by first | (simp only [*] <;> done) | (simp [set_none', Heap.set_same, set_ne, noneH, *] <;> done) | fail) ?_) | (refine Heap.Le.trans ?_ (Grow.le (by assumption))) | exact Le_none | (refine Le_put ?_ (by first | (simp only [Heap.set_same, set_ne, ne_eq, not_false_eq_true, *] <;> rfl) | fail)) | fail))) | (with_reducible refine And.intro ?_ ?_)) <;> (try simp only [Sq,Sr,Sh,Si,Sl,Bu,Bb,Bd,Bc,Bw,Bn,Int.reduceAdd,Int.reduceSub,Int.reduceMul,Int.reduceTDiv,Int.reduceTMod,Int.reduceMod,Int.reduceDiv,Nat.reduceLT,Nat.reduceEqDiff,Sa,Sb,Sc,Sd,Se,Sf,Sg,Int.reduceLE,Int.reduceLT,Int.reduceToNat,Int.reduceNeg,Int.reduceEq,Nat.reduceLeDiff,Nat.reducePow,Int.reducePow,reduceIte,Nat.reduceSub,Nat.reduceAdd,Nat.reduceMul,putAt,ceq,List.replicate, *]))
    refine mnz_i (by omega) fun cs b hcs hb0 hbk => ?_
    have hcs' : (N : Int) ≤ (cs.length : Int) := by omega
    have le1 : (N : Int) ≤ (N : Int) := Int.le_refl _
    first
      | (have hM2 : (M : Int) = 8192 := by omega)
      | (have hM2 : (M : Int) = (N : Int) := by omega)
    clear q1
    (all_goals (try simp only [Sq,Sr,Sh,Si,Sl,Bu,Bb,Bd,Bc,Bw,Bn,Int.reduceAdd,Int.reduceSub,Int.reduceMul,Int.reduceTDiv,Int.reduceTMod,Int.reduceMod,Int.reduceDiv,Nat.reduceLT,Nat.reduceEqDiff,Sa,Sb,Sc,Sd,Se,Sf,Sg,Int.reduceLE,Int.reduceLT,Int.reduceToNat,Int.reduceNeg,Int.reduceEq,Nat.reduceLeDiff,Nat.reducePow,Int.reducePow,reduceIte,Nat.reduceSub,Nat.reduceAdd,Nat.reduceMul,putAt,ceq,List.replicate, *])); repeat' ((first | (with_reducible refine fun _ : True => ?_) | (with_reducible refine any_h ?_) | ((first | refine AllocQ_i ?_ | refine AllocO_i ?_); intro bk hb0 hbk; (try simp only [set_none'] at hbk)) | ((first | refine condS_i ?_ ?_ | refine pick_i ?_ ?_ | refine gS_it ?_ ?_ | refine gS_if ?_ ?_ | refine gP_it ?_ ?_ | refine gP_if ?_ ?_) <;> (intro hc; try simp only [Int.reduceLE,Int.reduceLT,Int.reduceEq,Sn] at hc)) | (with_reducible refine KP_i ?_ ?_; · (repeat' (first | exact Heap.Le.refl _ | (with_reducible refine Le_set2 ?_) | (refine Le_known (by first | (simp only [Heap.set_same, set_ne, ne_eq, not_false_eq_true, *] <;> rfl) | fail) ?_) | (refine Le_fresh (by first | (simp only [*] <;> done) | (simp [set_none', Heap.set_same, set_ne, noneH, *] <;> done) | fail) ?_) | (refine Heap.Le.trans ?_ (Grow.le (by assumption))) | exact Le_none | (refine Le_put ?_ (by first | (simp only [Heap.set_same, set_ne, ne_eq, not_false_eq_true, *] <;> rfl) | fail)) | fail))) | (with_reducible refine And.intro ?_ ?_)) <;> (try simp only [Sq,Sr,Sh,Si,Sl,Bu,Bb,Bd,Bc,Bw,Bn,Int.reduceAdd,Int.reduceSub,Int.reduceMul,Int.reduceTDiv,Int.reduceTMod,Int.reduceMod,Int.reduceDiv,Nat.reduceLT,Nat.reduceEqDiff,Sa,Sb,Sc,Sd,Se,Sf,Sg,Int.reduceLE,Int.reduceLT,Int.reduceToNat,Int.reduceNeg,Int.reduceEq,Nat.reduceLeDiff,Nat.reducePow,Int.reducePow,reduceIte,Nat.reduceSub,Nat.reduceAdd,Nat.reduceMul,putAt,ceq,List.replicate, *]))
    refine cpy_blk (b := b) (o := 0) hmn (Heap.set_same _ _ _) (srd_grow (Grow.set (Grow.refl _) hb0 hbk) s0) hall (by rw [hln]; omega) ?_
    (all_goals (try simp only [Sq,Sr,Sh,Si,Sl,Bu,Bb,Bd,Bc,Bw,Bn,Int.reduceAdd,Int.reduceSub,Int.reduceMul,Int.reduceTDiv,Int.reduceTMod,Int.reduceMod,Int.reduceDiv,Nat.reduceLT,Nat.reduceEqDiff,Sa,Sb,Sc,Sd,Se,Sf,Sg,Int.reduceLE,Int.reduceLT,Int.reduceToNat,Int.reduceNeg,Int.reduceEq,Nat.reduceLeDiff,Nat.reducePow,Int.reducePow,reduceIte,Nat.reduceSub,Nat.reduceAdd,Nat.reduceMul,putAt,ceq,List.replicate, *])); repeat' ((first | (with_reducible refine fun _ : True => ?_) | (with_reducible refine any_h ?_) | ((first | refine AllocQ_i ?_ | refine AllocO_i ?_); intro bk hb0 hbk; (try simp only [set_none'] at hbk)) | ((first | refine condS_i ?_ ?_ | refine pick_i ?_ ?_ | refine gS_it ?_ ?_ | refine gS_if ?_ ?_ | refine gP_it ?_ ?_ | refine gP_if ?_ ?_) <;> (intro hc; try simp only [Int.reduceLE,Int.reduceLT,Int.reduceEq,Sn] at hc)) | (with_reducible refine KP_i ?_ ?_; · (repeat' (first | exact Heap.Le.refl _ | (with_reducible refine Le_set2 ?_) | (refine Le_known (by first | (simp only [Heap.set_same, set_ne, ne_eq, not_false_eq_true, *] <;> rfl) | fail) ?_) | (refine Le_fresh (by first | (simp only [*] <;> done) | (simp [set_none', Heap.set_same, set_ne, noneH, *] <;> done) | fail) ?_) | (refine Heap.Le.trans ?_ (Grow.le (by assumption))) | exact Le_none | (refine Le_put ?_ (by first | (simp only [Heap.set_same, set_ne, ne_eq, not_false_eq_true, *] <;> rfl) | fail)) | fail))) | (with_reducible refine And.intro ?_ ?_)) <;> (try simp only [Sq,Sr,Sh,Si,Sl,Bu,Bb,Bd,Bc,Bw,Bn,Int.reduceAdd,Int.reduceSub,Int.reduceMul,Int.reduceTDiv,Int.reduceTMod,Int.reduceMod,Int.reduceDiv,Nat.reduceLT,Nat.reduceEqDiff,Sa,Sb,Sc,Sd,Se,Sf,Sg,Int.reduceLE,Int.reduceLT,Int.reduceToNat,Int.reduceNeg,Int.reduceEq,Nat.reduceLeDiff,Nat.reducePow,Int.reducePow,reduceIte,Nat.reduceSub,Nat.reduceAdd,Nat.reduceMul,putAt,ceq,List.replicate, *]))
    have hst : (putAt cs 0 (l.map (.int .u8))).take S = R.take S := by
      have := putAt_take cs 0 (l.map (.int .u8)) (by rw [hln]; omega)
      rw [hln, Nat.zero_add, List.take_zero, List.nil_append] at this
      rw [this, ht0]
    refine loop_g 61 (fun s : Nat × List Value × Value => [(10, .int .i64 (s.1 : Nat)), (11, s.2.2)]) (fun s => H.set b ⟨.t 5, s.2.1⟩) (fun s => (∃ j, s.1 = j * S ∧ 1 ≤ j ∧ j ≤ n) ∧ s.2.1.length = cs.length ∧ s.2.1.take s.1 = R.take s.1) (fun s => N - s.1) (S, putAt cs 0 (l.map (.int .u8)), undef) ⟨⟨1, by simp, by omega, hn.1⟩, by rw [putAt_length], hst⟩ (Heap.Le.refl _) rfl ?_
    intro ⟨B, cells, u⟩ f ⟨⟨j, ej, hj1, hjn⟩, hcl, hct⟩
    simp only at ej hj1 hjn hcl hct
    have hBN : B ≤ N := by rw [ej, ← eN]; exact Nat.mul_le_mul_right _ hjn
    rcases Nat.lt_or_ge B N with hlt | hge
    · have t1 : (B : Int) < (N : Int) := by omega
      obtain ⟨ch, hch⟩ : ∃ ch, ch = min B M := ⟨_, rfl⟩
      obtain ⟨m, hm⟩ : ∃ m, m = min ch (N - B) := ⟨_, rfl⟩
      have hmB : m ≤ B ∧ B + m ≤ N ∧ m ≤ ch := by omega
      have t2 : (if (M : Int) < (B : Int) then (M : Int) else (B : Int)) = (ch : Int) := by split <;> omega
      rw [hM2] at t2
      have t3 : Nat.min ch (N - B) = m := hm.symm
      have t4 : (B : Int).toNat = B := rfl
      have t5 : (ch : Int).toNat = ch := rfl
      have t6 : ¬ N = B := by omega
      have t7 : B * 1 = B := Nat.mul_one B
      have t8 : (0 : Int) ≤ (B : Int) := by omega
      have t9 : (B : Int) ≤ (N : Int) := by omega
      have t10 : (0 : Int) ≤ (ch : Int) := by omega
      have t11 : (ch : Int) ≤ (N : Int) := by omega
      have t12 : IntKind.i64.wrap ((B : Int) + (m : Int)) = ((B + m : Nat) : Int) := by rw [Bw.1 _ (by omega) (by omega)]; simp
      have hml : (R.take m).length = m := by rw [List.length_take, hRl]; omega
      have hcm : cells.take m = R.take m := by
        have := congrArg (List.take m) hct
        rw [List.take_take, List.take_take, Nat.min_eq_left hmB.1] at this
        exact this
      have hmS : ∃ i, m = i * S ∧ 1 ≤ i := by
        have e1 : N - B = (n - j) * S := by rw [Nat.sub_mul, eN, ej]
        have e2 : n - j ≠ 0 := fun e => by rw [e] at e1; omega
        have e3 : ∀ a b : Nat, min (a * S) (b * S) = min a b * S := fun a b => (Nat.mul_min_mul_right a b S)
        rw [hm, hch, e1, ej, eMk, e3, e3]
        exact ⟨_, rfl, by omega⟩
      obtain ⟨i, hi, hi1⟩ := hmS
      have hs : srd w0 (H.set b ⟨.t 5, cells⟩) (some ⟨b, 0, none⟩) m = some (R.take m) := by
        have hx : cells = R.take m ++ cells.drop m := by rw [← hcm, List.take_append_drop]
        have := (SlAt.blk (w0 := w0) (H := H.set b ⟨.t 5, cells⟩) (b := b) (t := 5) (cs := R.take m) (z := cells.drop m) (by rw [Heap.set_same, ← hx])).srd
        rw [hml] at this; exact this
      have nxt : (putAt cells B (R.take m)).take (B + m) = R.take (B + m) := by
        have := putAt_take cells B (R.take m) (by rw [hml]; omega)
        rw [hml] at this
        rw [this, hct, ej, hRp j m hjn (by rw [← ej]; omega)]
      have jn : j + i ≤ n := by
        have : (j + i) * S ≤ n * S := by rw [Nat.add_mul, ← hi, ← ej, eN]; omega
        exact Nat.le_of_mul_le_mul_right this (by omega)
      have hm1 : 1 ≤ m := by rw [hi]; exact Nat.mul_pos (by omega) (by omega)
      have okj : B + m = (j + i) * S := by rw [Nat.add_mul, ← hi, ← ej]
      clear hint h' hRp ht0 hall hln hmn hRl hct hcm hst cM s0 hR ej hi hm hch
      replace okj : Keep _ := okj
      (all_goals (try simp only [Sq,Sr,Sh,Si,Sl,Bu,Bb,Bd,Bc,Bw,Bn,Int.reduceAdd,Int.reduceSub,Int.reduceMul,Int.reduceTDiv,Int.reduceTMod,Int.reduceMod,Int.reduceDiv,Nat.reduceLT,Nat.reduceEqDiff,Sa,Sb,Sc,Sd,Se,Sf,Sg,Int.reduceLE,Int.reduceLT,Int.reduceToNat,Int.reduceNeg,Int.reduceEq,Nat.reduceLeDiff,Nat.reducePow,Int.reducePow,reduceIte,Nat.reduceSub,Nat.reduceAdd,Nat.reduceMul,putAt,ceq,List.replicate, *])); repeat' ((first | (with_reducible refine fun _ : True => ?_) | ((first | refine AllocQ_i ?_ | refine AllocO_i ?_); intro bk hb0 hbk; (try simp only [set_none'] at hbk)) | ((first | refine condS_i ?_ ?_ | refine pick_i ?_ ?_ | refine gS_it ?_ ?_ | refine gS_if ?_ ?_ | refine gP_it ?_ ?_ | refine gP_if ?_ ?_) <;> (intro hc; try simp only [Int.reduceLE,Int.reduceLT,Int.reduceEq,Sn] at hc)) | (with_reducible refine KP_i ?_ ?_; · (repeat' (first | exact Heap.Le.refl _ | (with_reducible refine Le_set2 ?_) | (refine Le_known (by first | (simp only [Heap.set_same, set_ne, ne_eq, not_false_eq_true, *] <;> rfl) | fail) ?_) | (refine Le_fresh (by first | (simp only [*] <;> done) | (simp [set_none', Heap.set_same, set_ne, noneH, *] <;> done) | fail) ?_) | (refine Heap.Le.trans ?_ (Grow.le (by assumption))) | exact Le_none | (refine Le_put ?_ (by first | (simp only [Heap.set_same, set_ne, ne_eq, not_false_eq_true, *] <;> rfl) | fail)) | fail))) | (with_reducible refine And.intro ?_ ?_)) <;> (try simp only [Sq,Sr,Sh,Si,Sl,Bu,Bb,Bd,Bc,Bw,Bn,Int.reduceAdd,Int.reduceSub,Int.reduceMul,Int.reduceTDiv,Int.reduceTMod,Int.reduceMod,Int.reduceDiv,Nat.reduceLT,Nat.reduceEqDiff,Sa,Sb,Sc,Sd,Se,Sf,Sg,Int.reduceLE,Int.reduceLT,Int.reduceToNat,Int.reduceNeg,Int.reduceEq,Nat.reduceLeDiff,Nat.reducePow,Int.reducePow,reduceIte,Nat.reduceSub,Nat.reduceAdd,Nat.reduceMul,putAt,ceq,List.replicate, *]))
      refine any_sub noneH Le_none ?_
      (all_goals (try simp only [Sq,Sr,Sh,Si,Sl,Bu,Bb,Bd,Bc,Bw,Bn,Int.reduceAdd,Int.reduceSub,Int.reduceMul,Int.reduceTDiv,Int.reduceTMod,Int.reduceMod,Int.reduceDiv,Nat.reduceLT,Nat.reduceEqDiff,Sa,Sb,Sc,Sd,Se,Sf,Sg,Int.reduceLE,Int.reduceLT,Int.reduceToNat,Int.reduceNeg,Int.reduceEq,Nat.reduceLeDiff,Nat.reducePow,Int.reducePow,reduceIte,Nat.reduceSub,Nat.reduceAdd,Nat.reduceMul,putAt,ceq,List.replicate, *])); repeat' ((first | (with_reducible refine fun _ : True => ?_) | (with_reducible refine any_h ?_) | ((first | refine AllocQ_i ?_ | refine AllocO_i ?_); intro bk hb0 hbk; (try simp only [set_none'] at hbk)) | ((first | refine condS_i ?_ ?_ | refine pick_i ?_ ?_ | refine gS_it ?_ ?_ | refine gS_if ?_ ?_ | refine gP_it ?_ ?_ | refine gP_if ?_ ?_) <;> (intro hc; try simp only [Int.reduceLE,Int.reduceLT,Int.reduceEq,Sn] at hc)) | (with_reducible refine KP_i ?_ ?_; · (repeat' (first | exact Heap.Le.refl _ | (with_reducible refine Le_set2 ?_) | (refine Le_known (by first | (simp only [Heap.set_same, set_ne, ne_eq, not_false_eq_true, *] <;> rfl) | fail) ?_) | (refine Le_fresh (by first | (simp only [*] <;> done) | (simp [set_none', Heap.set_same, set_ne, noneH, *] <;> done) | fail) ?_) | (refine Heap.Le.trans ?_ (Grow.le (by assumption))) | exact Le_none | (refine Le_put ?_ (by first | (simp only [Heap.set_same, set_ne, ne_eq, not_false_eq_true, *] <;> rfl) | fail)) | fail))) | (with_reducible refine And.intro ?_ ?_)) <;> (try simp only [Sq,Sr,Sh,Si,Sl,Bu,Bb,Bd,Bc,Bw,Bn,Int.reduceAdd,Int.reduceSub,Int.reduceMul,Int.reduceTDiv,Int.reduceTMod,Int.reduceMod,Int.reduceDiv,Nat.reduceLT,Nat.reduceEqDiff,Sa,Sb,Sc,Sd,Se,Sf,Sg,Int.reduceLE,Int.reduceLT,Int.reduceToNat,Int.reduceNeg,Int.reduceEq,Nat.reduceLeDiff,Nat.reducePow,Int.reducePow,reduceIte,Nat.reduceSub,Nat.reduceAdd,Nat.reduceMul,putAt,ceq,List.replicate, *]))
      refine cpy_blk (b := b) (o := B) t3 (Heap.set_same _ _ _) hs (hRa m) (by rw [hml]; omega) ?_
      (all_goals (try simp only [Sq,Sr,Sh,Si,Sl,Bu,Bb,Bd,Bc,Bw,Bn,Int.reduceAdd,Int.reduceSub,Int.reduceMul,Int.reduceTDiv,Int.reduceTMod,Int.reduceMod,Int.reduceDiv,Nat.reduceLT,Nat.reduceEqDiff,Sa,Sb,Sc,Sd,Se,Sf,Sg,Int.reduceLE,Int.reduceLT,Int.reduceToNat,Int.reduceNeg,Int.reduceEq,Nat.reduceLeDiff,Nat.reducePow,Int.reducePow,reduceIte,Nat.reduceSub,Nat.reduceAdd,Nat.reduceMul,putAt,ceq,List.replicate, *])); repeat' ((first | (with_reducible refine fun _ : True => ?_) | (with_reducible refine any_h ?_) | ((first | refine AllocQ_i ?_ | refine AllocO_i ?_); intro bk hb0 hbk; (try simp only [set_none'] at hbk)) | ((first | refine condS_i ?_ ?_ | refine pick_i ?_ ?_ | refine gS_it ?_ ?_ | refine gS_if ?_ ?_ | refine gP_it ?_ ?_ | refine gP_if ?_ ?_) <;> (intro hc; try simp only [Int.reduceLE,Int.reduceLT,Int.reduceEq,Sn] at hc)) | (with_reducible refine KP_i ?_ ?_; · (repeat' (first | exact Heap.Le.refl _ | (with_reducible refine Le_set2 ?_) | (refine Le_known (by first | (simp only [Heap.set_same, set_ne, ne_eq, not_false_eq_true, *] <;> rfl) | fail) ?_) | (refine Le_fresh (by first | (simp only [*] <;> done) | (simp [set_none', Heap.set_same, set_ne, noneH, *] <;> done) | fail) ?_) | (refine Heap.Le.trans ?_ (Grow.le (by assumption))) | exact Le_none | (refine Le_put ?_ (by first | (simp only [Heap.set_same, set_ne, ne_eq, not_false_eq_true, *] <;> rfl) | fail)) | fail))) | (with_reducible refine And.intro ?_ ?_)) <;> (try simp only [Sq,Sr,Sh,Si,Sl,Bu,Bb,Bd,Bc,Bw,Bn,Int.reduceAdd,Int.reduceSub,Int.reduceMul,Int.reduceTDiv,Int.reduceTMod,Int.reduceMod,Int.reduceDiv,Nat.reduceLT,Nat.reduceEqDiff,Sa,Sb,Sc,Sd,Se,Sf,Sg,Int.reduceLE,Int.reduceLT,Int.reduceToNat,Int.reduceNeg,Int.reduceEq,Nat.reduceLeDiff,Nat.reducePow,Int.reducePow,reduceIte,Nat.reduceSub,Nat.reduceAdd,Nat.reduceMul,putAt,ceq,List.replicate, *]))
      exact Round_mk (B + m, putAt cells B (R.take m), _) ⟨⟨j + i, kp okj, by omega, jn⟩, by simp only; rw [putAt_length]; exact hcl, nxt⟩ (by simp only; omega) (Heap.Le.refl _) rfl rfl
    · clear ej
      obtain rfl : N = B := by omega
      have t1 : ¬ (N : Int) < (N : Int) := by omega
      have fin := kp h' b (H.set b ⟨.t 5, cells⟩) (Grow.set (Grow.refl _) hb0 hbk) (hint _ _ _ (Heap.set_same _ _ _) (by rw [hct, ← hRl, List.take_length]))
      clear hint h' hRp ht0 hall hln hmn hRl hct hst cM s0 hR
      (all_goals (try simp only [Sq,Sr,Sh,Si,Sl,Bu,Bb,Bd,Bc,Bw,Bn,Int.reduceAdd,Int.reduceSub,Int.reduceMul,Int.reduceTDiv,Int.reduceTMod,Int.reduceMod,Int.reduceDiv,Nat.reduceLT,Nat.reduceEqDiff,Sa,Sb,Sc,Sd,Se,Sf,Sg,Int.reduceLE,Int.reduceLT,Int.reduceToNat,Int.reduceNeg,Int.reduceEq,Nat.reduceLeDiff,Nat.reducePow,Int.reducePow,reduceIte,Nat.reduceSub,Nat.reduceAdd,Nat.reduceMul,putAt,ceq,List.replicate, *])); repeat' ((first | (with_reducible refine fun _ : True => ?_) | (with_reducible refine any_h ?_) | ((first | refine AllocQ_i ?_ | refine AllocO_i ?_); intro bk hb0 hbk; (try simp only [set_none'] at hbk)) | ((first | refine condS_i ?_ ?_ | refine pick_i ?_ ?_ | refine gS_it ?_ ?_ | refine gS_if ?_ ?_ | refine gP_it ?_ ?_ | refine gP_if ?_ ?_) <;> (intro hc; try simp only [Int.reduceLE,Int.reduceLT,Int.reduceEq,Sn] at hc)) | (with_reducible refine KP_i ?_ ?_; · (repeat' (first | exact Heap.Le.refl _ | (with_reducible refine Le_set2 ?_) | (refine Le_known (by first | (simp only [Heap.set_same, set_ne, ne_eq, not_false_eq_true, *] <;> rfl) | fail) ?_) | (refine Le_fresh (by first | (simp only [*] <;> done) | (simp [set_none', Heap.set_same, set_ne, noneH, *] <;> done) | fail) ?_) | (refine Heap.Le.trans ?_ (Grow.le (by assumption))) | exact Le_none | (refine Le_put ?_ (by first | (simp only [Heap.set_same, set_ne, ne_eq, not_false_eq_true, *] <;> rfl) | fail)) | fail))) | (with_reducible refine And.intro ?_ ?_)) <;> (try simp only [Sq,Sr,Sh,Si,Sl,Bu,Bb,Bd,Bc,Bw,Bn,Int.reduceAdd,Int.reduceSub,Int.reduceMul,Int.reduceTDiv,Int.reduceTMod,Int.reduceMod,Int.reduceDiv,Nat.reduceLT,Nat.reduceEqDiff,Sa,Sb,Sc,Sd,Se,Sf,Sg,Int.reduceLE,Int.reduceLT,Int.reduceToNat,Int.reduceNeg,Int.reduceEq,Nat.reduceLeDiff,Nat.reducePow,Int.reducePow,reduceIte,Nat.reduceSub,Nat.reduceAdd,Nat.reduceMul,putAt,ceq,List.replicate, *]))
      exact Fin_mk (Heap.Le.refl _) fin
end Go.Proofs.Ytdaipgnhconfnaa
