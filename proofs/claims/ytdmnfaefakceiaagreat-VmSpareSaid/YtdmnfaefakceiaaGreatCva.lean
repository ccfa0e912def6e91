/- Numbers converted, by the program (layer 18). -/
import Derived.Test.YtdmnfaefakceiaaGreatVda
set_option linter.unusedSimpArgs false
set_option linter.unusedVariables false
set_option maxRecDepth 100000
set_option maxHeartbeats 4000000
namespace Go.Proofs.YtdmnfaefakceiaaGreat
open Go.HL Go.RowKit Pb
variable {w0 : World} {H G : Heap} {K : Value → Heap → Prop}

theorem raw_of (x : Int) : raw (cut x (-65536) 65536 * 65536) = raw (x * 65536) := by unfold raw cut; (repeat' split) <;> omega
theorem raw_hi {x : Int} (h : 40000 < x) : raw (x * 65536) = 2147483647 := by unfold raw; (repeat' split) <;> omega
theorem raw_lo {x : Int} (h : x < -40000) : raw (x * 65536) = -2147483648 := by unfold raw; (repeat' split) <;> omega
def cvt (f t x : Int) : Int := if f = t then x else if t = 3 then (if x = 0 then 0 else 1) else if t = 2 then (if f = 3 then x else x.tdiv 65536) else if f = 3 then (if x = 0 then 0 else 65536) else raw (x * 65536)
theorem w64_32 {x : Int} (h : I32 x) : IntKind.i64.wrap x = x := h.w64
theorem tdiv_in {x : Int} (h : I32 x) : I32 (x.tdiv 65536) := by
  unfold I32 at *
  rcases Int.le_total 0 x with h0 | h0
  · rw [Int.tdiv_eq_ediv_of_nonneg h0]; omega
  · have e : x.tdiv 65536 = -((-x).tdiv 65536) := by rw [Int.neg_tdiv, Int.neg_neg]
    rw [e, Int.tdiv_eq_ediv_of_nonneg (by omega)]; omega
/- fix cut[int] -/
def M70 : MC :=
  .seq (.reg [oX 6 (.mv (kX 0))])
 (.seq (.reg [vX 7 0,
 vX 8 1,
 oX 9 (.mx (.tmp 7) (.tmp 8)),
 vX 10 2,
 oX 11 (.mn (.tmp 9) (.tmp 10)),
 vX 6 11])
 (.ret))
theorem k70 : fnOk Tryz.prog 70 = some (M70, [.t 6], 12) := by kernel_rfl
/- fix Of -/
def M38 : MC :=
  .seq (.reg [oX 2 (.mv (.const (.int .i32 0)))])
 (.seq (.reg [vX 3 0,
 oX 4 (.call 70 [(.tmp 3),(kX (-65536)),(kX 65536)]),
 oX 5 (.bin .shl (.tmp 4) (.const (.int .u64 16))),
 oX 6 (.call 69 [(.tmp 5)]),
 vX 2 6])
 (.ret))
theorem k38 : fnOk Tryz.prog 38 = some (M38, [.t 2], 7) := by kernel_rfl
/- paintbox/vm Convert 1 -/
def M34 : MC :=
  .seq (.reg [oX 2 (.mv (.const (.bool false)))])
 (.seq (.reg [vX 3 0,
 oX 4 (bK .geq 3 1),
 vX 5 4,
 ⟨(some 6),.mv (.tmp 0),(some (5,true))⟩,
 ⟨(some 7),bK .leq 6 3,(some (5,true))⟩,
 oX 8 (.pick (.tmp 5) (.tmp 7) (.const (.bool false))),
 vX 2 8])
 (.ret))
theorem k34 : fnOk Tryz.prog 34 = some (M34, [.t 2], 9) := by kernel_rfl
/- paintbox/vm Convert 2 -/
def M36 : MC :=
  .seq (.reg [oX 4 (.mv (.const (.int .i32 0)))])
 (.seq (.block 0 (.seq (.reg [oX 6 (.ld1 (.tmp 1)),
 oX 7 (.ld1 (.tmp 2)),
 oX 8 (bX .eql 6 7),
 vX 5 8])
 (.cond (.tmp 5)
 (.seq (.reg [vX 9 0,
 vX 4 9])
 (.ret))
 (.seq (.reg [oX 11 (.ld1 (.tmp 2)),
 oX 12 (bK .eql 11 3),
 vX 10 12])
 (.cond (.tmp 10)
 (.seq (.reg [vX 13 0,
 oX 14 (.bin .neq (.tmp 13) (.const (.int .i32 0))),
 oX 15 (.call 37 [(.tmp 14)]),
 vX 4 15])
 (.ret))
 (.seq (.reg [oX 17 (.ld1 (.tmp 2)),
 oX 18 (bK .eql 17 1),
 vX 19 18,
 ⟨(some 20),.ld1 (.tmp 1),(some (19,true))⟩,
 ⟨(some 21),bK .eql 20 3,(some (19,true))⟩,
 oX 22 (.pick (.tmp 19) (.tmp 21) (.const (.bool false))),
 vX 16 22])
 (.cond (.tmp 16)
 (.seq (.reg [vX 23 0,
 oX 24 (.bin .neq (.tmp 23) (.const (.int .i32 0))),
 oX 25 (.call 37 [(.tmp 24)]),
 oX 26 (.bin .mul (.tmp 25) (.const (.int .i32 65536))),
 vX 4 26])
 (.ret))
 (.seq (.reg [oX 28 (.ld1 (.tmp 2)),
 oX 29 (bK .eql 28 1),
 vX 27 29])
 (.cond (.tmp 27)
 (.seq (.reg [vX 30 0,
 oX 31 (.conv .i64 (.tmp 30)),
 oX 32 (.call 38 [(.tmp 31)]),
 vX 4 32])
 (.ret))
 (.seq (.reg [oX 34 (.ld1 (.tmp 1)),
 oX 35 (bK .eql 34 1),
 vX 33 35])
 (.cond (.tmp 33)
 (.seq (.reg [vX 36 0,
 oX 37 (.bin .quo (.tmp 36) (.const (.int .i32 65536))),
 vX 4 37])
 (.ret))
 (.skip))))))))))))
 (.seq (.reg [vX 38 0,
 vX 4 38])
 (.ret)))
theorem k36 : fnOk Tryz.prog 36 = some (M36, [.t 4], 39) := by kernel_rfl
/- paintbox/vm Convert -/
def M20 : MC :=
  .seq (.reg [oX 4 (.box 3 (.tmp 0)),
 oX 5 (.box 3 (.tmp 1)),
 oX 7 (.box 28 (.tmp 3)),
 oX 8 (.alloc 28 [(.int .i32 0),(.int .i32 0),(.int .i32 0),(.int .i32 0)]),
 oX 9 (.mv (kX 0))])
 (.seq (.reg [oX 10 (.mv (.func 34))])
 (.seq (.seq (.reg [vX 11 10,
 oX 12 (.ld1 (.tmp 4)),
 oX 13 (.yv (.tmp 11) [(.tmp 12)]),
 oX 14 (.un .not (.tmp 13)),
 vX 15 14,
 ⟨(some 16),.mv (.tmp 10),(some (15,false))⟩,
 ⟨(some 17),.ld1 (.tmp 5),(some (15,false))⟩,
 ⟨(some 18),.yv (.tmp 16) [(.tmp 17)],(some (15,false))⟩,
 ⟨(some 19),.un .not (.tmp 18),(some (15,false))⟩,
 oX 20 (.pick (.tmp 15) (.const (.bool true)) (.tmp 19)),
 vX 21 20,
 ⟨(some 22),.mv (.tmp 2),(some (21,false))⟩,
 ⟨(some 23),bK .lss 22 1,(some (21,false))⟩,
 oX 24 (.pick (.tmp 21) (.const (.bool true)) (.tmp 23)),
 vX 25 24,
 ⟨(some 26),.mv (.tmp 2),(some (25,false))⟩,
 ⟨(some 27),bK .gtr 26 4,(some (25,false))⟩,
 oX 28 (.pick (.tmp 25) (.const (.bool true)) (.tmp 27))])
 (.cond (.tmp 28)
 (.seq (.reg [oX 29 (.build [(.int .i32 0),(.int .i32 0),(.int .i32 0),(.int .i32 0)] []),
 ⟨none,.stn 4 (.tmp 8) (.tmp 29),none⟩,
 oX 9 (.mv (kX 2))])
 (.ret))
 (.skip)))
 (.seq (.reg [vX 30 2,
 oX 31 (.ldn 4 (.tmp 7)),
 oX 32 (.fn 36 [(.tmp 4),(.tmp 5)]),
 oX 33 (.call 35 [(.tmp 30),(.tmp 31),(.tmp 32)]),
 oX 34 (.ext 0 (.tmp 33)),
 oX 35 (.ext 1 (.tmp 33)),
 ⟨none,.stn 4 (.tmp 8) (.tmp 34),none⟩,
 vX 9 35])
 (.ret))))
theorem k20 : fnOk Tryz.prog 20 = some (M20, [.cn 4 8, .t 9], 36) := by kernel_rfl

theorem c_cutI (a b c : Int) (h : K (.int .i64 (cut a b c)) H) : HCalls Tryz.prog w0 70 [.int .i64 a, .int .i64 b, .int .i64 c] H K := by
  refine HL.hc k70 999 ?_; unfold M70
  (all_goals (try simp only [S0,putAt,List.replicate,Int.reduceAdd,Int.reduceSub,Int.reduceMul,Int.reduceTDiv,Int.reduceTMod,Int.reduceMod,Int.reduceDiv,Nat.reduceLT,Nat.reduceEqDiff,Int.reduceLE,Int.reduceLT,Int.reduceToNat,Int.reduceNeg,Int.reduceEq,Nat.reduceLeDiff,Nat.reducePow,Int.reducePow,reduceIte,Nat.reduceSub,Nat.reduceAdd,Nat.reduceMul, *])); repeat' ((first | (with_reducible refine fun _ : True => ?_) | (with_reducible refine any_h ?_) | ((first | refine AllocQ_i ?_ | refine AllocO_i ?_); intro bk hb0 hbk; (try simp only [set_none'] at hbk)) | ((first | refine condS_i ?_ ?_ | refine pick_i ?_ ?_ | refine gS_it ?_ ?_ | refine gS_if ?_ ?_ | refine gP_it ?_ ?_ | refine gP_if ?_ ?_) <;> (intro hc; try simp only [Int.reduceLE,Int.reduceLT,Int.reduceEq,Sn] at hc)) | (with_reducible refine KP_i ?_ ?_; · exact aL) | (with_reducible refine And.intro ?_ ?_)) <;> (try simp only [S0,putAt,List.replicate,Int.reduceAdd,Int.reduceSub,Int.reduceMul,Int.reduceTDiv,Int.reduceTMod,Int.reduceMod,Int.reduceDiv,Nat.reduceLT,Nat.reduceEqDiff,Int.reduceLE,Int.reduceLT,Int.reduceToNat,Int.reduceNeg,Int.reduceEq,Nat.reduceLeDiff,Nat.reducePow,Int.reducePow,reduceIte,Nat.reduceSub,Nat.reduceAdd,Nat.reduceMul, *]))
  exact Fin_mk (Heap.Le.refl _) h
theorem c_Of (x : Int) (h : K (.int .i32 (raw (x * 65536))) H) : HCalls Tryz.prog w0 38 [.int .i64 x] H K := by
  rw [← raw_of] at h
  have hw : IntKind.i64.wrap (cut x (-65536) 65536 * 65536) = cut x (-65536) 65536 * 65536 := Bw.1 _ (by unfold cut; (repeat' split) <;> omega) (by unfold cut; (repeat' split) <;> omega)
  replace h : Keep _ := h
  refine HL.hc k38 999 ?_; unfold M38
  (all_goals (try simp only [S0,putAt,List.replicate,Int.reduceAdd,Int.reduceSub,Int.reduceMul,Int.reduceTDiv,Int.reduceTMod,Int.reduceMod,Int.reduceDiv,Nat.reduceLT,Nat.reduceEqDiff,Int.reduceLE,Int.reduceLT,Int.reduceToNat,Int.reduceNeg,Int.reduceEq,Nat.reduceLeDiff,Nat.reducePow,Int.reducePow,reduceIte,Nat.reduceSub,Nat.reduceAdd,Nat.reduceMul, *])); repeat' ((first | (with_reducible refine fun _ : True => ?_) | refine c_cutI _ _ _ ?_ | refine c_Raw _ ?_ | (with_reducible refine any_h ?_) | ((first | refine AllocQ_i ?_ | refine AllocO_i ?_); intro bk hb0 hbk; (try simp only [set_none'] at hbk)) | ((first | refine condS_i ?_ ?_ | refine pick_i ?_ ?_ | refine gS_it ?_ ?_ | refine gS_if ?_ ?_ | refine gP_it ?_ ?_ | refine gP_if ?_ ?_) <;> (intro hc; try simp only [Int.reduceLE,Int.reduceLT,Int.reduceEq,Sn] at hc)) | (with_reducible refine KP_i ?_ ?_; · exact aL) | (with_reducible refine And.intro ?_ ?_)) <;> (try simp only [S0,putAt,List.replicate,Int.reduceAdd,Int.reduceSub,Int.reduceMul,Int.reduceTDiv,Int.reduceTMod,Int.reduceMod,Int.reduceDiv,Nat.reduceLT,Nat.reduceEqDiff,Int.reduceLE,Int.reduceLT,Int.reduceToNat,Int.reduceNeg,Int.reduceEq,Nat.reduceLeDiff,Nat.reducePow,Int.reducePow,reduceIte,Nat.reduceSub,Nat.reduceAdd,Nat.reduceMul, *]))
  exact Fin_mk (Heap.Le.refl _) h
theorem c_Cv2 (f t x : Int) (hf : f = 1 ∨ f = 2 ∨ f = 3) (ht : t = 1 ∨ t = 2 ∨ t = 3) (hx : I32 x) {b1 b2 : Nat} (h1 : HL.rd1 w0 H b1 0 = some (.int .i64 f)) (h2 : HL.rd1 w0 H b2 0 = some (.int .i64 t)) (h : K (.int .i32 (cvt f t x)) H) :
    HCalls Tryz.prog w0 36 [.int .i32 x, .pointer (some ⟨b1, 0, none⟩), .pointer (some ⟨b2, 0, none⟩)] H K := by
  have hw := w64_32 hx
  have hq : IntKind.i32.wrap (x.tdiv 65536) = x.tdiv 65536 := w32_in (tdiv_in hx)
  have hm : IntKind.i32.wrap 65536 = 65536 := rfl
  have hz : IntKind.i32.wrap 0 = 0 := rfl
  unfold cvt at h
  by_cases e0 : x = 0
  · subst e0
    clear hx hw hq
    rcases hf with rfl | rfl | rfl <;> rcases ht with rfl | rfl | rfl
    all_goals simp only [Int.reduceEq, if_true, if_false, reduceIte, Int.zero_mul, Int.zero_tdiv] at h
    all_goals refine HL.hc k36 999 ?_; unfold M36
    all_goals (all_goals (try simp only [S0,putAt,List.replicate,Int.reduceAdd,Int.reduceSub,Int.reduceMul,Int.reduceTDiv,Int.reduceTMod,Int.reduceMod,Int.reduceDiv,Nat.reduceLT,Nat.reduceEqDiff,Int.reduceLE,Int.reduceLT,Int.reduceToNat,Int.reduceNeg,Int.reduceEq,Nat.reduceLeDiff,Nat.reducePow,Int.reducePow,reduceIte,Nat.reduceSub,Nat.reduceAdd,Nat.reduceMul, *])); repeat' ((first | (with_reducible refine fun _ : True => ?_) | refine c_truth _ ?_ | refine c_Of _ ?_ | (with_reducible refine any_h ?_) | ((first | refine AllocQ_i ?_ | refine AllocO_i ?_); intro bk hb0 hbk; (try simp only [set_none'] at hbk)) | ((first | refine condS_i ?_ ?_ | refine pick_i ?_ ?_ | refine gS_it ?_ ?_ | refine gS_if ?_ ?_ | refine gP_it ?_ ?_ | refine gP_if ?_ ?_) <;> (intro hc; try simp only [Int.reduceLE,Int.reduceLT,Int.reduceEq,Sn] at hc)) | (with_reducible refine KP_i ?_ ?_; · exact aL) | (with_reducible refine And.intro ?_ ?_)) <;> (try simp only [S0,putAt,List.replicate,Int.reduceAdd,Int.reduceSub,Int.reduceMul,Int.reduceTDiv,Int.reduceTMod,Int.reduceMod,Int.reduceDiv,Nat.reduceLT,Nat.reduceEqDiff,Int.reduceLE,Int.reduceLT,Int.reduceToNat,Int.reduceNeg,Int.reduceEq,Nat.reduceLeDiff,Nat.reducePow,Int.reducePow,reduceIte,Nat.reduceSub,Nat.reduceAdd,Nat.reduceMul, *]))
    all_goals exact Fin_mk (Heap.Le.refl _) h
  · simp only [if_neg e0] at h
    clear hx
    rcases hf with rfl | rfl | rfl <;> rcases ht with rfl | rfl | rfl
    all_goals simp only [Int.reduceEq, if_true, if_false, reduceIte] at h
    all_goals refine HL.hc k36 999 ?_; unfold M36
    all_goals (all_goals (try simp only [S0,putAt,List.replicate,Int.reduceAdd,Int.reduceSub,Int.reduceMul,Int.reduceTDiv,Int.reduceTMod,Int.reduceMod,Int.reduceDiv,Nat.reduceLT,Nat.reduceEqDiff,Int.reduceLE,Int.reduceLT,Int.reduceToNat,Int.reduceNeg,Int.reduceEq,Nat.reduceLeDiff,Nat.reducePow,Int.reducePow,reduceIte,Nat.reduceSub,Nat.reduceAdd,Nat.reduceMul, *])); repeat' ((first | (with_reducible refine fun _ : True => ?_) | refine c_truth _ ?_ | refine c_Of _ ?_ | (with_reducible refine any_h ?_) | ((first | refine AllocQ_i ?_ | refine AllocO_i ?_); intro bk hb0 hbk; (try simp only [set_none'] at hbk)) | ((first | refine condS_i ?_ ?_ | refine pick_i ?_ ?_ | refine gS_it ?_ ?_ | refine gS_if ?_ ?_ | refine gP_it ?_ ?_ | refine gP_if ?_ ?_) <;> (intro hc; try simp only [Int.reduceLE,Int.reduceLT,Int.reduceEq,Sn] at hc)) | (with_reducible refine KP_i ?_ ?_; · exact aL) | (with_reducible refine And.intro ?_ ?_)) <;> (try simp only [S0,putAt,List.replicate,Int.reduceAdd,Int.reduceSub,Int.reduceMul,Int.reduceTDiv,Int.reduceTMod,Int.reduceMod,Int.reduceDiv,Nat.reduceLT,Nat.reduceEqDiff,Int.reduceLE,Int.reduceLT,Int.reduceToNat,Int.reduceNeg,Int.reduceEq,Nat.reduceLeDiff,Nat.reducePow,Int.reducePow,reduceIte,Nat.reduceSub,Nat.reduceAdd,Nat.reduceMul, *]))
    all_goals exact Fin_mk (Heap.Le.refl _) h
theorem c_base1 (x : Int) (h : K (.bool (decide (1 ≤ x) && decide (x ≤ 3))) H) : HCalls Tryz.prog w0 34 [.int .i64 x] H K := by
  by_cases h1 : 1 ≤ x
  · rw [decide_eq_true h1, Bool.true_and] at h
    refine HL.hc k34 999 ?_; unfold M34
    (all_goals (try simp only [S0,putAt,List.replicate,Int.reduceAdd,Int.reduceSub,Int.reduceMul,Int.reduceTDiv,Int.reduceTMod,Int.reduceMod,Int.reduceDiv,Nat.reduceLT,Nat.reduceEqDiff,Int.reduceLE,Int.reduceLT,Int.reduceToNat,Int.reduceNeg,Int.reduceEq,Nat.reduceLeDiff,Nat.reducePow,Int.reducePow,reduceIte,Nat.reduceSub,Nat.reduceAdd,Nat.reduceMul, *])); repeat' ((first | (with_reducible refine fun _ : True => ?_) | (with_reducible refine any_h ?_) | ((first | refine AllocQ_i ?_ | refine AllocO_i ?_); intro bk hb0 hbk; (try simp only [set_none'] at hbk)) | ((first | refine condS_i ?_ ?_ | refine pick_i ?_ ?_ | refine gS_it ?_ ?_ | refine gS_if ?_ ?_ | refine gP_it ?_ ?_ | refine gP_if ?_ ?_) <;> (intro hc; try simp only [Int.reduceLE,Int.reduceLT,Int.reduceEq,Sn] at hc)) | (with_reducible refine KP_i ?_ ?_; · exact aL) | (with_reducible refine And.intro ?_ ?_)) <;> (try simp only [S0,putAt,List.replicate,Int.reduceAdd,Int.reduceSub,Int.reduceMul,Int.reduceTDiv,Int.reduceTMod,Int.reduceMod,Int.reduceDiv,Nat.reduceLT,Nat.reduceEqDiff,Int.reduceLE,Int.reduceLT,Int.reduceToNat,Int.reduceNeg,Int.reduceEq,Nat.reduceLeDiff,Nat.reducePow,Int.reducePow,reduceIte,Nat.reduceSub,Nat.reduceAdd,Nat.reduceMul, *]))
    exact Fin_mk (Heap.Le.refl _) h
  · rw [decide_eq_false h1, Bool.false_and] at h
    refine HL.hc k34 999 ?_; unfold M34
    (all_goals (try simp only [S0,putAt,List.replicate,Int.reduceAdd,Int.reduceSub,Int.reduceMul,Int.reduceTDiv,Int.reduceTMod,Int.reduceMod,Int.reduceDiv,Nat.reduceLT,Nat.reduceEqDiff,Int.reduceLE,Int.reduceLT,Int.reduceToNat,Int.reduceNeg,Int.reduceEq,Nat.reduceLeDiff,Nat.reducePow,Int.reducePow,reduceIte,Nat.reduceSub,Nat.reduceAdd,Nat.reduceMul, *])); repeat' ((first | (with_reducible refine fun _ : True => ?_) | (with_reducible refine any_h ?_) | ((first | refine AllocQ_i ?_ | refine AllocO_i ?_); intro bk hb0 hbk; (try simp only [set_none'] at hbk)) | ((first | refine condS_i ?_ ?_ | refine pick_i ?_ ?_ | refine gS_it ?_ ?_ | refine gS_if ?_ ?_ | refine gP_it ?_ ?_ | refine gP_if ?_ ?_) <;> (intro hc; try simp only [Int.reduceLE,Int.reduceLT,Int.reduceEq,Sn] at hc)) | (with_reducible refine KP_i ?_ ?_; · exact aL) | (with_reducible refine And.intro ?_ ?_)) <;> (try simp only [S0,putAt,List.replicate,Int.reduceAdd,Int.reduceSub,Int.reduceMul,Int.reduceTDiv,Int.reduceTMod,Int.reduceMod,Int.reduceDiv,Nat.reduceLT,Nat.reduceEqDiff,Int.reduceLE,Int.reduceLT,Int.reduceToNat,Int.reduceNeg,Int.reduceEq,Nat.reduceLeDiff,Nat.reducePow,Int.reducePow,reduceIte,Nat.reduceSub,Nat.reduceAdd,Nat.reduceMul, *]))
    exact Fin_mk (Heap.Le.refl _) h
/-- May numbers be converted? -/
def cvOk (f t n : Int) : Prop := (f = 1 ∨ f = 2 ∨ f = 3) ∧ (t = 1 ∨ t = 2 ∨ t = 3) ∧ (n = 1 ∨ n = 2 ∨ n = 3 ∨ n = 4)
theorem base_yes {x : Int} (h : x = 1 ∨ x = 2 ∨ x = 3) : (decide (1 ≤ x) && decide (x ≤ 3)) = true := by
  rw [decide_eq_true (by omega), decide_eq_true (by omega)]; rfl
theorem c_vOneD (f : FuncId) (fs cs : Array Value) (r x y : Int) {b : Nat} (h1 : HL.rd1 w0 H b 0 = some (.func (.func f) fs cs)) (hf : ∀ (K' : Value → Heap → Prop), K' (.int .i32 r) H → HCalls Tryz.prog w0 f (fs.toList ++ [.int .i32 x] ++ cs.toList) H K')
    (h : K (.int .i32 r) H) : HCalls Tryz.prog w0 68 [.int .i32 x, .int .i32 y, .pointer (some ⟨b, 0, none⟩)] H K := by
  replace hf : Keep _ := hf
  refine HL.hc k68 999 ?_; unfold M68
  (all_goals (try simp only [S0,putAt,List.replicate,Int.reduceAdd,Int.reduceSub,Int.reduceMul,Int.reduceTDiv,Int.reduceTMod,Int.reduceMod,Int.reduceDiv,Nat.reduceLT,Nat.reduceEqDiff,Int.reduceLE,Int.reduceLT,Int.reduceToNat,Int.reduceNeg,Int.reduceEq,Nat.reduceLeDiff,Nat.reducePow,Int.reducePow,reduceIte,Nat.reduceSub,Nat.reduceAdd,Nat.reduceMul, *])); repeat' ((first | (with_reducible refine fun _ : True => ?_) | refine hf _ ?_ | (with_reducible refine any_h ?_) | ((first | refine AllocQ_i ?_ | refine AllocO_i ?_); intro bk hb0 hbk; (try simp only [set_none'] at hbk)) | ((first | refine condS_i ?_ ?_ | refine pick_i ?_ ?_ | refine gS_it ?_ ?_ | refine gS_if ?_ ?_ | refine gP_it ?_ ?_ | refine gP_if ?_ ?_) <;> (intro hc; try simp only [Int.reduceLE,Int.reduceLT,Int.reduceEq,Sn] at hc)) | (with_reducible refine KP_i ?_ ?_; · exact aL) | (with_reducible refine And.intro ?_ ?_)) <;> (try simp only [S0,putAt,List.replicate,Int.reduceAdd,Int.reduceSub,Int.reduceMul,Int.reduceTDiv,Int.reduceTMod,Int.reduceMod,Int.reduceDiv,Nat.reduceLT,Nat.reduceEqDiff,Int.reduceLE,Int.reduceLT,Int.reduceToNat,Int.reduceNeg,Int.reduceEq,Nat.reduceLeDiff,Nat.reducePow,Int.reducePow,reduceIte,Nat.reduceSub,Nat.reduceAdd,Nat.reduceMul, *]))
  exact Fin_mk (Heap.Le.refl _) h
theorem c_vOneC (n : Int) (f : FuncId) (fs cs : Array Value) (a g : Nat → Int) (hn : n = 1 ∨ n = 2 ∨ n = 3 ∨ n = 4) (hf : ∀ (i : Nat) (G : Heap) (K' : Value → Heap → Prop), i < 4 → Grow w0 H G → K' (.int .i32 (g i)) G → HCalls Tryz.prog w0 f (fs.toList ++ [.int .i32 (a i)] ++ cs.toList) G K')
    (h : K (.tuple #[VV (fst n g), .int .i64 0]) H) : HCalls Tryz.prog w0 35 [.int .i64 n, VV a, .func (.func f) fs cs] H K := by
  replace h : Keep _ := h
  replace hf : Keep _ := hf
  refine HL.hc k35 999 ?_; unfold M35
  (all_goals (try simp only [S0,putAt,List.replicate,Int.reduceAdd,Int.reduceSub,Int.reduceMul,Int.reduceTDiv,Int.reduceTMod,Int.reduceMod,Int.reduceDiv,Nat.reduceLT,Nat.reduceEqDiff,Int.reduceLE,Int.reduceLT,Int.reduceToNat,Int.reduceNeg,Int.reduceEq,Nat.reduceLeDiff,Nat.reducePow,Int.reducePow,reduceIte,Nat.reduceSub,Nat.reduceAdd,Nat.reduceMul, *])); repeat' ((first | (with_reducible refine fun _ : True => ?_) | (with_reducible refine any_h ?_) | ((first | refine AllocQ_i ?_ | refine AllocO_i ?_); intro bk hb0 hbk; (try simp only [set_none'] at hbk)) | ((first | refine condS_i ?_ ?_ | refine pick_i ?_ ?_ | refine gS_it ?_ ?_ | refine gS_if ?_ ?_ | refine gP_it ?_ ?_ | refine gP_if ?_ ?_) <;> (intro hc; try simp only [Int.reduceLE,Int.reduceLT,Int.reduceEq,Sn] at hc)) | (with_reducible refine KP_i ?_ ?_; · exact aL) | (with_reducible refine And.intro ?_ ?_)) <;> (try simp only [S0,putAt,List.replicate,Int.reduceAdd,Int.reduceSub,Int.reduceMul,Int.reduceTDiv,Int.reduceTMod,Int.reduceMod,Int.reduceDiv,Nat.reduceLT,Nat.reduceEqDiff,Int.reduceLE,Int.reduceLT,Int.reduceToNat,Int.reduceNeg,Int.reduceEq,Nat.reduceLeDiff,Nat.reducePow,Int.reducePow,reduceIte,Nat.reduceSub,Nat.reduceAdd,Nat.reduceMul, *]))
  rename_i ba ha0 han bf hf0 hfn
  refine c_vEach _ _ _ _ a a g hn (fun i G K' hi hg hk => ?_) ?_
  · refine c_vOneD f fs cs (g i) _ _ (rd1_b (hg.some (b := bf) aA)) (fun K2 hk2 => ?_) hk
    refine (show ∀ (i : Nat) (G : Heap) (K' : Value → Heap → Prop), i < 4 → Grow w0 H G → K' (.int .i32 (g i)) G → HCalls Tryz.prog w0 f (fs.toList ++ [.int .i32 (a i)] ++ cs.toList) G K' from hf) i G K2 hi ?_ hk2
    exact Grow.trans aG hg
  · simp only [S0,putAt,List.replicate,Int.reduceAdd,Int.reduceSub,Int.reduceMul,Int.reduceTDiv,Int.reduceTMod,Int.reduceMod,Int.reduceDiv,Nat.reduceLT,Nat.reduceEqDiff,Int.reduceLE,Int.reduceLT,Int.reduceToNat,Int.reduceNeg,Int.reduceEq,Nat.reduceLeDiff,Nat.reducePow,Int.reducePow,reduceIte,Nat.reduceSub,Nat.reduceAdd,Nat.reduceMul, *]
    exact Fin_mk aL h
theorem c_Convert (f t n : Int) (a : Nat → Int) (ha : ∀ i, I32 (a i)) (hok : cvOk f t n) (h : K (.tuple #[VV (fst n fun i => cvt f t (a i)), .int .i64 0]) H) : HCalls Tryz.prog w0 20 [.int .i64 f, .int .i64 t, .int .i64 n, VV a] H K := by
  obtain ⟨hf, ht, hn⟩ := hok
  have i1 := fun (x : Int) (hx : x = 1 ∨ x = 2 ∨ x = 3) (G : Heap) (K : Value → Heap → Prop) (hk : K (.bool true) G) => c_base1 (w0 := w0) (H := G) (K := K) x (by rw [base_yes hx]; exact hk)
  have i2 := i1 f hf
  have i3 := i1 t ht
  have n1 : ¬ n < 1 := by omega
  have n2 : ¬ 4 < n := by omega
  clear i1
  replace h : Keep _ := h
  replace i2 : Keep _ := i2
  replace i3 : Keep _ := i3
  replace hf : Keep _ := hf
  replace ht : Keep _ := ht
  replace hn : Keep _ := hn
  refine HL.hc k20 999 ?_; unfold M20
  (all_goals (try simp only [S0,putAt,List.replicate,Int.reduceAdd,Int.reduceSub,Int.reduceMul,Int.reduceTDiv,Int.reduceTMod,Int.reduceMod,Int.reduceDiv,Nat.reduceLT,Nat.reduceEqDiff,Int.reduceLE,Int.reduceLT,Int.reduceToNat,Int.reduceNeg,Int.reduceEq,Nat.reduceLeDiff,Nat.reducePow,Int.reducePow,reduceIte,Nat.reduceSub,Nat.reduceAdd,Nat.reduceMul, *])); repeat' ((first | (with_reducible refine fun _ : True => ?_) | refine i2 _ _ ?_ | refine i3 _ _ ?_ | (with_reducible refine any_h ?_) | ((first | refine AllocQ_i ?_ | refine AllocO_i ?_); intro bk hb0 hbk; (try simp only [set_none'] at hbk)) | ((first | refine condS_i ?_ ?_ | refine pick_i ?_ ?_ | refine gS_it ?_ ?_ | refine gS_if ?_ ?_ | refine gP_it ?_ ?_ | refine gP_if ?_ ?_) <;> (intro hc; try simp only [Int.reduceLE,Int.reduceLT,Int.reduceEq,Sn] at hc)) | (with_reducible refine KP_i ?_ ?_; · exact aL) | (with_reducible refine And.intro ?_ ?_)) <;> (try simp only [S0,putAt,List.replicate,Int.reduceAdd,Int.reduceSub,Int.reduceMul,Int.reduceTDiv,Int.reduceTMod,Int.reduceMod,Int.reduceDiv,Nat.reduceLT,Nat.reduceEqDiff,Int.reduceLE,Int.reduceLT,Int.reduceToNat,Int.reduceNeg,Int.reduceEq,Nat.reduceLeDiff,Nat.reducePow,Int.reducePow,reduceIte,Nat.reduceSub,Nat.reduceAdd,Nat.reduceMul, *]))
  rename_i b1 hb1 hn1 b2 hb2 hn2 b3 hb3 hn3
  refine c_vOneC n _ #[] #[.pointer (some ⟨b1, 0, none⟩), .pointer (some ⟨b2, 0, none⟩)] a (fun i => cvt f t (a i)) hn (fun i G K' hi hg hk => ?_) ?_
  · exact c_Cv2 f t _ hf ht (ha i) (rd1_b (hg.some (b := b1) aA)) (rd1_b (hg.some (b := b2) aA)) hk
  · (all_goals (try simp only [S0,putAt,List.replicate,Int.reduceAdd,Int.reduceSub,Int.reduceMul,Int.reduceTDiv,Int.reduceTMod,Int.reduceMod,Int.reduceDiv,Nat.reduceLT,Nat.reduceEqDiff,Int.reduceLE,Int.reduceLT,Int.reduceToNat,Int.reduceNeg,Int.reduceEq,Nat.reduceLeDiff,Nat.reducePow,Int.reducePow,reduceIte,Nat.reduceSub,Nat.reduceAdd,Nat.reduceMul, *])); repeat' ((first | (with_reducible refine fun _ : True => ?_) | (with_reducible refine any_h ?_) | ((first | refine AllocQ_i ?_ | refine AllocO_i ?_); intro bk hb0 hbk; (try simp only [set_none'] at hbk)) | ((first | refine condS_i ?_ ?_ | refine pick_i ?_ ?_ | refine gS_it ?_ ?_ | refine gS_if ?_ ?_ | refine gP_it ?_ ?_ | refine gP_if ?_ ?_) <;> (intro hc; try simp only [Int.reduceLE,Int.reduceLT,Int.reduceEq,Sn] at hc)) | (with_reducible refine KP_i ?_ ?_; · exact aL) | (with_reducible refine And.intro ?_ ?_)) <;> (try simp only [S0,putAt,List.replicate,Int.reduceAdd,Int.reduceSub,Int.reduceMul,Int.reduceTDiv,Int.reduceTMod,Int.reduceMod,Int.reduceDiv,Nat.reduceLT,Nat.reduceEqDiff,Int.reduceLE,Int.reduceLT,Int.reduceToNat,Int.reduceNeg,Int.reduceEq,Nat.reduceLeDiff,Nat.reducePow,Int.reducePow,reduceIte,Nat.reduceSub,Nat.reduceAdd,Nat.reduceMul, *]))
    exact Fin_mk aL h
end Go.Proofs.YtdmnfaefakceiaaGreat
