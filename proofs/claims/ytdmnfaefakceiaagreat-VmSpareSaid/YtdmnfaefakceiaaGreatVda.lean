/- Operations of vectors, the small functions (layer 18). -/
import Derived.Test.YtdmnfaefakceiaaGreatDmc
import Derived.Test.YtdmnfaefakceiaaGreatVdr
set_option linter.unusedSimpArgs false
set_option linter.unusedVariables false
set_option maxRecDepth 100000
set_option maxHeartbeats 4000000
namespace Go.Proofs.YtdmnfaefakceiaaGreat
open Go.HL Go.RowKit Pb
variable {w0 : World} {H G : Heap} {K : Value → Heap → Prop}

def wI (fn x y : Int) : Int := if fn = 24 then w32 (x + y) else if fn = 25 then w32 (x - y) else if fn = 26 then w32 (x * y) else if fn = 27 then (if y = 0 then 0 else w32 (x.tdiv y)) else w32 (-x)
theorem w32_I (n : Int) : I32 (w32 n) := by unfold w32 I32; have := IntKind.wrap_i32 n; simp only [IntKind.wrap, IntKind.bits, IntKind.signed] at this ⊢; omega
theorem aV {P Q : Prop} (k : Q) (h : Q → P := by (intro kk; ((all_goals (try simp only [S0,putAt,List.replicate,Int.reduceAdd,Int.reduceSub,Int.reduceMul,Int.reduceTDiv,Int.reduceTMod,Int.reduceMod,Int.reduceDiv,Nat.reduceLT,Nat.reduceEqDiff,Int.reduceLE,Int.reduceLT,Int.reduceToNat,Int.reduceNeg,Int.reduceEq,Nat.reduceLeDiff,Nat.reducePow,Int.reducePow,reduceIte,Nat.reduceSub,Nat.reduceAdd,Nat.reduceMul, *])); repeat' ((first | (with_reducible refine fun _ : True => ?_) | (with_reducible refine any_h ?_) | ((first | refine AllocQ_i ?_ | refine AllocO_i ?_); intro bk hb0 hbk; try simp only [set_none'] at hbk) | ((first | refine condS_i ?_ ?_ | refine pick_i ?_ ?_ | refine gS_it ?_ ?_ | refine gS_if ?_ ?_ | refine gP_it ?_ ?_ | refine gP_if ?_ ?_) <;> (intro hc; try simp only [Int.reduceLE,Int.reduceLT,Int.reduceEq,Sn] at hc)) | (with_reducible refine KP_i ?_ ?_; · exact aE) | (with_reducible refine And.intro ?_ ?_)) <;> (try simp only [S0,putAt,List.replicate,Int.reduceAdd,Int.reduceSub,Int.reduceMul,Int.reduceTDiv,Int.reduceTMod,Int.reduceMod,Int.reduceDiv,Nat.reduceLT,Nat.reduceEqDiff,Int.reduceLE,Int.reduceLT,Int.reduceToNat,Int.reduceNeg,Int.reduceEq,Nat.reduceLeDiff,Nat.reducePow,Int.reducePow,reduceIte,Nat.reduceSub,Nat.reduceAdd,Nat.reduceMul, *]))); exact kk)) : P := h k
/- paintbox/vm truth -/
def M37 : MC :=
  .seq (.reg [oX 2 (.mv (.const (.int .i32 0)))])
 (.seq (.seq (.reg [vX 3 0])
 (.cond (.tmp 3)
 (.seq (.reg [oX 2 (.mv (.const (.int .i32 1)))])
 (.ret))
 (.skip)))
 (.seq (.reg [oX 2 (.mv (.const (.int .i32 0)))])
 (.ret)))
theorem k37 : fnOk Tryz.prog 37 = some (M37, [.t 2], 4) := by kernel_rfl
/- paintbox/vm whole 1 -/
def M77 : MC :=
  .seq (.reg [oX 4 (.mv (.const (.int .i32 0)))])
 (.seq (.reg [vX 5 0,
 vX 6 1,
 oX 7 (bX .add 5 6),
 vX 4 7])
 (.ret))
theorem k77 : fnOk Tryz.prog 77 = some (M77, [.t 4], 8) := by kernel_rfl
/- paintbox/vm whole 2 -/
def M78 : MC :=
  .seq (.reg [oX 4 (.mv (.const (.int .i32 0)))])
 (.seq (.reg [vX 5 0,
 vX 6 1,
 oX 7 (bX .sub 5 6),
 vX 4 7])
 (.ret))
theorem k78 : fnOk Tryz.prog 78 = some (M78, [.t 4], 8) := by kernel_rfl
/- paintbox/vm whole 3 -/
def M79 : MC :=
  .seq (.reg [oX 4 (.mv (.const (.int .i32 0)))])
 (.seq (.reg [vX 5 0,
 vX 6 1,
 oX 7 (bX .mul 5 6),
 vX 4 7])
 (.ret))
theorem k79 : fnOk Tryz.prog 79 = some (M79, [.t 4], 8) := by kernel_rfl
/- paintbox/vm whole 4 -/
def M80 : MC :=
  .seq (.reg [oX 4 (.mv (.const (.int .i32 0)))])
 (.seq (.seq (.reg [vX 5 1,
 oX 6 (.bin .eql (.tmp 5) (.const (.int .i32 0)))])
 (.cond (.tmp 6)
 (.seq (.reg [oX 4 (.mv (.const (.int .i32 0)))])
 (.ret))
 (.skip)))
 (.seq (.reg [vX 7 0,
 oX 8 (.conv .i64 (.tmp 7)),
 vX 9 1,
 oX 10 (.conv .i64 (.tmp 9)),
 oX 11 (bX .quo 8 10),
 oX 12 (.conv .i32 (.tmp 11)),
 vX 4 12])
 (.ret)))
theorem k80 : fnOk Tryz.prog 80 = some (M80, [.t 4], 13) := by kernel_rfl
/- paintbox/vm whole 5 -/
def M81 : MC :=
  .seq (.reg [oX 4 (.mv (.const (.int .i32 0)))])
 (.seq (.reg [vX 5 0,
 oX 6 (.un .neg (.tmp 5)),
 vX 4 6])
 (.ret))
theorem k81 : fnOk Tryz.prog 81 = some (M81, [.t 4], 7) := by kernel_rfl
/- paintbox/vm whole -/
def M46 : MC :=
  .seq (.reg [oX 2 (.mv (.const .nilFunc))])
 (.seq (.seq (.reg [vX 3 0])
 (.block 0 (.seq (.reg [oX 5 (bK .eql 3 24),
 vX 4 5])
 (.cond (.tmp 4)
 (.seq (.reg [oX 2 (.mv (.func 77))])
 (.ret))
 (.seq (.reg [oX 7 (bK .eql 3 25),
 vX 6 7])
 (.cond (.tmp 6)
 (.seq (.reg [oX 2 (.mv (.func 78))])
 (.ret))
 (.seq (.reg [oX 9 (bK .eql 3 26),
 vX 8 9])
 (.cond (.tmp 8)
 (.seq (.reg [oX 2 (.mv (.func 79))])
 (.ret))
 (.seq (.reg [oX 11 (bK .eql 3 27),
 vX 10 11])
 (.cond (.tmp 10)
 (.seq (.reg [oX 2 (.mv (.func 80))])
 (.ret))
 (.skip)))))))))))
 (.seq (.reg [oX 2 (.mv (.func 81))])
 (.ret)))
theorem k46 : fnOk Tryz.prog 46 = some (M46, [.t 2], 12) := by kernel_rfl

theorem c_truth (b : Bool) (h : K (.int .i32 (if b then 1 else 0)) H) : HCalls Tryz.prog w0 37 [.bool b] H K := by
  cases b
  all_goals
    refine HL.hc k37 999 ?_; unfold M37
    refine aV ?_
    exact Fin_mk (Heap.Le.refl _) h
theorem c_whole1 (x y : Int) (h : K (.int .i32 (w32 (x + y))) H) : HCalls Tryz.prog w0 77 [.int .i32 x, .int .i32 y] H K := by
  refine HL.hc k77 999 ?_; unfold M77
  refine aV ?_
  exact Fin_mk (Heap.Le.refl _) h
theorem c_whole2 (x y : Int) (h : K (.int .i32 (w32 (x - y))) H) : HCalls Tryz.prog w0 78 [.int .i32 x, .int .i32 y] H K := by
  refine HL.hc k78 999 ?_; unfold M78
  refine aV ?_
  exact Fin_mk (Heap.Le.refl _) h
theorem c_whole3 (x y : Int) (h : K (.int .i32 (w32 (x * y))) H) : HCalls Tryz.prog w0 79 [.int .i32 x, .int .i32 y] H K := by
  refine HL.hc k79 999 ?_; unfold M79
  refine aV ?_
  exact Fin_mk (Heap.Le.refl _) h
theorem tdiv_64 {x y : Int} (hx : I32 x) (hy : I32 y) (h0 : ¬ y = 0) : IntKind.i64.wrap (x.tdiv y) = x.tdiv y := by
  unfold I32 at hx hy
  have h1 := Int.natAbs_tdiv x y
  have h2 : (x.tdiv y).natAbs ≤ x.natAbs := by rw [h1]; exact Nat.div_le_self _ _
  exact Bw.1 _ (by omega) (by omega)
theorem c_whole4 (x y : Int) (hx : I32 x) (hy : I32 y) (h : K (.int .i32 (if y = 0 then 0 else w32 (x.tdiv y))) H) : HCalls Tryz.prog w0 80 [.int .i32 x, .int .i32 y] H K := by
  have e1 : IntKind.i64.wrap x = x := hx.w64
  have e2 : IntKind.i64.wrap y = y := hy.w64
  by_cases h0 : y = 0
  · rw [if_pos h0] at h
    subst h0
    refine HL.hc k80 999 ?_; unfold M80
    refine aV ?_
    exact Fin_mk (Heap.Le.refl _) h
  · rw [if_neg h0] at h
    have e3 := tdiv_64 hx hy h0
    refine HL.hc k80 999 ?_; unfold M80
    refine aV ?_
    exact Fin_mk (Heap.Le.refl _) h
theorem c_whole5 (x y : Int) (h : K (.int .i32 (w32 (-x))) H) : HCalls Tryz.prog w0 81 [.int .i32 x, .int .i32 y] H K := by
  rw [← Int.zero_sub] at h
  refine HL.hc k81 999 ?_; unfold M81
  refine aV ?_
  exact Fin_mk (Heap.Le.refl _) h
theorem c_whole (fn : Int) (hfn : fn = 24 ∨ fn = 25 ∨ fn = 26 ∨ fn = 27 ∨ fn = 28) (h : ∀ F, (∀ x y (G : Heap) (K' : Value → Heap → Prop), I32 x → I32 y → K' (.int .i32 (wI fn x y)) G → HCalls Tryz.prog w0 F [.int .i32 x, .int .i32 y] G K') → K (.func (.func F) #[] #[]) H) :
    HCalls Tryz.prog w0 46 [.int .i64 fn] H K := by
  have f1 := h 77
  have f2 := h 78
  have f3 := h 79
  have f4 := h 80
  have f5 := h 81
  clear h
  rcases hfn with rfl | rfl | rfl | rfl | rfl
  · have h := f1 fun x y G K' hx hy hk => c_whole1 x y hk
    clear f1 f2 f3 f4 f5
    refine HL.hc k46 999 ?_; unfold M46
    refine aV ?_
    exact Fin_mk (Heap.Le.refl _) h
  · have h := f2 fun x y G K' hx hy hk => c_whole2 x y hk
    clear f1 f2 f3 f4 f5
    refine HL.hc k46 999 ?_; unfold M46
    refine aV ?_
    exact Fin_mk (Heap.Le.refl _) h
  · have h := f3 fun x y G K' hx hy hk => c_whole3 x y hk
    clear f1 f2 f3 f4 f5
    refine HL.hc k46 999 ?_; unfold M46
    refine aV ?_
    exact Fin_mk (Heap.Le.refl _) h
  · have h := f4 fun x y G K' hx hy hk => c_whole4 x y hx hy hk
    clear f1 f2 f3 f4 f5
    refine HL.hc k46 999 ?_; unfold M46
    refine aV ?_
    exact Fin_mk (Heap.Le.refl _) h
  · have h := f5 fun x y G K' hx hy hk => c_whole5 x y hk
    clear f1 f2 f3 f4 f5
    refine HL.hc k46 999 ?_; unfold M46
    refine aV ?_
    exact Fin_mk (Heap.Le.refl _) h
theorem rd1_b {G : Heap} {b : Nat} {t : Kd} {v : Value} (h : G b = some ⟨t, [v]⟩) : HL.rd1 w0 G b 0 = some v := by unfold HL.rd1; rw [h]; rfl
/- paintbox/vm each -/
def M45 : MC :=
  .seq (.reg [oX 5 (.box 28 (.tmp 1)),
 oX 6 (.box 28 (.tmp 2)),
 oX 8 (.alloc 28 [(.int .i32 0),(.int .i32 0),(.int .i32 0),(.int .i32 0)])])
 (.seq (.reg [oX 9 (.alloc 28 [(.int .i32 0),(.int .i32 0),(.int .i32 0),(.int .i32 0)])])
 (.seq (.seq (.reg [vX 11 0,
 oX 12 (.mv (kX 0))])
 (.block 0 (.loop (.seq (.reg [oX 13 (bX .lss 12 11)])
 (.seq (.cond (.tmp 13)
 (.skip)
 (.exit 0))
 (.seq (.block 1 (.seq (.reg [vX 14 12,
 vX 10 14])
 (.any [(true,0,[],vX 15 10),
 (true,1,[],vX 16 3),
 (true,2,[],vX 17 10),
 (true,3,[],oX 18 (.ia 4 1 (.tmp 5) (.tmp 17))),
 (true,4,[],oX 19 (.ld1 (.tmp 18))),
 (false,5,[0,1,2,3,4],vX 20 10),
 (false,6,[0,1,2,3,4],oX 21 (.ia 4 1 (.tmp 6) (.tmp 20))),
 (false,7,[0,1,2,3,4],oX 22 (.ld1 (.tmp 21))),
 (false,8,[0],oX 23 (.callv (.tmp 16) [(.tmp 19),(.tmp 22)])),
 (false,9,[],oX 24 (.ia 4 1 (.tmp 9) (.tmp 15))),
 (false,10,[],⟨none,.st1 (.tmp 24) (.tmp 23),none⟩)])))
 (.reg [oX 25 (bK .add 12 1),
 vX 12 25])))))))
 (.seq (.reg [oX 26 (.ldn 4 (.tmp 9)),
 ⟨none,.stn 4 (.tmp 8) (.tmp 26),none⟩])
 (.ret))))
theorem k45 : fnOk Tryz.prog 45 = some (M45, [.cn 4 8], 27) := by kernel_rfl
/- paintbox/vm one 1 -/
def M68 : MC :=
  .seq (.reg [oX 5 (.mv (.const (.int .i32 0)))])
 (.seq (.reg [oX 6 (.ld1 (.tmp 2)),
 vX 7 0,
 oX 8 (.yv (.tmp 6) [(.tmp 7)]),
 vX 5 8])
 (.ret))
theorem k68 : fnOk Tryz.prog 68 = some (M68, [.t 5], 9) := by kernel_rfl
/- paintbox/vm one -/
def M35 : MC :=
  .seq (.reg [oX 4 (.box 28 (.tmp 1)),
 oX 5 (.box 81 (.tmp 2)),
 oX 6 (.alloc 28 [(.int .i32 0),(.int .i32 0),(.int .i32 0),(.int .i32 0)]),
 oX 7 (.mv (kX 0))])
 (.seq (.reg [vX 8 0,
 oX 9 (.ldn 4 (.tmp 4)),
 oX 10 (.ldn 4 (.tmp 4)),
 oX 11 (.fn 68 [(.tmp 5)]),
 oX 12 (.call 45 [(.tmp 8),(.tmp 9),(.tmp 10),(.tmp 11)]),
 ⟨none,.stn 4 (.tmp 6) (.tmp 12),none⟩,
 oX 7 (.mv (kX 0))])
 (.ret))
theorem k35 : fnOk Tryz.prog 35 = some (M35, [.cn 4 6, .t 7], 13) := by kernel_rfl

theorem c_vEach (n : Int) (f : FuncId) (fs cs : Array Value) (a b g : Nat → Int) (hn : n = 1 ∨ n = 2 ∨ n = 3 ∨ n = 4)
    (hf : ∀ (i : Nat) (G : Heap) (K' : Value → Heap → Prop), i < 4 → Grow w0 H G → K' (.int .i32 (g i)) G → HCalls Tryz.prog w0 f (fs.toList ++ [.int .i32 (a i), .int .i32 (b i)] ++ cs.toList) G K')
    (h : K (VV (fst n g)) H) : HCalls Tryz.prog w0 45 [.int .i64 n, VV a, VV b, .func (.func f) fs cs] H K := by
  have c1 := hf 0
  have c2 := hf 1
  have c3 := hf 2
  have c4 := hf 3
  clear hf
  replace h : Keep _ := h
  replace c1 : Keep _ := c1
  replace c2 : Keep _ := c2
  replace c3 : Keep _ := c3
  replace c4 : Keep _ := c4
  rcases hn with rfl | rfl | rfl | rfl
  all_goals
    refine HL.hc k45 999 ?_; unfold M45
    (all_goals (try simp only [S0,putAt,List.replicate,Int.reduceAdd,Int.reduceSub,Int.reduceMul,Int.reduceTDiv,Int.reduceTMod,Int.reduceMod,Int.reduceDiv,Nat.reduceLT,Nat.reduceEqDiff,Int.reduceLE,Int.reduceLT,Int.reduceToNat,Int.reduceNeg,Int.reduceEq,Nat.reduceLeDiff,Nat.reducePow,Int.reducePow,reduceIte,Nat.reduceSub,Nat.reduceAdd,Nat.reduceMul, *])); repeat' ((first | (with_reducible refine fun _ : True => ?_) | refine c1 _ _ (by decide) aG ?_ | refine c2 _ _ (by decide) aG ?_ | refine c3 _ _ (by decide) aG ?_ | refine c4 _ _ (by decide) aG ?_ | (with_reducible refine any_h ?_) | ((first | refine AllocQ_i ?_ | refine AllocO_i ?_); intro bk hb0 hbk; (try simp only [set_none'] at hbk)) | ((first | refine condS_i ?_ ?_ | refine pick_i ?_ ?_ | refine gS_it ?_ ?_ | refine gS_if ?_ ?_ | refine gP_it ?_ ?_ | refine gP_if ?_ ?_) <;> (intro hc; try simp only [Int.reduceLE,Int.reduceLT,Int.reduceEq,Sn] at hc)) | (with_reducible refine KP_i ?_ ?_; · exact aL) | (with_reducible refine loop_u ?_) | (with_reducible refine And.intro ?_ ?_)) <;> (try simp only [S0,putAt,List.replicate,Int.reduceAdd,Int.reduceSub,Int.reduceMul,Int.reduceTDiv,Int.reduceTMod,Int.reduceMod,Int.reduceDiv,Nat.reduceLT,Nat.reduceEqDiff,Int.reduceLE,Int.reduceLT,Int.reduceToNat,Int.reduceNeg,Int.reduceEq,Nat.reduceLeDiff,Nat.reducePow,Int.reducePow,reduceIte,Nat.reduceSub,Nat.reduceAdd,Nat.reduceMul, *]))
    exact Fin_mk aL h
theorem c_vOne1 (f : FuncId) (g : Int → Int) (x y : Int) {b : Nat} (hx : I32 x) (h1 : HL.rd1 w0 H b 0 = some (.func (.func f) #[] #[])) (hf : ∀ x (G : Heap) (K' : Value → Heap → Prop), I32 x → K' (.int .i32 (g x)) G → HCalls Tryz.prog w0 f [.int .i32 x] G K')
    (h : K (.int .i32 (g x)) H) : HCalls Tryz.prog w0 68 [.int .i32 x, .int .i32 y, .pointer (some ⟨b, 0, none⟩)] H K := by
  have c1 := fun G K' => hf x G K' hx
  clear hf
  replace c1 : Keep _ := c1
  refine HL.hc k68 999 ?_; unfold M68
  (all_goals (try simp only [S0,putAt,List.replicate,Int.reduceAdd,Int.reduceSub,Int.reduceMul,Int.reduceTDiv,Int.reduceTMod,Int.reduceMod,Int.reduceDiv,Nat.reduceLT,Nat.reduceEqDiff,Int.reduceLE,Int.reduceLT,Int.reduceToNat,Int.reduceNeg,Int.reduceEq,Nat.reduceLeDiff,Nat.reducePow,Int.reducePow,reduceIte,Nat.reduceSub,Nat.reduceAdd,Nat.reduceMul, *])); repeat' ((first | (with_reducible refine fun _ : True => ?_) | refine c1 _ _ ?_ | (with_reducible refine any_h ?_) | ((first | refine AllocQ_i ?_ | refine AllocO_i ?_); intro bk hb0 hbk; (try simp only [set_none'] at hbk)) | ((first | refine condS_i ?_ ?_ | refine pick_i ?_ ?_ | refine gS_it ?_ ?_ | refine gS_if ?_ ?_ | refine gP_it ?_ ?_ | refine gP_if ?_ ?_) <;> (intro hc; try simp only [Int.reduceLE,Int.reduceLT,Int.reduceEq,Sn] at hc)) | (with_reducible refine KP_i ?_ ?_; · exact aL) | (with_reducible refine And.intro ?_ ?_)) <;> (try simp only [S0,putAt,List.replicate,Int.reduceAdd,Int.reduceSub,Int.reduceMul,Int.reduceTDiv,Int.reduceTMod,Int.reduceMod,Int.reduceDiv,Nat.reduceLT,Nat.reduceEqDiff,Int.reduceLE,Int.reduceLT,Int.reduceToNat,Int.reduceNeg,Int.reduceEq,Nat.reduceLeDiff,Nat.reducePow,Int.reducePow,reduceIte,Nat.reduceSub,Nat.reduceAdd,Nat.reduceMul, *]))
  exact Fin_mk (Heap.Le.refl _) h
theorem c_vOne (n : Int) (f : FuncId) (a : Nat → Int) (g : Int → Int) (hn : n = 1 ∨ n = 2 ∨ n = 3 ∨ n = 4) (ha : ∀ i, I32 (a i)) (hf : ∀ x (G : Heap) (K' : Value → Heap → Prop), I32 x → K' (.int .i32 (g x)) G → HCalls Tryz.prog w0 f [.int .i32 x] G K')
    (h : K (.tuple #[VV (fst n fun i => g (a i)), .int .i64 0]) H) : HCalls Tryz.prog w0 35 [.int .i64 n, VV a, .func (.func f) #[] #[]] H K := by
  replace h : Keep _ := h
  replace hf : Keep _ := hf
  refine HL.hc k35 999 ?_; unfold M35
  (all_goals (try simp only [S0,putAt,List.replicate,Int.reduceAdd,Int.reduceSub,Int.reduceMul,Int.reduceTDiv,Int.reduceTMod,Int.reduceMod,Int.reduceDiv,Nat.reduceLT,Nat.reduceEqDiff,Int.reduceLE,Int.reduceLT,Int.reduceToNat,Int.reduceNeg,Int.reduceEq,Nat.reduceLeDiff,Nat.reducePow,Int.reducePow,reduceIte,Nat.reduceSub,Nat.reduceAdd,Nat.reduceMul, *])); repeat' ((first | (with_reducible refine fun _ : True => ?_) | (with_reducible refine any_h ?_) | ((first | refine AllocQ_i ?_ | refine AllocO_i ?_); intro bk hb0 hbk; (try simp only [set_none'] at hbk)) | ((first | refine condS_i ?_ ?_ | refine pick_i ?_ ?_ | refine gS_it ?_ ?_ | refine gS_if ?_ ?_ | refine gP_it ?_ ?_ | refine gP_if ?_ ?_) <;> (intro hc; try simp only [Int.reduceLE,Int.reduceLT,Int.reduceEq,Sn] at hc)) | (with_reducible refine KP_i ?_ ?_; · exact aL) | (with_reducible refine And.intro ?_ ?_)) <;> (try simp only [S0,putAt,List.replicate,Int.reduceAdd,Int.reduceSub,Int.reduceMul,Int.reduceTDiv,Int.reduceTMod,Int.reduceMod,Int.reduceDiv,Nat.reduceLT,Nat.reduceEqDiff,Int.reduceLE,Int.reduceLT,Int.reduceToNat,Int.reduceNeg,Int.reduceEq,Nat.reduceLeDiff,Nat.reducePow,Int.reducePow,reduceIte,Nat.reduceSub,Nat.reduceAdd,Nat.reduceMul, *]))
  rename_i bf hf0 hfn
  refine c_vEach _ _ _ _ a a (fun i => g (a i)) hn (fun i G K' hi hg hk => ?_) ?_
  · exact c_vOne1 f g _ _ (ha i) (rd1_b (hg.some (b := bf) aA)) hf hk
  · simp only [S0,putAt,List.replicate,Int.reduceAdd,Int.reduceSub,Int.reduceMul,Int.reduceTDiv,Int.reduceTMod,Int.reduceMod,Int.reduceDiv,Nat.reduceLT,Nat.reduceEqDiff,Int.reduceLE,Int.reduceLT,Int.reduceToNat,Int.reduceNeg,Int.reduceEq,Nat.reduceLeDiff,Nat.reducePow,Int.reducePow,reduceIte,Nat.reduceSub,Nat.reduceAdd,Nat.reduceMul, *]
    exact Fin_mk aL h
/-! ### Truths -/
def t1V (x : Int) (i : Nat) : Int := if i = 0 then x else 0
def alk (n : Int) (a b : Nat → Int) : Bool := decide (fst n a 0 = fst n b 0 ∧ fst n a 1 = fst n b 1 ∧ fst n a 2 = fst n b 2 ∧ fst n a 3 = fst n b 3)
def askV (fn n : Int) (a b : Nat → Int) : Bool :=
  if fn = 29 then decide (a 0 < b 0) else if fn = 30 then decide (b 0 < a 0) else if fn = 31 then decide (a 0 ≤ b 0) else if fn = 32 then decide (b 0 ≤ a 0)
  else if fn = 33 then alk n a b else if fn = 34 then !alk n a b else decide (a 0 = 0)
theorem ceq_vv (x y : Nat → Int) : ceq (VC x) (VC y) = some (decide (x 0 = y 0 ∧ x 1 = y 1 ∧ x 2 = y 2 ∧ x 3 = y 3)) := by
  simp only [VC, ceq]
  by_cases h0 : x 0 = y 0 <;> by_cases h1 : x 1 = y 1 <;> by_cases h2 : x 2 = y 2 <;> by_cases h3 : x 3 = y 3 <;> simp [h0, h1, h2, h3]
theorem clr_i {b o n c : Nat} {ty : Kd} {cells : List Value} {z : Value} (hb : G b = some ⟨ty, cells⟩) (hz : Value.oneCell' z = true) (hle : o + n ≤ cells.length) (h : K (.tuple #[]) (G.set b ⟨ty, putAt cells o (List.replicate n z)⟩)) : clrQ G K [z] (.slice (some ⟨b, o, none⟩) n c) := by
  have e : zeroL [z] n = List.replicate n z := by
    unfold zeroL Builtin.zeroCells
    apply List.ext_getElem?
    intro i
    simp [List.getElem?_replicate]
    by_cases hi : i < n
    · simp [hi, Nat.mod_one]
    · simp [hi]
  unfold clrQ
  simp only [e]
  unfold layQ
  by_cases hn : List.replicate n z = []
  · rw [hn, putAt_nil, Heap.set_id _ _ _ hb] at h
    rw [if_pos hn]; exact h
  · rw [if_neg hn]
    simp only [hb, optQ, Nat.add_zero]
    exact ⟨by simp [hz], by simpa using hle, h⟩
/- paintbox/vm first -/
def M76 : MC :=
  .seq (.reg [oX 3 (.box 28 (.tmp 1)),
 oX 4 (.alloc 28 [(.int .i32 0),(.int .i32 0),(.int .i32 0),(.int .i32 0)])])
 (.seq (.reg [vX 5 0,
 oX 6 (.sla 4 1 (.tmp 3) (some (.tmp 5)) none),
 ⟨none,.clr [(.int .i32 0)] (.tmp 6),none⟩])
 (.seq (.reg [oX 7 (.ldn 4 (.tmp 3)),
 ⟨none,.stn 4 (.tmp 4) (.tmp 7),none⟩])
 (.ret)))
theorem k76 : fnOk Tryz.prog 76 = some (M76, [.cn 4 4], 8) := by kernel_rfl
/- paintbox/vm asks -/
def M44 : MC :=
  .seq (.reg [oX 6 (.box 28 (.tmp 2)),
 oX 7 (.box 28 (.tmp 3)),
 oX 8 (.mv (.const (.bool false)))])
 (.seq (.any [(true,0,[],oX 11 (.ia 4 1 (.tmp 6) (kX 0))),
 (true,1,[],oX 12 (.ld1 (.tmp 11))),
 (true,2,[],oX 13 (.ia 4 1 (.tmp 7) (kX 0))),
 (true,3,[],oX 14 (.ld1 (.tmp 13))),
 (false,4,[2,3],vX 9 12),
 (false,5,[],vX 10 14)])
 (.seq (.seq (.reg [vX 15 0])
 (.block 0 (.seq (.reg [oX 17 (bK .eql 15 29),
 vX 16 17])
 (.cond (.tmp 16)
 (.seq (.reg [vX 18 9,
 vX 19 10,
 oX 20 (bX .lss 18 19),
 vX 8 20])
 (.ret))
 (.seq (.reg [oX 22 (bK .eql 15 30),
 vX 21 22])
 (.cond (.tmp 21)
 (.seq (.reg [vX 23 9,
 vX 24 10,
 oX 25 (bX .gtr 23 24),
 vX 8 25])
 (.ret))
 (.seq (.reg [oX 27 (bK .eql 15 31),
 vX 26 27])
 (.cond (.tmp 26)
 (.seq (.reg [vX 28 9,
 vX 29 10,
 oX 30 (bX .leq 28 29),
 vX 8 30])
 (.ret))
 (.seq (.reg [oX 32 (bK .eql 15 32),
 vX 31 32])
 (.cond (.tmp 31)
 (.seq (.reg [vX 33 9,
 vX 34 10,
 oX 35 (bX .geq 33 34),
 vX 8 35])
 (.ret))
 (.seq (.reg [oX 37 (bK .eql 15 33),
 vX 36 37])
 (.cond (.tmp 36)
 (.seq (.any [(true,0,[],vX 38 1),
 (true,1,[],oX 39 (.ldn 4 (.tmp 6))),
 (true,3,[],vX 41 1),
 (true,4,[],oX 42 (.ldn 4 (.tmp 7))),
 (false,2,[3,4],oX 40 (.call 76 [(.tmp 38),(.tmp 39)])),
 (false,5,[],oX 43 (.call 76 [(.tmp 41),(.tmp 42)])),
 (false,6,[],oX 44 (.eqa false 4 (.tmp 40) (.tmp 43))),
 (false,7,[],vX 8 44)])
 (.ret))
 (.seq (.reg [oX 46 (bK .eql 15 34),
 vX 45 46])
 (.cond (.tmp 45)
 (.seq (.any [(true,0,[],vX 47 1),
 (true,1,[],oX 48 (.ldn 4 (.tmp 6))),
 (true,3,[],vX 50 1),
 (true,4,[],oX 51 (.ldn 4 (.tmp 7))),
 (false,2,[3,4],oX 49 (.call 76 [(.tmp 47),(.tmp 48)])),
 (false,5,[],oX 52 (.call 76 [(.tmp 50),(.tmp 51)])),
 (false,6,[],oX 53 (.eqa true 4 (.tmp 49) (.tmp 52))),
 (false,7,[],vX 8 53)])
 (.ret))
 (.skip)))))))))))))))
 (.seq (.reg [vX 54 9,
 oX 55 (.bin .eql (.tmp 54) (.const (.int .i32 0))),
 vX 8 55])
 (.ret))))
theorem k44 : fnOk Tryz.prog 44 = some (M44, [.t 8], 56) := by kernel_rfl

theorem c_first (n : Int) (a : Nat → Int) (hn : n = 1 ∨ n = 2 ∨ n = 3 ∨ n = 4) (h : K (VV (fst n a)) H) : HCalls Tryz.prog w0 76 [.int .i64 n, VV a] H K := by
  rcases hn with rfl | rfl | rfl | rfl
  all_goals
    refine HL.hc k76 999 ?_; unfold M76
    (all_goals (try simp only [S0,putAt,List.replicate,Int.reduceAdd,Int.reduceSub,Int.reduceMul,Int.reduceTDiv,Int.reduceTMod,Int.reduceMod,Int.reduceDiv,Nat.reduceLT,Nat.reduceEqDiff,Int.reduceLE,Int.reduceLT,Int.reduceToNat,Int.reduceNeg,Int.reduceEq,Nat.reduceLeDiff,Nat.reducePow,Int.reducePow,reduceIte,Nat.reduceSub,Nat.reduceAdd,Nat.reduceMul, *])); repeat' ((first | (with_reducible refine fun _ : True => ?_) | (with_reducible refine any_h ?_) | ((first | refine AllocQ_i ?_ | refine AllocO_i ?_); intro bk hb0 hbk; (try simp only [set_none'] at hbk)) | ((first | refine condS_i ?_ ?_ | refine pick_i ?_ ?_ | refine gS_it ?_ ?_ | refine gS_if ?_ ?_ | refine gP_it ?_ ?_ | refine gP_if ?_ ?_) <;> (intro hc; try simp only [Int.reduceLE,Int.reduceLT,Int.reduceEq,Sn] at hc)) | (with_reducible refine KP_i ?_ ?_; · exact aL) | (with_reducible refine And.intro ?_ ?_)) <;> (try simp only [S0,putAt,List.replicate,Int.reduceAdd,Int.reduceSub,Int.reduceMul,Int.reduceTDiv,Int.reduceTMod,Int.reduceMod,Int.reduceDiv,Nat.reduceLT,Nat.reduceEqDiff,Int.reduceLE,Int.reduceLT,Int.reduceToNat,Int.reduceNeg,Int.reduceEq,Nat.reduceLeDiff,Nat.reducePow,Int.reducePow,reduceIte,Nat.reduceSub,Nat.reduceAdd,Nat.reduceMul, *]))
    refine clr_i aA rfl (by simp) ?_
    (all_goals (try simp only [S0,putAt,List.replicate,Int.reduceAdd,Int.reduceSub,Int.reduceMul,Int.reduceTDiv,Int.reduceTMod,Int.reduceMod,Int.reduceDiv,Nat.reduceLT,Nat.reduceEqDiff,Int.reduceLE,Int.reduceLT,Int.reduceToNat,Int.reduceNeg,Int.reduceEq,Nat.reduceLeDiff,Nat.reducePow,Int.reducePow,reduceIte,Nat.reduceSub,Nat.reduceAdd,Nat.reduceMul, *])); repeat' ((first | (with_reducible refine fun _ : True => ?_) | (with_reducible refine any_h ?_) | ((first | refine AllocQ_i ?_ | refine AllocO_i ?_); intro bk hb0 hbk; (try simp only [set_none'] at hbk)) | ((first | refine condS_i ?_ ?_ | refine pick_i ?_ ?_ | refine gS_it ?_ ?_ | refine gS_if ?_ ?_ | refine gP_it ?_ ?_ | refine gP_if ?_ ?_) <;> (intro hc; try simp only [Int.reduceLE,Int.reduceLT,Int.reduceEq,Sn] at hc)) | (with_reducible refine KP_i ?_ ?_; · exact aL) | (with_reducible refine And.intro ?_ ?_)) <;> (try simp only [S0,putAt,List.replicate,Int.reduceAdd,Int.reduceSub,Int.reduceMul,Int.reduceTDiv,Int.reduceTMod,Int.reduceMod,Int.reduceDiv,Nat.reduceLT,Nat.reduceEqDiff,Int.reduceLE,Int.reduceLT,Int.reduceToNat,Int.reduceNeg,Int.reduceEq,Nat.reduceLeDiff,Nat.reducePow,Int.reducePow,reduceIte,Nat.reduceSub,Nat.reduceAdd,Nat.reduceMul, *]))
    exact Fin_mk aL h
end Go.Proofs.YtdmnfaefakceiaaGreat
