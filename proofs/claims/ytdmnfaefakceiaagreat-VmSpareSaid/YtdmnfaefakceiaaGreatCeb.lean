/- The small functions of code (layer 18). -/
import Derived.Test.YtdmnfaefakceiaaGreatCea
import Derived.Test.YtdmnfaefakceiaaGreatHlu
import Derived.Test.YtdmnfaefakceiaaGreatPd
set_option linter.unusedSimpArgs false
set_option linter.unusedVariables false
set_option maxRecDepth 100000
set_option maxHeartbeats 4000000
namespace Go.Proofs.YtdmnfaefakceiaaGreat
open Go.HL Go.RowKit Pb
variable {w0 : World} {H : Heap} {K : Value → Heap → Prop}

def below (x n : Int) : Bool := decide (0 ≤ x ∧ x < n)
def sized (n : Int) : Bool := decide (1 ≤ n ∧ n ≤ 4)
def isBase (b : Int) : Bool := decide (1 ≤ b ∧ b ≤ 3)
/- code below -/
def M50 : MC :=
  .seq (.reg [oX 4 (.mv (.const (.bool false)))])
 (.seq (.reg [vX 5 0,
 oX 6 (bK .geq 5 0),
 vX 7 6,
 ⟨(some 8),.mv (.tmp 0),(some (7,true))⟩,
 ⟨(some 9),.mv (.tmp 1),(some (7,true))⟩,
 ⟨(some 10),bX .lss 8 9,(some (7,true))⟩,
 oX 11 (.pick (.tmp 7) (.tmp 10) (.const (.bool false))),
 vX 4 11])
 (.ret))
theorem k50 : fnOk Tryz.prog 50 = some (M50, [.t 4], 12) := by kernel_rfl
/- code sized -/
def M102 : MC :=
  .seq (.reg [oX 2 (.mv (.const (.bool false)))])
 (.seq (.reg [vX 3 0,
 oX 4 (bK .geq 3 1),
 vX 5 4,
 ⟨(some 6),.mv (.tmp 0),(some (5,true))⟩,
 ⟨(some 7),bK .leq 6 4,(some (5,true))⟩,
 oX 8 (.pick (.tmp 5) (.tmp 7) (.const (.bool false))),
 vX 2 8])
 (.ret))
theorem k102 : fnOk Tryz.prog 102 = some (M102, [.t 2], 9) := by kernel_rfl
/- code base -/
def M104 : MC :=
  .seq (.reg [oX 2 (.mv (.const (.bool false)))])
 (.seq (.reg [vX 3 0,
 oX 4 (bK .geq 3 1),
 vX 5 4,
 ⟨(some 6),.mv (.tmp 0),(some (5,true))⟩,
 ⟨(some 7),bK .leq 6 3,(some (5,true))⟩,
 oX 8 (.pick (.tmp 5) (.tmp 7) (.const (.bool false))),
 vX 2 8])
 (.ret))
theorem k104 : fnOk Tryz.prog 104 = some (M104, [.t 2], 9) := by kernel_rfl

theorem c_below (x n : Int) (h : K (.bool (below x n)) H) : HCalls Tryz.prog w0 50 [.int .i64 x, .int .i64 n] H K := by
  refine HL.hc k50 999 ?_; unfold M50
  (all_goals (try simp only [S0,putAt,List.replicate,Int.reduceAdd,Int.reduceSub,Int.reduceMul,Int.reduceTDiv,Int.reduceTMod,Int.reduceMod,Int.reduceDiv,Nat.reduceLT,Nat.reduceEqDiff,Int.reduceLE,Int.reduceLT,Int.reduceToNat,Int.reduceNeg,Int.reduceEq,Nat.reduceLeDiff,Nat.reducePow,Int.reducePow,reduceIte,Nat.reduceSub,Nat.reduceAdd,Nat.reduceMul, *])); repeat' ((first | (with_reducible refine fun _ : True => ?_) | (with_reducible refine any_h ?_) | ((first | refine AllocQ_i ?_ | refine AllocO_i ?_); intro bk hb0 hbk; try simp only [set_none'] at hbk) | ((first | refine condS_i ?_ ?_ | refine pick_i ?_ ?_ | refine gS_it ?_ ?_ | refine gS_if ?_ ?_ | refine gP_it ?_ ?_ | refine gP_if ?_ ?_) <;> (intro hc; try simp only [Int.reduceLE,Int.reduceLT,Int.reduceEq,Sn] at hc; try (exfalso; omega))) | (with_reducible refine KP_i ?_ ?_; · exact aE) | (with_reducible refine And.intro ?_ ?_)) <;> (try simp only [S0,putAt,List.replicate,Int.reduceAdd,Int.reduceSub,Int.reduceMul,Int.reduceTDiv,Int.reduceTMod,Int.reduceMod,Int.reduceDiv,Nat.reduceLT,Nat.reduceEqDiff,Int.reduceLE,Int.reduceLT,Int.reduceToNat,Int.reduceNeg,Int.reduceEq,Nat.reduceLeDiff,Nat.reducePow,Int.reducePow,reduceIte,Nat.reduceSub,Nat.reduceAdd,Nat.reduceMul, *]))
  all_goals refine Fin_mk (Heap.Le.refl _) (K_bool h ?_)
  all_goals (unfold below; simp; try omega)
theorem c_csized (n : Int) (h : K (.bool (sized n)) H) : HCalls Tryz.prog w0 102 [.int .i64 n] H K := by
  refine HL.hc k102 999 ?_; unfold M102
  (all_goals (try simp only [S0,putAt,List.replicate,Int.reduceAdd,Int.reduceSub,Int.reduceMul,Int.reduceTDiv,Int.reduceTMod,Int.reduceMod,Int.reduceDiv,Nat.reduceLT,Nat.reduceEqDiff,Int.reduceLE,Int.reduceLT,Int.reduceToNat,Int.reduceNeg,Int.reduceEq,Nat.reduceLeDiff,Nat.reducePow,Int.reducePow,reduceIte,Nat.reduceSub,Nat.reduceAdd,Nat.reduceMul, *])); repeat' ((first | (with_reducible refine fun _ : True => ?_) | (with_reducible refine any_h ?_) | ((first | refine AllocQ_i ?_ | refine AllocO_i ?_); intro bk hb0 hbk; try simp only [set_none'] at hbk) | ((first | refine condS_i ?_ ?_ | refine pick_i ?_ ?_ | refine gS_it ?_ ?_ | refine gS_if ?_ ?_ | refine gP_it ?_ ?_ | refine gP_if ?_ ?_) <;> (intro hc; try simp only [Int.reduceLE,Int.reduceLT,Int.reduceEq,Sn] at hc; try (exfalso; omega))) | (with_reducible refine KP_i ?_ ?_; · exact aE) | (with_reducible refine And.intro ?_ ?_)) <;> (try simp only [S0,putAt,List.replicate,Int.reduceAdd,Int.reduceSub,Int.reduceMul,Int.reduceTDiv,Int.reduceTMod,Int.reduceMod,Int.reduceDiv,Nat.reduceLT,Nat.reduceEqDiff,Int.reduceLE,Int.reduceLT,Int.reduceToNat,Int.reduceNeg,Int.reduceEq,Nat.reduceLeDiff,Nat.reducePow,Int.reducePow,reduceIte,Nat.reduceSub,Nat.reduceAdd,Nat.reduceMul, *]))
  all_goals refine Fin_mk (Heap.Le.refl _) (K_bool h ?_)
  all_goals (unfold sized; simp; try omega)
theorem c_base (n : Int) (h : K (.bool (isBase n)) H) : HCalls Tryz.prog w0 104 [.int .i64 n] H K := by
  refine HL.hc k104 999 ?_; unfold M104
  (all_goals (try simp only [S0,putAt,List.replicate,Int.reduceAdd,Int.reduceSub,Int.reduceMul,Int.reduceTDiv,Int.reduceTMod,Int.reduceMod,Int.reduceDiv,Nat.reduceLT,Nat.reduceEqDiff,Int.reduceLE,Int.reduceLT,Int.reduceToNat,Int.reduceNeg,Int.reduceEq,Nat.reduceLeDiff,Nat.reducePow,Int.reducePow,reduceIte,Nat.reduceSub,Nat.reduceAdd,Nat.reduceMul, *])); repeat' ((first | (with_reducible refine fun _ : True => ?_) | (with_reducible refine any_h ?_) | ((first | refine AllocQ_i ?_ | refine AllocO_i ?_); intro bk hb0 hbk; try simp only [set_none'] at hbk) | ((first | refine condS_i ?_ ?_ | refine pick_i ?_ ?_ | refine gS_it ?_ ?_ | refine gS_if ?_ ?_ | refine gP_it ?_ ?_ | refine gP_if ?_ ?_) <;> (intro hc; try simp only [Int.reduceLE,Int.reduceLT,Int.reduceEq,Sn] at hc; try (exfalso; omega))) | (with_reducible refine KP_i ?_ ?_; · exact aE) | (with_reducible refine And.intro ?_ ?_)) <;> (try simp only [S0,putAt,List.replicate,Int.reduceAdd,Int.reduceSub,Int.reduceMul,Int.reduceTDiv,Int.reduceTMod,Int.reduceMod,Int.reduceDiv,Nat.reduceLT,Nat.reduceEqDiff,Int.reduceLE,Int.reduceLT,Int.reduceToNat,Int.reduceNeg,Int.reduceEq,Nat.reduceLeDiff,Nat.reducePow,Int.reducePow,reduceIte,Nat.reduceSub,Nat.reduceAdd,Nat.reduceMul, *]))
  all_goals refine Fin_mk (Heap.Le.refl _) (K_bool h ?_)
  all_goals (unfold isBase; simp; try omega)
/-- What an instruction reads. -/
def reads (i : Ins) : List Int :=
  if i.op = 2 ∨ i.op = 6 ∨ i.op = 8 then [i.a]
  else if i.op = 4 ∨ i.op = 11 then [i.b]
  else if i.op = 5 then [i.a, i.b, i.c].take (args i.fn i.bs).toNat
  else if i.op = 7 then [i.a, i.dst]
  else if i.op = 9 then [i.a, i.b]
  else []
theorem reads_len (i : Ins) : (reads i).length ≤ 3 := by unfold reads; (repeat' split) <;> simp <;> omega
/-- What an instruction writes. -/
def wrt (i : Ins) : Bool := decide (i.op = 1 ∨ i.op = 2 ∨ i.op = 3 ∨ i.op = 5 ∨ i.op = 6 ∨ i.op = 7 ∨ i.op = 8 ∨ i.op = 9)
def wrtR (i : Ins) : Int := if wrt i then i.dst else 0
/- code Writes -/
def M105 : MC :=
  .seq (.reg [oX 1 (.box 46 (.tmp 0)),
 oX 2 (.mv (kX 0)),
 oX 3 (.mv (.const (.bool false)))])
 (.seq (.seq (.reg [oX 4 (.fa 0 (.tmp 1)),
 oX 5 (.ld1 (.tmp 4))])
 (.block 0 (.seq (.seq (.reg [oX 7 (bK .eql 5 4),
 vX 6 7])
 (.cond (.tmp 6)
 (.skip)
 (.seq (.reg [oX 8 (bK .eql 5 10),
 vX 6 8])
 (.cond (.tmp 6)
 (.skip)
 (.seq (.reg [oX 9 (bK .eql 5 11),
 vX 6 9])
 (.cond (.tmp 6)
 (.skip)
 (.reg [oX 10 (bK .eql 5 12),
 vX 6 10])))))))
 (.cond (.tmp 6)
 (.seq (.reg [oX 2 (.mv (kX 0)),
 oX 3 (.mv (.const (.bool false)))])
 (.ret))
 (.skip)))))
 (.seq (.seq (.reg [oX 11 (.fa 0 (.tmp 1)),
 oX 12 (.ld1 (.tmp 11)),
 oX 13 (bK .lss 12 1),
 vX 14 13,
 ⟨(some 15),.fa 0 (.tmp 1),(some (14,false))⟩,
 ⟨(some 16),.ld1 (.tmp 15),(some (14,false))⟩,
 ⟨(some 17),bK .gtr 16 12,(some (14,false))⟩,
 oX 18 (.pick (.tmp 14) (.const (.bool true)) (.tmp 17))])
 (.cond (.tmp 18)
 (.seq (.reg [oX 2 (.mv (kX 0)),
 oX 3 (.mv (.const (.bool false)))])
 (.ret))
 (.skip)))
 (.seq (.reg [oX 19 (.fa 4 (.tmp 1)),
 oX 20 (.ld1 (.tmp 19)),
 vX 2 20,
 oX 3 (.mv (.const (.bool true)))])
 (.ret))))
theorem k105 : fnOk Tryz.prog 105 = some (M105, [.t 2, .t 3], 21) := by kernel_rfl

theorem c_Writes (i : Ins) (h : K (.tuple #[.int .i64 (wrtR i), .bool (wrt i)]) H) : HCalls Tryz.prog w0 105 [i.v] H K := by
  unfold Ins.v Ins.row
  refine HL.hc k105 999 ?_; unfold M105
  (all_goals (try simp only [S0,putAt,List.replicate,Int.reduceAdd,Int.reduceSub,Int.reduceMul,Int.reduceTDiv,Int.reduceTMod,Int.reduceMod,Int.reduceDiv,Nat.reduceLT,Nat.reduceEqDiff,Int.reduceLE,Int.reduceLT,Int.reduceToNat,Int.reduceNeg,Int.reduceEq,Nat.reduceLeDiff,Nat.reducePow,Int.reducePow,reduceIte,Nat.reduceSub,Nat.reduceAdd,Nat.reduceMul, *])); repeat' ((first | (with_reducible refine fun _ : True => ?_) | (with_reducible refine any_h ?_) | ((first | refine AllocQ_i ?_ | refine AllocO_i ?_); intro bk hb0 hbk; try simp only [set_none'] at hbk) | ((first | refine condS_i ?_ ?_ | refine pick_i ?_ ?_ | refine gS_it ?_ ?_ | refine gS_if ?_ ?_ | refine gP_it ?_ ?_ | refine gP_if ?_ ?_) <;> (intro hc; try simp only [Int.reduceLE,Int.reduceLT,Int.reduceEq,Sn] at hc; try (exfalso; omega))) | (with_reducible refine KP_i ?_ ?_; · exact aE) | (with_reducible refine And.intro ?_ ?_)) <;> (try simp only [S0,putAt,List.replicate,Int.reduceAdd,Int.reduceSub,Int.reduceMul,Int.reduceTDiv,Int.reduceTMod,Int.reduceMod,Int.reduceDiv,Nat.reduceLT,Nat.reduceEqDiff,Int.reduceLE,Int.reduceLT,Int.reduceToNat,Int.reduceNeg,Int.reduceEq,Nat.reduceLeDiff,Nat.reducePow,Int.reducePow,reduceIte,Nat.reduceSub,Nat.reduceAdd,Nat.reduceMul, *]))
  all_goals (have e : wrt i = false ∨ wrt i = true := by cases wrt i <;> simp)
  all_goals (rcases e with e | e <;> have e' := e <;> unfold wrt at e' <;> simp at e' <;> first | (exfalso; omega) | (unfold wrtR at h; simp only [e, if_true, if_false, Bool.false_eq_true] at h; exact Fin_mk aE h))
/-- A slice of integers that a call has made. -/
abbrev IB (w0 : World) (H G : Heap) (a : Option Addr) (c : Nat) (l : List Int) : Prop := Bld w0 H G a c 1 3 (l.map fun x => .int .i64 x)
theorem IB.mk {b c : Nat} {l : List Int} {z : List Value} {x : Blk} (h1 : w0.heap.size ≤ b) (h2 : H b = none) {G : Heap} (h3 : G b = some x) (e : x = ⟨.t 3, (l.map fun x => .int .i64 x) ++ z⟩) (h4 : l.length + z.length = c) : IB w0 H G (some ⟨b, 0, none⟩) c l :=
  .inl ⟨b, z, rfl, h1, h2, by rw [h3, e], by simpa using h4⟩
theorem ib_of {i : Ins} {l : List Int} (hk : ∀ a c G, IB w0 H G a c (reads i) → Grow w0 H G → K (.slice a (reads i).length c) G) (e : reads i = l) {b m c : Nat} (z : List Value) {x : Blk} (hm : l.length = m) (h1 : w0.heap.size ≤ b) (h2 : H b = none) {G : Heap} (h3 : G b = some x)
    (ex : x = ⟨.t 3, (l.map fun x => .int .i64 x) ++ z⟩) (h4 : l.length + z.length = c) (g : Grow w0 H G) : HL.Fin K (.slice (some ⟨b, 0, none⟩) m c) G := by
  subst e hm
  exact Fin_mk (Heap.Le.refl _) (hk _ _ _ (IB.mk h1 h2 h3 ex h4) g)
theorem ib_nil {i : Ins} (hk : ∀ a c G, IB w0 H G a c (reads i) → Grow w0 H G → K (.slice a (reads i).length c) G) (e : reads i = []) {G : Heap} (g : Grow w0 H G) : HL.Fin K (.slice none 0 0) G := by
  have := hk none 0 G (by rw [e]; exact Bld.none) g
  rw [e] at this
  exact Fin_mk (Heap.Le.refl _) this
/- code Reads -/
def M106 : MC :=
  .seq (.reg [oX 1 (.box 46 (.tmp 0)),
 oX 2 (.mv (.const (.slice none 0 0)))])
 (.seq (.seq (.reg [oX 4 (.fa 0 (.tmp 1)),
 oX 5 (.ld1 (.tmp 4))])
 (.block 0 (.seq (.seq (.reg [oX 7 (bK .eql 5 2),
 vX 6 7])
 (.cond (.tmp 6)
 (.skip)
 (.seq (.reg [oX 8 (bK .eql 5 6),
 vX 6 8])
 (.cond (.tmp 6)
 (.skip)
 (.reg [oX 9 (bK .eql 5 8),
 vX 6 9])))))
 (.cond (.tmp 6)
 (.seq (.reg [oX 10 (.fa 5 (.tmp 1)),
 oX 11 (.ld1 (.tmp 10)),
 oX 12 (.bslice 3 1 [(.int .i64 0)] [(0,1,(.tmp 11))]),
 vX 2 12])
 (.ret))
 (.seq (.seq (.reg [oX 14 (bK .eql 5 4),
 vX 13 14])
 (.cond (.tmp 13)
 (.skip)
 (.reg [oX 15 (bK .eql 5 11),
 vX 13 15])))
 (.cond (.tmp 13)
 (.seq (.reg [oX 16 (.fa 6 (.tmp 1)),
 oX 17 (.ld1 (.tmp 16)),
 oX 18 (.bslice 3 1 [(.int .i64 0)] [(0,1,(.tmp 17))]),
 vX 2 18])
 (.ret))
 (.seq (.reg [oX 20 (bK .eql 5 5),
 vX 19 20])
 (.cond (.tmp 19)
 (.seq (.reg [oX 21 (.fa 5 (.tmp 1)),
 oX 22 (.ld1 (.tmp 21)),
 oX 23 (.fa 6 (.tmp 1)),
 oX 24 (.ld1 (.tmp 23)),
 oX 25 (.fa 7 (.tmp 1)),
 oX 26 (.ld1 (.tmp 25)),
 oX 27 (.bslice 3 3 [(.int .i64 0),(.int .i64 0),(.int .i64 0)] [(0,1,(.tmp 22)),(1,1,(.tmp 24)),(2,1,(.tmp 26))]),
 vX 3 27])
 (.seq (.reg [vX 28 3,
 oX 29 (.fa 1 (.tmp 1)),
 oX 30 (.ld1 (.tmp 29)),
 oX 31 (.fa 2 (.tmp 1)),
 oX 32 (.ld1 (.tmp 31)),
 oX 33 (.call 43 [(.tmp 30),(.tmp 32)]),
 oX 34 (.slc 1 (.tmp 28) none (some (.tmp 33))),
 vX 2 34])
 (.ret)))
 (.seq (.reg [oX 36 (bK .eql 5 7),
 vX 35 36])
 (.cond (.tmp 35)
 (.seq (.reg [oX 37 (.fa 5 (.tmp 1)),
 oX 38 (.ld1 (.tmp 37)),
 oX 39 (.fa 4 (.tmp 1)),
 oX 40 (.ld1 (.tmp 39)),
 oX 41 (.bslice 3 2 [(.int .i64 0),(.int .i64 0)] [(0,1,(.tmp 38)),(1,1,(.tmp 40))]),
 vX 2 41])
 (.ret))
 (.seq (.reg [oX 43 (bK .eql 5 9),
 vX 42 43])
 (.cond (.tmp 42)
 (.seq (.reg [oX 44 (.fa 5 (.tmp 1)),
 oX 45 (.ld1 (.tmp 44)),
 oX 46 (.fa 6 (.tmp 1)),
 oX 47 (.ld1 (.tmp 46)),
 oX 48 (.bslice 3 2 [(.int .i64 0),(.int .i64 0)] [(0,1,(.tmp 45)),(1,1,(.tmp 47))]),
 vX 2 48])
 (.ret))
 (.skip)))))))))))))
 (.seq (.reg [oX 2 (.mv (.const (.slice none 0 0)))])
 (.ret)))
theorem k106 : fnOk Tryz.prog 106 = some (M106, [.t 2], 49) := by kernel_rfl

theorem c_Reads (i : Ins) (h : ∀ a c G, IB w0 H G a c (reads i) → Grow w0 H G → K (.slice a (reads i).length c) G) : HCalls Tryz.prog w0 106 [i.v] H K := by
  have ha := args_le i.fn i.bs
  have hr := h
  obtain ⟨n, en⟩ : ∃ n, args i.fn i.bs = n := ⟨_, rfl⟩
  rw [en] at ha
  have eR : reads i = (if i.op = 2 ∨ i.op = 6 ∨ i.op = 8 then [i.a]
  else if i.op = 4 ∨ i.op = 11 then [i.b]
  else if i.op = 5 then [i.a, i.b, i.c].take n.toNat
  else if i.op = 7 then [i.a, i.dst]
  else if i.op = 9 then [i.a, i.b]
  else []) := by rw [← en]; rfl
  unfold Ins.v Ins.row
  replace hr : Keep _ := hr
  replace eR : Keep _ := eR
  clear h
  refine HL.hc k106 999 ?_; unfold M106
  (all_goals (try simp only [S0,putAt,List.replicate,Int.reduceAdd,Int.reduceSub,Int.reduceMul,Int.reduceTDiv,Int.reduceTMod,Int.reduceMod,Int.reduceDiv,Nat.reduceLT,Nat.reduceEqDiff,Int.reduceLE,Int.reduceLT,Int.reduceToNat,Int.reduceNeg,Int.reduceEq,Nat.reduceLeDiff,Nat.reducePow,Int.reducePow,reduceIte,Nat.reduceSub,Nat.reduceAdd,Nat.reduceMul, *])); repeat' ((first | (with_reducible refine fun _ : True => ?_) | refine c_Args _ _ ?_ | (with_reducible refine any_h ?_) | ((first | refine AllocQ_i ?_ | refine AllocO_i ?_); intro bk hb0 hbk; try simp only [set_none'] at hbk) | ((first | refine condS_i ?_ ?_ | refine pick_i ?_ ?_ | refine gS_it ?_ ?_ | refine gS_if ?_ ?_ | refine gP_it ?_ ?_ | refine gP_if ?_ ?_) <;> (intro hc; try simp only [Int.reduceLE,Int.reduceLT,Int.reduceEq,Sn] at hc; try (exfalso; omega))) | (with_reducible refine KP_i ?_ ?_; · exact aE) | (with_reducible refine And.intro ?_ ?_)) <;> (try simp only [S0,putAt,List.replicate,Int.reduceAdd,Int.reduceSub,Int.reduceMul,Int.reduceTDiv,Int.reduceTMod,Int.reduceMod,Int.reduceDiv,Nat.reduceLT,Nat.reduceEqDiff,Int.reduceLE,Int.reduceLT,Int.reduceToNat,Int.reduceNeg,Int.reduceEq,Nat.reduceLeDiff,Nat.reducePow,Int.reducePow,reduceIte,Nat.reduceSub,Nat.reduceAdd,Nat.reduceMul, *]))
  all_goals have e0 : ∀ l, (Keep (reads i = _) → reads i = l) → reads i = l := fun l f => f eR
  all_goals first
    | (refine ib_of hr (l := [i.a]) (e0 _ fun e => ?_) [] rfl hb0 hbk.2 (Heap.set_same _ _ _) rfl rfl aG; (rw [show reads i = _ from e]; (repeat' split) <;> first | rfl | (exfalso; omega)); done)
    | (refine ib_of hr (l := [i.b]) (e0 _ fun e => ?_) [] rfl hb0 hbk.2 (Heap.set_same _ _ _) rfl rfl aG; (rw [show reads i = _ from e]; (repeat' split) <;> first | rfl | (exfalso; omega)); done)
    | (refine ib_of hr (l := [i.a, i.dst]) (e0 _ fun e => ?_) [] rfl hb0 hbk.2 (Heap.set_same _ _ _) rfl rfl aG; (rw [show reads i = _ from e]; (repeat' split) <;> first | rfl | (exfalso; omega)); done)
    | (refine ib_of hr (l := [i.a, i.b]) (e0 _ fun e => ?_) [] rfl hb0 hbk.2 (Heap.set_same _ _ _) rfl rfl aG; (rw [show reads i = _ from e]; (repeat' split) <;> first | rfl | (exfalso; omega)); done)
    | (have e1 : n = 0 ∨ n = 1 ∨ n = 2 ∨ n = 3 := by omega
       have e5 : reads i = [i.a, i.b, i.c].take n.toNat := e0 _ fun e => by
         rw [show reads i = _ from e]; (repeat' split) <;> first | rfl | (exfalso; omega)
       rcases e1 with rfl | rfl | rfl | rfl
       · exact ib_of hr (l := []) e5 [.int .i64 i.a, .int .i64 i.b, .int .i64 i.c] rfl hb0 hbk.2 (Heap.set_same _ _ _) rfl rfl aG
       · exact ib_of hr (l := [i.a]) e5 [.int .i64 i.b, .int .i64 i.c] rfl hb0 hbk.2 (Heap.set_same _ _ _) rfl rfl aG
       · exact ib_of hr (l := [i.a, i.b]) e5 [.int .i64 i.c] rfl hb0 hbk.2 (Heap.set_same _ _ _) rfl rfl aG
       · exact ib_of hr (l := [i.a, i.b, i.c]) e5 [] rfl hb0 hbk.2 (Heap.set_same _ _ _) rfl rfl aG)
    | (have e5 : reads i = [] := e0 _ fun e => by
         rw [show reads i = _ from e]; (repeat' split) <;> first | rfl | (exfalso; omega)
       exact ib_nil hr e5 aG)
end Go.Proofs.YtdmnfaefakceiaaGreat
