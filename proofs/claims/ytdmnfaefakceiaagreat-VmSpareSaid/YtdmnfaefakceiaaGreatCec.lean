/- keep (layer 18). -/
import Derived.Test.YtdmnfaefakceiaaGreatCeb
set_option linter.unusedSimpArgs false
set_option linter.unusedVariables false
set_option maxRecDepth 100000
set_option maxHeartbeats 4000000
namespace Go.Proofs.YtdmnfaefakceiaaGreat
open Go.HL Go.RowKit Pb
variable {w0 : World} {H : Heap} {K : Value → Heap → Prop}

/-- An instruction with just the fields that its op uses. -/
def keepI (i : Ins) : Ins :=
  if i.op = 1 then ⟨i.op, 0, 0, 0, i.dst, 0, 0, 0, i.m0, i.m1, i.m2, i.m3, 0, 0, 0, 0⟩
  else if i.op = 2 then ⟨i.op, 0, 0, 0, i.dst, i.a, 0, 0, 0, 0, 0, 0, 0, 0, 0, 0⟩
  else if i.op = 10 then ⟨i.op, 0, 0, 0, 0, i.a, 0, 0, 0, 0, 0, 0, 0, 0, 0, 0⟩
  else if i.op = 3 then ⟨i.op, i.fn, 0, 0, i.dst, i.a, 0, 0, 0, 0, 0, 0, 0, 0, 0, 0⟩
  else if i.op = 4 then ⟨i.op, i.fn, 0, 0, 0, i.a, i.b, 0, 0, 0, 0, 0, 0, 0, 0, 0⟩
  else if i.op = 5 then ⟨i.op, i.fn, i.bs, i.n, i.dst, if 1 ≤ args i.fn i.bs then i.a else 0, if 2 ≤ args i.fn i.bs then i.b else 0, if 3 ≤ args i.fn i.bs then i.c else 0, 0, 0, 0, 0, 0, 0, 0, 0⟩
  else if i.op = 6 ∨ i.op = 7 then ⟨i.op, 0, 0, i.n, i.dst, i.a, 0, 0, 0, 0, 0, 0, i.p0, i.p1, i.p2, i.p3⟩
  else if i.op = 8 then ⟨i.op, i.fn, i.bs, i.n, i.dst, i.a, 0, 0, 0, 0, 0, 0, 0, 0, 0, 0⟩
  else if i.op = 9 then ⟨i.op, 0, 0, 0, i.dst, i.a, i.b, 0, 0, 0, 0, 0, 0, 0, 0, 0⟩
  else if i.op = 11 then ⟨i.op, 0, 0, 0, 0, i.a, i.b, 0, 0, 0, 0, 0, 0, 0, 0, 0⟩
  else ⟨i.op, 0, 0, 0, 0, 0, 0, 0, 0, 0, 0, 0, 0, 0, 0, 0⟩
/- code keep -/
def M52 : MC :=
  .seq (.reg [oX 1 (.box 46 (.tmp 0)),
 oX 2 (.alloc 46 [(.int .i64 0),(.int .i64 0),(.int .i64 0),(.int .i64 0),(.int .i64 0),(.int .i64 0),(.int .i64 0),(.int .i64 0),(.int .i32 0),(.int .i32 0),(.int .i32 0),(.int .i32 0),(.int .i64 0),(.int .i64 0),(.int .i64 0),(.int .i64 0)])])
 (.seq (.reg [oX 6 (.fa 0 (.tmp 1)),
 oX 7 (.ld1 (.tmp 6)),
 oX 8 (.build [(.int .i64 0),(.int .i64 0),(.int .i64 0),(.int .i64 0),(.int .i64 0),(.int .i64 0),(.int .i64 0),(.int .i64 0),(.int .i32 0),(.int .i32 0),(.int .i32 0),(.int .i32 0),(.int .i64 0),(.int .i64 0),(.int .i64 0),(.int .i64 0)] [(0,1,(.tmp 7))]),
 oX 3 (.alloc 46 [(.int .i64 0),(.int .i64 0),(.int .i64 0),(.int .i64 0),(.int .i64 0),(.int .i64 0),(.int .i64 0),(.int .i64 0),(.int .i32 0),(.int .i32 0),(.int .i32 0),(.int .i32 0),(.int .i64 0),(.int .i64 0),(.int .i64 0),(.int .i64 0)]),
 ⟨none,.stn 16 (.tmp 3) (.tmp 8),none⟩])
 (.seq (.reg [oX 10 (.ldn 16 (.tmp 1)),
 oX 11 (.call 105 [(.tmp 10)]),
 vX 9 11,
 oX 12 (.ext 0 (.tmp 9)),
 oX 13 (.ext 1 (.tmp 9)),
 oX 14 (.fa 4 (.tmp 3)),
 ⟨none,.st1 (.tmp 14) (.tmp 12),none⟩])
 (.seq (.seq (.reg [oX 15 (.fa 0 (.tmp 1)),
 oX 16 (.ld1 (.tmp 15))])
 (.block 0 (.seq (.reg [oX 18 (bK .eql 16 1),
 vX 17 18])
 (.cond (.tmp 17)
 (.reg [oX 19 (.fa 8 (.tmp 1)),
 oX 20 (.ldn 4 (.tmp 19)),
 oX 21 (.fa 8 (.tmp 3)),
 ⟨none,.stn 4 (.tmp 21) (.tmp 20),none⟩])
 (.seq (.seq (.reg [oX 23 (bK .eql 16 2),
 vX 22 23])
 (.cond (.tmp 22)
 (.skip)
 (.reg [oX 24 (bK .eql 16 10),
 vX 22 24])))
 (.cond (.tmp 22)
 (.reg [oX 25 (.fa 5 (.tmp 1)),
 oX 26 (.ld1 (.tmp 25)),
 oX 27 (.fa 5 (.tmp 3)),
 ⟨none,.st1 (.tmp 27) (.tmp 26),none⟩])
 (.seq (.reg [oX 29 (bK .eql 16 3),
 vX 28 29])
 (.cond (.tmp 28)
 (.any [(true,0,[],oX 30 (.fa 1 (.tmp 1))),
 (true,1,[],oX 31 (.ld1 (.tmp 30))),
 (true,2,[],oX 32 (.fa 5 (.tmp 1))),
 (true,3,[],oX 33 (.ld1 (.tmp 32))),
 (false,4,[2,3],oX 34 (.fa 1 (.tmp 3))),
 (false,5,[2,3],⟨none,.st1 (.tmp 34) (.tmp 31),none⟩),
 (false,6,[],oX 35 (.fa 5 (.tmp 3))),
 (false,7,[],⟨none,.st1 (.tmp 35) (.tmp 33),none⟩)])
 (.seq (.reg [oX 37 (bK .eql 16 4),
 vX 36 37])
 (.cond (.tmp 36)
 (.any [(true,0,[],oX 38 (.fa 1 (.tmp 1))),
 (true,1,[],oX 39 (.ld1 (.tmp 38))),
 (true,2,[],oX 40 (.fa 5 (.tmp 1))),
 (true,3,[],oX 41 (.ld1 (.tmp 40))),
 (true,4,[],oX 42 (.fa 6 (.tmp 1))),
 (true,5,[],oX 43 (.ld1 (.tmp 42))),
 (false,6,[2,3,4,5],oX 44 (.fa 1 (.tmp 3))),
 (false,7,[2,3,4,5],⟨none,.st1 (.tmp 44) (.tmp 39),none⟩),
 (false,8,[4,5],oX 45 (.fa 5 (.tmp 3))),
 (false,9,[4,5],⟨none,.st1 (.tmp 45) (.tmp 41),none⟩),
 (false,10,[],oX 46 (.fa 6 (.tmp 3))),
 (false,11,[],⟨none,.st1 (.tmp 46) (.tmp 43),none⟩)])
 (.seq (.reg [oX 48 (bK .eql 16 5),
 vX 47 48])
 (.cond (.tmp 47)
 (.seq (.any [(true,0,[],oX 49 (.fa 1 (.tmp 1))),
 (true,1,[],oX 50 (.ld1 (.tmp 49))),
 (true,2,[],oX 51 (.fa 2 (.tmp 1))),
 (true,3,[],oX 52 (.ld1 (.tmp 51))),
 (true,4,[],oX 53 (.fa 3 (.tmp 1))),
 (true,5,[],oX 54 (.ld1 (.tmp 53))),
 (false,6,[2,3,4,5],oX 55 (.fa 1 (.tmp 3))),
 (false,7,[2,3,4,5],⟨none,.st1 (.tmp 55) (.tmp 50),none⟩),
 (false,8,[4,5],oX 56 (.fa 2 (.tmp 3))),
 (false,9,[4,5],⟨none,.st1 (.tmp 56) (.tmp 52),none⟩),
 (false,10,[],oX 57 (.fa 3 (.tmp 3))),
 (false,11,[],⟨none,.st1 (.tmp 57) (.tmp 54),none⟩)])
 (.seq (.reg [oX 58 (.ldn 16 (.tmp 1)),
 oX 59 (.call 106 [(.tmp 58)]),
 oX 60 (.len (.tmp 59)),
 oX 61 (.mv (kX 0))])
 (.block 1 (.loop (.seq (.reg [oX 62 (bX .lss 61 60)])
 (.seq (.cond (.tmp 62)
 (.skip)
 (.exit 1))
 (.seq (.block 2 (.seq (.reg [vX 63 61,
 oX 64 (.is 1 (.tmp 59) (.tmp 61)),
 oX 65 (.ld1 (.tmp 64)),
 vX 4 63,
 vX 5 65])
 (.reg [oX 66 (.fa 5 (.tmp 3)),
 oX 67 (.fa 6 (.tmp 3)),
 oX 68 (.fa 7 (.tmp 3)),
 oX 69 (.bslice 122 3 [(.pointer none),(.pointer none),(.pointer none)] [(0,1,(.tmp 66)),(1,1,(.tmp 67)),(2,1,(.tmp 68))]),
 vX 70 4,
 oX 71 (.is 1 (.tmp 69) (.tmp 70)),
 oX 72 (.ld1 (.tmp 71)),
 vX 73 5,
 oX 74 (.nilc (.tmp 72)),
 ⟨none,.st1 (.tmp 74) (.tmp 73),none⟩])))
 (.reg [oX 75 (bK .add 61 1),
 vX 61 75]))))))))
 (.seq (.seq (.reg [oX 77 (bK .eql 16 6),
 vX 76 77])
 (.cond (.tmp 76)
 (.skip)
 (.reg [oX 78 (bK .eql 16 7),
 vX 76 78])))
 (.cond (.tmp 76)
 (.any [(true,0,[],oX 79 (.fa 5 (.tmp 1))),
 (true,1,[],oX 80 (.ld1 (.tmp 79))),
 (true,2,[],oX 81 (.fa 3 (.tmp 1))),
 (true,3,[],oX 82 (.ld1 (.tmp 81))),
 (true,4,[],oX 83 (.fa 12 (.tmp 1))),
 (true,5,[],oX 84 (.ldn 4 (.tmp 83))),
 (false,6,[2,3,4,5],oX 85 (.fa 5 (.tmp 3))),
 (false,7,[2,3,4,5],⟨none,.st1 (.tmp 85) (.tmp 80),none⟩),
 (false,8,[4,5],oX 86 (.fa 3 (.tmp 3))),
 (false,9,[4,5],⟨none,.st1 (.tmp 86) (.tmp 82),none⟩),
 (false,10,[],oX 87 (.fa 12 (.tmp 3))),
 (false,11,[],⟨none,.stn 4 (.tmp 87) (.tmp 84),none⟩)])
 (.seq (.reg [oX 89 (bK .eql 16 8),
 vX 88 89])
 (.cond (.tmp 88)
 (.any [(true,0,[],oX 90 (.fa 5 (.tmp 1))),
 (true,1,[],oX 91 (.ld1 (.tmp 90))),
 (true,2,[],oX 92 (.fa 3 (.tmp 1))),
 (true,3,[],oX 93 (.ld1 (.tmp 92))),
 (true,4,[],oX 94 (.fa 2 (.tmp 1))),
 (true,5,[],oX 95 (.ld1 (.tmp 94))),
 (true,6,[],oX 96 (.fa 1 (.tmp 1))),
 (true,7,[],oX 97 (.ld1 (.tmp 96))),
 (false,8,[2,3,4,5,6,7],oX 98 (.fa 5 (.tmp 3))),
 (false,9,[2,3,4,5,6,7],⟨none,.st1 (.tmp 98) (.tmp 91),none⟩),
 (false,10,[4,5,6,7],oX 99 (.fa 3 (.tmp 3))),
 (false,11,[4,5,6,7],⟨none,.st1 (.tmp 99) (.tmp 93),none⟩),
 (false,12,[6,7],oX 100 (.fa 2 (.tmp 3))),
 (false,13,[6,7],⟨none,.st1 (.tmp 100) (.tmp 95),none⟩),
 (false,14,[],oX 101 (.fa 1 (.tmp 3))),
 (false,15,[],⟨none,.st1 (.tmp 101) (.tmp 97),none⟩)])
 (.seq (.seq (.reg [oX 103 (bK .eql 16 9),
 vX 102 103])
 (.cond (.tmp 102)
 (.skip)
 (.reg [oX 104 (bK .eql 16 11),
 vX 102 104])))
 (.cond (.tmp 102)
 (.any [(true,0,[],oX 105 (.fa 5 (.tmp 1))),
 (true,1,[],oX 106 (.ld1 (.tmp 105))),
 (true,2,[],oX 107 (.fa 6 (.tmp 1))),
 (true,3,[],oX 108 (.ld1 (.tmp 107))),
 (false,4,[2,3],oX 109 (.fa 5 (.tmp 3))),
 (false,5,[2,3],⟨none,.st1 (.tmp 109) (.tmp 106),none⟩),
 (false,6,[],oX 110 (.fa 6 (.tmp 3))),
 (false,7,[],⟨none,.st1 (.tmp 110) (.tmp 108),none⟩)])
 (.skip)))))))))))))))))))
 (.seq (.reg [oX 111 (.ldn 16 (.tmp 3)),
 ⟨none,.stn 16 (.tmp 2) (.tmp 111),none⟩])
 (.ret)))))
theorem k52 : fnOk Tryz.prog 52 = some (M52, [.cn 16 2], 112) := by kernel_rfl

theorem blk_ne {G : Heap} {b : Nat} {x : Blk} (h : G b = some x) : ∀ c, G c = none → c ≠ b ∧ b ≠ c := fun c hc => ⟨fun e => (by subst e; rw [h] at hc; cases hc), fun e => (by subst e; rw [h] at hc; cases hc)⟩
theorem any_blk {rec : List It → List Value → Heap → Prop} {H : Heap} {k : List It} {T : List Value} {f : (Nat → Heap) → It} {b : Nat} {x : Blk} (e : H b = some x) (h : rec (f (fun _ => noneH.set b x) :: k) T H) : AnyQ rec f k T H := ⟨_, fun _ => Le_put Le_none e, h⟩
section
variable {op fn bs n dst a b c m0 m1 m2 m3 p0 p1 p2 p3 : Int}
theorem keep_a (h : K (keepI ⟨op, fn, bs, n, dst, a, b, c, m0, m1, m2, m3, p0, p1, p2, p3⟩).v H) (ho : op = 1 ∨ op = 2 ∨ op = 10 ∨ op = 3 ∨ op = 4 ∨ op = 6 ∨ op = 7 ∨ op = 8 ∨ op = 9 ∨ op = 11 ∨ (op < 1 ∨ 11 < op)) :
    HCalls Tryz.prog w0 52 [(⟨op, fn, bs, n, dst, a, b, c, m0, m1, m2, m3, p0, p1, p2, p3⟩ : Ins).v] H K := by
  have hw := fun (G : Heap) (K : Value → Heap → Prop) => c_Writes (w0 := w0) (H := G) (K := K) ⟨op, fn, bs, n, dst, a, b, c, m0, m1, m2, m3, p0, p1, p2, p3⟩
  unfold Ins.v Ins.row keepI at h
  unfold Ins.v Ins.row at hw ⊢
  unfold wrtR wrt at hw
  simp only at h hw
  rcases ho with rfl | rfl | rfl | rfl | rfl | rfl | rfl | rfl | rfl | rfl | ho
  all_goals try (simp only [Int.reduceEq, or_true, true_or, or_false, false_or, or_self, decide_true, decide_false, if_true, if_false, Bool.false_eq_true] at h hw)
  all_goals try
    have o1 : ¬ op = 1 := by omega
    have o2 : ¬ op = 2 := by omega
    have o3 : ¬ op = 3 := by omega
    have o4 : ¬ op = 4 := by omega
    have o5 : ¬ op = 5 := by omega
    have o6 : ¬ op = 6 := by omega
    have o7 : ¬ op = 7 := by omega
    have o8 : ¬ op = 8 := by omega
    have o9 : ¬ op = 9 := by omega
    have o10 : ¬ op = 10 := by omega
    have o11 : ¬ op = 11 := by omega
    simp only [o1, o2, o3, o4, o5, o6, o7, o8, o9, o10, o11, or_self, decide_false, if_false, Bool.false_eq_true] at h hw
    clear ho
  all_goals replace hw : Keep _ := hw
  all_goals refine HL.hc k52 999 ?_; unfold M52
  all_goals simp only [S0,putAt,List.replicate,Int.reduceAdd,Int.reduceSub,Int.reduceMul,Int.reduceTDiv,Int.reduceTMod,Int.reduceMod,Int.reduceDiv,Nat.reduceLT,Nat.reduceEqDiff,Int.reduceLE,Int.reduceLT,Int.reduceToNat,Int.reduceNeg,Int.reduceEq,Nat.reduceLeDiff,Nat.reducePow,Int.reducePow,reduceIte,Nat.reduceSub,Nat.reduceAdd,Nat.reduceMul, *]
  all_goals (refine AllocQ_i ?_; intro b1 hb1 hn1)
  all_goals (all_goals (try simp only [S0,putAt,List.replicate,Int.reduceAdd,Int.reduceSub,Int.reduceMul,Int.reduceTDiv,Int.reduceTMod,Int.reduceMod,Int.reduceDiv,Nat.reduceLT,Nat.reduceEqDiff,Int.reduceLE,Int.reduceLT,Int.reduceToNat,Int.reduceNeg,Int.reduceEq,Nat.reduceLeDiff,Nat.reducePow,Int.reducePow,reduceIte,Nat.reduceSub,Nat.reduceAdd,Nat.reduceMul, *])); repeat' ((first | (with_reducible refine fun _ : True => ?_) | refine hw _ _ ?_ | ((first | refine AllocQ_i ?_ | refine AllocO_i ?_); intro bk hb0 hbk; (try simp only [set_none'] at hbk); (try have hbn := aNn); (try simp only [set_none'] at hbn); (try have hbm := aNm); (try simp only [set_none'] at hbm)) | ((first | refine condS_i ?_ ?_ | refine pick_i ?_ ?_ | refine gS_it ?_ ?_ | refine gS_if ?_ ?_ | refine gP_it ?_ ?_ | refine gP_if ?_ ?_) <;> (intro hc; try simp only [Int.reduceLE,Int.reduceLT,Int.reduceEq,Sn] at hc)) | (with_reducible refine KP_i ?_ ?_; · exact aL) | (with_reducible refine And.intro ?_ ?_)) <;> (try simp only [S0,putAt,List.replicate,Int.reduceAdd,Int.reduceSub,Int.reduceMul,Int.reduceTDiv,Int.reduceTMod,Int.reduceMod,Int.reduceDiv,Nat.reduceLT,Nat.reduceEqDiff,Int.reduceLE,Int.reduceLT,Int.reduceToNat,Int.reduceNeg,Int.reduceEq,Nat.reduceLeDiff,Nat.reducePow,Int.reducePow,reduceIte,Nat.reduceSub,Nat.reduceAdd,Nat.reduceMul, *]))
  all_goals try (apply any_blk (b := b1); focus (simp only [Heap.set_same, set_ne, ne_eq, not_false_eq_true, *] <;> rfl))
  all_goals (all_goals (try simp only [S0,putAt,List.replicate,Int.reduceAdd,Int.reduceSub,Int.reduceMul,Int.reduceTDiv,Int.reduceTMod,Int.reduceMod,Int.reduceDiv,Nat.reduceLT,Nat.reduceEqDiff,Int.reduceLE,Int.reduceLT,Int.reduceToNat,Int.reduceNeg,Int.reduceEq,Nat.reduceLeDiff,Nat.reducePow,Int.reducePow,reduceIte,Nat.reduceSub,Nat.reduceAdd,Nat.reduceMul, *])); repeat' ((first | (with_reducible refine fun _ : True => ?_) | (with_reducible refine any_h ?_) | ((first | refine AllocQ_i ?_ | refine AllocO_i ?_); intro bk hb0 hbk; (try simp only [set_none'] at hbk); (try have hbn := aNn); (try simp only [set_none'] at hbn); (try have hbm := aNm); (try simp only [set_none'] at hbm)) | ((first | refine condS_i ?_ ?_ | refine pick_i ?_ ?_ | refine gS_it ?_ ?_ | refine gS_if ?_ ?_ | refine gP_it ?_ ?_ | refine gP_if ?_ ?_) <;> (intro hc; try simp only [Int.reduceLE,Int.reduceLT,Int.reduceEq,Sn] at hc)) | (with_reducible refine KP_i ?_ ?_; · exact aL) | (with_reducible refine And.intro ?_ ?_)) <;> (try simp only [S0,putAt,List.replicate,Int.reduceAdd,Int.reduceSub,Int.reduceMul,Int.reduceTDiv,Int.reduceTMod,Int.reduceMod,Int.reduceDiv,Nat.reduceLT,Nat.reduceEqDiff,Int.reduceLE,Int.reduceLT,Int.reduceToNat,Int.reduceNeg,Int.reduceEq,Nat.reduceLeDiff,Nat.reducePow,Int.reducePow,reduceIte,Nat.reduceSub,Nat.reduceAdd,Nat.reduceMul, *]))
  all_goals exact Fin_mk aL h
theorem keep_do (h : K (keepI ⟨5, fn, bs, n, dst, a, b, c, m0, m1, m2, m3, p0, p1, p2, p3⟩).v H) :
    HCalls Tryz.prog w0 52 [(⟨5, fn, bs, n, dst, a, b, c, m0, m1, m2, m3, p0, p1, p2, p3⟩ : Ins).v] H K := by
  have hw := fun (G : Heap) (K : Value → Heap → Prop) => c_Writes (w0 := w0) (H := G) (K := K) ⟨5, fn, bs, n, dst, a, b, c, m0, m1, m2, m3, p0, p1, p2, p3⟩
  have hr := fun (G : Heap) (K : Value → Heap → Prop) => c_Reads (w0 := w0) (H := G) (K := K) ⟨5, fn, bs, n, dst, a, b, c, m0, m1, m2, m3, p0, p1, p2, p3⟩
  obtain ⟨m, em⟩ : ∃ m, args fn bs = m := ⟨_, rfl⟩
  have hm := args_le fn bs
  rw [em] at hm
  have er : reads ⟨5, fn, bs, n, dst, a, b, c, m0, m1, m2, m3, p0, p1, p2, p3⟩ = [a, b, c].take m.toNat := by rw [← em]; rfl
  rw [er] at hr
  unfold Ins.v Ins.row keepI at h
  unfold Ins.v Ins.row at hw hr ⊢
  unfold wrtR wrt at hw
  simp only [em] at h hw hr
  have hm' : m = 0 ∨ m = 1 ∨ m = 2 ∨ m = 3 := by omega
  clear hm er em
  rcases hm' with rfl | rfl | rfl | rfl
  all_goals try (simp only [Int.reduceEq, Int.reduceLE, or_true, true_or, or_false, false_or, or_self, decide_true, decide_false, if_true, if_false, Bool.false_eq_true, Int.reduceToNat, List.take_zero, List.take_succ_cons, List.map_cons, List.map_nil, List.length_cons, List.length_nil, Nat.reduceAdd] at h hw hr)
  all_goals replace hw : Keep _ := hw
  all_goals replace hr : Keep _ := hr
  all_goals refine HL.hc k52 999 ?_; unfold M52
  all_goals simp only [S0,putAt,List.replicate,Int.reduceAdd,Int.reduceSub,Int.reduceMul,Int.reduceTDiv,Int.reduceTMod,Int.reduceMod,Int.reduceDiv,Nat.reduceLT,Nat.reduceEqDiff,Int.reduceLE,Int.reduceLT,Int.reduceToNat,Int.reduceNeg,Int.reduceEq,Nat.reduceLeDiff,Nat.reducePow,Int.reducePow,reduceIte,Nat.reduceSub,Nat.reduceAdd,Nat.reduceMul, *]
  all_goals (refine AllocQ_i ?_; intro b1 hb1 hn1)
  all_goals (all_goals (try simp only [S0,putAt,List.replicate,Int.reduceAdd,Int.reduceSub,Int.reduceMul,Int.reduceTDiv,Int.reduceTMod,Int.reduceMod,Int.reduceDiv,Nat.reduceLT,Nat.reduceEqDiff,Int.reduceLE,Int.reduceLT,Int.reduceToNat,Int.reduceNeg,Int.reduceEq,Nat.reduceLeDiff,Nat.reducePow,Int.reducePow,reduceIte,Nat.reduceSub,Nat.reduceAdd,Nat.reduceMul, *])); repeat' ((first | (with_reducible refine fun _ : True => ?_) | refine hw _ _ ?_ | ((first | refine AllocQ_i ?_ | refine AllocO_i ?_); intro bk hb0 hbk; (try simp only [set_none'] at hbk); (try have hbn := aNn); (try simp only [set_none'] at hbn); (try have hbm := aNm); (try simp only [set_none'] at hbm)) | ((first | refine condS_i ?_ ?_ | refine pick_i ?_ ?_ | refine gS_it ?_ ?_ | refine gS_if ?_ ?_ | refine gP_it ?_ ?_ | refine gP_if ?_ ?_) <;> (intro hc; try simp only [Int.reduceLE,Int.reduceLT,Int.reduceEq,Sn] at hc)) | (with_reducible refine KP_i ?_ ?_; · exact aL) | (with_reducible refine And.intro ?_ ?_)) <;> (try simp only [S0,putAt,List.replicate,Int.reduceAdd,Int.reduceSub,Int.reduceMul,Int.reduceTDiv,Int.reduceTMod,Int.reduceMod,Int.reduceDiv,Nat.reduceLT,Nat.reduceEqDiff,Int.reduceLE,Int.reduceLT,Int.reduceToNat,Int.reduceNeg,Int.reduceEq,Nat.reduceLeDiff,Nat.reducePow,Int.reducePow,reduceIte,Nat.reduceSub,Nat.reduceAdd,Nat.reduceMul, *]))
  all_goals try (apply any_blk (b := b1); focus (simp only [Heap.set_same, set_ne, ne_eq, not_false_eq_true, *] <;> rfl))
  all_goals (all_goals (try simp only [S0,putAt,List.replicate,Int.reduceAdd,Int.reduceSub,Int.reduceMul,Int.reduceTDiv,Int.reduceTMod,Int.reduceMod,Int.reduceDiv,Nat.reduceLT,Nat.reduceEqDiff,Int.reduceLE,Int.reduceLT,Int.reduceToNat,Int.reduceNeg,Int.reduceEq,Nat.reduceLeDiff,Nat.reducePow,Int.reducePow,reduceIte,Nat.reduceSub,Nat.reduceAdd,Nat.reduceMul, *])); repeat' ((first | (with_reducible refine fun _ : True => ?_) | refine hr _ _ (fun ra rc G hB hg => ?_)  | (with_reducible refine any_h ?_) | ((first | refine AllocQ_i ?_ | refine AllocO_i ?_); intro bk hb0 hbk; (try simp only [set_none'] at hbk); (try have hbn := aNn); (try simp only [set_none'] at hbn); (try have hbm := aNm); (try simp only [set_none'] at hbm)) | ((first | refine condS_i ?_ ?_ | refine pick_i ?_ ?_ | refine gS_it ?_ ?_ | refine gS_if ?_ ?_ | refine gP_it ?_ ?_ | refine gP_if ?_ ?_) <;> (intro hc; try simp only [Int.reduceLE,Int.reduceLT,Int.reduceEq,Sn] at hc)) | (with_reducible refine KP_i ?_ ?_; · exact aL) | (with_reducible refine And.intro ?_ ?_)) <;> (try simp only [S0,putAt,List.replicate,Int.reduceAdd,Int.reduceSub,Int.reduceMul,Int.reduceTDiv,Int.reduceTMod,Int.reduceMod,Int.reduceDiv,Nat.reduceLT,Nat.reduceEqDiff,Int.reduceLE,Int.reduceLT,Int.reduceToNat,Int.reduceNeg,Int.reduceEq,Nat.reduceLeDiff,Nat.reducePow,Int.reducePow,reduceIte,Nat.reduceSub,Nat.reduceAdd,Nat.reduceMul, *]))
  · rw [up3 hg aA aA]
    clear hB
    (all_goals (try simp only [S0,putAt,List.replicate,Int.reduceAdd,Int.reduceSub,Int.reduceMul,Int.reduceTDiv,Int.reduceTMod,Int.reduceMod,Int.reduceDiv,Nat.reduceLT,Nat.reduceEqDiff,Int.reduceLE,Int.reduceLT,Int.reduceToNat,Int.reduceNeg,Int.reduceEq,Nat.reduceLeDiff,Nat.reducePow,Int.reducePow,reduceIte,Nat.reduceSub,Nat.reduceAdd,Nat.reduceMul, *])); repeat' ((first | (with_reducible refine fun _ : True => ?_) | (with_reducible refine any_h ?_) | ((first | refine AllocQ_i ?_ | refine AllocO_i ?_); intro bk hb0 hbk; (try simp only [set_none'] at hbk); (try have hbn := aNn); (try simp only [set_none'] at hbn); (try have hbm := aNm); (try simp only [set_none'] at hbm)) | ((first | refine condS_i ?_ ?_ | refine pick_i ?_ ?_ | refine gS_it ?_ ?_ | refine gS_if ?_ ?_ | refine gP_it ?_ ?_ | refine gP_if ?_ ?_) <;> (intro hc; try simp only [Int.reduceLE,Int.reduceLT,Int.reduceEq,Sn] at hc)) | (with_reducible refine KP_i ?_ ?_; · exact aL) | (with_reducible refine loop_u ?_) | (with_reducible refine And.intro ?_ ?_)) <;> (try simp only [S0,putAt,List.replicate,Int.reduceAdd,Int.reduceSub,Int.reduceMul,Int.reduceTDiv,Int.reduceTMod,Int.reduceMod,Int.reduceDiv,Nat.reduceLT,Nat.reduceEqDiff,Int.reduceLE,Int.reduceLT,Int.reduceToNat,Int.reduceNeg,Int.reduceEq,Nat.reduceLeDiff,Nat.reducePow,Int.reducePow,reduceIte,Nat.reduceSub,Nat.reduceAdd,Nat.reduceMul, *]))
    exact Fin_mk aL h
  all_goals
    rcases hB with ⟨rb, rz, rfl, r1, r2, r3, r4⟩ | ⟨rfl, re⟩
    rotate_left
    · simp at re
    simp only [set_none'] at r2
    rw [up3 hg aA aA]
    have g0 : Grow w0 H G := Grow.trans aG hg
    clear hg
    simp only [List.map_cons, List.map_nil, List.cons_append, List.nil_append] at r3
    have ff : ∀ k, rd1 w0 G rb k = _ := fun k => by unfold rd1; rw [r3]
    have hne := blk_ne r3
    (all_goals (try simp only [S0,putAt,List.replicate,Int.reduceAdd,Int.reduceSub,Int.reduceMul,Int.reduceTDiv,Int.reduceTMod,Int.reduceMod,Int.reduceDiv,Nat.reduceLT,Nat.reduceEqDiff,Int.reduceLE,Int.reduceLT,Int.reduceToNat,Int.reduceNeg,Int.reduceEq,Nat.reduceLeDiff,Nat.reducePow,Int.reducePow,reduceIte,Nat.reduceSub,Nat.reduceAdd,Nat.reduceMul, *])); repeat' ((first | (with_reducible refine fun _ : True => ?_) | (with_reducible refine any_h ?_) | ((first | refine AllocQ_i ?_ | refine AllocO_i ?_); intro bk hb0 hbk; (try simp only [set_none'] at hbk); (try have hbn := aNn); (try simp only [set_none'] at hbn); (try have hbm := aNm); (try simp only [set_none'] at hbm)) | ((first | refine condS_i ?_ ?_ | refine pick_i ?_ ?_ | refine gS_it ?_ ?_ | refine gS_if ?_ ?_ | refine gP_it ?_ ?_ | refine gP_if ?_ ?_) <;> (intro hc; try simp only [Int.reduceLE,Int.reduceLT,Int.reduceEq,Sn] at hc)) | (with_reducible refine KP_i ?_ ?_; · exact aL) | (with_reducible refine loop_u ?_) | (with_reducible refine And.intro ?_ ?_)) <;> (try simp only [S0,putAt,List.replicate,Int.reduceAdd,Int.reduceSub,Int.reduceMul,Int.reduceTDiv,Int.reduceTMod,Int.reduceMod,Int.reduceDiv,Nat.reduceLT,Nat.reduceEqDiff,Int.reduceLE,Int.reduceLT,Int.reduceToNat,Int.reduceNeg,Int.reduceEq,Nat.reduceLeDiff,Nat.reducePow,Int.reducePow,reduceIte,Nat.reduceSub,Nat.reduceAdd,Nat.reduceMul, *]))
    exact Fin_mk aL h
end
theorem c_keep (i : Ins) (h : K (keepI i).v H) : HCalls Tryz.prog w0 52 [i.v] H K := by
  obtain ⟨op, fn, bs, n, dst, a, b, c, m0, m1, m2, m3, p0, p1, p2, p3⟩ := i
  by_cases ho : op = 5
  · subst ho
    exact keep_do h
  · exact keep_a h (by omega)
end Go.Proofs.YtdmnfaefakceiaaGreat
