/- legal (layer 18). -/
import Derived.Test.YtdmnfaefakceiaaGreatCed
set_option linter.unusedSimpArgs false
set_option linter.unusedVariables false
set_option maxRecDepth 100000
set_option maxHeartbeats 4000000
namespace Go.Proofs.YtdmnfaefakceiaaGreat
open Go.HL Go.RowKit Pb
variable {w0 : World} {H : Heap} {K : Value → Heap → Prop}

/-- A code. -/
structure Cd where
  st : Int
  adr : Option Addr
  cap : Nat
  is : List Ins
  rg : Int
  ab : Int
  un : Int
  va : Int
def Cd.v (c : Cd) : Value := .agg #[.int .i64 c.st, .slice c.adr c.is.length c.cap, .int .i64 c.rg, .int .i64 c.ab, .int .i64 c.un, .int .i64 c.va]
/-- Its instructions stand in memory. -/
structure CdAt (w0 : World) (H : Heap) (c : Cd) : Prop where
  at_ : SlAt w0 H c.adr (c.is.map Ins.row).flatten
  lm : c.is.length ≤ maxLen
  lc : c.is.length ≤ c.cap
theorem CdAt.grow {G : Heap} {c : Cd} (h : CdAt w0 H c) (g : Grow w0 H G) : CdAt w0 G c := ⟨h.at_.grow g, h.lm, h.lc⟩
theorem row_len (i : Ins) : i.row.length = 16 := rfl
theorem CdAt.row {c : Cd} (h : CdAt w0 H c) {k : Nat} {i : Ins} (hk : c.is[k]? = some i) : ∃ b o, c.adr = some ⟨b, o, none⟩ ∧ rdn w0 H b (o + k * 16) 16 = some i.row ∧ ∀ d, w0.heap.size ≤ d → H d = none → d ≠ b :=
  h.at_.row (fun r hr => by obtain ⟨j, -, rfl⟩ := List.mem_map.1 hr; exact row_len j) (by omega) (i := k) (by rw [List.getElem?_map, hk]; rfl)

/-- May an instruction be at its place, but for its registers? -/
def legalB (c : Cd) (k : Int) (i : Ins) : Bool :=
  if i.op = 1 ∨ i.op = 2 ∨ i.op = 9 then true
  else if i.op = 3 then
    (if i.fn = 1 then decide (c.st = 1) && below i.a c.ab else if i.fn = 2 then below i.a c.un else if i.fn = 3 then decide (c.st ≠ 1) && below i.a c.va else if i.fn = 4 ∨ i.fn = 5 ∨ i.fn = 6 then decide (c.st ≠ 1) && decide (i.a = 0) else false)
  else if i.op = 4 then
    (if i.fn = 1 ∨ i.fn = 2 then decide (c.st = 1) && decide (i.a = 0) else if i.fn = 3 then decide (c.st = 1) && below i.a c.va else if i.fn = 4 then decide (c.st ≠ 1) && decide (i.a = 0) else false)
  else if i.op = 5 then decide (0 < args i.fn i.bs) && sized i.n
  else if i.op = 6 ∨ i.op = 7 then spreadB (decide (i.op = 7)) i
  else if i.op = 8 then sized i.n && isBase i.bs && isBase i.fn
  else if i.op = 10 ∨ i.op = 11 then decide (k < i.a) && decide (i.a ≤ c.is.length)
  else if i.op = 12 then decide (c.st ≠ 1)
  else false
/- code legal -/
def M51 : MC :=
  .seq (.reg [oX 2 (.box 24 (.tmp 0)),
 oX 4 (.mv (.const (.bool false)))])
 (.seq (.reg [oX 7 (.fa 1 (.tmp 2)),
 oX 8 (.ld1 (.tmp 7)),
 vX 9 1,
 oX 10 (.is 16 (.tmp 8) (.tmp 9)),
 oX 11 (.ldn 16 (.tmp 10)),
 oX 5 (.alloc 46 [(.int .i64 0),(.int .i64 0),(.int .i64 0),(.int .i64 0),(.int .i64 0),(.int .i64 0),(.int .i64 0),(.int .i64 0),(.int .i32 0),(.int .i32 0),(.int .i32 0),(.int .i32 0),(.int .i64 0),(.int .i64 0),(.int .i64 0),(.int .i64 0)]),
 ⟨none,.stn 16 (.tmp 5) (.tmp 11),none⟩])
 (.seq (.reg [oX 12 (.fa 0 (.tmp 2)),
 oX 13 (.ld1 (.tmp 12)),
 oX 14 (bK .eql 13 1),
 vX 6 14])
 (.seq (.seq (.reg [oX 15 (.fa 0 (.tmp 5)),
 oX 16 (.ld1 (.tmp 15))])
 (.block 0 (.seq (.seq (.reg [oX 18 (bK .eql 16 1),
 vX 17 18])
 (.cond (.tmp 17)
 (.skip)
 (.seq (.reg [oX 19 (bK .eql 16 2),
 vX 17 19])
 (.cond (.tmp 17)
 (.skip)
 (.reg [oX 20 (bK .eql 16 9),
 vX 17 20])))))
 (.cond (.tmp 17)
 (.seq (.reg [oX 4 (.mv (.const (.bool true)))])
 (.ret))
 (.seq (.reg [oX 22 (bK .eql 16 3),
 vX 21 22])
 (.cond (.tmp 21)
 (.seq (.reg [oX 23 (.fa 1 (.tmp 5)),
 oX 24 (.ld1 (.tmp 23))])
 (.block 1 (.seq (.reg [oX 26 (bK .eql 24 1),
 vX 25 26])
 (.cond (.tmp 25)
 (.seq (.reg [vX 27 6,
 vX 28 27,
 ⟨(some 29),.fa 5 (.tmp 5),(some (28,true))⟩,
 ⟨(some 30),.ld1 (.tmp 29),(some (28,true))⟩,
 ⟨(some 31),.fa 3 (.tmp 2),(some (28,true))⟩,
 ⟨(some 32),.ld1 (.tmp 31),(some (28,true))⟩,
 ⟨(some 33),.call 50 [(.tmp 30),(.tmp 32)],(some (28,true))⟩,
 oX 34 (.pick (.tmp 28) (.tmp 33) (.const (.bool false))),
 vX 4 34])
 (.ret))
 (.seq (.reg [oX 36 (bK .eql 24 2),
 vX 35 36])
 (.cond (.tmp 35)
 (.seq (.reg [oX 37 (.fa 5 (.tmp 5)),
 oX 38 (.ld1 (.tmp 37)),
 oX 39 (.fa 4 (.tmp 2)),
 oX 40 (.ld1 (.tmp 39)),
 oX 41 (.call 50 [(.tmp 38),(.tmp 40)]),
 vX 4 41])
 (.ret))
 (.seq (.reg [oX 43 (bK .eql 24 3),
 vX 42 43])
 (.cond (.tmp 42)
 (.seq (.reg [vX 44 6,
 oX 45 (.un .not (.tmp 44)),
 vX 46 45,
 ⟨(some 47),.fa 5 (.tmp 5),(some (46,true))⟩,
 ⟨(some 48),.ld1 (.tmp 47),(some (46,true))⟩,
 ⟨(some 49),.fa 5 (.tmp 2),(some (46,true))⟩,
 ⟨(some 50),.ld1 (.tmp 49),(some (46,true))⟩,
 ⟨(some 51),.call 50 [(.tmp 48),(.tmp 50)],(some (46,true))⟩,
 oX 52 (.pick (.tmp 46) (.tmp 51) (.const (.bool false))),
 vX 4 52])
 (.ret))
 (.seq (.seq (.reg [oX 54 (bK .eql 24 4),
 vX 53 54])
 (.cond (.tmp 53)
 (.skip)
 (.seq (.reg [oX 55 (bK .eql 24 5),
 vX 53 55])
 (.cond (.tmp 53)
 (.skip)
 (.reg [oX 56 (bK .eql 24 6),
 vX 53 56])))))
 (.cond (.tmp 53)
 (.seq (.reg [vX 57 6,
 oX 58 (.un .not (.tmp 57)),
 vX 59 58,
 ⟨(some 60),.fa 5 (.tmp 5),(some (59,true))⟩,
 ⟨(some 61),.ld1 (.tmp 60),(some (59,true))⟩,
 ⟨(some 62),bK .eql 61 0,(some (59,true))⟩,
 oX 63 (.pick (.tmp 59) (.tmp 62) (.const (.bool false))),
 vX 4 63])
 (.ret))
 (.skip)))))))))))
 (.seq (.reg [oX 65 (bK .eql 16 4),
 vX 64 65])
 (.cond (.tmp 64)
 (.seq (.reg [oX 66 (.fa 1 (.tmp 5)),
 oX 67 (.ld1 (.tmp 66))])
 (.block 2 (.seq (.seq (.reg [oX 69 (bK .eql 67 1),
 vX 68 69])
 (.cond (.tmp 68)
 (.skip)
 (.reg [oX 70 (bK .eql 67 2),
 vX 68 70])))
 (.cond (.tmp 68)
 (.seq (.reg [vX 71 6,
 vX 72 71,
 ⟨(some 73),.fa 5 (.tmp 5),(some (72,true))⟩,
 ⟨(some 74),.ld1 (.tmp 73),(some (72,true))⟩,
 ⟨(some 75),bK .eql 74 0,(some (72,true))⟩,
 oX 76 (.pick (.tmp 72) (.tmp 75) (.const (.bool false))),
 vX 4 76])
 (.ret))
 (.seq (.reg [oX 78 (bK .eql 67 3),
 vX 77 78])
 (.cond (.tmp 77)
 (.seq (.reg [vX 79 6,
 vX 80 79,
 ⟨(some 81),.fa 5 (.tmp 5),(some (80,true))⟩,
 ⟨(some 82),.ld1 (.tmp 81),(some (80,true))⟩,
 ⟨(some 83),.fa 5 (.tmp 2),(some (80,true))⟩,
 ⟨(some 84),.ld1 (.tmp 83),(some (80,true))⟩,
 ⟨(some 85),.call 50 [(.tmp 82),(.tmp 84)],(some (80,true))⟩,
 oX 86 (.pick (.tmp 80) (.tmp 85) (.const (.bool false))),
 vX 4 86])
 (.ret))
 (.seq (.reg [oX 88 (bK .eql 67 4),
 vX 87 88])
 (.cond (.tmp 87)
 (.seq (.reg [vX 89 6,
 oX 90 (.un .not (.tmp 89)),
 vX 91 90,
 ⟨(some 92),.fa 5 (.tmp 5),(some (91,true))⟩,
 ⟨(some 93),.ld1 (.tmp 92),(some (91,true))⟩,
 ⟨(some 94),bK .eql 93 0,(some (91,true))⟩,
 oX 95 (.pick (.tmp 91) (.tmp 94) (.const (.bool false))),
 vX 4 95])
 (.ret))
 (.skip)))))))))
 (.seq (.reg [oX 97 (bK .eql 16 5),
 vX 96 97])
 (.cond (.tmp 96)
 (.seq (.reg [oX 98 (.fa 1 (.tmp 5)),
 oX 99 (.ld1 (.tmp 98)),
 oX 100 (.fa 2 (.tmp 5)),
 oX 101 (.ld1 (.tmp 100)),
 oX 102 (.call 43 [(.tmp 99),(.tmp 101)]),
 oX 103 (bK .gtr 102 0),
 vX 104 103,
 ⟨(some 105),.fa 3 (.tmp 5),(some (104,true))⟩,
 ⟨(some 106),.ld1 (.tmp 105),(some (104,true))⟩,
 ⟨(some 107),.call 102 [(.tmp 106)],(some (104,true))⟩,
 oX 108 (.pick (.tmp 104) (.tmp 107) (.const (.bool false))),
 vX 4 108])
 (.ret))
 (.seq (.seq (.reg [oX 110 (bK .eql 16 6),
 vX 109 110])
 (.cond (.tmp 109)
 (.skip)
 (.reg [oX 111 (bK .eql 16 7),
 vX 109 111])))
 (.cond (.tmp 109)
 (.seq (.reg [oX 112 (.ldn 16 (.tmp 5)),
 oX 113 (.call 103 [(.tmp 112)]),
 vX 4 113])
 (.ret))
 (.seq (.reg [oX 115 (bK .eql 16 8),
 vX 114 115])
 (.cond (.tmp 114)
 (.seq (.reg [oX 116 (.fa 3 (.tmp 5)),
 oX 117 (.ld1 (.tmp 116)),
 oX 118 (.call 102 [(.tmp 117)]),
 vX 119 118,
 ⟨(some 120),.fa 2 (.tmp 5),(some (119,true))⟩,
 ⟨(some 121),.ld1 (.tmp 120),(some (119,true))⟩,
 ⟨(some 122),.call 104 [(.tmp 121)],(some (119,true))⟩,
 oX 123 (.pick (.tmp 119) (.tmp 122) (.const (.bool false))),
 vX 124 123,
 ⟨(some 125),.fa 1 (.tmp 5),(some (124,true))⟩,
 ⟨(some 126),.ld1 (.tmp 125),(some (124,true))⟩,
 ⟨(some 127),.call 104 [(.tmp 126)],(some (124,true))⟩,
 oX 128 (.pick (.tmp 124) (.tmp 127) (.const (.bool false))),
 vX 4 128])
 (.ret))
 (.seq (.seq (.reg [oX 130 (bK .eql 16 10),
 vX 129 130])
 (.cond (.tmp 129)
 (.skip)
 (.reg [oX 131 (bK .eql 16 11),
 vX 129 131])))
 (.cond (.tmp 129)
 (.seq (.reg [oX 132 (.fa 5 (.tmp 5)),
 oX 133 (.ld1 (.tmp 132)),
 vX 134 1,
 oX 135 (bX .gtr 133 134),
 vX 136 135,
 ⟨(some 137),.fa 5 (.tmp 5),(some (136,true))⟩,
 ⟨(some 138),.ld1 (.tmp 137),(some (136,true))⟩,
 ⟨(some 139),.fa 1 (.tmp 2),(some (136,true))⟩,
 ⟨(some 140),.ld1 (.tmp 139),(some (136,true))⟩,
 ⟨(some 141),.len (.tmp 140),(some (136,true))⟩,
 ⟨(some 142),bX .leq 138 141,(some (136,true))⟩,
 oX 143 (.pick (.tmp 136) (.tmp 142) (.const (.bool false))),
 vX 4 143])
 (.ret))
 (.seq (.reg [oX 145 (bK .eql 16 12),
 vX 144 145])
 (.cond (.tmp 144)
 (.seq (.reg [vX 146 6,
 oX 147 (.un .not (.tmp 146)),
 vX 4 147])
 (.ret))
 (.skip)))))))))))))))))))
 (.seq (.reg [oX 4 (.mv (.const (.bool false)))])
 (.ret)))))
theorem k51 : fnOk Tryz.prog 51 = some (M51, [.t 4], 148) := by kernel_rfl

/-- The rest of a walk through `legal`. -/
theorem legal_a {st : Int} {b o cap : Nat} {is : List Ins} {rg ab un va op fn bs n dst a bb cc m0 m1 m2 m3 p0 p1 p2 p3 : Int} {k len : Nat}
    (hr : rdn w0 H b (o + k * 16) 16 = some (Ins.row ⟨op, fn, bs, n, dst, a, bb, cc, m0, m1, m2, m3, p0, p1, p2, p3⟩)) (hf : ∀ d, w0.heap.size ≤ d → H d = none → d ≠ b)
    (el : is.length = len) (t0 : (k : Int) < len)
    (h : ∀ v, legalB ⟨st, some ⟨b, o, none⟩, cap, is, rg, ab, un, va⟩ k ⟨op, fn, bs, n, dst, a, bb, cc, m0, m1, m2, m3, p0, p1, p2, p3⟩ = v → HL.Fin K (.bool v) H) :
    HCalls Tryz.prog w0 51 [.agg #[.int .i64 st, .slice (some ⟨b, o, none⟩) len cap, .int .i64 rg, .int .i64 ab, .int .i64 un, .int .i64 va], .int .i64 k] H K := by
  have hs := fun (G : Heap) (K : Value → Heap → Prop) => c_spread (w0 := w0) (H := G) (K := K) ⟨op, fn, bs, n, dst, a, bb, cc, m0, m1, m2, m3, p0, p1, p2, p3⟩
  obtain ⟨sp, es⟩ : ∃ s, spreadB (decide (op = 7)) ⟨op, fn, bs, n, dst, a, bb, cc, m0, m1, m2, m3, p0, p1, p2, p3⟩ = s := ⟨_, rfl⟩
  unfold legalB at h
  simp only [el, es] at h
  simp only [es] at hs
  unfold Ins.v Ins.row at hs
  unfold Ins.row at hr
  clear el es
  replace h : Keep _ := h
  replace hs : Keep _ := hs
  by_cases q6 : op = 6
  · subst q6
    refine HL.hc k51 999 ?_; unfold M51
    (all_goals (try simp only [S0,putAt,List.replicate,Int.reduceAdd,Int.reduceSub,Int.reduceMul,Int.reduceTDiv,Int.reduceTMod,Int.reduceMod,Int.reduceDiv,Nat.reduceLT,Nat.reduceEqDiff,Int.reduceLE,Int.reduceLT,Int.reduceToNat,Int.reduceNeg,Int.reduceEq,Nat.reduceLeDiff,Nat.reducePow,Int.reducePow,reduceIte,Nat.reduceSub,Nat.reduceAdd,Nat.reduceMul, *])); repeat' ((first | (with_reducible refine fun _ : True => ?_) | refine c_below _ _ ?_ | refine hs _ _ ?_ | (with_reducible refine any_h ?_) | ((first | refine AllocQ_i ?_ | refine AllocO_i ?_); intro bk hb0 hbk; try simp only [set_none'] at hbk) | ((first | refine condS_i ?_ ?_ | refine pick_i ?_ ?_ | refine gS_it ?_ ?_ | refine gS_if ?_ ?_ | refine gP_it ?_ ?_ | refine gP_if ?_ ?_) <;> (intro hc; try simp only [Int.reduceLE,Int.reduceLT,Int.reduceEq,Sn] at hc; try (exfalso; omega))) | (with_reducible refine KP_i ?_ ?_; · exact aE) | (with_reducible refine And.intro ?_ ?_)) <;> (try simp only [S0,putAt,List.replicate,Int.reduceAdd,Int.reduceSub,Int.reduceMul,Int.reduceTDiv,Int.reduceTMod,Int.reduceMod,Int.reduceDiv,Nat.reduceLT,Nat.reduceEqDiff,Int.reduceLE,Int.reduceLT,Int.reduceToNat,Int.reduceNeg,Int.reduceEq,Nat.reduceLeDiff,Nat.reducePow,Int.reducePow,reduceIte,Nat.reduceSub,Nat.reduceAdd,Nat.reduceMul, *]))
    all_goals exact Fin_le (h _ (by simp)) aL
  · by_cases q7 : op = 7
    · subst q7
      refine HL.hc k51 999 ?_; unfold M51
      (all_goals (try simp only [S0,putAt,List.replicate,Int.reduceAdd,Int.reduceSub,Int.reduceMul,Int.reduceTDiv,Int.reduceTMod,Int.reduceMod,Int.reduceDiv,Nat.reduceLT,Nat.reduceEqDiff,Int.reduceLE,Int.reduceLT,Int.reduceToNat,Int.reduceNeg,Int.reduceEq,Nat.reduceLeDiff,Nat.reducePow,Int.reducePow,reduceIte,Nat.reduceSub,Nat.reduceAdd,Nat.reduceMul, *])); repeat' ((first | (with_reducible refine fun _ : True => ?_) | refine c_below _ _ ?_ | refine hs _ _ ?_ | (with_reducible refine any_h ?_) | ((first | refine AllocQ_i ?_ | refine AllocO_i ?_); intro bk hb0 hbk; try simp only [set_none'] at hbk) | ((first | refine condS_i ?_ ?_ | refine pick_i ?_ ?_ | refine gS_it ?_ ?_ | refine gS_if ?_ ?_ | refine gP_it ?_ ?_ | refine gP_if ?_ ?_) <;> (intro hc; try simp only [Int.reduceLE,Int.reduceLT,Int.reduceEq,Sn] at hc; try (exfalso; omega))) | (with_reducible refine KP_i ?_ ?_; · exact aE) | (with_reducible refine And.intro ?_ ?_)) <;> (try simp only [S0,putAt,List.replicate,Int.reduceAdd,Int.reduceSub,Int.reduceMul,Int.reduceTDiv,Int.reduceTMod,Int.reduceMod,Int.reduceDiv,Nat.reduceLT,Nat.reduceEqDiff,Int.reduceLE,Int.reduceLT,Int.reduceToNat,Int.reduceNeg,Int.reduceEq,Nat.reduceLeDiff,Nat.reducePow,Int.reducePow,reduceIte,Nat.reduceSub,Nat.reduceAdd,Nat.reduceMul, *]))
      all_goals exact Fin_le (h _ (by simp)) aL
    · clear hs
      refine HL.hc k51 999 ?_; unfold M51
      (all_goals (try simp only [S0,putAt,List.replicate,Int.reduceAdd,Int.reduceSub,Int.reduceMul,Int.reduceTDiv,Int.reduceTMod,Int.reduceMod,Int.reduceDiv,Nat.reduceLT,Nat.reduceEqDiff,Int.reduceLE,Int.reduceLT,Int.reduceToNat,Int.reduceNeg,Int.reduceEq,Nat.reduceLeDiff,Nat.reducePow,Int.reducePow,reduceIte,Nat.reduceSub,Nat.reduceAdd,Nat.reduceMul, *])); repeat' ((first | (with_reducible refine fun _ : True => ?_) | refine c_below _ _ ?_ | refine c_Args _ _ ?_ | refine c_csized _ ?_ | refine c_base _ ?_ | (with_reducible refine any_h ?_) | ((first | refine AllocQ_i ?_ | refine AllocO_i ?_); intro bk hb0 hbk; try simp only [set_none'] at hbk) | ((first | refine condS_i ?_ ?_ | refine pick_i ?_ ?_ | refine gS_it ?_ ?_ | refine gS_if ?_ ?_ | refine gP_it ?_ ?_ | refine gP_if ?_ ?_) <;> (intro hc; try simp only [Int.reduceLE,Int.reduceLT,Int.reduceEq,Sn] at hc; try (exfalso; omega))) | (with_reducible refine KP_i ?_ ?_; · exact aE) | (with_reducible refine And.intro ?_ ?_)) <;> (try simp only [S0,putAt,List.replicate,Int.reduceAdd,Int.reduceSub,Int.reduceMul,Int.reduceTDiv,Int.reduceTMod,Int.reduceMod,Int.reduceDiv,Nat.reduceLT,Nat.reduceEqDiff,Int.reduceLE,Int.reduceLT,Int.reduceToNat,Int.reduceNeg,Int.reduceEq,Nat.reduceLeDiff,Nat.reducePow,Int.reducePow,reduceIte,Nat.reduceSub,Nat.reduceAdd,Nat.reduceMul, *]))
      all_goals first
        | exact Fin_le (h _ (by clear t0 hr hf h; subst_vars; simp [*]; done)) aL
        | exact Fin_le (h _ (by clear t0 hr hf h; subst_vars; simp [*, Int.not_lt.2, Int.not_le.2]; done)) aL
        | skip
theorem c_legal (c : Cd) (k : Nat) (i : Ins) (hc : CdAt w0 H c) (hk : c.is[k]? = some i) (h : K (.bool (legalB c k i)) H) : HCalls Tryz.prog w0 51 [c.v, .int .i64 k] H K := by
  obtain ⟨b, o, ea, hr, hf⟩ := hc.row hk
  have hl : k < c.is.length := (List.getElem?_eq_some_iff.1 hk).1
  obtain ⟨st, adr, cap, is, rg, ab, un, va⟩ := c
  obtain ⟨op, fn, bs, n, dst, a, bb, cc, m0, m1, m2, m3, p0, p1, p2, p3⟩ := i
  simp only at ea hl
  subst ea
  exact legal_a hr hf rfl (by simp only; omega) fun v e => Fin_mk (Heap.Le.refl _) (by rw [← e]; exact h)
end Go.Proofs.YtdmnfaefakceiaaGreat
