/- registers (layer 18). -/
import Derived.Test.YtdmnfaefakceiaaGreatCee
set_option linter.unusedSimpArgs false
set_option linter.unusedVariables false
set_option maxRecDepth 100000
set_option maxHeartbeats 4000000
namespace Go.Proofs.YtdmnfaefakceiaaGreat
open Go.HL Go.RowKit Pb
variable {w0 : World} {H : Heap} {K : Value → Heap → Prop}

/-- The registers of an instruction. -/
def regsL (i : Ins) : List Int := if wrt i = true then i.dst :: reads i else reads i
theorem regs_len (i : Ins) : (regsL i).length ≤ 4 := by
  have := reads_len i
  unfold regsL
  split
  · simp only [List.length_cons]; omega
  · omega
/- code regs -/
def M54 : MC :=
  .seq (.reg [oX 1 (.box 46 (.tmp 0)),
 oX 2 (.mv (.const (.slice none 0 0)))])
 (.seq (.reg [oX 6 (.ldn 16 (.tmp 1)),
 oX 7 (.call 106 [(.tmp 6)]),
 vX 3 7])
 (.seq (.seq (.reg [oX 9 (.ldn 16 (.tmp 1)),
 oX 10 (.call 105 [(.tmp 9)]),
 vX 8 10,
 oX 11 (.ext 0 (.tmp 8)),
 oX 12 (.ext 1 (.tmp 8)),
 vX 4 11,
 vX 5 12])
 (.seq (.reg [vX 13 5])
 (.cond (.tmp 13)
 (.reg [vX 14 4,
 oX 15 (.bslice 3 1 [(.int .i64 0)] [(0,1,(.tmp 14))]),
 vX 16 3,
 oX 17 (.app 3 1 8 [(.int .i64 0)] (.tmp 15) (.tmp 16)),
 vX 3 17])
 (.skip))))
 (.seq (.reg [vX 18 3,
 vX 2 18])
 (.ret))))
theorem k54 : fnOk Tryz.prog 54 = some (M54, [.t 2], 19) := by kernel_rfl
/- slices IndexFunc[[]int,int] -/
def M107 : MC :=
  .seq (.reg [oX 4 (.mv (kX 0))])
 (.seq (.seq (.reg [vX 6 0,
 oX 7 (.len (.tmp 6)),
 oX 8 (.mv (kX 0))])
 (.block 0 (.loop (.seq (.reg [oX 9 (bX .lss 8 7)])
 (.seq (.cond (.tmp 9)
 (.skip)
 (.exit 0))
 (.seq (.block 1 (.seq (.reg [vX 10 8,
 vX 5 10])
 (.seq (.reg [vX 11 1,
 vX 12 0,
 vX 13 5,
 oX 14 (.is 1 (.tmp 12) (.tmp 13)),
 oX 15 (.ld1 (.tmp 14)),
 oX 16 (.yv (.tmp 11) [(.tmp 15)])])
 (.cond (.tmp 16)
 (.seq (.reg [vX 17 5,
 vX 4 17])
 (.ret))
 (.skip)))))
 (.reg [oX 18 (bK .add 8 1),
 vX 8 18])))))))
 (.seq (.reg [oX 4 (.mv (kX (-1)))])
 (.ret)))
theorem k107 : fnOk Tryz.prog 107 = some (M107, [.t 4], 19) := by kernel_rfl
/- slices ContainsFunc[[]int,int] -/
def M53 : MC :=
  .seq (.reg [oX 4 (.mv (.const (.bool false)))])
 (.seq (.reg [vX 5 0,
 vX 6 1,
 oX 7 (.call 107 [(.tmp 5),(.tmp 6)]),
 oX 8 (bK .geq 7 0),
 vX 4 8])
 (.ret))
theorem k53 : fnOk Tryz.prog 53 = some (M53, [.t 4], 9) := by kernel_rfl
/- code Check 1 -/
def M55 : MC :=
  .seq (.reg [oX 3 (.mv (.const (.bool false)))])
 (.seq (.reg [vX 4 0,
 oX 5 (.fa 2 (.tmp 1)),
 oX 6 (.ld1 (.tmp 5)),
 oX 7 (.call 50 [(.tmp 4),(.tmp 6)]),
 oX 8 (.un .not (.tmp 7)),
 vX 3 8])
 (.ret))
theorem k55 : fnOk Tryz.prog 55 = some (M55, [.t 3], 9) := by kernel_rfl

theorem c_regs (i : Ins) (h : ∀ a c G, IB w0 H G a c (regsL i) → Grow w0 H G → K (.slice a (regsL i).length c) G) : HCalls Tryz.prog w0 54 [i.v] H K := by
  have hw := fun (G : Heap) (K : Value → Heap → Prop) => c_Writes (w0 := w0) (H := G) (K := K) i
  have hr := fun (G : Heap) (K : Value → Heap → Prop) => c_Reads (w0 := w0) (H := G) (K := K) i
  have hl := reads_len i
  obtain ⟨w, ew⟩ : ∃ w, wrt i = w := ⟨_, rfl⟩
  obtain ⟨x, ex⟩ : ∃ x, wrtR i = x := ⟨_, rfl⟩
  obtain ⟨rl, er⟩ : ∃ l, reads i = l := ⟨_, rfl⟩
  have e : regsL i = if w then x :: rl else rl := by
    unfold regsL
    rw [ew, er, ← ex]
    unfold wrtR
    rw [ew]
    cases w <;> rfl
  rw [e] at h
  simp only [ew, ex, er] at hw hr hl
  clear e ew ex er
  unfold Ins.v Ins.row at hw hr ⊢
  replace hw : Keep _ := hw
  replace hr : Keep _ := hr
  refine HL.hc k54 999 ?_; unfold M54
  simp only [S0,putAt,List.replicate,Int.reduceAdd,Int.reduceSub,Int.reduceMul,Int.reduceTDiv,Int.reduceTMod,Int.reduceMod,Int.reduceDiv,Nat.reduceLT,Nat.reduceEqDiff,Int.reduceLE,Int.reduceLT,Int.reduceToNat,Int.reduceNeg,Int.reduceEq,Nat.reduceLeDiff,Nat.reducePow,Int.reducePow,reduceIte,Nat.reduceSub,Nat.reduceAdd,Nat.reduceMul, *]
  refine AllocQ_i ?_
  intro b1 hb1 hn1
  (all_goals (try simp only [S0,putAt,List.replicate,Int.reduceAdd,Int.reduceSub,Int.reduceMul,Int.reduceTDiv,Int.reduceTMod,Int.reduceMod,Int.reduceDiv,Nat.reduceLT,Nat.reduceEqDiff,Int.reduceLE,Int.reduceLT,Int.reduceToNat,Int.reduceNeg,Int.reduceEq,Nat.reduceLeDiff,Nat.reducePow,Int.reducePow,reduceIte,Nat.reduceSub,Nat.reduceAdd,Nat.reduceMul, *])); repeat' ((first | (with_reducible refine fun _ : True => ?_) | refine hr _ _ (fun ra rc G hB hg => ?_)  | (with_reducible refine any_h ?_) | ((first | refine AllocQ_i ?_ | refine AllocO_i ?_); intro bk hb0 hbk; (try simp only [set_none'] at hbk)) | ((first | refine condS_i ?_ ?_ | refine pick_i ?_ ?_ | refine gS_it ?_ ?_ | refine gS_if ?_ ?_ | refine gP_it ?_ ?_ | refine gP_if ?_ ?_) <;> (intro hc; try simp only [Int.reduceLE,Int.reduceLT,Int.reduceEq,Sn] at hc)) | (with_reducible refine KP_i ?_ ?_; · exact aL) | (with_reducible refine And.intro ?_ ?_)) <;> (try simp only [S0,putAt,List.replicate,Int.reduceAdd,Int.reduceSub,Int.reduceMul,Int.reduceTDiv,Int.reduceTMod,Int.reduceMod,Int.reduceDiv,Nat.reduceLT,Nat.reduceEqDiff,Int.reduceLE,Int.reduceLT,Int.reduceToNat,Int.reduceNeg,Int.reduceEq,Nat.reduceLeDiff,Nat.reducePow,Int.reducePow,reduceIte,Nat.reduceSub,Nat.reduceAdd,Nat.reduceMul, *]))
  rw [up1 hg]
  have hB1 : IB w0 H G ra rc rl := hB.base aG
  have g0 : Grow w0 H G := Grow.trans aG hg
  have hG := Heap.set_id G b1 _ (hg.some (Heap.set_same _ _ _))
  replace hG : Keep _ := hG
  clear hB hg
  cases w
  · (all_goals (try simp only [S0,putAt,List.replicate,Int.reduceAdd,Int.reduceSub,Int.reduceMul,Int.reduceTDiv,Int.reduceTMod,Int.reduceMod,Int.reduceDiv,Nat.reduceLT,Nat.reduceEqDiff,Int.reduceLE,Int.reduceLT,Int.reduceToNat,Int.reduceNeg,Int.reduceEq,Nat.reduceLeDiff,Nat.reducePow,Int.reducePow,reduceIte,Nat.reduceSub,Nat.reduceAdd,Nat.reduceMul, *])); repeat' ((first | (with_reducible refine fun _ : True => ?_) | refine hw _ _ ?_ | (with_reducible refine any_h ?_) | ((first | refine AllocQ_i ?_ | refine AllocO_i ?_); intro bk hb0 hbk; (try simp only [set_none'] at hbk)) | ((first | refine condS_i ?_ ?_ | refine pick_i ?_ ?_ | refine gS_it ?_ ?_ | refine gS_if ?_ ?_ | refine gP_it ?_ ?_ | refine gP_if ?_ ?_) <;> (intro hc; try simp only [Int.reduceLE,Int.reduceLT,Int.reduceEq,Sn] at hc)) | (with_reducible refine KP_i ?_ ?_; · exact aL) | (with_reducible refine And.intro ?_ ?_)) <;> (try simp only [S0,putAt,List.replicate,Int.reduceAdd,Int.reduceSub,Int.reduceMul,Int.reduceTDiv,Int.reduceTMod,Int.reduceMod,Int.reduceDiv,Nat.reduceLT,Nat.reduceEqDiff,Int.reduceLE,Int.reduceLT,Int.reduceToNat,Int.reduceNeg,Int.reduceEq,Nat.reduceLeDiff,Nat.reducePow,Int.reducePow,reduceIte,Nat.reduceSub,Nat.reduceAdd,Nat.reduceMul, *]))
    rw [show _ = _ from hG]
    exact Fin_mk (Heap.Le.refl _) (h _ _ _ hB1 g0)
  · (all_goals (try simp only [S0,putAt,List.replicate,Int.reduceAdd,Int.reduceSub,Int.reduceMul,Int.reduceTDiv,Int.reduceTMod,Int.reduceMod,Int.reduceDiv,Nat.reduceLT,Nat.reduceEqDiff,Int.reduceLE,Int.reduceLT,Int.reduceToNat,Int.reduceNeg,Int.reduceEq,Nat.reduceLeDiff,Nat.reducePow,Int.reducePow,reduceIte,Nat.reduceSub,Nat.reduceAdd,Nat.reduceMul, *])); repeat' ((first | (with_reducible refine fun _ : True => ?_) | refine hw _ _ ?_ | (with_reducible refine any_h ?_) | ((first | refine AllocQ_i ?_ | refine AllocO_i ?_); intro bk hb0 hbk; (try simp only [set_none'] at hbk)) | ((first | refine condS_i ?_ ?_ | refine pick_i ?_ ?_ | refine gS_it ?_ ?_ | refine gS_if ?_ ?_ | refine gP_it ?_ ?_ | refine gP_if ?_ ?_) <;> (intro hc; try simp only [Int.reduceLE,Int.reduceLT,Int.reduceEq,Sn] at hc)) | (with_reducible refine KP_i ?_ ?_; · exact aL) | (with_reducible refine And.intro ?_ ?_)) <;> (try simp only [S0,putAt,List.replicate,Int.reduceAdd,Int.reduceSub,Int.reduceMul,Int.reduceTDiv,Int.reduceTMod,Int.reduceMod,Int.reduceDiv,Nat.reduceLT,Nat.reduceEqDiff,Int.reduceLE,Int.reduceLT,Int.reduceToNat,Int.reduceNeg,Int.reduceEq,Nat.reduceLeDiff,Nat.reducePow,Int.reducePow,reduceIte,Nat.reduceSub,Nat.reduceAdd,Nat.reduceMul, *]))
    have hbH : H bk = none := g0.none hbk.2
    rw [show _ = _ from hG]
    clear hG hw hr
    have hx := (hB1.slAt.grow (Grow.set (x := ⟨3, [.int .i64 x]⟩) (Grow.refl _) hb0 hbk.2)).srd
    rw [List.length_map, ← Nat.mul_one rl.length] at hx
    refine app_bld (H := H) (n := 1) (cs := [.int .i64 x]) (ns := rl.map fun x => .int .i64 x) (.inl ⟨bk, [], rfl, hb0, hbH, Heap.set_same _ _ _, rfl⟩) rfl rfl hx (by simp) (g0.set hb0 hbH) ⟨by omega, by omega⟩ (by simp [Value.oneCell']) fun a c G2 hB2 hg2 _ _ => ?_
    (all_goals (try simp only [S0,putAt,List.replicate,Int.reduceAdd,Int.reduceSub,Int.reduceMul,Int.reduceTDiv,Int.reduceTMod,Int.reduceMod,Int.reduceDiv,Nat.reduceLT,Nat.reduceEqDiff,Int.reduceLE,Int.reduceLT,Int.reduceToNat,Int.reduceNeg,Int.reduceEq,Nat.reduceLeDiff,Nat.reducePow,Int.reducePow,reduceIte,Nat.reduceSub,Nat.reduceAdd,Nat.reduceMul, *])); repeat' ((first | (with_reducible refine fun _ : True => ?_) | (with_reducible refine any_h ?_) | ((first | refine AllocQ_i ?_ | refine AllocO_i ?_); intro bk hb0 hbk; (try simp only [set_none'] at hbk)) | ((first | refine condS_i ?_ ?_ | refine pick_i ?_ ?_ | refine gS_it ?_ ?_ | refine gS_if ?_ ?_ | refine gP_it ?_ ?_ | refine gP_if ?_ ?_) <;> (intro hc; try simp only [Int.reduceLE,Int.reduceLT,Int.reduceEq,Sn] at hc)) | (with_reducible refine KP_i ?_ ?_; · exact aL) | (with_reducible refine And.intro ?_ ?_)) <;> (try simp only [S0,putAt,List.replicate,Int.reduceAdd,Int.reduceSub,Int.reduceMul,Int.reduceTDiv,Int.reduceTMod,Int.reduceMod,Int.reduceDiv,Nat.reduceLT,Nat.reduceEqDiff,Int.reduceLE,Int.reduceLT,Int.reduceToNat,Int.reduceNeg,Int.reduceEq,Nat.reduceLeDiff,Nat.reducePow,Int.reducePow,reduceIte,Nat.reduceSub,Nat.reduceAdd,Nat.reduceMul, *]))
    rw [Nat.add_comm 1]
    exact Fin_mk (Heap.Le.refl _) (h _ _ _ hB2 hg2)
theorem c_Check1 {cb : Nat} {st : Int} {sl : Value} {rg ab un va r : Int} {ty : Kd} (hb : H cb = some ⟨ty, [.int .i64 st, sl, .int .i64 rg, .int .i64 ab, .int .i64 un, .int .i64 va]⟩) (h : K (.bool (!below r rg)) H) :
    HCalls Tryz.prog w0 55 [.int .i64 r, .pointer (some ⟨cb, 0, none⟩)] H K := by
  have h1 : rd1 w0 H cb 2 = some (.int .i64 rg) := by unfold rd1; rw [hb]; rfl
  obtain ⟨u, eu⟩ : ∃ u, below r rg = u := ⟨_, rfl⟩
  have hk := fun (G : Heap) (K : Value → Heap → Prop) => c_below (w0 := w0) (H := G) (K := K) r rg
  simp only [eu] at h hk
  replace hk : Keep _ := hk
  clear eu hb
  cases u
  all_goals refine HL.hc k55 999 ?_; unfold M55
  all_goals (all_goals (try simp only [S0,putAt,List.replicate,Int.reduceAdd,Int.reduceSub,Int.reduceMul,Int.reduceTDiv,Int.reduceTMod,Int.reduceMod,Int.reduceDiv,Nat.reduceLT,Nat.reduceEqDiff,Int.reduceLE,Int.reduceLT,Int.reduceToNat,Int.reduceNeg,Int.reduceEq,Nat.reduceLeDiff,Nat.reducePow,Int.reducePow,reduceIte,Nat.reduceSub,Nat.reduceAdd,Nat.reduceMul, *])); repeat' ((first | (with_reducible refine fun _ : True => ?_) | refine hk _ _ ?_ | (with_reducible refine any_h ?_) | ((first | refine AllocQ_i ?_ | refine AllocO_i ?_); intro bk hb0 hbk; (try simp only [set_none'] at hbk)) | ((first | refine condS_i ?_ ?_ | refine pick_i ?_ ?_ | refine gS_it ?_ ?_ | refine gS_if ?_ ?_ | refine gP_it ?_ ?_ | refine gP_if ?_ ?_) <;> (intro hc; try simp only [Int.reduceLE,Int.reduceLT,Int.reduceEq,Sn] at hc)) | (with_reducible refine KP_i ?_ ?_; · exact aL) | (with_reducible refine And.intro ?_ ?_)) <;> (try simp only [S0,putAt,List.replicate,Int.reduceAdd,Int.reduceSub,Int.reduceMul,Int.reduceTDiv,Int.reduceTMod,Int.reduceMod,Int.reduceDiv,Nat.reduceLT,Nat.reduceEqDiff,Int.reduceLE,Int.reduceLT,Int.reduceToNat,Int.reduceNeg,Int.reduceEq,Nat.reduceLeDiff,Nat.reducePow,Int.reducePow,reduceIte,Nat.reduceSub,Nat.reduceAdd,Nat.reduceMul, *]))
  all_goals exact Fin_mk (Heap.Le.refl _) h
theorem c_Index {cb : Nat} {st : Int} {sl : Value} {rg ab un va : Int} {ty : Kd} {a : Option Addr} {l : List Int} {cap : Nat} (hb : H cb = some ⟨ty, [.int .i64 st, sl, .int .i64 rg, .int .i64 ab, .int .i64 un, .int .i64 va]⟩)
    (hA : SlAt w0 H a (l.map fun x => .int .i64 x)) (hl : l.length ≤ maxLen) (h : ∀ n : Int, (0 ≤ n ↔ ¬ ∀ r ∈ l, below r rg = true) → K (.int .i64 n) H) :
    HCalls Tryz.prog w0 107 [.slice a l.length cap, .func (.func 55) #[] #[.pointer (some ⟨cb, 0, none⟩)]] H K := by
  refine HL.hc k107 999 ?_; unfold M107
  simp only [S0,putAt,List.replicate,Int.reduceAdd,Int.reduceSub,Int.reduceMul,Int.reduceTDiv,Int.reduceTMod,Int.reduceMod,Int.reduceDiv,Nat.reduceLT,Nat.reduceEqDiff,Int.reduceLE,Int.reduceLT,Int.reduceToNat,Int.reduceNeg,Int.reduceEq,Nat.reduceLeDiff,Nat.reducePow,Int.reducePow,reduceIte,Nat.reduceSub,Nat.reduceAdd,Nat.reduceMul, *]
  refine loop_g 9 (fun s : Nat × Value => [(5, s.2), (8, .int .i64 (s.1 : Nat))]) (fun s => H) (fun s => s.1 ≤ l.length ∧ ∀ r ∈ l.take s.1, below r rg = true) (fun s => l.length - s.1) (0, undef) ⟨Nat.zero_le _, fun k hk => by simp at hk⟩ (Heap.Le.refl _) rfl ?_
  intro ⟨k, v⟩ g ⟨hk, hall⟩
  simp only at hk hall
  unfold maxLen at hl
  rcases Nat.lt_or_ge k l.length with hlt | hge
  · obtain ⟨b, o, rfl, hr, hf⟩ := hA.read (by rw [List.length_map]; omega)
    obtain ⟨x, ex⟩ : ∃ x, l[k]? = some x := ⟨_, List.getElem?_eq_getElem hlt⟩
    have h1 : rd1 w0 H b (o + k) = some (.int .i64 x) := by rw [hr k (by rw [List.length_map]; exact hlt), List.getElem?_map, ex]; rfl
    have t0 : (k : Int) < l.length := by omega
    have t6 : IntKind.i64.wrap ((k : Int) + 1) = (k : Int) + 1 := Bw.1 _ (by omega) (by omega)
    have hx : x ∈ l := List.mem_of_getElem? ex
    have hc1 := fun (K : Value → Heap → Prop) => c_Check1 (w0 := w0) (K := K) (r := x) hb
    have nxt : below x rg = true → ∀ r ∈ l.take (k + 1), below r rg = true := fun e r hr => by
      rw [List.take_add_one, ex] at hr
      rcases List.mem_append.1 hr with hr | hr
      · exact hall r hr
      · simp only [Option.toList_some, List.mem_singleton] at hr
        subst hr
        exact e
    have fin : below x rg = false → HL.Fin K (.int .i64 k) H := fun e => Fin_mk (Heap.Le.refl _) (h _ ⟨fun _ h' => (by rw [h' x hx] at e; cases e), fun _ => (by omega)⟩)
    obtain ⟨u, eu⟩ : ∃ u, below x rg = u := ⟨_, rfl⟩
    rw [eu] at nxt fin
    simp only [eu] at hc1
    clear eu hall h hb hr ex hx
    replace hc1 : Keep _ := hc1
    replace nxt : Keep _ := nxt
    replace fin : Keep _ := fin
    cases u
    all_goals (all_goals (try simp only [S0,putAt,List.replicate,Int.reduceAdd,Int.reduceSub,Int.reduceMul,Int.reduceTDiv,Int.reduceTMod,Int.reduceMod,Int.reduceDiv,Nat.reduceLT,Nat.reduceEqDiff,Int.reduceLE,Int.reduceLT,Int.reduceToNat,Int.reduceNeg,Int.reduceEq,Nat.reduceLeDiff,Nat.reducePow,Int.reducePow,reduceIte,Nat.reduceSub,Nat.reduceAdd,Nat.reduceMul, *])); repeat' ((first | (with_reducible refine fun _ : True => ?_) | refine hc1 _ ?_ | (with_reducible refine any_h ?_) | ((first | refine AllocQ_i ?_ | refine AllocO_i ?_); intro bk hb0 hbk; (try simp only [set_none'] at hbk)) | ((first | refine condS_i ?_ ?_ | refine pick_i ?_ ?_ | refine gS_it ?_ ?_ | refine gS_if ?_ ?_ | refine gP_it ?_ ?_ | refine gP_if ?_ ?_) <;> (intro hc; try simp only [Int.reduceLE,Int.reduceLT,Int.reduceEq,Sn] at hc)) | (with_reducible refine KP_i ?_ ?_; · exact aL) | (with_reducible refine And.intro ?_ ?_)) <;> (try simp only [S0,putAt,List.replicate,Int.reduceAdd,Int.reduceSub,Int.reduceMul,Int.reduceTDiv,Int.reduceTMod,Int.reduceMod,Int.reduceDiv,Nat.reduceLT,Nat.reduceEqDiff,Int.reduceLE,Int.reduceLT,Int.reduceToNat,Int.reduceNeg,Int.reduceEq,Nat.reduceLeDiff,Nat.reducePow,Int.reducePow,reduceIte,Nat.reduceSub,Nat.reduceAdd,Nat.reduceMul, *]))
    · exact fin rfl
    · exact Round_mk (k + 1, _) ⟨hlt, nxt rfl⟩ (by simp only; omega) (Heap.Le.refl _) rfl rfl
  · obtain rfl : k = l.length := by omega
    have fin := h (-1) ⟨fun h => (by omega), fun h' => (by rw [List.take_length] at hall; exact (h' hall).elim)⟩
    clear hall h hb hA
    have t0 : ¬ ((l.length : Nat) : Int) < (l.length : Nat) := by omega
    (all_goals (try simp only [S0,putAt,List.replicate,Int.reduceAdd,Int.reduceSub,Int.reduceMul,Int.reduceTDiv,Int.reduceTMod,Int.reduceMod,Int.reduceDiv,Nat.reduceLT,Nat.reduceEqDiff,Int.reduceLE,Int.reduceLT,Int.reduceToNat,Int.reduceNeg,Int.reduceEq,Nat.reduceLeDiff,Nat.reducePow,Int.reducePow,reduceIte,Nat.reduceSub,Nat.reduceAdd,Nat.reduceMul, *])); repeat' ((first | (with_reducible refine fun _ : True => ?_) | (with_reducible refine any_h ?_) | ((first | refine AllocQ_i ?_ | refine AllocO_i ?_); intro bk hb0 hbk; (try simp only [set_none'] at hbk)) | ((first | refine condS_i ?_ ?_ | refine pick_i ?_ ?_ | refine gS_it ?_ ?_ | refine gS_if ?_ ?_ | refine gP_it ?_ ?_ | refine gP_if ?_ ?_) <;> (intro hc; try simp only [Int.reduceLE,Int.reduceLT,Int.reduceEq,Sn] at hc)) | (with_reducible refine KP_i ?_ ?_; · exact aL) | (with_reducible refine And.intro ?_ ?_)) <;> (try simp only [S0,putAt,List.replicate,Int.reduceAdd,Int.reduceSub,Int.reduceMul,Int.reduceTDiv,Int.reduceTMod,Int.reduceMod,Int.reduceDiv,Nat.reduceLT,Nat.reduceEqDiff,Int.reduceLE,Int.reduceLT,Int.reduceToNat,Int.reduceNeg,Int.reduceEq,Nat.reduceLeDiff,Nat.reducePow,Int.reducePow,reduceIte,Nat.reduceSub,Nat.reduceAdd,Nat.reduceMul, *]))
    exact Fin_mk (Heap.Le.refl _) fin
theorem c_Contains {cb : Nat} {st : Int} {sl : Value} {rg ab un va : Int} {ty : Kd} {a : Option Addr} {l : List Int} {cap : Nat} (hb : H cb = some ⟨ty, [.int .i64 st, sl, .int .i64 rg, .int .i64 ab, .int .i64 un, .int .i64 va]⟩)
    (hA : SlAt w0 H a (l.map fun x => .int .i64 x)) (hl : l.length ≤ maxLen) (h : K (.bool (decide (¬ ∀ r ∈ l, below r rg = true))) H) :
    HCalls Tryz.prog w0 53 [.slice a l.length cap, .func (.func 55) #[] #[.pointer (some ⟨cb, 0, none⟩)]] H K := by
  have hi := fun (K : Value → Heap → Prop) => c_Index (w0 := w0) (K := K) (cap := cap) hb hA hl
  clear hb hA
  refine HL.hc k53 999 ?_; unfold M53
  (all_goals (try simp only [S0,putAt,List.replicate,Int.reduceAdd,Int.reduceSub,Int.reduceMul,Int.reduceTDiv,Int.reduceTMod,Int.reduceMod,Int.reduceDiv,Nat.reduceLT,Nat.reduceEqDiff,Int.reduceLE,Int.reduceLT,Int.reduceToNat,Int.reduceNeg,Int.reduceEq,Nat.reduceLeDiff,Nat.reducePow,Int.reducePow,reduceIte,Nat.reduceSub,Nat.reduceAdd,Nat.reduceMul, *])); repeat' ((first | (with_reducible refine fun _ : True => ?_) | refine hi _ (fun n hn => ?_)  | (with_reducible refine any_h ?_) | ((first | refine AllocQ_i ?_ | refine AllocO_i ?_); intro bk hb0 hbk; (try simp only [set_none'] at hbk)) | ((first | refine condS_i ?_ ?_ | refine pick_i ?_ ?_ | refine gS_it ?_ ?_ | refine gS_if ?_ ?_ | refine gP_it ?_ ?_ | refine gP_if ?_ ?_) <;> (intro hc; try simp only [Int.reduceLE,Int.reduceLT,Int.reduceEq,Sn] at hc)) | (with_reducible refine KP_i ?_ ?_; · exact aL) | (with_reducible refine And.intro ?_ ?_)) <;> (try simp only [S0,putAt,List.replicate,Int.reduceAdd,Int.reduceSub,Int.reduceMul,Int.reduceTDiv,Int.reduceTMod,Int.reduceMod,Int.reduceDiv,Nat.reduceLT,Nat.reduceEqDiff,Int.reduceLE,Int.reduceLT,Int.reduceToNat,Int.reduceNeg,Int.reduceEq,Nat.reduceLeDiff,Nat.reducePow,Int.reducePow,reduceIte,Nat.reduceSub,Nat.reduceAdd,Nat.reduceMul, *]))
  clear hi
  (all_goals (try simp only [S0,putAt,List.replicate,Int.reduceAdd,Int.reduceSub,Int.reduceMul,Int.reduceTDiv,Int.reduceTMod,Int.reduceMod,Int.reduceDiv,Nat.reduceLT,Nat.reduceEqDiff,Int.reduceLE,Int.reduceLT,Int.reduceToNat,Int.reduceNeg,Int.reduceEq,Nat.reduceLeDiff,Nat.reducePow,Int.reducePow,reduceIte,Nat.reduceSub,Nat.reduceAdd,Nat.reduceMul, *])); repeat' ((first | (with_reducible refine fun _ : True => ?_) | (with_reducible refine any_h ?_) | ((first | refine AllocQ_i ?_ | refine AllocO_i ?_); intro bk hb0 hbk; (try simp only [set_none'] at hbk)) | ((first | refine condS_i ?_ ?_ | refine pick_i ?_ ?_ | refine gS_it ?_ ?_ | refine gS_if ?_ ?_ | refine gP_it ?_ ?_ | refine gP_if ?_ ?_) <;> (intro hc; try simp only [Int.reduceLE,Int.reduceLT,Int.reduceEq,Sn] at hc)) | (with_reducible refine KP_i ?_ ?_; · exact aL) | (with_reducible refine And.intro ?_ ?_)) <;> (try simp only [S0,putAt,List.replicate,Int.reduceAdd,Int.reduceSub,Int.reduceMul,Int.reduceTDiv,Int.reduceTMod,Int.reduceMod,Int.reduceDiv,Nat.reduceLT,Nat.reduceEqDiff,Int.reduceLE,Int.reduceLT,Int.reduceToNat,Int.reduceNeg,Int.reduceEq,Nat.reduceLeDiff,Nat.reducePow,Int.reducePow,reduceIte,Nat.reduceSub,Nat.reduceAdd,Nat.reduceMul, *]))
  exact Fin_mk (Heap.Le.refl _) h
end Go.Proofs.YtdmnfaefakceiaaGreat
