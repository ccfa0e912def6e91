/- Vxm Vxn Vxo Vxp Vxr Vxs -/
import Derived.Test.YtdmnfaefakceiaaGreatXgb
import Derived.Test.YtdmnfaefakceiaaGreatVmb
import Derived.Test.YtdmnfaefakceiaaGreatHlt
section
/- Fits, start, Run and Trace, by the program (layer 18). -/
set_option linter.unusedSimpArgs false
set_option linter.unusedVariables false
set_option maxRecDepth 100000
set_option maxHeartbeats 4000000
namespace Go.Proofs.YtdmnfaefakceiaaGreat
open Go.HL Go.RowKit Pb
variable {w0 : World} {H G : Heap} {K : Value → Heap → Prop}

def Evr.v (e : Evr) : Value := .agg ⟨e.row⟩
open Classical in
noncomputable def chk (c : Cd) : Int := if mayP c then 0 else 260
theorem c_chk (c : Cd) (hc : CdAt w0 H c) (h : K (.int .i64 (chk c)) H) : HCalls Tryz.prog w0 31 [c.v] H K :=
  c_Check c hc (fun m => by unfold chk at h; rw [if_pos m] at h; exact h) (fun m => by unfold chk at h; rw [if_neg m] at h; exact h)
/- paintbox/vm Fits -/
def M17 : MC :=
  .seq (.reg [oX 2 (.box 24 (.tmp 0)),
 oX 3 (.box 31 (.tmp 1)),
 oX 4 (.mv (.const (.bool false)))])
 (.seq (.reg [oX 6 (.fa 5 (.tmp 2)),
 oX 7 (.ld1 (.tmp 6)),
 vX 5 7])
 (.seq (.seq (.reg [oX 8 (.fa 0 (.tmp 2)),
 oX 9 (.ld1 (.tmp 8)),
 oX 10 (bK .eql 9 1)])
 (.cond (.tmp 10)
 (.reg [oX 5 (.mv (kX 0))])
 (.skip)))
 (.seq (.reg [oX 11 (.ldn 6 (.tmp 2)),
 oX 12 (.call 31 [(.tmp 11)]),
 oX 13 (bK .eql 12 0),
 vX 14 13,
 ⟨(some 15),.fa 0 (.tmp 3),(some (14,true))⟩,
 ⟨(some 16),.ld1 (.tmp 15),(some (14,true))⟩,
 ⟨(some 17),.len (.tmp 16),(some (14,true))⟩,
 ⟨(some 18),.fa 3 (.tmp 2),(some (14,true))⟩,
 ⟨(some 19),.ld1 (.tmp 18),(some (14,true))⟩,
 ⟨(some 20),bX .eql 17 19,(some (14,true))⟩,
 oX 21 (.pick (.tmp 14) (.tmp 20) (.const (.bool false))),
 vX 22 21,
 ⟨(some 23),.fa 1 (.tmp 3),(some (22,true))⟩,
 ⟨(some 24),.ld1 (.tmp 23),(some (22,true))⟩,
 ⟨(some 25),.len (.tmp 24),(some (22,true))⟩,
 ⟨(some 26),.fa 4 (.tmp 2),(some (22,true))⟩,
 ⟨(some 27),.ld1 (.tmp 26),(some (22,true))⟩,
 ⟨(some 28),bX .eql 25 27,(some (22,true))⟩,
 oX 29 (.pick (.tmp 22) (.tmp 28) (.const (.bool false))),
 vX 30 29,
 ⟨(some 31),.fa 2 (.tmp 3),(some (30,true))⟩,
 ⟨(some 32),.ld1 (.tmp 31),(some (30,true))⟩,
 ⟨(some 33),.len (.tmp 32),(some (30,true))⟩,
 ⟨(some 34),.mv (.tmp 5),(some (30,true))⟩,
 ⟨(some 35),bX .eql 33 34,(some (30,true))⟩,
 oX 36 (.pick (.tmp 30) (.tmp 35) (.const (.bool false))),
 vX 4 36])
 (.ret))))
theorem k17 : fnOk Tryz.prog 17 = some (M17, [.t 4], 37) := by kernel_rfl

theorem c_Fits (c : Cd) (e : Evr) (hc : CdAt w0 H c) (hy : fitP c e → K (.bool true) H) (hn : ¬ fitP c e → K (.bool false) H) : HCalls Tryz.prog w0 17 [c.v, e.v] H K := by
  have cC := fun (G : Heap) (K' : Value → Heap → Prop) (g : Grow w0 H G) => c_chk (K := K') c (hc.grow g)
  have fin : ∀ q : Bool, (q = true ↔ fitP c e) → HL.Fin K (.bool q) H := fun q hq => Fin_mk (Heap.Le.refl _) (by
    cases q
    · exact hn fun hf => by have := hq.2 hf; cases this
    · exact hy (hq.1 rfl))
  have hm : chk c = 0 ↔ mayP c := by
    unfold chk; split
    · exact ⟨fun _ => by assumption, fun _ => rfl⟩
    · exact ⟨fun h => absurd h (by decide), fun h => (by contradiction)⟩
  unfold fitP at fin
  obtain ⟨st, adr, cap, is, rg, ab, un, va⟩ := c
  unfold Cd.v at cC ⊢
  unfold Evr.v Evr.row
  generalize chk ⟨st, adr, cap, is, rg, ab, un, va⟩ = r at cC hm
  generalize mayP ⟨st, adr, cap, is, rg, ab, un, va⟩ = M at fin hm
  simp only at cC fin ⊢
  have f1 : ¬ M → HL.Fin K (.bool false) H := fun n => fin false ⟨fun q => absurd q (by decide), fun q => (n q.1).elim⟩
  clear hy hn hc
  replace f1 : Keep _ := f1
  replace fin : Keep _ := fin
  replace cC : Keep _ := cC
  replace hm : Keep _ := hm
  by_cases h1 : r = 0
  · have hM : M := (show r = 0 ↔ M from hm).1 h1
    subst h1
    replace hM : Keep _ := hM
    by_cases hs : st = 1
    · subst hs
      refine HL.hc k17 999 ?_; unfold M17
      (all_goals (try simp only [S0,putAt,List.replicate,Int.reduceAdd,Int.reduceSub,Int.reduceMul,Int.reduceTDiv,Int.reduceTMod,Int.reduceMod,Int.reduceDiv,Nat.reduceLT,Nat.reduceEqDiff,Int.reduceLE,Int.reduceLT,Int.reduceToNat,Int.reduceNeg,Int.reduceEq,Nat.reduceLeDiff,Nat.reducePow,Int.reducePow,reduceIte,Nat.reduceSub,Nat.reduceAdd,Nat.reduceMul, *])); repeat' ((first | (with_reducible refine fun _ : True => ?_) | refine cC _ _ aG ?_ | (with_reducible refine any_h ?_) | ((first | refine AllocQ_i ?_ | refine AllocO_i ?_); intro bk hb0 hbk; try simp only [set_none'] at hbk) | ((first | refine condS_i ?_ ?_ | refine pick_i ?_ ?_ | refine gS_it ?_ ?_ | refine gS_if ?_ ?_ | refine gP_it ?_ ?_ | refine gP_if ?_ ?_) <;> (intro hc; try simp only [Int.reduceLE,Int.reduceLT,Int.reduceEq,Sn] at hc; try (exfalso; omega))) | (with_reducible refine KP_i ?_ ?_; · exact aE) | (with_reducible refine And.intro ?_ ?_)) <;> (try simp only [S0,putAt,List.replicate,Int.reduceAdd,Int.reduceSub,Int.reduceMul,Int.reduceTDiv,Int.reduceTMod,Int.reduceMod,Int.reduceDiv,Nat.reduceLT,Nat.reduceEqDiff,Int.reduceLE,Int.reduceLT,Int.reduceToNat,Int.reduceNeg,Int.reduceEq,Nat.reduceLeDiff,Nat.reducePow,Int.reducePow,reduceIte,Nat.reduceSub,Nat.reduceAdd,Nat.reduceMul, *]))
      all_goals
        have hM : M := hM
        refine Fin_le ((show ∀ q : Bool, _ → _ from fin) _ ?_) aL
        simp [hM, *]
    · refine HL.hc k17 999 ?_; unfold M17
      (all_goals (try simp only [S0,putAt,List.replicate,Int.reduceAdd,Int.reduceSub,Int.reduceMul,Int.reduceTDiv,Int.reduceTMod,Int.reduceMod,Int.reduceDiv,Nat.reduceLT,Nat.reduceEqDiff,Int.reduceLE,Int.reduceLT,Int.reduceToNat,Int.reduceNeg,Int.reduceEq,Nat.reduceLeDiff,Nat.reducePow,Int.reducePow,reduceIte,Nat.reduceSub,Nat.reduceAdd,Nat.reduceMul, *])); repeat' ((first | (with_reducible refine fun _ : True => ?_) | refine cC _ _ aG ?_ | (with_reducible refine any_h ?_) | ((first | refine AllocQ_i ?_ | refine AllocO_i ?_); intro bk hb0 hbk; try simp only [set_none'] at hbk) | ((first | refine condS_i ?_ ?_ | refine pick_i ?_ ?_ | refine gS_it ?_ ?_ | refine gS_if ?_ ?_ | refine gP_it ?_ ?_ | refine gP_if ?_ ?_) <;> (intro hc; try simp only [Int.reduceLE,Int.reduceLT,Int.reduceEq,Sn] at hc; try (exfalso; omega))) | (with_reducible refine KP_i ?_ ?_; · exact aE) | (with_reducible refine And.intro ?_ ?_)) <;> (try simp only [S0,putAt,List.replicate,Int.reduceAdd,Int.reduceSub,Int.reduceMul,Int.reduceTDiv,Int.reduceTMod,Int.reduceMod,Int.reduceDiv,Nat.reduceLT,Nat.reduceEqDiff,Int.reduceLE,Int.reduceLT,Int.reduceToNat,Int.reduceNeg,Int.reduceEq,Nat.reduceLeDiff,Nat.reducePow,Int.reducePow,reduceIte,Nat.reduceSub,Nat.reduceAdd,Nat.reduceMul, *]))
      all_goals
        have hM : M := hM
        refine Fin_le ((show ∀ q : Bool, _ → _ from fin) _ ?_) aL
        simp [hM, *]
  · have hM : ¬ M := fun h => h1 ((show r = 0 ↔ M from hm).2 h)
    have f1 := (show ¬ M → HL.Fin K (.bool false) H from f1) hM
    replace f1 : Keep _ := f1
    replace hM : Keep _ := hM
    by_cases hs : st = 1
    · subst hs
      refine HL.hc k17 999 ?_; unfold M17
      (all_goals (try simp only [S0,putAt,List.replicate,Int.reduceAdd,Int.reduceSub,Int.reduceMul,Int.reduceTDiv,Int.reduceTMod,Int.reduceMod,Int.reduceDiv,Nat.reduceLT,Nat.reduceEqDiff,Int.reduceLE,Int.reduceLT,Int.reduceToNat,Int.reduceNeg,Int.reduceEq,Nat.reduceLeDiff,Nat.reducePow,Int.reducePow,reduceIte,Nat.reduceSub,Nat.reduceAdd,Nat.reduceMul, *])); repeat' ((first | (with_reducible refine fun _ : True => ?_) | refine cC _ _ aG ?_ | (with_reducible refine any_h ?_) | ((first | refine AllocQ_i ?_ | refine AllocO_i ?_); intro bk hb0 hbk; try simp only [set_none'] at hbk) | ((first | refine condS_i ?_ ?_ | refine pick_i ?_ ?_ | refine gS_it ?_ ?_ | refine gS_if ?_ ?_ | refine gP_it ?_ ?_ | refine gP_if ?_ ?_) <;> (intro hc; try simp only [Int.reduceLE,Int.reduceLT,Int.reduceEq,Sn] at hc; try (exfalso; omega))) | (with_reducible refine KP_i ?_ ?_; · exact aE) | (with_reducible refine And.intro ?_ ?_)) <;> (try simp only [S0,putAt,List.replicate,Int.reduceAdd,Int.reduceSub,Int.reduceMul,Int.reduceTDiv,Int.reduceTMod,Int.reduceMod,Int.reduceDiv,Nat.reduceLT,Nat.reduceEqDiff,Int.reduceLE,Int.reduceLT,Int.reduceToNat,Int.reduceNeg,Int.reduceEq,Nat.reduceLeDiff,Nat.reducePow,Int.reducePow,reduceIte,Nat.reduceSub,Nat.reduceAdd,Nat.reduceMul, *]))
      all_goals exact Fin_le f1 aL
    · refine HL.hc k17 999 ?_; unfold M17
      (all_goals (try simp only [S0,putAt,List.replicate,Int.reduceAdd,Int.reduceSub,Int.reduceMul,Int.reduceTDiv,Int.reduceTMod,Int.reduceMod,Int.reduceDiv,Nat.reduceLT,Nat.reduceEqDiff,Int.reduceLE,Int.reduceLT,Int.reduceToNat,Int.reduceNeg,Int.reduceEq,Nat.reduceLeDiff,Nat.reducePow,Int.reducePow,reduceIte,Nat.reduceSub,Nat.reduceAdd,Nat.reduceMul, *])); repeat' ((first | (with_reducible refine fun _ : True => ?_) | refine cC _ _ aG ?_ | (with_reducible refine any_h ?_) | ((first | refine AllocQ_i ?_ | refine AllocO_i ?_); intro bk hb0 hbk; try simp only [set_none'] at hbk) | ((first | refine condS_i ?_ ?_ | refine pick_i ?_ ?_ | refine gS_it ?_ ?_ | refine gS_if ?_ ?_ | refine gP_it ?_ ?_ | refine gP_if ?_ ?_) <;> (intro hc; try simp only [Int.reduceLE,Int.reduceLT,Int.reduceEq,Sn] at hc; try (exfalso; omega))) | (with_reducible refine KP_i ?_ ?_; · exact aE) | (with_reducible refine And.intro ?_ ?_)) <;> (try simp only [S0,putAt,List.replicate,Int.reduceAdd,Int.reduceSub,Int.reduceMul,Int.reduceTDiv,Int.reduceTMod,Int.reduceMod,Int.reduceDiv,Nat.reduceLT,Nat.reduceEqDiff,Int.reduceLE,Int.reduceLT,Int.reduceToNat,Int.reduceNeg,Int.reduceEq,Nat.reduceLeDiff,Nat.reducePow,Int.reducePow,reduceIte,Nat.reduceSub,Nat.reduceAdd,Nat.reduceMul, *]))
      all_goals exact Fin_le f1 aL
theorem fit_bool (c : Cd) (e : Evr) (hc : CdAt w0 H c) {q : Bool} (hq : q = true ↔ fitP c e) (h : K (.bool q) H) : HCalls Tryz.prog w0 17 [c.v, e.v] H K :=
  c_Fits c e hc (fun f => by rw [hq.2 f] at h; exact h) (fun f => by
    cases q
    · exact h
    · exact (f (hq.1 rfl)).elim)
theorem mks_v {K : Value → Heap → Prop} {e : TypeId} {by_ : Nat} {z : List Value} {k k' : IntKind} {l c : Int} (h0 : 0 ≤ l) (h1 : l ≤ c) (h2 : c ≤ 9223372036854775807) (h3 : by_ * c.toNat ≤ 281474976710656)
    (h : AllocQ w0 G K (fun b => .slice (some ⟨b, 0, none⟩) l.toNat c.toNat) e (zeroL z c.toNat)) : mksQ w0 G K e by_ z (.int k l) (.int k' c) := ⟨h0, h1, h2, h3, h⟩
theorem zeroL_rep (z : List Value) (n : Nat) : zeroL z n = (List.replicate n z).flatten := by
  have key : ∀ n i : Nat, (List.replicate n z).flatten[i]? = if i < n * z.length then z[i % z.length]? else none := by
    intro n
    induction n with
    | zero => intro i; simp
    | succ n ih =>
      intro i
      rw [List.replicate_succ, List.flatten_cons]
      by_cases h : i < z.length
      · rw [List.getElem?_append_left h, if_pos (by rw [Nat.succ_mul]; omega), Nat.mod_eq_of_lt h]
      · rw [List.getElem?_append_right (by omega), ih]
        by_cases h2 : i - z.length < n * z.length
        · rw [if_pos h2, if_pos (by rw [Nat.succ_mul]; omega), Nat.mod_eq_sub_mod (a := i) (by omega)]
        · rw [if_neg h2, if_neg (by rw [Nat.succ_mul]; omega)]
  apply List.ext_getElem?
  intro i
  rw [key]
  simp only [zeroL, Builtin.zeroCells]
  simp
  split
  · rename_i h
    have hz : 0 < z.length := by
      rcases Nat.eq_zero_or_pos z.length with e | e
      · rw [e] at h; omega
      · exact e
    have hm := Nat.mod_lt i hz
    simp [h, hm]
  · rename_i h
    simp; omega
theorem zero_rows (n : Nat) : zeroL [.int .i32 0, .int .i32 0, .int .i32 0, .int .i32 0] n = ((List.replicate n V4.z).map V4.row).flatten := by
  rw [zeroL_rep, List.map_replicate]
  rfl
theorem rep_I (n : Nat) : ∀ r ∈ List.replicate n V4.z, r.I := fun r hr => by rw [List.eq_of_mem_replicate hr]; exact z4_I
/- paintbox/vm start -/
def M29 : MC :=
  .seq (.reg [oX 2 (.box 24 (.tmp 0)),
 oX 3 (.box 31 (.tmp 1)),
 oX 4 (.mv (.const (.pointer none))),
 oX 5 (.mv (.const (.slice none 0 0))),
 oX 6 (.mv (kX 0))])
 (.seq (.block 0 (.seq (.reg [oX 9 (.ldn 6 (.tmp 2)),
 oX 10 (.call 31 [(.tmp 9)]),
 oX 11 (bK .neq 10 0),
 vX 8 11])
 (.cond (.tmp 8)
 (.seq (.reg [oX 4 (.mv (.const (.pointer none))),
 oX 5 (.mv (.const (.slice none 0 0))),
 oX 6 (.mv (kX 260))])
 (.ret))
 (.seq (.reg [oX 13 (.ldn 6 (.tmp 2)),
 oX 14 (.ldn 13 (.tmp 3)),
 oX 15 (.call 17 [(.tmp 13),(.tmp 14)]),
 oX 16 (.un .not (.tmp 15)),
 vX 12 16])
 (.cond (.tmp 12)
 (.seq (.reg [oX 4 (.mv (.const (.pointer none))),
 oX 5 (.mv (.const (.slice none 0 0))),
 oX 6 (.mv (kX 2))])
 (.ret))
 (.skip))))))
 (.seq (.any [(true,0,[],oX 17 (.ldn 13 (.tmp 3))),
 (false,1,[0],oX 18 (.fa 2 (.tmp 2))),
 (false,2,[0],oX 19 (.ld1 (.tmp 18))),
 (false,3,[0],oX 20 (.mks 28 16 [(.int .i32 0),(.int .i32 0),(.int .i32 0),(.int .i32 0)] (.tmp 19) (.tmp 19))),
 (false,4,[],oX 21 (.build [(.slice none 0 0),(.slice none 0 0),(.slice none 0 0),(.int .i32 0),(.int .i32 0),(.int .i32 0),(.int .i32 0),(.bool false),(.int .i32 0),(.int .i32 0),(.int .i32 0),(.int .i32 0),(.slice none 0 0),(.int .i32 0),(.int .i32 0),(.int .i32 0),(.int .i32 0),(.int .i32 0),(.slice none 0 0),(.int .i32 0),(.int .i32 0),(.int .i32 0),(.int .i32 0),(.bool false),(.slice none 0 0)] [(0,13,(.tmp 17)),(24,1,(.tmp 20))])),
 (false,5,[],oX 22 (.box 73 (.tmp 21))),
 (false,6,[],vX 7 22)])
 (.seq (.seq (.reg [oX 23 (.fa 0 (.tmp 2)),
 oX 24 (.ld1 (.tmp 23)),
 oX 25 (bK .eql 24 1)])
 (.cond (.tmp 25)
 (.reg [vX 26 7,
 oX 27 (.fa 5 (.tmp 2)),
 oX 28 (.ld1 (.tmp 27)),
 oX 29 (.mks 28 16 [(.int .i32 0),(.int .i32 0),(.int .i32 0),(.int .i32 0)] (.tmp 28) (.tmp 28)),
 oX 30 (.nilc (.tmp 26)),
 oX 31 (.fa 13 (.tmp 30)),
 oX 32 (.fa 5 (.tmp 31)),
 ⟨none,.st1 (.tmp 32) (.tmp 29),none⟩])
 (.skip)))
 (.seq (.reg [vX 33 7,
 vX 34 7,
 oX 35 (.fa 1 (.tmp 2)),
 oX 36 (.ld1 (.tmp 35)),
 oX 37 (.call 49 [(.tmp 34),(.tmp 36)]),
 vX 4 33,
 vX 5 37,
 oX 6 (.mv (kX 0))])
 (.ret)))))
theorem k29 : fnOk Tryz.prog 29 = some (M29, [.t 4, .t 5, .t 6], 38) := by kernel_rfl

theorem c_start_err (c : Cd) (e : Evr) (hc : CdAt w0 H c) (r : Int) (q : Bool) (er : chk c = r) (eq : q = true ↔ fitP c e) (hr : ¬ r = 0 ∨ (r = 0 ∧ q = false)) (h : K (.tuple #[.pointer none, .slice none 0 0, .int .i64 (if r = 0 then 2 else 260)]) H) :
    HCalls Tryz.prog w0 29 [c.v, e.v] H K := by
  have cC := fun (G : Heap) (K' : Value → Heap → Prop) (g : Grow w0 H G) (hk : K' (.int .i64 r) G) => c_chk (K := K') c (hc.grow g) (by rw [er]; exact hk)
  have cF := fun (G : Heap) (K' : Value → Heap → Prop) (g : Grow w0 H G) => fit_bool (K := K') c e (hc.grow g) eq
  obtain ⟨st, adr, cap, is, rg, ab, un, va⟩ := c
  unfold Cd.v Evr.v Evr.row at cF ⊢
  unfold Cd.v at cC
  simp only at cC cF ⊢
  clear hc er eq
  replace cF : Keep _ := cF
  replace cC : Keep _ := cC
  rcases hr with hr | ⟨hr, hq⟩
  · rw [if_neg hr] at h
    replace h : Keep _ := h
    refine HL.hc k29 999 ?_; unfold M29
    (all_goals (try simp only [S0,putAt,List.replicate,Int.reduceAdd,Int.reduceSub,Int.reduceMul,Int.reduceTDiv,Int.reduceTMod,Int.reduceMod,Int.reduceDiv,Nat.reduceLT,Nat.reduceEqDiff,Int.reduceLE,Int.reduceLT,Int.reduceToNat,Int.reduceNeg,Int.reduceEq,Nat.reduceLeDiff,Nat.reducePow,Int.reducePow,reduceIte,Nat.reduceSub,Nat.reduceAdd,Nat.reduceMul, *])); repeat' ((first | (with_reducible refine fun _ : True => ?_) | refine cC _ _ aG ?_ | (with_reducible refine any_h ?_) | ((first | refine AllocQ_i ?_ | refine AllocO_i ?_); intro bk hb0 hbk; (try simp only [set_none'] at hbk)) | ((first | refine condS_i ?_ ?_ | refine pick_i ?_ ?_ | refine gS_it ?_ ?_ | refine gS_if ?_ ?_ | refine gP_it ?_ ?_ | refine gP_if ?_ ?_) <;> (intro hc; try simp only [Int.reduceLE,Int.reduceLT,Int.reduceEq,Sn] at hc)) | (with_reducible refine KP_i ?_ ?_; · exact aL) | (with_reducible refine And.intro ?_ ?_)) <;> (try simp only [S0,putAt,List.replicate,Int.reduceAdd,Int.reduceSub,Int.reduceMul,Int.reduceTDiv,Int.reduceTMod,Int.reduceMod,Int.reduceDiv,Nat.reduceLT,Nat.reduceEqDiff,Int.reduceLE,Int.reduceLT,Int.reduceToNat,Int.reduceNeg,Int.reduceEq,Nat.reduceLeDiff,Nat.reducePow,Int.reducePow,reduceIte,Nat.reduceSub,Nat.reduceAdd,Nat.reduceMul, *]))
    exact Fin_mk aL h
  · subst hr hq
    rw [if_pos rfl] at h
    replace h : Keep _ := h
    refine HL.hc k29 999 ?_; unfold M29
    (all_goals (try simp only [S0,putAt,List.replicate,Int.reduceAdd,Int.reduceSub,Int.reduceMul,Int.reduceTDiv,Int.reduceTMod,Int.reduceMod,Int.reduceDiv,Nat.reduceLT,Nat.reduceEqDiff,Int.reduceLE,Int.reduceLT,Int.reduceToNat,Int.reduceNeg,Int.reduceEq,Nat.reduceLeDiff,Nat.reducePow,Int.reducePow,reduceIte,Nat.reduceSub,Nat.reduceAdd,Nat.reduceMul, *])); repeat' ((first | (with_reducible refine fun _ : True => ?_) | refine cC _ _ aG ?_ | refine cF _ _ aG ?_ | (with_reducible refine any_h ?_) | ((first | refine AllocQ_i ?_ | refine AllocO_i ?_); intro bk hb0 hbk; (try simp only [set_none'] at hbk)) | ((first | refine condS_i ?_ ?_ | refine pick_i ?_ ?_ | refine gS_it ?_ ?_ | refine gS_if ?_ ?_ | refine gP_it ?_ ?_ | refine gP_if ?_ ?_) <;> (intro hc; try simp only [Int.reduceLE,Int.reduceLT,Int.reduceEq,Sn] at hc)) | (with_reducible refine KP_i ?_ ?_; · exact aL) | (with_reducible refine And.intro ?_ ?_)) <;> (try simp only [S0,putAt,List.replicate,Int.reduceAdd,Int.reduceSub,Int.reduceMul,Int.reduceTDiv,Int.reduceTMod,Int.reduceMod,Int.reduceDiv,Nat.reduceLT,Nat.reduceEqDiff,Int.reduceLE,Int.reduceLT,Int.reduceToNat,Int.reduceNeg,Int.reduceEq,Nat.reduceLeDiff,Nat.reducePow,Int.reducePow,reduceIte,Nat.reduceSub,Nat.reduceAdd,Nat.reduceMul, *]))
    exact Fin_mk aL h
theorem c_start_ok (c : Cd) (e : Evr) (ims : List Sm.Im) (hc : CdAt w0 H c) (he : EvAt w0 H e) (hi : ImgAt w0 H e ims) (hI : EvI e) (hJ : CdI c) (hf : fitP c e)
    (h : ∀ G bm br av a cap ps y rg, Rn ims e c.is 0 (List.replicate c.rg.toNat V4.z) (Rp.new (nvs c)) ps y → RS w0 H G bm br av e y rg → Bld w0 H G a cap 1 3 (ps.map fun p => .int .i64 (p : Nat)) → ps.length ≤ cap → K (.tuple #[.pointer (some ⟨bm, 0, none⟩), .slice a ps.length cap, .int .i64 0]) G) :
    HCalls Tryz.prog w0 29 [c.v, e.v] H K := by
  have cC := fun (G : Heap) (K' : Value → Heap → Prop) (g : Grow w0 H G) (hk : K' (.int .i64 0) G) => c_chk (K := K') c (hc.grow g) (by unfold chk; rw [if_pos hf.1]; exact hk)
  have cF := fun (G : Heap) (K' : Value → Heap → Prop) (g : Grow w0 H G) => fit_bool (K := K') c e (hc.grow g) (q := true) ⟨fun _ => hf, fun _ => rfl⟩
  have cR := fun (G : Heap) (K' : Value → Heap → Prop) (bm br : Nat) (av : Option Nat) (rs : RS w0 H G bm br av e (Rp.new (nvs c)) (List.replicate c.rg.toNat V4.z)) => c_run (K := K') rs hi hI c.is c.adr c.cap hc.at_ hf.1.2.1 (by rw [List.length_replicate]; show RunOk e _ (List.replicate (nvs c) V4.z).length _; rw [List.length_replicate]; exact run_ok hf hJ)
  have hrg := below_t hf.1.2.2.1
  have hva := below_t hf.1.2.2.2.2.2.1
  obtain ⟨N, eN⟩ := Int.eq_ofNat_of_zero_le hrg.1
  obtain ⟨V, eV⟩ := Int.eq_ofNat_of_zero_le hva.1
  obtain ⟨st, adr, cap, is, rg, ab, un, va⟩ := c
  simp only at eN eV hrg hva
  subst eN eV
  unfold Cd.v Evr.v Evr.row at cF ⊢
  unfold Cd.v at cC
  unfold nvs at cR h
  simp only [Int.toNat_natCast] at cC cF cR h ⊢
  clear hc hi hI hJ hf
  by_cases hs : st = 1
  · subst hs
    simp only [reduceIte] at cR h
    replace cF : Keep _ := cF
    replace cC : Keep _ := cC
    replace cR : Keep _ := cR
    replace h : Keep _ := h
    replace he : Keep _ := he
    refine HL.hc k29 3000 ?_; unfold M29
    (all_goals (try simp only [S0,putAt,List.replicate,Int.reduceAdd,Int.reduceSub,Int.reduceMul,Int.reduceTDiv,Int.reduceTMod,Int.reduceMod,Int.reduceDiv,Nat.reduceLT,Nat.reduceEqDiff,Int.reduceLE,Int.reduceLT,Int.reduceToNat,Int.reduceNeg,Int.reduceEq,Nat.reduceLeDiff,Nat.reducePow,Int.reducePow,reduceIte,Nat.reduceSub,Nat.reduceAdd,Nat.reduceMul, *])); repeat' ((first | (with_reducible refine fun _ : True => ?_) | refine cC _ _ aG ?_ | refine cF _ _ aG ?_ | refine mks_v (by omega) (by omega) (by omega) (by omega) ?_ | (with_reducible refine any_h ?_) | ((first | refine AllocQ_i ?_ | refine AllocO_i ?_); intro bk hb0 hbk; (try simp only [set_none'] at hbk)) | ((first | refine condS_i ?_ ?_ | refine pick_i ?_ ?_ | refine gS_it ?_ ?_ | refine gS_if ?_ ?_ | refine gP_it ?_ ?_ | refine gP_if ?_ ?_) <;> (intro hc; try simp only [Int.reduceLE,Int.reduceLT,Int.reduceEq,Sn] at hc)) | (with_reducible refine KP_i ?_ ?_; · exact aL) | (with_reducible refine And.intro ?_ ?_)) <;> (try simp only [S0,putAt,List.replicate,Int.reduceAdd,Int.reduceSub,Int.reduceMul,Int.reduceTDiv,Int.reduceTMod,Int.reduceMod,Int.reduceDiv,Nat.reduceLT,Nat.reduceEqDiff,Int.reduceLE,Int.reduceLT,Int.reduceToNat,Int.reduceNeg,Int.reduceEq,Nat.reduceLeDiff,Nat.reducePow,Int.reducePow,reduceIte,Nat.reduceSub,Nat.reduceAdd,Nat.reduceMul, *]))
    rename_i b2 hb2 hn2 b3 hb3 hn3 b4 hb4 hn4 b5 hb5 hn5
    refine (show ∀ (G : Heap) (K' : Value → Heap → Prop) (bm br : Nat) (av : Option Nat), _ from cR) _ _ b5 b4 (some bk) ?_ ?_
    · refine ⟨⟨?_, ?_, EvAt.grow (show EvAt w0 H e from he) aG⟩, aG, he, ⟨hb5, hn5.2.2.2⟩, ⟨hb4, hn4.2.2⟩, fun bv ev => ?_, fun q => absurd q (by simp), rep_I N⟩
      · unfold mRow Evr.row Rp.res Res.row Rp.new V4.z
        simp only [List.cons_append, List.nil_append, List.length_replicate, Option.map_some, Option.isSome_some, if_true]
        exact aA
      · rw [← zero_rows]; exact aA
      · cases ev
        refine ⟨?_, hb0, hbk.2.2.2.2, ?_⟩
        · show _ = some (Blk.mk (.t 28) (((List.replicate V V4.z).map V4.row).flatten))
          rw [← zero_rows]; exact aA
        · exact hbk.2.1.1
    · intro G' a cap' ps av' y rg' hr hR hB hc
      have F := (show ∀ (G : Heap) (bm br : Nat) (av : Option Nat) (a : Option Addr) (cap : Nat) (ps : List Nat) (y : Rp) (rg : List V4), _ from h) G' b5 b4 av' a cap' ps y rg' hr hR hB hc
      clear cR h cC cF hr hR hB
      replace F : Keep _ := F
      (all_goals (try simp only [S0,putAt,List.replicate,Int.reduceAdd,Int.reduceSub,Int.reduceMul,Int.reduceTDiv,Int.reduceTMod,Int.reduceMod,Int.reduceDiv,Nat.reduceLT,Nat.reduceEqDiff,Int.reduceLE,Int.reduceLT,Int.reduceToNat,Int.reduceNeg,Int.reduceEq,Nat.reduceLeDiff,Nat.reducePow,Int.reducePow,reduceIte,Nat.reduceSub,Nat.reduceAdd,Nat.reduceMul, *])); repeat' ((first | (with_reducible refine fun _ : True => ?_) | (with_reducible refine any_h ?_) | ((first | refine AllocQ_i ?_ | refine AllocO_i ?_); intro bk hb0 hbk; (try simp only [set_none'] at hbk)) | ((first | refine condS_i ?_ ?_ | refine pick_i ?_ ?_ | refine gS_it ?_ ?_ | refine gS_if ?_ ?_ | refine gP_it ?_ ?_ | refine gP_if ?_ ?_) <;> (intro hc; try simp only [Int.reduceLE,Int.reduceLT,Int.reduceEq,Sn] at hc)) | (with_reducible refine KP_i ?_ ?_; · exact aL) | (with_reducible refine And.intro ?_ ?_)) <;> (try simp only [S0,putAt,List.replicate,Int.reduceAdd,Int.reduceSub,Int.reduceMul,Int.reduceTDiv,Int.reduceTMod,Int.reduceMod,Int.reduceDiv,Nat.reduceLT,Nat.reduceEqDiff,Int.reduceLE,Int.reduceLT,Int.reduceToNat,Int.reduceNeg,Int.reduceEq,Nat.reduceLeDiff,Nat.reducePow,Int.reducePow,reduceIte,Nat.reduceSub,Nat.reduceAdd,Nat.reduceMul, *]))
      exact Fin_mk aL F
  · simp only [if_neg hs] at cR h
    replace cF : Keep _ := cF
    replace cC : Keep _ := cC
    replace cR : Keep _ := cR
    replace h : Keep _ := h
    replace he : Keep _ := he
    refine HL.hc k29 3000 ?_; unfold M29
    (all_goals (try simp only [S0,putAt,List.replicate,Int.reduceAdd,Int.reduceSub,Int.reduceMul,Int.reduceTDiv,Int.reduceTMod,Int.reduceMod,Int.reduceDiv,Nat.reduceLT,Nat.reduceEqDiff,Int.reduceLE,Int.reduceLT,Int.reduceToNat,Int.reduceNeg,Int.reduceEq,Nat.reduceLeDiff,Nat.reducePow,Int.reducePow,reduceIte,Nat.reduceSub,Nat.reduceAdd,Nat.reduceMul, *])); repeat' ((first | (with_reducible refine fun _ : True => ?_) | refine cC _ _ aG ?_ | refine cF _ _ aG ?_ | refine mks_v (by omega) (by omega) (by omega) (by omega) ?_ | (with_reducible refine any_h ?_) | ((first | refine AllocQ_i ?_ | refine AllocO_i ?_); intro bk hb0 hbk; (try simp only [set_none'] at hbk)) | ((first | refine condS_i ?_ ?_ | refine pick_i ?_ ?_ | refine gS_it ?_ ?_ | refine gS_if ?_ ?_ | refine gP_it ?_ ?_ | refine gP_if ?_ ?_) <;> (intro hc; try simp only [Int.reduceLE,Int.reduceLT,Int.reduceEq,Sn] at hc)) | (with_reducible refine KP_i ?_ ?_; · exact aL) | (with_reducible refine And.intro ?_ ?_)) <;> (try simp only [S0,putAt,List.replicate,Int.reduceAdd,Int.reduceSub,Int.reduceMul,Int.reduceTDiv,Int.reduceTMod,Int.reduceMod,Int.reduceDiv,Nat.reduceLT,Nat.reduceEqDiff,Int.reduceLE,Int.reduceLT,Int.reduceToNat,Int.reduceNeg,Int.reduceEq,Nat.reduceLeDiff,Nat.reducePow,Int.reducePow,reduceIte,Nat.reduceSub,Nat.reduceAdd,Nat.reduceMul, *]))
    rename_i b2 hb2 hn2 b3 hb3 hn3 b4 hb4 hn4
    refine (show ∀ (G : Heap) (K' : Value → Heap → Prop) (bm br : Nat) (av : Option Nat), _ from cR) _ _ bk b4 none ?_ ?_
    · refine ⟨⟨?_, ?_, EvAt.grow (show EvAt w0 H e from he) aG⟩, aG, he, ⟨hb0, hbk.2.2.2⟩, ⟨hb4, hn4.2.2⟩, fun bv ev => absurd ev (by simp), fun _ => rfl, rep_I N⟩
      · unfold mRow Evr.row Rp.res Res.row Rp.new V4.z
        simp only [List.cons_append, List.nil_append, List.length_replicate, Option.map_none, Option.isSome_none, Bool.false_eq_true, if_false]
        exact aA
      · rw [← zero_rows]; exact aA
    · intro G' a cap' ps av' y rg' hr hR hB hc
      have F := (show ∀ (G : Heap) (bm br : Nat) (av : Option Nat) (a : Option Addr) (cap : Nat) (ps : List Nat) (y : Rp) (rg : List V4), _ from h) G' bk b4 av' a cap' ps y rg' hr hR hB hc
      clear cR h cC cF hr hR hB
      replace F : Keep _ := F
      (all_goals (try simp only [S0,putAt,List.replicate,Int.reduceAdd,Int.reduceSub,Int.reduceMul,Int.reduceTDiv,Int.reduceTMod,Int.reduceMod,Int.reduceDiv,Nat.reduceLT,Nat.reduceEqDiff,Int.reduceLE,Int.reduceLT,Int.reduceToNat,Int.reduceNeg,Int.reduceEq,Nat.reduceLeDiff,Nat.reducePow,Int.reducePow,reduceIte,Nat.reduceSub,Nat.reduceAdd,Nat.reduceMul, *])); repeat' ((first | (with_reducible refine fun _ : True => ?_) | (with_reducible refine any_h ?_) | ((first | refine AllocQ_i ?_ | refine AllocO_i ?_); intro bk hb0 hbk; (try simp only [set_none'] at hbk)) | ((first | refine condS_i ?_ ?_ | refine pick_i ?_ ?_ | refine gS_it ?_ ?_ | refine gS_if ?_ ?_ | refine gP_it ?_ ?_ | refine gP_if ?_ ?_) <;> (intro hc; try simp only [Int.reduceLE,Int.reduceLT,Int.reduceEq,Sn] at hc)) | (with_reducible refine KP_i ?_ ?_; · exact aL) | (with_reducible refine And.intro ?_ ?_)) <;> (try simp only [S0,putAt,List.replicate,Int.reduceAdd,Int.reduceSub,Int.reduceMul,Int.reduceTDiv,Int.reduceTMod,Int.reduceMod,Int.reduceDiv,Nat.reduceLT,Nat.reduceEqDiff,Int.reduceLE,Int.reduceLT,Int.reduceToNat,Int.reduceNeg,Int.reduceEq,Nat.reduceLeDiff,Nat.reducePow,Int.reducePow,reduceIte,Nat.reduceSub,Nat.reduceAdd,Nat.reduceMul, *]))
      exact Fin_mk aL F
end Go.Proofs.YtdmnfaefakceiaaGreat
end
section
/- Run and Trace, by the program (layer 18). -/
set_option linter.unusedSimpArgs false
set_option linter.unusedVariables false
set_option maxRecDepth 100000
set_option maxHeartbeats 4000000
namespace Go.Proofs.YtdmnfaefakceiaaGreat
open Go.HL Go.RowKit Pb
variable {w0 : World} {H G : Heap} {K : Value → Heap → Prop}

theorem Rn.vs {ims : List Sm.Im} {e : Evr} {l : List Ins} {k : Nat} {rg : List V4} {x y : Rp} {ps : List Nat} (h : Rn ims e l k rg x ps y) : y.vs.length ≤ x.vs.length := by
  induction h with
  | fin _ => exact Nat.le_refl _
  | dis _ _ => exact Nat.zero_le _
  | step _ _ _ ih => rw [rs_len] at ih; exact ih
/-- What goes wrong, if it does. -/
def bad (c : Cd) (e : Evr) (r : Int) : Prop := (¬ mayP c ∧ r = 260) ∨ (mayP c ∧ ¬ fitP c e ∧ r = 2)
theorem c_start_bad (c : Cd) (e : Evr) (hc : CdAt w0 H c) {r : Int} (hr : bad c e r) (h : K (.tuple #[.pointer none, .slice none 0 0, .int .i64 r]) H) : HCalls Tryz.prog w0 29 [c.v, e.v] H K := by
  have hno : ¬ fitP c e := fun f => by
    rcases hr with ⟨h1, -⟩ | ⟨-, h2, -⟩
    · exact h1 f.1
    · exact h2 f
  have hq : (false = true) ↔ fitP c e := ⟨fun q => absurd q (by decide), fun f => (hno f).elim⟩
  rcases hr with ⟨h1, rfl⟩ | ⟨h1, h2, rfl⟩
  · exact c_start_err c e hc 260 false (by unfold chk; rw [if_neg h1]) hq (.inl (by decide)) h
  · exact c_start_err c e hc 0 false (by unfold chk; rw [if_pos h1]) hq (.inr ⟨rfl, rfl⟩) h
def res0 : Value := .agg #[.int .i32 0, .int .i32 0, .int .i32 0, .int .i32 0, .int .i32 0, .slice none 0 0, .int .i32 0, .int .i32 0, .int .i32 0, .int .i32 0, .bool false]
/- paintbox/vm Run -/
def M13 : MC :=
  .seq (.reg [oX 2 (.box 24 (.tmp 0)),
 oX 3 (.box 31 (.tmp 1)),
 oX 4 (.alloc 36 [(.int .i32 0),(.int .i32 0),(.int .i32 0),(.int .i32 0),(.int .i32 0),(.slice none 0 0),(.int .i32 0),(.int .i32 0),(.int .i32 0),(.int .i32 0),(.bool false)]),
 oX 5 (.mv (kX 0))])
 (.seq (.reg [oX 10 (.ldn 6 (.tmp 2)),
 oX 11 (.ldn 13 (.tmp 3)),
 oX 12 (.call 29 [(.tmp 10),(.tmp 11)]),
 vX 9 12,
 oX 13 (.ext 0 (.tmp 9)),
 oX 14 (.ext 1 (.tmp 9)),
 oX 15 (.ext 2 (.tmp 9)),
 vX 6 13,
 vX 7 14,
 vX 8 15])
 (.seq (.seq (.reg [vX 16 8,
 oX 17 (bK .neq 16 0)])
 (.cond (.tmp 17)
 (.seq (.reg [oX 18 (.build [(.int .i32 0),(.int .i32 0),(.int .i32 0),(.int .i32 0),(.int .i32 0),(.slice none 0 0),(.int .i32 0),(.int .i32 0),(.int .i32 0),(.int .i32 0),(.bool false)] []),
 vX 19 8,
 ⟨none,.stn 11 (.tmp 4) (.tmp 18),none⟩,
 vX 5 19])
 (.ret))
 (.skip)))
 (.seq (.reg [vX 20 6,
 oX 21 (.nilc (.tmp 20)),
 oX 22 (.fa 13 (.tmp 21)),
 oX 23 (.ldn 11 (.tmp 22)),
 ⟨none,.stn 11 (.tmp 4) (.tmp 23),none⟩,
 oX 5 (.mv (kX 0))])
 (.ret))))
theorem k13 : fnOk Tryz.prog 13 = some (M13, [.cn 11 4, .t 5], 24) := by kernel_rfl
/- paintbox/vm Trace -/
def M14 : MC :=
  .seq (.reg [oX 2 (.box 24 (.tmp 0)),
 oX 3 (.box 31 (.tmp 1)),
 oX 4 (.mv (.const (.slice none 0 0))),
 oX 5 (.mv (kX 0))])
 (.seq (.reg [oX 10 (.ldn 6 (.tmp 2)),
 oX 11 (.ldn 13 (.tmp 3)),
 oX 12 (.call 29 [(.tmp 10),(.tmp 11)]),
 vX 9 12,
 oX 13 (.ext 0 (.tmp 9)),
 oX 14 (.ext 1 (.tmp 9)),
 oX 15 (.ext 2 (.tmp 9)),
 vX 6 13,
 vX 7 14,
 vX 8 15])
 (.seq (.reg [vX 16 7,
 vX 17 8,
 vX 4 16,
 vX 5 17])
 (.ret)))
theorem k14 : fnOk Tryz.prog 14 = some (M14, [.t 4, .t 5], 18) := by kernel_rfl

theorem c_Run_bad (c : Cd) (e : Evr) (hc : CdAt w0 H c) {r : Int} (hr : bad c e r) (h : K (.tuple #[res0, .int .i64 r]) H) : HCalls Tryz.prog w0 13 [c.v, e.v] H K := by
  have cS := fun (G : Heap) (K' : Value → Heap → Prop) (g : Grow w0 H G) => c_start_bad (K := K') c e (hc.grow g) hr
  have r0 : ¬ r = 0 := by rcases hr with ⟨-, rfl⟩ | ⟨-, -, rfl⟩ <;> decide
  obtain ⟨st, adr, cap, is, rg, ab, un, va⟩ := c
  unfold Cd.v Evr.v Evr.row at cS ⊢
  unfold res0 at h
  simp only at cS ⊢
  clear hc hr
  replace h : Keep _ := h
  replace cS : Keep _ := cS
  refine HL.hc k13 999 ?_; unfold M13
  (all_goals (try simp only [S0,putAt,List.replicate,Int.reduceAdd,Int.reduceSub,Int.reduceMul,Int.reduceTDiv,Int.reduceTMod,Int.reduceMod,Int.reduceDiv,Nat.reduceLT,Nat.reduceEqDiff,Int.reduceLE,Int.reduceLT,Int.reduceToNat,Int.reduceNeg,Int.reduceEq,Nat.reduceLeDiff,Nat.reducePow,Int.reducePow,reduceIte,Nat.reduceSub,Nat.reduceAdd,Nat.reduceMul, *])); repeat' ((first | (with_reducible refine fun _ : True => ?_) | refine cS _ _ aG ?_ | (with_reducible refine any_h ?_) | ((first | refine AllocQ_i ?_ | refine AllocO_i ?_); intro bk hb0 hbk; (try simp only [set_none'] at hbk)) | ((first | refine condS_i ?_ ?_ | refine pick_i ?_ ?_ | refine gS_it ?_ ?_ | refine gS_if ?_ ?_ | refine gP_it ?_ ?_ | refine gP_if ?_ ?_) <;> (intro hc; try simp only [Int.reduceLE,Int.reduceLT,Int.reduceEq,Sn] at hc)) | (with_reducible refine KP_i ?_ ?_; · exact aL) | (with_reducible refine And.intro ?_ ?_)) <;> (try simp only [S0,putAt,List.replicate,Int.reduceAdd,Int.reduceSub,Int.reduceMul,Int.reduceTDiv,Int.reduceTMod,Int.reduceMod,Int.reduceDiv,Nat.reduceLT,Nat.reduceEqDiff,Int.reduceLE,Int.reduceLT,Int.reduceToNat,Int.reduceNeg,Int.reduceEq,Nat.reduceLeDiff,Nat.reducePow,Int.reducePow,reduceIte,Nat.reduceSub,Nat.reduceAdd,Nat.reduceMul, *]))
  exact Fin_mk aL h
theorem c_Trace_bad (c : Cd) (e : Evr) (hc : CdAt w0 H c) {r : Int} (hr : bad c e r) (h : K (.tuple #[.slice none 0 0, .int .i64 r]) H) : HCalls Tryz.prog w0 14 [c.v, e.v] H K := by
  have cS := fun (G : Heap) (K' : Value → Heap → Prop) (g : Grow w0 H G) => c_start_bad (K := K') c e (hc.grow g) hr
  obtain ⟨st, adr, cap, is, rg, ab, un, va⟩ := c
  unfold Cd.v Evr.v Evr.row at cS ⊢
  simp only at cS ⊢
  clear hc hr
  replace h : Keep _ := h
  replace cS : Keep _ := cS
  refine HL.hc k14 999 ?_; unfold M14
  (all_goals (try simp only [S0,putAt,List.replicate,Int.reduceAdd,Int.reduceSub,Int.reduceMul,Int.reduceTDiv,Int.reduceTMod,Int.reduceMod,Int.reduceDiv,Nat.reduceLT,Nat.reduceEqDiff,Int.reduceLE,Int.reduceLT,Int.reduceToNat,Int.reduceNeg,Int.reduceEq,Nat.reduceLeDiff,Nat.reducePow,Int.reducePow,reduceIte,Nat.reduceSub,Nat.reduceAdd,Nat.reduceMul, *])); repeat' ((first | (with_reducible refine fun _ : True => ?_) | refine cS _ _ aG ?_ | (with_reducible refine any_h ?_) | ((first | refine AllocQ_i ?_ | refine AllocO_i ?_); intro bk hb0 hbk; (try simp only [set_none'] at hbk)) | ((first | refine condS_i ?_ ?_ | refine pick_i ?_ ?_ | refine gS_it ?_ ?_ | refine gS_if ?_ ?_ | refine gP_it ?_ ?_ | refine gP_if ?_ ?_) <;> (intro hc; try simp only [Int.reduceLE,Int.reduceLT,Int.reduceEq,Sn] at hc)) | (with_reducible refine KP_i ?_ ?_; · exact aL) | (with_reducible refine And.intro ?_ ?_)) <;> (try simp only [S0,putAt,List.replicate,Int.reduceAdd,Int.reduceSub,Int.reduceMul,Int.reduceTDiv,Int.reduceTMod,Int.reduceMod,Int.reduceDiv,Nat.reduceLT,Nat.reduceEqDiff,Int.reduceLE,Int.reduceLT,Int.reduceToNat,Int.reduceNeg,Int.reduceEq,Nat.reduceLeDiff,Nat.reducePow,Int.reducePow,reduceIte,Nat.reduceSub,Nat.reduceAdd,Nat.reduceMul, *]))
  exact Fin_mk aL h
/-- Code and surroundings in memory. -/
structure CE (w0 : World) (H : Heap) (c : Cd) (e : Evr) (ims : List Sm.Im) : Prop where
  cA : CdAt w0 H c
  eA : EvAt w0 H e
  iA : ImgAt w0 H e ims
  eI : EvI e
  cI : CdI c
theorem CE.grow {c : Cd} {e : Evr} {ims : List Sm.Im} (h : CE w0 H c e ims) (g : Grow w0 H G) : CE w0 G c e ims := ⟨h.cA.grow g, h.eA.grow g, h.iA.grow g, h.eI, h.cI⟩
/-- The whole run. -/
def RunC (ims : List Sm.Im) (e : Evr) (c : Cd) (ps : List Nat) (y : Rp) : Prop := Rn ims e c.is 0 (List.replicate c.rg.toNat V4.z) (Rp.new (nvs c)) ps y
theorem RS.resx {H0 : Heap} {bm br b : Nat} {av : Option Nat} {e : Evr} {x : Rp} {rg : List V4} {w z : Blk} (h : RS w0 H0 G bm br av e x rg) (hl : x.vs.length ≤ maxLen) (hb : H0 b = some w) : ResAt w0 (G.set b z) (x.res av) := by
  refine ⟨?_, hl, ?_⟩
  · cases av with
    | none =>
      have : x.vs = [] := h.n rfl
      unfold Rp.res
      simp only [this]
      exact SlAt.nil
    | some bv =>
      obtain ⟨h1, h2, h3, -⟩ := h.v bv rfl
      refine SlAt.blk (z := []) ?_ (t := 28)
      rw [List.append_nil, Heap.set_other _ _ (fun q => by rw [q, hb] at h3; cases h3)]
      exact h1
  · unfold Rp.res
    cases av with
    | none => rw [h.n rfl]; exact Nat.le_refl _
    | some bv => exact Nat.le_refl _
theorem SlAt.other {bv b : Nat} {z : Blk} {cs : List Value} (h : SlAt w0 G (some ⟨bv, 0, none⟩) cs) (hb : b ≠ bv) : SlAt w0 (G.set b z) (some ⟨bv, 0, none⟩) cs := fun hc => by
  obtain ⟨b', o, e, hr⟩ := h hc
  cases e
  exact ⟨bv, 0, rfl, fun i hi => by
    have := hr i hi
    unfold rd1 at this ⊢
    rw [Heap.set_other _ _ (Ne.symm hb)]
    exact this⟩
theorem res_other {x : Rp} {av : Option Nat} {b : Nat} {z : Blk} (h : ResAt w0 G (x.res av)) (hb : ∀ bv, av = some bv → b ≠ bv) : ResAt w0 (G.set b z) (x.res av) := by
  refine ⟨?_, h.lm, h.lc⟩
  cases av with
  | none =>
    have h1 := h.at_
    intro hc
    obtain ⟨b', o, e, -⟩ := h1 hc
    cases e
  | some bv => exact SlAt.other h.at_ (hb bv rfl)
theorem c_Run_ok (c : Cd) (e : Evr) (ims : List Sm.Im) (E : CE w0 H c e ims) (hf : fitP c e)
    (h : ∀ G av ps y, RunC ims e c ps y → ResAt w0 G (y.res av) → Grow w0 H G → (∀ bv, av = some bv → H bv = none) → K (.tuple #[(y.res av).v, .int .i64 0]) G) : HCalls Tryz.prog w0 13 [c.v, e.v] H K := by
  have cS := fun (G : Heap) (K' : Value → Heap → Prop) (g : Grow w0 H G) => c_start_ok (K := K') c e ims (E.grow g).cA (E.grow g).eA (E.grow g).iA E.eI E.cI hf
  have hnv : nvs c ≤ maxLen := by
    have := below_t hf.1.2.2.2.2.2.1
    unfold nvs maxLen; split <;> omega
  unfold RunC at h
  have hL : ∀ ps y, Rn ims e c.is 0 (List.replicate c.rg.toNat V4.z) (Rp.new (nvs c)) ps y → y.vs.length ≤ maxLen := fun ps y hr => by
    have := hr.vs
    unfold Rp.new at this
    simp only [List.length_replicate] at this
    omega
  generalize Rn ims e c.is 0 (List.replicate c.rg.toNat V4.z) (Rp.new (nvs c)) = R at cS h hL
  obtain ⟨st, adr, cap, is, rg, ab, un, va⟩ := c
  unfold Cd.v at cS ⊢
  unfold Evr.v Evr.row at cS ⊢
  simp only at cS ⊢
  clear E hf hnv
  replace h : Keep _ := h
  replace cS : Keep _ := cS
  replace hL : Keep _ := hL
  refine HL.hc k13 3000 ?_; unfold M13
  (all_goals (try simp only [S0,putAt,List.replicate,Int.reduceAdd,Int.reduceSub,Int.reduceMul,Int.reduceTDiv,Int.reduceTMod,Int.reduceMod,Int.reduceDiv,Nat.reduceLT,Nat.reduceEqDiff,Int.reduceLE,Int.reduceLT,Int.reduceToNat,Int.reduceNeg,Int.reduceEq,Nat.reduceLeDiff,Nat.reducePow,Int.reducePow,reduceIte,Nat.reduceSub,Nat.reduceAdd,Nat.reduceMul, *])); repeat' ((first | (with_reducible refine fun _ : True => ?_) | refine cS _ _ aG (fun G1 bm br av a cp ps y rg1 hR hS hB hcp => ?_)  | (with_reducible refine any_h ?_) | ((first | refine AllocQ_i ?_ | refine AllocO_i ?_); intro bk hb0 hbk; (try simp only [set_none'] at hbk)) | ((first | refine condS_i ?_ ?_ | refine pick_i ?_ ?_ | refine gS_it ?_ ?_ | refine gS_if ?_ ?_ | refine gP_it ?_ ?_ | refine gP_if ?_ ?_) <;> (intro hc; try simp only [Int.reduceLE,Int.reduceLT,Int.reduceEq,Sn] at hc)) | (with_reducible refine KP_i ?_ ?_; · exact aL) | (with_reducible refine And.intro ?_ ?_)) <;> (try simp only [S0,putAt,List.replicate,Int.reduceAdd,Int.reduceSub,Int.reduceMul,Int.reduceTDiv,Int.reduceTMod,Int.reduceMod,Int.reduceDiv,Nat.reduceLT,Nat.reduceEqDiff,Int.reduceLE,Int.reduceLT,Int.reduceToNat,Int.reduceNeg,Int.reduceEq,Nat.reduceLeDiff,Nat.reducePow,Int.reducePow,reduceIte,Nat.reduceSub,Nat.reduceAdd,Nat.reduceMul, *]))
  have kb := hS.g.some (b := bk) aA
  have hm : rdn w0 G1 bm 13 11 = some ((y.res av).row) := by unfold rdn; rw [hS.M.m]; rfl
  have hx := fun z => hS.resx (z := z) ((show ∀ ps y, R ps y → y.vs.length ≤ maxLen from hL) ps y hR) (b := bk) aA
  have gx := fun z => Grow.set (b := bk) (x := z) (Grow.trans aG hS.g) hb0 hbk.2.2
  have hN : ∀ bv, av = some bv → H bv = none := fun bv ev => Grow.none (G := _) aG (hS.v bv ev).2.2.1
  have F := fun z => (show ∀ (G : Heap) (av : Option Nat) (ps : List Nat) (y : Rp), _ from h) (G1.set bk z) av ps y hR (hx z) (gx z) hN
  unfold Res.v Res.row at F
  unfold Res.row at hm
  clear h cS hL hS hB hx gx hR
  replace F : Keep _ := F
  (all_goals (try simp only [S0,putAt,List.replicate,Int.reduceAdd,Int.reduceSub,Int.reduceMul,Int.reduceTDiv,Int.reduceTMod,Int.reduceMod,Int.reduceDiv,Nat.reduceLT,Nat.reduceEqDiff,Int.reduceLE,Int.reduceLT,Int.reduceToNat,Int.reduceNeg,Int.reduceEq,Nat.reduceLeDiff,Nat.reducePow,Int.reducePow,reduceIte,Nat.reduceSub,Nat.reduceAdd,Nat.reduceMul, *])); repeat' ((first | (with_reducible refine fun _ : True => ?_) | (with_reducible refine any_h ?_) | ((first | refine AllocQ_i ?_ | refine AllocO_i ?_); intro bk hb0 hbk; (try simp only [set_none'] at hbk)) | ((first | refine condS_i ?_ ?_ | refine pick_i ?_ ?_ | refine gS_it ?_ ?_ | refine gS_if ?_ ?_ | refine gP_it ?_ ?_ | refine gP_if ?_ ?_) <;> (intro hc; try simp only [Int.reduceLE,Int.reduceLT,Int.reduceEq,Sn] at hc)) | (with_reducible refine KP_i ?_ ?_; · exact aL) | (with_reducible refine And.intro ?_ ?_)) <;> (try simp only [S0,putAt,List.replicate,Int.reduceAdd,Int.reduceSub,Int.reduceMul,Int.reduceTDiv,Int.reduceTMod,Int.reduceMod,Int.reduceDiv,Nat.reduceLT,Nat.reduceEqDiff,Int.reduceLE,Int.reduceLT,Int.reduceToNat,Int.reduceNeg,Int.reduceEq,Nat.reduceLeDiff,Nat.reducePow,Int.reducePow,reduceIte,Nat.reduceSub,Nat.reduceAdd,Nat.reduceMul, *]))
  exact Fin_mk (Heap.Le.refl _) ((show ∀ z, K _ (G1.set bk z) from F) _)
theorem c_Trace_ok (c : Cd) (e : Evr) (ims : List Sm.Im) (E : CE w0 H c e ims) (hf : fitP c e)
    (h : ∀ G a cap ps y, RunC ims e c ps y → Bld w0 H G a cap 1 3 (ps.map fun p => .int .i64 (p : Nat)) → ps.length ≤ cap → Grow w0 H G → K (.tuple #[.slice a ps.length cap, .int .i64 0]) G) : HCalls Tryz.prog w0 14 [c.v, e.v] H K := by
  have cS := fun (G : Heap) (K' : Value → Heap → Prop) (g : Grow w0 H G) => c_start_ok (K := K') c e ims (E.grow g).cA (E.grow g).eA (E.grow g).iA E.eI E.cI hf
  unfold RunC at h
  generalize Rn ims e c.is 0 (List.replicate c.rg.toNat V4.z) (Rp.new (nvs c)) = R at cS h
  obtain ⟨st, adr, cap, is, rg, ab, un, va⟩ := c
  unfold Cd.v at cS ⊢
  unfold Evr.v Evr.row at cS ⊢
  simp only at cS ⊢
  clear E hf
  replace h : Keep _ := h
  replace cS : Keep _ := cS
  refine HL.hc k14 3000 ?_; unfold M14
  (all_goals (try simp only [S0,putAt,List.replicate,Int.reduceAdd,Int.reduceSub,Int.reduceMul,Int.reduceTDiv,Int.reduceTMod,Int.reduceMod,Int.reduceDiv,Nat.reduceLT,Nat.reduceEqDiff,Int.reduceLE,Int.reduceLT,Int.reduceToNat,Int.reduceNeg,Int.reduceEq,Nat.reduceLeDiff,Nat.reducePow,Int.reducePow,reduceIte,Nat.reduceSub,Nat.reduceAdd,Nat.reduceMul, *])); repeat' ((first | (with_reducible refine fun _ : True => ?_) | refine cS _ _ aG (fun G1 bm br av a cp ps y rg1 hR hS hB hcp => ?_)  | (with_reducible refine any_h ?_) | ((first | refine AllocQ_i ?_ | refine AllocO_i ?_); intro bk hb0 hbk; (try simp only [set_none'] at hbk)) | ((first | refine condS_i ?_ ?_ | refine pick_i ?_ ?_ | refine gS_it ?_ ?_ | refine gS_if ?_ ?_ | refine gP_it ?_ ?_ | refine gP_if ?_ ?_) <;> (intro hc; try simp only [Int.reduceLE,Int.reduceLT,Int.reduceEq,Sn] at hc)) | (with_reducible refine KP_i ?_ ?_; · exact aL) | (with_reducible refine And.intro ?_ ?_)) <;> (try simp only [S0,putAt,List.replicate,Int.reduceAdd,Int.reduceSub,Int.reduceMul,Int.reduceTDiv,Int.reduceTMod,Int.reduceMod,Int.reduceDiv,Nat.reduceLT,Nat.reduceEqDiff,Int.reduceLE,Int.reduceLT,Int.reduceToNat,Int.reduceNeg,Int.reduceEq,Nat.reduceLeDiff,Nat.reducePow,Int.reducePow,reduceIte,Nat.reduceSub,Nat.reduceAdd,Nat.reduceMul, *]))
  have F := (show ∀ (G : Heap) (a : Option Addr) (cap : Nat) (ps : List Nat) (y : Rp), _ from h) G1 a cp ps y hR (hB.base aG) hcp (Grow.trans aG hS.g)
  clear h cS hS hB hR
  replace F : Keep _ := F
  (all_goals (try simp only [S0,putAt,List.replicate,Int.reduceAdd,Int.reduceSub,Int.reduceMul,Int.reduceTDiv,Int.reduceTMod,Int.reduceMod,Int.reduceDiv,Nat.reduceLT,Nat.reduceEqDiff,Int.reduceLE,Int.reduceLT,Int.reduceToNat,Int.reduceNeg,Int.reduceEq,Nat.reduceLeDiff,Nat.reducePow,Int.reducePow,reduceIte,Nat.reduceSub,Nat.reduceAdd,Nat.reduceMul, *])); repeat' ((first | (with_reducible refine fun _ : True => ?_) | (with_reducible refine any_h ?_) | ((first | refine AllocQ_i ?_ | refine AllocO_i ?_); intro bk hb0 hbk; (try simp only [set_none'] at hbk)) | ((first | refine condS_i ?_ ?_ | refine pick_i ?_ ?_ | refine gS_it ?_ ?_ | refine gS_if ?_ ?_ | refine gP_it ?_ ?_ | refine gP_if ?_ ?_) <;> (intro hc; try simp only [Int.reduceLE,Int.reduceLT,Int.reduceEq,Sn] at hc)) | (with_reducible refine KP_i ?_ ?_; · exact aL) | (with_reducible refine And.intro ?_ ?_)) <;> (try simp only [S0,putAt,List.replicate,Int.reduceAdd,Int.reduceSub,Int.reduceMul,Int.reduceTDiv,Int.reduceTMod,Int.reduceMod,Int.reduceDiv,Nat.reduceLT,Nat.reduceEqDiff,Int.reduceLE,Int.reduceLT,Int.reduceToNat,Int.reduceNeg,Int.reduceEq,Nat.reduceLeDiff,Nat.reducePow,Int.reducePow,reduceIte,Nat.reduceSub,Nat.reduceAdd,Nat.reduceMul, *]))
  exact Fin_mk aL F
end Go.Proofs.YtdmnfaefakceiaaGreat
end
section
/- Codes and surroundings that can be played in time, by the laws (layer 18). -/
set_option linter.unusedSimpArgs false
set_option linter.unusedVariables false
set_option maxRecDepth 100000
set_option maxHeartbeats 4000000
namespace Go.Proofs.YtdmnfaefakceiaaGreat
open Go.HL Go.RowKit Pb
variable {w0 : World} {H G : Heap} {K : Value → Heap → Prop}

theorem slc_pre {φ : Value → Prop} {z n c : Nat} {a : Option Addr} {k : IntKind} {h : Int} (h0 : 0 ≤ h) (h1 : h ≤ c) (hφ : φ (.slice a h.toNat c)) : slcQ φ z (.slice a n c) none (some (.int k h)) := by
  rcases a with _ | ⟨b, o, _ | s⟩ <;> exact ⟨h0, h1, hφ⟩
theorem rows4_take (l : List V4) (k : Nat) : (l.map V4.row).flatten.take (k * 4) = ((l.take k).map V4.row).flatten := by
  induction l generalizing k with
  | nil => simp
  | cons x l ih =>
    cases k with
    | zero => simp
    | succ k =>
      rw [List.map_cons, List.flatten_cons, List.take_succ_cons, List.map_cons, List.flatten_cons, List.take_append, List.take_of_length_le (by show 4 ≤ _; omega), show (k + 1) * 4 - x.row.length = k * 4 by show (k + 1) * 4 - 4 = _; omega, ih]
theorem flat_take {sz : Nat} : ∀ (rows : List (List Value)) (k : Nat), (∀ r ∈ rows, r.length = sz) → rows.flatten.take (k * sz) = (rows.take k).flatten
  | [], k, _ => by simp
  | r :: rows, 0, _ => by simp
  | r :: rows, k + 1, h => by
    have hr := h r List.mem_cons_self
    have ih := flat_take rows k fun x hx => h x (List.mem_cons_of_mem _ hx)
    rw [List.flatten_cons, List.take_succ_cons, List.flatten_cons, ← ih, List.take_append, List.take_of_length_le (by rw [hr, Nat.add_mul]; omega), show (k + 1) * sz - r.length = k * sz by rw [hr, Nat.add_mul]; omega]
theorem slTake {a : Option Addr} {cs : List Value} (h : SlAt w0 H a cs) (k : Nat) : SlAt w0 H a (cs.take k) := fun hc => by
  obtain ⟨b, o, ha, hr⟩ := h (fun e => hc (by rw [e]; simp))
  refine ⟨b, o, ha, fun i hi => ?_⟩
  rw [List.length_take] at hi
  rw [List.getElem?_take, if_pos (by omega)]
  exact hr i (by omega)
def rowsC (l : List Ins) : List Value := (l.map Ins.row).flatten
theorem rowsC_len (l : List Ins) : (rowsC l).length = l.length * 16 := by
  unfold rowsC
  rw [flat_len (sz := 16) _ fun r hr => by obtain ⟨j, -, rfl⟩ := List.mem_map.1 hr; rfl, List.length_map]
theorem rowsC_take (l : List Ins) (k : Nat) : (rowsC l).take (k * 16) = rowsC (l.take k) := by
  unfold rowsC
  rw [flat_take _ _ fun r hr => by obtain ⟨j, -, rfl⟩ := List.mem_map.1 hr; rfl, List.map_take]
theorem rowsC_one (l : List Ins) : (rowsC l).all Value.oneCell' = true := by
  unfold rowsC
  rw [List.all_eq_true]
  intro v hv
  obtain ⟨r, hr, hv⟩ := List.mem_flatten.1 hv
  obtain ⟨j, -, rfl⟩ := List.mem_map.1 hr
  simp only [Ins.row, List.mem_cons, List.not_mem_nil, or_false] at hv
  rcases hv with rfl | rfl | rfl | rfl | rfl | rfl | rfl | rfl | rfl | rfl | rfl | rfl | rfl | rfl | rfl | rfl <;> rfl
/-- An append to nothing. -/
theorem app_copy {a0 xa : Option Addr} {n xc by_ sz : Nat} {ty : TypeId} {zero cs : List Value} (hx : SlAt w0 G xa cs) (hl : cs.length = n * sz) (hz : zero.length = sz) (hb : n * by_ ≤ 140737488355328 ∧ n ≤ 9223372036854775807) (ho : cs.all Value.oneCell' = true)
    (h : ∀ a' cap' G', Bld w0 G G' a' cap' sz ty cs → n ≤ cap' → Grow w0 G G' → K (.slice a' n cap') G') : appQ w0 G K ty sz by_ zero (.slice a0 0 0) (.slice xa n xc) := by
  have hs := hx.srd
  rw [hl] at hs
  refine app_bld (H := G) (cs := []) (ns := cs) Bld.none (by simp) hz hs hl (Grow.refl _) (by simpa using hb) ho fun a' cap' G' hB hg _ hc => ?_
  rw [Nat.zero_add] at hc ⊢
  exact h a' cap' G' (by simpa using hB) hc hg

/- paintboxlaw18 few -/
def M11 : MC :=
  .seq (.reg [oX 1 (.box 24 (.tmp 0)),
 oX 2 (.alloc 24 [(.int .i64 0),(.slice none 0 0),(.int .i64 0),(.int .i64 0),(.int .i64 0),(.int .i64 0)])])
 (.seq (.reg [oX 3 (.bslice 46 0 [] []),
 oX 4 (.fa 1 (.tmp 1)),
 oX 5 (.ld1 (.tmp 4)),
 oX 6 (.fa 1 (.tmp 1)),
 oX 7 (.ld1 (.tmp 6)),
 oX 8 (.len (.tmp 7)),
 oX 9 (.mn (.tmp 8) (kX 300)),
 oX 10 (.slc 16 (.tmp 5) none (some (.tmp 9))),
 oX 11 (.app 46 16 112 [(.int .i64 0),(.int .i64 0),(.int .i64 0),(.int .i64 0),(.int .i64 0),(.int .i64 0),(.int .i64 0),(.int .i64 0),(.int .i32 0),(.int .i32 0),(.int .i32 0),(.int .i32 0),(.int .i64 0),(.int .i64 0),(.int .i64 0),(.int .i64 0)] (.tmp 3) (.tmp 10)),
 oX 12 (.fa 1 (.tmp 1)),
 ⟨none,.st1 (.tmp 12) (.tmp 11),none⟩])
 (.seq (.reg [oX 13 (.ldn 6 (.tmp 1)),
 ⟨none,.stn 6 (.tmp 2) (.tmp 13),none⟩])
 (.ret)))
theorem k11 : fnOk Tryz.prog 11 = some (M11, [.cn 6 2], 14) := by kernel_rfl
/- paintboxlaw18 around -/
def M12 : MC :=
  .seq (.reg [oX 1 (.box 31 (.tmp 0)),
 oX 2 (.alloc 31 [(.slice none 0 0),(.slice none 0 0),(.slice none 0 0),(.int .i32 0),(.int .i32 0),(.int .i32 0),(.int .i32 0),(.bool false),(.int .i32 0),(.int .i32 0),(.int .i32 0),(.int .i32 0),(.slice none 0 0)])])
 (.seq (.reg [oX 3 (.bslice 28 0 [] []),
 oX 4 (.fa 0 (.tmp 1)),
 oX 5 (.ld1 (.tmp 4)),
 oX 6 (.fa 0 (.tmp 1)),
 oX 7 (.ld1 (.tmp 6)),
 oX 8 (.len (.tmp 7)),
 oX 9 (.mn (.tmp 8) (kX 40)),
 oX 10 (.slc 4 (.tmp 5) none (some (.tmp 9))),
 oX 11 (.app 28 4 16 [(.int .i32 0),(.int .i32 0),(.int .i32 0),(.int .i32 0)] (.tmp 3) (.tmp 10)),
 oX 12 (.fa 0 (.tmp 1)),
 ⟨none,.st1 (.tmp 12) (.tmp 11),none⟩])
 (.seq (.reg [oX 13 (.bslice 28 0 [] []),
 oX 14 (.fa 1 (.tmp 1)),
 oX 15 (.ld1 (.tmp 14)),
 oX 16 (.fa 1 (.tmp 1)),
 oX 17 (.ld1 (.tmp 16)),
 oX 18 (.len (.tmp 17)),
 oX 19 (.mn (.tmp 18) (kX 40)),
 oX 20 (.slc 4 (.tmp 15) none (some (.tmp 19))),
 oX 21 (.app 28 4 16 [(.int .i32 0),(.int .i32 0),(.int .i32 0),(.int .i32 0)] (.tmp 13) (.tmp 20)),
 oX 22 (.fa 1 (.tmp 1)),
 ⟨none,.st1 (.tmp 22) (.tmp 21),none⟩])
 (.seq (.reg [oX 23 (.bslice 28 0 [] []),
 oX 24 (.fa 2 (.tmp 1)),
 oX 25 (.ld1 (.tmp 24)),
 oX 26 (.fa 2 (.tmp 1)),
 oX 27 (.ld1 (.tmp 26)),
 oX 28 (.len (.tmp 27)),
 oX 29 (.mn (.tmp 28) (kX 40)),
 oX 30 (.slc 4 (.tmp 25) none (some (.tmp 29))),
 oX 31 (.app 28 4 16 [(.int .i32 0),(.int .i32 0),(.int .i32 0),(.int .i32 0)] (.tmp 23) (.tmp 30)),
 oX 32 (.fa 2 (.tmp 1)),
 ⟨none,.st1 (.tmp 32) (.tmp 31),none⟩])
 (.seq (.reg [oX 33 (.fa 12 (.tmp 1)),
 oX 34 (.ld1 (.tmp 33)),
 oX 35 (.fa 12 (.tmp 1)),
 oX 36 (.ld1 (.tmp 35)),
 oX 37 (.len (.tmp 36)),
 oX 38 (.mn (.tmp 37) (kX 4)),
 oX 39 (.slc 6 (.tmp 34) none (some (.tmp 38))),
 oX 40 (.fa 12 (.tmp 1)),
 ⟨none,.st1 (.tmp 40) (.tmp 39),none⟩])
 (.seq (.reg [oX 41 (.ldn 13 (.tmp 1)),
 ⟨none,.stn 13 (.tmp 2) (.tmp 41),none⟩])
 (.ret))))))
theorem k12 : fnOk Tryz.prog 12 = some (M12, [.cn 13 2], 42) := by kernel_rfl

theorem c_few (c : Cd) (hc : CdAt w0 H c) (h : ∀ a k G, Bld w0 H G a k 16 46 (rowsC (c.is.take 300)) → (c.is.take 300).length ≤ k → Grow w0 H G → K ({ c with adr := a, cap := k, is := c.is.take 300 } : Cd).v G) : HCalls Tryz.prog w0 11 [c.v] H K := by
  obtain ⟨st, adr, cap, is, rg, ab, un, va⟩ := c
  have hm := hc.lm
  have hcp := hc.lc
  have eT : is.take (is.take 300).length = is.take 300 := by
    rw [List.length_take]
    rcases Nat.le_total 300 is.length with h' | h'
    · rw [Nat.min_eq_left h']
    · rw [Nat.min_eq_right h', List.take_length, List.take_of_length_le h']
  have hS : ∀ G, Grow w0 H G → SlAt w0 G adr (rowsC (is.take 300)) := fun G g => by
    have := slTake (hc.at_.grow g) ((is.take 300).length * 16)
    rw [show (({ st := st, adr := adr, cap := cap, is := is, rg := rg, ab := ab, un := un, va := va } : Cd).is.map Ins.row).flatten = rowsC is from rfl, rowsC_take, eT] at this
    exact this
  have hL := rowsC_len (is.take 300)
  have hO := rowsC_one (is.take 300)
  unfold maxLen at hm
  simp only at hm hcp
  obtain ⟨len, el⟩ : ∃ l, is.length = l := ⟨_, rfl⟩
  have hlen : (is.take 300).length = min 300 len := by rw [List.length_take, el]
  unfold Cd.v at h ⊢
  simp only [el] at h ⊢
  rw [el] at hm hcp
  generalize rowsC (is.take 300) = R at hS hL hO h
  generalize (is.take 300).length = n at hS hL hO h hlen
  have e1 : (if (300 : Int) < (len : Int) then (300 : Int) else (len : Int)) = n := by split <;> omega
  have e4 : (n : Int) ≤ (cap : Int) := by omega
  have e2 : (0 : Int) ≤ (n : Int) := by omega
  have e5 : n ≤ 300 := by omega
  have e3 : ((n : Nat) : Int).toNat = n := rfl
  clear el hlen hcp hm eT hc
  replace hS : Keep _ := hS
  replace hL : Keep _ := hL
  replace hO : Keep _ := hO
  replace h : ∀ a k G, Bld w0 H G a k 16 46 R → n ≤ k → Grow w0 H G → HL.Fin K (.agg #[.int .i64 st, .slice a n k, .int .i64 rg, .int .i64 ab, .int .i64 un, .int .i64 va]) G := fun a k G h1 h2 h3 => Fin_mk (Heap.Le.refl _) (h a k G h1 h2 h3)
  replace h : Keep _ := h
  refine HL.hc k11 999 ?_; unfold M11
  (all_goals (try simp only [S0,putAt,List.replicate,Int.reduceAdd,Int.reduceSub,Int.reduceMul,Int.reduceTDiv,Int.reduceTMod,Int.reduceMod,Int.reduceDiv,Nat.reduceLT,Nat.reduceEqDiff,Int.reduceLE,Int.reduceLT,Int.reduceToNat,Int.reduceNeg,Int.reduceEq,Nat.reduceLeDiff,Nat.reducePow,Int.reducePow,reduceIte,Nat.reduceSub,Nat.reduceAdd,Nat.reduceMul, *])); repeat' ((first | (with_reducible refine fun _ : True => ?_) | refine slc_pre e2 e4 ?_ | refine app_copy (cs := R) ((show ∀ G, Grow w0 H G → SlAt w0 G adr R from hS) _ aG) hL rfl (by omega) hO (fun a k G hB hk hg => ?_)  | (with_reducible refine any_h ?_) | ((first | refine AllocQ_i ?_ | refine AllocO_i ?_); intro bk hb0 hbk; (try simp only [set_none'] at hbk)) | ((first | refine condS_i ?_ ?_ | refine pick_i ?_ ?_ | refine gS_it ?_ ?_ | refine gS_if ?_ ?_ | refine gP_it ?_ ?_ | refine gP_if ?_ ?_) <;> (intro hc; try simp only [Int.reduceLE,Int.reduceLT,Int.reduceEq,Sn] at hc)) | (with_reducible refine KP_i ?_ ?_; · exact aL) | (with_reducible refine And.intro ?_ ?_)) <;> (try simp only [S0,putAt,List.replicate,Int.reduceAdd,Int.reduceSub,Int.reduceMul,Int.reduceTDiv,Int.reduceTMod,Int.reduceMod,Int.reduceDiv,Nat.reduceLT,Nat.reduceEqDiff,Int.reduceLE,Int.reduceLT,Int.reduceToNat,Int.reduceNeg,Int.reduceEq,Nat.reduceLeDiff,Nat.reducePow,Int.reducePow,reduceIte,Nat.reduceSub,Nat.reduceAdd,Nat.reduceMul, *]))
  rename_i b1 hb1 hn1 b2 hb2 hn2
  have g0 : Grow w0 H G := Grow.trans aG hg
  have hB1 : Bld w0 H G a k 16 46 R := hB.base aG
  have k1 : G b1 = some _ := hg.some aA
  have k2 : G b2 = some _ := hg.some aA
  clear hg hB
  replace h := (show ∀ (a : Option Addr) (k : Nat) (G : Heap), Bld w0 H G a k 16 46 R → n ≤ k → Grow w0 H G → HL.Fin K (.agg _) G from h) a k
  have t1 := fun x => Bld.turn (x := ⟨.t 24, x⟩) hB1 k1 (fun e => by cases e)
  have t2 := fun x y => Bld.turn (x := ⟨.t 24, y⟩) (b := b2) (t1 x) (by rw [Heap.set_other _ _ hn2.1.1]; exact k2) (fun e => by cases e)
  have g2 := fun x y => Grow.set (b := b2) (x := ⟨.t 24, y⟩) (Grow.set (b := b1) (x := ⟨.t 24, x⟩) g0 hb1 hn1) hb2 hn2.2
  have F := fun x y => h _ (t2 x y) hk (g2 x y)
  clear t1 t2 g2 h hB1 hS hL hO hbk
  replace F : Keep _ := F
  (all_goals (try simp only [S0,putAt,List.replicate,Int.reduceAdd,Int.reduceSub,Int.reduceMul,Int.reduceTDiv,Int.reduceTMod,Int.reduceMod,Int.reduceDiv,Nat.reduceLT,Nat.reduceEqDiff,Int.reduceLE,Int.reduceLT,Int.reduceToNat,Int.reduceNeg,Int.reduceEq,Nat.reduceLeDiff,Nat.reducePow,Int.reducePow,reduceIte,Nat.reduceSub,Nat.reduceAdd,Nat.reduceMul, *])); repeat' ((first | (with_reducible refine fun _ : True => ?_) | (with_reducible refine any_h ?_) | ((first | refine AllocQ_i ?_ | refine AllocO_i ?_); intro bk hb0 hbk; (try simp only [set_none'] at hbk)) | ((first | refine condS_i ?_ ?_ | refine pick_i ?_ ?_ | refine gS_it ?_ ?_ | refine gS_if ?_ ?_ | refine gP_it ?_ ?_ | refine gP_if ?_ ?_) <;> (intro hc; try simp only [Int.reduceLE,Int.reduceLT,Int.reduceEq,Sn] at hc)) | (with_reducible refine KP_i ?_ ?_; · exact aL) | (with_reducible refine And.intro ?_ ?_)) <;> (try simp only [S0,putAt,List.replicate,Int.reduceAdd,Int.reduceSub,Int.reduceMul,Int.reduceTDiv,Int.reduceTMod,Int.reduceMod,Int.reduceDiv,Nat.reduceLT,Nat.reduceEqDiff,Int.reduceLE,Int.reduceLT,Int.reduceToNat,Int.reduceNeg,Int.reduceEq,Nat.reduceLeDiff,Nat.reducePow,Int.reducePow,reduceIte,Nat.reduceSub,Nat.reduceAdd,Nat.reduceMul, *]))
  exact (show ∀ (x y : List Value), HL.Fin K (.agg _) _ from F) _ _
/-- Lengths and rooms of surroundings. -/
structure EvL (e : Evr) : Prop where
  a : e.la.length ≤ e.ac
  u : e.lu.length ≤ e.uc
  v : e.lv.length ≤ e.vc
  i : e.il ≤ e.ic
def rowsV (l : List V4) : List Value := (l.map V4.row).flatten
theorem rowsV_one (l : List V4) : (rowsV l).all Value.oneCell' = true := by
  unfold rowsV
  rw [List.all_eq_true]
  intro v hv
  obtain ⟨r, hr, hv⟩ := List.mem_flatten.1 hv
  obtain ⟨j, -, rfl⟩ := List.mem_map.1 hr
  simp only [V4.row, List.mem_cons, List.not_mem_nil, or_false] at hv
  rcases hv with rfl | rfl | rfl | rfl <;> rfl
/-- What is known of a list that is copied. -/
theorem cp_fact {a : Option Addr} {c : Nat} {l : List V4} (h : SlAt w0 H a (l.map V4.row).flatten) (hc : l.length ≤ c) : ∃ n R, rowsV (l.take 40) = R ∧ (l.take 40).length = n ∧ (∀ G, Grow w0 H G → SlAt w0 G a R) ∧ R.length = n * 4 ∧ R.all Value.oneCell' = true
    ∧ (if (40 : Int) < (l.length : Int) then (40 : Int) else (l.length : Int)) = n ∧ (n : Int) ≤ (c : Int) ∧ (0 : Int) ≤ (n : Int) ∧ n ≤ 40 ∧ ((n : Nat) : Int).toNat = n := by
  have hl : (l.take 40).length = min 40 l.length := List.length_take
  refine ⟨_, _, rfl, rfl, fun G g => ?_, rows_len _, rowsV_one _, ?_, ?_, by omega, by omega, rfl⟩
  · have := slTake (h.grow g) (40 * 4)
    rw [rows4_take] at this
    exact this
  · rw [hl]; split <;> omega
  · rw [hl]; omega
theorem gset2 {b1 b : Nat} {x y : Blk} (g : Grow w0 H G) (h1 : w0.heap.size ≤ b1) (h2 : H b1 = none) (h3 : w0.heap.size ≤ b) (h4 : G b = none) : Grow w0 H ((G.set b1 x).set b y) := (g.set h1 h2).set h3 (g.none h4)
theorem c_around (e : Evr) (he : EvAt w0 H e) (hL : EvL e) (h : ∀ a1 k1 a2 k2 a3 k3 G, Bld w0 H G a1 k1 4 28 (rowsV (e.la.take 40)) → Bld w0 H G a2 k2 4 28 (rowsV (e.lu.take 40)) → Bld w0 H G a3 k3 4 28 (rowsV (e.lv.take 40)) → (e.la.take 40).length ≤ k1 → (e.lu.take 40).length ≤ k2 → (e.lv.take 40).length ≤ k3 → Grow w0 H G →
      K ({ e with aa := a1, ac := k1, la := e.la.take 40, ua := a2, uc := k2, lu := e.lu.take 40, va := a3, vc := k3, lv := e.lv.take 40, il := min 4 e.il } : Evr).v G) : HCalls Tryz.prog w0 12 [e.v] H K := by
  obtain ⟨n1, R1, r1, m1, s1, l1, o1, c1, d1, f1, g1, z1⟩ := cp_fact he.a1 hL.a
  obtain ⟨n2, R2, r2, m2, s2, l2, o2, c2, d2, f2, g2, z2⟩ := cp_fact he.u1 hL.u
  obtain ⟨n3, R3, r3, m3, s3, l3, o3, c3, d3, f3, g3, z3⟩ := cp_fact he.v1 hL.v
  have hi := hL.i
  obtain ⟨aa, ac, la, ua, uc, lu, va, vc, lv, co, fr, po, ia, ic, il⟩ := e
  unfold Evr.v Evr.row at h ⊢
  simp only at h r1 r2 r3 m1 m2 m3 s1 s2 s3 c1 c2 c3 d1 d2 d3 hi ⊢
  rw [r1, r2, r3, m1, m2, m3] at h
  obtain ⟨n4, e4⟩ : ∃ n, min 4 il = n := ⟨_, rfl⟩
  rw [e4] at h
  have c4 : (if (4 : Int) < (il : Int) then (4 : Int) else (il : Int)) = n4 := by split <;> omega
  have d4 : (n4 : Int) ≤ (ic : Int) := by omega
  have f4 : (0 : Int) ≤ (n4 : Int) := by omega
  have z4 : ((n4 : Nat) : Int).toNat = n4 := rfl
  generalize la.length = p1 at c1 ⊢
  generalize lu.length = p2 at c2 ⊢
  generalize lv.length = p3 at c3 ⊢
  clear he hL r1 r2 r3 m1 m2 m3 e4 hi
  replace h : ∀ a1 k1 a2 k2 a3 k3 G, Bld w0 H G a1 k1 4 28 R1 → Bld w0 H G a2 k2 4 28 R2 → Bld w0 H G a3 k3 4 28 R3 → n1 ≤ k1 → n2 ≤ k2 → n3 ≤ k3 → Grow w0 H G → HL.Fin K (.agg _) G := fun a1 k1 a2 k2 a3 k3 G h1 h2 h3 h4 h5 h6 h7 => Fin_mk (Heap.Le.refl _) (h a1 k1 a2 k2 a3 k3 G h1 h2 h3 h4 h5 h6 h7)
  replace h : Keep _ := h
  replace s1 : Keep _ := s1
  replace s2 : Keep _ := s2
  replace s3 : Keep _ := s3
  replace l1 : Keep _ := l1
  replace l2 : Keep _ := l2
  replace l3 : Keep _ := l3
  replace o1 : Keep _ := o1
  replace o2 : Keep _ := o2
  replace o3 : Keep _ := o3
  refine HL.hc k12 999 ?_; unfold M12
  (all_goals (try simp only [S0,putAt,List.replicate,Int.reduceAdd,Int.reduceSub,Int.reduceMul,Int.reduceTDiv,Int.reduceTMod,Int.reduceMod,Int.reduceDiv,Nat.reduceLT,Nat.reduceEqDiff,Int.reduceLE,Int.reduceLT,Int.reduceToNat,Int.reduceNeg,Int.reduceEq,Nat.reduceLeDiff,Nat.reducePow,Int.reducePow,reduceIte,Nat.reduceSub,Nat.reduceAdd,Nat.reduceMul, *])); repeat' ((first | (with_reducible refine fun _ : True => ?_) | refine slc_pre f1 d1 ?_ | refine app_copy (cs := R1) ((show ∀ G, Grow w0 H G → SlAt w0 G aa R1 from s1) _ aG) l1 rfl (by omega) o1 (fun a1 k1 G1 hB1 hk1 hg1 => ?_)  | (with_reducible refine any_h ?_) | ((first | refine AllocQ_i ?_ | refine AllocO_i ?_); intro bk hb0 hbk; (try simp only [set_none'] at hbk)) | ((first | refine condS_i ?_ ?_ | refine pick_i ?_ ?_ | refine gS_it ?_ ?_ | refine gS_if ?_ ?_ | refine gP_it ?_ ?_ | refine gP_if ?_ ?_) <;> (intro hc; try simp only [Int.reduceLE,Int.reduceLT,Int.reduceEq,Sn] at hc)) | (with_reducible refine KP_i ?_ ?_; · exact aL) | (with_reducible refine And.intro ?_ ?_)) <;> (try simp only [S0,putAt,List.replicate,Int.reduceAdd,Int.reduceSub,Int.reduceMul,Int.reduceTDiv,Int.reduceTMod,Int.reduceMod,Int.reduceDiv,Nat.reduceLT,Nat.reduceEqDiff,Int.reduceLE,Int.reduceLT,Int.reduceToNat,Int.reduceNeg,Int.reduceEq,Nat.reduceLeDiff,Nat.reducePow,Int.reducePow,reduceIte,Nat.reduceSub,Nat.reduceAdd,Nat.reduceMul, *]))
  rename_i b1 hb1 hn1 b2 hb2 hn2
  have i1 : Grow w0 H G1 := Grow.trans aG hg1
  have B1 : Bld w0 H G1 a1 k1 4 28 R1 := hB1.base aG
  have q1 : G1 b1 = some _ := hg1.some aA
  have q2 : G1 b2 = some _ := hg1.some aA
  have t1 := fun x => Bld.turn (x := ⟨.t 31, x⟩) B1 q1 (fun e => by cases e)
  have j1 := blkn q1
  have j2 := blkn q2
  clear hg1 hB1 hbk s1 l1 o1 B1
  (all_goals (try simp only [S0,putAt,List.replicate,Int.reduceAdd,Int.reduceSub,Int.reduceMul,Int.reduceTDiv,Int.reduceTMod,Int.reduceMod,Int.reduceDiv,Nat.reduceLT,Nat.reduceEqDiff,Int.reduceLE,Int.reduceLT,Int.reduceToNat,Int.reduceNeg,Int.reduceEq,Nat.reduceLeDiff,Nat.reducePow,Int.reducePow,reduceIte,Nat.reduceSub,Nat.reduceAdd,Nat.reduceMul, *])); repeat' ((first | (with_reducible refine fun _ : True => ?_) | refine slc_pre f2 d2 ?_ | refine app_copy (cs := R2) ((show ∀ G, Grow w0 H G → SlAt w0 G ua R2 from s2) _ (gset2 i1 hb1 hn1 hb0 hbk.2)) l2 rfl (by omega) o2 (fun a2 k2 G2 hB2 hk2 hg2 => ?_)  | (with_reducible refine any_h ?_) | ((first | refine AllocQ_i ?_ | refine AllocO_i ?_); intro bk hb0 hbk; (try simp only [set_none'] at hbk)) | ((first | refine condS_i ?_ ?_ | refine pick_i ?_ ?_ | refine gS_it ?_ ?_ | refine gS_if ?_ ?_ | refine gP_it ?_ ?_ | refine gP_if ?_ ?_) <;> (intro hc; try simp only [Int.reduceLE,Int.reduceLT,Int.reduceEq,Sn] at hc)) | (with_reducible refine KP_i ?_ ?_; · exact aL) | (with_reducible refine And.intro ?_ ?_)) <;> (try simp only [S0,putAt,List.replicate,Int.reduceAdd,Int.reduceSub,Int.reduceMul,Int.reduceTDiv,Int.reduceTMod,Int.reduceMod,Int.reduceDiv,Nat.reduceLT,Nat.reduceEqDiff,Int.reduceLE,Int.reduceLT,Int.reduceToNat,Int.reduceNeg,Int.reduceEq,Nat.reduceLeDiff,Nat.reducePow,Int.reducePow,reduceIte,Nat.reduceSub,Nat.reduceAdd,Nat.reduceMul, *]))
  have i2 : Grow w0 H G2 := Grow.trans (gset2 i1 hb1 hn1 hb0 hbk.2) hg2
  have B2 : Bld w0 H G2 a2 k2 4 28 R2 := hB2.base (gset2 i1 hb1 hn1 hb0 hbk.2)
  have B1 : Bld w0 H G2 a1 k1 4 28 R1 := (t1 _).grow (Grow.trans aG hg2)
  have q3 : G2 b1 = some _ := hg2.some aA
  have q4 : G2 b2 = some _ := hg2.some aA
  have t1 := fun x => Bld.turn (x := ⟨.t 31, x⟩) B1 q3 (fun e => by cases e)
  have t2 := fun x => Bld.turn (x := ⟨.t 31, x⟩) B2 q3 (fun e => by cases e)
  have j3 := blkn q3
  have j4 := blkn q4
  clear hg2 hB2 hbk s2 l2 o2 B1 B2 q1 q2 j1 j2 hb0 i1
  (all_goals (try simp only [S0,putAt,List.replicate,Int.reduceAdd,Int.reduceSub,Int.reduceMul,Int.reduceTDiv,Int.reduceTMod,Int.reduceMod,Int.reduceDiv,Nat.reduceLT,Nat.reduceEqDiff,Int.reduceLE,Int.reduceLT,Int.reduceToNat,Int.reduceNeg,Int.reduceEq,Nat.reduceLeDiff,Nat.reducePow,Int.reducePow,reduceIte,Nat.reduceSub,Nat.reduceAdd,Nat.reduceMul, *])); repeat' ((first | (with_reducible refine fun _ : True => ?_) | refine slc_pre f3 d3 ?_ | refine app_copy (cs := R3) ((show ∀ G, Grow w0 H G → SlAt w0 G va R3 from s3) _ (gset2 i2 hb1 hn1 hb0 hbk.2)) l3 rfl (by omega) o3 (fun a3 k3 G3 hB3 hk3 hg3 => ?_)  | (with_reducible refine any_h ?_) | ((first | refine AllocQ_i ?_ | refine AllocO_i ?_); intro bk hb0 hbk; (try simp only [set_none'] at hbk)) | ((first | refine condS_i ?_ ?_ | refine pick_i ?_ ?_ | refine gS_it ?_ ?_ | refine gS_if ?_ ?_ | refine gP_it ?_ ?_ | refine gP_if ?_ ?_) <;> (intro hc; try simp only [Int.reduceLE,Int.reduceLT,Int.reduceEq,Sn] at hc)) | (with_reducible refine KP_i ?_ ?_; · exact aL) | (with_reducible refine And.intro ?_ ?_)) <;> (try simp only [S0,putAt,List.replicate,Int.reduceAdd,Int.reduceSub,Int.reduceMul,Int.reduceTDiv,Int.reduceTMod,Int.reduceMod,Int.reduceDiv,Nat.reduceLT,Nat.reduceEqDiff,Int.reduceLE,Int.reduceLT,Int.reduceToNat,Int.reduceNeg,Int.reduceEq,Nat.reduceLeDiff,Nat.reducePow,Int.reducePow,reduceIte,Nat.reduceSub,Nat.reduceAdd,Nat.reduceMul, *]))
  have i3 : Grow w0 H G3 := Grow.trans (gset2 i2 hb1 hn1 hb0 hbk.2) hg3
  have B3 : Bld w0 H G3 a3 k3 4 28 R3 := hB3.base (gset2 i2 hb1 hn1 hb0 hbk.2)
  have B1 : Bld w0 H G3 a1 k1 4 28 R1 := (t1 _).grow (Grow.trans aG hg3)
  have B2 : Bld w0 H G3 a2 k2 4 28 R2 := (t2 _).grow (Grow.trans aG hg3)
  have q5 : G3 b1 = some _ := hg3.some aA
  have q6 : G3 b2 = some _ := hg3.some aA
  have u1 := fun x y => Bld.turn (x := ⟨.t 31, y⟩) (b := b2) (Bld.turn (x := ⟨.t 31, x⟩) B1 q5 (fun e => by cases e)) (by rw [Heap.set_other _ _ hn2.1.1]; exact q6) (fun e => by cases e)
  have u2 := fun x y => Bld.turn (x := ⟨.t 31, y⟩) (b := b2) (Bld.turn (x := ⟨.t 31, x⟩) B2 q5 (fun e => by cases e)) (by rw [Heap.set_other _ _ hn2.1.1]; exact q6) (fun e => by cases e)
  have u3 := fun x y => Bld.turn (x := ⟨.t 31, y⟩) (b := b2) (Bld.turn (x := ⟨.t 31, x⟩) B3 q5 (fun e => by cases e)) (by rw [Heap.set_other _ _ hn2.1.1]; exact q6) (fun e => by cases e)
  have g2 := fun x y => Grow.set (b := b2) (x := ⟨.t 31, y⟩) (Grow.set (b := b1) (x := ⟨.t 31, x⟩) i3 hb1 hn1) hb2 hn2.2
  have j5 := blkn q5
  have j6 := blkn q6
  have F := fun x y => (show ∀ (a1 : Option Addr) (k1 : Nat) (a2 : Option Addr) (k2 : Nat) (a3 : Option Addr) (k3 : Nat) (G : Heap), _ from h) a1 k1 a2 k2 a3 k3 _ (u1 x y) (u2 x y) (u3 x y) hk1 hk2 hk3 (g2 x y)
  clear hg3 hB3 hbk s3 l3 o3 B1 B2 B3 q3 q4 j3 j4 hb0 i2 i3 t1 t2 u1 u2 u3 g2 h
  replace F : Keep _ := F
  (all_goals (try simp only [S0,putAt,List.replicate,Int.reduceAdd,Int.reduceSub,Int.reduceMul,Int.reduceTDiv,Int.reduceTMod,Int.reduceMod,Int.reduceDiv,Nat.reduceLT,Nat.reduceEqDiff,Int.reduceLE,Int.reduceLT,Int.reduceToNat,Int.reduceNeg,Int.reduceEq,Nat.reduceLeDiff,Nat.reducePow,Int.reducePow,reduceIte,Nat.reduceSub,Nat.reduceAdd,Nat.reduceMul, *])); repeat' ((first | (with_reducible refine fun _ : True => ?_) | refine slc_pre f4 d4 ?_ | (with_reducible refine any_h ?_) | ((first | refine AllocQ_i ?_ | refine AllocO_i ?_); intro bk hb0 hbk; (try simp only [set_none'] at hbk)) | ((first | refine condS_i ?_ ?_ | refine pick_i ?_ ?_ | refine gS_it ?_ ?_ | refine gS_if ?_ ?_ | refine gP_it ?_ ?_ | refine gP_if ?_ ?_) <;> (intro hc; try simp only [Int.reduceLE,Int.reduceLT,Int.reduceEq,Sn] at hc)) | (with_reducible refine KP_i ?_ ?_; · exact aL) | (with_reducible refine And.intro ?_ ?_)) <;> (try simp only [S0,putAt,List.replicate,Int.reduceAdd,Int.reduceSub,Int.reduceMul,Int.reduceTDiv,Int.reduceTMod,Int.reduceMod,Int.reduceDiv,Nat.reduceLT,Nat.reduceEqDiff,Int.reduceLE,Int.reduceLT,Int.reduceToNat,Int.reduceNeg,Int.reduceEq,Nat.reduceLeDiff,Nat.reducePow,Int.reducePow,reduceIte,Nat.reduceSub,Nat.reduceAdd,Nat.reduceMul, *]))
  exact (show ∀ (x y : List Value), HL.Fin K (.agg _) _ from F) _ _
end Go.Proofs.YtdmnfaefakceiaaGreat
end
section
/- A register more changes nothing; the trial's code (layer 18; plain). -/
set_option linter.unusedSimpArgs false
set_option linter.unusedVariables false
set_option maxRecDepth 100000
set_option maxHeartbeats 4000000
namespace Go.Proofs.YtdmnfaefakceiaaGreat
open Go.HL Go.RowKit Pb

theorem rgv_more {rg : List V4} {x : Int} (h : In x rg.length) (z : V4) : rgv (rg ++ [z]) x = rgv rg x := by
  unfold rgv
  rw [List.getD_eq_getElem?_getD, List.getD_eq_getElem?_getD, List.getElem?_append_left (by have := h.1; have := h.2; omega)]
theorem wrV_more {ims : List Sm.Im} {e : Evr} {i : Ins} {rg : List V4} (o : WrOk e rg.length i) (z : V4) : wrV ims e i (rg ++ [z]) = wrV ims e i rg := by
  unfold wrV
  by_cases h1 : i.op = 1
  · rw [if_pos h1, if_pos h1]
  rw [if_neg h1, if_neg h1]
  by_cases h3 : i.op = 3
  · rw [if_neg (by omega), if_pos h3, if_neg (by omega), if_pos h3]
  rw [rgv_more (o.a h1 h3)]
  have hb : i.op = 5 ∨ i.op = 9 → rgv (rg ++ [z]) i.b = rgv rg i.b := fun q => rgv_more (o.b q) z
  have hc : i.op = 5 → rgv (rg ++ [z]) i.c = rgv rg i.c := fun q => rgv_more (o.c q) z
  rw [rgv_more o.d]
  by_cases h5 : i.op = 5
  · simp only [h5, Int.reduceEq, if_true, if_false, reduceIte, hb (.inl h5), hc h5]
  by_cases h9 : i.op = 9
  · simp only [h9, Int.reduceEq, if_true, if_false, reduceIte, hb (.inr h9)]
  simp only [if_neg h5, if_neg h9, if_neg h3]
theorem rgI_len (ims : List Sm.Im) (e : Evr) (i : Ins) (rg : List V4) : (rgI ims e i rg).length = rg.length := by
  unfold rgI; split
  · exact List.length_set
  · rfl
theorem Rn.more {ims : List Sm.Im} {e : Evr} {l : List Ins} {vn k : Nat} {rg : List V4} {x y : Rp} {ps : List Nat} (z : V4) (h : Rn ims e l k rg x ps y) : RunOk e rg.length vn l → Rn ims e l k (rg ++ [z]) x ps y := by
  induction h with
  | fin h => exact fun _ => .fin h
  | dis h ho => exact fun _ => .dis h ho
  | @step k rg x y i ps h ho hr ih =>
    intro ok
    have o := ok k i h
    refine .step h ho ?_
    have ih2 := ih (by rw [rgI_len]; exact ok)
    have e1 : rgI ims e i (rg ++ [z]) = rgI ims e i rg ++ [z] := by
      unfold rgI
      split
      · rename_i w
        have ow := o.wr w
        rw [wrV_more ow, List.set_append_left]
        have := ow.d.1; have := ow.d.2; omega
      · rfl
    have e2 : nxI k i (rg ++ [z]) = nxI k i rg := by
      unfold nxI
      by_cases h11 : i.op = 11
      · rw [rgv_more (o.b (.inr h11))]
      · simp only [h11, false_and, or_false]
    have e3 : rsI i (rg ++ [z]) x = rsI i rg x := by
      unfold rsI
      split
      · rename_i w; rw [rgv_more (o.b (.inl w))]
      · rfl
    rw [e1, e2, e3]
    exact ih2
theorem fit_more {c : Cd} {e : Evr} (h : fitP c e) (hr : c.rg < 1024) : fitP { c with rg := c.rg + 1 } e := by
  obtain ⟨⟨h1, h2, h3, h4, h5, h6, h7⟩, h8, h9, h10⟩ := h
  have b3 := below_t h3
  refine ⟨⟨h1, h2, decide_eq_true (show 0 ≤ c.rg + 1 ∧ c.rg + 1 < 1025 by omega), h4, h5, h6, fun k i hi => ?_⟩, h8, h9, h10⟩
  obtain ⟨o1, o2, o3⟩ := h7 k i hi
  refine ⟨o1, o2, fun r hr => ?_⟩
  have := below_t (o3 r hr)
  exact decide_eq_true (show 0 ≤ r ∧ r < c.rg + 1 by omega)
theorem run_more {ims : List Sm.Im} {c : Cd} {e : Evr} {ps ps' : List Nat} {y y' : Rp} (hf : fitP c e) (hI : CdI c) (h : RunC ims e c ps y) (h' : RunC ims e { c with rg := c.rg + 1 } ps' y') : y' = y := by
  have h0 := below_t hf.1.2.2.1
  have e1 : (c.rg + 1).toNat = c.rg.toNat + 1 := by omega
  unfold RunC at h h'
  have m := Rn.more V4.z h (vn := nvs c) (by rw [List.length_replicate]; exact run_ok hf hI)
  rw [← List.replicate_succ', ← e1] at m
  exact ((Rn.det m h').2).symm
def wI0 : Ins := ⟨1, 0, 0, 0, 0, 0, 0, 0, 1, 2, 3, 4, 0, 0, 0, 0⟩
def wI1 : Ins := ⟨6, 0, 0, 4, 1, 0, 0, 0, 0, 0, 0, 0, 3, 2, 1, 0⟩
def wI2 : Ins := ⟨4, 4, 0, 0, 0, 0, 1, 0, 0, 0, 0, 0, 0, 0, 0, 0⟩
def wC (b : Nat) : Cd := ⟨2, some ⟨b, 0, none⟩, 3, [wI0, wI1, wI2], 2, 0, 0, 0⟩
def wE : Evr := ⟨none, 0, [], none, 0, [], none, 0, [], V4.z, false, V4.z, none, 0, 0⟩
def wY : Rp := ⟨V4.z, 0, [], ⟨4, 3, 2, 1⟩, false⟩
theorem w_fit (b : Nat) : fitP (wC b) wE := by
  refine ⟨⟨.inr rfl, by show 3 ≤ 4096; decide, rfl, rfl, rfl, rfl, fun k i hi => ?_⟩, rfl, rfl, rfl⟩
  match k with
  | 0 => cases hi; exact ⟨rfl, rfl, by show ∀ r ∈ regsL wI0, below r 2 = true; decide⟩
  | 1 => cases hi; exact ⟨rfl, rfl, by show ∀ r ∈ regsL wI1, below r 2 = true; decide⟩
  | 2 => cases hi; exact ⟨rfl, rfl, by show ∀ r ∈ regsL wI2, below r 2 = true; decide⟩
  | k + 3 => cases hi
theorem w_run (b : Nat) : RunC [] wE (wC b) [0, 1, 2] wY := by
  have s0 : ∀ z, rgI [] wE wI0 [z, z] = [⟨1, 2, 3, 4⟩, z] := fun z => by
    unfold rgI; rw [if_pos (.inl rfl)]; unfold wrV; rw [if_pos (show wI0.op = 1 from rfl)]; rfl
  have s1 : ∀ z, rgI [] wE wI1 [⟨1, 2, 3, 4⟩, z] = [⟨1, 2, 3, 4⟩, ⟨4, 3, 2, 1⟩] := fun z => by
    unfold rgI; rw [if_pos (by unfold Wr wI1; simp)]; unfold wrV; rfl
  have s2 : ∀ a c, rgI [] wE wI2 [a, c] = [a, c] := fun a c => by
    unfold rgI; rw [if_neg (by unfold Wr wI2; simp)]
  refine .step (i := wI0) rfl (by decide) ?_
  show Rn [] wE _ 1 (rgI [] wE wI0 [V4.z, V4.z]) _ _ _
  rw [s0]
  refine .step (i := wI1) rfl (by decide) ?_
  show Rn [] wE _ 2 (rgI [] wE wI1 _) _ _ _
  rw [s1]
  refine .step (i := wI2) rfl (by decide) ?_
  show Rn [] wE _ 3 (rgI [] wE wI2 _) _ _ _
  rw [s2]
  exact .fin (Nat.le_refl 3)
end Go.Proofs.YtdmnfaefakceiaaGreat
end
section
/- The statement VmSpare, as a call (layer 18). -/
set_option linter.unusedSimpArgs false
set_option linter.unusedVariables false
set_option maxRecDepth 100000
set_option maxHeartbeats 4000000
namespace Go.Proofs.YtdmnfaefakceiaaGreat
open Go.HL Go.RowKit Pb
variable {w0 : World} {H G : Heap} {K : Value → Heap → Prop}

theorem w_ce {b : Nat} (hb : H b = some ⟨.t 46, wI0.row ++ wI1.row ++ wI2.row⟩) : CE w0 H (wC b) wE [] := by
  refine ⟨⟨SlAt.blk (z := []) (t := 46) (by rw [List.append_nil, hb]; rfl), by show 3 ≤ maxLen; unfold maxLen; omega, Nat.le_refl 3⟩, ⟨SlAt.nil, SlAt.nil, SlAt.nil⟩, ⟨rfl, SlAt.nil, fun x hx => by cases hx⟩, ⟨fun v hv => (by cases hv), fun v hv => (by cases hv), fun v hv => (by cases hv), z4_I, z4_I⟩, fun i hi => ?_⟩
  simp only [wC, List.mem_cons, List.not_mem_nil, or_false] at hi
  rcases hi with rfl | rfl | rfl <;> (unfold I32; decide)
theorem c_wRun {b : Nat} (hb : H b = some ⟨.t 46, wI0.row ++ wI1.row ++ wI2.row⟩) (h : ∀ G av, Grow w0 H G → K (.tuple #[(wY.res av).v, .int .i64 0]) G) : HCalls Tryz.prog w0 13 [(wC b).v, wE.v] H K :=
  c_Run_ok (wC b) wE [] (w_ce hb) (w_fit b) fun G av ps y hr _ g _ => by
    obtain ⟨-, e⟩ := Rn.det hr (w_run b)
    rw [e]; exact h G av g
/- paintboxlaw18 wakes -/
def M10 : MC :=
  .seq (.reg [oX 0 (.mv (.const (.bool false)))])
 (.seq (.reg [oX 6 (.build [(.int .i32 0),(.int .i32 0),(.int .i32 0),(.int .i32 0)] [(0,1,(.const (.int .i32 1))),(1,1,(.const (.int .i32 2))),(2,1,(.const (.int .i32 3))),(3,1,(.const (.int .i32 4)))]),
 oX 7 (.build [(.int .i64 0),(.int .i64 0),(.int .i64 0),(.int .i64 0),(.int .i64 0),(.int .i64 0),(.int .i64 0),(.int .i64 0),(.int .i32 0),(.int .i32 0),(.int .i32 0),(.int .i32 0),(.int .i64 0),(.int .i64 0),(.int .i64 0),(.int .i64 0)] [(0,1,(kX 1)),(8,4,(.tmp 6))]),
 oX 8 (.build [(.int .i64 0),(.int .i64 0),(.int .i64 0),(.int .i64 0)] [(0,1,(kX 3)),(1,1,(kX 2)),(2,1,(kX 1)),(3,1,(kX 0))]),
 oX 9 (.build [(.int .i64 0),(.int .i64 0),(.int .i64 0),(.int .i64 0),(.int .i64 0),(.int .i64 0),(.int .i64 0),(.int .i64 0),(.int .i32 0),(.int .i32 0),(.int .i32 0),(.int .i32 0),(.int .i64 0),(.int .i64 0),(.int .i64 0),(.int .i64 0)] [(0,1,(kX 6)),(4,1,(kX 1)),(3,1,(kX 4)),(12,4,(.tmp 8))]),
 oX 10 (.build [(.int .i64 0),(.int .i64 0),(.int .i64 0),(.int .i64 0),(.int .i64 0),(.int .i64 0),(.int .i64 0),(.int .i64 0),(.int .i32 0),(.int .i32 0),(.int .i32 0),(.int .i32 0),(.int .i64 0),(.int .i64 0),(.int .i64 0),(.int .i64 0)] [(0,1,(kX 4)),(1,1,(kX 4)),(6,1,(kX 1))]),
 oX 11 (.bslice 46 3 [(.int .i64 0),(.int .i64 0),(.int .i64 0),(.int .i64 0),(.int .i64 0),(.int .i64 0),(.int .i64 0),(.int .i64 0),(.int .i32 0),(.int .i32 0),(.int .i32 0),(.int .i32 0),(.int .i64 0),(.int .i64 0),(.int .i64 0),(.int .i64 0),(.int .i64 0),(.int .i64 0),(.int .i64 0),(.int .i64 0),(.int .i64 0),(.int .i64 0),(.int .i64 0),(.int .i64 0),(.int .i32 0),(.int .i32 0),(.int .i32 0),(.int .i32 0),(.int .i64 0),(.int .i64 0),(.int .i64 0),(.int .i64 0),(.int .i64 0),(.int .i64 0),(.int .i64 0),(.int .i64 0),(.int .i64 0),(.int .i64 0),(.int .i64 0),(.int .i64 0),(.int .i32 0),(.int .i32 0),(.int .i32 0),(.int .i32 0),(.int .i64 0),(.int .i64 0),(.int .i64 0),(.int .i64 0)] [(0,16,(.tmp 7)),(16,16,(.tmp 9)),(32,16,(.tmp 10))]),
 oX 12 (.build [(.int .i64 0),(.slice none 0 0),(.int .i64 0),(.int .i64 0),(.int .i64 0),(.int .i64 0)] [(0,1,(kX 2)),(2,1,(kX 2)),(1,1,(.tmp 11))]),
 oX 1 (.alloc 24 [(.int .i64 0),(.slice none 0 0),(.int .i64 0),(.int .i64 0),(.int .i64 0),(.int .i64 0)]),
 ⟨none,.stn 6 (.tmp 1) (.tmp 12),none⟩])
 (.seq (.reg [oX 14 (.ldn 6 (.tmp 1)),
 oX 15 (.build [(.slice none 0 0),(.slice none 0 0),(.slice none 0 0),(.int .i32 0),(.int .i32 0),(.int .i32 0),(.int .i32 0),(.bool false),(.int .i32 0),(.int .i32 0),(.int .i32 0),(.int .i32 0),(.slice none 0 0)] []),
 oX 16 (.call 13 [(.tmp 14),(.tmp 15)]),
 vX 13 16,
 oX 17 (.ext 0 (.tmp 13)),
 oX 18 (.ext 1 (.tmp 13)),
 oX 2 (.alloc 36 [(.int .i32 0),(.int .i32 0),(.int .i32 0),(.int .i32 0),(.int .i32 0),(.slice none 0 0),(.int .i32 0),(.int .i32 0),(.int .i32 0),(.int .i32 0),(.bool false)]),
 ⟨none,.stn 11 (.tmp 2) (.tmp 17),none⟩,
 vX 3 18])
 (.seq (.reg [oX 20 (.build [(.int .i32 0),(.int .i32 0),(.int .i32 0),(.int .i32 0)] [(0,1,(.const (.int .i32 7)))]),
 oX 21 (.build [(.int .i32 0),(.int .i32 0),(.int .i32 0),(.int .i32 0)] [(0,1,(.const (.int .i32 2)))]),
 oX 22 (.build [(.int .i32 0),(.int .i32 0),(.int .i32 0),(.int .i32 0)] []),
 oX 23 (.call 28 [(kX 27),(kX 2),(kX 1),(.tmp 20),(.tmp 21),(.tmp 22)]),
 vX 19 23,
 oX 24 (.ext 0 (.tmp 19)),
 oX 25 (.ext 1 (.tmp 19)),
 oX 4 (.alloc 28 [(.int .i32 0),(.int .i32 0),(.int .i32 0),(.int .i32 0)]),
 ⟨none,.stn 4 (.tmp 4) (.tmp 24),none⟩,
 vX 5 25])
 (.seq (.reg [vX 26 3,
 oX 27 (bK .eql 26 0),
 vX 28 27,
 ⟨(some 29),.fa 6 (.tmp 2),(some (28,true))⟩,
 ⟨(some 30),.ldn 4 (.tmp 29),(some (28,true))⟩,
 ⟨(some 31),.build [(.int .i32 0),(.int .i32 0),(.int .i32 0),(.int .i32 0)] [(0,1,(.const (.int .i32 4))),(1,1,(.const (.int .i32 3))),(2,1,(.const (.int .i32 2))),(3,1,(.const (.int .i32 1)))],(some (28,true))⟩,
 ⟨(some 32),.eqa false 4 (.tmp 30) (.tmp 31),(some (28,true))⟩,
 oX 33 (.pick (.tmp 28) (.tmp 32) (.const (.bool false))),
 vX 34 33,
 ⟨(some 35),.mv (.tmp 5),(some (34,true))⟩,
 ⟨(some 36),bK .eql 35 0,(some (34,true))⟩,
 oX 37 (.pick (.tmp 34) (.tmp 36) (.const (.bool false))),
 vX 38 37,
 ⟨(some 39),.ldn 4 (.tmp 4),(some (38,true))⟩,
 ⟨(some 40),.build [(.int .i32 0),(.int .i32 0),(.int .i32 0),(.int .i32 0)] [(0,1,(.const (.int .i32 3)))],(some (38,true))⟩,
 ⟨(some 41),.eqa false 4 (.tmp 39) (.tmp 40),(some (38,true))⟩,
 oX 42 (.pick (.tmp 38) (.tmp 41) (.const (.bool false))),
 vX 0 42])
 (.ret)))))
theorem k10 : fnOk Tryz.prog 10 = some (M10, [.t 0], 43) := by kernel_rfl

theorem c_wakes (h : K (.bool true) H) : HCalls Tryz.prog w0 10 [] H K := by
  have cR := fun (b : Nat) (G : Heap) (K' : Value → Heap → Prop) (hb : G b = some ⟨.t 46, wI0.row ++ wI1.row ++ wI2.row⟩) => c_wRun (w0 := w0) (K := K') hb
  have cD : ∀ (G : Heap) (K' : Value → Heap → Prop), K' (.tuple #[.agg #[.int .i32 3, .int .i32 0, .int .i32 0, .int .i32 0], .int .i64 0]) G → HCalls Tryz.prog w0 28 [.int .i64 27, .int .i64 2, .int .i64 1, .agg #[.int .i32 7, .int .i32 0, .int .i32 0, .int .i32 0], .agg #[.int .i32 2, .int .i32 0, .int .i32 0, .int .i32 0], .agg #[.int .i32 0, .int .i32 0, .int .i32 0, .int .i32 0]] G K' := fun G K' hk =>
    c_Do 27 2 1 (V4.f ⟨7, 0, 0, 0⟩) (V4.f ⟨2, 0, 0, 0⟩) (V4.f ⟨0, 0, 0, 0⟩) (V4.f_I (by unfold V4.I I32; decide)) (V4.f_I (by unfold V4.I I32; decide)) (V4.f_I (by unfold V4.I I32; decide)) (by decide) (by decide) hk
  unfold wC wE Cd.v Evr.v Evr.row V4.z wI0 wI1 wI2 Ins.row wY Rp.res Res.v Res.row at cR
  simp only [List.cons_append, List.nil_append] at cR
  replace h : Keep _ := h
  replace cR : Keep _ := cR
  replace cD : Keep _ := cD
  refine HL.hc k10 999 ?_; unfold M10
  have q1 : ceq [.int .i32 4, .int .i32 3, .int .i32 2, .int .i32 1] [.int .i32 4, .int .i32 3, .int .i32 2, .int .i32 1] = some true := rfl
  have q2 : ceq [.int .i32 3, .int .i32 0, .int .i32 0, .int .i32 0] [.int .i32 3, .int .i32 0, .int .i32 0, .int .i32 0] = some true := rfl
  (all_goals (try simp only [S0,putAt,List.replicate,Int.reduceAdd,Int.reduceSub,Int.reduceMul,Int.reduceTDiv,Int.reduceTMod,Int.reduceMod,Int.reduceDiv,Nat.reduceLT,Nat.reduceEqDiff,Int.reduceLE,Int.reduceLT,Int.reduceToNat,Int.reduceNeg,Int.reduceEq,Nat.reduceLeDiff,Nat.reducePow,Int.reducePow,reduceIte,Nat.reduceSub,Nat.reduceAdd,Nat.reduceMul, *])); repeat' ((first | (with_reducible refine fun _ : True => ?_) | refine cR _ _ _ aA (fun G av g => ?_)  | refine cD _ _ ?_ | (with_reducible refine any_h ?_) | ((first | refine AllocQ_i ?_ | refine AllocO_i ?_); intro bk hb0 hbk; (try simp only [set_none'] at hbk)) | ((first | refine condS_i ?_ ?_ | refine pick_i ?_ ?_ | refine gS_it ?_ ?_ | refine gS_if ?_ ?_ | refine gP_it ?_ ?_ | refine gP_if ?_ ?_) <;> (intro hc; try simp only [Int.reduceLE,Int.reduceLT,Int.reduceEq,Sn] at hc)) | (with_reducible refine KP_i ?_ ?_; · exact aL) | (with_reducible refine And.intro ?_ ?_)) <;> (try simp only [S0,putAt,List.replicate,Int.reduceAdd,Int.reduceSub,Int.reduceMul,Int.reduceTDiv,Int.reduceTMod,Int.reduceMod,Int.reduceDiv,Nat.reduceLT,Nat.reduceEqDiff,Int.reduceLE,Int.reduceLT,Int.reduceToNat,Int.reduceNeg,Int.reduceEq,Nat.reduceLeDiff,Nat.reducePow,Int.reducePow,reduceIte,Nat.reduceSub,Nat.reduceAdd,Nat.reduceMul, *]))
  have g0 : Grow w0 H G := Grow.trans aG g
  exact Fin_mk (fun b x e => (show Heap.Le G _ from aL) b x (g0.some e)) h
theorem KP_e {rec : List It → List Value → Heap → Prop} {k : List It} {T : List Value} {d : Option Tmp} {Hs : Nat → Heap} {v : Value} (h : rec k (put T d v) H) : KP rec k T d Hs [] v H := ⟨fun g hg => absurd hg (by simp), h⟩
theorem few_ok {c : Cd} (hI : CdI c) (a : Option Addr) (k : Nat) : CdI { c with adr := a, cap := k, is := c.is.take 300 } := fun i hi => hI i (List.mem_of_mem_take hi)
theorem ims_take (ims : List Sm.Im) (k : Nat) : ((ims.map imRow).flatten).take (k * 6) = ((ims.take k).map imRow).flatten := by
  rw [flat_take (sz := 6) _ _ (fun r hr => by obtain ⟨j, -, rfl⟩ := List.mem_map.1 hr; rfl), List.map_take]
/-- What few and around leave can be run. -/
theorem cut_ce {c : Cd} {e : Evr} {ims : List Sm.Im} (E : CE w0 H c e ims) {a a1 a2 a3 : Option Addr} {k k1 k2 k3 : Nat} (g : Grow w0 H G) (hB : SlAt w0 G a (rowsC (c.is.take 300))) (hk : (c.is.take 300).length ≤ k)
    (h1 : SlAt w0 G a1 (rowsV (e.la.take 40))) (h2 : SlAt w0 G a2 (rowsV (e.lu.take 40))) (h3 : SlAt w0 G a3 (rowsV (e.lv.take 40))) :
    CE w0 G { c with adr := a, cap := k, is := c.is.take 300 } { e with aa := a1, ac := k1, la := e.la.take 40, ua := a2, uc := k2, lu := e.lu.take 40, va := a3, vc := k3, lv := e.lv.take 40, il := min 4 e.il } (ims.take 4) where
  cA := ⟨hB, by show (c.is.take 300).length ≤ maxLen; unfold maxLen; rw [List.length_take]; omega, hk⟩
  eA := ⟨h1, h2, h3⟩
  iA := ⟨by show min 4 e.il = (ims.take 4).length; rw [List.length_take, E.iA.n], by
    have := slTake (E.iA.a.grow g) (4 * 6)
    rw [ims_take] at this
    exact this, fun x hx => (E.iA.ok x (List.mem_of_mem_take hx)).grow g⟩
  eI := ⟨fun v hv => E.eI.a v (List.mem_of_mem_take hv), fun v hv => E.eI.u v (List.mem_of_mem_take hv), fun v hv => E.eI.v v (List.mem_of_mem_take hv), E.eI.c, E.eI.p⟩
  cI := few_ok E.cI a k
theorem hc_heap {f : FuncId} {args : List Value} (h : ∀ HH, HH = H → HCalls Tryz.prog w0 f args HH K) : HCalls Tryz.prog w0 f args H K := h H rfl
theorem turn2 {a : Option Addr} {cap sz b2 b3 : Nat} {ty : TypeId} {cs : List Value} {x y u v : Blk} (B : Bld w0 H G a cap sz ty cs) (h2 : G b2 = some u) (h3 : G b3 = some v) (n : b3 ≠ b2) (n2 : ty ≠ u.ty) (n3 : ty ≠ v.ty) : Bld w0 H ((G.set b2 x).set b3 y) a cap sz ty cs :=
  (B.turn h2 n2).turn (y := v) (by rw [Heap.set_other _ _ n]; exact h3) n3
/- paintboxlaw18 VmSpare -/
def M8 : MC :=
  .seq (.reg [oX 2 (.box 24 (.tmp 0)),
 oX 3 (.box 31 (.tmp 1)),
 oX 4 (.mv (.const (.bool false)))])
 (.seq (.seq (.reg [oX 8 (.call 10 []),
 oX 9 (.un .not (.tmp 8))])
 (.cond (.tmp 9)
 (.seq (.reg [oX 4 (.mv (.const (.bool false)))])
 (.ret))
 (.skip)))
 (.seq (.any [(true,0,[],oX 10 (.ldn 6 (.tmp 2))),
 (true,2,[],oX 12 (.ldn 13 (.tmp 3))),
 (false,1,[2],oX 11 (.call 11 [(.tmp 10)])),
 (false,3,[],oX 13 (.call 12 [(.tmp 12)])),
 (false,4,[],⟨none,.stn 6 (.tmp 2) (.tmp 11),none⟩),
 (false,5,[],⟨none,.stn 13 (.tmp 3) (.tmp 13),none⟩)])
 (.seq (.reg [oX 15 (.ldn 6 (.tmp 2)),
 oX 16 (.ldn 13 (.tmp 3)),
 oX 17 (.call 13 [(.tmp 15),(.tmp 16)]),
 vX 14 17,
 oX 18 (.ext 0 (.tmp 14)),
 oX 19 (.ext 1 (.tmp 14)),
 oX 5 (.alloc 36 [(.int .i32 0),(.int .i32 0),(.int .i32 0),(.int .i32 0),(.int .i32 0),(.slice none 0 0),(.int .i32 0),(.int .i32 0),(.int .i32 0),(.int .i32 0),(.bool false)]),
 ⟨none,.stn 11 (.tmp 5) (.tmp 18),none⟩,
 vX 6 19])
 (.seq (.seq (.reg [vX 20 6,
 oX 21 (bK .neq 20 0),
 vX 22 21,
 ⟨(some 23),.fa 2 (.tmp 2),(some (22,false))⟩,
 ⟨(some 24),.ld1 (.tmp 23),(some (22,false))⟩,
 ⟨(some 25),bK .geq 24 1024,(some (22,false))⟩,
 oX 26 (.pick (.tmp 22) (.const (.bool true)) (.tmp 25))])
 (.cond (.tmp 26)
 (.seq (.reg [oX 4 (.mv (.const (.bool true)))])
 (.ret))
 (.skip)))
 (.seq (.reg [oX 27 (.fa 2 (.tmp 2)),
 oX 28 (.ld1 (.tmp 27)),
 oX 29 (bK .add 28 1),
 oX 30 (.fa 2 (.tmp 2)),
 ⟨none,.st1 (.tmp 30) (.tmp 29),none⟩])
 (.seq (.reg [oX 32 (.ldn 6 (.tmp 2)),
 oX 33 (.ldn 13 (.tmp 3)),
 oX 34 (.call 13 [(.tmp 32),(.tmp 33)]),
 vX 31 34,
 oX 35 (.ext 0 (.tmp 31)),
 oX 36 (.ext 1 (.tmp 31)),
 oX 7 (.alloc 36 [(.int .i32 0),(.int .i32 0),(.int .i32 0),(.int .i32 0),(.int .i32 0),(.slice none 0 0),(.int .i32 0),(.int .i32 0),(.int .i32 0),(.int .i32 0),(.bool false)]),
 ⟨none,.stn 11 (.tmp 7) (.tmp 35),none⟩,
 vX 6 36])
 (.seq (.reg [vX 37 6,
 oX 38 (bK .eql 37 0),
 vX 39 38,
 ⟨(some 40),.ldn 11 (.tmp 5),(some (39,true))⟩,
 ⟨(some 41),.ldn 11 (.tmp 7),(some (39,true))⟩,
 ⟨(some 42),.call 16 [(.tmp 40),(.tmp 41)],(some (39,true))⟩,
 oX 43 (.pick (.tmp 39) (.tmp 42) (.const (.bool false))),
 vX 4 43])
 (.ret))))))))
theorem k8 : fnOk Tryz.prog 8 = some (M8, [.t 4], 44) := by kernel_rfl

theorem l_VmSpare (c : Cd) (e : Evr) (ims : List Sm.Im) (E : CE w0 H c e ims) (L : EvL e) (h : K (.bool true) H) : HCalls Tryz.prog w0 8 [c.v, e.v] H K := by
  have cF := fun (G : Heap) (K' : Value → Heap → Prop) (g : Grow w0 H G) => c_few (K := K') c (E.grow g).cA
  have cA := fun (G : Heap) (K' : Value → Heap → Prop) (g : Grow w0 H G) => c_around (K := K') e (E.grow g).eA L
  obtain ⟨st, adr, cap, is, rg, ab, un, va⟩ := c
  obtain ⟨aa, ac, la, ua, uc, lu, va', vc, lv, co, fr, po, ia, ic, il⟩ := e
  unfold Cd.v Evr.v Evr.row at *
  simp only at cF cA ⊢
  replace h : Keep _ := h
  replace cF : Keep _ := cF
  replace cA : Keep _ := cA
  replace E : Keep _ := E
  refine HL.hc k8 999 ?_; unfold M8
  (all_goals (try simp only [S0,putAt,List.replicate,Int.reduceAdd,Int.reduceSub,Int.reduceMul,Int.reduceTDiv,Int.reduceTMod,Int.reduceMod,Int.reduceDiv,Nat.reduceLT,Nat.reduceEqDiff,Int.reduceLE,Int.reduceLT,Int.reduceToNat,Int.reduceNeg,Int.reduceEq,Nat.reduceLeDiff,Nat.reducePow,Int.reducePow,reduceIte,Nat.reduceSub,Nat.reduceAdd,Nat.reduceMul, *])); repeat' ((first | (with_reducible refine fun _ : True => ?_) | refine c_wakes ?_ | ((first | refine AllocQ_i ?_ | refine AllocO_i ?_); intro bk hb0 hbk; (try simp only [set_none'] at hbk)) | ((first | refine condS_i ?_ ?_ | refine pick_i ?_ ?_ | refine gS_it ?_ ?_ | refine gS_if ?_ ?_ | refine gP_it ?_ ?_ | refine gP_if ?_ ?_) <;> (intro hc; try simp only [Int.reduceLE,Int.reduceLT,Int.reduceEq,Sn] at hc)) | (with_reducible refine KP_i ?_ ?_; · exact aL) | (with_reducible refine And.intro ?_ ?_)) <;> (try simp only [S0,putAt,List.replicate,Int.reduceAdd,Int.reduceSub,Int.reduceMul,Int.reduceTDiv,Int.reduceTMod,Int.reduceMod,Int.reduceDiv,Nat.reduceLT,Nat.reduceEqDiff,Int.reduceLE,Int.reduceLT,Int.reduceToNat,Int.reduceNeg,Int.reduceEq,Nat.reduceLeDiff,Nat.reducePow,Int.reducePow,reduceIte,Nat.reduceSub,Nat.reduceAdd,Nat.reduceMul, *]))
  rename_i b2 hb2 hn2
  refine any_h ?_
  (all_goals (try simp only [S0,putAt,List.replicate,Int.reduceAdd,Int.reduceSub,Int.reduceMul,Int.reduceTDiv,Int.reduceTMod,Int.reduceMod,Int.reduceDiv,Nat.reduceLT,Nat.reduceEqDiff,Int.reduceLE,Int.reduceLT,Int.reduceToNat,Int.reduceNeg,Int.reduceEq,Nat.reduceLeDiff,Nat.reducePow,Int.reducePow,reduceIte,Nat.reduceSub,Nat.reduceAdd,Nat.reduceMul, *])); repeat' ((first | (with_reducible refine fun _ : True => ?_) | refine cF _ _ aG (fun a1 k1 G1 hB1 hk1 hg1 => ?_)  | (with_reducible refine any_h ?_) | ((first | refine AllocQ_i ?_ | refine AllocO_i ?_); intro bk hb0 hbk; (try simp only [set_none'] at hbk)) | ((first | refine condS_i ?_ ?_ | refine pick_i ?_ ?_ | refine gS_it ?_ ?_ | refine gS_if ?_ ?_ | refine gP_it ?_ ?_ | refine gP_if ?_ ?_) <;> (intro hc; try simp only [Int.reduceLE,Int.reduceLT,Int.reduceEq,Sn] at hc)) | (with_reducible refine KP_i ?_ ?_; · exact aL) | (with_reducible refine And.intro ?_ ?_)) <;> (try simp only [S0,putAt,List.replicate,Int.reduceAdd,Int.reduceSub,Int.reduceMul,Int.reduceTDiv,Int.reduceTMod,Int.reduceMod,Int.reduceDiv,Nat.reduceLT,Nat.reduceEqDiff,Int.reduceLE,Int.reduceLT,Int.reduceToNat,Int.reduceNeg,Int.reduceEq,Nat.reduceLeDiff,Nat.reducePow,Int.reducePow,reduceIte,Nat.reduceSub,Nat.reduceAdd,Nat.reduceMul, *]))
  have i1 : Grow w0 H G1 := Grow.trans aG hg1
  have k2 : G1 b2 = some _ := hg1.some aA
  have k3 : G1 bk = some _ := hg1.some aA
  have j2 := blkn k2
  have j3 := blkn k3
  have B1 : Bld w0 H G1 a1 k1 16 46 _ := hB1.base aG
  clear hg1 hB1
  replace cA := (show ∀ (G : Heap) (K' : Value → Heap → Prop), _ → _ → _ from cA) G1
  replace cA : Keep _ := cA
  replace B1 : Keep _ := B1
  (all_goals (try simp only [S0,putAt,List.replicate,Int.reduceAdd,Int.reduceSub,Int.reduceMul,Int.reduceTDiv,Int.reduceTMod,Int.reduceMod,Int.reduceDiv,Nat.reduceLT,Nat.reduceEqDiff,Int.reduceLE,Int.reduceLT,Int.reduceToNat,Int.reduceNeg,Int.reduceEq,Nat.reduceLeDiff,Nat.reducePow,Int.reducePow,reduceIte,Nat.reduceSub,Nat.reduceAdd,Nat.reduceMul, *])); repeat' ((first | (with_reducible refine fun _ : True => ?_) | refine KP_e ?_ | refine cA _ i1 (fun a2 k4 a3 k5 a4 k6 G2 hB2 hB3 hB4 hk2 hk3 hk4 hg2 => ?_)  | (with_reducible refine any_h ?_) | ((first | refine AllocQ_i ?_ | refine AllocO_i ?_); intro bk hb0 hbk; (try simp only [set_none'] at hbk)) | ((first | refine condS_i ?_ ?_ | refine pick_i ?_ ?_ | refine gS_it ?_ ?_ | refine gS_if ?_ ?_ | refine gP_it ?_ ?_ | refine gP_if ?_ ?_) <;> (intro hc; try simp only [Int.reduceLE,Int.reduceLT,Int.reduceEq,Sn] at hc)) | (with_reducible refine KP_i ?_ ?_; · exact aL) | (with_reducible refine And.intro ?_ ?_)) <;> (try simp only [S0,putAt,List.replicate,Int.reduceAdd,Int.reduceSub,Int.reduceMul,Int.reduceTDiv,Int.reduceTMod,Int.reduceMod,Int.reduceDiv,Nat.reduceLT,Nat.reduceEqDiff,Int.reduceLE,Int.reduceLT,Int.reduceToNat,Int.reduceNeg,Int.reduceEq,Nat.reduceLeDiff,Nat.reducePow,Int.reducePow,reduceIte,Nat.reduceSub,Nat.reduceAdd,Nat.reduceMul, *]))
  obtain ⟨b3, e3⟩ : ∃ b, b = bk := ⟨_, rfl⟩
  have hb3 := hb0
  have hn3 := hbk
  rw [← e3] at hb3 hn3 k3 ⊢
  clear hb0 hbk e3
  have i2 : Grow w0 H G2 := i1.trans hg2
  have m2 := hg2.some k2
  have m3 := hg2.some k3
  have B2 := hB2.base i1
  have B3 := hB3.base i1
  have B4 := hB4.base i1
  have B1 := Bld.grow (show Bld w0 H G1 a1 k1 16 46 _ from B1) hg2
  have n32 : b3 ≠ b2 := by first | exact hn3.1.1 | exact hn3.1
  have T1 := fun X Y => turn2 (x := ⟨.t 24, X⟩) (y := ⟨.t 31, Y⟩) B1 m2 m3 n32 (fun e => by cases e) (fun e => by cases e)
  have T2 := fun X Y => turn2 (x := ⟨.t 24, X⟩) (y := ⟨.t 31, Y⟩) B2 m2 m3 n32 (fun e => by cases e) (fun e => by cases e)
  have T3 := fun X Y => turn2 (x := ⟨.t 24, X⟩) (y := ⟨.t 31, Y⟩) B3 m2 m3 n32 (fun e => by cases e) (fun e => by cases e)
  have T4 := fun X Y => turn2 (x := ⟨.t 24, X⟩) (y := ⟨.t 31, Y⟩) B4 m2 m3 n32 (fun e => by cases e) (fun e => by cases e)
  have i3 := fun X Y => (Grow.set (b := b3) (x := ⟨.t 31, Y⟩) (Grow.set (b := b2) (x := ⟨.t 24, X⟩) i2 hb2 hn2) hb3 hn3.2)
  have E1 := fun X Y => cut_ce (show CE w0 H _ _ ims from E) (i3 X Y) (T1 X Y).slAt hk1 (T2 X Y).slAt (T3 X Y).slAt (T4 X Y).slAt (k1 := k4) (k2 := k5) (k3 := k6)
  have j4 := blkn m2
  have j5 := blkn m3
  replace T1 : Keep _ := T1
  replace T2 : Keep _ := T2
  replace T3 : Keep _ := T3
  replace T4 : Keep _ := T4
  replace i3 : Keep _ := i3
  replace E1 : Keep _ := E1
  clear B1 B2 B3 B4 hB2 hB3 hB4 hg2 i1 k2 k3 j2 j3
  (all_goals (try simp only [S0,putAt,List.replicate,Int.reduceAdd,Int.reduceSub,Int.reduceMul,Int.reduceTDiv,Int.reduceTMod,Int.reduceMod,Int.reduceDiv,Nat.reduceLT,Nat.reduceEqDiff,Int.reduceLE,Int.reduceLT,Int.reduceToNat,Int.reduceNeg,Int.reduceEq,Nat.reduceLeDiff,Nat.reducePow,Int.reducePow,reduceIte,Nat.reduceSub,Nat.reduceAdd,Nat.reduceMul, *])); repeat' ((first | (with_reducible refine fun _ : True => ?_) | (with_reducible refine any_h ?_) | ((first | refine AllocQ_i ?_ | refine AllocO_i ?_); intro bk hb0 hbk; (try simp only [set_none'] at hbk)) | ((first | refine condS_i ?_ ?_ | refine pick_i ?_ ?_ | refine gS_it ?_ ?_ | refine gS_if ?_ ?_ | refine gP_it ?_ ?_ | refine gP_if ?_ ?_) <;> (intro hc; try simp only [Int.reduceLE,Int.reduceLT,Int.reduceEq,Sn] at hc)) | (with_reducible refine KP_i ?_ ?_; · exact aL) | (with_reducible refine And.intro ?_ ?_)) <;> (try simp only [S0,putAt,List.replicate,Int.reduceAdd,Int.reduceSub,Int.reduceMul,Int.reduceTDiv,Int.reduceTMod,Int.reduceMod,Int.reduceDiv,Nat.reduceLT,Nat.reduceEqDiff,Int.reduceLE,Int.reduceLT,Int.reduceToNat,Int.reduceNeg,Int.reduceEq,Nat.reduceLeDiff,Nat.reducePow,Int.reducePow,reduceIte,Nat.reduceSub,Nat.reduceAdd,Nat.reduceMul, *]))
  refine hc_heap fun HH eH => ?_
  have gH : Grow w0 H HH := by rw [eH]; exact (show ∀ X Y, Grow w0 H _ from i3) _ _
  have k2 : HH b2 = some ⟨.t 24, [.int .i64 st, .slice a1 (is.take 300).length k1, .int .i64 rg, .int .i64 ab, .int .i64 un, .int .i64 va]⟩ := by rw [eH]; exact aA
  have k3 : HH b3 = some ⟨.t 31, [.slice a2 (la.take 40).length k4, .slice a3 (lu.take 40).length k5, .slice a4 (lv.take 40).length k6, .int .i32 co.a, .int .i32 co.b, .int .i32 co.c, .int .i32 co.d, .bool fr, .int .i32 po.a, .int .i32 po.b, .int .i32 po.c, .int .i32 po.d, .slice ia (if 4 ≤ il then 4 else il) ic]⟩ := by rw [eH]; exact aA
  have EE : CE w0 HH ⟨st, a1, k1, is.take 300, rg, ab, un, va⟩ ⟨a2, k4, la.take 40, a3, k5, lu.take 40, a4, k6, lv.take 40, co, fr, po, ia, ic, min 4 il⟩ (ims.take 4) := by rw [eH]; exact (show ∀ X Y, CE w0 _ _ _ _ from E1) _ _
  have B1 : Bld w0 H HH a1 k1 16 46 (rowsC (is.take 300)) := by rw [eH]; exact (show ∀ X Y, Bld w0 H _ a1 k1 16 46 _ from T1) _ _
  have B2 : Bld w0 H HH a2 k4 4 28 (rowsV (la.take 40)) := by rw [eH]; exact (show ∀ X Y, Bld w0 H _ a2 k4 4 28 _ from T2) _ _
  have B3 : Bld w0 H HH a3 k5 4 28 (rowsV (lu.take 40)) := by rw [eH]; exact (show ∀ X Y, Bld w0 H _ a3 k5 4 28 _ from T3) _ _
  have B4 : Bld w0 H HH a4 k6 4 28 (rowsV (lv.take 40)) := by rw [eH]; exact (show ∀ X Y, Bld w0 H _ a4 k6 4 28 _ from T4) _ _
  have j2 := blkn k2
  have j3 := blkn k3
  clear eH T1 T2 T3 T4 i3 E1 j4 j5 m2 m3 i2 cF cA L
  by_cases hf : fitP ⟨st, a1, k1, is.take 300, rg, ab, un, va⟩ ⟨a2, k4, la.take 40, a3, k5, lu.take 40, a4, k6, lv.take 40, co, fr, po, ia, ic, min 4 il⟩
  rotate_left
  · obtain ⟨r, hr⟩ : ∃ r, bad ⟨st, a1, k1, is.take 300, rg, ab, un, va⟩ ⟨a2, k4, la.take 40, a3, k5, lu.take 40, a4, k6, lv.take 40, co, fr, po, ia, ic, min 4 il⟩ r := by
      by_cases hm : mayP ⟨st, a1, k1, is.take 300, rg, ab, un, va⟩
      · exact ⟨2, .inr ⟨hm, hf, rfl⟩⟩
      · exact ⟨260, .inl ⟨hm, rfl⟩⟩
    have r0 : ¬ r = 0 := by rcases hr with ⟨-, rfl⟩ | ⟨-, -, rfl⟩ <;> decide
    refine c_Run_bad ⟨st, a1, k1, is.take 300, rg, ab, un, va⟩ ⟨a2, k4, la.take 40, a3, k5, lu.take 40, a4, k6, lv.take 40, co, fr, po, ia, ic, min 4 il⟩ EE.cA hr ?_
    unfold res0
    clear hr hf EE B1 B2 B3 B4 E
    (all_goals (try simp only [S0,putAt,List.replicate,Int.reduceAdd,Int.reduceSub,Int.reduceMul,Int.reduceTDiv,Int.reduceTMod,Int.reduceMod,Int.reduceDiv,Nat.reduceLT,Nat.reduceEqDiff,Int.reduceLE,Int.reduceLT,Int.reduceToNat,Int.reduceNeg,Int.reduceEq,Nat.reduceLeDiff,Nat.reducePow,Int.reducePow,reduceIte,Nat.reduceSub,Nat.reduceAdd,Nat.reduceMul, *])); repeat' ((first | (with_reducible refine fun _ : True => ?_) | (with_reducible refine any_h ?_) | ((first | refine AllocQ_i ?_ | refine AllocO_i ?_); intro bk hb0 hbk; (try simp only [set_none'] at hbk)) | ((first | refine condS_i ?_ ?_ | refine pick_i ?_ ?_ | refine gS_it ?_ ?_ | refine gS_if ?_ ?_ | refine gP_it ?_ ?_ | refine gP_if ?_ ?_) <;> (intro hc; try simp only [Int.reduceLE,Int.reduceLT,Int.reduceEq,Sn] at hc)) | (with_reducible refine KP_i ?_ ?_; · exact aL) | (with_reducible refine And.intro ?_ ?_)) <;> (try simp only [S0,putAt,List.replicate,Int.reduceAdd,Int.reduceSub,Int.reduceMul,Int.reduceTDiv,Int.reduceTMod,Int.reduceMod,Int.reduceDiv,Nat.reduceLT,Nat.reduceEqDiff,Int.reduceLE,Int.reduceLT,Int.reduceToNat,Int.reduceNeg,Int.reduceEq,Nat.reduceLeDiff,Nat.reducePow,Int.reducePow,reduceIte,Nat.reduceSub,Nat.reduceAdd,Nat.reduceMul, *]))
    exact Fin_mk (fun b x e => (show Heap.Le HH _ from aL) b x (gH.some e)) h
  · refine c_Run_ok ⟨st, a1, k1, is.take 300, rg, ab, un, va⟩ ⟨a2, k4, la.take 40, a3, k5, lu.take 40, a4, k6, lv.take 40, co, fr, po, ia, ic, min 4 il⟩ (ims.take 4) EE hf (fun G4 av ps y hR hA g4 hN => ?_)
    have q2 := g4.some k2
    have q3 := g4.some k3
    have v2 := rd_blk (w0 := w0) q2
    have v3 : rdn w0 G4 b3 0 13 = some [.slice a2 (la.take 40).length k4, .slice a3 (lu.take 40).length k5, .slice a4 (lv.take 40).length k6, .int .i32 co.a, .int .i32 co.b, .int .i32 co.c, .int .i32 co.d, .bool fr, .int .i32 po.a, .int .i32 po.b, .int .i32 po.c, .int .i32 po.d, .slice ia (if 4 ≤ il then 4 else il) ic] := by unfold rdn; rw [q3]; rfl
    have l2 := blkn q2
    have l3 := blkn q3
    have gH4 := gH.trans g4
    have C1 := B1.grow g4
    have C2 := B2.grow g4
    have C3 := B3.grow g4
    have C4 := B4.grow g4
    have nb2 : ∀ bv, av = some bv → b2 ≠ bv := fun bv ev q => by have := hN bv ev; rw [← q, k2] at this; cases this
    unfold Res.v Res.row
    clear B1 B2 B3 B4 hN j2 j3 k2 k3
    replace C1 : Keep _ := C1
    replace C2 : Keep _ := C2
    replace C3 : Keep _ := C3
    replace C4 : Keep _ := C4
    replace hA : Keep _ := hA
    replace hR : Keep _ := hR
    replace EE : Keep _ := EE
    replace hf : Keep _ := hf
    replace nb2 : Keep _ := nb2
    by_cases hrg : 1024 ≤ rg
    · (all_goals (try simp only [S0,putAt,List.replicate,Int.reduceAdd,Int.reduceSub,Int.reduceMul,Int.reduceTDiv,Int.reduceTMod,Int.reduceMod,Int.reduceDiv,Nat.reduceLT,Nat.reduceEqDiff,Int.reduceLE,Int.reduceLT,Int.reduceToNat,Int.reduceNeg,Int.reduceEq,Nat.reduceLeDiff,Nat.reducePow,Int.reducePow,reduceIte,Nat.reduceSub,Nat.reduceAdd,Nat.reduceMul, *])); repeat' ((first | (with_reducible refine fun _ : True => ?_) | (with_reducible refine any_h ?_) | ((first | refine AllocQ_i ?_ | refine AllocO_i ?_); intro bk hb0 hbk; (try simp only [set_none'] at hbk)) | ((first | refine condS_i ?_ ?_ | refine pick_i ?_ ?_ | refine gS_it ?_ ?_ | refine gS_if ?_ ?_ | refine gP_it ?_ ?_ | refine gP_if ?_ ?_) <;> (intro hc; try simp only [Int.reduceLE,Int.reduceLT,Int.reduceEq,Sn] at hc)) | (with_reducible refine KP_i ?_ ?_; · exact aL) | (with_reducible refine And.intro ?_ ?_)) <;> (try simp only [S0,putAt,List.replicate,Int.reduceAdd,Int.reduceSub,Int.reduceMul,Int.reduceTDiv,Int.reduceTMod,Int.reduceMod,Int.reduceDiv,Nat.reduceLT,Nat.reduceEqDiff,Int.reduceLE,Int.reduceLT,Int.reduceToNat,Int.reduceNeg,Int.reduceEq,Nat.reduceLeDiff,Nat.reducePow,Int.reducePow,reduceIte,Nat.reduceSub,Nat.reduceAdd,Nat.reduceMul, *]))
      exact Fin_mk (fun b x e => (show Heap.Le G4 _ from aL) b x (gH4.some e)) h
    · have hrg' : rg < 1024 := by omega
      have hr0 := (below_t (show fitP ⟨st, a1, k1, is.take 300, rg, ab, un, va⟩ ⟨a2, k4, la.take 40, a3, k5, lu.take 40, a4, k6, lv.take 40, co, fr, po, ia, ic, min 4 il⟩ from hf).1.2.2.1).1
      simp only at hr0
      have wr : IntKind.i64.wrap (rg + 1) = rg + 1 := Bw.1 _ (by omega) (by omega)
      (all_goals (try simp only [S0,putAt,List.replicate,Int.reduceAdd,Int.reduceSub,Int.reduceMul,Int.reduceTDiv,Int.reduceTMod,Int.reduceMod,Int.reduceDiv,Nat.reduceLT,Nat.reduceEqDiff,Int.reduceLE,Int.reduceLT,Int.reduceToNat,Int.reduceNeg,Int.reduceEq,Nat.reduceLeDiff,Nat.reducePow,Int.reducePow,reduceIte,Nat.reduceSub,Nat.reduceAdd,Nat.reduceMul, *])); repeat' ((first | (with_reducible refine fun _ : True => ?_) | (with_reducible refine any_h ?_) | ((first | refine AllocQ_i ?_ | refine AllocO_i ?_); intro bk hb0 hbk; (try simp only [set_none'] at hbk)) | ((first | refine condS_i ?_ ?_ | refine pick_i ?_ ?_ | refine gS_it ?_ ?_ | refine gS_if ?_ ?_ | refine gP_it ?_ ?_ | refine gP_if ?_ ?_) <;> (intro hc; try simp only [Int.reduceLE,Int.reduceLT,Int.reduceEq,Sn] at hc)) | (with_reducible refine KP_i ?_ ?_; · exact aL) | (with_reducible refine And.intro ?_ ?_)) <;> (try simp only [S0,putAt,List.replicate,Int.reduceAdd,Int.reduceSub,Int.reduceMul,Int.reduceTDiv,Int.reduceTMod,Int.reduceMod,Int.reduceDiv,Nat.reduceLT,Nat.reduceEqDiff,Int.reduceLE,Int.reduceLT,Int.reduceToNat,Int.reduceNeg,Int.reduceEq,Nat.reduceLeDiff,Nat.reducePow,Int.reducePow,reduceIte,Nat.reduceSub,Nat.reduceAdd,Nat.reduceMul, *]))
      have hbH := gH4.none hbk
      have nbk : b2 ≠ bk := (l2 bk hbk).2
      refine hc_heap fun H5 e5 => ?_
      have gH5 : Grow w0 H H5 := by rw [e5]; exact Grow.set (Grow.set gH4 hb0 hbH) hb2 hn2
      have q5 : H5 bk = some ⟨.t 36, (y.res av).row⟩ := by rw [e5]; unfold Res.row; exact aA
      have D1 : Bld w0 H H5 a1 k1 16 46 (rowsC (is.take 300)) := by rw [e5]; exact (Bld.grow (show Bld w0 H G4 a1 k1 16 46 _ from C1) (Grow.set (Grow.refl _) hb0 hbk)).turn (y := ⟨.t 24, _⟩) (by rw [Heap.set_other _ _ nbk]; exact q2) (fun e => by cases e)
      have D2 : Bld w0 H H5 a2 k4 4 28 (rowsV (la.take 40)) := by rw [e5]; exact (Bld.grow (show Bld w0 H G4 a2 k4 4 28 _ from C2) (Grow.set (Grow.refl _) hb0 hbk)).turn (y := ⟨.t 24, _⟩) (by rw [Heap.set_other _ _ nbk]; exact q2) (fun e => by cases e)
      have D3 : Bld w0 H H5 a3 k5 4 28 (rowsV (lu.take 40)) := by rw [e5]; exact (Bld.grow (show Bld w0 H G4 a3 k5 4 28 _ from C3) (Grow.set (Grow.refl _) hb0 hbk)).turn (y := ⟨.t 24, _⟩) (by rw [Heap.set_other _ _ nbk]; exact q2) (fun e => by cases e)
      have D4 : Bld w0 H H5 a4 k6 4 28 (rowsV (lv.take 40)) := by rw [e5]; exact (Bld.grow (show Bld w0 H G4 a4 k6 4 28 _ from C4) (Grow.set (Grow.refl _) hb0 hbk)).turn (y := ⟨.t 24, _⟩) (by rw [Heap.set_other _ _ nbk]; exact q2) (fun e => by cases e)
      have EE5 : CE w0 H5 ⟨st, a1, k1, is.take 300, rg, ab, un, va⟩ ⟨a2, k4, la.take 40, a3, k5, lu.take 40, a4, k6, lv.take 40, co, fr, po, ia, ic, min 4 il⟩ (ims.take 4) := cut_ce (show CE w0 H _ _ ims from E) gH5 D1.slAt hk1 D2.slAt D3.slAt D4.slAt
      have EE6 : CE w0 H5 ⟨st, a1, k1, is.take 300, rg + 1, ab, un, va⟩ ⟨a2, k4, la.take 40, a3, k5, lu.take 40, a4, k6, lv.take 40, co, fr, po, ia, ic, min 4 il⟩ (ims.take 4) := ⟨⟨EE5.cA.at_, EE5.cA.lm, EE5.cA.lc⟩, EE5.eA, EE5.iA, EE5.eI, EE5.cI⟩
      have hA5 : ResAt w0 H5 (y.res av) := by rw [e5]; exact res_other (ResAt.grow (show ResAt w0 G4 (y.res av) from hA) (Grow.set (Grow.refl _) hb0 hbk)) nb2
      have ff : fitP ⟨st, a1, k1, is.take 300, rg, ab, un, va⟩ ⟨a2, k4, la.take 40, a3, k5, lu.take 40, a4, k6, lv.take 40, co, fr, po, ia, ic, min 4 il⟩ := hf
      refine c_Run_ok ⟨st, a1, k1, is.take 300, rg + 1, ab, un, va⟩ ⟨a2, k4, la.take 40, a3, k5, lu.take 40, a4, k6, lv.take 40, co, fr, po, ia, ic, min 4 il⟩ (ims.take 4) EE6 (fit_more ff hrg') (fun G6 av2 ps2 y2 hR2 hA2 g6 _ => ?_)
      have ey : y2 = y := run_more ff EE5.cI (show RunC _ _ ⟨st, a1, k1, is.take 300, rg, ab, un, va⟩ ps y from hR) hR2
      rw [ey] at hA2 ⊢
      have cS := fun (G : Heap) (K' : Value → Heap → Prop) (g : Grow w0 G6 G) (hk : K' (.bool true) G) => c_SameR (K := K') (y.res av) (y.res av2) ((hA5.grow g6).grow g) (hA2.grow g) (by rw [res_same]; simpa using hk)
      have q6 := g6.some q5
      have gH6 := gH5.trans g6
      have j6 := blkn q6
      unfold Res.v Res.row at cS
      unfold Res.v Res.row
      have v6 : rdn w0 G6 bk 0 11 = some (y.res av).row := by unfold rdn; rw [q6]; rfl
      unfold Res.row at v6
      clear hA hA2 hA5 D1 D2 D3 D4 C1 C2 C3 C4 EE EE5 EE6 hR hR2 hf ff q5 q6 l2 l3 v2 v3 q2 q3 E g6 g4 e5 nb2
      replace cS : Keep _ := cS
      (all_goals (try simp only [S0,putAt,List.replicate,Int.reduceAdd,Int.reduceSub,Int.reduceMul,Int.reduceTDiv,Int.reduceTMod,Int.reduceMod,Int.reduceDiv,Nat.reduceLT,Nat.reduceEqDiff,Int.reduceLE,Int.reduceLT,Int.reduceToNat,Int.reduceNeg,Int.reduceEq,Nat.reduceLeDiff,Nat.reducePow,Int.reducePow,reduceIte,Nat.reduceSub,Nat.reduceAdd,Nat.reduceMul, *])); repeat' ((first | (with_reducible refine fun _ : True => ?_) | refine cS _ _ aG ?_ | (with_reducible refine any_h ?_) | ((first | refine AllocQ_i ?_ | refine AllocO_i ?_); intro bk hb0 hbk; (try simp only [set_none'] at hbk)) | ((first | refine condS_i ?_ ?_ | refine pick_i ?_ ?_ | refine gS_it ?_ ?_ | refine gS_if ?_ ?_ | refine gP_it ?_ ?_ | refine gP_if ?_ ?_) <;> (intro hc; try simp only [Int.reduceLE,Int.reduceLT,Int.reduceEq,Sn] at hc)) | (with_reducible refine KP_i ?_ ?_; · exact aL) | (with_reducible refine And.intro ?_ ?_)) <;> (try simp only [S0,putAt,List.replicate,Int.reduceAdd,Int.reduceSub,Int.reduceMul,Int.reduceTDiv,Int.reduceTMod,Int.reduceMod,Int.reduceDiv,Nat.reduceLT,Nat.reduceEqDiff,Int.reduceLE,Int.reduceLT,Int.reduceToNat,Int.reduceNeg,Int.reduceEq,Nat.reduceLeDiff,Nat.reducePow,Int.reducePow,reduceIte,Nat.reduceSub,Nat.reduceAdd,Nat.reduceMul, *]))
      exact Fin_mk (fun b x e => (show Heap.Le G6 _ from aL) b x (gH6.some e)) h
end Go.Proofs.YtdmnfaefakceiaaGreat
end
section
/- Codes and surroundings as arguments (layer 18). -/
set_option linter.unusedSimpArgs false
set_option linter.unusedVariables false
set_option maxRecDepth 100000
namespace Go.Proofs.YtdmnfaefakceiaaGreat
open Go.HL Go.RowKit Go.ChangeShapes Go.WideShapes Pb

def InsW (i : Ins) : Prop := I32 i.m0 ∧ I32 i.m1 ∧ I32 i.m2 ∧ I32 i.m3
theorem len4c {l : List Value} (h : l.length = 4) : ∃ a b c d, l = [a, b, c, d] := by
  match l, h with
  | [a, b, c, d], _ => exact ⟨a, b, c, d, rfl⟩
theorem len6c {l : List Value} (h : l.length = 6) : ∃ a b c d e f, l = [a, b, c, d, e, f] := by
  match l, h with
  | [a, b, c, d, e, f], _ => exact ⟨a, b, c, d, e, f, rfl⟩
theorem len16c {l : List Value} (h : l.length = 16) : ∃ a0 a1 a2 a3 a4 a5 a6 a7 a8 a9 b0 b1 b2 b3 b4 b5, l = [a0, a1, a2, a3, a4, a5, a6, a7, a8, a9, b0, b1, b2, b3, b4, b5] := by
  match l, h with
  | [a0, a1, a2, a3, a4, a5, a6, a7, a8, a9, b0, b1, b2, b3, b4, b5], _ => exact ⟨_, _, _, _, _, _, _, _, _, _, _, _, _, _, _, _, rfl⟩
theorem len13c {l : List Value} (h : l.length = 13) : ∃ a0 a1 a2 a3 a4 a5 a6 a7 a8 a9 b0 b1 b2, l = [a0, a1, a2, a3, a4, a5, a6, a7, a8, a9, b0, b1, b2] := by
  match l, h with
  | [a0, a1, a2, a3, a4, a5, a6, a7, a8, a9, b0, b1, b2], _ => exact ⟨_, _, _, _, _, _, _, _, _, _, _, _, _, rfl⟩
section
variable {W : World}
theorem open_arr4 {k : IntKind} {D : Nat} {t e : TypeId} {cs : List Value} (hu : Tryz.prog.underlying t = some (.array 4 e)) (hc : Tryz.prog.cellsOf t = 4) (he : Tryz.prog.cellsOf e = 1) (hi : Tryz.prog.underlying e = some (.int k)) (h : Arg Tryz.prog W (D + 2) t cs) : ∃ a b c d, cs = [.int k a, .int k b, .int k c, .int k d] ∧
    (Lit.int k a).wf = true ∧ (Lit.int k b).wf = true ∧ (Lit.int k c).wf = true ∧ (Lit.int k d).wf = true := by
  obtain ⟨hl, hh⟩ := arg_arr h hu he
  rw [hc] at hl
  obtain ⟨c0, c1, c2, c3, rfl⟩ := len4c hl
  obtain ⟨n0, e0, q0⟩ := arg_int (hh 0 (by omega)) hi
  obtain ⟨n1, e1, q1⟩ := arg_int (hh 1 (by omega)) hi
  obtain ⟨n2, e2, q2⟩ := arg_int (hh 2 (by omega)) hi
  obtain ⟨n3, e3, q3⟩ := arg_int (hh 3 (by omega)) hi
  simp at e0 e1 e2 e3
  subst e0 e1 e2 e3
  exact ⟨n0, n1, n2, n3, rfl, q0, q1, q2, q3⟩
theorem open_ins {D : Nat} {cs : List Value} (h : Arg Tryz.prog W (D + 4) 46 cs) : ∃ x : Ins, cs = x.row ∧ InsW x := by
  have hl := arg_len (n := 16) h 0 (by kernel_rfl) (by kernel_rfl)
  obtain ⟨a0, a1, a2, a3, a4, a5, a6, a7, a8, a9, b0, b1, b2, b3, b4, b5, rfl⟩ := len16c hl
  have f0 := arg_fld (ft := 3) h (i := 0) (off := 0) (n := 1) (by kernel_rfl) (by kernel_rfl); obtain ⟨n0, e0, q0⟩ := arg_int (k := .i64) f0 (by kernel_rfl); have f1 := arg_fld (ft := 3) h (i := 1) (off := 1) (n := 1) (by kernel_rfl) (by kernel_rfl); obtain ⟨n1, e1, q1⟩ := arg_int (k := .i64) f1 (by kernel_rfl); have f2 := arg_fld (ft := 3) h (i := 2) (off := 2) (n := 1) (by kernel_rfl) (by kernel_rfl); obtain ⟨n2, e2, q2⟩ := arg_int (k := .i64) f2 (by kernel_rfl); have f3 := arg_fld (ft := 3) h (i := 3) (off := 3) (n := 1) (by kernel_rfl) (by kernel_rfl); obtain ⟨n3, e3, q3⟩ := arg_int (k := .i64) f3 (by kernel_rfl); have f4 := arg_fld (ft := 3) h (i := 4) (off := 4) (n := 1) (by kernel_rfl) (by kernel_rfl); obtain ⟨n4, e4, q4⟩ := arg_int (k := .i64) f4 (by kernel_rfl); have f5 := arg_fld (ft := 3) h (i := 5) (off := 5) (n := 1) (by kernel_rfl) (by kernel_rfl); obtain ⟨n5, e5, q5⟩ := arg_int (k := .i64) f5 (by kernel_rfl); have f6 := arg_fld (ft := 3) h (i := 6) (off := 6) (n := 1) (by kernel_rfl) (by kernel_rfl); obtain ⟨n6, e6, q6⟩ := arg_int (k := .i64) f6 (by kernel_rfl); have f7 := arg_fld (ft := 3) h (i := 7) (off := 7) (n := 1) (by kernel_rfl) (by kernel_rfl); obtain ⟨n7, e7, q7⟩ := arg_int (k := .i64) f7 (by kernel_rfl); have f8 := arg_fld (ft := 28) h (i := 8) (off := 8) (n := 4) (by kernel_rfl) (by kernel_rfl); have f9 := arg_fld (ft := 44) h (i := 9) (off := 12) (n := 4) (by kernel_rfl) (by kernel_rfl)
  obtain ⟨i0, i1, i2, i3, eI, w0, w1, w2, w3⟩ := open_arr4 (k := .i32) (e := 26) (by kernel_rfl) (by kernel_rfl) (by kernel_rfl) (by kernel_rfl) f8
  obtain ⟨p0, p1, p2, p3, eP, -, -, -, -⟩ := open_arr4 (k := .i64) (e := 3) (by kernel_rfl) (by kernel_rfl) (by kernel_rfl) (by kernel_rfl) f9
  simp at e0 e1 e2 e3 e4 e5 e6 e7 eI eP
  obtain ⟨rfl, rfl, rfl, rfl⟩ := eI
  obtain ⟨rfl, rfl, rfl, rfl⟩ := eP
  subst e0 e1 e2 e3 e4 e5 e6 e7
  exact ⟨⟨n0, n1, n2, n3, n4, n5, n6, n7, i0, i1, i2, i3, p0, p1, p2, p3⟩, rfl, bounds_i32 w0, bounds_i32 w1, bounds_i32 w2, bounds_i32 w3⟩
theorem open_code {r : Reach} {b : Nat} {v : Value} (hv : Value.okWide Tryz.prog W r b 24 v) (h : Arg Tryz.prog W 8 24 v.cells.toList) : ∃ x : Cd, v = x.v ∧ (CdAt W (fun _ => none) x ∧ CdI x) := by
  obtain ⟨cs, rfl⟩ := okWide_agg (by kernel_rfl) hv
  rw [cells_agg] at h
  have hl := arg_len (n := 6) h 0 (by kernel_rfl) (by kernel_rfl)
  obtain ⟨c0, c1, c2, c3, c4, c5, rfl⟩ := len6c hl
  have f0 := arg_fld (ft := 3) h (i := 0) (off := 0) (n := 1) (by kernel_rfl) (by kernel_rfl); obtain ⟨n0, e0, q0⟩ := arg_int (k := .i64) f0 (by kernel_rfl); have f1 := arg_fld (ft := 22) h (i := 1) (off := 1) (n := 1) (by kernel_rfl) (by kernel_rfl); obtain ⟨a1, cap1, rows1, e1, lc1, lm1, lb1, ln1, lr1, ls1⟩ := open_rows (e := 46) (sz := 16) (by kernel_rfl) (by kernel_rfl) (by decide) f1; have f2 := arg_fld (ft := 3) h (i := 2) (off := 2) (n := 1) (by kernel_rfl) (by kernel_rfl); obtain ⟨n2, e2, q2⟩ := arg_int (k := .i64) f2 (by kernel_rfl); have f3 := arg_fld (ft := 3) h (i := 3) (off := 3) (n := 1) (by kernel_rfl) (by kernel_rfl); obtain ⟨n3, e3, q3⟩ := arg_int (k := .i64) f3 (by kernel_rfl); have f4 := arg_fld (ft := 3) h (i := 4) (off := 4) (n := 1) (by kernel_rfl) (by kernel_rfl); obtain ⟨n4, e4, q4⟩ := arg_int (k := .i64) f4 (by kernel_rfl); have f5 := arg_fld (ft := 3) h (i := 5) (off := 5) (n := 1) (by kernel_rfl) (by kernel_rfl); obtain ⟨n5, e5, q5⟩ := arg_int (k := .i64) f5 (by kernel_rfl)
  obtain ⟨ls, rfl, hls⟩ := map_of (f := Ins.row) (q := InsW) rows1 fun y hy => open_ins (D := 2) (lr1 y hy).2
  simp at e0 e1 e2 e3 e4 e5
  subst e0 e2 e3 e4 e5
  exact ⟨⟨n0, a1, cap1, ls, n2, n3, n4, n5⟩, by rw [e1]; rfl, ⟨ls1, by simpa using lm1, by simpa using lc1⟩, hls⟩
theorem open_v4 {D : Nat} {t e : TypeId} {cs : List Value} (hu : Tryz.prog.underlying t = some (.array 4 e)) (hc : Tryz.prog.cellsOf t = 4) (he : Tryz.prog.cellsOf e = 1) (hi : Tryz.prog.underlying e = some (.int .i32)) (h : Arg Tryz.prog W (D + 2) t cs) : ∃ x : V4, cs = x.row ∧ I32 x.a ∧ I32 x.b ∧ I32 x.c ∧ I32 x.d := by
  obtain ⟨hl, hh⟩ := arg_arr h hu he
  rw [hc] at hl
  obtain ⟨c0, c1, c2, c3, rfl⟩ := len4c hl
  obtain ⟨n0, e0, q0⟩ := arg_int (hh 0 (by omega)) hi
  obtain ⟨n1, e1, q1⟩ := arg_int (hh 1 (by omega)) hi
  obtain ⟨n2, e2, q2⟩ := arg_int (hh 2 (by omega)) hi
  obtain ⟨n3, e3, q3⟩ := arg_int (hh 3 (by omega)) hi
  simp at e0 e1 e2 e3
  subst e0 e1 e2 e3
  exact ⟨⟨n0, n1, n2, n3⟩, rfl, bounds_i32 q0, bounds_i32 q1, bounds_i32 q2, bounds_i32 q3⟩
theorem open_im {D : Nat} {cs : List Value} (h : Arg Tryz.prog W (D + 6) 134 cs) : ∃ x : Sm.Im, cs = imRow x ∧ Sm.ImOk W (fun _ => none) x := by
  have hl := arg_len (n := 6) h 0 (by kernel_rfl) (by kernel_rfl)
  obtain ⟨c0, c1, c2, c3, c4, c5, rfl⟩ := len6c hl
  have f0 := arg_fld (ft := 3) h (i := 0) (off := 0) (n := 1) (by kernel_rfl) (by kernel_rfl); obtain ⟨n0, e0, q0⟩ := arg_int (k := .i64) f0 (by kernel_rfl); have f1 := arg_fld (ft := 132) h (i := 1) (off := 1) (n := 1) (by kernel_rfl) (by kernel_rfl); obtain ⟨a1, cap1, rows1, e1, lc1, lm1, lb1, ln1, lr1, ls1⟩ := open_rows (e := 156) (sz := 3) (by kernel_rfl) (by kernel_rfl) (by decide) f1; have f2 := arg_fld (ft := 3) h (i := 2) (off := 2) (n := 1) (by kernel_rfl) (by kernel_rfl); obtain ⟨n2, e2, q2⟩ := arg_int (k := .i64) f2 (by kernel_rfl); have f3 := arg_fld (ft := 3) h (i := 3) (off := 3) (n := 1) (by kernel_rfl) (by kernel_rfl); obtain ⟨n3, e3, q3⟩ := arg_int (k := .i64) f3 (by kernel_rfl); have f4 := arg_fld (ft := 3) h (i := 4) (off := 4) (n := 1) (by kernel_rfl) (by kernel_rfl); obtain ⟨n4, e4, q4⟩ := arg_int (k := .i64) f4 (by kernel_rfl); have f5 := arg_fld (ft := 3) h (i := 5) (off := 5) (n := 1) (by kernel_rfl) (by kernel_rfl); obtain ⟨n5, e5, q5⟩ := arg_int (k := .i64) f5 (by kernel_rfl)
  obtain ⟨ls, rfl, hls⟩ := map_of (f := Sm.LvR.row) (q := Sm.LvOk W (fun _ => none)) rows1 fun y hy => Sm.open_lv (D := D + 1) (lr1 y hy).2
  have hlr : ls.length * 40 ≤ 140737488355328 := by rw [show Tryz.prog.bytesOf 156 = 40 by kernel_rfl, List.length_map] at lb1; exact Nat.le_trans lb1 (by decide)
  simp at e0 e1 e2 e3 e4 e5
  subst e0 e2 e3 e4 e5
  refine ⟨⟨n0, a1, cap1, ls, n2, n3, n4, n5⟩, by rw [e1]; rfl, ⟨ls1, hls, by simpa using lc1, by simpa using lm1, hlr, Sm.i64_wf q0, Sm.i64_wf q2, Sm.i64_wf q3, Sm.i64_wf q4, Sm.i64_wf q5⟩⟩
theorem open_env {r : Reach} {b : Nat} {v : Value} (hv : Value.okWide Tryz.prog W r b 31 v) (h : Arg Tryz.prog W 8 31 v.cells.toList) :
    ∃ x : Evr × List Sm.Im, v = x.1.v ∧ EvAt W (fun _ => none) x.1 ∧ ImgAt W (fun _ => none) x.1 x.2 ∧ EvI x.1 ∧ EvL x.1 := by
  obtain ⟨cs, rfl⟩ := okWide_agg (by kernel_rfl) hv
  rw [cells_agg] at h
  have hl := arg_len (n := 13) h 0 (by kernel_rfl) (by kernel_rfl)
  obtain ⟨a0, a1, a2, a3, a4, a5, a6, a7, a8, a9, b0, b1, b2, rfl⟩ := len13c hl
  have f0 := arg_fld (ft := 25) h (i := 0) (off := 0) (n := 1) (by kernel_rfl) (by kernel_rfl); obtain ⟨a0, cap0, rows0, e0, lc0, lm0, lb0, ln0, lr0, ls0⟩ := open_rows (e := 28) (sz := 4) (by kernel_rfl) (by kernel_rfl) (by decide) f0; have f1 := arg_fld (ft := 25) h (i := 1) (off := 1) (n := 1) (by kernel_rfl) (by kernel_rfl); obtain ⟨a1, cap1, rows1, e1, lc1, lm1, lb1, ln1, lr1, ls1⟩ := open_rows (e := 28) (sz := 4) (by kernel_rfl) (by kernel_rfl) (by decide) f1; have f2 := arg_fld (ft := 25) h (i := 2) (off := 2) (n := 1) (by kernel_rfl) (by kernel_rfl); obtain ⟨a2, cap2, rows2, e2, lc2, lm2, lb2, ln2, lr2, ls2⟩ := open_rows (e := 28) (sz := 4) (by kernel_rfl) (by kernel_rfl) (by decide) f2; have f3 := arg_fld (ft := 28) h (i := 3) (off := 3) (n := 4) (by kernel_rfl) (by kernel_rfl); have f4 := arg_fld (ft := 4) h (i := 4) (off := 7) (n := 1) (by kernel_rfl) (by kernel_rfl); obtain ⟨n4, e4⟩ := arg_bool f4 (by kernel_rfl); have f5 := arg_fld (ft := 28) h (i := 5) (off := 8) (n := 4) (by kernel_rfl) (by kernel_rfl); have f6 := arg_fld (ft := 29) h (i := 6) (off := 12) (n := 1) (by kernel_rfl) (by kernel_rfl); obtain ⟨a6, cap6, rows6, e6, lc6, lm6, lb6, ln6, lr6, ls6⟩ := open_rows (e := 134) (sz := 6) (by kernel_rfl) (by kernel_rfl) (by decide) f6
  have hv4 : ∀ cs, Arg Tryz.prog W 6 28 cs → ∃ x : V4, cs = x.row ∧ x.I := fun cs h => by
    obtain ⟨x, e, i0, i1, i2, i3⟩ := open_v4 (D := 4) (e := 26) (by kernel_rfl) (by kernel_rfl) (by kernel_rfl) (by kernel_rfl) h
    exact ⟨x, e, i0, i1, i2, i3⟩
  obtain ⟨la, rfl, hla⟩ := map_of (f := V4.row) (q := V4.I) rows0 fun y hy => hv4 y (lr0 y hy).2
  obtain ⟨lu, rfl, hlu⟩ := map_of (f := V4.row) (q := V4.I) rows1 fun y hy => hv4 y (lr1 y hy).2
  obtain ⟨lv, rfl, hlv⟩ := map_of (f := V4.row) (q := V4.I) rows2 fun y hy => hv4 y (lr2 y hy).2
  obtain ⟨ims, rfl, him⟩ := map_of (f := imRow) (q := Sm.ImOk W (fun _ => none)) rows6 fun y hy => open_im (D := 0) (lr6 y hy).2
  obtain ⟨x3, e3, i30, i31, i32, i33⟩ := open_v4 (D := 5) (e := 26) (by kernel_rfl) (by kernel_rfl) (by kernel_rfl) (by kernel_rfl) f3
  obtain ⟨x5, e5, i50, i51, i52, i53⟩ := open_v4 (D := 5) (e := 26) (by kernel_rfl) (by kernel_rfl) (by kernel_rfl) (by kernel_rfl) f5
  unfold V4.row at e3 e5
  simp at e0 e1 e2 e3 e4 e5 e6
  obtain ⟨rfl, rfl, rfl, rfl⟩ := e3
  obtain ⟨rfl, rfl, rfl, rfl⟩ := e5
  subst e4
  simp only [List.length_map] at lc0 lc1 lc2 lc6
  refine ⟨(⟨a0, cap0, la, a1, cap1, lu, a2, cap2, lv, x3, n4, x5, a6, cap6, ims.length⟩, ims), by rw [e0, e1, e2, e6]; rfl, ⟨ls0, ls1, ls2⟩, ⟨rfl, ls6, him⟩, ⟨hla, hlu, hlv, ⟨i30, i31, i32, i33⟩, ⟨i50, i51, i52, i53⟩⟩, ⟨lc0, lc1, lc2, lc6⟩⟩
end
end Go.Proofs.YtdmnfaefakceiaaGreat
end
