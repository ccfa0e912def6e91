/- Whether a code may be, by the document (layer 16). -/
import Derived.Test.YtndgmnmnpfblmaaCrr
set_option linter.unusedSimpArgs false
set_option linter.unusedVariables false
set_option maxRecDepth 100000
set_option maxHeartbeats 4000000
namespace Go.Proofs.Ytndgmnmnpfblmaa
open Go.HL Go.RowKit Pb
variable {w0 : World} {H : Heap} {K : Value → Heap → Prop}

/- paintboxref16 May -/
def M37 : MC :=
  .seq (.reg [⟨(some 1), .box 34 (.tmp 0), none⟩,
 ⟨(some 2), .mv (.const (.bool false)), none⟩])
 (.seq (.reg [⟨(some 5), .fa 1 (.tmp 1), none⟩,
 ⟨(some 6), .ld1 (.tmp 5), none⟩,
 ⟨(some 7), .len (.tmp 6), none⟩,
 ⟨(some 3), .mv (.tmp 7), none⟩])
 (.seq (.seq (.reg [⟨(some 8), .fa 0 (.tmp 1), none⟩,
 ⟨(some 9), .ld1 (.tmp 8), none⟩,
 ⟨(some 10), .bin .neq (.tmp 9) (.const (.int .i64 1)), none⟩,
 ⟨(some 11), .mv (.tmp 10), none⟩,
 ⟨(some 12), .fa 0 (.tmp 1), (some (11, true))⟩,
 ⟨(some 13), .ld1 (.tmp 12), (some (11, true))⟩,
 ⟨(some 14), .bin .neq (.tmp 13) (.const (.int .i64 2)), (some (11, true))⟩,
 ⟨(some 15), .pick (.tmp 11) (.tmp 14) (.const (.bool false)), none⟩,
 ⟨(some 16), .mv (.tmp 15), none⟩,
 ⟨(some 17), .mv (.tmp 3), (some (16, false))⟩,
 ⟨(some 18), .bin .gtr (.tmp 17) (.const (.int .i64 4096)), (some (16, false))⟩,
 ⟨(some 19), .pick (.tmp 16) (.const (.bool true)) (.tmp 18), none⟩,
 ⟨(some 20), .mv (.tmp 19), none⟩,
 ⟨(some 21), .fa 2 (.tmp 1), (some (20, false))⟩,
 ⟨(some 22), .ld1 (.tmp 21), (some (20, false))⟩,
 ⟨(some 23), .call 51 [(.tmp 22), (.const (.int .i64 1025))], (some (20, false))⟩,
 ⟨(some 24), .un .not (.tmp 23), (some (20, false))⟩,
 ⟨(some 25), .pick (.tmp 20) (.const (.bool true)) (.tmp 24), none⟩,
 ⟨(some 26), .mv (.tmp 25), none⟩,
 ⟨(some 27), .fa 3 (.tmp 1), (some (26, false))⟩,
 ⟨(some 28), .ld1 (.tmp 27), (some (26, false))⟩,
 ⟨(some 29), .call 51 [(.tmp 28), (.const (.int .i64 9))], (some (26, false))⟩,
 ⟨(some 30), .un .not (.tmp 29), (some (26, false))⟩,
 ⟨(some 31), .pick (.tmp 26) (.const (.bool true)) (.tmp 30), none⟩,
 ⟨(some 32), .mv (.tmp 31), none⟩,
 ⟨(some 33), .fa 4 (.tmp 1), (some (32, false))⟩,
 ⟨(some 34), .ld1 (.tmp 33), (some (32, false))⟩,
 ⟨(some 35), .call 51 [(.tmp 34), (.const (.int .i64 33))], (some (32, false))⟩,
 ⟨(some 36), .un .not (.tmp 35), (some (32, false))⟩,
 ⟨(some 37), .pick (.tmp 32) (.const (.bool true)) (.tmp 36), none⟩,
 ⟨(some 38), .mv (.tmp 37), none⟩,
 ⟨(some 39), .fa 5 (.tmp 1), (some (38, false))⟩,
 ⟨(some 40), .ld1 (.tmp 39), (some (38, false))⟩,
 ⟨(some 41), .call 51 [(.tmp 40), (.const (.int .i64 5))], (some (38, false))⟩,
 ⟨(some 42), .un .not (.tmp 41), (some (38, false))⟩,
 ⟨(some 43), .pick (.tmp 38) (.const (.bool true)) (.tmp 42), none⟩,
 ⟨(some 44), .mv (.tmp 43), none⟩,
 ⟨(some 45), .fa 0 (.tmp 1), (some (44, false))⟩,
 ⟨(some 46), .ld1 (.tmp 45), (some (44, false))⟩,
 ⟨(some 47), .bin .eql (.tmp 46) (.const (.int .i64 2)), (some (44, false))⟩,
 ⟨(some 48), .mv (.tmp 47), (some (44, false))⟩,
 ⟨(some 49), .fa 3 (.tmp 1), (some (48, true))⟩,
 ⟨(some 50), .ld1 (.tmp 49), (some (48, true))⟩,
 ⟨(some 51), .bin .neq (.tmp 50) (.const (.int .i64 0)), (some (48, true))⟩,
 ⟨(some 52), .pick (.tmp 48) (.tmp 51) (.const (.bool false)), (some (44, false))⟩,
 ⟨(some 53), .pick (.tmp 44) (.const (.bool true)) (.tmp 52), none⟩])
 (.cond (.tmp 53)
 (.seq (.reg [⟨(some 2), .mv (.const (.bool false)), none⟩])
 (.ret))
 (.skip)))
 (.seq (.seq (.reg [⟨(some 54), .fa 1 (.tmp 1), none⟩,
 ⟨(some 55), .ld1 (.tmp 54), none⟩,
 ⟨(some 56), .len (.tmp 55), none⟩,
 ⟨(some 57), .mv (.const (.int .i64 0)), none⟩])
 (.block 0 (.loop (.seq (.reg [⟨(some 58), .bin .lss (.tmp 57) (.tmp 56), none⟩])
 (.seq (.cond (.tmp 58)
 (.skip)
 (.exit 0))
 (.seq (.block 1 (.seq (.reg [⟨(some 59), .mv (.tmp 57), none⟩,
 ⟨(some 4), .mv (.tmp 59), none⟩])
 (.seq (.reg [⟨(some 60), .ldn 6 (.tmp 1), none⟩,
 ⟨(some 61), .mv (.tmp 4), none⟩,
 ⟨(some 62), .call 52 [(.tmp 60), (.tmp 61)], none⟩,
 ⟨(some 63), .un .not (.tmp 62), none⟩])
 (.cond (.tmp 63)
 (.seq (.reg [⟨(some 2), .mv (.const (.bool false)), none⟩])
 (.ret))
 (.skip)))))
 (.reg [⟨(some 64), .bin .add (.tmp 57) (.const (.int .i64 1)), none⟩,
 ⟨(some 57), .mv (.tmp 64), none⟩])))))))
 (.seq (.reg [⟨(some 2), .mv (.const (.bool true)), none⟩])
 (.ret)))))
theorem k37 : fnOk Try.prog 37 = some (M37, [.t 2], 65) := by kernel_rfl

theorem r_May (c : Cd) (hc : CdAt w0 H c) (hy : mayP c → K (.bool true) H) (hn : ¬ mayP c → K (.bool false) H) : HCalls Try.prog w0 37 [c.v] H K := by
  replace hy : mayP c → HL.Fin K (.bool true) H := fun h => Fin_mk (Heap.Le.refl _) (hy h)
  replace hn : ¬ mayP c → HL.Fin K (.bool false) H := fun h => Fin_mk (Heap.Le.refl _) (hn h)
  have hR := fun (G : Heap) (K : Value → Heap → Prop) (k : Nat) (i : Ins) (g : Grow w0 H G) (hk : c.is[k]? = some i) => r_Right (K := K) c k i (hc.grow g) hk
  have hm := hc.lm
  unfold mayP at hy hn
  unfold maxLen at hm
  have okl : ∀ (k : Nat) (i : Ins), rightB c k i = true ↔ okI c k i := fun k i => rightB_iff
  obtain ⟨st, adr, cap, is, rg, ab, un, va⟩ := c
  unfold Cd.v at hR ⊢
  simp only at hR hm hy hn okl
  obtain ⟨ok, eok⟩ : ∃ f, okI ⟨st, adr, cap, is, rg, ab, un, va⟩ = f := ⟨_, rfl⟩
  obtain ⟨lg, elg⟩ : ∃ f, rightB ⟨st, adr, cap, is, rg, ab, un, va⟩ = f := ⟨_, rfl⟩
  simp only [eok, elg] at hy hn okl hR
  clear eok elg
  clear hc
  obtain ⟨len, el⟩ : ∃ l, is.length = l := ⟨_, rfl⟩
  rw [el] at hm
  simp only [el] at hR hy hn ⊢
  replace hR : Keep _ := hR
  replace okl : Keep _ := okl
  replace el : Keep _ := el
  by_cases h0 : (st = 1 ∨ st = 2) ∧ len ≤ 4096 ∧ below rg 1025 = true ∧ below ab (if st = 1 then 9 else 1) = true ∧ below un 33 = true ∧ below va 5 = true
  · replace hy : (∀ k i, is[k]? = some i → ok k i) → HL.Fin K (.bool true) H := fun hall => hy ⟨h0.1, h0.2.1, h0.2.2.1, h0.2.2.2.1, h0.2.2.2.2.1, h0.2.2.2.2.2, hall⟩
    replace hn : ∀ k i, is[k]? = some i → ¬ ok k i → HL.Fin K (.bool false) H := fun k i hk hno => hn fun h => hno (h.2.2.2.2.2.2 k i hk)
    obtain ⟨h1, h2, h3, h4, h5, h6⟩ := h0
    have q1 : ¬ 4096 < (len : Int) := by omega
    have q4 : below ab 9 = true ∧ (st = 2 → ab = 0) := by
      unfold below at h4 ⊢
      simp only [decide_eq_true_eq] at h4 ⊢
      rcases h1 with rfl | rfl
      · simp only [if_true] at h4; omega
      · rw [if_neg (by omega)] at h4; omega
    obtain ⟨q5, q6⟩ := q4
    clear h2 h4
    replace hy : Keep _ := hy
    replace hn : Keep _ := hn
    rcases h1 with rfl | rfl
    rotate_left
    obtain rfl : ab = 0 := q6 rfl
    all_goals
      clear q6
      refine HL.hc k37 999 ?_; unfold M37
      (all_goals (try simp only [Sq,Sr,Sh,Si,Sl,Bu,Bb,Bd,Bc,Bw,Bn,Int.reduceAdd,Int.reduceSub,Int.reduceMul,Int.reduceTDiv,Int.reduceTMod,Int.reduceMod,Int.reduceDiv,Nat.reduceLT,Nat.reduceEqDiff,Sa,Sb,Sc,Sd,Se,Sf,Sg,Int.reduceLE,Int.reduceLT,Int.reduceToNat,Int.reduceNeg,Int.reduceEq,Nat.reduceLeDiff,Nat.reducePow,Int.reducePow,reduceIte,Nat.reduceSub,Nat.reduceAdd,Nat.reduceMul,putAt,ceq,List.replicate, *])); repeat' ((first | (with_reducible refine fun _ : True => ?_) | refine r_in _ _ ?_ | (with_reducible refine any_h ?_) | ((first | refine AllocQ_i ?_ | refine AllocO_i ?_); intro bk hb0 hbk; (try simp only [set_none'] at hbk)) | ((first | refine condS_i ?_ ?_ | refine pick_i ?_ ?_ | refine gS_it ?_ ?_ | refine gS_if ?_ ?_ | refine gP_it ?_ ?_ | refine gP_if ?_ ?_) <;> (intro hc; try simp only [Int.reduceLE,Int.reduceLT,Int.reduceEq,Sn] at hc)) | (with_reducible refine And.intro ?_ ?_)) <;> (try simp only [Sq,Sr,Sh,Si,Sl,Bu,Bb,Bd,Bc,Bw,Bn,Int.reduceAdd,Int.reduceSub,Int.reduceMul,Int.reduceTDiv,Int.reduceTMod,Int.reduceMod,Int.reduceDiv,Nat.reduceLT,Nat.reduceEqDiff,Sa,Sb,Sc,Sd,Se,Sf,Sg,Int.reduceLE,Int.reduceLT,Int.reduceToNat,Int.reduceNeg,Int.reduceEq,Nat.reduceLeDiff,Nat.reducePow,Int.reducePow,reduceIte,Nat.reduceSub,Nat.reduceAdd,Nat.reduceMul,putAt,ceq,List.replicate, *]))
      refine loopq_heap ?_
      intro H0 eH
      have k0 : H0 bk = some _ := at_of eH (Heap.set_same _ _ _)
      have g0 : Grow w0 H H0 := by rw [eH]; exact (by (repeat' (first | exact Grow.refl _ | assumption | (refine Grow.set ?_ (by assumption) (by first | exact (by simp only [*]) | exact (by simp [set_none', *]) | exact Grow.none (by assumption) (by simp [set_none', *]))) | (refine Grow.trans ?_ (by assumption)))))
      have l0 : Heap.Le H H0 := g0.le
      have hrd := rdn_blk (w0 := w0) (n := 6) k0 rfl (by omega)
      clear eH hbk hb0 k0
      refine loop_g 58 (fun s : Nat × Value => [(4, s.2), (57, .int .i64 (s.1 : Nat))]) (fun s => H0) (fun s => s.1 ≤ len ∧ ∀ k i, k < s.1 → is[k]? = some i → ok k i) (fun s => len - s.1) (0, undef) ⟨Nat.zero_le _, fun k i hk => by simp at hk⟩ (Heap.Le.refl _) rfl ?_
      intro ⟨k, v4⟩ g ⟨hk, hall⟩
      simp only at hk hall
      rcases Nat.lt_or_ge k len with hlt | hge
      · obtain ⟨i, ei⟩ : ∃ i, is[k]? = some i := ⟨_, List.getElem?_eq_getElem (by have e2 : is.length = _ := el; omega)⟩
        have hR := (show ∀ (G : Heap) (K : Value → Heap → Prop) (k : Nat) (i : Ins), _ → _ → K (.bool (lg k i)) G → _ from hR) H0
        have hR := fun (K : Value → Heap → Prop) => hR K k i g0 ei
        obtain ⟨u, eu⟩ : ∃ u, lg k i = u := ⟨_, rfl⟩
        have hok := (show ∀ (k : Nat) (i : Ins), lg (k : Int) i = true ↔ ok k i from okl) k i
        rw [eu] at hok hR
        have t0 : (k : Int) < len := by omega
        have t6 : IntKind.i64.wrap ((k : Int) + 1) = ((k + 1 : Nat) : Int) := by rw [Bw.1 _ (by omega) (by omega)]; omega
        cases u with
        | true =>
          have nxt : ∀ k' i', k' < k + 1 → is[k']? = some i' → ok k' i' := fun k' i' hlt' hi' => by
            rcases Nat.lt_or_ge k' k with h' | h'
            · exact hall k' i' h' hi'
            · obtain rfl : k' = k := by omega
              rw [ei] at hi'; cases hi'
              exact hok.1 rfl
          clear hall hok eu okl hy hn el
          replace nxt : Keep _ := nxt
          replace hR : Keep _ := hR
          (all_goals (try simp only [Sq,Sr,Sh,Si,Sl,Bu,Bb,Bd,Bc,Bw,Bn,Int.reduceAdd,Int.reduceSub,Int.reduceMul,Int.reduceTDiv,Int.reduceTMod,Int.reduceMod,Int.reduceDiv,Nat.reduceLT,Nat.reduceEqDiff,Sa,Sb,Sc,Sd,Se,Sf,Sg,Int.reduceLE,Int.reduceLT,Int.reduceToNat,Int.reduceNeg,Int.reduceEq,Nat.reduceLeDiff,Nat.reducePow,Int.reducePow,reduceIte,Nat.reduceSub,Nat.reduceAdd,Nat.reduceMul,putAt,ceq,List.replicate, *])); repeat' ((first | (with_reducible refine fun _ : True => ?_) | refine hR _ ?_ | (with_reducible refine any_h ?_) | ((first | refine AllocQ_i ?_ | refine AllocO_i ?_); intro bk hb0 hbk; (try simp only [set_none'] at hbk)) | ((first | refine condS_i ?_ ?_ | refine pick_i ?_ ?_ | refine gS_it ?_ ?_ | refine gS_if ?_ ?_ | refine gP_it ?_ ?_ | refine gP_if ?_ ?_) <;> (intro hc; try simp only [Int.reduceLE,Int.reduceLT,Int.reduceEq,Sn] at hc)) | (with_reducible refine And.intro ?_ ?_)) <;> (try simp only [Sq,Sr,Sh,Si,Sl,Bu,Bb,Bd,Bc,Bw,Bn,Int.reduceAdd,Int.reduceSub,Int.reduceMul,Int.reduceTDiv,Int.reduceTMod,Int.reduceMod,Int.reduceDiv,Nat.reduceLT,Nat.reduceEqDiff,Sa,Sb,Sc,Sd,Se,Sf,Sg,Int.reduceLE,Int.reduceLT,Int.reduceToNat,Int.reduceNeg,Int.reduceEq,Nat.reduceLeDiff,Nat.reducePow,Int.reducePow,reduceIte,Nat.reduceSub,Nat.reduceAdd,Nat.reduceMul,putAt,ceq,List.replicate, *]))
          all_goals exact Round_mk (k + 1, _) ⟨hlt, nxt⟩ (Nat.sub_succ_lt_self len k hlt) (Heap.Le.refl _) rfl rfl
        | false =>
          have fin := (show ∀ k i, _ → _ → _ from hn) k i ei (fun h => by have := hok.2 h; cases this)
          clear hall hok eu okl hy hn el
          replace hR : Keep _ := hR
          (all_goals (try simp only [Sq,Sr,Sh,Si,Sl,Bu,Bb,Bd,Bc,Bw,Bn,Int.reduceAdd,Int.reduceSub,Int.reduceMul,Int.reduceTDiv,Int.reduceTMod,Int.reduceMod,Int.reduceDiv,Nat.reduceLT,Nat.reduceEqDiff,Sa,Sb,Sc,Sd,Se,Sf,Sg,Int.reduceLE,Int.reduceLT,Int.reduceToNat,Int.reduceNeg,Int.reduceEq,Nat.reduceLeDiff,Nat.reducePow,Int.reducePow,reduceIte,Nat.reduceSub,Nat.reduceAdd,Nat.reduceMul,putAt,ceq,List.replicate, *])); repeat' ((first | (with_reducible refine fun _ : True => ?_) | refine hR _ ?_ | (with_reducible refine any_h ?_) | ((first | refine AllocQ_i ?_ | refine AllocO_i ?_); intro bk hb0 hbk; (try simp only [set_none'] at hbk)) | ((first | refine condS_i ?_ ?_ | refine pick_i ?_ ?_ | refine gS_it ?_ ?_ | refine gS_if ?_ ?_ | refine gP_it ?_ ?_ | refine gP_if ?_ ?_) <;> (intro hc; try simp only [Int.reduceLE,Int.reduceLT,Int.reduceEq,Sn] at hc)) | (with_reducible refine And.intro ?_ ?_)) <;> (try simp only [Sq,Sr,Sh,Si,Sl,Bu,Bb,Bd,Bc,Bw,Bn,Int.reduceAdd,Int.reduceSub,Int.reduceMul,Int.reduceTDiv,Int.reduceTMod,Int.reduceMod,Int.reduceDiv,Nat.reduceLT,Nat.reduceEqDiff,Sa,Sb,Sc,Sd,Se,Sf,Sg,Int.reduceLE,Int.reduceLT,Int.reduceToNat,Int.reduceNeg,Int.reduceEq,Nat.reduceLeDiff,Nat.reducePow,Int.reducePow,reduceIte,Nat.reduceSub,Nat.reduceAdd,Nat.reduceMul,putAt,ceq,List.replicate, *]))
          all_goals exact Fin_le fin l0
      · obtain rfl : k = len := by omega
        have fin := (show _ → _ from hy) fun k i hk => hall k i (by have := (List.getElem?_eq_some_iff.1 hk).1; have e2 : is.length = _ := el; omega) hk
        have t0 : ¬ ((k : Nat) : Int) < (k : Nat) := by omega
        clear hall hn okl hy hR
        (all_goals (try simp only [Sq,Sr,Sh,Si,Sl,Bu,Bb,Bd,Bc,Bw,Bn,Int.reduceAdd,Int.reduceSub,Int.reduceMul,Int.reduceTDiv,Int.reduceTMod,Int.reduceMod,Int.reduceDiv,Nat.reduceLT,Nat.reduceEqDiff,Sa,Sb,Sc,Sd,Se,Sf,Sg,Int.reduceLE,Int.reduceLT,Int.reduceToNat,Int.reduceNeg,Int.reduceEq,Nat.reduceLeDiff,Nat.reducePow,Int.reducePow,reduceIte,Nat.reduceSub,Nat.reduceAdd,Nat.reduceMul,putAt,ceq,List.replicate, *])); repeat' ((first | (with_reducible refine fun _ : True => ?_) | (with_reducible refine any_h ?_) | ((first | refine AllocQ_i ?_ | refine AllocO_i ?_); intro bk hb0 hbk; (try simp only [set_none'] at hbk)) | ((first | refine condS_i ?_ ?_ | refine pick_i ?_ ?_ | refine gS_it ?_ ?_ | refine gS_if ?_ ?_ | refine gP_it ?_ ?_ | refine gP_if ?_ ?_) <;> (intro hc; try simp only [Int.reduceLE,Int.reduceLT,Int.reduceEq,Sn] at hc)) | (with_reducible refine And.intro ?_ ?_)) <;> (try simp only [Sq,Sr,Sh,Si,Sl,Bu,Bb,Bd,Bc,Bw,Bn,Int.reduceAdd,Int.reduceSub,Int.reduceMul,Int.reduceTDiv,Int.reduceTMod,Int.reduceMod,Int.reduceDiv,Nat.reduceLT,Nat.reduceEqDiff,Sa,Sb,Sc,Sd,Se,Sf,Sg,Int.reduceLE,Int.reduceLT,Int.reduceToNat,Int.reduceNeg,Int.reduceEq,Nat.reduceLeDiff,Nat.reducePow,Int.reducePow,reduceIte,Nat.reduceSub,Nat.reduceAdd,Nat.reduceMul,putAt,ceq,List.replicate, *]))
        all_goals exact Fin_le fin l0
  · have fin := hn fun h => h0 ⟨h.1, h.2.1, h.2.2.1, h.2.2.2.1, h.2.2.2.2.1, h.2.2.2.2.2.1⟩
    clear hy hn hR okl
    have hcs : (st = 1 ∨ st = 2 ∨ (¬ st = 1 ∧ ¬ st = 2)) ∧ (4096 < (len : Int) ∨ ¬ 4096 < (len : Int)) := by omega
    have hbo : ∀ b : Bool, b = false ∨ b = true := fun b => by cases b <;> simp
    have n1 := hbo (below rg 1025)
    have n2 := hbo (below ab 9)
    have n3 := hbo (below un 33)
    have n4 := hbo (below va 5)
    obtain ⟨h1, h2⟩ := hcs
    rcases h1 with rfl | rfl | ⟨d1, d2⟩
    rotate_left 2
    · clear h0 n1 n2 n3 n4 h2 hbo
      revert fin
      intro fin
      refine HL.hc k37 999 ?_; unfold M37
      (all_goals (try simp only [Sq,Sr,Sh,Si,Sl,Bu,Bb,Bd,Bc,Bw,Bn,Int.reduceAdd,Int.reduceSub,Int.reduceMul,Int.reduceTDiv,Int.reduceTMod,Int.reduceMod,Int.reduceDiv,Nat.reduceLT,Nat.reduceEqDiff,Sa,Sb,Sc,Sd,Se,Sf,Sg,Int.reduceLE,Int.reduceLT,Int.reduceToNat,Int.reduceNeg,Int.reduceEq,Nat.reduceLeDiff,Nat.reducePow,Int.reducePow,reduceIte,Nat.reduceSub,Nat.reduceAdd,Nat.reduceMul,putAt,ceq,List.replicate, *])); repeat' ((first | (with_reducible refine fun _ : True => ?_) | refine r_in _ _ ?_ | (with_reducible refine any_h ?_) | ((first | refine AllocQ_i ?_ | refine AllocO_i ?_); intro bk hb0 hbk; (try simp only [set_none'] at hbk)) | ((first | refine condS_i ?_ ?_ | refine pick_i ?_ ?_ | refine gS_it ?_ ?_ | refine gS_if ?_ ?_ | refine gP_it ?_ ?_ | refine gP_if ?_ ?_) <;> (intro hc; try simp only [Int.reduceLE,Int.reduceLT,Int.reduceEq,Sn] at hc)) | (with_reducible refine And.intro ?_ ?_)) <;> (try simp only [Sq,Sr,Sh,Si,Sl,Bu,Bb,Bd,Bc,Bw,Bn,Int.reduceAdd,Int.reduceSub,Int.reduceMul,Int.reduceTDiv,Int.reduceTMod,Int.reduceMod,Int.reduceDiv,Nat.reduceLT,Nat.reduceEqDiff,Sa,Sb,Sc,Sd,Se,Sf,Sg,Int.reduceLE,Int.reduceLT,Int.reduceToNat,Int.reduceNeg,Int.reduceEq,Nat.reduceLeDiff,Nat.reducePow,Int.reducePow,reduceIte,Nat.reduceSub,Nat.reduceAdd,Nat.reduceMul,putAt,ceq,List.replicate, *]))
      all_goals exact Fin_le fin (by (repeat' (first | exact Heap.Le.refl _ | (with_reducible refine Le_set2 ?_) | (refine Le_known (by first | (simp only [Heap.set_same, set_ne, ne_eq, not_false_eq_true, *] <;> rfl) | fail) ?_) | (refine Le_fresh (by first | (simp only [*] <;> done) | (simp [set_none', Heap.set_same, set_ne, noneH, *] <;> done) | fail) ?_) | (refine Heap.Le.trans ?_ (Grow.le (by assumption))) | exact Le_none | (refine Le_put ?_ (by first | (simp only [Heap.set_same, set_ne, ne_eq, not_false_eq_true, *] <;> rfl) | fail)) | fail)))
    all_goals
      rcases h2 with h2 | h2
      rotate_left
      rcases n1 with n1 | n1
      rotate_left
      rcases n2 with n2 | n2
      rotate_left
      rcases n3 with n3 | n3
      rotate_left
      rcases n4 with n4 | n4
      rotate_left
    all_goals try exact (h0 ⟨.inl rfl, by omega, by assumption, by assumption, by assumption, by assumption⟩).elim
    all_goals try have d7 : ¬ ab = 0 := fun e => h0 ⟨.inr rfl, by omega, by assumption, by subst e; rfl, by assumption, by assumption⟩
    all_goals
      clear h0 hbo
      refine HL.hc k37 999 ?_; unfold M37
      (all_goals (try simp only [Sq,Sr,Sh,Si,Sl,Bu,Bb,Bd,Bc,Bw,Bn,Int.reduceAdd,Int.reduceSub,Int.reduceMul,Int.reduceTDiv,Int.reduceTMod,Int.reduceMod,Int.reduceDiv,Nat.reduceLT,Nat.reduceEqDiff,Sa,Sb,Sc,Sd,Se,Sf,Sg,Int.reduceLE,Int.reduceLT,Int.reduceToNat,Int.reduceNeg,Int.reduceEq,Nat.reduceLeDiff,Nat.reducePow,Int.reducePow,reduceIte,Nat.reduceSub,Nat.reduceAdd,Nat.reduceMul,putAt,ceq,List.replicate, *])); repeat' ((first | (with_reducible refine fun _ : True => ?_) | refine r_in _ _ ?_ | (with_reducible refine any_h ?_) | ((first | refine AllocQ_i ?_ | refine AllocO_i ?_); intro bk hb0 hbk; (try simp only [set_none'] at hbk)) | ((first | refine condS_i ?_ ?_ | refine pick_i ?_ ?_ | refine gS_it ?_ ?_ | refine gS_if ?_ ?_ | refine gP_it ?_ ?_ | refine gP_if ?_ ?_) <;> (intro hc; try simp only [Int.reduceLE,Int.reduceLT,Int.reduceEq,Sn] at hc)) | (with_reducible refine And.intro ?_ ?_)) <;> (try simp only [Sq,Sr,Sh,Si,Sl,Bu,Bb,Bd,Bc,Bw,Bn,Int.reduceAdd,Int.reduceSub,Int.reduceMul,Int.reduceTDiv,Int.reduceTMod,Int.reduceMod,Int.reduceDiv,Nat.reduceLT,Nat.reduceEqDiff,Sa,Sb,Sc,Sd,Se,Sf,Sg,Int.reduceLE,Int.reduceLT,Int.reduceToNat,Int.reduceNeg,Int.reduceEq,Nat.reduceLeDiff,Nat.reducePow,Int.reducePow,reduceIte,Nat.reduceSub,Nat.reduceAdd,Nat.reduceMul,putAt,ceq,List.replicate, *]))
      all_goals exact Fin_le fin (by (repeat' (first | exact Heap.Le.refl _ | (with_reducible refine Le_set2 ?_) | (refine Le_known (by first | (simp only [Heap.set_same, set_ne, ne_eq, not_false_eq_true, *] <;> rfl) | fail) ?_) | (refine Le_fresh (by first | (simp only [*] <;> done) | (simp [set_none', Heap.set_same, set_ne, noneH, *] <;> done) | fail) ?_) | (refine Heap.Le.trans ?_ (Grow.le (by assumption))) | exact Le_none | (refine Le_put ?_ (by first | (simp only [Heap.set_same, set_ne, ne_eq, not_false_eq_true, *] <;> rfl) | fail)) | fail)))
end Go.Proofs.Ytndgmnmnpfblmaa
