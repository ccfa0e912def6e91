/- Whether places may be, by the document (layer 16). -/
import Derived.Test.YtndgmnmnpfblmaaCdg
import Derived.Test.YtndgmnmnpfblmaaHlu
set_option linter.unusedSimpArgs false
set_option linter.unusedVariables false
set_option maxRecDepth 100000
set_option maxHeartbeats 4000000
namespace Go.Proofs.Ytndgmnmnpfblmaa
open Go.HL Go.RowKit Pb
variable {w0 : World} {H : Heap} {K : Value → Heap → Prop}

theorem sB_mem {p : Int} : ∀ {l : List Int}, sB l p = true ↔ p ∈ l
  | [] => by simp [sB]
  | a :: l => by simp [sB, sB_mem (l := l)]
section
variable {u : Bool} {n p : Int} {P : List Int} {k : Nat}
theorem okK_f1 (hp : P[k]? = some p) (h : ¬ (0 ≤ p ∧ p < 4)) : okK u n P k = false := by
  unfold okK
  rw [show P.getD k 0 = p by rw [List.getD_eq_getElem?_getD, hp]; rfl, decide_eq_false h]
  rfl
theorem okK_f2 (hp : P[k]? = some p) (h : ¬ (k : Int) < n) (h0 : ¬ p = 0) : okK u n P k = false := by
  unfold okK
  rw [show P.getD k 0 = p by rw [List.getD_eq_getElem?_getD, hp]; rfl, decide_eq_false h, decide_eq_false h0]
  simp
theorem okK_f3 {m : Nat} (hp : P[k]? = some p) (hm : P[m]? = some p) (hmk : m < k) (h : (k : Int) < n) : okK true n P k = false := by
  unfold okK
  have hin : p ∈ P.take k := List.mem_iff_getElem?.2 ⟨m, by rw [List.getElem?_take, if_pos hmk]; exact hm⟩
  rw [show P.getD k 0 = p by rw [List.getD_eq_getElem?_getD, hp]; rfl, decide_eq_true h, sB_mem.2 hin]
  simp
theorem okK_t0 (hp : P[k]? = some p) (h : 0 ≤ p ∧ p < 4) (hn : ¬ (k : Int) < n) (h0 : p = 0) : okK u n P k = true := by
  unfold okK
  rw [show P.getD k 0 = p by rw [List.getD_eq_getElem?_getD, hp]; rfl, decide_eq_true h, decide_eq_true h0, decide_eq_false hn]
  simp
theorem okK_t1 (hp : P[k]? = some p) (h : 0 ≤ p ∧ p < 4) (hn : (k : Int) < n) (hu : u = true → ∀ j, j < k → P[j]? ≠ some p) : okK u n P k = true := by
  unfold okK
  rw [show P.getD k 0 = p by rw [List.getD_eq_getElem?_getD, hp]; rfl, decide_eq_true h, decide_eq_true hn]
  cases u with
  | false => simp
  | true =>
    have : sB (P.take k) p = false := by
      rw [Bool.eq_false_iff]
      intro e
      obtain ⟨j, hj⟩ := List.mem_iff_getElem?.1 (sB_mem.1 e)
      rw [List.getElem?_take] at hj
      split at hj
      · rename_i hjk
        exact hu rfl j hjk hj
      · cases hj
    rw [this]; simp
end
/- paintboxref16 places -/
def M58 : MC :=
  .seq (.reg [⟨(some 2), .box 30 (.tmp 0), none⟩,
 ⟨(some 4), .mv (.const (.bool false)), none⟩])
 (.seq (.seq (.reg [⟨(some 8), .fa 3 (.tmp 2), none⟩,
 ⟨(some 9), .ld1 (.tmp 8), none⟩,
 ⟨(some 10), .bin .lss (.tmp 9) (.const (.int .i64 1)), none⟩,
 ⟨(some 11), .mv (.tmp 10), none⟩,
 ⟨(some 12), .fa 3 (.tmp 2), (some (11, false))⟩,
 ⟨(some 13), .ld1 (.tmp 12), (some (11, false))⟩,
 ⟨(some 14), .bin .gtr (.tmp 13) (.const (.int .i64 4)), (some (11, false))⟩,
 ⟨(some 15), .pick (.tmp 11) (.const (.bool true)) (.tmp 14), none⟩])
 (.cond (.tmp 15)
 (.seq (.reg [⟨(some 4), .mv (.const (.bool false)), none⟩])
 (.ret))
 (.skip)))
 (.seq (.seq (.reg [⟨(some 16), .fa 12 (.tmp 2), none⟩,
 ⟨(some 17), .ldn 4 (.tmp 16), none⟩,
 ⟨(some 18), .mv (.const (.int .i64 0)), none⟩])
 (.block 0 (.loop (.seq (.reg [⟨(some 19), .bin .lss (.tmp 18) (.const (.int .i64 4)), none⟩])
 (.seq (.cond (.tmp 19)
 (.skip)
 (.exit 0))
 (.seq (.block 1 (.seq (.reg [⟨(some 20), .mv (.tmp 18), none⟩,
 ⟨(some 21), .ix 4 (.tmp 17) (.tmp 18), none⟩,
 ⟨(some 5), .mv (.tmp 20), none⟩,
 ⟨(some 6), .mv (.tmp 21), none⟩])
 (.seq (.seq (.reg [⟨(some 22), .mv (.tmp 6), none⟩,
 ⟨(some 23), .call 51 [(.tmp 22), (.const (.int .i64 4))], none⟩,
 ⟨(some 24), .un .not (.tmp 23), none⟩,
 ⟨(some 25), .mv (.tmp 24), none⟩,
 ⟨(some 26), .mv (.tmp 5), (some (25, false))⟩,
 ⟨(some 27), .fa 3 (.tmp 2), (some (25, false))⟩,
 ⟨(some 28), .ld1 (.tmp 27), (some (25, false))⟩,
 ⟨(some 29), .bin .geq (.tmp 26) (.tmp 28), (some (25, false))⟩,
 ⟨(some 30), .mv (.tmp 29), (some (25, false))⟩,
 ⟨(some 31), .mv (.tmp 6), (some (30, true))⟩,
 ⟨(some 32), .bin .neq (.tmp 31) (.const (.int .i64 0)), (some (30, true))⟩,
 ⟨(some 33), .pick (.tmp 30) (.tmp 32) (.const (.bool false)), (some (25, false))⟩,
 ⟨(some 34), .pick (.tmp 25) (.const (.bool true)) (.tmp 33), none⟩])
 (.cond (.tmp 34)
 (.seq (.reg [⟨(some 4), .mv (.const (.bool false)), none⟩])
 (.ret))
 (.skip)))
 (.seq (.reg [⟨(some 7), .mv (.const (.int .i64 0)), none⟩])
 (.block 2 (.loop (.seq (.seq (.reg [⟨(some 35), .mv (.tmp 7), none⟩,
 ⟨(some 36), .mv (.tmp 5), none⟩,
 ⟨(some 37), .bin .lss (.tmp 35) (.tmp 36), none⟩,
 ⟨(some 38), .mv (.tmp 37), none⟩,
 ⟨(some 39), .mv (.tmp 5), (some (38, true))⟩,
 ⟨(some 40), .fa 3 (.tmp 2), (some (38, true))⟩,
 ⟨(some 41), .ld1 (.tmp 40), (some (38, true))⟩,
 ⟨(some 42), .bin .lss (.tmp 39) (.tmp 41), (some (38, true))⟩,
 ⟨(some 43), .pick (.tmp 38) (.tmp 42) (.const (.bool false)), none⟩])
 (.cond (.tmp 43)
 (.skip)
 (.exit 2)))
 (.seq (.block 3 (.seq (.reg [⟨(some 46), .mv (.tmp 1), none⟩,
 ⟨(some 47), .un .not (.tmp 46), none⟩,
 ⟨(some 48), .mv (.tmp 47), none⟩,
 ⟨(some 49), .mv (.tmp 7), (some (48, true))⟩,
 ⟨(some 50), .fa 12 (.tmp 2), (some (48, true))⟩,
 ⟨(some 51), .ia 4 1 (.tmp 50) (.tmp 49), (some (48, true))⟩,
 ⟨(some 52), .ld1 (.tmp 51), (some (48, true))⟩,
 ⟨(some 53), .mv (.tmp 6), (some (48, true))⟩,
 ⟨(some 54), .bin .eql (.tmp 52) (.tmp 53), (some (48, true))⟩,
 ⟨(some 55), .pick (.tmp 48) (.tmp 54) (.const (.bool false)), none⟩])
 (.cond (.tmp 55)
 (.seq (.reg [⟨(some 4), .mv (.const (.bool false)), none⟩])
 (.ret))
 (.skip))))
 (.reg [⟨(some 44), .mv (.tmp 7), none⟩,
 ⟨(some 45), .bin .add (.tmp 44) (.const (.int .i64 1)), none⟩,
 ⟨(some 7), .mv (.tmp 45), none⟩])))))))))
 (.reg [⟨(some 56), .bin .add (.tmp 18) (.const (.int .i64 1)), none⟩,
 ⟨(some 18), .mv (.tmp 56), none⟩])))))))
 (.seq (.reg [⟨(some 4), .mv (.const (.bool true)), none⟩])
 (.ret))))
theorem k58 : fnOk Try.prog 58 = some (M58, [.t 4], 57) := by kernel_rfl

section
variable {op fn bs n dst a b c m0 m1 m2 m3 p0 p1 p2 p3 : Int}
theorem places_a (tw : Bool) (h : K (.bool (spreadB (!tw) ⟨op, fn, bs, n, dst, a, b, c, m0, m1, m2, m3, p0, p1, p2, p3⟩)) H) :
    HCalls Try.prog w0 58 [(⟨op, fn, bs, n, dst, a, b, c, m0, m1, m2, m3, p0, p1, p2, p3⟩ : Ins).v, .bool tw] H K := by
  have hf : spreadB (!tw) ⟨op, fn, bs, n, dst, a, b, c, m0, m1, m2, m3, p0, p1, p2, p3⟩ = false → HL.Fin K (.bool false) H := fun e => Fin_mk (Heap.Le.refl _) (by rw [e] at h; exact h)
  have ht : spreadB (!tw) ⟨op, fn, bs, n, dst, a, b, c, m0, m1, m2, m3, p0, p1, p2, p3⟩ = true → HL.Fin K (.bool true) H := fun e => Fin_mk (Heap.Le.refl _) (by rw [e] at h; exact h)
  clear h
  unfold Ins.v Ins.row
  by_cases hs : 1 ≤ n ∧ n ≤ 4
  · have esz : sized n = true := decide_eq_true hs
    have s1 : ¬ n < 1 := by omega
    have s2 : ¬ 4 < n := by omega
    obtain ⟨P, eP⟩ : ∃ P, [p0, p1, p2, p3] = P := ⟨_, rfl⟩
    have hP : P.length = 4 := by rw [← eP]; rfl
    have hf := fun (j : Nat) (hj : j < 4) (e : okK (!tw) n P j = false) => hf (spread_f (j := j) hj (by unfold Ins.pl; simp only; rw [eP]; exact e))
    have ht := fun (e : ∀ j, j < 4 → okK (!tw) n P j = true) => ht (spread_t esz (fun j hj => by unfold Ins.pl; simp only; rw [eP]; exact e j hj))
    have el : ∀ (k : Nat) (p : Int), P[k]? = some p → [Value.int .i64 p0, .int .i64 p1, .int .i64 p2, .int .i64 p3][k]? = some (.int .i64 p) := fun k p hp => by
      have : [Value.int .i64 p0, .int .i64 p1, .int .i64 p2, .int .i64 p3] = P.map fun x => .int .i64 x := by rw [← eP]; rfl
      rw [this, List.getElem?_map, hp]; rfl
    clear hs esz
    replace hf : Keep _ := hf
    replace ht : Keep _ := ht
    replace el : Keep _ := el
    replace eP : Keep _ := eP
    replace hP : Keep _ := hP
    refine HL.hc k58 999 ?_; unfold M58
    (all_goals (try simp only [Sq,Sr,Sh,Si,Sl,Bu,Bb,Bd,Bc,Bw,Bn,Int.reduceAdd,Int.reduceSub,Int.reduceMul,Int.reduceTDiv,Int.reduceTMod,Int.reduceMod,Int.reduceDiv,Nat.reduceLT,Nat.reduceEqDiff,Sa,Sb,Sc,Sd,Se,Sf,Sg,Int.reduceLE,Int.reduceLT,Int.reduceToNat,Int.reduceNeg,Int.reduceEq,Nat.reduceLeDiff,Nat.reducePow,Int.reducePow,reduceIte,Nat.reduceSub,Nat.reduceAdd,Nat.reduceMul,putAt,ceq,List.replicate, *])); repeat' ((first | (with_reducible refine fun _ : True => ?_) | (with_reducible refine any_h ?_) | ((first | refine AllocQ_i ?_ | refine AllocO_i ?_); intro bk hb0 hbk; (try simp only [set_none'] at hbk)) | ((first | refine condS_i ?_ ?_ | refine pick_i ?_ ?_ | refine gS_it ?_ ?_ | refine gS_if ?_ ?_ | refine gP_it ?_ ?_ | refine gP_if ?_ ?_) <;> (intro hc; try simp only [Int.reduceLE,Int.reduceLT,Int.reduceEq,Sn] at hc)) | (with_reducible refine And.intro ?_ ?_)) <;> (try simp only [Sq,Sr,Sh,Si,Sl,Bu,Bb,Bd,Bc,Bw,Bn,Int.reduceAdd,Int.reduceSub,Int.reduceMul,Int.reduceTDiv,Int.reduceTMod,Int.reduceMod,Int.reduceDiv,Nat.reduceLT,Nat.reduceEqDiff,Sa,Sb,Sc,Sd,Se,Sf,Sg,Int.reduceLE,Int.reduceLT,Int.reduceToNat,Int.reduceNeg,Int.reduceEq,Nat.reduceLeDiff,Nat.reducePow,Int.reducePow,reduceIte,Nat.reduceSub,Nat.reduceAdd,Nat.reduceMul,putAt,ceq,List.replicate, *]))
    refine loopq_heap ?_
    intro H0 eH
    have g0 : Heap.Le H H0 := by rw [eH]; exact (by (repeat' (first | exact Heap.Le.refl _ | (with_reducible refine Le_set2 ?_) | (refine Le_known (by first | (simp only [Heap.set_same, set_ne, ne_eq, not_false_eq_true, *] <;> rfl) | fail) ?_) | (refine Le_fresh (by first | (simp only [*] <;> done) | (simp [set_none', Heap.set_same, set_ne, noneH, *] <;> done) | fail) ?_) | (refine Heap.Le.trans ?_ (Grow.le (by assumption))) | exact Le_none | (refine Le_put ?_ (by first | (simp only [Heap.set_same, set_ne, ne_eq, not_false_eq_true, *] <;> rfl) | fail)) | fail)))
    have r3 : HL.rd1 w0 H0 bk 3 = some (.int .i64 n) := by rw [eH]; unfold HL.rd1; rw [Heap.set_same]; rfl
    have hq : ∀ (m : Nat) (q : Int), P[m]? = some q → HL.rd1 w0 H0 bk (12 + m) = some (.int .i64 q) := fun m q hm => by
      rw [eH]; unfold HL.rd1; rw [Heap.set_same]
      have := (show ∀ (k : Nat) (p : Int), _ → _ = some _ from el) m q hm
      simp only
      rw [← this, Nat.add_comm 12 m]
      rfl
    clear eH hbk hb0
    refine loop_g 19 (fun s : Nat × Value × Value × Value => [(5, s.2.1), (6, s.2.2.1), (7, s.2.2.2), (18, .int .i64 (s.1 : Nat))]) (fun s => H0) (fun s => s.1 ≤ 4 ∧ ∀ j, j < s.1 → okK (!tw) n P j = true) (fun s => 4 - s.1) (0, undef, undef, undef) ⟨Nat.zero_le _, fun k hk => by simp at hk⟩ (Heap.Le.refl _) rfl ?_
    intro ⟨k, v5, v6, v7⟩ g ⟨hk, hall⟩
    simp only at hk hall
    have kpp : ∀ {p : Prop}, Keep p → p := fun h => h
    rcases Nat.lt_or_ge k 4 with hlt | hge
    · obtain ⟨p, ep⟩ : ∃ p, P[k]? = some p := ⟨_, List.getElem?_eq_getElem (by rw [kpp hP]; omega)⟩
      have e1 := kpp el k p ep
      have hf := kpp hf k hlt
      have nxt : okK (!tw) n P k = true → ∀ j, j < k + 1 → okK (!tw) n P j = true := fun e j hj => by
        rcases Nat.lt_or_ge j k with h' | h'
        · exact hall j h'
        · obtain rfl : j = k := by omega
          exact e
      have t0 : (k : Int) < 4 := by omega
      have t6 : IntKind.i64.wrap ((k : Int) + 1) = ((k + 1 : Nat) : Int) := by rw [Bw.1 _ (by omega) (by omega)]; omega
      have hPk : ∀ m, m < k → ∃ q, P[m]? = some q := fun m hm => ⟨_, List.getElem?_eq_getElem (by rw [kpp hP]; omega)⟩
      clear hall ht el eP kpp
      by_cases q : 0 ≤ p ∧ p < 4
      · have hb : below p 4 = true := decide_eq_true q
        by_cases hkn : (k : Int) < n
        · have h3 := fun m hm hmk => okK_f3 (n := n) (P := P) (k := k) (m := m) (p := p) ep hm hmk hkn
          have ht1 := fun hu => nxt (okK_t1 ep q hkn hu)
          have u1 : ¬ n ≤ (k : Int) := by omega
          clear nxt hP
          replace hf : Keep _ := hf
          replace h3 : Keep _ := h3
          replace ht1 : Keep _ := ht1
          replace hPk : Keep _ := hPk
          replace hq : Keep _ := hq
          (all_goals (try simp only [Sq,Sr,Sh,Si,Sl,Bu,Bb,Bd,Bc,Bw,Bn,Int.reduceAdd,Int.reduceSub,Int.reduceMul,Int.reduceTDiv,Int.reduceTMod,Int.reduceMod,Int.reduceDiv,Nat.reduceLT,Nat.reduceEqDiff,Sa,Sb,Sc,Sd,Se,Sf,Sg,Int.reduceLE,Int.reduceLT,Int.reduceToNat,Int.reduceNeg,Int.reduceEq,Nat.reduceLeDiff,Nat.reducePow,Int.reducePow,reduceIte,Nat.reduceSub,Nat.reduceAdd,Nat.reduceMul,putAt,ceq,List.replicate, *])); repeat' ((first | (with_reducible refine fun _ : True => ?_) | refine r_in _ _ ?_ | (with_reducible refine any_h ?_) | ((first | refine AllocQ_i ?_ | refine AllocO_i ?_); intro bk hb0 hbk; (try simp only [set_none'] at hbk)) | ((first | refine condS_i ?_ ?_ | refine pick_i ?_ ?_ | refine gS_it ?_ ?_ | refine gS_if ?_ ?_ | refine gP_it ?_ ?_ | refine gP_if ?_ ?_) <;> (intro hc; try simp only [Int.reduceLE,Int.reduceLT,Int.reduceEq,Sn] at hc)) | (with_reducible refine And.intro ?_ ?_)) <;> (try simp only [Sq,Sr,Sh,Si,Sl,Bu,Bb,Bd,Bc,Bw,Bn,Int.reduceAdd,Int.reduceSub,Int.reduceMul,Int.reduceTDiv,Int.reduceTMod,Int.reduceMod,Int.reduceDiv,Nat.reduceLT,Nat.reduceEqDiff,Sa,Sb,Sc,Sd,Se,Sf,Sg,Int.reduceLE,Int.reduceLT,Int.reduceToNat,Int.reduceNeg,Int.reduceEq,Nat.reduceLeDiff,Nat.reducePow,Int.reducePow,reduceIte,Nat.reduceSub,Nat.reduceAdd,Nat.reduceMul,putAt,ceq,List.replicate, *]))
          refine loop_g 19 (fun m : Nat => [(7, .int .i64 (m : Nat))]) (fun _ => H0) (fun m => m ≤ k ∧ ((!tw) = true → ∀ j, j < m → P[j]? ≠ some p)) (fun m => k - m) 0 ⟨Nat.zero_le _, fun _ j hj => by omega⟩ (Heap.Le.refl _) rfl ?_
          intro m g2 ⟨hmk, hne⟩
          by_cases hml : m < k
          · obtain ⟨x, ex⟩ := (show ∀ m, m < k → ∃ q, P[m]? = some q from hPk) m hml
            have rx := (show ∀ (m : Nat) (q : Int), P[m]? = some q → HL.rd1 w0 H0 bk (12 + m) = some (.int .i64 q) from hq) m x ex
            have s0 : (m : Int) < (k : Int) := by omega
            have s4 : (m : Int) < 4 := by omega
            have s5 : m < 4 := by omega
            have s6 : IntKind.i64.wrap ((m : Int) + 1) = ((m + 1 : Nat) : Int) := by rw [Bw.1 _ (by omega) (by omega)]; omega
            clear hPk hq ht1
            cases tw with
            | true =>
              clear h3 hf hne
              (all_goals (try simp only [Sq,Sr,Sh,Si,Sl,Bu,Bb,Bd,Bc,Bw,Bn,Int.reduceAdd,Int.reduceSub,Int.reduceMul,Int.reduceTDiv,Int.reduceTMod,Int.reduceMod,Int.reduceDiv,Nat.reduceLT,Nat.reduceEqDiff,Sa,Sb,Sc,Sd,Se,Sf,Sg,Int.reduceLE,Int.reduceLT,Int.reduceToNat,Int.reduceNeg,Int.reduceEq,Nat.reduceLeDiff,Nat.reducePow,Int.reducePow,reduceIte,Nat.reduceSub,Nat.reduceAdd,Nat.reduceMul,putAt,ceq,List.replicate, *])); repeat' ((first | (with_reducible refine fun _ : True => ?_) | (with_reducible refine any_h ?_) | ((first | refine AllocQ_i ?_ | refine AllocO_i ?_); intro bk hb0 hbk; (try simp only [set_none'] at hbk)) | ((first | refine condS_i ?_ ?_ | refine pick_i ?_ ?_ | refine gS_it ?_ ?_ | refine gS_if ?_ ?_ | refine gP_it ?_ ?_ | refine gP_if ?_ ?_) <;> (intro hc; try simp only [Int.reduceLE,Int.reduceLT,Int.reduceEq,Sn] at hc)) | (with_reducible refine And.intro ?_ ?_)) <;> (try simp only [Sq,Sr,Sh,Si,Sl,Bu,Bb,Bd,Bc,Bw,Bn,Int.reduceAdd,Int.reduceSub,Int.reduceMul,Int.reduceTDiv,Int.reduceTMod,Int.reduceMod,Int.reduceDiv,Nat.reduceLT,Nat.reduceEqDiff,Sa,Sb,Sc,Sd,Se,Sf,Sg,Int.reduceLE,Int.reduceLT,Int.reduceToNat,Int.reduceNeg,Int.reduceEq,Nat.reduceLeDiff,Nat.reducePow,Int.reducePow,reduceIte,Nat.reduceSub,Nat.reduceAdd,Nat.reduceMul,putAt,ceq,List.replicate, *]))
              all_goals exact Round_mk (m + 1) ⟨hml, fun h => by cases h⟩ (Nat.sub_succ_lt_self k m hml) (Heap.Le.refl _) rfl rfl
            | false =>
              by_cases hx : x = p
              · rw [hx] at ex rx
                have hf := (show okK (!false) n P k = false → HL.Fin K (.bool false) H from hf) (okK_f3 ep ex hml hkn)
                clear hne h3
                (all_goals (try simp only [Sq,Sr,Sh,Si,Sl,Bu,Bb,Bd,Bc,Bw,Bn,Int.reduceAdd,Int.reduceSub,Int.reduceMul,Int.reduceTDiv,Int.reduceTMod,Int.reduceMod,Int.reduceDiv,Nat.reduceLT,Nat.reduceEqDiff,Sa,Sb,Sc,Sd,Se,Sf,Sg,Int.reduceLE,Int.reduceLT,Int.reduceToNat,Int.reduceNeg,Int.reduceEq,Nat.reduceLeDiff,Nat.reducePow,Int.reducePow,reduceIte,Nat.reduceSub,Nat.reduceAdd,Nat.reduceMul,putAt,ceq,List.replicate, *])); repeat' ((first | (with_reducible refine fun _ : True => ?_) | (with_reducible refine any_h ?_) | ((first | refine AllocQ_i ?_ | refine AllocO_i ?_); intro bk hb0 hbk; (try simp only [set_none'] at hbk)) | ((first | refine condS_i ?_ ?_ | refine pick_i ?_ ?_ | refine gS_it ?_ ?_ | refine gS_if ?_ ?_ | refine gP_it ?_ ?_ | refine gP_if ?_ ?_) <;> (intro hc; try simp only [Int.reduceLE,Int.reduceLT,Int.reduceEq,Sn] at hc)) | (with_reducible refine And.intro ?_ ?_)) <;> (try simp only [Sq,Sr,Sh,Si,Sl,Bu,Bb,Bd,Bc,Bw,Bn,Int.reduceAdd,Int.reduceSub,Int.reduceMul,Int.reduceTDiv,Int.reduceTMod,Int.reduceMod,Int.reduceDiv,Nat.reduceLT,Nat.reduceEqDiff,Sa,Sb,Sc,Sd,Se,Sf,Sg,Int.reduceLE,Int.reduceLT,Int.reduceToNat,Int.reduceNeg,Int.reduceEq,Nat.reduceLeDiff,Nat.reducePow,Int.reducePow,reduceIte,Nat.reduceSub,Nat.reduceAdd,Nat.reduceMul,putAt,ceq,List.replicate, *]))
                all_goals exact Fin_le hf g0
              · have nx : (!false) = true → ∀ j, j < m + 1 → P[j]? ≠ some p := fun hu j hj => by
                  rcases Nat.lt_or_ge j m with h' | h'
                  · exact hne hu j h'
                  · obtain rfl : j = m := by omega
                    rw [ex]; exact fun e => hx (by cases e; rfl)
                clear hne h3 hf
                replace nx : Keep _ := nx
                (all_goals (try simp only [Sq,Sr,Sh,Si,Sl,Bu,Bb,Bd,Bc,Bw,Bn,Int.reduceAdd,Int.reduceSub,Int.reduceMul,Int.reduceTDiv,Int.reduceTMod,Int.reduceMod,Int.reduceDiv,Nat.reduceLT,Nat.reduceEqDiff,Sa,Sb,Sc,Sd,Se,Sf,Sg,Int.reduceLE,Int.reduceLT,Int.reduceToNat,Int.reduceNeg,Int.reduceEq,Nat.reduceLeDiff,Nat.reducePow,Int.reducePow,reduceIte,Nat.reduceSub,Nat.reduceAdd,Nat.reduceMul,putAt,ceq,List.replicate, *])); repeat' ((first | (with_reducible refine fun _ : True => ?_) | (with_reducible refine any_h ?_) | ((first | refine AllocQ_i ?_ | refine AllocO_i ?_); intro bk hb0 hbk; (try simp only [set_none'] at hbk)) | ((first | refine condS_i ?_ ?_ | refine pick_i ?_ ?_ | refine gS_it ?_ ?_ | refine gS_if ?_ ?_ | refine gP_it ?_ ?_ | refine gP_if ?_ ?_) <;> (intro hc; try simp only [Int.reduceLE,Int.reduceLT,Int.reduceEq,Sn] at hc)) | (with_reducible refine And.intro ?_ ?_)) <;> (try simp only [Sq,Sr,Sh,Si,Sl,Bu,Bb,Bd,Bc,Bw,Bn,Int.reduceAdd,Int.reduceSub,Int.reduceMul,Int.reduceTDiv,Int.reduceTMod,Int.reduceMod,Int.reduceDiv,Nat.reduceLT,Nat.reduceEqDiff,Sa,Sb,Sc,Sd,Se,Sf,Sg,Int.reduceLE,Int.reduceLT,Int.reduceToNat,Int.reduceNeg,Int.reduceEq,Nat.reduceLeDiff,Nat.reducePow,Int.reducePow,reduceIte,Nat.reduceSub,Nat.reduceAdd,Nat.reduceMul,putAt,ceq,List.replicate, *]))
                all_goals exact Round_mk (m + 1) ⟨hml, fun _ => (show (!false) = true → ∀ j, j < m + 1 → P[j]? ≠ some p from nx) rfl⟩ (Nat.sub_succ_lt_self k m hml) (Heap.Le.refl _) rfl rfl
          · obtain rfl : m = k := by omega
            have ok := (show _ → _ from ht1) hne
            have s0 : ¬ (m : Int) < (m : Int) := by omega
            clear hne ht1 h3 hf hPk hq
            replace ok : Keep _ := ok
            (all_goals (try simp only [Sq,Sr,Sh,Si,Sl,Bu,Bb,Bd,Bc,Bw,Bn,Int.reduceAdd,Int.reduceSub,Int.reduceMul,Int.reduceTDiv,Int.reduceTMod,Int.reduceMod,Int.reduceDiv,Nat.reduceLT,Nat.reduceEqDiff,Sa,Sb,Sc,Sd,Se,Sf,Sg,Int.reduceLE,Int.reduceLT,Int.reduceToNat,Int.reduceNeg,Int.reduceEq,Nat.reduceLeDiff,Nat.reducePow,Int.reducePow,reduceIte,Nat.reduceSub,Nat.reduceAdd,Nat.reduceMul,putAt,ceq,List.replicate, *])); repeat' ((first | (with_reducible refine fun _ : True => ?_) | (with_reducible refine any_h ?_) | ((first | refine AllocQ_i ?_ | refine AllocO_i ?_); intro bk hb0 hbk; (try simp only [set_none'] at hbk)) | ((first | refine condS_i ?_ ?_ | refine pick_i ?_ ?_ | refine gS_it ?_ ?_ | refine gS_if ?_ ?_ | refine gP_it ?_ ?_ | refine gP_if ?_ ?_) <;> (intro hc; try simp only [Int.reduceLE,Int.reduceLT,Int.reduceEq,Sn] at hc)) | (with_reducible refine And.intro ?_ ?_)) <;> (try simp only [Sq,Sr,Sh,Si,Sl,Bu,Bb,Bd,Bc,Bw,Bn,Int.reduceAdd,Int.reduceSub,Int.reduceMul,Int.reduceTDiv,Int.reduceTMod,Int.reduceMod,Int.reduceDiv,Nat.reduceLT,Nat.reduceEqDiff,Sa,Sb,Sc,Sd,Se,Sf,Sg,Int.reduceLE,Int.reduceLT,Int.reduceToNat,Int.reduceNeg,Int.reduceEq,Nat.reduceLeDiff,Nat.reducePow,Int.reducePow,reduceIte,Nat.reduceSub,Nat.reduceAdd,Nat.reduceMul,putAt,ceq,List.replicate, *]))
            all_goals exact Round_mk (m + 1, _, _, _) ⟨hlt, ok⟩ (Nat.sub_succ_lt_self 4 m hlt) (Heap.Le.refl _) rfl rfl
        · by_cases hp0 : p = 0
          · have ok := nxt (okK_t0 ep q hkn hp0)
            have u1 : n ≤ (k : Int) := by omega
            clear hf nxt q hq hP hPk
            subst hp0
            (all_goals (try simp only [Sq,Sr,Sh,Si,Sl,Bu,Bb,Bd,Bc,Bw,Bn,Int.reduceAdd,Int.reduceSub,Int.reduceMul,Int.reduceTDiv,Int.reduceTMod,Int.reduceMod,Int.reduceDiv,Nat.reduceLT,Nat.reduceEqDiff,Sa,Sb,Sc,Sd,Se,Sf,Sg,Int.reduceLE,Int.reduceLT,Int.reduceToNat,Int.reduceNeg,Int.reduceEq,Nat.reduceLeDiff,Nat.reducePow,Int.reducePow,reduceIte,Nat.reduceSub,Nat.reduceAdd,Nat.reduceMul,putAt,ceq,List.replicate, *])); repeat' ((first | (with_reducible refine fun _ : True => ?_) | refine r_in _ _ ?_ | (with_reducible refine any_h ?_) | ((first | refine AllocQ_i ?_ | refine AllocO_i ?_); intro bk hb0 hbk; (try simp only [set_none'] at hbk)) | ((first | refine condS_i ?_ ?_ | refine pick_i ?_ ?_ | refine gS_it ?_ ?_ | refine gS_if ?_ ?_ | refine gP_it ?_ ?_ | refine gP_if ?_ ?_) <;> (intro hc; try simp only [Int.reduceLE,Int.reduceLT,Int.reduceEq,Sn] at hc)) | (with_reducible refine loop_u ?_) | (with_reducible refine And.intro ?_ ?_)) <;> (try simp only [Sq,Sr,Sh,Si,Sl,Bu,Bb,Bd,Bc,Bw,Bn,Int.reduceAdd,Int.reduceSub,Int.reduceMul,Int.reduceTDiv,Int.reduceTMod,Int.reduceMod,Int.reduceDiv,Nat.reduceLT,Nat.reduceEqDiff,Sa,Sb,Sc,Sd,Se,Sf,Sg,Int.reduceLE,Int.reduceLT,Int.reduceToNat,Int.reduceNeg,Int.reduceEq,Nat.reduceLeDiff,Nat.reducePow,Int.reducePow,reduceIte,Nat.reduceSub,Nat.reduceAdd,Nat.reduceMul,putAt,ceq,List.replicate, *]))
            all_goals exact Round_mk (k + 1, _, _, _) ⟨hlt, ok⟩ (Nat.sub_succ_lt_self 4 k hlt) (Heap.Le.refl _) rfl rfl
          · have hf := hf (okK_f2 ep hkn hp0)
            have u1 : n ≤ (k : Int) := by omega
            clear nxt q hq hP hPk
            (all_goals (try simp only [Sq,Sr,Sh,Si,Sl,Bu,Bb,Bd,Bc,Bw,Bn,Int.reduceAdd,Int.reduceSub,Int.reduceMul,Int.reduceTDiv,Int.reduceTMod,Int.reduceMod,Int.reduceDiv,Nat.reduceLT,Nat.reduceEqDiff,Sa,Sb,Sc,Sd,Se,Sf,Sg,Int.reduceLE,Int.reduceLT,Int.reduceToNat,Int.reduceNeg,Int.reduceEq,Nat.reduceLeDiff,Nat.reducePow,Int.reducePow,reduceIte,Nat.reduceSub,Nat.reduceAdd,Nat.reduceMul,putAt,ceq,List.replicate, *])); repeat' ((first | (with_reducible refine fun _ : True => ?_) | refine r_in _ _ ?_ | (with_reducible refine any_h ?_) | ((first | refine AllocQ_i ?_ | refine AllocO_i ?_); intro bk hb0 hbk; (try simp only [set_none'] at hbk)) | ((first | refine condS_i ?_ ?_ | refine pick_i ?_ ?_ | refine gS_it ?_ ?_ | refine gS_if ?_ ?_ | refine gP_it ?_ ?_ | refine gP_if ?_ ?_) <;> (intro hc; try simp only [Int.reduceLE,Int.reduceLT,Int.reduceEq,Sn] at hc)) | (with_reducible refine And.intro ?_ ?_)) <;> (try simp only [Sq,Sr,Sh,Si,Sl,Bu,Bb,Bd,Bc,Bw,Bn,Int.reduceAdd,Int.reduceSub,Int.reduceMul,Int.reduceTDiv,Int.reduceTMod,Int.reduceMod,Int.reduceDiv,Nat.reduceLT,Nat.reduceEqDiff,Sa,Sb,Sc,Sd,Se,Sf,Sg,Int.reduceLE,Int.reduceLT,Int.reduceToNat,Int.reduceNeg,Int.reduceEq,Nat.reduceLeDiff,Nat.reducePow,Int.reducePow,reduceIte,Nat.reduceSub,Nat.reduceAdd,Nat.reduceMul,putAt,ceq,List.replicate, *]))
            exact Fin_le hf g0
      · have hb : below p 4 = false := decide_eq_false q
        have hf := hf (okK_f1 ep q)
        clear nxt q hq hP hPk
        (all_goals (try simp only [Sq,Sr,Sh,Si,Sl,Bu,Bb,Bd,Bc,Bw,Bn,Int.reduceAdd,Int.reduceSub,Int.reduceMul,Int.reduceTDiv,Int.reduceTMod,Int.reduceMod,Int.reduceDiv,Nat.reduceLT,Nat.reduceEqDiff,Sa,Sb,Sc,Sd,Se,Sf,Sg,Int.reduceLE,Int.reduceLT,Int.reduceToNat,Int.reduceNeg,Int.reduceEq,Nat.reduceLeDiff,Nat.reducePow,Int.reducePow,reduceIte,Nat.reduceSub,Nat.reduceAdd,Nat.reduceMul,putAt,ceq,List.replicate, *])); repeat' ((first | (with_reducible refine fun _ : True => ?_) | refine r_in _ _ ?_ | (with_reducible refine any_h ?_) | ((first | refine AllocQ_i ?_ | refine AllocO_i ?_); intro bk hb0 hbk; (try simp only [set_none'] at hbk)) | ((first | refine condS_i ?_ ?_ | refine pick_i ?_ ?_ | refine gS_it ?_ ?_ | refine gS_if ?_ ?_ | refine gP_it ?_ ?_ | refine gP_if ?_ ?_) <;> (intro hc; try simp only [Int.reduceLE,Int.reduceLT,Int.reduceEq,Sn] at hc)) | (with_reducible refine And.intro ?_ ?_)) <;> (try simp only [Sq,Sr,Sh,Si,Sl,Bu,Bb,Bd,Bc,Bw,Bn,Int.reduceAdd,Int.reduceSub,Int.reduceMul,Int.reduceTDiv,Int.reduceTMod,Int.reduceMod,Int.reduceDiv,Nat.reduceLT,Nat.reduceEqDiff,Sa,Sb,Sc,Sd,Se,Sf,Sg,Int.reduceLE,Int.reduceLT,Int.reduceToNat,Int.reduceNeg,Int.reduceEq,Nat.reduceLeDiff,Nat.reducePow,Int.reducePow,reduceIte,Nat.reduceSub,Nat.reduceAdd,Nat.reduceMul,putAt,ceq,List.replicate, *]))
        exact Fin_le hf g0
    · obtain rfl : k = 4 := by omega
      have ht := kpp ht hall
      clear hall hf el kpp hq
      (all_goals (try simp only [Sq,Sr,Sh,Si,Sl,Bu,Bb,Bd,Bc,Bw,Bn,Int.reduceAdd,Int.reduceSub,Int.reduceMul,Int.reduceTDiv,Int.reduceTMod,Int.reduceMod,Int.reduceDiv,Nat.reduceLT,Nat.reduceEqDiff,Sa,Sb,Sc,Sd,Se,Sf,Sg,Int.reduceLE,Int.reduceLT,Int.reduceToNat,Int.reduceNeg,Int.reduceEq,Nat.reduceLeDiff,Nat.reducePow,Int.reducePow,reduceIte,Nat.reduceSub,Nat.reduceAdd,Nat.reduceMul,putAt,ceq,List.replicate, *])); repeat' ((first | (with_reducible refine fun _ : True => ?_) | (with_reducible refine any_h ?_) | ((first | refine AllocQ_i ?_ | refine AllocO_i ?_); intro bk hb0 hbk; (try simp only [set_none'] at hbk)) | ((first | refine condS_i ?_ ?_ | refine pick_i ?_ ?_ | refine gS_it ?_ ?_ | refine gS_if ?_ ?_ | refine gP_it ?_ ?_ | refine gP_if ?_ ?_) <;> (intro hc; try simp only [Int.reduceLE,Int.reduceLT,Int.reduceEq,Sn] at hc)) | (with_reducible refine And.intro ?_ ?_)) <;> (try simp only [Sq,Sr,Sh,Si,Sl,Bu,Bb,Bd,Bc,Bw,Bn,Int.reduceAdd,Int.reduceSub,Int.reduceMul,Int.reduceTDiv,Int.reduceTMod,Int.reduceMod,Int.reduceDiv,Nat.reduceLT,Nat.reduceEqDiff,Sa,Sb,Sc,Sd,Se,Sf,Sg,Int.reduceLE,Int.reduceLT,Int.reduceToNat,Int.reduceNeg,Int.reduceEq,Nat.reduceLeDiff,Nat.reducePow,Int.reducePow,reduceIte,Nat.reduceSub,Nat.reduceAdd,Nat.reduceMul,putAt,ceq,List.replicate, *]))
      exact Fin_le ht g0
  · have esz : sized n = false := decide_eq_false hs
    have hf := hf (by unfold spreadB; simp only [esz]; rfl)
    clear ht esz
    rcases (show n < 1 ∨ (¬ n < 1 ∧ 4 < n) by omega) with h1 | ⟨h1, h2⟩
    all_goals
      refine HL.hc k58 999 ?_; unfold M58
      (all_goals (try simp only [Sq,Sr,Sh,Si,Sl,Bu,Bb,Bd,Bc,Bw,Bn,Int.reduceAdd,Int.reduceSub,Int.reduceMul,Int.reduceTDiv,Int.reduceTMod,Int.reduceMod,Int.reduceDiv,Nat.reduceLT,Nat.reduceEqDiff,Sa,Sb,Sc,Sd,Se,Sf,Sg,Int.reduceLE,Int.reduceLT,Int.reduceToNat,Int.reduceNeg,Int.reduceEq,Nat.reduceLeDiff,Nat.reducePow,Int.reducePow,reduceIte,Nat.reduceSub,Nat.reduceAdd,Nat.reduceMul,putAt,ceq,List.replicate, *])); repeat' ((first | (with_reducible refine fun _ : True => ?_) | (with_reducible refine any_h ?_) | ((first | refine AllocQ_i ?_ | refine AllocO_i ?_); intro bk hb0 hbk; (try simp only [set_none'] at hbk)) | ((first | refine condS_i ?_ ?_ | refine pick_i ?_ ?_ | refine gS_it ?_ ?_ | refine gS_if ?_ ?_ | refine gP_it ?_ ?_ | refine gP_if ?_ ?_) <;> (intro hc; try simp only [Int.reduceLE,Int.reduceLT,Int.reduceEq,Sn] at hc)) | (with_reducible refine And.intro ?_ ?_)) <;> (try simp only [Sq,Sr,Sh,Si,Sl,Bu,Bb,Bd,Bc,Bw,Bn,Int.reduceAdd,Int.reduceSub,Int.reduceMul,Int.reduceTDiv,Int.reduceTMod,Int.reduceMod,Int.reduceDiv,Nat.reduceLT,Nat.reduceEqDiff,Sa,Sb,Sc,Sd,Se,Sf,Sg,Int.reduceLE,Int.reduceLT,Int.reduceToNat,Int.reduceNeg,Int.reduceEq,Nat.reduceLeDiff,Nat.reducePow,Int.reducePow,reduceIte,Nat.reduceSub,Nat.reduceAdd,Nat.reduceMul,putAt,ceq,List.replicate, *]))
      exact Fin_le hf (by (repeat' (first | exact Heap.Le.refl _ | (with_reducible refine Le_set2 ?_) | (refine Le_known (by first | (simp only [Heap.set_same, set_ne, ne_eq, not_false_eq_true, *] <;> rfl) | fail) ?_) | (refine Le_fresh (by first | (simp only [*] <;> done) | (simp [set_none', Heap.set_same, set_ne, noneH, *] <;> done) | fail) ?_) | (refine Heap.Le.trans ?_ (Grow.le (by assumption))) | exact Le_none | (refine Le_put ?_ (by first | (simp only [Heap.set_same, set_ne, ne_eq, not_false_eq_true, *] <;> rfl) | fail)) | fail)))
end
theorem r_places (i : Ins) (tw : Bool) (h : K (.bool (spreadB (!tw) i)) H) : HCalls Try.prog w0 58 [i.v, .bool tw] H K := by
  obtain ⟨op, fn, bs, n, dst, a, b, c, m0, m1, m2, m3, p0, p1, p2, p3⟩ := i
  exact places_a tw h
end Go.Proofs.Ytndgmnmnpfblmaa
