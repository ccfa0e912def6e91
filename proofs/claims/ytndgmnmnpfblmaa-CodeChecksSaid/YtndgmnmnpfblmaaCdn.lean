/- Whether two codes are one, by both (layer 16). -/
import Derived.Test.YtndgmnmnpfblmaaCdg
import Derived.Test.YtndgmnmnpfblmaaHlu
set_option linter.unusedSimpArgs false
set_option linter.unusedVariables false
set_option maxRecDepth 100000
set_option maxHeartbeats 4000000
namespace Go.Proofs.Ytndgmnmnpfblmaa
open Go.HL Go.RowKit Pb
variable {w0 : World} {H : Heap} {K : Value → Heap → Prop}

theorem isAt_row {a : Option Addr} {l : List Ins} (h : SlAt w0 H a (l.map Ins.row).flatten) {k : Nat} {i : Ins} (hk : l[k]? = some i) : ∃ b o, a = some ⟨b, o, none⟩ ∧ rdn w0 H b (o + k * 16) 16 = some i.row ∧ ∀ d, w0.heap.size ≤ d → H d = none → d ≠ b :=
  h.row (fun r hr => by obtain ⟨j, -, rfl⟩ := List.mem_map.1 hr; exact row_len j) (by omega) (i := k) (by rw [List.getElem?_map, hk]; rfl)
/- slices Equal[[]paintbox/api Instr,paintbox/api Instr] -/
def M29 : MC :=
  .seq (.reg [⟨(some 4), .mv (.const (.bool false)), none⟩])
 (.seq (.seq (.reg [⟨(some 6), .mv (.tmp 0), none⟩,
 ⟨(some 7), .len (.tmp 6), none⟩,
 ⟨(some 8), .mv (.tmp 1), none⟩,
 ⟨(some 9), .len (.tmp 8), none⟩,
 ⟨(some 10), .bin .neq (.tmp 7) (.tmp 9), none⟩])
 (.cond (.tmp 10)
 (.seq (.reg [⟨(some 4), .mv (.const (.bool false)), none⟩])
 (.ret))
 (.skip)))
 (.seq (.seq (.reg [⟨(some 11), .mv (.tmp 0), none⟩,
 ⟨(some 12), .len (.tmp 11), none⟩,
 ⟨(some 13), .mv (.const (.int .i64 0)), none⟩])
 (.block 0 (.loop (.seq (.reg [⟨(some 14), .bin .lss (.tmp 13) (.tmp 12), none⟩])
 (.seq (.cond (.tmp 14)
 (.skip)
 (.exit 0))
 (.seq (.block 1 (.seq (.reg [⟨(some 15), .mv (.tmp 13), none⟩,
 ⟨(some 5), .mv (.tmp 15), none⟩])
 (.seq (.any [(true, 0, [], ⟨(some 16), .mv (.tmp 0), none⟩),
 (true, 1, [], ⟨(some 17), .mv (.tmp 5), none⟩),
 (true, 2, [], ⟨(some 18), .is 16 (.tmp 16) (.tmp 17), none⟩),
 (true, 3, [], ⟨(some 19), .ldn 16 (.tmp 18), none⟩),
 (true, 4, [], ⟨(some 20), .mv (.tmp 1), none⟩),
 (false, 5, [0, 1, 2, 3, 4], ⟨(some 21), .mv (.tmp 5), none⟩),
 (false, 6, [0, 1, 2, 3], ⟨(some 22), .is 16 (.tmp 20) (.tmp 21), none⟩),
 (false, 7, [0, 1, 2, 3], ⟨(some 23), .ldn 16 (.tmp 22), none⟩),
 (false, 8, [], ⟨(some 24), .eqa true 16 (.tmp 19) (.tmp 23), none⟩)])
 (.cond (.tmp 24)
 (.seq (.reg [⟨(some 4), .mv (.const (.bool false)), none⟩])
 (.ret))
 (.skip)))))
 (.reg [⟨(some 25), .bin .add (.tmp 13) (.const (.int .i64 1)), none⟩,
 ⟨(some 13), .mv (.tmp 25), none⟩])))))))
 (.seq (.reg [⟨(some 4), .mv (.const (.bool true)), none⟩])
 (.ret))))
theorem k29 : fnOk Try.prog 29 = some (M29, [.t 4], 26) := by kernel_rfl

theorem c_EqualI {a a2 : Option Addr} {c c2 : Nat} {x y : List Ins} (hx : SlAt w0 H a (x.map Ins.row).flatten) (hy : SlAt w0 H a2 (y.map Ins.row).flatten) (hxl : x.length ≤ maxLen) (h1 : x = y → K (.bool true) H) (h2 : x ≠ y → K (.bool false) H) :
    HCalls Try.prog w0 29 [.slice a x.length c, .slice a2 y.length c2] H K := by
  replace h1 : x = y → HL.Fin K (.bool true) H := fun h => Fin_mk (Heap.Le.refl _) (h1 h)
  replace h2 : x ≠ y → HL.Fin K (.bool false) H := fun h => Fin_mk (Heap.Le.refl _) (h2 h)
  obtain ⟨n, en⟩ : ∃ n, x.length = n := ⟨_, rfl⟩
  obtain ⟨m, em⟩ : ∃ m, y.length = m := ⟨_, rfl⟩
  rw [en] at hxl
  rw [en, em]
  unfold maxLen at hxl
  by_cases hnm : n = m
  · subst hnm
    have t00 : (n : Int) = n := rfl
    replace en : Keep _ := en
    replace em : Keep _ := em
    replace h1 : Keep _ := h1
    replace h2 : Keep _ := h2
    refine HL.hc k29 999 ?_; unfold M29
    (all_goals (try simp only [Sq,Sr,Sh,Si,Sl,Bu,Bb,Bd,Bc,Bw,Bn,Int.reduceAdd,Int.reduceSub,Int.reduceMul,Int.reduceTDiv,Int.reduceTMod,Int.reduceMod,Int.reduceDiv,Nat.reduceLT,Nat.reduceEqDiff,Sa,Sb,Sc,Sd,Se,Sf,Sg,Int.reduceLE,Int.reduceLT,Int.reduceToNat,Int.reduceNeg,Int.reduceEq,Nat.reduceLeDiff,Nat.reducePow,Int.reducePow,reduceIte,Nat.reduceSub,Nat.reduceAdd,Nat.reduceMul,putAt,ceq,List.replicate, *])); repeat' ((first | (with_reducible refine fun _ : True => ?_) | (with_reducible refine any_h ?_) | ((first | refine AllocQ_i ?_ | refine AllocO_i ?_); intro bk hb0 hbk; (try simp only [set_none'] at hbk); (try (first | have hbn := Grow.none (by assumption) hbk | have hbn := Grow.none (by assumption) hbk.2 | have hbn := Grow.none (by assumption) hbk.2.2 | have hbn := Grow.none (by assumption) hbk.2.2.2 | have hbn := Grow.none (by assumption) hbk.2.2.2.2 | have hbn := Grow.none (by assumption) hbk.2.2.2.2.2)); (try simp only [set_none'] at hbn); (try (first | have hbm := Grow.none (by assumption) hbn | have hbm := Grow.none (by assumption) hbn.2 | have hbm := Grow.none (by assumption) hbn.2.2 | have hbm := Grow.none (by assumption) hbn.2.2.2 | have hbm := Grow.none (by assumption) hbn.2.2.2.2 | have hbm := Grow.none (by assumption) hbn.2.2.2.2.2)); (try simp only [set_none'] at hbm)) | ((first | refine condS_i ?_ ?_ | refine pick_i ?_ ?_ | refine gS_it ?_ ?_ | refine gS_if ?_ ?_ | refine gP_it ?_ ?_ | refine gP_if ?_ ?_) <;> (intro hc; try simp only [Int.reduceLE,Int.reduceLT,Int.reduceEq,Sn] at hc)) | (with_reducible refine And.intro ?_ ?_)) <;> (try simp only [Sq,Sr,Sh,Si,Sl,Bu,Bb,Bd,Bc,Bw,Bn,Int.reduceAdd,Int.reduceSub,Int.reduceMul,Int.reduceTDiv,Int.reduceTMod,Int.reduceMod,Int.reduceDiv,Nat.reduceLT,Nat.reduceEqDiff,Sa,Sb,Sc,Sd,Se,Sf,Sg,Int.reduceLE,Int.reduceLT,Int.reduceToNat,Int.reduceNeg,Int.reduceEq,Nat.reduceLeDiff,Nat.reducePow,Int.reducePow,reduceIte,Nat.reduceSub,Nat.reduceAdd,Nat.reduceMul,putAt,ceq,List.replicate, *]))
    refine loop_g 14 (fun s : Nat × Value => [(5, s.2), (13, .int .i64 (s.1 : Nat))]) (fun s => H) (fun s => s.1 ≤ n ∧ ∀ j, j < s.1 → x[j]? = y[j]?) (fun s => n - s.1) (0, undef) ⟨Nat.zero_le _, fun k hk => by simp at hk⟩ (Heap.Le.refl _) rfl ?_
    intro ⟨k, v⟩ g ⟨hk, hall⟩
    simp only at hk hall
    rcases Nat.lt_or_ge k n with hlt | hge
    · obtain ⟨i, ei⟩ : ∃ i, x[k]? = some i := ⟨_, List.getElem?_eq_getElem (by rw [show x.length = _ from en]; exact hlt)⟩
      obtain ⟨j, ej⟩ : ∃ j, y[k]? = some j := ⟨_, List.getElem?_eq_getElem (by rw [show y.length = _ from em]; exact hlt)⟩
      obtain ⟨b, o, rfl, hr, hf⟩ := isAt_row hx ei
      obtain ⟨b', o', rfl, hr', hf'⟩ := isAt_row hy ej
      have hq := ceq_row i j
      have nxt : decide (i = j) = true → ∀ j', j' < k + 1 → x[j']? = y[j']? := fun e j' hj' => by
        rcases Nat.lt_or_ge j' k with h' | h'
        · exact hall j' h'
        · obtain rfl : j' = k := by omega
          rw [ei, ej, of_decide_eq_true e]
      have fin : decide (i = j) = false → HL.Fin K (.bool false) H := fun e => (show _ → _ from h2) fun e' => of_decide_eq_false e (by rw [e', ej] at ei; cases ei; rfl)
      obtain ⟨q, eq⟩ : ∃ q, decide (i = j) = q := ⟨_, rfl⟩
      rw [eq] at hq nxt fin
      have li : i.row.length = 16 := rfl
      have lj : j.row.length = 16 := rfl
      generalize i.row = R at hr hq li
      generalize j.row = S at hr' hq lj
      have hq' : ceq R.toArray.toList S.toArray.toList = some q := by simpa using hq
      have t0 : (k : Int) < n := by omega
      have t6 : IntKind.i64.wrap ((k : Int) + 1) = (k : Int) + 1 := Bw.1 _ (by omega) (by omega)
      clear hall ei ej eq hx hy
      replace nxt : Keep _ := nxt
      replace fin : Keep _ := fin
      cases q
      all_goals (all_goals (try simp only [Sq,Sr,Sh,Si,Sl,Bu,Bb,Bd,Bc,Bw,Bn,Int.reduceAdd,Int.reduceSub,Int.reduceMul,Int.reduceTDiv,Int.reduceTMod,Int.reduceMod,Int.reduceDiv,Nat.reduceLT,Nat.reduceEqDiff,Sa,Sb,Sc,Sd,Se,Sf,Sg,Int.reduceLE,Int.reduceLT,Int.reduceToNat,Int.reduceNeg,Int.reduceEq,Nat.reduceLeDiff,Nat.reducePow,Int.reducePow,reduceIte,Nat.reduceSub,Nat.reduceAdd,Nat.reduceMul,putAt,ceq,List.replicate, *])); repeat' ((first | (with_reducible refine fun _ : True => ?_) | (with_reducible refine any_h ?_) | ((first | refine AllocQ_i ?_ | refine AllocO_i ?_); intro bk hb0 hbk; (try simp only [set_none'] at hbk); (try (first | have hbn := Grow.none (by assumption) hbk | have hbn := Grow.none (by assumption) hbk.2 | have hbn := Grow.none (by assumption) hbk.2.2 | have hbn := Grow.none (by assumption) hbk.2.2.2 | have hbn := Grow.none (by assumption) hbk.2.2.2.2 | have hbn := Grow.none (by assumption) hbk.2.2.2.2.2)); (try simp only [set_none'] at hbn); (try (first | have hbm := Grow.none (by assumption) hbn | have hbm := Grow.none (by assumption) hbn.2 | have hbm := Grow.none (by assumption) hbn.2.2 | have hbm := Grow.none (by assumption) hbn.2.2.2 | have hbm := Grow.none (by assumption) hbn.2.2.2.2 | have hbm := Grow.none (by assumption) hbn.2.2.2.2.2)); (try simp only [set_none'] at hbm)) | ((first | refine condS_i ?_ ?_ | refine pick_i ?_ ?_ | refine gS_it ?_ ?_ | refine gS_if ?_ ?_ | refine gP_it ?_ ?_ | refine gP_if ?_ ?_) <;> (intro hc; try simp only [Int.reduceLE,Int.reduceLT,Int.reduceEq,Sn] at hc)) | (with_reducible refine And.intro ?_ ?_)) <;> (try simp only [Sq,Sr,Sh,Si,Sl,Bu,Bb,Bd,Bc,Bw,Bn,Int.reduceAdd,Int.reduceSub,Int.reduceMul,Int.reduceTDiv,Int.reduceTMod,Int.reduceMod,Int.reduceDiv,Nat.reduceLT,Nat.reduceEqDiff,Sa,Sb,Sc,Sd,Se,Sf,Sg,Int.reduceLE,Int.reduceLT,Int.reduceToNat,Int.reduceNeg,Int.reduceEq,Nat.reduceLeDiff,Nat.reducePow,Int.reducePow,reduceIte,Nat.reduceSub,Nat.reduceAdd,Nat.reduceMul,putAt,ceq,List.replicate, *]))
      · exact fin rfl
      · exact Round_mk (k + 1, _) ⟨hlt, nxt rfl⟩ (by simp only; omega) (Heap.Le.refl _) rfl rfl
    · obtain rfl : k = n := by omega
      have fin := (show _ → _ from h1) (List.ext_getElem? fun j => by
        rcases Nat.lt_or_ge j k with h' | h'
        · exact hall j h'
        · rw [List.getElem?_eq_none (by rw [show x.length = _ from en]; exact h'), List.getElem?_eq_none (by rw [show y.length = _ from em]; exact h')])
      have t0 : ¬ ((k : Nat) : Int) < (k : Nat) := by omega
      clear hall
      (all_goals (try simp only [Sq,Sr,Sh,Si,Sl,Bu,Bb,Bd,Bc,Bw,Bn,Int.reduceAdd,Int.reduceSub,Int.reduceMul,Int.reduceTDiv,Int.reduceTMod,Int.reduceMod,Int.reduceDiv,Nat.reduceLT,Nat.reduceEqDiff,Sa,Sb,Sc,Sd,Se,Sf,Sg,Int.reduceLE,Int.reduceLT,Int.reduceToNat,Int.reduceNeg,Int.reduceEq,Nat.reduceLeDiff,Nat.reducePow,Int.reducePow,reduceIte,Nat.reduceSub,Nat.reduceAdd,Nat.reduceMul,putAt,ceq,List.replicate, *])); repeat' ((first | (with_reducible refine fun _ : True => ?_) | (with_reducible refine any_h ?_) | ((first | refine AllocQ_i ?_ | refine AllocO_i ?_); intro bk hb0 hbk; (try simp only [set_none'] at hbk); (try (first | have hbn := Grow.none (by assumption) hbk | have hbn := Grow.none (by assumption) hbk.2 | have hbn := Grow.none (by assumption) hbk.2.2 | have hbn := Grow.none (by assumption) hbk.2.2.2 | have hbn := Grow.none (by assumption) hbk.2.2.2.2 | have hbn := Grow.none (by assumption) hbk.2.2.2.2.2)); (try simp only [set_none'] at hbn); (try (first | have hbm := Grow.none (by assumption) hbn | have hbm := Grow.none (by assumption) hbn.2 | have hbm := Grow.none (by assumption) hbn.2.2 | have hbm := Grow.none (by assumption) hbn.2.2.2 | have hbm := Grow.none (by assumption) hbn.2.2.2.2 | have hbm := Grow.none (by assumption) hbn.2.2.2.2.2)); (try simp only [set_none'] at hbm)) | ((first | refine condS_i ?_ ?_ | refine pick_i ?_ ?_ | refine gS_it ?_ ?_ | refine gS_if ?_ ?_ | refine gP_it ?_ ?_ | refine gP_if ?_ ?_) <;> (intro hc; try simp only [Int.reduceLE,Int.reduceLT,Int.reduceEq,Sn] at hc)) | (with_reducible refine And.intro ?_ ?_)) <;> (try simp only [Sq,Sr,Sh,Si,Sl,Bu,Bb,Bd,Bc,Bw,Bn,Int.reduceAdd,Int.reduceSub,Int.reduceMul,Int.reduceTDiv,Int.reduceTMod,Int.reduceMod,Int.reduceDiv,Nat.reduceLT,Nat.reduceEqDiff,Sa,Sb,Sc,Sd,Se,Sf,Sg,Int.reduceLE,Int.reduceLT,Int.reduceToNat,Int.reduceNeg,Int.reduceEq,Nat.reduceLeDiff,Nat.reducePow,Int.reducePow,reduceIte,Nat.reduceSub,Nat.reduceAdd,Nat.reduceMul,putAt,ceq,List.replicate, *]))
      all_goals exact fin
  · have fin := h2 fun e => hnm (by rw [← en, ← em, e])
    have t0 : ¬ (n : Int) = m := by omega
    clear hx hy en em
    refine HL.hc k29 999 ?_; unfold M29
    (all_goals (try simp only [Sq,Sr,Sh,Si,Sl,Bu,Bb,Bd,Bc,Bw,Bn,Int.reduceAdd,Int.reduceSub,Int.reduceMul,Int.reduceTDiv,Int.reduceTMod,Int.reduceMod,Int.reduceDiv,Nat.reduceLT,Nat.reduceEqDiff,Sa,Sb,Sc,Sd,Se,Sf,Sg,Int.reduceLE,Int.reduceLT,Int.reduceToNat,Int.reduceNeg,Int.reduceEq,Nat.reduceLeDiff,Nat.reducePow,Int.reducePow,reduceIte,Nat.reduceSub,Nat.reduceAdd,Nat.reduceMul,putAt,ceq,List.replicate, *])); repeat' ((first | (with_reducible refine fun _ : True => ?_) | (with_reducible refine any_h ?_) | ((first | refine AllocQ_i ?_ | refine AllocO_i ?_); intro bk hb0 hbk; (try simp only [set_none'] at hbk); (try (first | have hbn := Grow.none (by assumption) hbk | have hbn := Grow.none (by assumption) hbk.2 | have hbn := Grow.none (by assumption) hbk.2.2 | have hbn := Grow.none (by assumption) hbk.2.2.2 | have hbn := Grow.none (by assumption) hbk.2.2.2.2 | have hbn := Grow.none (by assumption) hbk.2.2.2.2.2)); (try simp only [set_none'] at hbn); (try (first | have hbm := Grow.none (by assumption) hbn | have hbm := Grow.none (by assumption) hbn.2 | have hbm := Grow.none (by assumption) hbn.2.2 | have hbm := Grow.none (by assumption) hbn.2.2.2 | have hbm := Grow.none (by assumption) hbn.2.2.2.2 | have hbm := Grow.none (by assumption) hbn.2.2.2.2.2)); (try simp only [set_none'] at hbm)) | ((first | refine condS_i ?_ ?_ | refine pick_i ?_ ?_ | refine gS_it ?_ ?_ | refine gS_if ?_ ?_ | refine gP_it ?_ ?_ | refine gP_if ?_ ?_) <;> (intro hc; try simp only [Int.reduceLE,Int.reduceLT,Int.reduceEq,Sn] at hc)) | (with_reducible refine And.intro ?_ ?_)) <;> (try simp only [Sq,Sr,Sh,Si,Sl,Bu,Bb,Bd,Bc,Bw,Bn,Int.reduceAdd,Int.reduceSub,Int.reduceMul,Int.reduceTDiv,Int.reduceTMod,Int.reduceMod,Int.reduceDiv,Nat.reduceLT,Nat.reduceEqDiff,Sa,Sb,Sc,Sd,Se,Sf,Sg,Int.reduceLE,Int.reduceLT,Int.reduceToNat,Int.reduceNeg,Int.reduceEq,Nat.reduceLeDiff,Nat.reducePow,Int.reducePow,reduceIte,Nat.reduceSub,Nat.reduceAdd,Nat.reduceMul,putAt,ceq,List.replicate, *]))
    all_goals exact fin
/-- Are two codes one? -/
def Cd.Eqv (c d : Cd) : Prop := c.is = d.is ∧ c.st = d.st ∧ c.rg = d.rg ∧ c.ab = d.ab ∧ c.un = d.un ∧ c.va = d.va
/- code Same -/
def M15 : MC :=
  .seq (.reg [⟨(some 2), .box 34 (.tmp 0), none⟩,
 ⟨(some 3), .box 34 (.tmp 1), none⟩,
 ⟨(some 4), .mv (.const (.bool false)), none⟩])
 (.seq (.reg [⟨(some 6), .fa 1 (.tmp 2), none⟩,
 ⟨(some 7), .ld1 (.tmp 6), none⟩,
 ⟨(some 8), .fa 1 (.tmp 3), none⟩,
 ⟨(some 9), .ld1 (.tmp 8), none⟩,
 ⟨(some 10), .call 29 [(.tmp 7), (.tmp 9)], none⟩,
 ⟨(some 5), .mv (.tmp 10), none⟩])
 (.seq (.reg [⟨(some 11), .mv (.tmp 5), none⟩,
 ⟨(some 12), .mv (.tmp 11), none⟩,
 ⟨(some 13), .fa 0 (.tmp 2), (some (12, true))⟩,
 ⟨(some 14), .ld1 (.tmp 13), (some (12, true))⟩,
 ⟨(some 15), .fa 0 (.tmp 3), (some (12, true))⟩,
 ⟨(some 16), .ld1 (.tmp 15), (some (12, true))⟩,
 ⟨(some 17), .bin .eql (.tmp 14) (.tmp 16), (some (12, true))⟩,
 ⟨(some 18), .pick (.tmp 12) (.tmp 17) (.const (.bool false)), none⟩,
 ⟨(some 19), .mv (.tmp 18), none⟩,
 ⟨(some 20), .fa 2 (.tmp 2), (some (19, true))⟩,
 ⟨(some 21), .ld1 (.tmp 20), (some (19, true))⟩,
 ⟨(some 22), .fa 2 (.tmp 3), (some (19, true))⟩,
 ⟨(some 23), .ld1 (.tmp 22), (some (19, true))⟩,
 ⟨(some 24), .bin .eql (.tmp 21) (.tmp 23), (some (19, true))⟩,
 ⟨(some 25), .pick (.tmp 19) (.tmp 24) (.const (.bool false)), none⟩,
 ⟨(some 26), .mv (.tmp 25), none⟩,
 ⟨(some 27), .fa 3 (.tmp 2), (some (26, true))⟩,
 ⟨(some 28), .ld1 (.tmp 27), (some (26, true))⟩,
 ⟨(some 29), .fa 3 (.tmp 3), (some (26, true))⟩,
 ⟨(some 30), .ld1 (.tmp 29), (some (26, true))⟩,
 ⟨(some 31), .bin .eql (.tmp 28) (.tmp 30), (some (26, true))⟩,
 ⟨(some 32), .pick (.tmp 26) (.tmp 31) (.const (.bool false)), none⟩,
 ⟨(some 33), .mv (.tmp 32), none⟩,
 ⟨(some 34), .fa 4 (.tmp 2), (some (33, true))⟩,
 ⟨(some 35), .ld1 (.tmp 34), (some (33, true))⟩,
 ⟨(some 36), .fa 4 (.tmp 3), (some (33, true))⟩,
 ⟨(some 37), .ld1 (.tmp 36), (some (33, true))⟩,
 ⟨(some 38), .bin .eql (.tmp 35) (.tmp 37), (some (33, true))⟩,
 ⟨(some 39), .pick (.tmp 33) (.tmp 38) (.const (.bool false)), none⟩,
 ⟨(some 40), .mv (.tmp 39), none⟩,
 ⟨(some 41), .fa 5 (.tmp 2), (some (40, true))⟩,
 ⟨(some 42), .ld1 (.tmp 41), (some (40, true))⟩,
 ⟨(some 43), .fa 5 (.tmp 3), (some (40, true))⟩,
 ⟨(some 44), .ld1 (.tmp 43), (some (40, true))⟩,
 ⟨(some 45), .bin .eql (.tmp 42) (.tmp 44), (some (40, true))⟩,
 ⟨(some 46), .pick (.tmp 40) (.tmp 45) (.const (.bool false)), none⟩,
 ⟨(some 4), .mv (.tmp 46), none⟩])
 (.ret)))
theorem k15 : fnOk Try.prog 15 = some (M15, [.t 4], 47) := by kernel_rfl
/- paintboxref16 Same -/
def M16 : MC :=
  .seq (.reg [⟨(some 2), .box 34 (.tmp 0), none⟩,
 ⟨(some 3), .box 34 (.tmp 1), none⟩,
 ⟨(some 4), .mv (.const (.bool false)), none⟩])
 (.seq (.seq (.reg [⟨(some 6), .fa 0 (.tmp 2), none⟩,
 ⟨(some 7), .ld1 (.tmp 6), none⟩,
 ⟨(some 8), .fa 0 (.tmp 3), none⟩,
 ⟨(some 9), .ld1 (.tmp 8), none⟩,
 ⟨(some 10), .bin .neq (.tmp 7) (.tmp 9), none⟩,
 ⟨(some 11), .mv (.tmp 10), none⟩,
 ⟨(some 12), .fa 2 (.tmp 2), (some (11, false))⟩,
 ⟨(some 13), .ld1 (.tmp 12), (some (11, false))⟩,
 ⟨(some 14), .fa 2 (.tmp 3), (some (11, false))⟩,
 ⟨(some 15), .ld1 (.tmp 14), (some (11, false))⟩,
 ⟨(some 16), .bin .neq (.tmp 13) (.tmp 15), (some (11, false))⟩,
 ⟨(some 17), .pick (.tmp 11) (.const (.bool true)) (.tmp 16), none⟩,
 ⟨(some 18), .mv (.tmp 17), none⟩,
 ⟨(some 19), .fa 3 (.tmp 2), (some (18, false))⟩,
 ⟨(some 20), .ld1 (.tmp 19), (some (18, false))⟩,
 ⟨(some 21), .fa 3 (.tmp 3), (some (18, false))⟩,
 ⟨(some 22), .ld1 (.tmp 21), (some (18, false))⟩,
 ⟨(some 23), .bin .neq (.tmp 20) (.tmp 22), (some (18, false))⟩,
 ⟨(some 24), .pick (.tmp 18) (.const (.bool true)) (.tmp 23), none⟩,
 ⟨(some 25), .mv (.tmp 24), none⟩,
 ⟨(some 26), .fa 4 (.tmp 2), (some (25, false))⟩,
 ⟨(some 27), .ld1 (.tmp 26), (some (25, false))⟩,
 ⟨(some 28), .fa 4 (.tmp 3), (some (25, false))⟩,
 ⟨(some 29), .ld1 (.tmp 28), (some (25, false))⟩,
 ⟨(some 30), .bin .neq (.tmp 27) (.tmp 29), (some (25, false))⟩,
 ⟨(some 31), .pick (.tmp 25) (.const (.bool true)) (.tmp 30), none⟩,
 ⟨(some 32), .mv (.tmp 31), none⟩,
 ⟨(some 33), .fa 5 (.tmp 2), (some (32, false))⟩,
 ⟨(some 34), .ld1 (.tmp 33), (some (32, false))⟩,
 ⟨(some 35), .fa 5 (.tmp 3), (some (32, false))⟩,
 ⟨(some 36), .ld1 (.tmp 35), (some (32, false))⟩,
 ⟨(some 37), .bin .neq (.tmp 34) (.tmp 36), (some (32, false))⟩,
 ⟨(some 38), .pick (.tmp 32) (.const (.bool true)) (.tmp 37), none⟩,
 ⟨(some 39), .mv (.tmp 38), none⟩,
 ⟨(some 40), .fa 1 (.tmp 2), (some (39, false))⟩,
 ⟨(some 41), .ld1 (.tmp 40), (some (39, false))⟩,
 ⟨(some 42), .len (.tmp 41), (some (39, false))⟩,
 ⟨(some 43), .fa 1 (.tmp 3), (some (39, false))⟩,
 ⟨(some 44), .ld1 (.tmp 43), (some (39, false))⟩,
 ⟨(some 45), .len (.tmp 44), (some (39, false))⟩,
 ⟨(some 46), .bin .neq (.tmp 42) (.tmp 45), (some (39, false))⟩,
 ⟨(some 47), .pick (.tmp 39) (.const (.bool true)) (.tmp 46), none⟩])
 (.cond (.tmp 47)
 (.seq (.reg [⟨(some 4), .mv (.const (.bool false)), none⟩])
 (.ret))
 (.skip)))
 (.seq (.seq (.reg [⟨(some 48), .fa 1 (.tmp 2), none⟩,
 ⟨(some 49), .ld1 (.tmp 48), none⟩,
 ⟨(some 50), .len (.tmp 49), none⟩,
 ⟨(some 51), .mv (.const (.int .i64 0)), none⟩])
 (.block 0 (.loop (.seq (.reg [⟨(some 52), .bin .lss (.tmp 51) (.tmp 50), none⟩])
 (.seq (.cond (.tmp 52)
 (.skip)
 (.exit 0))
 (.seq (.block 1 (.seq (.reg [⟨(some 53), .mv (.tmp 51), none⟩,
 ⟨(some 5), .mv (.tmp 53), none⟩])
 (.seq (.any [(true, 0, [], ⟨(some 54), .fa 1 (.tmp 2), none⟩),
 (true, 1, [], ⟨(some 55), .ld1 (.tmp 54), none⟩),
 (true, 2, [], ⟨(some 56), .mv (.tmp 5), none⟩),
 (true, 3, [], ⟨(some 57), .is 16 (.tmp 55) (.tmp 56), none⟩),
 (true, 4, [], ⟨(some 58), .ldn 16 (.tmp 57), none⟩),
 (true, 5, [], ⟨(some 59), .fa 1 (.tmp 3), none⟩),
 (true, 6, [], ⟨(some 60), .ld1 (.tmp 59), none⟩),
 (false, 7, [0, 1, 2, 3, 4, 5, 6], ⟨(some 61), .mv (.tmp 5), none⟩),
 (false, 8, [0, 1, 2, 3, 4], ⟨(some 62), .is 16 (.tmp 60) (.tmp 61), none⟩),
 (false, 9, [0, 1, 2, 3, 4], ⟨(some 63), .ldn 16 (.tmp 62), none⟩),
 (false, 10, [], ⟨(some 64), .eqa true 16 (.tmp 58) (.tmp 63), none⟩)])
 (.cond (.tmp 64)
 (.seq (.reg [⟨(some 4), .mv (.const (.bool false)), none⟩])
 (.ret))
 (.skip)))))
 (.reg [⟨(some 65), .bin .add (.tmp 51) (.const (.int .i64 1)), none⟩,
 ⟨(some 51), .mv (.tmp 65), none⟩])))))))
 (.seq (.reg [⟨(some 4), .mv (.const (.bool true)), none⟩])
 (.ret))))
theorem k16 : fnOk Try.prog 16 = some (M16, [.t 4], 66) := by kernel_rfl

theorem c_Same (c d : Cd) (hc : CdAt w0 H c) (hd : CdAt w0 H d) (h1 : Cd.Eqv c d → K (.bool true) H) (h2 : ¬ Cd.Eqv c d → K (.bool false) H) : HCalls Try.prog w0 15 [c.v, d.v] H K := by
  replace h1 : Cd.Eqv c d → HL.Fin K (.bool true) H := fun h => Fin_mk (Heap.Le.refl _) (h1 h)
  replace h2 : ¬ Cd.Eqv c d → HL.Fin K (.bool false) H := fun h => Fin_mk (Heap.Le.refl _) (h2 h)
  unfold Cd.Eqv at h1 h2
  obtain ⟨st, adr, cap, is, rg, ab, un, va⟩ := c
  obtain ⟨st', adr', cap', is', rg', ab', un', va'⟩ := d
  have hE := fun (G : Heap) (K : Value → Heap → Prop) (g : Grow w0 H G) => c_EqualI (w0 := w0) (H := G) (K := K) (c := cap) (c2 := cap') (hc.at_.grow g) (hd.at_.grow g) hc.lm
  unfold Cd.v
  simp only at hE h1 h2 ⊢
  clear hc hd
  replace h1 : Keep _ := h1
  replace h2 : Keep _ := h2
  by_cases e : is = is'
  · have hE := fun (G : Heap) (K : Value → Heap → Prop) (g : Grow w0 H G) (h : K (.bool true) G) => hE G K g (fun _ => h) (fun h' => absurd e h')
    replace hE : Keep _ := hE
    replace e : Keep _ := e
    refine HL.hc k15 999 ?_; unfold M15
    (all_goals (try simp only [Sq,Sr,Sh,Si,Sl,Bu,Bb,Bd,Bc,Bw,Bn,Int.reduceAdd,Int.reduceSub,Int.reduceMul,Int.reduceTDiv,Int.reduceTMod,Int.reduceMod,Int.reduceDiv,Nat.reduceLT,Nat.reduceEqDiff,Sa,Sb,Sc,Sd,Se,Sf,Sg,Int.reduceLE,Int.reduceLT,Int.reduceToNat,Int.reduceNeg,Int.reduceEq,Nat.reduceLeDiff,Nat.reducePow,Int.reducePow,reduceIte,Nat.reduceSub,Nat.reduceAdd,Nat.reduceMul,putAt,ceq,List.replicate, *])); repeat' ((first | (with_reducible refine fun _ : True => ?_) | refine hE _ _ (by (repeat' (first | exact Grow.refl _ | assumption | (refine Grow_known (by first | (simp only [Heap.set_same, set_ne, ne_eq, not_false_eq_true, *] <;> rfl) | fail) ?_) | (refine Grow.set ?_ (by assumption) (by first | (simp only [*] <;> done) | (simp [set_none', Heap.set_same, set_ne, noneH, *] <;> done) | fail)) | (refine Grow.trans ?_ (by assumption))))) ?_ | (with_reducible refine any_h ?_) | ((first | refine AllocQ_i ?_ | refine AllocO_i ?_); intro bk hb0 hbk; (try simp only [set_none'] at hbk); (try (first | have hbn := Grow.none (by assumption) hbk | have hbn := Grow.none (by assumption) hbk.2 | have hbn := Grow.none (by assumption) hbk.2.2 | have hbn := Grow.none (by assumption) hbk.2.2.2 | have hbn := Grow.none (by assumption) hbk.2.2.2.2 | have hbn := Grow.none (by assumption) hbk.2.2.2.2.2)); (try simp only [set_none'] at hbn); (try (first | have hbm := Grow.none (by assumption) hbn | have hbm := Grow.none (by assumption) hbn.2 | have hbm := Grow.none (by assumption) hbn.2.2 | have hbm := Grow.none (by assumption) hbn.2.2.2 | have hbm := Grow.none (by assumption) hbn.2.2.2.2 | have hbm := Grow.none (by assumption) hbn.2.2.2.2.2)); (try simp only [set_none'] at hbm)) | ((first | refine condS_i ?_ ?_ | refine pick_i ?_ ?_ | refine gS_it ?_ ?_ | refine gS_if ?_ ?_ | refine gP_it ?_ ?_ | refine gP_if ?_ ?_) <;> (intro hc; try simp only [Int.reduceLE,Int.reduceLT,Int.reduceEq,Sn] at hc)) | (with_reducible refine And.intro ?_ ?_)) <;> (try simp only [Sq,Sr,Sh,Si,Sl,Bu,Bb,Bd,Bc,Bw,Bn,Int.reduceAdd,Int.reduceSub,Int.reduceMul,Int.reduceTDiv,Int.reduceTMod,Int.reduceMod,Int.reduceDiv,Nat.reduceLT,Nat.reduceEqDiff,Sa,Sb,Sc,Sd,Se,Sf,Sg,Int.reduceLE,Int.reduceLT,Int.reduceToNat,Int.reduceNeg,Int.reduceEq,Nat.reduceLeDiff,Nat.reducePow,Int.reducePow,reduceIte,Nat.reduceSub,Nat.reduceAdd,Nat.reduceMul,putAt,ceq,List.replicate, *]))
    all_goals first
      | exact Fin_le ((show _ → _ from h1) ⟨e, by assumption, by assumption, by assumption, by assumption, by assumption⟩) (by (repeat' (first | exact Heap.Le.refl _ | (with_reducible refine Le_set2 ?_) | (refine Le_known (by first | (simp only [Heap.set_same, set_ne, ne_eq, not_false_eq_true, *] <;> rfl) | fail) ?_) | (refine Le_fresh (by first | (simp only [*] <;> done) | (simp [set_none', Heap.set_same, set_ne, noneH, *] <;> done) | fail) ?_) | (refine Heap.Le.trans ?_ (Grow.le (by assumption))) | exact Le_none | (refine Le_put ?_ (by first | (simp only [Heap.set_same, set_ne, ne_eq, not_false_eq_true, *] <;> rfl) | fail)) | fail)))
      | (refine Fin_le ((show _ → _ from h2) ?_) (by (repeat' (first | exact Heap.Le.refl _ | (with_reducible refine Le_set2 ?_) | (refine Le_known (by first | (simp only [Heap.set_same, set_ne, ne_eq, not_false_eq_true, *] <;> rfl) | fail) ?_) | (refine Le_fresh (by first | (simp only [*] <;> done) | (simp [set_none', Heap.set_same, set_ne, noneH, *] <;> done) | fail) ?_) | (refine Heap.Le.trans ?_ (Grow.le (by assumption))) | exact Le_none | (refine Le_put ?_ (by first | (simp only [Heap.set_same, set_ne, ne_eq, not_false_eq_true, *] <;> rfl) | fail)) | fail))); rintro ⟨-, q1, q2, q3, q4, q5⟩; clear hE h1 h2 e; simp_all; done)
      | (by_cases hv : va = va'
         · rw [decide_eq_true hv]
           exact Fin_le ((show _ → _ from h1) ⟨e, by assumption, by assumption, by assumption, by assumption, hv⟩) (by (repeat' (first | exact Heap.Le.refl _ | (with_reducible refine Le_set2 ?_) | (refine Le_known (by first | (simp only [Heap.set_same, set_ne, ne_eq, not_false_eq_true, *] <;> rfl) | fail) ?_) | (refine Le_fresh (by first | (simp only [*] <;> done) | (simp [set_none', Heap.set_same, set_ne, noneH, *] <;> done) | fail) ?_) | (refine Heap.Le.trans ?_ (Grow.le (by assumption))) | exact Le_none | (refine Le_put ?_ (by first | (simp only [Heap.set_same, set_ne, ne_eq, not_false_eq_true, *] <;> rfl) | fail)) | fail)))
         · rw [decide_eq_false hv]
           exact Fin_le ((show _ → _ from h2) fun h => hv h.2.2.2.2.2) (by (repeat' (first | exact Heap.Le.refl _ | (with_reducible refine Le_set2 ?_) | (refine Le_known (by first | (simp only [Heap.set_same, set_ne, ne_eq, not_false_eq_true, *] <;> rfl) | fail) ?_) | (refine Le_fresh (by first | (simp only [*] <;> done) | (simp [set_none', Heap.set_same, set_ne, noneH, *] <;> done) | fail) ?_) | (refine Heap.Le.trans ?_ (Grow.le (by assumption))) | exact Le_none | (refine Le_put ?_ (by first | (simp only [Heap.set_same, set_ne, ne_eq, not_false_eq_true, *] <;> rfl) | fail)) | fail))))
  · have hE := fun (G : Heap) (K : Value → Heap → Prop) (g : Grow w0 H G) (h : K (.bool false) G) => hE G K g (fun h' => absurd h' e) (fun _ => h)
    have h2 := (show _ → _ from h2) fun h => e h.1
    replace hE : Keep _ := hE
    replace h2 : Keep _ := h2
    refine HL.hc k15 999 ?_; unfold M15
    (all_goals (try simp only [Sq,Sr,Sh,Si,Sl,Bu,Bb,Bd,Bc,Bw,Bn,Int.reduceAdd,Int.reduceSub,Int.reduceMul,Int.reduceTDiv,Int.reduceTMod,Int.reduceMod,Int.reduceDiv,Nat.reduceLT,Nat.reduceEqDiff,Sa,Sb,Sc,Sd,Se,Sf,Sg,Int.reduceLE,Int.reduceLT,Int.reduceToNat,Int.reduceNeg,Int.reduceEq,Nat.reduceLeDiff,Nat.reducePow,Int.reducePow,reduceIte,Nat.reduceSub,Nat.reduceAdd,Nat.reduceMul,putAt,ceq,List.replicate, *])); repeat' ((first | (with_reducible refine fun _ : True => ?_) | refine hE _ _ (by (repeat' (first | exact Grow.refl _ | assumption | (refine Grow_known (by first | (simp only [Heap.set_same, set_ne, ne_eq, not_false_eq_true, *] <;> rfl) | fail) ?_) | (refine Grow.set ?_ (by assumption) (by first | (simp only [*] <;> done) | (simp [set_none', Heap.set_same, set_ne, noneH, *] <;> done) | fail)) | (refine Grow.trans ?_ (by assumption))))) ?_ | (with_reducible refine any_h ?_) | ((first | refine AllocQ_i ?_ | refine AllocO_i ?_); intro bk hb0 hbk; (try simp only [set_none'] at hbk); (try (first | have hbn := Grow.none (by assumption) hbk | have hbn := Grow.none (by assumption) hbk.2 | have hbn := Grow.none (by assumption) hbk.2.2 | have hbn := Grow.none (by assumption) hbk.2.2.2 | have hbn := Grow.none (by assumption) hbk.2.2.2.2 | have hbn := Grow.none (by assumption) hbk.2.2.2.2.2)); (try simp only [set_none'] at hbn); (try (first | have hbm := Grow.none (by assumption) hbn | have hbm := Grow.none (by assumption) hbn.2 | have hbm := Grow.none (by assumption) hbn.2.2 | have hbm := Grow.none (by assumption) hbn.2.2.2 | have hbm := Grow.none (by assumption) hbn.2.2.2.2 | have hbm := Grow.none (by assumption) hbn.2.2.2.2.2)); (try simp only [set_none'] at hbm)) | ((first | refine condS_i ?_ ?_ | refine pick_i ?_ ?_ | refine gS_it ?_ ?_ | refine gS_if ?_ ?_ | refine gP_it ?_ ?_ | refine gP_if ?_ ?_) <;> (intro hc; try simp only [Int.reduceLE,Int.reduceLT,Int.reduceEq,Sn] at hc)) | (with_reducible refine And.intro ?_ ?_)) <;> (try simp only [Sq,Sr,Sh,Si,Sl,Bu,Bb,Bd,Bc,Bw,Bn,Int.reduceAdd,Int.reduceSub,Int.reduceMul,Int.reduceTDiv,Int.reduceTMod,Int.reduceMod,Int.reduceDiv,Nat.reduceLT,Nat.reduceEqDiff,Sa,Sb,Sc,Sd,Se,Sf,Sg,Int.reduceLE,Int.reduceLT,Int.reduceToNat,Int.reduceNeg,Int.reduceEq,Nat.reduceLeDiff,Nat.reducePow,Int.reducePow,reduceIte,Nat.reduceSub,Nat.reduceAdd,Nat.reduceMul,putAt,ceq,List.replicate, *]))
    all_goals exact Fin_le h2 (by (repeat' (first | exact Heap.Le.refl _ | (with_reducible refine Le_set2 ?_) | (refine Le_known (by first | (simp only [Heap.set_same, set_ne, ne_eq, not_false_eq_true, *] <;> rfl) | fail) ?_) | (refine Le_fresh (by first | (simp only [*] <;> done) | (simp [set_none', Heap.set_same, set_ne, noneH, *] <;> done) | fail) ?_) | (refine Heap.Le.trans ?_ (Grow.le (by assumption))) | exact Le_none | (refine Le_put ?_ (by first | (simp only [Heap.set_same, set_ne, ne_eq, not_false_eq_true, *] <;> rfl) | fail)) | fail)))
theorem r_Same (c d : Cd) (hc : CdAt w0 H c) (hd : CdAt w0 H d) (h1 : Cd.Eqv c d → K (.bool true) H) (h2 : ¬ Cd.Eqv c d → K (.bool false) H) : HCalls Try.prog w0 16 [c.v, d.v] H K := by
  replace h1 : Cd.Eqv c d → HL.Fin K (.bool true) H := fun h => Fin_mk (Heap.Le.refl _) (h1 h)
  replace h2 : ¬ Cd.Eqv c d → HL.Fin K (.bool false) H := fun h => Fin_mk (Heap.Le.refl _) (h2 h)
  unfold Cd.Eqv at h1 h2
  have hrx := fun (G : Heap) (g : Grow w0 H G) (k : Nat) (i : Ins) => (hc.grow g).row (k := k) (i := i)
  have hry := fun (G : Heap) (g : Grow w0 H G) (k : Nat) (i : Ins) => (hd.grow g).row (k := k) (i := i)
  have hm := hc.lm
  obtain ⟨st, adr, cap, is, rg, ab, un, va⟩ := c
  obtain ⟨st', adr', cap', is', rg', ab', un', va'⟩ := d
  unfold Cd.v
  simp only at hrx hry hm h1 h2 ⊢
  unfold maxLen at hm
  obtain ⟨n, en⟩ : ∃ n, is.length = n := ⟨_, rfl⟩
  obtain ⟨m, em⟩ : ∃ m, is'.length = m := ⟨_, rfl⟩
  rw [en] at hm
  rw [en, em]
  clear hc hd
  replace h1 : Keep _ := h1
  replace h2 : Keep _ := h2
  replace hrx : Keep _ := hrx
  replace hry : Keep _ := hry
  replace en : Keep _ := en
  replace em : Keep _ := em
  refine HL.hc k16 999 ?_; unfold M16
  (all_goals (try simp only [Sq,Sr,Sh,Si,Sl,Bu,Bb,Bd,Bc,Bw,Bn,Int.reduceAdd,Int.reduceSub,Int.reduceMul,Int.reduceTDiv,Int.reduceTMod,Int.reduceMod,Int.reduceDiv,Nat.reduceLT,Nat.reduceEqDiff,Sa,Sb,Sc,Sd,Se,Sf,Sg,Int.reduceLE,Int.reduceLT,Int.reduceToNat,Int.reduceNeg,Int.reduceEq,Nat.reduceLeDiff,Nat.reducePow,Int.reducePow,reduceIte,Nat.reduceSub,Nat.reduceAdd,Nat.reduceMul,putAt,ceq,List.replicate, *])); repeat' ((first | (with_reducible refine fun _ : True => ?_) | (with_reducible refine any_h ?_) | ((first | refine AllocQ_i ?_ | refine AllocO_i ?_); intro bk hb0 hbk; (try simp only [set_none'] at hbk); (try (first | have hbn := Grow.none (by assumption) hbk | have hbn := Grow.none (by assumption) hbk.2 | have hbn := Grow.none (by assumption) hbk.2.2 | have hbn := Grow.none (by assumption) hbk.2.2.2 | have hbn := Grow.none (by assumption) hbk.2.2.2.2 | have hbn := Grow.none (by assumption) hbk.2.2.2.2.2)); (try simp only [set_none'] at hbn); (try (first | have hbm := Grow.none (by assumption) hbn | have hbm := Grow.none (by assumption) hbn.2 | have hbm := Grow.none (by assumption) hbn.2.2 | have hbm := Grow.none (by assumption) hbn.2.2.2 | have hbm := Grow.none (by assumption) hbn.2.2.2.2 | have hbm := Grow.none (by assumption) hbn.2.2.2.2.2)); (try simp only [set_none'] at hbm)) | ((first | refine condS_i ?_ ?_ | refine pick_i ?_ ?_ | refine gS_it ?_ ?_ | refine gS_if ?_ ?_ | refine gP_it ?_ ?_ | refine gP_if ?_ ?_) <;> (intro hc; try simp only [Int.reduceLE,Int.reduceLT,Int.reduceEq,Sn] at hc)) | (with_reducible refine And.intro ?_ ?_)) <;> (try simp only [Sq,Sr,Sh,Si,Sl,Bu,Bb,Bd,Bc,Bw,Bn,Int.reduceAdd,Int.reduceSub,Int.reduceMul,Int.reduceTDiv,Int.reduceTMod,Int.reduceMod,Int.reduceDiv,Nat.reduceLT,Nat.reduceEqDiff,Sa,Sb,Sc,Sd,Se,Sf,Sg,Int.reduceLE,Int.reduceLT,Int.reduceToNat,Int.reduceNeg,Int.reduceEq,Nat.reduceLeDiff,Nat.reducePow,Int.reducePow,reduceIte,Nat.reduceSub,Nat.reduceAdd,Nat.reduceMul,putAt,ceq,List.replicate, *]))
  any_goals
    refine Fin_le ((show _ → _ from h2) ?_) (by (repeat' (first | exact Heap.Le.refl _ | (with_reducible refine Le_set2 ?_) | (refine Le_known (by first | (simp only [Heap.set_same, set_ne, ne_eq, not_false_eq_true, *] <;> rfl) | fail) ?_) | (refine Le_fresh (by first | (simp only [*] <;> done) | (simp [set_none', Heap.set_same, set_ne, noneH, *] <;> done) | fail) ?_) | (refine Heap.Le.trans ?_ (Grow.le (by assumption))) | exact Le_none | (refine Le_put ?_ (by first | (simp only [Heap.set_same, set_ne, ne_eq, not_false_eq_true, *] <;> rfl) | fail)) | fail)))
    rintro ⟨q0, q1, q2, q3, q4, q5⟩
    have e1 : n = m := by rw [← (show _ = _ from en), ← (show _ = _ from em), q0]
    clear hrx hry h1 h2
    omega
  rename_i b1 hb1 hn1 q1 q2 q3 q4 q5
  obtain rfl : n = m := by omega
  refine loopq_heap ?_
  intro H0 eH
  have k1 : H0 b1 = some _ := at_of eH (by simp only [Heap.set_same, set_ne, ne_eq, not_false_eq_true, *] <;> rfl)
  have k2 : H0 bk = some _ := at_of eH (by simp only [Heap.set_same, set_ne, ne_eq, not_false_eq_true, *] <;> rfl)
  have g0 : Grow w0 H H0 := by rw [eH]; exact (by (repeat' (first | exact Grow.refl _ | assumption | (refine Grow_known (by first | (simp only [Heap.set_same, set_ne, ne_eq, not_false_eq_true, *] <;> rfl) | fail) ?_) | (refine Grow.set ?_ (by assumption) (by first | (simp only [*] <;> done) | (simp [set_none', Heap.set_same, set_ne, noneH, *] <;> done) | fail)) | (refine Grow.trans ?_ (by assumption)))))
  have l0 : Heap.Le H H0 := g0.le
  have r1 : rd1 w0 H0 b1 1 = some (.slice adr n cap) := by unfold rd1; rw [k1]; rfl
  have r2 : rd1 w0 H0 bk 1 = some (.slice adr' n cap') := by unfold rd1; rw [k2]; rfl
  replace h1 : is = is' → HL.Fin K (.bool true) H := fun h => (show _ → _ from h1) ⟨h, q1, q2, q3, q4, q5⟩
  replace h2 : is ≠ is' → HL.Fin K (.bool false) H := fun h => (show _ → _ from h2) fun h' => h h'.1
  replace h1 : Keep _ := h1
  replace h2 : Keep _ := h2
  clear eH hn1 hb1 hb0 hbk q1 q2 q3 q4 q5 hc
  refine loop_g 52 (fun s : Nat × Value => [(5, s.2), (51, .int .i64 (s.1 : Nat))]) (fun s => H0) (fun s => s.1 ≤ n ∧ ∀ j, j < s.1 → is[j]? = is'[j]?) (fun s => n - s.1) (0, undef) ⟨Nat.zero_le _, fun k hk => by simp at hk⟩ (Heap.Le.refl _) rfl ?_
  intro ⟨k, v⟩ g ⟨hk, hall⟩
  simp only at hk hall
  rcases Nat.lt_or_ge k n with hlt | hge
  · obtain ⟨i, ei⟩ : ∃ i, is[k]? = some i := ⟨_, List.getElem?_eq_getElem (by rw [show is.length = _ from en]; exact hlt)⟩
    obtain ⟨j, ej⟩ : ∃ j, is'[k]? = some j := ⟨_, List.getElem?_eq_getElem (by rw [show is'.length = _ from em]; exact hlt)⟩
    obtain ⟨b, o, rfl, hr, hf⟩ := hrx H0 g0 k i ei
    obtain ⟨b', o', rfl, hr', hf'⟩ := hry H0 g0 k j ej
    have hq := ceq_row i j
    have nxt : decide (i = j) = true → ∀ j', j' < k + 1 → is[j']? = is'[j']? := fun e j' hj' => by
      rcases Nat.lt_or_ge j' k with h' | h'
      · exact hall j' h'
      · obtain rfl : j' = k := by omega
        rw [ei, ej, of_decide_eq_true e]
    have fin : decide (i = j) = false → HL.Fin K (.bool false) H := fun e => (show _ → _ from h2) fun e' => of_decide_eq_false e (by rw [e', ej] at ei; cases ei; rfl)
    obtain ⟨q, eq⟩ : ∃ q, decide (i = j) = q := ⟨_, rfl⟩
    rw [eq] at hq nxt fin
    have li : i.row.length = 16 := rfl
    have lj : j.row.length = 16 := rfl
    generalize i.row = R at hr hq li
    generalize j.row = S at hr' hq lj
    have hq' : ceq R.toArray.toList S.toArray.toList = some q := by simpa using hq
    have t0 : (k : Int) < n := by omega
    have t6 : IntKind.i64.wrap ((k : Int) + 1) = (k : Int) + 1 := Bw.1 _ (by omega) (by omega)
    clear hall ei ej eq hrx hry h1 h2
    replace nxt : Keep _ := nxt
    replace fin : Keep _ := fin
    cases q
    all_goals (all_goals (try simp only [Sq,Sr,Sh,Si,Sl,Bu,Bb,Bd,Bc,Bw,Bn,Int.reduceAdd,Int.reduceSub,Int.reduceMul,Int.reduceTDiv,Int.reduceTMod,Int.reduceMod,Int.reduceDiv,Nat.reduceLT,Nat.reduceEqDiff,Sa,Sb,Sc,Sd,Se,Sf,Sg,Int.reduceLE,Int.reduceLT,Int.reduceToNat,Int.reduceNeg,Int.reduceEq,Nat.reduceLeDiff,Nat.reducePow,Int.reducePow,reduceIte,Nat.reduceSub,Nat.reduceAdd,Nat.reduceMul,putAt,ceq,List.replicate, *])); repeat' ((first | (with_reducible refine fun _ : True => ?_) | (with_reducible refine any_h ?_) | ((first | refine AllocQ_i ?_ | refine AllocO_i ?_); intro bk hb0 hbk; (try simp only [set_none'] at hbk); (try (first | have hbn := Grow.none (by assumption) hbk | have hbn := Grow.none (by assumption) hbk.2 | have hbn := Grow.none (by assumption) hbk.2.2 | have hbn := Grow.none (by assumption) hbk.2.2.2 | have hbn := Grow.none (by assumption) hbk.2.2.2.2 | have hbn := Grow.none (by assumption) hbk.2.2.2.2.2)); (try simp only [set_none'] at hbn); (try (first | have hbm := Grow.none (by assumption) hbn | have hbm := Grow.none (by assumption) hbn.2 | have hbm := Grow.none (by assumption) hbn.2.2 | have hbm := Grow.none (by assumption) hbn.2.2.2 | have hbm := Grow.none (by assumption) hbn.2.2.2.2 | have hbm := Grow.none (by assumption) hbn.2.2.2.2.2)); (try simp only [set_none'] at hbm)) | ((first | refine condS_i ?_ ?_ | refine pick_i ?_ ?_ | refine gS_it ?_ ?_ | refine gS_if ?_ ?_ | refine gP_it ?_ ?_ | refine gP_if ?_ ?_) <;> (intro hc; try simp only [Int.reduceLE,Int.reduceLT,Int.reduceEq,Sn] at hc)) | (with_reducible refine And.intro ?_ ?_)) <;> (try simp only [Sq,Sr,Sh,Si,Sl,Bu,Bb,Bd,Bc,Bw,Bn,Int.reduceAdd,Int.reduceSub,Int.reduceMul,Int.reduceTDiv,Int.reduceTMod,Int.reduceMod,Int.reduceDiv,Nat.reduceLT,Nat.reduceEqDiff,Sa,Sb,Sc,Sd,Se,Sf,Sg,Int.reduceLE,Int.reduceLT,Int.reduceToNat,Int.reduceNeg,Int.reduceEq,Nat.reduceLeDiff,Nat.reducePow,Int.reducePow,reduceIte,Nat.reduceSub,Nat.reduceAdd,Nat.reduceMul,putAt,ceq,List.replicate, *]))
    · exact Fin_le (fin rfl) l0
    · exact Round_mk (k + 1, _) ⟨hlt, nxt rfl⟩ (by simp only; omega) (Heap.Le.refl _) rfl rfl
  · obtain rfl : k = n := by omega
    have fin := (show _ → _ from h1) (List.ext_getElem? fun j => by
      rcases Nat.lt_or_ge j k with h' | h'
      · exact hall j h'
      · rw [List.getElem?_eq_none (by rw [show is.length = _ from en]; exact h'), List.getElem?_eq_none (by rw [show is'.length = _ from em]; exact h')])
    have t0 : ¬ ((k : Nat) : Int) < (k : Nat) := by omega
    clear hall
    replace fin : Keep _ := fin
    (all_goals (try simp only [Sq,Sr,Sh,Si,Sl,Bu,Bb,Bd,Bc,Bw,Bn,Int.reduceAdd,Int.reduceSub,Int.reduceMul,Int.reduceTDiv,Int.reduceTMod,Int.reduceMod,Int.reduceDiv,Nat.reduceLT,Nat.reduceEqDiff,Sa,Sb,Sc,Sd,Se,Sf,Sg,Int.reduceLE,Int.reduceLT,Int.reduceToNat,Int.reduceNeg,Int.reduceEq,Nat.reduceLeDiff,Nat.reducePow,Int.reducePow,reduceIte,Nat.reduceSub,Nat.reduceAdd,Nat.reduceMul,putAt,ceq,List.replicate, *])); repeat' ((first | (with_reducible refine fun _ : True => ?_) | (with_reducible refine any_h ?_) | ((first | refine AllocQ_i ?_ | refine AllocO_i ?_); intro bk hb0 hbk; (try simp only [set_none'] at hbk); (try (first | have hbn := Grow.none (by assumption) hbk | have hbn := Grow.none (by assumption) hbk.2 | have hbn := Grow.none (by assumption) hbk.2.2 | have hbn := Grow.none (by assumption) hbk.2.2.2 | have hbn := Grow.none (by assumption) hbk.2.2.2.2 | have hbn := Grow.none (by assumption) hbk.2.2.2.2.2)); (try simp only [set_none'] at hbn); (try (first | have hbm := Grow.none (by assumption) hbn | have hbm := Grow.none (by assumption) hbn.2 | have hbm := Grow.none (by assumption) hbn.2.2 | have hbm := Grow.none (by assumption) hbn.2.2.2 | have hbm := Grow.none (by assumption) hbn.2.2.2.2 | have hbm := Grow.none (by assumption) hbn.2.2.2.2.2)); (try simp only [set_none'] at hbm)) | ((first | refine condS_i ?_ ?_ | refine pick_i ?_ ?_ | refine gS_it ?_ ?_ | refine gS_if ?_ ?_ | refine gP_it ?_ ?_ | refine gP_if ?_ ?_) <;> (intro hc; try simp only [Int.reduceLE,Int.reduceLT,Int.reduceEq,Sn] at hc)) | (with_reducible refine And.intro ?_ ?_)) <;> (try simp only [Sq,Sr,Sh,Si,Sl,Bu,Bb,Bd,Bc,Bw,Bn,Int.reduceAdd,Int.reduceSub,Int.reduceMul,Int.reduceTDiv,Int.reduceTMod,Int.reduceMod,Int.reduceDiv,Nat.reduceLT,Nat.reduceEqDiff,Sa,Sb,Sc,Sd,Se,Sf,Sg,Int.reduceLE,Int.reduceLT,Int.reduceToNat,Int.reduceNeg,Int.reduceEq,Nat.reduceLeDiff,Nat.reducePow,Int.reducePow,reduceIte,Nat.reduceSub,Nat.reduceAdd,Nat.reduceMul,putAt,ceq,List.replicate, *]))
    exact Fin_le fin l0
end Go.Proofs.Ytndgmnmnpfblmaa
