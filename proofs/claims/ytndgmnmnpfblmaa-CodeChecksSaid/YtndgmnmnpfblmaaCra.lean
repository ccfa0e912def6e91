/- Which places of a code can be come to, by the program (layer 16). -/
import Derived.Test.YtndgmnmnpfblmaaCdr
import Derived.Test.YtndgmnmnpfblmaaCdq
import Derived.Test.YtndgmnmnpfblmaaCdg
import Derived.Test.YtndgmnmnpfblmaaHlu
set_option linter.unusedSimpArgs false
set_option linter.unusedVariables false
set_option maxRecDepth 100000
set_option maxHeartbeats 4000000
namespace Go.Proofs.Ytndgmnmnpfblmaa
open Go.HL Go.RowKit Pb
variable {w0 : World} {H G : Heap} {K : Value → Heap → Prop}

theorem okI_jmp {c : Cd} {k : Nat} {i : Ins} (h : okI c k i) (e : i.op = 10 ∨ i.op = 11) : (k : Int) < i.a ∧ i.a ≤ (c.is.length : Int) := by
  have h := h.1
  unfold legalB at h
  rw [if_neg (by omega), if_neg (by omega), if_neg (by omega), if_neg (by omega), if_neg (by omega), if_neg (by omega), if_pos e] at h
  simpa using h
/-- One instruction of a code, gone through: places that are come to. -/
def stepR (k : Nat) (i : Ins) (out : List Bool) : List Bool :=
  if out[k]? = some true then
    (if i.op = 10 then out.set i.a.toNat true else if i.op = 11 then (out.set i.a.toNat true).set (k + 1) true else if i.op = 12 then out else out.set (k + 1) true)
  else out
def reachN (is : List Ins) : Nat → List Bool
  | 0 => true :: List.replicate is.length false
  | k + 1 => match is[k]? with
    | some i => stepR k i (reachN is k)
    | none => reachN is k
theorem stepR_len (k : Nat) (i : Ins) (out : List Bool) : (stepR k i out).length = out.length := by
  unfold stepR
  (repeat' split) <;> simp
theorem reachN_len (is : List Ins) : ∀ k, (reachN is k).length = is.length + 1
  | 0 => by simp [reachN]
  | k + 1 => by
    unfold reachN
    split
    · rw [stepR_len, reachN_len is k]
    · exact reachN_len is k
theorem reachN_step {is : List Ins} {k : Nat} {i : Ins} (h : is[k]? = some i) : reachN is (k + 1) = stepR k i (reachN is k) := by
  rw [reachN, h]
def rB (is : List Ins) (k : Nat) : List Value := (reachN is k).map .bool
theorem rB_len (is : List Ins) (k : Nat) : (rB is k).length = is.length + 1 := by unfold rB; rw [List.length_map, reachN_len]
theorem rB_get {is : List Ins} {k j : Nat} (h : j < is.length + 1) : ∃ u, (reachN is k)[j]? = some u ∧ (rB is k)[j]? = some (.bool u) := by
  obtain ⟨u, eu⟩ : ∃ u, (reachN is k)[j]? = some u := ⟨_, List.getElem?_eq_getElem (by rw [reachN_len]; exact h)⟩
  exact ⟨u, eu, by unfold rB; rw [List.getElem?_map, eu]; rfl⟩
theorem rB_no {is : List Ins} {k : Nat} {i : Ins} (h : is[k]? = some i) (hu : (reachN is k)[k]? = some false) : rB is (k + 1) = rB is k := by
  unfold rB; rw [reachN_step h]; unfold stepR; rw [hu, if_neg (by simp)]
theorem rB_10 {is : List Ins} {k : Nat} {i : Ins} (h : is[k]? = some i) (hu : (reachN is k)[k]? = some true) (e : i.op = 10) : rB is (k + 1) = (rB is k).set i.a.toNat (.bool true) := by
  unfold rB; rw [reachN_step h]; unfold stepR; rw [if_pos hu, if_pos e, List.map_set]
theorem rB_11 {is : List Ins} {k : Nat} {i : Ins} (h : is[k]? = some i) (hu : (reachN is k)[k]? = some true) (e : i.op = 11) : rB is (k + 1) = ((rB is k).set i.a.toNat (.bool true)).set (k + 1) (.bool true) := by
  unfold rB; rw [reachN_step h]; unfold stepR; rw [if_pos hu, if_neg (by omega), if_pos e, List.map_set, List.map_set]
theorem rB_12 {is : List Ins} {k : Nat} {i : Ins} (h : is[k]? = some i) (hu : (reachN is k)[k]? = some true) (e : i.op = 12) : rB is (k + 1) = rB is k := by
  unfold rB; rw [reachN_step h]; unfold stepR; rw [if_pos hu, if_neg (by omega), if_neg (by omega), if_pos e]
theorem rB_else {is : List Ins} {k : Nat} {i : Ins} (h : is[k]? = some i) (hu : (reachN is k)[k]? = some true) (e0 : ¬ i.op = 10) (e1 : ¬ i.op = 11) (e2 : ¬ i.op = 12) : rB is (k + 1) = (rB is k).set (k + 1) (.bool true) := by
  unfold rB; rw [reachN_step h]; unfold stepR; rw [if_pos hu, if_neg e0, if_neg e1, if_neg e2, List.map_set]
theorem rB_zero (is : List Ins) : (zeroL [.bool false] (is.length + 1)).set 0 (.bool true) = rB is 0 := by
  rw [zeroL_one]; unfold rB reachN
  rw [List.replicate_succ, List.set_cons_zero, List.map_cons, List.map_replicate]
theorem loopq_heap1 {rec : List It → List Value → Heap → Prop} {m : MC} {k : List It} {T : List Value} {c : Nat} {q : Blk} (h : ∀ H0, H0 = H → LoopQ rec m k T (H0.set c q)) : LoopQ rec m k T (H.set c q) := h H rfl
theorem kpt {p : Prop} (h : Keep p) : p := h
/- code Reach -/
def M25 : MC :=
  .seq (.reg [⟨(some 1), .box 34 (.tmp 0), none⟩,
 ⟨(some 2), .mv (.const (.slice none 0 0)), none⟩])
 (.seq (.seq (.reg [⟨(some 6), .ldn 6 (.tmp 1), none⟩,
 ⟨(some 7), .call 18 [(.tmp 6)], none⟩,
 ⟨(some 8), .bin .neq (.tmp 7) (.const (.int .i64 0)), none⟩])
 (.cond (.tmp 8)
 (.seq (.reg [⟨(some 2), .mv (.const (.slice none 0 0)), none⟩])
 (.ret))
 (.skip)))
 (.seq (.reg [⟨(some 9), .fa 1 (.tmp 1), none⟩,
 ⟨(some 10), .ld1 (.tmp 9), none⟩,
 ⟨(some 11), .len (.tmp 10), none⟩,
 ⟨(some 12), .bin .add (.tmp 11) (.const (.int .i64 1)), none⟩,
 ⟨(some 13), .mks 4 1 [(.bool false)] (.tmp 12) (.tmp 12), none⟩,
 ⟨(some 3), .mv (.tmp 13), none⟩])
 (.seq (.reg [⟨(some 14), .mv (.tmp 3), none⟩,
 ⟨(some 15), .is 1 (.tmp 14) (.const (.int .i64 0)), none⟩,
 ⟨none, .st1 (.tmp 15) (.const (.bool true)), none⟩])
 (.seq (.seq (.reg [⟨(some 16), .fa 1 (.tmp 1), none⟩,
 ⟨(some 17), .ld1 (.tmp 16), none⟩,
 ⟨(some 18), .len (.tmp 17), none⟩,
 ⟨(some 19), .mv (.const (.int .i64 0)), none⟩])
 (.block 0 (.loop (.seq (.reg [⟨(some 20), .bin .lss (.tmp 19) (.tmp 18), none⟩])
 (.seq (.cond (.tmp 20)
 (.skip)
 (.exit 0))
 (.seq (.block 1 (.seq (.reg [⟨(some 21), .mv (.tmp 19), none⟩,
 ⟨(some 22), .is 16 (.tmp 17) (.tmp 19), none⟩,
 ⟨(some 23), .ldn 16 (.tmp 22), none⟩,
 ⟨(some 5), .alloc 30 [(.int .i64 0), (.int .i64 0), (.int .i64 0), (.int .i64 0), (.int .i64 0), (.int .i64 0), (.int .i64 0), (.int .i64 0), (.int .i32 0), (.int .i32 0), (.int .i32 0), (.int .i32 0), (.int .i64 0), (.int .i64 0), (.int .i64 0), (.int .i64 0)], none⟩,
 ⟨(some 4), .mv (.tmp 21), none⟩,
 ⟨none, .stn 16 (.tmp 5) (.tmp 23), none⟩])
 (.block 2 (.seq (.reg [⟨(some 25), .mv (.tmp 3), none⟩,
 ⟨(some 26), .mv (.tmp 4), none⟩,
 ⟨(some 27), .is 1 (.tmp 25) (.tmp 26), none⟩,
 ⟨(some 28), .ld1 (.tmp 27), none⟩,
 ⟨(some 29), .un .not (.tmp 28), none⟩,
 ⟨(some 24), .mv (.tmp 29), none⟩])
 (.cond (.tmp 24)
 (.skip)
 (.seq (.reg [⟨(some 31), .fa 0 (.tmp 5), none⟩,
 ⟨(some 32), .ld1 (.tmp 31), none⟩,
 ⟨(some 33), .bin .eql (.tmp 32) (.const (.int .i64 10)), none⟩,
 ⟨(some 30), .mv (.tmp 33), none⟩])
 (.cond (.tmp 30)
 (.reg [⟨(some 34), .mv (.tmp 3), none⟩,
 ⟨(some 35), .fa 5 (.tmp 5), none⟩,
 ⟨(some 36), .ld1 (.tmp 35), none⟩,
 ⟨(some 37), .is 1 (.tmp 34) (.tmp 36), none⟩,
 ⟨none, .st1 (.tmp 37) (.const (.bool true)), none⟩])
 (.seq (.reg [⟨(some 39), .fa 0 (.tmp 5), none⟩,
 ⟨(some 40), .ld1 (.tmp 39), none⟩,
 ⟨(some 41), .bin .eql (.tmp 40) (.const (.int .i64 11)), none⟩,
 ⟨(some 38), .mv (.tmp 41), none⟩])
 (.cond (.tmp 38)
 (.reg [⟨(some 42), .mv (.tmp 3), none⟩,
 ⟨(some 43), .fa 5 (.tmp 5), none⟩,
 ⟨(some 44), .ld1 (.tmp 43), none⟩,
 ⟨(some 45), .mv (.tmp 3), none⟩,
 ⟨(some 46), .mv (.tmp 4), none⟩,
 ⟨(some 47), .bin .add (.tmp 46) (.const (.int .i64 1)), none⟩,
 ⟨(some 48), .is 1 (.tmp 42) (.tmp 44), none⟩,
 ⟨none, .st1 (.tmp 48) (.const (.bool true)), none⟩,
 ⟨(some 49), .is 1 (.tmp 45) (.tmp 47), none⟩,
 ⟨none, .st1 (.tmp 49) (.const (.bool true)), none⟩])
 (.seq (.reg [⟨(some 51), .fa 0 (.tmp 5), none⟩,
 ⟨(some 52), .ld1 (.tmp 51), none⟩,
 ⟨(some 53), .bin .neq (.tmp 52) (.const (.int .i64 12)), none⟩,
 ⟨(some 50), .mv (.tmp 53), none⟩])
 (.cond (.tmp 50)
 (.reg [⟨(some 54), .mv (.tmp 3), none⟩,
 ⟨(some 55), .mv (.tmp 4), none⟩,
 ⟨(some 56), .bin .add (.tmp 55) (.const (.int .i64 1)), none⟩,
 ⟨(some 57), .is 1 (.tmp 54) (.tmp 56), none⟩,
 ⟨none, .st1 (.tmp 57) (.const (.bool true)), none⟩])
 (.skip))))))))))))
 (.reg [⟨(some 58), .bin .add (.tmp 19) (.const (.int .i64 1)), none⟩,
 ⟨(some 19), .mv (.tmp 58), none⟩])))))))
 (.seq (.reg [⟨(some 59), .mv (.tmp 3), none⟩,
 ⟨(some 2), .mv (.tmp 59), none⟩])
 (.ret))))))
theorem k25 : fnOk Try.prog 25 = some (M25, [.t 2], 60) := by kernel_rfl

theorem c_Reach (c : Cd) (hc : CdAt w0 H c) (hy : mayP c → ∀ b G, G b = some ⟨.t 4, rB c.is c.is.length⟩ → Grow w0 H G → K (.slice (some ⟨b, 0, none⟩) (c.is.length + 1) (c.is.length + 1)) G) (hn : ¬ mayP c → K (.slice none 0 0) H) :
    HCalls Try.prog w0 25 [c.v] H K := by
  have hCk := fun (G : Heap) (K : Value → Heap → Prop) (g : Grow w0 H G) => c_Check (K := K) c (hc.grow g)
  by_cases hm : mayP c
  · have hy := hy hm
    have hCk := fun (G : Heap) (K : Value → Heap → Prop) (g : Grow w0 H G) h => hCk G K g (fun _ => h) (fun h' => absurd hm h')
    have hrow := fun (G : Heap) (g : Grow w0 H G) (k : Nat) (i : Ins) => (hc.grow g).row (k := k) (i := i)
    have hj := fun k i (h : c.is[k]? = some i) => okI_jmp (hm.2.2.2.2.2.2 k i h)
    have hl := hm.2.1
    clear hn hm hc
    obtain ⟨st, adr, cap, is, rg, ab, un, va⟩ := c
    simp only at hy hCk hrow hj hl ⊢
    unfold Cd.v at hCk ⊢
    simp only at hCk ⊢
    have rz := rB_zero is
    have rl := rB_len is
    have rg_ := fun k j => rB_get (is := is) (k := k) (j := j)
    have rno := fun k i => rB_no (is := is) (k := k) (i := i)
    have r10 := fun k i => rB_10 (is := is) (k := k) (i := i)
    have r11 := fun k i => rB_11 (is := is) (k := k) (i := i)
    have r12 := fun k i => rB_12 (is := is) (k := k) (i := i)
    have rel := fun k i => rB_else (is := is) (k := k) (i := i)
    have hget : ∀ k, k < is.length → ∃ i, is[k]? = some i := fun k hk => ⟨_, List.getElem?_eq_getElem hk⟩
    generalize rB is = B at hy rz rl rg_ rno r10 r11 r12 rel
    obtain ⟨n, en⟩ : ∃ n, is.length = n := ⟨_, rfl⟩
    simp only [en] at hy hCk hj hl rz rl rg_ hget ⊢
    have e2 : IntKind.i64.wrap ((n : Int) + 1) = (n : Int) + 1 := Bw.1 _ (by omega) (by omega)
    have e3 : ((n : Int) + 1).toNat = n + 1 := by omega
    have e4 : (0 : Int) ≤ (n : Int) + 1 := by omega
    have e5 : (0 : Int) < (n : Int) + 1 := by omega
    have e6 : 0 < n + 1 := by omega
    have e7 : (0 : Int) < ((n + 1 : Nat) : Int) := by omega
    clear en
    replace hCk : Keep _ := hCk
    replace hrow : Keep _ := hrow
    replace hj : Keep _ := hj
    replace hy : Keep _ := hy
    replace rl : Keep _ := rl
    replace rg_ : Keep _ := rg_
    replace rno : Keep _ := rno
    replace r10 : Keep _ := r10
    replace r11 : Keep _ := r11
    replace r12 : Keep _ := r12
    replace rel : Keep _ := rel
    replace hget : Keep _ := hget
    have z1 := zeroL_len (z := [Value.bool false]) (n + 1)
    refine HL.hc k25 999 ?_; unfold M25
    (all_goals (try simp only [Sq,Sr,Sh,Si,Sl,Bu,Bb,Bd,Bc,Bw,Bn,Int.reduceAdd,Int.reduceSub,Int.reduceMul,Int.reduceTDiv,Int.reduceTMod,Int.reduceMod,Int.reduceDiv,Nat.reduceLT,Nat.reduceEqDiff,Sa,Sb,Sc,Sd,Se,Sf,Sg,Int.reduceLE,Int.reduceLT,Int.reduceToNat,Int.reduceNeg,Int.reduceEq,Nat.reduceLeDiff,Nat.reducePow,Int.reducePow,reduceIte,Nat.reduceSub,Nat.reduceAdd,Nat.reduceMul,putAt,ceq,List.replicate, *])); repeat' ((first | (with_reducible refine fun _ : True => ?_) | refine hCk _ _ (by (repeat' (first | exact Grow.refl _ | assumption | (refine Grow_known (by first | (simp only [Heap.set_same, set_ne, ne_eq, not_false_eq_true, *] <;> rfl) | fail) ?_) | (refine Grow.set ?_ (by assumption) (by first | (simp only [*] <;> done) | (simp [set_none', Heap.set_same, set_ne, noneH, *] <;> done) | fail)) | (refine Grow.trans ?_ (by assumption))))) ?_ | refine mks_i (by omega) (by omega) (by omega) (by omega) ?_ | (with_reducible refine any_h ?_) | ((first | refine AllocQ_i ?_ | refine AllocO_i ?_); intro bk hb0 hbk; (try simp only [set_none'] at hbk)) | ((first | refine condS_i ?_ ?_ | refine pick_i ?_ ?_ | refine gS_it ?_ ?_ | refine gS_if ?_ ?_ | refine gP_it ?_ ?_ | refine gP_if ?_ ?_) <;> (intro hc; try simp only [Int.reduceLE,Int.reduceLT,Int.reduceEq,Sn] at hc)) | (with_reducible refine And.intro ?_ ?_)) <;> (try simp only [Sq,Sr,Sh,Si,Sl,Bu,Bb,Bd,Bc,Bw,Bn,Int.reduceAdd,Int.reduceSub,Int.reduceMul,Int.reduceTDiv,Int.reduceTMod,Int.reduceMod,Int.reduceDiv,Nat.reduceLT,Nat.reduceEqDiff,Sa,Sb,Sc,Sd,Se,Sf,Sg,Int.reduceLE,Int.reduceLT,Int.reduceToNat,Int.reduceNeg,Int.reduceEq,Nat.reduceLeDiff,Nat.reducePow,Int.reducePow,reduceIte,Nat.reduceSub,Nat.reduceAdd,Nat.reduceMul,putAt,ceq,List.replicate, *]))
    refine loopq_heap1 ?_
    intro H0 eH
    have g0 : Grow w0 H H0 := by rw [eH]; exact (by (repeat' (first | exact Grow.refl _ | assumption | (refine Grow_known (by first | (simp only [Heap.set_same, set_ne, ne_eq, not_false_eq_true, *] <;> rfl) | fail) ?_) | (refine Grow.set ?_ (by assumption) (by first | (simp only [*] <;> done) | (simp [set_none', Heap.set_same, set_ne, noneH, *] <;> done) | fail)) | (refine Grow.trans ?_ (by assumption)))))
    have n0 : H0 bk = none := by rw [eH]; exact set_none'.2 hbk
    clear eH hbk z1 rz
    refine loop_g 20 (fun s : Nat × Value × Value => [(4, s.2.1), (5, s.2.2), (19, .int .i64 (s.1 : Nat))]) (fun s => H0.set bk ⟨.t 4, B s.1⟩) (fun s => s.1 ≤ n) (fun s => n - s.1) (0, undef, undef) (Nat.zero_le _) (Heap.Le.refl _) rfl ?_
    intro ⟨k, v4, v5⟩ g hk
    simp only at hk
    by_cases hlt : k < n
    · obtain ⟨i, ei⟩ := kpt hget k hlt
      obtain ⟨b, o, rfl, hr, hf⟩ := kpt hrow H0 g0 k i ei
      have hj := kpt hj k i ei
      have rl := kpt rl k
      obtain ⟨u, hu, hB⟩ := kpt rg_ k k (by omega)
      have rno := kpt rno k i ei
      have r10 := kpt r10 k i ei
      have r11 := kpt r11 k i ei
      have r12 := kpt r12 k i ei
      have rel := kpt rel k i ei
      unfold Ins.row at hr
      have t0 : (k : Int) < n := by omega
      have t6 : IntKind.i64.wrap ((k : Int) + 1) = ((k + 1 : Nat) : Int) := by rw [Bw.1 _ (by omega) (by omega)]; omega
      have t7 : (k : Int) < ((n + 1 : Nat) : Int) := by omega
      have t8 : k < n + 1 := by omega
      have t9 : ((k + 1 : Nat) : Int) < ((n + 1 : Nat) : Int) := by omega
      have t10 : k + 1 < n + 1 := by omega
      generalize B k = D at rl hB rno r10 r11 r12 rel ⊢
      clear hget hrow
      cases u
      · have eC := rno hu
        clear hj rno r10 r11 r12 rel hu
        (all_goals (try simp only [Sq,Sr,Sh,Si,Sl,Bu,Bb,Bd,Bc,Bw,Bn,Int.reduceAdd,Int.reduceSub,Int.reduceMul,Int.reduceTDiv,Int.reduceTMod,Int.reduceMod,Int.reduceDiv,Nat.reduceLT,Nat.reduceEqDiff,Sa,Sb,Sc,Sd,Se,Sf,Sg,Int.reduceLE,Int.reduceLT,Int.reduceToNat,Int.reduceNeg,Int.reduceEq,Nat.reduceLeDiff,Nat.reducePow,Int.reducePow,reduceIte,Nat.reduceSub,Nat.reduceAdd,Nat.reduceMul,putAt,ceq,List.replicate, *])); repeat' ((first | (with_reducible refine fun _ : True => ?_) | (with_reducible refine any_h ?_) | ((first | refine AllocQ_i ?_ | refine AllocO_i ?_); intro bk hb0 hbk; (try simp only [set_none'] at hbk)) | ((first | refine condS_i ?_ ?_ | refine pick_i ?_ ?_ | refine gS_it ?_ ?_ | refine gS_if ?_ ?_ | refine gP_it ?_ ?_ | refine gP_if ?_ ?_) <;> (intro hc; try simp only [Int.reduceLE,Int.reduceLT,Int.reduceEq,Sn] at hc)) | (with_reducible refine And.intro ?_ ?_)) <;> (try simp only [Sq,Sr,Sh,Si,Sl,Bu,Bb,Bd,Bc,Bw,Bn,Int.reduceAdd,Int.reduceSub,Int.reduceMul,Int.reduceTDiv,Int.reduceTMod,Int.reduceMod,Int.reduceDiv,Nat.reduceLT,Nat.reduceEqDiff,Sa,Sb,Sc,Sd,Se,Sf,Sg,Int.reduceLE,Int.reduceLT,Int.reduceToNat,Int.reduceNeg,Int.reduceEq,Nat.reduceLeDiff,Nat.reducePow,Int.reducePow,reduceIte,Nat.reduceSub,Nat.reduceAdd,Nat.reduceMul,putAt,ceq,List.replicate, *]))
        all_goals exact Round_mk (k + 1, _, _) hlt (Nat.sub_succ_lt_self n k hlt) (by simp only [eC]; exact (by (repeat' (first | exact Heap.Le.refl _ | (with_reducible refine Le_set2 ?_) | (refine Le_known (by first | (simp only [Heap.set_same, set_ne, ne_eq, not_false_eq_true, *] <;> rfl) | fail) ?_) | (refine Le_fresh (by first | (simp only [*] <;> done) | (simp [set_none', Heap.set_same, set_ne, noneH, *] <;> done) | fail) ?_) | (refine Heap.Le.trans ?_ (Grow.le (by assumption))) | exact Le_none | (refine Le_put ?_ (by first | (simp only [Heap.set_same, set_ne, ne_eq, not_false_eq_true, *] <;> rfl) | fail)) | fail)))) rfl rfl
      · by_cases o1 : i.op = 10
        · have eC := r10 hu o1
          have hj := hj (.inl o1)
          obtain ⟨A, eA⟩ : ∃ A : Nat, i.a = A := ⟨i.a.toNat, by omega⟩
          have a1 : (A : Int) < ((n + 1 : Nat) : Int) := by omega
          have a2 : A < n + 1 := by omega
          rw [eA, Int.toNat_natCast] at eC
          clear hj rno r10 r11 r12 rel hu
          (all_goals (try simp only [Sq,Sr,Sh,Si,Sl,Bu,Bb,Bd,Bc,Bw,Bn,Int.reduceAdd,Int.reduceSub,Int.reduceMul,Int.reduceTDiv,Int.reduceTMod,Int.reduceMod,Int.reduceDiv,Nat.reduceLT,Nat.reduceEqDiff,Sa,Sb,Sc,Sd,Se,Sf,Sg,Int.reduceLE,Int.reduceLT,Int.reduceToNat,Int.reduceNeg,Int.reduceEq,Nat.reduceLeDiff,Nat.reducePow,Int.reducePow,reduceIte,Nat.reduceSub,Nat.reduceAdd,Nat.reduceMul,putAt,ceq,List.replicate, *])); repeat' ((first | (with_reducible refine fun _ : True => ?_) | (with_reducible refine any_h ?_) | ((first | refine AllocQ_i ?_ | refine AllocO_i ?_); intro bk hb0 hbk; (try simp only [set_none'] at hbk)) | ((first | refine condS_i ?_ ?_ | refine pick_i ?_ ?_ | refine gS_it ?_ ?_ | refine gS_if ?_ ?_ | refine gP_it ?_ ?_ | refine gP_if ?_ ?_) <;> (intro hc; try simp only [Int.reduceLE,Int.reduceLT,Int.reduceEq,Sn] at hc)) | (with_reducible refine And.intro ?_ ?_)) <;> (try simp only [Sq,Sr,Sh,Si,Sl,Bu,Bb,Bd,Bc,Bw,Bn,Int.reduceAdd,Int.reduceSub,Int.reduceMul,Int.reduceTDiv,Int.reduceTMod,Int.reduceMod,Int.reduceDiv,Nat.reduceLT,Nat.reduceEqDiff,Sa,Sb,Sc,Sd,Se,Sf,Sg,Int.reduceLE,Int.reduceLT,Int.reduceToNat,Int.reduceNeg,Int.reduceEq,Nat.reduceLeDiff,Nat.reducePow,Int.reducePow,reduceIte,Nat.reduceSub,Nat.reduceAdd,Nat.reduceMul,putAt,ceq,List.replicate, *]))
          all_goals exact Round_mk (k + 1, _, _) hlt (Nat.sub_succ_lt_self n k hlt) (by simp only [eC]; exact (by (repeat' (first | exact Heap.Le.refl _ | (with_reducible refine Le_set2 ?_) | (refine Le_known (by first | (simp only [Heap.set_same, set_ne, ne_eq, not_false_eq_true, *] <;> rfl) | fail) ?_) | (refine Le_fresh (by first | (simp only [*] <;> done) | (simp [set_none', Heap.set_same, set_ne, noneH, *] <;> done) | fail) ?_) | (refine Heap.Le.trans ?_ (Grow.le (by assumption))) | exact Le_none | (refine Le_put ?_ (by first | (simp only [Heap.set_same, set_ne, ne_eq, not_false_eq_true, *] <;> rfl) | fail)) | fail)))) rfl rfl
        · by_cases o2 : i.op = 11
          · have eC := r11 hu o2
            have hj := hj (.inr o2)
            obtain ⟨A, eA⟩ : ∃ A : Nat, i.a = A := ⟨i.a.toNat, by omega⟩
            have a1 : (A : Int) < ((n + 1 : Nat) : Int) := by omega
            have a2 : A < n + 1 := by omega
            rw [eA, Int.toNat_natCast] at eC
            clear hj rno r10 r11 r12 rel hu
            (all_goals (try simp only [Sq,Sr,Sh,Si,Sl,Bu,Bb,Bd,Bc,Bw,Bn,Int.reduceAdd,Int.reduceSub,Int.reduceMul,Int.reduceTDiv,Int.reduceTMod,Int.reduceMod,Int.reduceDiv,Nat.reduceLT,Nat.reduceEqDiff,Sa,Sb,Sc,Sd,Se,Sf,Sg,Int.reduceLE,Int.reduceLT,Int.reduceToNat,Int.reduceNeg,Int.reduceEq,Nat.reduceLeDiff,Nat.reducePow,Int.reducePow,reduceIte,Nat.reduceSub,Nat.reduceAdd,Nat.reduceMul,putAt,ceq,List.replicate, *])); repeat' ((first | (with_reducible refine fun _ : True => ?_) | (with_reducible refine any_h ?_) | ((first | refine AllocQ_i ?_ | refine AllocO_i ?_); intro bk hb0 hbk; (try simp only [set_none'] at hbk)) | ((first | refine condS_i ?_ ?_ | refine pick_i ?_ ?_ | refine gS_it ?_ ?_ | refine gS_if ?_ ?_ | refine gP_it ?_ ?_ | refine gP_if ?_ ?_) <;> (intro hc; try simp only [Int.reduceLE,Int.reduceLT,Int.reduceEq,Sn] at hc)) | (with_reducible refine And.intro ?_ ?_)) <;> (try simp only [Sq,Sr,Sh,Si,Sl,Bu,Bb,Bd,Bc,Bw,Bn,Int.reduceAdd,Int.reduceSub,Int.reduceMul,Int.reduceTDiv,Int.reduceTMod,Int.reduceMod,Int.reduceDiv,Nat.reduceLT,Nat.reduceEqDiff,Sa,Sb,Sc,Sd,Se,Sf,Sg,Int.reduceLE,Int.reduceLT,Int.reduceToNat,Int.reduceNeg,Int.reduceEq,Nat.reduceLeDiff,Nat.reducePow,Int.reducePow,reduceIte,Nat.reduceSub,Nat.reduceAdd,Nat.reduceMul,putAt,ceq,List.replicate, *]))
            all_goals exact Round_mk (k + 1, _, _) hlt (Nat.sub_succ_lt_self n k hlt) (by simp only [eC]; exact (by (repeat' (first | exact Heap.Le.refl _ | (with_reducible refine Le_set2 ?_) | (refine Le_known (by first | (simp only [Heap.set_same, set_ne, ne_eq, not_false_eq_true, *] <;> rfl) | fail) ?_) | (refine Le_fresh (by first | (simp only [*] <;> done) | (simp [set_none', Heap.set_same, set_ne, noneH, *] <;> done) | fail) ?_) | (refine Heap.Le.trans ?_ (Grow.le (by assumption))) | exact Le_none | (refine Le_put ?_ (by first | (simp only [Heap.set_same, set_ne, ne_eq, not_false_eq_true, *] <;> rfl) | fail)) | fail)))) rfl rfl
          · by_cases o3 : i.op = 12
            · have eC := r12 hu o3
              clear hj rno r10 r11 r12 rel hu
              (all_goals (try simp only [Sq,Sr,Sh,Si,Sl,Bu,Bb,Bd,Bc,Bw,Bn,Int.reduceAdd,Int.reduceSub,Int.reduceMul,Int.reduceTDiv,Int.reduceTMod,Int.reduceMod,Int.reduceDiv,Nat.reduceLT,Nat.reduceEqDiff,Sa,Sb,Sc,Sd,Se,Sf,Sg,Int.reduceLE,Int.reduceLT,Int.reduceToNat,Int.reduceNeg,Int.reduceEq,Nat.reduceLeDiff,Nat.reducePow,Int.reducePow,reduceIte,Nat.reduceSub,Nat.reduceAdd,Nat.reduceMul,putAt,ceq,List.replicate, *])); repeat' ((first | (with_reducible refine fun _ : True => ?_) | (with_reducible refine any_h ?_) | ((first | refine AllocQ_i ?_ | refine AllocO_i ?_); intro bk hb0 hbk; (try simp only [set_none'] at hbk)) | ((first | refine condS_i ?_ ?_ | refine pick_i ?_ ?_ | refine gS_it ?_ ?_ | refine gS_if ?_ ?_ | refine gP_it ?_ ?_ | refine gP_if ?_ ?_) <;> (intro hc; try simp only [Int.reduceLE,Int.reduceLT,Int.reduceEq,Sn] at hc)) | (with_reducible refine And.intro ?_ ?_)) <;> (try simp only [Sq,Sr,Sh,Si,Sl,Bu,Bb,Bd,Bc,Bw,Bn,Int.reduceAdd,Int.reduceSub,Int.reduceMul,Int.reduceTDiv,Int.reduceTMod,Int.reduceMod,Int.reduceDiv,Nat.reduceLT,Nat.reduceEqDiff,Sa,Sb,Sc,Sd,Se,Sf,Sg,Int.reduceLE,Int.reduceLT,Int.reduceToNat,Int.reduceNeg,Int.reduceEq,Nat.reduceLeDiff,Nat.reducePow,Int.reducePow,reduceIte,Nat.reduceSub,Nat.reduceAdd,Nat.reduceMul,putAt,ceq,List.replicate, *]))
              all_goals exact Round_mk (k + 1, _, _) hlt (Nat.sub_succ_lt_self n k hlt) (by simp only [eC]; exact (by (repeat' (first | exact Heap.Le.refl _ | (with_reducible refine Le_set2 ?_) | (refine Le_known (by first | (simp only [Heap.set_same, set_ne, ne_eq, not_false_eq_true, *] <;> rfl) | fail) ?_) | (refine Le_fresh (by first | (simp only [*] <;> done) | (simp [set_none', Heap.set_same, set_ne, noneH, *] <;> done) | fail) ?_) | (refine Heap.Le.trans ?_ (Grow.le (by assumption))) | exact Le_none | (refine Le_put ?_ (by first | (simp only [Heap.set_same, set_ne, ne_eq, not_false_eq_true, *] <;> rfl) | fail)) | fail)))) rfl rfl
            · have eC := rel hu o1 o2 o3
              clear hj rno r10 r11 r12 rel hu
              (all_goals (try simp only [Sq,Sr,Sh,Si,Sl,Bu,Bb,Bd,Bc,Bw,Bn,Int.reduceAdd,Int.reduceSub,Int.reduceMul,Int.reduceTDiv,Int.reduceTMod,Int.reduceMod,Int.reduceDiv,Nat.reduceLT,Nat.reduceEqDiff,Sa,Sb,Sc,Sd,Se,Sf,Sg,Int.reduceLE,Int.reduceLT,Int.reduceToNat,Int.reduceNeg,Int.reduceEq,Nat.reduceLeDiff,Nat.reducePow,Int.reducePow,reduceIte,Nat.reduceSub,Nat.reduceAdd,Nat.reduceMul,putAt,ceq,List.replicate, *])); repeat' ((first | (with_reducible refine fun _ : True => ?_) | (with_reducible refine any_h ?_) | ((first | refine AllocQ_i ?_ | refine AllocO_i ?_); intro bk hb0 hbk; (try simp only [set_none'] at hbk)) | ((first | refine condS_i ?_ ?_ | refine pick_i ?_ ?_ | refine gS_it ?_ ?_ | refine gS_if ?_ ?_ | refine gP_it ?_ ?_ | refine gP_if ?_ ?_) <;> (intro hc; try simp only [Int.reduceLE,Int.reduceLT,Int.reduceEq,Sn] at hc)) | (with_reducible refine And.intro ?_ ?_)) <;> (try simp only [Sq,Sr,Sh,Si,Sl,Bu,Bb,Bd,Bc,Bw,Bn,Int.reduceAdd,Int.reduceSub,Int.reduceMul,Int.reduceTDiv,Int.reduceTMod,Int.reduceMod,Int.reduceDiv,Nat.reduceLT,Nat.reduceEqDiff,Sa,Sb,Sc,Sd,Se,Sf,Sg,Int.reduceLE,Int.reduceLT,Int.reduceToNat,Int.reduceNeg,Int.reduceEq,Nat.reduceLeDiff,Nat.reducePow,Int.reducePow,reduceIte,Nat.reduceSub,Nat.reduceAdd,Nat.reduceMul,putAt,ceq,List.replicate, *]))
              all_goals exact Round_mk (k + 1, _, _) hlt (Nat.sub_succ_lt_self n k hlt) (by simp only [eC]; exact (by (repeat' (first | exact Heap.Le.refl _ | (with_reducible refine Le_set2 ?_) | (refine Le_known (by first | (simp only [Heap.set_same, set_ne, ne_eq, not_false_eq_true, *] <;> rfl) | fail) ?_) | (refine Le_fresh (by first | (simp only [*] <;> done) | (simp [set_none', Heap.set_same, set_ne, noneH, *] <;> done) | fail) ?_) | (refine Heap.Le.trans ?_ (Grow.le (by assumption))) | exact Le_none | (refine Le_put ?_ (by first | (simp only [Heap.set_same, set_ne, ne_eq, not_false_eq_true, *] <;> rfl) | fail)) | fail)))) rfl rfl
    · obtain rfl : k = n := by omega
      have t0 : ¬ ((k : Nat) : Int) < (k : Nat) := by omega
      clear hget hrow hj rl rg_ rno r10 r11 r12 rel
      (all_goals (try simp only [Sq,Sr,Sh,Si,Sl,Bu,Bb,Bd,Bc,Bw,Bn,Int.reduceAdd,Int.reduceSub,Int.reduceMul,Int.reduceTDiv,Int.reduceTMod,Int.reduceMod,Int.reduceDiv,Nat.reduceLT,Nat.reduceEqDiff,Sa,Sb,Sc,Sd,Se,Sf,Sg,Int.reduceLE,Int.reduceLT,Int.reduceToNat,Int.reduceNeg,Int.reduceEq,Nat.reduceLeDiff,Nat.reducePow,Int.reducePow,reduceIte,Nat.reduceSub,Nat.reduceAdd,Nat.reduceMul,putAt,ceq,List.replicate, *])); repeat' ((first | (with_reducible refine fun _ : True => ?_) | (with_reducible refine any_h ?_) | ((first | refine AllocQ_i ?_ | refine AllocO_i ?_); intro bk hb0 hbk; (try simp only [set_none'] at hbk)) | ((first | refine condS_i ?_ ?_ | refine pick_i ?_ ?_ | refine gS_it ?_ ?_ | refine gS_if ?_ ?_ | refine gP_it ?_ ?_ | refine gP_if ?_ ?_) <;> (intro hc; try simp only [Int.reduceLE,Int.reduceLT,Int.reduceEq,Sn] at hc)) | (with_reducible refine And.intro ?_ ?_)) <;> (try simp only [Sq,Sr,Sh,Si,Sl,Bu,Bb,Bd,Bc,Bw,Bn,Int.reduceAdd,Int.reduceSub,Int.reduceMul,Int.reduceTDiv,Int.reduceTMod,Int.reduceMod,Int.reduceDiv,Nat.reduceLT,Nat.reduceEqDiff,Sa,Sb,Sc,Sd,Se,Sf,Sg,Int.reduceLE,Int.reduceLT,Int.reduceToNat,Int.reduceNeg,Int.reduceEq,Nat.reduceLeDiff,Nat.reducePow,Int.reducePow,reduceIte,Nat.reduceSub,Nat.reduceAdd,Nat.reduceMul,putAt,ceq,List.replicate, *]))
      exact Fin_mk (Heap.Le.refl _) (kpt hy bk _ (Heap.set_same _ _ _) (g0.set hb0 (g0.none n0)))
  · have hCk := fun (G : Heap) (K : Value → Heap → Prop) (g : Grow w0 H G) h => hCk G K g (fun h' => absurd h' hm) (fun _ => h)
    have hn := hn hm
    clear hy hm hc
    unfold Cd.v at hCk ⊢
    replace hn : Keep _ := hn
    replace hCk : Keep _ := hCk
    refine HL.hc k25 999 ?_; unfold M25
    (all_goals (try simp only [Sq,Sr,Sh,Si,Sl,Bu,Bb,Bd,Bc,Bw,Bn,Int.reduceAdd,Int.reduceSub,Int.reduceMul,Int.reduceTDiv,Int.reduceTMod,Int.reduceMod,Int.reduceDiv,Nat.reduceLT,Nat.reduceEqDiff,Sa,Sb,Sc,Sd,Se,Sf,Sg,Int.reduceLE,Int.reduceLT,Int.reduceToNat,Int.reduceNeg,Int.reduceEq,Nat.reduceLeDiff,Nat.reducePow,Int.reducePow,reduceIte,Nat.reduceSub,Nat.reduceAdd,Nat.reduceMul,putAt,ceq,List.replicate, *])); repeat' ((first | (with_reducible refine fun _ : True => ?_) | refine hCk _ _ (by (repeat' (first | exact Grow.refl _ | assumption | (refine Grow_known (by first | (simp only [Heap.set_same, set_ne, ne_eq, not_false_eq_true, *] <;> rfl) | fail) ?_) | (refine Grow.set ?_ (by assumption) (by first | (simp only [*] <;> done) | (simp [set_none', Heap.set_same, set_ne, noneH, *] <;> done) | fail)) | (refine Grow.trans ?_ (by assumption))))) ?_ | (with_reducible refine any_h ?_) | ((first | refine AllocQ_i ?_ | refine AllocO_i ?_); intro bk hb0 hbk; (try simp only [set_none'] at hbk)) | ((first | refine condS_i ?_ ?_ | refine pick_i ?_ ?_ | refine gS_it ?_ ?_ | refine gS_if ?_ ?_ | refine gP_it ?_ ?_ | refine gP_if ?_ ?_) <;> (intro hc; try simp only [Int.reduceLE,Int.reduceLT,Int.reduceEq,Sn] at hc)) | (with_reducible refine And.intro ?_ ?_)) <;> (try simp only [Sq,Sr,Sh,Si,Sl,Bu,Bb,Bd,Bc,Bw,Bn,Int.reduceAdd,Int.reduceSub,Int.reduceMul,Int.reduceTDiv,Int.reduceTMod,Int.reduceMod,Int.reduceDiv,Nat.reduceLT,Nat.reduceEqDiff,Sa,Sb,Sc,Sd,Se,Sf,Sg,Int.reduceLE,Int.reduceLT,Int.reduceToNat,Int.reduceNeg,Int.reduceEq,Nat.reduceLeDiff,Nat.reducePow,Int.reducePow,reduceIte,Nat.reduceSub,Nat.reduceAdd,Nat.reduceMul,putAt,ceq,List.replicate, *]))
    all_goals exact Fin_mk (by (repeat' (first | exact Heap.Le.refl _ | (with_reducible refine Le_set2 ?_) | (refine Le_known (by first | (simp only [Heap.set_same, set_ne, ne_eq, not_false_eq_true, *] <;> rfl) | fail) ?_) | (refine Le_fresh (by first | (simp only [*] <;> done) | (simp [set_none', Heap.set_same, set_ne, noneH, *] <;> done) | fail) ?_) | (refine Heap.Le.trans ?_ (Grow.le (by assumption))) | exact Le_none | (refine Le_put ?_ (by first | (simp only [Heap.set_same, set_ne, ne_eq, not_false_eq_true, *] <;> rfl) | fail)) | fail))) hn
end Go.Proofs.Ytndgmnmnpfblmaa
