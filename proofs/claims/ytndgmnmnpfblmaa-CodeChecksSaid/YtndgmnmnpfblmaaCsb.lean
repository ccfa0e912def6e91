/- The statement CodeChecks, as a call; rows of codes as an argument (layer 16). -/
import Derived.Test.YtndgmnmnpfblmaaCsa
import Derived.Test.YtndgmnmnpfblmaaCdo
set_option linter.unusedSimpArgs false
set_option linter.unusedVariables false
set_option maxRecDepth 100000
set_option maxHeartbeats 4000000
namespace Go.Proofs.Ytndgmnmnpfblmaa
open Go.HL Go.RowKit Go.ChangeShapes Go.WideShapes Pb

def InsX (i : Ins) : Prop := ∀ x ∈ i.nums, -9223372036854775808 ≤ x ∧ x ≤ 9223372036854775807
structure CdX (W : World) (H : Heap) (c : Cd) : Prop where
  at_ : CdAt W H c
  w : ∀ i ∈ c.is, InsX i
  hd : I64 c.st ∧ I64 c.rg ∧ I64 c.ab ∧ I64 c.un ∧ I64 c.va
theorem few_nums {W : World} {H : Heap} {c : Cd} (h : CdX W H c) : ∀ x ∈ (c.few 0).nums, -9223372036854775808 ≤ x ∧ x ≤ 9223372036854775807 := fun x hx => by
  obtain ⟨h1, h2, h3, h4, h5⟩ := h.hd
  have hl := few_le c 0
  rcases List.mem_append.1 hx with hx | hx
  · unfold Cd.hd at hx
    simp only [List.mem_cons, List.not_mem_nil, or_false] at hx
    rcases hx with rfl | rfl | rfl | rfl | rfl | rfl | rfl
    · decide
    · exact h1
    · exact h2
    · exact h3
    · exact h4
    · exact h5
    · omega
  · obtain ⟨l, hl, hx⟩ := List.mem_flatten.1 hx
    obtain ⟨i, hi, rfl⟩ := List.mem_map.1 hl
    exact h.w i (List.mem_of_mem_take hi) x hx
def Cd.row (c : Cd) : List Value := [.int .i64 c.st, .slice c.adr c.is.length c.cap, .int .i64 c.rg, .int .i64 c.ab, .int .i64 c.un, .int .i64 c.va]
section
variable {W : World}
theorem open_insX {D : Nat} {cs : List Value} (h : Arg Try.prog W (D + 4) 30 cs) : ∃ x : Ins, cs = x.row ∧ InsX x := by
  have hl := arg_len (n := 16) h 0 (by kernel_rfl) (by kernel_rfl)
  obtain ⟨a0, a1, a2, a3, a4, a5, a6, a7, a8, a9, b0, b1, b2, b3, b4, b5, rfl⟩ := len16c hl
  have f0 := arg_fld (ft := 3) h (i := 0) (off := 0) (n := 1) (by kernel_rfl) (by kernel_rfl); obtain ⟨n0, e0, q0⟩ := arg_int (k := .i64) f0 (by kernel_rfl); have f1 := arg_fld (ft := 3) h (i := 1) (off := 1) (n := 1) (by kernel_rfl) (by kernel_rfl); obtain ⟨n1, e1, q1⟩ := arg_int (k := .i64) f1 (by kernel_rfl); have f2 := arg_fld (ft := 3) h (i := 2) (off := 2) (n := 1) (by kernel_rfl) (by kernel_rfl); obtain ⟨n2, e2, q2⟩ := arg_int (k := .i64) f2 (by kernel_rfl); have f3 := arg_fld (ft := 3) h (i := 3) (off := 3) (n := 1) (by kernel_rfl) (by kernel_rfl); obtain ⟨n3, e3, q3⟩ := arg_int (k := .i64) f3 (by kernel_rfl); have f4 := arg_fld (ft := 3) h (i := 4) (off := 4) (n := 1) (by kernel_rfl) (by kernel_rfl); obtain ⟨n4, e4, q4⟩ := arg_int (k := .i64) f4 (by kernel_rfl); have f5 := arg_fld (ft := 3) h (i := 5) (off := 5) (n := 1) (by kernel_rfl) (by kernel_rfl); obtain ⟨n5, e5, q5⟩ := arg_int (k := .i64) f5 (by kernel_rfl); have f6 := arg_fld (ft := 3) h (i := 6) (off := 6) (n := 1) (by kernel_rfl) (by kernel_rfl); obtain ⟨n6, e6, q6⟩ := arg_int (k := .i64) f6 (by kernel_rfl); have f7 := arg_fld (ft := 3) h (i := 7) (off := 7) (n := 1) (by kernel_rfl) (by kernel_rfl); obtain ⟨n7, e7, q7⟩ := arg_int (k := .i64) f7 (by kernel_rfl); have f8 := arg_fld (ft := 27) h (i := 8) (off := 8) (n := 4) (by kernel_rfl) (by kernel_rfl); have f9 := arg_fld (ft := 28) h (i := 9) (off := 12) (n := 4) (by kernel_rfl) (by kernel_rfl)
  obtain ⟨i0, i1, i2, i3, eI, w0, w1, w2, w3⟩ := open_arr4 (k := .i32) (e := 25) (by kernel_rfl) (by kernel_rfl) (by kernel_rfl) (by kernel_rfl) f8
  obtain ⟨p0, p1, p2, p3, eP, v0, v1, v2, v3⟩ := open_arr4 (k := .i64) (e := 3) (by kernel_rfl) (by kernel_rfl) (by kernel_rfl) (by kernel_rfl) f9
  simp at e0 e1 e2 e3 e4 e5 e6 e7 eI eP
  obtain ⟨rfl, rfl, rfl, rfl⟩ := eI
  obtain ⟨rfl, rfl, rfl, rfl⟩ := eP
  subst e0 e1 e2 e3 e4 e5 e6 e7
  refine ⟨⟨n0, n1, n2, n3, n4, n5, n6, n7, i0, i1, i2, i3, p0, p1, p2, p3⟩, rfl, fun x hx => ?_⟩
  have m0 := bounds_i32 w0
  have m1 := bounds_i32 w1
  have m2 := bounds_i32 w2
  have m3 := bounds_i32 w3
  unfold Ins.nums at hx
  simp only [List.mem_cons, List.not_mem_nil, or_false] at hx
  rcases hx with rfl | rfl | rfl | rfl | rfl | rfl | rfl | rfl | rfl | rfl | rfl | rfl | rfl | rfl | rfl | rfl
  all_goals first | exact i64_wf (by assumption) | (constructor <;> omega)
theorem open_cdX {D : Nat} {cs : List Value} (h : Arg Try.prog W (D + 6) 34 cs) : ∃ x : Cd, cs = x.row ∧ CdX W (fun _ => none) x := by
  have hl := arg_len (n := 6) h 0 (by kernel_rfl) (by kernel_rfl)
  obtain ⟨c0, c1, c2, c3, c4, c5, rfl⟩ := len6c hl
  have f0 := arg_fld (ft := 3) h (i := 0) (off := 0) (n := 1) (by kernel_rfl) (by kernel_rfl); obtain ⟨n0, e0, q0⟩ := arg_int (k := .i64) f0 (by kernel_rfl); have f1 := arg_fld (ft := 22) h (i := 1) (off := 1) (n := 1) (by kernel_rfl) (by kernel_rfl); obtain ⟨a1, cap1, rows1, e1, lc1, lm1, lb1, ln1, lr1, ls1⟩ := open_rows (e := 30) (sz := 16) (by kernel_rfl) (by kernel_rfl) (by decide) f1; have f2 := arg_fld (ft := 3) h (i := 2) (off := 2) (n := 1) (by kernel_rfl) (by kernel_rfl); obtain ⟨n2, e2, q2⟩ := arg_int (k := .i64) f2 (by kernel_rfl); have f3 := arg_fld (ft := 3) h (i := 3) (off := 3) (n := 1) (by kernel_rfl) (by kernel_rfl); obtain ⟨n3, e3, q3⟩ := arg_int (k := .i64) f3 (by kernel_rfl); have f4 := arg_fld (ft := 3) h (i := 4) (off := 4) (n := 1) (by kernel_rfl) (by kernel_rfl); obtain ⟨n4, e4, q4⟩ := arg_int (k := .i64) f4 (by kernel_rfl); have f5 := arg_fld (ft := 3) h (i := 5) (off := 5) (n := 1) (by kernel_rfl) (by kernel_rfl); obtain ⟨n5, e5, q5⟩ := arg_int (k := .i64) f5 (by kernel_rfl)
  obtain ⟨ls, rfl, hls⟩ := map_of (f := Ins.row) (q := InsX) rows1 fun y hy => open_insX (D := D) (lr1 y hy).2
  simp at e0 e1 e2 e3 e4 e5
  subst e0 e2 e3 e4 e5
  exact ⟨⟨n0, a1, cap1, ls, n2, n3, n4, n5⟩, by rw [e1]; rfl, ⟨ls1, by simpa using lm1, by simpa using lc1⟩, hls, i64_wf q0, i64_wf q2, i64_wf q3, i64_wf q4, i64_wf q5⟩
theorem open_codes {r : Reach} {b : Nat} {v : Value} (hv : Value.okWide Try.prog W r b 58 v) (h : Arg Try.prog W 8 58 v.cells.toList) :
    ∃ x : Option Addr × Nat × List Cd, v = .slice x.1 x.2.2.length x.2.1 ∧ SlAt W (fun _ => none) x.1 (x.2.2.map Cd.row).flatten ∧ x.2.2.length ≤ maxLen ∧ ∀ c ∈ x.2.2, CdX W (fun _ => none) c := by
  rw [slice_cells (by kernel_rfl : Try.prog.underlying 58 = some (.slice 34)) hv] at h
  obtain ⟨a, cap, rows, e, lc, lm, lb, -, lr, ls⟩ := open_rows (e := 34) (sz := 6) (by kernel_rfl) (by kernel_rfl) (by decide) h
  obtain ⟨l, rfl, hq⟩ := map_of (f := Cd.row) (q := CdX W (fun _ => none)) rows fun y hy => open_cdX (D := 1) (lr y hy).2
  rw [List.length_map] at lc lm lb e
  exact ⟨(a, cap, l), by simpa using e, ls, lm, hq⟩
end
variable {w0 : World} {H G : Heap} {K : Value → Heap → Prop}
theorem c_checks (c : Cd) (hc : CdX w0 H c) (h : K (.bool true) H) : HCalls Try.prog w0 26 [c.v] H K := by
  exact c_checks0 c hc.at_ (few_nums hc) h
theorem CdX.grow {c : Cd} (h : CdX w0 H c) (g : Grow w0 H G) : CdX w0 G c := ⟨h.at_.grow g, h.w, h.hd⟩
theorem cd_row {a : Option Addr} {l : List Cd} (h : SlAt w0 H a (l.map Cd.row).flatten) {k : Nat} {c : Cd} (hk : l[k]? = some c) : ∃ b o, a = some ⟨b, o, none⟩ ∧ rdn w0 H b (o + k * 6) 6 = some c.row ∧ ∀ d, w0.heap.size ≤ d → H d = none → d ≠ b :=
  h.row (fun r hr => by obtain ⟨j, -, rfl⟩ := List.mem_map.1 hr; rfl) (by omega) (i := k) (by rw [List.getElem?_map, hk]; rfl)
/- paintboxlaw16 CodeChecks -/
def M9 : MC :=
  .seq (.reg [⟨(some 2), .mv (.const (.bool false)), none⟩])
 (.seq (.seq (.reg [⟨(some 5), .call 10 [], none⟩,
 ⟨(some 6), .un .not (.tmp 5), none⟩])
 (.cond (.tmp 6)
 (.seq (.reg [⟨(some 2), .mv (.const (.bool false)), none⟩])
 (.ret))
 (.skip)))
 (.seq (.seq (.reg [⟨(some 7), .mv (.tmp 0), none⟩,
 ⟨(some 8), .len (.tmp 7), none⟩,
 ⟨(some 9), .mv (.const (.int .i64 0)), none⟩])
 (.block 0 (.loop (.seq (.reg [⟨(some 10), .bin .lss (.tmp 9) (.tmp 8), none⟩])
 (.seq (.cond (.tmp 10)
 (.skip)
 (.exit 0))
 (.seq (.block 1 (.seq (.reg [⟨(some 11), .mv (.tmp 9), none⟩,
 ⟨(some 12), .is 6 (.tmp 7) (.tmp 9), none⟩,
 ⟨(some 13), .ldn 6 (.tmp 12), none⟩,
 ⟨(some 4), .alloc 34 [(.int .i64 0), (.slice none 0 0), (.int .i64 0), (.int .i64 0), (.int .i64 0), (.int .i64 0)], none⟩,
 ⟨(some 3), .mv (.tmp 11), none⟩,
 ⟨none, .stn 6 (.tmp 4) (.tmp 13), none⟩])
 (.seq (.reg [⟨(some 14), .mv (.tmp 3), none⟩,
 ⟨(some 15), .bin .lss (.tmp 14) (.const (.int .i64 12)), none⟩,
 ⟨(some 16), .mv (.tmp 15), none⟩,
 ⟨(some 17), .ldn 6 (.tmp 4), (some (16, true))⟩,
 ⟨(some 18), .call 26 [(.tmp 17)], (some (16, true))⟩,
 ⟨(some 19), .un .not (.tmp 18), (some (16, true))⟩,
 ⟨(some 20), .pick (.tmp 16) (.tmp 19) (.const (.bool false)), none⟩])
 (.cond (.tmp 20)
 (.seq (.reg [⟨(some 2), .mv (.const (.bool false)), none⟩])
 (.ret))
 (.skip)))))
 (.reg [⟨(some 21), .bin .add (.tmp 9) (.const (.int .i64 1)), none⟩,
 ⟨(some 9), .mv (.tmp 21), none⟩])))))))
 (.seq (.reg [⟨(some 2), .mv (.const (.bool true)), none⟩])
 (.ret))))
theorem k9 : fnOk Try.prog 9 = some (M9, [.t 2], 22) := by kernel_rfl

theorem l_CodeChecks {a : Option Addr} {cap : Nat} (l : List Cd) (hs : SlAt w0 H a (l.map Cd.row).flatten) (hlm : l.length ≤ maxLen) (hx : ∀ c ∈ l, CdX w0 H c) (h : K (.bool true) H) :
    HCalls Try.prog w0 9 [.slice a l.length cap] H K := by
  obtain ⟨n, en⟩ : ∃ n, l.length = n := ⟨_, rfl⟩
  have hget : ∀ k, k < n → ∃ c, l[k]? = some c := fun k hk => ⟨_, List.getElem?_eq_getElem (by rw [en]; exact hk)⟩
  rw [en] at hlm ⊢
  unfold maxLen at hlm
  replace h : Keep _ := h
  replace en : Keep _ := en
  replace hs : Keep _ := hs
  replace hx : Keep _ := hx
  replace hget : Keep _ := hget
  refine HL.hc k9 999 ?_; unfold M9
  (all_goals (try simp only [Sq,Sr,Sh,Si,Sl,Bu,Bb,Bd,Bc,Bw,Bn,Int.reduceAdd,Int.reduceSub,Int.reduceMul,Int.reduceTDiv,Int.reduceTMod,Int.reduceMod,Int.reduceDiv,Nat.reduceLT,Nat.reduceEqDiff,Sa,Sb,Sc,Sd,Se,Sf,Sg,Int.reduceLE,Int.reduceLT,Int.reduceToNat,Int.reduceNeg,Int.reduceEq,Nat.reduceLeDiff,Nat.reducePow,Int.reducePow,reduceIte,Nat.reduceSub,Nat.reduceAdd,Nat.reduceMul,putAt,ceq,List.replicate, *])); repeat' ((first | (with_reducible refine fun _ : True => ?_) | refine c_wakes ?_ | (with_reducible refine any_h ?_) | ((first | refine AllocQ_i ?_ | refine AllocO_i ?_); intro bk hb0 hbk; (try simp only [set_none'] at hbk); (try (first | have hbn := Grow.none (by assumption) hbk | have hbn := Grow.none (by assumption) hbk.2 | have hbn := Grow.none (by assumption) hbk.2.2 | have hbn := Grow.none (by assumption) hbk.2.2.2 | have hbn := Grow.none (by assumption) hbk.2.2.2.2 | have hbn := Grow.none (by assumption) hbk.2.2.2.2.2)); (try simp only [set_none'] at hbn); (try (first | have hbm := Grow.none (by assumption) hbn | have hbm := Grow.none (by assumption) hbn.2 | have hbm := Grow.none (by assumption) hbn.2.2 | have hbm := Grow.none (by assumption) hbn.2.2.2 | have hbm := Grow.none (by assumption) hbn.2.2.2.2 | have hbm := Grow.none (by assumption) hbn.2.2.2.2.2)); (try simp only [set_none'] at hbm)) | ((first | refine condS_i ?_ ?_ | refine pick_i ?_ ?_ | refine gS_it ?_ ?_ | refine gS_if ?_ ?_ | refine gP_it ?_ ?_ | refine gP_if ?_ ?_) <;> (intro hc; try simp only [Int.reduceLE,Int.reduceLT,Int.reduceEq,Sn] at hc)) | (refine KP_i (by (repeat' (first | exact Heap.Le.refl _ | (with_reducible refine Le_set2 ?_) | (refine Le_known (by first | (simp only [Heap.set_same, set_ne, ne_eq, not_false_eq_true, *] <;> rfl) | fail) ?_) | (refine Le_fresh (by first | (simp only [*] <;> done) | (simp [set_none', Heap.set_same, set_ne, noneH, *] <;> done) | fail) ?_) | (refine Heap.Le.trans ?_ (Grow.le (by assumption))) | exact Le_none | (refine Le_put ?_ (by first | (simp only [Heap.set_same, set_ne, ne_eq, not_false_eq_true, *] <;> rfl) | fail)) | fail))) ?_) | (with_reducible refine And.intro ?_ ?_)) <;> (try simp only [Sq,Sr,Sh,Si,Sl,Bu,Bb,Bd,Bc,Bw,Bn,Int.reduceAdd,Int.reduceSub,Int.reduceMul,Int.reduceTDiv,Int.reduceTMod,Int.reduceMod,Int.reduceDiv,Nat.reduceLT,Nat.reduceEqDiff,Sa,Sb,Sc,Sd,Se,Sf,Sg,Int.reduceLE,Int.reduceLT,Int.reduceToNat,Int.reduceNeg,Int.reduceEq,Nat.reduceLeDiff,Nat.reducePow,Int.reducePow,reduceIte,Nat.reduceSub,Nat.reduceAdd,Nat.reduceMul,putAt,ceq,List.replicate, *]))
  refine loop_g 10 (fun s : Nat × Value × Value => [(3, s.2.1), (4, s.2.2), (9, .int .i64 (s.1 : Nat))]) (fun s => H) (fun s => s.1 ≤ n) (fun s => n - s.1) (0, undef, undef) (Nat.zero_le _) (Heap.Le.refl _) rfl ?_
  intro ⟨k, v3, v4⟩ g hk
  simp only at hk
  by_cases hlt : k < n
  · obtain ⟨c, ec⟩ := kpz hget k hlt
    obtain ⟨b, o, rfl, hr, hf⟩ := cd_row (kpz hs) ec
    have hX : CdX w0 H c := kpz hx c (List.mem_iff_getElem?.2 ⟨k, ec⟩)
    have hC := fun (G : Heap) (K : Value → Heap → Prop) (g : Grow w0 H G) h => c_checks (w0 := w0) (H := G) (K := K) c (hX.grow g) h
    have t0 : (k : Int) < n := by omega
    have t6 : IntKind.i64.wrap ((k : Int) + 1) = ((k + 1 : Nat) : Int) := by rw [Bw.1 _ (by omega) (by omega)]; omega
    unfold Cd.row at hr
    unfold Cd.v at hC
    clear hX ec
    replace hC : Keep _ := hC
    by_cases h12 : (k : Int) < 12
    all_goals
      (all_goals (try simp only [Sq,Sr,Sh,Si,Sl,Bu,Bb,Bd,Bc,Bw,Bn,Int.reduceAdd,Int.reduceSub,Int.reduceMul,Int.reduceTDiv,Int.reduceTMod,Int.reduceMod,Int.reduceDiv,Nat.reduceLT,Nat.reduceEqDiff,Sa,Sb,Sc,Sd,Se,Sf,Sg,Int.reduceLE,Int.reduceLT,Int.reduceToNat,Int.reduceNeg,Int.reduceEq,Nat.reduceLeDiff,Nat.reducePow,Int.reducePow,reduceIte,Nat.reduceSub,Nat.reduceAdd,Nat.reduceMul,putAt,ceq,List.replicate, *])); repeat' ((first | (with_reducible refine fun _ : True => ?_) | refine hC _ _ (by (repeat' (first | exact Grow.refl _ | assumption | (refine Grow_known (by first | (simp only [Heap.set_same, set_ne, ne_eq, not_false_eq_true, *] <;> rfl) | fail) ?_) | (refine Grow.set ?_ (by assumption) (by first | (simp only [*] <;> done) | (simp [set_none', Heap.set_same, set_ne, noneH, *] <;> done) | fail)) | (refine Grow.trans ?_ (by assumption))))) ?_ | (with_reducible refine any_h ?_) | ((first | refine AllocQ_i ?_ | refine AllocO_i ?_); intro bk hb0 hbk; (try simp only [set_none'] at hbk); (try (first | have hbn := Grow.none (by assumption) hbk | have hbn := Grow.none (by assumption) hbk.2 | have hbn := Grow.none (by assumption) hbk.2.2 | have hbn := Grow.none (by assumption) hbk.2.2.2 | have hbn := Grow.none (by assumption) hbk.2.2.2.2 | have hbn := Grow.none (by assumption) hbk.2.2.2.2.2)); (try simp only [set_none'] at hbn); (try (first | have hbm := Grow.none (by assumption) hbn | have hbm := Grow.none (by assumption) hbn.2 | have hbm := Grow.none (by assumption) hbn.2.2 | have hbm := Grow.none (by assumption) hbn.2.2.2 | have hbm := Grow.none (by assumption) hbn.2.2.2.2 | have hbm := Grow.none (by assumption) hbn.2.2.2.2.2)); (try simp only [set_none'] at hbm)) | ((first | refine condS_i ?_ ?_ | refine pick_i ?_ ?_ | refine gS_it ?_ ?_ | refine gS_if ?_ ?_ | refine gP_it ?_ ?_ | refine gP_if ?_ ?_) <;> (intro hc; try simp only [Int.reduceLE,Int.reduceLT,Int.reduceEq,Sn] at hc)) | (refine KP_i (by (repeat' (first | exact Heap.Le.refl _ | (with_reducible refine Le_set2 ?_) | (refine Le_known (by first | (simp only [Heap.set_same, set_ne, ne_eq, not_false_eq_true, *] <;> rfl) | fail) ?_) | (refine Le_fresh (by first | (simp only [*] <;> done) | (simp [set_none', Heap.set_same, set_ne, noneH, *] <;> done) | fail) ?_) | (refine Heap.Le.trans ?_ (Grow.le (by assumption))) | exact Le_none | (refine Le_put ?_ (by first | (simp only [Heap.set_same, set_ne, ne_eq, not_false_eq_true, *] <;> rfl) | fail)) | fail))) ?_) | (with_reducible refine And.intro ?_ ?_)) <;> (try simp only [Sq,Sr,Sh,Si,Sl,Bu,Bb,Bd,Bc,Bw,Bn,Int.reduceAdd,Int.reduceSub,Int.reduceMul,Int.reduceTDiv,Int.reduceTMod,Int.reduceMod,Int.reduceDiv,Nat.reduceLT,Nat.reduceEqDiff,Sa,Sb,Sc,Sd,Se,Sf,Sg,Int.reduceLE,Int.reduceLT,Int.reduceToNat,Int.reduceNeg,Int.reduceEq,Nat.reduceLeDiff,Nat.reducePow,Int.reducePow,reduceIte,Nat.reduceSub,Nat.reduceAdd,Nat.reduceMul,putAt,ceq,List.replicate, *]))
      exact Round_mk (k + 1, _, _) hlt (Nat.sub_succ_lt_self n k hlt) (by (repeat' (first | exact Heap.Le.refl _ | (with_reducible refine Le_set2 ?_) | (refine Le_known (by first | (simp only [Heap.set_same, set_ne, ne_eq, not_false_eq_true, *] <;> rfl) | fail) ?_) | (refine Le_fresh (by first | (simp only [*] <;> done) | (simp [set_none', Heap.set_same, set_ne, noneH, *] <;> done) | fail) ?_) | (refine Heap.Le.trans ?_ (Grow.le (by assumption))) | exact Le_none | (refine Le_put ?_ (by first | (simp only [Heap.set_same, set_ne, ne_eq, not_false_eq_true, *] <;> rfl) | fail)) | fail))) rfl rfl
  · obtain rfl : k = n := by omega
    have t0 : ¬ ((k : Nat) : Int) < (k : Nat) := by omega
    (all_goals (try simp only [Sq,Sr,Sh,Si,Sl,Bu,Bb,Bd,Bc,Bw,Bn,Int.reduceAdd,Int.reduceSub,Int.reduceMul,Int.reduceTDiv,Int.reduceTMod,Int.reduceMod,Int.reduceDiv,Nat.reduceLT,Nat.reduceEqDiff,Sa,Sb,Sc,Sd,Se,Sf,Sg,Int.reduceLE,Int.reduceLT,Int.reduceToNat,Int.reduceNeg,Int.reduceEq,Nat.reduceLeDiff,Nat.reducePow,Int.reducePow,reduceIte,Nat.reduceSub,Nat.reduceAdd,Nat.reduceMul,putAt,ceq,List.replicate, *])); repeat' ((first | (with_reducible refine fun _ : True => ?_) | (with_reducible refine any_h ?_) | ((first | refine AllocQ_i ?_ | refine AllocO_i ?_); intro bk hb0 hbk; (try simp only [set_none'] at hbk); (try (first | have hbn := Grow.none (by assumption) hbk | have hbn := Grow.none (by assumption) hbk.2 | have hbn := Grow.none (by assumption) hbk.2.2 | have hbn := Grow.none (by assumption) hbk.2.2.2 | have hbn := Grow.none (by assumption) hbk.2.2.2.2 | have hbn := Grow.none (by assumption) hbk.2.2.2.2.2)); (try simp only [set_none'] at hbn); (try (first | have hbm := Grow.none (by assumption) hbn | have hbm := Grow.none (by assumption) hbn.2 | have hbm := Grow.none (by assumption) hbn.2.2 | have hbm := Grow.none (by assumption) hbn.2.2.2 | have hbm := Grow.none (by assumption) hbn.2.2.2.2 | have hbm := Grow.none (by assumption) hbn.2.2.2.2.2)); (try simp only [set_none'] at hbm)) | ((first | refine condS_i ?_ ?_ | refine pick_i ?_ ?_ | refine gS_it ?_ ?_ | refine gS_if ?_ ?_ | refine gP_it ?_ ?_ | refine gP_if ?_ ?_) <;> (intro hc; try simp only [Int.reduceLE,Int.reduceLT,Int.reduceEq,Sn] at hc)) | (refine KP_i (by (repeat' (first | exact Heap.Le.refl _ | (with_reducible refine Le_set2 ?_) | (refine Le_known (by first | (simp only [Heap.set_same, set_ne, ne_eq, not_false_eq_true, *] <;> rfl) | fail) ?_) | (refine Le_fresh (by first | (simp only [*] <;> done) | (simp [set_none', Heap.set_same, set_ne, noneH, *] <;> done) | fail) ?_) | (refine Heap.Le.trans ?_ (Grow.le (by assumption))) | exact Le_none | (refine Le_put ?_ (by first | (simp only [Heap.set_same, set_ne, ne_eq, not_false_eq_true, *] <;> rfl) | fail)) | fail))) ?_) | (with_reducible refine And.intro ?_ ?_)) <;> (try simp only [Sq,Sr,Sh,Si,Sl,Bu,Bb,Bd,Bc,Bw,Bn,Int.reduceAdd,Int.reduceSub,Int.reduceMul,Int.reduceTDiv,Int.reduceTMod,Int.reduceMod,Int.reduceDiv,Nat.reduceLT,Nat.reduceEqDiff,Sa,Sb,Sc,Sd,Se,Sf,Sg,Int.reduceLE,Int.reduceLT,Int.reduceToNat,Int.reduceNeg,Int.reduceEq,Nat.reduceLeDiff,Nat.reducePow,Int.reducePow,reduceIte,Nat.reduceSub,Nat.reduceAdd,Nat.reduceMul,putAt,ceq,List.replicate, *]))
    exact Fin_mk (Heap.Le.refl _) (kpz h)
end Go.Proofs.Ytndgmnmnpfblmaa
