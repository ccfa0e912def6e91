/- Numbers of bytes, by the document (layer 16). -/
import Derived.Test.YtndgmnmnpfblmaaCdl
import Derived.Test.YtndgmnmnpfblmaaCdg
import Derived.Test.YtndgmnmnpfblmaaHlu
set_option linter.unusedSimpArgs false
set_option linter.unusedVariables false
set_option maxRecDepth 100000
set_option maxHeartbeats 4000000
namespace Go.Proofs.Ytndgmnmnpfblmaa
open Go.HL Go.RowKit Pb
variable {w0 : World} {H G : Heap} {K : Value → Heap → Prop}

theorem numA_four {l : List Int} {p : Nat} (hp : p + 4 ≤ l.length) : ∃ a b c d, l[p]? = some a ∧ l[p + 1]? = some b ∧ l[p + 2]? = some c ∧ l[p + 3]? = some d ∧ numA l p = a + b * 256 + c * 65536 + d * 16777216 := by
  have hd : (l.drop p).length = l.length - p := List.length_drop
  match e : l.drop p with
  | [] => rw [e] at hd; simp at hd; omega
  | [_] => rw [e] at hd; simp at hd; omega
  | [_, _] => rw [e] at hd; simp at hd; omega
  | [_, _, _] => rw [e] at hd; simp at hd; omega
  | a :: b :: c :: d :: r =>
    have g := fun j => show l[p + j]? = (a :: b :: c :: d :: r)[j]? by rw [← e, List.getElem?_drop]
    refine ⟨a, b, c, d, by simpa using g 0, by simpa using g 1, by simpa using g 2, by simpa using g 3, ?_⟩
    unfold numA
    rw [e]
    show numL [a, b, c, d] = _
    unfold numL numL numL numL numL
    omega
/- paintboxref16 num -/
def M36 : MC :=
  .seq (.reg [⟨(some 4), .mv (.const (.int .i64 0)), none⟩])
  (.seq (.any [(true, 0, [], ⟨(some 5), .mv (.tmp 0), none⟩),
      (true, 1, [], ⟨(some 6), .mv (.tmp 1), none⟩),
      (true, 2, [], ⟨(some 7), .is 1 (.tmp 5) (.tmp 6), none⟩),
      (true, 3, [], ⟨(some 8), .ld1 (.tmp 7), none⟩),
      (true, 4, [], ⟨(some 9), .conv .i64 (.tmp 8), none⟩),
      (true, 5, [], ⟨(some 10), .mv (.tmp 0), none⟩),
      (true, 6, [], ⟨(some 11), .mv (.tmp 1), none⟩),
      (true, 7, [], ⟨(some 12), .bin .add (.tmp 11) (.const (.int .i64 1)), none⟩),
      (true, 8, [], ⟨(some 13), .is 1 (.tmp 10) (.tmp 12), none⟩),
      (true, 9, [], ⟨(some 14), .ld1 (.tmp 13), none⟩),
      (true, 10, [], ⟨(some 15), .conv .i64 (.tmp 14), none⟩),
      (true, 11, [], ⟨(some 16), .bin .shl (.tmp 15) (.const (.int .u64 8)), none⟩),
      (true, 12, [], ⟨(some 17), .bin .add (.tmp 9) (.tmp 16), none⟩),
      (true, 13, [], ⟨(some 18), .mv (.tmp 0), none⟩),
      (true, 14, [], ⟨(some 19), .mv (.tmp 1), none⟩),
      (true, 15, [], ⟨(some 20), .bin .add (.tmp 19) (.const (.int .i64 2)), none⟩),
      (true, 16, [], ⟨(some 21), .is 1 (.tmp 18) (.tmp 20), none⟩),
      (true, 17, [], ⟨(some 22), .ld1 (.tmp 21), none⟩),
      (true, 18, [], ⟨(some 23), .conv .i64 (.tmp 22), none⟩),
      (true, 19, [], ⟨(some 24), .bin .shl (.tmp 23) (.const (.int .u64 16)), none⟩),
      (true, 20, [], ⟨(some 25), .bin .add (.tmp 17) (.tmp 24), none⟩),
      (true, 21, [], ⟨(some 26), .mv (.tmp 0), none⟩),
      (false, 22, [0, 1, 2, 3, 4, 5, 6, 7, 8, 9, 10, 11, 12, 13, 14, 15, 16, 17, 18, 19, 20, 21], ⟨(some 27), .mv (.tmp 1), none⟩),
      (false, 23, [0, 1, 2, 3, 4, 5, 6, 7, 8, 9, 10, 11, 12, 13, 14, 15, 16, 17, 18, 19, 20, 21], ⟨(some 28), .bin .add (.tmp 27) (.const (.int .i64 3)), none⟩),
      (false, 24, [0, 1, 2, 3, 4, 5, 6, 7, 8, 9, 10, 11, 12, 13, 14, 15, 16, 17, 18, 19, 20], ⟨(some 29), .is 1 (.tmp 26) (.tmp 28), none⟩),
      (false, 25, [0, 1, 2, 3, 4, 5, 6, 7, 8, 9, 10, 11, 12, 13, 14, 15, 16, 17, 18, 19, 20], ⟨(some 30), .ld1 (.tmp 29), none⟩),
      (false, 26, [0, 1, 2, 3, 4, 5, 6, 7, 8, 9, 10, 11, 12, 13, 14, 15, 16, 17, 18, 19, 20], ⟨(some 31), .conv .i64 (.tmp 30), none⟩),
      (false, 27, [0, 1, 2, 3, 4, 5, 6, 7, 8, 9, 10, 11, 12, 13, 14, 15, 16, 17, 18, 19, 20], ⟨(some 32), .bin .shl (.tmp 31) (.const (.int .u64 24)), none⟩),
      (false, 28, [], ⟨(some 33), .bin .add (.tmp 25) (.tmp 32), none⟩),
      (false, 29, [], ⟨(some 4), .mv (.tmp 33), none⟩)])
   (.ret))
theorem k36 : fnOk Try.prog 36 = some (M36, [.t 4], 34) := by kernel_rfl

theorem r_num (a : Option Addr) (cp : Nat) (l : List Int) (p : Nat) (hA : IntsAt w0 H .u8 a l) (hl : l.length ≤ 1000000000) (hw : ∀ x ∈ l, 0 ≤ x ∧ x < 256) (hp : p + 4 ≤ l.length) (h : K (.int .i64 (numA l p)) H) :
    HCalls Try.prog w0 36 [.slice a l.length cp, .int .i64 (p : Nat)] H K := by
  obtain ⟨x0, x1, x2, x3, e0, e1, e2, e3, en⟩ := numA_four hp
  have w := fun {j : Nat} {x : Int} (h : l[j]? = some x) => hw x (List.mem_iff_getElem?.2 ⟨j, h⟩)
  have w0_ := w e0
  have w1 := w e1
  have w2 := w e2
  have w3 := w e3
  rw [en] at h
  obtain ⟨b, o, rfl, hr, hf⟩ := hA (fun e => by subst e; simp at hp)
  have hr := fun i (hi : i < l.length) => hr i hi
  have r := fun {j : Nat} {x : Int} (h : l[j]? = some x) => show HL.rd1 w0 H b (o + j) = some (.int .u8 x) by
    rw [hr j (List.getElem?_eq_some_iff.1 h).1, List.getD_eq_getElem?_getD, h]; rfl
  have r0 := r e0
  have r1 := r e1
  have r2 := r e2
  have r3 := r e3
  have f0 : (p : Int) < (l.length : Int) := by omega
  have f1 : ((p + 1 : Nat) : Int) < (l.length : Int) := by omega
  have f2 : ((p + 2 : Nat) : Int) < (l.length : Int) := by omega
  have f3 : ((p + 3 : Nat) : Int) < (l.length : Int) := by omega
  have g1 : IntKind.i64.wrap ((p : Int) + 1) = ((p + 1 : Nat) : Int) := by rw [Bw.1 _ (by omega) (by omega)]; omega
  have g2 : IntKind.i64.wrap ((p : Int) + 2) = ((p + 2 : Nat) : Int) := by rw [Bw.1 _ (by omega) (by omega)]; omega
  have g3 : IntKind.i64.wrap ((p : Int) + 3) = ((p + 3 : Nat) : Int) := by rw [Bw.1 _ (by omega) (by omega)]; omega
  have c0 : IntKind.i64.wrap x0 = x0 := Bw.1 _ (by omega) (by omega)
  have c1 : IntKind.i64.wrap x1 = x1 := Bw.1 _ (by omega) (by omega)
  have c2 : IntKind.i64.wrap x2 = x2 := Bw.1 _ (by omega) (by omega)
  have c3 : IntKind.i64.wrap x3 = x3 := Bw.1 _ (by omega) (by omega)
  have d1 : IntKind.i64.wrap (x1 * 256) = x1 * 256 := Bw.1 _ (by omega) (by omega)
  have d2 : IntKind.i64.wrap (x2 * 65536) = x2 * 65536 := Bw.1 _ (by omega) (by omega)
  have d3 : IntKind.i64.wrap (x3 * 16777216) = x3 * 16777216 := Bw.1 _ (by omega) (by omega)
  have s1 : IntKind.i64.wrap (x0 + x1 * 256) = x0 + x1 * 256 := Bw.1 _ (by omega) (by omega)
  have s2 : IntKind.i64.wrap (x0 + x1 * 256 + x2 * 65536) = x0 + x1 * 256 + x2 * 65536 := Bw.1 _ (by omega) (by omega)
  have s3 : IntKind.i64.wrap (x0 + x1 * 256 + x2 * 65536 + x3 * 16777216) = x0 + x1 * 256 + x2 * 65536 + x3 * 16777216 := Bw.1 _ (by omega) (by omega)
  generalize l.length = len at f0 f1 f2 f3 ⊢
  clear hA hw w r hr hf en e0 e1 e2 e3 w0_ w1 w2 w3 hp hl
  replace h : Keep _ := h
  refine HL.hc k36 999 ?_; unfold M36
  (all_goals (try simp only [Sq,Sr,Sh,Si,Sl,Bu,Bb,Bd,Bc,Bw,Bn,Int.reduceAdd,Int.reduceSub,Int.reduceMul,Int.reduceTDiv,Int.reduceTMod,Int.reduceMod,Int.reduceDiv,Nat.reduceLT,Nat.reduceEqDiff,Sa,Sb,Sc,Sd,Se,Sf,Sg,Int.reduceLE,Int.reduceLT,Int.reduceToNat,Int.reduceNeg,Int.reduceEq,Nat.reduceLeDiff,Nat.reducePow,Int.reducePow,reduceIte,Nat.reduceSub,Nat.reduceAdd,Nat.reduceMul,putAt,ceq,List.replicate, *])); repeat' ((first | (with_reducible refine fun _ : True => ?_) | (with_reducible refine any_h ?_) | ((first | refine AllocQ_i ?_ | refine AllocO_i ?_); intro bk hb0 hbk; (try simp only [set_none'] at hbk); (try (first | have hbn := Grow.none (by assumption) hbk | have hbn := Grow.none (by assumption) hbk.2 | have hbn := Grow.none (by assumption) hbk.2.2 | have hbn := Grow.none (by assumption) hbk.2.2.2 | have hbn := Grow.none (by assumption) hbk.2.2.2.2 | have hbn := Grow.none (by assumption) hbk.2.2.2.2.2)); (try simp only [set_none'] at hbn); (try (first | have hbm := Grow.none (by assumption) hbn | have hbm := Grow.none (by assumption) hbn.2 | have hbm := Grow.none (by assumption) hbn.2.2 | have hbm := Grow.none (by assumption) hbn.2.2.2 | have hbm := Grow.none (by assumption) hbn.2.2.2.2 | have hbm := Grow.none (by assumption) hbn.2.2.2.2.2)); (try simp only [set_none'] at hbm)) | ((first | refine condS_i ?_ ?_ | refine pick_i ?_ ?_ | refine gS_it ?_ ?_ | refine gS_if ?_ ?_ | refine gP_it ?_ ?_ | refine gP_if ?_ ?_) <;> (intro hc; try simp only [Int.reduceLE,Int.reduceLT,Int.reduceEq,Sn] at hc)) | (refine KP_i (by (repeat' (first | exact Heap.Le.refl _ | (with_reducible refine Le_set2 ?_) | (refine Le_known (by first | (simp only [Heap.set_same, set_ne, ne_eq, not_false_eq_true, *] <;> rfl) | fail) ?_) | (refine Le_fresh (by first | (simp only [*] <;> done) | (simp [set_none', Heap.set_same, set_ne, noneH, *] <;> done) | fail) ?_) | (refine Heap.Le.trans ?_ (Grow.le (by assumption))) | exact Le_none | (refine Le_put ?_ (by first | (simp only [Heap.set_same, set_ne, ne_eq, not_false_eq_true, *] <;> rfl) | fail)) | fail))) ?_) | (with_reducible refine And.intro ?_ ?_)) <;> (try simp only [Sq,Sr,Sh,Si,Sl,Bu,Bb,Bd,Bc,Bw,Bn,Int.reduceAdd,Int.reduceSub,Int.reduceMul,Int.reduceTDiv,Int.reduceTMod,Int.reduceMod,Int.reduceDiv,Nat.reduceLT,Nat.reduceEqDiff,Sa,Sb,Sc,Sd,Se,Sf,Sg,Int.reduceLE,Int.reduceLT,Int.reduceToNat,Int.reduceNeg,Int.reduceEq,Nat.reduceLeDiff,Nat.reducePow,Int.reducePow,reduceIte,Nat.reduceSub,Nat.reduceAdd,Nat.reduceMul,putAt,ceq,List.replicate, *]))
  exact Fin_mk (Heap.Le.refl _) h
end Go.Proofs.Ytndgmnmnpfblmaa
