/- Images made short (layer 8). -/
import Derived.Test.YtdaipgnhconfnaaInc
set_option linter.unusedSimpArgs false
set_option linter.unusedVariables false
set_option maxRecDepth 100000
set_option maxHeartbeats 4000000
namespace Go.Proofs.Ytdaipgnhconfnaa
open Go Go.HL Go.RowKit Pb
variable {w0 : World} {H : Heap} {K : Value → Heap → Prop}

def LvR.cut (z : LvR) : LvR := { z with l := z.l.take 20000 }
def Im.cut (x : Im) : Im := { x with ls := x.ls.take 9 }
/-- What short makes of an image. -/
structure Im.Short (x y : Im) : Prop where
  f : y.f = x.f
  s : y.s = x.s
  t : y.t = x.t
  mn : y.mn = x.mn
  mg : y.mg = x.mg
  ls : y.ls.map LvR.core = (x.ls.take 9).map fun z => z.cut.core
theorem cut_ok {x : Im} (hx : ImOk w0 H x) : ImOk w0 H x.cut := by
  refine ⟨?_, fun y hy => hx.lv y (List.mem_of_mem_take hy), ?_, ?_, ?_, hx.f, hx.s, hx.t, hx.mn, hx.mg⟩
  · have h := hx.at_
    rw [show x.ls = x.ls.take 9 ++ x.ls.drop 9 from (List.take_append_drop 9 x.ls).symm, List.map_append, List.flatten_append] at h
    exact h.pre
  · have := hx.lc; simp only [Im.cut, List.length_take]; omega
  · have := hx.lm; simp only [Im.cut, List.length_take]; omega
  · have := hx.lr; simp only [Im.cut, List.length_take]; omega
theorem set_mid (v a b c : Value) (B : List Value) : ∀ A : List Value, (A ++ a :: b :: c :: B).set (A.length + 2) v = A ++ a :: b :: v :: B
  | [] => rfl
  | x :: A => by
    rw [List.cons_append, List.length_cons, show A.length + 1 + 2 = (A.length + 2) + 1 by omega, List.set_cons_succ, set_mid v a b c B A]; rfl
theorem get_mid (a b c : Value) (B A : List Value) : (A ++ a :: b :: c :: B)[A.length + 2]? = some c := by
  rw [List.getElem?_append_right (by omega), show A.length + 2 - A.length = 2 by omega]; rfl
/-- The rows of which the first k are cut. -/
def cutRows (ls : List LvR) (k : Nat) : List Value := (((ls.take k).map LvR.cut ++ ls.drop k).map LvR.row).flatten
theorem cutRows_at {ls : List LvR} {k : Nat} {z : LvR} (hz : ls[k]? = some z) : ∃ A B, A.length = k * 3 ∧ cutRows ls k = A ++ .int .i64 z.w :: .int .i64 z.h :: .slice z.a z.l.length z.cap :: B ∧ cutRows ls (k + 1) = A ++ .int .i64 z.w :: .int .i64 z.h :: .slice z.a (z.l.take 20000).length z.cap :: B := by
  obtain ⟨hk, ez⟩ := List.getElem?_eq_some_iff.1 hz
  refine ⟨(((ls.take k).map LvR.cut).map LvR.row).flatten, ((ls.drop (k + 1)).map LvR.row).flatten, ?_, ?_, ?_⟩
  · rw [flat_len (sz := 3) _ (fun r hr => by obtain ⟨y, -, rfl⟩ := List.mem_map.1 hr; rfl)]
    simp; omega
  · unfold cutRows
    rw [List.drop_eq_getElem_cons hk, ez]
    simp [LvR.row]
  · unfold cutRows
    rw [List.take_add_one, hz]
    simp [LvR.row, LvR.cut]
theorem cutRows_len (ls : List LvR) (k : Nat) : (cutRows ls k).length = ls.length * 3 := by
  unfold cutRows
  rw [flat_len (sz := 3) _ (fun r hr => by obtain ⟨y, -, rfl⟩ := List.mem_map.1 hr; rfl)]
  simp; omega
theorem cutRows_zero (ls : List LvR) : cutRows ls 0 = (ls.map LvR.row).flatten := by unfold cutRows; simp
theorem cutRows_all (ls : List LvR) : cutRows ls ls.length = ((ls.map LvR.cut).map LvR.row).flatten := by unfold cutRows; simp
theorem LvC.cut {G : Heap} {z : LvR} (h : LvC w0 H G z) : LvC w0 H G z.cut := by
  refine ⟨?_, ?_, ?_, h.w, h.h, fun b hb => h.by_ b (List.mem_of_mem_take hb)⟩
  · have hb := h.bld
    rw [show z.l = z.l.take 20000 ++ z.l.drop 20000 from (List.take_append_drop 20000 z.l).symm, List.map_append] at hb
    exact hb.pre
  · have := h.lm; simp only [LvR.cut, List.length_take]; omega
  · have := h.lr; simp only [LvR.cut, List.length_take]; omega
theorem ImC.base {H0 G : Heap} {x : Im} (h : ImC w0 H G x) (g : Grow w0 H0 H) : ImC w0 H0 G x := ⟨h.bld.base g, fun y hy => (h.lv y hy).base g, h.lm, h.lr, h.f, h.s, h.t, h.mn, h.mg⟩
theorem ImC.turn {G : Heap} {x : Im} (h : ImC w0 H G x) {b : Nat} {z : Blk} {cs : List Value} (hb : G b = some ⟨.t 24, cs⟩) : ImC w0 H (G.set b z) x := ⟨h.bld.turn hb (by simp), fun y hy => (h.lv y hy).turn hb (by simp), h.lm, h.lr, h.f, h.s, h.t, h.mn, h.mg⟩
/- paintboxlaw08 short -/
def M13 : MC :=
  .seq (.reg [⟨(some 1), .box 24 (.tmp 0), none⟩,
 ⟨(some 2), .alloc 24 [(.int .i64 0), (.slice none 0 0), (.int .i64 0), (.int .i64 0), (.int .i64 0), (.int .i64 0)], none⟩])
 (.seq (.reg [⟨(some 5), .fa 1 (.tmp 1), none⟩,
 ⟨(some 6), .ld1 (.tmp 5), none⟩,
 ⟨(some 7), .fa 1 (.tmp 1), none⟩,
 ⟨(some 8), .ld1 (.tmp 7), none⟩,
 ⟨(some 9), .len (.tmp 8), none⟩,
 ⟨(some 10), .mn (.tmp 9) (.const (.int .i64 9)), none⟩,
 ⟨(some 11), .slc 3 (.tmp 6) none (some (.tmp 10)), none⟩,
 ⟨(some 12), .fa 1 (.tmp 1), none⟩,
 ⟨none, .st1 (.tmp 12) (.tmp 11), none⟩])
 (.seq (.reg [⟨(some 13), .ldn 6 (.tmp 1), none⟩,
 ⟨(some 14), .call 14 [(.tmp 13)], none⟩,
 ⟨none, .stn 6 (.tmp 1) (.tmp 14), none⟩])
 (.seq (.seq (.reg [⟨(some 15), .fa 1 (.tmp 1), none⟩,
 ⟨(some 16), .ld1 (.tmp 15), none⟩,
 ⟨(some 17), .len (.tmp 16), none⟩,
 ⟨(some 18), .mv (.const (.int .i64 0)), none⟩])
 (.block 0 (.loop (.seq (.reg [⟨(some 19), .bin .lss (.tmp 18) (.tmp 17), none⟩])
 (.seq (.cond (.tmp 19)
 (.skip)
 (.exit 0))
 (.seq (.block 1 (.seq (.reg [⟨(some 20), .mv (.tmp 18), none⟩,
 ⟨(some 3), .mv (.tmp 20), none⟩])
 (.seq (.reg [⟨(some 21), .fa 1 (.tmp 1), none⟩,
 ⟨(some 22), .ld1 (.tmp 21), none⟩,
 ⟨(some 23), .mv (.tmp 3), none⟩,
 ⟨(some 24), .is 3 (.tmp 22) (.tmp 23), none⟩,
 ⟨(some 4), .mv (.tmp 24), none⟩])
 (.any [(true, 0, [], ⟨(some 25), .mv (.tmp 4), none⟩),
 (true, 1, [], ⟨(some 26), .mv (.tmp 4), none⟩),
 (true, 2, [], ⟨(some 27), .nilc (.tmp 26), none⟩),
 (true, 3, [], ⟨(some 28), .fa 2 (.tmp 27), none⟩),
 (true, 4, [], ⟨(some 29), .ld1 (.tmp 28), none⟩),
 (false, 5, [0, 1, 2, 3, 4], ⟨(some 30), .mv (.tmp 4), none⟩),
 (false, 6, [0, 1, 2, 3, 4], ⟨(some 31), .nilc (.tmp 30), none⟩),
 (false, 7, [0, 1, 2, 3, 4], ⟨(some 32), .fa 2 (.tmp 31), none⟩),
 (false, 8, [0, 1, 2, 3, 4], ⟨(some 33), .ld1 (.tmp 32), none⟩),
 (false, 9, [0, 1, 2, 3, 4], ⟨(some 34), .len (.tmp 33), none⟩),
 (false, 10, [0, 1, 2, 3, 4], ⟨(some 35), .mn (.tmp 34) (.const (.int .i64 20000)), none⟩),
 (false, 11, [0], ⟨(some 36), .slc 1 (.tmp 29) none (some (.tmp 35)), none⟩),
 (false, 12, [], ⟨(some 37), .nilc (.tmp 25), none⟩),
 (false, 13, [], ⟨(some 38), .fa 2 (.tmp 37), none⟩),
 (false, 14, [], ⟨none, .st1 (.tmp 38) (.tmp 36), none⟩)]))))
 (.reg [⟨(some 39), .bin .add (.tmp 18) (.const (.int .i64 1)), none⟩,
 ⟨(some 18), .mv (.tmp 39), none⟩])))))))
 (.seq (.reg [⟨(some 40), .ldn 6 (.tmp 1), none⟩,
 ⟨none, .stn 6 (.tmp 2) (.tmp 40), none⟩])
 (.ret)))))
theorem k13 : fnOk Try.prog 13 = some (M13, [.cn 6 2], 41) := by kernel_rfl

theorem l_short (x : Im) (hx : ImOk w0 H x) (h : ∀ y H', x.Short y → ImC w0 H H' y → Grow w0 H H' → K y.v H') : HCalls Try.prog w0 13 [x.v] H K := by
  have hxc := cut_ok hx
  obtain ⟨n, en⟩ : ∃ n, (x.ls.take 9).length = n := ⟨_, rfl⟩
  have e9 : (if (9 : Int) < (x.ls.length : Int) then 9 else (x.ls.length : Int)) = (n : Int) := by
    rw [← en, List.length_take]; split <;> omega
  have hnc : (n : Int) ≤ (x.cap : Int) := by have := hx.lc; rw [← en, List.length_take]; omega
  have cC : ∀ (G : Heap) (K : Value → Heap → Prop), Grow w0 H G → (∀ y H', Im.Eqv x.cut y → ImC w0 G H' y → (∀ z ∈ y.ls, ∃ b, z.a = some ⟨b, 0, none⟩) → Grow w0 H H' → Grow w0 G H' → K y.v H') →
      HCalls Try.prog w0 14 [.agg #[.int .i64 x.f, .slice x.a n x.cap, .int .i64 x.s, .int .i64 x.t, .int .i64 x.mn, .int .i64 x.mg]] G K := fun G K g hk => by
    have := r_Copy2 x.cut (hxc.grow g) (fun y H' a b c d => hk y H' a b c (g.trans d) d)
    unfold Im.v Im.cut at this
    simp only [en] at this
    exact this
  clear hx hxc
  unfold Im.v at cC h ⊢
  rcases hxa : x.a with _ | ⟨xb, xo, _ | xs⟩
  all_goals
    rw [hxa] at cC
    refine HL.hc k13 999 ?_; unfold M13
    (all_goals (try simp only [Sq,Sr,Sh,Si,Sl,Bu,Bb,Bd,Bc,Bw,Bn,Int.reduceAdd,Int.reduceSub,Int.reduceMul,Int.reduceTDiv,Int.reduceTMod,Int.reduceMod,Int.reduceDiv,Nat.reduceLT,Nat.reduceEqDiff,Sa,Sb,Sc,Sd,Se,Sf,Sg,Int.reduceLE,Int.reduceLT,Int.reduceToNat,Int.reduceNeg,Int.reduceEq,Nat.reduceLeDiff,Nat.reducePow,Int.reducePow,reduceIte,Nat.reduceSub,Nat.reduceAdd,Nat.reduceMul,putAt,ceq,List.replicate, *])); repeat' ((first | (with_reducible refine fun _ : True => ?_) | refine cC _ _ (by (repeat' (first | exact Grow.refl _ | assumption | (refine Grow_known (by first | (simp only [Heap.set_same, set_ne, ne_eq, not_false_eq_true, *] <;> rfl) | fail) ?_) | (refine Grow.set ?_ (by assumption) (by first | (simp only [*] <;> done) | (simp [set_none', Heap.set_same, set_ne, noneH, *] <;> done) | fail)) | (refine Grow.trans ?_ (by assumption))))) (fun y H' hE hC hS gH hg => ?_)  | (with_reducible refine any_h ?_) | ((first | refine AllocQ_i ?_ | refine AllocO_i ?_); intro bk hb0 hbk; (try simp only [set_none'] at hbk); (try (first | have hbn := Grow.none (by assumption) hbk | have hbn := Grow.none (by assumption) hbk.2 | have hbn := Grow.none (by assumption) hbk.2.2 | have hbn := Grow.none (by assumption) hbk.2.2.2 | have hbn := Grow.none (by assumption) hbk.2.2.2.2 | have hbn := Grow.none (by assumption) hbk.2.2.2.2.2)); (try simp only [set_none'] at hbn); (try (first | have hbm := Grow.none (by assumption) hbn | have hbm := Grow.none (by assumption) hbn.2 | have hbm := Grow.none (by assumption) hbn.2.2 | have hbm := Grow.none (by assumption) hbn.2.2.2 | have hbm := Grow.none (by assumption) hbn.2.2.2.2 | have hbm := Grow.none (by assumption) hbn.2.2.2.2.2)); (try simp only [set_none'] at hbm)) | ((first | refine condS_i ?_ ?_ | refine pick_i ?_ ?_ | refine gS_it ?_ ?_ | refine gS_if ?_ ?_ | refine gP_it ?_ ?_ | refine gP_if ?_ ?_) <;> (intro hc; try simp only [Int.reduceLE,Int.reduceLT,Int.reduceEq,Sn] at hc)) | (with_reducible refine KP_i ?_ ?_; · (repeat' (first | exact Heap.Le.refl _ | (with_reducible refine Le_set2 ?_) | (refine Le_known (by first | (simp only [Heap.set_same, set_ne, ne_eq, not_false_eq_true, *] <;> rfl) | fail) ?_) | (refine Le_fresh (by first | (simp only [*] <;> done) | (simp [set_none', Heap.set_same, set_ne, noneH, *] <;> done) | fail) ?_) | (refine Heap.Le.trans ?_ (Grow.le (by assumption))) | exact Le_none | (refine Le_put ?_ (by first | (simp only [Heap.set_same, set_ne, ne_eq, not_false_eq_true, *] <;> rfl) | fail)) | fail))) | (with_reducible refine And.intro ?_ ?_)) <;> (try simp only [Sq,Sr,Sh,Si,Sl,Bu,Bb,Bd,Bc,Bw,Bn,Int.reduceAdd,Int.reduceSub,Int.reduceMul,Int.reduceTDiv,Int.reduceTMod,Int.reduceMod,Int.reduceDiv,Nat.reduceLT,Nat.reduceEqDiff,Sa,Sb,Sc,Sd,Se,Sf,Sg,Int.reduceLE,Int.reduceLT,Int.reduceToNat,Int.reduceNeg,Int.reduceEq,Nat.reduceLeDiff,Nat.reducePow,Int.reducePow,reduceIte,Nat.reduceSub,Nat.reduceAdd,Nat.reduceMul,putAt,ceq,List.replicate, *]))
    rename_i bx pbx qbx
    have hC0 : ImC w0 H H' y := hC.base (by (repeat' (first | exact Grow.refl _ | assumption | (refine Grow_known (by first | (simp only [Heap.set_same, set_ne, ne_eq, not_false_eq_true, *] <;> rfl) | fail) ?_) | (refine Grow.set ?_ (by assumption) (by first | (simp only [*] <;> done) | (simp [set_none', Heap.set_same, set_ne, noneH, *] <;> done) | fail)) | (refine Grow.trans ?_ (by assumption)))))
    have kx := hg.some (b := bx) (by simp only [Heap.set_same, set_ne, ne_eq, not_false_eq_true, *] <;> rfl)
    have kk := hg.some (b := bk) (by simp only [Heap.set_same, set_ne, ne_eq, not_false_eq_true, *] <;> rfl)
    have hnb := hbk.1
    rw [up2 hg (by simp only [Heap.set_same, set_ne, ne_eq, not_false_eq_true, *] <;> rfl)]
    clear hg hC
    (all_goals (try simp only [Sq,Sr,Sh,Si,Sl,Bu,Bb,Bd,Bc,Bw,Bn,Int.reduceAdd,Int.reduceSub,Int.reduceMul,Int.reduceTDiv,Int.reduceTMod,Int.reduceMod,Int.reduceDiv,Nat.reduceLT,Nat.reduceEqDiff,Sa,Sb,Sc,Sd,Se,Sf,Sg,Int.reduceLE,Int.reduceLT,Int.reduceToNat,Int.reduceNeg,Int.reduceEq,Nat.reduceLeDiff,Nat.reducePow,Int.reducePow,reduceIte,Nat.reduceSub,Nat.reduceAdd,Nat.reduceMul,putAt,ceq,List.replicate, *])); repeat' ((first | (with_reducible refine fun _ : True => ?_) | (with_reducible refine any_h ?_) | ((first | refine AllocQ_i ?_ | refine AllocO_i ?_); intro bk hb0 hbk; (try simp only [set_none'] at hbk); (try (first | have hbn := Grow.none (by assumption) hbk | have hbn := Grow.none (by assumption) hbk.2 | have hbn := Grow.none (by assumption) hbk.2.2 | have hbn := Grow.none (by assumption) hbk.2.2.2 | have hbn := Grow.none (by assumption) hbk.2.2.2.2 | have hbn := Grow.none (by assumption) hbk.2.2.2.2.2)); (try simp only [set_none'] at hbn); (try (first | have hbm := Grow.none (by assumption) hbn | have hbm := Grow.none (by assumption) hbn.2 | have hbm := Grow.none (by assumption) hbn.2.2 | have hbm := Grow.none (by assumption) hbn.2.2.2 | have hbm := Grow.none (by assumption) hbn.2.2.2.2 | have hbm := Grow.none (by assumption) hbn.2.2.2.2.2)); (try simp only [set_none'] at hbm)) | ((first | refine condS_i ?_ ?_ | refine pick_i ?_ ?_ | refine gS_it ?_ ?_ | refine gS_if ?_ ?_ | refine gP_it ?_ ?_ | refine gP_if ?_ ?_) <;> (intro hc; try simp only [Int.reduceLE,Int.reduceLT,Int.reduceEq,Sn] at hc)) | (with_reducible refine KP_i ?_ ?_; · (repeat' (first | exact Heap.Le.refl _ | (with_reducible refine Le_set2 ?_) | (refine Le_known (by first | (simp only [Heap.set_same, set_ne, ne_eq, not_false_eq_true, *] <;> rfl) | fail) ?_) | (refine Le_fresh (by first | (simp only [*] <;> done) | (simp [set_none', Heap.set_same, set_ne, noneH, *] <;> done) | fail) ?_) | (refine Heap.Le.trans ?_ (Grow.le (by assumption))) | exact Le_none | (refine Le_put ?_ (by first | (simp only [Heap.set_same, set_ne, ne_eq, not_false_eq_true, *] <;> rfl) | fail)) | fail))) | (with_reducible refine And.intro ?_ ?_)) <;> (try simp only [Sq,Sr,Sh,Si,Sl,Bu,Bb,Bd,Bc,Bw,Bn,Int.reduceAdd,Int.reduceSub,Int.reduceMul,Int.reduceTDiv,Int.reduceTMod,Int.reduceMod,Int.reduceDiv,Nat.reduceLT,Nat.reduceEqDiff,Sa,Sb,Sc,Sd,Se,Sf,Sg,Int.reduceLE,Int.reduceLT,Int.reduceToNat,Int.reduceNeg,Int.reduceEq,Nat.reduceLeDiff,Nat.reducePow,Int.reducePow,reduceIte,Nat.reduceSub,Nat.reduceAdd,Nat.reduceMul,putAt,ceq,List.replicate, *]))
    refine loopq_heap (fun H1 eH => ?_)
    have k1 := at_of eH (b := bx) (by simp only [Heap.set_same, set_ne, ne_eq, not_false_eq_true, *] <;> rfl)
    have k2 := at_of eH (b := bk) (by simp only [Heap.set_same, set_ne, ne_eq, not_false_eq_true, *] <;> rfl)
    have gH1 : Grow w0 H H1 := by rw [eH]; exact (by (repeat' (first | exact Grow.refl _ | assumption | (refine Grow_known (by first | (simp only [Heap.set_same, set_ne, ne_eq, not_false_eq_true, *] <;> rfl) | fail) ?_) | (refine Grow.set ?_ (by assumption) (by first | (simp only [*] <;> done) | (simp [set_none', Heap.set_same, set_ne, noneH, *] <;> done) | fail)) | (refine Grow.trans ?_ (by assumption)))))
    have hC1 : ImC w0 H H1 y := by rw [eH]; exact (hC0.turn kx).turn ((Heap.set_other _ _ hnb.1).trans kk)
    clear eH kx kk hC0 cC
    rcases Nat.eq_zero_or_pos y.ls.length with h0 | h0
    · have e0 : y.ls = [] := List.length_eq_zero_iff.1 h0
      have hfin := h y ((H1.set bx ⟨.t 24, [.int .i64 y.f, .slice y.a 0 y.cap, .int .i64 y.s, .int .i64 y.t, .int .i64 y.mn, .int .i64 y.mg]⟩).set bk ⟨.t 24, [.int .i64 y.f, .slice y.a 0 y.cap, .int .i64 y.s, .int .i64 y.t, .int .i64 y.mn, .int .i64 y.mg]⟩) ⟨hE.f, hE.s, hE.t, hE.mn, hE.mg, by
          have := hE.ls
          rw [e0] at this ⊢
          have h2 : x.cut.ls = [] := by simpa using this.symm
          have h3 : x.ls.take 9 = [] := h2
          rw [h3]; rfl⟩ ((hC1.turn k1).turn ((Heap.set_other _ _ hnb.1).trans k2)) (by (repeat' (first | exact Grow.refl _ | assumption | (refine Grow_known (by first | (simp only [Heap.set_same, set_ne, ne_eq, not_false_eq_true, *] <;> rfl) | fail) ?_) | (refine Grow.set ?_ (by assumption) (by first | (simp only [*] <;> done) | (simp [set_none', Heap.set_same, set_ne, noneH, *] <;> done) | fail)) | (refine Grow.trans ?_ (by assumption)))))
      rw [h0] at hfin k1 ⊢
      rw [root2 hnb.2 k1 k2]
      clear h
      (all_goals (try simp only [Sq,Sr,Sh,Si,Sl,Bu,Bb,Bd,Bc,Bw,Bn,Int.reduceAdd,Int.reduceSub,Int.reduceMul,Int.reduceTDiv,Int.reduceTMod,Int.reduceMod,Int.reduceDiv,Nat.reduceLT,Nat.reduceEqDiff,Sa,Sb,Sc,Sd,Se,Sf,Sg,Int.reduceLE,Int.reduceLT,Int.reduceToNat,Int.reduceNeg,Int.reduceEq,Nat.reduceLeDiff,Nat.reducePow,Int.reducePow,reduceIte,Nat.reduceSub,Nat.reduceAdd,Nat.reduceMul,putAt,ceq,List.replicate, *])); repeat' ((first | (with_reducible refine fun _ : True => ?_) | (with_reducible refine any_h ?_) | ((first | refine AllocQ_i ?_ | refine AllocO_i ?_); intro bk hb0 hbk; (try simp only [set_none'] at hbk); (try (first | have hbn := Grow.none (by assumption) hbk | have hbn := Grow.none (by assumption) hbk.2 | have hbn := Grow.none (by assumption) hbk.2.2 | have hbn := Grow.none (by assumption) hbk.2.2.2 | have hbn := Grow.none (by assumption) hbk.2.2.2.2 | have hbn := Grow.none (by assumption) hbk.2.2.2.2.2)); (try simp only [set_none'] at hbn); (try (first | have hbm := Grow.none (by assumption) hbn | have hbm := Grow.none (by assumption) hbn.2 | have hbm := Grow.none (by assumption) hbn.2.2 | have hbm := Grow.none (by assumption) hbn.2.2.2 | have hbm := Grow.none (by assumption) hbn.2.2.2.2 | have hbm := Grow.none (by assumption) hbn.2.2.2.2.2)); (try simp only [set_none'] at hbm)) | ((first | refine condS_i ?_ ?_ | refine pick_i ?_ ?_ | refine gS_it ?_ ?_ | refine gS_if ?_ ?_ | refine gP_it ?_ ?_ | refine gP_if ?_ ?_) <;> (intro hc; try simp only [Int.reduceLE,Int.reduceLT,Int.reduceEq,Sn] at hc)) | (with_reducible refine KP_i ?_ ?_; · (repeat' (first | exact Heap.Le.refl _ | (with_reducible refine Le_set2 ?_) | (refine Le_known (by first | (simp only [Heap.set_same, set_ne, ne_eq, not_false_eq_true, *] <;> rfl) | fail) ?_) | (refine Le_fresh (by first | (simp only [*] <;> done) | (simp [set_none', Heap.set_same, set_ne, noneH, *] <;> done) | fail) ?_) | (refine Heap.Le.trans ?_ (Grow.le (by assumption))) | exact Le_none | (refine Le_put ?_ (by first | (simp only [Heap.set_same, set_ne, ne_eq, not_false_eq_true, *] <;> rfl) | fail)) | fail))) | (with_reducible refine loop_u ?_) | (with_reducible refine And.intro ?_ ?_)) <;> (try simp only [Sq,Sr,Sh,Si,Sl,Bu,Bb,Bd,Bc,Bw,Bn,Int.reduceAdd,Int.reduceSub,Int.reduceMul,Int.reduceTDiv,Int.reduceTMod,Int.reduceMod,Int.reduceDiv,Nat.reduceLT,Nat.reduceEqDiff,Sa,Sb,Sc,Sd,Se,Sf,Sg,Int.reduceLE,Int.reduceLT,Int.reduceToNat,Int.reduceNeg,Int.reduceEq,Nat.reduceLeDiff,Nat.reducePow,Int.reducePow,reduceIte,Nat.reduceSub,Nat.reduceAdd,Nat.reduceMul,putAt,ceq,List.replicate, *]))
      exact Fin_mk (Heap.Le.refl _) hfin
    · have hrl := rows_len y.ls
      rcases hC1.bld with ⟨b, zz, eb, b1, b2, b3, b4⟩ | ⟨-, hnil⟩
      · have hml := hC1.lm
        obtain ⟨m, em⟩ : ∃ m, y.ls.length = m := ⟨_, rfl⟩
        have x1 : b ≠ bx := fun e => by subst e; rw [b3] at k1; cases k1
        have x2 : b ≠ bk := fun e => by subst e; rw [b3] at k2; cases k2
        have x3 := Ne.symm x1
        have x4 := Ne.symm x2
        have hfin := h { y with ls := y.ls.map LvR.cut } (((H1.set bx ⟨.t 24, [.int .i64 y.f, .slice (some ⟨b, 0, none⟩) m y.cap, .int .i64 y.s, .int .i64 y.t, .int .i64 y.mn, .int .i64 y.mg]⟩).set bk ⟨.t 24, [.int .i64 y.f, .slice (some ⟨b, 0, none⟩) m y.cap, .int .i64 y.s, .int .i64 y.t, .int .i64 y.mn, .int .i64 y.mg]⟩).set b ⟨.t 38, cutRows y.ls m ++ zz⟩) ⟨hE.f, hE.s, hE.t, hE.mn, hE.mg, by
            show (y.ls.map LvR.cut).map LvR.core = _
            have e1 := hE.ls
            have e2 : ∀ z : LvR, z.cut.core = (z.core.1, z.core.2.1, z.core.2.2.take 20000) := fun z => rfl
            rw [List.map_map]
            have e3 : (LvR.core ∘ LvR.cut) = (fun p : Int × Int × List Int => (p.1, p.2.1, p.2.2.take 20000)) ∘ LvR.core := by funext z; rfl
            rw [e3, ← List.map_map, e1, List.map_map]
            rfl⟩ ?_ (by (repeat' (first | exact Grow.refl _ | assumption | (refine Grow_known (by first | (simp only [Heap.set_same, set_ne, ne_eq, not_false_eq_true, *] <;> rfl) | fail) ?_) | (refine Grow.set ?_ (by assumption) (by first | (simp only [*] <;> done) | (simp [set_none', Heap.set_same, set_ne, noneH, *] <;> done) | fail)) | (refine Grow.trans ?_ (by assumption)))))
        · rw [eb, List.length_map, em] at hfin
          rw [eb, em] at k1 ⊢
          rw [show H1 = ((H1.set bx ⟨.t 24, [.int .i64 y.f, .slice (some ⟨b, 0, none⟩) m y.cap, .int .i64 y.s, .int .i64 y.t, .int .i64 y.mn, .int .i64 y.mg]⟩).set bk ⟨.t 24, [.int .i64 0, .slice none 0 0, .int .i64 0, .int .i64 0, .int .i64 0, .int .i64 0]⟩).set b ⟨.t 38, cutRows y.ls 0 ++ zz⟩ from root3 k1 k2 (by rw [cutRows_zero]; exact b3)]
          have hS' := hS
          have hlv := hC1.lv
          clear h hC1 hE b2 b3 k1 k2 hrl hS
          refine loop_g 19 (fun s : Nat × Value × Value => [(3, s.2.1), (4, s.2.2), (18, .int .i64 (s.1 : Nat))]) (fun s => ((H1.set bx ⟨.t 24, [.int .i64 y.f, .slice (some ⟨b, 0, none⟩) m y.cap, .int .i64 y.s, .int .i64 y.t, .int .i64 y.mn, .int .i64 y.mg]⟩).set bk ⟨.t 24, [.int .i64 0, .slice none 0 0, .int .i64 0, .int .i64 0, .int .i64 0, .int .i64 0]⟩).set b ⟨.t 38, cutRows y.ls s.1 ++ zz⟩) (fun s => s.1 ≤ m) (fun s => m - s.1) (0, undef, undef) (Nat.zero_le _) (Heap.Le.refl _) rfl ?_
          intro ⟨k, u, v⟩ g hk
          simp only at hk
          rcases Nat.lt_or_ge k m with hlt | hge
          · obtain ⟨z, ez⟩ : ∃ z, y.ls[k]? = some z := ⟨_, List.getElem?_eq_getElem (by omega)⟩
            obtain ⟨A, B, hA, c1, c2⟩ := cutRows_at ez
            have hmz := List.mem_of_getElem? ez
            obtain ⟨bz, ebz⟩ := hS' z hmz
            have hz := hlv z hmz
            have hzc := hz.ok.lc
            obtain ⟨q, eq⟩ : ∃ q, (z.l.take 20000).length = q := ⟨_, rfl⟩
            have eq2 : (if (20000 : Int) < (z.l.length : Int) then 20000 else (z.l.length : Int)) = (q : Int) := by rw [← eq, List.length_take]; split <;> omega
            have hqc : (q : Int) ≤ (z.cap : Int) := by rw [← eq, List.length_take]; omega
            have t0 : (k : Int) < (m : Int) := by omega
            have t6 : IntKind.i64.wrap ((k : Int) + 1) = (k : Int) + 1 := Bw.1 _ (by omega) (by unfold maxLen at hml; omega)
            rw [eq] at c2
            have g1 : (cutRows y.ls k ++ zz)[k * 3 + 2]? = some (.slice (some ⟨bz, 0, none⟩) z.l.length z.cap) := by
              rw [c1, ebz, List.append_assoc, ← hA]
              simp
            have g2 : (cutRows y.ls k ++ zz).set (k * 3 + 2) (.slice (some ⟨bz, 0, none⟩) q z.cap) = cutRows y.ls (k + 1) ++ zz := by
              rw [c1, c2, ebz, List.append_assoc, ← hA]
              simp
            have g3 : k * 3 + 2 < (cutRows y.ls k ++ zz).length := (List.getElem?_eq_some_iff.1 g1).1
            clear c1 c2 hfin hlv hS' hz ez
            (all_goals (try simp only [Sq,Sr,Sh,Si,Sl,Bu,Bb,Bd,Bc,Bw,Bn,Int.reduceAdd,Int.reduceSub,Int.reduceMul,Int.reduceTDiv,Int.reduceTMod,Int.reduceMod,Int.reduceDiv,Nat.reduceLT,Nat.reduceEqDiff,Sa,Sb,Sc,Sd,Se,Sf,Sg,Int.reduceLE,Int.reduceLT,Int.reduceToNat,Int.reduceNeg,Int.reduceEq,Nat.reduceLeDiff,Nat.reducePow,Int.reducePow,reduceIte,Nat.reduceSub,Nat.reduceAdd,Nat.reduceMul,putAt,ceq,List.replicate, *])); repeat' ((first | (with_reducible refine fun _ : True => ?_) | (with_reducible refine any_h ?_) | ((first | refine AllocQ_i ?_ | refine AllocO_i ?_); intro bk hb0 hbk; (try simp only [set_none'] at hbk); (try (first | have hbn := Grow.none (by assumption) hbk | have hbn := Grow.none (by assumption) hbk.2 | have hbn := Grow.none (by assumption) hbk.2.2 | have hbn := Grow.none (by assumption) hbk.2.2.2 | have hbn := Grow.none (by assumption) hbk.2.2.2.2 | have hbn := Grow.none (by assumption) hbk.2.2.2.2.2)); (try simp only [set_none'] at hbn); (try (first | have hbm := Grow.none (by assumption) hbn | have hbm := Grow.none (by assumption) hbn.2 | have hbm := Grow.none (by assumption) hbn.2.2 | have hbm := Grow.none (by assumption) hbn.2.2.2 | have hbm := Grow.none (by assumption) hbn.2.2.2.2 | have hbm := Grow.none (by assumption) hbn.2.2.2.2.2)); (try simp only [set_none'] at hbm)) | ((first | refine condS_i ?_ ?_ | refine pick_i ?_ ?_ | refine gS_it ?_ ?_ | refine gS_if ?_ ?_ | refine gP_it ?_ ?_ | refine gP_if ?_ ?_) <;> (intro hc; try simp only [Int.reduceLE,Int.reduceLT,Int.reduceEq,Sn] at hc)) | (with_reducible refine KP_i ?_ ?_; · (repeat' (first | exact Heap.Le.refl _ | (with_reducible refine Le_set2 ?_) | (refine Le_known (by first | (simp only [Heap.set_same, set_ne, ne_eq, not_false_eq_true, *] <;> rfl) | fail) ?_) | (refine Le_fresh (by first | (simp only [*] <;> done) | (simp [set_none', Heap.set_same, set_ne, noneH, *] <;> done) | fail) ?_) | (refine Heap.Le.trans ?_ (Grow.le (by assumption))) | exact Le_none | (refine Le_put ?_ (by first | (simp only [Heap.set_same, set_ne, ne_eq, not_false_eq_true, *] <;> rfl) | fail)) | fail))) | (with_reducible refine And.intro ?_ ?_)) <;> (try simp only [Sq,Sr,Sh,Si,Sl,Bu,Bb,Bd,Bc,Bw,Bn,Int.reduceAdd,Int.reduceSub,Int.reduceMul,Int.reduceTDiv,Int.reduceTMod,Int.reduceMod,Int.reduceDiv,Nat.reduceLT,Nat.reduceEqDiff,Sa,Sb,Sc,Sd,Se,Sf,Sg,Int.reduceLE,Int.reduceLT,Int.reduceToNat,Int.reduceNeg,Int.reduceEq,Nat.reduceLeDiff,Nat.reducePow,Int.reducePow,reduceIte,Nat.reduceSub,Nat.reduceAdd,Nat.reduceMul,putAt,ceq,List.replicate, *]))
            exact Round_mk (k + 1, _, _) hlt (by simp only; omega) (Heap.Le.refl _) rfl rfl
          · obtain rfl : m = k := by omega
            have t0 : ¬ ((m : Nat) : Int) < ((m : Nat) : Int) := by omega
            clear hlv hS'
            (all_goals (try simp only [Sq,Sr,Sh,Si,Sl,Bu,Bb,Bd,Bc,Bw,Bn,Int.reduceAdd,Int.reduceSub,Int.reduceMul,Int.reduceTDiv,Int.reduceTMod,Int.reduceMod,Int.reduceDiv,Nat.reduceLT,Nat.reduceEqDiff,Sa,Sb,Sc,Sd,Se,Sf,Sg,Int.reduceLE,Int.reduceLT,Int.reduceToNat,Int.reduceNeg,Int.reduceEq,Nat.reduceLeDiff,Nat.reducePow,Int.reducePow,reduceIte,Nat.reduceSub,Nat.reduceAdd,Nat.reduceMul,putAt,ceq,List.replicate, *])); repeat' ((first | (with_reducible refine fun _ : True => ?_) | (with_reducible refine any_h ?_) | ((first | refine AllocQ_i ?_ | refine AllocO_i ?_); intro bk hb0 hbk; (try simp only [set_none'] at hbk); (try (first | have hbn := Grow.none (by assumption) hbk | have hbn := Grow.none (by assumption) hbk.2 | have hbn := Grow.none (by assumption) hbk.2.2 | have hbn := Grow.none (by assumption) hbk.2.2.2 | have hbn := Grow.none (by assumption) hbk.2.2.2.2 | have hbn := Grow.none (by assumption) hbk.2.2.2.2.2)); (try simp only [set_none'] at hbn); (try (first | have hbm := Grow.none (by assumption) hbn | have hbm := Grow.none (by assumption) hbn.2 | have hbm := Grow.none (by assumption) hbn.2.2 | have hbm := Grow.none (by assumption) hbn.2.2.2 | have hbm := Grow.none (by assumption) hbn.2.2.2.2 | have hbm := Grow.none (by assumption) hbn.2.2.2.2.2)); (try simp only [set_none'] at hbm)) | ((first | refine condS_i ?_ ?_ | refine pick_i ?_ ?_ | refine gS_it ?_ ?_ | refine gS_if ?_ ?_ | refine gP_it ?_ ?_ | refine gP_if ?_ ?_) <;> (intro hc; try simp only [Int.reduceLE,Int.reduceLT,Int.reduceEq,Sn] at hc)) | (with_reducible refine KP_i ?_ ?_; · (repeat' (first | exact Heap.Le.refl _ | (with_reducible refine Le_set2 ?_) | (refine Le_known (by first | (simp only [Heap.set_same, set_ne, ne_eq, not_false_eq_true, *] <;> rfl) | fail) ?_) | (refine Le_fresh (by first | (simp only [*] <;> done) | (simp [set_none', Heap.set_same, set_ne, noneH, *] <;> done) | fail) ?_) | (refine Heap.Le.trans ?_ (Grow.le (by assumption))) | exact Le_none | (refine Le_put ?_ (by first | (simp only [Heap.set_same, set_ne, ne_eq, not_false_eq_true, *] <;> rfl) | fail)) | fail))) | (with_reducible refine And.intro ?_ ?_)) <;> (try simp only [Sq,Sr,Sh,Si,Sl,Bu,Bb,Bd,Bc,Bw,Bn,Int.reduceAdd,Int.reduceSub,Int.reduceMul,Int.reduceTDiv,Int.reduceTMod,Int.reduceMod,Int.reduceDiv,Nat.reduceLT,Nat.reduceEqDiff,Sa,Sb,Sc,Sd,Se,Sf,Sg,Int.reduceLE,Int.reduceLT,Int.reduceToNat,Int.reduceNeg,Int.reduceEq,Nat.reduceLeDiff,Nat.reducePow,Int.reducePow,reduceIte,Nat.reduceSub,Nat.reduceAdd,Nat.reduceMul,putAt,ceq,List.replicate, *]))
            exact Fin_mk (Heap.Le.refl _) hfin
        · have hl3 : (cutRows y.ls m).length = ((y.ls.map LvR.row).flatten).length := by rw [cutRows_len, rows_len]
          refine ⟨.inl ⟨b, zz, eb, b1, b2, ?_, ?_⟩, fun z hz => ?_, by simpa using hC1.lm, by simpa using hC1.lr, hC1.f, hC1.s, hC1.t, hC1.mn, hC1.mg⟩
          · rw [Heap.set_same, ← em, cutRows_all]
          · rw [← b4, ← hl3, ← em, cutRows_all]
          · obtain ⟨z0, hz0, rfl⟩ := List.mem_map.1 hz
            have h1 := ((hC1.lv z0 hz0).cut.turn (z := ⟨.t 24, [.int .i64 y.f, .slice (some ⟨b, 0, none⟩) m y.cap, .int .i64 y.s, .int .i64 y.t, .int .i64 y.mn, .int .i64 y.mg]⟩) k1 (by simp)).turn (z := ⟨.t 24, [.int .i64 y.f, .slice (some ⟨b, 0, none⟩) m y.cap, .int .i64 y.s, .int .i64 y.t, .int .i64 y.mn, .int .i64 y.mg]⟩) ((Heap.set_other _ _ hnb.1).trans k2) (by simp)
            exact h1.turn (z := ⟨.t 38, cutRows y.ls m ++ zz⟩) (by rw [Heap.set_other _ _ x2, Heap.set_other _ _ x1]; exact b3) (by simp)
      · rw [hnil] at hrl; simp at hrl; omega
end Go.Proofs.Ytdaipgnhconfnaa
