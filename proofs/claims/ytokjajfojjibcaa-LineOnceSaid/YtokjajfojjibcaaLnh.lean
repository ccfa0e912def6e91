/- Corners that go together: the program's check (layer 23). -/
import Derived.Test.YtokjajfojjibcaaLng
set_option linter.unusedSimpArgs false
set_option linter.unusedVariables false
set_option maxRecDepth 100000
set_option maxHeartbeats 4000000
namespace Go.Proofs.Ytokjajfojjibcaa
open Go Go.HL Go.RowKit Go.ChangeShapes Go.WideShapes Pb
variable {w0 : World} {H : Heap} {K : Value → Heap → Prop}

/-- A slice of corners. -/
structure CsOk (w0 : World) (H : Heap) (a : Option Addr) (cap : Nat) (ls : List WnR) : Prop where
  at_ : SlAt w0 H a (ls.map WnR.row).flatten
  lc : ls.length ≤ cap
  lm : ls.length ≤ maxLen
  ok : ∀ y ∈ ls, WnOk w0 H y
section
variable {a : Option Addr} {cap : Nat} {ls : List WnR}
theorem rows_wn (h : CsOk w0 H a cap ls) {k : Nat} {y : WnR} (e : ls[k]? = some y) :
    ∃ b o, a = some ⟨b, o, none⟩ ∧ rdn w0 H b (o + k * 6) 6 = some y.row ∧ ∀ c, w0.heap.size ≤ c → H c = none → c ≠ b :=
  h.at_.row (rows := ls.map WnR.row) (fun r hr => by obtain ⟨z, -, rfl⟩ := List.mem_map.1 hr; rfl) (by decide) (by rw [List.getElem?_map, e]; rfl)
end
/-- Corners that go together. -/
def Tog (l : List Wn) : Prop := ∀ y ∈ l, y.right ∧ ∀ z ∈ l.head?, y.l.length = z.l.length
section
variable {ls : List WnR}
theorem tog_all (hl : 0 < ls.length) (h : ∀ (k : Nat) (y : WnR), ls[k]? = some y → y.right ∧ y.l.length = (ls[0]'hl).l.length) : Tog (ls.map WnR.toWn) := by
  intro y hy
  obtain ⟨x, hx, rfl⟩ := List.mem_map.1 hy
  obtain ⟨i, hi⟩ := List.mem_iff_getElem?.1 hx
  refine ⟨(h i x hi).1, fun z hz => ?_⟩
  rw [List.head?_map, List.head?_eq_getElem?, List.getElem?_eq_getElem hl] at hz
  simp at hz; subst hz
  exact (h i x hi).2
theorem tog_not {k : Nat} {y : WnR} (hl : 0 < ls.length) (e : ls[k]? = some y) (h : ¬ (y.right ∧ y.l.length = (ls[0]'hl).l.length)) : ¬ Tog (ls.map WnR.toWn) := fun hA => by
  have hh := hA y.toWn (List.mem_map.2 ⟨y, List.mem_of_getElem? e, rfl⟩)
  refine h ⟨hh.1, hh.2 (ls[0]'hl).toWn ?_⟩
  rw [List.head?_map, List.head?_eq_getElem?, List.getElem?_eq_getElem hl]; rfl
/- tri Check -/
def M20 : MC :=
  .seq (.reg [⟨(some 2), .mv (.const (.int .i64 0)), none⟩])
  (.seq (.seq (.reg [⟨(some 5), .mv (.tmp 0), none⟩,
       ⟨(some 6), .len (.tmp 5), none⟩,
       ⟨(some 7), .mv (.const (.int .i64 0)), none⟩])
    (.block 0 (.loop (.seq (.reg [⟨(some 8), .bin .lss (.tmp 7) (.tmp 6), none⟩])
       (.seq (.cond (.tmp 8)
         (.skip)
         (.exit 0))
        (.seq (.block 1 (.seq (.reg [⟨(some 9), .is 6 (.tmp 5) (.tmp 7), none⟩,
              ⟨(some 10), .ldn 6 (.tmp 9), none⟩,
              ⟨(some 4), .alloc 25 [(.int .i64 0), (.int .i64 0), (.int .i32 0), (.int .i32 0), (.int .i32 0), (.slice none 0 0)], none⟩,
              ⟨none, .stn 6 (.tmp 4) (.tmp 10), none⟩])
           (.seq (.any [(false, 0, [30, 31, 32], ⟨(some 11), .fa 0 (.tmp 4), none⟩),
               (false, 1, [30, 31, 32], ⟨(some 12), .ld1 (.tmp 11), none⟩),
               (false, 2, [30, 31, 32], ⟨(some 13), .bin .lss (.tmp 12) (.const (.int .i64 0)), none⟩),
               (false, 3, [30, 31, 32], ⟨(some 14), .mv (.tmp 13), none⟩),
               (false, 4, [30, 31, 32], ⟨(some 15), .fa 0 (.tmp 4), (some (14, false))⟩),
               (false, 5, [30, 31, 32], ⟨(some 16), .ld1 (.tmp 15), (some (14, false))⟩),
               (false, 6, [30, 31, 32], ⟨(some 17), .bin .gtr (.tmp 16) (.const (.int .i64 16384)), (some (14, false))⟩),
               (false, 7, [30, 31, 32], ⟨(some 18), .pick (.tmp 14) (.const (.bool true)) (.tmp 17), none⟩),
               (false, 8, [30, 31, 32], ⟨(some 19), .mv (.tmp 18), none⟩),
               (false, 9, [30, 31, 32], ⟨(some 20), .fa 1 (.tmp 4), (some (19, false))⟩),
               (false, 10, [30, 31, 32], ⟨(some 21), .ld1 (.tmp 20), (some (19, false))⟩),
               (false, 11, [30, 31, 32], ⟨(some 22), .bin .lss (.tmp 21) (.const (.int .i64 0)), (some (19, false))⟩),
               (false, 12, [30, 31, 32], ⟨(some 23), .pick (.tmp 19) (.const (.bool true)) (.tmp 22), none⟩),
               (false, 13, [30, 31, 32], ⟨(some 24), .mv (.tmp 23), none⟩),
               (false, 14, [30, 31, 32], ⟨(some 25), .fa 1 (.tmp 4), (some (24, false))⟩),
               (false, 15, [30, 31, 32], ⟨(some 26), .ld1 (.tmp 25), (some (24, false))⟩),
               (false, 16, [30, 31, 32], ⟨(some 27), .bin .gtr (.tmp 26) (.const (.int .i64 16384)), (some (24, false))⟩),
               (false, 17, [30, 31, 32], ⟨(some 28), .pick (.tmp 24) (.const (.bool true)) (.tmp 27), none⟩),
               (false, 18, [30, 31, 32], ⟨(some 29), .mv (.tmp 28), none⟩),
               (false, 19, [30, 31, 32], ⟨(some 30), .fa 3 (.tmp 4), (some (29, false))⟩),
               (false, 20, [30, 31, 32], ⟨(some 31), .ld1 (.tmp 30), (some (29, false))⟩),
               (false, 21, [30, 31, 32], ⟨(some 32), .bin .leq (.tmp 31) (.const (.int .i32 0)), (some (29, false))⟩),
               (false, 22, [30, 31, 32], ⟨(some 33), .pick (.tmp 29) (.const (.bool true)) (.tmp 32), none⟩),
               (false, 23, [30, 31, 32], ⟨(some 34), .mv (.tmp 33), none⟩),
               (false, 24, [30, 31, 32], ⟨(some 35), .fa 5 (.tmp 4), (some (34, false))⟩),
               (false, 25, [30, 31, 32], ⟨(some 36), .ld1 (.tmp 35), (some (34, false))⟩),
               (false, 26, [30, 31, 32], ⟨(some 37), .len (.tmp 36), (some (34, false))⟩),
               (false, 27, [30, 31, 32], ⟨(some 38), .bin .gtr (.tmp 37) (.const (.int .i64 4)), (some (34, false))⟩),
               (false, 28, [30, 31, 32], ⟨(some 39), .pick (.tmp 34) (.const (.bool true)) (.tmp 38), none⟩),
               (false, 29, [30, 31, 32], ⟨(some 40), .mv (.tmp 39), none⟩),
               (true, 30, [], ⟨(some 41), .fa 5 (.tmp 4), (some (40, false))⟩),
               (true, 31, [], ⟨(some 42), .ld1 (.tmp 41), (some (40, false))⟩),
               (true, 32, [], ⟨(some 43), .len (.tmp 42), (some (40, false))⟩),
               (false, 33, [30, 31, 32], ⟨(some 44), .mv (.tmp 0), (some (40, false))⟩),
               (false, 34, [30, 31, 32], ⟨(some 45), .is 6 (.tmp 44) (.const (.int .i64 0)), (some (40, false))⟩),
               (false, 35, [30, 31, 32], ⟨(some 46), .fa 5 (.tmp 45), (some (40, false))⟩),
               (false, 36, [30, 31, 32], ⟨(some 47), .ld1 (.tmp 46), (some (40, false))⟩),
               (false, 37, [30, 31, 32], ⟨(some 48), .len (.tmp 47), (some (40, false))⟩),
               (false, 38, [], ⟨(some 49), .bin .neq (.tmp 43) (.tmp 48), (some (40, false))⟩),
               (false, 39, [], ⟨(some 50), .pick (.tmp 40) (.const (.bool true)) (.tmp 49), none⟩)])
            (.cond (.tmp 50)
             (.seq (.reg [⟨(some 2), .mv (.const (.int .i64 320)), none⟩])
              (.ret))
             (.skip)))))
         (.reg [⟨(some 51), .bin .add (.tmp 7) (.const (.int .i64 1)), none⟩,
            ⟨(some 7), .mv (.tmp 51), none⟩])))))))
   (.seq (.reg [⟨(some 2), .mv (.const (.int .i64 0)), none⟩])
    (.ret)))
theorem k20 : fnOk Try.prog 20 = some (M20, [.t 2], 52) := by kernel_rfl

theorem c_Check (a : Option Addr) (cap : Nat) (ls : List WnR) (h0 : 0 < ls.length) (hA : CsOk w0 H a cap ls) (h1 : Tog (ls.map WnR.toWn) → K (.int .i64 0) H) (h2 : ¬ Tog (ls.map WnR.toWn) → K (.int .i64 320) H) :
    HCalls Try.prog w0 20 [.slice a ls.length cap] H K := by
  have hlm := hA.lm
  have e0 := List.getElem?_eq_getElem h0
  have hno : ∀ (k : Nat) (y : WnR), ls[k]? = some y → ¬ (y.right ∧ y.l.length = (ls[0]'h0).l.length) → ∀ G, Heap.Le H G → HL.Fin K (.int .i64 320) G := fun k y e hn G g => Fin_mk g (h2 (tog_not h0 e hn))
  have hyes := fun hh => h1 (tog_all h0 hh)
  obtain ⟨z, ez⟩ : ∃ z, ls[0]'h0 = z := ⟨_, rfl⟩
  rw [ez] at e0 hyes hno
  obtain ⟨b, o, rfl, r0, hf⟩ := rows_wn hA e0
  have q0 := (rd1_of_rdn r0 (i := 5) (by omega)).1
  simp [WnR.row] at q0
  obtain ⟨n, en⟩ : ∃ n, ls.length = n := ⟨_, rfl⟩
  rw [en] at hlm h0 ⊢
  clear h1 h2 r0
  refine HL.hc k20 999 ?_; unfold M20
  (all_goals (try simp only [Sq,Sr,Sh,Si,Sl,Bu,Bb,Bd,Bc,Bw,Bn,Int.reduceAdd,Int.reduceSub,Int.reduceMul,Int.reduceTDiv,Int.reduceTMod,Int.reduceMod,Int.reduceDiv,Nat.reduceLT,Nat.reduceEqDiff,Sa,Sb,Sc,Sd,Se,Sf,Sg,Int.reduceLE,Int.reduceLT,Int.reduceToNat,Int.reduceNeg,Int.reduceEq,Nat.reduceLeDiff,Nat.reducePow,Int.reducePow,reduceIte,Nat.reduceSub,Nat.reduceAdd,Nat.reduceMul,putAt,ceq,List.replicate, *])); repeat' ((first | (with_reducible refine fun _ : True => ?_) | (with_reducible refine any_h ?_) | ((first | refine AllocQ_i ?_ | refine AllocO_i ?_); intro bk hb0 hbk; (try simp only [set_none'] at hbk); (try (first | have hbn := Grow.none (by assumption) hbk | have hbn := Grow.none (by assumption) hbk.2 | have hbn := Grow.none (by assumption) hbk.2.2 | have hbn := Grow.none (by assumption) hbk.2.2.2 | have hbn := Grow.none (by assumption) hbk.2.2.2.2 | have hbn := Grow.none (by assumption) hbk.2.2.2.2.2)); (try simp only [set_none'] at hbn); (try (first | have hbm := Grow.none (by assumption) hbn | have hbm := Grow.none (by assumption) hbn.2 | have hbm := Grow.none (by assumption) hbn.2.2 | have hbm := Grow.none (by assumption) hbn.2.2.2 | have hbm := Grow.none (by assumption) hbn.2.2.2.2 | have hbm := Grow.none (by assumption) hbn.2.2.2.2.2)); (try simp only [set_none'] at hbm)) | ((first | refine condS_i ?_ ?_ | refine pick_i ?_ ?_ | refine gS_it ?_ ?_ | refine gS_if ?_ ?_ | refine gP_it ?_ ?_ | refine gP_if ?_ ?_) <;> (intro hc; try simp only [Int.reduceLE,Int.reduceLT,Int.reduceEq,Sn] at hc)) | (with_reducible refine KP_i ?_ ?_; · (repeat' (first | exact Heap.Le.refl _ | (with_reducible refine Le_set2 ?_) | (refine Le_known (by first | (simp only [Heap.set_same, set_ne, ne_eq, not_false_eq_true, *] <;> rfl) | fail) ?_) | (refine Le_fresh (by first | (simp only [*] <;> done) | (simp [set_none', Heap.set_same, set_ne, noneH, *] <;> done) | fail) ?_) | (refine Heap.Le.trans ?_ (Grow.le (by assumption))) | exact Le_none | (refine Le_put ?_ (by first | (simp only [Heap.set_same, set_ne, ne_eq, not_false_eq_true, *] <;> rfl) | fail)) | fail))) | (with_reducible refine And.intro ?_ ?_)) <;> (try simp only [Sq,Sr,Sh,Si,Sl,Bu,Bb,Bd,Bc,Bw,Bn,Int.reduceAdd,Int.reduceSub,Int.reduceMul,Int.reduceTDiv,Int.reduceTMod,Int.reduceMod,Int.reduceDiv,Nat.reduceLT,Nat.reduceEqDiff,Sa,Sb,Sc,Sd,Se,Sf,Sg,Int.reduceLE,Int.reduceLT,Int.reduceToNat,Int.reduceNeg,Int.reduceEq,Nat.reduceLeDiff,Nat.reducePow,Int.reducePow,reduceIte,Nat.reduceSub,Nat.reduceAdd,Nat.reduceMul,putAt,ceq,List.replicate, *]))
  refine loop_g 8 (fun s : (Nat × Value) => [(4, s.2), (7, .int .i64 (s.1 : Nat))]) (fun _ => H) (fun s => s.1 ≤ n ∧ ∀ (k : Nat) (y : WnR), k < s.1 → ls[k]? = some y → y.right ∧ y.l.length = z.l.length) (fun s => n - s.1) (0, undef) ⟨Nat.zero_le _, fun k y hk => by simp at hk⟩ (Heap.Le.refl _) rfl ?_
  rintro ⟨k, u⟩ g ⟨hk, hall⟩
  simp only at hk hall
  rcases Nat.lt_or_ge k n with hlt | hge
  · obtain ⟨y, ey⟩ : ∃ v, ls[k]? = some v := ⟨_, List.getElem?_eq_getElem (by omega)⟩
    obtain ⟨b', o', e', r1, -⟩ := rows_wn hA ey
    cases e'
    have ok := hA.ok y (List.mem_of_getElem? ey)
    have ym := ok.vs.lm
    have hno := hno k y ey
    have nxt : y.right → y.l.length = z.l.length → ∀ (j : Nat) (v : WnR), j < k + 1 → ls[j]? = some v → v.right ∧ v.l.length = z.l.length := fun e1 e2 j v hj ev => by
      rcases Nat.lt_or_ge j k with h | h
      · exact hall j v h ev
      · obtain rfl : j = k := by omega
        rw [ey] at ev; cases ev; exact ⟨e1, e2⟩
    have t0 : (k : Int) < (n : Int) := by omega
    have t6 : IntKind.i64.wrap ((k : Int) + 1) = (k : Int) + 1 := Bw.1 _ (by omega) (by unfold maxLen at hlm; omega)
    have t1 : (0 : Int) < (n : Int) := by omega
    have q1 := (rd1_of_rdn r1 (i := 5) (by omega)).1
    simp [WnR.row] at q1
    unfold WnR.row at r1
    unfold Wn.right at hno nxt
    clear hall hA ok hyes ey e0 en
    (all_goals (try simp only [Sq,Sr,Sh,Si,Sl,Bu,Bb,Bd,Bc,Bw,Bn,Int.reduceAdd,Int.reduceSub,Int.reduceMul,Int.reduceTDiv,Int.reduceTMod,Int.reduceMod,Int.reduceDiv,Nat.reduceLT,Nat.reduceEqDiff,Sa,Sb,Sc,Sd,Se,Sf,Sg,Int.reduceLE,Int.reduceLT,Int.reduceToNat,Int.reduceNeg,Int.reduceEq,Nat.reduceLeDiff,Nat.reducePow,Int.reducePow,reduceIte,Nat.reduceSub,Nat.reduceAdd,Nat.reduceMul,putAt,ceq,List.replicate, *])); repeat' ((first | (with_reducible refine fun _ : True => ?_) | (with_reducible refine any_h ?_) | ((first | refine AllocQ_i ?_ | refine AllocO_i ?_); intro bk hb0 hbk; (try simp only [set_none'] at hbk); (try (first | have hbn := Grow.none (by assumption) hbk | have hbn := Grow.none (by assumption) hbk.2 | have hbn := Grow.none (by assumption) hbk.2.2 | have hbn := Grow.none (by assumption) hbk.2.2.2 | have hbn := Grow.none (by assumption) hbk.2.2.2.2 | have hbn := Grow.none (by assumption) hbk.2.2.2.2.2)); (try simp only [set_none'] at hbn); (try (first | have hbm := Grow.none (by assumption) hbn | have hbm := Grow.none (by assumption) hbn.2 | have hbm := Grow.none (by assumption) hbn.2.2 | have hbm := Grow.none (by assumption) hbn.2.2.2 | have hbm := Grow.none (by assumption) hbn.2.2.2.2 | have hbm := Grow.none (by assumption) hbn.2.2.2.2.2)); (try simp only [set_none'] at hbm)) | ((first | refine condS_i ?_ ?_ | refine pick_i ?_ ?_ | refine gS_it ?_ ?_ | refine gS_if ?_ ?_ | refine gP_it ?_ ?_ | refine gP_if ?_ ?_) <;> (intro hc; try simp only [Int.reduceLE,Int.reduceLT,Int.reduceEq,Sn] at hc)) | (with_reducible refine KP_i ?_ ?_; · (repeat' (first | exact Heap.Le.refl _ | (with_reducible refine Le_set2 ?_) | (refine Le_known (by first | (simp only [Heap.set_same, set_ne, ne_eq, not_false_eq_true, *] <;> rfl) | fail) ?_) | (refine Le_fresh (by first | (simp only [*] <;> done) | (simp [set_none', Heap.set_same, set_ne, noneH, *] <;> done) | fail) ?_) | (refine Heap.Le.trans ?_ (Grow.le (by assumption))) | exact Le_none | (refine Le_put ?_ (by first | (simp only [Heap.set_same, set_ne, ne_eq, not_false_eq_true, *] <;> rfl) | fail)) | fail))) | (with_reducible refine And.intro ?_ ?_)) <;> (try simp only [Sq,Sr,Sh,Si,Sl,Bu,Bb,Bd,Bc,Bw,Bn,Int.reduceAdd,Int.reduceSub,Int.reduceMul,Int.reduceTDiv,Int.reduceTMod,Int.reduceMod,Int.reduceDiv,Nat.reduceLT,Nat.reduceEqDiff,Sa,Sb,Sc,Sd,Se,Sf,Sg,Int.reduceLE,Int.reduceLT,Int.reduceToNat,Int.reduceNeg,Int.reduceEq,Nat.reduceLeDiff,Nat.reducePow,Int.reducePow,reduceIte,Nat.reduceSub,Nat.reduceAdd,Nat.reduceMul,putAt,ceq,List.replicate, *]))
    all_goals first
      | exact hno (by omega) _ (by (repeat' (first | exact Heap.Le.refl _ | (with_reducible refine Le_set2 ?_) | (refine Le_known (by first | (simp only [Heap.set_same, set_ne, ne_eq, not_false_eq_true, *] <;> rfl) | fail) ?_) | (refine Le_fresh (by first | (simp only [*] <;> done) | (simp [set_none', Heap.set_same, set_ne, noneH, *] <;> done) | fail) ?_) | (refine Heap.Le.trans ?_ (Grow.le (by assumption))) | exact Le_none | (refine Le_put ?_ (by first | (simp only [Heap.set_same, set_ne, ne_eq, not_false_eq_true, *] <;> rfl) | fail)) | fail)))
      | exact Round_mk (k + 1, _) ⟨hlt, nxt (by omega) (by omega)⟩ (by simp only; omega) (by (repeat' (first | exact Heap.Le.refl _ | (with_reducible refine Le_set2 ?_) | (refine Le_known (by first | (simp only [Heap.set_same, set_ne, ne_eq, not_false_eq_true, *] <;> rfl) | fail) ?_) | (refine Le_fresh (by first | (simp only [*] <;> done) | (simp [set_none', Heap.set_same, set_ne, noneH, *] <;> done) | fail) ?_) | (refine Heap.Le.trans ?_ (Grow.le (by assumption))) | exact Le_none | (refine Le_put ?_ (by first | (simp only [Heap.set_same, set_ne, ne_eq, not_false_eq_true, *] <;> rfl) | fail)) | fail))) rfl rfl
  · obtain rfl : n = k := by omega
    have t0 : ¬ ((n : Nat) : Int) < ((n : Nat) : Int) := by omega
    have hfin := hyes fun k y e => hall k y (by rw [← en]; exact (List.getElem?_eq_some_iff.1 e).1) e
    clear hno hall hyes hA
    (all_goals (try simp only [Sq,Sr,Sh,Si,Sl,Bu,Bb,Bd,Bc,Bw,Bn,Int.reduceAdd,Int.reduceSub,Int.reduceMul,Int.reduceTDiv,Int.reduceTMod,Int.reduceMod,Int.reduceDiv,Nat.reduceLT,Nat.reduceEqDiff,Sa,Sb,Sc,Sd,Se,Sf,Sg,Int.reduceLE,Int.reduceLT,Int.reduceToNat,Int.reduceNeg,Int.reduceEq,Nat.reduceLeDiff,Nat.reducePow,Int.reducePow,reduceIte,Nat.reduceSub,Nat.reduceAdd,Nat.reduceMul,putAt,ceq,List.replicate, *])); repeat' ((first | (with_reducible refine fun _ : True => ?_) | (with_reducible refine any_h ?_) | ((first | refine AllocQ_i ?_ | refine AllocO_i ?_); intro bk hb0 hbk; (try simp only [set_none'] at hbk); (try (first | have hbn := Grow.none (by assumption) hbk | have hbn := Grow.none (by assumption) hbk.2 | have hbn := Grow.none (by assumption) hbk.2.2 | have hbn := Grow.none (by assumption) hbk.2.2.2 | have hbn := Grow.none (by assumption) hbk.2.2.2.2 | have hbn := Grow.none (by assumption) hbk.2.2.2.2.2)); (try simp only [set_none'] at hbn); (try (first | have hbm := Grow.none (by assumption) hbn | have hbm := Grow.none (by assumption) hbn.2 | have hbm := Grow.none (by assumption) hbn.2.2 | have hbm := Grow.none (by assumption) hbn.2.2.2 | have hbm := Grow.none (by assumption) hbn.2.2.2.2 | have hbm := Grow.none (by assumption) hbn.2.2.2.2.2)); (try simp only [set_none'] at hbm)) | ((first | refine condS_i ?_ ?_ | refine pick_i ?_ ?_ | refine gS_it ?_ ?_ | refine gS_if ?_ ?_ | refine gP_it ?_ ?_ | refine gP_if ?_ ?_) <;> (intro hc; try simp only [Int.reduceLE,Int.reduceLT,Int.reduceEq,Sn] at hc)) | (with_reducible refine KP_i ?_ ?_; · (repeat' (first | exact Heap.Le.refl _ | (with_reducible refine Le_set2 ?_) | (refine Le_known (by first | (simp only [Heap.set_same, set_ne, ne_eq, not_false_eq_true, *] <;> rfl) | fail) ?_) | (refine Le_fresh (by first | (simp only [*] <;> done) | (simp [set_none', Heap.set_same, set_ne, noneH, *] <;> done) | fail) ?_) | (refine Heap.Le.trans ?_ (Grow.le (by assumption))) | exact Le_none | (refine Le_put ?_ (by first | (simp only [Heap.set_same, set_ne, ne_eq, not_false_eq_true, *] <;> rfl) | fail)) | fail))) | (with_reducible refine And.intro ?_ ?_)) <;> (try simp only [Sq,Sr,Sh,Si,Sl,Bu,Bb,Bd,Bc,Bw,Bn,Int.reduceAdd,Int.reduceSub,Int.reduceMul,Int.reduceTDiv,Int.reduceTMod,Int.reduceMod,Int.reduceDiv,Nat.reduceLT,Nat.reduceEqDiff,Sa,Sb,Sc,Sd,Se,Sf,Sg,Int.reduceLE,Int.reduceLT,Int.reduceToNat,Int.reduceNeg,Int.reduceEq,Nat.reduceLeDiff,Nat.reducePow,Int.reducePow,reduceIte,Nat.reduceSub,Nat.reduceAdd,Nat.reduceMul,putAt,ceq,List.replicate, *]))
    exact Fin_mk (by (repeat' (first | exact Heap.Le.refl _ | (with_reducible refine Le_set2 ?_) | (refine Le_known (by first | (simp only [Heap.set_same, set_ne, ne_eq, not_false_eq_true, *] <;> rfl) | fail) ?_) | (refine Le_fresh (by first | (simp only [*] <;> done) | (simp [set_none', Heap.set_same, set_ne, noneH, *] <;> done) | fail) ?_) | (refine Heap.Le.trans ?_ (Grow.le (by assumption))) | exact Le_none | (refine Le_put ?_ (by first | (simp only [Heap.set_same, set_ne, ne_eq, not_false_eq_true, *] <;> rfl) | fail)) | fail))) hfin
end
end Go.Proofs.Ytokjajfojjibcaa
