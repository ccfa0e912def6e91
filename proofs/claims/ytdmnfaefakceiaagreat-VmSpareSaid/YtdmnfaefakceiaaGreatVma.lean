/- Results of runs, and whether two are one, by both (layer 18). -/
import Derived.Test.YtdmnfaefakceiaaGreatHlt
import Derived.Test.YtdmnfaefakceiaaGreatHlu
import Derived.Test.YtdmnfaefakceiaaGreatPd
import Derived.Test.YtdmnfaefakceiaaGreatProg
set_option linter.unusedSimpArgs false
set_option linter.unusedVariables false
set_option maxRecDepth 100000
set_option maxHeartbeats 4000000
namespace Go.Proofs.YtdmnfaefakceiaaGreat
open Go.HL Go.RowKit Pb
variable {w0 : World} {H G : Heap} {K : Value → Heap → Prop}

theorem kpv {p : Prop} (h : Keep p) : p := h
theorem Fin_le {v : Value} {G : Heap} (h : HL.Fin K v H) (l : Heap.Le H G) : HL.Fin K v G := by
  obtain ⟨E, h1, h2⟩ := h
  exact ⟨E, h1.trans l, h2⟩
theorem rdn_subV {G : Heap} {b k n : Nat} {t : Kd} {l cs : List Value} (h : G b = some ⟨t, l⟩) (e : (l.drop k).take n = cs) (hl : cs.length = n) (hn : 0 < n) : rdn w0 G b k n = some cs := by
  subst hl
  refine rdn_of (fun e => by subst e; simp at hn) fun i hi => ?_
  unfold rd1; rw [h]
  rw [← e, List.getElem?_take_of_lt (by omega), List.getElem?_drop]
structure V4 where
  a : Int
  b : Int
  c : Int
  d : Int
  deriving DecidableEq
def V4.row (x : V4) : List Value := [.int .i32 x.a, .int .i32 x.b, .int .i32 x.c, .int .i32 x.d]
theorem ceq_v4 (x y : V4) : ceq x.row y.row = some (decide (x = y)) := by
  by_cases e : x = y
  · subst e
    simp [V4.row, ceq]
  · rw [decide_eq_false e]
    obtain ⟨a, b, c, d⟩ := x
    obtain ⟨a', b', c', d'⟩ := y
    simp only [V4.mk.injEq] at e
    simp [V4.row, ceq]
    by_cases h1 : a = a' <;> by_cases h2 : b = b' <;> by_cases h3 : c = c' <;> by_cases h4 : d = d' <;> simp_all
structure Res where
  p : V4
  sz : Int
  adr : Option Addr
  cap : Nat
  vs : List V4
  c : V4
  ds : Bool
def Res.row (x : Res) : List Value := [.int .i32 x.p.a, .int .i32 x.p.b, .int .i32 x.p.c, .int .i32 x.p.d, .int .i32 x.sz, .slice x.adr x.vs.length x.cap, .int .i32 x.c.a, .int .i32 x.c.b, .int .i32 x.c.c, .int .i32 x.c.d, .bool x.ds]
def Res.v (x : Res) : Value := .agg ⟨x.row⟩
structure ResAt (w0 : World) (H : Heap) (x : Res) : Prop where
  at_ : SlAt w0 H x.adr (x.vs.map V4.row).flatten
  lm : x.vs.length ≤ maxLen
  lc : x.vs.length ≤ x.cap
theorem ResAt.grow {x : Res} (h : ResAt w0 H x) (g : Grow w0 H G) : ResAt w0 G x := ⟨h.at_.grow g, h.lm, h.lc⟩
/-- Are two results one? -/
def Res.same (x y : Res) : Bool := decide (x.p = y.p) && decide (x.sz = y.sz) && decide (x.c = y.c) && (x.ds == y.ds) && decide (x.vs = y.vs)
theorem Res.same_self (x : Res) : x.same x = true := by simp [Res.same]
theorem v4_row {a : Option Addr} {l : List V4} (h : SlAt w0 H a (l.map V4.row).flatten) {k : Nat} {i : V4} (hk : l[k]? = some i) : ∃ b o, a = some ⟨b, o, none⟩ ∧ rdn w0 H b (o + k * 4) 4 = some i.row ∧ ∀ d, w0.heap.size ≤ d → H d = none → d ≠ b :=
  h.row (fun r hr => by obtain ⟨j, -, rfl⟩ := List.mem_map.1 hr; rfl) (by omega) (i := k) (by rw [List.getElem?_map, hk]; rfl)
/- slices Equal[[]paintbox/api Vec,paintbox/api Vec] -/
def M30 : MC :=
  .seq (.reg [⟨(some 4), .mv (.const (.bool false)), none⟩])
 (.seq (.seq (.reg [⟨(some 6), .mv (.tmp 0), none⟩,
 ⟨(some 7), .len (.tmp 6), none⟩,
 ⟨(some 8), .mv (.tmp 1), none⟩,
 ⟨(some 9), .len (.tmp 8), none⟩,
 ⟨(some 10), .bin .neq (.tmp 7) (.tmp 9), none⟩])
 (.cond (.tmp 10)
 (.seq (.reg [⟨(some 4), .mv (.const (.bool false)), none⟩])
 (.ret))
 (.skip)))
 (.seq (.seq (.reg [⟨(some 11), .mv (.tmp 0), none⟩,
 ⟨(some 12), .len (.tmp 11), none⟩,
 ⟨(some 13), .mv (.const (.int .i64 0)), none⟩])
 (.block 0 (.loop (.seq (.reg [⟨(some 14), .bin .lss (.tmp 13) (.tmp 12), none⟩])
 (.seq (.cond (.tmp 14)
 (.skip)
 (.exit 0))
 (.seq (.block 1 (.seq (.reg [⟨(some 15), .mv (.tmp 13), none⟩,
 ⟨(some 5), .mv (.tmp 15), none⟩])
 (.seq (.any [(true, 0, [], ⟨(some 16), .mv (.tmp 0), none⟩),
 (true, 1, [], ⟨(some 17), .mv (.tmp 5), none⟩),
 (true, 2, [], ⟨(some 18), .is 4 (.tmp 16) (.tmp 17), none⟩),
 (true, 3, [], ⟨(some 19), .ldn 4 (.tmp 18), none⟩),
 (true, 4, [], ⟨(some 20), .mv (.tmp 1), none⟩),
 (false, 5, [0, 1, 2, 3, 4], ⟨(some 21), .mv (.tmp 5), none⟩),
 (false, 6, [0, 1, 2, 3], ⟨(some 22), .is 4 (.tmp 20) (.tmp 21), none⟩),
 (false, 7, [0, 1, 2, 3], ⟨(some 23), .ldn 4 (.tmp 22), none⟩),
 (false, 8, [], ⟨(some 24), .eqa true 4 (.tmp 19) (.tmp 23), none⟩)])
 (.cond (.tmp 24)
 (.seq (.reg [⟨(some 4), .mv (.const (.bool false)), none⟩])
 (.ret))
 (.skip)))))
 (.reg [⟨(some 25), .bin .add (.tmp 13) (.const (.int .i64 1)), none⟩,
 ⟨(some 13), .mv (.tmp 25), none⟩])))))))
 (.seq (.reg [⟨(some 4), .mv (.const (.bool true)), none⟩])
 (.ret))))
theorem k30 : fnOk Tryz.prog 30 = some (M30, [.t 4], 26) := by kernel_rfl

theorem c_EqualV {a a2 : Option Addr} {c c2 : Nat} {x y : List V4} (hx : SlAt w0 H a (x.map V4.row).flatten) (hy : SlAt w0 H a2 (y.map V4.row).flatten) (hxl : x.length ≤ maxLen) (h : K (.bool (decide (x = y))) H) :
    HCalls Tryz.prog w0 30 [.slice a x.length c, .slice a2 y.length c2] H K := by
  have h1 : x = y → HL.Fin K (.bool true) H := fun e => Fin_mk (Heap.Le.refl _) (by rw [decide_eq_true e] at h; exact h)
  have h2 : x ≠ y → HL.Fin K (.bool false) H := fun e => Fin_mk (Heap.Le.refl _) (by rw [decide_eq_false e] at h; exact h)
  clear h
  obtain ⟨n, en⟩ : ∃ n, x.length = n := ⟨_, rfl⟩
  obtain ⟨m, em⟩ : ∃ m, y.length = m := ⟨_, rfl⟩
  rw [en] at hxl
  rw [en, em]
  unfold maxLen at hxl
  by_cases hnm : n = m
  · subst hnm
    have t00 : (n : Int) = n := rfl
    replace en : Keep _ := en
    replace em : Keep _ := em
    replace h1 : Keep _ := h1
    replace h2 : Keep _ := h2
    refine HL.hc k30 999 ?_; unfold M30
    (all_goals (try simp only [Sq,Sr,Sh,Si,Sl,Bu,Bb,Bd,Bc,Bw,Bn,Int.reduceAdd,Int.reduceSub,Int.reduceMul,Int.reduceTDiv,Int.reduceTMod,Int.reduceMod,Int.reduceDiv,Nat.reduceLT,Nat.reduceEqDiff,Sa,Sb,Sc,Sd,Se,Sf,Sg,Int.reduceLE,Int.reduceLT,Int.reduceToNat,Int.reduceNeg,Int.reduceEq,Nat.reduceLeDiff,Nat.reducePow,Int.reducePow,reduceIte,Nat.reduceSub,Nat.reduceAdd,Nat.reduceMul,putAt,ceq,List.replicate, *])); repeat' ((first | (with_reducible refine fun _ : True => ?_) | (with_reducible refine any_h ?_) | ((first | refine AllocQ_i ?_ | refine AllocO_i ?_); intro bk hb0 hbk; (try simp only [set_none'] at hbk); (try (first | have hbn := Grow.none (by assumption) hbk | have hbn := Grow.none (by assumption) hbk.2 | have hbn := Grow.none (by assumption) hbk.2.2 | have hbn := Grow.none (by assumption) hbk.2.2.2 | have hbn := Grow.none (by assumption) hbk.2.2.2.2 | have hbn := Grow.none (by assumption) hbk.2.2.2.2.2)); (try simp only [set_none'] at hbn); (try (first | have hbm := Grow.none (by assumption) hbn | have hbm := Grow.none (by assumption) hbn.2 | have hbm := Grow.none (by assumption) hbn.2.2 | have hbm := Grow.none (by assumption) hbn.2.2.2 | have hbm := Grow.none (by assumption) hbn.2.2.2.2 | have hbm := Grow.none (by assumption) hbn.2.2.2.2.2)); (try simp only [set_none'] at hbm)) | ((first | refine condS_i ?_ ?_ | refine pick_i ?_ ?_ | refine gS_it ?_ ?_ | refine gS_if ?_ ?_ | refine gP_it ?_ ?_ | refine gP_if ?_ ?_) <;> (intro hc; try simp only [Int.reduceLE,Int.reduceLT,Int.reduceEq,Sn] at hc)) | (with_reducible refine KP_i ?_ ?_; · (repeat' (first | exact Heap.Le.refl _ | (with_reducible refine Le_set2 ?_) | (refine Le_known (by first | (simp only [Heap.set_same, set_ne, ne_eq, not_false_eq_true, *] <;> rfl) | fail) ?_) | (refine Le_fresh (by first | (simp only [*] <;> done) | (simp [set_none', Heap.set_same, set_ne, noneH, *] <;> done) | fail) ?_) | (refine Heap.Le.trans ?_ (Grow.le (by assumption))) | exact Le_none | (refine Le_put ?_ (by first | (simp only [Heap.set_same, set_ne, ne_eq, not_false_eq_true, *] <;> rfl) | fail)) | fail))) | (with_reducible refine And.intro ?_ ?_)) <;> (try simp only [Sq,Sr,Sh,Si,Sl,Bu,Bb,Bd,Bc,Bw,Bn,Int.reduceAdd,Int.reduceSub,Int.reduceMul,Int.reduceTDiv,Int.reduceTMod,Int.reduceMod,Int.reduceDiv,Nat.reduceLT,Nat.reduceEqDiff,Sa,Sb,Sc,Sd,Se,Sf,Sg,Int.reduceLE,Int.reduceLT,Int.reduceToNat,Int.reduceNeg,Int.reduceEq,Nat.reduceLeDiff,Nat.reducePow,Int.reducePow,reduceIte,Nat.reduceSub,Nat.reduceAdd,Nat.reduceMul,putAt,ceq,List.replicate, *]))
    refine loop_g 14 (fun s : Nat × Value => [(5, s.2), (13, .int .i64 (s.1 : Nat))]) (fun s => H) (fun s => s.1 ≤ n ∧ ∀ j, j < s.1 → x[j]? = y[j]?) (fun s => n - s.1) (0, undef) ⟨Nat.zero_le _, fun k hk => by simp at hk⟩ (Heap.Le.refl _) rfl ?_
    intro ⟨k, v⟩ g ⟨hk, hall⟩
    simp only at hk hall
    rcases Nat.lt_or_ge k n with hlt | hge
    · obtain ⟨i, ei⟩ : ∃ i, x[k]? = some i := ⟨_, List.getElem?_eq_getElem (by rw [show x.length = _ from en]; exact hlt)⟩
      obtain ⟨j, ej⟩ : ∃ j, y[k]? = some j := ⟨_, List.getElem?_eq_getElem (by rw [show y.length = _ from em]; exact hlt)⟩
      obtain ⟨b, o, rfl, hr, hf⟩ := v4_row hx ei
      obtain ⟨b', o', rfl, hr', hf'⟩ := v4_row hy ej
      have hq := ceq_v4 i j
      have nxt : decide (i = j) = true → ∀ j', j' < k + 1 → x[j']? = y[j']? := fun e j' hj' => by
        rcases Nat.lt_or_ge j' k with h' | h'
        · exact hall j' h'
        · obtain rfl : j' = k := by omega
          rw [ei, ej, of_decide_eq_true e]
      have fin : decide (i = j) = false → HL.Fin K (.bool false) H := fun e => (show _ → _ from h2) fun e' => of_decide_eq_false e (by rw [e', ej] at ei; cases ei; rfl)
      obtain ⟨q, eq⟩ : ∃ q, decide (i = j) = q := ⟨_, rfl⟩
      rw [eq] at hq nxt fin
      have li : i.row.length = 4 := rfl
      have lj : j.row.length = 4 := rfl
      generalize i.row = R at hr hq li
      generalize j.row = S at hr' hq lj
      have hq' : ceq R.toArray.toList S.toArray.toList = some q := by simpa using hq
      have t0 : (k : Int) < n := by omega
      have t6 : IntKind.i64.wrap ((k : Int) + 1) = (k : Int) + 1 := Bw.1 _ (by omega) (by omega)
      clear hall ei ej eq hx hy
      replace nxt : Keep _ := nxt
      replace fin : Keep _ := fin
      cases q
      all_goals (all_goals (try simp only [Sq,Sr,Sh,Si,Sl,Bu,Bb,Bd,Bc,Bw,Bn,Int.reduceAdd,Int.reduceSub,Int.reduceMul,Int.reduceTDiv,Int.reduceTMod,Int.reduceMod,Int.reduceDiv,Nat.reduceLT,Nat.reduceEqDiff,Sa,Sb,Sc,Sd,Se,Sf,Sg,Int.reduceLE,Int.reduceLT,Int.reduceToNat,Int.reduceNeg,Int.reduceEq,Nat.reduceLeDiff,Nat.reducePow,Int.reducePow,reduceIte,Nat.reduceSub,Nat.reduceAdd,Nat.reduceMul,putAt,ceq,List.replicate, *])); repeat' ((first | (with_reducible refine fun _ : True => ?_) | (with_reducible refine any_h ?_) | ((first | refine AllocQ_i ?_ | refine AllocO_i ?_); intro bk hb0 hbk; (try simp only [set_none'] at hbk); (try (first | have hbn := Grow.none (by assumption) hbk | have hbn := Grow.none (by assumption) hbk.2 | have hbn := Grow.none (by assumption) hbk.2.2 | have hbn := Grow.none (by assumption) hbk.2.2.2 | have hbn := Grow.none (by assumption) hbk.2.2.2.2 | have hbn := Grow.none (by assumption) hbk.2.2.2.2.2)); (try simp only [set_none'] at hbn); (try (first | have hbm := Grow.none (by assumption) hbn | have hbm := Grow.none (by assumption) hbn.2 | have hbm := Grow.none (by assumption) hbn.2.2 | have hbm := Grow.none (by assumption) hbn.2.2.2 | have hbm := Grow.none (by assumption) hbn.2.2.2.2 | have hbm := Grow.none (by assumption) hbn.2.2.2.2.2)); (try simp only [set_none'] at hbm)) | ((first | refine condS_i ?_ ?_ | refine pick_i ?_ ?_ | refine gS_it ?_ ?_ | refine gS_if ?_ ?_ | refine gP_it ?_ ?_ | refine gP_if ?_ ?_) <;> (intro hc; try simp only [Int.reduceLE,Int.reduceLT,Int.reduceEq,Sn] at hc)) | (with_reducible refine KP_i ?_ ?_; · (repeat' (first | exact Heap.Le.refl _ | (with_reducible refine Le_set2 ?_) | (refine Le_known (by first | (simp only [Heap.set_same, set_ne, ne_eq, not_false_eq_true, *] <;> rfl) | fail) ?_) | (refine Le_fresh (by first | (simp only [*] <;> done) | (simp [set_none', Heap.set_same, set_ne, noneH, *] <;> done) | fail) ?_) | (refine Heap.Le.trans ?_ (Grow.le (by assumption))) | exact Le_none | (refine Le_put ?_ (by first | (simp only [Heap.set_same, set_ne, ne_eq, not_false_eq_true, *] <;> rfl) | fail)) | fail))) | (with_reducible refine And.intro ?_ ?_)) <;> (try simp only [Sq,Sr,Sh,Si,Sl,Bu,Bb,Bd,Bc,Bw,Bn,Int.reduceAdd,Int.reduceSub,Int.reduceMul,Int.reduceTDiv,Int.reduceTMod,Int.reduceMod,Int.reduceDiv,Nat.reduceLT,Nat.reduceEqDiff,Sa,Sb,Sc,Sd,Se,Sf,Sg,Int.reduceLE,Int.reduceLT,Int.reduceToNat,Int.reduceNeg,Int.reduceEq,Nat.reduceLeDiff,Nat.reducePow,Int.reducePow,reduceIte,Nat.reduceSub,Nat.reduceAdd,Nat.reduceMul,putAt,ceq,List.replicate, *]))
      · exact kpv fin rfl
      · exact Round_mk (k + 1, _) ⟨hlt, kpv nxt rfl⟩ (by simp only; omega) (Heap.Le.refl _) rfl rfl
    · obtain rfl : k = n := by omega
      have fin := (show _ → _ from h1) (List.ext_getElem? fun j => by
        rcases Nat.lt_or_ge j k with h' | h'
        · exact hall j h'
        · rw [List.getElem?_eq_none (by rw [show x.length = _ from en]; exact h'), List.getElem?_eq_none (by rw [show y.length = _ from em]; exact h')])
      have t0 : ¬ ((k : Nat) : Int) < (k : Nat) := by omega
      clear hall
      (all_goals (try simp only [Sq,Sr,Sh,Si,Sl,Bu,Bb,Bd,Bc,Bw,Bn,Int.reduceAdd,Int.reduceSub,Int.reduceMul,Int.reduceTDiv,Int.reduceTMod,Int.reduceMod,Int.reduceDiv,Nat.reduceLT,Nat.reduceEqDiff,Sa,Sb,Sc,Sd,Se,Sf,Sg,Int.reduceLE,Int.reduceLT,Int.reduceToNat,Int.reduceNeg,Int.reduceEq,Nat.reduceLeDiff,Nat.reducePow,Int.reducePow,reduceIte,Nat.reduceSub,Nat.reduceAdd,Nat.reduceMul,putAt,ceq,List.replicate, *])); repeat' ((first | (with_reducible refine fun _ : True => ?_) | (with_reducible refine any_h ?_) | ((first | refine AllocQ_i ?_ | refine AllocO_i ?_); intro bk hb0 hbk; (try simp only [set_none'] at hbk); (try (first | have hbn := Grow.none (by assumption) hbk | have hbn := Grow.none (by assumption) hbk.2 | have hbn := Grow.none (by assumption) hbk.2.2 | have hbn := Grow.none (by assumption) hbk.2.2.2 | have hbn := Grow.none (by assumption) hbk.2.2.2.2 | have hbn := Grow.none (by assumption) hbk.2.2.2.2.2)); (try simp only [set_none'] at hbn); (try (first | have hbm := Grow.none (by assumption) hbn | have hbm := Grow.none (by assumption) hbn.2 | have hbm := Grow.none (by assumption) hbn.2.2 | have hbm := Grow.none (by assumption) hbn.2.2.2 | have hbm := Grow.none (by assumption) hbn.2.2.2.2 | have hbm := Grow.none (by assumption) hbn.2.2.2.2.2)); (try simp only [set_none'] at hbm)) | ((first | refine condS_i ?_ ?_ | refine pick_i ?_ ?_ | refine gS_it ?_ ?_ | refine gS_if ?_ ?_ | refine gP_it ?_ ?_ | refine gP_if ?_ ?_) <;> (intro hc; try simp only [Int.reduceLE,Int.reduceLT,Int.reduceEq,Sn] at hc)) | (with_reducible refine KP_i ?_ ?_; · (repeat' (first | exact Heap.Le.refl _ | (with_reducible refine Le_set2 ?_) | (refine Le_known (by first | (simp only [Heap.set_same, set_ne, ne_eq, not_false_eq_true, *] <;> rfl) | fail) ?_) | (refine Le_fresh (by first | (simp only [*] <;> done) | (simp [set_none', Heap.set_same, set_ne, noneH, *] <;> done) | fail) ?_) | (refine Heap.Le.trans ?_ (Grow.le (by assumption))) | exact Le_none | (refine Le_put ?_ (by first | (simp only [Heap.set_same, set_ne, ne_eq, not_false_eq_true, *] <;> rfl) | fail)) | fail))) | (with_reducible refine And.intro ?_ ?_)) <;> (try simp only [Sq,Sr,Sh,Si,Sl,Bu,Bb,Bd,Bc,Bw,Bn,Int.reduceAdd,Int.reduceSub,Int.reduceMul,Int.reduceTDiv,Int.reduceTMod,Int.reduceMod,Int.reduceDiv,Nat.reduceLT,Nat.reduceEqDiff,Sa,Sb,Sc,Sd,Se,Sf,Sg,Int.reduceLE,Int.reduceLT,Int.reduceToNat,Int.reduceNeg,Int.reduceEq,Nat.reduceLeDiff,Nat.reducePow,Int.reducePow,reduceIte,Nat.reduceSub,Nat.reduceAdd,Nat.reduceMul,putAt,ceq,List.replicate, *]))
      all_goals exact fin
  · have fin := h2 fun e => hnm (by rw [← en, ← em, e])
    have t0 : ¬ (n : Int) = m := by omega
    clear hx hy en em
    refine HL.hc k30 999 ?_; unfold M30
    (all_goals (try simp only [Sq,Sr,Sh,Si,Sl,Bu,Bb,Bd,Bc,Bw,Bn,Int.reduceAdd,Int.reduceSub,Int.reduceMul,Int.reduceTDiv,Int.reduceTMod,Int.reduceMod,Int.reduceDiv,Nat.reduceLT,Nat.reduceEqDiff,Sa,Sb,Sc,Sd,Se,Sf,Sg,Int.reduceLE,Int.reduceLT,Int.reduceToNat,Int.reduceNeg,Int.reduceEq,Nat.reduceLeDiff,Nat.reducePow,Int.reducePow,reduceIte,Nat.reduceSub,Nat.reduceAdd,Nat.reduceMul,putAt,ceq,List.replicate, *])); repeat' ((first | (with_reducible refine fun _ : True => ?_) | (with_reducible refine any_h ?_) | ((first | refine AllocQ_i ?_ | refine AllocO_i ?_); intro bk hb0 hbk; (try simp only [set_none'] at hbk); (try (first | have hbn := Grow.none (by assumption) hbk | have hbn := Grow.none (by assumption) hbk.2 | have hbn := Grow.none (by assumption) hbk.2.2 | have hbn := Grow.none (by assumption) hbk.2.2.2 | have hbn := Grow.none (by assumption) hbk.2.2.2.2 | have hbn := Grow.none (by assumption) hbk.2.2.2.2.2)); (try simp only [set_none'] at hbn); (try (first | have hbm := Grow.none (by assumption) hbn | have hbm := Grow.none (by assumption) hbn.2 | have hbm := Grow.none (by assumption) hbn.2.2 | have hbm := Grow.none (by assumption) hbn.2.2.2 | have hbm := Grow.none (by assumption) hbn.2.2.2.2 | have hbm := Grow.none (by assumption) hbn.2.2.2.2.2)); (try simp only [set_none'] at hbm)) | ((first | refine condS_i ?_ ?_ | refine pick_i ?_ ?_ | refine gS_it ?_ ?_ | refine gS_if ?_ ?_ | refine gP_it ?_ ?_ | refine gP_if ?_ ?_) <;> (intro hc; try simp only [Int.reduceLE,Int.reduceLT,Int.reduceEq,Sn] at hc)) | (with_reducible refine KP_i ?_ ?_; · (repeat' (first | exact Heap.Le.refl _ | (with_reducible refine Le_set2 ?_) | (refine Le_known (by first | (simp only [Heap.set_same, set_ne, ne_eq, not_false_eq_true, *] <;> rfl) | fail) ?_) | (refine Le_fresh (by first | (simp only [*] <;> done) | (simp [set_none', Heap.set_same, set_ne, noneH, *] <;> done) | fail) ?_) | (refine Heap.Le.trans ?_ (Grow.le (by assumption))) | exact Le_none | (refine Le_put ?_ (by first | (simp only [Heap.set_same, set_ne, ne_eq, not_false_eq_true, *] <;> rfl) | fail)) | fail))) | (with_reducible refine And.intro ?_ ?_)) <;> (try simp only [Sq,Sr,Sh,Si,Sl,Bu,Bb,Bd,Bc,Bw,Bn,Int.reduceAdd,Int.reduceSub,Int.reduceMul,Int.reduceTDiv,Int.reduceTMod,Int.reduceMod,Int.reduceDiv,Nat.reduceLT,Nat.reduceEqDiff,Sa,Sb,Sc,Sd,Se,Sf,Sg,Int.reduceLE,Int.reduceLT,Int.reduceToNat,Int.reduceNeg,Int.reduceEq,Nat.reduceLeDiff,Nat.reducePow,Int.reducePow,reduceIte,Nat.reduceSub,Nat.reduceAdd,Nat.reduceMul,putAt,ceq,List.replicate, *]))
    all_goals exact fin
end Go.Proofs.YtdmnfaefakceiaaGreat
