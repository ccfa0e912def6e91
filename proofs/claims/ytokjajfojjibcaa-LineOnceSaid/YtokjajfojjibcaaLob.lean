/- A line as fragments: the program, wide, downward (layer 23). -/
import Derived.Test.YtokjajfojjibcaaLnq
import Derived.Test.YtokjajfojjibcaaLnrp
set_option linter.unusedSimpArgs false
set_option linter.unusedVariables false
set_option maxRecDepth 100000
set_option maxHeartbeats 16000000
namespace Go.Proofs.Ytokjajfojjibcaa
open Go Go.HL Go.RowKit Go.ChangeShapes Go.WideShapes Pb
variable {w0 : World} {H : Heap} {K : Value → Heap → Prop}

theorem c_Line_wd (x y : WnR) (hx : WnOk w0 H x) (hy : WnOk w0 H y) (hr : Tog [x.toWn, y.toWn]) (hw : wideA x.toWn y.toWn) (hq : y.x < x.x)
    (h : ∀ a' cap' os H', os.map FrR.toFr = lineC x.toWn y.toWn true x.x y.x x.y y.y 64 → RO fragT w0 H' a' cap' os → Bld w0 H H' a' cap' 10 46 (os.map FrR.row).flatten → Grow w0 H H' → K (.tuple #[.slice a' os.length cap', .int .i64 0]) H') : HCalls Try.prog w0 10 [x.v, y.v] H K := by
  obtain ⟨hrx, hry, hlen⟩ := tog2 hr
  replace hlen : Keep _ := hlen
  have hcC : ∀ (b : Nat) (t : TypeId) (G : Heap) (K : Value → Heap → Prop), Grow w0 H G → G b = some ⟨t, x.row ++ y.row⟩ → K (.int .i64 0) G → HCalls Try.prog w0 20 [.slice (some ⟨b, 0, none⟩) 2 2] G K := fun b t G K g e hk => c_Check (some ⟨b, 0, none⟩) 2 [x, y] (by simp) (cs_two hx hy G b t g e) (fun _ => hk) (fun hh => (hh hr).elim)
  unfold WnR.row at hcC
  have hxw := hx.hw
  have hyw := hy.hw
  obtain ⟨⟨x1, x2⟩, ⟨x3, x4⟩, x5, x6⟩ := hrx
  obtain ⟨⟨y1, y2⟩, ⟨y3, y4⟩, y5, y6⟩ := hry
  obtain ⟨gx, ex⟩ : ∃ g : Int, g = (if x.x ≤ y.x then y.x - x.x else x.x - y.x) := ⟨_, rfl⟩
  obtain ⟨gy, ey⟩ : ∃ g : Int, g = (if x.y ≤ y.y then y.y - x.y else x.y - y.y) := ⟨_, rfl⟩
  have hw' : ¬ gx < gy := by unfold wideA at hw; rw [← ex, ← ey] at hw; omega
  have hcG1 : ∀ (G : Heap) (K : Value → Heap → Prop), K (.int .i64 gx) G → HCalls Try.prog w0 23 [.int .i64 x.x, .int .i64 y.x] G K := fun G K hk => c_gap _ _ gx (by omega) (by omega) (by constructor <;> (intro hh; rw [ex]; split <;> omega)) hk
  have hcG2 : ∀ (G : Heap) (K : Value → Heap → Prop), K (.int .i64 gy) G → HCalls Try.prog w0 23 [.int .i64 x.y, .int .i64 y.y] G K := fun G K hk => c_gap _ _ gy (by omega) (by omega) (by constructor <;> (intro hh; rw [ey]; split <;> omega)) hk
  have hcD1 : ∀ (G : Heap) (K : Value → Heap → Prop), K (.int .i32 (fdiv 65536 x.w)) G → HCalls Try.prog w0 24 [.int .i32 65536, .int .i32 x.w] G K := fun G K hk => c_Div _ _ (i32_of rfl) hxw hk
  have hcD2 : ∀ (G : Heap) (K : Value → Heap → Prop), K (.int .i32 (fdiv 65536 y.w)) G → HCalls Try.prog w0 24 [.int .i32 65536, .int .i32 y.w] G K := fun G K hk => c_Div _ _ (i32_of rfl) hyw hk
  have hcF : ∀ (G : Heap) (K : Value → Heap → Prop), K (.tuple #[.int .i64 ((x.x - 128) / 256), .int .i64 (-1)]) G → HCalls Try.prog w0 25 [.int .i64 (x.x), .int .i64 (y.x)] G K := fun G K hk => c_first_dn _ _ (by omega) hq hk
  have hcX : ∀ (b : Nat) (G : Heap) (K : Value → Heap → Prop), K (.pointer (some ⟨b, 0, none⟩)) G → HCalls Try.prog w0 21 [.pointer (some ⟨b, 0, none⟩)] G K := fun b G K hk => c_alongX b hk
  have hcY : ∀ (b : Nat) (G : Heap) (K : Value → Heap → Prop), K (.pointer (some ⟨b, 1, none⟩)) G → HCalls Try.prog w0 22 [.pointer (some ⟨b, 0, none⟩)] G K := fun b G K hk => c_alongY b hk
  clear ex ey hw
  obtain ⟨n0, en0⟩ : ∃ n : Nat, (x.x - 128) / 256 = 63 - (n : Int) := ⟨(63 - (x.x - 128) / 256).toNat, by omega⟩
  have hn64 : n0 ≤ 64 := by omega
  have hn0 : 256 * (63 - (n0 : Int)) ≤ x.x - 128 ∧ x.x - 128 < 256 * (63 - (n0 : Int)) + 256 := by omega
  rw [en0] at hcF
  replace en0 : Keep _ := en0
  replace hcX : Keep _ := hcX
  replace hcY : Keep _ := hcY
  unfold WnR.v
  refine HL.hc k10 3000 ?_; unfold M10
  (all_goals (try simp only [Sq,Sr,Sh,Si,Sl,Bu,Bb,Bd,Bc,Bw,Bn,Int.reduceAdd,Int.reduceSub,Int.reduceMul,Int.reduceTDiv,Int.reduceTMod,Int.reduceMod,Int.reduceDiv,Nat.reduceLT,Nat.reduceEqDiff,Sa,Sb,Sc,Sd,Se,Sf,Sg,Int.reduceLE,Int.reduceLT,Int.reduceToNat,Int.reduceNeg,Int.reduceEq,Nat.reduceLeDiff,Nat.reducePow,Int.reducePow,reduceIte,Nat.reduceSub,Nat.reduceAdd,Nat.reduceMul,putAt,ceq,List.replicate, *])); repeat' ((first | (with_reducible refine fun _ : True => ?_) | refine hcC _ _ _ _ (by (repeat' (first | exact Grow.refl _ | assumption | (refine Grow_known (by first | (simp only [Heap.set_same, set_ne, ne_eq, not_false_eq_true, *] <;> rfl) | fail) ?_) | (refine Grow.set ?_ (by assumption) (by first | (simp only [*] <;> done) | (simp [set_none', Heap.set_same, set_ne, noneH, *] <;> done) | fail)) | (refine Grow.trans ?_ (by assumption))))) (by simp only [Heap.set_same, set_ne, ne_eq, not_false_eq_true, *] <;> rfl) ?_ | refine hcG1 _ _ ?_ | refine hcG2 _ _ ?_ | refine hcD1 _ _ ?_ | refine hcD2 _ _ ?_ | refine hcF _ _ ?_ | refine hcX _ _ _ ?_ | refine hcY _ _ _ ?_ | (with_reducible refine any_h ?_) | ((first | refine AllocQ_i ?_ | refine AllocO_i ?_); intro bk hb0 hbk; (try simp only [set_none'] at hbk); (try (first | have hbn := Grow.none (by assumption) hbk | have hbn := Grow.none (by assumption) hbk.2 | have hbn := Grow.none (by assumption) hbk.2.2 | have hbn := Grow.none (by assumption) hbk.2.2.2 | have hbn := Grow.none (by assumption) hbk.2.2.2.2 | have hbn := Grow.none (by assumption) hbk.2.2.2.2.2)); (try simp only [set_none'] at hbn); (try (first | have hbm := Grow.none (by assumption) hbn | have hbm := Grow.none (by assumption) hbn.2 | have hbm := Grow.none (by assumption) hbn.2.2 | have hbm := Grow.none (by assumption) hbn.2.2.2 | have hbm := Grow.none (by assumption) hbn.2.2.2.2 | have hbm := Grow.none (by assumption) hbn.2.2.2.2.2)); (try simp only [set_none'] at hbm)) | ((first | refine condS_i ?_ ?_ | refine pick_i ?_ ?_ | refine gS_it ?_ ?_ | refine gS_if ?_ ?_ | refine gP_it ?_ ?_ | refine gP_if ?_ ?_) <;> (intro hc; try simp only [Int.reduceLE,Int.reduceLT,Int.reduceEq,Sn] at hc)) | (with_reducible refine KP_i ?_ ?_; · (repeat' (first | exact Heap.Le.refl _ | (with_reducible refine Le_set2 ?_) | (refine Le_known (by first | (simp only [Heap.set_same, set_ne, ne_eq, not_false_eq_true, *] <;> rfl) | fail) ?_) | (refine Le_fresh (by first | (simp only [*] <;> done) | (simp [set_none', Heap.set_same, set_ne, noneH, *] <;> done) | fail) ?_) | (refine Heap.Le.trans ?_ (Grow.le (by assumption))) | exact Le_none | (refine Le_put ?_ (by first | (simp only [Heap.set_same, set_ne, ne_eq, not_false_eq_true, *] <;> rfl) | fail)) | fail))) | (with_reducible refine And.intro ?_ ?_)) <;> (try simp only [Sq,Sr,Sh,Si,Sl,Bu,Bb,Bd,Bc,Bw,Bn,Int.reduceAdd,Int.reduceSub,Int.reduceMul,Int.reduceTDiv,Int.reduceTMod,Int.reduceMod,Int.reduceDiv,Nat.reduceLT,Nat.reduceEqDiff,Sa,Sb,Sc,Sd,Se,Sf,Sg,Int.reduceLE,Int.reduceLT,Int.reduceToNat,Int.reduceNeg,Int.reduceEq,Nat.reduceLeDiff,Nat.reducePow,Int.reducePow,reduceIte,Nat.reduceSub,Nat.reduceAdd,Nat.reduceMul,putAt,ceq,List.replicate, *]))
  refine loopq_heap (fun H1 eH => ?_)
  rename_i b1 p1 q1 b2 p2 q2
  have k1 : H1 b1 = some ⟨.t 25, x.row⟩ := by rw [eH]; exact (by simp only [Heap.set_same, set_ne, ne_eq, not_false_eq_true, *] <;> rfl)
  have k2 : H1 b2 = some ⟨.t 25, y.row⟩ := by rw [eH]; exact (by simp only [Heap.set_same, set_ne, ne_eq, not_false_eq_true, *] <;> rfl)
  have g1 : Grow w0 H H1 := by rw [eH]; exact (by (repeat' (first | exact Grow.refl _ | assumption | (refine Grow_known (by first | (simp only [Heap.set_same, set_ne, ne_eq, not_false_eq_true, *] <;> rfl) | fail) ?_) | (refine Grow.set ?_ (by assumption) (by first | (simp only [*] <;> done) | (simp [set_none', Heap.set_same, set_ne, noneH, *] <;> done) | fail)) | (refine Grow.trans ?_ (by assumption)))))
  have z1 : H b1 = none := q1
  have z2 : H b2 = none := q2.2
  have hne : b1 ≠ b2 := q2.1.2
  have hne2 : b2 ≠ b1 := q2.1.1
  clear eH hcC hcG1 hcG2 hcD1 hcD2 hcF
  refine loopq_name (fun code kont T em eK eT => ?_)
  refine loop_g5 27 (fun (j : Nat) (us : List Value) (a' : Option Addr) (cap' : Nat) (os : List FrR) => [(15, .slice a' os.length cap'), (16, .int .i64 (63 - (j : Int))), (18, us.getD 0 undef), (19, us.getD 1 undef), (20, us.getD 2 undef), (21, us.getD 3 undef), (22, us.getD 4 undef), (23, us.getD 5 undef), (24, us.getD 6 undef), (25, us.getD 7 undef), (26, us.getD 8 undef)])
    (fun j us a' cap' os G => (n0 ≤ j ∧ j ≤ 64) ∧ Grow w0 H1 G ∧ RB fragT w0 H1 G a' cap' os ∧ os.map FrR.toFr = lineC x.toWn y.toWn true x.x y.x x.y y.y j)
    (fun j => 64 - j) n0 [] none 0 [] ⟨⟨Nat.le_refl _, hn64⟩, Grow.refl _, RB.nil, ?hd⟩ (by subst eT; rfl) ?_
  case hd =>
    refine (lineC_head fun j hj => ?_).symm
    have hj : j < n0 := hj
    rw [if_pos hq]
    unfold inA
    omega
  intro j us a' cap' os G g hok
  obtain ⟨⟨hj0, hj⟩, hG, hB, hos⟩ := hok
  have hlenj : os.length ≤ j := by have := lineC_len (a := x.toWn) (b := y.toWn) (wide := true) (p := x.x) (q := y.x) (s := x.y) (t := y.y) j; rw [← hos, List.length_map] at this; exact this
  have kk1 := hG.some k1
  have kk2 := hG.some k2
  rcases Nat.lt_or_ge j 64 with hlt | hge
  · have r1 : 0 ≤ (63 - (j : Int) : Int) := by omega
    have r2 : (63 - (j : Int) : Int) < 64 := by omega
    have s1 : IntKind.i64.wrap (256 * (63 - (j : Int))) = 256 * (63 - (j : Int)) := Bw.1 _ (by omega) (by omega)
    have s6 : IntKind.i64.wrap (63 - (j : Int) + -1) = 63 - ((j : Int) + 1) := by rw [Bw.1 _ (by omega) (by omega)]; omega
    obtain ⟨c, ec⟩ : ∃ c : Int, 256 * (63 - (j : Int)) + 128 = c := ⟨_, rfl⟩
    have s2 : IntKind.i64.wrap (256 * (63 - (j : Int)) + 128) = c := by rw [ec]; exact Bw.1 _ (by omega) (by omega)
    have bc : 128 ≤ c ∧ c ≤ 16384 := by omega
    have hpc : c ≤ x.x := by omega
    by_cases hbr : c ≤ y.x
    · have hlast : lineC x.toWn y.toWn true x.x y.x x.y y.y 64 = lineC x.toWn y.toWn true x.x y.x x.y y.y j := lineC_tail hj fun j' h1 h2 => by
        rw [if_pos hq]
        unfold inA
        omega
      have h := h a' cap' os G (hos.trans hlast.symm) (hB.ro hG) (Bld.base hB.bld g1) (g1.trans hG)
      replace ec : Keep _ := ec
      clear hos hlast hB
      subst em eK eT
      show run _ _ _ _ _ _ G
      (all_goals (try simp only [Sq,Sr,Sh,Si,Sl,Bu,Bb,Bd,Bc,Bw,Bn,Int.reduceAdd,Int.reduceSub,Int.reduceMul,Int.reduceTDiv,Int.reduceTMod,Int.reduceMod,Int.reduceDiv,Nat.reduceLT,Nat.reduceEqDiff,Sa,Sb,Sc,Sd,Se,Sf,Sg,Int.reduceLE,Int.reduceLT,Int.reduceToNat,Int.reduceNeg,Int.reduceEq,Nat.reduceLeDiff,Nat.reducePow,Int.reducePow,reduceIte,Nat.reduceSub,Nat.reduceAdd,Nat.reduceMul,putAt,ceq,List.replicate, *])); repeat' ((first | (with_reducible refine fun _ : True => ?_) | (with_reducible refine any_h ?_) | ((first | refine AllocQ_i ?_ | refine AllocO_i ?_); intro bk hb0 hbk; (try simp only [set_none'] at hbk); (try (first | have hbn := Grow.none (by assumption) hbk | have hbn := Grow.none (by assumption) hbk.2 | have hbn := Grow.none (by assumption) hbk.2.2 | have hbn := Grow.none (by assumption) hbk.2.2.2 | have hbn := Grow.none (by assumption) hbk.2.2.2.2 | have hbn := Grow.none (by assumption) hbk.2.2.2.2.2)); (try simp only [set_none'] at hbn); (try (first | have hbm := Grow.none (by assumption) hbn | have hbm := Grow.none (by assumption) hbn.2 | have hbm := Grow.none (by assumption) hbn.2.2 | have hbm := Grow.none (by assumption) hbn.2.2.2 | have hbm := Grow.none (by assumption) hbn.2.2.2.2 | have hbm := Grow.none (by assumption) hbn.2.2.2.2.2)); (try simp only [set_none'] at hbm)) | ((first | refine condS_i ?_ ?_ | refine pick_i ?_ ?_ | refine gS_it ?_ ?_ | refine gS_if ?_ ?_ | refine gP_it ?_ ?_ | refine gP_if ?_ ?_) <;> (intro hc; try simp only [Int.reduceLE,Int.reduceLT,Int.reduceEq,Sn] at hc)) | (with_reducible refine KP_i ?_ ?_; · (repeat' (first | exact Heap.Le.refl _ | (with_reducible refine Le_set2 ?_) | (refine Le_known (by first | (simp only [Heap.set_same, set_ne, ne_eq, not_false_eq_true, *] <;> rfl) | fail) ?_) | (refine Le_fresh (by first | (simp only [*] <;> done) | (simp [set_none', Heap.set_same, set_ne, noneH, *] <;> done) | fail) ?_) | (refine Heap.Le.trans ?_ (Grow.le (by assumption))) | exact Le_none | (refine Le_put ?_ (by first | (simp only [Heap.set_same, set_ne, ne_eq, not_false_eq_true, *] <;> rfl) | fail)) | fail))) | (with_reducible refine And.intro ?_ ?_)) <;> (try simp only [Sq,Sr,Sh,Si,Sl,Bu,Bb,Bd,Bc,Bw,Bn,Int.reduceAdd,Int.reduceSub,Int.reduceMul,Int.reduceTDiv,Int.reduceTMod,Int.reduceMod,Int.reduceDiv,Nat.reduceLT,Nat.reduceEqDiff,Sa,Sb,Sc,Sd,Se,Sf,Sg,Int.reduceLE,Int.reduceLT,Int.reduceToNat,Int.reduceNeg,Int.reduceEq,Nat.reduceLeDiff,Nat.reducePow,Int.reducePow,reduceIte,Nat.reduceSub,Nat.reduceAdd,Nat.reduceMul,putAt,ceq,List.replicate, *]))
      all_goals exact Fin_mk (Heap.Le.refl _) h
    · have f1 : ¬ (x.x = y.x) := by omega
      obtain ⟨L, eL⟩ : ∃ L : Int, c - y.x = L := ⟨_, rfl⟩
      obtain ⟨Dn, eD⟩ : ∃ D : Int, x.x - c = D := ⟨_, rfl⟩
      have hin : inA (x.x) (y.x) (256 * (63 - (j : Int)) + 128) := by unfold inA; omega
      have hcK : ∀ (G : Heap) (K : Value → Heap → Prop), K (.int .i64 (kA (x.x) (y.x) (x.y) (y.y) c)) G → HCalls Try.prog w0 26 [.int .i64 (x.y), .int .i64 (y.y), .int .i64 (c - x.x), .int .i64 (y.x - x.x)] G K := fun G K hk => c_cell_dn _ _ _ _ (by omega) (by omega) (by omega) (by omega) (by rw [show -(c - x.x) = x.x - c by omega, show -(y.x - x.x) = x.x - y.x by omega, ← kA_dn hq]; exact hk)
      have hstep := lineC_dn (a := x.toWn) (b := y.toWn) (wide := true) (p := x.x) (q := y.x) (s := x.y) (t := y.y) hq j
      have hfr : ∀ kk, kA (x.x) (y.x) (x.y) (y.y) c = kk → frA x.toWn y.toWn true x.x y.x x.y y.y (63 - (j : Int)) = ⟨if true then 63 - (j : Int) else kk, if true then kk else 63 - (j : Int), nearI x.z y.z Dn (L + Dn), nearI (fdiv 65536 x.w) (fdiv 65536 y.w) Dn (L + Dn), true, vf 0 0 0 0, btVs L Dn x.w y.w x.l y.l⟩ := fun kk e => by
        unfold frA lfA dnA
        rw [if_pos hq, if_pos hq, ec, e, eL, eD]
      have bL : 0 < L ∧ L ≤ 16384 := by omega
      have bD : 0 ≤ Dn ∧ Dn ≤ 16384 := by omega
      have hcL : ∀ (G : Heap) (K : Value → Heap → Prop), K (.int .i64 L) G → HCalls Try.prog w0 23 [.int .i64 (y.x), .int .i64 c] G K := fun G K hk => c_gap _ _ L (by omega) (by omega) (by omega) hk
      have hcN : ∀ (G : Heap) (K : Value → Heap → Prop), K (.int .i64 Dn) G → HCalls Try.prog w0 23 [.int .i64 c, .int .i64 (x.x)] G K := fun G K hk => c_gap _ _ Dn (by omega) (by omega) (by omega) hk
      have w1 : IntKind.i32.wrap L = L := Bw.2 _ (by omega) (by omega)
      have w2 : IntKind.i32.wrap Dn = Dn := Bw.2 _ (by omega) (by omega)
      have w3 : IntKind.i64.wrap (c - x.x) = c - x.x := Bw.1 _ (by omega) (by omega)
      have w4 : IntKind.i64.wrap (y.x - x.x) = y.x - x.x := Bw.1 _ (by omega) (by omega)
      obtain ⟨k, ek⟩ : ∃ k : Int, kA (x.x) (y.x) (x.y) (y.y) c = k := ⟨_, rfl⟩
      rw [ek] at hcK
      replace hcK : Keep _ := hcK
      replace hcL : Keep _ := hcL
      replace hcN : Keep _ := hcN
      replace hfr := hfr k ek
      by_cases hk : 0 ≤ k ∧ k ≤ 63
      · have n1 : ¬ k < 0 := by omega
        have n2 : ¬ 64 ≤ k := by omega
        rw [atC_in hin (by rw [ec, ek]; exact hk.1) (by rw [ec, ek]; exact hk.2), hfr] at hstep
        have hz := hx.hz
        have hz' := hy.hz
        have hcZ : ∀ (G : Heap) (K : Value → Heap → Prop), K (.int .i32 (nearI x.z y.z Dn (L + Dn))) G → HCalls Try.prog w0 27 [.int .i32 x.z, .int .i32 y.z, .int .i32 L, .int .i32 Dn] G K := fun G K hk => c_plain _ _ _ _ hz hz' (by omega) (by omega) (by omega) hk
        have hcW : ∀ (G : Heap) (K : Value → Heap → Prop), K (.int .i32 (nearI (fdiv 65536 x.w) (fdiv 65536 y.w) Dn (L + Dn))) G → HCalls Try.prog w0 27 [.int .i32 (fdiv 65536 x.w), .int .i32 (fdiv 65536 y.w), .int .i32 L, .int .i32 Dn] G K := fun G K hk => c_plain _ _ _ _ fdiv_I32 fdiv_I32 (by omega) (by omega) (by omega) hk
        obtain ⟨zz, ez⟩ : ∃ z : Int, nearI x.z y.z Dn (L + Dn) = z := ⟨_, rfl⟩
        obtain ⟨ww, eww⟩ : ∃ z : Int, nearI (fdiv 65536 x.w) (fdiv 65536 y.w) Dn (L + Dn) = z := ⟨_, rfl⟩
        rw [ez] at hcZ hstep
        rw [eww] at hcW hstep
        replace hcZ : Keep _ := hcZ
        replace hcW : Keep _ := hcW
        have hbt : BtOk L Dn x.w y.w := ⟨by omega, by omega, by omega, x5, y5⟩
        replace hstep : Keep _ := hstep
        replace hos : Keep _ := hos
        replace ec : Keep _ := ec
        replace eL : Keep _ := eL
        replace eD : Keep _ := eD
        clear hfr hin ek ez eww h hk hlenj
        have hlenj : os.length ≤ 64 := by have := congrArg List.length (show _ = _ from hos); rw [List.length_map] at this; have := lineC_len (a := x.toWn) (b := y.toWn) (wide := true) (p := x.x) (q := y.x) (s := x.y) (t := y.y) j; omega
        subst em eK eT
        show run _ _ _ _ _ _ G
        rw [root2 hne kk1 kk2]
        unfold WnR.row at k1 k2 kk1 kk2 ⊢
        (all_goals (try simp only [Sq,Sr,Sh,Si,Sl,Bu,Bb,Bd,Bc,Bw,Bn,Int.reduceAdd,Int.reduceSub,Int.reduceMul,Int.reduceTDiv,Int.reduceTMod,Int.reduceMod,Int.reduceDiv,Nat.reduceLT,Nat.reduceEqDiff,Sa,Sb,Sc,Sd,Se,Sf,Sg,Int.reduceLE,Int.reduceLT,Int.reduceToNat,Int.reduceNeg,Int.reduceEq,Nat.reduceLeDiff,Nat.reducePow,Int.reducePow,reduceIte,Nat.reduceSub,Nat.reduceAdd,Nat.reduceMul,putAt,ceq,List.replicate, *])); repeat' ((first | (with_reducible refine fun _ : True => ?_) | refine hcL _ _ ?_ | refine hcN _ _ ?_ | refine hcK _ _ ?_ | refine hcZ _ _ ?_ | refine hcW _ _ ?_ | refine hcX _ _ _ ?_ | refine hcY _ _ _ ?_ | (with_reducible refine any_h ?_) | ((first | refine AllocQ_i ?_ | refine AllocO_i ?_); intro bk hb0 hbk; (try simp only [set_none'] at hbk); (try (first | have hbn := Grow.none (by assumption) hbk | have hbn := Grow.none (by assumption) hbk.2 | have hbn := Grow.none (by assumption) hbk.2.2 | have hbn := Grow.none (by assumption) hbk.2.2.2 | have hbn := Grow.none (by assumption) hbk.2.2.2.2 | have hbn := Grow.none (by assumption) hbk.2.2.2.2.2)); (try simp only [set_none'] at hbn); (try (first | have hbm := Grow.none (by assumption) hbn | have hbm := Grow.none (by assumption) hbn.2 | have hbm := Grow.none (by assumption) hbn.2.2 | have hbm := Grow.none (by assumption) hbn.2.2.2 | have hbm := Grow.none (by assumption) hbn.2.2.2.2 | have hbm := Grow.none (by assumption) hbn.2.2.2.2.2)); (try simp only [set_none'] at hbm)) | ((first | refine condS_i ?_ ?_ | refine pick_i ?_ ?_ | refine gS_it ?_ ?_ | refine gS_if ?_ ?_ | refine gP_it ?_ ?_ | refine gP_if ?_ ?_) <;> (intro hc; try simp only [Int.reduceLE,Int.reduceLT,Int.reduceEq,Sn] at hc)) | (with_reducible refine KP_i ?_ ?_; · (repeat' (first | exact Heap.Le.refl _ | (with_reducible refine Le_set2 ?_) | (refine Le_known (by first | (simp only [Heap.set_same, set_ne, ne_eq, not_false_eq_true, *] <;> rfl) | fail) ?_) | (refine Le_fresh (by first | (simp only [*] <;> done) | (simp [set_none', Heap.set_same, set_ne, noneH, *] <;> done) | fail) ?_) | (refine Heap.Le.trans ?_ (Grow.le (by assumption))) | exact Le_none | (refine Le_put ?_ (by first | (simp only [Heap.set_same, set_ne, ne_eq, not_false_eq_true, *] <;> rfl) | fail)) | fail))) | (with_reducible refine And.intro ?_ ?_)) <;> (try simp only [Sq,Sr,Sh,Si,Sl,Bu,Bb,Bd,Bc,Bw,Bn,Int.reduceAdd,Int.reduceSub,Int.reduceMul,Int.reduceTDiv,Int.reduceTMod,Int.reduceMod,Int.reduceDiv,Nat.reduceLT,Nat.reduceEqDiff,Sa,Sb,Sc,Sd,Se,Sf,Sg,Int.reduceLE,Int.reduceLT,Int.reduceToNat,Int.reduceNeg,Int.reduceEq,Nat.reduceLeDiff,Nat.reducePow,Int.reducePow,reduceIte,Nat.reduceSub,Nat.reduceAdd,Nat.reduceMul,putAt,ceq,List.replicate, *]))
        refine loopq_heap (fun H2 eH2 => ?_)
        rename_i bf pf qf qf2 qf3
        rw [← root2 hne kk1 kk2] at eH2
        have kf : H2 bf = some ⟨46, [.int .i64 (63 - (j : Int)), .int .i64 (k), .int .i32 zz, .int .i32 ww, .bool true, .int .i32 0, .int .i32 0, .int .i32 0, .int .i32 0, .slice none 0 0]⟩ := by rw [eH2]; exact (by simp only [Heap.set_same, set_ne, ne_eq, not_false_eq_true, *] <;> rfl)
        have gG2 : Grow w0 G H2 := by rw [eH2]; exact (by (repeat' (first | exact Grow.refl _ | assumption | (refine Grow_known (by first | (simp only [Heap.set_same, set_ne, ne_eq, not_false_eq_true, *] <;> rfl) | fail) ?_) | (refine Grow.set ?_ (by assumption) (by first | (simp only [*] <;> done) | (simp [set_none', Heap.set_same, set_ne, noneH, *] <;> done) | fail)) | (refine Grow.trans ?_ (by assumption)))))
        have zf : G bf = none := qf.2.2
        have gHG : Grow w0 H G := g1.trans hG
        have zf0 : H bf = none := gHG.none zf
        have df1 : bf ≠ b1 := fun e => by subst e; rw [zf] at kk1; cases kk1
        have df2 : bf ≠ b2 := fun e => by subst e; rw [zf] at kk2; cases kk2
        have df3 : b1 ≠ bf := fun e => df1 e.symm
        have df4 : b2 ≠ bf := fun e => df2 e.symm
        clear eH2 qf qf2 qf3 hbk hbn hbm hcL hcN hcK hcZ hcW hcX hcY
        have hxl := hx.vs
        have hyl := hy.vs
        have hxm : x.l.length ≤ 4 := x6
        refine loopq_name (fun code2 kont2 T2 em2 eK2 eT2 => ?_)
        refine loop_g5 163 (fun (m : Nat) (ws : List Value) (a2 : Option Addr) (cap2 : Nat) (vs : List (Nat → Int)) => [(23, ws.getD 0 undef), (24, ws.getD 1 undef), (25, ws.getD 2 undef), (26, ws.getD 3 undef), (162, .int .i64 (m : Nat))])
          (fun m ws a2 cap2 vs F => m ≤ x.l.length ∧ Grow w0 G F ∧ F bf = some ⟨46, [.int .i64 (63 - (j : Int)), .int .i64 (k), .int .i32 zz, .int .i32 ww, .bool true, .int .i32 0, .int .i32 0, .int .i32 0, .int .i32 0, .slice a2 m cap2]⟩ ∧ (VsNew w0 G F a2 cap2 vs ∧ vs.length = m) ∧ vs = (btVs L Dn x.w y.w x.l y.l).take m)
          (fun m => x.l.length - m) 0 [us.getD 5 undef, us.getD 6 undef, us.getD 7 undef, us.getD 8 undef] none 0 [] ⟨Nat.zero_le _, gG2, kf, ⟨⟨Bld.none, Nat.le_refl _, by simp, by simp, by simp⟩, rfl⟩, rfl⟩ (by subst eT2; rfl) ?_
        clear kf gG2
        intro m ws a2 cap2 vs F g2 hok
        obtain ⟨hm, hF, kF, ⟨hV, hvl⟩, hvs⟩ := hok
        have m1 := hF.some kk1
        have m2 := hF.some kk2
        have gHF : Grow w0 H F := gHG.trans hF
        rcases Nat.lt_or_ge m x.l.length with hlm | hgm
        · obtain ⟨u, eu⟩ : ∃ u, x.l[m]? = some u := ⟨_, List.getElem?_eq_getElem hlm⟩
          obtain ⟨v, ev⟩ : ∃ v, y.l[m]? = some v := ⟨_, List.getElem?_eq_getElem (by have := (show x.l.length = y.l.length from hlen); omega)⟩
          have hu := hxl.v u (List.mem_of_getElem? eu)
          have hv := hyl.v v (List.mem_of_getElem? ev)
          have hbV := btV_ok hu hv hbt (by omega) (by omega) hxw.2 hyw.2
          have hcB : ∀ (j : Nat) (G : Heap) (K : Value → Heap → Prop), K (.int .i32 (btwI (u j) (v j) L Dn x.w y.w)) G → HCalls Try.prog w0 16 [.int .i32 (u j), .int .i32 (v j), .int .i32 L, .int .i32 Dn, .agg #[.int .i32 x.w, .int .i32 y.w]] G K := fun j G K hk => c_Between_ok _ _ _ _ _ _ (hu j) (hv j) (by unfold I32; omega) (by unfold I32; omega) hxw hyw hbt hk
          replace hcB : Keep _ := hcB
          have hz := btVs_succ (l := L) (d := Dn) (x := x.w) (y := y.w) eu ev
          obtain ⟨bx, ox, eax, r1, f1⟩ := rows_vs hxl eu
          obtain ⟨by_, oy, eay, r2, f2⟩ := rows_vs hyl ev
          replace r1 := gHF.rdn r1 (by decide)
          obtain ⟨y0, y1, y2, y3⟩ := vs_rd (gHF.rdn r2 (by decide))
          rw [eax] at m1
          rw [eay] at m2
          replace hvl : Keep _ := hvl
          replace hvs : Keep _ := hvs
          have t0 : (m : Int) < (x.l.length : Int) := by omega
          have t1 : (m : Int) < (y.l.length : Int) := by have := (show x.l.length = y.l.length from hlen); omega
          have u6 : IntKind.i64.wrap ((m : Int) + 1) = (m : Int) + 1 := Bw.1 _ (by omega) (by omega)
          subst em2 eK2 eT2
          show run _ _ _ _ _ _ F
          rw [root3 m1 m2 kF]
          (all_goals (try simp only [Sq,Sr,Sh,Si,Sl,Bu,Bb,Bd,Bc,Bw,Bn,Int.reduceAdd,Int.reduceSub,Int.reduceMul,Int.reduceTDiv,Int.reduceTMod,Int.reduceMod,Int.reduceDiv,Nat.reduceLT,Nat.reduceEqDiff,Sa,Sb,Sc,Sd,Se,Sf,Sg,Int.reduceLE,Int.reduceLT,Int.reduceToNat,Int.reduceNeg,Int.reduceEq,Nat.reduceLeDiff,Nat.reducePow,Int.reducePow,reduceIte,Nat.reduceSub,Nat.reduceAdd,Nat.reduceMul,putAt,ceq,List.replicate, *])); repeat' ((first | (with_reducible refine fun _ : True => ?_) | refine hcB _ _ _ ?_ | (with_reducible refine any_h ?_) | ((first | refine AllocQ_i ?_ | refine AllocO_i ?_); intro bk hb0 hbk; (try simp only [set_none'] at hbk); (try (first | have hbn := Grow.none (by assumption) hbk | have hbn := Grow.none (by assumption) hbk.2 | have hbn := Grow.none (by assumption) hbk.2.2 | have hbn := Grow.none (by assumption) hbk.2.2.2 | have hbn := Grow.none (by assumption) hbk.2.2.2.2 | have hbn := Grow.none (by assumption) hbk.2.2.2.2.2)); (try simp only [set_none'] at hbn); (try (first | have hbm := Grow.none (by assumption) hbn | have hbm := Grow.none (by assumption) hbn.2 | have hbm := Grow.none (by assumption) hbn.2.2 | have hbm := Grow.none (by assumption) hbn.2.2.2 | have hbm := Grow.none (by assumption) hbn.2.2.2.2 | have hbm := Grow.none (by assumption) hbn.2.2.2.2.2)); (try simp only [set_none'] at hbm)) | ((first | refine condS_i ?_ ?_ | refine pick_i ?_ ?_ | refine gS_it ?_ ?_ | refine gS_if ?_ ?_ | refine gP_it ?_ ?_ | refine gP_if ?_ ?_) <;> (intro hc; try simp only [Int.reduceLE,Int.reduceLT,Int.reduceEq,Sn] at hc)) | (with_reducible refine KP_i ?_ ?_; · (repeat' (first | exact Heap.Le.refl _ | (with_reducible refine Le_set2 ?_) | (refine Le_known (by first | (simp only [Heap.set_same, set_ne, ne_eq, not_false_eq_true, *] <;> rfl) | fail) ?_) | (refine Le_fresh (by first | (simp only [*] <;> done) | (simp [set_none', Heap.set_same, set_ne, noneH, *] <;> done) | fail) ?_) | (refine Heap.Le.trans ?_ (Grow.le (by assumption))) | exact Le_none | (refine Le_put ?_ (by first | (simp only [Heap.set_same, set_ne, ne_eq, not_false_eq_true, *] <;> rfl) | fail)) | fail))) | (with_reducible refine loop_u ?_) | (with_reducible refine And.intro ?_ ?_)) <;> (try simp only [Sq,Sr,Sh,Si,Sl,Bu,Bb,Bd,Bc,Bw,Bn,Int.reduceAdd,Int.reduceSub,Int.reduceMul,Int.reduceTDiv,Int.reduceTMod,Int.reduceMod,Int.reduceDiv,Nat.reduceLT,Nat.reduceEqDiff,Sa,Sb,Sc,Sd,Se,Sf,Sg,Int.reduceLE,Int.reduceLT,Int.reduceToNat,Int.reduceNeg,Int.reduceEq,Nat.reduceLeDiff,Nat.reducePow,Int.reducePow,reduceIte,Nat.reduceSub,Nat.reduceAdd,Nat.reduceMul,putAt,ceq,List.replicate, *]))
          refine app_bld2 (H := G) (n := m) (m := 1) (cs := (vs.map VC).flatten) (ns := VC (btV L Dn x.w y.w u v)) (by rw [← root3 m1 m2 kF]; exact hV.bld.grow (by (repeat' (first | exact Grow.refl _ | assumption | (refine Grow_known (by first | (simp only [Heap.set_same, set_ne, ne_eq, not_false_eq_true, *] <;> rfl) | fail) ?_) | (refine Grow.set ?_ (by assumption) (by first | (simp only [*] <;> done) | (simp [set_none', Heap.set_same, set_ne, noneH, *] <;> done) | fail)) | (refine Grow.trans ?_ (by assumption)))))) (by rw [vcs_len, (show _ = _ from hvl)]) rfl (srd_blk (by simp only [Heap.set_same, set_ne, ne_eq, not_false_eq_true, *] <;> rfl) rfl) rfl (by rw [← root3 m1 m2 kF]; exact hF.trans (by (repeat' (first | exact Grow.refl _ | assumption | (refine Grow_known (by first | (simp only [Heap.set_same, set_ne, ne_eq, not_false_eq_true, *] <;> rfl) | fail) ?_) | (refine Grow.set ?_ (by assumption) (by first | (simp only [*] <;> done) | (simp [set_none', Heap.set_same, set_ne, noneH, *] <;> done) | fail)) | (refine Grow.trans ?_ (by assumption)))))) ⟨by omega, by omega⟩ rfl (fun a3 c3 F3 hB3 hg3 hk3 hc3 _ => ?_)
          have kF3 := hk3 bf _ (by simp only [Heap.set_same, set_ne, ne_eq, not_false_eq_true, *] <;> rfl) (by simp)
          have hlv : (vs ++ [btV L Dn x.w y.w u v]).length = m + 1 := by rw [List.length_append, (show _ = _ from hvl)]; rfl
          have hB4 : Bld w0 G F3 a3 c3 4 38 ((vs ++ [btV L Dn x.w y.w u v]).map VC).flatten := by rw [List.map_append, List.flatten_append]; simpa using hB3
          have hV4 : VsNew w0 G F3 a3 c3 (vs ++ [btV L Dn x.w y.w u v]) := ⟨hB4, by rw [hlv]; exact hc3, by rw [hlv]; unfold maxLen; omega, by rw [hlv]; omega, fun z hz => by
            rcases List.mem_append.1 hz with h | h
            · exact hV.v z h
            · obtain rfl := List.mem_singleton.1 h
              exact hbV⟩
          have e5 : vs ++ [btV L Dn x.w y.w u v] = (btVs L Dn x.w y.w x.l y.l).take (m + 1) := by rw [hz, ← (show vs = _ from hvs)]
          replace hlv : Keep _ := hlv
          replace e5 : Keep _ := e5
          clear hk3 hB3 hB4 hV hF gHF m1 m2 kF hz hbV hcB hc3 y0 y1 y2 y3 r1 r2 f1 f2 eu ev
          rw [root1 kF3]
          (all_goals (try simp only [Sq,Sr,Sh,Si,Sl,Bu,Bb,Bd,Bc,Bw,Bn,Int.reduceAdd,Int.reduceSub,Int.reduceMul,Int.reduceTDiv,Int.reduceTMod,Int.reduceMod,Int.reduceDiv,Nat.reduceLT,Nat.reduceEqDiff,Sa,Sb,Sc,Sd,Se,Sf,Sg,Int.reduceLE,Int.reduceLT,Int.reduceToNat,Int.reduceNeg,Int.reduceEq,Nat.reduceLeDiff,Nat.reducePow,Int.reducePow,reduceIte,Nat.reduceSub,Nat.reduceAdd,Nat.reduceMul,putAt,ceq,List.replicate, *])); repeat' ((first | (with_reducible refine fun _ : True => ?_) | (with_reducible refine any_h ?_) | ((first | refine AllocQ_i ?_ | refine AllocO_i ?_); intro bk hb0 hbk; (try simp only [set_none'] at hbk); (try (first | have hbn := Grow.none (by assumption) hbk | have hbn := Grow.none (by assumption) hbk.2 | have hbn := Grow.none (by assumption) hbk.2.2 | have hbn := Grow.none (by assumption) hbk.2.2.2 | have hbn := Grow.none (by assumption) hbk.2.2.2.2 | have hbn := Grow.none (by assumption) hbk.2.2.2.2.2)); (try simp only [set_none'] at hbn); (try (first | have hbm := Grow.none (by assumption) hbn | have hbm := Grow.none (by assumption) hbn.2 | have hbm := Grow.none (by assumption) hbn.2.2 | have hbm := Grow.none (by assumption) hbn.2.2.2 | have hbm := Grow.none (by assumption) hbn.2.2.2.2 | have hbm := Grow.none (by assumption) hbn.2.2.2.2.2)); (try simp only [set_none'] at hbm)) | ((first | refine condS_i ?_ ?_ | refine pick_i ?_ ?_ | refine gS_it ?_ ?_ | refine gS_if ?_ ?_ | refine gP_it ?_ ?_ | refine gP_if ?_ ?_) <;> (intro hc; try simp only [Int.reduceLE,Int.reduceLT,Int.reduceEq,Sn] at hc)) | (with_reducible refine KP_i ?_ ?_; · (repeat' (first | exact Heap.Le.refl _ | (with_reducible refine Le_set2 ?_) | (refine Le_known (by first | (simp only [Heap.set_same, set_ne, ne_eq, not_false_eq_true, *] <;> rfl) | fail) ?_) | (refine Le_fresh (by first | (simp only [*] <;> done) | (simp [set_none', Heap.set_same, set_ne, noneH, *] <;> done) | fail) ?_) | (refine Heap.Le.trans ?_ (Grow.le (by assumption))) | exact Le_none | (refine Le_put ?_ (by first | (simp only [Heap.set_same, set_ne, ne_eq, not_false_eq_true, *] <;> rfl) | fail)) | fail))) | (with_reducible refine And.intro ?_ ?_)) <;> (try simp only [Sq,Sr,Sh,Si,Sl,Bu,Bb,Bd,Bc,Bw,Bn,Int.reduceAdd,Int.reduceSub,Int.reduceMul,Int.reduceTDiv,Int.reduceTMod,Int.reduceMod,Int.reduceDiv,Nat.reduceLT,Nat.reduceEqDiff,Sa,Sb,Sc,Sd,Se,Sf,Sg,Int.reduceLE,Int.reduceLT,Int.reduceToNat,Int.reduceNeg,Int.reduceEq,Nat.reduceLeDiff,Nat.reducePow,Int.reducePow,reduceIte,Nat.reduceSub,Nat.reduceAdd,Nat.reduceMul,putAt,ceq,List.replicate, *]))
          exact Round_k 23 4 (fun us => (m + 1, us, a3, c3, vs ++ [btV L Dn x.w y.w u v])) ⟨hlm, hg3.set pf zf, Heap.set_same _ _ _, ⟨hV4.keep (KeepT.refl.set kF3 (fun e => absurd (Kd.t.inj e) (show ¬ ((46 : Nat) = 38) from by decide))), hlv⟩, e5⟩ (by simp only; omega) rfl rfl
        · obtain rfl : m = x.l.length := by omega
          have t0 : ¬ ((x.l.length : Nat) : Int) < ((x.l.length : Nat) : Int) := by omega
          have hvs2 : vs = btVs L Dn x.w y.w x.l y.l := by rw [hvs]; exact List.take_of_length_le (by unfold btVs; rw [List.length_zipWith]; omega)
          rw [← hvl] at kF
          replace hvl : Keep _ := hvl
          replace hvs2 : Keep _ := hvs2
          clear hvs m1 m2 gHF gHG hm hgm
          subst em2 eK2 eT2
          show run _ _ _ _ _ _ F
          rw [root1 kF]
          (all_goals (try simp only [Sq,Sr,Sh,Si,Sl,Bu,Bb,Bd,Bc,Bw,Bn,Int.reduceAdd,Int.reduceSub,Int.reduceMul,Int.reduceTDiv,Int.reduceTMod,Int.reduceMod,Int.reduceDiv,Nat.reduceLT,Nat.reduceEqDiff,Sa,Sb,Sc,Sd,Se,Sf,Sg,Int.reduceLE,Int.reduceLT,Int.reduceToNat,Int.reduceNeg,Int.reduceEq,Nat.reduceLeDiff,Nat.reducePow,Int.reducePow,reduceIte,Nat.reduceSub,Nat.reduceAdd,Nat.reduceMul,putAt,ceq,List.replicate, *])); repeat' ((first | (with_reducible refine fun _ : True => ?_) | (with_reducible refine any_h ?_) | ((first | refine AllocQ_i ?_ | refine AllocO_i ?_); intro bk hb0 hbk; (try simp only [set_none'] at hbk); (try (first | have hbn := Grow.none (by assumption) hbk | have hbn := Grow.none (by assumption) hbk.2 | have hbn := Grow.none (by assumption) hbk.2.2 | have hbn := Grow.none (by assumption) hbk.2.2.2 | have hbn := Grow.none (by assumption) hbk.2.2.2.2 | have hbn := Grow.none (by assumption) hbk.2.2.2.2.2)); (try simp only [set_none'] at hbn); (try (first | have hbm := Grow.none (by assumption) hbn | have hbm := Grow.none (by assumption) hbn.2 | have hbm := Grow.none (by assumption) hbn.2.2 | have hbm := Grow.none (by assumption) hbn.2.2.2 | have hbm := Grow.none (by assumption) hbn.2.2.2.2 | have hbm := Grow.none (by assumption) hbn.2.2.2.2.2)); (try simp only [set_none'] at hbm)) | ((first | refine condS_i ?_ ?_ | refine pick_i ?_ ?_ | refine gS_it ?_ ?_ | refine gS_if ?_ ?_ | refine gP_it ?_ ?_ | refine gP_if ?_ ?_) <;> (intro hc; try simp only [Int.reduceLE,Int.reduceLT,Int.reduceEq,Sn] at hc)) | (with_reducible refine KP_i ?_ ?_; · (repeat' (first | exact Heap.Le.refl _ | (with_reducible refine Le_set2 ?_) | (refine Le_known (by first | (simp only [Heap.set_same, set_ne, ne_eq, not_false_eq_true, *] <;> rfl) | fail) ?_) | (refine Le_fresh (by first | (simp only [*] <;> done) | (simp [set_none', Heap.set_same, set_ne, noneH, *] <;> done) | fail) ?_) | (refine Heap.Le.trans ?_ (Grow.le (by assumption))) | exact Le_none | (refine Le_put ?_ (by first | (simp only [Heap.set_same, set_ne, ne_eq, not_false_eq_true, *] <;> rfl) | fail)) | fail))) | (with_reducible refine And.intro ?_ ?_)) <;> (try simp only [Sq,Sr,Sh,Si,Sl,Bu,Bb,Bd,Bc,Bw,Bn,Int.reduceAdd,Int.reduceSub,Int.reduceMul,Int.reduceTDiv,Int.reduceTMod,Int.reduceMod,Int.reduceDiv,Nat.reduceLT,Nat.reduceEqDiff,Sa,Sb,Sc,Sd,Se,Sf,Sg,Int.reduceLE,Int.reduceLT,Int.reduceToNat,Int.reduceNeg,Int.reduceEq,Nat.reduceLeDiff,Nat.reducePow,Int.reducePow,reduceIte,Nat.reduceSub,Nat.reduceAdd,Nat.reduceMul,putAt,ceq,List.replicate, *]))
          refine app_rb (R := fragT) (ns := [(⟨⟨63 - (j : Int), k, zz, ww, true, vf 0 0 0 0, vs⟩, a2, cap2⟩ : FrR)]) (by rw [← root1 kF]; exact hB.grow (hF.trans (by (repeat' (first | exact Grow.refl _ | assumption | (refine Grow_known (by first | (simp only [Heap.set_same, set_ne, ne_eq, not_false_eq_true, *] <;> rfl) | fail) ?_) | (refine Grow.set ?_ (by assumption) (by first | (simp only [*] <;> done) | (simp [set_none', Heap.set_same, set_ne, noneH, *] <;> done) | fail)) | (refine Grow.trans ?_ (by assumption))))))) rfl (srd_blk (by simp only [Heap.set_same, set_ne, ne_eq, not_false_eq_true, *] <;> rfl) rfl) (fun z hz q hq => ?_) (by rw [← root1 kF]; exact hG.trans (hF.trans (by (repeat' (first | exact Grow.refl _ | assumption | (refine Grow_known (by first | (simp only [Heap.set_same, set_ne, ne_eq, not_false_eq_true, *] <;> rfl) | fail) ?_) | (refine Grow.set ?_ (by assumption) (by first | (simp only [*] <;> done) | (simp [set_none', Heap.set_same, set_ne, noneH, *] <;> done) | fail)) | (refine Grow.trans ?_ (by assumption))))))) (by simp; omega) (by decide) (fun a4 c4 os4 G4 e4 hB4 hG4 => ?_)
          · obtain rfl := List.mem_singleton.1 hz
            obtain rfl := List.mem_singleton.1 hq
            rw [← root1 kF]
            exact (hV.base hG).at.grow (by (repeat' (first | exact Grow.refl _ | assumption | (refine Grow_known (by first | (simp only [Heap.set_same, set_ne, ne_eq, not_false_eq_true, *] <;> rfl) | fail) ?_) | (refine Grow.set ?_ (by assumption) (by first | (simp only [*] <;> done) | (simp [set_none', Heap.set_same, set_ne, noneH, *] <;> done) | fail)) | (refine Grow.trans ?_ (by assumption)))))
          · have e5 : os4.map FrR.toFr = lineC x.toWn y.toWn true x.x y.x x.y y.y (j + 1) := by rw [e4, List.map_append, (show _ = _ from hos), (show _ = _ from hstep), ← (show _ = _ from hvs2)]; rfl
            replace e5 : Keep _ := e5
            clear e4 hB hG hF hV kF hvs2
            (all_goals (try simp only [Sq,Sr,Sh,Si,Sl,Bu,Bb,Bd,Bc,Bw,Bn,Int.reduceAdd,Int.reduceSub,Int.reduceMul,Int.reduceTDiv,Int.reduceTMod,Int.reduceMod,Int.reduceDiv,Nat.reduceLT,Nat.reduceEqDiff,Sa,Sb,Sc,Sd,Se,Sf,Sg,Int.reduceLE,Int.reduceLT,Int.reduceToNat,Int.reduceNeg,Int.reduceEq,Nat.reduceLeDiff,Nat.reducePow,Int.reducePow,reduceIte,Nat.reduceSub,Nat.reduceAdd,Nat.reduceMul,putAt,ceq,List.replicate, *])); repeat' ((first | (with_reducible refine fun _ : True => ?_) | (with_reducible refine any_h ?_) | ((first | refine AllocQ_i ?_ | refine AllocO_i ?_); intro bk hb0 hbk; (try simp only [set_none'] at hbk); (try (first | have hbn := Grow.none (by assumption) hbk | have hbn := Grow.none (by assumption) hbk.2 | have hbn := Grow.none (by assumption) hbk.2.2 | have hbn := Grow.none (by assumption) hbk.2.2.2 | have hbn := Grow.none (by assumption) hbk.2.2.2.2 | have hbn := Grow.none (by assumption) hbk.2.2.2.2.2)); (try simp only [set_none'] at hbn); (try (first | have hbm := Grow.none (by assumption) hbn | have hbm := Grow.none (by assumption) hbn.2 | have hbm := Grow.none (by assumption) hbn.2.2 | have hbm := Grow.none (by assumption) hbn.2.2.2 | have hbm := Grow.none (by assumption) hbn.2.2.2.2 | have hbm := Grow.none (by assumption) hbn.2.2.2.2.2)); (try simp only [set_none'] at hbm)) | ((first | refine condS_i ?_ ?_ | refine pick_i ?_ ?_ | refine gS_it ?_ ?_ | refine gS_if ?_ ?_ | refine gP_it ?_ ?_ | refine gP_if ?_ ?_) <;> (intro hc; try simp only [Int.reduceLE,Int.reduceLT,Int.reduceEq,Sn] at hc)) | (with_reducible refine KP_i ?_ ?_; · (repeat' (first | exact Heap.Le.refl _ | (with_reducible refine Le_set2 ?_) | (refine Le_known (by first | (simp only [Heap.set_same, set_ne, ne_eq, not_false_eq_true, *] <;> rfl) | fail) ?_) | (refine Le_fresh (by first | (simp only [*] <;> done) | (simp [set_none', Heap.set_same, set_ne, noneH, *] <;> done) | fail) ?_) | (refine Heap.Le.trans ?_ (Grow.le (by assumption))) | exact Le_none | (refine Le_put ?_ (by first | (simp only [Heap.set_same, set_ne, ne_eq, not_false_eq_true, *] <;> rfl) | fail)) | fail))) | (with_reducible refine And.intro ?_ ?_)) <;> (try simp only [Sq,Sr,Sh,Si,Sl,Bu,Bb,Bd,Bc,Bw,Bn,Int.reduceAdd,Int.reduceSub,Int.reduceMul,Int.reduceTDiv,Int.reduceTMod,Int.reduceMod,Int.reduceDiv,Nat.reduceLT,Nat.reduceEqDiff,Sa,Sb,Sc,Sd,Se,Sf,Sg,Int.reduceLE,Int.reduceLT,Int.reduceToNat,Int.reduceNeg,Int.reduceEq,Nat.reduceLeDiff,Nat.reducePow,Int.reducePow,reduceIte,Nat.reduceSub,Nat.reduceAdd,Nat.reduceMul,putAt,ceq,List.replicate, *]))
            exact Round_k 18 9 (fun us => (j + 1, us, a4, c4, os4)) ⟨⟨Nat.le_succ_of_le hj0, hlt⟩, hG4, hB4, e5⟩ (by simp only; omega) rfl rfl
      · have hout : os.map FrR.toFr = lineC x.toWn y.toWn true x.x y.x x.y y.y (j + 1) := by
          rw [hstep, atC_out (by rw [ec, ek]; exact hk), hos]; simp
        replace hout : Keep _ := hout
        clear hstep hos hfr h
        replace ec : Keep _ := ec
        replace eL : Keep _ := eL
        replace eD : Keep _ := eD
        rcases (by omega : k < 0 ∨ ¬ k < 0 ∧ 64 ≤ k) with n1 | ⟨n1, n2⟩
        all_goals clear hk ek
        all_goals subst em eK eT
        all_goals show run _ _ _ _ _ _ G
        all_goals (all_goals (try simp only [Sq,Sr,Sh,Si,Sl,Bu,Bb,Bd,Bc,Bw,Bn,Int.reduceAdd,Int.reduceSub,Int.reduceMul,Int.reduceTDiv,Int.reduceTMod,Int.reduceMod,Int.reduceDiv,Nat.reduceLT,Nat.reduceEqDiff,Sa,Sb,Sc,Sd,Se,Sf,Sg,Int.reduceLE,Int.reduceLT,Int.reduceToNat,Int.reduceNeg,Int.reduceEq,Nat.reduceLeDiff,Nat.reducePow,Int.reducePow,reduceIte,Nat.reduceSub,Nat.reduceAdd,Nat.reduceMul,putAt,ceq,List.replicate, *])); repeat' ((first | (with_reducible refine fun _ : True => ?_) | refine hcL _ _ ?_ | refine hcN _ _ ?_ | refine hcK _ _ ?_ | (with_reducible refine any_h ?_) | ((first | refine AllocQ_i ?_ | refine AllocO_i ?_); intro bk hb0 hbk; (try simp only [set_none'] at hbk); (try (first | have hbn := Grow.none (by assumption) hbk | have hbn := Grow.none (by assumption) hbk.2 | have hbn := Grow.none (by assumption) hbk.2.2 | have hbn := Grow.none (by assumption) hbk.2.2.2 | have hbn := Grow.none (by assumption) hbk.2.2.2.2 | have hbn := Grow.none (by assumption) hbk.2.2.2.2.2)); (try simp only [set_none'] at hbn); (try (first | have hbm := Grow.none (by assumption) hbn | have hbm := Grow.none (by assumption) hbn.2 | have hbm := Grow.none (by assumption) hbn.2.2 | have hbm := Grow.none (by assumption) hbn.2.2.2 | have hbm := Grow.none (by assumption) hbn.2.2.2.2 | have hbm := Grow.none (by assumption) hbn.2.2.2.2.2)); (try simp only [set_none'] at hbm)) | ((first | refine condS_i ?_ ?_ | refine pick_i ?_ ?_ | refine gS_it ?_ ?_ | refine gS_if ?_ ?_ | refine gP_it ?_ ?_ | refine gP_if ?_ ?_) <;> (intro hc; try simp only [Int.reduceLE,Int.reduceLT,Int.reduceEq,Sn] at hc)) | (with_reducible refine KP_i ?_ ?_; · (repeat' (first | exact Heap.Le.refl _ | (with_reducible refine Le_set2 ?_) | (refine Le_known (by first | (simp only [Heap.set_same, set_ne, ne_eq, not_false_eq_true, *] <;> rfl) | fail) ?_) | (refine Le_fresh (by first | (simp only [*] <;> done) | (simp [set_none', Heap.set_same, set_ne, noneH, *] <;> done) | fail) ?_) | (refine Heap.Le.trans ?_ (Grow.le (by assumption))) | exact Le_none | (refine Le_put ?_ (by first | (simp only [Heap.set_same, set_ne, ne_eq, not_false_eq_true, *] <;> rfl) | fail)) | fail))) | (with_reducible refine And.intro ?_ ?_)) <;> (try simp only [Sq,Sr,Sh,Si,Sl,Bu,Bb,Bd,Bc,Bw,Bn,Int.reduceAdd,Int.reduceSub,Int.reduceMul,Int.reduceTDiv,Int.reduceTMod,Int.reduceMod,Int.reduceDiv,Nat.reduceLT,Nat.reduceEqDiff,Sa,Sb,Sc,Sd,Se,Sf,Sg,Int.reduceLE,Int.reduceLT,Int.reduceToNat,Int.reduceNeg,Int.reduceEq,Nat.reduceLeDiff,Nat.reducePow,Int.reducePow,reduceIte,Nat.reduceSub,Nat.reduceAdd,Nat.reduceMul,putAt,ceq,List.replicate, *]))
        all_goals exact Round_k 18 9 (fun us => (j + 1, us, a', cap', os)) ⟨⟨Nat.le_succ_of_le hj0, hlt⟩, hG, hB, hout⟩ (by simp only; omega) rfl rfl
  · obtain rfl : j = 64 := by omega
    have h := h a' cap' os G hos (hB.ro hG) (Bld.base hB.bld g1) (g1.trans hG)
    have t0 : ¬ (0 : Int) ≤ 63 - ((64 : Nat) : Int) := by decide
    clear hos hB
    subst em eK eT
    show run _ _ _ _ _ _ G
    (all_goals (try simp only [Sq,Sr,Sh,Si,Sl,Bu,Bb,Bd,Bc,Bw,Bn,Int.reduceAdd,Int.reduceSub,Int.reduceMul,Int.reduceTDiv,Int.reduceTMod,Int.reduceMod,Int.reduceDiv,Nat.reduceLT,Nat.reduceEqDiff,Sa,Sb,Sc,Sd,Se,Sf,Sg,Int.reduceLE,Int.reduceLT,Int.reduceToNat,Int.reduceNeg,Int.reduceEq,Nat.reduceLeDiff,Nat.reducePow,Int.reducePow,reduceIte,Nat.reduceSub,Nat.reduceAdd,Nat.reduceMul,putAt,ceq,List.replicate, *])); repeat' ((first | (with_reducible refine fun _ : True => ?_) | (with_reducible refine any_h ?_) | ((first | refine AllocQ_i ?_ | refine AllocO_i ?_); intro bk hb0 hbk; (try simp only [set_none'] at hbk); (try (first | have hbn := Grow.none (by assumption) hbk | have hbn := Grow.none (by assumption) hbk.2 | have hbn := Grow.none (by assumption) hbk.2.2 | have hbn := Grow.none (by assumption) hbk.2.2.2 | have hbn := Grow.none (by assumption) hbk.2.2.2.2 | have hbn := Grow.none (by assumption) hbk.2.2.2.2.2)); (try simp only [set_none'] at hbn); (try (first | have hbm := Grow.none (by assumption) hbn | have hbm := Grow.none (by assumption) hbn.2 | have hbm := Grow.none (by assumption) hbn.2.2 | have hbm := Grow.none (by assumption) hbn.2.2.2 | have hbm := Grow.none (by assumption) hbn.2.2.2.2 | have hbm := Grow.none (by assumption) hbn.2.2.2.2.2)); (try simp only [set_none'] at hbm)) | ((first | refine condS_i ?_ ?_ | refine pick_i ?_ ?_ | refine gS_it ?_ ?_ | refine gS_if ?_ ?_ | refine gP_it ?_ ?_ | refine gP_if ?_ ?_) <;> (intro hc; try simp only [Int.reduceLE,Int.reduceLT,Int.reduceEq,Sn] at hc)) | (with_reducible refine KP_i ?_ ?_; · (repeat' (first | exact Heap.Le.refl _ | (with_reducible refine Le_set2 ?_) | (refine Le_known (by first | (simp only [Heap.set_same, set_ne, ne_eq, not_false_eq_true, *] <;> rfl) | fail) ?_) | (refine Le_fresh (by first | (simp only [*] <;> done) | (simp [set_none', Heap.set_same, set_ne, noneH, *] <;> done) | fail) ?_) | (refine Heap.Le.trans ?_ (Grow.le (by assumption))) | exact Le_none | (refine Le_put ?_ (by first | (simp only [Heap.set_same, set_ne, ne_eq, not_false_eq_true, *] <;> rfl) | fail)) | fail))) | (with_reducible refine And.intro ?_ ?_)) <;> (try simp only [Sq,Sr,Sh,Si,Sl,Bu,Bb,Bd,Bc,Bw,Bn,Int.reduceAdd,Int.reduceSub,Int.reduceMul,Int.reduceTDiv,Int.reduceTMod,Int.reduceMod,Int.reduceDiv,Nat.reduceLT,Nat.reduceEqDiff,Sa,Sb,Sc,Sd,Se,Sf,Sg,Int.reduceLE,Int.reduceLT,Int.reduceToNat,Int.reduceNeg,Int.reduceEq,Nat.reduceLeDiff,Nat.reducePow,Int.reducePow,reduceIte,Nat.reduceSub,Nat.reduceAdd,Nat.reduceMul,putAt,ceq,List.replicate, *]))
    all_goals exact Fin_mk (Heap.Le.refl _) h
end Go.Proofs.Ytokjajfojjibcaa
