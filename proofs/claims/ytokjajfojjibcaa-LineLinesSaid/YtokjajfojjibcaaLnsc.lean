/- A line's fragment at a centre: the document, tall, upward (layer 23). -/
import Derived.Test.YtokjajfojjibcaaLnq
import Derived.Test.YtokjajfojjibcaaLnrp
set_option linter.unusedSimpArgs false
set_option linter.unusedVariables false
set_option maxRecDepth 100000
set_option maxHeartbeats 16000000
namespace Go.Proofs.Ytokjajfojjibcaa
open Go Go.HL Go.RowKit Go.ChangeShapes Go.WideShapes Pb
variable {w0 : World} {H : Heap} {K : Value → Heap → Prop}

theorem r_at_tu_m (x y : WnR) (i : Int) (hi : 0 ≤ i ∧ i < 64) (hx : WnOk w0 H x) (hy : WnOk w0 H y) (hrx : x.right) (hry : y.right) (hlen : x.l.length = y.l.length) (hq : x.y ≤ y.y)
    (hin : inA (x.y) (y.y) (256 * i + 128)) (hk0 : 0 ≤ kA (x.y) (y.y) (x.x) (y.x) (256 * i + 128) ∧ kA (x.y) (y.y) (x.x) (y.x) (256 * i + 128) ≤ 63)
    (h1 : ∀ F a' cap' H', atC x.toWn y.toWn false x.y y.y x.x y.x i = some F → VsNew w0 H H' a' cap' F.l → Grow w0 H H' → K (.tuple #[FrR.v ⟨F, a', cap'⟩, .bool true]) H') : HCalls Try.prog w0 29 [x.v, y.v, .bool false, .int .i64 i] H K := by
  have hxw := hx.hw
  have hyw := hy.hw
  have hz := hx.hz
  have hz' := hy.hz
  obtain ⟨⟨x1, x2⟩, ⟨x3, x4⟩, x5, x6⟩ := hrx
  obtain ⟨⟨y1, y2⟩, ⟨y3, y4⟩, y5, y6⟩ := hry
  replace hlen : Keep _ := hlen
  have s1 : IntKind.i64.wrap (256 * i) = 256 * i := Bw.1 _ (by omega) (by omega)
  obtain ⟨c, ec⟩ : ∃ c : Int, 256 * i + 128 = c := ⟨_, rfl⟩
  have s2 : IntKind.i64.wrap (256 * i + 128) = c := by rw [ec]; exact Bw.1 _ (by omega) (by omega)
  have bc : 128 ≤ c ∧ c ≤ 16384 := by omega
  have hin' := hin
  rw [ec] at hin'
  unfold inA at hin'
  have w1 : IntKind.i64.wrap (y.y - x.y) = y.y - x.y := Bw.1 _ (by omega) (by omega)
  have w2 : IntKind.i64.wrap (y.x - x.x) = y.x - x.x := Bw.1 _ (by omega) (by omega)
  have w3 : IntKind.i64.wrap (c - x.y) = c - x.y := Bw.1 _ (by omega) (by omega)
  have w4 : IntKind.i64.wrap (y.y - c) = y.y - c := Bw.1 _ (by omega) (by omega)
  have w5 : IntKind.i64.wrap (256 * (y.y - x.y)) = 256 * (y.y - x.y) := Bw.1 _ (by omega) (by omega)
  have b1 := mul_bd (a := x.x) (b := y.y - x.y) (A := 16384) (B := 16384) (by omega) (by omega)
  have b2 := mul_bd (a := y.x - x.x) (b := c - x.y) (A := 16384) (B := 16384) (by omega) (by omega)
  obtain ⟨P, eP⟩ : ∃ P : Int, x.x * (y.y - x.y) = P := ⟨_, rfl⟩
  obtain ⟨Q, eQ⟩ : ∃ Q : Int, (y.x - x.x) * (c - x.y) = Q := ⟨_, rfl⟩
  rw [eP] at b1
  rw [eQ] at b2
  have v1 : IntKind.i64.wrap (x.x * (y.y - x.y)) = P := by rw [eP]; exact Bw.1 _ (by omega) (by omega)
  have v2 : IntKind.i64.wrap ((y.x - x.x) * (c - x.y)) = Q := by rw [eQ]; exact Bw.1 _ (by omega) (by omega)
  have v3 : IntKind.i64.wrap (P + Q) = P + Q := Bw.1 _ (by omega) (by omega)
  obtain ⟨k, ek⟩ : ∃ k : Int, kA (x.y) (y.y) (x.x) (y.x) c = k := ⟨_, rfl⟩
  have f1 : x.y < y.y := by omega
  have f2 : x.y ≤ c := by omega
  have f3 : c < y.y := by omega
  have f4 : ¬ y.y < x.y := by omega
  obtain ⟨L, eL⟩ : ∃ L : Int, y.y - c = L := ⟨_, rfl⟩
  obtain ⟨Dn, eD⟩ : ∃ D : Int, c - x.y = D := ⟨_, rfl⟩
  have hcK : ∀ (G : Heap) (K : Value → Heap → Prop), K (.int .i64 k) G → HCalls Try.prog w0 40 [.int .i64 (P + Q), .int .i64 (256 * (y.y - x.y))] G K := fun G K hk => r_dn_up _ _ (by omega) (by omega) (by rw [← eP, ← eQ, ← kA_up f4, ek]; exact hk)
  have hcL : ∀ (G : Heap) (K : Value → Heap → Prop), K (.int .i64 L) G → HCalls Try.prog w0 28 [.int .i64 (y.y - c)] G K := fun G K hk => r_abs _ L (by omega) (by omega) hk
  have hcN : ∀ (G : Heap) (K : Value → Heap → Prop), K (.int .i64 Dn) G → HCalls Try.prog w0 28 [.int .i64 (c - x.y)] G K := fun G K hk => r_abs _ Dn (by omega) (by omega) hk
  have hfr : frA x.toWn y.toWn false x.y y.y x.x y.x i = ⟨if false then i else k, if false then k else i, nearI x.z y.z Dn (L + Dn), nearI (fdiv 65536 x.w) (fdiv 65536 y.w) Dn (L + Dn), true, vf 0 0 0 0, btVs L Dn x.w y.w x.l y.l⟩ := by
    unfold frA lfA dnA
    rw [if_neg f4, if_neg f4, ec, ek, eL, eD]
  have bL : 0 < L ∧ L ≤ 16384 := by omega
  have bD : 0 ≤ Dn ∧ Dn ≤ 16384 := by omega
  have w9 : IntKind.i64.wrap (L + Dn) = L + Dn := Bw.1 _ (by omega) (by omega)
  replace hcK : Keep _ := hcK
  replace hcL : Keep _ := hcL
  replace hcN : Keep _ := hcN
  have hk : 0 ≤ k ∧ k ≤ 63 := by rw [← ek, ← ec]; exact hk0
  clear hk0
  have n1 : ¬ k < 0 := by omega
  have n2 : ¬ 63 < k := by omega
  have hat := atC_in hin (by rw [ec, ek]; exact hk.1) (by rw [ec, ek]; exact hk.2) (a := x.toWn) (b := y.toWn) (wide := false)
  rw [hfr] at hat
  have hcZ : ∀ (G : Heap) (K : Value → Heap → Prop), K (.int .i32 (nearI x.z y.z Dn (L + Dn))) G → HCalls Try.prog w0 38 [.int .i32 x.z, .int .i32 y.z, .int .i64 Dn, .int .i64 (L + Dn)] G K := fun G K hk => r_Nearest _ _ _ _ hz hz' (by omega) (by omega) (by rw [near_raw hz hz' (by omega) (by omega) (by omega)]; exact hk)
  have hcW : ∀ (G : Heap) (K : Value → Heap → Prop), K (.int .i32 (nearI (fdiv 65536 x.w) (fdiv 65536 y.w) Dn (L + Dn))) G → HCalls Try.prog w0 38 [.int .i32 (fdiv 65536 x.w), .int .i32 (fdiv 65536 y.w), .int .i64 Dn, .int .i64 (L + Dn)] G K := fun G K hk => r_Nearest _ _ _ _ fdiv_I32 fdiv_I32 (by omega) (by omega) (by rw [near_raw fdiv_I32 fdiv_I32 (by omega) (by omega) (by omega)]; exact hk)
  have hcD1 : ∀ (G : Heap) (K : Value → Heap → Prop), K (.int .i32 (fdiv 65536 x.w)) G → HCalls Try.prog w0 35 [.int .i32 65536, .int .i32 x.w] G K := fun G K hk => r_Div _ _ (i32_of rfl) hxw hk
  have hcD2 : ∀ (G : Heap) (K : Value → Heap → Prop), K (.int .i32 (fdiv 65536 y.w)) G → HCalls Try.prog w0 35 [.int .i32 65536, .int .i32 y.w] G K := fun G K hk => r_Div _ _ (i32_of rfl) hyw hk
  obtain ⟨zz, ez⟩ : ∃ z : Int, nearI x.z y.z Dn (L + Dn) = z := ⟨_, rfl⟩
  obtain ⟨ww, eww⟩ : ∃ z : Int, nearI (fdiv 65536 x.w) (fdiv 65536 y.w) Dn (L + Dn) = z := ⟨_, rfl⟩
  rw [ez] at hcZ hat
  rw [eww] at hcW hat
  replace hcZ : Keep _ := hcZ
  replace hcW : Keep _ := hcW
  replace hcD1 : Keep _ := hcD1
  replace hcD2 : Keep _ := hcD2
  replace hat : Keep _ := hat
  have hbt : BtOk L Dn x.w y.w := ⟨by omega, by omega, by omega, x5, y5⟩
  have hxl := hx.vs
  have hyl := hy.vs
  replace ec : Keep _ := ec
  replace eL : Keep _ := eL
  replace eD : Keep _ := eD
  clear hfr hin hin' ek ez eww hk hx hy eP eQ b1 b2 bc hi
  unfold WnR.v
  refine HL.hc k29 3000 ?_; unfold M29
  (all_goals (try simp only [Sq,Sr,Sh,Si,Sl,Bu,Bb,Bd,Bc,Bw,Bn,Int.reduceAdd,Int.reduceSub,Int.reduceMul,Int.reduceTDiv,Int.reduceTMod,Int.reduceMod,Int.reduceDiv,Nat.reduceLT,Nat.reduceEqDiff,Sa,Sb,Sc,Sd,Se,Sf,Sg,Int.reduceLE,Int.reduceLT,Int.reduceToNat,Int.reduceNeg,Int.reduceEq,Nat.reduceLeDiff,Nat.reducePow,Int.reducePow,reduceIte,Nat.reduceSub,Nat.reduceAdd,Nat.reduceMul,putAt,ceq,List.replicate, *])); repeat' ((first | (with_reducible refine fun _ : True => ?_) | refine hcK _ _ ?_ | refine hcL _ _ ?_ | refine hcN _ _ ?_ | refine hcZ _ _ ?_ | refine hcD1 _ _ ?_ | refine hcD2 _ _ ?_ | refine hcW _ _ ?_ | (refine AllocQ_i ?_; intro bk hb0 hbk; (try simp only [set_none'] at hbk); (try (first | have hbn := Grow.none (by assumption) hbk | have hbn := Grow.none (by assumption) hbk.2 | have hbn := Grow.none (by assumption) hbk.2.2 | have hbn := Grow.none (by assumption) hbk.2.2.2 | have hbn := Grow.none (by assumption) hbk.2.2.2.2 | have hbn := Grow.none (by assumption) hbk.2.2.2.2.2)); (try simp only [set_none'] at hbn); (try (first | have hbm := Grow.none (by assumption) hbn | have hbm := Grow.none (by assumption) hbn.2 | have hbm := Grow.none (by assumption) hbn.2.2 | have hbm := Grow.none (by assumption) hbn.2.2.2 | have hbm := Grow.none (by assumption) hbn.2.2.2.2 | have hbm := Grow.none (by assumption) hbn.2.2.2.2.2)); (try simp only [set_none'] at hbm)) | ((first | refine condS_i ?_ ?_ | refine pick_i ?_ ?_ | refine gS_it ?_ ?_ | refine gS_if ?_ ?_ | refine gP_it ?_ ?_ | refine gP_if ?_ ?_) <;> (intro hc; try simp only [Int.reduceLE,Int.reduceLT,Int.reduceEq,Sn] at hc)) | (refine KP_i (by (repeat' (first | exact Heap.Le.refl _ | (refine Le_known (by first | (simp only [Heap.set_same, set_ne, ne_eq, not_false_eq_true, *] <;> rfl) | fail) ?_) | (refine Le_fresh (by first | (simp only [*] <;> done) | (simp [set_none', Heap.set_same, set_ne, *] <;> done) | fail) ?_) | (refine Heap.Le.trans ?_ (Grow.le (by assumption)))))) ?_) | (with_reducible refine And.intro ?_ ?_)) <;> (try simp only [Sq,Sr,Sh,Si,Sl,Bu,Bb,Bd,Bc,Bw,Bn,Int.reduceAdd,Int.reduceSub,Int.reduceMul,Int.reduceTDiv,Int.reduceTMod,Int.reduceMod,Int.reduceDiv,Nat.reduceLT,Nat.reduceEqDiff,Sa,Sb,Sc,Sd,Se,Sf,Sg,Int.reduceLE,Int.reduceLT,Int.reduceToNat,Int.reduceNeg,Int.reduceEq,Nat.reduceLeDiff,Nat.reducePow,Int.reducePow,reduceIte,Nat.reduceSub,Nat.reduceAdd,Nat.reduceMul,putAt,ceq,List.replicate, *]))
  refine loopq_heap (fun H2 eH2 => ?_)
  rename_i b4 p4 q4 b5 p5 q5 b8 p8 q8
  obtain ⟨bf, rfl⟩ : ∃ q, q = bk := ⟨bk, rfl⟩
  have pf := hb0
  have qf := hbk
  have k4 : H2 b4 = some ⟨25, [.int .i64 x.x, .int .i64 x.y, .int .i32 x.z, .int .i32 x.w, .int .i32 x.s, .slice x.a x.l.length x.cap]⟩ := by rw [eH2]; exact (by simp only [Heap.set_same, set_ne, ne_eq, not_false_eq_true, *] <;> rfl)
  have k5 : H2 b5 = some ⟨25, [.int .i64 y.x, .int .i64 y.y, .int .i32 y.z, .int .i32 y.w, .int .i32 y.s, .slice y.a y.l.length y.cap]⟩ := by rw [eH2]; exact (by simp only [Heap.set_same, set_ne, ne_eq, not_false_eq_true, *] <;> rfl)
  have k8 : H2 b8 = some ⟨46, [.int .i64 0, .int .i64 0, .int .i32 0, .int .i32 0, .bool false, .int .i32 0, .int .i32 0, .int .i32 0, .int .i32 0, .slice none 0 0]⟩ := by rw [eH2]; exact (by simp only [Heap.set_same, set_ne, ne_eq, not_false_eq_true, *] <;> rfl)
  have kf : H2 bf = some ⟨46, [.int .i64 (k), .int .i64 (i), .int .i32 zz, .int .i32 ww, .bool true, .int .i32 0, .int .i32 0, .int .i32 0, .int .i32 0, .slice none 0 0]⟩ := by rw [eH2]; exact (by simp only [Heap.set_same, set_ne, ne_eq, not_false_eq_true, *] <;> rfl)
  have gH2 : Grow w0 H H2 := by rw [eH2]; exact (by (repeat' (first | exact Grow.refl _ | assumption | (refine Grow_known (by first | (simp only [Heap.set_same, set_ne, ne_eq, not_false_eq_true, *] <;> rfl) | fail) ?_) | (refine Grow.set ?_ (by assumption) (by first | (simp only [*] <;> done) | (simp [set_none', Heap.set_same, set_ne, *] <;> done) | fail)) | (refine Grow.trans ?_ (by assumption)))))
  clear eH2 hcK hcL hcN hcZ hcW hcD1 hcD2 hb0 hbk
  have z4 : H b4 = none := q4
  have z5 : H b5 = none := q5.2
  have z8 : H b8 = none := q8.2.2
  have zf : H bf = none := qf.2.2.2
  have hxm : x.l.length ≤ 4 := x6
  refine loopq_name (fun code2 kont2 T2 em2 eK2 eT2 => ?_)
  refine loop_g5 22 (fun (m : Nat) (ws : List Value) (a2 : Option Addr) (cap2 : Nat) (vs : List (Nat → Int)) => [(19, .int .i64 (m : Nat)), (20, ws.getD 0 undef), (21, ws.getD 1 undef)])
    (fun m ws a2 cap2 vs F => m ≤ x.l.length ∧ (Grow w0 H F ∧ F b4 = some ⟨25, [.int .i64 x.x, .int .i64 x.y, .int .i32 x.z, .int .i32 x.w, .int .i32 x.s, .slice x.a x.l.length x.cap]⟩ ∧ F b5 = some ⟨25, [.int .i64 y.x, .int .i64 y.y, .int .i32 y.z, .int .i32 y.w, .int .i32 y.s, .slice y.a y.l.length y.cap]⟩ ∧ F b8 = some ⟨46, [.int .i64 0, .int .i64 0, .int .i32 0, .int .i32 0, .bool false, .int .i32 0, .int .i32 0, .int .i32 0, .int .i32 0, .slice none 0 0]⟩)
      ∧ F bf = some ⟨46, [.int .i64 (k), .int .i64 (i), .int .i32 zz, .int .i32 ww, .bool true, .int .i32 0, .int .i32 0, .int .i32 0, .int .i32 0, .slice a2 m cap2]⟩ ∧ (VsNew w0 H F a2 cap2 vs ∧ vs.length = m) ∧ vs = (btVs L Dn x.w y.w x.l y.l).take m)
    (fun m => x.l.length - m) 0 [undef, undef] none 0 [] ⟨Nat.zero_le _, ⟨gH2, k4, k5, k8⟩, kf, ⟨⟨Bld.none, Nat.le_refl _, by simp, by simp, by simp⟩, rfl⟩, rfl⟩ (by subst eT2; rfl) ?_
  clear kf gH2 k4 k5 k8
  intro m ws a2 cap2 vs F g2 hok
  obtain ⟨hm, ⟨hF, k4, k5, k8⟩, kF, ⟨hV, hvl⟩, hvs⟩ := hok
  rcases Nat.lt_or_ge m x.l.length with hlm | hgm
  · obtain ⟨u, eu⟩ : ∃ u, x.l[m]? = some u := ⟨_, List.getElem?_eq_getElem hlm⟩
    obtain ⟨v, ev⟩ : ∃ v, y.l[m]? = some v := ⟨_, List.getElem?_eq_getElem (by have := (show x.l.length = y.l.length from hlen); omega)⟩
    have hu := hxl.v u (List.mem_of_getElem? eu)
    have hv := hyl.v v (List.mem_of_getElem? ev)
    have hbV := btV_ok hu hv hbt (by omega) (by omega) hxw.2 hyw.2
    have hcB : ∀ (j : Nat) (G : Heap) (K : Value → Heap → Prop), K (.int .i32 (btwI (u j) (v j) L Dn x.w y.w)) G → HCalls Try.prog w0 17 [.int .i32 (u j), .int .i32 (v j), .int .i64 L, .int .i64 Dn, .int .i32 x.w, .int .i32 y.w] G K := fun j G K hk => r_Between _ _ _ _ _ _ (hu j) (hv j) (by omega) (by omega) hxw hyw hbt hk
    replace hcB : Keep _ := hcB
    have hz := btVs_succ (l := L) (d := Dn) (x := x.w) (y := y.w) eu ev
    obtain ⟨bx, ox, eax, r1, f1⟩ := rows_vs hxl eu
    obtain ⟨by_, oy, eay, r2, f2⟩ := rows_vs hyl ev
    obtain ⟨c0, c1, c2, c3⟩ := vs_rd (hF.rdn r1 (by decide))
    obtain ⟨y0, y1, y2, y3⟩ := vs_rd (hF.rdn r2 (by decide))
    rw [eax] at k4
    rw [eay] at k5
    replace hvl : Keep _ := hvl
    replace hvs : Keep _ := hvs
    have t0 : (m : Int) < (x.l.length : Int) := by omega
    have t1 : (m : Int) < (y.l.length : Int) := by have := (show x.l.length = y.l.length from hlen); omega
    have u6 : IntKind.i64.wrap ((m : Int) + 1) = (m : Int) + 1 := Bw.1 _ (by omega) (by omega)
    subst em2 eK2 eT2
    show run _ _ _ _ _ _ F
    rw [root4 k4 k5 k8 kF]
    (all_goals (try simp only [Sq,Sr,Sh,Si,Sl,Bu,Bb,Bd,Bc,Bw,Bn,Int.reduceAdd,Int.reduceSub,Int.reduceMul,Int.reduceTDiv,Int.reduceTMod,Int.reduceMod,Int.reduceDiv,Nat.reduceLT,Nat.reduceEqDiff,Sa,Sb,Sc,Sd,Se,Sf,Sg,Int.reduceLE,Int.reduceLT,Int.reduceToNat,Int.reduceNeg,Int.reduceEq,Nat.reduceLeDiff,Nat.reducePow,Int.reducePow,reduceIte,Nat.reduceSub,Nat.reduceAdd,Nat.reduceMul,putAt,ceq,List.replicate, *])); repeat' ((first | (with_reducible refine fun _ : True => ?_) | refine hcB _ _ _ ?_ | (refine AllocQ_i ?_; intro bk hb0 hbk; (try simp only [set_none'] at hbk); (try (first | have hbn := Grow.none (by assumption) hbk | have hbn := Grow.none (by assumption) hbk.2 | have hbn := Grow.none (by assumption) hbk.2.2 | have hbn := Grow.none (by assumption) hbk.2.2.2 | have hbn := Grow.none (by assumption) hbk.2.2.2.2 | have hbn := Grow.none (by assumption) hbk.2.2.2.2.2)); (try simp only [set_none'] at hbn); (try (first | have hbm := Grow.none (by assumption) hbn | have hbm := Grow.none (by assumption) hbn.2 | have hbm := Grow.none (by assumption) hbn.2.2 | have hbm := Grow.none (by assumption) hbn.2.2.2 | have hbm := Grow.none (by assumption) hbn.2.2.2.2 | have hbm := Grow.none (by assumption) hbn.2.2.2.2.2)); (try simp only [set_none'] at hbm)) | ((first | refine condS_i ?_ ?_ | refine pick_i ?_ ?_ | refine gS_it ?_ ?_ | refine gS_if ?_ ?_ | refine gP_it ?_ ?_ | refine gP_if ?_ ?_) <;> (intro hc; try simp only [Int.reduceLE,Int.reduceLT,Int.reduceEq,Sn] at hc)) | (refine KP_i (by (repeat' (first | exact Heap.Le.refl _ | (refine Le_known (by first | (simp only [Heap.set_same, set_ne, ne_eq, not_false_eq_true, *] <;> rfl) | fail) ?_) | (refine Le_fresh (by first | (simp only [*] <;> done) | (simp [set_none', Heap.set_same, set_ne, *] <;> done) | fail) ?_) | (refine Heap.Le.trans ?_ (Grow.le (by assumption)))))) ?_) | (with_reducible refine loop_u ?_) | (with_reducible refine And.intro ?_ ?_)) <;> (try simp only [Sq,Sr,Sh,Si,Sl,Bu,Bb,Bd,Bc,Bw,Bn,Int.reduceAdd,Int.reduceSub,Int.reduceMul,Int.reduceTDiv,Int.reduceTMod,Int.reduceMod,Int.reduceDiv,Nat.reduceLT,Nat.reduceEqDiff,Sa,Sb,Sc,Sd,Se,Sf,Sg,Int.reduceLE,Int.reduceLT,Int.reduceToNat,Int.reduceNeg,Int.reduceEq,Nat.reduceLeDiff,Nat.reducePow,Int.reducePow,reduceIte,Nat.reduceSub,Nat.reduceAdd,Nat.reduceMul,putAt,ceq,List.replicate, *]))
    refine app_bld2 (H := H) (n := m) (m := 1) (cs := (vs.map VC).flatten) (ns := VC (btV L Dn x.w y.w u v)) (by rw [← root4 k4 k5 k8 kF]; exact hV.bld.grow (by (repeat' (first | exact Grow.refl _ | assumption | (refine Grow_known (by first | (simp only [Heap.set_same, set_ne, ne_eq, not_false_eq_true, *] <;> rfl) | fail) ?_) | (refine Grow.set ?_ (by assumption) (by first | (simp only [*] <;> done) | (simp [set_none', Heap.set_same, set_ne, *] <;> done) | fail)) | (refine Grow.trans ?_ (by assumption)))))) (by rw [vcs_len, (show _ = _ from hvl)]) rfl (srd_blk (by simp only [Heap.set_same, set_ne, ne_eq, not_false_eq_true, *] <;> rfl) rfl) rfl (by rw [← root4 k4 k5 k8 kF]; exact hF.trans (by (repeat' (first | exact Grow.refl _ | assumption | (refine Grow_known (by first | (simp only [Heap.set_same, set_ne, ne_eq, not_false_eq_true, *] <;> rfl) | fail) ?_) | (refine Grow.set ?_ (by assumption) (by first | (simp only [*] <;> done) | (simp [set_none', Heap.set_same, set_ne, *] <;> done) | fail)) | (refine Grow.trans ?_ (by assumption)))))) ⟨by omega, by omega⟩ rfl (fun a3 cp3 F3 hB3 hg3 hk3 hc3 _ => ?_)
    have j4 := hk3 b4 _ (by simp only [Heap.set_same, set_ne, ne_eq, not_false_eq_true, *] <;> rfl) (by simp)
    have j5 := hk3 b5 _ (by simp only [Heap.set_same, set_ne, ne_eq, not_false_eq_true, *] <;> rfl) (by simp)
    have j8 := hk3 b8 _ (by simp only [Heap.set_same, set_ne, ne_eq, not_false_eq_true, *] <;> rfl) (by simp)
    have kF3 := hk3 bf _ (by simp only [Heap.set_same, set_ne, ne_eq, not_false_eq_true, *] <;> rfl) (by simp)
    have hlv : (vs ++ [btV L Dn x.w y.w u v]).length = m + 1 := by rw [List.length_append, (show _ = _ from hvl)]; rfl
    have hB4 : Bld w0 H F3 a3 cp3 4 38 ((vs ++ [btV L Dn x.w y.w u v]).map VC).flatten := by rw [List.map_append, List.flatten_append]; simpa using hB3
    have hV4 : VsNew w0 H F3 a3 cp3 (vs ++ [btV L Dn x.w y.w u v]) := ⟨hB4, by rw [hlv]; exact hc3, by rw [hlv]; unfold maxLen; omega, by rw [hlv]; omega, fun z hz => by
      rcases List.mem_append.1 hz with h | h
      · exact hV.v z h
      · obtain rfl := List.mem_singleton.1 h
        exact hbV⟩
    have e5 : vs ++ [btV L Dn x.w y.w u v] = (btVs L Dn x.w y.w x.l y.l).take (m + 1) := by rw [hz, ← (show vs = _ from hvs)]
    replace hlv : Keep _ := hlv
    replace e5 : Keep _ := e5
    replace j4 : Keep _ := j4
    replace j5 : Keep _ := j5
    replace j8 : Keep _ := j8
    clear hk3 hB3 hB4 hV hF k4 k5 k8 kF hz hbV hcB hc3 y0 y1 y2 y3 c0 c1 c2 c3 r1 r2 f1 f2 eu ev
    rw [root1 kF3]
    (all_goals (try simp only [Sq,Sr,Sh,Si,Sl,Bu,Bb,Bd,Bc,Bw,Bn,Int.reduceAdd,Int.reduceSub,Int.reduceMul,Int.reduceTDiv,Int.reduceTMod,Int.reduceMod,Int.reduceDiv,Nat.reduceLT,Nat.reduceEqDiff,Sa,Sb,Sc,Sd,Se,Sf,Sg,Int.reduceLE,Int.reduceLT,Int.reduceToNat,Int.reduceNeg,Int.reduceEq,Nat.reduceLeDiff,Nat.reducePow,Int.reducePow,reduceIte,Nat.reduceSub,Nat.reduceAdd,Nat.reduceMul,putAt,ceq,List.replicate, *])); repeat' ((first | (with_reducible refine fun _ : True => ?_) | (refine AllocQ_i ?_; intro bk hb0 hbk; (try simp only [set_none'] at hbk); (try (first | have hbn := Grow.none (by assumption) hbk | have hbn := Grow.none (by assumption) hbk.2 | have hbn := Grow.none (by assumption) hbk.2.2 | have hbn := Grow.none (by assumption) hbk.2.2.2 | have hbn := Grow.none (by assumption) hbk.2.2.2.2 | have hbn := Grow.none (by assumption) hbk.2.2.2.2.2)); (try simp only [set_none'] at hbn); (try (first | have hbm := Grow.none (by assumption) hbn | have hbm := Grow.none (by assumption) hbn.2 | have hbm := Grow.none (by assumption) hbn.2.2 | have hbm := Grow.none (by assumption) hbn.2.2.2 | have hbm := Grow.none (by assumption) hbn.2.2.2.2 | have hbm := Grow.none (by assumption) hbn.2.2.2.2.2)); (try simp only [set_none'] at hbm)) | ((first | refine condS_i ?_ ?_ | refine pick_i ?_ ?_ | refine gS_it ?_ ?_ | refine gS_if ?_ ?_ | refine gP_it ?_ ?_ | refine gP_if ?_ ?_) <;> (intro hc; try simp only [Int.reduceLE,Int.reduceLT,Int.reduceEq,Sn] at hc)) | (refine KP_i (by (repeat' (first | exact Heap.Le.refl _ | (refine Le_known (by first | (simp only [Heap.set_same, set_ne, ne_eq, not_false_eq_true, *] <;> rfl) | fail) ?_) | (refine Le_fresh (by first | (simp only [*] <;> done) | (simp [set_none', Heap.set_same, set_ne, *] <;> done) | fail) ?_) | (refine Heap.Le.trans ?_ (Grow.le (by assumption)))))) ?_) | (with_reducible refine And.intro ?_ ?_)) <;> (try simp only [Sq,Sr,Sh,Si,Sl,Bu,Bb,Bd,Bc,Bw,Bn,Int.reduceAdd,Int.reduceSub,Int.reduceMul,Int.reduceTDiv,Int.reduceTMod,Int.reduceMod,Int.reduceDiv,Nat.reduceLT,Nat.reduceEqDiff,Sa,Sb,Sc,Sd,Se,Sf,Sg,Int.reduceLE,Int.reduceLT,Int.reduceToNat,Int.reduceNeg,Int.reduceEq,Nat.reduceLeDiff,Nat.reducePow,Int.reducePow,reduceIte,Nat.reduceSub,Nat.reduceAdd,Nat.reduceMul,putAt,ceq,List.replicate, *]))
    refine Round_k 20 2 (fun us => (m + 1, us, a3, cp3, vs ++ [btV L Dn x.w y.w u v])) ?_ ?_ ?_ ?_
    · refine ⟨hlm, ⟨hg3.set pf zf, ?_, ?_, ?_⟩, ?_, ⟨?_, hlv⟩, e5⟩
      · exact (Heap.set_other _ _ qf.2.2.1.2).trans (show _ = _ from j4)
      · exact (Heap.set_other _ _ qf.2.1.2).trans (show _ = _ from j5)
      · exact (Heap.set_other _ _ qf.1.2).trans (show _ = _ from j8)
      · exact Heap.set_same _ _ _
      · exact hV4.keep (KeepT.refl.set kF3 (show (46 : Nat) ≠ 38 from by decide))
    · simp only; omega
    · rfl
    · rfl
  · obtain rfl : m = x.l.length := by omega
    have t0 : ¬ ((x.l.length : Nat) : Int) < ((x.l.length : Nat) : Int) := by omega
    have hvs2 : vs = btVs L Dn x.w y.w x.l y.l := by rw [hvs]; exact List.take_of_length_le (by unfold btVs; rw [List.length_zipWith]; omega)
    rw [hvs2] at hV hvl
    rw [← hvl] at kF
    replace hvl : Keep _ := hvl
    clear hvs hvs2 hm hgm
    subst em2 eK2 eT2
    show run _ _ _ _ _ _ F
    rw [root3 k4 k8 kF]
    (all_goals (try simp only [Sq,Sr,Sh,Si,Sl,Bu,Bb,Bd,Bc,Bw,Bn,Int.reduceAdd,Int.reduceSub,Int.reduceMul,Int.reduceTDiv,Int.reduceTMod,Int.reduceMod,Int.reduceDiv,Nat.reduceLT,Nat.reduceEqDiff,Sa,Sb,Sc,Sd,Se,Sf,Sg,Int.reduceLE,Int.reduceLT,Int.reduceToNat,Int.reduceNeg,Int.reduceEq,Nat.reduceLeDiff,Nat.reducePow,Int.reducePow,reduceIte,Nat.reduceSub,Nat.reduceAdd,Nat.reduceMul,putAt,ceq,List.replicate, *])); repeat' ((first | (with_reducible refine fun _ : True => ?_) | (refine AllocQ_i ?_; intro bk hb0 hbk; (try simp only [set_none'] at hbk); (try (first | have hbn := Grow.none (by assumption) hbk | have hbn := Grow.none (by assumption) hbk.2 | have hbn := Grow.none (by assumption) hbk.2.2 | have hbn := Grow.none (by assumption) hbk.2.2.2 | have hbn := Grow.none (by assumption) hbk.2.2.2.2 | have hbn := Grow.none (by assumption) hbk.2.2.2.2.2)); (try simp only [set_none'] at hbn); (try (first | have hbm := Grow.none (by assumption) hbn | have hbm := Grow.none (by assumption) hbn.2 | have hbm := Grow.none (by assumption) hbn.2.2 | have hbm := Grow.none (by assumption) hbn.2.2.2 | have hbm := Grow.none (by assumption) hbn.2.2.2.2 | have hbm := Grow.none (by assumption) hbn.2.2.2.2.2)); (try simp only [set_none'] at hbm)) | ((first | refine condS_i ?_ ?_ | refine pick_i ?_ ?_ | refine gS_it ?_ ?_ | refine gS_if ?_ ?_ | refine gP_it ?_ ?_ | refine gP_if ?_ ?_) <;> (intro hc; try simp only [Int.reduceLE,Int.reduceLT,Int.reduceEq,Sn] at hc)) | (refine KP_i (by (repeat' (first | exact Heap.Le.refl _ | (refine Le_known (by first | (simp only [Heap.set_same, set_ne, ne_eq, not_false_eq_true, *] <;> rfl) | fail) ?_) | (refine Le_fresh (by first | (simp only [*] <;> done) | (simp [set_none', Heap.set_same, set_ne, *] <;> done) | fail) ?_) | (refine Heap.Le.trans ?_ (Grow.le (by assumption)))))) ?_) | (with_reducible refine And.intro ?_ ?_)) <;> (try simp only [Sq,Sr,Sh,Si,Sl,Bu,Bb,Bd,Bc,Bw,Bn,Int.reduceAdd,Int.reduceSub,Int.reduceMul,Int.reduceTDiv,Int.reduceTMod,Int.reduceMod,Int.reduceDiv,Nat.reduceLT,Nat.reduceEqDiff,Sa,Sb,Sc,Sd,Se,Sf,Sg,Int.reduceLE,Int.reduceLT,Int.reduceToNat,Int.reduceNeg,Int.reduceEq,Nat.reduceLeDiff,Nat.reducePow,Int.reducePow,reduceIte,Nat.reduceSub,Nat.reduceAdd,Nat.reduceMul,putAt,ceq,List.replicate, *]))
    exact Fin_mk (Heap.Le.refl _) (h1 _ _ _ _ hat (hV.keep (by (repeat' (first | exact KeepT.refl | assumption | (refine KeepT.known (by first | (simp only [Heap.set_same, set_ne, ne_eq, not_false_eq_true, *] <;> rfl) | fail) ?_) | (refine KeepT.set ?_ (by simp only [Heap.set_same, set_ne, ne_eq, not_false_eq_true, *] <;> rfl) (Nat.ne_of_beq_eq_false rfl)) | (refine KeepT.fresh ?_ (by first | (simp only [*] <;> done) | (simp [set_none', Heap.set_same, set_ne, *] <;> done) | fail)) | (refine KeepT.trans ?_ (by assumption)) | (refine KeepT.of (w0 := w0) ?_; first | exact Grow.refl _ | assumption))))) (by (repeat' (first | exact Grow.refl _ | assumption | (refine Grow_known (by first | (simp only [Heap.set_same, set_ne, ne_eq, not_false_eq_true, *] <;> rfl) | fail) ?_) | (refine Grow.set ?_ (by assumption) (by first | (simp only [*] <;> done) | (simp [set_none', Heap.set_same, set_ne, *] <;> done) | fail)) | (refine Grow.trans ?_ (by assumption))))))
theorem r_at_tu_k (x y : WnR) (i : Int) (hi : 0 ≤ i ∧ i < 64) (hx : WnOk w0 H x) (hy : WnOk w0 H y) (hrx : x.right) (hry : y.right) (hlen : x.l.length = y.l.length) (hq : x.y ≤ y.y)
    (hin : inA (x.y) (y.y) (256 * i + 128)) (hk0 : ¬ (0 ≤ kA (x.y) (y.y) (x.x) (y.x) (256 * i + 128) ∧ kA (x.y) (y.y) (x.x) (y.x) (256 * i + 128) ≤ 63))
    (h2 : atC x.toWn y.toWn false x.y y.y x.x y.x i = none → K (.tuple #[FrR.v ⟨⟨0, 0, 0, 0, false, vf 0 0 0 0, []⟩, none, 0⟩, .bool false]) H) : HCalls Try.prog w0 29 [x.v, y.v, .bool false, .int .i64 i] H K := by
  have hxw := hx.hw
  have hyw := hy.hw
  have hz := hx.hz
  have hz' := hy.hz
  obtain ⟨⟨x1, x2⟩, ⟨x3, x4⟩, x5, x6⟩ := hrx
  obtain ⟨⟨y1, y2⟩, ⟨y3, y4⟩, y5, y6⟩ := hry
  replace hlen : Keep _ := hlen
  have s1 : IntKind.i64.wrap (256 * i) = 256 * i := Bw.1 _ (by omega) (by omega)
  obtain ⟨c, ec⟩ : ∃ c : Int, 256 * i + 128 = c := ⟨_, rfl⟩
  have s2 : IntKind.i64.wrap (256 * i + 128) = c := by rw [ec]; exact Bw.1 _ (by omega) (by omega)
  have bc : 128 ≤ c ∧ c ≤ 16384 := by omega
  have hin' := hin
  rw [ec] at hin'
  unfold inA at hin'
  have w1 : IntKind.i64.wrap (y.y - x.y) = y.y - x.y := Bw.1 _ (by omega) (by omega)
  have w2 : IntKind.i64.wrap (y.x - x.x) = y.x - x.x := Bw.1 _ (by omega) (by omega)
  have w3 : IntKind.i64.wrap (c - x.y) = c - x.y := Bw.1 _ (by omega) (by omega)
  have w4 : IntKind.i64.wrap (y.y - c) = y.y - c := Bw.1 _ (by omega) (by omega)
  have w5 : IntKind.i64.wrap (256 * (y.y - x.y)) = 256 * (y.y - x.y) := Bw.1 _ (by omega) (by omega)
  have b1 := mul_bd (a := x.x) (b := y.y - x.y) (A := 16384) (B := 16384) (by omega) (by omega)
  have b2 := mul_bd (a := y.x - x.x) (b := c - x.y) (A := 16384) (B := 16384) (by omega) (by omega)
  obtain ⟨P, eP⟩ : ∃ P : Int, x.x * (y.y - x.y) = P := ⟨_, rfl⟩
  obtain ⟨Q, eQ⟩ : ∃ Q : Int, (y.x - x.x) * (c - x.y) = Q := ⟨_, rfl⟩
  rw [eP] at b1
  rw [eQ] at b2
  have v1 : IntKind.i64.wrap (x.x * (y.y - x.y)) = P := by rw [eP]; exact Bw.1 _ (by omega) (by omega)
  have v2 : IntKind.i64.wrap ((y.x - x.x) * (c - x.y)) = Q := by rw [eQ]; exact Bw.1 _ (by omega) (by omega)
  have v3 : IntKind.i64.wrap (P + Q) = P + Q := Bw.1 _ (by omega) (by omega)
  obtain ⟨k, ek⟩ : ∃ k : Int, kA (x.y) (y.y) (x.x) (y.x) c = k := ⟨_, rfl⟩
  have f1 : x.y < y.y := by omega
  have f2 : x.y ≤ c := by omega
  have f3 : c < y.y := by omega
  have f4 : ¬ y.y < x.y := by omega
  obtain ⟨L, eL⟩ : ∃ L : Int, y.y - c = L := ⟨_, rfl⟩
  obtain ⟨Dn, eD⟩ : ∃ D : Int, c - x.y = D := ⟨_, rfl⟩
  have hcK : ∀ (G : Heap) (K : Value → Heap → Prop), K (.int .i64 k) G → HCalls Try.prog w0 40 [.int .i64 (P + Q), .int .i64 (256 * (y.y - x.y))] G K := fun G K hk => r_dn_up _ _ (by omega) (by omega) (by rw [← eP, ← eQ, ← kA_up f4, ek]; exact hk)
  have hcL : ∀ (G : Heap) (K : Value → Heap → Prop), K (.int .i64 L) G → HCalls Try.prog w0 28 [.int .i64 (y.y - c)] G K := fun G K hk => r_abs _ L (by omega) (by omega) hk
  have hcN : ∀ (G : Heap) (K : Value → Heap → Prop), K (.int .i64 Dn) G → HCalls Try.prog w0 28 [.int .i64 (c - x.y)] G K := fun G K hk => r_abs _ Dn (by omega) (by omega) hk
  have hfr : frA x.toWn y.toWn false x.y y.y x.x y.x i = ⟨if false then i else k, if false then k else i, nearI x.z y.z Dn (L + Dn), nearI (fdiv 65536 x.w) (fdiv 65536 y.w) Dn (L + Dn), true, vf 0 0 0 0, btVs L Dn x.w y.w x.l y.l⟩ := by
    unfold frA lfA dnA
    rw [if_neg f4, if_neg f4, ec, ek, eL, eD]
  have bL : 0 < L ∧ L ≤ 16384 := by omega
  have bD : 0 ≤ Dn ∧ Dn ≤ 16384 := by omega
  have w9 : IntKind.i64.wrap (L + Dn) = L + Dn := Bw.1 _ (by omega) (by omega)
  replace hcK : Keep _ := hcK
  replace hcL : Keep _ := hcL
  replace hcN : Keep _ := hcN
  have hk : ¬ (0 ≤ k ∧ k ≤ 63) := by rw [← ek, ← ec]; exact hk0
  clear hk0
  have hno := h2 (atC_out (by rw [ec, ek]; exact hk))
  replace ec : Keep _ := ec
  replace eL : Keep _ := eL
  replace eD : Keep _ := eD
  refine Or.elim (by omega : k < 0 ∨ ¬ k < 0 ∧ 63 < k) (fun n1 => ?_) (fun ⟨n1, n2⟩ => ?_)
  all_goals clear hk ek h2 hfr hin hin' eP eQ b1 b2
  all_goals unfold WnR.v
  all_goals (refine HL.hc k29 3000 ?_; unfold M29)
  all_goals (all_goals (try simp only [Sq,Sr,Sh,Si,Sl,Bu,Bb,Bd,Bc,Bw,Bn,Int.reduceAdd,Int.reduceSub,Int.reduceMul,Int.reduceTDiv,Int.reduceTMod,Int.reduceMod,Int.reduceDiv,Nat.reduceLT,Nat.reduceEqDiff,Sa,Sb,Sc,Sd,Se,Sf,Sg,Int.reduceLE,Int.reduceLT,Int.reduceToNat,Int.reduceNeg,Int.reduceEq,Nat.reduceLeDiff,Nat.reducePow,Int.reducePow,reduceIte,Nat.reduceSub,Nat.reduceAdd,Nat.reduceMul,putAt,ceq,List.replicate, *])); repeat' ((first | (with_reducible refine fun _ : True => ?_) | refine hcK _ _ ?_ | refine hcL _ _ ?_ | refine hcN _ _ ?_ | (refine AllocQ_i ?_; intro bk hb0 hbk; (try simp only [set_none'] at hbk); (try (first | have hbn := Grow.none (by assumption) hbk | have hbn := Grow.none (by assumption) hbk.2 | have hbn := Grow.none (by assumption) hbk.2.2 | have hbn := Grow.none (by assumption) hbk.2.2.2 | have hbn := Grow.none (by assumption) hbk.2.2.2.2 | have hbn := Grow.none (by assumption) hbk.2.2.2.2.2)); (try simp only [set_none'] at hbn); (try (first | have hbm := Grow.none (by assumption) hbn | have hbm := Grow.none (by assumption) hbn.2 | have hbm := Grow.none (by assumption) hbn.2.2 | have hbm := Grow.none (by assumption) hbn.2.2.2 | have hbm := Grow.none (by assumption) hbn.2.2.2.2 | have hbm := Grow.none (by assumption) hbn.2.2.2.2.2)); (try simp only [set_none'] at hbm)) | ((first | refine condS_i ?_ ?_ | refine pick_i ?_ ?_ | refine gS_it ?_ ?_ | refine gS_if ?_ ?_ | refine gP_it ?_ ?_ | refine gP_if ?_ ?_) <;> (intro hc; try simp only [Int.reduceLE,Int.reduceLT,Int.reduceEq,Sn] at hc)) | (refine KP_i (by (repeat' (first | exact Heap.Le.refl _ | (refine Le_known (by first | (simp only [Heap.set_same, set_ne, ne_eq, not_false_eq_true, *] <;> rfl) | fail) ?_) | (refine Le_fresh (by first | (simp only [*] <;> done) | (simp [set_none', Heap.set_same, set_ne, *] <;> done) | fail) ?_) | (refine Heap.Le.trans ?_ (Grow.le (by assumption)))))) ?_) | (with_reducible refine And.intro ?_ ?_)) <;> (try simp only [Sq,Sr,Sh,Si,Sl,Bu,Bb,Bd,Bc,Bw,Bn,Int.reduceAdd,Int.reduceSub,Int.reduceMul,Int.reduceTDiv,Int.reduceTMod,Int.reduceMod,Int.reduceDiv,Nat.reduceLT,Nat.reduceEqDiff,Sa,Sb,Sc,Sd,Se,Sf,Sg,Int.reduceLE,Int.reduceLT,Int.reduceToNat,Int.reduceNeg,Int.reduceEq,Nat.reduceLeDiff,Nat.reducePow,Int.reducePow,reduceIte,Nat.reduceSub,Nat.reduceAdd,Nat.reduceMul,putAt,ceq,List.replicate, *]))
  all_goals exact Fin_mk (by (repeat' (first | exact Heap.Le.refl _ | (refine Le_known (by first | (simp only [Heap.set_same, set_ne, ne_eq, not_false_eq_true, *] <;> rfl) | fail) ?_) | (refine Le_fresh (by first | (simp only [*] <;> done) | (simp [set_none', Heap.set_same, set_ne, *] <;> done) | fail) ?_) | (refine Heap.Le.trans ?_ (Grow.le (by assumption)))))) hno
theorem r_at_tu_n (x y : WnR) (i : Int) (hi : 0 ≤ i ∧ i < 64) (hx : WnOk w0 H x) (hy : WnOk w0 H y) (hrx : x.right) (hry : y.right) (hlen : x.l.length = y.l.length) (hq : x.y ≤ y.y)
    (hin : ¬ inA (x.y) (y.y) (256 * i + 128))
    (h2 : atC x.toWn y.toWn false x.y y.y x.x y.x i = none → K (.tuple #[FrR.v ⟨⟨0, 0, 0, 0, false, vf 0 0 0 0, []⟩, none, 0⟩, .bool false]) H) : HCalls Try.prog w0 29 [x.v, y.v, .bool false, .int .i64 i] H K := by
  have hxw := hx.hw
  have hyw := hy.hw
  have hz := hx.hz
  have hz' := hy.hz
  obtain ⟨⟨x1, x2⟩, ⟨x3, x4⟩, x5, x6⟩ := hrx
  obtain ⟨⟨y1, y2⟩, ⟨y3, y4⟩, y5, y6⟩ := hry
  replace hlen : Keep _ := hlen
  have s1 : IntKind.i64.wrap (256 * i) = 256 * i := Bw.1 _ (by omega) (by omega)
  obtain ⟨c, ec⟩ : ∃ c : Int, 256 * i + 128 = c := ⟨_, rfl⟩
  have s2 : IntKind.i64.wrap (256 * i + 128) = c := by rw [ec]; exact Bw.1 _ (by omega) (by omega)
  have bc : 128 ≤ c ∧ c ≤ 16384 := by omega
  have hno := h2 (atC_none hin)
  rw [ec] at hin
  unfold inA at hin
  replace ec : Keep _ := ec
  clear h2
  refine Or.elim (by omega : ¬ x.y < y.y ∧ ¬ y.y < x.y ∨ x.y < y.y ∧ ¬ y.y < x.y ∧ (¬ x.y ≤ c ∨ x.y ≤ c ∧ ¬ c < y.y)) (fun ⟨f1, f2⟩ => ?_) (fun ⟨f1, f2, f3⟩ => f3.elim (fun f3 => ?_) (fun ⟨f3, f4⟩ => ?_))
  all_goals clear hin
  all_goals unfold WnR.v
  all_goals (refine HL.hc k29 3000 ?_; unfold M29)
  all_goals (all_goals (try simp only [Sq,Sr,Sh,Si,Sl,Bu,Bb,Bd,Bc,Bw,Bn,Int.reduceAdd,Int.reduceSub,Int.reduceMul,Int.reduceTDiv,Int.reduceTMod,Int.reduceMod,Int.reduceDiv,Nat.reduceLT,Nat.reduceEqDiff,Sa,Sb,Sc,Sd,Se,Sf,Sg,Int.reduceLE,Int.reduceLT,Int.reduceToNat,Int.reduceNeg,Int.reduceEq,Nat.reduceLeDiff,Nat.reducePow,Int.reducePow,reduceIte,Nat.reduceSub,Nat.reduceAdd,Nat.reduceMul,putAt,ceq,List.replicate, *])); repeat' ((first | (with_reducible refine fun _ : True => ?_) | (refine AllocQ_i ?_; intro bk hb0 hbk; (try simp only [set_none'] at hbk); (try (first | have hbn := Grow.none (by assumption) hbk | have hbn := Grow.none (by assumption) hbk.2 | have hbn := Grow.none (by assumption) hbk.2.2 | have hbn := Grow.none (by assumption) hbk.2.2.2 | have hbn := Grow.none (by assumption) hbk.2.2.2.2 | have hbn := Grow.none (by assumption) hbk.2.2.2.2.2)); (try simp only [set_none'] at hbn); (try (first | have hbm := Grow.none (by assumption) hbn | have hbm := Grow.none (by assumption) hbn.2 | have hbm := Grow.none (by assumption) hbn.2.2 | have hbm := Grow.none (by assumption) hbn.2.2.2 | have hbm := Grow.none (by assumption) hbn.2.2.2.2 | have hbm := Grow.none (by assumption) hbn.2.2.2.2.2)); (try simp only [set_none'] at hbm)) | ((first | refine condS_i ?_ ?_ | refine pick_i ?_ ?_ | refine gS_it ?_ ?_ | refine gS_if ?_ ?_ | refine gP_it ?_ ?_ | refine gP_if ?_ ?_) <;> (intro hc; try simp only [Int.reduceLE,Int.reduceLT,Int.reduceEq,Sn] at hc)) | (refine KP_i (by (repeat' (first | exact Heap.Le.refl _ | (refine Le_known (by first | (simp only [Heap.set_same, set_ne, ne_eq, not_false_eq_true, *] <;> rfl) | fail) ?_) | (refine Le_fresh (by first | (simp only [*] <;> done) | (simp [set_none', Heap.set_same, set_ne, *] <;> done) | fail) ?_) | (refine Heap.Le.trans ?_ (Grow.le (by assumption)))))) ?_) | (with_reducible refine And.intro ?_ ?_)) <;> (try simp only [Sq,Sr,Sh,Si,Sl,Bu,Bb,Bd,Bc,Bw,Bn,Int.reduceAdd,Int.reduceSub,Int.reduceMul,Int.reduceTDiv,Int.reduceTMod,Int.reduceMod,Int.reduceDiv,Nat.reduceLT,Nat.reduceEqDiff,Sa,Sb,Sc,Sd,Se,Sf,Sg,Int.reduceLE,Int.reduceLT,Int.reduceToNat,Int.reduceNeg,Int.reduceEq,Nat.reduceLeDiff,Nat.reducePow,Int.reducePow,reduceIte,Nat.reduceSub,Nat.reduceAdd,Nat.reduceMul,putAt,ceq,List.replicate, *]))
  all_goals exact Fin_mk (by (repeat' (first | exact Heap.Le.refl _ | (refine Le_known (by first | (simp only [Heap.set_same, set_ne, ne_eq, not_false_eq_true, *] <;> rfl) | fail) ?_) | (refine Le_fresh (by first | (simp only [*] <;> done) | (simp [set_none', Heap.set_same, set_ne, *] <;> done) | fail) ?_) | (refine Heap.Le.trans ?_ (Grow.le (by assumption)))))) hno
theorem r_at_tu (x y : WnR) (i : Int) (hi : 0 ≤ i ∧ i < 64) (hx : WnOk w0 H x) (hy : WnOk w0 H y) (hrx : x.right) (hry : y.right) (hlen : x.l.length = y.l.length) (hq : x.y ≤ y.y)
    (h1 : ∀ F a' cap' H', atC x.toWn y.toWn false x.y y.y x.x y.x i = some F → VsNew w0 H H' a' cap' F.l → Grow w0 H H' → K (.tuple #[FrR.v ⟨F, a', cap'⟩, .bool true]) H')
    (h2 : atC x.toWn y.toWn false x.y y.y x.x y.x i = none → K (.tuple #[FrR.v ⟨⟨0, 0, 0, 0, false, vf 0 0 0 0, []⟩, none, 0⟩, .bool false]) H) : HCalls Try.prog w0 29 [x.v, y.v, .bool false, .int .i64 i] H K := by
  by_cases hin : inA (x.y) (y.y) (256 * i + 128)
  · by_cases hk : 0 ≤ kA (x.y) (y.y) (x.x) (y.x) (256 * i + 128) ∧ kA (x.y) (y.y) (x.x) (y.x) (256 * i + 128) ≤ 63
    · exact r_at_tu_m x y i hi hx hy hrx hry hlen hq hin hk h1
    · exact r_at_tu_k x y i hi hx hy hrx hry hlen hq hin hk h2
  · exact r_at_tu_n x y i hi hx hy hrx hry hlen hq hin h2
end Go.Proofs.Ytokjajfojjibcaa
