/- A piece is put where it may be, by the reference (layer 8). -/
import Derived.Test.YtdaipgnhconfnaaIsd
set_option linter.unusedSimpArgs false
set_option linter.unusedVariables false
set_option maxRecDepth 100000
set_option maxHeartbeats 4000000
namespace Go.Proofs.Ytdaipgnhconfnaa
open Go Go.HL Go.RowKit Pb
variable {w0 : World} {H G : Heap} {K : Value → Heap → Prop}

structure SSt (W : World) (H F0 F : Heap) (tb : Nat) (O : List Int) (zt : List Value) : Prop where
  k : ∀ d w, F0 d = some w → d ≠ tb → F d = some w
  t : F tb = some ⟨.t 5, O.map (.int .u8) ++ zt⟩
  g : Grow W H F
theorem r_Sub_ok (x : Im) (hx : ImOk w0 H x) (lv : Int) (p : Pc) (k : Nat) (z : LvR) (f : FindOk x lv p k z) {S W V X Y P Q : Nat} (g : PG z x.f p S W V X Y P Q) (ba : Option Addr) (bc : Nat) (b : List Int) (hb : BsOk w0 H ba bc b) (hn : b.length = P * Q * S)
    (h : ∀ y H', SubOk x k z b S W X Y P Q y → ImC w0 H H' y → Grow w0 H H' → K (.tuple #[y.v, .int .i64 0]) H') : HCalls Try.prog w0 35 [x.v, .int .i64 lv, p.v, .slice ba b.length bc] H K := by
  have cG : ∀ (G : Heap) (K : Value → Heap → Prop), Grow w0 H G → (∀ a c G', Bld w0 G G' a c 1 5 ((pieceB z.l S W X Y P Q).map (.int .u8)) → Grow w0 G G' → K (.tuple #[.slice a (pieceB z.l S W X Y P Q).length c, .int .i64 0]) G') → HCalls Try.prog w0 37 [x.v, .int .i64 lv, p.v] G K := fun G K gg hk => r_Get_ok x (hx.grow gg) lv p k z f g hk
  have cS := fun (G : Heap) (K : Value → Heap → Prop) => r_Size8 (w0 := w0) (H := G) (K := K) x.f
  rw [g.s] at cS
  obtain ⟨t1, t2, t3⟩ := pg_area g
  rw [← hn] at t2
  have cK : ∀ (G : Heap) (K : Value → Heap → Prop), Grow w0 H G → (∀ y H', Im.Eqv x y → ImC w0 G H' y → Dist y.ls → Grow w0 G H' → K y.v H') → HCalls Try.prog w0 14 [x.v] G K := fun G K g hk => r_CopyD x (hx.grow g) hk
  have hk0 : lv = (k : Int) := f.e
  subst hk0
  have hpos : 0 < z.l.length := by rw [g.len]; exact Nat.mul_pos (Nat.mul_pos (by have := g.wb; omega) (by have := g.vb; omega)) (by have := g.s1; omega)
  have klt : (k : Int) < (x.ls.length : Int) := by have := (List.getElem?_eq_some_iff.1 f.at_).1; omega
  have hat := f.at_
  have h' : Keep _ := h
  have g' : Keep _ := g
  have hat' : Keep _ := hat
  have hpos' : Keep _ := hpos
  have pw := g.w
  have ph := g.h
  have px := g.px
  have py := g.py
  have pP := g.pw
  have pQ := g.ph
  rw [pP, pQ] at t1
  have hxi : I64 x.f ∧ I64 x.s ∧ I64 x.t ∧ I64 x.mn ∧ I64 x.mg := ⟨hx.f, hx.s, hx.t, hx.mn, hx.mg⟩
  clear hx f h g hat hpos
  unfold Im.v Pc.v at *
  simp only [px, py, pP, pQ] at cG ⊢
  clear px py pP pQ
  refine HL.hc k35 999 ?_; unfold M35
  (all_goals (try simp only [Sq,Sr,Sh,Si,Sl,Bu,Bb,Bd,Bc,Bw,Bn,Int.reduceAdd,Int.reduceSub,Int.reduceMul,Int.reduceTDiv,Int.reduceTMod,Int.reduceMod,Int.reduceDiv,Nat.reduceLT,Nat.reduceEqDiff,Sa,Sb,Sc,Sd,Se,Sf,Sg,Int.reduceLE,Int.reduceLT,Int.reduceToNat,Int.reduceNeg,Int.reduceEq,Nat.reduceLeDiff,Nat.reducePow,Int.reducePow,reduceIte,Nat.reduceSub,Nat.reduceAdd,Nat.reduceMul,putAt,ceq,List.replicate, *])); repeat' ((first | (with_reducible refine fun _ : True => ?_) | refine cG _ _ (by (repeat' (first | exact Grow.refl _ | assumption | (refine Grow_known (by first | (simp only [Heap.set_same, set_ne, ne_eq, not_false_eq_true, *] <;> rfl) | fail) ?_) | (refine Grow.set ?_ (by assumption) (by first | (simp only [*] <;> done) | (simp [set_none', Heap.set_same, set_ne, noneH, *] <;> done) | fail)) | (refine Grow.trans ?_ (by assumption))))) (fun aa cc G' hB hg => ?_)  | (with_reducible refine any_h ?_) | ((first | refine AllocQ_i ?_ | refine AllocO_i ?_); intro bk hb0 hbk; (try simp only [set_none'] at hbk); (try (first | have hbn := Grow.none (by assumption) hbk | have hbn := Grow.none (by assumption) hbk.2 | have hbn := Grow.none (by assumption) hbk.2.2 | have hbn := Grow.none (by assumption) hbk.2.2.2 | have hbn := Grow.none (by assumption) hbk.2.2.2.2 | have hbn := Grow.none (by assumption) hbk.2.2.2.2.2)); (try simp only [set_none'] at hbn); (try (first | have hbm := Grow.none (by assumption) hbn | have hbm := Grow.none (by assumption) hbn.2 | have hbm := Grow.none (by assumption) hbn.2.2 | have hbm := Grow.none (by assumption) hbn.2.2.2 | have hbm := Grow.none (by assumption) hbn.2.2.2.2 | have hbm := Grow.none (by assumption) hbn.2.2.2.2.2)); (try simp only [set_none'] at hbm)) | ((first | refine condS_i ?_ ?_ | refine pick_i ?_ ?_ | refine gS_it ?_ ?_ | refine gS_if ?_ ?_ | refine gP_it ?_ ?_ | refine gP_if ?_ ?_) <;> (intro hc; try simp only [Int.reduceLE,Int.reduceLT,Int.reduceEq,Sn] at hc)) | (with_reducible refine KP_i ?_ ?_; · (repeat' (first | exact Heap.Le.refl _ | (with_reducible refine Le_set2 ?_) | (refine Le_known (by first | (simp only [Heap.set_same, set_ne, ne_eq, not_false_eq_true, *] <;> rfl) | fail) ?_) | (refine Le_fresh (by first | (simp only [*] <;> done) | (simp [set_none', Heap.set_same, set_ne, noneH, *] <;> done) | fail) ?_) | (refine Heap.Le.trans ?_ (Grow.le (by assumption))) | exact Le_none | (refine Le_put ?_ (by first | (simp only [Heap.set_same, set_ne, ne_eq, not_false_eq_true, *] <;> rfl) | fail)) | fail))) | (with_reducible refine And.intro ?_ ?_)) <;> (try simp only [Sq,Sr,Sh,Si,Sl,Bu,Bb,Bd,Bc,Bw,Bn,Int.reduceAdd,Int.reduceSub,Int.reduceMul,Int.reduceTDiv,Int.reduceTMod,Int.reduceMod,Int.reduceDiv,Nat.reduceLT,Nat.reduceEqDiff,Sa,Sb,Sc,Sd,Se,Sf,Sg,Int.reduceLE,Int.reduceLT,Int.reduceToNat,Int.reduceNeg,Int.reduceEq,Nat.reduceLeDiff,Nat.reducePow,Int.reducePow,reduceIte,Nat.reduceSub,Nat.reduceAdd,Nat.reduceMul,putAt,ceq,List.replicate, *]))
  rename_i b4 s4 n4 b6 s6 n6
  obtain ⟨b8, rfl⟩ : ∃ b8, b8 = bk := ⟨_, rfl⟩
  have s8 : w0.heap.size ≤ b8 := hb0
  have d48 : b4 ≠ b8 := hbk.2.1.2
  have d68 : b6 ≠ b8 := hbk.1.2
  have n8 : H b8 = none := hbk.2.2
  have gG : Grow w0 H G' := Grow.trans (by (repeat' (first | exact Grow.refl _ | assumption | (refine Grow_known (by first | (simp only [Heap.set_same, set_ne, ne_eq, not_false_eq_true, *] <;> rfl) | fail) ?_) | (refine Grow.set ?_ (by assumption) (by first | (simp only [*] <;> done) | (simp [set_none', Heap.set_same, set_ne, noneH, *] <;> done) | fail)) | (refine Grow.trans ?_ (by assumption))))) hg
  rw [up3 hg (by simp only [Heap.set_same, set_ne, ne_eq, not_false_eq_true, *] <;> rfl) (by simp only [Heap.set_same, set_ne, ne_eq, not_false_eq_true, *] <;> rfl)]
  clear cG hB hg
  (all_goals (try simp only [Sq,Sr,Sh,Si,Sl,Bu,Bb,Bd,Bc,Bw,Bn,Int.reduceAdd,Int.reduceSub,Int.reduceMul,Int.reduceTDiv,Int.reduceTMod,Int.reduceMod,Int.reduceDiv,Nat.reduceLT,Nat.reduceEqDiff,Sa,Sb,Sc,Sd,Se,Sf,Sg,Int.reduceLE,Int.reduceLT,Int.reduceToNat,Int.reduceNeg,Int.reduceEq,Nat.reduceLeDiff,Nat.reducePow,Int.reducePow,reduceIte,Nat.reduceSub,Nat.reduceAdd,Nat.reduceMul,putAt,ceq,List.replicate, *])); repeat' ((first | (with_reducible refine fun _ : True => ?_) | refine cS _ _ ?_ | refine cK _ _ (by (repeat' (first | exact Grow.refl _ | assumption | (refine Grow_known (by first | (simp only [Heap.set_same, set_ne, ne_eq, not_false_eq_true, *] <;> rfl) | fail) ?_) | (refine Grow.set ?_ (by assumption) (by first | (simp only [*] <;> done) | (simp [set_none', Heap.set_same, set_ne, noneH, *] <;> done) | fail)) | (refine Grow.trans ?_ (by assumption))))) (fun y H' hE hC hD hg => ?_)  | (with_reducible refine any_h ?_) | ((first | refine AllocQ_i ?_ | refine AllocO_i ?_); intro bk hb0 hbk; (try simp only [set_none'] at hbk); (try (first | have hbn := Grow.none (by assumption) hbk | have hbn := Grow.none (by assumption) hbk.2 | have hbn := Grow.none (by assumption) hbk.2.2 | have hbn := Grow.none (by assumption) hbk.2.2.2 | have hbn := Grow.none (by assumption) hbk.2.2.2.2 | have hbn := Grow.none (by assumption) hbk.2.2.2.2.2)); (try simp only [set_none'] at hbn); (try (first | have hbm := Grow.none (by assumption) hbn | have hbm := Grow.none (by assumption) hbn.2 | have hbm := Grow.none (by assumption) hbn.2.2 | have hbm := Grow.none (by assumption) hbn.2.2.2 | have hbm := Grow.none (by assumption) hbn.2.2.2.2 | have hbm := Grow.none (by assumption) hbn.2.2.2.2.2)); (try simp only [set_none'] at hbm)) | ((first | refine condS_i ?_ ?_ | refine pick_i ?_ ?_ | refine gS_it ?_ ?_ | refine gS_if ?_ ?_ | refine gP_it ?_ ?_ | refine gP_if ?_ ?_) <;> (intro hc; try simp only [Int.reduceLE,Int.reduceLT,Int.reduceEq,Sn] at hc)) | (with_reducible refine KP_i ?_ ?_; · (repeat' (first | exact Heap.Le.refl _ | (with_reducible refine Le_set2 ?_) | (refine Le_known (by first | (simp only [Heap.set_same, set_ne, ne_eq, not_false_eq_true, *] <;> rfl) | fail) ?_) | (refine Le_fresh (by first | (simp only [*] <;> done) | (simp [set_none', Heap.set_same, set_ne, noneH, *] <;> done) | fail) ?_) | (refine Heap.Le.trans ?_ (Grow.le (by assumption))) | exact Le_none | (refine Le_put ?_ (by first | (simp only [Heap.set_same, set_ne, ne_eq, not_false_eq_true, *] <;> rfl) | fail)) | fail))) | (with_reducible refine And.intro ?_ ?_)) <;> (try simp only [Sq,Sr,Sh,Si,Sl,Bu,Bb,Bd,Bc,Bw,Bn,Int.reduceAdd,Int.reduceSub,Int.reduceMul,Int.reduceTDiv,Int.reduceTMod,Int.reduceMod,Int.reduceDiv,Nat.reduceLT,Nat.reduceEqDiff,Sa,Sb,Sc,Sd,Se,Sf,Sg,Int.reduceLE,Int.reduceLT,Int.reduceToNat,Int.reduceNeg,Int.reduceEq,Nat.reduceLeDiff,Nat.reducePow,Int.reducePow,reduceIte,Nat.reduceSub,Nat.reduceAdd,Nat.reduceMul,putAt,ceq,List.replicate, *]))
  have q4 := hg.some (b := b4) (by simp only [Heap.set_same, set_ne, ne_eq, not_false_eq_true, *] <;> rfl)
  have q6 := hg.some (b := b6) (by simp only [Heap.set_same, set_ne, ne_eq, not_false_eq_true, *] <;> rfl)
  have q8 := hg.some (b := b8) (by simp only [Heap.set_same, set_ne, ne_eq, not_false_eq_true, *] <;> rfl)
  have gH' : Grow w0 H H' := Grow.trans (((gG.set s4 n4).set s6 n6.2).set s8 n8) hg
  obtain ⟨u, eu, ecu⟩ := core_get hE.symm (show x.ls[k]? = some z from hat')
  obtain ⟨uw, uh, ul⟩ := core_eq ecu
  have ylen := hE.len
  have ulv := hC.lv u (List.mem_of_getElem? eu)
  obtain ⟨yb, yo, eya, yr, -⟩ := im_row hC.ok eu
  obtain ⟨yn, yb0, ⟨yc, ycs, ycl⟩, eyo⟩ : (((G'.set b4 _).set b6 _).set b8 _) yb = none ∧ w0.heap.size ≤ yb ∧ (∃ zz, H' yb = some ⟨.t 38, (y.ls.map LvR.row).flatten ++ zz⟩ ∧ (y.ls.map LvR.row).flatten.length + zz.length = y.cap * 3) ∧ yo = 0 := by
    rcases hC.bld with ⟨c, zz, e1, c0, cn, cs, cl⟩ | ⟨-, e⟩
    · rw [eya] at e1
      cases e1
      exact ⟨cn, c0, ⟨_, cs, cl⟩, rfl⟩
    · have := congrArg List.length e
      rw [rows_len] at this
      have h0 : y.ls.length * 3 = 0 := this
      omega
  subst eyo
  have hpos : 0 < z.l.length := hpos'
  obtain ⟨tb, zt, eua, tb0, tbn, tbs, tbl⟩ : ∃ tb zt, u.a = some ⟨tb, 0, none⟩ ∧ w0.heap.size ≤ tb ∧ (((G'.set b4 _).set b6 _).set b8 _) tb = none ∧ H' tb = some ⟨.t 5, (z.l.map fun x => .int .u8 x) ++ zt⟩ ∧ z.l.length + zt.length = u.cap := by
    rcases ulv.bld with ⟨c, zz, e1, c0, cn, cs, cl⟩ | ⟨-, e⟩
    · rw [ul] at cs cl
      exact ⟨c, zz, e1, c0, cn, cs, by rw [List.length_map, Nat.mul_one] at cl; exact cl⟩
    · have := congrArg List.length e
      rw [List.length_map, ul] at this
      have h0 : z.l.length = 0 := this
      omega
  simp only [set_none'] at yn tbn
  rw [eua, ul, uw, uh, pw, ph] at yr
  rw [Nat.zero_add] at yr
  have ucap := ulv.ok.lc
  rw [ul] at ucap
  have ybt : yb ≠ tb := fun e => by
    subst e
    rw [ycs] at tbs
    simp at tbs
  have ef := hE.f
  have es := hE.s
  have et := hE.t
  have em := hE.mn
  have eg := hE.mg
  have y4 := yn.2.2.1.1
  have y4' := Ne.symm y4
  have y6 := yn.2.1.1
  have y8 := yn.1.1
  have t4 := tbn.2.2.1.1
  have t6 := tbn.2.1.1
  have t8 := tbn.1.1
  rw [root3 q4 q6 q8]
  rw [ef, es, et, em, eg, eya, ylen]
  replace ylen : Keep _ := ylen
  replace ulv : Keep _ := ulv
  replace ucap : Keep _ := ucap
  replace tbl : Keep _ := tbl
  replace ecu : Keep _ := ecu
  replace eu : Keep _ := eu
  replace eua : Keep _ := eua
  replace ycs : Keep _ := ycs
  replace ycl : Keep _ := ycl
  replace uw : Keep _ := uw
  replace uh : Keep _ := uh
  replace ul : Keep _ := ul
  replace pw : Keep _ := pw
  replace ph : Keep _ := ph
  have hEl : Keep _ := hE.ls
  clear hE cS cK ef es et em eg hg t1 t2 hpos
  (all_goals (try simp only [Sq,Sr,Sh,Si,Sl,Bu,Bb,Bd,Bc,Bw,Bn,Int.reduceAdd,Int.reduceSub,Int.reduceMul,Int.reduceTDiv,Int.reduceTMod,Int.reduceMod,Int.reduceDiv,Nat.reduceLT,Nat.reduceEqDiff,Sa,Sb,Sc,Sd,Se,Sf,Sg,Int.reduceLE,Int.reduceLT,Int.reduceToNat,Int.reduceNeg,Int.reduceEq,Nat.reduceLeDiff,Nat.reducePow,Int.reducePow,reduceIte,Nat.reduceSub,Nat.reduceAdd,Nat.reduceMul,putAt,ceq,List.replicate, *])); repeat' ((first | (with_reducible refine fun _ : True => ?_) | (with_reducible refine any_h ?_) | ((first | refine AllocQ_i ?_ | refine AllocO_i ?_); intro bk hb0 hbk; (try simp only [set_none'] at hbk); (try (first | have hbn := Grow.none (by assumption) hbk | have hbn := Grow.none (by assumption) hbk.2 | have hbn := Grow.none (by assumption) hbk.2.2 | have hbn := Grow.none (by assumption) hbk.2.2.2 | have hbn := Grow.none (by assumption) hbk.2.2.2.2 | have hbn := Grow.none (by assumption) hbk.2.2.2.2.2)); (try simp only [set_none'] at hbn); (try (first | have hbm := Grow.none (by assumption) hbn | have hbm := Grow.none (by assumption) hbn.2 | have hbm := Grow.none (by assumption) hbn.2.2 | have hbm := Grow.none (by assumption) hbn.2.2.2 | have hbm := Grow.none (by assumption) hbn.2.2.2.2 | have hbm := Grow.none (by assumption) hbn.2.2.2.2.2)); (try simp only [set_none'] at hbm)) | ((first | refine condS_i ?_ ?_ | refine pick_i ?_ ?_ | refine gS_it ?_ ?_ | refine gS_if ?_ ?_ | refine gP_it ?_ ?_ | refine gP_if ?_ ?_) <;> (intro hc; try simp only [Int.reduceLE,Int.reduceLT,Int.reduceEq,Sn] at hc)) | (with_reducible refine KP_i ?_ ?_; · (repeat' (first | exact Heap.Le.refl _ | (with_reducible refine Le_set2 ?_) | (refine Le_known (by first | (simp only [Heap.set_same, set_ne, ne_eq, not_false_eq_true, *] <;> rfl) | fail) ?_) | (refine Le_fresh (by first | (simp only [*] <;> done) | (simp [set_none', Heap.set_same, set_ne, noneH, *] <;> done) | fail) ?_) | (refine Heap.Le.trans ?_ (Grow.le (by assumption))) | exact Le_none | (refine Le_put ?_ (by first | (simp only [Heap.set_same, set_ne, ne_eq, not_false_eq_true, *] <;> rfl) | fail)) | fail))) | (with_reducible refine And.intro ?_ ?_)) <;> (try simp only [Sq,Sr,Sh,Si,Sl,Bu,Bb,Bd,Bc,Bw,Bn,Int.reduceAdd,Int.reduceSub,Int.reduceMul,Int.reduceTDiv,Int.reduceTMod,Int.reduceMod,Int.reduceDiv,Nat.reduceLT,Nat.reduceEqDiff,Sa,Sb,Sc,Sd,Se,Sf,Sg,Int.reduceLE,Int.reduceLT,Int.reduceToNat,Int.reduceNeg,Int.reduceEq,Nat.reduceLeDiff,Nat.reducePow,Int.reducePow,reduceIte,Nat.reduceSub,Nat.reduceAdd,Nat.reduceMul,putAt,ceq,List.replicate, *]))
  obtain ⟨b13, rfl⟩ : ∃ b13, b13 = bk := ⟨_, rfl⟩
  refine loopq_heap fun F0 hF0 => ?_
  have n13' : H' b13 = none := hbk.2.2.2
  have s13 : w0.heap.size ≤ b13 := hb0
  have t13 : tb ≠ b13 := fun e => by subst e; rw [tbs] at n13'; cases n13'
  have y13 : yb ≠ b13 := fun e => by subst e; rw [show H' yb = _ from ycs] at n13'; cases n13'
  have gF : Grow w0 H F0 := by rw [hF0]; exact (((gH'.set s4 n4).set s6 n6.2).set s8 n8).set hb0 (gH'.none n13')
  have e4 : F0 b4 = some ⟨.t 24, [.int .i64 x.f, .slice (some ⟨yb, 0, none⟩) x.ls.length y.cap, .int .i64 x.s, .int .i64 x.t, .int .i64 x.mn, .int .i64 x.mg]⟩ := by rw [hF0]; exact (by simp only [Heap.set_same, set_ne, ne_eq, not_false_eq_true, *] <;> rfl)
  have e6 : F0 b6 = some ⟨.t 49, [.int .i64 (X : Nat), .int .i64 (Y : Nat), .int .i64 (P : Nat), .int .i64 (Q : Nat)]⟩ := by rw [hF0]; exact (by simp only [Heap.set_same, set_ne, ne_eq, not_false_eq_true, *] <;> rfl)
  have e8 : F0 b8 = some ⟨.t 24, [.int .i64 0, .slice none 0 0, .int .i64 0, .int .i64 0, .int .i64 0, .int .i64 0]⟩ := by rw [hF0]; exact (by simp only [Heap.set_same, set_ne, ne_eq, not_false_eq_true, *] <;> rfl)
  have e13 : F0 b13 = some ⟨.t 38, [.int .i64 (W : Nat), .int .i64 (V : Nat), .slice (some ⟨tb, 0, none⟩) z.l.length u.cap]⟩ := by rw [hF0]; exact (by simp only [Heap.set_same, set_ne, ne_eq, not_false_eq_true, *] <;> rfl)
  have keepF : ∀ d w, H' d = some w → d ≠ b4 → d ≠ b6 → d ≠ b8 → F0 d = some w := fun d w hd c4 c6 c8 => by
    have r13 : d ≠ b13 := fun e => by subst e; rw [hd] at n13'; cases n13'
    rw [hF0, Heap.set_other _ _ r13, Heap.set_other _ _ c8, Heap.set_other _ _ c6, Heap.set_other _ _ c4]
    exact hd
  have et : F0 tb = some ⟨.t 5, z.l.map (.int .u8) ++ zt⟩ := keepF tb _ tbs t4 t6 t8
  clear hF0
  have hPQ : P * Q * S = Q * (P * S) := by rw [Nat.mul_comm P Q, Nat.mul_assoc]
  have hbQ : b.length = Q * (P * S) := by rw [← hPQ]; exact hn
  have htb : H tb = none := gG.none tbn.2.2.2
  have hyb : H yb = none := gG.none yn.2.2.2
  have eyF : F0 yb = some ⟨.t 38, (y.ls.map LvR.row).flatten ++ yc⟩ := keepF yb _ ycs y4 y6 y8
  have hg : PG z x.f p S W V X Y P Q := g'
  have hseg := fun j (hj : j < Q) => (seg_b hg hj).1
  have hsbl := fun j (hj : j ≤ Q) => subB_len hbQ hseg j hj
  have gG' := gG
  clear hbk yn tbn n4 n6 gH' gG q4 q6 q8 eya yr s4 s6 n13' pw ph
  have hr6 : ∀ (F : Heap) O, SSt w0 H F0 F tb O zt → rd1 w0 F b6 0 = some (.int .i64 (X : Nat)) ∧ rd1 w0 F b6 1 = some (.int .i64 (Y : Nat)) ∧ rd1 w0 F b6 2 = some (.int .i64 (P : Nat)) ∧ rd1 w0 F b6 3 = some (.int .i64 (Q : Nat)) := fun F O st => by
    have := st.k b6 _ e6 (Ne.symm t6)
    refine ⟨?_, ?_, ?_, ?_⟩ <;> (unfold rd1; rw [this]; rfl)
  have hr13 : ∀ (F : Heap) O, SSt w0 H F0 F tb O zt → rd1 w0 F b13 0 = some (.int .i64 (W : Nat)) ∧ rd1 w0 F b13 2 = some (.slice (some ⟨tb, 0, none⟩) z.l.length u.cap) := fun F O st => by
    have := st.k b13 _ e13 (Ne.symm t13)
    refine ⟨?_, ?_⟩ <;> (unfold rd1; rw [this]; rfl)
  replace hr6 : Keep _ := hr6
  replace hr13 : Keep _ := hr13
  replace e4 : Keep _ := e4
  replace e6 : Keep _ := e6
  replace e8 : Keep _ := e8
  replace e13 : Keep _ := e13
  replace et : Keep _ := et
  replace eyF : Keep _ := eyF
  replace hPQ : Keep _ := hPQ
  replace hbQ : Keep _ := hbQ
  replace hsbl : Keep _ := hsbl
  replace hn : Keep _ := hn
  refine loopq_name (fun code kont T eM eK eT => ?_)
  refine loop_a 51 (fun a : Nat × List Value => [(50, .int .i64 (a.1 : Nat)), (14, a.2.getD 0 undef), (15, a.2.getD 1 undef)])
    (fun s F => s.1 ≤ Q ∧ SSt w0 H F0 F tb (subB z.l b S W X Y P s.1) zt) (fun s => Q - s.1) (0, []) ⟨Nat.zero_le _, ⟨fun d w hd _ => hd, et, gF⟩⟩ (by subst eT; rfl) ?_
  intro ⟨j, us⟩ F U ⟨hj, st⟩
  simp only at hj st
  obtain ⟨r60, r61, r62, r63⟩ := (show ∀ (F : Heap) O, SSt w0 H F0 F tb O zt → _ from hr6) _ _ st
  rcases Nat.lt_or_ge j Q with hlt | hge
  · have f1 : (j : Int) < (Q : Int) := by omega
    subst eM eK eT
    show run _ _ _ _ _ _ F
    (all_goals (try simp only [Sq,Sr,Sh,Si,Sl,Bu,Bb,Bd,Bc,Bw,Bn,Int.reduceAdd,Int.reduceSub,Int.reduceMul,Int.reduceTDiv,Int.reduceTMod,Int.reduceMod,Int.reduceDiv,Nat.reduceLT,Nat.reduceEqDiff,Sa,Sb,Sc,Sd,Se,Sf,Sg,Int.reduceLE,Int.reduceLT,Int.reduceToNat,Int.reduceNeg,Int.reduceEq,Nat.reduceLeDiff,Nat.reducePow,Int.reducePow,reduceIte,Nat.reduceSub,Nat.reduceAdd,Nat.reduceMul,putAt,ceq,List.replicate, *])); repeat' ((first | (with_reducible refine fun _ : True => ?_) | (with_reducible refine any_h ?_) | ((first | refine AllocQ_i ?_ | refine AllocO_i ?_); intro bk hb0 hbk; (try simp only [set_none'] at hbk); (try (first | have hbn := Grow.none (by assumption) hbk | have hbn := Grow.none (by assumption) hbk.2 | have hbn := Grow.none (by assumption) hbk.2.2 | have hbn := Grow.none (by assumption) hbk.2.2.2 | have hbn := Grow.none (by assumption) hbk.2.2.2.2 | have hbn := Grow.none (by assumption) hbk.2.2.2.2.2)); (try simp only [set_none'] at hbn); (try (first | have hbm := Grow.none (by assumption) hbn | have hbm := Grow.none (by assumption) hbn.2 | have hbm := Grow.none (by assumption) hbn.2.2 | have hbm := Grow.none (by assumption) hbn.2.2.2 | have hbm := Grow.none (by assumption) hbn.2.2.2.2 | have hbm := Grow.none (by assumption) hbn.2.2.2.2.2)); (try simp only [set_none'] at hbm)) | ((first | refine condS_i ?_ ?_ | refine pick_i ?_ ?_ | refine gS_it ?_ ?_ | refine gS_if ?_ ?_ | refine gP_it ?_ ?_ | refine gP_if ?_ ?_) <;> (intro hc; try simp only [Int.reduceLE,Int.reduceLT,Int.reduceEq,Sn] at hc)) | (with_reducible refine KP_i ?_ ?_; · (repeat' (first | exact Heap.Le.refl _ | (with_reducible refine Le_set2 ?_) | (refine Le_known (by first | (simp only [Heap.set_same, set_ne, ne_eq, not_false_eq_true, *] <;> rfl) | fail) ?_) | (refine Le_fresh (by first | (simp only [*] <;> done) | (simp [set_none', Heap.set_same, set_ne, noneH, *] <;> done) | fail) ?_) | (refine Heap.Le.trans ?_ (Grow.le (by assumption))) | exact Le_none | (refine Le_put ?_ (by first | (simp only [Heap.set_same, set_ne, ne_eq, not_false_eq_true, *] <;> rfl) | fail)) | fail))) | (with_reducible refine And.intro ?_ ?_)) <;> (try simp only [Sq,Sr,Sh,Si,Sl,Bu,Bb,Bd,Bc,Bw,Bn,Int.reduceAdd,Int.reduceSub,Int.reduceMul,Int.reduceTDiv,Int.reduceTMod,Int.reduceMod,Int.reduceDiv,Nat.reduceLT,Nat.reduceEqDiff,Sa,Sb,Sc,Sd,Se,Sf,Sg,Int.reduceLE,Int.reduceLT,Int.reduceToNat,Int.reduceNeg,Int.reduceEq,Nat.reduceLeDiff,Nat.reducePow,Int.reducePow,reduceIte,Nat.reduceSub,Nat.reduceAdd,Nat.reduceMul,putAt,ceq,List.replicate, *]))
    clear r60 r61 r62 r63 f1
    have O0 : subB z.l b S W X Y P j = putSeg (subB z.l b S W X Y P j) (segA S W X Y j) ((b.drop (j * (P * S))).take (0 * S)) := by rw [Nat.zero_mul, List.take_zero, putSeg_nil]
    refine loopq_name (fun code2 kont2 T2 eM2 eK2 eT2 => ?_)
    refine loop_a 56 (fun a : Nat × List Value => [(55, .int .i64 (a.1 : Nat)), (15, a.2.getD 0 undef)])
      (fun s F => s.1 ≤ P ∧ SSt w0 H F0 F tb (putSeg (subB z.l b S W X Y P j) (segA S W X Y j) ((b.drop (j * (P * S))).take (s.1 * S))) zt) (fun s => P - s.1) (0, [us.getD 1 undef]) ⟨Nat.zero_le _, by rw [← O0]; exact st⟩ (by subst eT2; rfl) ?_
    clear st O0
    intro ⟨i, vs⟩ F2 U2 ⟨hi, st⟩
    simp only at hi st
    obtain ⟨r60, r61, r62, r63⟩ := (show ∀ (F : Heap) O, SSt w0 H F0 F tb O zt → _ from hr6) _ _ st
    obtain ⟨r130, r132⟩ := (show ∀ (F : Heap) O, SSt w0 H F0 F tb O zt → _ from hr13) _ _ st
    rcases Nat.lt_or_ge i P with hlti | hgei
    · have f1 : (i : Int) < (P : Int) := by omega
      obtain ⟨q1, q2, q3, q4, q5⟩ := seg_px hg hlt hlti
      have gw := hg.wb
      have gv := hg.vb
      have gx := hg.xw
      have gy := hg.yh
      have gs := hg.s1
      have hbQ' : b.length = Q * (P * S) := hbQ
      have hbN : b.length = P * Q * S := hn
      have hiS : i * S + S ≤ P * S := by rw [← Nat.succ_mul]; exact Nat.mul_le_mul_right _ hlti
      have hjS : j * (P * S) + P * S ≤ Q * (P * S) := by rw [← Nat.succ_mul]; exact Nat.mul_le_mul_right _ hlt
      have hjP : j * P ≤ 64 * 64 := Nat.mul_le_mul (by omega) (by omega)
      obtain ⟨l2, el2⟩ : ∃ l2, j * (P * S) + i * S = l2 := ⟨_, rfl⟩
      have hl2 : (j * P + i) * S = l2 := by rw [Nat.add_mul, Nat.mul_assoc, el2]
      have hl3 : (j * P + i + 1) * S = l2 + S := by rw [Nat.succ_mul, hl2]
      have hl4 : l2 + S ≤ b.length := by omega
      have eO2 := take_more b (j * (P * S)) i S
      rw [← Nat.succ_mul, el2] at eO2
      have sln : ((b.drop l2).take S).length = S := by rw [List.length_take, List.length_drop]; omega
      have tln : ((b.drop (j * (P * S))).take (i * S)).length = i * S := by rw [List.length_take, List.length_drop]; omega
      have hsb := (show ∀ j, _ → _ from hsbl) j (Nat.le_of_lt hlt)
      have eO3 : putSeg (subB z.l b S W X Y P j) (segA S W X Y j) ((b.drop (j * (P * S))).take ((i + 1) * S)) = putSeg (putSeg (subB z.l b S W X Y P j) (segA S W X Y j) ((b.drop (j * (P * S))).take (i * S))) (segA S W X Y j + i * S) ((b.drop l2).take S) := by
        have := putSeg_more (l := subB z.l b S W X Y P j) (s := (b.drop (j * (P * S))).take (i * S)) (t := (b.drop l2).take S) (A := segA S W X Y j) (by rw [tln, sln, hsb]; exact q2)
        rw [tln] at this
        rw [this, ← eO2]
      have hOl : (putSeg (subB z.l b S W X Y P j) (segA S W X Y j) ((b.drop (j * (P * S))).take (i * S))).length = z.l.length := by rw [putSeg_len (by rw [tln, hsb]; omega), hsb]
      obtain ⟨lo, elo⟩ : ∃ lo, segA S W X Y j + i * S = lo := ⟨_, rfl⟩
      rw [elo] at q1 q2 eO3
      obtain ⟨O, eO⟩ : ∃ O, putSeg (subB z.l b S W X Y P j) (segA S W X Y j) ((b.drop (j * (P * S))).take (i * S)) = O := ⟨_, rfl⟩
      rw [eO] at st eO3 hOl
      obtain ⟨ii, eii⟩ : ∃ ii, (Y + j) * W + (X + i) = ii := ⟨_, rfl⟩
      rw [eii] at q1
      have c1 : IntKind.i64.wrap ((Y : Int) + (j : Int)) = ((Y + j : Nat) : Int) := by rw [← Int.natCast_add, Bw.1 _ (by omega) (by omega)]
      have c2 : IntKind.i64.wrap (((Y + j : Nat) : Int) * (W : Int)) = (((Y + j) * W : Nat) : Int) := by rw [← Int.natCast_mul, Bw.1 _ (by omega) (by omega)]
      have c3 : IntKind.i64.wrap ((((Y + j) * W : Nat) : Int) + (X : Int)) = (((Y + j) * W + X : Nat) : Int) := by rw [← Int.natCast_add, Bw.1 _ (by omega) (by omega)]
      have c4 : IntKind.i64.wrap ((((Y + j) * W + X : Nat) : Int) + (i : Int)) = (ii : Int) := by rw [← Int.natCast_add, Nat.add_assoc, eii, Bw.1 _ (by omega) (by omega)]
      have c5 : IntKind.i64.wrap ((ii : Int) * (S : Int)) = (lo : Int) := by rw [← Int.natCast_mul, q1, Bw.1 _ (by omega) (by omega)]
      have c6 : IntKind.i64.wrap ((j : Int) * (P : Int)) = ((j * P : Nat) : Int) := by rw [← Int.natCast_mul, Bw.1 _ (by omega) (by omega)]
      have c7 : IntKind.i64.wrap (((j * P : Nat) : Int) + (i : Int)) = ((j * P + i : Nat) : Int) := by rw [← Int.natCast_add, Bw.1 _ (by omega) (by omega)]
      have c8 : IntKind.i64.wrap (((j * P + i : Nat) : Int) * (S : Int)) = (l2 : Int) := by rw [← Int.natCast_mul, hl2, Bw.1 _ (by omega) (by omega)]
      have c9 : IntKind.i64.wrap (((j * P + i : Nat) : Int) + 1) = ((j * P + i + 1 : Nat) : Int) := by rw [Bw.1 _ (by omega) (by omega)]; omega
      have c10 : IntKind.i64.wrap (((j * P + i + 1 : Nat) : Int) * (S : Int)) = ((l2 + S : Nat) : Int) := by rw [← Int.natCast_mul, hl3, Bw.1 _ (by omega) (by omega)]
      have c11 : IntKind.i64.wrap ((i : Int) + 1) = ((i + 1 : Nat) : Int) := by rw [Bw.1 _ (by omega) (by omega)]; omega
      have ucap' : z.l.length ≤ u.cap := ucap
      have bcap := hb.cap
      have v1 : (lo : Int) ≤ (z.l.length : Int) := by omega
      have v2 : (z.l.length : Int) ≤ (u.cap : Int) := by omega
      have v3 : (l2 : Int) ≤ ((l2 + S : Nat) : Int) := by omega
      have v4 : ((l2 + S : Nat) : Int) ≤ (bc : Int) := by omega
      have v5 : l2 + S - l2 = S := by omega
      have v6 : ¬ u.cap = lo := by omega
      have v7 : ¬ bc = l2 := by omega
      obtain ⟨bb, bo, eba, -, -⟩ := ints_get hb.at_ (show 0 < b.length by omega)
      have hx : srd w0 F2 (some ⟨bb, bo + l2, none⟩) S = some (((b.drop l2).take S).map (.int .u8)) := by
        have := (SlAt.ints (seg_at (hb.at_.grow st.g) eba hl4 (by omega))).srd
        rw [List.length_map, sln] at this
        exact this
      have hS0 : 0 < S := gs.1
      have hm : S ≤ z.l.length - lo := by omega
      have ho2 : lo + S ≤ O.length := by omega
      replace sln : Keep _ := sln
      replace eO3 : Keep _ := eO3
      replace hx : Keep _ := hx
      replace st : Keep _ := st
      replace hm : Keep _ := hm
      replace ho2 : Keep _ := ho2
      clear eii q1 q2 q3 q4 q5 elo eO2 ucap' bcap hbQ' hbN hiS hjS hjP el2 hl2 hl3 hl4 tln hsb hOl eO gw gv gx gy t3
      subst eM2 eK2 eT2
      show run _ _ _ _ _ _ F2
      rw [eba]
      (all_goals (try simp only [Sq,Sr,Sh,Si,Sl,Bu,Bb,Bd,Bc,Bw,Bn,Int.reduceAdd,Int.reduceSub,Int.reduceMul,Int.reduceTDiv,Int.reduceTMod,Int.reduceMod,Int.reduceDiv,Nat.reduceLT,Nat.reduceEqDiff,Sa,Sb,Sc,Sd,Se,Sf,Sg,Int.reduceLE,Int.reduceLT,Int.reduceToNat,Int.reduceNeg,Int.reduceEq,Nat.reduceLeDiff,Nat.reducePow,Int.reducePow,reduceIte,Nat.reduceSub,Nat.reduceAdd,Nat.reduceMul,putAt,ceq,List.replicate, *])); repeat' ((first | (with_reducible refine fun _ : True => ?_) | (with_reducible refine any_h ?_) | ((first | refine AllocQ_i ?_ | refine AllocO_i ?_); intro bk hb0 hbk; (try simp only [set_none'] at hbk); (try (first | have hbn := Grow.none (by assumption) hbk | have hbn := Grow.none (by assumption) hbk.2 | have hbn := Grow.none (by assumption) hbk.2.2 | have hbn := Grow.none (by assumption) hbk.2.2.2 | have hbn := Grow.none (by assumption) hbk.2.2.2.2 | have hbn := Grow.none (by assumption) hbk.2.2.2.2.2)); (try simp only [set_none'] at hbn); (try (first | have hbm := Grow.none (by assumption) hbn | have hbm := Grow.none (by assumption) hbn.2 | have hbm := Grow.none (by assumption) hbn.2.2 | have hbm := Grow.none (by assumption) hbn.2.2.2 | have hbm := Grow.none (by assumption) hbn.2.2.2.2 | have hbm := Grow.none (by assumption) hbn.2.2.2.2.2)); (try simp only [set_none'] at hbm)) | ((first | refine condS_i ?_ ?_ | refine pick_i ?_ ?_ | refine gS_it ?_ ?_ | refine gS_if ?_ ?_ | refine gP_it ?_ ?_ | refine gP_if ?_ ?_) <;> (intro hc; try simp only [Int.reduceLE,Int.reduceLT,Int.reduceEq,Sn] at hc)) | (with_reducible refine KP_i ?_ ?_; · (repeat' (first | exact Heap.Le.refl _ | (with_reducible refine Le_set2 ?_) | (refine Le_known (by first | (simp only [Heap.set_same, set_ne, ne_eq, not_false_eq_true, *] <;> rfl) | fail) ?_) | (refine Le_fresh (by first | (simp only [*] <;> done) | (simp [set_none', Heap.set_same, set_ne, noneH, *] <;> done) | fail) ?_) | (refine Heap.Le.trans ?_ (Grow.le (by assumption))) | exact Le_none | (refine Le_put ?_ (by first | (simp only [Heap.set_same, set_ne, ne_eq, not_false_eq_true, *] <;> rfl) | fail)) | fail))) | (with_reducible refine And.intro ?_ ?_)) <;> (try simp only [Sq,Sr,Sh,Si,Sl,Bu,Bb,Bd,Bc,Bw,Bn,Int.reduceAdd,Int.reduceSub,Int.reduceMul,Int.reduceTDiv,Int.reduceTMod,Int.reduceMod,Int.reduceDiv,Nat.reduceLT,Nat.reduceEqDiff,Sa,Sb,Sc,Sd,Se,Sf,Sg,Int.reduceLE,Int.reduceLT,Int.reduceToNat,Int.reduceNeg,Int.reduceEq,Nat.reduceLeDiff,Nat.reducePow,Int.reducePow,reduceIte,Nat.reduceSub,Nat.reduceAdd,Nat.reduceMul,putAt,ceq,List.replicate, *]))
      have st' := (show SSt w0 H F0 F2 tb O zt from st)
      refine cpy_seg2 (A := lo) (n := S) (l := O) (sg := (b.drop l2).take S) (zz := zt) st'.t hx sln hm ho2 rfl hS0 ?_
      have st2 : SSt w0 H F0 (F2.set tb ⟨.t 5, (putSeg O lo ((b.drop l2).take S)).map (.int .u8) ++ zt⟩) tb (putSeg (subB z.l b S W X Y P j) (segA S W X Y j) ((b.drop (j * (P * S))).take ((i + 1) * S))) zt :=
        ⟨fun d w hd h1 => by rw [Heap.set_other _ _ h1]; exact st'.k d w hd h1, by rw [Heap.set_same, show _ = putSeg O _ _ from eO3], st'.g.set tb0 htb⟩
      generalize (F2.set tb ⟨.t 5, (putSeg O lo ((b.drop l2).take S)).map (.int .u8) ++ zt⟩) = F3 at st2 ⊢
      clear hx eO3 st st' r60 r61 r62 r63 r130 r132
      (all_goals (try simp only [Sq,Sr,Sh,Si,Sl,Bu,Bb,Bd,Bc,Bw,Bn,Int.reduceAdd,Int.reduceSub,Int.reduceMul,Int.reduceTDiv,Int.reduceTMod,Int.reduceMod,Int.reduceDiv,Nat.reduceLT,Nat.reduceEqDiff,Sa,Sb,Sc,Sd,Se,Sf,Sg,Int.reduceLE,Int.reduceLT,Int.reduceToNat,Int.reduceNeg,Int.reduceEq,Nat.reduceLeDiff,Nat.reducePow,Int.reducePow,reduceIte,Nat.reduceSub,Nat.reduceAdd,Nat.reduceMul,putAt,ceq,List.replicate, *])); repeat' ((first | (with_reducible refine fun _ : True => ?_) | (with_reducible refine any_h ?_) | ((first | refine AllocQ_i ?_ | refine AllocO_i ?_); intro bk hb0 hbk; (try simp only [set_none'] at hbk); (try (first | have hbn := Grow.none (by assumption) hbk | have hbn := Grow.none (by assumption) hbk.2 | have hbn := Grow.none (by assumption) hbk.2.2 | have hbn := Grow.none (by assumption) hbk.2.2.2 | have hbn := Grow.none (by assumption) hbk.2.2.2.2 | have hbn := Grow.none (by assumption) hbk.2.2.2.2.2)); (try simp only [set_none'] at hbn); (try (first | have hbm := Grow.none (by assumption) hbn | have hbm := Grow.none (by assumption) hbn.2 | have hbm := Grow.none (by assumption) hbn.2.2 | have hbm := Grow.none (by assumption) hbn.2.2.2 | have hbm := Grow.none (by assumption) hbn.2.2.2.2 | have hbm := Grow.none (by assumption) hbn.2.2.2.2.2)); (try simp only [set_none'] at hbm)) | ((first | refine condS_i ?_ ?_ | refine pick_i ?_ ?_ | refine gS_it ?_ ?_ | refine gS_if ?_ ?_ | refine gP_it ?_ ?_ | refine gP_if ?_ ?_) <;> (intro hc; try simp only [Int.reduceLE,Int.reduceLT,Int.reduceEq,Sn] at hc)) | (with_reducible refine KP_i ?_ ?_; · (repeat' (first | exact Heap.Le.refl _ | (with_reducible refine Le_set2 ?_) | (refine Le_known (by first | (simp only [Heap.set_same, set_ne, ne_eq, not_false_eq_true, *] <;> rfl) | fail) ?_) | (refine Le_fresh (by first | (simp only [*] <;> done) | (simp [set_none', Heap.set_same, set_ne, noneH, *] <;> done) | fail) ?_) | (refine Heap.Le.trans ?_ (Grow.le (by assumption))) | exact Le_none | (refine Le_put ?_ (by first | (simp only [Heap.set_same, set_ne, ne_eq, not_false_eq_true, *] <;> rfl) | fail)) | fail))) | (with_reducible refine And.intro ?_ ?_)) <;> (try simp only [Sq,Sr,Sh,Si,Sl,Bu,Bb,Bd,Bc,Bw,Bn,Int.reduceAdd,Int.reduceSub,Int.reduceMul,Int.reduceTDiv,Int.reduceTMod,Int.reduceMod,Int.reduceDiv,Nat.reduceLT,Nat.reduceEqDiff,Sa,Sb,Sc,Sd,Se,Sf,Sg,Int.reduceLE,Int.reduceLT,Int.reduceToNat,Int.reduceNeg,Int.reduceEq,Nat.reduceLeDiff,Nat.reducePow,Int.reducePow,reduceIte,Nat.reduceSub,Nat.reduceAdd,Nat.reduceMul,putAt,ceq,List.replicate, *]))
      exact Round_p (i + 1, [_]) ⟨hlti, st2⟩ (by simp only; omega) rfl rfl
    · obtain rfl : i = P := by omega
      have f1 : ¬ (i : Int) < (i : Int) := by omega
      have f5 : IntKind.i64.wrap ((j : Int) + 1) = ((j + 1 : Nat) : Int) := by have := hg.yh; have := hg.vb; rw [Bw.1 _ (by omega) (by omega)]; omega
      have st2 : Keep (SSt w0 H F0 F2 tb (subB z.l b S W X Y i (j + 1)) zt) := st
      clear st
      subst eM2 eK2 eT2
      show run _ _ _ _ _ _ F2
      (all_goals (try simp only [Sq,Sr,Sh,Si,Sl,Bu,Bb,Bd,Bc,Bw,Bn,Int.reduceAdd,Int.reduceSub,Int.reduceMul,Int.reduceTDiv,Int.reduceTMod,Int.reduceMod,Int.reduceDiv,Nat.reduceLT,Nat.reduceEqDiff,Sa,Sb,Sc,Sd,Se,Sf,Sg,Int.reduceLE,Int.reduceLT,Int.reduceToNat,Int.reduceNeg,Int.reduceEq,Nat.reduceLeDiff,Nat.reducePow,Int.reducePow,reduceIte,Nat.reduceSub,Nat.reduceAdd,Nat.reduceMul,putAt,ceq,List.replicate, *])); repeat' ((first | (with_reducible refine fun _ : True => ?_) | (with_reducible refine any_h ?_) | ((first | refine AllocQ_i ?_ | refine AllocO_i ?_); intro bk hb0 hbk; (try simp only [set_none'] at hbk); (try (first | have hbn := Grow.none (by assumption) hbk | have hbn := Grow.none (by assumption) hbk.2 | have hbn := Grow.none (by assumption) hbk.2.2 | have hbn := Grow.none (by assumption) hbk.2.2.2 | have hbn := Grow.none (by assumption) hbk.2.2.2.2 | have hbn := Grow.none (by assumption) hbk.2.2.2.2.2)); (try simp only [set_none'] at hbn); (try (first | have hbm := Grow.none (by assumption) hbn | have hbm := Grow.none (by assumption) hbn.2 | have hbm := Grow.none (by assumption) hbn.2.2 | have hbm := Grow.none (by assumption) hbn.2.2.2 | have hbm := Grow.none (by assumption) hbn.2.2.2.2 | have hbm := Grow.none (by assumption) hbn.2.2.2.2.2)); (try simp only [set_none'] at hbm)) | ((first | refine condS_i ?_ ?_ | refine pick_i ?_ ?_ | refine gS_it ?_ ?_ | refine gS_if ?_ ?_ | refine gP_it ?_ ?_ | refine gP_if ?_ ?_) <;> (intro hc; try simp only [Int.reduceLE,Int.reduceLT,Int.reduceEq,Sn] at hc)) | (with_reducible refine KP_i ?_ ?_; · (repeat' (first | exact Heap.Le.refl _ | (with_reducible refine Le_set2 ?_) | (refine Le_known (by first | (simp only [Heap.set_same, set_ne, ne_eq, not_false_eq_true, *] <;> rfl) | fail) ?_) | (refine Le_fresh (by first | (simp only [*] <;> done) | (simp [set_none', Heap.set_same, set_ne, noneH, *] <;> done) | fail) ?_) | (refine Heap.Le.trans ?_ (Grow.le (by assumption))) | exact Le_none | (refine Le_put ?_ (by first | (simp only [Heap.set_same, set_ne, ne_eq, not_false_eq_true, *] <;> rfl) | fail)) | fail))) | (with_reducible refine And.intro ?_ ?_)) <;> (try simp only [Sq,Sr,Sh,Si,Sl,Bu,Bb,Bd,Bc,Bw,Bn,Int.reduceAdd,Int.reduceSub,Int.reduceMul,Int.reduceTDiv,Int.reduceTMod,Int.reduceMod,Int.reduceDiv,Nat.reduceLT,Nat.reduceEqDiff,Sa,Sb,Sc,Sd,Se,Sf,Sg,Int.reduceLE,Int.reduceLT,Int.reduceToNat,Int.reduceNeg,Int.reduceEq,Nat.reduceLeDiff,Nat.reducePow,Int.reducePow,reduceIte,Nat.reduceSub,Nat.reduceAdd,Nat.reduceMul,putAt,ceq,List.replicate, *]))
      exact Round_p (j + 1, [_, _]) ⟨hlt, st2⟩ (by simp only; omega) rfl rfl
  · obtain rfl : j = Q := by omega
    have f1 : ¬ (j : Int) < (j : Int) := by omega
    have m4 := st.k b4 _ e4 (Ne.symm t4)
    have m8 := st.k b8 _ e8 (Ne.symm t8)
    have mt := st.t
    have mk := st.k
    have gE1 := st.g
    have sbl : (subB z.l b S W X Y P j).length = z.l.length := (show ∀ i, _ → _ from hsbl) j (Nat.le_refl _)
    have ul' : u.l = z.l := ul
    have eu' : y.ls[k]? = some u := eu
    have hpos : 0 < z.l.length := hpos'
    have kyl := (List.getElem?_eq_some_iff.1 eu').1
    obtain ⟨u', eu2⟩ : ∃ u' : LvR, u' = ⟨u.w, u.h, u.a, u.cap, subB z.l b S W X Y P j⟩ := ⟨_, rfl⟩
    have urow : u'.row = u.row := by rw [eu2]; unfold LvR.row; simp only; rw [sbl, ul']
    have hset : (y.ls.set k u').map LvR.row = y.ls.map LvR.row := by
      rw [List.map_set, urow]
      apply List.ext_getElem?
      intro i
      rw [List.getElem?_set]
      split
      · rename_i e; subst e
        split
        · rw [List.getElem?_map, eu']; rfl
        · rename_i hh; rw [List.length_map] at hh; exact (hh kyl).elim
      · rfl
    have ylen' : y.ls.length = x.ls.length := ylen
    have hlen : (y.ls.set k u').length = x.ls.length := by rw [List.length_set, ylen']
    have tbl' : z.l.length + zt.length = u.cap := tbl
    have gZ : Grow w0 H (F.set b8 ⟨.t 24, [.int .i64 x.f, .slice (some ⟨yb, 0, none⟩) x.ls.length y.cap, .int .i64 x.s, .int .i64 x.t, .int .i64 x.mn, .int .i64 x.mg]⟩) := gE1.set s8 n8
    have mk8 : ∀ d w, F0 d = some w → d ≠ tb → d ≠ b8 → (F.set b8 ⟨.t 24, [.int .i64 x.f, .slice (some ⟨yb, 0, none⟩) x.ls.length y.cap, .int .i64 x.s, .int .i64 x.t, .int .i64 x.mn, .int .i64 x.mg]⟩) d = some w := fun d w hd h2 h3 => by rw [Heap.set_other _ _ h3]; exact mk d w hd h2
    have mt8 := (Heap.set_other F ⟨.t 24, [.int .i64 x.f, .slice (some ⟨yb, 0, none⟩) x.ls.length y.cap, .int .i64 x.s, .int .i64 x.t, .int .i64 x.mn, .int .i64 x.mg]⟩ t8).trans mt
    have fin := (show ∀ y H', SubOk x k z b S W X Y P j y → _ → _ → _ from h') ⟨x.f, some ⟨yb, 0, none⟩, y.cap, y.ls.set k u', x.s, x.t, x.mn, x.mg⟩ (F.set b8 ⟨.t 24, [.int .i64 x.f, .slice (some ⟨yb, 0, none⟩) x.ls.length y.cap, .int .i64 x.s, .int .i64 x.t, .int .i64 x.mn, .int .i64 x.mg]⟩)
      ⟨rfl, rfl, rfl, rfl, rfl, by
        show (y.ls.set k u').map LvR.core = _
        rw [List.map_set, show y.ls.map LvR.core = x.ls.map LvR.core from hEl, eu2]
        congr 1
        show (u.w, u.h, _) = _
        rw [show u.w = z.w from uw, show u.h = z.h from uh]⟩
      (by
        refine ⟨.inl ⟨yb, yc, rfl, yb0, hyb, ?_, ?_⟩, fun w hw => ?_, ?_, ?_, hxi.1, hxi.2.1, hxi.2.2.1, hxi.2.2.2.1, hxi.2.2.2.2⟩
        · rw [hset]; exact mk8 yb _ eyF ybt y8
        · rw [hset]; exact ycl
        · obtain ⟨i, hi⟩ := List.mem_iff_getElem?.1 hw
          have hi : (y.ls.set k u')[i]? = some w := hi
          rw [List.getElem?_set] at hi
          have ulv' : LvC w0 _ H' u := ulv
          split at hi
          · cases hi
            rw [eu2]
            have lm := ulv'.lm
            have lr := ulv'.lr
            rw [ul'] at lm lr
            exact ⟨.inl ⟨tb, zt, eua, tb0, htb, mt8, by rw [List.length_map, sbl, Nat.mul_one]; exact tbl'⟩, by show (subB z.l b S W X Y P j).length ≤ _; rw [sbl]; exact lm, by show (subB z.l b S W X Y P j).length ≤ _; rw [sbl]; exact lr, ulv'.w, ulv'.h, subB_by (fun v hv => by have := ulv'.by_ v (by rw [ul']; exact hv); exact this) hb.by_ S W X Y P j⟩
          · rename_i hne
            have hw2 := hC.lv w (List.mem_of_getElem? hi)
            refine ⟨?_, hw2.lm, hw2.lr, hw2.w, hw2.h, hw2.by_⟩
            rcases hw2.bld with ⟨c, zz, f1, c0, cn, cs, cl⟩ | q
            · simp only [set_none'] at cn
              by_cases e : c = tb
              · subst e
                have hnil : w.l = [] := by
                  have hup : ¬ u.l = [] := fun q => by rw [ul'] at q; rw [q] at hpos; simp at hpos
                  rcases Nat.lt_or_ge i k with q | q
                  · exact (hD i k w u c hi eu' q f1 eua).resolve_right hup
                  · exact (hD k i u w c eu' hi (by omega) eua f1).resolve_left hup
                rw [hnil] at cs cl ⊢
                simp only [List.map_nil, List.nil_append, List.length_nil, Nat.zero_add] at cs cl ⊢
                rw [tbs] at cs
                cases cs
                refine .inl ⟨c, (subB z.l b S W X Y P j).map (.int .u8) ++ zt, f1, c0, htb, mt8, ?_⟩
                rw [List.length_nil, Nat.zero_add, ← cl, List.length_append, List.length_append, List.length_map, List.length_map, sbl]
              · exact .inl ⟨c, zz, f1, c0, gG'.none cn.2.2.2, mk8 c _ (keepF c _ cs cn.2.2.1.1 cn.2.1.1 cn.1.1) e cn.1.1, cl⟩
            · exact .inr q
        · show (y.ls.set k u').length ≤ _; rw [List.length_set]; exact hC.lm
        · show (y.ls.set k u').length * 40 ≤ _; rw [List.length_set]; exact hC.lr) gZ
    unfold Im.v at fin
    simp only [hlen] at fin
    clear h'
    have d84 := Ne.symm d48
    clear hr6 hr13 r60 r61 r62
    subst eM eK eT
    show run _ _ _ _ _ _ F
    rw [root2 d48 m4 m8]
    (all_goals (try simp only [Sq,Sr,Sh,Si,Sl,Bu,Bb,Bd,Bc,Bw,Bn,Int.reduceAdd,Int.reduceSub,Int.reduceMul,Int.reduceTDiv,Int.reduceTMod,Int.reduceMod,Int.reduceDiv,Nat.reduceLT,Nat.reduceEqDiff,Sa,Sb,Sc,Sd,Se,Sf,Sg,Int.reduceLE,Int.reduceLT,Int.reduceToNat,Int.reduceNeg,Int.reduceEq,Nat.reduceLeDiff,Nat.reducePow,Int.reducePow,reduceIte,Nat.reduceSub,Nat.reduceAdd,Nat.reduceMul,putAt,ceq,List.replicate, *])); repeat' ((first | (with_reducible refine fun _ : True => ?_) | (with_reducible refine any_h ?_) | ((first | refine AllocQ_i ?_ | refine AllocO_i ?_); intro bk hb0 hbk; (try simp only [set_none'] at hbk); (try (first | have hbn := Grow.none (by assumption) hbk | have hbn := Grow.none (by assumption) hbk.2 | have hbn := Grow.none (by assumption) hbk.2.2 | have hbn := Grow.none (by assumption) hbk.2.2.2 | have hbn := Grow.none (by assumption) hbk.2.2.2.2 | have hbn := Grow.none (by assumption) hbk.2.2.2.2.2)); (try simp only [set_none'] at hbn); (try (first | have hbm := Grow.none (by assumption) hbn | have hbm := Grow.none (by assumption) hbn.2 | have hbm := Grow.none (by assumption) hbn.2.2 | have hbm := Grow.none (by assumption) hbn.2.2.2 | have hbm := Grow.none (by assumption) hbn.2.2.2.2 | have hbm := Grow.none (by assumption) hbn.2.2.2.2.2)); (try simp only [set_none'] at hbm)) | ((first | refine condS_i ?_ ?_ | refine pick_i ?_ ?_ | refine gS_it ?_ ?_ | refine gS_if ?_ ?_ | refine gP_it ?_ ?_ | refine gP_if ?_ ?_) <;> (intro hc; try simp only [Int.reduceLE,Int.reduceLT,Int.reduceEq,Sn] at hc)) | (with_reducible refine KP_i ?_ ?_; · (repeat' (first | exact Heap.Le.refl _ | (with_reducible refine Le_set2 ?_) | (refine Le_known (by first | (simp only [Heap.set_same, set_ne, ne_eq, not_false_eq_true, *] <;> rfl) | fail) ?_) | (refine Le_fresh (by first | (simp only [*] <;> done) | (simp [set_none', Heap.set_same, set_ne, noneH, *] <;> done) | fail) ?_) | (refine Heap.Le.trans ?_ (Grow.le (by assumption))) | exact Le_none | (refine Le_put ?_ (by first | (simp only [Heap.set_same, set_ne, ne_eq, not_false_eq_true, *] <;> rfl) | fail)) | fail))) | (with_reducible refine And.intro ?_ ?_)) <;> (try simp only [Sq,Sr,Sh,Si,Sl,Bu,Bb,Bd,Bc,Bw,Bn,Int.reduceAdd,Int.reduceSub,Int.reduceMul,Int.reduceTDiv,Int.reduceTMod,Int.reduceMod,Int.reduceDiv,Nat.reduceLT,Nat.reduceEqDiff,Sa,Sb,Sc,Sd,Se,Sf,Sg,Int.reduceLE,Int.reduceLT,Int.reduceToNat,Int.reduceNeg,Int.reduceEq,Nat.reduceLeDiff,Nat.reducePow,Int.reducePow,reduceIte,Nat.reduceSub,Nat.reduceAdd,Nat.reduceMul,putAt,ceq,List.replicate, *]))
    exact Fin_mk (by (repeat' (first | exact Heap.Le.refl _ | (with_reducible refine Le_set2 ?_) | (refine Le_known (by first | (simp only [Heap.set_same, set_ne, ne_eq, not_false_eq_true, *] <;> rfl) | fail) ?_) | (refine Le_fresh (by first | (simp only [*] <;> done) | (simp [set_none', Heap.set_same, set_ne, noneH, *] <;> done) | fail) ?_) | (refine Heap.Le.trans ?_ (Grow.le (by assumption))) | exact Le_none | (refine Le_put ?_ (by first | (simp only [Heap.set_same, set_ne, ne_eq, not_false_eq_true, *] <;> rfl) | fail)) | fail))) fin
end Go.Proofs.Ytdaipgnhconfnaa
