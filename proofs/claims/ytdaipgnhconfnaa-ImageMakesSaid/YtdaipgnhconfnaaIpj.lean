/- Levels are made, by the reference (layer 8). -/
import Derived.Test.YtdaipgnhconfnaaIpi
set_option linter.unusedSimpArgs false
set_option linter.unusedVariables false
set_option maxRecDepth 100000
set_option maxHeartbeats 4000000
namespace Go.Proofs.Ytdaipgnhconfnaa
open Go Go.HL Go.RowKit Pb
variable {w0 : World} {H G : Heap} {K : Value → Heap → Prop}

theorem r_Gen_ok (x : Im) (hx : ImOk w0 H x) (z : LvR) (hr : x.right) (ez : x.ls[0]? = some z) (hn : ¬ z.nil) (pw : powP z.w) (ph : powP z.h) (h : ∀ y H', GenOk x y → ImC w0 H H' y → Grow w0 H H' → K (.tuple #[y.v, .int .i64 0]) H') :
    HCalls Try.prog w0 16 [x.v] H K := by
  have cC : ∀ (G : Heap) (K : Value → Heap → Prop), Grow w0 H G → K (.bool true) G → HCalls Try.prog w0 29 [x.v] G K := fun G K g hk => r_Right8 x (hx.grow g) (by rw [decide_eq_true hr]; exact hk)
  have cT : ∀ (G : Heap) (K : Value → Heap → Prop), Grow w0 H G → K (.bool true) G → HCalls Try.prog w0 43 [x.v, .int .i64 0] G K := fun G K g hk => r_there0 x (hx.grow g) (fun _ => hk) (fun q => (q ⟨z, ez, hn⟩).elim)
  have hp := (List.getElem?_eq_some_iff.1 ez).1
  have e1 : (0 : Int) < (x.ls.length : Int) := by omega
  obtain ⟨b, o, ea, hrd, hf⟩ := first_at hx ez
  obtain ⟨r0, -⟩ := rd1_of_rdn (i := 0) hrd (by decide)
  obtain ⟨r1, -⟩ := rd1_of_rdn (i := 1) hrd (by decide)
  simp only [Nat.add_zero, List.getElem?_cons_zero, List.getElem?_cons_succ] at r0 r1
  obtain ⟨s1, s2, s3⟩ := first_side hr ez hn
  have hsz : sizeI x.f ≠ 0 := (hr.2.2.1 _ (List.getElem?_eq_getElem (by omega))).1
  have c1 : ∀ (G : Heap) (K : Value → Heap → Prop), K (.bool true) G → HCalls Try.prog w0 44 [.int .i64 z.w] G K := fun G K hk => r_power _ s1 (fun _ => hk) (fun q => (q pw).elim)
  have c2 : ∀ (G : Heap) (K : Value → Heap → Prop), K (.bool true) G → HCalls Try.prog w0 44 [.int .i64 z.h] G K := fun G K hk => r_power _ s2 (fun _ => hk) (fun q => (q ph).elim)
  have cS := fun (G : Heap) (K : Value → Heap → Prop) => r_Size8 (w0 := w0) (H := G) (K := K) x.f
  have cK : ∀ (G : Heap) (K : Value → Heap → Prop), Grow w0 H G → (∀ y H', Im.Eqv x y → ImC w0 G H' y → Grow w0 G H' → K y.v H') → HCalls Try.prog w0 14 [x.v] G K := fun G K g hk => r_Copy x (hx.grow g) hk
  have hxf := hx.f
  have lgz : LvG x.f z.core := ⟨pw, ph, s3⟩
  have hxs : I64 x.s ∧ I64 x.t ∧ I64 x.mn ∧ I64 x.mg := ⟨hx.s, hx.t, hx.mn, hx.mg⟩
  have h' : Keep _ := h
  have ez' : Keep _ := ez
  have hsz' : Keep _ := hsz
  clear hr hn hx h ez hsz s1 s2 s3 hrd
  unfold Im.v at cC cT cK ⊢
  rw [ea] at cC cT cK ⊢
  refine HL.hc k16 999 ?_; unfold M16
  (all_goals (try simp only [Sq,Sr,Sh,Si,Sl,Bu,Bb,Bd,Bc,Bw,Bn,Int.reduceAdd,Int.reduceSub,Int.reduceMul,Int.reduceTDiv,Int.reduceTMod,Int.reduceMod,Int.reduceDiv,Nat.reduceLT,Nat.reduceEqDiff,Sa,Sb,Sc,Sd,Se,Sf,Sg,Int.reduceLE,Int.reduceLT,Int.reduceToNat,Int.reduceNeg,Int.reduceEq,Nat.reduceLeDiff,Nat.reducePow,Int.reducePow,reduceIte,Nat.reduceSub,Nat.reduceAdd,Nat.reduceMul,putAt,ceq,List.replicate, *])); repeat' ((first | (with_reducible refine fun _ : True => ?_) | refine cC _ _ (by (repeat' (first | exact Grow.refl _ | assumption | (refine Grow_known (by first | (simp only [Heap.set_same, set_ne, ne_eq, not_false_eq_true, *] <;> rfl) | fail) ?_) | (refine Grow.set ?_ (by assumption) (by first | (simp only [*] <;> done) | (simp [set_none', Heap.set_same, set_ne, noneH, *] <;> done) | fail)) | (refine Grow.trans ?_ (by assumption))))) ?_ | refine cT _ _ (by (repeat' (first | exact Grow.refl _ | assumption | (refine Grow_known (by first | (simp only [Heap.set_same, set_ne, ne_eq, not_false_eq_true, *] <;> rfl) | fail) ?_) | (refine Grow.set ?_ (by assumption) (by first | (simp only [*] <;> done) | (simp [set_none', Heap.set_same, set_ne, noneH, *] <;> done) | fail)) | (refine Grow.trans ?_ (by assumption))))) ?_ | refine c1 _ _ ?_ | refine c2 _ _ ?_ | refine cK _ _ (by (repeat' (first | exact Grow.refl _ | assumption | (refine Grow_known (by first | (simp only [Heap.set_same, set_ne, ne_eq, not_false_eq_true, *] <;> rfl) | fail) ?_) | (refine Grow.set ?_ (by assumption) (by first | (simp only [*] <;> done) | (simp [set_none', Heap.set_same, set_ne, noneH, *] <;> done) | fail)) | (refine Grow.trans ?_ (by assumption))))) (fun y H' hE hC hg => ?_)  | (with_reducible refine any_h ?_) | ((first | refine AllocQ_i ?_ | refine AllocO_i ?_); intro bk hb0 hbk; (try simp only [set_none'] at hbk); (try (first | have hbn := Grow.none (by assumption) hbk | have hbn := Grow.none (by assumption) hbk.2 | have hbn := Grow.none (by assumption) hbk.2.2 | have hbn := Grow.none (by assumption) hbk.2.2.2 | have hbn := Grow.none (by assumption) hbk.2.2.2.2 | have hbn := Grow.none (by assumption) hbk.2.2.2.2.2)); (try simp only [set_none'] at hbn); (try (first | have hbm := Grow.none (by assumption) hbn | have hbm := Grow.none (by assumption) hbn.2 | have hbm := Grow.none (by assumption) hbn.2.2 | have hbm := Grow.none (by assumption) hbn.2.2.2 | have hbm := Grow.none (by assumption) hbn.2.2.2.2 | have hbm := Grow.none (by assumption) hbn.2.2.2.2.2)); (try simp only [set_none'] at hbm)) | ((first | refine condS_i ?_ ?_ | refine pick_i ?_ ?_ | refine gS_it ?_ ?_ | refine gS_if ?_ ?_ | refine gP_it ?_ ?_ | refine gP_if ?_ ?_) <;> (intro hc; try simp only [Int.reduceLE,Int.reduceLT,Int.reduceEq,Sn] at hc)) | (with_reducible refine KP_i ?_ ?_; · (repeat' (first | exact Heap.Le.refl _ | (with_reducible refine Le_set2 ?_) | (refine Le_known (by first | (simp only [Heap.set_same, set_ne, ne_eq, not_false_eq_true, *] <;> rfl) | fail) ?_) | (refine Le_fresh (by first | (simp only [*] <;> done) | (simp [set_none', Heap.set_same, set_ne, noneH, *] <;> done) | fail) ?_) | (refine Heap.Le.trans ?_ (Grow.le (by assumption))) | exact Le_none | (refine Le_put ?_ (by first | (simp only [Heap.set_same, set_ne, ne_eq, not_false_eq_true, *] <;> rfl) | fail)) | fail))) | (with_reducible refine And.intro ?_ ?_)) <;> (try simp only [Sq,Sr,Sh,Si,Sl,Bu,Bb,Bd,Bc,Bw,Bn,Int.reduceAdd,Int.reduceSub,Int.reduceMul,Int.reduceTDiv,Int.reduceTMod,Int.reduceMod,Int.reduceDiv,Nat.reduceLT,Nat.reduceEqDiff,Sa,Sb,Sc,Sd,Se,Sf,Sg,Int.reduceLE,Int.reduceLT,Int.reduceToNat,Int.reduceNeg,Int.reduceEq,Nat.reduceLeDiff,Nat.reducePow,Int.reducePow,reduceIte,Nat.reduceSub,Nat.reduceAdd,Nat.reduceMul,putAt,ceq,List.replicate, *]))
  rename_i b1 t1 n1
  obtain ⟨b2, rfl⟩ : ∃ b2, b2 = bk := ⟨_, rfl⟩
  have t2 : w0.heap.size ≤ b2 := hb0
  have d12 : b1 ≠ b2 := hbk.1.2
  have m2 : H b2 = none := hbk.2
  have gH' : Grow w0 H H' := Grow.trans (by (repeat' (first | exact Grow.refl _ | assumption | (refine Grow_known (by first | (simp only [Heap.set_same, set_ne, ne_eq, not_false_eq_true, *] <;> rfl) | fail) ?_) | (refine Grow.set ?_ (by assumption) (by first | (simp only [*] <;> done) | (simp [set_none', Heap.set_same, set_ne, noneH, *] <;> done) | fail)) | (refine Grow.trans ?_ (by assumption))))) hg
  have q1 := hg.some (b := b1) (by simp only [Heap.set_same, set_ne, ne_eq, not_false_eq_true, *] <;> rfl)
  have q2 := hg.some (b := b2) (by simp only [Heap.set_same, set_ne, ne_eq, not_false_eq_true, *] <;> rfl)
  obtain ⟨y0, ey0⟩ : ∃ y0, y.ls[0]? = some y0 := ⟨_, List.getElem?_eq_getElem (by rw [hE.len]; exact hp)⟩
  obtain ⟨rest, ey⟩ : ∃ rest, y.ls = y0 :: rest := by
    cases hyl : y.ls with
    | nil => rw [hyl] at ey0; simp at ey0
    | cons u v => rw [hyl] at ey0; simp at ey0; subst ey0; exact ⟨v, rfl⟩
  have ec0 : y0.core = z.core := by
    obtain ⟨z1, a1, a2⟩ := core_get hE ey0
    rw [show x.ls[0]? = some z from ez'] at a1
    cases a1
    exact a2.symm
  have ycap : (1 : Int) ≤ (y.cap : Int) := by have := hC.ok.lc; rw [ey] at this; simp only [List.length_cons] at this; omega
  have hB1 := hC.bld
  rw [ey, show ((y0 :: rest).map LvR.row).flatten = y0.row ++ (rest.map LvR.row).flatten from rfl] at hB1
  have lv0 := hC.lv y0 (List.mem_of_getElem? ey0)
  have hy0 := lv0.ok
  obtain ⟨yb, zz, eya, yb0, ybn, ybs, ybl⟩ : ∃ yb zz, y.a = some ⟨yb, 0, none⟩ ∧ w0.heap.size ≤ yb ∧ ((H.set b1 ⟨.t 24, [.int .i64 x.f, .slice (some ⟨b, o, none⟩) x.ls.length x.cap, .int .i64 x.s, .int .i64 x.t, .int .i64 x.mn, .int .i64 x.mg]⟩).set b2 ⟨.t 24, [.int .i64 0, .slice none 0 0, .int .i64 0, .int .i64 0, .int .i64 0, .int .i64 0]⟩) yb = none ∧ H' yb = some ⟨.t 38, (y0.row ++ (rest.map LvR.row).flatten) ++ zz⟩ ∧ ((y0.row ++ (rest.map LvR.row).flatten)).length + zz.length = y.cap * 3 := by
    rcases hB1 with ⟨c, zz, e, a1, a2, a3, a4⟩ | ⟨-, e⟩
    · exact ⟨c, zz, e, a1, a2, a3, a4⟩
    · simp [LvR.row] at e
  have y2 : yb ≠ b2 := fun e => by subst e; rw [Heap.set_same] at ybn; cases ybn
  rw [Heap.set_other _ _ y2] at ybn
  have y1 : yb ≠ b1 := fun e => by subst e; rw [Heap.set_same] at ybn; cases ybn
  rw [Heap.set_other _ _ y1] at ybn
  have y3 : b1 ≠ yb := Ne.symm y1
  have y4 : b2 ≠ yb := Ne.symm y2
  have hrd : rdn w0 H' yb 0 3 = some [.int .i64 y0.w, .int .i64 y0.h, .slice y0.a y0.l.length y0.cap] := by
    unfold rdn
    rw [ybs]
    simp [LvR.row]
  have ef := hE.f
  have es := hE.s
  have et := hE.t
  have em := hE.mn
  have eg := hE.mg
  have lx0 : ∀ H5 : Heap, H5 yb = none → LvC w0 H5 H' y0 → LX w0 H5 H' y.a y.cap [y0] := fun H5 hn hl => ⟨.inl ⟨yb, (rest.map LvR.row).flatten ++ zz, eya, yb0, hn, by rw [ybs]; simp, by rw [← ybl]; simp; omega⟩, fun q hq => by simp at hq; subst hq; exact hl⟩
  have lv1 : ∀ (d : Nat) (w : Blk), H' d = none → LvC w0 (H.set d w) H' y0 := fun d w hd => by
    rcases lv0.bld with ⟨c, z5, e, a1, a2, a3, a4⟩ | h'
    · refine ⟨.inl ⟨c, z5, e, a1, ?_, a3, a4⟩, lv0.lm, lv0.lr, lv0.w, lv0.h, lv0.by_⟩
      have c2 : c ≠ b2 := fun e => by subst e; rw [Heap.set_same] at a2; cases a2
      rw [Heap.set_other _ _ c2] at a2
      have c1 : c ≠ b1 := fun e => by subst e; rw [Heap.set_same] at a2; cases a2
      rw [Heap.set_other _ _ c1] at a2
      have c5 : c ≠ d := fun e => by subst e; rw [a3] at hd; cases hd
      rw [Heap.set_other _ _ c5]
      exact a2
    · exact ⟨.inr h', lv0.lm, lv0.lr, lv0.w, lv0.h, lv0.by_⟩
  rw [up2 hg (by simp only [Heap.set_same, set_ne, ne_eq, not_false_eq_true, *] <;> rfl)]
  rw [ef, es, et, em, eg, eya]
  obtain ⟨YL, eYL⟩ : ∃ YL, y.ls.length = YL := ⟨_, rfl⟩
  rw [eYL]
  obtain ⟨S, hSz⟩ : ∃ S : Nat, sizeI x.f = (S : Int) := ⟨_, (size_nat (show sizeI x.f ≠ 0 from hsz')).1⟩
  have hS4 : Keep (1 ≤ S ∧ S ≤ 4) := by
    have := (size_nat (show sizeI x.f ≠ 0 from hsz')).2
    rw [hSz, Int.toNat_natCast] at this
    exact this
  rw [hSz] at cS
  clear hg cC cT c1 c2 cK r0 r1 hf hE hC hB1 ey0 hb0
  (all_goals (try simp only [Sq,Sr,Sh,Si,Sl,Bu,Bb,Bd,Bc,Bw,Bn,Int.reduceAdd,Int.reduceSub,Int.reduceMul,Int.reduceTDiv,Int.reduceTMod,Int.reduceMod,Int.reduceDiv,Nat.reduceLT,Nat.reduceEqDiff,Sa,Sb,Sc,Sd,Se,Sf,Sg,Int.reduceLE,Int.reduceLT,Int.reduceToNat,Int.reduceNeg,Int.reduceEq,Nat.reduceLeDiff,Nat.reducePow,Int.reducePow,reduceIte,Nat.reduceSub,Nat.reduceAdd,Nat.reduceMul,putAt,ceq,List.replicate, *])); repeat' ((first | (with_reducible refine fun _ : True => ?_) | refine cS _ _ ?_ | (with_reducible refine any_h ?_) | ((first | refine AllocQ_i ?_ | refine AllocO_i ?_); intro bk hb0 hbk; (try simp only [set_none'] at hbk); (try (first | have hbn := Grow.none (by assumption) hbk | have hbn := Grow.none (by assumption) hbk.2 | have hbn := Grow.none (by assumption) hbk.2.2 | have hbn := Grow.none (by assumption) hbk.2.2.2 | have hbn := Grow.none (by assumption) hbk.2.2.2.2 | have hbn := Grow.none (by assumption) hbk.2.2.2.2.2)); (try simp only [set_none'] at hbn); (try (first | have hbm := Grow.none (by assumption) hbn | have hbm := Grow.none (by assumption) hbn.2 | have hbm := Grow.none (by assumption) hbn.2.2 | have hbm := Grow.none (by assumption) hbn.2.2.2 | have hbm := Grow.none (by assumption) hbn.2.2.2.2 | have hbm := Grow.none (by assumption) hbn.2.2.2.2.2)); (try simp only [set_none'] at hbm)) | ((first | refine condS_i ?_ ?_ | refine pick_i ?_ ?_ | refine gS_it ?_ ?_ | refine gS_if ?_ ?_ | refine gP_it ?_ ?_ | refine gP_if ?_ ?_) <;> (intro hc; try simp only [Int.reduceLE,Int.reduceLT,Int.reduceEq,Sn] at hc)) | (with_reducible refine KP_i ?_ ?_; · (repeat' (first | exact Heap.Le.refl _ | (with_reducible refine Le_set2 ?_) | (refine Le_known (by first | (simp only [Heap.set_same, set_ne, ne_eq, not_false_eq_true, *] <;> rfl) | fail) ?_) | (refine Le_fresh (by first | (simp only [*] <;> done) | (simp [set_none', Heap.set_same, set_ne, noneH, *] <;> done) | fail) ?_) | (refine Heap.Le.trans ?_ (Grow.le (by assumption))) | exact Le_none | (refine Le_put ?_ (by first | (simp only [Heap.set_same, set_ne, ne_eq, not_false_eq_true, *] <;> rfl) | fail)) | fail))) | (with_reducible refine And.intro ?_ ?_)) <;> (try simp only [Sq,Sr,Sh,Si,Sl,Bu,Bb,Bd,Bc,Bw,Bn,Int.reduceAdd,Int.reduceSub,Int.reduceMul,Int.reduceTDiv,Int.reduceTMod,Int.reduceMod,Int.reduceDiv,Nat.reduceLT,Nat.reduceEqDiff,Sa,Sb,Sc,Sd,Se,Sf,Sg,Int.reduceLE,Int.reduceLT,Int.reduceToNat,Int.reduceNeg,Int.reduceEq,Nat.reduceLeDiff,Nat.reducePow,Int.reducePow,reduceIte,Nat.reduceSub,Nat.reduceAdd,Nat.reduceMul,putAt,ceq,List.replicate, *]))
  obtain ⟨b5, rfl⟩ : ∃ b5, b5 = bk := ⟨_, rfl⟩
  obtain ⟨C, eCz⟩ : ∃ C, genL x.f 6 z.core = C := ⟨_, rfl⟩
  replace eCz : Keep _ := eCz
  refine loopq_heap fun G0 eG => ?_
  have b5n : H' b5 = none := hbk.2.2
  have n5 : H b5 = none := gH'.none b5n
  have d15 : b1 ≠ b5 := hbk.2.1.2
  have d25 : b2 ≠ b5 := hbk.1.2
  have yb5 : yb ≠ b5 := fun e => by subst e; rw [b5n] at ybs; cases ybs
  have st0 : RSt w0 H G0 b1 b2 b5 x C 6 [] y0 y0 (some ⟨yb, 0, none⟩) y.cap := by
    have eG' : G0 = (H'.set b1 ⟨.t 24, [.int .i64 x.f, .slice (some ⟨yb, 0, none⟩) 1 y.cap, .int .i64 x.s, .int .i64 x.t, .int .i64 x.mn, .int .i64 x.mg]⟩).set b5 ⟨.t 38, [.int .i64 y0.w, .int .i64 y0.h, .slice y0.a y0.l.length y0.cap]⟩ := by
      rw [eG, Heap.set_id (H'.set b1 _) b2 _ ((Heap.set_other _ _ (Ne.symm d12)).trans q2)]
    have lx5 := ((lx0 (H.set b5 ⟨.t 38, [.int .i64 0, .int .i64 0, .slice none 0 0]⟩) (by rw [Heap.set_other _ _ yb5]; exact ybn) (lv1 b5 _ b5n)).turn (z := ⟨.t 24, [.int .i64 x.f, .slice (some ⟨yb, 0, none⟩) 1 y.cap, .int .i64 x.s, .int .i64 x.t, .int .i64 x.mn, .int .i64 x.mg]⟩) q1).other (b := b5) (z := ⟨.t 38, [.int .i64 y0.w, .int .i64 y0.h, .slice y0.a y0.l.length y0.cap]⟩) (by rw [Heap.set_same]; simp)
    rw [← eG', eya] at lx5
    have lgy : LvG x.f y0.core := by rw [ec0]; exact lgz
    have wy : y0.w = z.w := congrArg Prod.fst ec0
    have hy : y0.h = z.h := congrArg (fun q : Core => q.2.1) ec0
    refine ⟨by rw [eG', Heap.set_other _ _ d15, Heap.set_same]; rfl, by rw [eG', Heap.set_other _ _ d25, Heap.set_other _ _ (Ne.symm d12)]; exact q2, by rw [eG', Heap.set_same], hb0, n5, d15, d25, lx5, by rw [eG']; exact (gH'.set t1 n1).set hb0 n5, (lx5.lv y0 (by simp)).ok, rfl, lgy, ?_, ?_, by rw [ec0]; exact (show genL x.f 6 z.core = C from eCz).symm, Nat.le_refl _⟩
    · have := pow_b pw; rw [wy]; exact this.2
    · have := pow_b ph; rw [hy]; exact this.2
  clear eG q1 q2 lx0 lv1 ey ec0 ef es et em eg lgz ybs ybn ybl yb0 eya hrd y1 y2 y3 y4 yb5 hbk d15 d25 lv0 hy0 b5n n5
  refine loopq_name (fun code kont T eM eK eT => ?_)
  refine loop_a 54 (fun a : Nat × Nat × List LvR × LvR × LvR × Option Addr × Nat × List Value => [(5, .pointer (some ⟨a.2.1, 0, none⟩)), (6, a.2.2.2.2.2.2.2.getD 0 undef), (7, a.2.2.2.2.2.2.2.getD 1 undef), (8, a.2.2.2.2.2.2.2.getD 2 undef), (9, a.2.2.2.2.2.2.2.getD 3 undef), (10, a.2.2.2.2.2.2.2.getD 4 undef), (11, a.2.2.2.2.2.2.2.getD 5 undef), (12, a.2.2.2.2.2.2.2.getD 6 undef)]) (fun s F => RSt w0 H F b1 b2 s.2.1 x C s.1 s.2.2.1 s.2.2.2.1 s.2.2.2.2.1 s.2.2.2.2.2.1 s.2.2.2.2.2.2.1) (fun s => s.1) (6, b5, [], y0, y0, some ⟨yb, 0, none⟩, y.cap, []) st0 (by subst eT; rfl) ?_
  clear st0
  intro ⟨n, b5, pre, last, cur, a, cap, us⟩ F U st
  simp only at st
  have hw := pow_b st.lg.w
  have hh := pow_b st.lg.h
  have hw : 1 ≤ cur.w ∧ cur.w ≤ 64 := hw
  have hh : 1 ≤ cur.h ∧ cur.h ≤ 64 := hh
  have k1 := st.k1
  have k2 := st.k2
  have k5 := st.k5
  have r50 : rd1 w0 F b5 0 = some (.int .i64 cur.w) := by unfold rd1; rw [k5]; rfl
  have r51 : rd1 w0 F b5 1 = some (.int .i64 cur.h) := by unfold rd1; rw [k5]; rfl
  by_cases one : cur.w = 1 ∧ cur.h = 1
  · have hC := st.eC
    rw [genL_end x.f n (c := cur.core) one] at hC
    have pl := st.pl
    have len : (pre ++ [last]).length = pre.length + 1 := by simp
    have fin := (show ∀ y H', GenOk x y → _ → _ → _ from h') ⟨x.f, a, cap, pre ++ [last], x.s, x.t, x.mn, x.mg⟩ (F.set b2 ⟨.t 24, [.int .i64 x.f, .slice a (pre.length + 1) cap, .int .i64 x.s, .int .i64 x.t, .int .i64 x.mn, .int .i64 x.mg]⟩)
      ⟨rfl, rfl, rfl, rfl, rfl, z, ez', by rw [show genL x.f 6 z.core = C from eCz, hC, List.map_append, ← st.co]; rfl⟩
      (by
        have lx := (st.lx.turn (z := ⟨.t 24, [.int .i64 x.f, .slice a (pre.length + 1) cap, .int .i64 x.s, .int .i64 x.t, .int .i64 x.mn, .int .i64 x.mg]⟩) st.k2).rx (H := H) (fun c hc => by
          have c5 : c ≠ b5 := fun e => by subst e; rw [Heap.set_same] at hc; cases hc
          rw [Heap.set_other _ _ c5] at hc; exact hc)
        exact ⟨lx.bld, lx.lv, by rw [len]; unfold maxLen; omega, by rw [len]; omega, hxf, hxs.1, hxs.2.1, hxs.2.2.1, hxs.2.2.2⟩)
      (st.g.set t2 m2)
    unfold Im.v at fin
    simp only [len] at fin
    have o1 : ¬ 1 < cur.w := by omega
    have o2 : ¬ 1 < cur.h := by omega
    have d15 := st.d15
    have d25 := st.d25
    have d51 := Ne.symm d15
    have d52 := Ne.symm d25
    have d21 := Ne.symm d12
    clear st h' hC one hw hh r50 r51
    subst eM eK eT
    show run _ _ _ _ _ _ F
    rw [root3 k1 k2 k5]
    (all_goals (try simp only [Sq,Sr,Sh,Si,Sl,Bu,Bb,Bd,Bc,Bw,Bn,Int.reduceAdd,Int.reduceSub,Int.reduceMul,Int.reduceTDiv,Int.reduceTMod,Int.reduceMod,Int.reduceDiv,Nat.reduceLT,Nat.reduceEqDiff,Sa,Sb,Sc,Sd,Se,Sf,Sg,Int.reduceLE,Int.reduceLT,Int.reduceToNat,Int.reduceNeg,Int.reduceEq,Nat.reduceLeDiff,Nat.reducePow,Int.reducePow,reduceIte,Nat.reduceSub,Nat.reduceAdd,Nat.reduceMul,putAt,ceq,List.replicate, *])); repeat' ((first | (with_reducible refine fun _ : True => ?_) | (with_reducible refine any_h ?_) | ((first | refine AllocQ_i ?_ | refine AllocO_i ?_); intro bk hb0 hbk; (try simp only [set_none'] at hbk); (try (first | have hbn := Grow.none (by assumption) hbk | have hbn := Grow.none (by assumption) hbk.2 | have hbn := Grow.none (by assumption) hbk.2.2 | have hbn := Grow.none (by assumption) hbk.2.2.2 | have hbn := Grow.none (by assumption) hbk.2.2.2.2 | have hbn := Grow.none (by assumption) hbk.2.2.2.2.2)); (try simp only [set_none'] at hbn); (try (first | have hbm := Grow.none (by assumption) hbn | have hbm := Grow.none (by assumption) hbn.2 | have hbm := Grow.none (by assumption) hbn.2.2 | have hbm := Grow.none (by assumption) hbn.2.2.2 | have hbm := Grow.none (by assumption) hbn.2.2.2.2 | have hbm := Grow.none (by assumption) hbn.2.2.2.2.2)); (try simp only [set_none'] at hbm)) | ((first | refine condS_i ?_ ?_ | refine pick_i ?_ ?_ | refine gS_it ?_ ?_ | refine gS_if ?_ ?_ | refine gP_it ?_ ?_ | refine gP_if ?_ ?_) <;> (intro hc; try simp only [Int.reduceLE,Int.reduceLT,Int.reduceEq,Sn] at hc)) | (with_reducible refine KP_i ?_ ?_; · (repeat' (first | exact Heap.Le.refl _ | (with_reducible refine Le_set2 ?_) | (refine Le_known (by first | (simp only [Heap.set_same, set_ne, ne_eq, not_false_eq_true, *] <;> rfl) | fail) ?_) | (refine Le_fresh (by first | (simp only [*] <;> done) | (simp [set_none', Heap.set_same, set_ne, noneH, *] <;> done) | fail) ?_) | (refine Heap.Le.trans ?_ (Grow.le (by assumption))) | exact Le_none | (refine Le_put ?_ (by first | (simp only [Heap.set_same, set_ne, ne_eq, not_false_eq_true, *] <;> rfl) | fail)) | fail))) | (with_reducible refine And.intro ?_ ?_)) <;> (try simp only [Sq,Sr,Sh,Si,Sl,Bu,Bb,Bd,Bc,Bw,Bn,Int.reduceAdd,Int.reduceSub,Int.reduceMul,Int.reduceTDiv,Int.reduceTMod,Int.reduceMod,Int.reduceDiv,Nat.reduceLT,Nat.reduceEqDiff,Sa,Sb,Sc,Sd,Se,Sf,Sg,Int.reduceLE,Int.reduceLT,Int.reduceToNat,Int.reduceNeg,Int.reduceEq,Nat.reduceLeDiff,Nat.reducePow,Int.reducePow,reduceIte,Nat.reduceSub,Nat.reduceAdd,Nat.reduceMul,putAt,ceq,List.replicate, *]))
    exact Fin_mk (by (repeat' (first | exact Heap.Le.refl _ | (with_reducible refine Le_set2 ?_) | (refine Le_known (by first | (simp only [Heap.set_same, set_ne, ne_eq, not_false_eq_true, *] <;> rfl) | fail) ?_) | (refine Le_fresh (by first | (simp only [*] <;> done) | (simp [set_none', Heap.set_same, set_ne, noneH, *] <;> done) | fail) ?_) | (refine Heap.Le.trans ?_ (Grow.le (by assumption))) | exact Le_none | (refine Le_put ?_ (by first | (simp only [Heap.set_same, set_ne, ne_eq, not_false_eq_true, *] <;> rfl) | fail)) | fail))) fin
  · have hsz : sizeI x.f ≠ 0 := hsz'
    obtain ⟨m, rfl⟩ : ∃ m, n = m + 1 := by
      cases n with
      | zero =>
        have e1 := st.bw
        have e2 := st.bh
        rw [Int.pow_zero] at e1 e2
        exact (one ⟨by omega, by omega⟩).elim
      | succ m => exact ⟨m, rfl⟩
    have geo := geo_of hsz st.lg
    have enx : nxt x.f cur.core = (((wdO cur.w : Nat) : Int), ((wdO cur.h : Nat) : Int), outB cur.l x.f (sizeI x.f).toNat cur.w.toNat (cwO cur.w) (cwO cur.w * cwO cur.h) (wdO cur.w) (wdO cur.w * wdO cur.h)) := rfl
    rw [hSz, Int.toNat_natCast] at geo enx
    obtain ⟨W, V, cw, rh, wd, ht, g, enx⟩ : ∃ W V cw rh wd ht, Geo cur x.f S W V cw rh wd ht ∧ nxt x.f cur.core = (((wd : Nat) : Int), ((ht : Nat) : Int), outB cur.l x.f S W cw (cw * rh) wd (wd * ht)) := ⟨_, _, _, _, _, _, geo, enx⟩
    clear geo
    have w1 : IntKind.i64.wrap (cur.w.tdiv 2) = cur.w.tdiv 2 := Bw.1 _ (by rw [Int.tdiv_eq_ediv_of_nonneg (by omega)]; omega) (by rw [Int.tdiv_eq_ediv_of_nonneg (by omega)]; omega)
    have w2 : IntKind.i64.wrap (cur.h.tdiv 2) = cur.h.tdiv 2 := Bw.1 _ (by rw [Int.tdiv_eq_ediv_of_nonneg (by omega)]; omega) (by rw [Int.tdiv_eq_ediv_of_nonneg (by omega)]; omega)
    have mw : (if cur.w.tdiv 2 < 1 then (1 : Int) else cur.w.tdiv 2) = (wd : Nat) := by
      rw [g.w, Int.tdiv_eq_ediv_of_nonneg (by omega)]
      have := g.c
      split <;> omega
    have mh : (if cur.h.tdiv 2 < 1 then (1 : Int) else cur.h.tdiv 2) = (ht : Nat) := by
      rw [g.h, Int.tdiv_eq_ediv_of_nonneg (by omega)]
      have := g.r
      split <;> omega
    have ho : 1 < cur.w ∨ (¬ 1 < cur.w ∧ 1 < cur.h) := by omega
    have hwd : 1 ≤ wd ∧ wd ≤ 64 := by have := g.c; have := g.wb; omega
    have hht : 1 ≤ ht ∧ ht ≤ 64 := by have := g.r; have := g.vb; omega
    have g' : Keep _ := g
    have enx' : Keep _ := enx
    have cur0 := st.cu
    have st' : Keep _ := st
    have one' : Keep _ := one
    clear g enx st one hw hh
    subst eM eK eT
    show run _ _ _ _ _ _ F
    rcases ho with o1 | ⟨o1, o2⟩
    all_goals
      (all_goals (try simp only [Sq,Sr,Sh,Si,Sl,Bu,Bb,Bd,Bc,Bw,Bn,Int.reduceAdd,Int.reduceSub,Int.reduceMul,Int.reduceTDiv,Int.reduceTMod,Int.reduceMod,Int.reduceDiv,Nat.reduceLT,Nat.reduceEqDiff,Sa,Sb,Sc,Sd,Se,Sf,Sg,Int.reduceLE,Int.reduceLT,Int.reduceToNat,Int.reduceNeg,Int.reduceEq,Nat.reduceLeDiff,Nat.reducePow,Int.reducePow,reduceIte,Nat.reduceSub,Nat.reduceAdd,Nat.reduceMul,putAt,ceq,List.replicate, *])); repeat' ((first | (with_reducible refine fun _ : True => ?_) | (with_reducible refine any_h ?_) | ((first | refine AllocQ_i ?_ | refine AllocO_i ?_); intro bk hb0 hbk; (try simp only [set_none'] at hbk); (try (first | have hbn := Grow.none (by assumption) hbk | have hbn := Grow.none (by assumption) hbk.2 | have hbn := Grow.none (by assumption) hbk.2.2 | have hbn := Grow.none (by assumption) hbk.2.2.2 | have hbn := Grow.none (by assumption) hbk.2.2.2.2 | have hbn := Grow.none (by assumption) hbk.2.2.2.2.2)); (try simp only [set_none'] at hbn); (try (first | have hbm := Grow.none (by assumption) hbn | have hbm := Grow.none (by assumption) hbn.2 | have hbm := Grow.none (by assumption) hbn.2.2 | have hbm := Grow.none (by assumption) hbn.2.2.2 | have hbm := Grow.none (by assumption) hbn.2.2.2.2 | have hbm := Grow.none (by assumption) hbn.2.2.2.2.2)); (try simp only [set_none'] at hbm)) | ((first | refine condS_i ?_ ?_ | refine pick_i ?_ ?_ | refine gS_it ?_ ?_ | refine gS_if ?_ ?_ | refine gP_it ?_ ?_ | refine gP_if ?_ ?_) <;> (intro hc; try simp only [Int.reduceLE,Int.reduceLT,Int.reduceEq,Sn] at hc)) | (with_reducible refine KP_i ?_ ?_; · (repeat' (first | exact Heap.Le.refl _ | (with_reducible refine Le_set2 ?_) | (refine Le_known (by first | (simp only [Heap.set_same, set_ne, ne_eq, not_false_eq_true, *] <;> rfl) | fail) ?_) | (refine Le_fresh (by first | (simp only [*] <;> done) | (simp [set_none', Heap.set_same, set_ne, noneH, *] <;> done) | fail) ?_) | (refine Heap.Le.trans ?_ (Grow.le (by assumption))) | exact Le_none | (refine Le_put ?_ (by first | (simp only [Heap.set_same, set_ne, ne_eq, not_false_eq_true, *] <;> rfl) | fail)) | fail))) | (with_reducible refine And.intro ?_ ?_)) <;> (try simp only [Sq,Sr,Sh,Si,Sl,Bu,Bb,Bd,Bc,Bw,Bn,Int.reduceAdd,Int.reduceSub,Int.reduceMul,Int.reduceTDiv,Int.reduceTMod,Int.reduceMod,Int.reduceDiv,Nat.reduceLT,Nat.reduceEqDiff,Sa,Sb,Sc,Sd,Se,Sf,Sg,Int.reduceLE,Int.reduceLT,Int.reduceToNat,Int.reduceNeg,Int.reduceEq,Nat.reduceLeDiff,Nat.reducePow,Int.reducePow,reduceIte,Nat.reduceSub,Nat.reduceAdd,Nat.reduceMul,putAt,ceq,List.replicate, *]))
      clear w1 w2 mw mh r50 r51
      obtain ⟨b6, rfl⟩ : ∃ b6, b6 = bk := ⟨_, rfl⟩
      have s6 : w0.heap.size ≤ b6 := hb0
      have n6 : F b6 = none := by first | exact hbk | exact hbk.2
      refine loopq_heap fun G0 eG => ?_
      have st0 : RIn w0 F G0 b6 wd ht [] none 0 := by subst eG; exact ⟨Heap.set_same _ _ _, Bld.none, Grow.set (Grow.refl _) s6 n6⟩
      clear eG hb0 hbk
      refine loopq_name (fun code2 kont2 T2 eM2 eK2 eT2 => ?_)
      refine loop_a 82 (fun a : Nat × List Value => [(81, .int .i64 (a.1 : Nat)), (7, a.2.getD 0 undef), (8, a.2.getD 1 undef), (9, a.2.getD 2 undef), (10, a.2.getD 3 undef), (11, a.2.getD 4 undef), (12, a.2.getD 5 undef)])
        (fun s F1 => s.1 ≤ ht ∧ ∃ a c, RIn w0 F F1 b6 wd ht (outB cur.l x.f S W cw (cw * rh) wd (s.1 * wd)) a c) (fun s => ht - s.1) (0, [us.getD 1 undef, us.getD 2 undef, us.getD 3 undef, us.getD 4 undef, us.getD 5 undef, us.getD 6 undef]) ⟨Nat.zero_le _, none, 0, by rw [Nat.zero_mul]; exact st0⟩ (by subst eT2; rfl) ?_
      clear st0
      intro ⟨y, vs⟩ F1 U2 ⟨hy, a6, c6, st⟩
      simp only at hy st
      have r60 : rd1 w0 F1 b6 0 = some (.int .i64 (wd : Nat)) := by unfold rd1; rw [st.k6]; rfl
      rcases Nat.lt_or_ge y ht with hlt | hge
      · have t5 : (y : Int) < (ht : Int) := by omega
        subst eM2 eK2 eT2
        show run _ _ _ _ _ _ F1
        (all_goals (try simp only [Sq,Sr,Sh,Si,Sl,Bu,Bb,Bd,Bc,Bw,Bn,Int.reduceAdd,Int.reduceSub,Int.reduceMul,Int.reduceTDiv,Int.reduceTMod,Int.reduceMod,Int.reduceDiv,Nat.reduceLT,Nat.reduceEqDiff,Sa,Sb,Sc,Sd,Se,Sf,Sg,Int.reduceLE,Int.reduceLT,Int.reduceToNat,Int.reduceNeg,Int.reduceEq,Nat.reduceLeDiff,Nat.reducePow,Int.reducePow,reduceIte,Nat.reduceSub,Nat.reduceAdd,Nat.reduceMul,putAt,ceq,List.replicate, *])); repeat' ((first | (with_reducible refine fun _ : True => ?_) | (with_reducible refine any_h ?_) | ((first | refine AllocQ_i ?_ | refine AllocO_i ?_); intro bk hb0 hbk; (try simp only [set_none'] at hbk); (try (first | have hbn := Grow.none (by assumption) hbk | have hbn := Grow.none (by assumption) hbk.2 | have hbn := Grow.none (by assumption) hbk.2.2 | have hbn := Grow.none (by assumption) hbk.2.2.2 | have hbn := Grow.none (by assumption) hbk.2.2.2.2 | have hbn := Grow.none (by assumption) hbk.2.2.2.2.2)); (try simp only [set_none'] at hbn); (try (first | have hbm := Grow.none (by assumption) hbn | have hbm := Grow.none (by assumption) hbn.2 | have hbm := Grow.none (by assumption) hbn.2.2 | have hbm := Grow.none (by assumption) hbn.2.2.2 | have hbm := Grow.none (by assumption) hbn.2.2.2.2 | have hbm := Grow.none (by assumption) hbn.2.2.2.2.2)); (try simp only [set_none'] at hbm)) | ((first | refine condS_i ?_ ?_ | refine pick_i ?_ ?_ | refine gS_it ?_ ?_ | refine gS_if ?_ ?_ | refine gP_it ?_ ?_ | refine gP_if ?_ ?_) <;> (intro hc; try simp only [Int.reduceLE,Int.reduceLT,Int.reduceEq,Sn] at hc)) | (with_reducible refine KP_i ?_ ?_; · (repeat' (first | exact Heap.Le.refl _ | (with_reducible refine Le_set2 ?_) | (refine Le_known (by first | (simp only [Heap.set_same, set_ne, ne_eq, not_false_eq_true, *] <;> rfl) | fail) ?_) | (refine Le_fresh (by first | (simp only [*] <;> done) | (simp [set_none', Heap.set_same, set_ne, noneH, *] <;> done) | fail) ?_) | (refine Heap.Le.trans ?_ (Grow.le (by assumption))) | exact Le_none | (refine Le_put ?_ (by first | (simp only [Heap.set_same, set_ne, ne_eq, not_false_eq_true, *] <;> rfl) | fail)) | fail))) | (with_reducible refine And.intro ?_ ?_)) <;> (try simp only [Sq,Sr,Sh,Si,Sl,Bu,Bb,Bd,Bc,Bw,Bn,Int.reduceAdd,Int.reduceSub,Int.reduceMul,Int.reduceTDiv,Int.reduceTMod,Int.reduceMod,Int.reduceDiv,Nat.reduceLT,Nat.reduceEqDiff,Sa,Sb,Sc,Sd,Se,Sf,Sg,Int.reduceLE,Int.reduceLT,Int.reduceToNat,Int.reduceNeg,Int.reduceEq,Nat.reduceLeDiff,Nat.reducePow,Int.reducePow,reduceIte,Nat.reduceSub,Nat.reduceAdd,Nat.reduceMul,putAt,ceq,List.replicate, *]))
        clear r60 t5
        refine loopq_name (fun code3 kont3 T3 eM3 eK3 eT3 => ?_)
        refine loop_a 87 (fun a : Nat × List Value => [(86, .int .i64 (a.1 : Nat)), (8, a.2.getD 0 undef), (9, a.2.getD 1 undef), (10, a.2.getD 2 undef), (11, a.2.getD 3 undef), (12, a.2.getD 4 undef)])
          (fun s F1 => s.1 ≤ wd ∧ ∃ a c, RIn w0 F F1 b6 wd ht (outB cur.l x.f S W cw (cw * rh) wd (y * wd + s.1)) a c) (fun s => wd - s.1) (0, [vs.getD 1 undef, vs.getD 2 undef, vs.getD 3 undef, vs.getD 4 undef, vs.getD 5 undef]) ⟨Nat.zero_le _, a6, c6, st⟩ (by subst eT3; rfl) ?_
        clear st a6 c6
        intro ⟨xx, ws⟩ F2 U3 ⟨hx, a6, c6, st⟩
        simp only at hx st
        rcases Nat.lt_or_ge xx wd with hltx | hgex
        · have t5 : (xx : Int) < (wd : Int) := by omega
          subst eM3 eK3 eT3
          show run _ _ _ _ _ _ F2
          (all_goals (try simp only [Sq,Sr,Sh,Si,Sl,Bu,Bb,Bd,Bc,Bw,Bn,Int.reduceAdd,Int.reduceSub,Int.reduceMul,Int.reduceTDiv,Int.reduceTMod,Int.reduceMod,Int.reduceDiv,Nat.reduceLT,Nat.reduceEqDiff,Sa,Sb,Sc,Sd,Se,Sf,Sg,Int.reduceLE,Int.reduceLT,Int.reduceToNat,Int.reduceNeg,Int.reduceEq,Nat.reduceLeDiff,Nat.reducePow,Int.reducePow,reduceIte,Nat.reduceSub,Nat.reduceAdd,Nat.reduceMul,putAt,ceq,List.replicate, *])); repeat' ((first | (with_reducible refine fun _ : True => ?_) | (with_reducible refine any_h ?_) | ((first | refine AllocQ_i ?_ | refine AllocO_i ?_); intro bk hb0 hbk; (try simp only [set_none'] at hbk); (try (first | have hbn := Grow.none (by assumption) hbk | have hbn := Grow.none (by assumption) hbk.2 | have hbn := Grow.none (by assumption) hbk.2.2 | have hbn := Grow.none (by assumption) hbk.2.2.2 | have hbn := Grow.none (by assumption) hbk.2.2.2.2 | have hbn := Grow.none (by assumption) hbk.2.2.2.2.2)); (try simp only [set_none'] at hbn); (try (first | have hbm := Grow.none (by assumption) hbn | have hbm := Grow.none (by assumption) hbn.2 | have hbm := Grow.none (by assumption) hbn.2.2 | have hbm := Grow.none (by assumption) hbn.2.2.2 | have hbm := Grow.none (by assumption) hbn.2.2.2.2 | have hbm := Grow.none (by assumption) hbn.2.2.2.2.2)); (try simp only [set_none'] at hbm)) | ((first | refine condS_i ?_ ?_ | refine pick_i ?_ ?_ | refine gS_it ?_ ?_ | refine gS_if ?_ ?_ | refine gP_it ?_ ?_ | refine gP_if ?_ ?_) <;> (intro hc; try simp only [Int.reduceLE,Int.reduceLT,Int.reduceEq,Sn] at hc)) | (with_reducible refine KP_i ?_ ?_; · (repeat' (first | exact Heap.Le.refl _ | (with_reducible refine Le_set2 ?_) | (refine Le_known (by first | (simp only [Heap.set_same, set_ne, ne_eq, not_false_eq_true, *] <;> rfl) | fail) ?_) | (refine Le_fresh (by first | (simp only [*] <;> done) | (simp [set_none', Heap.set_same, set_ne, noneH, *] <;> done) | fail) ?_) | (refine Heap.Le.trans ?_ (Grow.le (by assumption))) | exact Le_none | (refine Le_put ?_ (by first | (simp only [Heap.set_same, set_ne, ne_eq, not_false_eq_true, *] <;> rfl) | fail)) | fail))) | (with_reducible refine And.intro ?_ ?_)) <;> (try simp only [Sq,Sr,Sh,Si,Sl,Bu,Bb,Bd,Bc,Bw,Bn,Int.reduceAdd,Int.reduceSub,Int.reduceMul,Int.reduceTDiv,Int.reduceTMod,Int.reduceMod,Int.reduceDiv,Nat.reduceLT,Nat.reduceEqDiff,Sa,Sb,Sc,Sd,Se,Sf,Sg,Int.reduceLE,Int.reduceLT,Int.reduceToNat,Int.reduceNeg,Int.reduceEq,Nat.reduceLeDiff,Nat.reducePow,Int.reducePow,reduceIte,Nat.reduceSub,Nat.reduceAdd,Nat.reduceMul,putAt,ceq,List.replicate, *]))
          have g : Geo cur x.f S W V cw rh wd ht := g'
          have hS := (show 1 ≤ S ∧ S ≤ 4 from hS4)
          have hpos : 0 < cur.l.length := by rw [g.len]; exact Nat.mul_pos (Nat.mul_pos (by have := g.wb; omega) (by have := g.vb; omega)) (by omega)
          obtain ⟨cb, co, eca, hrc, hfc⟩ := ints_get cur0.at_ hpos
          have l5 := (show RSt w0 H F b1 b2 b5 x C (m + 1) pre last cur a cap from st').k5
          refine loopq_nameb (fun code4 kont4 T4 eM4 eK4 eT4 => ?_)
          refine cut_loop (S := (Option Addr × Nat × List PR × List Value) × Heap) 89 (fun s => [(9, .slice s.1.1 s.1.2.2.1.length s.1.2.1), (10, s.1.2.2.2.getD 0 undef), (11, s.1.2.2.2.getD 1 undef), (12, s.1.2.2.2.getD 2 undef)]) (fun s => s.2)
            (fun s => s.1.2.2.1.map (fun p => num p.l) = quad cur.l S W cw xx y (cw * rh) ∧ s.1.2.2.1.length ≤ 4 ∧ (∀ p ∈ s.1.2.2.1, PROk w0 F2 S p) ∧ Bld w0 F2 s.2 s.1.1 s.1.2.1 1 36 (s.1.2.2.1.map PR.row) ∧ Grow w0 F2 s.2) 300 530 (n' := 833) ?_ ?_ (by decide)
          · refine loop_a 90 (fun s : Nat × Option Addr × Nat × List PR × List Value => [(89, .int .i64 (s.1 : Nat)), (9, .slice s.2.1 s.2.2.2.1.length s.2.2.1), (10, s.2.2.2.2.getD 0 undef), (11, s.2.2.2.2.getD 1 undef), (12, s.2.2.2.2.getD 2 undef)])
              (fun s F3 => s.1 ≤ 4 ∧ s.2.2.2.1.map (fun p => num p.l) = fours cur.l S W V xx y s.1 ∧ s.2.2.2.1.length ≤ s.1 ∧ (∀ p ∈ s.2.2.2.1, PROk w0 F2 S p) ∧ Bld w0 F2 F3 s.2.1 s.2.2.1 1 36 (s.2.2.2.1.map PR.row) ∧ Grow w0 F2 F3)
              (fun s => 4 - s.1) (0, none, 0, [], [ws.getD 2 undef, ws.getD 3 undef, ws.getD 4 undef]) ⟨Nat.zero_le _, rfl, Nat.le_refl _, by simp, Bld.none, Grow.refl _⟩ (by subst eT4; rfl) ?_
            intro ⟨k, a9, c9, qs, zs⟩ F3 U4 ⟨hk, hq, hql, hqp, hqB, hqg⟩
            simp only at hk hq hql hqp hqB hqg
            rcases Nat.lt_or_ge k 4 with hltk | hgek
            · have gF3 : Grow w0 F F3 := st.g.trans hqg
              have l53 := gF3.some l5
              have r50 : rd1 w0 F3 b5 0 = some (.int .i64 cur.w) := by unfold rd1; rw [l53]; rfl
              have r51 : rd1 w0 F3 b5 1 = some (.int .i64 cur.h) := by unfold rd1; rw [l53]; rfl
              have r52 : rd1 w0 F3 b5 2 = some (.slice (some ⟨cb, co, none⟩) cur.l.length cur.cap) := by unfold rd1; rw [l53, ← eca]; rfl
              have gW := g.wb
              have gV := g.vb
              have gw := g.w
              have gh := g.h
              have t6 : (k : Int) < 4 := by omega
              have q1 : IntKind.i64.wrap (2 * (xx : Int)) = ((2 * xx : Nat) : Int) := by rw [Bw.1 _ (by omega) (by omega)]; omega
              have q2 : (k : Int).tmod 2 = ((k % 2 : Nat) : Int) := by rw [Int.tmod_eq_emod_of_nonneg (by omega)]; omega
              have q3 : IntKind.i64.wrap (((2 * xx : Nat) : Int) + ((k % 2 : Nat) : Int)) = ((2 * xx + k % 2 : Nat) : Int) := by rw [Bw.1 _ (by omega) (by omega)]; omega
              have q4 : IntKind.i64.wrap (2 * (y : Int)) = ((2 * y : Nat) : Int) := by rw [Bw.1 _ (by omega) (by omega)]; omega
              have q5 : IntKind.i64.wrap ((k : Int).tdiv 2) = ((k / 2 : Nat) : Int) := by rw [Int.tdiv_eq_ediv_of_nonneg (by omega), Bw.1 _ (by omega) (by omega)]; omega
              have q6 : IntKind.i64.wrap (((2 * y : Nat) : Int) + ((k / 2 : Nat) : Int)) = ((2 * y + k / 2 : Nat) : Int) := by rw [Bw.1 _ (by omega) (by omega)]; omega
              have q7 : IntKind.i64.wrap ((k : Int) + 1) = ((k + 1 : Nat) : Int) := by rw [Bw.1 _ (by omega) (by omega)]; omega
              by_cases hin : 2 * xx + k % 2 < W ∧ 2 * y + k / 2 < V
              · have t7 : ((2 * xx + k % 2 : Nat) : Int) < cur.w := by omega
                have t8 : ((2 * y + k / 2 : Nat) : Int) < cur.h := by omega
                obtain ⟨ii, eii⟩ : ∃ ii, (2 * y + k / 2) * W + (2 * xx + k % 2) = ii := ⟨_, rfl⟩
                have hii : ii + 1 ≤ W * V := by
                  have : (2 * y + k / 2 + 1) * W ≤ V * W := Nat.mul_le_mul_right _ hin.2
                  rw [Nat.succ_mul] at this
                  rw [Nat.mul_comm W V]
                  omega
                have hWV : W * V ≤ 64 * 64 := Nat.mul_le_mul gW.2 gV.2
                have hlo : (ii + 1) * S ≤ cur.l.length := by rw [g.len]; exact Nat.mul_le_mul_right _ hii
                have q8 : IntKind.i64.wrap (((2 * y + k / 2 : Nat) : Int) * cur.w) = (((2 * y + k / 2) * W : Nat) : Int) := by
                  rw [gw, ← Int.natCast_mul, Bw.1 _ (by omega) (by omega)]
                have q9 : IntKind.i64.wrap ((((2 * y + k / 2) * W : Nat) : Int) + ((2 * xx + k % 2 : Nat) : Int)) = (ii : Int) := by
                  rw [← Int.natCast_add, eii, Bw.1 _ (by omega) (by omega)]
                obtain ⟨lo, elo⟩ : ∃ lo, ii * S = lo := ⟨_, rfl⟩
                have ehi : (ii + 1) * S = lo + S := by rw [Nat.succ_mul, elo]
                rw [ehi] at hlo
                have hlen4 : cur.l.length ≤ 16384 := by rw [g.len]; exact Nat.le_trans (Nat.mul_le_mul hWV hS.2) (by decide)
                have q10 : IntKind.i64.wrap ((ii : Int) * (S : Int)) = (lo : Int) := by rw [← Int.natCast_mul, elo, Bw.1 _ (by omega) (by omega)]
                have q11 : IntKind.i64.wrap ((ii : Int) + 1) = ((ii + 1 : Nat) : Int) := by rw [Bw.1 _ (by omega) (by omega)]; omega
                have q12 : IntKind.i64.wrap (((ii + 1 : Nat) : Int) * (S : Int)) = ((lo + S : Nat) : Int) := by rw [← Int.natCast_mul, ehi, Bw.1 _ (by omega) (by omega)]
                have hcap := cur0.lc
                have v1 : (lo : Int) ≤ ((lo + S : Nat) : Int) := by omega
                have v2 : ((lo + S : Nat) : Int) ≤ (cur.cap : Int) := by omega
                have v3 : lo + S - lo = S := by omega
                have v4 : ¬ cur.cap = lo := by omega
                have px := px_at cur0.at_ eca hlo hS.1
                have hf1 : Keep _ := fours_yes cur.l (S := S) (W := W) (V := V) (x := xx) (y := y) (k := k) hin
                unfold pxN at hf1
                rw [eii, elo] at hf1
                have hpl : ((cur.l.drop lo).take S).length = S := by rw [List.length_take, List.length_drop]; omega
                have pok : Keep _ := (show PROk w0 F2 S ⟨some ⟨cb, co + lo, none⟩, cur.cap - lo, (cur.l.drop lo).take S⟩ from ⟨px.grow st.g, hpl, fun v hv => cur0.by_ v (List.mem_of_mem_drop (List.mem_of_mem_take hv))⟩)
                replace hpl : Keep _ := hpl
                clear px
                clear hfc hrc
                have hqB' : Keep _ := hqB
                have hq' : Keep _ := hq
                have hqp' : Keep _ := hqp
                clear hqB hq hqp ehi elo eii hii hWV hlen4 gw gh gW gV l53 t1 t2
                subst eM4 eK4 eT4
                show run _ _ _ _ _ _ F3
                (all_goals (try simp only [Sq,Sr,Sh,Si,Sl,Bu,Bb,Bd,Bc,Bw,Bn,Int.reduceAdd,Int.reduceSub,Int.reduceMul,Int.reduceTDiv,Int.reduceTMod,Int.reduceMod,Int.reduceDiv,Nat.reduceLT,Nat.reduceEqDiff,Sa,Sb,Sc,Sd,Se,Sf,Sg,Int.reduceLE,Int.reduceLT,Int.reduceToNat,Int.reduceNeg,Int.reduceEq,Nat.reduceLeDiff,Nat.reducePow,Int.reducePow,reduceIte,Nat.reduceSub,Nat.reduceAdd,Nat.reduceMul,putAt,ceq,List.replicate, *])); repeat' ((first | (with_reducible refine fun _ : True => ?_) | (with_reducible refine any_h ?_) | ((first | refine AllocQ_i ?_ | refine AllocO_i ?_); intro bk hb0 hbk; (try simp only [set_none'] at hbk); (try (first | have hbn := Grow.none (by assumption) hbk | have hbn := Grow.none (by assumption) hbk.2 | have hbn := Grow.none (by assumption) hbk.2.2 | have hbn := Grow.none (by assumption) hbk.2.2.2 | have hbn := Grow.none (by assumption) hbk.2.2.2.2 | have hbn := Grow.none (by assumption) hbk.2.2.2.2.2)); (try simp only [set_none'] at hbn); (try (first | have hbm := Grow.none (by assumption) hbn | have hbm := Grow.none (by assumption) hbn.2 | have hbm := Grow.none (by assumption) hbn.2.2 | have hbm := Grow.none (by assumption) hbn.2.2.2 | have hbm := Grow.none (by assumption) hbn.2.2.2.2 | have hbm := Grow.none (by assumption) hbn.2.2.2.2.2)); (try simp only [set_none'] at hbm)) | ((first | refine condS_i ?_ ?_ | refine pick_i ?_ ?_ | refine gS_it ?_ ?_ | refine gS_if ?_ ?_ | refine gP_it ?_ ?_ | refine gP_if ?_ ?_) <;> (intro hc; try simp only [Int.reduceLE,Int.reduceLT,Int.reduceEq,Sn] at hc)) | (with_reducible refine KP_i ?_ ?_; · (repeat' (first | exact Heap.Le.refl _ | (with_reducible refine Le_set2 ?_) | (refine Le_known (by first | (simp only [Heap.set_same, set_ne, ne_eq, not_false_eq_true, *] <;> rfl) | fail) ?_) | (refine Le_fresh (by first | (simp only [*] <;> done) | (simp [set_none', Heap.set_same, set_ne, noneH, *] <;> done) | fail) ?_) | (refine Heap.Le.trans ?_ (Grow.le (by assumption))) | exact Le_none | (refine Le_put ?_ (by first | (simp only [Heap.set_same, set_ne, ne_eq, not_false_eq_true, *] <;> rfl) | fail)) | fail))) | (with_reducible refine And.intro ?_ ?_)) <;> (try simp only [Sq,Sr,Sh,Si,Sl,Bu,Bb,Bd,Bc,Bw,Bn,Int.reduceAdd,Int.reduceSub,Int.reduceMul,Int.reduceTDiv,Int.reduceTMod,Int.reduceMod,Int.reduceDiv,Nat.reduceLT,Nat.reduceEqDiff,Sa,Sb,Sc,Sd,Se,Sf,Sg,Int.reduceLE,Int.reduceLT,Int.reduceToNat,Int.reduceNeg,Int.reduceEq,Nat.reduceLeDiff,Nat.reducePow,Int.reducePow,reduceIte,Nat.reduceSub,Nat.reduceAdd,Nat.reduceMul,putAt,ceq,List.replicate, *]))
                refine app_bld (H := F2) (n := qs.length) (m := 1) (cs := qs.map PR.row) (ns := [.slice (some ⟨cb, co + lo, none⟩) S (cur.cap - lo)]) (Bld.grow (show Bld w0 F2 F3 a9 c9 1 36 (qs.map PR.row) from hqB') (Grow.set (Grow.refl _) hb0 hbk)) (by rw [List.length_map, Nat.mul_one]) rfl (srd_blk (Heap.set_same _ _ _) rfl) rfl (hqg.set hb0 (hqg.none hbk)) ⟨by omega, by omega⟩ rfl fun a5 c5 F4 hB2 hg2 hk2 _ => ?_
                have hl1 : (qs ++ [(⟨some ⟨cb, co + lo, none⟩, cur.cap - lo, (cur.l.drop lo).take S⟩ : PR)]).length = qs.length + 1 := by simp
                have hB3 : Bld w0 F2 F4 a5 c5 1 36 ((qs ++ [(⟨some ⟨cb, co + lo, none⟩, cur.cap - lo, (cur.l.drop lo).take S⟩ : PR)]).map PR.row) := by
                  rw [List.map_append]
                  show Bld w0 F2 F4 a5 c5 1 36 (qs.map PR.row ++ [.slice (some ⟨cb, co + lo, none⟩) ((cur.l.drop lo).take S).length (cur.cap - lo)])
                  rw [show ((cur.l.drop lo).take S).length = S from hpl]
                  exact hB2
                have hok : ∀ p ∈ qs ++ [(⟨some ⟨cb, co + lo, none⟩, cur.cap - lo, (cur.l.drop lo).take S⟩ : PR)], PROk w0 F2 S p := fun p hp => by
                  rcases List.mem_append.1 hp with h1 | h1
                  · exact (show ∀ p ∈ qs, PROk w0 F2 S p from hqp') p h1
                  · rw [List.mem_singleton.1 h1]; exact pok
                have hfl : (qs ++ [(⟨some ⟨cb, co + lo, none⟩, cur.cap - lo, (cur.l.drop lo).take S⟩ : PR)]).map (fun p => num p.l) = fours cur.l S W V xx y (k + 1) := by
                  rw [List.map_append, show _ = _ from hf1, show _ = _ from hq']; rfl
                clear hB2 hk2 hqB' hqp' hq' pok hf1
                replace hl1 : Keep _ := hl1
                (all_goals (try simp only [Sq,Sr,Sh,Si,Sl,Bu,Bb,Bd,Bc,Bw,Bn,Int.reduceAdd,Int.reduceSub,Int.reduceMul,Int.reduceTDiv,Int.reduceTMod,Int.reduceMod,Int.reduceDiv,Nat.reduceLT,Nat.reduceEqDiff,Sa,Sb,Sc,Sd,Se,Sf,Sg,Int.reduceLE,Int.reduceLT,Int.reduceToNat,Int.reduceNeg,Int.reduceEq,Nat.reduceLeDiff,Nat.reducePow,Int.reducePow,reduceIte,Nat.reduceSub,Nat.reduceAdd,Nat.reduceMul,putAt,ceq,List.replicate, *])); repeat' ((first | (with_reducible refine fun _ : True => ?_) | (with_reducible refine any_h ?_) | ((first | refine AllocQ_i ?_ | refine AllocO_i ?_); intro bk hb0 hbk; (try simp only [set_none'] at hbk); (try (first | have hbn := Grow.none (by assumption) hbk | have hbn := Grow.none (by assumption) hbk.2 | have hbn := Grow.none (by assumption) hbk.2.2 | have hbn := Grow.none (by assumption) hbk.2.2.2 | have hbn := Grow.none (by assumption) hbk.2.2.2.2 | have hbn := Grow.none (by assumption) hbk.2.2.2.2.2)); (try simp only [set_none'] at hbn); (try (first | have hbm := Grow.none (by assumption) hbn | have hbm := Grow.none (by assumption) hbn.2 | have hbm := Grow.none (by assumption) hbn.2.2 | have hbm := Grow.none (by assumption) hbn.2.2.2 | have hbm := Grow.none (by assumption) hbn.2.2.2.2 | have hbm := Grow.none (by assumption) hbn.2.2.2.2.2)); (try simp only [set_none'] at hbm)) | ((first | refine condS_i ?_ ?_ | refine pick_i ?_ ?_ | refine gS_it ?_ ?_ | refine gS_if ?_ ?_ | refine gP_it ?_ ?_ | refine gP_if ?_ ?_) <;> (intro hc; try simp only [Int.reduceLE,Int.reduceLT,Int.reduceEq,Sn] at hc)) | (with_reducible refine KP_i ?_ ?_; · (repeat' (first | exact Heap.Le.refl _ | (with_reducible refine Le_set2 ?_) | (refine Le_known (by first | (simp only [Heap.set_same, set_ne, ne_eq, not_false_eq_true, *] <;> rfl) | fail) ?_) | (refine Le_fresh (by first | (simp only [*] <;> done) | (simp [set_none', Heap.set_same, set_ne, noneH, *] <;> done) | fail) ?_) | (refine Heap.Le.trans ?_ (Grow.le (by assumption))) | exact Le_none | (refine Le_put ?_ (by first | (simp only [Heap.set_same, set_ne, ne_eq, not_false_eq_true, *] <;> rfl) | fail)) | fail))) | (with_reducible refine And.intro ?_ ?_)) <;> (try simp only [Sq,Sr,Sh,Si,Sl,Bu,Bb,Bd,Bc,Bw,Bn,Int.reduceAdd,Int.reduceSub,Int.reduceMul,Int.reduceTDiv,Int.reduceTMod,Int.reduceMod,Int.reduceDiv,Nat.reduceLT,Nat.reduceEqDiff,Sa,Sb,Sc,Sd,Se,Sf,Sg,Int.reduceLE,Int.reduceLT,Int.reduceToNat,Int.reduceNeg,Int.reduceEq,Nat.reduceLeDiff,Nat.reducePow,Int.reducePow,reduceIte,Nat.reduceSub,Nat.reduceAdd,Nat.reduceMul,putAt,ceq,List.replicate, *]))
                have hl2 : (qs ++ [(⟨some ⟨cb, co + lo, none⟩, cur.cap - lo, (cur.l.drop lo).take S⟩ : PR)]).length ≤ k + 1 := by
                  rw [show (qs ++ [(⟨some ⟨cb, co + lo, none⟩, cur.cap - lo, (cur.l.drop lo).take S⟩ : PR)]).length = qs.length + 1 from hl1]; exact Nat.succ_le_succ hql
                exact Round_p (k + 1, a5, c5, qs ++ [⟨some ⟨cb, co + lo, none⟩, cur.cap - lo, (cur.l.drop lo).take S⟩], [_, _, _]) ⟨hltk, hfl, hl2, hok, hB3, hg2⟩ (by simp only; omega) (by simp only [show (qs ++ [(⟨some ⟨cb, co + lo, none⟩, cur.cap - lo, (cur.l.drop lo).take S⟩ : PR)]).length = qs.length + 1 from hl1]; rfl) rfl
              · have hf := fours_no cur.l (S := S) hin
                have hq2 : qs.map (fun p => num p.l) = fours cur.l S W V xx y (k + 1) := by rw [hf]; exact hq
                have hql2 : qs.length ≤ k + 1 := Nat.le_succ_of_le hql
                have hc2 : (¬ ((2 * xx + k % 2 : Nat) : Int) < cur.w) ∨ (((2 * xx + k % 2 : Nat) : Int) < cur.w ∧ ¬ ((2 * y + k / 2 : Nat) : Int) < cur.h) := by omega
                clear hf hq hfc hrc hin gw gh gW gV l53 t1 t2
                replace hq2 : Keep _ := hq2
                subst eM4 eK4 eT4
                show run _ _ _ _ _ _ F3
                rcases hc2 with t7 | ⟨t7, t8⟩
                all_goals
                  (all_goals (try simp only [Sq,Sr,Sh,Si,Sl,Bu,Bb,Bd,Bc,Bw,Bn,Int.reduceAdd,Int.reduceSub,Int.reduceMul,Int.reduceTDiv,Int.reduceTMod,Int.reduceMod,Int.reduceDiv,Nat.reduceLT,Nat.reduceEqDiff,Sa,Sb,Sc,Sd,Se,Sf,Sg,Int.reduceLE,Int.reduceLT,Int.reduceToNat,Int.reduceNeg,Int.reduceEq,Nat.reduceLeDiff,Nat.reducePow,Int.reducePow,reduceIte,Nat.reduceSub,Nat.reduceAdd,Nat.reduceMul,putAt,ceq,List.replicate, *])); repeat' ((first | (with_reducible refine fun _ : True => ?_) | (with_reducible refine any_h ?_) | ((first | refine AllocQ_i ?_ | refine AllocO_i ?_); intro bk hb0 hbk; (try simp only [set_none'] at hbk); (try (first | have hbn := Grow.none (by assumption) hbk | have hbn := Grow.none (by assumption) hbk.2 | have hbn := Grow.none (by assumption) hbk.2.2 | have hbn := Grow.none (by assumption) hbk.2.2.2 | have hbn := Grow.none (by assumption) hbk.2.2.2.2 | have hbn := Grow.none (by assumption) hbk.2.2.2.2.2)); (try simp only [set_none'] at hbn); (try (first | have hbm := Grow.none (by assumption) hbn | have hbm := Grow.none (by assumption) hbn.2 | have hbm := Grow.none (by assumption) hbn.2.2 | have hbm := Grow.none (by assumption) hbn.2.2.2 | have hbm := Grow.none (by assumption) hbn.2.2.2.2 | have hbm := Grow.none (by assumption) hbn.2.2.2.2.2)); (try simp only [set_none'] at hbm)) | ((first | refine condS_i ?_ ?_ | refine pick_i ?_ ?_ | refine gS_it ?_ ?_ | refine gS_if ?_ ?_ | refine gP_it ?_ ?_ | refine gP_if ?_ ?_) <;> (intro hc; try simp only [Int.reduceLE,Int.reduceLT,Int.reduceEq,Sn] at hc)) | (with_reducible refine KP_i ?_ ?_; · (repeat' (first | exact Heap.Le.refl _ | (with_reducible refine Le_set2 ?_) | (refine Le_known (by first | (simp only [Heap.set_same, set_ne, ne_eq, not_false_eq_true, *] <;> rfl) | fail) ?_) | (refine Le_fresh (by first | (simp only [*] <;> done) | (simp [set_none', Heap.set_same, set_ne, noneH, *] <;> done) | fail) ?_) | (refine Heap.Le.trans ?_ (Grow.le (by assumption))) | exact Le_none | (refine Le_put ?_ (by first | (simp only [Heap.set_same, set_ne, ne_eq, not_false_eq_true, *] <;> rfl) | fail)) | fail))) | (with_reducible refine And.intro ?_ ?_)) <;> (try simp only [Sq,Sr,Sh,Si,Sl,Bu,Bb,Bd,Bc,Bw,Bn,Int.reduceAdd,Int.reduceSub,Int.reduceMul,Int.reduceTDiv,Int.reduceTMod,Int.reduceMod,Int.reduceDiv,Nat.reduceLT,Nat.reduceEqDiff,Sa,Sb,Sc,Sd,Se,Sf,Sg,Int.reduceLE,Int.reduceLT,Int.reduceToNat,Int.reduceNeg,Int.reduceEq,Nat.reduceLeDiff,Nat.reducePow,Int.reducePow,reduceIte,Nat.reduceSub,Nat.reduceAdd,Nat.reduceMul,putAt,ceq,List.replicate, *]))
                  exact Round_p (k + 1, a9, c9, qs, [_, _, _]) ⟨hltk, hq2, hql2, hqp, hqB, hqg⟩ (by simp only; omega) rfl rfl
            · have e : k = 4 := by omega
              subst k
              have t6 : ¬ ((4 : Nat) : Int) < 4 := by omega
              rw [fours_quad cur.l (x := xx) (y := y) hltx hlt g.c g.r] at hq
              replace hq : Keep _ := hq
              subst eM4 eK4 eT4
              show run _ _ _ _ _ _ F3
              (all_goals (try simp only [Sq,Sr,Sh,Si,Sl,Bu,Bb,Bd,Bc,Bw,Bn,Int.reduceAdd,Int.reduceSub,Int.reduceMul,Int.reduceTDiv,Int.reduceTMod,Int.reduceMod,Int.reduceDiv,Nat.reduceLT,Nat.reduceEqDiff,Sa,Sb,Sc,Sd,Se,Sf,Sg,Int.reduceLE,Int.reduceLT,Int.reduceToNat,Int.reduceNeg,Int.reduceEq,Nat.reduceLeDiff,Nat.reducePow,Int.reducePow,reduceIte,Nat.reduceSub,Nat.reduceAdd,Nat.reduceMul,putAt,ceq,List.replicate, *])); repeat' ((first | (with_reducible refine fun _ : True => ?_) | (with_reducible refine any_h ?_) | ((first | refine AllocQ_i ?_ | refine AllocO_i ?_); intro bk hb0 hbk; (try simp only [set_none'] at hbk); (try (first | have hbn := Grow.none (by assumption) hbk | have hbn := Grow.none (by assumption) hbk.2 | have hbn := Grow.none (by assumption) hbk.2.2 | have hbn := Grow.none (by assumption) hbk.2.2.2 | have hbn := Grow.none (by assumption) hbk.2.2.2.2 | have hbn := Grow.none (by assumption) hbk.2.2.2.2.2)); (try simp only [set_none'] at hbn); (try (first | have hbm := Grow.none (by assumption) hbn | have hbm := Grow.none (by assumption) hbn.2 | have hbm := Grow.none (by assumption) hbn.2.2 | have hbm := Grow.none (by assumption) hbn.2.2.2 | have hbm := Grow.none (by assumption) hbn.2.2.2.2 | have hbm := Grow.none (by assumption) hbn.2.2.2.2.2)); (try simp only [set_none'] at hbm)) | ((first | refine condS_i ?_ ?_ | refine pick_i ?_ ?_ | refine gS_it ?_ ?_ | refine gS_if ?_ ?_ | refine gP_it ?_ ?_ | refine gP_if ?_ ?_) <;> (intro hc; try simp only [Int.reduceLE,Int.reduceLT,Int.reduceEq,Sn] at hc)) | (with_reducible refine KP_i ?_ ?_; · (repeat' (first | exact Heap.Le.refl _ | (with_reducible refine Le_set2 ?_) | (refine Le_known (by first | (simp only [Heap.set_same, set_ne, ne_eq, not_false_eq_true, *] <;> rfl) | fail) ?_) | (refine Le_fresh (by first | (simp only [*] <;> done) | (simp [set_none', Heap.set_same, set_ne, noneH, *] <;> done) | fail) ?_) | (refine Heap.Le.trans ?_ (Grow.le (by assumption))) | exact Le_none | (refine Le_put ?_ (by first | (simp only [Heap.set_same, set_ne, ne_eq, not_false_eq_true, *] <;> rfl) | fail)) | fail))) | (with_reducible refine And.intro ?_ ?_)) <;> (try simp only [Sq,Sr,Sh,Si,Sl,Bu,Bb,Bd,Bc,Bw,Bn,Int.reduceAdd,Int.reduceSub,Int.reduceMul,Int.reduceTDiv,Int.reduceTMod,Int.reduceMod,Int.reduceDiv,Nat.reduceLT,Nat.reduceEqDiff,Sa,Sb,Sc,Sd,Se,Sf,Sg,Int.reduceLE,Int.reduceLT,Int.reduceToNat,Int.reduceNeg,Int.reduceEq,Nat.reduceLeDiff,Nat.reducePow,Int.reducePow,reduceIte,Nat.reduceSub,Nat.reduceAdd,Nat.reduceMul,putAt,ceq,List.replicate, *]))
              exact Meet_p (a9, c9, qs, [_, _, _]) ⟨hq, hql, hqp, hqB, hqg⟩ rfl rfl
          · intro ⟨⟨a9, c9, qs, zs⟩, F3⟩ U4 ⟨hq, hql, hqp, hqB, hqg⟩
            simp only at hq hql hqp hqB hqg
            have gF3 : Grow w0 F F3 := st.g.trans hqg
            have l1 := (show RSt w0 H F b1 b2 b5 x C (m + 1) pre last cur a cap from st').k1
            have r10 : rd1 w0 F3 b1 0 = some (.int .i64 x.f) := by unfold rd1; rw [gF3.some l1]; rfl
            have k6 := hqg.some st.k6
            have d61 : b6 ≠ b1 := fun e => by subst e; rw [n6] at l1; cases l1
            have d16 := Ne.symm d61
            have hq1 : 1 ≤ qs.length := by
              have := congrArg List.length hq
              rw [List.length_map, quad_len] at this
              have := g.c
              have := g.r
              rw [‹qs.length = cw * rh›]
              exact Nat.mul_pos (by omega) (by omega)
            have cM := fun (G : Heap) (K : Value → Heap → Prop) (gg : Grow w0 F3 G) => r_Mean (w0 := w0) (H := G) (K := K) x.f S hSz hS a9 c9 qs (hqB.grow gg).slAt (fun p hp => ((hqp p hp).grow hqg).grow gg) ⟨hq1, hql⟩
            rw [hq] at cM
            have bl := st.bld.grow hqg
            have eO : outB cur.l x.f S W cw (cw * rh) wd (y * wd + xx) ++ meanB x.f (quad cur.l S W cw xx y (cw * rh)) = outB cur.l x.f S W cw (cw * rh) wd (y * wd + xx + 1) := by
              rw [outB_succ, Nat.mul_comm y wd, Nat.mul_add_mod, Nat.mod_eq_of_lt hltx, Nat.mul_add_div (by omega), Nat.div_eq_of_lt hltx, Nat.add_zero]
            have hOl : (outB cur.l x.f S W cw (cw * rh) wd (y * wd + xx)).length ≤ 100000 := by
              rw [outB_len _ _ _ _ _ _ _ g.s]
              have q1 : y * wd + xx ≤ 64 * 64 + 64 := Nat.add_le_add (Nat.mul_le_mul (by omega) (by omega)) (by omega)
              exact Nat.le_trans (Nat.mul_le_mul q1 hS.2) (by decide)
            have hml : (meanB x.f (quad cur.l S W cw xx y (cw * rh))).length = S := by rw [meanB_len, hSz]; rfl
            obtain ⟨O, eo⟩ : ∃ O, outB cur.l x.f S W cw (cw * rh) wd (y * wd + xx) = O := ⟨_, rfl⟩
            obtain ⟨MB, eMB⟩ : ∃ MB, meanB x.f (quad cur.l S W cw xx y (cw * rh)) = MB := ⟨_, rfl⟩
            rw [eMB] at cM eO hml
            rw [eo] at k6 bl eO hOl
            have q7 : IntKind.i64.wrap ((xx : Int) + 1) = ((xx + 1 : Nat) : Int) := by rw [Bw.1 _ (by omega) (by omega)]; omega
            clear st hq hqp hqB hfc hrc eo eMB l1 t1 t2 hqg g
            replace eO : Keep _ := eO
            replace hml : Keep _ := hml
            subst eM4 eK4 eT4
            show run _ _ _ _ _ _ F3
            rw [root1 k6]
            (all_goals (try simp only [Sq,Sr,Sh,Si,Sl,Bu,Bb,Bd,Bc,Bw,Bn,Int.reduceAdd,Int.reduceSub,Int.reduceMul,Int.reduceTDiv,Int.reduceTMod,Int.reduceMod,Int.reduceDiv,Nat.reduceLT,Nat.reduceEqDiff,Sa,Sb,Sc,Sd,Se,Sf,Sg,Int.reduceLE,Int.reduceLT,Int.reduceToNat,Int.reduceNeg,Int.reduceEq,Nat.reduceLeDiff,Nat.reducePow,Int.reducePow,reduceIte,Nat.reduceSub,Nat.reduceAdd,Nat.reduceMul,putAt,ceq,List.replicate, *])); repeat' ((first | (with_reducible refine fun _ : True => ?_) | refine cM _ _ (by (repeat' (first | exact Grow.refl _ | assumption | (refine Grow_known (by first | (simp only [Heap.set_same, set_ne, ne_eq, not_false_eq_true, *] <;> rfl) | fail) ?_) | (refine Grow.set ?_ (by assumption) (by first | (simp only [*] <;> done) | (simp [set_none', Heap.set_same, set_ne, noneH, *] <;> done) | fail)) | (refine Grow.trans ?_ (by assumption))))) (fun bm G' sm nm km gm => ?_)  | (with_reducible refine any_h ?_) | ((first | refine AllocQ_i ?_ | refine AllocO_i ?_); intro bk hb0 hbk; (try simp only [set_none'] at hbk); (try (first | have hbn := Grow.none (by assumption) hbk | have hbn := Grow.none (by assumption) hbk.2 | have hbn := Grow.none (by assumption) hbk.2.2 | have hbn := Grow.none (by assumption) hbk.2.2.2 | have hbn := Grow.none (by assumption) hbk.2.2.2.2 | have hbn := Grow.none (by assumption) hbk.2.2.2.2.2)); (try simp only [set_none'] at hbn); (try (first | have hbm := Grow.none (by assumption) hbn | have hbm := Grow.none (by assumption) hbn.2 | have hbm := Grow.none (by assumption) hbn.2.2 | have hbm := Grow.none (by assumption) hbn.2.2.2 | have hbm := Grow.none (by assumption) hbn.2.2.2.2 | have hbm := Grow.none (by assumption) hbn.2.2.2.2.2)); (try simp only [set_none'] at hbm)) | ((first | refine condS_i ?_ ?_ | refine pick_i ?_ ?_ | refine gS_it ?_ ?_ | refine gS_if ?_ ?_ | refine gP_it ?_ ?_ | refine gP_if ?_ ?_) <;> (intro hc; try simp only [Int.reduceLE,Int.reduceLT,Int.reduceEq,Sn] at hc)) | (with_reducible refine KP_i ?_ ?_; · (repeat' (first | exact Heap.Le.refl _ | (with_reducible refine Le_set2 ?_) | (refine Le_known (by first | (simp only [Heap.set_same, set_ne, ne_eq, not_false_eq_true, *] <;> rfl) | fail) ?_) | (refine Le_fresh (by first | (simp only [*] <;> done) | (simp [set_none', Heap.set_same, set_ne, noneH, *] <;> done) | fail) ?_) | (refine Heap.Le.trans ?_ (Grow.le (by assumption))) | exact Le_none | (refine Le_put ?_ (by first | (simp only [Heap.set_same, set_ne, ne_eq, not_false_eq_true, *] <;> rfl) | fail)) | fail))) | (with_reducible refine And.intro ?_ ?_)) <;> (try simp only [Sq,Sr,Sh,Si,Sl,Bu,Bb,Bd,Bc,Bw,Bn,Int.reduceAdd,Int.reduceSub,Int.reduceMul,Int.reduceTDiv,Int.reduceTMod,Int.reduceMod,Int.reduceDiv,Nat.reduceLT,Nat.reduceEqDiff,Sa,Sb,Sc,Sd,Se,Sf,Sg,Int.reduceLE,Int.reduceLT,Int.reduceToNat,Int.reduceNeg,Int.reduceEq,Nat.reduceLeDiff,Nat.reducePow,Int.reducePow,reduceIte,Nat.reduceSub,Nat.reduceAdd,Nat.reduceMul,putAt,ceq,List.replicate, *]))
            rw [Heap.set_id F3 b6 _ k6] at gm
            have hml' := (show MB.length = S from hml)
            refine app_bld (H := F) (n := O.length) (m := S) (cs := O.map (.int .u8)) (ns := MB.map (.int .u8)) (bl.grow gm) (by rw [List.length_map, Nat.mul_one]) rfl (srd_blk km (by rw [List.length_map, Nat.mul_one]; exact hml')) (by rw [List.length_map, Nat.mul_one]; exact hml') (gF3.trans gm) ⟨by omega, by omega⟩ (by simp [Value.oneCell']) fun a7 c7 F5 hB2 hg2 hk2 _ => ?_
            have k65 := hk2 b6 _ (gm.some k6) (fun e => absurd (Kd.t_inj e) (show ¬ ((38 : Nat) = 5) by decide))
            have st5 := RIn.next (wd := wd) (ht := ht) (n := O.length + S) (out' := O ++ MB) k65 (by rw [List.map_append]; exact hB2) hg2 s6 n6 (by rw [List.length_append, hml'])
            rw [show O ++ MB = _ from eO] at st5
            clear hB2 hg2 hk2 hml' hml eO bl gm km k6 cM r10
            rw [root1 k65]
            (all_goals (try simp only [Sq,Sr,Sh,Si,Sl,Bu,Bb,Bd,Bc,Bw,Bn,Int.reduceAdd,Int.reduceSub,Int.reduceMul,Int.reduceTDiv,Int.reduceTMod,Int.reduceMod,Int.reduceDiv,Nat.reduceLT,Nat.reduceEqDiff,Sa,Sb,Sc,Sd,Se,Sf,Sg,Int.reduceLE,Int.reduceLT,Int.reduceToNat,Int.reduceNeg,Int.reduceEq,Nat.reduceLeDiff,Nat.reducePow,Int.reducePow,reduceIte,Nat.reduceSub,Nat.reduceAdd,Nat.reduceMul,putAt,ceq,List.replicate, *])); repeat' ((first | (with_reducible refine fun _ : True => ?_) | (with_reducible refine any_h ?_) | ((first | refine AllocQ_i ?_ | refine AllocO_i ?_); intro bk hb0 hbk; (try simp only [set_none'] at hbk); (try (first | have hbn := Grow.none (by assumption) hbk | have hbn := Grow.none (by assumption) hbk.2 | have hbn := Grow.none (by assumption) hbk.2.2 | have hbn := Grow.none (by assumption) hbk.2.2.2 | have hbn := Grow.none (by assumption) hbk.2.2.2.2 | have hbn := Grow.none (by assumption) hbk.2.2.2.2.2)); (try simp only [set_none'] at hbn); (try (first | have hbm := Grow.none (by assumption) hbn | have hbm := Grow.none (by assumption) hbn.2 | have hbm := Grow.none (by assumption) hbn.2.2 | have hbm := Grow.none (by assumption) hbn.2.2.2 | have hbm := Grow.none (by assumption) hbn.2.2.2.2 | have hbm := Grow.none (by assumption) hbn.2.2.2.2.2)); (try simp only [set_none'] at hbm)) | ((first | refine condS_i ?_ ?_ | refine pick_i ?_ ?_ | refine gS_it ?_ ?_ | refine gS_if ?_ ?_ | refine gP_it ?_ ?_ | refine gP_if ?_ ?_) <;> (intro hc; try simp only [Int.reduceLE,Int.reduceLT,Int.reduceEq,Sn] at hc)) | (with_reducible refine KP_i ?_ ?_; · (repeat' (first | exact Heap.Le.refl _ | (with_reducible refine Le_set2 ?_) | (refine Le_known (by first | (simp only [Heap.set_same, set_ne, ne_eq, not_false_eq_true, *] <;> rfl) | fail) ?_) | (refine Le_fresh (by first | (simp only [*] <;> done) | (simp [set_none', Heap.set_same, set_ne, noneH, *] <;> done) | fail) ?_) | (refine Heap.Le.trans ?_ (Grow.le (by assumption))) | exact Le_none | (refine Le_put ?_ (by first | (simp only [Heap.set_same, set_ne, ne_eq, not_false_eq_true, *] <;> rfl) | fail)) | fail))) | (with_reducible refine And.intro ?_ ?_)) <;> (try simp only [Sq,Sr,Sh,Si,Sl,Bu,Bb,Bd,Bc,Bw,Bn,Int.reduceAdd,Int.reduceSub,Int.reduceMul,Int.reduceTDiv,Int.reduceTMod,Int.reduceMod,Int.reduceDiv,Nat.reduceLT,Nat.reduceEqDiff,Sa,Sb,Sc,Sd,Se,Sf,Sg,Int.reduceLE,Int.reduceLT,Int.reduceToNat,Int.reduceNeg,Int.reduceEq,Nat.reduceLeDiff,Nat.reducePow,Int.reducePow,reduceIte,Nat.reduceSub,Nat.reduceAdd,Nat.reduceMul,putAt,ceq,List.replicate, *]))
            exact Round_k 8 5 (fun us => (xx + 1, us)) ⟨hltx, a7, c7, st5⟩ (by simp only; omega) rfl rfl
        · have e : xx = wd := by omega
          subst xx
          have q6 : ¬ (wd : Int) < (wd : Int) := by omega
          have q7 : IntKind.i64.wrap ((y : Int) + 1) = ((y + 1 : Nat) : Int) := by rw [Bw.1 _ (by omega) (by omega)]; omega
          rw [← Nat.succ_mul] at st
          subst eM3 eK3 eT3
          show run _ _ _ _ _ _ F2
          (all_goals (try simp only [Sq,Sr,Sh,Si,Sl,Bu,Bb,Bd,Bc,Bw,Bn,Int.reduceAdd,Int.reduceSub,Int.reduceMul,Int.reduceTDiv,Int.reduceTMod,Int.reduceMod,Int.reduceDiv,Nat.reduceLT,Nat.reduceEqDiff,Sa,Sb,Sc,Sd,Se,Sf,Sg,Int.reduceLE,Int.reduceLT,Int.reduceToNat,Int.reduceNeg,Int.reduceEq,Nat.reduceLeDiff,Nat.reducePow,Int.reducePow,reduceIte,Nat.reduceSub,Nat.reduceAdd,Nat.reduceMul,putAt,ceq,List.replicate, *])); repeat' ((first | (with_reducible refine fun _ : True => ?_) | (with_reducible refine any_h ?_) | ((first | refine AllocQ_i ?_ | refine AllocO_i ?_); intro bk hb0 hbk; (try simp only [set_none'] at hbk); (try (first | have hbn := Grow.none (by assumption) hbk | have hbn := Grow.none (by assumption) hbk.2 | have hbn := Grow.none (by assumption) hbk.2.2 | have hbn := Grow.none (by assumption) hbk.2.2.2 | have hbn := Grow.none (by assumption) hbk.2.2.2.2 | have hbn := Grow.none (by assumption) hbk.2.2.2.2.2)); (try simp only [set_none'] at hbn); (try (first | have hbm := Grow.none (by assumption) hbn | have hbm := Grow.none (by assumption) hbn.2 | have hbm := Grow.none (by assumption) hbn.2.2 | have hbm := Grow.none (by assumption) hbn.2.2.2 | have hbm := Grow.none (by assumption) hbn.2.2.2.2 | have hbm := Grow.none (by assumption) hbn.2.2.2.2.2)); (try simp only [set_none'] at hbm)) | ((first | refine condS_i ?_ ?_ | refine pick_i ?_ ?_ | refine gS_it ?_ ?_ | refine gS_if ?_ ?_ | refine gP_it ?_ ?_ | refine gP_if ?_ ?_) <;> (intro hc; try simp only [Int.reduceLE,Int.reduceLT,Int.reduceEq,Sn] at hc)) | (with_reducible refine KP_i ?_ ?_; · (repeat' (first | exact Heap.Le.refl _ | (with_reducible refine Le_set2 ?_) | (refine Le_known (by first | (simp only [Heap.set_same, set_ne, ne_eq, not_false_eq_true, *] <;> rfl) | fail) ?_) | (refine Le_fresh (by first | (simp only [*] <;> done) | (simp [set_none', Heap.set_same, set_ne, noneH, *] <;> done) | fail) ?_) | (refine Heap.Le.trans ?_ (Grow.le (by assumption))) | exact Le_none | (refine Le_put ?_ (by first | (simp only [Heap.set_same, set_ne, ne_eq, not_false_eq_true, *] <;> rfl) | fail)) | fail))) | (with_reducible refine And.intro ?_ ?_)) <;> (try simp only [Sq,Sr,Sh,Si,Sl,Bu,Bb,Bd,Bc,Bw,Bn,Int.reduceAdd,Int.reduceSub,Int.reduceMul,Int.reduceTDiv,Int.reduceTMod,Int.reduceMod,Int.reduceDiv,Nat.reduceLT,Nat.reduceEqDiff,Sa,Sb,Sc,Sd,Se,Sf,Sg,Int.reduceLE,Int.reduceLT,Int.reduceToNat,Int.reduceNeg,Int.reduceEq,Nat.reduceLeDiff,Nat.reducePow,Int.reducePow,reduceIte,Nat.reduceSub,Nat.reduceAdd,Nat.reduceMul,putAt,ceq,List.replicate, *]))
          exact Round_k 7 6 (fun us => (y + 1, us)) ⟨hlt, a6, c6, st⟩ (by simp only; omega) rfl rfl
      · have e : y = ht := by omega
        subst y
        have q6 : ¬ (ht : Int) < (ht : Int) := by omega
        rw [Nat.mul_comm ht wd] at st
        have g : Geo cur x.f S W V cw rh wd ht := g'
        have RS := (show RSt w0 H F b1 b2 b5 x C (m + 1) pre last cur a cap from st')
        have hol := outB_len cur.l x.f S W cw (cw * rh) wd g.s (wd * ht)
        have hol2 : (outB cur.l x.f S W cw (cw * rh) wd (wd * ht)).length ≤ 16384 := by rw [hol]; exact Nat.le_trans (Nat.mul_le_mul (Nat.mul_le_mul hwd.2 hht.2) g.s1.2) (by decide)
        obtain ⟨z', ez'⟩ : ∃ z' : LvR, z' = ⟨(wd : Nat), (ht : Nat), a6, c6, outB cur.l x.f S W cw (cw * rh) wd (wd * ht)⟩ := ⟨_, rfl⟩
        have eco : z'.core = nxt x.f cur.core := by rw [ez']; exact (show nxt x.f cur.core = _ from enx').symm
        have hz : LvC w0 F F1 z' := by rw [ez']; exact ⟨st.bld, Nat.le_trans hol2 (by decide), Nat.le_trans hol2 (by decide), by unfold I64; simp only; omega, by unfold I64; simp only; omega, outB_b _ _ _ _ _ _ _ _⟩
        have k6 : F1 b6 = some ⟨.t 38, [.int .i64 z'.w, .int .i64 z'.h, .slice z'.a z'.l.length z'.cap]⟩ := by rw [ez']; exact st.k6
        have k1F := st.g.some RS.k1
        have k2F := st.g.some RS.k2
        have k5F := st.g.some RS.k5
        have gH1 : Grow w0 H F1 := RS.g.trans st.g
        have re : ∀ (x y : Blk) c, (H.set b5 x) c = none → (H.set b5 y) c = none := fun x y c hc => by
          have c5 : c ≠ b5 := fun e => by subst e; rw [Heap.set_same] at hc; cases hc
          rw [Heap.set_other _ _ c5] at hc ⊢; exact hc
        have lx1 : LX w0 (H.set b5 ⟨.t 38, [.int .i64 cur.w, .int .i64 cur.h, .slice cur.a cur.l.length cur.cap]⟩) F1 a cap (pre ++ [last]) := (RS.lx.grow st.g).rx (re _ _)
        have hz1 : LvC w0 (H.set b5 ⟨.t 38, [.int .i64 cur.w, .int .i64 cur.h, .slice cur.a cur.l.length cur.cap]⟩) F1 z' := hz.rx fun c hc => by
          have c5 : c ≠ b5 := fun e => by subst e; rw [RS.k5] at hc; cases hc
          rw [Heap.set_other _ _ c5]; exact RS.g.none hc
        have gg1 : Grow w0 (H.set b5 ⟨.t 38, [.int .i64 cur.w, .int .i64 cur.h, .slice cur.a cur.l.length cur.cap]⟩) F1 := grow_at gH1 k5F
        have hlen : (pre ++ [last]).length = pre.length + 1 := by simp
        have hpl := RS.pl
        have d15 := RS.d15
        have d25 := RS.d25
        have d51 := Ne.symm d15
        have d52 := Ne.symm d25
        have s5 := RS.s5
        have n5 := RS.n5
        have r11 : rd1 w0 F1 b1 1 = some (.slice a (pre.length + 1) cap) := by unfold rd1; rw [k1F]; rfl
        have r63 : rdn w0 F1 b6 0 3 = some [.int .i64 z'.w, .int .i64 z'.h, .slice z'.a z'.l.length z'.cap] := by unfold rdn; rw [k6]; rfl
        clear g hol hol2 ez' hz st r60 cur0 k6
        subst eM2 eK2 eT2
        show run _ _ _ _ _ _ F1
        (all_goals (try simp only [Sq,Sr,Sh,Si,Sl,Bu,Bb,Bd,Bc,Bw,Bn,Int.reduceAdd,Int.reduceSub,Int.reduceMul,Int.reduceTDiv,Int.reduceTMod,Int.reduceMod,Int.reduceDiv,Nat.reduceLT,Nat.reduceEqDiff,Sa,Sb,Sc,Sd,Se,Sf,Sg,Int.reduceLE,Int.reduceLT,Int.reduceToNat,Int.reduceNeg,Int.reduceEq,Nat.reduceLeDiff,Nat.reducePow,Int.reducePow,reduceIte,Nat.reduceSub,Nat.reduceAdd,Nat.reduceMul,putAt,ceq,List.replicate, *])); repeat' ((first | (with_reducible refine fun _ : True => ?_) | (with_reducible refine any_h ?_) | ((first | refine AllocQ_i ?_ | refine AllocO_i ?_); intro bk hb0 hbk; (try simp only [set_none'] at hbk); (try (first | have hbn := Grow.none (by assumption) hbk | have hbn := Grow.none (by assumption) hbk.2 | have hbn := Grow.none (by assumption) hbk.2.2 | have hbn := Grow.none (by assumption) hbk.2.2.2 | have hbn := Grow.none (by assumption) hbk.2.2.2.2 | have hbn := Grow.none (by assumption) hbk.2.2.2.2.2)); (try simp only [set_none'] at hbn); (try (first | have hbm := Grow.none (by assumption) hbn | have hbm := Grow.none (by assumption) hbn.2 | have hbm := Grow.none (by assumption) hbn.2.2 | have hbm := Grow.none (by assumption) hbn.2.2.2 | have hbm := Grow.none (by assumption) hbn.2.2.2.2 | have hbm := Grow.none (by assumption) hbn.2.2.2.2.2)); (try simp only [set_none'] at hbm)) | ((first | refine condS_i ?_ ?_ | refine pick_i ?_ ?_ | refine gS_it ?_ ?_ | refine gS_if ?_ ?_ | refine gP_it ?_ ?_ | refine gP_if ?_ ?_) <;> (intro hc; try simp only [Int.reduceLE,Int.reduceLT,Int.reduceEq,Sn] at hc)) | (with_reducible refine KP_i ?_ ?_; · (repeat' (first | exact Heap.Le.refl _ | (with_reducible refine Le_set2 ?_) | (refine Le_known (by first | (simp only [Heap.set_same, set_ne, ne_eq, not_false_eq_true, *] <;> rfl) | fail) ?_) | (refine Le_fresh (by first | (simp only [*] <;> done) | (simp [set_none', Heap.set_same, set_ne, noneH, *] <;> done) | fail) ?_) | (refine Heap.Le.trans ?_ (Grow.le (by assumption))) | exact Le_none | (refine Le_put ?_ (by first | (simp only [Heap.set_same, set_ne, ne_eq, not_false_eq_true, *] <;> rfl) | fail)) | fail))) | (with_reducible refine And.intro ?_ ?_)) <;> (try simp only [Sq,Sr,Sh,Si,Sl,Bu,Bb,Bd,Bc,Bw,Bn,Int.reduceAdd,Int.reduceSub,Int.reduceMul,Int.reduceTDiv,Int.reduceTMod,Int.reduceMod,Int.reduceDiv,Nat.reduceLT,Nat.reduceEqDiff,Sa,Sb,Sc,Sd,Se,Sf,Sg,Int.reduceLE,Int.reduceLT,Int.reduceToNat,Int.reduceNeg,Int.reduceEq,Nat.reduceLeDiff,Nat.reducePow,Int.reducePow,reduceIte,Nat.reduceSub,Nat.reduceAdd,Nat.reduceMul,putAt,ceq,List.replicate, *]))
        have nb : F1 bk = none := hbk
        have nH : H bk = none := gH1.none nb
        have gE : Grow w0 F1 (F1.set bk ⟨.t 38, [.int .i64 z'.w, .int .i64 z'.h, .slice z'.a z'.l.length z'.cap]⟩) := Grow.set (Grow.refl _) hb0 nb
        have b1k : b1 ≠ bk := fun e => by subst e; rw [k1F] at nb; cases nb
        have b2k : b2 ≠ bk := fun e => by subst e; rw [k2F] at nb; cases nb
        have b5k : b5 ≠ bk := fun e => by subst e; rw [k5F] at nb; cases nb
        refine app_lx (n := pre.length + 1) hlen (by omega) (lx1.grow gE) (hz1.growX gE) (gg1.trans gE) (Heap.set_same _ _ _) (by omega) fun a2 cap2 G2 hB2 hc2 hg2 hk2 => ?_
        have g1 := hk2 b1 _ (by rw [Heap.set_other _ _ b1k]; exact k1F) (.inl (by simp))
        have g2 := hk2 b2 _ (by rw [Heap.set_other _ _ b2k]; exact k2F) (.inl (by simp))
        have g5 := hk2 b5 _ (by rw [Heap.set_other _ _ b5k]; exact k5F) (.inr (by rw [Heap.set_same]; simp))
        have gg : Grow w0 H G2 := (Grow.set (Grow.refl _) s5 n5).trans hg2
        obtain ⟨ab, zz2, ea2, ab0, abn, abs, abl⟩ : ∃ ab zz2, a2 = some ⟨ab, 0, none⟩ ∧ w0.heap.size ≤ ab ∧ (H.set b5 ⟨.t 38, [.int .i64 cur.w, .int .i64 cur.h, .slice cur.a cur.l.length cur.cap]⟩) ab = none ∧ G2 ab = some ⟨.t 38, (((pre ++ [last]) ++ [z']).map LvR.row).flatten ++ zz2⟩ ∧ True := by
          rcases hB2.bld with ⟨c, zz, e, q1, q2, q3, q4⟩ | ⟨-, e⟩
          · exact ⟨c, zz, e, q1, q2, q3, trivial⟩
          · have := congrArg List.length e; rw [rows_len] at this; simp at this
        subst ea2
        have ab1 : b1 ≠ ab := fun e => by subst e; rw [g1] at abs; cases abs
        have ab5 : b5 ≠ ab := fun e => by subst e; rw [Heap.set_same] at abn; cases abn
        have rowF : rdn w0 G2 ab ((pre.length + 1) * 3) 3 = some [.int .i64 z'.w, .int .i64 z'.h, .slice z'.a z'.l.length z'.cap] := by
          obtain ⟨bb, oo, e, q, -⟩ := hB2.bld.slAt.row (rows := ((pre ++ [last]) ++ [z']).map LvR.row) (sz := 3) (fun r hr => by obtain ⟨z, -, rfl⟩ := List.mem_map.1 hr; rfl) (by decide) (i := pre.length + 1) (r := z'.row) (by rw [List.getElem?_map, List.getElem?_append_right (by rw [hlen]; exact Nat.le_refl _), hlen, Nat.sub_self]; rfl)
          cases e
          rw [Nat.zero_add] at q
          exact q
        have abf : ∀ c, w0.heap.size ≤ c → G2 c = none → c ≠ ab := fun c _ hc e => by subst e; rw [hc] at abs; cases abs
        have l1 : IntKind.i64.wrap (((pre.length + 1 + 1 : Nat) : Int) - 1) = ((pre.length + 1 : Nat) : Int) := by rw [Bw.1 _ (by omega) (by omega)]; omega
        have l2 : ((pre.length + 1 : Nat) : Int) < ((pre.length + 1 + 1 : Nat) : Int) := by omega
        clear hk2 hg2 r11 r63 lx1 hz1 gg1 gE nb hbk hb0 abs abn k1F k5F k2F
        rw [root2 d15 g1 g5]
        (all_goals (try simp only [Sq,Sr,Sh,Si,Sl,Bu,Bb,Bd,Bc,Bw,Bn,Int.reduceAdd,Int.reduceSub,Int.reduceMul,Int.reduceTDiv,Int.reduceTMod,Int.reduceMod,Int.reduceDiv,Nat.reduceLT,Nat.reduceEqDiff,Sa,Sb,Sc,Sd,Se,Sf,Sg,Int.reduceLE,Int.reduceLT,Int.reduceToNat,Int.reduceNeg,Int.reduceEq,Nat.reduceLeDiff,Nat.reducePow,Int.reducePow,reduceIte,Nat.reduceSub,Nat.reduceAdd,Nat.reduceMul,putAt,ceq,List.replicate, *])); repeat' ((first | (with_reducible refine fun _ : True => ?_) | (with_reducible refine any_h ?_) | ((first | refine AllocQ_i ?_ | refine AllocO_i ?_); intro bk hb0 hbk; (try simp only [set_none'] at hbk); (try (first | have hbn := Grow.none (by assumption) hbk | have hbn := Grow.none (by assumption) hbk.2 | have hbn := Grow.none (by assumption) hbk.2.2 | have hbn := Grow.none (by assumption) hbk.2.2.2 | have hbn := Grow.none (by assumption) hbk.2.2.2.2 | have hbn := Grow.none (by assumption) hbk.2.2.2.2.2)); (try simp only [set_none'] at hbn); (try (first | have hbm := Grow.none (by assumption) hbn | have hbm := Grow.none (by assumption) hbn.2 | have hbm := Grow.none (by assumption) hbn.2.2 | have hbm := Grow.none (by assumption) hbn.2.2.2 | have hbm := Grow.none (by assumption) hbn.2.2.2.2 | have hbm := Grow.none (by assumption) hbn.2.2.2.2.2)); (try simp only [set_none'] at hbm)) | ((first | refine condS_i ?_ ?_ | refine pick_i ?_ ?_ | refine gS_it ?_ ?_ | refine gS_if ?_ ?_ | refine gP_it ?_ ?_ | refine gP_if ?_ ?_) <;> (intro hc; try simp only [Int.reduceLE,Int.reduceLT,Int.reduceEq,Sn] at hc)) | (with_reducible refine KP_i ?_ ?_; · (repeat' (first | exact Heap.Le.refl _ | (with_reducible refine Le_set2 ?_) | (refine Le_known (by first | (simp only [Heap.set_same, set_ne, ne_eq, not_false_eq_true, *] <;> rfl) | fail) ?_) | (refine Le_fresh (by first | (simp only [*] <;> done) | (simp [set_none', Heap.set_same, set_ne, noneH, *] <;> done) | fail) ?_) | (refine Heap.Le.trans ?_ (Grow.le (by assumption))) | exact Le_none | (refine Le_put ?_ (by first | (simp only [Heap.set_same, set_ne, ne_eq, not_false_eq_true, *] <;> rfl) | fail)) | fail))) | (with_reducible refine And.intro ?_ ?_)) <;> (try simp only [Sq,Sr,Sh,Si,Sl,Bu,Bb,Bd,Bc,Bw,Bn,Int.reduceAdd,Int.reduceSub,Int.reduceMul,Int.reduceTDiv,Int.reduceTMod,Int.reduceMod,Int.reduceDiv,Nat.reduceLT,Nat.reduceEqDiff,Sa,Sb,Sc,Sd,Se,Sf,Sg,Int.reduceLE,Int.reduceLT,Int.reduceToNat,Int.reduceNeg,Int.reduceEq,Nat.reduceLeDiff,Nat.reducePow,Int.reducePow,reduceIte,Nat.reduceSub,Nat.reduceAdd,Nat.reduceMul,putAt,ceq,List.replicate, *]))
        rw [Heap.set_id (G2.set b1 ⟨.t 24, [.int .i64 x.f, .slice (some ⟨ab, 0, none⟩) (pre.length + 1 + 1) cap2, .int .i64 x.s, .int .i64 x.t, .int .i64 x.mn, .int .i64 x.mg]⟩) b5 _ ((Heap.set_other _ _ d51).trans g5)]
        have nk : G2 bk = none := hbk.2.2
        have nkH : H bk = none := gg.none nk
        have c1k : b1 ≠ bk := hbk.2.1.2
        have c2k : b2 ≠ bk := fun e => by subst e; rw [nk] at g2; cases g2
        have hsz : sizeI x.f ≠ 0 := hsz'
        have res := RS.next (F' := (G2.set b1 ⟨.t 24, [.int .i64 x.f, .slice (some ⟨ab, 0, none⟩) (pre.length + 1 + 1) cap2, .int .i64 x.s, .int .i64 x.t, .int .i64 x.mn, .int .i64 x.mg]⟩).set bk ⟨.t 38, [.int .i64 z'.w, .int .i64 z'.h, .slice z'.a z'.l.length z'.cap]⟩) (bk := bk) (cap2 := cap2) (a2 := some ⟨ab, 0, none⟩) eco hsz one' (by rw [Heap.set_other _ _ c1k, Heap.set_same]) (by rw [Heap.set_other _ _ c2k, Heap.set_other _ _ (Ne.symm d12)]; exact g2) (Heap.set_same _ _ _) hb0 nkH c1k c2k
          ((hB2.turn g1).fresh (by rw [Heap.set_other _ _ (Ne.symm c1k)]; exact nk) (fun c hc => by
            have c5 : c ≠ b5 := fun e => by subst e; rw [Heap.set_same] at hc; cases hc
            rw [Heap.set_other _ _ c5] at hc; exact hc)) ((gg.set t1 n1).set hb0 nkH)
        exact Round_k 6 7 (fun us => (m, bk, pre ++ [last], z', z', some ⟨ab, 0, none⟩, cap2, us)) res (by simp only; omega) rfl rfl
end Go.Proofs.Ytdaipgnhconfnaa
