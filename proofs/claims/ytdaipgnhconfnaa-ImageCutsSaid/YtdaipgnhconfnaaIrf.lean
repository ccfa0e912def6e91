/- A piece is put where it may be, by the program (layer 8). -/
import Derived.Test.YtdaipgnhconfnaaIre
set_option linter.unusedSimpArgs false
set_option linter.unusedVariables false
set_option maxRecDepth 100000
set_option maxHeartbeats 4000000
namespace Go.Proofs.Ytdaipgnhconfnaa
open Go Go.HL Go.RowKit Pb
variable {w0 : World} {H G : Heap} {K : Value → Heap → Prop}

theorem ints_take {a : Option Addr} {l : List Int} (h : IntsAt w0 H .u8 a l) (n : Nat) : IntsAt w0 H .u8 a (l.take n) := by
  refine SlAt.toInts (SlAt.pre (ds := (l.drop n).map (Value.int .u8)) ?_)
  rw [← List.map_append, List.take_append_drop]
  exact SlAt.ints h
theorem c_Sub_ok (x : Im) (hx : ImOk w0 H x) (lv : Int) (p : Pc) (k : Nat) (z : LvR) (f : FindOk x lv p k z) {S W V X Y P Q : Nat} (g : PG z x.f p S W V X Y P Q) (ba : Option Addr) (bc : Nat) (b : List Int) (hb : BsOk w0 H ba bc b) (hn : b.length = P * Q * S)
    (h : ∀ y H', SubOk x k z b S W X Y P Q y → ImC w0 H H' y → Grow w0 H H' → K (.tuple #[y.v, .int .i64 0]) H') : HCalls Try.prog w0 34 [x.v, .int .i64 lv, p.v, .slice ba b.length bc] H K := by
  have cF : ∀ (G : Heap) (K : Value → Heap → Prop), Grow w0 H G → K (.tuple #[.agg #[.int .i64 z.w, .int .i64 z.h, .slice z.a z.l.length z.cap], .int .i64 0]) G → HCalls Try.prog w0 59 [x.v, .int .i64 lv, p.v] G K := fun G K g hk => c_find_ok x (hx.grow g) lv p k z f hk
  have cS := fun (G : Heap) (K : Value → Heap → Prop) => c_pSize (w0 := w0) (H := G) (K := K) x.f
  rw [g.s] at cS
  obtain ⟨t1, t2, t3⟩ := pg_area g
  rw [← hn] at t2
  have cK : ∀ (G : Heap) (K : Value → Heap → Prop), Grow w0 H G → (∀ y H', Im.Eqv x y → ImC w0 G H' y → Dist y.ls → Grow w0 G H' → K y.v H') → HCalls Try.prog w0 41 [x.v] G K := fun G K g hk => c_cloneD x (hx.grow g) hk
  have cR := fun (G : Heap) (K : Value → Heap → Prop) => c_rows (w0 := w0) (H := G) (K := K) z p (S : Nat)
  have hk0 : lv = (k : Int) := f.e
  subst hk0
  have hz := hx.lv z (List.mem_of_getElem? f.at_)
  have hpos : 0 < z.l.length := by rw [g.len]; exact Nat.mul_pos (Nat.mul_pos (by have := g.wb; omega) (by have := g.vb; omega)) (by have := g.s1; omega)
  have klt : (k : Int) < (x.ls.length : Int) := by have := (List.getElem?_eq_some_iff.1 f.at_).1; omega
  have hat := f.at_
  have h' : Keep _ := h
  have g' : Keep _ := g
  have hat' : Keep _ := hat
  have hxi : I64 x.f ∧ I64 x.s ∧ I64 x.t ∧ I64 x.mn ∧ I64 x.mg := ⟨hx.f, hx.s, hx.t, hx.mn, hx.mg⟩
  clear hx f h g hat
  unfold Im.v Pc.v at *
  unfold Pc.row at cR
  refine HL.hc k34 999 ?_; unfold M34
  (all_goals (try simp only [Sq,Sr,Sh,Si,Sl,Bu,Bb,Bd,Bc,Bw,Bn,Int.reduceAdd,Int.reduceSub,Int.reduceMul,Int.reduceTDiv,Int.reduceTMod,Int.reduceMod,Int.reduceDiv,Nat.reduceLT,Nat.reduceEqDiff,Sa,Sb,Sc,Sd,Se,Sf,Sg,Int.reduceLE,Int.reduceLT,Int.reduceToNat,Int.reduceNeg,Int.reduceEq,Nat.reduceLeDiff,Nat.reducePow,Int.reducePow,reduceIte,Nat.reduceSub,Nat.reduceAdd,Nat.reduceMul,putAt,ceq,List.replicate, *])); repeat' ((first | (with_reducible refine fun _ : True => ?_) | refine cF _ _ (by (repeat' (first | exact Grow.refl _ | assumption | (refine Grow_known (by first | (simp only [Heap.set_same, set_ne, ne_eq, not_false_eq_true, *] <;> rfl) | fail) ?_) | (refine Grow.set ?_ (by assumption) (by first | (simp only [*] <;> done) | (simp [set_none', Heap.set_same, set_ne, noneH, *] <;> done) | fail)) | (refine Grow.trans ?_ (by assumption))))) ?_ | refine cS _ _ ?_ | refine cK _ _ (by (repeat' (first | exact Grow.refl _ | assumption | (refine Grow_known (by first | (simp only [Heap.set_same, set_ne, ne_eq, not_false_eq_true, *] <;> rfl) | fail) ?_) | (refine Grow.set ?_ (by assumption) (by first | (simp only [*] <;> done) | (simp [set_none', Heap.set_same, set_ne, noneH, *] <;> done) | fail)) | (refine Grow.trans ?_ (by assumption))))) (fun y H' hE hC hD hg => ?_)  | (with_reducible refine any_h ?_) | ((first | refine AllocQ_i ?_ | refine AllocO_i ?_); intro bk hb0 hbk; (try simp only [set_none'] at hbk); (try (first | have hbn := Grow.none (by assumption) hbk | have hbn := Grow.none (by assumption) hbk.2 | have hbn := Grow.none (by assumption) hbk.2.2 | have hbn := Grow.none (by assumption) hbk.2.2.2 | have hbn := Grow.none (by assumption) hbk.2.2.2.2 | have hbn := Grow.none (by assumption) hbk.2.2.2.2.2)); (try simp only [set_none'] at hbn); (try (first | have hbm := Grow.none (by assumption) hbn | have hbm := Grow.none (by assumption) hbn.2 | have hbm := Grow.none (by assumption) hbn.2.2 | have hbm := Grow.none (by assumption) hbn.2.2.2 | have hbm := Grow.none (by assumption) hbn.2.2.2.2 | have hbm := Grow.none (by assumption) hbn.2.2.2.2.2)); (try simp only [set_none'] at hbm)) | ((first | refine condS_i ?_ ?_ | refine pick_i ?_ ?_ | refine gS_it ?_ ?_ | refine gS_if ?_ ?_ | refine gP_it ?_ ?_ | refine gP_if ?_ ?_) <;> (intro hc; try simp only [Int.reduceLE,Int.reduceLT,Int.reduceEq,Sn] at hc)) | (with_reducible refine KP_i ?_ ?_; · (repeat' (first | exact Heap.Le.refl _ | (with_reducible refine Le_set2 ?_) | (refine Le_known (by first | (simp only [Heap.set_same, set_ne, ne_eq, not_false_eq_true, *] <;> rfl) | fail) ?_) | (refine Le_fresh (by first | (simp only [*] <;> done) | (simp [set_none', Heap.set_same, set_ne, noneH, *] <;> done) | fail) ?_) | (refine Heap.Le.trans ?_ (Grow.le (by assumption))) | exact Le_none | (refine Le_put ?_ (by first | (simp only [Heap.set_same, set_ne, ne_eq, not_false_eq_true, *] <;> rfl) | fail)) | fail))) | (with_reducible refine And.intro ?_ ?_)) <;> (try simp only [Sq,Sr,Sh,Si,Sl,Bu,Bb,Bd,Bc,Bw,Bn,Int.reduceAdd,Int.reduceSub,Int.reduceMul,Int.reduceTDiv,Int.reduceTMod,Int.reduceMod,Int.reduceDiv,Nat.reduceLT,Nat.reduceEqDiff,Sa,Sb,Sc,Sd,Se,Sf,Sg,Int.reduceLE,Int.reduceLT,Int.reduceToNat,Int.reduceNeg,Int.reduceEq,Nat.reduceLeDiff,Nat.reducePow,Int.reducePow,reduceIte,Nat.reduceSub,Nat.reduceAdd,Nat.reduceMul,putAt,ceq,List.replicate, *]))
  rename_i b4 s4 n4 b6 s6 n6 b7 s7 n7 b8 s8 n8
  obtain ⟨b10, rfl⟩ : ∃ b10, b10 = bk := ⟨_, rfl⟩
  have q4 := hg.some (b := b4) (by simp only [Heap.set_same, set_ne, ne_eq, not_false_eq_true, *] <;> rfl)
  have q6 := hg.some (b := b6) (by simp only [Heap.set_same, set_ne, ne_eq, not_false_eq_true, *] <;> rfl)
  have q7 := hg.some (b := b7) (by simp only [Heap.set_same, set_ne, ne_eq, not_false_eq_true, *] <;> rfl)
  have q8 := hg.some (b := b8) (by simp only [Heap.set_same, set_ne, ne_eq, not_false_eq_true, *] <;> rfl)
  have q10 := hg.some (b := b10) (by simp only [Heap.set_same, set_ne, ne_eq, not_false_eq_true, *] <;> rfl)
  have gH' : Grow w0 H H' := Grow.trans (by (repeat' (first | exact Grow.refl _ | assumption | (refine Grow_known (by first | (simp only [Heap.set_same, set_ne, ne_eq, not_false_eq_true, *] <;> rfl) | fail) ?_) | (refine Grow.set ?_ (by assumption) (by first | (simp only [*] <;> done) | (simp [set_none', Heap.set_same, set_ne, noneH, *] <;> done) | fail)) | (refine Grow.trans ?_ (by assumption))))) hg
  obtain ⟨u, eu, ecu⟩ := core_get hE.symm (show x.ls[k]? = some z from hat')
  obtain ⟨uw, uh, ul⟩ := core_eq ecu
  have ylen := hE.len
  have ulv := hC.lv u (List.mem_of_getElem? eu)
  obtain ⟨yb, yo, eya, yr, -⟩ := im_row hC.ok eu
  obtain ⟨yr2, -⟩ := rd1_of_rdn (i := 2) yr (by decide)
  simp only [List.getElem?_cons_zero, List.getElem?_cons_succ] at yr2
  obtain ⟨yn, yb0, ⟨yc, ycs, ycl⟩, eyo⟩ : (((((H.set b4 _).set b6 _).set b7 _).set b8 _).set b10 _) yb = none ∧ w0.heap.size ≤ yb ∧ (∃ zz, H' yb = some ⟨.t 38, (y.ls.map LvR.row).flatten ++ zz⟩ ∧ (y.ls.map LvR.row).flatten.length + zz.length = y.cap * 3) ∧ yo = 0 := by
    rcases hC.bld with ⟨c, zz, e1, c0, cn, cs, cl⟩ | ⟨-, e⟩
    · rw [eya] at e1
      cases e1
      exact ⟨cn, c0, ⟨_, cs, cl⟩, rfl⟩
    · have := congrArg List.length e
      rw [rows_len] at this
      have h0 : y.ls.length * 3 = 0 := this
      omega
  subst eyo
  obtain ⟨tb, zt, eua, tb0, tbn, tbs, tbl⟩ : ∃ tb zt, u.a = some ⟨tb, 0, none⟩ ∧ w0.heap.size ≤ tb ∧ (((((H.set b4 _).set b6 _).set b7 _).set b8 _).set b10 _) tb = none ∧ H' tb = some ⟨.t 5, (z.l.map fun x => .int .u8 x) ++ zt⟩ ∧ z.l.length + zt.length = u.cap := by
    rcases ulv.bld with ⟨c, zz, e1, c0, cn, cs, cl⟩ | ⟨-, e⟩
    · rw [ul] at cs cl
      exact ⟨c, zz, e1, c0, cn, cs, by rw [List.length_map, Nat.mul_one] at cl; exact cl⟩
    · have := congrArg List.length e
      rw [List.length_map, ul] at this
      have h0 : z.l.length = 0 := this
      omega
  simp only [set_none'] at yn tbn
  rw [eua, ul] at yr2
  rw [Nat.zero_add] at yr2
  have ucap := ulv.ok.lc
  rw [ul] at ucap
  have ybt : yb ≠ tb := fun e => by
    subst e
    rw [ycs] at tbs
    simp at tbs
  have ef := hE.f
  have es := hE.s
  have et := hE.t
  have em := hE.mn
  have eg := hE.mg
  have d4 := yn.2.2.2.2.1.2
  rw [root5x q4 q6 q7 q8 q10]
  rw [ef, es, et, em, eg, eya, ylen]
  replace ylen : Keep _ := ylen
  replace ulv : Keep _ := ulv
  replace ucap : Keep _ := ucap
  replace tbl : Keep _ := tbl
  replace ecu : Keep _ := ecu
  replace eu : Keep _ := eu
  replace eua : Keep _ := eua
  replace ycs : Keep _ := ycs
  replace ycl : Keep _ := ycl
  replace uw : Keep _ := uw
  replace uh : Keep _ := uh
  replace ul : Keep _ := ul
  have hEl : Keep _ := hE.ls
  clear hE cF cK ef es et em eg hg
  (all_goals (try simp only [Sq,Sr,Sh,Si,Sl,Bu,Bb,Bd,Bc,Bw,Bn,Int.reduceAdd,Int.reduceSub,Int.reduceMul,Int.reduceTDiv,Int.reduceTMod,Int.reduceMod,Int.reduceDiv,Nat.reduceLT,Nat.reduceEqDiff,Sa,Sb,Sc,Sd,Se,Sf,Sg,Int.reduceLE,Int.reduceLT,Int.reduceToNat,Int.reduceNeg,Int.reduceEq,Nat.reduceLeDiff,Nat.reducePow,Int.reducePow,reduceIte,Nat.reduceSub,Nat.reduceAdd,Nat.reduceMul,putAt,ceq,List.replicate, *])); repeat' ((first | (with_reducible refine fun _ : True => ?_) | refine cR _ _ (fun bl bp bs sl sp ss nl np ns e1 e2 e3 => ?_)  | (with_reducible refine any_h ?_) | ((first | refine AllocQ_i ?_ | refine AllocO_i ?_); intro bk hb0 hbk; (try simp only [set_none'] at hbk); (try (first | have hbn := Grow.none (by assumption) hbk | have hbn := Grow.none (by assumption) hbk.2 | have hbn := Grow.none (by assumption) hbk.2.2 | have hbn := Grow.none (by assumption) hbk.2.2.2 | have hbn := Grow.none (by assumption) hbk.2.2.2.2 | have hbn := Grow.none (by assumption) hbk.2.2.2.2.2)); (try simp only [set_none'] at hbn); (try (first | have hbm := Grow.none (by assumption) hbn | have hbm := Grow.none (by assumption) hbn.2 | have hbm := Grow.none (by assumption) hbn.2.2 | have hbm := Grow.none (by assumption) hbn.2.2.2 | have hbm := Grow.none (by assumption) hbn.2.2.2.2 | have hbm := Grow.none (by assumption) hbn.2.2.2.2.2)); (try simp only [set_none'] at hbm)) | ((first | refine condS_i ?_ ?_ | refine pick_i ?_ ?_ | refine gS_it ?_ ?_ | refine gS_if ?_ ?_ | refine gP_it ?_ ?_ | refine gP_if ?_ ?_) <;> (intro hc; try simp only [Int.reduceLE,Int.reduceLT,Int.reduceEq,Sn] at hc)) | (with_reducible refine KP_i ?_ ?_; · (repeat' (first | exact Heap.Le.refl _ | (with_reducible refine Le_set2 ?_) | (refine Le_known (by first | (simp only [Heap.set_same, set_ne, ne_eq, not_false_eq_true, *] <;> rfl) | fail) ?_) | (refine Le_fresh (by first | (simp only [*] <;> done) | (simp [set_none', Heap.set_same, set_ne, noneH, *] <;> done) | fail) ?_) | (refine Heap.Le.trans ?_ (Grow.le (by assumption))) | exact Le_none | (refine Le_put ?_ (by first | (simp only [Heap.set_same, set_ne, ne_eq, not_false_eq_true, *] <;> rfl) | fail)) | fail))) | (with_reducible refine And.intro ?_ ?_)) <;> (try simp only [Sq,Sr,Sh,Si,Sl,Bu,Bb,Bd,Bc,Bw,Bn,Int.reduceAdd,Int.reduceSub,Int.reduceMul,Int.reduceTDiv,Int.reduceTMod,Int.reduceMod,Int.reduceDiv,Nat.reduceLT,Nat.reduceEqDiff,Sa,Sb,Sc,Sd,Se,Sf,Sg,Int.reduceLE,Int.reduceLT,Int.reduceToNat,Int.reduceNeg,Int.reduceEq,Nat.reduceLeDiff,Nat.reducePow,Int.reducePow,reduceIte,Nat.reduceSub,Nat.reduceAdd,Nat.reduceMul,putAt,ceq,List.replicate, *]))
  obtain ⟨b13, rfl⟩ : ∃ b13, b13 = bk := ⟨_, rfl⟩
  unfold rfQ
  dsimp only
  intro lo L hl0 hln hL
  simp only [set_none'] at nl np ns
  have n13' : H' b13 = none := hbk.2.2.2.2.2.2
  have nl' : H' bl = none := nl.2.2.2.2.2.2.2
  have np' : H' bp = none := np.2.2.2.2.2.2.2
  have ns' : H' bs = none := ns.2.2.2.2.2.2.2
  have t13 : tb ≠ b13 := fun e => by subst e; rw [tbs] at n13'; cases n13'
  have tl : tb ≠ bl := fun e => by subst e; rw [tbs] at nl'; cases nl'
  have tp : tb ≠ bp := fun e => by subst e; rw [tbs] at np'; cases np'
  have ts : tb ≠ bs := fun e => by subst e; rw [tbs] at ns'; cases ns'
  have y13 : yb ≠ b13 := fun e => by subst e; rw [show H' yb = _ from ycs] at n13'; cases n13'
  have yl : yb ≠ bl := fun e => by subst e; rw [show H' yb = _ from ycs] at nl'; cases nl'
  have yp : yb ≠ bp := fun e => by subst e; rw [show H' yb = _ from ycs] at np'; cases np'
  have ys : yb ≠ bs := fun e => by subst e; rw [show H' yb = _ from ycs] at ns'; cases ns'
  have hnl := gH'.none nl'
  have hnp := gH'.none np'
  have hns := gH'.none ns'
  have hn13 := gH'.none n13'
  generalize hF0 : ((((((((((H'.set b4 _).set b6 _).set b7 _).set b8 _).set b10 _).set b4 _).set b13 _).set bl _).set bp _).set bs _) = F0 at hln ⊢
  have gF : Grow w0 H F0 := by rw [← hF0]; exact (by (repeat' (first | exact Grow.refl _ | assumption | (refine Grow_known (by first | (simp only [Heap.set_same, set_ne, ne_eq, not_false_eq_true, *] <;> rfl) | fail) ?_) | (refine Grow.set ?_ (by assumption) (by first | (simp only [*] <;> done) | (simp [set_none', Heap.set_same, set_ne, noneH, *] <;> done) | fail)) | (refine Grow.trans ?_ (by assumption)))))
  have e4 : F0 b4 = some ⟨.t 24, [.int .i64 x.f, .slice (some ⟨yb, 0, none⟩) x.ls.length y.cap, .int .i64 x.s, .int .i64 x.t, .int .i64 x.mn, .int .i64 x.mg]⟩ := by rw [← hF0]; exact (by simp only [Heap.set_same, set_ne, ne_eq, not_false_eq_true, *] <;> rfl)
  have e7 : F0 b7 = some ⟨.t 36, [.slice ba (P * Q * S) bc]⟩ := by rw [← hF0]; exact (by simp only [Heap.set_same, set_ne, ne_eq, not_false_eq_true, *] <;> rfl)
  have e8 : F0 b8 = some ⟨.t 24, [.int .i64 0, .slice none 0 0, .int .i64 0, .int .i64 0, .int .i64 0, .int .i64 0]⟩ := by rw [← hF0]; exact (by simp only [Heap.set_same, set_ne, ne_eq, not_false_eq_true, *] <;> rfl)
  have e13 : F0 b13 = some ⟨.t 36, [.slice (some ⟨tb, 0, none⟩) z.l.length u.cap]⟩ := by rw [← hF0]; exact (by simp only [Heap.set_same, set_ne, ne_eq, not_false_eq_true, *] <;> rfl)
  have el : F0 bl = some ⟨.t 38, [.int .i64 z.w, .int .i64 z.h, .slice z.a z.l.length z.cap]⟩ := by rw [← hF0]; exact (by simp only [Heap.set_same, set_ne, ne_eq, not_false_eq_true, *] <;> rfl)
  have ep : F0 bp = some ⟨.t 49, [.int .i64 p.x, .int .i64 p.y, .int .i64 p.w, .int .i64 p.h]⟩ := by rw [← hF0]; exact (by simp only [Heap.set_same, set_ne, ne_eq, not_false_eq_true, *] <;> rfl)
  have es : F0 bs = some ⟨.t 3, [.int .i64 (S : Nat)]⟩ := by rw [← hF0]; exact (by simp only [Heap.set_same, set_ne, ne_eq, not_false_eq_true, *] <;> rfl)
  have keepF : ∀ d w, H' d = some w → d ≠ b4 → d ≠ b6 → d ≠ b7 → d ≠ b8 → d ≠ b10 → F0 d = some w := fun d w hd c4 c6 c7 c8 c10 => by
    have r13 : d ≠ b13 := fun e => by subst e; rw [hd] at n13'; cases n13'
    have rl : d ≠ bl := fun e => by subst e; rw [hd] at nl'; cases nl'
    have rp : d ≠ bp := fun e => by subst e; rw [hd] at np'; cases np'
    have rs : d ≠ bs := fun e => by subst e; rw [hd] at ns'; cases ns'
    rw [← hF0, Heap.set_other _ _ rs, Heap.set_other _ _ rp, Heap.set_other _ _ rl, Heap.set_other _ _ r13, Heap.set_other _ _ c4, Heap.set_other _ _ c10, Heap.set_other _ _ c8, Heap.set_other _ _ c7, Heap.set_other _ _ c6, Heap.set_other _ _ c4]
    exact hd
  have et : F0 tb = some ⟨.t 5, z.l.map (.int .u8) ++ zt⟩ := keepF tb _ tbs tbn.2.2.2.2.1.1 tbn.2.2.2.1.1 tbn.2.2.1.1 tbn.2.1.1 tbn.1.1
  clear hF0
  have hPQ : P * Q * S = Q * (P * S) := by rw [Nat.mul_comm P Q, Nat.mul_assoc]
  have hbQ : b.length = Q * (P * S) := by rw [← hPQ]; exact hn
  have d713 : b13 ≠ b7 := hbk.2.2.2.1.1
  have t7 : tb ≠ b7 := tbn.2.2.1.1
  have l7b : bl ≠ b7 := nl.2.2.2.2.1.1
  have p7b : bp ≠ b7 := np.2.2.2.2.1.1
  have s7b : bs ≠ b7 := ns.2.2.2.2.1.1
  have y7 : yb ≠ b7 := yn.2.2.1.1
  have d47 : b4 ≠ b7 := n7.2.1.2
  have d87 : b8 ≠ b7 := n8.1.1
  have d48 : b4 ≠ b8 := n8.2.2.1.2
  have t4 : tb ≠ b4 := tbn.2.2.2.2.1.1
  have t8 : tb ≠ b8 := tbn.2.1.1
  have y8 : yb ≠ b8 := yn.2.1.1
  have hn7 : H b7 = none := n7.2.2
  have hn8 : H b8 = none := n8.2.2.2
  have htb : H tb = none := tbn.2.2.2.2.2
  have hyb : H yb = none := yn.2.2.2.2.2
  have eyF : F0 yb = some ⟨.t 38, (y.ls.map LvR.row).flatten ++ yc⟩ := keepF yb _ ycs yn.2.2.2.2.1.1 yn.2.2.2.1.1 yn.2.2.1.1 yn.2.1.1 yn.1.1
  rw [hPQ] at e7
  have l7 : lo ≠ b7 := fun e => by subst e; rw [e7] at hln; cases hln
  have lt : lo ≠ tb := fun e => by subst e; rw [et] at hln; cases hln
  have hlH : H lo = none := gF.none hln
  have hg : PG z x.f p S W V X Y P Q := g'
  have hseg := fun j (hj : j < Q) => (seg_b hg hj).1
  have hlF : ∀ d w, F0 d = some w → d ≠ lo := fun d w hd e => by subst e; rw [hln] at hd; cases hd
  clear hbk nl np ns yn tbn n4 n6 n7 n8 hn13 hnl hnp hns nl' np' ns' n13' cS cR yr yr2 q4 q6 q7 q8 q10 t1 t2 eya
  refine c_rows1 hg (bl := bl) (bp := bp) (bs := bs) (fun j E => E lo = some ⟨.o (.loop L), []⟩ ∧ (∀ d w, F0 d = some w → d ≠ b7 → d ≠ tb → E d = some w) ∧ Grow w0 H E ∧ E tb = some ⟨.t 5, (subB z.l b S W X Y P j).map (.int .u8) ++ zt⟩ ∧
      ∃ a c, plainO a ∧ E b7 = some ⟨.t 36, [.slice a ((Q - j) * (P * S)) c]⟩ ∧ IntsAt w0 H .u8 a (b.drop (j * (P * S))) ∧ (Q - j) * (P * S) ≤ c) ?_ ?_ ?_ ?_
  · intro j E ⟨_, hk, _⟩
    exact ⟨hk _ _ el l7b (Ne.symm tl), hk _ _ ep p7b (Ne.symm tp), hk _ _ es s7b (Ne.symm ts)⟩
  · refine ⟨Heap.set_same _ _ _, fun d w hd _ _ => by rw [Heap.set_other _ _ (hlF d w hd)]; exact hd, gF.set hl0 hlH, by rw [Heap.set_other _ _ (Ne.symm lt)]; exact et, ba, bc, hb.pl, by rw [Heap.set_other _ _ (Ne.symm l7)]; exact e7, by rw [Nat.zero_mul]; exact hb.at_, ?_⟩
    have := hb.cap
    rw [Nat.sub_zero, ← hbQ]
    exact this
  · intro j E K' hj ⟨kl, hk, gE, ke, a, c, hpa, k7, hI, hc⟩ hK'
    have hst := hL.st
    obtain ⟨q1, q2, -, -, q5, q6⟩ := seg_b hg hj
    have k13 := hk _ _ e13 d713 (Ne.symm t13)
    refine hround hL kl rfl 200 ?_
    unfold putR
    simp only [List.zip_cons_cons, List.zip_nil_right, List.zip_nil_left, List.foldl_cons, List.foldl_nil]
    clear hL
    (all_goals (try simp only [Sq,Sr,Sh,Si,Sl,Bu,Bb,Bd,Bc,Bw,Bn,Int.reduceAdd,Int.reduceSub,Int.reduceMul,Int.reduceTDiv,Int.reduceTMod,Int.reduceMod,Int.reduceDiv,Nat.reduceLT,Nat.reduceEqDiff,Sa,Sb,Sc,Sd,Se,Sf,Sg,Int.reduceLE,Int.reduceLT,Int.reduceToNat,Int.reduceNeg,Int.reduceEq,Nat.reduceLeDiff,Nat.reducePow,Int.reducePow,reduceIte,Nat.reduceSub,Nat.reduceAdd,Nat.reduceMul,putAt,ceq,List.replicate, *])); repeat' ((first | (with_reducible refine fun _ : True => ?_) | (with_reducible refine any_h ?_) | ((first | refine AllocQ_i ?_ | refine AllocO_i ?_); intro bk hb0 hbk; (try simp only [set_none'] at hbk); (try (first | have hbn := Grow.none (by assumption) hbk | have hbn := Grow.none (by assumption) hbk.2 | have hbn := Grow.none (by assumption) hbk.2.2 | have hbn := Grow.none (by assumption) hbk.2.2.2 | have hbn := Grow.none (by assumption) hbk.2.2.2.2 | have hbn := Grow.none (by assumption) hbk.2.2.2.2.2)); (try simp only [set_none'] at hbn); (try (first | have hbm := Grow.none (by assumption) hbn | have hbm := Grow.none (by assumption) hbn.2 | have hbm := Grow.none (by assumption) hbn.2.2 | have hbm := Grow.none (by assumption) hbn.2.2.2 | have hbm := Grow.none (by assumption) hbn.2.2.2.2 | have hbm := Grow.none (by assumption) hbn.2.2.2.2.2)); (try simp only [set_none'] at hbm)) | ((first | refine condS_i ?_ ?_ | refine pick_i ?_ ?_ | refine gS_it ?_ ?_ | refine gS_if ?_ ?_ | refine gP_it ?_ ?_ | refine gP_if ?_ ?_) <;> (intro hc; try simp only [Int.reduceLE,Int.reduceLT,Int.reduceEq,Sn] at hc)) | (with_reducible refine KP_i ?_ ?_; · (repeat' (first | exact Heap.Le.refl _ | (with_reducible refine Le_set2 ?_) | (refine Le_known (by first | (simp only [Heap.set_same, set_ne, ne_eq, not_false_eq_true, *] <;> rfl) | fail) ?_) | (refine Le_fresh (by first | (simp only [*] <;> done) | (simp [set_none', Heap.set_same, set_ne, noneH, *] <;> done) | fail) ?_) | (refine Heap.Le.trans ?_ (Grow.le (by assumption))) | exact Le_none | (refine Le_put ?_ (by first | (simp only [Heap.set_same, set_ne, ne_eq, not_false_eq_true, *] <;> rfl) | fail)) | fail))) | (with_reducible refine And.intro ?_ ?_)) <;> (try simp only [Sq,Sr,Sh,Si,Sl,Bu,Bb,Bd,Bc,Bw,Bn,Int.reduceAdd,Int.reduceSub,Int.reduceMul,Int.reduceTDiv,Int.reduceTMod,Int.reduceMod,Int.reduceDiv,Nat.reduceLT,Nat.reduceEqDiff,Sa,Sb,Sc,Sd,Se,Sf,Sg,Int.reduceLE,Int.reduceLT,Int.reduceToNat,Int.reduceNeg,Int.reduceEq,Nat.reduceLeDiff,Nat.reducePow,Int.reducePow,reduceIte,Nat.reduceSub,Nat.reduceAdd,Nat.reduceMul,putAt,ceq,List.replicate, *]))
    refine ⟨kl, hst, ?_⟩
    have gE1 : Grow w0 H (E.set lo ⟨.o (.loop { L with state := .busy }), []⟩) := gE.set hl0 hlH
    have m1 : (E.set lo ⟨.o (.loop { L with state := .busy }), []⟩) lo = some ⟨.o (.loop { L with state := .busy }), []⟩ := Heap.set_same _ _ _
    have m7 := (Heap.set_other E ⟨.o (.loop { L with state := .busy }), []⟩ (Ne.symm l7)).trans k7
    have mt := (Heap.set_other E ⟨.o (.loop { L with state := .busy }), []⟩ (Ne.symm lt)).trans ke
    have m13 := (Heap.set_other E ⟨.o (.loop { L with state := .busy }), []⟩ (hlF _ _ e13)).trans k13
    have mk : ∀ d w, F0 d = some w → d ≠ b7 → d ≠ tb → (E.set lo ⟨.o (.loop { L with state := .busy }), []⟩) d = some w := fun d w hd h1 h2 => by rw [Heap.set_other _ _ (hlF d w hd)]; exact hk d w hd h1 h2
    generalize (E.set lo ⟨.o (.loop { L with state := .busy }), []⟩) = E1 at gE1 m1 m7 mt m13 mk ⊢
    obtain ⟨A, eA⟩ : ∃ A, segA S W X Y j = A := ⟨_, rfl⟩
    have hps : subB z.l b S W X Y P (j + 1) = putSeg (subB z.l b S W X Y P j) A ((b.drop (j * (P * S))).take (P * S)) := by rw [subB, eA]
    rw [eA] at q1 q5 ⊢
    have slen := seg_len hbQ hj
    have sbl := subB_len hbQ hseg j (by omega)
    have hmul : (Q - j) * (P * S) = (Q - (j + 1)) * (P * S) + P * S := by rw [← Nat.succ_mul]; congr 1; omega
    have ucap' : z.l.length ≤ u.cap := ucap
    have v1 : (A : Int) ≤ ((A + P * S : Nat) : Int) := by omega
    have v2 : ((A + P * S : Nat) : Int) ≤ (u.cap : Int) := by omega
    have v3 : A + P * S - A = P * S := by omega
    obtain ⟨N, eN⟩ : ∃ N, (Q - j) * (P * S) = N := ⟨_, rfl⟩
    obtain ⟨N2, eN2⟩ : ∃ N2, (Q - (j + 1)) * (P * S) = N2 := ⟨_, rfl⟩
    rw [eN, eN2] at hmul
    rw [eN] at m7 hc
    have v5 : ((P * S : Nat) : Int) ≤ (N : Int) := by omega
    have v6 : N - P * S = N2 := by omega
    have hdd : (b.drop (j * (P * S))).drop (P * S) = b.drop ((j + 1) * (P * S)) := by rw [List.drop_drop, Nat.succ_mul]
    have hbl : (b.drop (j * (P * S))).length = N := by
      rw [List.length_drop, hbQ, ← Nat.sub_mul, eN]
    have mids : ((E1.set b7 ⟨.t 36, [.slice a N c]⟩).set b13 ⟨.t 36, [.slice (some ⟨tb, 0, none⟩) z.l.length u.cap]⟩).set tb ⟨.t 5, (subB z.l b S W X Y P j).map (.int .u8) ++ zt⟩ = E1 := by
      rw [Heap.set_id E1 b7 _ m7, Heap.set_id E1 b13 _ m13, Heap.set_id E1 tb _ mt]
    have hsrd : srd w0 E1 a (P * S) = some (((b.drop (j * (P * S))).take (P * S)).map (.int .u8)) := by
      have := (SlAt.ints ((ints_take hI (P * S)).grow gE1)).srd
      rw [List.length_map, slen] at this
      exact this
    have d137 := Ne.symm d713
    have t7' := Ne.symm t7
    have t13' := Ne.symm t13
    replace hps : Keep _ := hps
    replace eN : Keep _ := eN
    replace eN2 : Keep _ := eN2
    replace slen : Keep _ := slen
    replace sbl : Keep _ := sbl
    replace hmul : Keep _ := hmul
    replace hbl : Keep _ := hbl
    replace hdd : Keep _ := hdd
    replace mids : Keep _ := mids
    replace hk : Keep _ := hk
    have l13 : lo ≠ b13 := Ne.symm (hlF _ _ e13)
    have fin : ∀ (T : List Value) (a2 : Option Addr) (c2 : Nat), plainO a2 → IntsAt w0 H .u8 a2 (b.drop ((j + 1) * (P * S))) → N2 ≤ c2 → finR lo L K' T (((E1.set b7 ⟨.t 36, [.slice a2 N2 c2]⟩).set b13 ⟨.t 36, [.slice (some ⟨tb, 0, none⟩) z.l.length u.cap]⟩).set tb ⟨.t 5, (putSeg (subB z.l b S W X Y P j) A ((b.drop (j * (P * S))).take (P * S))).map (.int .u8) ++ zt⟩) := fun T a2 c2 hp2 hI2 hc2 => by
      have kk : ∀ d w, d ≠ b7 → d ≠ tb → E1 d = some w → (((E1.set b7 ⟨.t 36, [.slice a2 N2 c2]⟩).set b13 ⟨.t 36, [.slice (some ⟨tb, 0, none⟩) z.l.length u.cap]⟩).set tb ⟨.t 5, (putSeg (subB z.l b S W X Y P j) A ((b.drop (j * (P * S))).take (P * S))).map (.int .u8) ++ zt⟩) d = some w := fun d w h1 h2 h3 => by
        rw [Heap.set_other _ _ h2]
        by_cases e : d = b13
        · subst e; rw [Heap.set_same, ← m13]; exact h3
        · rw [Heap.set_other _ _ e, Heap.set_other _ _ h1]; exact h3
      have gg : Grow w0 H (((E1.set b7 ⟨.t 36, [.slice a2 N2 c2]⟩).set b13 ⟨.t 36, [.slice (some ⟨tb, 0, none⟩) z.l.length u.cap]⟩).set tb ⟨.t 5, (putSeg (subB z.l b S W X Y P j) A ((b.drop (j * (P * S))).take (P * S))).map (.int .u8) ++ zt⟩) := by
        refine Grow.set ?_ tb0 htb
        rw [Heap.set_id _ b13 _ ((Heap.set_other _ _ d713).trans m13)]
        exact gE1.set s7 hn7
      refine ⟨kk lo _ l7 lt m1, hK' _ ⟨Heap.set_same _ _ _, fun d w hd h1 h2 => ?_, gg.set hl0 hlH, ?_, a2, c2, hp2, ?_, hI2, ?_⟩⟩
      · rw [Heap.set_other _ _ (hlF d w hd)]; exact kk d w h1 h2 (mk d w hd h1 h2)
      · rw [Heap.set_other _ _ (Ne.symm lt), Heap.set_same, show _ = putSeg _ _ _ from hps]
      · rw [Heap.set_other _ _ (Ne.symm l7), Heap.set_other _ _ t7', Heap.set_other _ _ d137, Heap.set_same, show _ = N2 from eN2]
      · rw [show _ = N2 from eN2]; exact hc2
    replace fin : Keep _ := fin
    rcases hpa with rfl | ⟨bb, oo, rfl⟩
    · have hnil : Keep (b.drop (j * (P * S)) = []) := Classical.byContradiction fun q => by
        obtain ⟨b0, o0, e, -⟩ := hI q
        cases e
      rw [root3 m7 m13 mt]
      (all_goals (try simp only [Sq,Sr,Sh,Si,Sl,Bu,Bb,Bd,Bc,Bw,Bn,Int.reduceAdd,Int.reduceSub,Int.reduceMul,Int.reduceTDiv,Int.reduceTMod,Int.reduceMod,Int.reduceDiv,Nat.reduceLT,Nat.reduceEqDiff,Sa,Sb,Sc,Sd,Se,Sf,Sg,Int.reduceLE,Int.reduceLT,Int.reduceToNat,Int.reduceNeg,Int.reduceEq,Nat.reduceLeDiff,Nat.reducePow,Int.reducePow,reduceIte,Nat.reduceSub,Nat.reduceAdd,Nat.reduceMul,putAt,ceq,List.replicate, *])); repeat' ((first | (with_reducible refine fun _ : True => ?_) | ((first | refine AllocQ_i ?_ | refine AllocO_i ?_); intro bk hb0 hbk; (try simp only [set_none'] at hbk); (try (first | have hbn := Grow.none (by assumption) hbk | have hbn := Grow.none (by assumption) hbk.2 | have hbn := Grow.none (by assumption) hbk.2.2 | have hbn := Grow.none (by assumption) hbk.2.2.2 | have hbn := Grow.none (by assumption) hbk.2.2.2.2 | have hbn := Grow.none (by assumption) hbk.2.2.2.2.2)); (try simp only [set_none'] at hbn); (try (first | have hbm := Grow.none (by assumption) hbn | have hbm := Grow.none (by assumption) hbn.2 | have hbm := Grow.none (by assumption) hbn.2.2 | have hbm := Grow.none (by assumption) hbn.2.2.2 | have hbm := Grow.none (by assumption) hbn.2.2.2.2 | have hbm := Grow.none (by assumption) hbn.2.2.2.2.2)); (try simp only [set_none'] at hbm)) | ((first | refine condS_i ?_ ?_ | refine pick_i ?_ ?_ | refine gS_it ?_ ?_ | refine gS_if ?_ ?_ | refine gP_it ?_ ?_ | refine gP_if ?_ ?_) <;> (intro hc; try simp only [Int.reduceLE,Int.reduceLT,Int.reduceEq,Sn] at hc)) | (with_reducible refine KP_i ?_ ?_; · (repeat' (first | exact Heap.Le.refl _ | (with_reducible refine Le_set2 ?_) | (refine Le_known (by first | (simp only [Heap.set_same, set_ne, ne_eq, not_false_eq_true, *] <;> rfl) | fail) ?_) | (refine Le_fresh (by first | (simp only [*] <;> done) | (simp [set_none', Heap.set_same, set_ne, noneH, *] <;> done) | fail) ?_) | (refine Heap.Le.trans ?_ (Grow.le (by assumption))) | exact Le_none | (refine Le_put ?_ (by first | (simp only [Heap.set_same, set_ne, ne_eq, not_false_eq_true, *] <;> rfl) | fail)) | fail))) | (with_reducible refine And.intro ?_ ?_)) <;> (try simp only [Sq,Sr,Sh,Si,Sl,Bu,Bb,Bd,Bc,Bw,Bn,Int.reduceAdd,Int.reduceSub,Int.reduceMul,Int.reduceTDiv,Int.reduceTMod,Int.reduceMod,Int.reduceDiv,Nat.reduceLT,Nat.reduceEqDiff,Sa,Sb,Sc,Sd,Se,Sf,Sg,Int.reduceLE,Int.reduceLT,Int.reduceToNat,Int.reduceNeg,Int.reduceEq,Nat.reduceLeDiff,Nat.reducePow,Int.reducePow,reduceIte,Nat.reduceSub,Nat.reduceAdd,Nat.reduceMul,putAt,ceq,List.replicate, *]))
      refine any_sub ((noneH.set b7 ⟨.t 36, [.slice none N c]⟩).set b13 ⟨.t 36, [.slice (some ⟨tb, 0, none⟩) z.l.length u.cap]⟩) (Le_put (Le_put Le_none (by simp only [Heap.set_same, set_ne, ne_eq, not_false_eq_true, *] <;> rfl)) (by simp only [Heap.set_same, set_ne, ne_eq, not_false_eq_true, *] <;> rfl)) ?_
      (all_goals (try simp only [Sq,Sr,Sh,Si,Sl,Bu,Bb,Bd,Bc,Bw,Bn,Int.reduceAdd,Int.reduceSub,Int.reduceMul,Int.reduceTDiv,Int.reduceTMod,Int.reduceMod,Int.reduceDiv,Nat.reduceLT,Nat.reduceEqDiff,Sa,Sb,Sc,Sd,Se,Sf,Sg,Int.reduceLE,Int.reduceLT,Int.reduceToNat,Int.reduceNeg,Int.reduceEq,Nat.reduceLeDiff,Nat.reducePow,Int.reducePow,reduceIte,Nat.reduceSub,Nat.reduceAdd,Nat.reduceMul,putAt,ceq,List.replicate, *])); repeat' ((first | (with_reducible refine fun _ : True => ?_) | (with_reducible refine any_h ?_) | ((first | refine AllocQ_i ?_ | refine AllocO_i ?_); intro bk hb0 hbk; (try simp only [set_none'] at hbk); (try (first | have hbn := Grow.none (by assumption) hbk | have hbn := Grow.none (by assumption) hbk.2 | have hbn := Grow.none (by assumption) hbk.2.2 | have hbn := Grow.none (by assumption) hbk.2.2.2 | have hbn := Grow.none (by assumption) hbk.2.2.2.2 | have hbn := Grow.none (by assumption) hbk.2.2.2.2.2)); (try simp only [set_none'] at hbn); (try (first | have hbm := Grow.none (by assumption) hbn | have hbm := Grow.none (by assumption) hbn.2 | have hbm := Grow.none (by assumption) hbn.2.2 | have hbm := Grow.none (by assumption) hbn.2.2.2 | have hbm := Grow.none (by assumption) hbn.2.2.2.2 | have hbm := Grow.none (by assumption) hbn.2.2.2.2.2)); (try simp only [set_none'] at hbm)) | ((first | refine condS_i ?_ ?_ | refine pick_i ?_ ?_ | refine gS_it ?_ ?_ | refine gS_if ?_ ?_ | refine gP_it ?_ ?_ | refine gP_if ?_ ?_) <;> (intro hc; try simp only [Int.reduceLE,Int.reduceLT,Int.reduceEq,Sn] at hc)) | (with_reducible refine KP_i ?_ ?_; · (repeat' (first | exact Heap.Le.refl _ | (with_reducible refine Le_set2 ?_) | (refine Le_known (by first | (simp only [Heap.set_same, set_ne, ne_eq, not_false_eq_true, *] <;> rfl) | fail) ?_) | (refine Le_fresh (by first | (simp only [*] <;> done) | (simp [set_none', Heap.set_same, set_ne, noneH, *] <;> done) | fail) ?_) | (refine Heap.Le.trans ?_ (Grow.le (by assumption))) | exact Le_none | (refine Le_put ?_ (by first | (simp only [Heap.set_same, set_ne, ne_eq, not_false_eq_true, *] <;> rfl) | fail)) | fail))) | (with_reducible refine And.intro ?_ ?_)) <;> (try simp only [Sq,Sr,Sh,Si,Sl,Bu,Bb,Bd,Bc,Bw,Bn,Int.reduceAdd,Int.reduceSub,Int.reduceMul,Int.reduceTDiv,Int.reduceTMod,Int.reduceMod,Int.reduceDiv,Nat.reduceLT,Nat.reduceEqDiff,Sa,Sb,Sc,Sd,Se,Sf,Sg,Int.reduceLE,Int.reduceLT,Int.reduceToNat,Int.reduceNeg,Int.reduceEq,Nat.reduceLeDiff,Nat.reducePow,Int.reducePow,reduceIte,Nat.reduceSub,Nat.reduceAdd,Nat.reduceMul,putAt,ceq,List.replicate, *]))
      refine cpy_seg (A := A) (n := P * S) (m := N) (l := subB z.l b S W X Y P j) (sg := (b.drop (j * (P * S))).take (P * S)) (zz := zt) (Heap.set_same _ _ _) (by rw [show _ = E1 from mids]; exact hsrd) slen (by omega) (by rw [show _ = z.l.length from sbl]; exact q1) (o' := if u.cap = A then 0 else A) (fun hp => by rw [if_neg (by omega)]) ?_
      (all_goals (try simp only [Sq,Sr,Sh,Si,Sl,Bu,Bb,Bd,Bc,Bw,Bn,Int.reduceAdd,Int.reduceSub,Int.reduceMul,Int.reduceTDiv,Int.reduceTMod,Int.reduceMod,Int.reduceDiv,Nat.reduceLT,Nat.reduceEqDiff,Sa,Sb,Sc,Sd,Se,Sf,Sg,Int.reduceLE,Int.reduceLT,Int.reduceToNat,Int.reduceNeg,Int.reduceEq,Nat.reduceLeDiff,Nat.reducePow,Int.reducePow,reduceIte,Nat.reduceSub,Nat.reduceAdd,Nat.reduceMul,putAt,ceq,List.replicate, *])); repeat' ((first | (with_reducible refine fun _ : True => ?_) | (with_reducible refine any_h ?_) | ((first | refine AllocQ_i ?_ | refine AllocO_i ?_); intro bk hb0 hbk; (try simp only [set_none'] at hbk); (try (first | have hbn := Grow.none (by assumption) hbk | have hbn := Grow.none (by assumption) hbk.2 | have hbn := Grow.none (by assumption) hbk.2.2 | have hbn := Grow.none (by assumption) hbk.2.2.2 | have hbn := Grow.none (by assumption) hbk.2.2.2.2 | have hbn := Grow.none (by assumption) hbk.2.2.2.2.2)); (try simp only [set_none'] at hbn); (try (first | have hbm := Grow.none (by assumption) hbn | have hbm := Grow.none (by assumption) hbn.2 | have hbm := Grow.none (by assumption) hbn.2.2 | have hbm := Grow.none (by assumption) hbn.2.2.2 | have hbm := Grow.none (by assumption) hbn.2.2.2.2 | have hbm := Grow.none (by assumption) hbn.2.2.2.2.2)); (try simp only [set_none'] at hbm)) | ((first | refine condS_i ?_ ?_ | refine pick_i ?_ ?_ | refine gS_it ?_ ?_ | refine gS_if ?_ ?_ | refine gP_it ?_ ?_ | refine gP_if ?_ ?_) <;> (intro hc; try simp only [Int.reduceLE,Int.reduceLT,Int.reduceEq,Sn] at hc)) | (with_reducible refine KP_i ?_ ?_; · (repeat' (first | exact Heap.Le.refl _ | (with_reducible refine Le_set2 ?_) | (refine Le_known (by first | (simp only [Heap.set_same, set_ne, ne_eq, not_false_eq_true, *] <;> rfl) | fail) ?_) | (refine Le_fresh (by first | (simp only [*] <;> done) | (simp [set_none', Heap.set_same, set_ne, noneH, *] <;> done) | fail) ?_) | (refine Heap.Le.trans ?_ (Grow.le (by assumption))) | exact Le_none | (refine Le_put ?_ (by first | (simp only [Heap.set_same, set_ne, ne_eq, not_false_eq_true, *] <;> rfl) | fail)) | fail))) | (with_reducible refine And.intro ?_ ?_)) <;> (try simp only [Sq,Sr,Sh,Si,Sl,Bu,Bb,Bd,Bc,Bw,Bn,Int.reduceAdd,Int.reduceSub,Int.reduceMul,Int.reduceTDiv,Int.reduceTMod,Int.reduceMod,Int.reduceDiv,Nat.reduceLT,Nat.reduceEqDiff,Sa,Sb,Sc,Sd,Se,Sf,Sg,Int.reduceLE,Int.reduceLT,Int.reduceToNat,Int.reduceNeg,Int.reduceEq,Nat.reduceLeDiff,Nat.reducePow,Int.reducePow,reduceIte,Nat.reduceSub,Nat.reduceAdd,Nat.reduceMul,putAt,ceq,List.replicate, *]))
      refine (show ∀ T a2 c2, _ → _ → _ → _ from fin) _ none (c - P * S) (.inl rfl) ?_ (by have := (show N = N2 + P * S from hmul); omega)
      rw [← show _ = _ from hdd, show _ = [] from hnil]
      intro q
      simp at q
    · rw [root3 m7 m13 mt]
      (all_goals (try simp only [Sq,Sr,Sh,Si,Sl,Bu,Bb,Bd,Bc,Bw,Bn,Int.reduceAdd,Int.reduceSub,Int.reduceMul,Int.reduceTDiv,Int.reduceTMod,Int.reduceMod,Int.reduceDiv,Nat.reduceLT,Nat.reduceEqDiff,Sa,Sb,Sc,Sd,Se,Sf,Sg,Int.reduceLE,Int.reduceLT,Int.reduceToNat,Int.reduceNeg,Int.reduceEq,Nat.reduceLeDiff,Nat.reducePow,Int.reducePow,reduceIte,Nat.reduceSub,Nat.reduceAdd,Nat.reduceMul,putAt,ceq,List.replicate, *])); repeat' ((first | (with_reducible refine fun _ : True => ?_) | ((first | refine AllocQ_i ?_ | refine AllocO_i ?_); intro bk hb0 hbk; (try simp only [set_none'] at hbk); (try (first | have hbn := Grow.none (by assumption) hbk | have hbn := Grow.none (by assumption) hbk.2 | have hbn := Grow.none (by assumption) hbk.2.2 | have hbn := Grow.none (by assumption) hbk.2.2.2 | have hbn := Grow.none (by assumption) hbk.2.2.2.2 | have hbn := Grow.none (by assumption) hbk.2.2.2.2.2)); (try simp only [set_none'] at hbn); (try (first | have hbm := Grow.none (by assumption) hbn | have hbm := Grow.none (by assumption) hbn.2 | have hbm := Grow.none (by assumption) hbn.2.2 | have hbm := Grow.none (by assumption) hbn.2.2.2 | have hbm := Grow.none (by assumption) hbn.2.2.2.2 | have hbm := Grow.none (by assumption) hbn.2.2.2.2.2)); (try simp only [set_none'] at hbm)) | ((first | refine condS_i ?_ ?_ | refine pick_i ?_ ?_ | refine gS_it ?_ ?_ | refine gS_if ?_ ?_ | refine gP_it ?_ ?_ | refine gP_if ?_ ?_) <;> (intro hc; try simp only [Int.reduceLE,Int.reduceLT,Int.reduceEq,Sn] at hc)) | (with_reducible refine KP_i ?_ ?_; · (repeat' (first | exact Heap.Le.refl _ | (with_reducible refine Le_set2 ?_) | (refine Le_known (by first | (simp only [Heap.set_same, set_ne, ne_eq, not_false_eq_true, *] <;> rfl) | fail) ?_) | (refine Le_fresh (by first | (simp only [*] <;> done) | (simp [set_none', Heap.set_same, set_ne, noneH, *] <;> done) | fail) ?_) | (refine Heap.Le.trans ?_ (Grow.le (by assumption))) | exact Le_none | (refine Le_put ?_ (by first | (simp only [Heap.set_same, set_ne, ne_eq, not_false_eq_true, *] <;> rfl) | fail)) | fail))) | (with_reducible refine And.intro ?_ ?_)) <;> (try simp only [Sq,Sr,Sh,Si,Sl,Bu,Bb,Bd,Bc,Bw,Bn,Int.reduceAdd,Int.reduceSub,Int.reduceMul,Int.reduceTDiv,Int.reduceTMod,Int.reduceMod,Int.reduceDiv,Nat.reduceLT,Nat.reduceEqDiff,Sa,Sb,Sc,Sd,Se,Sf,Sg,Int.reduceLE,Int.reduceLT,Int.reduceToNat,Int.reduceNeg,Int.reduceEq,Nat.reduceLeDiff,Nat.reducePow,Int.reducePow,reduceIte,Nat.reduceSub,Nat.reduceAdd,Nat.reduceMul,putAt,ceq,List.replicate, *]))
      refine any_sub ((noneH.set b7 ⟨.t 36, [.slice (some ⟨bb, oo, none⟩) N c]⟩).set b13 ⟨.t 36, [.slice (some ⟨tb, 0, none⟩) z.l.length u.cap]⟩) (Le_put (Le_put Le_none (by simp only [Heap.set_same, set_ne, ne_eq, not_false_eq_true, *] <;> rfl)) (by simp only [Heap.set_same, set_ne, ne_eq, not_false_eq_true, *] <;> rfl)) ?_
      (all_goals (try simp only [Sq,Sr,Sh,Si,Sl,Bu,Bb,Bd,Bc,Bw,Bn,Int.reduceAdd,Int.reduceSub,Int.reduceMul,Int.reduceTDiv,Int.reduceTMod,Int.reduceMod,Int.reduceDiv,Nat.reduceLT,Nat.reduceEqDiff,Sa,Sb,Sc,Sd,Se,Sf,Sg,Int.reduceLE,Int.reduceLT,Int.reduceToNat,Int.reduceNeg,Int.reduceEq,Nat.reduceLeDiff,Nat.reducePow,Int.reducePow,reduceIte,Nat.reduceSub,Nat.reduceAdd,Nat.reduceMul,putAt,ceq,List.replicate, *])); repeat' ((first | (with_reducible refine fun _ : True => ?_) | (with_reducible refine any_h ?_) | ((first | refine AllocQ_i ?_ | refine AllocO_i ?_); intro bk hb0 hbk; (try simp only [set_none'] at hbk); (try (first | have hbn := Grow.none (by assumption) hbk | have hbn := Grow.none (by assumption) hbk.2 | have hbn := Grow.none (by assumption) hbk.2.2 | have hbn := Grow.none (by assumption) hbk.2.2.2 | have hbn := Grow.none (by assumption) hbk.2.2.2.2 | have hbn := Grow.none (by assumption) hbk.2.2.2.2.2)); (try simp only [set_none'] at hbn); (try (first | have hbm := Grow.none (by assumption) hbn | have hbm := Grow.none (by assumption) hbn.2 | have hbm := Grow.none (by assumption) hbn.2.2 | have hbm := Grow.none (by assumption) hbn.2.2.2 | have hbm := Grow.none (by assumption) hbn.2.2.2.2 | have hbm := Grow.none (by assumption) hbn.2.2.2.2.2)); (try simp only [set_none'] at hbm)) | ((first | refine condS_i ?_ ?_ | refine pick_i ?_ ?_ | refine gS_it ?_ ?_ | refine gS_if ?_ ?_ | refine gP_it ?_ ?_ | refine gP_if ?_ ?_) <;> (intro hc; try simp only [Int.reduceLE,Int.reduceLT,Int.reduceEq,Sn] at hc)) | (with_reducible refine KP_i ?_ ?_; · (repeat' (first | exact Heap.Le.refl _ | (with_reducible refine Le_set2 ?_) | (refine Le_known (by first | (simp only [Heap.set_same, set_ne, ne_eq, not_false_eq_true, *] <;> rfl) | fail) ?_) | (refine Le_fresh (by first | (simp only [*] <;> done) | (simp [set_none', Heap.set_same, set_ne, noneH, *] <;> done) | fail) ?_) | (refine Heap.Le.trans ?_ (Grow.le (by assumption))) | exact Le_none | (refine Le_put ?_ (by first | (simp only [Heap.set_same, set_ne, ne_eq, not_false_eq_true, *] <;> rfl) | fail)) | fail))) | (with_reducible refine And.intro ?_ ?_)) <;> (try simp only [Sq,Sr,Sh,Si,Sl,Bu,Bb,Bd,Bc,Bw,Bn,Int.reduceAdd,Int.reduceSub,Int.reduceMul,Int.reduceTDiv,Int.reduceTMod,Int.reduceMod,Int.reduceDiv,Nat.reduceLT,Nat.reduceEqDiff,Sa,Sb,Sc,Sd,Se,Sf,Sg,Int.reduceLE,Int.reduceLT,Int.reduceToNat,Int.reduceNeg,Int.reduceEq,Nat.reduceLeDiff,Nat.reducePow,Int.reducePow,reduceIte,Nat.reduceSub,Nat.reduceAdd,Nat.reduceMul,putAt,ceq,List.replicate, *]))
      refine cpy_seg (A := A) (n := P * S) (m := N) (l := subB z.l b S W X Y P j) (sg := (b.drop (j * (P * S))).take (P * S)) (zz := zt) (Heap.set_same _ _ _) (by rw [show _ = E1 from mids]; exact hsrd) slen (by omega) (by rw [show _ = z.l.length from sbl]; exact q1) (o' := if u.cap = A then 0 else A) (fun hp => by rw [if_neg (by omega)]) ?_
      (all_goals (try simp only [Sq,Sr,Sh,Si,Sl,Bu,Bb,Bd,Bc,Bw,Bn,Int.reduceAdd,Int.reduceSub,Int.reduceMul,Int.reduceTDiv,Int.reduceTMod,Int.reduceMod,Int.reduceDiv,Nat.reduceLT,Nat.reduceEqDiff,Sa,Sb,Sc,Sd,Se,Sf,Sg,Int.reduceLE,Int.reduceLT,Int.reduceToNat,Int.reduceNeg,Int.reduceEq,Nat.reduceLeDiff,Nat.reducePow,Int.reducePow,reduceIte,Nat.reduceSub,Nat.reduceAdd,Nat.reduceMul,putAt,ceq,List.replicate, *])); repeat' ((first | (with_reducible refine fun _ : True => ?_) | (with_reducible refine any_h ?_) | ((first | refine AllocQ_i ?_ | refine AllocO_i ?_); intro bk hb0 hbk; (try simp only [set_none'] at hbk); (try (first | have hbn := Grow.none (by assumption) hbk | have hbn := Grow.none (by assumption) hbk.2 | have hbn := Grow.none (by assumption) hbk.2.2 | have hbn := Grow.none (by assumption) hbk.2.2.2 | have hbn := Grow.none (by assumption) hbk.2.2.2.2 | have hbn := Grow.none (by assumption) hbk.2.2.2.2.2)); (try simp only [set_none'] at hbn); (try (first | have hbm := Grow.none (by assumption) hbn | have hbm := Grow.none (by assumption) hbn.2 | have hbm := Grow.none (by assumption) hbn.2.2 | have hbm := Grow.none (by assumption) hbn.2.2.2 | have hbm := Grow.none (by assumption) hbn.2.2.2.2 | have hbm := Grow.none (by assumption) hbn.2.2.2.2.2)); (try simp only [set_none'] at hbm)) | ((first | refine condS_i ?_ ?_ | refine pick_i ?_ ?_ | refine gS_it ?_ ?_ | refine gS_if ?_ ?_ | refine gP_it ?_ ?_ | refine gP_if ?_ ?_) <;> (intro hc; try simp only [Int.reduceLE,Int.reduceLT,Int.reduceEq,Sn] at hc)) | (with_reducible refine KP_i ?_ ?_; · (repeat' (first | exact Heap.Le.refl _ | (with_reducible refine Le_set2 ?_) | (refine Le_known (by first | (simp only [Heap.set_same, set_ne, ne_eq, not_false_eq_true, *] <;> rfl) | fail) ?_) | (refine Le_fresh (by first | (simp only [*] <;> done) | (simp [set_none', Heap.set_same, set_ne, noneH, *] <;> done) | fail) ?_) | (refine Heap.Le.trans ?_ (Grow.le (by assumption))) | exact Le_none | (refine Le_put ?_ (by first | (simp only [Heap.set_same, set_ne, ne_eq, not_false_eq_true, *] <;> rfl) | fail)) | fail))) | (with_reducible refine And.intro ?_ ?_)) <;> (try simp only [Sq,Sr,Sh,Si,Sl,Bu,Bb,Bd,Bc,Bw,Bn,Int.reduceAdd,Int.reduceSub,Int.reduceMul,Int.reduceTDiv,Int.reduceTMod,Int.reduceMod,Int.reduceDiv,Nat.reduceLT,Nat.reduceEqDiff,Sa,Sb,Sc,Sd,Se,Sf,Sg,Int.reduceLE,Int.reduceLT,Int.reduceToNat,Int.reduceNeg,Int.reduceEq,Nat.reduceLeDiff,Nat.reducePow,Int.reducePow,reduceIte,Nat.reduceSub,Nat.reduceAdd,Nat.reduceMul,putAt,ceq,List.replicate, *]))
      refine (show ∀ T a2 c2, _ → _ → _ → _ from fin) _ (some ⟨bb, if c = P * S then oo else oo + P * S, none⟩) (c - P * S) (.inr ⟨_, _, rfl⟩) ?_ (by have := (show N = N2 + P * S from hmul); omega)
      rw [← show _ = _ from hdd]
      have hbl' : (b.drop (j * (P * S))).length = N := hbl
      have hmul' : N = N2 + P * S := hmul
      by_cases hN : N2 = 0
      · rw [List.drop_of_length_le (by omega)]
        intro q
        simp at q
      · rw [if_neg (by omega)]
        exact bs_drop hI rfl (by omega) (by omega)
  · intro E ⟨kl, hk, gE, ke, _⟩
    refine ⟨kl, fun ob => ?_⟩
    have m4 := (Heap.set_other E ⟨.o ob, []⟩ (hlF _ _ e4)).trans (hk _ _ e4 d47 (Ne.symm t4))
    have m8 := (Heap.set_other E ⟨.o ob, []⟩ (hlF _ _ e8)).trans (hk _ _ e8 d87 (Ne.symm t8))
    have mt := (Heap.set_other E ⟨.o ob, []⟩ (Ne.symm lt)).trans ke
    have mk : ∀ d w, F0 d = some w → d ≠ b7 → d ≠ tb → (E.set lo ⟨.o ob, []⟩) d = some w := fun d w hd h1 h2 => by rw [Heap.set_other _ _ (hlF d w hd)]; exact hk d w hd h1 h2
    have gE1 : Grow w0 H (E.set lo ⟨.o ob, []⟩) := gE.set hl0 hlH
    generalize (E.set lo ⟨.o ob, []⟩) = E1 at m4 m8 mt mk gE1 ⊢
    have sbl := subB_len hbQ hseg Q (Nat.le_refl _)
    have ul' : u.l = z.l := ul
    have eu' : y.ls[k]? = some u := eu
    have kyl := (List.getElem?_eq_some_iff.1 eu').1
    obtain ⟨u', eu2⟩ : ∃ u' : LvR, u' = ⟨u.w, u.h, u.a, u.cap, subB z.l b S W X Y P Q⟩ := ⟨_, rfl⟩
    have urow : u'.row = u.row := by rw [eu2]; unfold LvR.row; simp only; rw [sbl, ul']
    have hset : (y.ls.set k u').map LvR.row = y.ls.map LvR.row := by
      rw [List.map_set, urow]
      apply List.ext_getElem?
      intro i
      rw [List.getElem?_set]
      split
      · rename_i e; subst e
        split
        · rw [List.getElem?_map, eu']; rfl
        · rename_i hh; rw [List.length_map] at hh; exact (hh kyl).elim
      · rfl
    have ylen' : y.ls.length = x.ls.length := ylen
    have hlen : (y.ls.set k u').length = x.ls.length := by rw [List.length_set, ylen']
    have tbl' : z.l.length + zt.length = u.cap := tbl
    have gZ : Grow w0 H (E1.set b8 ⟨.t 24, [.int .i64 x.f, .slice (some ⟨yb, 0, none⟩) x.ls.length y.cap, .int .i64 x.s, .int .i64 x.t, .int .i64 x.mn, .int .i64 x.mg]⟩) := gE1.set s8 hn8
    have mk8 : ∀ d w, F0 d = some w → d ≠ b7 → d ≠ tb → d ≠ b8 → (E1.set b8 ⟨.t 24, [.int .i64 x.f, .slice (some ⟨yb, 0, none⟩) x.ls.length y.cap, .int .i64 x.s, .int .i64 x.t, .int .i64 x.mn, .int .i64 x.mg]⟩) d = some w := fun d w hd h1 h2 h3 => by rw [Heap.set_other _ _ h3]; exact mk d w hd h1 h2
    have mt8 := (Heap.set_other E1 ⟨.t 24, [.int .i64 x.f, .slice (some ⟨yb, 0, none⟩) x.ls.length y.cap, .int .i64 x.s, .int .i64 x.t, .int .i64 x.mn, .int .i64 x.mg]⟩ t8).trans mt
    have fin := (show ∀ y H', SubOk x k z b S W X Y P Q y → _ → _ → _ from h') ⟨x.f, some ⟨yb, 0, none⟩, y.cap, y.ls.set k u', x.s, x.t, x.mn, x.mg⟩ (E1.set b8 ⟨.t 24, [.int .i64 x.f, .slice (some ⟨yb, 0, none⟩) x.ls.length y.cap, .int .i64 x.s, .int .i64 x.t, .int .i64 x.mn, .int .i64 x.mg]⟩)
      ⟨rfl, rfl, rfl, rfl, rfl, by
        show (y.ls.set k u').map LvR.core = _
        rw [List.map_set, show y.ls.map LvR.core = x.ls.map LvR.core from hEl, eu2]
        congr 1
        show (u.w, u.h, _) = _
        rw [show u.w = z.w from uw, show u.h = z.h from uh]⟩
      (by
        refine ⟨.inl ⟨yb, yc, rfl, yb0, hyb, ?_, ?_⟩, fun w hw => ?_, ?_, ?_, hxi.1, hxi.2.1, hxi.2.2.1, hxi.2.2.2.1, hxi.2.2.2.2⟩
        · rw [hset]; exact mk8 yb _ eyF y7 ybt y8
        · rw [hset]; exact ycl
        · obtain ⟨i, hi⟩ := List.mem_iff_getElem?.1 hw
          have hi : (y.ls.set k u')[i]? = some w := hi
          rw [List.getElem?_set] at hi
          have ulv' : LvC w0 _ H' u := ulv
          split at hi
          · cases hi
            rw [eu2]
            have lm := ulv'.lm
            have lr := ulv'.lr
            rw [ul'] at lm lr
            exact ⟨.inl ⟨tb, zt, eua, tb0, htb, mt8, by rw [List.length_map, sbl, Nat.mul_one]; exact tbl'⟩, by show (subB z.l b S W X Y P Q).length ≤ _; rw [sbl]; exact lm, by show (subB z.l b S W X Y P Q).length ≤ _; rw [sbl]; exact lr, ulv'.w, ulv'.h, subB_by (fun v hv => by have := ulv'.by_ v (by rw [ul']; exact hv); exact this) hb.by_ S W X Y P Q⟩
          · rename_i hne
            have hw2 := hC.lv w (List.mem_of_getElem? hi)
            refine ⟨?_, hw2.lm, hw2.lr, hw2.w, hw2.h, hw2.by_⟩
            rcases hw2.bld with ⟨c, zz, f1, c0, cn, cs, cl⟩ | q
            · simp only [set_none'] at cn
              by_cases e : c = tb
              · subst e
                have hnil : w.l = [] := by
                  have hup : ¬ u.l = [] := fun q => by rw [ul'] at q; rw [q] at hpos; simp at hpos
                  rcases Nat.lt_or_ge i k with q | q
                  · exact (hD i k w u c hi eu' q f1 eua).resolve_right hup
                  · exact (hD k i u w c eu' hi (by omega) eua f1).resolve_left hup
                rw [hnil] at cs cl ⊢
                simp only [List.map_nil, List.nil_append, List.length_nil, Nat.zero_add] at cs cl ⊢
                rw [tbs] at cs
                cases cs
                refine .inl ⟨c, (subB z.l b S W X Y P Q).map (.int .u8) ++ zt, f1, c0, htb, mt8, ?_⟩
                rw [List.length_nil, Nat.zero_add, ← cl, List.length_append, List.length_append, List.length_map, List.length_map, sbl]
              · exact .inl ⟨c, zz, f1, c0, cn.2.2.2.2.2, mk8 c _ (keepF c _ cs cn.2.2.2.2.1.1 cn.2.2.2.1.1 cn.2.2.1.1 cn.2.1.1 cn.1.1) cn.2.2.1.1 e cn.2.1.1, cl⟩
            · exact .inr q
        · show (y.ls.set k u').length ≤ _; rw [List.length_set]; exact hC.lm
        · show (y.ls.set k u').length * 40 ≤ _; rw [List.length_set]; exact hC.lr) gZ
    unfold Im.v at fin
    simp only [hlen] at fin
    clear hL h'
    have d84 := Ne.symm d48
    rw [root2 d48 m4 m8]
    (all_goals (try simp only [Sq,Sr,Sh,Si,Sl,Bu,Bb,Bd,Bc,Bw,Bn,Int.reduceAdd,Int.reduceSub,Int.reduceMul,Int.reduceTDiv,Int.reduceTMod,Int.reduceMod,Int.reduceDiv,Nat.reduceLT,Nat.reduceEqDiff,Sa,Sb,Sc,Sd,Se,Sf,Sg,Int.reduceLE,Int.reduceLT,Int.reduceToNat,Int.reduceNeg,Int.reduceEq,Nat.reduceLeDiff,Nat.reducePow,Int.reducePow,reduceIte,Nat.reduceSub,Nat.reduceAdd,Nat.reduceMul,putAt,ceq,List.replicate, *])); repeat' ((first | (with_reducible refine fun _ : True => ?_) | (with_reducible refine any_h ?_) | ((first | refine AllocQ_i ?_ | refine AllocO_i ?_); intro bk hb0 hbk; (try simp only [set_none'] at hbk); (try (first | have hbn := Grow.none (by assumption) hbk | have hbn := Grow.none (by assumption) hbk.2 | have hbn := Grow.none (by assumption) hbk.2.2 | have hbn := Grow.none (by assumption) hbk.2.2.2 | have hbn := Grow.none (by assumption) hbk.2.2.2.2 | have hbn := Grow.none (by assumption) hbk.2.2.2.2.2)); (try simp only [set_none'] at hbn); (try (first | have hbm := Grow.none (by assumption) hbn | have hbm := Grow.none (by assumption) hbn.2 | have hbm := Grow.none (by assumption) hbn.2.2 | have hbm := Grow.none (by assumption) hbn.2.2.2 | have hbm := Grow.none (by assumption) hbn.2.2.2.2 | have hbm := Grow.none (by assumption) hbn.2.2.2.2.2)); (try simp only [set_none'] at hbm)) | ((first | refine condS_i ?_ ?_ | refine pick_i ?_ ?_ | refine gS_it ?_ ?_ | refine gS_if ?_ ?_ | refine gP_it ?_ ?_ | refine gP_if ?_ ?_) <;> (intro hc; try simp only [Int.reduceLE,Int.reduceLT,Int.reduceEq,Sn] at hc)) | (with_reducible refine KP_i ?_ ?_; · (repeat' (first | exact Heap.Le.refl _ | (with_reducible refine Le_set2 ?_) | (refine Le_known (by first | (simp only [Heap.set_same, set_ne, ne_eq, not_false_eq_true, *] <;> rfl) | fail) ?_) | (refine Le_fresh (by first | (simp only [*] <;> done) | (simp [set_none', Heap.set_same, set_ne, noneH, *] <;> done) | fail) ?_) | (refine Heap.Le.trans ?_ (Grow.le (by assumption))) | exact Le_none | (refine Le_put ?_ (by first | (simp only [Heap.set_same, set_ne, ne_eq, not_false_eq_true, *] <;> rfl) | fail)) | fail))) | (with_reducible refine And.intro ?_ ?_)) <;> (try simp only [Sq,Sr,Sh,Si,Sl,Bu,Bb,Bd,Bc,Bw,Bn,Int.reduceAdd,Int.reduceSub,Int.reduceMul,Int.reduceTDiv,Int.reduceTMod,Int.reduceMod,Int.reduceDiv,Nat.reduceLT,Nat.reduceEqDiff,Sa,Sb,Sc,Sd,Se,Sf,Sg,Int.reduceLE,Int.reduceLT,Int.reduceToNat,Int.reduceNeg,Int.reduceEq,Nat.reduceLeDiff,Nat.reducePow,Int.reducePow,reduceIte,Nat.reduceSub,Nat.reduceAdd,Nat.reduceMul,putAt,ceq,List.replicate, *]))
    exact Fin_mk (by (repeat' (first | exact Heap.Le.refl _ | (with_reducible refine Le_set2 ?_) | (refine Le_known (by first | (simp only [Heap.set_same, set_ne, ne_eq, not_false_eq_true, *] <;> rfl) | fail) ?_) | (refine Le_fresh (by first | (simp only [*] <;> done) | (simp [set_none', Heap.set_same, set_ne, noneH, *] <;> done) | fail) ?_) | (refine Heap.Le.trans ?_ (Grow.le (by assumption))) | exact Le_none | (refine Le_put ?_ (by first | (simp only [Heap.set_same, set_ne, ne_eq, not_false_eq_true, *] <;> rfl) | fail)) | fail))) fin
end Go.Proofs.Ytdaipgnhconfnaa
