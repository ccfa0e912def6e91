/- Levels are made, by the program (layer 8). -/
import Derived.Test.YtdaipgnhconfnaaIpg
import Derived.Test.YtdaipgnhconfnaaIpd
import Derived.Test.YtdaipgnhconfnaaInf
set_option linter.unusedSimpArgs false
set_option linter.unusedVariables false
set_option maxRecDepth 100000
set_option maxHeartbeats 4000000
namespace Go.Proofs.Ytdaipgnhconfnaa
open Go Go.HL Go.RowKit Pb
variable {w0 : World} {H G : Heap} {K : Value → Heap → Prop}

theorem one_ok {x : Im} (hx : ImOk w0 H x) {z : LvR} (ez : x.ls[0]? = some z) : ImOk w0 H { x with ls := [z] } := by
  have hp := (List.getElem?_eq_some_iff.1 ez).1
  obtain ⟨b, o, ea, hrd, hf⟩ := first_at hx ez
  refine ⟨fun _ => ⟨b, o, ea, fun i hi => ?_⟩, fun y hy => ?_, ?_, ?_, ?_, hx.f, hx.s, hx.t, hx.mn, hx.mg⟩
  · have hi : i < 3 := hi
    have := (rd1_of_rdn (i := i) hrd hi).1
    rw [this]; simp [LvR.row]
  · simp at hy; subst hy; exact hx.lv _ (List.mem_of_getElem? ez)
  · have := hx.lc; simp only [List.length_cons, List.length_nil]; omega
  · have := hx.lm; simp only [List.length_cons, List.length_nil]; omega
  · simp only [List.length_cons, List.length_nil]; omega
/-- What Generate keeps while it runs. -/
structure GSt (w0 : World) (H H5 F : Heap) (b1 b2 b5 : Nat) (x : Im) (C : List Core) (n : Nat) (pre : List LvR) (last cur : LvR) (a : Option Addr) (cap : Nat) : Prop where
  k1 : F b1 = some ⟨.t 24, [.int .i64 x.f, .slice a (pre.length + 1) cap, .int .i64 x.s, .int .i64 x.t, .int .i64 x.mn, .int .i64 x.mg]⟩
  k2 : F b2 = some ⟨.t 24, [.int .i64 0, .slice none 0 0, .int .i64 0, .int .i64 0, .int .i64 0, .int .i64 0]⟩
  k5 : F b5 = some ⟨.t 38, [.int .i64 cur.w, .int .i64 cur.h, .slice cur.a cur.l.length cur.cap]⟩
  lx : LX w0 H5 F a cap (pre ++ [last])
  g : Grow w0 H F
  cu : LvOk w0 F cur
  co : last.core = cur.core
  lg : LvG x.f cur.core
  bw : cur.w ≤ 2 ^ n
  bh : cur.h ≤ 2 ^ n
  eC : C = pre.map LvR.core ++ genL x.f n cur.core
  pl : pre.length + n ≤ 6
theorem c_Gen_ok (x : Im) (hx : ImOk w0 H x) (z : LvR) (hr : x.right) (ez : x.ls[0]? = some z) (hn : ¬ z.nil) (pw : powP z.w) (ph : powP z.h) (h : ∀ y H', GenOk x y → ImC w0 H H' y → Grow w0 H H' → K (.tuple #[y.v, .int .i64 0]) H') :
    HCalls Try.prog w0 15 [x.v] H K := by
  have cC : ∀ (G : Heap) (K : Value → Heap → Prop), Grow w0 H G → K (.int .i64 0) G → HCalls Try.prog w0 19 [x.v] G K := fun G K g hk => c_Check x (hx.grow g) (by rw [if_pos hr]; exact hk)
  have hp := (List.getElem?_eq_some_iff.1 ez).1
  have e0 : ¬ (x.ls.length : Int) = 0 := by omega
  have e1 : (0 : Int) < (x.ls.length : Int) := by omega
  have e2 : (1 : Int) ≤ (x.cap : Int) := by have := hx.lc; omega
  obtain ⟨b, o, ea, hrd, hf⟩ := first_at hx ez
  obtain ⟨s1, s2, s3⟩ := first_side hr ez hn
  have hsz : sizeI x.f ≠ 0 := (hr.2.2.1 _ (List.getElem?_eq_getElem (by omega))).1
  have cn : ∀ (G : Heap) (K : Value → Heap → Prop), K (.bool false) G → HCalls Try.prog w0 39 [.agg #[.int .i64 z.w, .int .i64 z.h, .slice z.a z.l.length z.cap]] G K := fun G K hk => c_inone z (by rw [decide_eq_false hn]; exact hk)
  have c1 : ∀ (G : Heap) (K : Value → Heap → Prop), K (.bool true) G → HCalls Try.prog w0 40 [.int .i64 z.w] G K := fun G K hk => c_power _ s1 (fun _ => hk) (fun q => (q pw).elim)
  have c2 : ∀ (G : Heap) (K : Value → Heap → Prop), K (.bool true) G → HCalls Try.prog w0 40 [.int .i64 z.h] G K := fun G K hk => c_power _ s2 (fun _ => hk) (fun q => (q ph).elim)
  have hx1 := one_ok hx ez
  have cK : ∀ (G : Heap) (K : Value → Heap → Prop), Grow w0 H G → (∀ y H', Im.Eqv { x with ls := [z] } y → ImC w0 G H' y → Grow w0 G H' → K y.v H') → HCalls Try.prog w0 41 [.agg #[.int .i64 x.f, .slice (some ⟨b, o, none⟩) 1 x.cap, .int .i64 x.s, .int .i64 x.t, .int .i64 x.mn, .int .i64 x.mg]] G K := fun G K g hk => by
    have := c_clone (K := K) _ (hx1.grow g) hk
    unfold Im.v at this
    rw [ea] at this
    exact this
  have hlz := hx.lv z (List.mem_of_getElem? ez)
  have hxf := hx.f
  have lgz : LvG x.f z.core := ⟨pw, ph, s3⟩
  have hb64 := pow_b pw
  have hh64 := pow_b ph
  have hxs : I64 x.s ∧ I64 x.t ∧ I64 x.mn ∧ I64 x.mg := ⟨hx.s, hx.t, hx.mn, hx.mg⟩
  have h' : Keep _ := h
  have ez' : Keep _ := ez
  have hsz' : Keep _ := hsz
  clear hr hn hx hx1 hp h ez hsz s1 s2 s3 hb64 hh64
  unfold Im.v at cC ⊢
  rw [ea] at cC ⊢
  refine HL.hc k15 999 ?_; unfold M15
  (all_goals (try simp only [Sq,Sr,Sh,Si,Sl,Bu,Bb,Bd,Bc,Bw,Bn,Int.reduceAdd,Int.reduceSub,Int.reduceMul,Int.reduceTDiv,Int.reduceTMod,Int.reduceMod,Int.reduceDiv,Nat.reduceLT,Nat.reduceEqDiff,Sa,Sb,Sc,Sd,Se,Sf,Sg,Int.reduceLE,Int.reduceLT,Int.reduceToNat,Int.reduceNeg,Int.reduceEq,Nat.reduceLeDiff,Nat.reducePow,Int.reducePow,reduceIte,Nat.reduceSub,Nat.reduceAdd,Nat.reduceMul,putAt,ceq,List.replicate, *])); repeat' ((first | (with_reducible refine fun _ : True => ?_) | refine cC _ _ (by (repeat' (first | exact Grow.refl _ | assumption | (refine Grow_known (by first | (simp only [Heap.set_same, set_ne, ne_eq, not_false_eq_true, *] <;> rfl) | fail) ?_) | (refine Grow.set ?_ (by assumption) (by first | (simp only [*] <;> done) | (simp [set_none', Heap.set_same, set_ne, noneH, *] <;> done) | fail)) | (refine Grow.trans ?_ (by assumption))))) ?_ | refine cn _ _ ?_ | refine c1 _ _ ?_ | refine c2 _ _ ?_ | refine cK _ _ (by (repeat' (first | exact Grow.refl _ | assumption | (refine Grow_known (by first | (simp only [Heap.set_same, set_ne, ne_eq, not_false_eq_true, *] <;> rfl) | fail) ?_) | (refine Grow.set ?_ (by assumption) (by first | (simp only [*] <;> done) | (simp [set_none', Heap.set_same, set_ne, noneH, *] <;> done) | fail)) | (refine Grow.trans ?_ (by assumption))))) (fun y H' hE hC hg => ?_)  | (with_reducible refine any_h ?_) | ((first | refine AllocQ_i ?_ | refine AllocO_i ?_); intro bk hb0 hbk; (try simp only [set_none'] at hbk); (try (first | have hbn := Grow.none (by assumption) hbk | have hbn := Grow.none (by assumption) hbk.2 | have hbn := Grow.none (by assumption) hbk.2.2 | have hbn := Grow.none (by assumption) hbk.2.2.2 | have hbn := Grow.none (by assumption) hbk.2.2.2.2 | have hbn := Grow.none (by assumption) hbk.2.2.2.2.2)); (try simp only [set_none'] at hbn); (try (first | have hbm := Grow.none (by assumption) hbn | have hbm := Grow.none (by assumption) hbn.2 | have hbm := Grow.none (by assumption) hbn.2.2 | have hbm := Grow.none (by assumption) hbn.2.2.2 | have hbm := Grow.none (by assumption) hbn.2.2.2.2 | have hbm := Grow.none (by assumption) hbn.2.2.2.2.2)); (try simp only [set_none'] at hbm)) | ((first | refine condS_i ?_ ?_ | refine pick_i ?_ ?_ | refine gS_it ?_ ?_ | refine gS_if ?_ ?_ | refine gP_it ?_ ?_ | refine gP_if ?_ ?_) <;> (intro hc; try simp only [Int.reduceLE,Int.reduceLT,Int.reduceEq,Sn] at hc)) | (with_reducible refine And.intro ?_ ?_)) <;> (try simp only [Sq,Sr,Sh,Si,Sl,Bu,Bb,Bd,Bc,Bw,Bn,Int.reduceAdd,Int.reduceSub,Int.reduceMul,Int.reduceTDiv,Int.reduceTMod,Int.reduceMod,Int.reduceDiv,Nat.reduceLT,Nat.reduceEqDiff,Sa,Sb,Sc,Sd,Se,Sf,Sg,Int.reduceLE,Int.reduceLT,Int.reduceToNat,Int.reduceNeg,Int.reduceEq,Nat.reduceLeDiff,Nat.reducePow,Int.reducePow,reduceIte,Nat.reduceSub,Nat.reduceAdd,Nat.reduceMul,putAt,ceq,List.replicate, *]))
  rename_i b1 t1 n1 b2 t2 n2
  obtain ⟨b5, rfl⟩ : ∃ b5, b5 = bk := ⟨_, rfl⟩
  have t5 : w0.heap.size ≤ b5 := hb0
  have d12 : b1 ≠ b2 := n2.1.2
  have d15 : b1 ≠ b5 := hbk.2.1.2
  have d25 : b2 ≠ b5 := hbk.1.2
  have n5 : H b5 = none := hbk.2.2
  have m2 : H b2 = none := n2.2
  have gH' : Grow w0 H H' := Grow.trans (by (repeat' (first | exact Grow.refl _ | assumption | (refine Grow_known (by first | (simp only [Heap.set_same, set_ne, ne_eq, not_false_eq_true, *] <;> rfl) | fail) ?_) | (refine Grow.set ?_ (by assumption) (by first | (simp only [*] <;> done) | (simp [set_none', Heap.set_same, set_ne, noneH, *] <;> done) | fail)) | (refine Grow.trans ?_ (by assumption))))) hg
  have q1 := hg.some (b := b1) (by simp only [Heap.set_same, set_ne, ne_eq, not_false_eq_true, *] <;> rfl)
  have q2 := hg.some (b := b2) (by simp only [Heap.set_same, set_ne, ne_eq, not_false_eq_true, *] <;> rfl)
  have q5 := hg.some (b := b5) (by simp only [Heap.set_same, set_ne, ne_eq, not_false_eq_true, *] <;> rfl)
  have hls : y.ls.map LvR.core = [z.core] := hE.ls
  obtain ⟨y0, ey⟩ : ∃ y0, y.ls = [y0] := by
    have := congrArg List.length hls
    rw [List.length_map] at this
    exact List.length_eq_one_iff.1 this
  have ec0 : y0.core = z.core := by rw [ey] at hls; simpa using hls
  have lx0 : LX w0 (H.set b5 ⟨.t 38, z.row⟩) H' y.a y.cap [y0] := by
    have := hC.lx
    rw [ey] at this
    refine this.rx fun c hc => ?_
    have c5 : c ≠ b5 := fun e => by subst e; rw [Heap.set_same] at hc; cases hc
    rw [Heap.set_other _ _ c5] at hc ⊢
    have c2 : c ≠ b2 := fun e => by subst e; rw [Heap.set_same] at hc; cases hc
    rw [Heap.set_other _ _ c2] at hc
    have c1 : c ≠ b1 := fun e => by subst e; rw [Heap.set_same] at hc; cases hc
    rw [Heap.set_other _ _ c1] at hc
    exact hc
  have hz' : LvOk w0 H' z := hlz.grow gH'
  have ef := hE.f
  have es := hE.s
  have et := hE.t
  have em := hE.mn
  have eg := hE.mg
  simp only at ef es et em eg
  rw [up3 hg (by simp only [Heap.set_same, set_ne, ne_eq, not_false_eq_true, *] <;> rfl) (by simp only [Heap.set_same, set_ne, ne_eq, not_false_eq_true, *] <;> rfl)]
  unfold Im.v
  rw [ef, es, et, em, eg, ey]
  clear hg cC cn c1 c2 cK hrd hf hE hC
  (all_goals (try simp only [Sq,Sr,Sh,Si,Sl,Bu,Bb,Bd,Bc,Bw,Bn,Int.reduceAdd,Int.reduceSub,Int.reduceMul,Int.reduceTDiv,Int.reduceTMod,Int.reduceMod,Int.reduceDiv,Nat.reduceLT,Nat.reduceEqDiff,Sa,Sb,Sc,Sd,Se,Sf,Sg,Int.reduceLE,Int.reduceLT,Int.reduceToNat,Int.reduceNeg,Int.reduceEq,Nat.reduceLeDiff,Nat.reducePow,Int.reducePow,reduceIte,Nat.reduceSub,Nat.reduceAdd,Nat.reduceMul,putAt,ceq,List.replicate, *])); repeat' ((first | (with_reducible refine fun _ : True => ?_) | (with_reducible refine any_h ?_) | ((first | refine AllocQ_i ?_ | refine AllocO_i ?_); intro bk hb0 hbk; (try simp only [set_none'] at hbk); (try (first | have hbn := Grow.none (by assumption) hbk | have hbn := Grow.none (by assumption) hbk.2 | have hbn := Grow.none (by assumption) hbk.2.2 | have hbn := Grow.none (by assumption) hbk.2.2.2 | have hbn := Grow.none (by assumption) hbk.2.2.2.2 | have hbn := Grow.none (by assumption) hbk.2.2.2.2.2)); (try simp only [set_none'] at hbn); (try (first | have hbm := Grow.none (by assumption) hbn | have hbm := Grow.none (by assumption) hbn.2 | have hbm := Grow.none (by assumption) hbn.2.2 | have hbm := Grow.none (by assumption) hbn.2.2.2 | have hbm := Grow.none (by assumption) hbn.2.2.2.2 | have hbm := Grow.none (by assumption) hbn.2.2.2.2.2)); (try simp only [set_none'] at hbm)) | ((first | refine condS_i ?_ ?_ | refine pick_i ?_ ?_ | refine gS_it ?_ ?_ | refine gS_if ?_ ?_ | refine gP_it ?_ ?_ | refine gP_if ?_ ?_) <;> (intro hc; try simp only [Int.reduceLE,Int.reduceLT,Int.reduceEq,Sn] at hc)) | (with_reducible refine And.intro ?_ ?_)) <;> (try simp only [Sq,Sr,Sh,Si,Sl,Bu,Bb,Bd,Bc,Bw,Bn,Int.reduceAdd,Int.reduceSub,Int.reduceMul,Int.reduceTDiv,Int.reduceTMod,Int.reduceMod,Int.reduceDiv,Nat.reduceLT,Nat.reduceEqDiff,Sa,Sb,Sc,Sd,Se,Sf,Sg,Int.reduceLE,Int.reduceLT,Int.reduceToNat,Int.reduceNeg,Int.reduceEq,Nat.reduceLeDiff,Nat.reducePow,Int.reducePow,reduceIte,Nat.reduceSub,Nat.reduceAdd,Nat.reduceMul,putAt,ceq,List.replicate, *]))
  obtain ⟨C, eCz⟩ : ∃ C, genL x.f 6 z.core = C := ⟨_, rfl⟩
  replace eCz : Keep _ := eCz
  refine loopq_heap fun G0 eG => ?_
  have st0 : GSt w0 H (H.set b5 ⟨.t 38, z.row⟩) G0 b1 b2 b5 x C 6 [] y0 z y.a y.cap := by
    have eG' : G0 = H'.set b1 ⟨.t 24, [.int .i64 x.f, .slice y.a 1 y.cap, .int .i64 x.s, .int .i64 x.t, .int .i64 x.mn, .int .i64 x.mg]⟩ := by
      rw [eG, Heap.set_id (H'.set b1 _) b2 _ ((Heap.set_other _ _ (Ne.symm d12)).trans q2), Heap.set_id (H'.set b1 _) b5 _ ((Heap.set_other _ _ (Ne.symm d15)).trans q5)]
    have q5' : G0 b5 = some ⟨.t 38, [.int .i64 z.w, .int .i64 z.h, .slice z.a z.l.length z.cap]⟩ := by rw [eG', Heap.set_other _ _ (Ne.symm d15)]; exact q5
    refine ⟨by rw [eG', Heap.set_same]; rfl, by rw [eG', Heap.set_other _ _ (Ne.symm d12)]; exact q2, q5', ?_, by rw [eG']; exact gH'.set t1 n1, ?_, ec0, lgz, ?_, ?_, (show genL x.f 6 z.core = C from eCz).symm, Nat.le_refl _⟩
    · rw [eG']; exact lx0.turn q1
    · have : LvOk w0 G0 z := hlz.grow (by rw [eG']; exact gH'.set t1 n1)
      exact this
    · have := pow_b pw; exact this.2
    · have := pow_b ph; exact this.2
  clear eG q1 q2 q5 lx0 hz' ey hls ec0 ef es et em eg lgz hlz
  refine loopq_name (fun code kont T eM eK eT => ?_)
  refine loop_a 45 (fun a : Nat × List LvR × LvR × LvR × Option Addr × Nat => []) (fun s F => GSt w0 H (H.set b5 ⟨.t 38, z.row⟩) F b1 b2 b5 x C s.1 s.2.1 s.2.2.1 s.2.2.2.1 s.2.2.2.2.1 s.2.2.2.2.2) (fun s => s.1) (6, [], y0, z, y.a, y.cap) st0 (by subst eT; rfl) ?_
  clear st0
  intro ⟨n, pre, last, cur, a, cap⟩ F U st
  simp only at st
  have hw := pow_b st.lg.w
  have hh := pow_b st.lg.h
  have hw : 1 ≤ cur.w ∧ cur.w ≤ 64 := hw
  have hh : 1 ≤ cur.h ∧ cur.h ≤ 64 := hh
  by_cases one : cur.w = 1 ∧ cur.h = 1
  · have hC := st.eC
    rw [genL_end x.f n (c := cur.core) one] at hC
    have pl := st.pl
    have len : (pre ++ [last]).length = pre.length + 1 := by simp
    have fin := (show ∀ y H', GenOk x y → _ → _ → _ from h') ⟨x.f, a, cap, pre ++ [last], x.s, x.t, x.mn, x.mg⟩ (F.set b2 ⟨.t 24, [.int .i64 x.f, .slice a (pre.length + 1) cap, .int .i64 x.s, .int .i64 x.t, .int .i64 x.mn, .int .i64 x.mg]⟩)
      ⟨rfl, rfl, rfl, rfl, rfl, z, ez', by rw [show genL x.f 6 z.core = C from eCz, hC, List.map_append, ← st.co]; rfl⟩
      (by
        have lx := (st.lx.turn (z := ⟨.t 24, [.int .i64 x.f, .slice a (pre.length + 1) cap, .int .i64 x.s, .int .i64 x.t, .int .i64 x.mn, .int .i64 x.mg]⟩) st.k2).rx (H := H) (fun c hc => by
          have c5 : c ≠ b5 := fun e => by subst e; rw [Heap.set_same] at hc; cases hc
          rw [Heap.set_other _ _ c5] at hc; exact hc)
        exact ⟨lx.bld, lx.lv, by rw [len]; unfold maxLen; omega, by rw [len]; omega, hxf, hxs.1, hxs.2.1, hxs.2.2.1, hxs.2.2.2⟩)
      (st.g.set t2 m2)
    unfold Im.v at fin
    simp only [len] at fin
    obtain ⟨o1, o2⟩ := one
    have k1 := st.k1
    have k2 := st.k2
    have k5 := st.k5
    rw [o1, o2] at k5
    clear st h' hC
    subst eM eK eT
    show run _ _ _ _ _ _ F
    rw [root3 k1 k2 k5]
    (all_goals (try simp only [Sq,Sr,Sh,Si,Sl,Bu,Bb,Bd,Bc,Bw,Bn,Int.reduceAdd,Int.reduceSub,Int.reduceMul,Int.reduceTDiv,Int.reduceTMod,Int.reduceMod,Int.reduceDiv,Nat.reduceLT,Nat.reduceEqDiff,Sa,Sb,Sc,Sd,Se,Sf,Sg,Int.reduceLE,Int.reduceLT,Int.reduceToNat,Int.reduceNeg,Int.reduceEq,Nat.reduceLeDiff,Nat.reducePow,Int.reducePow,reduceIte,Nat.reduceSub,Nat.reduceAdd,Nat.reduceMul,putAt,ceq,List.replicate, *])); repeat' ((first | (with_reducible refine fun _ : True => ?_) | (with_reducible refine any_h ?_) | ((first | refine AllocQ_i ?_ | refine AllocO_i ?_); intro bk hb0 hbk; (try simp only [set_none'] at hbk); (try (first | have hbn := Grow.none (by assumption) hbk | have hbn := Grow.none (by assumption) hbk.2 | have hbn := Grow.none (by assumption) hbk.2.2 | have hbn := Grow.none (by assumption) hbk.2.2.2 | have hbn := Grow.none (by assumption) hbk.2.2.2.2 | have hbn := Grow.none (by assumption) hbk.2.2.2.2.2)); (try simp only [set_none'] at hbn); (try (first | have hbm := Grow.none (by assumption) hbn | have hbm := Grow.none (by assumption) hbn.2 | have hbm := Grow.none (by assumption) hbn.2.2 | have hbm := Grow.none (by assumption) hbn.2.2.2 | have hbm := Grow.none (by assumption) hbn.2.2.2.2 | have hbm := Grow.none (by assumption) hbn.2.2.2.2.2)); (try simp only [set_none'] at hbm)) | ((first | refine condS_i ?_ ?_ | refine pick_i ?_ ?_ | refine gS_it ?_ ?_ | refine gS_if ?_ ?_ | refine gP_it ?_ ?_ | refine gP_if ?_ ?_) <;> (intro hc; try simp only [Int.reduceLE,Int.reduceLT,Int.reduceEq,Sn] at hc)) | (with_reducible refine And.intro ?_ ?_)) <;> (try simp only [Sq,Sr,Sh,Si,Sl,Bu,Bb,Bd,Bc,Bw,Bn,Int.reduceAdd,Int.reduceSub,Int.reduceMul,Int.reduceTDiv,Int.reduceTMod,Int.reduceMod,Int.reduceDiv,Nat.reduceLT,Nat.reduceEqDiff,Sa,Sb,Sc,Sd,Se,Sf,Sg,Int.reduceLE,Int.reduceLT,Int.reduceToNat,Int.reduceNeg,Int.reduceEq,Nat.reduceLeDiff,Nat.reducePow,Int.reducePow,reduceIte,Nat.reduceSub,Nat.reduceAdd,Nat.reduceMul,putAt,ceq,List.replicate, *]))
    exact Fin_mk (by (repeat' (first | exact Heap.Le.refl _ | (with_reducible refine Le_set2 ?_) | (refine Le_known (by first | (simp only [Heap.set_same, set_ne, ne_eq, not_false_eq_true, *] <;> rfl) | fail) ?_) | (refine Le_fresh (by first | (simp only [*] <;> done) | (simp [set_none', Heap.set_same, set_ne, noneH, *] <;> done) | fail) ?_) | (refine Heap.Le.trans ?_ (Grow.le (by assumption))) | exact Le_none | (refine Le_put ?_ (by first | (simp only [Heap.set_same, set_ne, ne_eq, not_false_eq_true, *] <;> rfl) | fail)) | fail))) fin
  · have hsz : sizeI x.f ≠ 0 := hsz'
    obtain ⟨m, rfl⟩ : ∃ m, n = m + 1 := by
      cases n with
      | zero =>
        have e1 := st.bw
        have e2 := st.bh
        rw [Int.pow_zero] at e1 e2
        exact (one ⟨by omega, by omega⟩).elim
      | succ m => exact ⟨m, rfl⟩
    have hC := st.eC
    rw [genL, if_neg (show ¬ (cur.core.1 = 1 ∧ cur.core.2.1 = 1) from one)] at hC
    have pl := st.pl
    have cur0 := st.cu
    have gF := st.g
    have cH : ∀ (G : Heap) (K : Value → Heap → Prop), Grow w0 F G → (∀ (z' : LvR) G', z'.core = nxt x.f cur.core → LvC w0 G G' z' → Grow w0 G G' → K (.agg #[.int .i64 z'.w, .int .i64 z'.h, .slice z'.a z'.l.length z'.cap]) G') → HCalls Try.prog w0 42 [.agg #[.int .i64 cur.w, .int .i64 cur.h, .slice cur.a cur.l.length cur.cap], .int .i64 x.f] G K := fun G K g hk =>
      c_half cur (cur0.grow g) x.f hxf _ _ _ _ _ _ _ (geo_of hsz st.lg) (fun a cap G' a1 a2 => hk _ G' rfl a1 a2)
    have k1 := st.k1
    have k2 := st.k2
    have k5 := st.k5
    have ho : (decide (cur.w = 1) = true ∧ decide (cur.h = 1) = false) ∨ decide (cur.w = 1) = false := by
      by_cases q : cur.w = 1
      · exact .inl ⟨decide_eq_true q, decide_eq_false fun q2 => one ⟨q, q2⟩⟩
      · exact .inr (decide_eq_false q)
    have fin : ∀ (z' : LvR) (G' G2 : Heap) (a2 : Option Addr) (cap2 : Nat), z'.core = nxt x.f cur.core → LX w0 (H.set b5 ⟨.t 38, z.row⟩) G2 a2 cap2 ((pre ++ [last]) ++ [z']) → Grow w0 H G2 →
        G2 b1 = some ⟨.t 24, [.int .i64 x.f, .slice a (pre.length + 1) cap, .int .i64 x.s, .int .i64 x.t, .int .i64 x.mn, .int .i64 x.mg]⟩ →
        G2 b2 = some ⟨.t 24, [.int .i64 0, .slice none 0 0, .int .i64 0, .int .i64 0, .int .i64 0, .int .i64 0]⟩ → G2 b5 = some ⟨.t 38, [.int .i64 z'.w, .int .i64 z'.h, .slice z'.a z'.l.length z'.cap]⟩ →
        GSt w0 H (H.set b5 ⟨.t 38, z.row⟩) (G2.set b1 ⟨.t 24, [.int .i64 x.f, .slice a2 (pre.length + 1 + 1) cap2, .int .i64 x.s, .int .i64 x.t, .int .i64 x.mn, .int .i64 x.mg]⟩) b1 b2 b5 x C m (pre ++ [last]) z' z' a2 cap2 := fun z' G' G2 a2 cap2 e' lx gg g1 g2 g5 => by
      have lx2 := lx.turn (z := ⟨.t 24, [.int .i64 x.f, .slice a2 (pre.length + 1 + 1) cap2, .int .i64 x.s, .int .i64 x.t, .int .i64 x.mn, .int .i64 x.mg]⟩) g1
      refine ⟨by rw [Heap.set_same]; simp, by rw [Heap.set_other _ _ (Ne.symm d12)]; exact g2, by rw [Heap.set_other _ _ (Ne.symm d15)]; exact g5, lx2, gg.set t1 n1, (lx2.lv z' (by simp)).ok, rfl, ?_, ?_, ?_, ?_, by simp; omega⟩
      · rw [e']; exact nxt_g hsz st.lg
      · have := congrArg Prod.fst e'
        rw [show z'.w = _ from this]
        exact bound_next st.lg.w st.bw
      · have := congrArg (fun q : Core => q.2.1) e'
        rw [show z'.h = _ from this]
        exact bound_next st.lg.h st.bh
      · rw [hC, e', List.map_append, List.append_assoc, ← st.co]; rfl
    have lxF := st.lx
    have hlen : (pre ++ [last]).length = pre.length + 1 := by simp
    clear st one hw hh hC cur0 h'
    subst eM eK eT
    show run _ _ _ _ _ _ F
    rw [root3 k1 k2 k5]
    rcases ho with ⟨o3, o4⟩ | o3
    all_goals
      (all_goals (try simp only [Sq,Sr,Sh,Si,Sl,Bu,Bb,Bd,Bc,Bw,Bn,Int.reduceAdd,Int.reduceSub,Int.reduceMul,Int.reduceTDiv,Int.reduceTMod,Int.reduceMod,Int.reduceDiv,Nat.reduceLT,Nat.reduceEqDiff,Sa,Sb,Sc,Sd,Se,Sf,Sg,Int.reduceLE,Int.reduceLT,Int.reduceToNat,Int.reduceNeg,Int.reduceEq,Nat.reduceLeDiff,Nat.reducePow,Int.reducePow,reduceIte,Nat.reduceSub,Nat.reduceAdd,Nat.reduceMul,putAt,ceq,List.replicate, *])); repeat' ((first | (with_reducible refine fun _ : True => ?_) | refine cH _ _ (by (repeat' (first | exact Grow.refl _ | assumption | (refine Grow_known (by first | (simp only [Heap.set_same, set_ne, ne_eq, not_false_eq_true, *] <;> rfl) | fail) ?_) | (refine Grow.set ?_ (by assumption) (by first | (simp only [*] <;> done) | (simp [set_none', Heap.set_same, set_ne, noneH, *] <;> done) | fail)) | (refine Grow.trans ?_ (by assumption))))) (fun z' G' e' hz' hg' => ?_)  | (with_reducible refine any_h ?_) | ((first | refine AllocQ_i ?_ | refine AllocO_i ?_); intro bk hb0 hbk; (try simp only [set_none'] at hbk); (try (first | have hbn := Grow.none (by assumption) hbk | have hbn := Grow.none (by assumption) hbk.2 | have hbn := Grow.none (by assumption) hbk.2.2 | have hbn := Grow.none (by assumption) hbk.2.2.2 | have hbn := Grow.none (by assumption) hbk.2.2.2.2 | have hbn := Grow.none (by assumption) hbk.2.2.2.2.2)); (try simp only [set_none'] at hbn); (try (first | have hbm := Grow.none (by assumption) hbn | have hbm := Grow.none (by assumption) hbn.2 | have hbm := Grow.none (by assumption) hbn.2.2 | have hbm := Grow.none (by assumption) hbn.2.2.2 | have hbm := Grow.none (by assumption) hbn.2.2.2.2 | have hbm := Grow.none (by assumption) hbn.2.2.2.2.2)); (try simp only [set_none'] at hbm)) | ((first | refine condS_i ?_ ?_ | refine pick_i ?_ ?_ | refine gS_it ?_ ?_ | refine gS_if ?_ ?_ | refine gP_it ?_ ?_ | refine gP_if ?_ ?_) <;> (intro hc; try simp only [Int.reduceLE,Int.reduceLT,Int.reduceEq,Sn] at hc)) | (with_reducible refine And.intro ?_ ?_)) <;> (try simp only [Sq,Sr,Sh,Si,Sl,Bu,Bb,Bd,Bc,Bw,Bn,Int.reduceAdd,Int.reduceSub,Int.reduceMul,Int.reduceTDiv,Int.reduceTMod,Int.reduceMod,Int.reduceDiv,Nat.reduceLT,Nat.reduceEqDiff,Sa,Sb,Sc,Sd,Se,Sf,Sg,Int.reduceLE,Int.reduceLT,Int.reduceToNat,Int.reduceNeg,Int.reduceEq,Nat.reduceLeDiff,Nat.reducePow,Int.reducePow,reduceIte,Nat.reduceSub,Nat.reduceAdd,Nat.reduceMul,putAt,ceq,List.replicate, *]))
      have r1 := hg'.some (b := b1) (by simp only [Heap.set_same, set_ne, ne_eq, not_false_eq_true, *] <;> rfl)
      have r2 := hg'.some (b := b2) (by simp only [Heap.set_same, set_ne, ne_eq, not_false_eq_true, *] <;> rfl)
      have r5 := hg'.some (b := b5) (by simp only [Heap.set_same, set_ne, ne_eq, not_false_eq_true, *] <;> rfl)
      have gFG : Grow w0 F G' := Grow.trans (by (repeat' (first | exact Grow.refl _ | assumption | (refine Grow_known (by first | (simp only [Heap.set_same, set_ne, ne_eq, not_false_eq_true, *] <;> rfl) | fail) ?_) | (refine Grow.set ?_ (by assumption) (by first | (simp only [*] <;> done) | (simp [set_none', Heap.set_same, set_ne, noneH, *] <;> done) | fail)) | (refine Grow.trans ?_ (by assumption))))) hg'
      rw [up3 hg' (by simp only [Heap.set_same, set_ne, ne_eq, not_false_eq_true, *] <;> rfl) (by simp only [Heap.set_same, set_ne, ne_eq, not_false_eq_true, *] <;> rfl)]
      clear hg' cH
      (all_goals (try simp only [Sq,Sr,Sh,Si,Sl,Bu,Bb,Bd,Bc,Bw,Bn,Int.reduceAdd,Int.reduceSub,Int.reduceMul,Int.reduceTDiv,Int.reduceTMod,Int.reduceMod,Int.reduceDiv,Nat.reduceLT,Nat.reduceEqDiff,Sa,Sb,Sc,Sd,Se,Sf,Sg,Int.reduceLE,Int.reduceLT,Int.reduceToNat,Int.reduceNeg,Int.reduceEq,Nat.reduceLeDiff,Nat.reducePow,Int.reducePow,reduceIte,Nat.reduceSub,Nat.reduceAdd,Nat.reduceMul,putAt,ceq,List.replicate, *])); repeat' ((first | (with_reducible refine fun _ : True => ?_) | (with_reducible refine any_h ?_) | ((first | refine AllocQ_i ?_ | refine AllocO_i ?_); intro bk hb0 hbk; (try simp only [set_none'] at hbk); (try (first | have hbn := Grow.none (by assumption) hbk | have hbn := Grow.none (by assumption) hbk.2 | have hbn := Grow.none (by assumption) hbk.2.2 | have hbn := Grow.none (by assumption) hbk.2.2.2 | have hbn := Grow.none (by assumption) hbk.2.2.2.2 | have hbn := Grow.none (by assumption) hbk.2.2.2.2.2)); (try simp only [set_none'] at hbn); (try (first | have hbm := Grow.none (by assumption) hbn | have hbm := Grow.none (by assumption) hbn.2 | have hbm := Grow.none (by assumption) hbn.2.2 | have hbm := Grow.none (by assumption) hbn.2.2.2 | have hbm := Grow.none (by assumption) hbn.2.2.2.2 | have hbm := Grow.none (by assumption) hbn.2.2.2.2.2)); (try simp only [set_none'] at hbm)) | ((first | refine condS_i ?_ ?_ | refine pick_i ?_ ?_ | refine gS_it ?_ ?_ | refine gS_if ?_ ?_ | refine gP_it ?_ ?_ | refine gP_if ?_ ?_) <;> (intro hc; try simp only [Int.reduceLE,Int.reduceLT,Int.reduceEq,Sn] at hc)) | (with_reducible refine And.intro ?_ ?_)) <;> (try simp only [Sq,Sr,Sh,Si,Sl,Bu,Bb,Bd,Bc,Bw,Bn,Int.reduceAdd,Int.reduceSub,Int.reduceMul,Int.reduceTDiv,Int.reduceTMod,Int.reduceMod,Int.reduceDiv,Nat.reduceLT,Nat.reduceEqDiff,Sa,Sb,Sc,Sd,Se,Sf,Sg,Int.reduceLE,Int.reduceLT,Int.reduceToNat,Int.reduceNeg,Int.reduceEq,Nat.reduceLeDiff,Nat.reducePow,Int.reducePow,reduceIte,Nat.reduceSub,Nat.reduceAdd,Nat.reduceMul,putAt,ceq,List.replicate, *]))
      rw [Heap.set_id G' b1 _ r1, Heap.set_id G' b2 _ r2]
      rw [Heap.set_id F b1 _ k1, Heap.set_id F b2 _ k2, Heap.set_id F b5 _ k5] at hz'
      have nb : G' bk = none := hbk.2.2.2
      have nF : F bk = none := gFG.none nb
      have nH : H bk = none := gF.none nF
      have b5k : bk ≠ b5 := hbk.1.1
      have b1k : b1 ≠ bk := hbk.2.2.1.2
      have b2k : b2 ≠ bk := hbk.2.1.2
      have re : ∀ (x y : Blk) c, (H.set b5 x) c = none → (H.set b5 y) c = none := fun x y c hc => by
        have c5 : c ≠ b5 := fun e => by subst e; rw [Heap.set_same] at hc; cases hc
        rw [Heap.set_other _ _ c5] at hc ⊢; exact hc
      have re0 : ∀ (y : Blk) c, F c = none → (H.set b5 y) c = none := fun y c hc => by
        have c5 : c ≠ b5 := fun e => by subst e; rw [k5] at hc; cases hc
        rw [Heap.set_other _ _ c5]; exact gF.none hc
      have gE : Grow w0 (G'.set b5 ⟨.t 38, [.int .i64 z'.w, .int .i64 z'.h, .slice z'.a z'.l.length z'.cap]⟩) ((G'.set b5 ⟨.t 38, [.int .i64 z'.w, .int .i64 z'.h, .slice z'.a z'.l.length z'.cap]⟩).set bk ⟨.t 38, [.int .i64 z'.w, .int .i64 z'.h, .slice z'.a z'.l.length z'.cap]⟩) := Grow.set (Grow.refl _) hb0 (by rw [Heap.set_other _ _ b5k]; exact nb)
      have g5s : w0.heap.size ≤ b5 := t5
      have lxE : LX w0 (H.set b5 ⟨.t 38, [.int .i64 z'.w, .int .i64 z'.h, .slice z'.a z'.l.length z'.cap]⟩) ((G'.set b5 ⟨.t 38, [.int .i64 z'.w, .int .i64 z'.h, .slice z'.a z'.l.length z'.cap]⟩).set bk ⟨.t 38, [.int .i64 z'.w, .int .i64 z'.h, .slice z'.a z'.l.length z'.cap]⟩) a cap (pre ++ [last]) := (((lxF.grow gFG).other (b := b5) (z := ⟨.t 38, [.int .i64 z'.w, .int .i64 z'.h, .slice z'.a z'.l.length z'.cap]⟩) (by rw [Heap.set_same]; simp)).grow gE).rx (re _ _)
      have hzE : LvC w0 (H.set b5 ⟨.t 38, [.int .i64 z'.w, .int .i64 z'.h, .slice z'.a z'.l.length z'.cap]⟩) ((G'.set b5 ⟨.t 38, [.int .i64 z'.w, .int .i64 z'.h, .slice z'.a z'.l.length z'.cap]⟩).set bk ⟨.t 38, [.int .i64 z'.w, .int .i64 z'.h, .slice z'.a z'.l.length z'.cap]⟩) z' := ((hz'.rx (re0 _)).turn r5 (by simp)).growX gE
      have ggE : Grow w0 (H.set b5 ⟨.t 38, [.int .i64 z'.w, .int .i64 z'.h, .slice z'.a z'.l.length z'.cap]⟩) ((G'.set b5 ⟨.t 38, [.int .i64 z'.w, .int .i64 z'.h, .slice z'.a z'.l.length z'.cap]⟩).set bk ⟨.t 38, [.int .i64 z'.w, .int .i64 z'.h, .slice z'.a z'.l.length z'.cap]⟩) := (grow_at ((gF.trans gFG).set g5s n5) (Heap.set_same _ _ _)).trans gE
      refine app_lx (n := pre.length + 1) hlen (by omega) lxE hzE ggE (Heap.set_same _ _ _) (by omega) fun a2 cap2 G2 hB2 hc2 hg2 hk2 => ?_
      have g1 := hk2 b1 _ (by rw [Heap.set_other _ _ b1k, Heap.set_other _ _ d15]; exact r1) (.inl (by simp))
      have g2 := hk2 b2 _ (by rw [Heap.set_other _ _ b2k, Heap.set_other _ _ d25]; exact r2) (.inl (by simp))
      have g5 := hk2 b5 _ (by rw [Heap.set_other _ _ (Ne.symm b5k), Heap.set_same]) (.inr (by rw [Heap.set_same]; simp))
      have res := fin z' G' G2 a2 cap2 e' (hB2.rx (re _ _)) ((Grow.set (Grow.refl _) g5s n5).trans hg2) g1 g2 g5
      clear fin hB2 hg2 hk2 lxE hzE ggE gE re re0 nb nF nH r1 r2 r5 hz' e' hbk hb0 g2 g5 gFG lxF k1 k2 k5 gF
      rw [root1 g1]
      (all_goals (try simp only [Sq,Sr,Sh,Si,Sl,Bu,Bb,Bd,Bc,Bw,Bn,Int.reduceAdd,Int.reduceSub,Int.reduceMul,Int.reduceTDiv,Int.reduceTMod,Int.reduceMod,Int.reduceDiv,Nat.reduceLT,Nat.reduceEqDiff,Sa,Sb,Sc,Sd,Se,Sf,Sg,Int.reduceLE,Int.reduceLT,Int.reduceToNat,Int.reduceNeg,Int.reduceEq,Nat.reduceLeDiff,Nat.reducePow,Int.reducePow,reduceIte,Nat.reduceSub,Nat.reduceAdd,Nat.reduceMul,putAt,ceq,List.replicate, *])); repeat' ((first | (with_reducible refine fun _ : True => ?_) | (with_reducible refine any_h ?_) | ((first | refine AllocQ_i ?_ | refine AllocO_i ?_); intro bk hb0 hbk; (try simp only [set_none'] at hbk); (try (first | have hbn := Grow.none (by assumption) hbk | have hbn := Grow.none (by assumption) hbk.2 | have hbn := Grow.none (by assumption) hbk.2.2 | have hbn := Grow.none (by assumption) hbk.2.2.2 | have hbn := Grow.none (by assumption) hbk.2.2.2.2 | have hbn := Grow.none (by assumption) hbk.2.2.2.2.2)); (try simp only [set_none'] at hbn); (try (first | have hbm := Grow.none (by assumption) hbn | have hbm := Grow.none (by assumption) hbn.2 | have hbm := Grow.none (by assumption) hbn.2.2 | have hbm := Grow.none (by assumption) hbn.2.2.2 | have hbm := Grow.none (by assumption) hbn.2.2.2.2 | have hbm := Grow.none (by assumption) hbn.2.2.2.2.2)); (try simp only [set_none'] at hbm)) | ((first | refine condS_i ?_ ?_ | refine pick_i ?_ ?_ | refine gS_it ?_ ?_ | refine gS_if ?_ ?_ | refine gP_it ?_ ?_ | refine gP_if ?_ ?_) <;> (intro hc; try simp only [Int.reduceLE,Int.reduceLT,Int.reduceEq,Sn] at hc)) | (with_reducible refine And.intro ?_ ?_)) <;> (try simp only [Sq,Sr,Sh,Si,Sl,Bu,Bb,Bd,Bc,Bw,Bn,Int.reduceAdd,Int.reduceSub,Int.reduceMul,Int.reduceTDiv,Int.reduceTMod,Int.reduceMod,Int.reduceDiv,Nat.reduceLT,Nat.reduceEqDiff,Sa,Sb,Sc,Sd,Se,Sf,Sg,Int.reduceLE,Int.reduceLT,Int.reduceToNat,Int.reduceNeg,Int.reduceEq,Nat.reduceLeDiff,Nat.reducePow,Int.reducePow,reduceIte,Nat.reduceSub,Nat.reduceAdd,Nat.reduceMul,putAt,ceq,List.replicate, *]))
      exact Round_p (m, pre ++ [last], z', z', a2, cap2) res (by simp only; omega) rfl rfl
end Go.Proofs.Ytdaipgnhconfnaa
