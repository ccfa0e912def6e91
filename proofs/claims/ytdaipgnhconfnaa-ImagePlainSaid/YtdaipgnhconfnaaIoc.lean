/- A level is put, by the program (layer 8). -/
import Derived.Test.YtdaipgnhconfnaaIob
set_option linter.unusedSimpArgs false
set_option linter.unusedVariables false
set_option maxRecDepth 100000
set_option maxHeartbeats 4000000
namespace Go.Proofs.Ytdaipgnhconfnaa
open Go Go.HL Go.RowKit Pb
variable {w0 : World} {H G : Heap} {K : Value → Heap → Prop}

def tl4 : MC → MC
  | .seq _ (.seq _ (.seq _ (.seq _ r))) => r
  | m => m
def hd4 (m r : MC) : MC := match m with
  | .seq a (.seq b (.seq c (.seq d _))) => .seq a (.seq b (.seq c (.seq d r)))
  | m => m
theorem set3_id {G : Heap} {a b c : Nat} {X Y Z : Blk} (h1 : b ≠ a) (h2 : c ≠ a) (k7 : G b = some Y) (k8 : G c = some Z) : ((G.set a X).set b Y).set c Z = G.set a X := by
  rw [Heap.set_id (G.set a X) b Y ((Heap.set_other _ _ h1).trans k7), Heap.set_id (G.set a X) c Z ((Heap.set_other _ _ h2).trans k8)]
theorem grow_known {G : Heap} {b : Nat} {x : Blk} (g : Grow w0 H G) (k : G b = some x) : Grow w0 (H.set b x) G := fun c => by
  by_cases e : c = b
  · subst e; left; rw [Heap.set_same]; exact k
  · rw [Heap.set_other _ _ e]; exact g c
theorem c_put_tail (x : Im) (hx : ImOk w0 H x) (lv : Nat) (f : Int) (hf : I64 f) (z : LvR) (hz : LvOk w0 H z) (hlv : lv < 7) (hn7 : x.ls.length ≤ 7) (hw : sideP z.w) (hh : sideP z.h) (hlen : z.l.length = 0 ∨ (z.l.length : Int) = z.w * z.h * sizeI f)
    (b4 b7 b8 : Nat) (s4 : w0.heap.size ≤ b4) (s7 : w0.heap.size ≤ b7) (s8 : w0.heap.size ≤ b8) (n4 : H b4 = none) (n7 : H b7 = none) (n8 : H b8 = none) (d48 : b4 ≠ b8)
    (k4 : G b4 = some ⟨.t 24, imB x⟩) (k7 : G b7 = some ⟨.t 38, z.row⟩) (k8 : G b8 = some ⟨.t 24, [.int .i64 0, .slice none 0 0, .int .i64 0, .int .i64 0, .int .i64 0, .int .i64 0]⟩) (hg : Grow w0 H G)
    (T : List Value) (tl : T.length = 123) (t1 : T[1]? = some (.int .i64 (lv : Nat))) (t2 : T[2]? = some (.int .i64 f)) (t4 : T[4]? = some (.pointer (some ⟨b4, 0, none⟩))) (t7 : T[7]? = some (.pointer (some ⟨b7, 0, none⟩))) (t8 : T[8]? = some (.pointer (some ⟨b8, 0, none⟩))) (t11 : T[11]? = some (.int .i64 (sizeI f)))
    (h : ∀ y H', PutOk x lv f z y → ImC w0 H H' y → Grow w0 H H' → K (.tuple #[y.v, .int .i64 0]) H') (n : Nat) (hn : 900 ≤ n) :
    run Try.prog w0 (finQ w0 [RV.cn 6 8, RV.t 9] (HL.Fin K)) n [.code (tl4 M22)] T G := by
  obtain ⟨g, rfl⟩ : ∃ g, T = mkT g 123 0 := by
    obtain ⟨g, e⟩ := mkT_ex T 0
    rw [tl] at e
    exact ⟨g, e⟩
  have e1 : g 1 = .int .i64 (lv : Nat) := Option.some.inj t1
  have e2 : g 2 = .int .i64 f := Option.some.inj t2
  have e4 : g 4 = .pointer (some ⟨b4, 0, none⟩) := Option.some.inj t4
  have e7 : g 7 = .pointer (some ⟨b7, 0, none⟩) := Option.some.inj t7
  have e8 : g 8 = .pointer (some ⟨b8, 0, none⟩) := Option.some.inj t8
  have e11 : g 11 = .int .i64 (sizeI f) := Option.some.inj t11
  clear tl t1 t2 t4 t7 t8 t11
  have d47 : b4 ≠ b7 ∧ b7 ≠ b4 := ⟨fun e => (by rw [e, k7] at k4; cases k4), fun e => (by rw [e, k4] at k7; cases k7)⟩
  have d78 : b7 ≠ b8 ∧ b8 ≠ b7 := ⟨fun e => (by rw [e, k8] at k7; cases k7), fun e => (by rw [e, k7] at k8; cases k8)⟩
  have d48' := d48.symm
  obtain ⟨a1, a2⟩ := area hw hh (sizeI_le f)
  have hs := sizeI_le f
  have har : 0 ≤ z.w * z.h * sizeI f ∧ z.w * z.h * sizeI f ≤ 16384 := by
    unfold sideP at hw hh
    have hwh : 0 ≤ z.w * z.h ∧ z.w * z.h ≤ 4096 := ⟨Int.mul_nonneg (by omega) (by omega), by have := Int.mul_le_mul hw.2 hh.2 (by omega) (by omega); omega⟩
    exact ⟨Int.mul_nonneg hwh.1 hs.1, by have := Int.mul_le_mul hwh.2 hs.2 hs.1 (by omega); omega⟩
  obtain ⟨N, eN⟩ : ∃ N : Nat, z.w * z.h * sizeI f = (N : Int) := ⟨(z.w * z.h * sizeI f).toNat, by omega⟩
  rw [eN] at a2 har
  have hzl : z.l.length ≤ N := by rw [eN] at hlen; omega
  refine run_le hn ?_
  -- the image that is copied
  obtain ⟨x0, hx0, q1, q2, q3, q4, q5, qc⟩ : ∃ x0 : Im, ImOk w0 H x0 ∧ x0.ls = x.keep f ∧ x0.s = x.s ∧ x0.t = x.t ∧ x0.mn = x.mn ∧ x0.mg = x.mg ∧ ((f = x.f ∧ x0 = x) ∨ (f ≠ x.f ∧ x0 = { x with a := none, cap := 0, ls := [] })) := by
    by_cases hfx : f = x.f
    · exact ⟨x, hx, by unfold Im.keep; rw [if_pos hfx], rfl, rfl, rfl, rfl, .inl ⟨hfx, rfl⟩⟩
    · exact ⟨{ x with a := none, cap := 0, ls := [] }, ⟨SlAt.nil, fun y hy => (by cases hy), Nat.le_refl _, Nat.zero_le _, (by show 0 * 40 ≤ _; omega), hx.f, hx.s, hx.t, hx.mn, hx.mg⟩, by unfold Im.keep; rw [if_neg hfx], rfl, rfl, rfl, rfl, .inr ⟨hfx, rfl⟩⟩
  have hm7 : x0.ls.length ≤ 7 := by rw [q1]; unfold Im.keep; split <;> first | exact hn7 | (show 0 ≤ 7; omega)
  have cK := fun (G : Heap) (K : Value → Heap → Prop) (g : Grow w0 H G) => c_clone (w0 := w0) (H := G) (K := K) x0 (hx0.grow g)
  rw [root3 k4 k7 k8]
  have gG : Grow w0 H (((G.set b4 ⟨.t 24, imB x⟩).set b7 ⟨.t 38, z.row⟩).set b8 ⟨.t 24, [.int .i64 0, .slice none 0 0, .int .i64 0, .int .i64 0, .int .i64 0, .int .i64 0]⟩) := by rw [← root3 k4 k7 k8]; exact hg
  unfold M22
  simp only [tl4]
  unfold Im.v at cK
  unfold LvR.row at k7 gG ⊢
  replace cK : Keep _ := cK
  replace q1 : Keep _ := q1
  replace q2 : Keep _ := q2
  replace q3 : Keep _ := q3
  replace q4 : Keep _ := q4
  replace q5 : Keep _ := q5
  rcases qc with ⟨hfx, rfl⟩ | ⟨hfx, rfl⟩
  · subst hfx
    (all_goals (try simp only [Sq,Sr,Sh,Si,Sl,Bu,Bb,Bd,Bc,Bw,Bn,Int.reduceAdd,Int.reduceSub,Int.reduceMul,Int.reduceTDiv,Int.reduceTMod,Int.reduceMod,Int.reduceDiv,Nat.reduceLT,Nat.reduceEqDiff,Sa,Sb,Sc,Sd,Se,Sf,Sg,Int.reduceLE,Int.reduceLT,Int.reduceToNat,Int.reduceNeg,Int.reduceEq,Nat.reduceLeDiff,Nat.reducePow,Int.reducePow,reduceIte,Nat.reduceSub,Nat.reduceAdd,Nat.reduceMul,putAt,ceq,List.replicate, *])); repeat' ((first | (with_reducible refine fun _ : True => ?_) | refine cK _ _ gG (fun y H' hE hC hg2 => ?_)  | (with_reducible refine any_h ?_) | ((first | refine AllocQ_i ?_ | refine AllocO_i ?_); intro bk hb0 hbk; (try simp only [set_none'] at hbk); (try (first | have hbn := Grow.none (by assumption) hbk | have hbn := Grow.none (by assumption) hbk.2 | have hbn := Grow.none (by assumption) hbk.2.2 | have hbn := Grow.none (by assumption) hbk.2.2.2 | have hbn := Grow.none (by assumption) hbk.2.2.2.2 | have hbn := Grow.none (by assumption) hbk.2.2.2.2.2)); (try simp only [set_none'] at hbn); (try (first | have hbm := Grow.none (by assumption) hbn | have hbm := Grow.none (by assumption) hbn.2 | have hbm := Grow.none (by assumption) hbn.2.2 | have hbm := Grow.none (by assumption) hbn.2.2.2 | have hbm := Grow.none (by assumption) hbn.2.2.2.2 | have hbm := Grow.none (by assumption) hbn.2.2.2.2.2)); (try simp only [set_none'] at hbm)) | ((first | refine condS_i ?_ ?_ | refine pick_i ?_ ?_ | refine gS_it ?_ ?_ | refine gS_if ?_ ?_ | refine gP_it ?_ ?_ | refine gP_if ?_ ?_) <;> (intro hc; try simp only [Int.reduceLE,Int.reduceLT,Int.reduceEq,Sn] at hc)) | (with_reducible refine KP_i ?_ ?_; · (repeat' (first | exact Heap.Le.refl _ | (with_reducible refine Le_set2 ?_) | (refine Le_known (by first | (simp only [Heap.set_same, set_ne, ne_eq, not_false_eq_true, *] <;> rfl) | fail) ?_) | (refine Le_fresh (by first | (simp only [*] <;> done) | (simp [set_none', Heap.set_same, set_ne, noneH, *] <;> done) | fail) ?_) | (refine Heap.Le.trans ?_ (Grow.le (by assumption))) | exact Le_none | (refine Le_put ?_ (by first | (simp only [Heap.set_same, set_ne, ne_eq, not_false_eq_true, *] <;> rfl) | fail)) | fail))) | (with_reducible refine And.intro ?_ ?_)) <;> (try simp only [Sq,Sr,Sh,Si,Sl,Bu,Bb,Bd,Bc,Bw,Bn,Int.reduceAdd,Int.reduceSub,Int.reduceMul,Int.reduceTDiv,Int.reduceTMod,Int.reduceMod,Int.reduceDiv,Nat.reduceLT,Nat.reduceEqDiff,Sa,Sb,Sc,Sd,Se,Sf,Sg,Int.reduceLE,Int.reduceLT,Int.reduceToNat,Int.reduceNeg,Int.reduceEq,Nat.reduceLeDiff,Nat.reducePow,Int.reducePow,reduceIte,Nat.reduceSub,Nat.reduceAdd,Nat.reduceMul,putAt,ceq,List.replicate, *]))
    have kk4 : H' b4 = some ⟨.t 24, _⟩ := hg2.some (by simp only [Heap.set_same, set_ne, ne_eq, not_false_eq_true, *] <;> rfl)
    have kk7 : H' b7 = some ⟨.t 38, [.int .i64 z.w, .int .i64 z.h, .slice z.a z.l.length z.cap]⟩ := hg2.some (by simp only [Heap.set_same, set_ne, ne_eq, not_false_eq_true, *] <;> rfl)
    have kk8 : H' b8 = some ⟨.t 24, [.int .i64 0, .slice none 0 0, .int .i64 0, .int .i64 0, .int .i64 0, .int .i64 0]⟩ := hg2.some (by simp only [Heap.set_same, set_ne, ne_eq, not_false_eq_true, *] <;> rfl)
    have gH' : Grow w0 H H' := Grow.trans (by (repeat' (first | exact Grow.refl _ | assumption | (refine Grow_known (by first | (simp only [Heap.set_same, set_ne, ne_eq, not_false_eq_true, *] <;> rfl) | fail) ?_) | (refine Grow.set ?_ (by assumption) (by first | (simp only [*] <;> done) | (simp [set_none', Heap.set_same, set_ne, noneH, *] <;> done) | fail)) | (refine Grow.trans ?_ (by assumption))))) hg2
    have hLB : LB w0 (H.set b7 ⟨.t 38, [.int .i64 z.w, .int .i64 z.h, .slice z.a z.l.length z.cap]⟩) H' y.a y.cap y.ls := hC.lb.re (fun c hc => by
      by_cases e7' : c = b7
      · subst e7'; rw [Heap.set_other _ _ d78.1, Heap.set_same] at hc; cases hc
      · rw [Heap.set_other _ _ e7']; exact (show Grow w0 H _ from (by (repeat' (first | exact Grow.refl _ | assumption | (refine Grow_known (by first | (simp only [Heap.set_same, set_ne, ne_eq, not_false_eq_true, *] <;> rfl) | fail) ?_) | (refine Grow.set ?_ (by assumption) (by first | (simp only [*] <;> done) | (simp [set_none', Heap.set_same, set_ne, noneH, *] <;> done) | fail)) | (refine Grow.trans ?_ (by assumption)))))).none hc)
    have hCs := (⟨hC.s, hC.t, hC.mn, hC.mg⟩ : I64 y.s ∧ I64 y.t ∧ I64 y.mn ∧ I64 y.mg)
    have hEl : y.ls.map LvR.core = (x0.keep x0.f).map LvR.core := by rw [← kpi q1]; exact hE.ls
    have hE2 := (⟨hE.s.trans (kpi q2), hE.t.trans (kpi q3), hE.mn.trans (kpi q4), hE.mg.trans (kpi q5)⟩ : y.s = x0.s ∧ y.t = x0.t ∧ y.mn = x0.mn ∧ y.mg = x0.mg)
    have hm7' : y.ls.length ≤ 7 := by have := congrArg List.length hE.ls; rw [List.length_map, List.length_map] at this; rw [this]; exact hm7
    rw [root3 kk4 kk7 kk8]
    clear hg2 hC hE cK gG q1 q2 q3 q4 q5 hm7 hx0 hx hn7 hlen k4 k7 k8 hg
    replace hEl : Keep _ := hEl
    replace hE2 : Keep _ := hE2
    replace hm7' : Keep _ := hm7'
    replace h : Keep _ := h
    (all_goals (try simp only [Sq,Sr,Sh,Si,Sl,Bu,Bb,Bd,Bc,Bw,Bn,Int.reduceAdd,Int.reduceSub,Int.reduceMul,Int.reduceTDiv,Int.reduceTMod,Int.reduceMod,Int.reduceDiv,Nat.reduceLT,Nat.reduceEqDiff,Sa,Sb,Sc,Sd,Se,Sf,Sg,Int.reduceLE,Int.reduceLT,Int.reduceToNat,Int.reduceNeg,Int.reduceEq,Nat.reduceLeDiff,Nat.reducePow,Int.reducePow,reduceIte,Nat.reduceSub,Nat.reduceAdd,Nat.reduceMul,putAt,ceq,List.replicate, *])); repeat' ((first | (with_reducible refine fun _ : True => ?_) | (with_reducible refine any_h ?_) | ((first | refine AllocQ_i ?_ | refine AllocO_i ?_); intro bk hb0 hbk; (try simp only [set_none'] at hbk); (try (first | have hbn := Grow.none (by assumption) hbk | have hbn := Grow.none (by assumption) hbk.2 | have hbn := Grow.none (by assumption) hbk.2.2 | have hbn := Grow.none (by assumption) hbk.2.2.2 | have hbn := Grow.none (by assumption) hbk.2.2.2.2 | have hbn := Grow.none (by assumption) hbk.2.2.2.2.2)); (try simp only [set_none'] at hbn); (try (first | have hbm := Grow.none (by assumption) hbn | have hbm := Grow.none (by assumption) hbn.2 | have hbm := Grow.none (by assumption) hbn.2.2 | have hbm := Grow.none (by assumption) hbn.2.2.2 | have hbm := Grow.none (by assumption) hbn.2.2.2.2 | have hbm := Grow.none (by assumption) hbn.2.2.2.2.2)); (try simp only [set_none'] at hbm)) | ((first | refine condS_i ?_ ?_ | refine pick_i ?_ ?_ | refine gS_it ?_ ?_ | refine gS_if ?_ ?_ | refine gP_it ?_ ?_ | refine gP_if ?_ ?_) <;> (intro hc; try simp only [Int.reduceLE,Int.reduceLT,Int.reduceEq,Sn] at hc)) | (with_reducible refine KP_i ?_ ?_; · (repeat' (first | exact Heap.Le.refl _ | (with_reducible refine Le_set2 ?_) | (refine Le_known (by first | (simp only [Heap.set_same, set_ne, ne_eq, not_false_eq_true, *] <;> rfl) | fail) ?_) | (refine Le_fresh (by first | (simp only [*] <;> done) | (simp [set_none', Heap.set_same, set_ne, noneH, *] <;> done) | fail) ?_) | (refine Heap.Le.trans ?_ (Grow.le (by assumption))) | exact Le_none | (refine Le_put ?_ (by first | (simp only [Heap.set_same, set_ne, ne_eq, not_false_eq_true, *] <;> rfl) | fail)) | fail))) | (with_reducible refine And.intro ?_ ?_)) <;> (try simp only [Sq,Sr,Sh,Si,Sl,Bu,Bb,Bd,Bc,Bw,Bn,Int.reduceAdd,Int.reduceSub,Int.reduceMul,Int.reduceTDiv,Int.reduceTMod,Int.reduceMod,Int.reduceDiv,Nat.reduceLT,Nat.reduceEqDiff,Sa,Sb,Sc,Sd,Se,Sf,Sg,Int.reduceLE,Int.reduceLT,Int.reduceToNat,Int.reduceNeg,Int.reduceEq,Nat.reduceLeDiff,Nat.reducePow,Int.reducePow,reduceIte,Nat.reduceSub,Nat.reduceAdd,Nat.reduceMul,putAt,ceq,List.replicate, *]))
    refine loopq_heap (fun H1 eH => ?_)
    have k4 : H1 b4 = some ⟨.t 24, [.int .i64 x0.f, .slice y.a y.ls.length y.cap, .int .i64 y.s, .int .i64 y.t, .int .i64 y.mn, .int .i64 y.mg]⟩ := at_of eH (by simp only [Heap.set_same, set_ne, ne_eq, not_false_eq_true, *] <;> rfl)
    have k7 : H1 b7 = some ⟨.t 38, [.int .i64 z.w, .int .i64 z.h, .slice z.a z.l.length z.cap]⟩ := at_of eH (by simp only [Heap.set_same, set_ne, ne_eq, not_false_eq_true, *] <;> rfl)
    have k8 : H1 b8 = some ⟨.t 24, [.int .i64 0, .slice none 0 0, .int .i64 0, .int .i64 0, .int .i64 0, .int .i64 0]⟩ := at_of eH (by simp only [Heap.set_same, set_ne, ne_eq, not_false_eq_true, *] <;> rfl)
    have gH1 : Grow w0 H H1 := by rw [eH]; exact (by (repeat' (first | exact Grow.refl _ | assumption | (refine Grow_known (by first | (simp only [Heap.set_same, set_ne, ne_eq, not_false_eq_true, *] <;> rfl) | fail) ?_) | (refine Grow.set ?_ (by assumption) (by first | (simp only [*] <;> done) | (simp [set_none', Heap.set_same, set_ne, noneH, *] <;> done) | fail)) | (refine Grow.trans ?_ (by assumption)))))
    have hLB1 : LB w0 (H.set b7 ⟨.t 38, [.int .i64 z.w, .int .i64 z.h, .slice z.a z.l.length z.cap]⟩) H1 y.a y.cap (y.ls ++ List.replicate 0 zLv) := by
      rw [List.replicate_zero, List.append_nil, eH, set3_id d47.2 d48' kk7 kk8]
      exact hLB.turn kk4
    clear eH hLB kk4 kk7 kk8 gH'
    obtain ⟨m, em⟩ : ∃ m, y.ls.length = m := ⟨_, rfl⟩
    rw [em] at k4
    have hm7 : m ≤ 7 := by rw [← em]; exact kpi hm7'
    refine loop_g 89 (fun s : Nat × Option Addr × Nat × Heap => []) (fun s => s.2.2.2) (fun s => s.1 ≤ lv + 1 - m ∧ LB w0 (H.set b7 ⟨.t 38, [.int .i64 z.w, .int .i64 z.h, .slice z.a z.l.length z.cap]⟩) s.2.2.2 s.2.1 s.2.2.1 (y.ls ++ List.replicate s.1 zLv) ∧ Grow w0 H s.2.2.2 ∧ s.2.2.2 b4 = some ⟨.t 24, [.int .i64 x0.f, .slice s.2.1 (m + s.1) s.2.2.1, .int .i64 y.s, .int .i64 y.t, .int .i64 y.mn, .int .i64 y.mg]⟩ ∧ s.2.2.2 b7 = some ⟨.t 38, [.int .i64 z.w, .int .i64 z.h, .slice z.a z.l.length z.cap]⟩ ∧ s.2.2.2 b8 = some ⟨.t 24, [.int .i64 0, .slice none 0 0, .int .i64 0, .int .i64 0, .int .i64 0, .int .i64 0]⟩) (fun s => lv + 1 - m - s.1) (0, y.a, y.cap, H1) ⟨Nat.zero_le _, hLB1, gH1, k4, k7, k8⟩ (Heap.Le.refl _) rfl ?_
    clear hLB1 gH1 k4 k7 k8
    intro ⟨j, a, cap, G2⟩ gg ⟨hj, hB, hG, k4, k7, k8⟩
    simp only at hj hB hG k4 k7 k8
    have gz : Grow w0 (H.set b7 ⟨.t 38, [.int .i64 z.w, .int .i64 z.h, .slice z.a z.l.length z.cap]⟩) G2 := grow_known hG k7
    show run _ _ _ _ _ _ G2
    have hll : (y.ls ++ List.replicate j zLv).length = m + j := by rw [List.length_append, List.length_replicate, em]
    by_cases hlt : m + j ≤ lv
    · have t0 : ((m + j : Nat) : Int) ≤ (lv : Int) := by omega
      rw [root3 k4 k7 k8]
      clear em
      (all_goals (try simp only [Sq,Sr,Sh,Si,Sl,Bu,Bb,Bd,Bc,Bw,Bn,Int.reduceAdd,Int.reduceSub,Int.reduceMul,Int.reduceTDiv,Int.reduceTMod,Int.reduceMod,Int.reduceDiv,Nat.reduceLT,Nat.reduceEqDiff,Sa,Sb,Sc,Sd,Se,Sf,Sg,Int.reduceLE,Int.reduceLT,Int.reduceToNat,Int.reduceNeg,Int.reduceEq,Nat.reduceLeDiff,Nat.reducePow,Int.reducePow,reduceIte,Nat.reduceSub,Nat.reduceAdd,Nat.reduceMul,putAt,ceq,List.replicate, *])); repeat' ((first | (with_reducible refine fun _ : True => ?_) | (with_reducible refine any_h ?_) | ((first | refine AllocQ_i ?_ | refine AllocO_i ?_); intro bk hb0 hbk; (try simp only [set_none'] at hbk); (try (first | have hbn := Grow.none (by assumption) hbk | have hbn := Grow.none (by assumption) hbk.2 | have hbn := Grow.none (by assumption) hbk.2.2 | have hbn := Grow.none (by assumption) hbk.2.2.2 | have hbn := Grow.none (by assumption) hbk.2.2.2.2 | have hbn := Grow.none (by assumption) hbk.2.2.2.2.2)); (try simp only [set_none'] at hbn); (try (first | have hbm := Grow.none (by assumption) hbn | have hbm := Grow.none (by assumption) hbn.2 | have hbm := Grow.none (by assumption) hbn.2.2 | have hbm := Grow.none (by assumption) hbn.2.2.2 | have hbm := Grow.none (by assumption) hbn.2.2.2.2 | have hbm := Grow.none (by assumption) hbn.2.2.2.2.2)); (try simp only [set_none'] at hbm)) | ((first | refine condS_i ?_ ?_ | refine pick_i ?_ ?_ | refine gS_it ?_ ?_ | refine gS_if ?_ ?_ | refine gP_it ?_ ?_ | refine gP_if ?_ ?_) <;> (intro hc; try simp only [Int.reduceLE,Int.reduceLT,Int.reduceEq,Sn] at hc)) | (with_reducible refine KP_i ?_ ?_; · (repeat' (first | exact Heap.Le.refl _ | (with_reducible refine Le_set2 ?_) | (refine Le_known (by first | (simp only [Heap.set_same, set_ne, ne_eq, not_false_eq_true, *] <;> rfl) | fail) ?_) | (refine Le_fresh (by first | (simp only [*] <;> done) | (simp [set_none', Heap.set_same, set_ne, noneH, *] <;> done) | fail) ?_) | (refine Heap.Le.trans ?_ (Grow.le (by assumption))) | exact Le_none | (refine Le_put ?_ (by first | (simp only [Heap.set_same, set_ne, ne_eq, not_false_eq_true, *] <;> rfl) | fail)) | fail))) | (with_reducible refine And.intro ?_ ?_)) <;> (try simp only [Sq,Sr,Sh,Si,Sl,Bu,Bb,Bd,Bc,Bw,Bn,Int.reduceAdd,Int.reduceSub,Int.reduceMul,Int.reduceTDiv,Int.reduceTMod,Int.reduceMod,Int.reduceDiv,Nat.reduceLT,Nat.reduceEqDiff,Sa,Sb,Sc,Sd,Se,Sf,Sg,Int.reduceLE,Int.reduceLT,Int.reduceToNat,Int.reduceNeg,Int.reduceEq,Nat.reduceLeDiff,Nat.reducePow,Int.reducePow,reduceIte,Nat.reduceSub,Nat.reduceAdd,Nat.reduceMul,putAt,ceq,List.replicate, *]))
      refine app_lvn hll (hB.grow (by (repeat' (first | exact Grow.refl _ | assumption | (refine Grow_known (by first | (simp only [Heap.set_same, set_ne, ne_eq, not_false_eq_true, *] <;> rfl) | fail) ?_) | (refine Grow.set ?_ (by assumption) (by first | (simp only [*] <;> done) | (simp [set_none', Heap.set_same, set_ne, noneH, *] <;> done) | fail)) | (refine Grow.trans ?_ (by assumption)))))) (gz.trans (by (repeat' (first | exact Grow.refl _ | assumption | (refine Grow_known (by first | (simp only [Heap.set_same, set_ne, ne_eq, not_false_eq_true, *] <;> rfl) | fail) ?_) | (refine Grow.set ?_ (by assumption) (by first | (simp only [*] <;> done) | (simp [set_none', Heap.set_same, set_ne, noneH, *] <;> done) | fail)) | (refine Grow.trans ?_ (by assumption)))))) (by simp only [Heap.set_same, set_ne, ne_eq, not_false_eq_true, *] <;> rfl) (by omega) (fun a' cap' G3 hB3 hg3 hk3 => ?_)
      have j4 : G3 b4 = some _ := hk3 b4 _ (by simp only [Heap.set_same, set_ne, ne_eq, not_false_eq_true, *] <;> rfl) (.inl (by simp))
      have j7 : G3 b7 = some ⟨.t 38, [.int .i64 z.w, .int .i64 z.h, .slice z.a z.l.length z.cap]⟩ := hk3 b7 _ (by simp only [Heap.set_same, set_ne, ne_eq, not_false_eq_true, *] <;> rfl) (.inr (by rw [Heap.set_same]; simp))
      have j8 : G3 b8 = some ⟨.t 24, [.int .i64 0, .slice none 0 0, .int .i64 0, .int .i64 0, .int .i64 0, .int .i64 0]⟩ := hk3 b8 _ (by simp only [Heap.set_same, set_ne, ne_eq, not_false_eq_true, *] <;> rfl) (.inl (by simp))
      have g3 : Grow w0 H G3 := (Grow.set (Grow.refl _) s7 n7).trans hg3
      have hB4 : LB w0 (H.set b7 ⟨.t 38, [.int .i64 z.w, .int .i64 z.h, .slice z.a z.l.length z.cap]⟩) (((G3.set b4 ⟨.t 24, [.int .i64 x0.f, .slice a' (m + (j + 1)) cap', .int .i64 y.s, .int .i64 y.t, .int .i64 y.mn, .int .i64 y.mg]⟩).set b7 ⟨.t 38, [.int .i64 z.w, .int .i64 z.h, .slice z.a z.l.length z.cap]⟩).set b8 ⟨.t 24, [.int .i64 0, .slice none 0 0, .int .i64 0, .int .i64 0, .int .i64 0, .int .i64 0]⟩) a' cap' (y.ls ++ List.replicate (j + 1) zLv) := by
        rw [set3_id d47.2 d48' j7 j8, List.replicate_succ', ← List.append_assoc]
        exact hB3.turn j4
      have g4 : Grow w0 H (((G3.set b4 ⟨.t 24, [.int .i64 x0.f, .slice a' (m + (j + 1)) cap', .int .i64 y.s, .int .i64 y.t, .int .i64 y.mn, .int .i64 y.mg]⟩).set b7 ⟨.t 38, [.int .i64 z.w, .int .i64 z.h, .slice z.a z.l.length z.cap]⟩).set b8 ⟨.t 24, [.int .i64 0, .slice none 0 0, .int .i64 0, .int .i64 0, .int .i64 0, .int .i64 0]⟩) := ((g3.set s4 n4).set s7 n7).set s8 n8
      have f4 : (((G3.set b4 ⟨.t 24, [.int .i64 x0.f, .slice a' (m + (j + 1)) cap', .int .i64 y.s, .int .i64 y.t, .int .i64 y.mn, .int .i64 y.mg]⟩).set b7 ⟨.t 38, [.int .i64 z.w, .int .i64 z.h, .slice z.a z.l.length z.cap]⟩).set b8 ⟨.t 24, [.int .i64 0, .slice none 0 0, .int .i64 0, .int .i64 0, .int .i64 0, .int .i64 0]⟩) b4 = some ⟨.t 24, [.int .i64 x0.f, .slice a' (m + (j + 1)) cap', .int .i64 y.s, .int .i64 y.t, .int .i64 y.mn, .int .i64 y.mg]⟩ := by rw [set3_id d47.2 d48' j7 j8]; exact Heap.set_same _ _ _
      have f7 : (((G3.set b4 ⟨.t 24, [.int .i64 x0.f, .slice a' (m + (j + 1)) cap', .int .i64 y.s, .int .i64 y.t, .int .i64 y.mn, .int .i64 y.mg]⟩).set b7 ⟨.t 38, [.int .i64 z.w, .int .i64 z.h, .slice z.a z.l.length z.cap]⟩).set b8 ⟨.t 24, [.int .i64 0, .slice none 0 0, .int .i64 0, .int .i64 0, .int .i64 0, .int .i64 0]⟩) b7 = some ⟨.t 38, [.int .i64 z.w, .int .i64 z.h, .slice z.a z.l.length z.cap]⟩ := by rw [set3_id d47.2 d48' j7 j8]; exact (Heap.set_other _ _ d47.2).trans j7
      have f8 : (((G3.set b4 ⟨.t 24, [.int .i64 x0.f, .slice a' (m + (j + 1)) cap', .int .i64 y.s, .int .i64 y.t, .int .i64 y.mn, .int .i64 y.mg]⟩).set b7 ⟨.t 38, [.int .i64 z.w, .int .i64 z.h, .slice z.a z.l.length z.cap]⟩).set b8 ⟨.t 24, [.int .i64 0, .slice none 0 0, .int .i64 0, .int .i64 0, .int .i64 0, .int .i64 0]⟩) b8 = some ⟨.t 24, [.int .i64 0, .slice none 0 0, .int .i64 0, .int .i64 0, .int .i64 0, .int .i64 0]⟩ := by rw [set3_id d47.2 d48' j7 j8]; exact (Heap.set_other _ _ d48').trans j8
      rw [root3 j4 j7 j8]
      clear hB hG k4 k7 k8 hB3 hk3 hg3 j4 j7 j8 gz
      replace f4 : Keep _ := f4
      replace f7 : Keep _ := f7
      replace f8 : Keep _ := f8
      (all_goals (try simp only [Sq,Sr,Sh,Si,Sl,Bu,Bb,Bd,Bc,Bw,Bn,Int.reduceAdd,Int.reduceSub,Int.reduceMul,Int.reduceTDiv,Int.reduceTMod,Int.reduceMod,Int.reduceDiv,Nat.reduceLT,Nat.reduceEqDiff,Sa,Sb,Sc,Sd,Se,Sf,Sg,Int.reduceLE,Int.reduceLT,Int.reduceToNat,Int.reduceNeg,Int.reduceEq,Nat.reduceLeDiff,Nat.reducePow,Int.reducePow,reduceIte,Nat.reduceSub,Nat.reduceAdd,Nat.reduceMul,putAt,ceq,List.replicate, *])); repeat' ((first | (with_reducible refine fun _ : True => ?_) | (with_reducible refine any_h ?_) | ((first | refine AllocQ_i ?_ | refine AllocO_i ?_); intro bk hb0 hbk; (try simp only [set_none'] at hbk); (try (first | have hbn := Grow.none (by assumption) hbk | have hbn := Grow.none (by assumption) hbk.2 | have hbn := Grow.none (by assumption) hbk.2.2 | have hbn := Grow.none (by assumption) hbk.2.2.2 | have hbn := Grow.none (by assumption) hbk.2.2.2.2 | have hbn := Grow.none (by assumption) hbk.2.2.2.2.2)); (try simp only [set_none'] at hbn); (try (first | have hbm := Grow.none (by assumption) hbn | have hbm := Grow.none (by assumption) hbn.2 | have hbm := Grow.none (by assumption) hbn.2.2 | have hbm := Grow.none (by assumption) hbn.2.2.2 | have hbm := Grow.none (by assumption) hbn.2.2.2.2 | have hbm := Grow.none (by assumption) hbn.2.2.2.2.2)); (try simp only [set_none'] at hbm)) | ((first | refine condS_i ?_ ?_ | refine pick_i ?_ ?_ | refine gS_it ?_ ?_ | refine gS_if ?_ ?_ | refine gP_it ?_ ?_ | refine gP_if ?_ ?_) <;> (intro hc; try simp only [Int.reduceLE,Int.reduceLT,Int.reduceEq,Sn] at hc)) | (with_reducible refine KP_i ?_ ?_; · (repeat' (first | exact Heap.Le.refl _ | (with_reducible refine Le_set2 ?_) | (refine Le_known (by first | (simp only [Heap.set_same, set_ne, ne_eq, not_false_eq_true, *] <;> rfl) | fail) ?_) | (refine Le_fresh (by first | (simp only [*] <;> done) | (simp [set_none', Heap.set_same, set_ne, noneH, *] <;> done) | fail) ?_) | (refine Heap.Le.trans ?_ (Grow.le (by assumption))) | exact Le_none | (refine Le_put ?_ (by first | (simp only [Heap.set_same, set_ne, ne_eq, not_false_eq_true, *] <;> rfl) | fail)) | fail))) | (with_reducible refine And.intro ?_ ?_)) <;> (try simp only [Sq,Sr,Sh,Si,Sl,Bu,Bb,Bd,Bc,Bw,Bn,Int.reduceAdd,Int.reduceSub,Int.reduceMul,Int.reduceTDiv,Int.reduceTMod,Int.reduceMod,Int.reduceDiv,Nat.reduceLT,Nat.reduceEqDiff,Sa,Sb,Sc,Sd,Se,Sf,Sg,Int.reduceLE,Int.reduceLT,Int.reduceToNat,Int.reduceNeg,Int.reduceEq,Nat.reduceLeDiff,Nat.reducePow,Int.reducePow,reduceIte,Nat.reduceSub,Nat.reduceAdd,Nat.reduceMul,putAt,ceq,List.replicate, *]))
      exact Round_mk (j + 1, a', cap', _) ⟨by omega, hB4, g4, kpi f4, kpi f7, kpi f8⟩ (by simp only; omega) (Heap.Le.refl _) rfl rfl
    · have t0 : ¬ ((m + j : Nat) : Int) ≤ (lv : Int) := by omega
      have hj' : j = lv + 1 - m := by omega
      rcases hB.bld with ⟨b, zz, rfl, sb, nb_, hb3, hb4⟩ | ⟨-, h0⟩
      · have w4 : b ≠ b4 ∧ b4 ≠ b := ⟨fun e => (by rw [e, k4] at hb3; cases hb3), fun e => (by rw [← e, k4] at hb3; cases hb3)⟩
        have w8 : b ≠ b8 ∧ b8 ≠ b := ⟨fun e => (by rw [e, k8] at hb3; cases hb3), fun e => (by rw [← e, k8] at hb3; cases hb3)⟩
        have w7' : b ≠ b7 := fun e => by rw [e, Heap.set_same] at nb_; cases nb_
        have w7 : b ≠ b7 ∧ b7 ≠ b := ⟨w7', w7'.symm⟩
        obtain ⟨R, eR⟩ : ∃ R, ((y.ls ++ List.replicate j zLv).map LvR.row).flatten = R := ⟨_, rfl⟩
        obtain ⟨RR, eRR⟩ : ∃ RR : Nat → List Value, ∀ nb, (((y.ls ++ List.replicate j zLv).set lv (zP x0.f z nb N)).map LvR.row).flatten = RR nb := ⟨fun nb => _, fun _ => rfl⟩
        have hput : ∀ nb, putAt (R ++ zz) (lv * 3) [.int .i64 z.w, .int .i64 z.h, .slice (some ⟨nb, 0, none⟩) N N] = RR nb ++ zz := fun nb => by
          have := put_row (ls := y.ls ++ List.replicate j zLv) (lv := lv) (by rw [hll]; omega) (zP x0.f z nb N) zz
          rw [eR, eRR] at this
          rw [← this]
          unfold zP LvR.row
          simp only [putB_len eN hzl]
        have hRl : R.length = (m + j) * 3 := by rw [← eR, rows_len, hll]
        have hbd : lv * 3 + 3 ≤ (R ++ zz).length := by rw [List.length_append]; omega
        rw [eR] at hb3
        have hroot : G2 = (((G2.set b4 ⟨.t 24, [.int .i64 x0.f, .slice (some ⟨b, 0, none⟩) (m + j) cap, .int .i64 y.s, .int .i64 y.t, .int .i64 y.mn, .int .i64 y.mg]⟩).set b7 ⟨.t 38, [.int .i64 z.w, .int .i64 z.h, .slice z.a z.l.length z.cap]⟩).set b8 ⟨.t 24, [.int .i64 0, .slice none 0 0, .int .i64 0, .int .i64 0, .int .i64 0, .int .i64 0]⟩).set b ⟨.t 38, R ++ zz⟩ := by rw [Heap.set_id G2 b4 _ k4, Heap.set_id G2 b7 _ k7, Heap.set_id G2 b8 _ k8, Heap.set_id G2 b _ hb3]
        have tn : ((N : Nat) : Int).toNat = N := Int.toNat_natCast N
        have t1 : (lv : Int) < ((m + j : Nat) : Int) := by omega
        have t2 : lv < m + j := by omega
        have sH : Grow w0 H (H.set b7 ⟨.t 38, [.int .i64 z.w, .int .i64 z.h, .slice z.a z.l.length z.cap]⟩) := Grow.set (Grow.refl _) s7 n7
        have hbH : H b = none := sH.none nb_
        have hre : ∀ c, (H.set b7 ⟨.t 38, [.int .i64 z.w, .int .i64 z.h, .slice z.a z.l.length z.cap]⟩) c = none → H c = none := fun c hc => sH.none hc
        have hzA : ∀ G, Grow w0 H G → IntsAt w0 G .u8 z.a z.l := fun G g => IntsAt.grow hz.at_ g
        rw [hroot]
        replace hB : Keep _ := hB
        replace hG : Keep _ := hG
        have kk : Keep (G2 b4 = some _ ∧ G2 b7 = some _ ∧ G2 b8 = some _ ∧ G2 b = some _) := ⟨k4, k7, k8, hb3⟩
        replace hb4 : Keep _ := hb4
        replace hre : Keep _ := hre
        replace hzA : Keep _ := hzA
        replace eRR : Keep _ := eRR
        replace eR : Keep _ := eR
        replace hroot : Keep _ := hroot
        have hzz : ((y.ls ++ List.replicate j zLv).map LvR.row).flatten.length + zz.length = cap * 3 := kpi hb4
        replace hzz : Keep _ := hzz
        replace hz : Keep _ := hz
        replace em : Keep _ := em
        replace nb_ : Keep _ := nb_
        replace hj' : Keep _ := hj'
        clear sH
        (all_goals (try simp only [Sq,Sr,Sh,Si,Sl,Bu,Bb,Bd,Bc,Bw,Bn,Int.reduceAdd,Int.reduceSub,Int.reduceMul,Int.reduceTDiv,Int.reduceTMod,Int.reduceMod,Int.reduceDiv,Nat.reduceLT,Nat.reduceEqDiff,Sa,Sb,Sc,Sd,Se,Sf,Sg,Int.reduceLE,Int.reduceLT,Int.reduceToNat,Int.reduceNeg,Int.reduceEq,Nat.reduceLeDiff,Nat.reducePow,Int.reducePow,reduceIte,Nat.reduceSub,Nat.reduceAdd,Nat.reduceMul,putAt,ceq,List.replicate, *])); repeat' ((first | (with_reducible refine fun _ : True => ?_) | refine mks_i (by omega) (by omega) (by omega) (by omega) ?_ | refine cpy_new (by simp only [Heap.set_same, set_ne, ne_eq, not_false_eq_true, *] <;> rfl) (kpi hzA _ (by (repeat' (first | exact Grow.refl _ | assumption | (refine Grow_known (by first | (simp only [Heap.set_same, set_ne, ne_eq, not_false_eq_true, *] <;> rfl) | fail) ?_) | (refine Grow.set ?_ (by assumption) (by first | (simp only [*] <;> done) | (simp [set_none', Heap.set_same, set_ne, noneH, *] <;> done) | fail)) | (refine Grow.trans ?_ (by assumption)))))) hzl ?_ | (with_reducible refine any_h ?_) | ((first | refine AllocQ_i ?_ | refine AllocO_i ?_); intro bk hb0 hbk; (try simp only [set_none'] at hbk); (try (first | have hbn := Grow.none (by assumption) hbk | have hbn := Grow.none (by assumption) hbk.2 | have hbn := Grow.none (by assumption) hbk.2.2 | have hbn := Grow.none (by assumption) hbk.2.2.2 | have hbn := Grow.none (by assumption) hbk.2.2.2.2 | have hbn := Grow.none (by assumption) hbk.2.2.2.2.2)); (try simp only [set_none'] at hbn); (try (first | have hbm := Grow.none (by assumption) hbn | have hbm := Grow.none (by assumption) hbn.2 | have hbm := Grow.none (by assumption) hbn.2.2 | have hbm := Grow.none (by assumption) hbn.2.2.2 | have hbm := Grow.none (by assumption) hbn.2.2.2.2 | have hbm := Grow.none (by assumption) hbn.2.2.2.2.2)); (try simp only [set_none'] at hbm)) | ((first | refine condS_i ?_ ?_ | refine pick_i ?_ ?_ | refine gS_it ?_ ?_ | refine gS_if ?_ ?_ | refine gP_it ?_ ?_ | refine gP_if ?_ ?_) <;> (intro hc; try simp only [Int.reduceLE,Int.reduceLT,Int.reduceEq,Sn] at hc)) | (with_reducible refine KP_i ?_ ?_; · (repeat' (first | exact Heap.Le.refl _ | (with_reducible refine Le_set2 ?_) | (refine Le_known (by first | (simp only [Heap.set_same, set_ne, ne_eq, not_false_eq_true, *] <;> rfl) | fail) ?_) | (refine Le_fresh (by first | (simp only [*] <;> done) | (simp [set_none', Heap.set_same, set_ne, noneH, *] <;> done) | fail) ?_) | (refine Heap.Le.trans ?_ (Grow.le (by assumption))) | exact Le_none | (refine Le_put ?_ (by first | (simp only [Heap.set_same, set_ne, ne_eq, not_false_eq_true, *] <;> rfl) | fail)) | fail))) | (with_reducible refine And.intro ?_ ?_)) <;> (try simp only [Sq,Sr,Sh,Si,Sl,Bu,Bb,Bd,Bc,Bw,Bn,Int.reduceAdd,Int.reduceSub,Int.reduceMul,Int.reduceTDiv,Int.reduceTMod,Int.reduceMod,Int.reduceDiv,Nat.reduceLT,Nat.reduceEqDiff,Sa,Sb,Sc,Sd,Se,Sf,Sg,Int.reduceLE,Int.reduceLT,Int.reduceToNat,Int.reduceNeg,Int.reduceEq,Nat.reduceLeDiff,Nat.reducePow,Int.reducePow,reduceIte,Nat.reduceSub,Nat.reduceAdd,Nat.reduceMul,putAt,ceq,List.replicate, *]))
        obtain ⟨kk4, kk7, kk8, kkb⟩ := kpi kk
        refine Fin_mk (Heap.Le.refl _) (put_done (Hz := H.set b7 ⟨.t 38, [.int .i64 z.w, .int .i64 z.h, .slice z.a z.l.length z.cap]⟩) (zz := zz) (kpi hEl) (kpi hE2).1 (kpi hE2).2.1 (kpi hE2).2.2.1 (kpi hE2).2.2.2 hCs hf (kpi em) (kpi hj') hlv hm7 (kpi hz) eN hzl (by omega) (kpi hB) (kpi hre) sb (kpi nb_) (kpi hzz) hb0 hbn ?_ ?_ ?_ ?_ (kpi h))
        · rw [kpi eRR]; exact (by simp only [Heap.set_same, set_ne, ne_eq, not_false_eq_true, *] <;> rfl)
        · unfold putB; rw [eN, Int.toNat_natCast]; exact (by simp only [Heap.set_same, set_ne, ne_eq, not_false_eq_true, *] <;> rfl)
        · intro d x hd hx
          have u4 : d ≠ b4 := fun e => by rw [e, kk4] at hd; cases hd; cases hx
          have u7 : d ≠ b7 := fun e => by rw [e, kk7] at hd; cases hd; cases hx
          have u8 : d ≠ b8 := fun e => by rw [e, kk8] at hd; cases hd; cases hx
          have ub : d ≠ b := fun e => by rw [e, kkb] at hd; cases hd; cases hx
          have uk : d ≠ bk := fun e => by rw [e, hbk.2.2.2.2] at hd; cases hd
          rw [Heap.set_other _ _ uk, Heap.set_other _ _ ub, Heap.set_other _ _ u8, Heap.set_other _ _ u7, Heap.set_other _ _ u4]
          exact hd
        · exact (((((kpi hG : Grow w0 H G2).set s4 n4).set s7 n7).set s8 n8).set sb hbH).set hb0 hbn
      · have := congrArg List.length h0
        rw [rows_len, hll] at this
        have h1 : (m + j) * 3 = 0 := this
        omega
  · simp only [List.length_nil] at cK
    (all_goals (try simp only [Sq,Sr,Sh,Si,Sl,Bu,Bb,Bd,Bc,Bw,Bn,Int.reduceAdd,Int.reduceSub,Int.reduceMul,Int.reduceTDiv,Int.reduceTMod,Int.reduceMod,Int.reduceDiv,Nat.reduceLT,Nat.reduceEqDiff,Sa,Sb,Sc,Sd,Se,Sf,Sg,Int.reduceLE,Int.reduceLT,Int.reduceToNat,Int.reduceNeg,Int.reduceEq,Nat.reduceLeDiff,Nat.reducePow,Int.reducePow,reduceIte,Nat.reduceSub,Nat.reduceAdd,Nat.reduceMul,putAt,ceq,List.replicate, *])); repeat' ((first | (with_reducible refine fun _ : True => ?_) | refine cK _ _ (((hg.set s4 n4).set s7 n7).set s8 n8) (fun y H' hE hC hg2 => ?_)  | (with_reducible refine any_h ?_) | ((first | refine AllocQ_i ?_ | refine AllocO_i ?_); intro bk hb0 hbk; (try simp only [set_none'] at hbk); (try (first | have hbn := Grow.none (by assumption) hbk | have hbn := Grow.none (by assumption) hbk.2 | have hbn := Grow.none (by assumption) hbk.2.2 | have hbn := Grow.none (by assumption) hbk.2.2.2 | have hbn := Grow.none (by assumption) hbk.2.2.2.2 | have hbn := Grow.none (by assumption) hbk.2.2.2.2.2)); (try simp only [set_none'] at hbn); (try (first | have hbm := Grow.none (by assumption) hbn | have hbm := Grow.none (by assumption) hbn.2 | have hbm := Grow.none (by assumption) hbn.2.2 | have hbm := Grow.none (by assumption) hbn.2.2.2 | have hbm := Grow.none (by assumption) hbn.2.2.2.2 | have hbm := Grow.none (by assumption) hbn.2.2.2.2.2)); (try simp only [set_none'] at hbm)) | ((first | refine condS_i ?_ ?_ | refine pick_i ?_ ?_ | refine gS_it ?_ ?_ | refine gS_if ?_ ?_ | refine gP_it ?_ ?_ | refine gP_if ?_ ?_) <;> (intro hc; try simp only [Int.reduceLE,Int.reduceLT,Int.reduceEq,Sn] at hc)) | (with_reducible refine KP_i ?_ ?_; · (repeat' (first | exact Heap.Le.refl _ | (with_reducible refine Le_set2 ?_) | (refine Le_known (by first | (simp only [Heap.set_same, set_ne, ne_eq, not_false_eq_true, *] <;> rfl) | fail) ?_) | (refine Le_fresh (by first | (simp only [*] <;> done) | (simp [set_none', Heap.set_same, set_ne, noneH, *] <;> done) | fail) ?_) | (refine Heap.Le.trans ?_ (Grow.le (by assumption))) | exact Le_none | (refine Le_put ?_ (by first | (simp only [Heap.set_same, set_ne, ne_eq, not_false_eq_true, *] <;> rfl) | fail)) | fail))) | (with_reducible refine And.intro ?_ ?_)) <;> (try simp only [Sq,Sr,Sh,Si,Sl,Bu,Bb,Bd,Bc,Bw,Bn,Int.reduceAdd,Int.reduceSub,Int.reduceMul,Int.reduceTDiv,Int.reduceTMod,Int.reduceMod,Int.reduceDiv,Nat.reduceLT,Nat.reduceEqDiff,Sa,Sb,Sc,Sd,Se,Sf,Sg,Int.reduceLE,Int.reduceLT,Int.reduceToNat,Int.reduceNeg,Int.reduceEq,Nat.reduceLeDiff,Nat.reducePow,Int.reducePow,reduceIte,Nat.reduceSub,Nat.reduceAdd,Nat.reduceMul,putAt,ceq,List.replicate, *]))
    have kk4 : H' b4 = some ⟨.t 24, _⟩ := hg2.some (by simp only [Heap.set_same, set_ne, ne_eq, not_false_eq_true, *] <;> rfl)
    have kk7 : H' b7 = some ⟨.t 38, [.int .i64 z.w, .int .i64 z.h, .slice z.a z.l.length z.cap]⟩ := hg2.some (by simp only [Heap.set_same, set_ne, ne_eq, not_false_eq_true, *] <;> rfl)
    have kk8 : H' b8 = some ⟨.t 24, [.int .i64 0, .slice none 0 0, .int .i64 0, .int .i64 0, .int .i64 0, .int .i64 0]⟩ := hg2.some (by simp only [Heap.set_same, set_ne, ne_eq, not_false_eq_true, *] <;> rfl)
    have gH' : Grow w0 H H' := Grow.trans (by (repeat' (first | exact Grow.refl _ | assumption | (refine Grow_known (by first | (simp only [Heap.set_same, set_ne, ne_eq, not_false_eq_true, *] <;> rfl) | fail) ?_) | (refine Grow.set ?_ (by assumption) (by first | (simp only [*] <;> done) | (simp [set_none', Heap.set_same, set_ne, noneH, *] <;> done) | fail)) | (refine Grow.trans ?_ (by assumption))))) hg2
    have hLB : LB w0 (H.set b7 ⟨.t 38, [.int .i64 z.w, .int .i64 z.h, .slice z.a z.l.length z.cap]⟩) H' y.a y.cap y.ls := hC.lb.re (fun c hc => by
      by_cases e7' : c = b7
      · subst e7'; rw [Heap.set_other _ _ d78.1, Heap.set_same] at hc; cases hc
      · rw [Heap.set_other _ _ e7']; exact (show Grow w0 H _ from (by (repeat' (first | exact Grow.refl _ | assumption | (refine Grow_known (by first | (simp only [Heap.set_same, set_ne, ne_eq, not_false_eq_true, *] <;> rfl) | fail) ?_) | (refine Grow.set ?_ (by assumption) (by first | (simp only [*] <;> done) | (simp [set_none', Heap.set_same, set_ne, noneH, *] <;> done) | fail)) | (refine Grow.trans ?_ (by assumption)))))).none hc)
    have hCs := (⟨hC.s, hC.t, hC.mn, hC.mg⟩ : I64 y.s ∧ I64 y.t ∧ I64 y.mn ∧ I64 y.mg)
    have hEl : y.ls.map LvR.core = (x.keep f).map LvR.core := by rw [← kpi q1]; exact hE.ls
    have hE2 := (⟨hE.s, hE.t, hE.mn, hE.mg⟩ : y.s = x.s ∧ y.t = x.t ∧ y.mn = x.mn ∧ y.mg = x.mg)
    have hm7' : y.ls.length ≤ 7 := by have := congrArg List.length hE.ls; rw [List.length_map, List.length_map] at this; rw [this]; exact hm7
    rw [root3 kk4 kk7 kk8]
    clear hg2 hC hE cK gG q1 q2 q3 q4 q5 hm7 hx0 hx hn7 hlen k4 k7 k8 hg
    replace hEl : Keep _ := hEl
    replace hE2 : Keep _ := hE2
    replace hm7' : Keep _ := hm7'
    replace h : Keep _ := h
    (all_goals (try simp only [Sq,Sr,Sh,Si,Sl,Bu,Bb,Bd,Bc,Bw,Bn,Int.reduceAdd,Int.reduceSub,Int.reduceMul,Int.reduceTDiv,Int.reduceTMod,Int.reduceMod,Int.reduceDiv,Nat.reduceLT,Nat.reduceEqDiff,Sa,Sb,Sc,Sd,Se,Sf,Sg,Int.reduceLE,Int.reduceLT,Int.reduceToNat,Int.reduceNeg,Int.reduceEq,Nat.reduceLeDiff,Nat.reducePow,Int.reducePow,reduceIte,Nat.reduceSub,Nat.reduceAdd,Nat.reduceMul,putAt,ceq,List.replicate, *])); repeat' ((first | (with_reducible refine fun _ : True => ?_) | (with_reducible refine any_h ?_) | ((first | refine AllocQ_i ?_ | refine AllocO_i ?_); intro bk hb0 hbk; (try simp only [set_none'] at hbk); (try (first | have hbn := Grow.none (by assumption) hbk | have hbn := Grow.none (by assumption) hbk.2 | have hbn := Grow.none (by assumption) hbk.2.2 | have hbn := Grow.none (by assumption) hbk.2.2.2 | have hbn := Grow.none (by assumption) hbk.2.2.2.2 | have hbn := Grow.none (by assumption) hbk.2.2.2.2.2)); (try simp only [set_none'] at hbn); (try (first | have hbm := Grow.none (by assumption) hbn | have hbm := Grow.none (by assumption) hbn.2 | have hbm := Grow.none (by assumption) hbn.2.2 | have hbm := Grow.none (by assumption) hbn.2.2.2 | have hbm := Grow.none (by assumption) hbn.2.2.2.2 | have hbm := Grow.none (by assumption) hbn.2.2.2.2.2)); (try simp only [set_none'] at hbm)) | ((first | refine condS_i ?_ ?_ | refine pick_i ?_ ?_ | refine gS_it ?_ ?_ | refine gS_if ?_ ?_ | refine gP_it ?_ ?_ | refine gP_if ?_ ?_) <;> (intro hc; try simp only [Int.reduceLE,Int.reduceLT,Int.reduceEq,Sn] at hc)) | (with_reducible refine KP_i ?_ ?_; · (repeat' (first | exact Heap.Le.refl _ | (with_reducible refine Le_set2 ?_) | (refine Le_known (by first | (simp only [Heap.set_same, set_ne, ne_eq, not_false_eq_true, *] <;> rfl) | fail) ?_) | (refine Le_fresh (by first | (simp only [*] <;> done) | (simp [set_none', Heap.set_same, set_ne, noneH, *] <;> done) | fail) ?_) | (refine Heap.Le.trans ?_ (Grow.le (by assumption))) | exact Le_none | (refine Le_put ?_ (by first | (simp only [Heap.set_same, set_ne, ne_eq, not_false_eq_true, *] <;> rfl) | fail)) | fail))) | (with_reducible refine And.intro ?_ ?_)) <;> (try simp only [Sq,Sr,Sh,Si,Sl,Bu,Bb,Bd,Bc,Bw,Bn,Int.reduceAdd,Int.reduceSub,Int.reduceMul,Int.reduceTDiv,Int.reduceTMod,Int.reduceMod,Int.reduceDiv,Nat.reduceLT,Nat.reduceEqDiff,Sa,Sb,Sc,Sd,Se,Sf,Sg,Int.reduceLE,Int.reduceLT,Int.reduceToNat,Int.reduceNeg,Int.reduceEq,Nat.reduceLeDiff,Nat.reducePow,Int.reducePow,reduceIte,Nat.reduceSub,Nat.reduceAdd,Nat.reduceMul,putAt,ceq,List.replicate, *]))
    refine loopq_heap (fun H1 eH => ?_)
    have k4 : H1 b4 = some ⟨.t 24, [.int .i64 f, .slice y.a y.ls.length y.cap, .int .i64 y.s, .int .i64 y.t, .int .i64 y.mn, .int .i64 y.mg]⟩ := at_of eH (by simp only [Heap.set_same, set_ne, ne_eq, not_false_eq_true, *] <;> rfl)
    have k7 : H1 b7 = some ⟨.t 38, [.int .i64 z.w, .int .i64 z.h, .slice z.a z.l.length z.cap]⟩ := at_of eH (by simp only [Heap.set_same, set_ne, ne_eq, not_false_eq_true, *] <;> rfl)
    have k8 : H1 b8 = some ⟨.t 24, [.int .i64 0, .slice none 0 0, .int .i64 0, .int .i64 0, .int .i64 0, .int .i64 0]⟩ := at_of eH (by simp only [Heap.set_same, set_ne, ne_eq, not_false_eq_true, *] <;> rfl)
    have gH1 : Grow w0 H H1 := by rw [eH]; exact (by (repeat' (first | exact Grow.refl _ | assumption | (refine Grow_known (by first | (simp only [Heap.set_same, set_ne, ne_eq, not_false_eq_true, *] <;> rfl) | fail) ?_) | (refine Grow.set ?_ (by assumption) (by first | (simp only [*] <;> done) | (simp [set_none', Heap.set_same, set_ne, noneH, *] <;> done) | fail)) | (refine Grow.trans ?_ (by assumption)))))
    have hLB1 : LB w0 (H.set b7 ⟨.t 38, [.int .i64 z.w, .int .i64 z.h, .slice z.a z.l.length z.cap]⟩) H1 y.a y.cap (y.ls ++ List.replicate 0 zLv) := by
      rw [List.replicate_zero, List.append_nil, eH, set3_id d47.2 d48' kk7 kk8]
      exact hLB.turn kk4
    clear eH hLB kk4 kk7 kk8 gH'
    obtain ⟨m, em⟩ : ∃ m, y.ls.length = m := ⟨_, rfl⟩
    rw [em] at k4
    have hm7 : m ≤ 7 := by rw [← em]; exact kpi hm7'
    refine loop_g 89 (fun s : Nat × Option Addr × Nat × Heap => []) (fun s => s.2.2.2) (fun s => s.1 ≤ lv + 1 - m ∧ LB w0 (H.set b7 ⟨.t 38, [.int .i64 z.w, .int .i64 z.h, .slice z.a z.l.length z.cap]⟩) s.2.2.2 s.2.1 s.2.2.1 (y.ls ++ List.replicate s.1 zLv) ∧ Grow w0 H s.2.2.2 ∧ s.2.2.2 b4 = some ⟨.t 24, [.int .i64 f, .slice s.2.1 (m + s.1) s.2.2.1, .int .i64 y.s, .int .i64 y.t, .int .i64 y.mn, .int .i64 y.mg]⟩ ∧ s.2.2.2 b7 = some ⟨.t 38, [.int .i64 z.w, .int .i64 z.h, .slice z.a z.l.length z.cap]⟩ ∧ s.2.2.2 b8 = some ⟨.t 24, [.int .i64 0, .slice none 0 0, .int .i64 0, .int .i64 0, .int .i64 0, .int .i64 0]⟩) (fun s => lv + 1 - m - s.1) (0, y.a, y.cap, H1) ⟨Nat.zero_le _, hLB1, gH1, k4, k7, k8⟩ (Heap.Le.refl _) rfl ?_
    clear hLB1 gH1 k4 k7 k8
    intro ⟨j, a, cap, G2⟩ gg ⟨hj, hB, hG, k4, k7, k8⟩
    simp only at hj hB hG k4 k7 k8
    have gz : Grow w0 (H.set b7 ⟨.t 38, [.int .i64 z.w, .int .i64 z.h, .slice z.a z.l.length z.cap]⟩) G2 := grow_known hG k7
    show run _ _ _ _ _ _ G2
    have hll : (y.ls ++ List.replicate j zLv).length = m + j := by rw [List.length_append, List.length_replicate, em]
    by_cases hlt : m + j ≤ lv
    · have t0 : ((m + j : Nat) : Int) ≤ (lv : Int) := by omega
      rw [root3 k4 k7 k8]
      clear em
      (all_goals (try simp only [Sq,Sr,Sh,Si,Sl,Bu,Bb,Bd,Bc,Bw,Bn,Int.reduceAdd,Int.reduceSub,Int.reduceMul,Int.reduceTDiv,Int.reduceTMod,Int.reduceMod,Int.reduceDiv,Nat.reduceLT,Nat.reduceEqDiff,Sa,Sb,Sc,Sd,Se,Sf,Sg,Int.reduceLE,Int.reduceLT,Int.reduceToNat,Int.reduceNeg,Int.reduceEq,Nat.reduceLeDiff,Nat.reducePow,Int.reducePow,reduceIte,Nat.reduceSub,Nat.reduceAdd,Nat.reduceMul,putAt,ceq,List.replicate, *])); repeat' ((first | (with_reducible refine fun _ : True => ?_) | (with_reducible refine any_h ?_) | ((first | refine AllocQ_i ?_ | refine AllocO_i ?_); intro bk hb0 hbk; (try simp only [set_none'] at hbk); (try (first | have hbn := Grow.none (by assumption) hbk | have hbn := Grow.none (by assumption) hbk.2 | have hbn := Grow.none (by assumption) hbk.2.2 | have hbn := Grow.none (by assumption) hbk.2.2.2 | have hbn := Grow.none (by assumption) hbk.2.2.2.2 | have hbn := Grow.none (by assumption) hbk.2.2.2.2.2)); (try simp only [set_none'] at hbn); (try (first | have hbm := Grow.none (by assumption) hbn | have hbm := Grow.none (by assumption) hbn.2 | have hbm := Grow.none (by assumption) hbn.2.2 | have hbm := Grow.none (by assumption) hbn.2.2.2 | have hbm := Grow.none (by assumption) hbn.2.2.2.2 | have hbm := Grow.none (by assumption) hbn.2.2.2.2.2)); (try simp only [set_none'] at hbm)) | ((first | refine condS_i ?_ ?_ | refine pick_i ?_ ?_ | refine gS_it ?_ ?_ | refine gS_if ?_ ?_ | refine gP_it ?_ ?_ | refine gP_if ?_ ?_) <;> (intro hc; try simp only [Int.reduceLE,Int.reduceLT,Int.reduceEq,Sn] at hc)) | (with_reducible refine KP_i ?_ ?_; · (repeat' (first | exact Heap.Le.refl _ | (with_reducible refine Le_set2 ?_) | (refine Le_known (by first | (simp only [Heap.set_same, set_ne, ne_eq, not_false_eq_true, *] <;> rfl) | fail) ?_) | (refine Le_fresh (by first | (simp only [*] <;> done) | (simp [set_none', Heap.set_same, set_ne, noneH, *] <;> done) | fail) ?_) | (refine Heap.Le.trans ?_ (Grow.le (by assumption))) | exact Le_none | (refine Le_put ?_ (by first | (simp only [Heap.set_same, set_ne, ne_eq, not_false_eq_true, *] <;> rfl) | fail)) | fail))) | (with_reducible refine And.intro ?_ ?_)) <;> (try simp only [Sq,Sr,Sh,Si,Sl,Bu,Bb,Bd,Bc,Bw,Bn,Int.reduceAdd,Int.reduceSub,Int.reduceMul,Int.reduceTDiv,Int.reduceTMod,Int.reduceMod,Int.reduceDiv,Nat.reduceLT,Nat.reduceEqDiff,Sa,Sb,Sc,Sd,Se,Sf,Sg,Int.reduceLE,Int.reduceLT,Int.reduceToNat,Int.reduceNeg,Int.reduceEq,Nat.reduceLeDiff,Nat.reducePow,Int.reducePow,reduceIte,Nat.reduceSub,Nat.reduceAdd,Nat.reduceMul,putAt,ceq,List.replicate, *]))
      refine app_lvn hll (hB.grow (by (repeat' (first | exact Grow.refl _ | assumption | (refine Grow_known (by first | (simp only [Heap.set_same, set_ne, ne_eq, not_false_eq_true, *] <;> rfl) | fail) ?_) | (refine Grow.set ?_ (by assumption) (by first | (simp only [*] <;> done) | (simp [set_none', Heap.set_same, set_ne, noneH, *] <;> done) | fail)) | (refine Grow.trans ?_ (by assumption)))))) (gz.trans (by (repeat' (first | exact Grow.refl _ | assumption | (refine Grow_known (by first | (simp only [Heap.set_same, set_ne, ne_eq, not_false_eq_true, *] <;> rfl) | fail) ?_) | (refine Grow.set ?_ (by assumption) (by first | (simp only [*] <;> done) | (simp [set_none', Heap.set_same, set_ne, noneH, *] <;> done) | fail)) | (refine Grow.trans ?_ (by assumption)))))) (by simp only [Heap.set_same, set_ne, ne_eq, not_false_eq_true, *] <;> rfl) (by omega) (fun a' cap' G3 hB3 hg3 hk3 => ?_)
      have j4 : G3 b4 = some _ := hk3 b4 _ (by simp only [Heap.set_same, set_ne, ne_eq, not_false_eq_true, *] <;> rfl) (.inl (by simp))
      have j7 : G3 b7 = some ⟨.t 38, [.int .i64 z.w, .int .i64 z.h, .slice z.a z.l.length z.cap]⟩ := hk3 b7 _ (by simp only [Heap.set_same, set_ne, ne_eq, not_false_eq_true, *] <;> rfl) (.inr (by rw [Heap.set_same]; simp))
      have j8 : G3 b8 = some ⟨.t 24, [.int .i64 0, .slice none 0 0, .int .i64 0, .int .i64 0, .int .i64 0, .int .i64 0]⟩ := hk3 b8 _ (by simp only [Heap.set_same, set_ne, ne_eq, not_false_eq_true, *] <;> rfl) (.inl (by simp))
      have g3 : Grow w0 H G3 := (Grow.set (Grow.refl _) s7 n7).trans hg3
      have hB4 : LB w0 (H.set b7 ⟨.t 38, [.int .i64 z.w, .int .i64 z.h, .slice z.a z.l.length z.cap]⟩) (((G3.set b4 ⟨.t 24, [.int .i64 f, .slice a' (m + (j + 1)) cap', .int .i64 y.s, .int .i64 y.t, .int .i64 y.mn, .int .i64 y.mg]⟩).set b7 ⟨.t 38, [.int .i64 z.w, .int .i64 z.h, .slice z.a z.l.length z.cap]⟩).set b8 ⟨.t 24, [.int .i64 0, .slice none 0 0, .int .i64 0, .int .i64 0, .int .i64 0, .int .i64 0]⟩) a' cap' (y.ls ++ List.replicate (j + 1) zLv) := by
        rw [set3_id d47.2 d48' j7 j8, List.replicate_succ', ← List.append_assoc]
        exact hB3.turn j4
      have g4 : Grow w0 H (((G3.set b4 ⟨.t 24, [.int .i64 f, .slice a' (m + (j + 1)) cap', .int .i64 y.s, .int .i64 y.t, .int .i64 y.mn, .int .i64 y.mg]⟩).set b7 ⟨.t 38, [.int .i64 z.w, .int .i64 z.h, .slice z.a z.l.length z.cap]⟩).set b8 ⟨.t 24, [.int .i64 0, .slice none 0 0, .int .i64 0, .int .i64 0, .int .i64 0, .int .i64 0]⟩) := ((g3.set s4 n4).set s7 n7).set s8 n8
      have f4 : (((G3.set b4 ⟨.t 24, [.int .i64 f, .slice a' (m + (j + 1)) cap', .int .i64 y.s, .int .i64 y.t, .int .i64 y.mn, .int .i64 y.mg]⟩).set b7 ⟨.t 38, [.int .i64 z.w, .int .i64 z.h, .slice z.a z.l.length z.cap]⟩).set b8 ⟨.t 24, [.int .i64 0, .slice none 0 0, .int .i64 0, .int .i64 0, .int .i64 0, .int .i64 0]⟩) b4 = some ⟨.t 24, [.int .i64 f, .slice a' (m + (j + 1)) cap', .int .i64 y.s, .int .i64 y.t, .int .i64 y.mn, .int .i64 y.mg]⟩ := by rw [set3_id d47.2 d48' j7 j8]; exact Heap.set_same _ _ _
      have f7 : (((G3.set b4 ⟨.t 24, [.int .i64 f, .slice a' (m + (j + 1)) cap', .int .i64 y.s, .int .i64 y.t, .int .i64 y.mn, .int .i64 y.mg]⟩).set b7 ⟨.t 38, [.int .i64 z.w, .int .i64 z.h, .slice z.a z.l.length z.cap]⟩).set b8 ⟨.t 24, [.int .i64 0, .slice none 0 0, .int .i64 0, .int .i64 0, .int .i64 0, .int .i64 0]⟩) b7 = some ⟨.t 38, [.int .i64 z.w, .int .i64 z.h, .slice z.a z.l.length z.cap]⟩ := by rw [set3_id d47.2 d48' j7 j8]; exact (Heap.set_other _ _ d47.2).trans j7
      have f8 : (((G3.set b4 ⟨.t 24, [.int .i64 f, .slice a' (m + (j + 1)) cap', .int .i64 y.s, .int .i64 y.t, .int .i64 y.mn, .int .i64 y.mg]⟩).set b7 ⟨.t 38, [.int .i64 z.w, .int .i64 z.h, .slice z.a z.l.length z.cap]⟩).set b8 ⟨.t 24, [.int .i64 0, .slice none 0 0, .int .i64 0, .int .i64 0, .int .i64 0, .int .i64 0]⟩) b8 = some ⟨.t 24, [.int .i64 0, .slice none 0 0, .int .i64 0, .int .i64 0, .int .i64 0, .int .i64 0]⟩ := by rw [set3_id d47.2 d48' j7 j8]; exact (Heap.set_other _ _ d48').trans j8
      rw [root3 j4 j7 j8]
      clear hB hG k4 k7 k8 hB3 hk3 hg3 j4 j7 j8 gz
      replace f4 : Keep _ := f4
      replace f7 : Keep _ := f7
      replace f8 : Keep _ := f8
      (all_goals (try simp only [Sq,Sr,Sh,Si,Sl,Bu,Bb,Bd,Bc,Bw,Bn,Int.reduceAdd,Int.reduceSub,Int.reduceMul,Int.reduceTDiv,Int.reduceTMod,Int.reduceMod,Int.reduceDiv,Nat.reduceLT,Nat.reduceEqDiff,Sa,Sb,Sc,Sd,Se,Sf,Sg,Int.reduceLE,Int.reduceLT,Int.reduceToNat,Int.reduceNeg,Int.reduceEq,Nat.reduceLeDiff,Nat.reducePow,Int.reducePow,reduceIte,Nat.reduceSub,Nat.reduceAdd,Nat.reduceMul,putAt,ceq,List.replicate, *])); repeat' ((first | (with_reducible refine fun _ : True => ?_) | (with_reducible refine any_h ?_) | ((first | refine AllocQ_i ?_ | refine AllocO_i ?_); intro bk hb0 hbk; (try simp only [set_none'] at hbk); (try (first | have hbn := Grow.none (by assumption) hbk | have hbn := Grow.none (by assumption) hbk.2 | have hbn := Grow.none (by assumption) hbk.2.2 | have hbn := Grow.none (by assumption) hbk.2.2.2 | have hbn := Grow.none (by assumption) hbk.2.2.2.2 | have hbn := Grow.none (by assumption) hbk.2.2.2.2.2)); (try simp only [set_none'] at hbn); (try (first | have hbm := Grow.none (by assumption) hbn | have hbm := Grow.none (by assumption) hbn.2 | have hbm := Grow.none (by assumption) hbn.2.2 | have hbm := Grow.none (by assumption) hbn.2.2.2 | have hbm := Grow.none (by assumption) hbn.2.2.2.2 | have hbm := Grow.none (by assumption) hbn.2.2.2.2.2)); (try simp only [set_none'] at hbm)) | ((first | refine condS_i ?_ ?_ | refine pick_i ?_ ?_ | refine gS_it ?_ ?_ | refine gS_if ?_ ?_ | refine gP_it ?_ ?_ | refine gP_if ?_ ?_) <;> (intro hc; try simp only [Int.reduceLE,Int.reduceLT,Int.reduceEq,Sn] at hc)) | (with_reducible refine KP_i ?_ ?_; · (repeat' (first | exact Heap.Le.refl _ | (with_reducible refine Le_set2 ?_) | (refine Le_known (by first | (simp only [Heap.set_same, set_ne, ne_eq, not_false_eq_true, *] <;> rfl) | fail) ?_) | (refine Le_fresh (by first | (simp only [*] <;> done) | (simp [set_none', Heap.set_same, set_ne, noneH, *] <;> done) | fail) ?_) | (refine Heap.Le.trans ?_ (Grow.le (by assumption))) | exact Le_none | (refine Le_put ?_ (by first | (simp only [Heap.set_same, set_ne, ne_eq, not_false_eq_true, *] <;> rfl) | fail)) | fail))) | (with_reducible refine And.intro ?_ ?_)) <;> (try simp only [Sq,Sr,Sh,Si,Sl,Bu,Bb,Bd,Bc,Bw,Bn,Int.reduceAdd,Int.reduceSub,Int.reduceMul,Int.reduceTDiv,Int.reduceTMod,Int.reduceMod,Int.reduceDiv,Nat.reduceLT,Nat.reduceEqDiff,Sa,Sb,Sc,Sd,Se,Sf,Sg,Int.reduceLE,Int.reduceLT,Int.reduceToNat,Int.reduceNeg,Int.reduceEq,Nat.reduceLeDiff,Nat.reducePow,Int.reducePow,reduceIte,Nat.reduceSub,Nat.reduceAdd,Nat.reduceMul,putAt,ceq,List.replicate, *]))
      exact Round_mk (j + 1, a', cap', _) ⟨by omega, hB4, g4, kpi f4, kpi f7, kpi f8⟩ (by simp only; omega) (Heap.Le.refl _) rfl rfl
    · have t0 : ¬ ((m + j : Nat) : Int) ≤ (lv : Int) := by omega
      have hj' : j = lv + 1 - m := by omega
      rcases hB.bld with ⟨b, zz, rfl, sb, nb_, hb3, hb4⟩ | ⟨-, h0⟩
      · have w4 : b ≠ b4 ∧ b4 ≠ b := ⟨fun e => (by rw [e, k4] at hb3; cases hb3), fun e => (by rw [← e, k4] at hb3; cases hb3)⟩
        have w8 : b ≠ b8 ∧ b8 ≠ b := ⟨fun e => (by rw [e, k8] at hb3; cases hb3), fun e => (by rw [← e, k8] at hb3; cases hb3)⟩
        have w7' : b ≠ b7 := fun e => by rw [e, Heap.set_same] at nb_; cases nb_
        have w7 : b ≠ b7 ∧ b7 ≠ b := ⟨w7', w7'.symm⟩
        obtain ⟨R, eR⟩ : ∃ R, ((y.ls ++ List.replicate j zLv).map LvR.row).flatten = R := ⟨_, rfl⟩
        obtain ⟨RR, eRR⟩ : ∃ RR : Nat → List Value, ∀ nb, (((y.ls ++ List.replicate j zLv).set lv (zP f z nb N)).map LvR.row).flatten = RR nb := ⟨fun nb => _, fun _ => rfl⟩
        have hput : ∀ nb, putAt (R ++ zz) (lv * 3) [.int .i64 z.w, .int .i64 z.h, .slice (some ⟨nb, 0, none⟩) N N] = RR nb ++ zz := fun nb => by
          have := put_row (ls := y.ls ++ List.replicate j zLv) (lv := lv) (by rw [hll]; omega) (zP f z nb N) zz
          rw [eR, eRR] at this
          rw [← this]
          unfold zP LvR.row
          simp only [putB_len eN hzl]
        have hRl : R.length = (m + j) * 3 := by rw [← eR, rows_len, hll]
        have hbd : lv * 3 + 3 ≤ (R ++ zz).length := by rw [List.length_append]; omega
        rw [eR] at hb3
        have hroot : G2 = (((G2.set b4 ⟨.t 24, [.int .i64 f, .slice (some ⟨b, 0, none⟩) (m + j) cap, .int .i64 y.s, .int .i64 y.t, .int .i64 y.mn, .int .i64 y.mg]⟩).set b7 ⟨.t 38, [.int .i64 z.w, .int .i64 z.h, .slice z.a z.l.length z.cap]⟩).set b8 ⟨.t 24, [.int .i64 0, .slice none 0 0, .int .i64 0, .int .i64 0, .int .i64 0, .int .i64 0]⟩).set b ⟨.t 38, R ++ zz⟩ := by rw [Heap.set_id G2 b4 _ k4, Heap.set_id G2 b7 _ k7, Heap.set_id G2 b8 _ k8, Heap.set_id G2 b _ hb3]
        have tn : ((N : Nat) : Int).toNat = N := Int.toNat_natCast N
        have t1 : (lv : Int) < ((m + j : Nat) : Int) := by omega
        have t2 : lv < m + j := by omega
        have sH : Grow w0 H (H.set b7 ⟨.t 38, [.int .i64 z.w, .int .i64 z.h, .slice z.a z.l.length z.cap]⟩) := Grow.set (Grow.refl _) s7 n7
        have hbH : H b = none := sH.none nb_
        have hre : ∀ c, (H.set b7 ⟨.t 38, [.int .i64 z.w, .int .i64 z.h, .slice z.a z.l.length z.cap]⟩) c = none → H c = none := fun c hc => sH.none hc
        have hzA : ∀ G, Grow w0 H G → IntsAt w0 G .u8 z.a z.l := fun G g => IntsAt.grow hz.at_ g
        rw [hroot]
        replace hB : Keep _ := hB
        replace hG : Keep _ := hG
        have kk : Keep (G2 b4 = some _ ∧ G2 b7 = some _ ∧ G2 b8 = some _ ∧ G2 b = some _) := ⟨k4, k7, k8, hb3⟩
        replace hb4 : Keep _ := hb4
        replace hre : Keep _ := hre
        replace hzA : Keep _ := hzA
        replace eRR : Keep _ := eRR
        replace eR : Keep _ := eR
        replace hroot : Keep _ := hroot
        have hzz : ((y.ls ++ List.replicate j zLv).map LvR.row).flatten.length + zz.length = cap * 3 := kpi hb4
        replace hzz : Keep _ := hzz
        replace hz : Keep _ := hz
        replace em : Keep _ := em
        replace nb_ : Keep _ := nb_
        replace hj' : Keep _ := hj'
        clear sH
        (all_goals (try simp only [Sq,Sr,Sh,Si,Sl,Bu,Bb,Bd,Bc,Bw,Bn,Int.reduceAdd,Int.reduceSub,Int.reduceMul,Int.reduceTDiv,Int.reduceTMod,Int.reduceMod,Int.reduceDiv,Nat.reduceLT,Nat.reduceEqDiff,Sa,Sb,Sc,Sd,Se,Sf,Sg,Int.reduceLE,Int.reduceLT,Int.reduceToNat,Int.reduceNeg,Int.reduceEq,Nat.reduceLeDiff,Nat.reducePow,Int.reducePow,reduceIte,Nat.reduceSub,Nat.reduceAdd,Nat.reduceMul,putAt,ceq,List.replicate, *])); repeat' ((first | (with_reducible refine fun _ : True => ?_) | refine mks_i (by omega) (by omega) (by omega) (by omega) ?_ | refine cpy_new (by simp only [Heap.set_same, set_ne, ne_eq, not_false_eq_true, *] <;> rfl) (kpi hzA _ (by (repeat' (first | exact Grow.refl _ | assumption | (refine Grow_known (by first | (simp only [Heap.set_same, set_ne, ne_eq, not_false_eq_true, *] <;> rfl) | fail) ?_) | (refine Grow.set ?_ (by assumption) (by first | (simp only [*] <;> done) | (simp [set_none', Heap.set_same, set_ne, noneH, *] <;> done) | fail)) | (refine Grow.trans ?_ (by assumption)))))) hzl ?_ | (with_reducible refine any_h ?_) | ((first | refine AllocQ_i ?_ | refine AllocO_i ?_); intro bk hb0 hbk; (try simp only [set_none'] at hbk); (try (first | have hbn := Grow.none (by assumption) hbk | have hbn := Grow.none (by assumption) hbk.2 | have hbn := Grow.none (by assumption) hbk.2.2 | have hbn := Grow.none (by assumption) hbk.2.2.2 | have hbn := Grow.none (by assumption) hbk.2.2.2.2 | have hbn := Grow.none (by assumption) hbk.2.2.2.2.2)); (try simp only [set_none'] at hbn); (try (first | have hbm := Grow.none (by assumption) hbn | have hbm := Grow.none (by assumption) hbn.2 | have hbm := Grow.none (by assumption) hbn.2.2 | have hbm := Grow.none (by assumption) hbn.2.2.2 | have hbm := Grow.none (by assumption) hbn.2.2.2.2 | have hbm := Grow.none (by assumption) hbn.2.2.2.2.2)); (try simp only [set_none'] at hbm)) | ((first | refine condS_i ?_ ?_ | refine pick_i ?_ ?_ | refine gS_it ?_ ?_ | refine gS_if ?_ ?_ | refine gP_it ?_ ?_ | refine gP_if ?_ ?_) <;> (intro hc; try simp only [Int.reduceLE,Int.reduceLT,Int.reduceEq,Sn] at hc)) | (with_reducible refine KP_i ?_ ?_; · (repeat' (first | exact Heap.Le.refl _ | (with_reducible refine Le_set2 ?_) | (refine Le_known (by first | (simp only [Heap.set_same, set_ne, ne_eq, not_false_eq_true, *] <;> rfl) | fail) ?_) | (refine Le_fresh (by first | (simp only [*] <;> done) | (simp [set_none', Heap.set_same, set_ne, noneH, *] <;> done) | fail) ?_) | (refine Heap.Le.trans ?_ (Grow.le (by assumption))) | exact Le_none | (refine Le_put ?_ (by first | (simp only [Heap.set_same, set_ne, ne_eq, not_false_eq_true, *] <;> rfl) | fail)) | fail))) | (with_reducible refine And.intro ?_ ?_)) <;> (try simp only [Sq,Sr,Sh,Si,Sl,Bu,Bb,Bd,Bc,Bw,Bn,Int.reduceAdd,Int.reduceSub,Int.reduceMul,Int.reduceTDiv,Int.reduceTMod,Int.reduceMod,Int.reduceDiv,Nat.reduceLT,Nat.reduceEqDiff,Sa,Sb,Sc,Sd,Se,Sf,Sg,Int.reduceLE,Int.reduceLT,Int.reduceToNat,Int.reduceNeg,Int.reduceEq,Nat.reduceLeDiff,Nat.reducePow,Int.reducePow,reduceIte,Nat.reduceSub,Nat.reduceAdd,Nat.reduceMul,putAt,ceq,List.replicate, *]))
        obtain ⟨kk4, kk7, kk8, kkb⟩ := kpi kk
        refine Fin_mk (Heap.Le.refl _) (put_done (Hz := H.set b7 ⟨.t 38, [.int .i64 z.w, .int .i64 z.h, .slice z.a z.l.length z.cap]⟩) (zz := zz) (kpi hEl) (kpi hE2).1 (kpi hE2).2.1 (kpi hE2).2.2.1 (kpi hE2).2.2.2 hCs hf (kpi em) (kpi hj') hlv hm7 (kpi hz) eN hzl (by omega) (kpi hB) (kpi hre) sb (kpi nb_) (kpi hzz) hb0 hbn ?_ ?_ ?_ ?_ (kpi h))
        · rw [kpi eRR]; exact (by simp only [Heap.set_same, set_ne, ne_eq, not_false_eq_true, *] <;> rfl)
        · unfold putB; rw [eN, Int.toNat_natCast]; exact (by simp only [Heap.set_same, set_ne, ne_eq, not_false_eq_true, *] <;> rfl)
        · intro d x hd hx
          have u4 : d ≠ b4 := fun e => by rw [e, kk4] at hd; cases hd; cases hx
          have u7 : d ≠ b7 := fun e => by rw [e, kk7] at hd; cases hd; cases hx
          have u8 : d ≠ b8 := fun e => by rw [e, kk8] at hd; cases hd; cases hx
          have ub : d ≠ b := fun e => by rw [e, kkb] at hd; cases hd; cases hx
          have uk : d ≠ bk := fun e => by rw [e, hbk.2.2.2.2] at hd; cases hd
          rw [Heap.set_other _ _ uk, Heap.set_other _ _ ub, Heap.set_other _ _ u8, Heap.set_other _ _ u7, Heap.set_other _ _ u4]
          exact hd
        · exact (((((kpi hG : Grow w0 H G2).set s4 n4).set s7 n7).set s8 n8).set sb hbH).set hb0 hbn
      · have := congrArg List.length h0
        rw [rows_len, hll] at this
        have h1 : (m + j) * 3 = 0 := this
        omega
end Go.Proofs.Ytdaipgnhconfnaa
