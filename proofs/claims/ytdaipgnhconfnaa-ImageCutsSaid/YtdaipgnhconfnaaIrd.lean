/- A piece is got, by the program (layer 8). -/
import Derived.Test.YtdaipgnhconfnaaIrc
import Derived.Test.YtdaipgnhconfnaaIna
import Derived.Test.YtdaipgnhconfnaaInc
set_option linter.unusedSimpArgs false
set_option linter.unusedVariables false
set_option maxRecDepth 100000
set_option maxHeartbeats 4000000
namespace Go.Proofs.Ytdaipgnhconfnaa
open Go Go.HL Go.RowKit Pb
variable {w0 : World} {H G : Heap} {K : Value → Heap → Prop}

theorem seg_at {a : Option Addr} {l : List Int} {cb co lo n : Nat} (hA : IntsAt w0 G .u8 a l) (ea : a = some ⟨cb, co, none⟩) (h : lo + n ≤ l.length) (hl : 0 < l.length) : IntsAt w0 G .u8 (some ⟨cb, co + lo, none⟩) ((l.drop lo).take n) := by
  obtain ⟨b, o, e, hr, -⟩ := ints_get hA hl
  rw [ea] at e
  cases e
  refine SlAt.toInts fun _ => ⟨cb, co + lo, rfl, fun i hi => ?_⟩
  rw [List.length_map, List.length_take, List.length_drop] at hi
  have hi2 : lo + i < l.length := by omega
  have := hr (lo + i) l[lo + i] (List.getElem?_eq_getElem hi2)
  rw [Nat.add_assoc, this, List.getElem?_map, List.getElem?_take, if_pos (by omega), List.getElem?_drop, List.getElem?_eq_getElem hi2]
  rfl
theorem one_map (l : List Int) : (l.map (Value.int .u8)).all Value.oneCell' = true := by simp [Value.oneCell']
def plainO (a : Option Addr) : Prop := a = none ∨ ∃ b o, a = some ⟨b, o, none⟩
/- image Get -/
def M36 : MC :=
  .seq (.reg [⟨(some 3), .box 24 (.tmp 0), none⟩,
 ⟨(some 5), .box 49 (.tmp 2), none⟩,
 ⟨(some 6), .mv (.const (.slice none 0 0)), none⟩,
 ⟨(some 7), .mv (.const (.int .i64 0)), none⟩])
 (.seq (.reg [⟨(some 14), .ldn 6 (.tmp 3), none⟩,
 ⟨(some 15), .mv (.tmp 1), none⟩,
 ⟨(some 16), .ldn 4 (.tmp 5), none⟩,
 ⟨(some 17), .call 59 [(.tmp 14), (.tmp 15), (.tmp 16)], none⟩,
 ⟨(some 13), .mv (.tmp 17), none⟩,
 ⟨(some 18), .ext 0 (.tmp 13), none⟩,
 ⟨(some 19), .ext 1 (.tmp 13), none⟩,
 ⟨(some 8), .alloc 38 [(.int .i64 0), (.int .i64 0), (.slice none 0 0)], none⟩,
 ⟨none, .stn 3 (.tmp 8) (.tmp 18), none⟩,
 ⟨(some 9), .mv (.tmp 19), none⟩])
 (.seq (.seq (.reg [⟨(some 20), .mv (.tmp 9), none⟩,
 ⟨(some 21), .bin .neq (.tmp 20) (.const (.int .i64 0)), none⟩])
 (.cond (.tmp 21)
 (.seq (.reg [⟨(some 22), .mv (.tmp 9), none⟩,
 ⟨(some 6), .mv (.const (.slice none 0 0)), none⟩,
 ⟨(some 7), .mv (.tmp 22), none⟩])
 (.ret))
 (.skip)))
 (.seq (.reg [⟨(some 10), .alloc 36 [(.slice none 0 0)], none⟩])
 (.seq (.seq (.any [(true, 0, [], ⟨(some 23), .ldn 3 (.tmp 8), none⟩),
 (true, 1, [], ⟨(some 24), .ldn 4 (.tmp 5), none⟩),
 (false, 2, [0, 1], ⟨(some 25), .fa 0 (.tmp 3), none⟩),
 (false, 3, [0, 1], ⟨(some 26), .ld1 (.tmp 25), none⟩),
 (false, 4, [0, 1], ⟨(some 27), .call 48 [(.tmp 26)], none⟩),
 (false, 5, [], ⟨(some 28), .call 60 [(.tmp 23), (.tmp 24), (.tmp 27)], none⟩)])
 (.block 0 (.rangef (.tmp 28) [29, 30]
 (.seq (.reg [⟨(some 11), .mv (.tmp 29), none⟩])
 (.reg [⟨(some 12), .mv (.tmp 30), none⟩]))
 (.block 1 (.any [(true, 0, [], ⟨(some 31), .ld1 (.tmp 10), none⟩),
 (true, 1, [], ⟨(some 32), .fa 2 (.tmp 8), none⟩),
 (true, 2, [], ⟨(some 33), .ld1 (.tmp 32), none⟩),
 (true, 3, [], ⟨(some 34), .mv (.tmp 11), none⟩),
 (false, 4, [0, 1, 2, 3], ⟨(some 35), .mv (.tmp 12), none⟩),
 (false, 5, [0], ⟨(some 36), .slc 1 (.tmp 33) (some (.tmp 34)) (some (.tmp 35)), none⟩),
 (false, 6, [], ⟨(some 37), .app 5 1 1 [(.int .u8 0)] (.tmp 31) (.tmp 36), none⟩),
 (false, 7, [], ⟨none, .st1 (.tmp 10) (.tmp 37), none⟩)])))))
 (.seq (.reg [⟨(some 38), .ld1 (.tmp 10), none⟩,
 ⟨(some 6), .mv (.tmp 38), none⟩,
 ⟨(some 7), .mv (.const (.int .i64 0)), none⟩])
 (.ret))))))
theorem k36 : fnOk Try.prog 36 = some (M36, [.t 6, .t 7], 39) := by kernel_rfl

theorem c_Get_err (x : Im) (hx : ImOk w0 H x) (lv : Int) (p : Pc) (e : Int) (he : FindE x lv p e) (h : K (.tuple #[.slice none 0 0, .int .i64 e]) H) : HCalls Try.prog w0 36 [x.v, .int .i64 lv, p.v] H K := by
  have cF : ∀ (G : Heap) (K : Value → Heap → Prop), Grow w0 H G → K (.tuple #[zLvv, .int .i64 e]) G → HCalls Try.prog w0 59 [x.v, .int .i64 lv, p.v] G K := fun G K g hk => c_find_err x (hx.grow g) lv p e he hk
  have hne : ¬ e = 0 := by cases he <;> decide
  clear he hx
  unfold Im.v Pc.v at *
  refine HL.hc k36 999 ?_; unfold M36
  (all_goals (try simp only [Sq,Sr,Sh,Si,Sl,Bu,Bb,Bd,Bc,Bw,Bn,Int.reduceAdd,Int.reduceSub,Int.reduceMul,Int.reduceTDiv,Int.reduceTMod,Int.reduceMod,Int.reduceDiv,Nat.reduceLT,Nat.reduceEqDiff,Sa,Sb,Sc,Sd,Se,Sf,Sg,Int.reduceLE,Int.reduceLT,Int.reduceToNat,Int.reduceNeg,Int.reduceEq,Nat.reduceLeDiff,Nat.reducePow,Int.reducePow,reduceIte,Nat.reduceSub,Nat.reduceAdd,Nat.reduceMul,putAt,ceq,List.replicate, *])); repeat' ((first | (with_reducible refine fun _ : True => ?_) | refine cF _ _ (by (repeat' (first | exact Grow.refl _ | assumption | (refine Grow_known (by first | (simp only [Heap.set_same, set_ne, ne_eq, not_false_eq_true, *] <;> rfl) | fail) ?_) | (refine Grow.set ?_ (by assumption) (by first | (simp only [*] <;> done) | (simp [set_none', Heap.set_same, set_ne, noneH, *] <;> done) | fail)) | (refine Grow.trans ?_ (by assumption))))) ?_ | (with_reducible refine any_h ?_) | ((first | refine AllocQ_i ?_ | refine AllocO_i ?_); intro bk hb0 hbk; (try simp only [set_none'] at hbk); (try (first | have hbn := Grow.none (by assumption) hbk | have hbn := Grow.none (by assumption) hbk.2 | have hbn := Grow.none (by assumption) hbk.2.2 | have hbn := Grow.none (by assumption) hbk.2.2.2 | have hbn := Grow.none (by assumption) hbk.2.2.2.2 | have hbn := Grow.none (by assumption) hbk.2.2.2.2.2)); (try simp only [set_none'] at hbn); (try (first | have hbm := Grow.none (by assumption) hbn | have hbm := Grow.none (by assumption) hbn.2 | have hbm := Grow.none (by assumption) hbn.2.2 | have hbm := Grow.none (by assumption) hbn.2.2.2 | have hbm := Grow.none (by assumption) hbn.2.2.2.2 | have hbm := Grow.none (by assumption) hbn.2.2.2.2.2)); (try simp only [set_none'] at hbm)) | ((first | refine condS_i ?_ ?_ | refine pick_i ?_ ?_ | refine gS_it ?_ ?_ | refine gS_if ?_ ?_ | refine gP_it ?_ ?_ | refine gP_if ?_ ?_) <;> (intro hc; try simp only [Int.reduceLE,Int.reduceLT,Int.reduceEq,Sn] at hc)) | (with_reducible refine KP_i ?_ ?_; · (repeat' (first | exact Heap.Le.refl _ | (with_reducible refine Le_set2 ?_) | (refine Le_known (by first | (simp only [Heap.set_same, set_ne, ne_eq, not_false_eq_true, *] <;> rfl) | fail) ?_) | (refine Le_fresh (by first | (simp only [*] <;> done) | (simp [set_none', Heap.set_same, set_ne, noneH, *] <;> done) | fail) ?_) | (refine Heap.Le.trans ?_ (Grow.le (by assumption))) | exact Le_none | (refine Le_put ?_ (by first | (simp only [Heap.set_same, set_ne, ne_eq, not_false_eq_true, *] <;> rfl) | fail)) | fail))) | (with_reducible refine And.intro ?_ ?_)) <;> (try simp only [Sq,Sr,Sh,Si,Sl,Bu,Bb,Bd,Bc,Bw,Bn,Int.reduceAdd,Int.reduceSub,Int.reduceMul,Int.reduceTDiv,Int.reduceTMod,Int.reduceMod,Int.reduceDiv,Nat.reduceLT,Nat.reduceEqDiff,Sa,Sb,Sc,Sd,Se,Sf,Sg,Int.reduceLE,Int.reduceLT,Int.reduceToNat,Int.reduceNeg,Int.reduceEq,Nat.reduceLeDiff,Nat.reducePow,Int.reducePow,reduceIte,Nat.reduceSub,Nat.reduceAdd,Nat.reduceMul,putAt,ceq,List.replicate, *]))
  all_goals exact Fin_mk (by (repeat' (first | exact Heap.Le.refl _ | (with_reducible refine Le_set2 ?_) | (refine Le_known (by first | (simp only [Heap.set_same, set_ne, ne_eq, not_false_eq_true, *] <;> rfl) | fail) ?_) | (refine Le_fresh (by first | (simp only [*] <;> done) | (simp [set_none', Heap.set_same, set_ne, noneH, *] <;> done) | fail) ?_) | (refine Heap.Le.trans ?_ (Grow.le (by assumption))) | exact Le_none | (refine Le_put ?_ (by first | (simp only [Heap.set_same, set_ne, ne_eq, not_false_eq_true, *] <;> rfl) | fail)) | fail))) h
theorem c_Get_ok (x : Im) (hx : ImOk w0 H x) (lv : Int) (p : Pc) (k : Nat) (z : LvR) (f : FindOk x lv p k z) {S W V X Y P Q : Nat} (g : PG z x.f p S W V X Y P Q)
    (h : ∀ a c G, Bld w0 H G a c 1 5 ((pieceB z.l S W X Y P Q).map (.int .u8)) → plainO a → Grow w0 H G → K (.tuple #[.slice a (pieceB z.l S W X Y P Q).length c, .int .i64 0]) G) : HCalls Try.prog w0 36 [x.v, .int .i64 lv, p.v] H K := by
  have cF : ∀ (G : Heap) (K : Value → Heap → Prop), Grow w0 H G → K (.tuple #[.agg #[.int .i64 z.w, .int .i64 z.h, .slice z.a z.l.length z.cap], .int .i64 0]) G → HCalls Try.prog w0 59 [x.v, .int .i64 lv, p.v] G K := fun G K g hk => c_find_ok x (hx.grow g) lv p k z f hk
  have cS := fun (G : Heap) (K : Value → Heap → Prop) => c_pSize (w0 := w0) (H := G) (K := K) x.f
  rw [g.s] at cS
  have cR := fun (G : Heap) (K : Value → Heap → Prop) => c_rows (w0 := w0) (H := G) (K := K) z p (S : Nat)
  have hz := hx.lv z (List.mem_of_getElem? f.at_)
  have hpos : 0 < z.l.length := by rw [g.len]; exact Nat.mul_pos (Nat.mul_pos (by have := g.wb; omega) (by have := g.vb; omega)) (by have := g.s1; omega)
  obtain ⟨zb, zo, ez, -, zf⟩ := ints_get hz.at_ hpos
  have h' : Keep _ := h
  have g' : Keep _ := g
  clear hx f h g
  unfold Im.v Pc.v at cF
  unfold Im.v Pc.v
  unfold Pc.v Pc.row at cR
  rw [ez] at cF cR
  refine HL.hc k36 999 ?_; unfold M36
  (all_goals (try simp only [Sq,Sr,Sh,Si,Sl,Bu,Bb,Bd,Bc,Bw,Bn,Int.reduceAdd,Int.reduceSub,Int.reduceMul,Int.reduceTDiv,Int.reduceTMod,Int.reduceMod,Int.reduceDiv,Nat.reduceLT,Nat.reduceEqDiff,Sa,Sb,Sc,Sd,Se,Sf,Sg,Int.reduceLE,Int.reduceLT,Int.reduceToNat,Int.reduceNeg,Int.reduceEq,Nat.reduceLeDiff,Nat.reducePow,Int.reducePow,reduceIte,Nat.reduceSub,Nat.reduceAdd,Nat.reduceMul,putAt,ceq,List.replicate, *])); repeat' ((first | (with_reducible refine fun _ : True => ?_) | refine cF _ _ (by (repeat' (first | exact Grow.refl _ | assumption | (refine Grow_known (by first | (simp only [Heap.set_same, set_ne, ne_eq, not_false_eq_true, *] <;> rfl) | fail) ?_) | (refine Grow.set ?_ (by assumption) (by first | (simp only [*] <;> done) | (simp [set_none', Heap.set_same, set_ne, noneH, *] <;> done) | fail)) | (refine Grow.trans ?_ (by assumption))))) ?_ | refine cS _ _ ?_ | refine cR _ _ (fun bl bp bs sl sp ss nl np ns d1 d2 d3 => ?_)  | (with_reducible refine any_h ?_) | ((first | refine AllocQ_i ?_ | refine AllocO_i ?_); intro bk hb0 hbk; (try simp only [set_none'] at hbk); (try (first | have hbn := Grow.none (by assumption) hbk | have hbn := Grow.none (by assumption) hbk.2 | have hbn := Grow.none (by assumption) hbk.2.2 | have hbn := Grow.none (by assumption) hbk.2.2.2 | have hbn := Grow.none (by assumption) hbk.2.2.2.2 | have hbn := Grow.none (by assumption) hbk.2.2.2.2.2)); (try simp only [set_none'] at hbn); (try (first | have hbm := Grow.none (by assumption) hbn | have hbm := Grow.none (by assumption) hbn.2 | have hbm := Grow.none (by assumption) hbn.2.2 | have hbm := Grow.none (by assumption) hbn.2.2.2 | have hbm := Grow.none (by assumption) hbn.2.2.2.2 | have hbm := Grow.none (by assumption) hbn.2.2.2.2.2)); (try simp only [set_none'] at hbm)) | ((first | refine condS_i ?_ ?_ | refine pick_i ?_ ?_ | refine gS_it ?_ ?_ | refine gS_if ?_ ?_ | refine gP_it ?_ ?_ | refine gP_if ?_ ?_) <;> (intro hc; try simp only [Int.reduceLE,Int.reduceLT,Int.reduceEq,Sn] at hc)) | (with_reducible refine KP_i ?_ ?_; · (repeat' (first | exact Heap.Le.refl _ | (with_reducible refine Le_set2 ?_) | (refine Le_known (by first | (simp only [Heap.set_same, set_ne, ne_eq, not_false_eq_true, *] <;> rfl) | fail) ?_) | (refine Le_fresh (by first | (simp only [*] <;> done) | (simp [set_none', Heap.set_same, set_ne, noneH, *] <;> done) | fail) ?_) | (refine Heap.Le.trans ?_ (Grow.le (by assumption))) | exact Le_none | (refine Le_put ?_ (by first | (simp only [Heap.set_same, set_ne, ne_eq, not_false_eq_true, *] <;> rfl) | fail)) | fail))) | (with_reducible refine And.intro ?_ ?_)) <;> (try simp only [Sq,Sr,Sh,Si,Sl,Bu,Bb,Bd,Bc,Bw,Bn,Int.reduceAdd,Int.reduceSub,Int.reduceMul,Int.reduceTDiv,Int.reduceTMod,Int.reduceMod,Int.reduceDiv,Nat.reduceLT,Nat.reduceEqDiff,Sa,Sb,Sc,Sd,Se,Sf,Sg,Int.reduceLE,Int.reduceLT,Int.reduceToNat,Int.reduceNeg,Int.reduceEq,Nat.reduceLeDiff,Nat.reducePow,Int.reducePow,reduceIte,Nat.reduceSub,Nat.reduceAdd,Nat.reduceMul,putAt,ceq,List.replicate, *]))
  rename_i b3 s3 n3 b5 s5 n5 b8 s8 n8
  obtain ⟨b10, rfl⟩ : ∃ b10, b10 = bk := ⟨_, rfl⟩
  have s10 : w0.heap.size ≤ b10 := hb0
  have n10 : H b10 = none := hbk.2.2.2
  have d8 : b10 ≠ b8 := hbk.1.1
  unfold rfQ
  dsimp only
  intro lo L hl0 hln hL
  simp only [set_none'] at nl np ns
  generalize hF0 : (((((((H.set b3 _).set b5 _).set b8 _).set b10 _).set bl _).set bp _).set bs _) = F0 at hln ⊢
  have gF : Grow w0 H F0 := by rw [← hF0]; exact (by (repeat' (first | exact Grow.refl _ | assumption | (refine Grow_known (by first | (simp only [Heap.set_same, set_ne, ne_eq, not_false_eq_true, *] <;> rfl) | fail) ?_) | (refine Grow.set ?_ (by assumption) (by first | (simp only [*] <;> done) | (simp [set_none', Heap.set_same, set_ne, noneH, *] <;> done) | fail)) | (refine Grow.trans ?_ (by assumption)))))
  have e10 : F0 b10 = some ⟨.t 36, [.slice none 0 0]⟩ := by rw [← hF0]; exact (by simp only [Heap.set_same, set_ne, ne_eq, not_false_eq_true, *] <;> rfl)
  have e8 : F0 b8 = some ⟨.t 38, [.int .i64 z.w, .int .i64 z.h, .slice (some ⟨zb, zo, none⟩) z.l.length z.cap]⟩ := by rw [← hF0]; exact (by simp only [Heap.set_same, set_ne, ne_eq, not_false_eq_true, *] <;> rfl)
  have el : F0 bl = some ⟨.t 38, [.int .i64 z.w, .int .i64 z.h, .slice (some ⟨zb, zo, none⟩) z.l.length z.cap]⟩ := by rw [← hF0]; exact (by simp only [Heap.set_same, set_ne, ne_eq, not_false_eq_true, *] <;> rfl)
  have ep : F0 bp = some ⟨.t 49, [.int .i64 p.x, .int .i64 p.y, .int .i64 p.w, .int .i64 p.h]⟩ := by rw [← hF0]; exact (by simp only [Heap.set_same, set_ne, ne_eq, not_false_eq_true, *] <;> rfl)
  have es : F0 bs = some ⟨.t 3, [.int .i64 (S : Nat)]⟩ := by rw [← hF0]; exact (by simp only [Heap.set_same, set_ne, ne_eq, not_false_eq_true, *] <;> rfl)
  have d10l : bl ≠ b10 := nl.1.1
  have d10p : bp ≠ b10 := np.1.1
  have d10s : bs ≠ b10 := ns.1.1
  clear hF0 hbk nl np ns n3 n5 n8 cF cS cR
  have l10 : lo ≠ b10 := fun e => by subst e; rw [e10] at hln; cases hln
  have l8 : lo ≠ b8 := fun e => by subst e; rw [e8] at hln; cases hln
  have ll : lo ≠ bl := fun e => by subst e; rw [el] at hln; cases hln
  have lp : lo ≠ bp := fun e => by subst e; rw [ep] at hln; cases hln
  have ls : lo ≠ bs := fun e => by subst e; rw [es] at hln; cases hln
  have hlH : H lo = none := gF.none hln
  have hg : PG z x.f p S W V X Y P Q := g'
  refine c_rows1 hg (bl := bl) (bp := bp) (bs := bs) (fun j E => E lo = some ⟨.o (.loop L), []⟩ ∧ (E b8 = some ⟨.t 38, [.int .i64 z.w, .int .i64 z.h, .slice (some ⟨zb, zo, none⟩) z.l.length z.cap]⟩ ∧ E bl = some ⟨.t 38, [.int .i64 z.w, .int .i64 z.h, .slice (some ⟨zb, zo, none⟩) z.l.length z.cap]⟩ ∧ E bp = some ⟨.t 49, [.int .i64 p.x, .int .i64 p.y, .int .i64 p.w, .int .i64 p.h]⟩ ∧ E bs = some ⟨.t 3, [.int .i64 (S : Nat)]⟩) ∧ Grow w0 H E ∧
      ∃ a c, E b10 = some ⟨.t 36, [.slice a (pieceB z.l S W X Y P j).length c]⟩ ∧ Bld w0 H E a c 1 5 ((pieceB z.l S W X Y P j).map (.int .u8)) ∧ plainO a) ?_ ?_ ?_ ?_
  · intro j E ⟨_, ⟨_, a1, a2, a3⟩, _⟩
    exact ⟨by rw [ez]; exact a1, a2, a3⟩
  · exact ⟨Heap.set_same _ _ _, ⟨by rw [Heap.set_other _ _ (Ne.symm l8)]; exact e8, by rw [Heap.set_other _ _ (Ne.symm ll)]; exact el, by rw [Heap.set_other _ _ (Ne.symm lp)]; exact ep, by rw [Heap.set_other _ _ (Ne.symm ls)]; exact es⟩, gF.set hl0 hlH, none, 0, by rw [Heap.set_other _ _ (Ne.symm l10)]; exact e10, Bld.none, .inl rfl⟩
  · intro j E K' hj ⟨kl, ⟨a8, al, ap, as_⟩, gE, a, c, ae, hB, hpo⟩ hK'
    have hst := hL.st
    obtain ⟨q1, q2, -, -, q5, q6⟩ := seg_b hg hj
    refine hround hL kl rfl 200 ?_
    unfold putR
    simp only [List.zip_cons_cons, List.zip_nil_right, List.zip_nil_left, List.foldl_cons, List.foldl_nil]
    clear hL
    (all_goals (try simp only [Sq,Sr,Sh,Si,Sl,Bu,Bb,Bd,Bc,Bw,Bn,Int.reduceAdd,Int.reduceSub,Int.reduceMul,Int.reduceTDiv,Int.reduceTMod,Int.reduceMod,Int.reduceDiv,Nat.reduceLT,Nat.reduceEqDiff,Sa,Sb,Sc,Sd,Se,Sf,Sg,Int.reduceLE,Int.reduceLT,Int.reduceToNat,Int.reduceNeg,Int.reduceEq,Nat.reduceLeDiff,Nat.reducePow,Int.reducePow,reduceIte,Nat.reduceSub,Nat.reduceAdd,Nat.reduceMul,putAt,ceq,List.replicate, *])); repeat' ((first | (with_reducible refine fun _ : True => ?_) | (with_reducible refine any_h ?_) | ((first | refine AllocQ_i ?_ | refine AllocO_i ?_); intro bk hb0 hbk; (try simp only [set_none'] at hbk); (try (first | have hbn := Grow.none (by assumption) hbk | have hbn := Grow.none (by assumption) hbk.2 | have hbn := Grow.none (by assumption) hbk.2.2 | have hbn := Grow.none (by assumption) hbk.2.2.2 | have hbn := Grow.none (by assumption) hbk.2.2.2.2 | have hbn := Grow.none (by assumption) hbk.2.2.2.2.2)); (try simp only [set_none'] at hbn); (try (first | have hbm := Grow.none (by assumption) hbn | have hbm := Grow.none (by assumption) hbn.2 | have hbm := Grow.none (by assumption) hbn.2.2 | have hbm := Grow.none (by assumption) hbn.2.2.2 | have hbm := Grow.none (by assumption) hbn.2.2.2.2 | have hbm := Grow.none (by assumption) hbn.2.2.2.2.2)); (try simp only [set_none'] at hbm)) | ((first | refine condS_i ?_ ?_ | refine pick_i ?_ ?_ | refine gS_it ?_ ?_ | refine gS_if ?_ ?_ | refine gP_it ?_ ?_ | refine gP_if ?_ ?_) <;> (intro hc; try simp only [Int.reduceLE,Int.reduceLT,Int.reduceEq,Sn] at hc)) | (with_reducible refine KP_i ?_ ?_; · (repeat' (first | exact Heap.Le.refl _ | (with_reducible refine Le_set2 ?_) | (refine Le_known (by first | (simp only [Heap.set_same, set_ne, ne_eq, not_false_eq_true, *] <;> rfl) | fail) ?_) | (refine Le_fresh (by first | (simp only [*] <;> done) | (simp [set_none', Heap.set_same, set_ne, noneH, *] <;> done) | fail) ?_) | (refine Heap.Le.trans ?_ (Grow.le (by assumption))) | exact Le_none | (refine Le_put ?_ (by first | (simp only [Heap.set_same, set_ne, ne_eq, not_false_eq_true, *] <;> rfl) | fail)) | fail))) | (with_reducible refine And.intro ?_ ?_)) <;> (try simp only [Sq,Sr,Sh,Si,Sl,Bu,Bb,Bd,Bc,Bw,Bn,Int.reduceAdd,Int.reduceSub,Int.reduceMul,Int.reduceTDiv,Int.reduceTMod,Int.reduceMod,Int.reduceDiv,Nat.reduceLT,Nat.reduceEqDiff,Sa,Sb,Sc,Sd,Se,Sf,Sg,Int.reduceLE,Int.reduceLT,Int.reduceToNat,Int.reduceNeg,Int.reduceEq,Nat.reduceLeDiff,Nat.reducePow,Int.reducePow,reduceIte,Nat.reduceSub,Nat.reduceAdd,Nat.reduceMul,putAt,ceq,List.replicate, *]))
    refine ⟨kl, hst, ?_⟩
    have hB1 := hB.turn (x := ⟨.o (.loop { L with state := .busy }), []⟩) kl (fun e => by cases e)
    have gE1 : Grow w0 H (E.set lo ⟨.o (.loop { L with state := .busy }), []⟩) := gE.set hl0 hlH
    have k1 : (E.set lo ⟨.o (.loop { L with state := .busy }), []⟩) lo = some ⟨.o (.loop { L with state := .busy }), []⟩ := Heap.set_same _ _ _
    have k10 := (Heap.set_other E ⟨.o (.loop { L with state := .busy }), []⟩ (Ne.symm l10)).trans ae
    have k8 := (Heap.set_other E ⟨.o (.loop { L with state := .busy }), []⟩ (Ne.symm l8)).trans a8
    have k2 := (Heap.set_other E ⟨.o (.loop { L with state := .busy }), []⟩ (Ne.symm ll)).trans al
    have k3 := (Heap.set_other E ⟨.o (.loop { L with state := .busy }), []⟩ (Ne.symm lp)).trans ap
    have k4 := (Heap.set_other E ⟨.o (.loop { L with state := .busy }), []⟩ (Ne.symm ls)).trans as_
    generalize (E.set lo ⟨.o (.loop { L with state := .busy }), []⟩) = E1 at hB1 gE1 k1 k10 k8 k2 k3 k4 ⊢
    have r82 : rd1 w0 E1 b8 2 = some (.slice (some ⟨zb, zo, none⟩) z.l.length z.cap) := by unfold rd1; rw [k8]; rfl
    obtain ⟨A, eA⟩ : ∃ A, segA S W X Y j = A := ⟨_, rfl⟩
    rw [eA] at q1 q5
    have hcap := hz.lc
    have v1 : (A : Int) ≤ ((A + P * S : Nat) : Int) := by omega
    have v2 : ((A + P * S : Nat) : Int) ≤ (z.cap : Int) := by omega
    have v3 : A + P * S - A = P * S := by omega
    have sl2 : ((z.l.drop A).take (P * S)).length = P * S := by rw [List.length_take, List.length_drop]; omega
    have hpl : (pieceB z.l S W X Y P j).length ≤ 16384 := by
      rw [pieceB_len j fun i hi => (seg_b hg (show i < Q by omega)).1]
      have := hg.yh
      have := hg.vb
      exact Nat.le_trans (Nat.mul_le_mul (show j ≤ 64 by omega) q6) (by decide)
    have hps : pieceB z.l S W X Y P (j + 1) = pieceB z.l S W X Y P j ++ (z.l.drop A).take (P * S) := by rw [pieceB, eA]
    rw [eA]
    obtain ⟨O, eO⟩ : ∃ O, pieceB z.l S W X Y P j = O := ⟨_, rfl⟩
    rw [eO] at hB1 k10 hpl hps
    replace hps : Keep _ := hps
    replace sl2 : Keep _ := sl2
    clear kl a8 al ap as_ gE ae hB eO eA hst
    rw [root1 k10]
    (all_goals (try simp only [Sq,Sr,Sh,Si,Sl,Bu,Bb,Bd,Bc,Bw,Bn,Int.reduceAdd,Int.reduceSub,Int.reduceMul,Int.reduceTDiv,Int.reduceTMod,Int.reduceMod,Int.reduceDiv,Nat.reduceLT,Nat.reduceEqDiff,Sa,Sb,Sc,Sd,Se,Sf,Sg,Int.reduceLE,Int.reduceLT,Int.reduceToNat,Int.reduceNeg,Int.reduceEq,Nat.reduceLeDiff,Nat.reducePow,Int.reducePow,reduceIte,Nat.reduceSub,Nat.reduceAdd,Nat.reduceMul,putAt,ceq,List.replicate, *])); repeat' ((first | (with_reducible refine fun _ : True => ?_) | (with_reducible refine any_h ?_) | ((first | refine AllocQ_i ?_ | refine AllocO_i ?_); intro bk hb0 hbk; (try simp only [set_none'] at hbk); (try (first | have hbn := Grow.none (by assumption) hbk | have hbn := Grow.none (by assumption) hbk.2 | have hbn := Grow.none (by assumption) hbk.2.2 | have hbn := Grow.none (by assumption) hbk.2.2.2 | have hbn := Grow.none (by assumption) hbk.2.2.2.2 | have hbn := Grow.none (by assumption) hbk.2.2.2.2.2)); (try simp only [set_none'] at hbn); (try (first | have hbm := Grow.none (by assumption) hbn | have hbm := Grow.none (by assumption) hbn.2 | have hbm := Grow.none (by assumption) hbn.2.2 | have hbm := Grow.none (by assumption) hbn.2.2.2 | have hbm := Grow.none (by assumption) hbn.2.2.2.2 | have hbm := Grow.none (by assumption) hbn.2.2.2.2.2)); (try simp only [set_none'] at hbm)) | ((first | refine condS_i ?_ ?_ | refine pick_i ?_ ?_ | refine gS_it ?_ ?_ | refine gS_if ?_ ?_ | refine gP_it ?_ ?_ | refine gP_if ?_ ?_) <;> (intro hc; try simp only [Int.reduceLE,Int.reduceLT,Int.reduceEq,Sn] at hc)) | (with_reducible refine KP_i ?_ ?_; · (repeat' (first | exact Heap.Le.refl _ | (with_reducible refine Le_set2 ?_) | (refine Le_known (by first | (simp only [Heap.set_same, set_ne, ne_eq, not_false_eq_true, *] <;> rfl) | fail) ?_) | (refine Le_fresh (by first | (simp only [*] <;> done) | (simp [set_none', Heap.set_same, set_ne, noneH, *] <;> done) | fail) ?_) | (refine Heap.Le.trans ?_ (Grow.le (by assumption))) | exact Le_none | (refine Le_put ?_ (by first | (simp only [Heap.set_same, set_ne, ne_eq, not_false_eq_true, *] <;> rfl) | fail)) | fail))) | (with_reducible refine And.intro ?_ ?_)) <;> (try simp only [Sq,Sr,Sh,Si,Sl,Bu,Bb,Bd,Bc,Bw,Bn,Int.reduceAdd,Int.reduceSub,Int.reduceMul,Int.reduceTDiv,Int.reduceTMod,Int.reduceMod,Int.reduceDiv,Nat.reduceLT,Nat.reduceEqDiff,Sa,Sb,Sc,Sd,Se,Sf,Sg,Int.reduceLE,Int.reduceLT,Int.reduceToNat,Int.reduceNeg,Int.reduceEq,Nat.reduceLeDiff,Nat.reducePow,Int.reducePow,reduceIte,Nat.reduceSub,Nat.reduceAdd,Nat.reduceMul,putAt,ceq,List.replicate, *]))
    have sl3 : ((z.l.drop A).take (P * S)).length = P * S := sl2
    have hx : srd w0 E1 (some ⟨zb, if z.cap = A then zo else zo + A, none⟩) (P * S * 1) = some (((z.l.drop A).take (P * S)).map (.int .u8)) := by
      rw [Nat.mul_one]
      by_cases e : P * S = 0
      · rw [e, List.take_zero]; unfold srd; simp
      · have := (SlAt.ints (seg_at (hz.at_.grow gE1) ez q1 hpos)).srd
        rw [List.length_map, sl3] at this
        rw [if_neg (by omega)]
        exact this
    have eid := Heap.set_id E1 b10 _ k10
    refine app_bld2 (H := H) (n := O.length) (m := P * S) (cs := O.map (.int .u8)) (ns := ((z.l.drop A).take (P * S)).map (.int .u8)) (by rw [eid]; exact hB1) (by rw [List.length_map, Nat.mul_one]) rfl (by rw [eid]; exact hx) (by rw [List.length_map, Nat.mul_one]; exact sl3) (by rw [eid]; exact gE1) ⟨by omega, by omega⟩ (one_map _) fun a2 c2 E2 hB2 hg2 hk2 _ hp2 => ?_
    rw [eid] at hk2
    have g10 := hk2 b10 _ k10 (fun e => absurd (Kd.t_inj e) (show ¬ ((36 : Nat) = 5) by decide))
    have g1 := hk2 lo _ k1 (fun e => by cases e)
    have g8 := hk2 b8 _ k8 (fun e => absurd (Kd.t_inj e) (show ¬ ((38 : Nat) = 5) by decide))
    have g2 := hk2 bl _ k2 (fun e => absurd (Kd.t_inj e) (show ¬ ((38 : Nat) = 5) by decide))
    have g3 := hk2 bp _ k3 (fun e => absurd (Kd.t_inj e) (show ¬ ((49 : Nat) = 5) by decide))
    have g4 := hk2 bs _ k4 (fun e => absurd (Kd.t_inj e) (show ¬ ((3 : Nat) = 5) by decide))
    clear hk2 k1 k10 k2 k3 k4 hx eid hB1 gE1 r82 v1 v2 v3 sl3 k8
    rw [root1 g10]
    (all_goals (try simp only [Sq,Sr,Sh,Si,Sl,Bu,Bb,Bd,Bc,Bw,Bn,Int.reduceAdd,Int.reduceSub,Int.reduceMul,Int.reduceTDiv,Int.reduceTMod,Int.reduceMod,Int.reduceDiv,Nat.reduceLT,Nat.reduceEqDiff,Sa,Sb,Sc,Sd,Se,Sf,Sg,Int.reduceLE,Int.reduceLT,Int.reduceToNat,Int.reduceNeg,Int.reduceEq,Nat.reduceLeDiff,Nat.reducePow,Int.reducePow,reduceIte,Nat.reduceSub,Nat.reduceAdd,Nat.reduceMul,putAt,ceq,List.replicate, *])); repeat' ((first | (with_reducible refine fun _ : True => ?_) | (with_reducible refine any_h ?_) | ((first | refine AllocQ_i ?_ | refine AllocO_i ?_); intro bk hb0 hbk; (try simp only [set_none'] at hbk); (try (first | have hbn := Grow.none (by assumption) hbk | have hbn := Grow.none (by assumption) hbk.2 | have hbn := Grow.none (by assumption) hbk.2.2 | have hbn := Grow.none (by assumption) hbk.2.2.2 | have hbn := Grow.none (by assumption) hbk.2.2.2.2 | have hbn := Grow.none (by assumption) hbk.2.2.2.2.2)); (try simp only [set_none'] at hbn); (try (first | have hbm := Grow.none (by assumption) hbn | have hbm := Grow.none (by assumption) hbn.2 | have hbm := Grow.none (by assumption) hbn.2.2 | have hbm := Grow.none (by assumption) hbn.2.2.2 | have hbm := Grow.none (by assumption) hbn.2.2.2.2 | have hbm := Grow.none (by assumption) hbn.2.2.2.2.2)); (try simp only [set_none'] at hbm)) | ((first | refine condS_i ?_ ?_ | refine pick_i ?_ ?_ | refine gS_it ?_ ?_ | refine gS_if ?_ ?_ | refine gP_it ?_ ?_ | refine gP_if ?_ ?_) <;> (intro hc; try simp only [Int.reduceLE,Int.reduceLT,Int.reduceEq,Sn] at hc)) | (with_reducible refine KP_i ?_ ?_; · (repeat' (first | exact Heap.Le.refl _ | (with_reducible refine Le_set2 ?_) | (refine Le_known (by first | (simp only [Heap.set_same, set_ne, ne_eq, not_false_eq_true, *] <;> rfl) | fail) ?_) | (refine Le_fresh (by first | (simp only [*] <;> done) | (simp [set_none', Heap.set_same, set_ne, noneH, *] <;> done) | fail) ?_) | (refine Heap.Le.trans ?_ (Grow.le (by assumption))) | exact Le_none | (refine Le_put ?_ (by first | (simp only [Heap.set_same, set_ne, ne_eq, not_false_eq_true, *] <;> rfl) | fail)) | fail))) | (with_reducible refine And.intro ?_ ?_)) <;> (try simp only [Sq,Sr,Sh,Si,Sl,Bu,Bb,Bd,Bc,Bw,Bn,Int.reduceAdd,Int.reduceSub,Int.reduceMul,Int.reduceTDiv,Int.reduceTMod,Int.reduceMod,Int.reduceDiv,Nat.reduceLT,Nat.reduceEqDiff,Sa,Sb,Sc,Sd,Se,Sf,Sg,Int.reduceLE,Int.reduceLT,Int.reduceToNat,Int.reduceNeg,Int.reduceEq,Nat.reduceLeDiff,Nat.reducePow,Int.reducePow,reduceIte,Nat.reduceSub,Nat.reduceAdd,Nat.reduceMul,putAt,ceq,List.replicate, *]))
    have kk : ∀ (d : Nat) (y : Blk), d ≠ b10 → d ≠ lo → E2 d = some y → ((E2.set b10 ⟨.t 36, [.slice a2 (O.length + P * S) c2]⟩).set lo ⟨.o (.loop L), []⟩) d = some y := fun d y h1 h2 h3 => by rw [Heap.set_other _ _ h2, Heap.set_other _ _ h1]; exact h3
    refine ⟨(Heap.set_other _ _ l10).trans g1, hK' _ ⟨Heap.set_same _ _ _, ⟨kk _ _ (Ne.symm d8) (Ne.symm l8) g8, kk _ _ d10l (Ne.symm ll) g2, kk _ _ d10p (Ne.symm lp) g3, kk _ _ d10s (Ne.symm ls) g4⟩, (hg2.set s10 n10).set hl0 hlH, a2, c2, ?_, ?_, ?_⟩⟩
    · rw [Heap.set_other _ _ (Ne.symm l10), Heap.set_same, show _ = _ from hps, List.length_append, show _ = _ from sl2]
    · rw [show _ = _ from hps, List.map_append]
      exact (hB2.turn g10 (by simp)).turn ((Heap.set_other _ _ l10).trans g1) (fun e => by cases e)
    · rcases hp2 with q | ⟨b, q⟩
      · rw [q]; exact hpo
      · exact .inr ⟨b, 0, q⟩
  · intro E ⟨kl, _, gE, a, c, ae, hB, hpo⟩
    refine ⟨kl, fun ob => ?_⟩
    have r10 : rd1 w0 (E.set lo ⟨.o ob, []⟩) b10 0 = some (.slice a (pieceB z.l S W X Y P Q).length c) := by
      unfold rd1
      rw [Heap.set_other _ _ (Ne.symm l10), ae]
      rfl
    have fin := (show ∀ a c G, _ → _ → _ → _ from h') a c (E.set lo ⟨.o ob, []⟩) (hB.turn kl (fun e => by cases e)) hpo (gE.set hl0 hlH)
    clear hL
    (all_goals (try simp only [Sq,Sr,Sh,Si,Sl,Bu,Bb,Bd,Bc,Bw,Bn,Int.reduceAdd,Int.reduceSub,Int.reduceMul,Int.reduceTDiv,Int.reduceTMod,Int.reduceMod,Int.reduceDiv,Nat.reduceLT,Nat.reduceEqDiff,Sa,Sb,Sc,Sd,Se,Sf,Sg,Int.reduceLE,Int.reduceLT,Int.reduceToNat,Int.reduceNeg,Int.reduceEq,Nat.reduceLeDiff,Nat.reducePow,Int.reducePow,reduceIte,Nat.reduceSub,Nat.reduceAdd,Nat.reduceMul,putAt,ceq,List.replicate, *])); repeat' ((first | (with_reducible refine fun _ : True => ?_) | (with_reducible refine any_h ?_) | ((first | refine AllocQ_i ?_ | refine AllocO_i ?_); intro bk hb0 hbk; (try simp only [set_none'] at hbk); (try (first | have hbn := Grow.none (by assumption) hbk | have hbn := Grow.none (by assumption) hbk.2 | have hbn := Grow.none (by assumption) hbk.2.2 | have hbn := Grow.none (by assumption) hbk.2.2.2 | have hbn := Grow.none (by assumption) hbk.2.2.2.2 | have hbn := Grow.none (by assumption) hbk.2.2.2.2.2)); (try simp only [set_none'] at hbn); (try (first | have hbm := Grow.none (by assumption) hbn | have hbm := Grow.none (by assumption) hbn.2 | have hbm := Grow.none (by assumption) hbn.2.2 | have hbm := Grow.none (by assumption) hbn.2.2.2 | have hbm := Grow.none (by assumption) hbn.2.2.2.2 | have hbm := Grow.none (by assumption) hbn.2.2.2.2.2)); (try simp only [set_none'] at hbm)) | ((first | refine condS_i ?_ ?_ | refine pick_i ?_ ?_ | refine gS_it ?_ ?_ | refine gS_if ?_ ?_ | refine gP_it ?_ ?_ | refine gP_if ?_ ?_) <;> (intro hc; try simp only [Int.reduceLE,Int.reduceLT,Int.reduceEq,Sn] at hc)) | (with_reducible refine KP_i ?_ ?_; · (repeat' (first | exact Heap.Le.refl _ | (with_reducible refine Le_set2 ?_) | (refine Le_known (by first | (simp only [Heap.set_same, set_ne, ne_eq, not_false_eq_true, *] <;> rfl) | fail) ?_) | (refine Le_fresh (by first | (simp only [*] <;> done) | (simp [set_none', Heap.set_same, set_ne, noneH, *] <;> done) | fail) ?_) | (refine Heap.Le.trans ?_ (Grow.le (by assumption))) | exact Le_none | (refine Le_put ?_ (by first | (simp only [Heap.set_same, set_ne, ne_eq, not_false_eq_true, *] <;> rfl) | fail)) | fail))) | (with_reducible refine And.intro ?_ ?_)) <;> (try simp only [Sq,Sr,Sh,Si,Sl,Bu,Bb,Bd,Bc,Bw,Bn,Int.reduceAdd,Int.reduceSub,Int.reduceMul,Int.reduceTDiv,Int.reduceTMod,Int.reduceMod,Int.reduceDiv,Nat.reduceLT,Nat.reduceEqDiff,Sa,Sb,Sc,Sd,Se,Sf,Sg,Int.reduceLE,Int.reduceLT,Int.reduceToNat,Int.reduceNeg,Int.reduceEq,Nat.reduceLeDiff,Nat.reducePow,Int.reducePow,reduceIte,Nat.reduceSub,Nat.reduceAdd,Nat.reduceMul,putAt,ceq,List.replicate, *]))
    exact Fin_mk (Heap.Le.refl _) fin
end Go.Proofs.Ytdaipgnhconfnaa
