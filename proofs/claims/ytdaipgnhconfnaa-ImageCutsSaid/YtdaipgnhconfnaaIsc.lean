/- A piece is got, by the reference (layer 8). -/
import Derived.Test.YtdaipgnhconfnaaIsb
set_option linter.unusedSimpArgs false
set_option linter.unusedVariables false
set_option maxRecDepth 100000
set_option maxHeartbeats 4000000
namespace Go.Proofs.Ytdaipgnhconfnaa
open Go Go.HL Go.RowKit Pb
variable {w0 : World} {H G : Heap} {K : Value → Heap → Prop}

theorem loopq_name {rec : List It → List Value → Heap → Prop} {m0 : MC} {k0 : List It} {T0 : List Value} {G : Heap} (h : ∀ m k T, m = m0 → k = k0 → T = T0 → LoopQ rec m k T G) : LoopQ rec m0 k0 T0 G := h _ _ _ rfl rfl rfl
theorem loop_a {A : Type} {rec : List It → List Value → Heap → Prop} {m : MC} {k : List It} {T : List Value} {G : Heap} (p : Nat) (w : A → List (Nat × Value)) (ok : A → Heap → Prop) (μ : A → Nat) (a0 : A) (ok0 : ok a0 G) (h0 : T.take p = (sts T (w a0)).take p)
    (body : ∀ a G f, ok a G → rec (.code m :: .chk (Round T p (fun s : A × Heap => w s.1) (fun s => s.2) (fun s => ok s.1 s.2) (fun s => μ s.1) (μ a)) :: k) ((sts T (w a)).take p ++ mkT f (T.drop p).length 0) G) : LoopQ rec m k T G :=
  loop_g p (fun s : A × Heap => w s.1) (fun s => s.2) (fun s => ok s.1 s.2) (fun s => μ s.1) (a0, G) ok0 (Heap.Le.refl _) h0 (fun ⟨a, G⟩ f hok => body a G f hok)
theorem Round_p {A : Type} {T : List Value} {p : Nat} {w : A × Heap → List (Nat × Value)} {ok : A × Heap → Prop} {μ : A × Heap → Nat} {z : Nat} {T' : List Value} {H' : Heap} (a : A) (ok' : ok (a, H')) (lt : μ (a, H') < z)
    (e : T'.take p = (sts T (w (a, H'))).take p) (l : (T'.drop p).length = (T.drop p).length) : Round T p w (fun s => s.2) ok μ z T' H' := Round_mk (a, H') ok' lt (Heap.Le.refl _) e l
theorem Round_k {A : Type} {T : List Value} {p : Nat} {w : A × Heap → List (Nat × Value)} {ok : A × Heap → Prop} {μ : A × Heap → Nat} {z : Nat} {T' : List Value} {H' : Heap} (i n : Nat) (f : List Value → A) (ok' : ok (f ((T'.drop i).take n), H')) (lt : μ (f ((T'.drop i).take n), H') < z)
    (e : T'.take p = (sts T (w (f ((T'.drop i).take n), H'))).take p) (l : (T'.drop p).length = (T.drop p).length) : Round T p w (fun s => s.2) ok μ z T' H' := Round_p _ ok' lt e l
/-- Pixel i of row j of a piece: where it begins. -/
theorem seg_px {z : LvR} {f : Int} {p : Pc} {S W V X Y P Q : Nat} (g : PG z f p S W V X Y P Q) {j i : Nat} (hj : j < Q) (hi : i < P) : ((Y + j) * W + (X + i)) * S = segA S W X Y j + i * S ∧ segA S W X Y j + i * S + S ≤ z.l.length ∧ z.l.length ≤ 16384 ∧ (Y + j) * W ≤ 4096 ∧ X + i ≤ 64 := by
  obtain ⟨q1, q2, q3, q4, q5, q6⟩ := seg_b g hj
  have h1 : (i + 1) * S ≤ P * S := Nat.mul_le_mul_right _ hi
  rw [Nat.succ_mul] at h1
  have := g.xw
  have := g.wb
  refine ⟨?_, by omega, q2, q3, by omega⟩
  unfold segA
  rw [← Nat.add_assoc, Nat.add_mul]
structure GSt (W : World) (H F : Heap) (b5 b8 : Nat) (x5 x8 : List Value) (a : Option Addr) (c : Nat) (O : List Int) : Prop where
  k5 : F b5 = some ⟨.t 49, x5⟩
  k8 : F b8 = some ⟨.t 38, x8⟩
  B : Bld W H F a c 1 5 (O.map (.int .u8))
  g : Grow W H F
theorem take_more (l : List Int) (A n S : Nat) : (l.drop A).take (n * S + S) = (l.drop A).take (n * S) ++ (l.drop (A + n * S)).take S := by
  rw [List.take_add, List.drop_drop]
theorem r_Get_ok (x : Im) (hx : ImOk w0 H x) (lv : Int) (p : Pc) (k : Nat) (z : LvR) (f : FindOk x lv p k z) {S W V X Y P Q : Nat} (g : PG z x.f p S W V X Y P Q)
    (h : ∀ a c G, Bld w0 H G a c 1 5 ((pieceB z.l S W X Y P Q).map (.int .u8)) → Grow w0 H G → K (.tuple #[.slice a (pieceB z.l S W X Y P Q).length c, .int .i64 0]) G) : HCalls Try.prog w0 37 [x.v, .int .i64 lv, p.v] H K := by
  have ez := f.at_
  have hr := f.r
  obtain rfl := f.e
  have cC : ∀ (G : Heap) (K : Value → Heap → Prop), Grow w0 H G → K (.bool true) G → HCalls Try.prog w0 29 [x.v] G K := fun G K g hk => r_Right8 x (hx.grow g) (by rw [decide_eq_true hr]; exact hk)
  have hp := (List.getElem?_eq_some_iff.1 ez).1
  have h0 : 0 ≤ (k : Int) := by omega
  have h4 : (k : Int) < (x.ls.length : Int) := by omega
  have cT : ∀ (G : Heap) (K : Value → Heap → Prop), Grow w0 H G → K (.bool true) G → HCalls Try.prog w0 43 [x.v, .int .i64 (k : Nat)] G K := fun G K g hk => r_there_at x (hx.grow g) k z ez (by rw [decide_eq_false f.nn]; exact hk)
  obtain ⟨b, o, ea, hrd, hf⟩ := lv_at hx ez
  obtain ⟨s1, s2, -⟩ := lv_side hr ez f.nn
  have cW : ∀ (G : Heap) (K : Value → Heap → Prop), K (.bool true) G → HCalls Try.prog w0 61 [.agg #[.int .i64 z.w, .int .i64 z.h, .slice z.a z.l.length z.cap], p.v] G K := fun G K hk => r_within z p s1 s2 (by rw [decide_eq_true f.pc]; exact hk)
  have cS := fun (G : Heap) (K : Value → Heap → Prop) => r_Size8 (w0 := w0) (H := G) (K := K) x.f
  rw [g.s] at cS
  have hz := hx.lv z (List.mem_of_getElem? ez)
  have hpos : 0 < z.l.length := by rw [g.len]; exact Nat.mul_pos (Nat.mul_pos (by have := g.wb; omega) (by have := g.vb; omega)) (by have := g.s1; omega)
  obtain ⟨zb, zo, eza, -, zf⟩ := ints_get hz.at_ hpos
  have h' : Keep _ := h
  have g' : Keep _ := g
  have hz' : Keep _ := hz
  have pw := g.w
  have ph := g.h
  have px := g.px
  have py := g.py
  have pP := g.pw
  have pQ := g.ph
  clear hr hx f ez hp s1 s2 h g hz zf
  unfold Im.v Pc.v at *
  rw [ea] at cC cT ⊢
  rw [eza] at cW hrd
  simp only [pw, ph, px, py, pP, pQ] at cW hrd ⊢
  refine HL.hc k37 999 ?_; unfold M37
  (all_goals (try simp only [Sq,Sr,Sh,Si,Sl,Bu,Bb,Bd,Bc,Bw,Bn,Int.reduceAdd,Int.reduceSub,Int.reduceMul,Int.reduceTDiv,Int.reduceTMod,Int.reduceMod,Int.reduceDiv,Nat.reduceLT,Nat.reduceEqDiff,Sa,Sb,Sc,Sd,Se,Sf,Sg,Int.reduceLE,Int.reduceLT,Int.reduceToNat,Int.reduceNeg,Int.reduceEq,Nat.reduceLeDiff,Nat.reducePow,Int.reducePow,reduceIte,Nat.reduceSub,Nat.reduceAdd,Nat.reduceMul,putAt,ceq,List.replicate, *])); repeat' ((first | (with_reducible refine fun _ : True => ?_) | refine cC _ _ (by (repeat' (first | exact Grow.refl _ | assumption | (refine Grow_known (by first | (simp only [Heap.set_same, set_ne, ne_eq, not_false_eq_true, *] <;> rfl) | fail) ?_) | (refine Grow.set ?_ (by assumption) (by first | (simp only [*] <;> done) | (simp [set_none', Heap.set_same, set_ne, noneH, *] <;> done) | fail)) | (refine Grow.trans ?_ (by assumption))))) ?_ | refine cT _ _ (by (repeat' (first | exact Grow.refl _ | assumption | (refine Grow_known (by first | (simp only [Heap.set_same, set_ne, ne_eq, not_false_eq_true, *] <;> rfl) | fail) ?_) | (refine Grow.set ?_ (by assumption) (by first | (simp only [*] <;> done) | (simp [set_none', Heap.set_same, set_ne, noneH, *] <;> done) | fail)) | (refine Grow.trans ?_ (by assumption))))) ?_ | refine cW _ _ ?_ | refine cS _ _ ?_ | (with_reducible refine any_h ?_) | ((first | refine AllocQ_i ?_ | refine AllocO_i ?_); intro bk hb0 hbk; (try simp only [set_none'] at hbk); (try (first | have hbn := Grow.none (by assumption) hbk | have hbn := Grow.none (by assumption) hbk.2 | have hbn := Grow.none (by assumption) hbk.2.2 | have hbn := Grow.none (by assumption) hbk.2.2.2 | have hbn := Grow.none (by assumption) hbk.2.2.2.2 | have hbn := Grow.none (by assumption) hbk.2.2.2.2.2)); (try simp only [set_none'] at hbn); (try (first | have hbm := Grow.none (by assumption) hbn | have hbm := Grow.none (by assumption) hbn.2 | have hbm := Grow.none (by assumption) hbn.2.2 | have hbm := Grow.none (by assumption) hbn.2.2.2 | have hbm := Grow.none (by assumption) hbn.2.2.2.2 | have hbm := Grow.none (by assumption) hbn.2.2.2.2.2)); (try simp only [set_none'] at hbm)) | ((first | refine condS_i ?_ ?_ | refine pick_i ?_ ?_ | refine gS_it ?_ ?_ | refine gS_if ?_ ?_ | refine gP_it ?_ ?_ | refine gP_if ?_ ?_) <;> (intro hc; try simp only [Int.reduceLE,Int.reduceLT,Int.reduceEq,Sn] at hc)) | (with_reducible refine KP_i ?_ ?_; · (repeat' (first | exact Heap.Le.refl _ | (with_reducible refine Le_set2 ?_) | (refine Le_known (by first | (simp only [Heap.set_same, set_ne, ne_eq, not_false_eq_true, *] <;> rfl) | fail) ?_) | (refine Le_fresh (by first | (simp only [*] <;> done) | (simp [set_none', Heap.set_same, set_ne, noneH, *] <;> done) | fail) ?_) | (refine Heap.Le.trans ?_ (Grow.le (by assumption))) | exact Le_none | (refine Le_put ?_ (by first | (simp only [Heap.set_same, set_ne, ne_eq, not_false_eq_true, *] <;> rfl) | fail)) | fail))) | (with_reducible refine And.intro ?_ ?_)) <;> (try simp only [Sq,Sr,Sh,Si,Sl,Bu,Bb,Bd,Bc,Bw,Bn,Int.reduceAdd,Int.reduceSub,Int.reduceMul,Int.reduceTDiv,Int.reduceTMod,Int.reduceMod,Int.reduceDiv,Nat.reduceLT,Nat.reduceEqDiff,Sa,Sb,Sc,Sd,Se,Sf,Sg,Int.reduceLE,Int.reduceLT,Int.reduceToNat,Int.reduceNeg,Int.reduceEq,Nat.reduceLeDiff,Nat.reducePow,Int.reducePow,reduceIte,Nat.reduceSub,Nat.reduceAdd,Nat.reduceMul,putAt,ceq,List.replicate, *]))
  clear cC cT cW cS h0 h4 hrd hf
  rename_i b3 s3 n3 b5 s5 n5
  obtain ⟨b8, rfl⟩ : ∃ b8, b8 = bk := ⟨_, rfl⟩
  have hg : PG z x.f p S W V X Y P Q := g'
  have z0 : LvOk w0 H z := hz'
  have gx := hg.xw
  have gy := hg.yh
  have gw := hg.wb
  have gv := hg.vb
  have gs := hg.s1
  have tQ : IntKind.i64.wrap ((Y : Int) + (Q : Int)) = ((Y + Q : Nat) : Int) := by rw [Bw.1 _ (by omega) (by omega)]; omega
  have tP : IntKind.i64.wrap ((X : Int) + (P : Int)) = ((X + P : Nat) : Int) := by rw [Bw.1 _ (by omega) (by omega)]; omega
  clear pw ph px py pP pQ gx gy gw gv hz' hpos
  obtain ⟨x5, e5⟩ : ∃ x5, x5 = [Value.int .i64 (X : Int), .int .i64 (Y : Int), .int .i64 (P : Int), .int .i64 (Q : Int)] := ⟨_, rfl⟩
  obtain ⟨x8, e8⟩ : ∃ x8, x8 = [Value.int .i64 (W : Int), .int .i64 (V : Int), .slice (some ⟨zb, zo, none⟩) z.l.length z.cap] := ⟨_, rfl⟩
  refine loopq_heap fun G0 eG => ?_
  have st0 : GSt w0 H G0 b5 b8 x5 x8 none 0 [] := by subst e5 e8 eG; exact ⟨(by simp only [Heap.set_same, set_ne, ne_eq, not_false_eq_true, *] <;> rfl), (by simp only [Heap.set_same, set_ne, ne_eq, not_false_eq_true, *] <;> rfl), Bld.none, (by (repeat' (first | exact Grow.refl _ | assumption | (refine Grow_known (by first | (simp only [Heap.set_same, set_ne, ne_eq, not_false_eq_true, *] <;> rfl) | fail) ?_) | (refine Grow.set ?_ (by assumption) (by first | (simp only [*] <;> done) | (simp [set_none', Heap.set_same, set_ne, noneH, *] <;> done) | fail)) | (refine Grow.trans ?_ (by assumption)))))⟩
  have hrd5 : ∀ (F : Heap) a c O, GSt w0 H F b5 b8 x5 x8 a c O → rd1 w0 F b5 0 = some (.int .i64 (X : Nat)) ∧ rd1 w0 F b5 1 = some (.int .i64 (Y : Nat)) ∧ rd1 w0 F b5 2 = some (.int .i64 (P : Nat)) ∧ rd1 w0 F b5 3 = some (.int .i64 (Q : Nat)) := fun F a c O st => by
    refine ⟨?_, ?_, ?_, ?_⟩ <;> (unfold rd1; rw [st.k5, e5]; rfl)
  have hrd8 : ∀ (F : Heap) a c O, GSt w0 H F b5 b8 x5 x8 a c O → rd1 w0 F b8 0 = some (.int .i64 (W : Nat)) ∧ rd1 w0 F b8 2 = some (.slice (some ⟨zb, zo, none⟩) z.l.length z.cap) := fun F a c O st => by
    refine ⟨?_, ?_⟩ <;> (unfold rd1; rw [st.k8, e8]; rfl)
  replace hrd5 : Keep _ := hrd5
  replace hrd8 : Keep _ := hrd8
  clear eG e5 e8 hb0 hbk n3 n5 s3 s5
  have Y0 : (Y : Int) = ((Y + 0 : Nat) : Int) := rfl
  rw [Y0]
  clear Y0
  refine loopq_name (fun code kont T eM eK eT => ?_)
  refine loop_a 42 (fun a : Nat × Option Addr × Nat × List Value => [(10, .slice a.2.1 (pieceB z.l S W X Y P a.1).length a.2.2.1), (11, .int .i64 ((Y + a.1 : Nat) : Int)), (12, a.2.2.2.getD 0 undef), (13, a.2.2.2.getD 1 undef)])
    (fun s F => s.1 ≤ Q ∧ GSt w0 H F b5 b8 x5 x8 s.2.1 s.2.2.1 (pieceB z.l S W X Y P s.1)) (fun s => Q - s.1) (0, none, 0, []) ⟨Nat.zero_le _, st0⟩ (by subst eT; rfl) ?_
  clear st0
  intro ⟨j, a, c, us⟩ F U ⟨hj, st⟩
  simp only at hj st
  obtain ⟨r50, r51, r52, r53⟩ := (show ∀ (F : Heap) a c O, GSt w0 H F b5 b8 x5 x8 a c O → _ from hrd5) _ _ _ _ st
  rcases Nat.lt_or_ge j Q with hlt | hge
  · have t2 : ((Y + j : Nat) : Int) < ((Y + Q : Nat) : Int) := by omega
    subst eM eK eT
    show run _ _ _ _ _ _ F
    (all_goals (try simp only [Sq,Sr,Sh,Si,Sl,Bu,Bb,Bd,Bc,Bw,Bn,Int.reduceAdd,Int.reduceSub,Int.reduceMul,Int.reduceTDiv,Int.reduceTMod,Int.reduceMod,Int.reduceDiv,Nat.reduceLT,Nat.reduceEqDiff,Sa,Sb,Sc,Sd,Se,Sf,Sg,Int.reduceLE,Int.reduceLT,Int.reduceToNat,Int.reduceNeg,Int.reduceEq,Nat.reduceLeDiff,Nat.reducePow,Int.reducePow,reduceIte,Nat.reduceSub,Nat.reduceAdd,Nat.reduceMul,putAt,ceq,List.replicate, *])); repeat' ((first | (with_reducible refine fun _ : True => ?_) | (with_reducible refine any_h ?_) | ((first | refine AllocQ_i ?_ | refine AllocO_i ?_); intro bk hb0 hbk; (try simp only [set_none'] at hbk); (try (first | have hbn := Grow.none (by assumption) hbk | have hbn := Grow.none (by assumption) hbk.2 | have hbn := Grow.none (by assumption) hbk.2.2 | have hbn := Grow.none (by assumption) hbk.2.2.2 | have hbn := Grow.none (by assumption) hbk.2.2.2.2 | have hbn := Grow.none (by assumption) hbk.2.2.2.2.2)); (try simp only [set_none'] at hbn); (try (first | have hbm := Grow.none (by assumption) hbn | have hbm := Grow.none (by assumption) hbn.2 | have hbm := Grow.none (by assumption) hbn.2.2 | have hbm := Grow.none (by assumption) hbn.2.2.2 | have hbm := Grow.none (by assumption) hbn.2.2.2.2 | have hbm := Grow.none (by assumption) hbn.2.2.2.2.2)); (try simp only [set_none'] at hbm)) | ((first | refine condS_i ?_ ?_ | refine pick_i ?_ ?_ | refine gS_it ?_ ?_ | refine gS_if ?_ ?_ | refine gP_it ?_ ?_ | refine gP_if ?_ ?_) <;> (intro hc; try simp only [Int.reduceLE,Int.reduceLT,Int.reduceEq,Sn] at hc)) | (with_reducible refine KP_i ?_ ?_; · (repeat' (first | exact Heap.Le.refl _ | (with_reducible refine Le_set2 ?_) | (refine Le_known (by first | (simp only [Heap.set_same, set_ne, ne_eq, not_false_eq_true, *] <;> rfl) | fail) ?_) | (refine Le_fresh (by first | (simp only [*] <;> done) | (simp [set_none', Heap.set_same, set_ne, noneH, *] <;> done) | fail) ?_) | (refine Heap.Le.trans ?_ (Grow.le (by assumption))) | exact Le_none | (refine Le_put ?_ (by first | (simp only [Heap.set_same, set_ne, ne_eq, not_false_eq_true, *] <;> rfl) | fail)) | fail))) | (with_reducible refine And.intro ?_ ?_)) <;> (try simp only [Sq,Sr,Sh,Si,Sl,Bu,Bb,Bd,Bc,Bw,Bn,Int.reduceAdd,Int.reduceSub,Int.reduceMul,Int.reduceTDiv,Int.reduceTMod,Int.reduceMod,Int.reduceDiv,Nat.reduceLT,Nat.reduceEqDiff,Sa,Sb,Sc,Sd,Se,Sf,Sg,Int.reduceLE,Int.reduceLT,Int.reduceToNat,Int.reduceNeg,Int.reduceEq,Nat.reduceLeDiff,Nat.reducePow,Int.reducePow,reduceIte,Nat.reduceSub,Nat.reduceAdd,Nat.reduceMul,putAt,ceq,List.replicate, *]))
    clear r50 r51 r52 r53 t2
    rw [show (X : Int) = ((X + 0 : Nat) : Int) from rfl]
    refine loopq_name (fun code2 kont2 T2 eM2 eK2 eT2 => ?_)
    have O0 : pieceB z.l S W X Y P j = pieceB z.l S W X Y P j ++ (z.l.drop (segA S W X Y j)).take (0 * S) := by rw [Nat.zero_mul, List.take_zero, List.append_nil]
    refine loop_a 53 (fun a : Nat × Option Addr × Nat × List Value => [(10, .slice a.2.1 (pieceB z.l S W X Y P j ++ (z.l.drop (segA S W X Y j)).take (a.1 * S)).length a.2.2.1), (12, .int .i64 ((X + a.1 : Nat) : Int)), (13, a.2.2.2.getD 0 undef)])
      (fun s F => s.1 ≤ P ∧ GSt w0 H F b5 b8 x5 x8 s.2.1 s.2.2.1 (pieceB z.l S W X Y P j ++ (z.l.drop (segA S W X Y j)).take (s.1 * S))) (fun s => P - s.1) (0, a, c, [us.getD 1 undef]) ⟨Nat.zero_le _, by rw [← O0]; exact st⟩ (by subst eT2; simp only [← O0]; rfl) ?_
    clear st O0
    intro ⟨i, a, c, vs⟩ F2 U2 ⟨hi, st⟩
    simp only at hi st
    obtain ⟨r50, r51, r52, r53⟩ := (show ∀ (F : Heap) a c O, GSt w0 H F b5 b8 x5 x8 a c O → _ from hrd5) _ _ _ _ st
    obtain ⟨r80, r82⟩ := (show ∀ (F : Heap) a c O, GSt w0 H F b5 b8 x5 x8 a c O → _ from hrd8) _ _ _ _ st
    rcases Nat.lt_or_ge i P with hlti | hgei
    · have t2 : ((X + i : Nat) : Int) < ((X + P : Nat) : Int) := by omega
      obtain ⟨q1, q2, q3, q4, q5⟩ := seg_px hg hlt hlti
      have hO : (pieceB z.l S W X Y P j ++ (z.l.drop (segA S W X Y j)).take (i * S)).length ≤ 100000 := by
        rw [List.length_append, pieceB_len j fun i hi => (seg_b hg (show i < Q by omega)).1]
        have := (seg_b hg hlt).2.2.2.2.2
        have := hg.yh
        have := hg.vb
        have h1 := Nat.mul_le_mul (show j ≤ 64 by omega) (show P * S ≤ 256 by assumption)
        have h2 : ((z.l.drop (segA S W X Y j)).take (i * S)).length ≤ z.l.length := by rw [List.length_take, List.length_drop]; omega
        omega
      have eO2 := take_more z.l (segA S W X Y j) i S
      rw [← Nat.succ_mul] at eO2
      obtain ⟨lo, elo⟩ : ∃ lo, segA S W X Y j + i * S = lo := ⟨_, rfl⟩
      rw [elo] at q1 q2 eO2
      have eO3 : pieceB z.l S W X Y P j ++ (z.l.drop (segA S W X Y j)).take ((i + 1) * S) = pieceB z.l S W X Y P j ++ (z.l.drop (segA S W X Y j)).take (i * S) ++ (z.l.drop lo).take S := by rw [List.append_assoc, ← eO2]
      obtain ⟨O, eO⟩ : ∃ O, pieceB z.l S W X Y P j ++ (z.l.drop (segA S W X Y j)).take (i * S) = O := ⟨_, rfl⟩
      rw [eO] at st hO eO3
      obtain ⟨ii, eii⟩ : ∃ ii, (Y + j) * W + (X + i) = ii := ⟨_, rfl⟩
      rw [eii] at q1
      have f1 : IntKind.i64.wrap (((Y + j : Nat) : Int) * (W : Int)) = (((Y + j) * W : Nat) : Int) := by rw [← Int.natCast_mul, Bw.1 _ (by omega) (by omega)]
      have f2 : IntKind.i64.wrap ((((Y + j) * W : Nat) : Int) + ((X + i : Nat) : Int)) = (ii : Int) := by rw [← Int.natCast_add, eii, Bw.1 _ (by omega) (by omega)]
      have f3 : IntKind.i64.wrap ((ii : Int) * (S : Int)) = (lo : Int) := by rw [← Int.natCast_mul, q1, Bw.1 _ (by omega) (by omega)]
      have f4 : IntKind.i64.wrap ((lo : Int) + (S : Int)) = ((lo + S : Nat) : Int) := by rw [← Int.natCast_add, Bw.1 _ (by omega) (by omega)]
      have f5 : IntKind.i64.wrap (((X + i : Nat) : Int) + 1) = ((X + (i + 1) : Nat) : Int) := by rw [Bw.1 _ (by omega) (by omega)]; omega
      have hcap := z0.lc
      have v1 : (lo : Int) ≤ ((lo + S : Nat) : Int) := by omega
      have v2 : ((lo + S : Nat) : Int) ≤ (z.cap : Int) := by omega
      have v3 : lo + S - lo = S := by omega
      have v4 : ¬ z.cap = lo := by omega
      have sl := seg_at (z0.at_.grow st.g) eza q2 (by omega)
      have sln : ((z.l.drop lo).take S).length = S := by rw [List.length_take, List.length_drop]; omega
      have hx : srd w0 F2 (some ⟨zb, zo + lo, none⟩) (S * 1) = some (((z.l.drop lo).take S).map (.int .u8)) := by
        have := (SlAt.ints sl).srd
        rw [List.length_map, sln] at this
        rw [Nat.mul_one]
        exact this
      replace sln : Keep _ := sln
      replace eO3 : Keep _ := eO3
      replace hx : Keep _ := hx
      replace st : Keep _ := st
      clear sl eii q1 q2 q3 q4 q5 elo eO2 hcap
      subst eM2 eK2 eT2
      show run _ _ _ _ _ _ F2
      rw [eO]
      clear eO
      (all_goals (try simp only [Sq,Sr,Sh,Si,Sl,Bu,Bb,Bd,Bc,Bw,Bn,Int.reduceAdd,Int.reduceSub,Int.reduceMul,Int.reduceTDiv,Int.reduceTMod,Int.reduceMod,Int.reduceDiv,Nat.reduceLT,Nat.reduceEqDiff,Sa,Sb,Sc,Sd,Se,Sf,Sg,Int.reduceLE,Int.reduceLT,Int.reduceToNat,Int.reduceNeg,Int.reduceEq,Nat.reduceLeDiff,Nat.reducePow,Int.reducePow,reduceIte,Nat.reduceSub,Nat.reduceAdd,Nat.reduceMul,putAt,ceq,List.replicate, *])); repeat' ((first | (with_reducible refine fun _ : True => ?_) | (with_reducible refine any_h ?_) | ((first | refine AllocQ_i ?_ | refine AllocO_i ?_); intro bk hb0 hbk; (try simp only [set_none'] at hbk); (try (first | have hbn := Grow.none (by assumption) hbk | have hbn := Grow.none (by assumption) hbk.2 | have hbn := Grow.none (by assumption) hbk.2.2 | have hbn := Grow.none (by assumption) hbk.2.2.2 | have hbn := Grow.none (by assumption) hbk.2.2.2.2 | have hbn := Grow.none (by assumption) hbk.2.2.2.2.2)); (try simp only [set_none'] at hbn); (try (first | have hbm := Grow.none (by assumption) hbn | have hbm := Grow.none (by assumption) hbn.2 | have hbm := Grow.none (by assumption) hbn.2.2 | have hbm := Grow.none (by assumption) hbn.2.2.2 | have hbm := Grow.none (by assumption) hbn.2.2.2.2 | have hbm := Grow.none (by assumption) hbn.2.2.2.2.2)); (try simp only [set_none'] at hbm)) | ((first | refine condS_i ?_ ?_ | refine pick_i ?_ ?_ | refine gS_it ?_ ?_ | refine gS_if ?_ ?_ | refine gP_it ?_ ?_ | refine gP_if ?_ ?_) <;> (intro hc; try simp only [Int.reduceLE,Int.reduceLT,Int.reduceEq,Sn] at hc)) | (with_reducible refine KP_i ?_ ?_; · (repeat' (first | exact Heap.Le.refl _ | (with_reducible refine Le_set2 ?_) | (refine Le_known (by first | (simp only [Heap.set_same, set_ne, ne_eq, not_false_eq_true, *] <;> rfl) | fail) ?_) | (refine Le_fresh (by first | (simp only [*] <;> done) | (simp [set_none', Heap.set_same, set_ne, noneH, *] <;> done) | fail) ?_) | (refine Heap.Le.trans ?_ (Grow.le (by assumption))) | exact Le_none | (refine Le_put ?_ (by first | (simp only [Heap.set_same, set_ne, ne_eq, not_false_eq_true, *] <;> rfl) | fail)) | fail))) | (with_reducible refine And.intro ?_ ?_)) <;> (try simp only [Sq,Sr,Sh,Si,Sl,Bu,Bb,Bd,Bc,Bw,Bn,Int.reduceAdd,Int.reduceSub,Int.reduceMul,Int.reduceTDiv,Int.reduceTMod,Int.reduceMod,Int.reduceDiv,Nat.reduceLT,Nat.reduceEqDiff,Sa,Sb,Sc,Sd,Se,Sf,Sg,Int.reduceLE,Int.reduceLT,Int.reduceToNat,Int.reduceNeg,Int.reduceEq,Nat.reduceLeDiff,Nat.reducePow,Int.reducePow,reduceIte,Nat.reduceSub,Nat.reduceAdd,Nat.reduceMul,putAt,ceq,List.replicate, *]))
      have st' := (show GSt w0 H F2 b5 b8 x5 x8 a c O from st)
      refine app_bld2 (H := H) (n := O.length) (m := S) (cs := O.map (.int .u8)) (ns := ((z.l.drop lo).take S).map (.int .u8)) st'.B (by rw [List.length_map, Nat.mul_one]) rfl hx (by rw [List.length_map, Nat.mul_one]; exact sln) st'.g ⟨by omega, by omega⟩ (one_map _) fun a2 c2 E2 hB2 hg2 hk2 _ _ => ?_
      have st2 : GSt w0 H E2 b5 b8 x5 x8 a2 c2 (pieceB z.l S W X Y P j ++ (z.l.drop (segA S W X Y j)).take ((i + 1) * S)) :=
        ⟨hk2 b5 _ st'.k5 (fun e => absurd (Kd.t_inj e) (by decide)), hk2 b8 _ st'.k8 (fun e => absurd (Kd.t_inj e) (by decide)), by rw [show _ = _ from eO3, List.map_append]; exact hB2, hg2⟩
      have ln : (pieceB z.l S W X Y P j ++ (z.l.drop (segA S W X Y j)).take ((i + 1) * S)).length = O.length + S := by rw [show _ = _ from eO3, List.length_append, show _ = S from sln]
      clear hk2 hB2 hx eO3 st st' r50 r51 r52 r53 r80 r82
      replace ln : Keep _ := ln
      (all_goals (try simp only [Sq,Sr,Sh,Si,Sl,Bu,Bb,Bd,Bc,Bw,Bn,Int.reduceAdd,Int.reduceSub,Int.reduceMul,Int.reduceTDiv,Int.reduceTMod,Int.reduceMod,Int.reduceDiv,Nat.reduceLT,Nat.reduceEqDiff,Sa,Sb,Sc,Sd,Se,Sf,Sg,Int.reduceLE,Int.reduceLT,Int.reduceToNat,Int.reduceNeg,Int.reduceEq,Nat.reduceLeDiff,Nat.reducePow,Int.reducePow,reduceIte,Nat.reduceSub,Nat.reduceAdd,Nat.reduceMul,putAt,ceq,List.replicate, *])); repeat' ((first | (with_reducible refine fun _ : True => ?_) | (with_reducible refine any_h ?_) | ((first | refine AllocQ_i ?_ | refine AllocO_i ?_); intro bk hb0 hbk; (try simp only [set_none'] at hbk); (try (first | have hbn := Grow.none (by assumption) hbk | have hbn := Grow.none (by assumption) hbk.2 | have hbn := Grow.none (by assumption) hbk.2.2 | have hbn := Grow.none (by assumption) hbk.2.2.2 | have hbn := Grow.none (by assumption) hbk.2.2.2.2 | have hbn := Grow.none (by assumption) hbk.2.2.2.2.2)); (try simp only [set_none'] at hbn); (try (first | have hbm := Grow.none (by assumption) hbn | have hbm := Grow.none (by assumption) hbn.2 | have hbm := Grow.none (by assumption) hbn.2.2 | have hbm := Grow.none (by assumption) hbn.2.2.2 | have hbm := Grow.none (by assumption) hbn.2.2.2.2 | have hbm := Grow.none (by assumption) hbn.2.2.2.2.2)); (try simp only [set_none'] at hbm)) | ((first | refine condS_i ?_ ?_ | refine pick_i ?_ ?_ | refine gS_it ?_ ?_ | refine gS_if ?_ ?_ | refine gP_it ?_ ?_ | refine gP_if ?_ ?_) <;> (intro hc; try simp only [Int.reduceLE,Int.reduceLT,Int.reduceEq,Sn] at hc)) | (with_reducible refine KP_i ?_ ?_; · (repeat' (first | exact Heap.Le.refl _ | (with_reducible refine Le_set2 ?_) | (refine Le_known (by first | (simp only [Heap.set_same, set_ne, ne_eq, not_false_eq_true, *] <;> rfl) | fail) ?_) | (refine Le_fresh (by first | (simp only [*] <;> done) | (simp [set_none', Heap.set_same, set_ne, noneH, *] <;> done) | fail) ?_) | (refine Heap.Le.trans ?_ (Grow.le (by assumption))) | exact Le_none | (refine Le_put ?_ (by first | (simp only [Heap.set_same, set_ne, ne_eq, not_false_eq_true, *] <;> rfl) | fail)) | fail))) | (with_reducible refine And.intro ?_ ?_)) <;> (try simp only [Sq,Sr,Sh,Si,Sl,Bu,Bb,Bd,Bc,Bw,Bn,Int.reduceAdd,Int.reduceSub,Int.reduceMul,Int.reduceTDiv,Int.reduceTMod,Int.reduceMod,Int.reduceDiv,Nat.reduceLT,Nat.reduceEqDiff,Sa,Sb,Sc,Sd,Se,Sf,Sg,Int.reduceLE,Int.reduceLT,Int.reduceToNat,Int.reduceNeg,Int.reduceEq,Nat.reduceLeDiff,Nat.reducePow,Int.reducePow,reduceIte,Nat.reduceSub,Nat.reduceAdd,Nat.reduceMul,putAt,ceq,List.replicate, *]))
      exact Round_p (i + 1, a2, c2, [_]) ⟨hlti, st2⟩ (by simp only; omega) (by simp only [show _ = O.length + S from ln]; rfl) rfl
    · obtain rfl : i = P := by omega
      have t2 : ¬ ((X + i : Nat) : Int) < ((X + i : Nat) : Int) := by omega
      have f5 : IntKind.i64.wrap (((Y + j : Nat) : Int) + 1) = ((Y + (j + 1) : Nat) : Int) := by have := hg.yh; have := hg.vb; rw [Bw.1 _ (by omega) (by omega)]; omega
      have st2 : Keep (GSt w0 H F2 b5 b8 x5 x8 a c (pieceB z.l S W X Y i (j + 1))) := st
      clear st
      subst eM2 eK2 eT2
      show run _ _ _ _ _ _ F2
      (all_goals (try simp only [Sq,Sr,Sh,Si,Sl,Bu,Bb,Bd,Bc,Bw,Bn,Int.reduceAdd,Int.reduceSub,Int.reduceMul,Int.reduceTDiv,Int.reduceTMod,Int.reduceMod,Int.reduceDiv,Nat.reduceLT,Nat.reduceEqDiff,Sa,Sb,Sc,Sd,Se,Sf,Sg,Int.reduceLE,Int.reduceLT,Int.reduceToNat,Int.reduceNeg,Int.reduceEq,Nat.reduceLeDiff,Nat.reducePow,Int.reducePow,reduceIte,Nat.reduceSub,Nat.reduceAdd,Nat.reduceMul,putAt,ceq,List.replicate, *])); repeat' ((first | (with_reducible refine fun _ : True => ?_) | (with_reducible refine any_h ?_) | ((first | refine AllocQ_i ?_ | refine AllocO_i ?_); intro bk hb0 hbk; (try simp only [set_none'] at hbk); (try (first | have hbn := Grow.none (by assumption) hbk | have hbn := Grow.none (by assumption) hbk.2 | have hbn := Grow.none (by assumption) hbk.2.2 | have hbn := Grow.none (by assumption) hbk.2.2.2 | have hbn := Grow.none (by assumption) hbk.2.2.2.2 | have hbn := Grow.none (by assumption) hbk.2.2.2.2.2)); (try simp only [set_none'] at hbn); (try (first | have hbm := Grow.none (by assumption) hbn | have hbm := Grow.none (by assumption) hbn.2 | have hbm := Grow.none (by assumption) hbn.2.2 | have hbm := Grow.none (by assumption) hbn.2.2.2 | have hbm := Grow.none (by assumption) hbn.2.2.2.2 | have hbm := Grow.none (by assumption) hbn.2.2.2.2.2)); (try simp only [set_none'] at hbm)) | ((first | refine condS_i ?_ ?_ | refine pick_i ?_ ?_ | refine gS_it ?_ ?_ | refine gS_if ?_ ?_ | refine gP_it ?_ ?_ | refine gP_if ?_ ?_) <;> (intro hc; try simp only [Int.reduceLE,Int.reduceLT,Int.reduceEq,Sn] at hc)) | (with_reducible refine KP_i ?_ ?_; · (repeat' (first | exact Heap.Le.refl _ | (with_reducible refine Le_set2 ?_) | (refine Le_known (by first | (simp only [Heap.set_same, set_ne, ne_eq, not_false_eq_true, *] <;> rfl) | fail) ?_) | (refine Le_fresh (by first | (simp only [*] <;> done) | (simp [set_none', Heap.set_same, set_ne, noneH, *] <;> done) | fail) ?_) | (refine Heap.Le.trans ?_ (Grow.le (by assumption))) | exact Le_none | (refine Le_put ?_ (by first | (simp only [Heap.set_same, set_ne, ne_eq, not_false_eq_true, *] <;> rfl) | fail)) | fail))) | (with_reducible refine And.intro ?_ ?_)) <;> (try simp only [Sq,Sr,Sh,Si,Sl,Bu,Bb,Bd,Bc,Bw,Bn,Int.reduceAdd,Int.reduceSub,Int.reduceMul,Int.reduceTDiv,Int.reduceTMod,Int.reduceMod,Int.reduceDiv,Nat.reduceLT,Nat.reduceEqDiff,Sa,Sb,Sc,Sd,Se,Sf,Sg,Int.reduceLE,Int.reduceLT,Int.reduceToNat,Int.reduceNeg,Int.reduceEq,Nat.reduceLeDiff,Nat.reducePow,Int.reducePow,reduceIte,Nat.reduceSub,Nat.reduceAdd,Nat.reduceMul,putAt,ceq,List.replicate, *]))
      exact Round_p (j + 1, a, c, [_, _]) ⟨hlt, st2⟩ (by simp only; omega) rfl rfl
  · obtain rfl : j = Q := by omega
    have t2 : ¬ ((Y + j : Nat) : Int) < ((Y + j : Nat) : Int) := by omega
    have fin := (show ∀ a c G, _ → _ → _ from h') a c F st.B st.g
    clear st h'
    subst eM eK eT
    show run _ _ _ _ _ _ F
    (all_goals (try simp only [Sq,Sr,Sh,Si,Sl,Bu,Bb,Bd,Bc,Bw,Bn,Int.reduceAdd,Int.reduceSub,Int.reduceMul,Int.reduceTDiv,Int.reduceTMod,Int.reduceMod,Int.reduceDiv,Nat.reduceLT,Nat.reduceEqDiff,Sa,Sb,Sc,Sd,Se,Sf,Sg,Int.reduceLE,Int.reduceLT,Int.reduceToNat,Int.reduceNeg,Int.reduceEq,Nat.reduceLeDiff,Nat.reducePow,Int.reducePow,reduceIte,Nat.reduceSub,Nat.reduceAdd,Nat.reduceMul,putAt,ceq,List.replicate, *])); repeat' ((first | (with_reducible refine fun _ : True => ?_) | (with_reducible refine any_h ?_) | ((first | refine AllocQ_i ?_ | refine AllocO_i ?_); intro bk hb0 hbk; (try simp only [set_none'] at hbk); (try (first | have hbn := Grow.none (by assumption) hbk | have hbn := Grow.none (by assumption) hbk.2 | have hbn := Grow.none (by assumption) hbk.2.2 | have hbn := Grow.none (by assumption) hbk.2.2.2 | have hbn := Grow.none (by assumption) hbk.2.2.2.2 | have hbn := Grow.none (by assumption) hbk.2.2.2.2.2)); (try simp only [set_none'] at hbn); (try (first | have hbm := Grow.none (by assumption) hbn | have hbm := Grow.none (by assumption) hbn.2 | have hbm := Grow.none (by assumption) hbn.2.2 | have hbm := Grow.none (by assumption) hbn.2.2.2 | have hbm := Grow.none (by assumption) hbn.2.2.2.2 | have hbm := Grow.none (by assumption) hbn.2.2.2.2.2)); (try simp only [set_none'] at hbm)) | ((first | refine condS_i ?_ ?_ | refine pick_i ?_ ?_ | refine gS_it ?_ ?_ | refine gS_if ?_ ?_ | refine gP_it ?_ ?_ | refine gP_if ?_ ?_) <;> (intro hc; try simp only [Int.reduceLE,Int.reduceLT,Int.reduceEq,Sn] at hc)) | (with_reducible refine KP_i ?_ ?_; · (repeat' (first | exact Heap.Le.refl _ | (with_reducible refine Le_set2 ?_) | (refine Le_known (by first | (simp only [Heap.set_same, set_ne, ne_eq, not_false_eq_true, *] <;> rfl) | fail) ?_) | (refine Le_fresh (by first | (simp only [*] <;> done) | (simp [set_none', Heap.set_same, set_ne, noneH, *] <;> done) | fail) ?_) | (refine Heap.Le.trans ?_ (Grow.le (by assumption))) | exact Le_none | (refine Le_put ?_ (by first | (simp only [Heap.set_same, set_ne, ne_eq, not_false_eq_true, *] <;> rfl) | fail)) | fail))) | (with_reducible refine And.intro ?_ ?_)) <;> (try simp only [Sq,Sr,Sh,Si,Sl,Bu,Bb,Bd,Bc,Bw,Bn,Int.reduceAdd,Int.reduceSub,Int.reduceMul,Int.reduceTDiv,Int.reduceTMod,Int.reduceMod,Int.reduceDiv,Nat.reduceLT,Nat.reduceEqDiff,Sa,Sb,Sc,Sd,Se,Sf,Sg,Int.reduceLE,Int.reduceLT,Int.reduceToNat,Int.reduceNeg,Int.reduceEq,Nat.reduceLeDiff,Nat.reducePow,Int.reducePow,reduceIte,Nat.reduceSub,Nat.reduceAdd,Nat.reduceMul,putAt,ceq,List.replicate, *]))
    exact Fin_mk (Heap.Le.refl _) fin
end Go.Proofs.Ytdaipgnhconfnaa
