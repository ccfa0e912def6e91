/- A piece is put, by the program (layer 8). -/
import Derived.Test.YtdaipgnhconfnaaIrd
import Derived.Test.YtdaipgnhconfnaaInf
set_option linter.unusedSimpArgs false
set_option linter.unusedVariables false
set_option maxRecDepth 100000
set_option maxHeartbeats 4000000
namespace Go.Proofs.Ytdaipgnhconfnaa
open Go Go.HL Go.RowKit Pb
variable {w0 : World} {H G : Heap} {K : Value → Heap → Prop}

abbrev zIs : Value := .agg #[.int .i64 0, .slice none 0 0, .int .i64 0, .int .i64 0, .int .i64 0, .int .i64 0]
/-- Bytes of a call: a slice. -/
structure BsOk (W : World) (H : Heap) (a : Option Addr) (c : Nat) (l : List Int) : Prop where
  at_ : IntsAt W H .u8 a l
  cap : l.length ≤ c
  pl : plainO a
  by_ : ∀ v ∈ l, 0 ≤ v ∧ v ≤ 255
theorem BsOk.grow {a : Option Addr} {c : Nat} {l : List Int} (h : BsOk w0 H a c l) (g : Grow w0 H G) : BsOk w0 G a c l := ⟨h.at_.grow g, h.cap, h.pl, h.by_⟩
structure SubOk (x : Im) (k : Nat) (z : LvR) (b : List Int) (S W X Y P Q : Nat) (y : Im) : Prop where
  f : y.f = x.f
  s : y.s = x.s
  t : y.t = x.t
  mn : y.mn = x.mn
  mg : y.mg = x.mg
  ls : y.ls.map LvR.core = (x.ls.map LvR.core).set k (z.w, z.h, subB z.l b S W X Y P Q)
theorem putAt_mid {cs ns z : List Value} {A : Nat} (hA : A + ns.length ≤ cs.length) : putAt (cs ++ z) A ns = (cs.take A ++ ns ++ cs.drop (A + ns.length)) ++ z := by
  have e : cs ++ z = cs.take A ++ (cs.drop A ++ z) := by rw [← List.append_assoc, List.take_append_drop]
  have hl : (cs.take A).length = A := by rw [List.length_take]; omega
  have := putAt_end (cs.take A) ns (cs.drop A ++ z) (by rw [List.length_append, List.length_drop]; omega)
  rw [hl] at this
  rw [e, this, List.drop_append_of_le_length (by rw [List.length_drop]; omega), List.drop_drop, List.append_assoc, List.append_assoc, List.append_assoc]
theorem cpy_seg {tb A o' n m c c' : Nat} {l sg : List Int} {zz : List Value} {xa : Option Addr} (hb : G tb = some ⟨.t 5, l.map (.int .u8) ++ zz⟩) (hs : srd w0 G xa n = some (sg.map (.int .u8))) (hl : sg.length = n) (hm : n ≤ m) (hA : A + n ≤ l.length) (ho : 0 < n → o' = A)
    (h : K (.int .i64 (n : Nat)) (G.set tb ⟨.t 5, (putSeg l A sg).map (.int .u8) ++ zz⟩)) : cpyQ w0 G K 1 (.slice (some ⟨tb, o', none⟩) n c) (.slice xa m c') := by
  unfold cpyQ
  simp only
  rw [show Nat.min m n = n from Nat.min_eq_right hm, Nat.mul_one, hs]
  simp only [optQ]
  unfold layQ
  by_cases e : n = 0
  · have es : sg = [] := List.length_eq_zero_iff.1 (by omega)
    subst es
    rw [if_pos (by simp)]
    have hp : putSeg l A [] = l := by unfold putSeg; simp
    rw [hp, Heap.set_id G tb _ hb] at h
    exact h
  · have es : ¬ sg.map (Value.int .u8) = [] := fun q => e (by have := congrArg List.length q; simp only [List.length_map, List.length_nil] at this; omega)
    rw [if_neg es]
    simp only [hb, optQ]
    have o1 : o' = A := ho (by omega)
    subst o1
    refine ⟨one_map _, by simp only [List.length_append, List.length_map]; omega, ?_⟩
    rw [Nat.add_zero, putAt_mid (by simp only [List.length_map]; omega)]
    have : List.take o' (l.map (Value.int .u8)) ++ sg.map (Value.int .u8) ++ List.drop (o' + (sg.map (Value.int .u8)).length) (l.map (Value.int .u8)) = (putSeg l o' sg).map (Value.int .u8) := by
      unfold putSeg
      rw [List.map_append, List.map_append, List.map_take, List.map_drop, List.length_map]
    rw [this]
    exact h
theorem bs_drop {a : Option Addr} {l : List Int} {bb oo n : Nat} (hA : IntsAt w0 H .u8 a l) (ea : a = some ⟨bb, oo, none⟩) (hn : n ≤ l.length) (hl : 0 < l.length) : IntsAt w0 H .u8 (some ⟨bb, oo + n, none⟩) (l.drop n) := by
  have := seg_at (lo := n) (n := l.length - n) hA ea (by omega) hl
  rw [List.take_of_length_le (by rw [List.length_drop]; exact Nat.le_refl _)] at this
  exact this
theorem root5x {G : Heap} {a b c d e : Nat} {x y z u v : Blk} (h1 : G a = some x) (h2 : G b = some y) (h3 : G c = some z) (h4 : G d = some u) (h5 : G e = some v) : G = ((((G.set a x).set b y).set c z).set d u).set e v := by
  rw [Heap.set_id G a _ h1, Heap.set_id G b _ h2, Heap.set_id G c _ h3, Heap.set_id G d _ h4, Heap.set_id G e _ h5]
/- image Sub -/
def M34 : MC :=
  .seq (.reg [⟨(some 4), .box 24 (.tmp 0), none⟩,
 ⟨(some 6), .box 49 (.tmp 2), none⟩,
 ⟨(some 7), .box 36 (.tmp 3), none⟩,
 ⟨(some 8), .alloc 24 [(.int .i64 0), (.slice none 0 0), (.int .i64 0), (.int .i64 0), (.int .i64 0), (.int .i64 0)], none⟩,
 ⟨(some 9), .mv (.const (.int .i64 0)), none⟩])
 (.seq (.reg [⟨(some 17), .ldn 6 (.tmp 4), none⟩,
 ⟨(some 18), .mv (.tmp 1), none⟩,
 ⟨(some 19), .ldn 4 (.tmp 6), none⟩,
 ⟨(some 20), .call 59 [(.tmp 17), (.tmp 18), (.tmp 19)], none⟩,
 ⟨(some 16), .mv (.tmp 20), none⟩,
 ⟨(some 21), .ext 0 (.tmp 16), none⟩,
 ⟨(some 22), .ext 1 (.tmp 16), none⟩,
 ⟨(some 10), .alloc 38 [(.int .i64 0), (.int .i64 0), (.slice none 0 0)], none⟩,
 ⟨none, .stn 3 (.tmp 10) (.tmp 21), none⟩,
 ⟨(some 11), .mv (.tmp 22), none⟩])
 (.seq (.seq (.reg [⟨(some 23), .mv (.tmp 11), none⟩,
 ⟨(some 24), .bin .neq (.tmp 23) (.const (.int .i64 0)), none⟩])
 (.cond (.tmp 24)
 (.seq (.reg [⟨(some 25), .build [(.int .i64 0), (.slice none 0 0), (.int .i64 0), (.int .i64 0), (.int .i64 0), (.int .i64 0)] [], none⟩,
 ⟨(some 26), .mv (.tmp 11), none⟩,
 ⟨none, .stn 6 (.tmp 8) (.tmp 25), none⟩,
 ⟨(some 9), .mv (.tmp 26), none⟩])
 (.ret))
 (.skip)))
 (.seq (.reg [⟨(some 27), .fa 0 (.tmp 4), none⟩,
 ⟨(some 28), .ld1 (.tmp 27), none⟩,
 ⟨(some 29), .call 48 [(.tmp 28)], none⟩,
 ⟨(some 12), .mv (.tmp 29), none⟩])
 (.seq (.seq (.reg [⟨(some 30), .ld1 (.tmp 7), none⟩,
 ⟨(some 31), .len (.tmp 30), none⟩,
 ⟨(some 32), .fa 2 (.tmp 6), none⟩,
 ⟨(some 33), .ld1 (.tmp 32), none⟩,
 ⟨(some 34), .fa 3 (.tmp 6), none⟩,
 ⟨(some 35), .ld1 (.tmp 34), none⟩,
 ⟨(some 36), .bin .mul (.tmp 33) (.tmp 35), none⟩,
 ⟨(some 37), .mv (.tmp 12), none⟩,
 ⟨(some 38), .bin .mul (.tmp 36) (.tmp 37), none⟩,
 ⟨(some 39), .bin .neq (.tmp 31) (.tmp 38), none⟩])
 (.cond (.tmp 39)
 (.seq (.reg [⟨(some 40), .build [(.int .i64 0), (.slice none 0 0), (.int .i64 0), (.int .i64 0), (.int .i64 0), (.int .i64 0)] [], none⟩,
 ⟨none, .stn 6 (.tmp 8) (.tmp 40), none⟩,
 ⟨(some 9), .mv (.const (.int .i64 7)), none⟩])
 (.ret))
 (.skip)))
 (.seq (.reg [⟨(some 41), .ldn 6 (.tmp 4), none⟩,
 ⟨(some 42), .call 41 [(.tmp 41)], none⟩,
 ⟨none, .stn 6 (.tmp 4) (.tmp 42), none⟩])
 (.seq (.reg [⟨(some 43), .fa 1 (.tmp 4), none⟩,
 ⟨(some 44), .ld1 (.tmp 43), none⟩,
 ⟨(some 45), .mv (.tmp 1), none⟩,
 ⟨(some 46), .is 3 (.tmp 44) (.tmp 45), none⟩,
 ⟨(some 47), .fa 2 (.tmp 46), none⟩,
 ⟨(some 48), .ld1 (.tmp 47), none⟩,
 ⟨(some 13), .alloc 36 [(.slice none 0 0)], none⟩,
 ⟨none, .st1 (.tmp 13) (.tmp 48), none⟩])
 (.seq (.seq (.reg [⟨(some 49), .ldn 3 (.tmp 10), none⟩,
 ⟨(some 50), .ldn 4 (.tmp 6), none⟩,
 ⟨(some 51), .mv (.tmp 12), none⟩,
 ⟨(some 52), .call 60 [(.tmp 49), (.tmp 50), (.tmp 51)], none⟩])
 (.block 0 (.rangef (.tmp 52) [53, 54]
 (.seq (.reg [⟨(some 14), .mv (.tmp 53), none⟩])
 (.reg [⟨(some 15), .mv (.tmp 54), none⟩]))
 (.block 1 (.any [(true, 0, [], ⟨(some 55), .ld1 (.tmp 7), none⟩),
 (true, 1, [], ⟨(some 56), .ld1 (.tmp 13), none⟩),
 (true, 2, [], ⟨(some 57), .mv (.tmp 14), none⟩),
 (true, 3, [], ⟨(some 58), .mv (.tmp 15), none⟩),
 (true, 4, [], ⟨(some 59), .slc 1 (.tmp 56) (some (.tmp 57)) (some (.tmp 58)), none⟩),
 (false, 5, [0, 1, 2, 3, 4], ⟨(some 60), .ld1 (.tmp 7), none⟩),
 (false, 6, [0], ⟨(some 61), .cpy 1 (.tmp 59) (.tmp 60), none⟩),
 (false, 7, [], ⟨(some 62), .slc 1 (.tmp 55) (some (.tmp 61)) none, none⟩),
 (false, 8, [], ⟨none, .st1 (.tmp 7) (.tmp 62), none⟩)])))))
 (.seq (.reg [⟨(some 63), .ldn 6 (.tmp 4), none⟩,
 ⟨none, .stn 6 (.tmp 8) (.tmp 63), none⟩,
 ⟨(some 9), .mv (.const (.int .i64 0)), none⟩])
 (.ret)))))))))
theorem k34 : fnOk Try.prog 34 = some (M34, [.cn 6 8, .t 9], 64) := by kernel_rfl

theorem c_Sub_err (x : Im) (hx : ImOk w0 H x) (lv : Int) (p : Pc) (a : Option Addr) (n c : Nat) (e : Int) (he : FindE x lv p e) (h : K (.tuple #[zIs, .int .i64 e]) H) : HCalls Try.prog w0 34 [x.v, .int .i64 lv, p.v, .slice a n c] H K := by
  have cF : ∀ (G : Heap) (K : Value → Heap → Prop), Grow w0 H G → K (.tuple #[zLvv, .int .i64 e]) G → HCalls Try.prog w0 59 [x.v, .int .i64 lv, p.v] G K := fun G K g hk => c_find_err x (hx.grow g) lv p e he hk
  have hne : ¬ e = 0 := by cases he <;> decide
  clear he hx
  unfold Im.v Pc.v at *
  refine HL.hc k34 999 ?_; unfold M34
  (all_goals (try simp only [Sq,Sr,Sh,Si,Sl,Bu,Bb,Bd,Bc,Bw,Bn,Int.reduceAdd,Int.reduceSub,Int.reduceMul,Int.reduceTDiv,Int.reduceTMod,Int.reduceMod,Int.reduceDiv,Nat.reduceLT,Nat.reduceEqDiff,Sa,Sb,Sc,Sd,Se,Sf,Sg,Int.reduceLE,Int.reduceLT,Int.reduceToNat,Int.reduceNeg,Int.reduceEq,Nat.reduceLeDiff,Nat.reducePow,Int.reducePow,reduceIte,Nat.reduceSub,Nat.reduceAdd,Nat.reduceMul,putAt,ceq,List.replicate, *])); repeat' ((first | (with_reducible refine fun _ : True => ?_) | refine cF _ _ (by (repeat' (first | exact Grow.refl _ | assumption | (refine Grow_known (by first | (simp only [Heap.set_same, set_ne, ne_eq, not_false_eq_true, *] <;> rfl) | fail) ?_) | (refine Grow.set ?_ (by assumption) (by first | (simp only [*] <;> done) | (simp [set_none', Heap.set_same, set_ne, noneH, *] <;> done) | fail)) | (refine Grow.trans ?_ (by assumption))))) ?_ | (with_reducible refine any_h ?_) | ((first | refine AllocQ_i ?_ | refine AllocO_i ?_); intro bk hb0 hbk; (try simp only [set_none'] at hbk); (try (first | have hbn := Grow.none (by assumption) hbk | have hbn := Grow.none (by assumption) hbk.2 | have hbn := Grow.none (by assumption) hbk.2.2 | have hbn := Grow.none (by assumption) hbk.2.2.2 | have hbn := Grow.none (by assumption) hbk.2.2.2.2 | have hbn := Grow.none (by assumption) hbk.2.2.2.2.2)); (try simp only [set_none'] at hbn); (try (first | have hbm := Grow.none (by assumption) hbn | have hbm := Grow.none (by assumption) hbn.2 | have hbm := Grow.none (by assumption) hbn.2.2 | have hbm := Grow.none (by assumption) hbn.2.2.2 | have hbm := Grow.none (by assumption) hbn.2.2.2.2 | have hbm := Grow.none (by assumption) hbn.2.2.2.2.2)); (try simp only [set_none'] at hbm)) | ((first | refine condS_i ?_ ?_ | refine pick_i ?_ ?_ | refine gS_it ?_ ?_ | refine gS_if ?_ ?_ | refine gP_it ?_ ?_ | refine gP_if ?_ ?_) <;> (intro hc; try simp only [Int.reduceLE,Int.reduceLT,Int.reduceEq,Sn] at hc)) | (with_reducible refine KP_i ?_ ?_; · (repeat' (first | exact Heap.Le.refl _ | (with_reducible refine Le_set2 ?_) | (refine Le_known (by first | (simp only [Heap.set_same, set_ne, ne_eq, not_false_eq_true, *] <;> rfl) | fail) ?_) | (refine Le_fresh (by first | (simp only [*] <;> done) | (simp [set_none', Heap.set_same, set_ne, noneH, *] <;> done) | fail) ?_) | (refine Heap.Le.trans ?_ (Grow.le (by assumption))) | exact Le_none | (refine Le_put ?_ (by first | (simp only [Heap.set_same, set_ne, ne_eq, not_false_eq_true, *] <;> rfl) | fail)) | fail))) | (with_reducible refine And.intro ?_ ?_)) <;> (try simp only [Sq,Sr,Sh,Si,Sl,Bu,Bb,Bd,Bc,Bw,Bn,Int.reduceAdd,Int.reduceSub,Int.reduceMul,Int.reduceTDiv,Int.reduceTMod,Int.reduceMod,Int.reduceDiv,Nat.reduceLT,Nat.reduceEqDiff,Sa,Sb,Sc,Sd,Se,Sf,Sg,Int.reduceLE,Int.reduceLT,Int.reduceToNat,Int.reduceNeg,Int.reduceEq,Nat.reduceLeDiff,Nat.reducePow,Int.reducePow,reduceIte,Nat.reduceSub,Nat.reduceAdd,Nat.reduceMul,putAt,ceq,List.replicate, *]))
  all_goals exact Fin_mk (by (repeat' (first | exact Heap.Le.refl _ | (with_reducible refine Le_set2 ?_) | (refine Le_known (by first | (simp only [Heap.set_same, set_ne, ne_eq, not_false_eq_true, *] <;> rfl) | fail) ?_) | (refine Le_fresh (by first | (simp only [*] <;> done) | (simp [set_none', Heap.set_same, set_ne, noneH, *] <;> done) | fail) ?_) | (refine Heap.Le.trans ?_ (Grow.le (by assumption))) | exact Le_none | (refine Le_put ?_ (by first | (simp only [Heap.set_same, set_ne, ne_eq, not_false_eq_true, *] <;> rfl) | fail)) | fail))) h
theorem pg_area {z : LvR} {f : Int} {p : Pc} {S W V X Y P Q : Nat} (g : PG z f p S W V X Y P Q) : IntKind.i64.wrap (p.w * p.h) = ((P * Q : Nat) : Int) ∧ IntKind.i64.wrap (((P * Q : Nat) : Int) * (S : Int)) = ((P * Q * S : Nat) : Int) ∧ P * Q * S ≤ 16384 := by
  have h1 : P * Q ≤ 64 * 64 := Nat.mul_le_mul (by have := g.xw; have := g.wb; omega) (by have := g.yh; have := g.vb; omega)
  have h2 : P * Q * S ≤ 64 * 64 * 4 := Nat.mul_le_mul h1 g.s1.2
  refine ⟨?_, ?_, h2⟩
  · rw [g.pw, g.ph, ← Int.natCast_mul, Bw.1 _ (by omega) (by omega)]
  · rw [← Int.natCast_mul, Bw.1 _ (by omega) (by omega)]
theorem c_Sub_short (x : Im) (hx : ImOk w0 H x) (lv : Int) (p : Pc) (k : Nat) (z : LvR) (f : FindOk x lv p k z) {S W V X Y P Q : Nat} (g : PG z x.f p S W V X Y P Q) (a : Option Addr) (n c : Nat) (hn : n ≠ P * Q * S) (h : K (.tuple #[zIs, .int .i64 7]) H) :
    HCalls Try.prog w0 34 [x.v, .int .i64 lv, p.v, .slice a n c] H K := by
  have cF : ∀ (G : Heap) (K : Value → Heap → Prop), Grow w0 H G → K (.tuple #[.agg #[.int .i64 z.w, .int .i64 z.h, .slice z.a z.l.length z.cap], .int .i64 0]) G → HCalls Try.prog w0 59 [x.v, .int .i64 lv, p.v] G K := fun G K g hk => c_find_ok x (hx.grow g) lv p k z f hk
  have cS := fun (G : Heap) (K : Value → Heap → Prop) => c_pSize (w0 := w0) (H := G) (K := K) x.f
  rw [g.s] at cS
  obtain ⟨t1, t2, -⟩ := pg_area g
  have t3 : ¬ (n : Int) = ((P * Q * S : Nat) : Int) := by omega
  clear hx f g hn
  unfold Im.v Pc.v at *
  refine HL.hc k34 999 ?_; unfold M34
  (all_goals (try simp only [Sq,Sr,Sh,Si,Sl,Bu,Bb,Bd,Bc,Bw,Bn,Int.reduceAdd,Int.reduceSub,Int.reduceMul,Int.reduceTDiv,Int.reduceTMod,Int.reduceMod,Int.reduceDiv,Nat.reduceLT,Nat.reduceEqDiff,Sa,Sb,Sc,Sd,Se,Sf,Sg,Int.reduceLE,Int.reduceLT,Int.reduceToNat,Int.reduceNeg,Int.reduceEq,Nat.reduceLeDiff,Nat.reducePow,Int.reducePow,reduceIte,Nat.reduceSub,Nat.reduceAdd,Nat.reduceMul,putAt,ceq,List.replicate, *])); repeat' ((first | (with_reducible refine fun _ : True => ?_) | refine cF _ _ (by (repeat' (first | exact Grow.refl _ | assumption | (refine Grow_known (by first | (simp only [Heap.set_same, set_ne, ne_eq, not_false_eq_true, *] <;> rfl) | fail) ?_) | (refine Grow.set ?_ (by assumption) (by first | (simp only [*] <;> done) | (simp [set_none', Heap.set_same, set_ne, noneH, *] <;> done) | fail)) | (refine Grow.trans ?_ (by assumption))))) ?_ | refine cS _ _ ?_ | (with_reducible refine any_h ?_) | ((first | refine AllocQ_i ?_ | refine AllocO_i ?_); intro bk hb0 hbk; (try simp only [set_none'] at hbk); (try (first | have hbn := Grow.none (by assumption) hbk | have hbn := Grow.none (by assumption) hbk.2 | have hbn := Grow.none (by assumption) hbk.2.2 | have hbn := Grow.none (by assumption) hbk.2.2.2 | have hbn := Grow.none (by assumption) hbk.2.2.2.2 | have hbn := Grow.none (by assumption) hbk.2.2.2.2.2)); (try simp only [set_none'] at hbn); (try (first | have hbm := Grow.none (by assumption) hbn | have hbm := Grow.none (by assumption) hbn.2 | have hbm := Grow.none (by assumption) hbn.2.2 | have hbm := Grow.none (by assumption) hbn.2.2.2 | have hbm := Grow.none (by assumption) hbn.2.2.2.2 | have hbm := Grow.none (by assumption) hbn.2.2.2.2.2)); (try simp only [set_none'] at hbm)) | ((first | refine condS_i ?_ ?_ | refine pick_i ?_ ?_ | refine gS_it ?_ ?_ | refine gS_if ?_ ?_ | refine gP_it ?_ ?_ | refine gP_if ?_ ?_) <;> (intro hc; try simp only [Int.reduceLE,Int.reduceLT,Int.reduceEq,Sn] at hc)) | (with_reducible refine KP_i ?_ ?_; · (repeat' (first | exact Heap.Le.refl _ | (with_reducible refine Le_set2 ?_) | (refine Le_known (by first | (simp only [Heap.set_same, set_ne, ne_eq, not_false_eq_true, *] <;> rfl) | fail) ?_) | (refine Le_fresh (by first | (simp only [*] <;> done) | (simp [set_none', Heap.set_same, set_ne, noneH, *] <;> done) | fail) ?_) | (refine Heap.Le.trans ?_ (Grow.le (by assumption))) | exact Le_none | (refine Le_put ?_ (by first | (simp only [Heap.set_same, set_ne, ne_eq, not_false_eq_true, *] <;> rfl) | fail)) | fail))) | (with_reducible refine And.intro ?_ ?_)) <;> (try simp only [Sq,Sr,Sh,Si,Sl,Bu,Bb,Bd,Bc,Bw,Bn,Int.reduceAdd,Int.reduceSub,Int.reduceMul,Int.reduceTDiv,Int.reduceTMod,Int.reduceMod,Int.reduceDiv,Nat.reduceLT,Nat.reduceEqDiff,Sa,Sb,Sc,Sd,Se,Sf,Sg,Int.reduceLE,Int.reduceLT,Int.reduceToNat,Int.reduceNeg,Int.reduceEq,Nat.reduceLeDiff,Nat.reducePow,Int.reducePow,reduceIte,Nat.reduceSub,Nat.reduceAdd,Nat.reduceMul,putAt,ceq,List.replicate, *]))
  all_goals exact Fin_mk (by (repeat' (first | exact Heap.Le.refl _ | (with_reducible refine Le_set2 ?_) | (refine Le_known (by first | (simp only [Heap.set_same, set_ne, ne_eq, not_false_eq_true, *] <;> rfl) | fail) ?_) | (refine Le_fresh (by first | (simp only [*] <;> done) | (simp [set_none', Heap.set_same, set_ne, noneH, *] <;> done) | fail) ?_) | (refine Heap.Le.trans ?_ (Grow.le (by assumption))) | exact Le_none | (refine Le_put ?_ (by first | (simp only [Heap.set_same, set_ne, ne_eq, not_false_eq_true, *] <;> rfl) | fail)) | fail))) h
end Go.Proofs.Ytdaipgnhconfnaa
