/- The rows of a piece, by the program (layer 8). -/
import Derived.Test.YtdaipgnhconfnaaIra
set_option linter.unusedSimpArgs false
set_option linter.unusedVariables false
set_option maxRecDepth 100000
set_option maxHeartbeats 4000000
namespace Go.Proofs.Ytdaipgnhconfnaa
open Go Go.HL Go.RowKit Pb
variable {w0 : World} {H G : Heap} {K : Value → Heap → Prop}

/-- The numbers of a piece in a level. -/
structure PG (z : LvR) (f : Int) (p : Pc) (S W V X Y P Q : Nat) : Prop where
  w : z.w = (W : Int)
  h : z.h = (V : Int)
  s : sizeI f = (S : Int)
  s1 : 1 ≤ S ∧ S ≤ 4
  len : z.l.length = W * V * S
  wb : 1 ≤ W ∧ W ≤ 64
  vb : 1 ≤ V ∧ V ≤ 64
  px : p.x = (X : Int)
  py : p.y = (Y : Int)
  pw : p.w = (P : Int)
  ph : p.h = (Q : Int)
  xw : X + P ≤ W
  yh : Y + Q ≤ V
def segA (S W X Y j : Nat) : Nat := ((Y + j) * W + X) * S
theorem pg_of {x : Im} {lv : Int} {p : Pc} {k : Nat} {z : LvR} (f : FindOk x lv p k z) : ∃ S W V X Y P Q, PG z x.f p S W V X Y P Q := by
  obtain ⟨s1, s2, s3⟩ := lv_side f.r f.at_ f.nn
  have hp := (List.getElem?_eq_some_iff.1 f.at_).1
  have hsz : sizeI x.f ≠ 0 := (f.r.2.2.1 _ (List.getElem?_eq_getElem (by omega))).1
  have hs := sizeI_le x.f
  obtain ⟨p1, p2⟩ := f.pc
  unfold inP at p1 p2
  unfold sideP at s1 s2
  refine ⟨(sizeI x.f).toNat, z.w.toNat, z.h.toNat, p.x.toNat, p.y.toNat, p.w.toNat, p.h.toNat, ⟨by omega, by omega, by omega, by omega, ?_, by omega, by omega, by omega, by omega, by omega, by omega, by omega, by omega⟩⟩
  have : (z.l.length : Int) = ((z.w.toNat * z.h.toNat * (sizeI x.f).toNat : Nat) : Int) := by
    rw [s3, Int.natCast_mul, Int.natCast_mul, Int.toNat_of_nonneg (by omega), Int.toNat_of_nonneg (by omega), Int.toNat_of_nonneg (by omega)]
  omega
theorem seg_b {z : LvR} {f : Int} {p : Pc} {S W V X Y P Q : Nat} (g : PG z f p S W V X Y P Q) {j : Nat} (hj : j < Q) : segA S W X Y j + P * S ≤ z.l.length ∧ z.l.length ≤ 16384 ∧ (Y + j) * W ≤ 4096 ∧ (Y + j) * W + X ≤ 4160 ∧ segA S W X Y j ≤ 16640 ∧ P * S ≤ 256 := by
  have h1 : (Y + j + 1) * W ≤ V * W := Nat.mul_le_mul_right _ (by have := g.yh; omega)
  rw [Nat.succ_mul] at h1
  have h2 : (((Y + j) * W + X) + P) * S ≤ (W * V) * S := Nat.mul_le_mul_right _ (by have := g.xw; rw [Nat.mul_comm W V]; omega)
  rw [Nat.add_mul] at h2
  have h3 : V * W ≤ 64 * 64 := Nat.mul_le_mul g.vb.2 g.wb.2
  have h4 : W * V * S ≤ 64 * 64 * 4 := Nat.mul_le_mul (Nat.mul_le_mul g.wb.2 g.vb.2) g.s1.2
  have h5 : P * S ≤ 64 * 4 := Nat.mul_le_mul (by have := g.xw; have := g.wb; omega) g.s1.2
  have hx : X ≤ 64 := by have := g.xw; have := g.wb; omega
  have hl := g.len
  unfold segA
  refine ⟨by omega, by omega, by omega, by omega, ?_, by omega⟩
  exact Nat.le_trans (Nat.mul_le_mul (show (Y + j) * W + X ≤ 4160 by omega) g.s1.2) (by decide)
/- image rows -/
def M60 : MC :=
  .seq (.reg [⟨(some 3), .box 38 (.tmp 0), none⟩,
 ⟨(some 4), .box 49 (.tmp 1), none⟩,
 ⟨(some 5), .box 3 (.tmp 2), none⟩,
 ⟨(some 6), .mv (.const .nilFunc), none⟩])
 (.seq (.reg [⟨(some 7), .fn 72 [(.tmp 4), (.tmp 3), (.tmp 5)], none⟩,
 ⟨(some 6), .mv (.tmp 7), none⟩])
 (.ret))
theorem k60 : fnOk Try.prog 60 = some (M60, [.t 6], 8) := by kernel_rfl
/- image rows 1 -/
def M72 : MC :=
  .seq (.reg [⟨(some 7), .fa 1 (.tmp 1), none⟩,
 ⟨(some 8), .ld1 (.tmp 7), none⟩,
 ⟨(some 5), .mv (.tmp 8), none⟩])
 (.block 0 (.loop (.seq (.seq (.reg [⟨(some 9), .mv (.tmp 5), none⟩,
 ⟨(some 10), .fa 1 (.tmp 1), none⟩,
 ⟨(some 11), .ld1 (.tmp 10), none⟩,
 ⟨(some 12), .fa 3 (.tmp 1), none⟩,
 ⟨(some 13), .ld1 (.tmp 12), none⟩,
 ⟨(some 14), .bin .add (.tmp 11) (.tmp 13), none⟩,
 ⟨(some 15), .bin .lss (.tmp 9) (.tmp 14), none⟩])
 (.cond (.tmp 15)
 (.skip)
 (.exit 0)))
 (.seq (.block 1 (.seq (.reg [⟨(some 18), .mv (.tmp 5), none⟩,
 ⟨(some 19), .fa 0 (.tmp 2), none⟩,
 ⟨(some 20), .ld1 (.tmp 19), none⟩,
 ⟨(some 21), .bin .mul (.tmp 18) (.tmp 20), none⟩,
 ⟨(some 22), .fa 0 (.tmp 1), none⟩,
 ⟨(some 23), .ld1 (.tmp 22), none⟩,
 ⟨(some 24), .bin .add (.tmp 21) (.tmp 23), none⟩,
 ⟨(some 25), .ld1 (.tmp 3), none⟩,
 ⟨(some 26), .bin .mul (.tmp 24) (.tmp 25), none⟩,
 ⟨(some 6), .mv (.tmp 26), none⟩])
 (.seq (.reg [⟨(some 27), .mv (.tmp 0), none⟩,
 ⟨(some 28), .mv (.tmp 6), none⟩,
 ⟨(some 29), .mv (.tmp 6), none⟩,
 ⟨(some 30), .fa 2 (.tmp 1), none⟩,
 ⟨(some 31), .ld1 (.tmp 30), none⟩,
 ⟨(some 32), .ld1 (.tmp 3), none⟩,
 ⟨(some 33), .bin .mul (.tmp 31) (.tmp 32), none⟩,
 ⟨(some 34), .bin .add (.tmp 29) (.tmp 33), none⟩,
 ⟨(some 35), .yv (.tmp 27) [(.tmp 28), (.tmp 34)], none⟩,
 ⟨(some 36), .un .not (.tmp 35), none⟩])
 (.cond (.tmp 36)
 (.ret)
 (.skip)))))
 (.reg [⟨(some 16), .mv (.tmp 5), none⟩,
 ⟨(some 17), .bin .add (.tmp 16) (.const (.int .i64 1)), none⟩,
 ⟨(some 5), .mv (.tmp 17), none⟩])))))
theorem k72 : fnOk Try.prog 72 = some (M72, [], 37) := by kernel_rfl

theorem c_rows (z : LvR) (p : Pc) (S : Int) (h : ∀ bl bp bs, w0.heap.size ≤ bl → w0.heap.size ≤ bp → w0.heap.size ≤ bs → H bl = none → H bp = none → H bs = none → bp ≠ bl → bs ≠ bl → bs ≠ bp →
      K (.func (.func 72) #[] #[.pointer (some ⟨bp, 0, none⟩), .pointer (some ⟨bl, 0, none⟩), .pointer (some ⟨bs, 0, none⟩)]) (((H.set bl ⟨.t 38, [.int .i64 z.w, .int .i64 z.h, .slice z.a z.l.length z.cap]⟩).set bp ⟨.t 49, p.row⟩).set bs ⟨.t 3, [.int .i64 S]⟩)) :
    HCalls Try.prog w0 60 [.agg #[.int .i64 z.w, .int .i64 z.h, .slice z.a z.l.length z.cap], p.v, .int .i64 S] H K := by
  replace h : Keep _ := h
  unfold Pc.v
  unfold Pc.row at h
  refine HL.hc k60 999 ?_; unfold M60
  (all_goals (try simp only [Sq,Sr,Sh,Si,Sl,Bu,Bb,Bd,Bc,Bw,Bn,Int.reduceAdd,Int.reduceSub,Int.reduceMul,Int.reduceTDiv,Int.reduceTMod,Int.reduceMod,Int.reduceDiv,Nat.reduceLT,Nat.reduceEqDiff,Sa,Sb,Sc,Sd,Se,Sf,Sg,Int.reduceLE,Int.reduceLT,Int.reduceToNat,Int.reduceNeg,Int.reduceEq,Nat.reduceLeDiff,Nat.reducePow,Int.reducePow,reduceIte,Nat.reduceSub,Nat.reduceAdd,Nat.reduceMul,putAt,ceq,List.replicate, *])); repeat' ((first | (with_reducible refine fun _ : True => ?_) | (with_reducible refine any_h ?_) | ((first | refine AllocQ_i ?_ | refine AllocO_i ?_); intro bk hb0 hbk; (try simp only [set_none'] at hbk); (try (first | have hbn := Grow.none (by assumption) hbk | have hbn := Grow.none (by assumption) hbk.2 | have hbn := Grow.none (by assumption) hbk.2.2 | have hbn := Grow.none (by assumption) hbk.2.2.2 | have hbn := Grow.none (by assumption) hbk.2.2.2.2 | have hbn := Grow.none (by assumption) hbk.2.2.2.2.2)); (try simp only [set_none'] at hbn); (try (first | have hbm := Grow.none (by assumption) hbn | have hbm := Grow.none (by assumption) hbn.2 | have hbm := Grow.none (by assumption) hbn.2.2 | have hbm := Grow.none (by assumption) hbn.2.2.2 | have hbm := Grow.none (by assumption) hbn.2.2.2.2 | have hbm := Grow.none (by assumption) hbn.2.2.2.2.2)); (try simp only [set_none'] at hbm)) | ((first | refine condS_i ?_ ?_ | refine pick_i ?_ ?_ | refine gS_it ?_ ?_ | refine gS_if ?_ ?_ | refine gP_it ?_ ?_ | refine gP_if ?_ ?_) <;> (intro hc; try simp only [Int.reduceLE,Int.reduceLT,Int.reduceEq,Sn] at hc)) | (with_reducible refine And.intro ?_ ?_)) <;> (try simp only [Sq,Sr,Sh,Si,Sl,Bu,Bb,Bd,Bc,Bw,Bn,Int.reduceAdd,Int.reduceSub,Int.reduceMul,Int.reduceTDiv,Int.reduceTMod,Int.reduceMod,Int.reduceDiv,Nat.reduceLT,Nat.reduceEqDiff,Sa,Sb,Sc,Sd,Se,Sf,Sg,Int.reduceLE,Int.reduceLT,Int.reduceToNat,Int.reduceNeg,Int.reduceEq,Nat.reduceLeDiff,Nat.reducePow,Int.reducePow,reduceIte,Nat.reduceSub,Nat.reduceAdd,Nat.reduceMul,putAt,ceq,List.replicate, *]))
  rename_i bl s1 n1 bp s2 n2
  exact Fin_mk (Heap.Le.refl _) ((show ∀ bl bp bs, _ from h) bl bp bk s1 s2 hb0 n1 n2.2 hbk.2.2 n2.1.1 hbk.2.1.1 hbk.1.1)
theorem c_rows1 {z : LvR} {f : Int} {p : Pc} {S W V X Y P Q : Nat} (g : PG z f p S W V X Y P Q) {bl bp bs ll : Nat} (I : Nat → Heap → Prop)
    (hb : ∀ j F, I j F → F bl = some ⟨.t 38, [.int .i64 z.w, .int .i64 z.h, .slice z.a z.l.length z.cap]⟩ ∧ F bp = some ⟨.t 49, p.row⟩ ∧ F bs = some ⟨.t 3, [.int .i64 (S : Nat)]⟩)
    (h0 : I 0 G)
    (hs : ∀ j F (K' : Value → Heap → Prop), j < Q → I j F → (∀ F', I (j + 1) F' → K' (.bool true) F') → HRound Try.prog w0 ll [.int .i64 (segA S W X Y j : Nat), .int .i64 (segA S W X Y j + P * S : Nat)] F K')
    (h : ∀ F, I Q F → K (.tuple #[]) F) : HCalls Try.prog w0 72 [.func (.yield ll) #[] #[], .pointer (some ⟨bp, 0, none⟩), .pointer (some ⟨bl, 0, none⟩), .pointer (some ⟨bs, 0, none⟩)] G K := by
  have hr : ∀ j F, I j F → rd1 w0 F bl 0 = some (.int .i64 (W : Nat)) ∧ rd1 w0 F bp 0 = some (.int .i64 (X : Nat)) ∧ rd1 w0 F bp 1 = some (.int .i64 (Y : Nat)) ∧ rd1 w0 F bp 2 = some (.int .i64 (P : Nat)) ∧ rd1 w0 F bp 3 = some (.int .i64 (Q : Nat)) ∧ rd1 w0 F bs 0 = some (.int .i64 (S : Nat)) := fun j F hI => by
    obtain ⟨a1, a2, a3⟩ := hb j F hI
    rw [← g.w, ← g.px, ← g.py, ← g.pw, ← g.ph]
    refine ⟨?_, ?_, ?_, ?_, ?_, ?_⟩ <;> unfold rd1
    · rw [a1]; rfl
    · rw [a2]; rfl
    · rw [a2]; rfl
    · rw [a2]; rfl
    · rw [a2]; rfl
    · rw [a3]; rfl
  replace hs : Keep _ := hs
  replace h : Keep _ := h
  replace hr : Keep _ := hr
  clear hb
  obtain ⟨y1, y2, y3, y4, y5, y6⟩ := (show ∀ j F, I j F → _ from hr) 0 G h0
  have g' : Keep _ := g
  clear g
  refine HL.hc k72 999 ?_; unfold M72
  (all_goals (try simp only [Sq,Sr,Sh,Si,Sl,Bu,Bb,Bd,Bc,Bw,Bn,Int.reduceAdd,Int.reduceSub,Int.reduceMul,Int.reduceTDiv,Int.reduceTMod,Int.reduceMod,Int.reduceDiv,Nat.reduceLT,Nat.reduceEqDiff,Sa,Sb,Sc,Sd,Se,Sf,Sg,Int.reduceLE,Int.reduceLT,Int.reduceToNat,Int.reduceNeg,Int.reduceEq,Nat.reduceLeDiff,Nat.reducePow,Int.reducePow,reduceIte,Nat.reduceSub,Nat.reduceAdd,Nat.reduceMul,putAt,ceq,List.replicate, *])); repeat' ((first | (with_reducible refine fun _ : True => ?_) | (with_reducible refine any_h ?_) | ((first | refine AllocQ_i ?_ | refine AllocO_i ?_); intro bk hb0 hbk; (try simp only [set_none'] at hbk); (try (first | have hbn := Grow.none (by assumption) hbk | have hbn := Grow.none (by assumption) hbk.2 | have hbn := Grow.none (by assumption) hbk.2.2 | have hbn := Grow.none (by assumption) hbk.2.2.2 | have hbn := Grow.none (by assumption) hbk.2.2.2.2 | have hbn := Grow.none (by assumption) hbk.2.2.2.2.2)); (try simp only [set_none'] at hbn); (try (first | have hbm := Grow.none (by assumption) hbn | have hbm := Grow.none (by assumption) hbn.2 | have hbm := Grow.none (by assumption) hbn.2.2 | have hbm := Grow.none (by assumption) hbn.2.2.2 | have hbm := Grow.none (by assumption) hbn.2.2.2.2 | have hbm := Grow.none (by assumption) hbn.2.2.2.2.2)); (try simp only [set_none'] at hbm)) | ((first | refine condS_i ?_ ?_ | refine pick_i ?_ ?_ | refine gS_it ?_ ?_ | refine gS_if ?_ ?_ | refine gP_it ?_ ?_ | refine gP_if ?_ ?_) <;> (intro hc; try simp only [Int.reduceLE,Int.reduceLT,Int.reduceEq,Sn] at hc)) | (with_reducible refine And.intro ?_ ?_)) <;> (try simp only [Sq,Sr,Sh,Si,Sl,Bu,Bb,Bd,Bc,Bw,Bn,Int.reduceAdd,Int.reduceSub,Int.reduceMul,Int.reduceTDiv,Int.reduceTMod,Int.reduceMod,Int.reduceDiv,Nat.reduceLT,Nat.reduceEqDiff,Sa,Sb,Sc,Sd,Se,Sf,Sg,Int.reduceLE,Int.reduceLT,Int.reduceToNat,Int.reduceNeg,Int.reduceEq,Nat.reduceLeDiff,Nat.reducePow,Int.reducePow,reduceIte,Nat.reduceSub,Nat.reduceAdd,Nat.reduceMul,putAt,ceq,List.replicate, *]))
  clear y1 y2 y3 y4 y5 y6
  refine loop_g 7 (fun s : Nat × Value × Heap => [(5, .int .i64 ((Y + s.1 : Nat) : Int)), (6, s.2.1)]) (fun s => s.2.2) (fun s => s.1 ≤ Q ∧ I s.1 s.2.2) (fun s => Q - s.1) (0, undef, G) ⟨Nat.zero_le _, h0⟩ (Heap.Le.refl _) rfl ?_
  clear h0
  intro ⟨j, v6, F⟩ U ⟨hj, hI⟩
  simp only at hj hI
  obtain ⟨y1, y2, y3, y4, y5, y6⟩ := (show ∀ j F, I j F → _ from hr) j F hI
  have g := (show PG z f p S W V X Y P Q from g')
  have gy := g.yh
  have gx := g.xw
  have gv := g.vb
  have gw := g.wb
  have t1 : IntKind.i64.wrap ((Y : Int) + (Q : Int)) = ((Y + Q : Nat) : Int) := by rw [Bw.1 _ (by omega) (by omega)]; omega
  rcases Nat.lt_or_ge j Q with hlt | hge
  · obtain ⟨b1, b2, b3, b4, b5, b6⟩ := seg_b g hlt
    have t2 : ((Y + j : Nat) : Int) < ((Y + Q : Nat) : Int) := by omega
    have t3 : IntKind.i64.wrap (((Y + j : Nat) : Int) * (W : Int)) = (((Y + j) * W : Nat) : Int) := by rw [← Int.natCast_mul, Bw.1 _ (by omega) (by omega)]
    have t4 : IntKind.i64.wrap ((((Y + j) * W : Nat) : Int) + (X : Int)) = (((Y + j) * W + X : Nat) : Int) := by rw [← Int.natCast_add, Bw.1 _ (by omega) (by omega)]
    have t5 : IntKind.i64.wrap ((((Y + j) * W + X : Nat) : Int) * (S : Int)) = ((segA S W X Y j : Nat) : Int) := by
      rw [← Int.natCast_mul]
      show IntKind.i64.wrap ((segA S W X Y j : Nat) : Int) = _
      rw [Bw.1 _ (by omega) (by omega)]
    have t6 : IntKind.i64.wrap ((P : Int) * (S : Int)) = ((P * S : Nat) : Int) := by rw [← Int.natCast_mul, Bw.1 _ (by omega) (by omega)]
    have t7 : IntKind.i64.wrap (((segA S W X Y j : Nat) : Int) + ((P * S : Nat) : Int)) = ((segA S W X Y j + P * S : Nat) : Int) := by rw [← Int.natCast_add, Bw.1 _ (by omega) (by omega)]
    have t8 : IntKind.i64.wrap (((Y + j : Nat) : Int) + 1) = ((Y + (j + 1) : Nat) : Int) := by rw [Bw.1 _ (by omega) (by omega)]; omega
    clear b1 b2 b3 b4 b5 b6 gy gx gv gw g
    (all_goals (try simp only [Sq,Sr,Sh,Si,Sl,Bu,Bb,Bd,Bc,Bw,Bn,Int.reduceAdd,Int.reduceSub,Int.reduceMul,Int.reduceTDiv,Int.reduceTMod,Int.reduceMod,Int.reduceDiv,Nat.reduceLT,Nat.reduceEqDiff,Sa,Sb,Sc,Sd,Se,Sf,Sg,Int.reduceLE,Int.reduceLT,Int.reduceToNat,Int.reduceNeg,Int.reduceEq,Nat.reduceLeDiff,Nat.reducePow,Int.reducePow,reduceIte,Nat.reduceSub,Nat.reduceAdd,Nat.reduceMul,putAt,ceq,List.replicate, *])); repeat' ((first | (with_reducible refine fun _ : True => ?_) | refine hs _ _ _ hlt hI (fun F' hI' => ?_)  | (with_reducible refine any_h ?_) | ((first | refine AllocQ_i ?_ | refine AllocO_i ?_); intro bk hb0 hbk; (try simp only [set_none'] at hbk); (try (first | have hbn := Grow.none (by assumption) hbk | have hbn := Grow.none (by assumption) hbk.2 | have hbn := Grow.none (by assumption) hbk.2.2 | have hbn := Grow.none (by assumption) hbk.2.2.2 | have hbn := Grow.none (by assumption) hbk.2.2.2.2 | have hbn := Grow.none (by assumption) hbk.2.2.2.2.2)); (try simp only [set_none'] at hbn); (try (first | have hbm := Grow.none (by assumption) hbn | have hbm := Grow.none (by assumption) hbn.2 | have hbm := Grow.none (by assumption) hbn.2.2 | have hbm := Grow.none (by assumption) hbn.2.2.2 | have hbm := Grow.none (by assumption) hbn.2.2.2.2 | have hbm := Grow.none (by assumption) hbn.2.2.2.2.2)); (try simp only [set_none'] at hbm)) | ((first | refine condS_i ?_ ?_ | refine pick_i ?_ ?_ | refine gS_it ?_ ?_ | refine gS_if ?_ ?_ | refine gP_it ?_ ?_ | refine gP_if ?_ ?_) <;> (intro hc; try simp only [Int.reduceLE,Int.reduceLT,Int.reduceEq,Sn] at hc)) | (with_reducible refine And.intro ?_ ?_)) <;> (try simp only [Sq,Sr,Sh,Si,Sl,Bu,Bb,Bd,Bc,Bw,Bn,Int.reduceAdd,Int.reduceSub,Int.reduceMul,Int.reduceTDiv,Int.reduceTMod,Int.reduceMod,Int.reduceDiv,Nat.reduceLT,Nat.reduceEqDiff,Sa,Sb,Sc,Sd,Se,Sf,Sg,Int.reduceLE,Int.reduceLT,Int.reduceToNat,Int.reduceNeg,Int.reduceEq,Nat.reduceLeDiff,Nat.reducePow,Int.reducePow,reduceIte,Nat.reduceSub,Nat.reduceAdd,Nat.reduceMul,putAt,ceq,List.replicate, *]))
    exact Round_mk (j + 1, _, F') ⟨hlt, hI'⟩ (by simp only; omega) (Heap.Le.refl _) rfl rfl
  · obtain rfl : j = Q := by omega
    have t2 : ¬ ((Y + j : Nat) : Int) < ((Y + j : Nat) : Int) := by omega
    clear gy gx gv gw g
    (all_goals (try simp only [Sq,Sr,Sh,Si,Sl,Bu,Bb,Bd,Bc,Bw,Bn,Int.reduceAdd,Int.reduceSub,Int.reduceMul,Int.reduceTDiv,Int.reduceTMod,Int.reduceMod,Int.reduceDiv,Nat.reduceLT,Nat.reduceEqDiff,Sa,Sb,Sc,Sd,Se,Sf,Sg,Int.reduceLE,Int.reduceLT,Int.reduceToNat,Int.reduceNeg,Int.reduceEq,Nat.reduceLeDiff,Nat.reducePow,Int.reducePow,reduceIte,Nat.reduceSub,Nat.reduceAdd,Nat.reduceMul,putAt,ceq,List.replicate, *])); repeat' ((first | (with_reducible refine fun _ : True => ?_) | (with_reducible refine any_h ?_) | ((first | refine AllocQ_i ?_ | refine AllocO_i ?_); intro bk hb0 hbk; (try simp only [set_none'] at hbk); (try (first | have hbn := Grow.none (by assumption) hbk | have hbn := Grow.none (by assumption) hbk.2 | have hbn := Grow.none (by assumption) hbk.2.2 | have hbn := Grow.none (by assumption) hbk.2.2.2 | have hbn := Grow.none (by assumption) hbk.2.2.2.2 | have hbn := Grow.none (by assumption) hbk.2.2.2.2.2)); (try simp only [set_none'] at hbn); (try (first | have hbm := Grow.none (by assumption) hbn | have hbm := Grow.none (by assumption) hbn.2 | have hbm := Grow.none (by assumption) hbn.2.2 | have hbm := Grow.none (by assumption) hbn.2.2.2 | have hbm := Grow.none (by assumption) hbn.2.2.2.2 | have hbm := Grow.none (by assumption) hbn.2.2.2.2.2)); (try simp only [set_none'] at hbm)) | ((first | refine condS_i ?_ ?_ | refine pick_i ?_ ?_ | refine gS_it ?_ ?_ | refine gS_if ?_ ?_ | refine gP_it ?_ ?_ | refine gP_if ?_ ?_) <;> (intro hc; try simp only [Int.reduceLE,Int.reduceLT,Int.reduceEq,Sn] at hc)) | (with_reducible refine And.intro ?_ ?_)) <;> (try simp only [Sq,Sr,Sh,Si,Sl,Bu,Bb,Bd,Bc,Bw,Bn,Int.reduceAdd,Int.reduceSub,Int.reduceMul,Int.reduceTDiv,Int.reduceTMod,Int.reduceMod,Int.reduceDiv,Nat.reduceLT,Nat.reduceEqDiff,Sa,Sb,Sc,Sd,Se,Sf,Sg,Int.reduceLE,Int.reduceLT,Int.reduceToNat,Int.reduceNeg,Int.reduceEq,Nat.reduceLeDiff,Nat.reducePow,Int.reducePow,reduceIte,Nat.reduceSub,Nat.reduceAdd,Nat.reduceMul,putAt,ceq,List.replicate, *]))
    exact Fin_mk (Heap.Le.refl _) ((show ∀ F, _ from h) _ hI)
end Go.Proofs.Ytdaipgnhconfnaa
