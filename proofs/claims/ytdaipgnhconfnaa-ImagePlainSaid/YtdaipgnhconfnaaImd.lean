/- An image, copied as the document says (layer 8). -/
import Derived.Test.YtdaipgnhconfnaaImc
set_option linter.unusedSimpArgs false
set_option linter.unusedVariables false
set_option maxRecDepth 100000
set_option maxHeartbeats 4000000
namespace Go.Proofs.Ytdaipgnhconfnaa
open Go.HL Go.RowKit Pb
variable {w0 : World} {H : Heap} {K : Value → Heap → Prop}

def LvR.core (x : LvR) : Int × Int × List Int := (x.w, x.h, x.l)
/-- The same image, in other memory. -/
structure Im.Eqv (x y : Im) : Prop where
  f : y.f = x.f
  s : y.s = x.s
  t : y.t = x.t
  mn : y.mn = x.mn
  mg : y.mg = x.mg
  ls : y.ls.map LvR.core = x.ls.map LvR.core
/-- A level in memory of the call's own. -/
structure LvC (W : World) (H G : Heap) (x : LvR) : Prop where
  bld : Bld W H G x.a x.cap 1 5 (x.l.map fun b => .int .u8 b)
  lm : x.l.length ≤ maxLen
  lr : x.l.length ≤ 140737488355328
  w : I64 x.w
  h : I64 x.h
  by_ : ∀ b ∈ x.l, 0 ≤ b ∧ b ≤ 255
theorem LvC.ok {W : World} {G : Heap} {x : LvR} (h : LvC W H G x) : LvOk W G x := ⟨SlAt.toInts h.bld.slAt, by have := h.bld.le; simpa using this, h.lm, h.lr, h.w, h.h, h.by_⟩
theorem LvC.turn {W : World} {H G : Heap} {x : LvR} (h : LvC W H G x) {b : Nat} {z y : Blk} (hb : G b = some y) (hne : 5 ≠ y.ty) : LvC W H (G.set b z) x := ⟨h.bld.turn hb hne, h.lm, h.lr, h.w, h.h, h.by_⟩
theorem LvC.base {W : World} {H0 H G : Heap} {x : LvR} (h : LvC W H G x) (g : Grow W H0 H) : LvC W H0 G x := ⟨h.bld.base g, h.lm, h.lr, h.w, h.h, h.by_⟩
/-- An image in memory of the call's own. -/
structure ImC (W : World) (H G : Heap) (x : Im) : Prop where
  bld : Bld W H G x.a x.cap 3 38 (x.ls.map LvR.row).flatten
  lv : ∀ y ∈ x.ls, LvC W H G y
  lm : x.ls.length ≤ maxLen
  lr : x.ls.length * 40 ≤ 140737488355328
  f : I64 x.f
  s : I64 x.s
  t : I64 x.t
  mn : I64 x.mn
  mg : I64 x.mg
theorem rows_len (ls : List LvR) : (ls.map LvR.row).flatten.length = ls.length * 3 := by
  rw [flat_len (sz := 3) _ (fun r hr => by obtain ⟨z, -, rfl⟩ := List.mem_map.1 hr; rfl), List.length_map]
theorem ImC.ok {W : World} {H G : Heap} {x : Im} (h : ImC W H G x) : ImOk W G x :=
  ⟨h.bld.slAt, fun y hy => (h.lv y hy).ok, by have := h.bld.le; rw [rows_len] at this; omega, h.lm, h.lr, h.f, h.s, h.t, h.mn, h.mg⟩
/- paintboxref08 Copy -/
def M14 : MC :=
  .seq (.reg [⟨(some 1), .box 24 (.tmp 0), none⟩,
 ⟨(some 2), .alloc 24 [(.int .i64 0), (.slice none 0 0), (.int .i64 0), (.int .i64 0), (.int .i64 0), (.int .i64 0)], none⟩])
 (.seq (.reg [⟨(some 3), .mv (.const (.slice none 0 0)), none⟩])
 (.seq (.seq (.reg [⟨(some 6), .fa 1 (.tmp 1), none⟩,
 ⟨(some 7), .ld1 (.tmp 6), none⟩,
 ⟨(some 8), .len (.tmp 7), none⟩,
 ⟨(some 9), .mv (.const (.int .i64 0)), none⟩])
 (.block 0 (.loop (.seq (.reg [⟨(some 10), .bin .lss (.tmp 9) (.tmp 8), none⟩])
 (.seq (.cond (.tmp 10)
 (.skip)
 (.exit 0))
 (.seq (.block 1 (.seq (.reg [⟨(some 11), .is 3 (.tmp 7) (.tmp 9), none⟩,
 ⟨(some 12), .ldn 3 (.tmp 11), none⟩,
 ⟨(some 5), .alloc 38 [(.int .i64 0), (.int .i64 0), (.slice none 0 0)], none⟩,
 ⟨none, .stn 3 (.tmp 5) (.tmp 12), none⟩])
 (.seq (.reg [⟨(some 13), .bslice 5 0 [] [], none⟩,
 ⟨(some 14), .fa 2 (.tmp 5), none⟩,
 ⟨(some 15), .ld1 (.tmp 14), none⟩,
 ⟨(some 16), .app 5 1 1 [(.int .u8 0)] (.tmp 13) (.tmp 15), none⟩,
 ⟨(some 17), .fa 2 (.tmp 5), none⟩,
 ⟨none, .st1 (.tmp 17) (.tmp 16), none⟩])
 (.reg [⟨(some 18), .mv (.tmp 3), none⟩,
 ⟨(some 19), .ldn 3 (.tmp 5), none⟩,
 ⟨(some 20), .bslice 38 1 [(.int .i64 0), (.int .i64 0), (.slice none 0 0)] [(0, 3, (.tmp 19))], none⟩,
 ⟨(some 21), .app 38 3 40 [(.int .i64 0), (.int .i64 0), (.slice none 0 0)] (.tmp 18) (.tmp 20), none⟩,
 ⟨(some 3), .mv (.tmp 21), none⟩]))))
 (.reg [⟨(some 22), .bin .add (.tmp 9) (.const (.int .i64 1)), none⟩,
 ⟨(some 9), .mv (.tmp 22), none⟩])))))))
 (.seq (.reg [⟨(some 23), .mv (.tmp 3), none⟩,
 ⟨(some 24), .fa 1 (.tmp 1), none⟩,
 ⟨none, .st1 (.tmp 24) (.tmp 23), none⟩])
 (.seq (.reg [⟨(some 25), .ldn 6 (.tmp 1), none⟩,
 ⟨none, .stn 6 (.tmp 2) (.tmp 25), none⟩])
 (.ret)))))
theorem k14 : fnOk Try.prog 14 = some (M14, [.cn 6 2], 26) := by kernel_rfl

theorem r_Copy (x : Im) (hx : ImOk w0 H x) (h : ∀ y H', Im.Eqv x y → ImC w0 H H' y → Grow w0 H H' → K y.v H') : HCalls Try.prog w0 14 [x.v] H K := by
  have hlen := hx.lm
  unfold Im.v at h ⊢
  refine HL.hc k14 999 ?_; unfold M14
  (all_goals (try simp only [Sq,Sr,Sh,Si,Sl,Bu,Bb,Bd,Bc,Bw,Bn,Int.reduceAdd,Int.reduceSub,Int.reduceMul,Int.reduceTDiv,Int.reduceTMod,Int.reduceMod,Int.reduceDiv,Nat.reduceLT,Nat.reduceEqDiff,Sa,Sb,Sc,Sd,Se,Sf,Sg,Int.reduceLE,Int.reduceLT,Int.reduceToNat,Int.reduceNeg,Int.reduceEq,Nat.reduceLeDiff,Nat.reducePow,Int.reducePow,reduceIte,Nat.reduceSub,Nat.reduceAdd,Nat.reduceMul,putAt,ceq,List.replicate, *])); repeat' ((first | (with_reducible refine fun _ : True => ?_) | (with_reducible refine any_h ?_) | ((first | refine AllocQ_i ?_ | refine AllocO_i ?_); intro bk hb0 hbk; try simp only [set_none'] at hbk) | ((first | refine condS_i ?_ ?_ | refine pick_i ?_ ?_ | refine gS_it ?_ ?_ | refine gS_if ?_ ?_ | refine gP_it ?_ ?_ | refine gP_if ?_ ?_) <;> (intro hc; try simp only [Int.reduceLE,Int.reduceLT,Int.reduceEq,Sn] at hc)) | (with_reducible refine KP_i ?_ ?_; · (repeat' (first | exact Heap.Le.refl _ | (refine Le_fresh (by first | exact (by simp only [*]) | exact (by simp [set_none', *])) ?_) | (refine Heap.Le.trans ?_ (Grow.le (by assumption)))))) | (with_reducible refine And.intro ?_ ?_)) <;> (try simp only [Sq,Sr,Sh,Si,Sl,Bu,Bb,Bd,Bc,Bw,Bn,Int.reduceAdd,Int.reduceSub,Int.reduceMul,Int.reduceTDiv,Int.reduceTMod,Int.reduceMod,Int.reduceDiv,Nat.reduceLT,Nat.reduceEqDiff,Sa,Sb,Sc,Sd,Se,Sf,Sg,Int.reduceLE,Int.reduceLT,Int.reduceToNat,Int.reduceNeg,Int.reduceEq,Nat.reduceLeDiff,Nat.reducePow,Int.reducePow,reduceIte,Nat.reduceSub,Nat.reduceAdd,Nat.reduceMul,putAt,ceq,List.replicate, *]))
  rename_i b1 p1 q1
  refine loopq_heap (fun H0 eH0 => ?_)
  have kb1 := at_of eH0 (b := b1) (by simp only [Heap.set_same, set_ne, ne_eq, not_false_eq_true, *] <;> rfl)
  have kb2 := at_of eH0 (b := bk) (by simp only [Heap.set_same, set_ne, ne_eq, not_false_eq_true, *] <;> rfl)
  have g0 : Grow w0 H H0 := by rw [eH0]; exact (by (repeat' (first | exact Grow.refl _ | assumption | (refine Grow.set ?_ (by assumption) (by first | exact (by simp only [*]) | exact (by simp [set_none', *]) | exact Grow.none (by assumption) (by simp [set_none', *]))) | (refine Grow.trans ?_ (by assumption)))))
  clear eH0
  refine loop_g 10 (fun s : Nat × Value × Option Addr × Nat × List LvR × Heap => [(3, .slice s.2.2.1 s.2.2.2.2.1.length s.2.2.2.1), (5, s.2.1), (9, .int .i64 (s.1 : Nat))]) (fun s => s.2.2.2.2.2)
    (fun s => s.1 ≤ x.ls.length ∧ s.2.2.2.2.1.map LvR.core = (x.ls.take s.1).map LvR.core ∧ Bld w0 H0 s.2.2.2.2.2 s.2.2.1 s.2.2.2.1 3 38 (s.2.2.2.2.1.map LvR.row).flatten ∧ (∀ y ∈ s.2.2.2.2.1, LvC w0 H0 s.2.2.2.2.2 y) ∧ Grow w0 H0 s.2.2.2.2.2)
    (fun s => x.ls.length - s.1) (0, undef, none, 0, [], H0) ⟨Nat.zero_le _, rfl, Bld.none, by simp, Grow.refl _⟩ (Heap.Le.refl _) rfl ?_
  intro ⟨k, u, a, cap, ys, G⟩ g ⟨hk, hc, hB, hok, hG⟩
  simp only at hk hc hB hok hG
  have kc1 := hG.some kb1
  have kc2 := hG.some kb2
  have hyl : ys.length = k := by
    have := congrArg List.length hc
    simp at this; omega
  have gHG : Grow w0 H G := g0.trans hG
  have hfl : (ys.map LvR.row).flatten.length = k * 3 := by rw [flat_len (sz := 3) _ (fun r hr => by obtain ⟨z, -, rfl⟩ := List.mem_map.1 hr; rfl), List.length_map, hyl]
  rcases Nat.lt_or_ge k x.ls.length with hlt | hge
  · obtain ⟨z, ez⟩ : ∃ y, x.ls[k]? = some y := ⟨_, List.getElem?_eq_getElem hlt⟩
    have hm : z ∈ x.ls := List.mem_of_getElem? ez
    have hz := hx.lv z hm
    obtain ⟨b, o, ea, hr, hf⟩ := im_row (hx.grow gHG) ez
    have t0 : (k : Int) < (x.ls.length : Int) := by omega
    have t6 : IntKind.i64.wrap ((k : Int) + 1) = (k : Int) + 1 := Bw.1 _ (by omega) (by unfold maxLen at hlen; omega)
    rw [ea]
    (all_goals (try simp only [Sq,Sr,Sh,Si,Sl,Bu,Bb,Bd,Bc,Bw,Bn,Int.reduceAdd,Int.reduceSub,Int.reduceMul,Int.reduceTDiv,Int.reduceTMod,Int.reduceMod,Int.reduceDiv,Nat.reduceLT,Nat.reduceEqDiff,Sa,Sb,Sc,Sd,Se,Sf,Sg,Int.reduceLE,Int.reduceLT,Int.reduceToNat,Int.reduceNeg,Int.reduceEq,Nat.reduceLeDiff,Nat.reducePow,Int.reducePow,reduceIte,Nat.reduceSub,Nat.reduceAdd,Nat.reduceMul,putAt,ceq,List.replicate, *])); repeat' ((first | (with_reducible refine fun _ : True => ?_) | (with_reducible refine any_h ?_) | ((first | refine AllocQ_i ?_ | refine AllocO_i ?_); intro bk hb0 hbk; try simp only [set_none'] at hbk) | ((first | refine condS_i ?_ ?_ | refine pick_i ?_ ?_ | refine gS_it ?_ ?_ | refine gS_if ?_ ?_ | refine gP_it ?_ ?_ | refine gP_if ?_ ?_) <;> (intro hc; try simp only [Int.reduceLE,Int.reduceLT,Int.reduceEq,Sn] at hc)) | (with_reducible refine KP_i ?_ ?_; · (repeat' (first | exact Heap.Le.refl _ | (refine Le_fresh (by first | exact (by simp only [*]) | exact (by simp [set_none', *])) ?_) | (refine Heap.Le.trans ?_ (Grow.le (by assumption)))))) | (with_reducible refine And.intro ?_ ?_)) <;> (try simp only [Sq,Sr,Sh,Si,Sl,Bu,Bb,Bd,Bc,Bw,Bn,Int.reduceAdd,Int.reduceSub,Int.reduceMul,Int.reduceTDiv,Int.reduceTMod,Int.reduceMod,Int.reduceDiv,Nat.reduceLT,Nat.reduceEqDiff,Sa,Sb,Sc,Sd,Se,Sf,Sg,Int.reduceLE,Int.reduceLT,Int.reduceToNat,Int.reduceNeg,Int.reduceEq,Nat.reduceLeDiff,Nat.reducePow,Int.reducePow,reduceIte,Nat.reduceSub,Nat.reduceAdd,Nat.reduceMul,putAt,ceq,List.replicate, *]))
    rename_i b5 p5 q5
    refine app_clone (IntsAt.grow hz.at_ (gHG.trans (by (repeat' (first | exact Grow.refl _ | assumption | (refine Grow.set ?_ (by assumption) (by first | exact (by simp only [*]) | exact (by simp [set_none', *]) | exact Grow.none (by assumption) (by simp [set_none', *]))) | (refine Grow.trans ?_ (by assumption))))))) ⟨by have := hz.lr; omega, by have := hz.lr; omega⟩ (fun a' cap' G' hI hlc hg' => ?_)
    have k5 := hg'.some (b := b5) (by simp only [Heap.set_same, set_ne, ne_eq, not_false_eq_true, *] <;> rfl)
    have gG' : Grow w0 G G' := Grow.trans (by (repeat' (first | exact Grow.refl _ | assumption | (refine Grow.set ?_ (by assumption) (by first | exact (by simp only [*]) | exact (by simp [set_none', *]) | exact Grow.none (by assumption) (by simp [set_none', *]))) | (refine Grow.trans ?_ (by assumption))))) hg'
    rw [(Heap.set_id G' b5 _ k5).symm]
    (all_goals (try simp only [Sq,Sr,Sh,Si,Sl,Bu,Bb,Bd,Bc,Bw,Bn,Int.reduceAdd,Int.reduceSub,Int.reduceMul,Int.reduceTDiv,Int.reduceTMod,Int.reduceMod,Int.reduceDiv,Nat.reduceLT,Nat.reduceEqDiff,Sa,Sb,Sc,Sd,Se,Sf,Sg,Int.reduceLE,Int.reduceLT,Int.reduceToNat,Int.reduceNeg,Int.reduceEq,Nat.reduceLeDiff,Nat.reducePow,Int.reducePow,reduceIte,Nat.reduceSub,Nat.reduceAdd,Nat.reduceMul,putAt,ceq,List.replicate, *])); repeat' ((first | (with_reducible refine fun _ : True => ?_) | (with_reducible refine any_h ?_) | ((first | refine AllocQ_i ?_ | refine AllocO_i ?_); intro bk hb0 hbk; try simp only [set_none'] at hbk) | ((first | refine condS_i ?_ ?_ | refine pick_i ?_ ?_ | refine gS_it ?_ ?_ | refine gS_if ?_ ?_ | refine gP_it ?_ ?_ | refine gP_if ?_ ?_) <;> (intro hc; try simp only [Int.reduceLE,Int.reduceLT,Int.reduceEq,Sn] at hc)) | (with_reducible refine KP_i ?_ ?_; · (repeat' (first | exact Heap.Le.refl _ | (refine Le_fresh (by first | exact (by simp only [*]) | exact (by simp [set_none', *])) ?_) | (refine Heap.Le.trans ?_ (Grow.le (by assumption)))))) | (with_reducible refine And.intro ?_ ?_)) <;> (try simp only [Sq,Sr,Sh,Si,Sl,Bu,Bb,Bd,Bc,Bw,Bn,Int.reduceAdd,Int.reduceSub,Int.reduceMul,Int.reduceTDiv,Int.reduceTMod,Int.reduceMod,Int.reduceDiv,Nat.reduceLT,Nat.reduceEqDiff,Sa,Sb,Sc,Sd,Se,Sf,Sg,Int.reduceLE,Int.reduceLT,Int.reduceToNat,Int.reduceNeg,Int.reduceEq,Nat.reduceLeDiff,Nat.reducePow,Int.reducePow,reduceIte,Nat.reduceSub,Nat.reduceAdd,Nat.reduceMul,putAt,ceq,List.replicate, *]))
    have hc1 : k + 1 ≤ x.ls.length := hlt
    have hl9 := hx.lr
    have tk : x.ls.take (k + 1) = x.ls.take k ++ [z] := by rw [List.take_add_one, ez]; rfl
    refine app_bld (hB.grow (by (repeat' (first | exact Grow.refl _ | assumption | (refine Grow.set ?_ (by assumption) (by first | exact (by simp only [*]) | exact (by simp [set_none', *]) | exact Grow.none (by assumption) (by simp [set_none', *]))) | (refine Grow.trans ?_ (by assumption)))))) hfl rfl (srd_blk (Heap.set_same _ _ _) (by rfl)) (by rfl) (hG.trans (by (repeat' (first | exact Grow.refl _ | assumption | (refine Grow.set ?_ (by assumption) (by first | exact (by simp only [*]) | exact (by simp [set_none', *]) | exact Grow.none (by assumption) (by simp [set_none', *]))) | (refine Grow.trans ?_ (by assumption)))))) ⟨by omega, by unfold maxLen at hlen; omega⟩ (by rfl) (fun a2 cap2 G2 hB2 hg2 hk2 hc2 => ?_)
    have hl1 : (ys ++ [(⟨z.w, z.h, a', cap', z.l⟩ : LvR)]).length = k + 1 := by simp [hyl]
    have hnew : LvC w0 H0 G2 ⟨z.w, z.h, a', cap', z.l⟩ := by
      exact ⟨(((hI.base (hG.trans (by (repeat' (first | exact Grow.refl _ | assumption | (refine Grow.set ?_ (by assumption) (by first | exact (by simp only [*]) | exact (by simp [set_none', *]) | exact Grow.none (by assumption) (by simp [set_none', *]))) | (refine Grow.trans ?_ (by assumption))))))).turn k5 (by simp)).grow (by (repeat' (first | exact Grow.refl _ | assumption | (refine Grow.set ?_ (by assumption) (by first | exact (by simp only [*]) | exact (by simp [set_none', *]) | exact Grow.none (by assumption) (by simp [set_none', *]))) | (refine Grow.trans ?_ (by assumption)))))).stay (ty' := 38) (by decide) hk2, hz.lm, hz.lr, hz.w, hz.h, hz.by_⟩
    have hold : ∀ y ∈ ys, LvC w0 H0 G2 y := fun y hy => by
      have h0 := hok y hy
      exact ⟨(h0.bld.grow (by (repeat' (first | exact Grow.refl _ | assumption | (refine Grow.set ?_ (by assumption) (by first | exact (by simp only [*]) | exact (by simp [set_none', *]) | exact Grow.none (by assumption) (by simp [set_none', *]))) | (refine Grow.trans ?_ (by assumption)))))).stay (by decide) hk2, h0.lm, h0.lr, h0.w, h0.h, h0.by_⟩
    (all_goals (try simp only [Sq,Sr,Sh,Si,Sl,Bu,Bb,Bd,Bc,Bw,Bn,Int.reduceAdd,Int.reduceSub,Int.reduceMul,Int.reduceTDiv,Int.reduceTMod,Int.reduceMod,Int.reduceDiv,Nat.reduceLT,Nat.reduceEqDiff,Sa,Sb,Sc,Sd,Se,Sf,Sg,Int.reduceLE,Int.reduceLT,Int.reduceToNat,Int.reduceNeg,Int.reduceEq,Nat.reduceLeDiff,Nat.reducePow,Int.reducePow,reduceIte,Nat.reduceSub,Nat.reduceAdd,Nat.reduceMul,putAt,ceq,List.replicate, *])); repeat' ((first | (with_reducible refine fun _ : True => ?_) | (with_reducible refine any_h ?_) | ((first | refine AllocQ_i ?_ | refine AllocO_i ?_); intro bk hb0 hbk; try simp only [set_none'] at hbk) | ((first | refine condS_i ?_ ?_ | refine pick_i ?_ ?_ | refine gS_it ?_ ?_ | refine gS_if ?_ ?_ | refine gP_it ?_ ?_ | refine gP_if ?_ ?_) <;> (intro hc; try simp only [Int.reduceLE,Int.reduceLT,Int.reduceEq,Sn] at hc)) | (with_reducible refine KP_i ?_ ?_; · (repeat' (first | exact Heap.Le.refl _ | (refine Le_fresh (by first | exact (by simp only [*]) | exact (by simp [set_none', *])) ?_) | (refine Heap.Le.trans ?_ (Grow.le (by assumption)))))) | (with_reducible refine And.intro ?_ ?_)) <;> (try simp only [Sq,Sr,Sh,Si,Sl,Bu,Bb,Bd,Bc,Bw,Bn,Int.reduceAdd,Int.reduceSub,Int.reduceMul,Int.reduceTDiv,Int.reduceTMod,Int.reduceMod,Int.reduceDiv,Nat.reduceLT,Nat.reduceEqDiff,Sa,Sb,Sc,Sd,Se,Sf,Sg,Int.reduceLE,Int.reduceLT,Int.reduceToNat,Int.reduceNeg,Int.reduceEq,Nat.reduceLeDiff,Nat.reducePow,Int.reducePow,reduceIte,Nat.reduceSub,Nat.reduceAdd,Nat.reduceMul,putAt,ceq,List.replicate, *]))
    refine Round_mk (k + 1, _, a2, cap2, ys ++ [(⟨z.w, z.h, a', cap', z.l⟩ : LvR)], G2) ⟨hc1, ?_, ?_, ?_, hg2⟩ (by simp only; omega) (Heap.Le.refl _) (by simp only [hl1]; rfl) rfl
    · simp only
      rw [List.map_append, hc, tk, List.map_append]; rfl
    · simpa [LvR.row] using hB2
    · intro y hy
      rcases List.mem_append.1 hy with h' | h'
      · exact hold y h'
      · rw [List.mem_singleton.1 h']; exact hnew
  · obtain rfl : x.ls.length = k := by omega
    have t0 : ¬ ((x.ls.length : Nat) : Int) < ((x.ls.length : Nat) : Int) := by omega
    rw [root2 hbk.1.2 kc1 kc2]
    (all_goals (try simp only [Sq,Sr,Sh,Si,Sl,Bu,Bb,Bd,Bc,Bw,Bn,Int.reduceAdd,Int.reduceSub,Int.reduceMul,Int.reduceTDiv,Int.reduceTMod,Int.reduceMod,Int.reduceDiv,Nat.reduceLT,Nat.reduceEqDiff,Sa,Sb,Sc,Sd,Se,Sf,Sg,Int.reduceLE,Int.reduceLT,Int.reduceToNat,Int.reduceNeg,Int.reduceEq,Nat.reduceLeDiff,Nat.reducePow,Int.reducePow,reduceIte,Nat.reduceSub,Nat.reduceAdd,Nat.reduceMul,putAt,ceq,List.replicate, *])); repeat' ((first | (with_reducible refine fun _ : True => ?_) | (with_reducible refine any_h ?_) | ((first | refine AllocQ_i ?_ | refine AllocO_i ?_); intro bk hb0 hbk; try simp only [set_none'] at hbk) | ((first | refine condS_i ?_ ?_ | refine pick_i ?_ ?_ | refine gS_it ?_ ?_ | refine gS_if ?_ ?_ | refine gP_it ?_ ?_ | refine gP_if ?_ ?_) <;> (intro hc; try simp only [Int.reduceLE,Int.reduceLT,Int.reduceEq,Sn] at hc)) | (with_reducible refine KP_i ?_ ?_; · (repeat' (first | exact Heap.Le.refl _ | (refine Le_fresh (by first | exact (by simp only [*]) | exact (by simp [set_none', *])) ?_) | (refine Heap.Le.trans ?_ (Grow.le (by assumption)))))) | (with_reducible refine And.intro ?_ ?_)) <;> (try simp only [Sq,Sr,Sh,Si,Sl,Bu,Bb,Bd,Bc,Bw,Bn,Int.reduceAdd,Int.reduceSub,Int.reduceMul,Int.reduceTDiv,Int.reduceTMod,Int.reduceMod,Int.reduceDiv,Nat.reduceLT,Nat.reduceEqDiff,Sa,Sb,Sc,Sd,Se,Sf,Sg,Int.reduceLE,Int.reduceLT,Int.reduceToNat,Int.reduceNeg,Int.reduceEq,Nat.reduceLeDiff,Nat.reducePow,Int.reducePow,reduceIte,Nat.reduceSub,Nat.reduceAdd,Nat.reduceMul,putAt,ceq,List.replicate, *]))
    have kc3 := fun y : Blk => (Heap.set_other G y hbk.1.1).trans kc2
    refine Fin_mk (Heap.Le.refl _) ?_
    rw [← hyl]
    exact h ⟨x.f, a, cap, ys, x.s, x.t, x.mn, x.mg⟩ _ ⟨rfl, rfl, rfl, rfl, rfl, by simpa using hc⟩
      ⟨((hB.base g0).turn kc1 (by simp)).turn (kc3 _) (by simp), fun y hy => (((hok y hy).base g0).turn kc1 (by simp)).turn (kc3 _) (by simp), by rw [hyl]; exact hlen, by rw [hyl]; exact hx.lr, hx.f, hx.s, hx.t, hx.mn, hx.mg⟩ (by (repeat' (first | exact Grow.refl _ | assumption | (refine Grow.set ?_ (by assumption) (by first | exact (by simp only [*]) | exact (by simp [set_none', *]) | exact Grow.none (by assumption) (by simp [set_none', *]))) | (refine Grow.trans ?_ (by assumption)))))
end Go.Proofs.Ytdaipgnhconfnaa
