/- What an image has to be, and in memory of its own: right, as a call (layer 8). -/
import Derived.Test.YtdaipgnhconfnaaInj
import Derived.Test.YtdaipgnhconfnaaInb
set_option linter.unusedSimpArgs false
set_option linter.unusedVariables false
set_option maxRecDepth 100000
set_option maxHeartbeats 4000000
namespace Go.Proofs.Ytdaipgnhconfnaa
open Go Go.HL Go.RowKit Pb
variable {w0 : World} {H : Heap} {K : Value → Heap → Prop}

/-- What was before, and what is new since. -/
def midHp (Hb H G : Heap) : Heap := fun c => if (H c).isSome = true then Hb c else G c
theorem mid_grow {Hb G : Heap} (g1 : Grow w0 Hb H) (g2 : Grow w0 H G) : Grow w0 (midHp Hb H G) G := fun c => by
  unfold midHp
  by_cases hc : (H c).isSome = true
  · rw [if_pos hc]
    obtain ⟨x, hx⟩ := Option.isSome_iff_exists.1 hc
    rcases g1 c with e | ⟨e, hs⟩
    · left; rw [← e, hx]; exact g2.some hx
    · exact .inr ⟨e, hs⟩
  · rw [if_neg hc]; exact .inl rfl
theorem mid_base {Hb G : Heap} (g1 : Grow w0 Hb H) (g2 : Grow w0 H G) : Grow w0 Hb (midHp Hb H G) := fun c => by
  unfold midHp
  by_cases hc : (H c).isSome = true
  · rw [if_pos hc]; exact .inl rfl
  · rw [if_neg hc]
    have hn : H c = none := by simpa using hc
    have hb := g1.none hn
    rcases g2 c with e | ⟨_, hs⟩
    · left; rw [e, hn, hb]
    · exact .inr ⟨hb, hs⟩
theorem Bld.mid {Hb G : Heap} {a : Option Addr} {cap sz : Nat} {ty : TypeId} {cs : List Value} (h : Bld w0 Hb H a cap sz ty cs) (g2 : Grow w0 H G) : Bld w0 (midHp Hb H G) G a cap sz ty cs := by
  rcases h with ⟨b, z, e, h1, h2, h3, h4⟩ | h
  · exact .inl ⟨b, z, e, h1, by unfold midHp; rw [if_pos (by rw [h3]; rfl)]; exact h2, g2.some h3, h4⟩
  · exact .inr h
theorem ImC.mid {Hb G : Heap} {x : Im} (h : ImC w0 Hb H x) (g2 : Grow w0 H G) : ImC w0 (midHp Hb H G) G x :=
  ⟨Bld.mid h.bld g2, fun y hy => ⟨Bld.mid (h.lv y hy).bld g2, (h.lv y hy).lm, (h.lv y hy).lr, (h.lv y hy).w, (h.lv y hy).h, (h.lv y hy).by_⟩, h.lm, h.lr, h.f, h.s, h.t, h.mn, h.mg⟩
theorem mid_some {Hb G : Heap} {b : Nat} {x : Blk} (hn : H b = none) (e : G b = some x) : midHp Hb H G b = some x := by
  unfold midHp; rw [if_neg (by rw [hn]; simp)]; exact e
/- paintboxlaw08 right -/
def M17 : MC :=
  .seq (.reg [⟨(some 6), .box 24 (.tmp 0), none⟩,
 ⟨(some 7), .box 24 (.tmp 1), none⟩,
 ⟨(some 8), .box 24 (.tmp 2), none⟩,
 ⟨(some 9), .box 24 (.tmp 3), none⟩,
 ⟨(some 12), .mv (.const (.bool false)), none⟩])
 (.seq (.seq (.reg [⟨(some 13), .mv (.tmp 4), none⟩,
 ⟨(some 14), .mv (.tmp 5), none⟩,
 ⟨(some 15), .bin .neq (.tmp 13) (.tmp 14), none⟩,
 ⟨(some 16), .mv (.tmp 15), none⟩,
 ⟨(some 17), .ldn 6 (.tmp 6), (some (16, false))⟩,
 ⟨(some 18), .ldn 6 (.tmp 7), (some (16, false))⟩,
 ⟨(some 19), .call 26 [(.tmp 17), (.tmp 18)], (some (16, false))⟩,
 ⟨(some 20), .un .not (.tmp 19), (some (16, false))⟩,
 ⟨(some 21), .pick (.tmp 16) (.const (.bool true)) (.tmp 20), none⟩])
 (.cond (.tmp 21)
 (.seq (.reg [⟨(some 12), .mv (.const (.bool false)), none⟩])
 (.ret))
 (.skip)))
 (.seq (.reg [⟨(some 22), .ldn 6 (.tmp 6), none⟩,
 ⟨(some 23), .call 47 [(.tmp 22)], none⟩])
 (.seq (.reg [⟨(some 24), .ldn 6 (.tmp 8), none⟩,
 ⟨(some 25), .ldn 6 (.tmp 9), none⟩,
 ⟨(some 26), .call 26 [(.tmp 24), (.tmp 25)], none⟩,
 ⟨(some 12), .mv (.tmp 26), none⟩])
 (.ret))))
theorem k17 : fnOk Try.prog 17 = some (M17, [.t 12], 27) := by kernel_rfl

theorem l_right (a w f s : Im) (e : Int) {Hb : Heap} (ha : ImC w0 Hb H a) (gb : Grow w0 Hb H) (hw : ImOk w0 H w) (hf : ImOk w0 Hb f) (hs : ImOk w0 Hb s) (h1 : Im.Eqv a w) (h2 : Im.Eqv f s) (h : ∀ H', Grow w0 Hb H' → K (.bool true) H') :
    HCalls Try.prog w0 17 [a.v, w.v, f.v, s.v, .int .i64 e, .int .i64 e] H K := by
  have c1 : ∀ (G : Heap) (K : Value → Heap → Prop), Grow w0 H G → K (.bool true) G → HCalls Try.prog w0 26 [a.v, w.v] G K := fun G K g hk => r_Same a w (ha.ok.grow g) (hw.grow g) (fun _ => hk) (fun h => (h h1).elim)
  have c2 : ∀ (G : Heap) (K : Value → Heap → Prop), Grow w0 Hb G → K (.bool true) G → HCalls Try.prog w0 26 [f.v, s.v] G K := fun G K g hk => r_Same f s (hf.grow g) (hs.grow g) (fun _ => hk) (fun h => (h h2).elim)
  have cs : ∀ (G : Heap) (K : Value → Heap → Prop), Grow w0 H G → (∀ H', Grow w0 (midHp Hb H G) H' → K (.tuple #[]) H') → HCalls Try.prog w0 47 [a.v] G K := fun G K g hk => l_spoil a (ha.mid g) (mid_grow gb g) hk
  have base := fun G (g : Grow w0 H G) => mid_base gb g
  clear ha hw hf hs h1 h2
  unfold Im.v at c1 c2 cs ⊢
  refine HL.hc k17 999 ?_; unfold M17
  (all_goals (try simp only [Sq,Sr,Sh,Si,Sl,Bu,Bb,Bd,Bc,Bw,Bn,Int.reduceAdd,Int.reduceSub,Int.reduceMul,Int.reduceTDiv,Int.reduceTMod,Int.reduceMod,Int.reduceDiv,Nat.reduceLT,Nat.reduceEqDiff,Sa,Sb,Sc,Sd,Se,Sf,Sg,Int.reduceLE,Int.reduceLT,Int.reduceToNat,Int.reduceNeg,Int.reduceEq,Nat.reduceLeDiff,Nat.reducePow,Int.reducePow,reduceIte,Nat.reduceSub,Nat.reduceAdd,Nat.reduceMul,putAt,ceq,List.replicate, *])); repeat' ((first | (with_reducible refine fun _ : True => ?_) | refine c1 _ _ (by (repeat' (first | exact Grow.refl _ | assumption | (refine Grow_known (by first | (simp only [Heap.set_same, set_ne, ne_eq, not_false_eq_true, *] <;> rfl) | fail) ?_) | (refine Grow.set ?_ (by assumption) (by first | (simp only [*] <;> done) | (simp [set_none', Heap.set_same, set_ne, noneH, *] <;> done) | fail)) | (refine Grow.trans ?_ (by assumption))))) ?_ | refine cs _ _ (by (repeat' (first | exact Grow.refl _ | assumption | (refine Grow_known (by first | (simp only [Heap.set_same, set_ne, ne_eq, not_false_eq_true, *] <;> rfl) | fail) ?_) | (refine Grow.set ?_ (by assumption) (by first | (simp only [*] <;> done) | (simp [set_none', Heap.set_same, set_ne, noneH, *] <;> done) | fail)) | (refine Grow.trans ?_ (by assumption))))) (fun H' g => ?_)  | (with_reducible refine any_h ?_) | ((first | refine AllocQ_i ?_ | refine AllocO_i ?_); intro bk hb0 hbk; (try simp only [set_none'] at hbk); (try (first | have hbn := Grow.none (by assumption) hbk | have hbn := Grow.none (by assumption) hbk.2 | have hbn := Grow.none (by assumption) hbk.2.2 | have hbn := Grow.none (by assumption) hbk.2.2.2 | have hbn := Grow.none (by assumption) hbk.2.2.2.2 | have hbn := Grow.none (by assumption) hbk.2.2.2.2.2)); (try simp only [set_none'] at hbn); (try (first | have hbm := Grow.none (by assumption) hbn | have hbm := Grow.none (by assumption) hbn.2 | have hbm := Grow.none (by assumption) hbn.2.2 | have hbm := Grow.none (by assumption) hbn.2.2.2 | have hbm := Grow.none (by assumption) hbn.2.2.2.2 | have hbm := Grow.none (by assumption) hbn.2.2.2.2.2)); (try simp only [set_none'] at hbm)) | ((first | refine condS_i ?_ ?_ | refine pick_i ?_ ?_ | refine gS_it ?_ ?_ | refine gS_if ?_ ?_ | refine gP_it ?_ ?_ | refine gP_if ?_ ?_) <;> (intro hc; try simp only [Int.reduceLE,Int.reduceLT,Int.reduceEq,Sn] at hc)) | (with_reducible refine KP_i ?_ ?_; · (repeat' (first | exact Heap.Le.refl _ | (with_reducible refine Le_set2 ?_) | (refine Le_known (by first | (simp only [Heap.set_same, set_ne, ne_eq, not_false_eq_true, *] <;> rfl) | fail) ?_) | (refine Le_fresh (by first | (simp only [*] <;> done) | (simp [set_none', Heap.set_same, set_ne, noneH, *] <;> done) | fail) ?_) | (refine Heap.Le.trans ?_ (Grow.le (by assumption))) | exact Le_none | (refine Le_put ?_ (by first | (simp only [Heap.set_same, set_ne, ne_eq, not_false_eq_true, *] <;> rfl) | fail)) | fail))) | (with_reducible refine And.intro ?_ ?_)) <;> (try simp only [Sq,Sr,Sh,Si,Sl,Bu,Bb,Bd,Bc,Bw,Bn,Int.reduceAdd,Int.reduceSub,Int.reduceMul,Int.reduceTDiv,Int.reduceTMod,Int.reduceMod,Int.reduceDiv,Nat.reduceLT,Nat.reduceEqDiff,Sa,Sb,Sc,Sd,Se,Sf,Sg,Int.reduceLE,Int.reduceLT,Int.reduceToNat,Int.reduceNeg,Int.reduceEq,Nat.reduceLeDiff,Nat.reducePow,Int.reducePow,reduceIte,Nat.reduceSub,Nat.reduceAdd,Nat.reduceMul,putAt,ceq,List.replicate, *]))
  rename_i b8 p8 q8 r8
  have k8 := g.some (b := b8) (mid_some q8.2.2 (by simp only [Heap.set_same, set_ne, ne_eq, not_false_eq_true, *] <;> rfl))
  have k9 := g.some (b := bk) (mid_some hbk.2.2.2 (by simp only [Heap.set_same, set_ne, ne_eq, not_false_eq_true, *] <;> rfl))
  have gF : Grow w0 Hb H' := (base _ (by (repeat' (first | exact Grow.refl _ | assumption | (refine Grow_known (by first | (simp only [Heap.set_same, set_ne, ne_eq, not_false_eq_true, *] <;> rfl) | fail) ?_) | (refine Grow.set ?_ (by assumption) (by first | (simp only [*] <;> done) | (simp [set_none', Heap.set_same, set_ne, noneH, *] <;> done) | fail)) | (refine Grow.trans ?_ (by assumption)))))).trans g
  have hne := hbk.1.2
  rw [root2 hne k8 k9]
  clear g k8 k9 base cs c1
  (all_goals (try simp only [Sq,Sr,Sh,Si,Sl,Bu,Bb,Bd,Bc,Bw,Bn,Int.reduceAdd,Int.reduceSub,Int.reduceMul,Int.reduceTDiv,Int.reduceTMod,Int.reduceMod,Int.reduceDiv,Nat.reduceLT,Nat.reduceEqDiff,Sa,Sb,Sc,Sd,Se,Sf,Sg,Int.reduceLE,Int.reduceLT,Int.reduceToNat,Int.reduceNeg,Int.reduceEq,Nat.reduceLeDiff,Nat.reducePow,Int.reducePow,reduceIte,Nat.reduceSub,Nat.reduceAdd,Nat.reduceMul,putAt,ceq,List.replicate, *])); repeat' ((first | (with_reducible refine fun _ : True => ?_) | refine c2 _ _ (by (repeat' (first | exact Grow.refl _ | assumption | (refine Grow_known (by first | (simp only [Heap.set_same, set_ne, ne_eq, not_false_eq_true, *] <;> rfl) | fail) ?_) | (refine Grow.set ?_ (by assumption) (by first | (simp only [*] <;> done) | (simp [set_none', Heap.set_same, set_ne, noneH, *] <;> done) | fail)) | (refine Grow.trans ?_ (by assumption))))) ?_ | (with_reducible refine any_h ?_) | ((first | refine AllocQ_i ?_ | refine AllocO_i ?_); intro bk hb0 hbk; (try simp only [set_none'] at hbk); (try (first | have hbn := Grow.none (by assumption) hbk | have hbn := Grow.none (by assumption) hbk.2 | have hbn := Grow.none (by assumption) hbk.2.2 | have hbn := Grow.none (by assumption) hbk.2.2.2 | have hbn := Grow.none (by assumption) hbk.2.2.2.2 | have hbn := Grow.none (by assumption) hbk.2.2.2.2.2)); (try simp only [set_none'] at hbn); (try (first | have hbm := Grow.none (by assumption) hbn | have hbm := Grow.none (by assumption) hbn.2 | have hbm := Grow.none (by assumption) hbn.2.2 | have hbm := Grow.none (by assumption) hbn.2.2.2 | have hbm := Grow.none (by assumption) hbn.2.2.2.2 | have hbm := Grow.none (by assumption) hbn.2.2.2.2.2)); (try simp only [set_none'] at hbm)) | ((first | refine condS_i ?_ ?_ | refine pick_i ?_ ?_ | refine gS_it ?_ ?_ | refine gS_if ?_ ?_ | refine gP_it ?_ ?_ | refine gP_if ?_ ?_) <;> (intro hc; try simp only [Int.reduceLE,Int.reduceLT,Int.reduceEq,Sn] at hc)) | (with_reducible refine KP_i ?_ ?_; · (repeat' (first | exact Heap.Le.refl _ | (with_reducible refine Le_set2 ?_) | (refine Le_known (by first | (simp only [Heap.set_same, set_ne, ne_eq, not_false_eq_true, *] <;> rfl) | fail) ?_) | (refine Le_fresh (by first | (simp only [*] <;> done) | (simp [set_none', Heap.set_same, set_ne, noneH, *] <;> done) | fail) ?_) | (refine Heap.Le.trans ?_ (Grow.le (by assumption))) | exact Le_none | (refine Le_put ?_ (by first | (simp only [Heap.set_same, set_ne, ne_eq, not_false_eq_true, *] <;> rfl) | fail)) | fail))) | (with_reducible refine And.intro ?_ ?_)) <;> (try simp only [Sq,Sr,Sh,Si,Sl,Bu,Bb,Bd,Bc,Bw,Bn,Int.reduceAdd,Int.reduceSub,Int.reduceMul,Int.reduceTDiv,Int.reduceTMod,Int.reduceMod,Int.reduceDiv,Nat.reduceLT,Nat.reduceEqDiff,Sa,Sb,Sc,Sd,Se,Sf,Sg,Int.reduceLE,Int.reduceLT,Int.reduceToNat,Int.reduceNeg,Int.reduceEq,Nat.reduceLeDiff,Nat.reducePow,Int.reducePow,reduceIte,Nat.reduceSub,Nat.reduceAdd,Nat.reduceMul,putAt,ceq,List.replicate, *]))
  exact Fin_mk (Heap.Le.refl _) (h _ (by (repeat' (first | exact Grow.refl _ | assumption | (refine Grow_known (by first | (simp only [Heap.set_same, set_ne, ne_eq, not_false_eq_true, *] <;> rfl) | fail) ?_) | (refine Grow.set ?_ (by assumption) (by first | (simp only [*] <;> done) | (simp [set_none', Heap.set_same, set_ne, noneH, *] <;> done) | fail)) | (refine Grow.trans ?_ (by assumption))))))
end Go.Proofs.Ytdaipgnhconfnaa
