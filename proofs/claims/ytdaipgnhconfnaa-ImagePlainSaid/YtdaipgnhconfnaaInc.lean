/- Copies whose levels' bytes stand at plain addresses; images made short (layer 8). -/
import Derived.Test.YtdaipgnhconfnaaImd
import Derived.Test.YtdaipgnhconfnaaImq
import Derived.Test.YtdaipgnhconfnaaHlt
set_option linter.unusedSimpArgs false
set_option linter.unusedVariables false
set_option maxRecDepth 100000
set_option maxHeartbeats 4000000
namespace Go.HL
open Go Go.RowKit
variable {w0 : World} {H G G' : Heap}
theorem app_bld2 {K : Value → Heap → Prop} {a xa : Option Addr} {cap sz n m xc by_ : Nat} {ty : TypeId} {zero cs ns : List Value} (hB : Bld w0 H G a cap sz ty cs) (hn : cs.length = n * sz) (hz : zero.length = sz) (hx : srd w0 G xa (m * sz) = some ns) (hsz : ns.length = m * sz)
    (hg : Grow w0 H G) (hm : (n + m) * by_ ≤ 140737488355328 ∧ n + m ≤ 9223372036854775807) (ho : ns.all Value.oneCell' = true)
    (h : ∀ a' cap' G', Bld w0 H G' a' cap' sz ty (cs ++ ns) → Grow w0 H G' → (∀ c x, G c = some x → (x.ty = ty → a ≠ some ⟨c, 0, .none⟩) → G' c = some x) → n + m ≤ cap' → (a' = a ∨ ∃ b, a' = some ⟨b, 0, .none⟩) → K (.slice a' (n + m) cap') G') :
    appQ w0 G K ty sz by_ zero (.slice a n cap) (.slice xa m xc) := by
  unfold appQ
  simp only [hx, optQ]
  refine ⟨hm.1, hm.2, fun hle => ?_, fun hlt => ?_⟩
  · unfold layQ
    by_cases he : ns = []
    · rw [if_pos he]
      refine h a cap G ?_ hg (fun c x e _ => e) hle (.inl rfl)
      rw [he, List.append_nil]; exact hB
    · rw [if_neg he]
      rcases hB with ⟨b, z, rfl, h1, h2, h3, h4⟩ | ⟨rfl, rfl⟩
      · have hl2 : n * sz + ns.length ≤ cap * sz := by rw [hsz, ← Nat.add_mul]; exact Nat.mul_le_mul_right _ hle
        simp only [h3, optQ]
        refine ⟨ho, by simp only [List.length_append]; omega, ?_⟩
        rw [Nat.zero_add, ← hn, putAt_end cs ns z (by omega)]
        refine h _ cap _ (.inl ⟨b, z.drop ns.length, rfl, h1, h2, Heap.set_same _ _ _, by simp; omega⟩) (hg.set h1 h2) (fun c x e hne => ?_) hle (.inl rfl)
        rw [Heap.set_other _ _ (fun e' => by subst e'; rw [h3] at e; cases e; exact hne rfl rfl)]; exact e
      · have : m = 0 := by omega
        subst this
        simp only [Nat.zero_mul, List.length_eq_zero_iff] at hsz
        exact (he hsz).elim
  · have hold : srd w0 G a (n * sz) = some cs := by rw [← hn]; exact hB.slAt.srd
    simp only [hold]
    intro c hc hc2 b hb hnb
    refine h _ c _ (.inl ⟨b, zeroL zero (c - (n + m)), rfl, hb, hg.none hnb, Heap.set_same _ _ _, ?_⟩) (hg.set hb (hg.none hnb)) (fun d x e hne => ?_) hc (.inr ⟨_, rfl⟩)
    · rw [zeroL_len, hz, List.length_append, hn, hsz, ← Nat.add_mul, ← Nat.add_mul]; congr 1; omega
    · rw [Heap.set_other _ _ (fun e' => by subst e'; rw [hnb] at e; cases e)]; exact e

theorem app_clone2 {K : Value → Heap → Prop} {k : IntKind} {b0 : Nat} {xa : Option Addr} {l : List Int} {xc by_ : Nat} {e : TypeId} (hA : IntsAt w0 G k xa l) (hl : l.length * by_ ≤ 140737488355328 ∧ l.length ≤ 9223372036854775807)
    (h : ∀ a' cap' G', Bld w0 G G' a' cap' 1 e (l.map fun x => .int k x) → l.length ≤ cap' → Grow w0 G G' → (∃ b, a' = some ⟨b, 0, .none⟩) → K (.slice a' l.length cap') G') : appQ w0 G K e 1 by_ [.int k 0] (.slice (some ⟨b0, 0, .none⟩) 0 0) (.slice xa l.length xc) := by
  have hs := (SlAt.ints hA).srd
  rw [List.length_map] at hs
  refine app_bld2 (H := G) (cs := []) (ns := l.map fun x => .int k x) Bld.none (by simp) rfl (by rw [Nat.mul_one]; exact hs) (by simp) (Grow.refl _) (by simpa using hl) (by simp [Value.oneCell']) fun a' cap' G' hB hg _ hc hS => ?_
  rw [Nat.zero_add] at hc ⊢
  exact h a' cap' G' (by simpa using hB) hc hg (by rcases hS with e | e; exact ⟨_, e⟩; exact e)
theorem Bld.pre {a : Option Addr} {cap sz : Nat} {ty : TypeId} {cs ds : List Value} (h : Bld w0 H G a cap sz ty (cs ++ ds)) : Bld w0 H G a cap sz ty cs := by
  rcases h with ⟨b, z, e, h1, h2, h3, h4⟩ | ⟨h1, h2⟩
  · exact .inl ⟨b, ds ++ z, e, h1, h2, by rw [← List.append_assoc]; exact h3, by rw [List.length_append] at h4 ⊢; omega⟩
  · exact .inr ⟨h1, by simp at h2; exact h2.1⟩
theorem SlAt.pre {a : Option Addr} {cs ds : List Value} (h : SlAt w0 G a (cs ++ ds)) : SlAt w0 G a cs := fun hc => by
  obtain ⟨b, o, e, hr⟩ := h (by intro e; simp at e; exact hc e.1)
  refine ⟨b, o, e, fun i hi => ?_⟩
  rw [hr i (by rw [List.length_append]; omega), List.getElem?_append_left hi]
end Go.HL
namespace Go.Proofs.Ytdaipgnhconfnaa
open Go Go.HL Go.RowKit Pb
variable {w0 : World} {H : Heap} {K : Value → Heap → Prop}
theorem r_Copy2 (x : Im) (hx : ImOk w0 H x) (h : ∀ y H', Im.Eqv x y → ImC w0 H H' y → (∀ z ∈ y.ls, ∃ b, z.a = some ⟨b, 0, none⟩) → Grow w0 H H' → K y.v H') : HCalls Try.prog w0 14 [x.v] H K := by
  have hlen := hx.lm
  unfold Im.v at h ⊢
  refine HL.hc k14 999 ?_; unfold M14
  (all_goals (try simp only [Sq,Sr,Sh,Si,Sl,Bu,Bb,Bd,Bc,Bw,Bn,Int.reduceAdd,Int.reduceSub,Int.reduceMul,Int.reduceTDiv,Int.reduceTMod,Int.reduceMod,Int.reduceDiv,Nat.reduceLT,Nat.reduceEqDiff,Sa,Sb,Sc,Sd,Se,Sf,Sg,Int.reduceLE,Int.reduceLT,Int.reduceToNat,Int.reduceNeg,Int.reduceEq,Nat.reduceLeDiff,Nat.reducePow,Int.reducePow,reduceIte,Nat.reduceSub,Nat.reduceAdd,Nat.reduceMul,putAt,ceq,List.replicate, *])); repeat' ((first | (with_reducible refine fun _ : True => ?_) | (with_reducible refine any_h ?_) | ((first | refine AllocQ_i ?_ | refine AllocO_i ?_); intro bk hb0 hbk; try simp only [set_none'] at hbk) | ((first | refine condS_i ?_ ?_ | refine pick_i ?_ ?_ | refine gS_it ?_ ?_ | refine gS_if ?_ ?_ | refine gP_it ?_ ?_ | refine gP_if ?_ ?_) <;> (intro hc; try simp only [Int.reduceLE,Int.reduceLT,Int.reduceEq,Sn] at hc)) | (with_reducible refine KP_i ?_ ?_; · (repeat' (first | exact Heap.Le.refl _ | (refine Le_fresh (by first | exact (by simp only [*]) | exact (by simp [set_none', *])) ?_) | (refine Heap.Le.trans ?_ (Grow.le (by assumption)))))) | (with_reducible refine And.intro ?_ ?_)) <;> (try simp only [Sq,Sr,Sh,Si,Sl,Bu,Bb,Bd,Bc,Bw,Bn,Int.reduceAdd,Int.reduceSub,Int.reduceMul,Int.reduceTDiv,Int.reduceTMod,Int.reduceMod,Int.reduceDiv,Nat.reduceLT,Nat.reduceEqDiff,Sa,Sb,Sc,Sd,Se,Sf,Sg,Int.reduceLE,Int.reduceLT,Int.reduceToNat,Int.reduceNeg,Int.reduceEq,Nat.reduceLeDiff,Nat.reducePow,Int.reducePow,reduceIte,Nat.reduceSub,Nat.reduceAdd,Nat.reduceMul,putAt,ceq,List.replicate, *]))
  rename_i b1 p1 q1
  refine loopq_heap (fun H0 eH0 => ?_)
  have kb1 := at_of eH0 (b := b1) (by simp only [Heap.set_same, set_ne, ne_eq, not_false_eq_true, *] <;> rfl)
  have kb2 := at_of eH0 (b := bk) (by simp only [Heap.set_same, set_ne, ne_eq, not_false_eq_true, *] <;> rfl)
  have g0 : Grow w0 H H0 := by rw [eH0]; exact (by (repeat' (first | exact Grow.refl _ | assumption | (refine Grow.set ?_ (by assumption) (by first | exact (by simp only [*]) | exact (by simp [set_none', *]) | exact Grow.none (by assumption) (by simp [set_none', *]))) | (refine Grow.trans ?_ (by assumption)))))
  clear eH0
  refine loop_g 10 (fun s : Nat × Value × Option Addr × Nat × List LvR × Heap => [(3, .slice s.2.2.1 s.2.2.2.2.1.length s.2.2.2.1), (5, s.2.1), (9, .int .i64 (s.1 : Nat))]) (fun s => s.2.2.2.2.2)
    (fun s => s.1 ≤ x.ls.length ∧ s.2.2.2.2.1.map LvR.core = (x.ls.take s.1).map LvR.core ∧ Bld w0 H0 s.2.2.2.2.2 s.2.2.1 s.2.2.2.1 3 38 (s.2.2.2.2.1.map LvR.row).flatten ∧ (∀ y ∈ s.2.2.2.2.1, LvC w0 H0 s.2.2.2.2.2 y) ∧ Grow w0 H0 s.2.2.2.2.2 ∧ (∀ z ∈ s.2.2.2.2.1, ∃ b, z.a = some ⟨b, 0, none⟩))
    (fun s => x.ls.length - s.1) (0, undef, none, 0, [], H0) ⟨Nat.zero_le _, rfl, Bld.none, by simp, Grow.refl _, by simp⟩ (Heap.Le.refl _) rfl ?_
  intro ⟨k, u, a, cap, ys, G⟩ g ⟨hk, hc, hB, hok, hG, hS⟩
  simp only at hk hc hB hok hG hS
  have kc1 := hG.some kb1
  have kc2 := hG.some kb2
  have hyl : ys.length = k := by
    have := congrArg List.length hc
    simp at this; omega
  have gHG : Grow w0 H G := g0.trans hG
  have hfl : (ys.map LvR.row).flatten.length = k * 3 := by rw [flat_len (sz := 3) _ (fun r hr => by obtain ⟨z, -, rfl⟩ := List.mem_map.1 hr; rfl), List.length_map, hyl]
  rcases Nat.lt_or_ge k x.ls.length with hlt | hge
  · obtain ⟨z, ez⟩ : ∃ y, x.ls[k]? = some y := ⟨_, List.getElem?_eq_getElem hlt⟩
    have hm : z ∈ x.ls := List.mem_of_getElem? ez
    have hz := hx.lv z hm
    obtain ⟨b, o, ea, hr, hf⟩ := im_row (hx.grow gHG) ez
    have t0 : (k : Int) < (x.ls.length : Int) := by omega
    have t6 : IntKind.i64.wrap ((k : Int) + 1) = (k : Int) + 1 := Bw.1 _ (by omega) (by unfold maxLen at hlen; omega)
    rw [ea]
    (all_goals (try simp only [Sq,Sr,Sh,Si,Sl,Bu,Bb,Bd,Bc,Bw,Bn,Int.reduceAdd,Int.reduceSub,Int.reduceMul,Int.reduceTDiv,Int.reduceTMod,Int.reduceMod,Int.reduceDiv,Nat.reduceLT,Nat.reduceEqDiff,Sa,Sb,Sc,Sd,Se,Sf,Sg,Int.reduceLE,Int.reduceLT,Int.reduceToNat,Int.reduceNeg,Int.reduceEq,Nat.reduceLeDiff,Nat.reducePow,Int.reducePow,reduceIte,Nat.reduceSub,Nat.reduceAdd,Nat.reduceMul,putAt,ceq,List.replicate, *])); repeat' ((first | (with_reducible refine fun _ : True => ?_) | (with_reducible refine any_h ?_) | ((first | refine AllocQ_i ?_ | refine AllocO_i ?_); intro bk hb0 hbk; try simp only [set_none'] at hbk) | ((first | refine condS_i ?_ ?_ | refine pick_i ?_ ?_ | refine gS_it ?_ ?_ | refine gS_if ?_ ?_ | refine gP_it ?_ ?_ | refine gP_if ?_ ?_) <;> (intro hc; try simp only [Int.reduceLE,Int.reduceLT,Int.reduceEq,Sn] at hc)) | (with_reducible refine KP_i ?_ ?_; · (repeat' (first | exact Heap.Le.refl _ | (refine Le_fresh (by first | exact (by simp only [*]) | exact (by simp [set_none', *])) ?_) | (refine Heap.Le.trans ?_ (Grow.le (by assumption)))))) | (with_reducible refine And.intro ?_ ?_)) <;> (try simp only [Sq,Sr,Sh,Si,Sl,Bu,Bb,Bd,Bc,Bw,Bn,Int.reduceAdd,Int.reduceSub,Int.reduceMul,Int.reduceTDiv,Int.reduceTMod,Int.reduceMod,Int.reduceDiv,Nat.reduceLT,Nat.reduceEqDiff,Sa,Sb,Sc,Sd,Se,Sf,Sg,Int.reduceLE,Int.reduceLT,Int.reduceToNat,Int.reduceNeg,Int.reduceEq,Nat.reduceLeDiff,Nat.reducePow,Int.reducePow,reduceIte,Nat.reduceSub,Nat.reduceAdd,Nat.reduceMul,putAt,ceq,List.replicate, *]))
    rename_i b5 p5 q5
    refine app_clone2 (IntsAt.grow hz.at_ (gHG.trans (by (repeat' (first | exact Grow.refl _ | assumption | (refine Grow.set ?_ (by assumption) (by first | exact (by simp only [*]) | exact (by simp [set_none', *]) | exact Grow.none (by assumption) (by simp [set_none', *]))) | (refine Grow.trans ?_ (by assumption))))))) ⟨by have := hz.lr; omega, by have := hz.lr; omega⟩ (fun a' cap' G' hI hlc hg' hS' => ?_)
    have k5 := hg'.some (b := b5) (by simp only [Heap.set_same, set_ne, ne_eq, not_false_eq_true, *] <;> rfl)
    have gG' : Grow w0 G G' := Grow.trans (by (repeat' (first | exact Grow.refl _ | assumption | (refine Grow.set ?_ (by assumption) (by first | exact (by simp only [*]) | exact (by simp [set_none', *]) | exact Grow.none (by assumption) (by simp [set_none', *]))) | (refine Grow.trans ?_ (by assumption))))) hg'
    rw [(Heap.set_id G' b5 _ k5).symm]
    (all_goals (try simp only [Sq,Sr,Sh,Si,Sl,Bu,Bb,Bd,Bc,Bw,Bn,Int.reduceAdd,Int.reduceSub,Int.reduceMul,Int.reduceTDiv,Int.reduceTMod,Int.reduceMod,Int.reduceDiv,Nat.reduceLT,Nat.reduceEqDiff,Sa,Sb,Sc,Sd,Se,Sf,Sg,Int.reduceLE,Int.reduceLT,Int.reduceToNat,Int.reduceNeg,Int.reduceEq,Nat.reduceLeDiff,Nat.reducePow,Int.reducePow,reduceIte,Nat.reduceSub,Nat.reduceAdd,Nat.reduceMul,putAt,ceq,List.replicate, *])); repeat' ((first | (with_reducible refine fun _ : True => ?_) | (with_reducible refine any_h ?_) | ((first | refine AllocQ_i ?_ | refine AllocO_i ?_); intro bk hb0 hbk; try simp only [set_none'] at hbk) | ((first | refine condS_i ?_ ?_ | refine pick_i ?_ ?_ | refine gS_it ?_ ?_ | refine gS_if ?_ ?_ | refine gP_it ?_ ?_ | refine gP_if ?_ ?_) <;> (intro hc; try simp only [Int.reduceLE,Int.reduceLT,Int.reduceEq,Sn] at hc)) | (with_reducible refine KP_i ?_ ?_; · (repeat' (first | exact Heap.Le.refl _ | (refine Le_fresh (by first | exact (by simp only [*]) | exact (by simp [set_none', *])) ?_) | (refine Heap.Le.trans ?_ (Grow.le (by assumption)))))) | (with_reducible refine And.intro ?_ ?_)) <;> (try simp only [Sq,Sr,Sh,Si,Sl,Bu,Bb,Bd,Bc,Bw,Bn,Int.reduceAdd,Int.reduceSub,Int.reduceMul,Int.reduceTDiv,Int.reduceTMod,Int.reduceMod,Int.reduceDiv,Nat.reduceLT,Nat.reduceEqDiff,Sa,Sb,Sc,Sd,Se,Sf,Sg,Int.reduceLE,Int.reduceLT,Int.reduceToNat,Int.reduceNeg,Int.reduceEq,Nat.reduceLeDiff,Nat.reducePow,Int.reducePow,reduceIte,Nat.reduceSub,Nat.reduceAdd,Nat.reduceMul,putAt,ceq,List.replicate, *]))
    have hc1 : k + 1 ≤ x.ls.length := hlt
    have hl9 := hx.lr
    have tk : x.ls.take (k + 1) = x.ls.take k ++ [z] := by rw [List.take_add_one, ez]; rfl
    refine app_bld (hB.grow (by (repeat' (first | exact Grow.refl _ | assumption | (refine Grow.set ?_ (by assumption) (by first | exact (by simp only [*]) | exact (by simp [set_none', *]) | exact Grow.none (by assumption) (by simp [set_none', *]))) | (refine Grow.trans ?_ (by assumption)))))) hfl rfl (srd_blk (Heap.set_same _ _ _) (by rfl)) (by rfl) (hG.trans (by (repeat' (first | exact Grow.refl _ | assumption | (refine Grow.set ?_ (by assumption) (by first | exact (by simp only [*]) | exact (by simp [set_none', *]) | exact Grow.none (by assumption) (by simp [set_none', *]))) | (refine Grow.trans ?_ (by assumption)))))) ⟨by omega, by unfold maxLen at hlen; omega⟩ (by rfl) (fun a2 cap2 G2 hB2 hg2 hk2 hc2 => ?_)
    have hl1 : (ys ++ [(⟨z.w, z.h, a', cap', z.l⟩ : LvR)]).length = k + 1 := by simp [hyl]
    have hnew : LvC w0 H0 G2 ⟨z.w, z.h, a', cap', z.l⟩ := by
      exact ⟨(((hI.base (hG.trans (by (repeat' (first | exact Grow.refl _ | assumption | (refine Grow.set ?_ (by assumption) (by first | exact (by simp only [*]) | exact (by simp [set_none', *]) | exact Grow.none (by assumption) (by simp [set_none', *]))) | (refine Grow.trans ?_ (by assumption))))))).turn k5 (by simp)).grow (by (repeat' (first | exact Grow.refl _ | assumption | (refine Grow.set ?_ (by assumption) (by first | exact (by simp only [*]) | exact (by simp [set_none', *]) | exact Grow.none (by assumption) (by simp [set_none', *]))) | (refine Grow.trans ?_ (by assumption)))))).stay (ty' := 38) (by decide) hk2, hz.lm, hz.lr, hz.w, hz.h, hz.by_⟩
    have hold : ∀ y ∈ ys, LvC w0 H0 G2 y := fun y hy => by
      have h0 := hok y hy
      exact ⟨(h0.bld.grow (by (repeat' (first | exact Grow.refl _ | assumption | (refine Grow.set ?_ (by assumption) (by first | exact (by simp only [*]) | exact (by simp [set_none', *]) | exact Grow.none (by assumption) (by simp [set_none', *]))) | (refine Grow.trans ?_ (by assumption)))))).stay (by decide) hk2, h0.lm, h0.lr, h0.w, h0.h, h0.by_⟩
    (all_goals (try simp only [Sq,Sr,Sh,Si,Sl,Bu,Bb,Bd,Bc,Bw,Bn,Int.reduceAdd,Int.reduceSub,Int.reduceMul,Int.reduceTDiv,Int.reduceTMod,Int.reduceMod,Int.reduceDiv,Nat.reduceLT,Nat.reduceEqDiff,Sa,Sb,Sc,Sd,Se,Sf,Sg,Int.reduceLE,Int.reduceLT,Int.reduceToNat,Int.reduceNeg,Int.reduceEq,Nat.reduceLeDiff,Nat.reducePow,Int.reducePow,reduceIte,Nat.reduceSub,Nat.reduceAdd,Nat.reduceMul,putAt,ceq,List.replicate, *])); repeat' ((first | (with_reducible refine fun _ : True => ?_) | (with_reducible refine any_h ?_) | ((first | refine AllocQ_i ?_ | refine AllocO_i ?_); intro bk hb0 hbk; try simp only [set_none'] at hbk) | ((first | refine condS_i ?_ ?_ | refine pick_i ?_ ?_ | refine gS_it ?_ ?_ | refine gS_if ?_ ?_ | refine gP_it ?_ ?_ | refine gP_if ?_ ?_) <;> (intro hc; try simp only [Int.reduceLE,Int.reduceLT,Int.reduceEq,Sn] at hc)) | (with_reducible refine KP_i ?_ ?_; · (repeat' (first | exact Heap.Le.refl _ | (refine Le_fresh (by first | exact (by simp only [*]) | exact (by simp [set_none', *])) ?_) | (refine Heap.Le.trans ?_ (Grow.le (by assumption)))))) | (with_reducible refine And.intro ?_ ?_)) <;> (try simp only [Sq,Sr,Sh,Si,Sl,Bu,Bb,Bd,Bc,Bw,Bn,Int.reduceAdd,Int.reduceSub,Int.reduceMul,Int.reduceTDiv,Int.reduceTMod,Int.reduceMod,Int.reduceDiv,Nat.reduceLT,Nat.reduceEqDiff,Sa,Sb,Sc,Sd,Se,Sf,Sg,Int.reduceLE,Int.reduceLT,Int.reduceToNat,Int.reduceNeg,Int.reduceEq,Nat.reduceLeDiff,Nat.reducePow,Int.reducePow,reduceIte,Nat.reduceSub,Nat.reduceAdd,Nat.reduceMul,putAt,ceq,List.replicate, *]))
    refine Round_mk (k + 1, _, a2, cap2, ys ++ [(⟨z.w, z.h, a', cap', z.l⟩ : LvR)], G2) ⟨hc1, ?_, ?_, ?_, hg2, ?_⟩ (by simp only; omega) (Heap.Le.refl _) (by simp only [hl1]; rfl) rfl
    · simp only
      rw [List.map_append, hc, tk, List.map_append]; rfl
    · simpa [LvR.row] using hB2
    · intro y hy
      rcases List.mem_append.1 hy with h' | h'
      · exact hold y h'
      · rw [List.mem_singleton.1 h']; exact hnew
    · intro y hy
      rcases List.mem_append.1 hy with h' | h'
      · exact hS y h'
      · rw [List.mem_singleton.1 h']; exact hS'
  · obtain rfl : x.ls.length = k := by omega
    have t0 : ¬ ((x.ls.length : Nat) : Int) < ((x.ls.length : Nat) : Int) := by omega
    rw [root2 hbk.1.2 kc1 kc2]
    (all_goals (try simp only [Sq,Sr,Sh,Si,Sl,Bu,Bb,Bd,Bc,Bw,Bn,Int.reduceAdd,Int.reduceSub,Int.reduceMul,Int.reduceTDiv,Int.reduceTMod,Int.reduceMod,Int.reduceDiv,Nat.reduceLT,Nat.reduceEqDiff,Sa,Sb,Sc,Sd,Se,Sf,Sg,Int.reduceLE,Int.reduceLT,Int.reduceToNat,Int.reduceNeg,Int.reduceEq,Nat.reduceLeDiff,Nat.reducePow,Int.reducePow,reduceIte,Nat.reduceSub,Nat.reduceAdd,Nat.reduceMul,putAt,ceq,List.replicate, *])); repeat' ((first | (with_reducible refine fun _ : True => ?_) | (with_reducible refine any_h ?_) | ((first | refine AllocQ_i ?_ | refine AllocO_i ?_); intro bk hb0 hbk; try simp only [set_none'] at hbk) | ((first | refine condS_i ?_ ?_ | refine pick_i ?_ ?_ | refine gS_it ?_ ?_ | refine gS_if ?_ ?_ | refine gP_it ?_ ?_ | refine gP_if ?_ ?_) <;> (intro hc; try simp only [Int.reduceLE,Int.reduceLT,Int.reduceEq,Sn] at hc)) | (with_reducible refine KP_i ?_ ?_; · (repeat' (first | exact Heap.Le.refl _ | (refine Le_fresh (by first | exact (by simp only [*]) | exact (by simp [set_none', *])) ?_) | (refine Heap.Le.trans ?_ (Grow.le (by assumption)))))) | (with_reducible refine And.intro ?_ ?_)) <;> (try simp only [Sq,Sr,Sh,Si,Sl,Bu,Bb,Bd,Bc,Bw,Bn,Int.reduceAdd,Int.reduceSub,Int.reduceMul,Int.reduceTDiv,Int.reduceTMod,Int.reduceMod,Int.reduceDiv,Nat.reduceLT,Nat.reduceEqDiff,Sa,Sb,Sc,Sd,Se,Sf,Sg,Int.reduceLE,Int.reduceLT,Int.reduceToNat,Int.reduceNeg,Int.reduceEq,Nat.reduceLeDiff,Nat.reducePow,Int.reducePow,reduceIte,Nat.reduceSub,Nat.reduceAdd,Nat.reduceMul,putAt,ceq,List.replicate, *]))
    have kc3 := fun y : Blk => (Heap.set_other G y hbk.1.1).trans kc2
    refine Fin_mk (Heap.Le.refl _) ?_
    rw [← hyl]
    exact h ⟨x.f, a, cap, ys, x.s, x.t, x.mn, x.mg⟩ _ ⟨rfl, rfl, rfl, rfl, rfl, by simpa using hc⟩
      ⟨((hB.base g0).turn kc1 (by simp)).turn (kc3 _) (by simp), fun y hy => (((hok y hy).base g0).turn kc1 (by simp)).turn (kc3 _) (by simp), by rw [hyl]; exact hlen, by rw [hyl]; exact hx.lr, hx.f, hx.s, hx.t, hx.mn, hx.mg⟩ hS (by (repeat' (first | exact Grow.refl _ | assumption | (refine Grow.set ?_ (by assumption) (by first | exact (by simp only [*]) | exact (by simp [set_none', *]) | exact Grow.none (by assumption) (by simp [set_none', *]))) | (refine Grow.trans ?_ (by assumption)))))
end Go.Proofs.Ytdaipgnhconfnaa
