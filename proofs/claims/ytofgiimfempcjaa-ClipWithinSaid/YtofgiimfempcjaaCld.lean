/- Windows, by the program and by the document (layer 21). -/
import Derived.Test.YtofgiimfempcjaaClb
import Derived.Test.YtofgiimfempcjaaClc
set_option linter.unusedSimpArgs false
set_option linter.unusedVariables false
set_option maxRecDepth 100000
set_option maxHeartbeats 4000000
namespace Go.Proofs.Ytofgiimfempcjaa
open Go Go.HL Go.RowKit Pb
variable {w0 : World} {H : Heap} {K : Value → Heap → Prop}

theorem vcs_len (l : List (Nat → Int)) : (l.map VC).flatten.length = l.length * 4 := by
  rw [flat_len (sz := 4) _ fun r hr => by obtain ⟨z, -, rfl⟩ := List.mem_map.1 hr; rfl, List.length_map]
theorem vcs_one (l : List (Nat → Int)) : ((l.map VC).flatten).all Value.oneCell' = true := by
  rw [List.all_eq_true]
  intro v hv
  obtain ⟨r, hr, hv⟩ := List.mem_flatten.1 hv
  obtain ⟨z, -, rfl⟩ := List.mem_map.1 hr
  simp at hv
  rcases hv with rfl | rfl | rfl | rfl <;> rfl
/-- A slice of vectors that was there already, or that is the call's own. -/
structure VsAt (w0 : World) (H G : Heap) (a : Option Addr) (cap : Nat) (l : List (Nat → Int)) : Prop where
  at_ : SlAt w0 H a (l.map VC).flatten ∨ Bld w0 H G a cap 4 26 (l.map VC).flatten
  lc : l.length ≤ cap
  lm : l.length ≤ maxLen
  lr : l.length * 16 ≤ 140737488355328
  v : ∀ y ∈ l, V32 y
section
variable {G G' : Heap} {a : Option Addr} {cap : Nat} {l : List (Nat → Int)}
theorem VsAt.ok (h : VsAt w0 H G a cap l) (g : Grow w0 H G) : VsOk w0 G a cap l := ⟨by rcases h.at_ with e | e; exact e.grow g; exact e.slAt, h.lc, h.lm, h.lr, h.v⟩
theorem VsOk.old (h : VsOk w0 H a cap l) : VsAt w0 H G a cap l := ⟨.inl h.at_, h.lc, h.lm, h.lr, h.v⟩
theorem VsAt.next (h : VsAt w0 H G a cap l) (hk : ∀ c x, G c = some x → x.ty = 26 → G' c = some x) : VsAt w0 H G' a cap l := by
  refine ⟨?_, h.lc, h.lm, h.lr, h.v⟩
  rcases h.at_ with e | e
  · exact .inl e
  · rcases e with ⟨b, z, rfl, h1, h2, h3, h4⟩ | e
    · exact .inr (.inl ⟨b, z, rfl, h1, h2, hk b _ h3 rfl, h4⟩)
    · exact .inr (.inr e)
theorem VsAt.grow (h : VsAt w0 H G a cap l) (g : Grow w0 G G') : VsAt w0 H G' a cap l := h.next fun _ _ e _ => g.some e
end
/-- What is known of blocks of a type stays. -/
def KeepT (ty : TypeId) (G G' : Heap) : Prop := ∀ c x, G c = some x → x.ty = ty → G' c = some x
section
variable {G G' G2 : Heap} {ty : TypeId} {b : Nat} {y z : Blk}
theorem KeepT.refl : KeepT ty G G := fun _ _ e _ => e
theorem KeepT.trans (h : KeepT ty G G') (h' : KeepT ty G' G2) : KeepT ty G G2 := fun c x e t => h' c x (h c x e t) t
theorem KeepT.of (g : Grow w0 G G') : KeepT ty G G' := fun _ _ e _ => g.some e
theorem KeepT.set (h : KeepT ty G G') (hb : G' b = some y) (hy : y.ty ≠ ty) : KeepT ty G (G'.set b z) := fun c x e t => by
  have e' := h c x e t
  by_cases hc : c = b
  · subst hc; rw [hb] at e'; cases e'; exact (hy t).elim
  · rw [Heap.set_other _ _ hc]; exact e'
theorem KeepT.fresh (h : KeepT ty G G') (hb : G' b = none) : KeepT ty G (G'.set b z) := fun c x e t => by
  have e' := h c x e t
  by_cases hc : c = b
  · subst hc; rw [hb] at e'; cases e'
  · rw [Heap.set_other _ _ hc]; exact e'
theorem KeepT.app {a : Option Addr} {ty' : TypeId} (hk : ∀ c x, G c = some x → (x.ty = ty' → a ≠ some ⟨c, 0, none⟩) → G' c = some x) (hne : ty ≠ ty') : KeepT ty G G' := fun c x e t => hk c x e fun e' => (hne (t.symm.trans e')).elim
end
/-- A slice of vectors that is the call's own. -/
structure VsNew (w0 : World) (H G : Heap) (a : Option Addr) (cap : Nat) (l : List (Nat → Int)) : Prop where
  bld : Bld w0 H G a cap 4 26 (l.map VC).flatten
  lc : l.length ≤ cap
  lm : l.length ≤ maxLen
  lr : l.length * 16 ≤ 140737488355328
  v : ∀ y ∈ l, V32 y
section
variable {G G' H0 : Heap} {a : Option Addr} {cap : Nat} {l : List (Nat → Int)}
theorem VsAt.keep (h : VsAt w0 H G a cap l) (hk : KeepT 26 G G') : VsAt w0 H G' a cap l := h.next hk
theorem VsNew.keep (h : VsNew w0 H G a cap l) (hk : KeepT 26 G G') : VsNew w0 H G' a cap l := by
  refine ⟨?_, h.lc, h.lm, h.lr, h.v⟩
  rcases h.bld with ⟨b, z, rfl, h1, h2, h3, h4⟩ | e
  · exact .inl ⟨b, z, rfl, h1, h2, hk b _ h3 rfl, h4⟩
  · exact .inr e
theorem VsNew.base (h : VsNew w0 H G a cap l) (g : Grow w0 H0 H) : VsNew w0 H0 G a cap l := ⟨h.bld.base g, h.lc, h.lm, h.lr, h.v⟩
theorem VsNew.at (h : VsNew w0 H G a cap l) : VsAt w0 H G a cap l := ⟨.inr h.bld, h.lc, h.lm, h.lr, h.v⟩
theorem VsNew.ok (h : VsNew w0 H G a cap l) : VsOk w0 G a cap l := ⟨h.bld.slAt, h.lc, h.lm, h.lr, h.v⟩
end
/- slices Clone[[]paintbox/api Vec,paintbox/api Vec] -/
def M36 : MC :=
  .seq (.reg [⟨(some 2), .mv (.const (.slice none 0 0)), none⟩])
  (.seq (.seq (.reg [⟨(some 3), .mv (.tmp 0), none⟩,
       ⟨(some 4), .eqs false (.tmp 3) (.const (.slice none 0 0)), none⟩])
    (.cond (.tmp 4)
     (.seq (.reg [⟨(some 2), .mv (.const (.slice none 0 0)), none⟩])
      (.ret))
     (.skip)))
   (.seq (.reg [⟨(some 5), .bslice 26 0 [] [], none⟩,
       ⟨(some 6), .mv (.tmp 0), none⟩,
       ⟨(some 7), .app 26 4 16 [(.int .i32 0), (.int .i32 0), (.int .i32 0), (.int .i32 0)] (.tmp 5) (.tmp 6), none⟩,
       ⟨(some 2), .mv (.tmp 7), none⟩])
    (.ret)))
theorem k36 : fnOk Try.prog 36 = some (M36, [.t 2], 8) := by kernel_rfl

theorem c_cloneV (a : Option Addr) (c : Nat) (l : List (Nat → Int)) (hA : VsOk w0 H a c l)
    (h : ∀ a' cap' H', VsNew w0 H H' a' cap' l → Grow w0 H H' → K (.slice a' l.length cap') H') :
    HCalls Try.prog w0 36 [.slice a l.length c] H K := by
  have hlm := hA.lm
  have hlr := hA.lr
  have hv := hA.v
  have hA := hA.at_
  cases a with
  | none =>
    have e : l = [] := Classical.byContradiction fun hl => by
      obtain ⟨b, o, e, -⟩ := hA (by
        intro e
        have := congrArg List.length e
        rw [vcs_len] at this
        have h3 : l.length * 4 = 0 := by simpa only [List.length_nil] using this
        exact hl (List.length_eq_zero_iff.1 (by omega)))
      cases e
    subst e
    have h := h none 0 H ⟨Bld.none, Nat.le_refl _, by decide, by decide, by simp⟩ (Grow.refl _)
    clear hA
    refine HL.hc k36 999 ?_; unfold M36
    (all_goals (refine (fun f : True → _ => f trivial) ?_)); repeat' ((first | (with_reducible refine fun _ : True => ?_) | (refine AllocQ_i ?_; intro bk hb0 hbk; (try simp only [set_none'] at hbk); (try (first | have hbn := Grow.none (by assumption) hbk | have hbn := Grow.none (by assumption) hbk.2 | have hbn := Grow.none (by assumption) hbk.2.2 | have hbn := Grow.none (by assumption) hbk.2.2.2 | have hbn := Grow.none (by assumption) hbk.2.2.2.2 | have hbn := Grow.none (by assumption) hbk.2.2.2.2.2)); (try simp only [set_none'] at hbn); (try (first | have hbm := Grow.none (by assumption) hbn | have hbm := Grow.none (by assumption) hbn.2 | have hbm := Grow.none (by assumption) hbn.2.2 | have hbm := Grow.none (by assumption) hbn.2.2.2 | have hbm := Grow.none (by assumption) hbn.2.2.2.2 | have hbm := Grow.none (by assumption) hbn.2.2.2.2.2)); (try simp only [set_none'] at hbm)) | ((first | refine condS_i ?_ ?_ | refine pick_i ?_ ?_ | refine gS_it ?_ ?_ | refine gS_if ?_ ?_ | refine gP_it ?_ ?_ | refine gP_if ?_ ?_) <;> (intro hc; try simp only [Int.reduceLE,Int.reduceLT,Int.reduceEq,and_self,not_true_eq_false,not_false_eq_true,and_true,true_and,false_and,and_false,true_or,or_true,false_or,or_false,decide_eq_true_eq,decide_eq_false_iff_not,beq_iff_eq,beq_eq_false_iff_ne,bne_iff_ne,ne_eq,gt_iff_lt,ge_iff_le,Bool.not_eq_true,Bool.not_eq_false,Bool.not_eq_true',Bool.not_eq_false',Bool.not_eq_eq_eq_not,Bool.not_true,Bool.not_false] at hc)) | (refine KP_i (by (repeat' (first | exact Heap.Le.refl _ | (refine Le_known (by first | (simp only [Heap.set_same, set_ne, ne_eq, not_false_eq_true, *] <;> rfl) | fail) ?_) | (refine Le_fresh (by first | (simp only [*] <;> done) | (simp [set_none', Heap.set_same, set_ne, *] <;> done) | fail) ?_) | (refine Heap.Le.trans ?_ (Grow.le (by assumption)))))) ?_) | (with_reducible refine And.intro ?_ ?_)) <;> (try simp only [Sh,Si,Sl,Bu,Bb,Bd,Bc,Bw,Bn,Int.reduceAdd,Int.reduceSub,Int.reduceMul,Int.reduceTDiv,Int.reduceTMod,Int.reduceMod,Int.reduceDiv,Nat.reduceLT,Nat.reduceEqDiff,decide_true,decide_false,Sa,Sb,Sc,Sd,Se,Sf,Sg,true_and,and_true,and_self,eq_self,b_i64,b_i32,b_u64,b_u32,b_u8,Int.reduceLE,Int.reduceLT,Int.reduceToNat,Int.reduceNeg,Int.reduceEq,Nat.reduceLeDiff,Nat.reducePow,Int.reducePow,Nat.min_def,reduceIte,Nat.reduceSub,Nat.reduceAdd,Nat.reduceMul,KP_same,KP_f,condS_t,condS_f,pick_t,pick_f,gS_tt,gS_ff,gS_tf,gS_ft,gS_u,gP_tt,gP_ff,gP_tf,gP_ft,gP_u,ptrV_eq,slcV_eq,cells_agg,cells_int,cells_bool,cells_ptr,cells_slice,oc_int,oc_bool,oc_slice,oc_ptr,rd1_set,rd1_ne,rdn_set,rdn_ne,Heap.set_same,set_ne,Heap.set_set,set_up,set_up2,set_up3,putAt,ceq,List.map_cons,List.map_nil,List.length_cons,List.length_nil,List.length_set,List.cons_append,List.nil_append,List.append_nil,List.replicate,List.size_toArray,List.all_cons,List.all_nil,Bool.and_self,Bool.and_true,List.drop_zero,List.drop_succ_cons,List.take_succ_cons,List.take_zero,List.set_cons_zero,List.set_cons_succ,List.getElem?_cons_zero,List.getElem?_cons_succ,Option.map_some,Option.map_none,ne_eq,not_false_eq_true,not_true_eq_false,gt_iff_lt,ge_iff_le,Int.one_mul,Nat.zero_add,Nat.zero_mul,Bool.not_true,Bool.not_false,Bool.false_eq_true,Bool.and_false,Bool.false_and,Bool.true_and, *]))
    all_goals first
      | exact Fin_mk (Heap.Le.refl _) h
      | (exact absurd hc (by decide))
  | some ad =>
    refine HL.hc k36 999 ?_; unfold M36
    (all_goals (refine (fun f : True → _ => f trivial) ?_)); repeat' ((first | (with_reducible refine fun _ : True => ?_) | (refine AllocQ_i ?_; intro bk hb0 hbk; (try simp only [set_none'] at hbk); (try (first | have hbn := Grow.none (by assumption) hbk | have hbn := Grow.none (by assumption) hbk.2 | have hbn := Grow.none (by assumption) hbk.2.2 | have hbn := Grow.none (by assumption) hbk.2.2.2 | have hbn := Grow.none (by assumption) hbk.2.2.2.2 | have hbn := Grow.none (by assumption) hbk.2.2.2.2.2)); (try simp only [set_none'] at hbn); (try (first | have hbm := Grow.none (by assumption) hbn | have hbm := Grow.none (by assumption) hbn.2 | have hbm := Grow.none (by assumption) hbn.2.2 | have hbm := Grow.none (by assumption) hbn.2.2.2 | have hbm := Grow.none (by assumption) hbn.2.2.2.2 | have hbm := Grow.none (by assumption) hbn.2.2.2.2.2)); (try simp only [set_none'] at hbm)) | ((first | refine condS_i ?_ ?_ | refine pick_i ?_ ?_ | refine gS_it ?_ ?_ | refine gS_if ?_ ?_ | refine gP_it ?_ ?_ | refine gP_if ?_ ?_) <;> (intro hc; try simp only [Int.reduceLE,Int.reduceLT,Int.reduceEq,and_self,not_true_eq_false,not_false_eq_true,and_true,true_and,false_and,and_false,true_or,or_true,false_or,or_false,decide_eq_true_eq,decide_eq_false_iff_not,beq_iff_eq,beq_eq_false_iff_ne,bne_iff_ne,ne_eq,gt_iff_lt,ge_iff_le,Bool.not_eq_true,Bool.not_eq_false,Bool.not_eq_true',Bool.not_eq_false',Bool.not_eq_eq_eq_not,Bool.not_true,Bool.not_false] at hc)) | (refine KP_i (by (repeat' (first | exact Heap.Le.refl _ | (refine Le_known (by first | (simp only [Heap.set_same, set_ne, ne_eq, not_false_eq_true, *] <;> rfl) | fail) ?_) | (refine Le_fresh (by first | (simp only [*] <;> done) | (simp [set_none', Heap.set_same, set_ne, *] <;> done) | fail) ?_) | (refine Heap.Le.trans ?_ (Grow.le (by assumption)))))) ?_) | (with_reducible refine And.intro ?_ ?_)) <;> (try simp only [Sh,Si,Sl,Bu,Bb,Bd,Bc,Bw,Bn,Int.reduceAdd,Int.reduceSub,Int.reduceMul,Int.reduceTDiv,Int.reduceTMod,Int.reduceMod,Int.reduceDiv,Nat.reduceLT,Nat.reduceEqDiff,decide_true,decide_false,Sa,Sb,Sc,Sd,Se,Sf,Sg,true_and,and_true,and_self,eq_self,b_i64,b_i32,b_u64,b_u32,b_u8,Int.reduceLE,Int.reduceLT,Int.reduceToNat,Int.reduceNeg,Int.reduceEq,Nat.reduceLeDiff,Nat.reducePow,Int.reducePow,Nat.min_def,reduceIte,Nat.reduceSub,Nat.reduceAdd,Nat.reduceMul,KP_same,KP_f,condS_t,condS_f,pick_t,pick_f,gS_tt,gS_ff,gS_tf,gS_ft,gS_u,gP_tt,gP_ff,gP_tf,gP_ft,gP_u,ptrV_eq,slcV_eq,cells_agg,cells_int,cells_bool,cells_ptr,cells_slice,oc_int,oc_bool,oc_slice,oc_ptr,rd1_set,rd1_ne,rdn_set,rdn_ne,Heap.set_same,set_ne,Heap.set_set,set_up,set_up2,set_up3,putAt,ceq,List.map_cons,List.map_nil,List.length_cons,List.length_nil,List.length_set,List.cons_append,List.nil_append,List.append_nil,List.replicate,List.size_toArray,List.all_cons,List.all_nil,Bool.and_self,Bool.and_true,List.drop_zero,List.drop_succ_cons,List.take_succ_cons,List.take_zero,List.set_cons_zero,List.set_cons_succ,List.getElem?_cons_zero,List.getElem?_cons_succ,Option.map_some,Option.map_none,ne_eq,not_false_eq_true,not_true_eq_false,gt_iff_lt,ge_iff_le,Int.one_mul,Nat.zero_add,Nat.zero_mul,Bool.not_true,Bool.not_false,Bool.false_eq_true,Bool.and_false,Bool.false_and,Bool.true_and, *]))
    have hg0 : Grow w0 H (H.set bk ⟨26, []⟩) := (by (repeat' (first | exact Grow.refl _ | assumption | (refine Grow_known (by first | (simp only [Heap.set_same, set_ne, ne_eq, not_false_eq_true, *] <;> rfl) | fail) ?_) | (refine Grow.set ?_ (by assumption) (by first | (simp only [*] <;> done) | (simp [set_none', Heap.set_same, set_ne, *] <;> done) | fail)) | (refine Grow.trans ?_ (by assumption)))))
    refine app_bld (H := H.set bk ⟨26, []⟩) (n := 0) (m := l.length) (cs := []) (ns := (l.map VC).flatten) Bld.none rfl rfl (by have := (hA.grow hg0).srd; rw [vcs_len] at this; exact this) (vcs_len l) (Grow.refl _) ⟨by omega, by unfold maxLen at hlm; omega⟩ (vcs_one l) (fun a' cap' G' hB hg' hk' hc' => ?_)
    rw [Nat.zero_add] at hc' ⊢
    have gF : Grow w0 H G' := hg0.trans hg'
    have hB' : Bld w0 H G' a' cap' 4 26 (l.map VC).flatten := (by simpa using hB : Bld w0 _ G' a' cap' 4 _ (l.map VC).flatten).base hg0
    have h := h a' cap' G' ⟨hB', hc', hlm, hlr, hv⟩ gF
    (all_goals (refine (fun f : True → _ => f trivial) ?_)); repeat' ((first | (with_reducible refine fun _ : True => ?_) | (refine AllocQ_i ?_; intro bk hb0 hbk; (try simp only [set_none'] at hbk); (try (first | have hbn := Grow.none (by assumption) hbk | have hbn := Grow.none (by assumption) hbk.2 | have hbn := Grow.none (by assumption) hbk.2.2 | have hbn := Grow.none (by assumption) hbk.2.2.2 | have hbn := Grow.none (by assumption) hbk.2.2.2.2 | have hbn := Grow.none (by assumption) hbk.2.2.2.2.2)); (try simp only [set_none'] at hbn); (try (first | have hbm := Grow.none (by assumption) hbn | have hbm := Grow.none (by assumption) hbn.2 | have hbm := Grow.none (by assumption) hbn.2.2 | have hbm := Grow.none (by assumption) hbn.2.2.2 | have hbm := Grow.none (by assumption) hbn.2.2.2.2 | have hbm := Grow.none (by assumption) hbn.2.2.2.2.2)); (try simp only [set_none'] at hbm)) | ((first | refine condS_i ?_ ?_ | refine pick_i ?_ ?_ | refine gS_it ?_ ?_ | refine gS_if ?_ ?_ | refine gP_it ?_ ?_ | refine gP_if ?_ ?_) <;> (intro hc; try simp only [Int.reduceLE,Int.reduceLT,Int.reduceEq,and_self,not_true_eq_false,not_false_eq_true,and_true,true_and,false_and,and_false,true_or,or_true,false_or,or_false,decide_eq_true_eq,decide_eq_false_iff_not,beq_iff_eq,beq_eq_false_iff_ne,bne_iff_ne,ne_eq,gt_iff_lt,ge_iff_le,Bool.not_eq_true,Bool.not_eq_false,Bool.not_eq_true',Bool.not_eq_false',Bool.not_eq_eq_eq_not,Bool.not_true,Bool.not_false] at hc)) | (refine KP_i (by (repeat' (first | exact Heap.Le.refl _ | (refine Le_known (by first | (simp only [Heap.set_same, set_ne, ne_eq, not_false_eq_true, *] <;> rfl) | fail) ?_) | (refine Le_fresh (by first | (simp only [*] <;> done) | (simp [set_none', Heap.set_same, set_ne, *] <;> done) | fail) ?_) | (refine Heap.Le.trans ?_ (Grow.le (by assumption)))))) ?_) | (with_reducible refine And.intro ?_ ?_)) <;> (try simp only [Sh,Si,Sl,Bu,Bb,Bd,Bc,Bw,Bn,Int.reduceAdd,Int.reduceSub,Int.reduceMul,Int.reduceTDiv,Int.reduceTMod,Int.reduceMod,Int.reduceDiv,Nat.reduceLT,Nat.reduceEqDiff,decide_true,decide_false,Sa,Sb,Sc,Sd,Se,Sf,Sg,true_and,and_true,and_self,eq_self,b_i64,b_i32,b_u64,b_u32,b_u8,Int.reduceLE,Int.reduceLT,Int.reduceToNat,Int.reduceNeg,Int.reduceEq,Nat.reduceLeDiff,Nat.reducePow,Int.reducePow,Nat.min_def,reduceIte,Nat.reduceSub,Nat.reduceAdd,Nat.reduceMul,KP_same,KP_f,condS_t,condS_f,pick_t,pick_f,gS_tt,gS_ff,gS_tf,gS_ft,gS_u,gP_tt,gP_ff,gP_tf,gP_ft,gP_u,ptrV_eq,slcV_eq,cells_agg,cells_int,cells_bool,cells_ptr,cells_slice,oc_int,oc_bool,oc_slice,oc_ptr,rd1_set,rd1_ne,rdn_set,rdn_ne,Heap.set_same,set_ne,Heap.set_set,set_up,set_up2,set_up3,putAt,ceq,List.map_cons,List.map_nil,List.length_cons,List.length_nil,List.length_set,List.cons_append,List.nil_append,List.append_nil,List.replicate,List.size_toArray,List.all_cons,List.all_nil,Bool.and_self,Bool.and_true,List.drop_zero,List.drop_succ_cons,List.take_succ_cons,List.take_zero,List.set_cons_zero,List.set_cons_succ,List.getElem?_cons_zero,List.getElem?_cons_succ,Option.map_some,Option.map_none,ne_eq,not_false_eq_true,not_true_eq_false,gt_iff_lt,ge_iff_le,Int.one_mul,Nat.zero_add,Nat.zero_mul,Bool.not_true,Bool.not_false,Bool.false_eq_true,Bool.and_false,Bool.false_and,Bool.true_and, *]))
    exact Fin_mk (Heap.Le.refl _) h
/-- A corner in the window. -/
structure Wn where
  x : Int
  y : Int
  z : Int
  w : Int
  s : Int
  l : List (Nat → Int)
structure WnR extends Wn where
  a : Option Addr
  cap : Nat
def WnR.row (x : WnR) : List Value := [.int .i64 x.x, .int .i64 x.y, .int .i32 x.z, .int .i32 x.w, .int .i32 x.s, .slice x.a x.l.length x.cap]
def WnR.v (x : WnR) : Value := .agg #[.int .i64 x.x, .int .i64 x.y, .int .i32 x.z, .int .i32 x.w, .int .i32 x.s, .slice x.a x.l.length x.cap]
/-- Where a corner lies in the window. -/
def winA (v : Vw) (p : Vt) : Wn := ⟨winX v.x v.w (wpart (p.p 0) (p.p 3)), winX v.y v.h (wpart (p.p 1) (p.p 3)), winZ v.n v.f (wpart (p.p 2) (p.p 3)), p.p 3, p.s, p.l⟩
/- clip window 1 -/
def M47 : MC :=
  .seq (.reg [⟨(some 3), .mv (.const (.int .i32 0)), none⟩])
  (.seq (.reg [⟨(some 4), .mv (.tmp 0), none⟩,
      ⟨(some 5), .fa 0 (.tmp 1), none⟩,
      ⟨(some 6), .ia 4 1 (.tmp 5) (.const (.int .i64 3)), none⟩,
      ⟨(some 7), .ld1 (.tmp 6), none⟩,
      ⟨(some 8), .call 48 [(.tmp 4), (.tmp 7)], none⟩,
      ⟨(some 9), .mx (.tmp 8) (.const (.int .i32 (-65536))), none⟩,
      ⟨(some 10), .mn (.tmp 9) (.const (.int .i32 65536)), none⟩,
      ⟨(some 11), .bin .add (.tmp 10) (.const (.int .i32 65536)), none⟩,
      ⟨(some 3), .mv (.tmp 11), none⟩])
   (.ret))
theorem k47 : fnOk Try.prog 47 = some (M47, [.t 3], 12) := by kernel_rfl

theorem c_part (x : VtR) (a : Int) (b : Nat) {t : TypeId} (ha : I32 a) (hx : V32 x.p) (hb : H b = some ⟨t, x.row⟩) (h : K (.int .i32 (wpart a (x.p 3))) H) : HCalls Try.prog w0 47 [.int .i32 a, ptrV b] H K := by
  have key : ∀ (G : Heap) (y : Int), Heap.Le H G → y = wpart a (x.p 3) → HL.Fin K (.int .i32 y) G := fun G y g e => by subst e; exact Fin_mk g h
  clear h
  unfold VtR.row at hb
  have r3 : rd1 w0 H b 3 = some (.int .i32 (x.p 3)) := by simp [rd1, hb]
  have hd : ∀ y z, I32 (fdiv y z) := fun y z => fdiv_I32
  have hp := wpart_le a (x.p 3)
  have hw : IntKind.i32.wrap (wpart a (x.p 3)) = wpart a (x.p 3) := Bw.2 _ (by omega) (by omega)
  refine HL.hc k47 999 ?_; unfold M47
  (all_goals (refine (fun f : True → _ => f trivial) ?_)); repeat' ((first | (with_reducible refine fun _ : True => ?_) | refine c_Div _ _ ha (hx 3) ?_ | (refine AllocQ_i ?_; intro bk hb0 hbk; try simp only [set_none'] at hbk) | ((first | refine condS_i ?_ ?_ | refine pick_i ?_ ?_ | refine gS_it ?_ ?_ | refine gS_if ?_ ?_ | refine gP_it ?_ ?_ | refine gP_if ?_ ?_) <;> (intro hc; try simp only [Int.reduceLE,Int.reduceLT,Int.reduceEq,and_self,not_true_eq_false,not_false_eq_true,and_true,true_and,false_and,and_false,true_or,or_true,false_or,or_false,decide_eq_true_eq,decide_eq_false_iff_not,beq_iff_eq,beq_eq_false_iff_ne,bne_iff_ne,ne_eq,gt_iff_lt,ge_iff_le,Bool.not_eq_true,Bool.not_eq_false,Bool.not_eq_true',Bool.not_eq_false',Bool.not_eq_eq_eq_not,Bool.not_true,Bool.not_false] at hc)) | (refine KP_i (by (repeat' (first | exact Heap.Le.refl _ | (refine Le_fresh (by first | exact (by simp only [*]) | exact (by simp [set_none', *])) ?_) | (refine Heap.Le.trans ?_ (Grow.le (by assumption)))))) ?_) | (with_reducible refine And.intro ?_ ?_)) <;> (try simp only [Sh,Si,Sl,Bu,Bb,Bd,Bc,Bw,Bn,Int.reduceAdd,Int.reduceSub,Int.reduceMul,Int.reduceTDiv,Int.reduceTMod,Int.reduceMod,Int.reduceDiv,Nat.reduceLT,Nat.reduceEqDiff,decide_true,decide_false,Sa,Sb,Sc,Sd,Se,Sf,Sg,true_and,and_true,and_self,eq_self,b_i64,b_i32,b_u64,b_u32,b_u8,Int.reduceLE,Int.reduceLT,Int.reduceToNat,Int.reduceNeg,Int.reduceEq,Nat.reduceLeDiff,Nat.reducePow,Int.reducePow,Nat.min_def,reduceIte,Nat.reduceSub,Nat.reduceAdd,Nat.reduceMul,KP_same,KP_f,condS_t,condS_f,pick_t,pick_f,gS_tt,gS_ff,gS_tf,gS_ft,gS_u,gP_tt,gP_ff,gP_tf,gP_ft,gP_u,ptrV_eq,slcV_eq,cells_agg,cells_int,cells_bool,cells_ptr,cells_slice,oc_int,oc_bool,oc_slice,oc_ptr,rd1_set,rd1_ne,rdn_set,rdn_ne,Heap.set_same,set_ne,Heap.set_set,set_up,set_up2,set_up3,putAt,ceq,List.map_cons,List.map_nil,List.length_cons,List.length_nil,List.length_set,List.cons_append,List.nil_append,List.append_nil,List.replicate,List.size_toArray,List.all_cons,List.all_nil,Bool.and_self,Bool.and_true,List.drop_zero,List.drop_succ_cons,List.take_succ_cons,List.take_zero,List.set_cons_zero,List.set_cons_succ,List.getElem?_cons_zero,List.getElem?_cons_succ,Option.map_some,Option.map_none,ne_eq,not_false_eq_true,not_true_eq_false,gt_iff_lt,ge_iff_le,Int.one_mul,Nat.zero_add,Nat.zero_mul,Bool.not_true,Bool.not_false,Bool.false_eq_true,Bool.and_false,Bool.false_and,Bool.true_and, *]))
  all_goals (refine key _ _ (by (repeat' (first | exact Heap.Le.refl _ | (refine Le_known (by first | (simp only [Heap.set_same, set_ne, ne_eq, not_false_eq_true, *] <;> rfl) | fail) ?_) | (refine Le_fresh (by first | (simp only [*] <;> done) | (simp [set_none', Heap.set_same, set_ne, *] <;> done) | fail) ?_) | (refine Heap.Le.trans ?_ (Grow.le (by assumption)))))) ?_)
  all_goals exact hw
theorem root4 {G : Heap} {b c d f : Nat} {x y z u : Blk} (h : G b = some x) (h2 : G c = some y) (h3 : G d = some z) (h4 : G f = some u) : G = (((G.set b x).set c y).set d z).set f u := by rw [Heap.set_id G b x h, Heap.set_id G c y h2, Heap.set_id G d z h3, Heap.set_id G f u h4]
theorem root5 {G : Heap} {b c d f g : Nat} {x y z u v : Blk} (h : G b = some x) (h2 : G c = some y) (h3 : G d = some z) (h4 : G f = some u) (h5 : G g = some v) : G = ((((G.set b x).set c y).set d z).set f u).set g v := by rw [Heap.set_id G b x h, Heap.set_id G c y h2, Heap.set_id G d z h3, Heap.set_id G f u h4, Heap.set_id G g v h5]
theorem winA_le {v : Vw} (hv : v.right) (p : Vt) : (256 * v.x ≤ (winA v p).x ∧ (winA v p).x ≤ 256 * (v.x + v.w)) ∧ (256 * v.y ≤ (winA v p).y ∧ (winA v p).y ≤ 256 * (v.y + v.h)) := by
  obtain ⟨hx, hy, hw, hh, -⟩ := hv
  have h1 := winX_le hx hw (wpart_le (p.p 0) (p.p 3))
  have h2 := winX_le hy hh (wpart_le (p.p 1) (p.p 3))
  exact ⟨⟨h1.1, h1.2.1⟩, ⟨h2.1, h2.2.1⟩⟩
def A35_1 : PT := (.one true true ⟨(some 8), .fa 0 (.tmp 3), none⟩ (.one true true ⟨(some 9), .ia 4 1 (.tmp 8) (.const (.int .i64 3)), none⟩ (.one true true ⟨(some 10), .ld1 (.tmp 9), none⟩ (.one true true ⟨(some 11), .fa 4 (.tmp 3), none⟩ (.one true true ⟨(some 12), .ld1 (.tmp 11), none⟩ (.one true true ⟨(some 13), .fa 5 (.tmp 3), none⟩ (.one true true ⟨(some 14), .ld1 (.tmp 13), none⟩ (.alt (.one false true ⟨(some 15), .call 36 [(.tmp 14)], none⟩ (.one true true ⟨(some 16), .build [(.int .i64 0), (.int .i64 0), (.int .i32 0), (.int .i32 0), (.int .i32 0), (.slice none 0 0)] [(3, 1, (.tmp 10)), (4, 1, (.tmp 12)), (5, 1, (.tmp 15))], none⟩ (.one false true ⟨(some 6), .alloc 44 [(.int .i64 0), (.int .i64 0), (.int .i32 0), (.int .i32 0), (.int .i32 0), (.slice none 0 0)], none⟩ (.one false false ⟨none, .stn 6 (.tmp 6) (.tmp 16), none⟩ .nil))))
      (.one false true ⟨(some 6), .alloc 44 [(.int .i64 0), (.int .i64 0), (.int .i32 0), (.int .i32 0), (.int .i32 0), (.slice none 0 0)], none⟩ (.one false true ⟨(some 15), .call 36 [(.tmp 14)], none⟩ (.one false true ⟨(some 16), .build [(.int .i64 0), (.int .i64 0), (.int .i32 0), (.int .i32 0), (.int .i32 0), (.slice none 0 0)] [(3, 1, (.tmp 10)), (4, 1, (.tmp 12)), (5, 1, (.tmp 15))], none⟩ (.one false false ⟨none, .stn 6 (.tmp 6) (.tmp 16), none⟩ .nil))))))))))))
/- clip window -/
def M35 : MC :=
  .seq (.reg [⟨(some 2), .box 24 (.tmp 0), none⟩,
     ⟨(some 3), .box 29 (.tmp 1), none⟩,
     ⟨(some 4), .alloc 44 [(.int .i64 0), (.int .i64 0), (.int .i32 0), (.int .i32 0), (.int .i32 0), (.slice none 0 0)], none⟩])
  (.seq (.reg [⟨(some 7), .fn 47 [(.tmp 3)], none⟩,
      ⟨(some 5), .mv (.tmp 7), none⟩])
   (.seq (.alts A35_1)
    (.seq (.any [(true, true, ⟨(some 17), .fa 0 (.tmp 2), none⟩),
        (true, true, ⟨(some 18), .ld1 (.tmp 17), none⟩),
        (true, true, ⟨(some 19), .bin .mul (.const (.int .i64 256)) (.tmp 18), none⟩),
        (true, true, ⟨(some 20), .mv (.tmp 5), none⟩),
        (true, true, ⟨(some 21), .fa 0 (.tmp 3), none⟩),
        (true, true, ⟨(some 22), .ia 4 1 (.tmp 21) (.const (.int .i64 0)), none⟩),
        (true, true, ⟨(some 23), .ld1 (.tmp 22), none⟩),
        (true, true, ⟨(some 26), .fa 2 (.tmp 2), none⟩),
        (true, true, ⟨(some 27), .ld1 (.tmp 26), none⟩),
        (false, true, ⟨(some 24), .callv (.tmp 20) [(.tmp 23)], none⟩),
        (false, true, ⟨(some 25), .conv .i64 (.tmp 24), none⟩),
        (false, true, ⟨(some 28), .bin .mul (.tmp 25) (.tmp 27), none⟩),
        (false, true, ⟨(some 29), .bin .shr (.tmp 28) (.const (.int .u64 9)), none⟩),
        (false, false, ⟨(some 30), .bin .add (.tmp 19) (.tmp 29), none⟩),
        (false, false, ⟨(some 31), .fa 0 (.tmp 6), none⟩),
        (false, false, ⟨none, .st1 (.tmp 31) (.tmp 30), none⟩)])
     (.seq (.any [(true, true, ⟨(some 32), .fa 1 (.tmp 2), none⟩),
         (true, true, ⟨(some 33), .ld1 (.tmp 32), none⟩),
         (true, true, ⟨(some 34), .bin .mul (.const (.int .i64 256)) (.tmp 33), none⟩),
         (true, true, ⟨(some 35), .mv (.tmp 5), none⟩),
         (true, true, ⟨(some 36), .fa 0 (.tmp 3), none⟩),
         (true, true, ⟨(some 37), .ia 4 1 (.tmp 36) (.const (.int .i64 1)), none⟩),
         (true, true, ⟨(some 38), .ld1 (.tmp 37), none⟩),
         (true, true, ⟨(some 41), .fa 3 (.tmp 2), none⟩),
         (true, true, ⟨(some 42), .ld1 (.tmp 41), none⟩),
         (false, true, ⟨(some 39), .callv (.tmp 35) [(.tmp 38)], none⟩),
         (false, true, ⟨(some 40), .conv .i64 (.tmp 39), none⟩),
         (false, true, ⟨(some 43), .bin .mul (.tmp 40) (.tmp 42), none⟩),
         (false, true, ⟨(some 44), .bin .shr (.tmp 43) (.const (.int .u64 9)), none⟩),
         (false, false, ⟨(some 45), .bin .add (.tmp 34) (.tmp 44), none⟩),
         (false, false, ⟨(some 46), .fa 1 (.tmp 6), none⟩),
         (false, false, ⟨none, .st1 (.tmp 46) (.tmp 45), none⟩)])
      (.seq (.any [(true, true, ⟨(some 47), .fa 4 (.tmp 2), none⟩),
          (true, true, ⟨(some 48), .ld1 (.tmp 47), none⟩),
          (true, true, ⟨(some 49), .fa 5 (.tmp 2), none⟩),
          (true, true, ⟨(some 50), .ld1 (.tmp 49), none⟩),
          (true, true, ⟨(some 51), .fa 4 (.tmp 2), none⟩),
          (true, true, ⟨(some 52), .ld1 (.tmp 51), none⟩),
          (true, true, ⟨(some 54), .mv (.tmp 5), none⟩),
          (true, true, ⟨(some 55), .fa 0 (.tmp 3), none⟩),
          (true, true, ⟨(some 56), .ia 4 1 (.tmp 55) (.const (.int .i64 2)), none⟩),
          (true, true, ⟨(some 57), .ld1 (.tmp 56), none⟩),
          (false, true, ⟨(some 53), .call 45 [(.tmp 50), (.tmp 52)], none⟩),
          (false, true, ⟨(some 58), .callv (.tmp 54) [(.tmp 57)], none⟩),
          (false, true, ⟨(some 59), .bin .shr (.tmp 58) (.const (.int .u64 1)), none⟩),
          (false, true, ⟨(some 60), .call 49 [(.tmp 53), (.tmp 59)], none⟩),
          (false, false, ⟨(some 61), .call 46 [(.tmp 48), (.tmp 60)], none⟩),
          (false, false, ⟨(some 62), .fa 2 (.tmp 6), none⟩),
          (false, false, ⟨none, .st1 (.tmp 62) (.tmp 61), none⟩)])
       (.seq (.reg [⟨(some 63), .ldn 6 (.tmp 6), none⟩,
           ⟨none, .stn 6 (.tmp 4) (.tmp 63), none⟩])
        (.ret)))))))
theorem k35 : fnOk Try.prog 35 = some (M35, [.cn 6 4], 64) := by kernel_rfl

set_option maxHeartbeats 8000000 in
theorem c_window (v : Vw) (x : VtR) (hv : v.right) (hx : VtOk w0 H x)
    (h : ∀ a' cap' H', VsNew w0 H H' a' cap' x.l → Grow w0 H H' → K (WnR.mk (winA v x.toVt) a' cap').v H') : HCalls Try.prog w0 35 [v.v, x.v] H K := by
  have hp := hx.p
  have hs := hx.s
  have hvs := hx.vs
  have o1 : ∀ i j, 0 ≤ wpart i j ∧ wpart i j ≤ 131072 := fun i j => wpart_le i j
  obtain ⟨v1, v2, v3, v4, v5, v6, v7, v8⟩ := hv
  have p0 := winX_le v1 v3 (o1 (x.p 0) (x.p 3))
  have p1 := winX_le v2 v4 (o1 (x.p 1) (x.p 3))
  have wv : ∀ y : Nat → Int, I32 (y 0) → True := fun _ _ => trivial
  have nI : I32 v.n := by unfold I32; omega
  have fI : I32 v.f := by unfold I32; omega
  obtain ⟨hd, he⟩ := o1 (x.p 2) (x.p 3)
  have zI : I32 (wpart (x.p 2) (x.p 3) / 2) := by unfold I32; omega
  have cP : ∀ (i : Nat) (b : Nat) (t : TypeId) (G : Heap) (K : Value → Heap → Prop), G b = some ⟨t, x.row⟩ → K (.int .i32 (wpart (x.p i) (x.p 3))) G → HCalls Try.prog w0 47 [.int .i32 (x.p i), ptrV b] G K := fun i b t G K hb h => c_part x _ b (hp i) hp hb h
  unfold VtR.row at cP
  unfold VtR.v Vw.v
  unfold WnR.v at h
  refine HL.hc k35 999 ?_; unfold M35
  (all_goals (refine (fun f : True → _ => f trivial) ?_)); repeat' ((first | (with_reducible refine fun _ : True => ?_) | (refine AllocQ_i ?_; intro bk hb0 hbk; (try simp only [set_none'] at hbk); (try (first | have hbn := Grow.none (by assumption) hbk | have hbn := Grow.none (by assumption) hbk.2 | have hbn := Grow.none (by assumption) hbk.2.2 | have hbn := Grow.none (by assumption) hbk.2.2.2 | have hbn := Grow.none (by assumption) hbk.2.2.2.2 | have hbn := Grow.none (by assumption) hbk.2.2.2.2.2)); (try simp only [set_none'] at hbn); (try (first | have hbm := Grow.none (by assumption) hbn | have hbm := Grow.none (by assumption) hbn.2 | have hbm := Grow.none (by assumption) hbn.2.2 | have hbm := Grow.none (by assumption) hbn.2.2.2 | have hbm := Grow.none (by assumption) hbn.2.2.2.2 | have hbm := Grow.none (by assumption) hbn.2.2.2.2.2)); (try simp only [set_none'] at hbm)) | ((first | refine condS_i ?_ ?_ | refine pick_i ?_ ?_ | refine gS_it ?_ ?_ | refine gS_if ?_ ?_ | refine gP_it ?_ ?_ | refine gP_if ?_ ?_) <;> (intro hc; try simp only [Int.reduceLE,Int.reduceLT,Int.reduceEq,and_self,not_true_eq_false,not_false_eq_true,and_true,true_and,false_and,and_false,true_or,or_true,false_or,or_false,decide_eq_true_eq,decide_eq_false_iff_not,beq_iff_eq,beq_eq_false_iff_ne,bne_iff_ne,ne_eq,gt_iff_lt,ge_iff_le,Bool.not_eq_true,Bool.not_eq_false,Bool.not_eq_true',Bool.not_eq_false',Bool.not_eq_eq_eq_not,Bool.not_true,Bool.not_false] at hc)) | (refine KP_i (by (repeat' (first | exact Heap.Le.refl _ | (refine Le_known (by first | (simp only [Heap.set_same, set_ne, ne_eq, not_false_eq_true, *] <;> rfl) | fail) ?_) | (refine Le_fresh (by first | (simp only [*] <;> done) | (simp [set_none', Heap.set_same, set_ne, *] <;> done) | fail) ?_) | (refine Heap.Le.trans ?_ (Grow.le (by assumption)))))) ?_) | (with_reducible refine And.intro ?_ ?_)) <;> (try simp only [Sh,Si,Sl,Bu,Bb,Bd,Bc,Bw,Bn,Int.reduceAdd,Int.reduceSub,Int.reduceMul,Int.reduceTDiv,Int.reduceTMod,Int.reduceMod,Int.reduceDiv,Nat.reduceLT,Nat.reduceEqDiff,decide_true,decide_false,Sa,Sb,Sc,Sd,Se,Sf,Sg,true_and,and_true,and_self,eq_self,b_i64,b_i32,b_u64,b_u32,b_u8,Int.reduceLE,Int.reduceLT,Int.reduceToNat,Int.reduceNeg,Int.reduceEq,Nat.reduceLeDiff,Nat.reducePow,Int.reducePow,Nat.min_def,reduceIte,Nat.reduceSub,Nat.reduceAdd,Nat.reduceMul,KP_same,KP_f,condS_t,condS_f,pick_t,pick_f,gS_tt,gS_ff,gS_tf,gS_ft,gS_u,gP_tt,gP_ff,gP_tf,gP_ft,gP_u,ptrV_eq,slcV_eq,cells_agg,cells_int,cells_bool,cells_ptr,cells_slice,oc_int,oc_bool,oc_slice,oc_ptr,rd1_set,rd1_ne,rdn_set,rdn_ne,Heap.set_same,set_ne,Heap.set_set,set_up,set_up2,set_up3,putAt,ceq,List.map_cons,List.map_nil,List.length_cons,List.length_nil,List.length_set,List.cons_append,List.nil_append,List.append_nil,List.replicate,List.size_toArray,List.all_cons,List.all_nil,Bool.and_self,Bool.and_true,List.drop_zero,List.drop_succ_cons,List.take_succ_cons,List.take_zero,List.set_cons_zero,List.set_cons_succ,List.getElem?_cons_zero,List.getElem?_cons_succ,Option.map_some,Option.map_none,ne_eq,not_false_eq_true,not_true_eq_false,gt_iff_lt,ge_iff_le,Int.one_mul,Nat.zero_add,Nat.zero_mul,Bool.not_true,Bool.not_false,Bool.false_eq_true,Bool.and_false,Bool.false_and,Bool.true_and, *]))
  rename_i b3 pb3 qb3 b4 pb4 qb4
  refine pt_heap (fun G0 eG => ?_)
  have g0 : Grow w0 H G0 := by rw [eG]; exact (by (repeat' (first | exact Grow.refl _ | assumption | (refine Grow_known (by first | (simp only [Heap.set_same, set_ne, ne_eq, not_false_eq_true, *] <;> rfl) | fail) ?_) | (refine Grow.set ?_ (by assumption) (by first | (simp only [*] <;> done) | (simp [set_none', Heap.set_same, set_ne, *] <;> done) | fail)) | (refine Grow.trans ?_ (by assumption)))))
  have k2 := at_of eG (b := b3) (by simp only [Heap.set_same, set_ne, ne_eq, not_false_eq_true, *] <;> rfl)
  have k3 := at_of eG (b := b4) (by simp only [Heap.set_same, set_ne, ne_eq, not_false_eq_true, *] <;> rfl)
  have k4 := at_of eG (b := bk) (by simp only [Heap.set_same, set_ne, ne_eq, not_false_eq_true, *] <;> rfl)
  refine alts_g (S := Nat × Option Addr × Nat × Heap) 7 (fun s => [(6, .pointer (some ⟨s.1, 0, none⟩))]) (fun s => s.2.2.2) (fun s => Grow w0 G0 s.2.2.2 ∧ w0.heap.size ≤ s.1 ∧ G0 s.1 = none ∧ VsNew w0 G0 s.2.2.2 s.2.1 s.2.2.1 x.l ∧ s.2.2.2 s.1 = some ⟨44, [.int .i64 0, .int .i64 0, .int .i32 0, .int .i32 (x.p 3), .int .i32 x.s, .slice s.2.1 x.l.length s.2.2.1]⟩) 60 900 ?_ ?_ (by decide)
  · clear g0
    subst eG
    unfold A35_1
    (all_goals (refine (fun f : True → _ => f trivial) ?_)); repeat' ((first | (with_reducible refine fun _ : True => ?_) | refine c_cloneV x.a x.cap x.l (hvs.grow (by (repeat' (first | exact Grow.refl _ | assumption | (refine Grow_known (by first | (simp only [Heap.set_same, set_ne, ne_eq, not_false_eq_true, *] <;> rfl) | fail) ?_) | (refine Grow.set ?_ (by assumption) (by first | (simp only [*] <;> done) | (simp [set_none', Heap.set_same, set_ne, *] <;> done) | fail)) | (refine Grow.trans ?_ (by assumption)))))) (fun a' cap' H' hn hg => ?_)  | (refine AllocQ_i ?_; intro bk hb0 hbk; (try simp only [set_none'] at hbk); (try (first | have hbn := Grow.none (by assumption) hbk | have hbn := Grow.none (by assumption) hbk.2 | have hbn := Grow.none (by assumption) hbk.2.2 | have hbn := Grow.none (by assumption) hbk.2.2.2 | have hbn := Grow.none (by assumption) hbk.2.2.2.2 | have hbn := Grow.none (by assumption) hbk.2.2.2.2.2)); (try simp only [set_none'] at hbn); (try (first | have hbm := Grow.none (by assumption) hbn | have hbm := Grow.none (by assumption) hbn.2 | have hbm := Grow.none (by assumption) hbn.2.2 | have hbm := Grow.none (by assumption) hbn.2.2.2 | have hbm := Grow.none (by assumption) hbn.2.2.2.2 | have hbm := Grow.none (by assumption) hbn.2.2.2.2.2)); (try simp only [set_none'] at hbm)) | ((first | refine condS_i ?_ ?_ | refine pick_i ?_ ?_ | refine gS_it ?_ ?_ | refine gS_if ?_ ?_ | refine gP_it ?_ ?_ | refine gP_if ?_ ?_) <;> (intro hc; try simp only [Int.reduceLE,Int.reduceLT,Int.reduceEq,and_self,not_true_eq_false,not_false_eq_true,and_true,true_and,false_and,and_false,true_or,or_true,false_or,or_false,decide_eq_true_eq,decide_eq_false_iff_not,beq_iff_eq,beq_eq_false_iff_ne,bne_iff_ne,ne_eq,gt_iff_lt,ge_iff_le,Bool.not_eq_true,Bool.not_eq_false,Bool.not_eq_true',Bool.not_eq_false',Bool.not_eq_eq_eq_not,Bool.not_true,Bool.not_false] at hc)) | (refine KP_i (by (repeat' (first | exact Heap.Le.refl _ | (refine Le_known (by first | (simp only [Heap.set_same, set_ne, ne_eq, not_false_eq_true, *] <;> rfl) | fail) ?_) | (refine Le_fresh (by first | (simp only [*] <;> done) | (simp [set_none', Heap.set_same, set_ne, *] <;> done) | fail) ?_) | (refine Heap.Le.trans ?_ (Grow.le (by assumption)))))) ?_) | (with_reducible refine And.intro ?_ ?_)) <;> (try simp only [Sh,Si,Sl,Bu,Bb,Bd,Bc,Bw,Bn,Int.reduceAdd,Int.reduceSub,Int.reduceMul,Int.reduceTDiv,Int.reduceTMod,Int.reduceMod,Int.reduceDiv,Nat.reduceLT,Nat.reduceEqDiff,decide_true,decide_false,Sa,Sb,Sc,Sd,Se,Sf,Sg,true_and,and_true,and_self,eq_self,b_i64,b_i32,b_u64,b_u32,b_u8,Int.reduceLE,Int.reduceLT,Int.reduceToNat,Int.reduceNeg,Int.reduceEq,Nat.reduceLeDiff,Nat.reducePow,Int.reducePow,Nat.min_def,reduceIte,Nat.reduceSub,Nat.reduceAdd,Nat.reduceMul,KP_same,KP_f,condS_t,condS_f,pick_t,pick_f,gS_tt,gS_ff,gS_tf,gS_ft,gS_u,gP_tt,gP_ff,gP_tf,gP_ft,gP_u,ptrV_eq,slcV_eq,cells_agg,cells_int,cells_bool,cells_ptr,cells_slice,oc_int,oc_bool,oc_slice,oc_ptr,rd1_set,rd1_ne,rdn_set,rdn_ne,Heap.set_same,set_ne,Heap.set_set,set_up,set_up2,set_up3,putAt,ceq,List.map_cons,List.map_nil,List.length_cons,List.length_nil,List.length_set,List.cons_append,List.nil_append,List.append_nil,List.replicate,List.size_toArray,List.all_cons,List.all_nil,Bool.and_self,Bool.and_true,List.drop_zero,List.drop_succ_cons,List.take_succ_cons,List.take_zero,List.set_cons_zero,List.set_cons_succ,List.getElem?_cons_zero,List.getElem?_cons_succ,Option.map_some,Option.map_none,ne_eq,not_false_eq_true,not_true_eq_false,gt_iff_lt,ge_iff_le,Int.one_mul,Nat.zero_add,Nat.zero_mul,Bool.not_true,Bool.not_false,Bool.false_eq_true,Bool.and_false,Bool.false_and,Bool.true_and, *]))
    · have m2 := hg.some k2
      have m3 := hg.some k3
      have m4 := hg.some k4
      rw [root3 m2 m3 m4]
      (all_goals (refine (fun f : True → _ => f trivial) ?_)); repeat' ((first | (with_reducible refine fun _ : True => ?_) | (refine AllocQ_i ?_; intro bk hb0 hbk; (try simp only [set_none'] at hbk); (try (first | have hbn := Grow.none (by assumption) hbk | have hbn := Grow.none (by assumption) hbk.2 | have hbn := Grow.none (by assumption) hbk.2.2 | have hbn := Grow.none (by assumption) hbk.2.2.2 | have hbn := Grow.none (by assumption) hbk.2.2.2.2 | have hbn := Grow.none (by assumption) hbk.2.2.2.2.2)); (try simp only [set_none'] at hbn); (try (first | have hbm := Grow.none (by assumption) hbn | have hbm := Grow.none (by assumption) hbn.2 | have hbm := Grow.none (by assumption) hbn.2.2 | have hbm := Grow.none (by assumption) hbn.2.2.2 | have hbm := Grow.none (by assumption) hbn.2.2.2.2 | have hbm := Grow.none (by assumption) hbn.2.2.2.2.2)); (try simp only [set_none'] at hbm)) | ((first | refine condS_i ?_ ?_ | refine pick_i ?_ ?_ | refine gS_it ?_ ?_ | refine gS_if ?_ ?_ | refine gP_it ?_ ?_ | refine gP_if ?_ ?_) <;> (intro hc; try simp only [Int.reduceLE,Int.reduceLT,Int.reduceEq,and_self,not_true_eq_false,not_false_eq_true,and_true,true_and,false_and,and_false,true_or,or_true,false_or,or_false,decide_eq_true_eq,decide_eq_false_iff_not,beq_iff_eq,beq_eq_false_iff_ne,bne_iff_ne,ne_eq,gt_iff_lt,ge_iff_le,Bool.not_eq_true,Bool.not_eq_false,Bool.not_eq_true',Bool.not_eq_false',Bool.not_eq_eq_eq_not,Bool.not_true,Bool.not_false] at hc)) | (refine KP_i (by (repeat' (first | exact Heap.Le.refl _ | (refine Le_known (by first | (simp only [Heap.set_same, set_ne, ne_eq, not_false_eq_true, *] <;> rfl) | fail) ?_) | (refine Le_fresh (by first | (simp only [*] <;> done) | (simp [set_none', Heap.set_same, set_ne, *] <;> done) | fail) ?_) | (refine Heap.Le.trans ?_ (Grow.le (by assumption)))))) ?_) | (with_reducible refine And.intro ?_ ?_)) <;> (try simp only [Sh,Si,Sl,Bu,Bb,Bd,Bc,Bw,Bn,Int.reduceAdd,Int.reduceSub,Int.reduceMul,Int.reduceTDiv,Int.reduceTMod,Int.reduceMod,Int.reduceDiv,Nat.reduceLT,Nat.reduceEqDiff,decide_true,decide_false,Sa,Sb,Sc,Sd,Se,Sf,Sg,true_and,and_true,and_self,eq_self,b_i64,b_i32,b_u64,b_u32,b_u8,Int.reduceLE,Int.reduceLT,Int.reduceToNat,Int.reduceNeg,Int.reduceEq,Nat.reduceLeDiff,Nat.reducePow,Int.reducePow,Nat.min_def,reduceIte,Nat.reduceSub,Nat.reduceAdd,Nat.reduceMul,KP_same,KP_f,condS_t,condS_f,pick_t,pick_f,gS_tt,gS_ff,gS_tf,gS_ft,gS_u,gP_tt,gP_ff,gP_tf,gP_ft,gP_u,ptrV_eq,slcV_eq,cells_agg,cells_int,cells_bool,cells_ptr,cells_slice,oc_int,oc_bool,oc_slice,oc_ptr,rd1_set,rd1_ne,rdn_set,rdn_ne,Heap.set_same,set_ne,Heap.set_set,set_up,set_up2,set_up3,putAt,ceq,List.map_cons,List.map_nil,List.length_cons,List.length_nil,List.length_set,List.cons_append,List.nil_append,List.append_nil,List.replicate,List.size_toArray,List.all_cons,List.all_nil,Bool.and_self,Bool.and_true,List.drop_zero,List.drop_succ_cons,List.take_succ_cons,List.take_zero,List.set_cons_zero,List.set_cons_succ,List.getElem?_cons_zero,List.getElem?_cons_succ,Option.map_some,Option.map_none,ne_eq,not_false_eq_true,not_true_eq_false,gt_iff_lt,ge_iff_le,Int.one_mul,Nat.zero_add,Nat.zero_mul,Bool.not_true,Bool.not_false,Bool.false_eq_true,Bool.and_false,Bool.false_and,Bool.true_and, *]))
      refine ⟨(_, a', cap', _), rfl, rfl, rfl, ?_⟩
      simp only
      exact ⟨(by (repeat' (first | exact Grow.refl _ | assumption | (refine Grow_known (by first | (simp only [Heap.set_same, set_ne, ne_eq, not_false_eq_true, *] <;> rfl) | fail) ?_) | (refine Grow.set ?_ (by assumption) (by first | (simp only [*] <;> done) | (simp [set_none', Heap.set_same, set_ne, *] <;> done) | fail)) | (refine Grow.trans ?_ (by assumption))))), by assumption, (by first | (simp only [*] <;> done) | (simp [set_none', Heap.set_same, set_ne, *] <;> done) | fail), hn.keep (KeepT.of (w0 := w0) (by (repeat' (first | exact Grow.refl _ | assumption | (refine Grow_known (by first | (simp only [Heap.set_same, set_ne, ne_eq, not_false_eq_true, *] <;> rfl) | fail) ?_) | (refine Grow.set ?_ (by assumption) (by first | (simp only [*] <;> done) | (simp [set_none', Heap.set_same, set_ne, *] <;> done) | fail)) | (refine Grow.trans ?_ (by assumption)))))), Heap.set_same _ _ _⟩
    · have m2 := hg.some ((Heap.set_other _ _ (by omega)).trans k2)
      have m3 := hg.some ((Heap.set_other _ _ (by omega)).trans k3)
      have m4 := hg.some ((Heap.set_other _ _ (by omega)).trans k4)
      have m5 := hg.some (Heap.set_same _ _ _)
      rw [root4 m2 m3 m4 m5]
      (all_goals (refine (fun f : True → _ => f trivial) ?_)); repeat' ((first | (with_reducible refine fun _ : True => ?_) | (refine AllocQ_i ?_; intro bk hb0 hbk; (try simp only [set_none'] at hbk); (try (first | have hbn := Grow.none (by assumption) hbk | have hbn := Grow.none (by assumption) hbk.2 | have hbn := Grow.none (by assumption) hbk.2.2 | have hbn := Grow.none (by assumption) hbk.2.2.2 | have hbn := Grow.none (by assumption) hbk.2.2.2.2 | have hbn := Grow.none (by assumption) hbk.2.2.2.2.2)); (try simp only [set_none'] at hbn); (try (first | have hbm := Grow.none (by assumption) hbn | have hbm := Grow.none (by assumption) hbn.2 | have hbm := Grow.none (by assumption) hbn.2.2 | have hbm := Grow.none (by assumption) hbn.2.2.2 | have hbm := Grow.none (by assumption) hbn.2.2.2.2 | have hbm := Grow.none (by assumption) hbn.2.2.2.2.2)); (try simp only [set_none'] at hbm)) | ((first | refine condS_i ?_ ?_ | refine pick_i ?_ ?_ | refine gS_it ?_ ?_ | refine gS_if ?_ ?_ | refine gP_it ?_ ?_ | refine gP_if ?_ ?_) <;> (intro hc; try simp only [Int.reduceLE,Int.reduceLT,Int.reduceEq,and_self,not_true_eq_false,not_false_eq_true,and_true,true_and,false_and,and_false,true_or,or_true,false_or,or_false,decide_eq_true_eq,decide_eq_false_iff_not,beq_iff_eq,beq_eq_false_iff_ne,bne_iff_ne,ne_eq,gt_iff_lt,ge_iff_le,Bool.not_eq_true,Bool.not_eq_false,Bool.not_eq_true',Bool.not_eq_false',Bool.not_eq_eq_eq_not,Bool.not_true,Bool.not_false] at hc)) | (refine KP_i (by (repeat' (first | exact Heap.Le.refl _ | (refine Le_known (by first | (simp only [Heap.set_same, set_ne, ne_eq, not_false_eq_true, *] <;> rfl) | fail) ?_) | (refine Le_fresh (by first | (simp only [*] <;> done) | (simp [set_none', Heap.set_same, set_ne, *] <;> done) | fail) ?_) | (refine Heap.Le.trans ?_ (Grow.le (by assumption)))))) ?_) | (with_reducible refine And.intro ?_ ?_)) <;> (try simp only [Sh,Si,Sl,Bu,Bb,Bd,Bc,Bw,Bn,Int.reduceAdd,Int.reduceSub,Int.reduceMul,Int.reduceTDiv,Int.reduceTMod,Int.reduceMod,Int.reduceDiv,Nat.reduceLT,Nat.reduceEqDiff,decide_true,decide_false,Sa,Sb,Sc,Sd,Se,Sf,Sg,true_and,and_true,and_self,eq_self,b_i64,b_i32,b_u64,b_u32,b_u8,Int.reduceLE,Int.reduceLT,Int.reduceToNat,Int.reduceNeg,Int.reduceEq,Nat.reduceLeDiff,Nat.reducePow,Int.reducePow,Nat.min_def,reduceIte,Nat.reduceSub,Nat.reduceAdd,Nat.reduceMul,KP_same,KP_f,condS_t,condS_f,pick_t,pick_f,gS_tt,gS_ff,gS_tf,gS_ft,gS_u,gP_tt,gP_ff,gP_tf,gP_ft,gP_u,ptrV_eq,slcV_eq,cells_agg,cells_int,cells_bool,cells_ptr,cells_slice,oc_int,oc_bool,oc_slice,oc_ptr,rd1_set,rd1_ne,rdn_set,rdn_ne,Heap.set_same,set_ne,Heap.set_set,set_up,set_up2,set_up3,putAt,ceq,List.map_cons,List.map_nil,List.length_cons,List.length_nil,List.length_set,List.cons_append,List.nil_append,List.append_nil,List.replicate,List.size_toArray,List.all_cons,List.all_nil,Bool.and_self,Bool.and_true,List.drop_zero,List.drop_succ_cons,List.take_succ_cons,List.take_zero,List.set_cons_zero,List.set_cons_succ,List.getElem?_cons_zero,List.getElem?_cons_succ,Option.map_some,Option.map_none,ne_eq,not_false_eq_true,not_true_eq_false,gt_iff_lt,ge_iff_le,Int.one_mul,Nat.zero_add,Nat.zero_mul,Bool.not_true,Bool.not_false,Bool.false_eq_true,Bool.and_false,Bool.false_and,Bool.true_and, *]))
      refine ⟨(_, a', cap', _), rfl, rfl, rfl, ?_⟩
      simp only
      refine ⟨(by (repeat' (first | exact Grow.refl _ | assumption | (refine Grow_known (by first | (simp only [Heap.set_same, set_ne, ne_eq, not_false_eq_true, *] <;> rfl) | fail) ?_) | (refine Grow.set ?_ (by assumption) (by first | (simp only [*] <;> done) | (simp [set_none', Heap.set_same, set_ne, *] <;> done) | fail)) | (refine Grow.trans ?_ (by assumption))))), by assumption, (by first | (simp only [*] <;> done) | (simp [set_none', Heap.set_same, set_ne, *] <;> done) | fail), (hn.base (by (repeat' (first | exact Grow.refl _ | assumption | (refine Grow_known (by first | (simp only [Heap.set_same, set_ne, ne_eq, not_false_eq_true, *] <;> rfl) | fail) ?_) | (refine Grow.set ?_ (by assumption) (by first | (simp only [*] <;> done) | (simp [set_none', Heap.set_same, set_ne, *] <;> done) | fail)) | (refine Grow.trans ?_ (by assumption)))))).keep (KeepT.set (KeepT.of (w0 := w0) (by (repeat' (first | exact Grow.refl _ | assumption | (refine Grow_known (by first | (simp only [Heap.set_same, set_ne, ne_eq, not_false_eq_true, *] <;> rfl) | fail) ?_) | (refine Grow.set ?_ (by assumption) (by first | (simp only [*] <;> done) | (simp [set_none', Heap.set_same, set_ne, *] <;> done) | fail)) | (refine Grow.trans ?_ (by assumption)))))) (by simp only [Heap.set_same, set_ne, ne_eq, not_false_eq_true, *] <;> rfl) (by decide)), Heap.set_same _ _ _⟩
  · rintro ⟨b, a', cap', H1⟩ f ⟨g1, z1, n1, hn, e1⟩
    simp only at g1 z1 n1 hn e1
    subst eG
    simp only [set_none'] at n1
    have m2 := g1.some k2
    have m3 := g1.some k3
    have m4 := g1.some k4
    rw [root4 m2 m3 m4 e1]
    have fd : ∀ a : Int, a.fdiv 512 = a / 512 := fun a => Int.fdiv_eq_ediv_of_nonneg _ (by omega)
    have fd2 : ∀ a : Int, a.fdiv 2 = a / 2 := fun a => Int.fdiv_eq_ediv_of_nonneg _ (by omega)
    unfold winX at p0 p1
    obtain ⟨q0a, q0b⟩ := o1 (x.p 0) (x.p 3)
    obtain ⟨q1a, q1b⟩ := o1 (x.p 1) (x.p 3)
    have e1 : IntKind.i64.wrap (wpart (x.p 0) (x.p 3)) = wpart (x.p 0) (x.p 3) := Bw.1 _ (by omega) (by omega)
    have e2 : IntKind.i64.wrap (wpart (x.p 0) (x.p 3) * v.w) = wpart (x.p 0) (x.p 3) * v.w := Bw.1 _ (by omega) (by omega)
    have e3 : IntKind.i64.wrap (wpart (x.p 1) (x.p 3)) = wpart (x.p 1) (x.p 3) := Bw.1 _ (by omega) (by omega)
    have e4 : IntKind.i64.wrap (wpart (x.p 1) (x.p 3) * v.h) = wpart (x.p 1) (x.p 3) * v.h := Bw.1 _ (by omega) (by omega)
    have e5 : IntKind.i64.wrap (256 * v.x) = 256 * v.x := Bw.1 _ (by omega) (by omega)
    have e6 : IntKind.i64.wrap (256 * v.y) = 256 * v.y := Bw.1 _ (by omega) (by omega)
    have e7 : IntKind.i64.wrap (256 * v.x + wpart (x.p 0) (x.p 3) * v.w / 512) = 256 * v.x + wpart (x.p 0) (x.p 3) * v.w / 512 := Bw.1 _ (by omega) (by omega)
    have e8 : IntKind.i64.wrap (256 * v.y + wpart (x.p 1) (x.p 3) * v.h / 512) = 256 * v.y + wpart (x.p 1) (x.p 3) * v.h / 512 := Bw.1 _ (by omega) (by omega)
    (all_goals (refine (fun f : True → _ => f trivial) ?_)); repeat' ((first | (with_reducible refine fun _ : True => ?_) | refine cP _ _ _ _ _ (by simp only [Heap.set_same, set_ne, ne_eq, not_false_eq_true, *] <;> rfl) ?_ | refine c_Sub _ _ fI nI ?_ | refine c_Mul _ _ (raw_I32 _) zI ?_ | refine c_Add _ _ nI (raw_I32 _) ?_ | (refine AllocQ_i ?_; intro bk hb0 hbk; (try simp only [set_none'] at hbk); (try (first | have hbn := Grow.none (by assumption) hbk | have hbn := Grow.none (by assumption) hbk.2 | have hbn := Grow.none (by assumption) hbk.2.2 | have hbn := Grow.none (by assumption) hbk.2.2.2 | have hbn := Grow.none (by assumption) hbk.2.2.2.2 | have hbn := Grow.none (by assumption) hbk.2.2.2.2.2)); (try simp only [set_none'] at hbn); (try (first | have hbm := Grow.none (by assumption) hbn | have hbm := Grow.none (by assumption) hbn.2 | have hbm := Grow.none (by assumption) hbn.2.2 | have hbm := Grow.none (by assumption) hbn.2.2.2 | have hbm := Grow.none (by assumption) hbn.2.2.2.2 | have hbm := Grow.none (by assumption) hbn.2.2.2.2.2)); (try simp only [set_none'] at hbm)) | ((first | refine condS_i ?_ ?_ | refine pick_i ?_ ?_ | refine gS_it ?_ ?_ | refine gS_if ?_ ?_ | refine gP_it ?_ ?_ | refine gP_if ?_ ?_) <;> (intro hc; try simp only [Int.reduceLE,Int.reduceLT,Int.reduceEq,and_self,not_true_eq_false,not_false_eq_true,and_true,true_and,false_and,and_false,true_or,or_true,false_or,or_false,decide_eq_true_eq,decide_eq_false_iff_not,beq_iff_eq,beq_eq_false_iff_ne,bne_iff_ne,ne_eq,gt_iff_lt,ge_iff_le,Bool.not_eq_true,Bool.not_eq_false,Bool.not_eq_true',Bool.not_eq_false',Bool.not_eq_eq_eq_not,Bool.not_true,Bool.not_false] at hc)) | (refine KP_i (by (repeat' (first | exact Heap.Le.refl _ | (refine Le_known (by first | (simp only [Heap.set_same, set_ne, ne_eq, not_false_eq_true, *] <;> rfl) | fail) ?_) | (refine Le_fresh (by first | (simp only [*] <;> done) | (simp [set_none', Heap.set_same, set_ne, *] <;> done) | fail) ?_) | (refine Heap.Le.trans ?_ (Grow.le (by assumption)))))) ?_) | (with_reducible refine And.intro ?_ ?_)) <;> (try simp only [Sh,Si,Sl,Bu,Bb,Bd,Bc,Bw,Bn,Int.reduceAdd,Int.reduceSub,Int.reduceMul,Int.reduceTDiv,Int.reduceTMod,Int.reduceMod,Int.reduceDiv,Nat.reduceLT,Nat.reduceEqDiff,decide_true,decide_false,Sa,Sb,Sc,Sd,Se,Sf,Sg,true_and,and_true,and_self,eq_self,b_i64,b_i32,b_u64,b_u32,b_u8,Int.reduceLE,Int.reduceLT,Int.reduceToNat,Int.reduceNeg,Int.reduceEq,Nat.reduceLeDiff,Nat.reducePow,Int.reducePow,Nat.min_def,reduceIte,Nat.reduceSub,Nat.reduceAdd,Nat.reduceMul,KP_same,KP_f,condS_t,condS_f,pick_t,pick_f,gS_tt,gS_ff,gS_tf,gS_ft,gS_u,gP_tt,gP_ff,gP_tf,gP_ft,gP_u,ptrV_eq,slcV_eq,cells_agg,cells_int,cells_bool,cells_ptr,cells_slice,oc_int,oc_bool,oc_slice,oc_ptr,rd1_set,rd1_ne,rdn_set,rdn_ne,Heap.set_same,set_ne,Heap.set_set,set_up,set_up2,set_up3,putAt,ceq,List.map_cons,List.map_nil,List.length_cons,List.length_nil,List.length_set,List.cons_append,List.nil_append,List.append_nil,List.replicate,List.size_toArray,List.all_cons,List.all_nil,Bool.and_self,Bool.and_true,List.drop_zero,List.drop_succ_cons,List.take_succ_cons,List.take_zero,List.set_cons_zero,List.set_cons_succ,List.getElem?_cons_zero,List.getElem?_cons_succ,Option.map_some,Option.map_none,ne_eq,not_false_eq_true,not_true_eq_false,gt_iff_lt,ge_iff_le,Int.one_mul,Nat.zero_add,Nat.zero_mul,Bool.not_true,Bool.not_false,Bool.false_eq_true,Bool.and_false,Bool.false_and,Bool.true_and, *]))
    have gH : Grow w0 H H1 := Grow.trans (by (repeat' (first | exact Grow.refl _ | assumption | (refine Grow_known (by first | (simp only [Heap.set_same, set_ne, ne_eq, not_false_eq_true, *] <;> rfl) | fail) ?_) | (refine Grow.set ?_ (by assumption) (by first | (simp only [*] <;> done) | (simp [set_none', Heap.set_same, set_ne, *] <;> done) | fail)) | (refine Grow.trans ?_ (by assumption))))) g1
    exact Fin_mk (Heap.Le.refl _) (h a' cap' _ ((hn.base (by (repeat' (first | exact Grow.refl _ | assumption | (refine Grow_known (by first | (simp only [Heap.set_same, set_ne, ne_eq, not_false_eq_true, *] <;> rfl) | fail) ?_) | (refine Grow.set ?_ (by assumption) (by first | (simp only [*] <;> done) | (simp [set_none', Heap.set_same, set_ne, *] <;> done) | fail)) | (refine Grow.trans ?_ (by assumption)))))).keep (KeepT.set (KeepT.set (KeepT.of (w0 := w0) (by (repeat' (first | exact Grow.refl _ | assumption | (refine Grow_known (by first | (simp only [Heap.set_same, set_ne, ne_eq, not_false_eq_true, *] <;> rfl) | fail) ?_) | (refine Grow.set ?_ (by assumption) (by first | (simp only [*] <;> done) | (simp [set_none', Heap.set_same, set_ne, *] <;> done) | fail)) | (refine Grow.trans ?_ (by assumption)))))) (by simp only [Heap.set_same, set_ne, ne_eq, not_false_eq_true, *] <;> rfl) (Nat.ne_of_beq_eq_false rfl)) (by simp only [Heap.set_same, set_ne, ne_eq, not_false_eq_true, *] <;> rfl) (Nat.ne_of_beq_eq_false rfl))) (by (repeat' (first | exact Grow.refl _ | assumption | (refine Grow_known (by first | (simp only [Heap.set_same, set_ne, ne_eq, not_false_eq_true, *] <;> rfl) | fail) ?_) | (refine Grow.set ?_ (by assumption) (by first | (simp only [*] <;> done) | (simp [set_none', Heap.set_same, set_ne, *] <;> done) | fail)) | (refine Grow.trans ?_ (by assumption))))))
end Go.Proofs.Ytofgiimfempcjaa
