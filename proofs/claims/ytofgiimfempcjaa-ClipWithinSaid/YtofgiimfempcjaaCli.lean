/- Rows of any elements that hold vectors; windows and cuts as they are asked for (layer 21). -/
import Derived.Test.YtofgiimfempcjaaClh
set_option linter.unusedSimpArgs false
set_option linter.unusedVariables false
set_option maxRecDepth 100000
set_option maxHeartbeats 8000000
namespace Go.Proofs.Ytofgiimfempcjaa
open Go Go.HL Go.RowKit Pb
variable {w0 : World} {H : Heap} {K : Value → Heap → Prop}

/-- Elements, as they lie in a row. -/
structure RowT where
  E : Type
  sz : Nat
  ty : TypeId
  row : E → List Value
  vs : E → List (Option Addr × Nat × List (Nat → Int))
  hsz : ∀ e, (row e).length = sz
  one : ∀ e, (row e).all Value.oneCell' = true
  pos : 0 < sz
  hty : (26 : TypeId) ≠ ty
/-- Elements so far, of a row that is being built. -/
structure RB (R : RowT) (w0 : World) (H G : Heap) (a : Option Addr) (cap : Nat) (os : List R.E) : Prop where
  bld : Bld w0 H G a cap R.sz R.ty (os.map R.row).flatten
  lc : os.length ≤ cap
  ok : ∀ y ∈ os, ∀ v ∈ R.vs y, VsAt w0 H G v.1 v.2.1 v.2.2
/-- A slice of elements. -/
structure RO (R : RowT) (w0 : World) (H : Heap) (a : Option Addr) (cap : Nat) (os : List R.E) : Prop where
  at_ : SlAt w0 H a (os.map R.row).flatten
  lc : os.length ≤ cap
  ok : ∀ y ∈ os, ∀ v ∈ R.vs y, VsOk w0 H v.1 v.2.1 v.2.2
section
variable {R : RowT} {G G' : Heap} {a : Option Addr} {cap : Nat} {os : List R.E}
theorem RowT.flat (R : RowT) (os : List R.E) : (os.map R.row).flatten.length = os.length * R.sz := by
  rw [flat_len (sz := R.sz) _ fun r hr => by obtain ⟨z, -, rfl⟩ := List.mem_map.1 hr; exact R.hsz z, List.length_map]
theorem RowT.ones (R : RowT) (os : List R.E) : ((os.map R.row).flatten).all Value.oneCell' = true := by
  rw [List.all_eq_true]
  intro v hv
  obtain ⟨r, hr, hv⟩ := List.mem_flatten.1 hv
  obtain ⟨z, -, rfl⟩ := List.mem_map.1 hr
  exact List.all_eq_true.1 (R.one z) v hv
theorem RB.grow (h : RB R w0 H G a cap os) (g : Grow w0 G G') : RB R w0 H G' a cap os := ⟨h.bld.grow g, h.lc, fun y hy v hv => (h.ok y hy v hv).grow g⟩
theorem VsAt.base2 {H0 : Heap} {l : List (Nat → Int)} (h : VsAt w0 H G a cap l) (g : Grow w0 H0 H) (hg : Grow w0 H G) : VsOk w0 G a cap l := h.ok hg
theorem RB.ro (h : RB R w0 H G a cap os) (g : Grow w0 H G) : RO R w0 G a cap os := ⟨h.bld.slAt, h.lc, fun y hy v hv => (h.ok y hy v hv).ok g⟩
theorem RB.nil : RB R w0 H G .none 0 [] := ⟨Bld.none, Nat.le_refl _, fun y hy => by simp at hy⟩
theorem RO.nil : RO R w0 G .none 0 [] := ⟨SlAt.nil, Nat.le_refl _, fun y hy => by simp at hy⟩
theorem RO.grow (h : RO R w0 G a cap os) (g : Grow w0 G G') : RO R w0 G' a cap os := ⟨h.at_.grow g, h.lc, fun y hy v hv => (h.ok y hy v hv).grow g⟩
theorem RO.row (h : RO R w0 G a cap os) {k : Nat} {y : R.E} (e : os[k]? = some y) :
    ∃ b o, a = some ⟨b, o, .none⟩ ∧ rdn w0 G b (o + k * R.sz) R.sz = some (R.row y) ∧ ∀ c, w0.heap.size ≤ c → G c = none → c ≠ b :=
  h.at_.row (rows := os.map R.row) (fun r hr => by obtain ⟨z, -, rfl⟩ := List.mem_map.1 hr; exact R.hsz z) R.pos (by rw [List.getElem?_map, e]; rfl)
theorem app_rb {K : Value → Heap → Prop} {ns : List R.E} {xa : Option Addr} {xc by_ : Nat} {zero : List Value} (hB : RB R w0 H G a cap os) (hz : zero.length = R.sz) (hx : srd w0 G xa (ns.length * R.sz) = some (ns.map R.row).flatten)
    (hns : ∀ y ∈ ns, ∀ v ∈ R.vs y, VsAt w0 H G v.1 v.2.1 v.2.2) (hg : Grow w0 H G) (hm : os.length + ns.length ≤ 1000000) (hb : by_ ≤ 1000)
    (h : ∀ a' cap' os' G', os' = os ++ ns → RB R w0 H G' a' cap' os' → Grow w0 H G' → K (.slice a' os'.length cap') G') : appQ w0 G K R.ty R.sz by_ zero (.slice a os.length cap) (.slice xa ns.length xc) := by
  have hmul : (os.length + ns.length) * by_ ≤ 1000000 * 1000 := Nat.mul_le_mul hm hb
  refine app_bld (H := H) (n := os.length) (m := ns.length) (cs := (os.map R.row).flatten) (ns := (ns.map R.row).flatten) hB.bld (R.flat os) hz hx (R.flat ns) hg ⟨by omega, by omega⟩ (R.ones ns) (fun a2 cap2 G2 hB2 hg2 hk2 hc2 => ?_)
  have hkt : KeepT 26 G G2 := KeepT.app hk2 R.hty
  have h := h a2 cap2 (os ++ ns) G2 rfl ⟨by rw [List.map_append, List.flatten_append]; exact hB2, by rw [List.length_append]; exact hc2, fun y hy v hv => by
    rcases List.mem_append.1 hy with h' | h'
    · exact (hB.ok y h' v hv).keep hkt
    · exact (hns y h' v hv).keep hkt⟩ hg2
  rw [List.length_append] at h
  exact h
end
/-- Corners in the window, in a row. -/
abbrev winT : RowT := ⟨WnR, 6, 44, WnR.row, fun x => [(x.a, x.cap, x.l)], fun _ => rfl, fun _ => rfl, by decide, by decide⟩
/-- Three corners in the window, in a row. -/
abbrev triT : RowT := ⟨WnR × WnR × WnR, 18, 45, fun x => x.1.row ++ x.2.1.row ++ x.2.2.row, fun x => [(x.1.a, x.1.cap, x.1.l), (x.2.1.a, x.2.1.cap, x.2.1.l), (x.2.2.a, x.2.2.cap, x.2.2.l)], fun _ => rfl, fun _ => rfl, by decide, by decide⟩
def Wn0 : WnR := ⟨⟨0, 0, 0, 0, 0, []⟩, none, 0⟩
/- clip Window -/
def M17 : MC :=
  .seq (.reg [⟨(some 2), .box 24 (.tmp 0), none⟩,
     ⟨(some 3), .box 29 (.tmp 1), none⟩,
     ⟨(some 4), .alloc 44 [(.int .i64 0), (.int .i64 0), (.int .i32 0), (.int .i32 0), (.int .i32 0), (.slice none 0 0)], none⟩,
     ⟨(some 5), .mv (.const (.int .i64 0)), none⟩])
  (.seq (.seq (.reg [⟨(some 6), .ldn 6 (.tmp 2), none⟩,
       ⟨(some 7), .call 19 [(.tmp 6)], none⟩,
       ⟨(some 8), .un .not (.tmp 7), none⟩,
       ⟨(some 9), .mv (.tmp 8), none⟩,
       ⟨(some 10), .fa 0 (.tmp 3), (some (9, false))⟩,
       ⟨(some 11), .ia 4 1 (.tmp 10) (.const (.int .i64 3)), (some (9, false))⟩,
       ⟨(some 12), .ld1 (.tmp 11), (some (9, false))⟩,
       ⟨(some 13), .bin .lss (.tmp 12) (.const (.int .i32 1)), (some (9, false))⟩,
       ⟨(some 14), .pick (.tmp 9) (.const (.bool true)) (.tmp 13), none⟩,
       ⟨(some 15), .mv (.tmp 14), none⟩,
       ⟨(some 16), .fa 5 (.tmp 3), (some (15, false))⟩,
       ⟨(some 17), .ld1 (.tmp 16), (some (15, false))⟩,
       ⟨(some 18), .len (.tmp 17), (some (15, false))⟩,
       ⟨(some 19), .bin .gtr (.tmp 18) (.const (.int .i64 4)), (some (15, false))⟩,
       ⟨(some 20), .pick (.tmp 15) (.const (.bool true)) (.tmp 19), none⟩])
    (.cond (.tmp 20)
     (.seq (.reg [⟨(some 21), .build [(.int .i64 0), (.int .i64 0), (.int .i32 0), (.int .i32 0), (.int .i32 0), (.slice none 0 0)] [], none⟩,
         ⟨none, .stn 6 (.tmp 4) (.tmp 21), none⟩,
         ⟨(some 5), .mv (.const (.int .i64 2)), none⟩])
      (.ret))
     (.skip)))
   (.seq (.reg [⟨(some 22), .ldn 6 (.tmp 2), none⟩,
       ⟨(some 23), .ldn 6 (.tmp 3), none⟩,
       ⟨(some 24), .call 35 [(.tmp 22), (.tmp 23)], none⟩,
       ⟨none, .stn 6 (.tmp 4) (.tmp 24), none⟩,
       ⟨(some 5), .mv (.const (.int .i64 0)), none⟩])
    (.ret)))
theorem k17 : fnOk Try.prog 17 = some (M17, [.cn 6 4, .t 5], 25) := by kernel_rfl

theorem c_Window (v : Vw) (x : VtR) (hvi : I64 v.x ∧ I64 v.y ∧ I64 v.w ∧ I64 v.h) (hx : VtOk w0 H x)
    (h1 : v.right ∧ 1 ≤ x.p 3 ∧ x.l.length ≤ 4 → ∀ a' cap' H', VsNew w0 H H' a' cap' x.l → Grow w0 H H' → K (.tuple #[(WnR.mk (winA v x.toVt) a' cap').v, .int .i64 0]) H')
    (h2 : ¬ (v.right ∧ 1 ≤ x.p 3 ∧ x.l.length ≤ 4) → K (.tuple #[Wn0.v, .int .i64 2]) H) : HCalls Try.prog w0 17 [v.v, x.v] H K := by
  have cR : ∀ (G : Heap) (K : Value → Heap → Prop), K (.bool (decide v.right)) G → HCalls Try.prog w0 19 [v.v] G K := fun G K hk => c_Right v hvi.1 hvi.2.1 hvi.2.2.1 hvi.2.2.2 hk
  by_cases hv : v.right
  · have cW : ∀ (G : Heap) (K : Value → Heap → Prop), Grow w0 H G → (∀ a' cap' H', VsNew w0 G H' a' cap' x.l → Grow w0 G H' → K (WnR.mk (winA v x.toVt) a' cap').v H') → HCalls Try.prog w0 35 [v.v, x.v] G K := fun G K g hk => c_window v x hv (hx.grow g) hk
    have h1 := fun hh => h1 ⟨hv, hh⟩
    have h2 : ¬ (1 ≤ x.p 3 ∧ x.l.length ≤ 4) → K (.tuple #[Wn0.v, .int .i64 2]) H := fun hh => h2 fun h' => hh h'.2
    unfold VtR.v Vw.v WnR.v at *
    refine HL.hc k17 999 ?_; unfold M17
    (all_goals (refine (fun f : True → _ => f trivial) ?_)); repeat' ((first | (with_reducible refine fun _ : True => ?_) | refine cR _ _ ?_ | refine cW _ _ (by (repeat' (first | exact Grow.refl _ | assumption | (refine Grow_known (by first | (simp only [Heap.set_same, set_ne, ne_eq, not_false_eq_true, *] <;> rfl) | fail) ?_) | (refine Grow.set ?_ (by assumption) (by first | (simp only [*] <;> done) | (simp [set_none', Heap.set_same, set_ne, *] <;> done) | fail)) | (refine Grow.trans ?_ (by assumption))))) (fun a2 c2 G2 hn2 hg2 => ?_)  | (refine AllocQ_i ?_; intro bk hb0 hbk; (try simp only [set_none'] at hbk); (try (first | have hbn := Grow.none (by assumption) hbk | have hbn := Grow.none (by assumption) hbk.2 | have hbn := Grow.none (by assumption) hbk.2.2 | have hbn := Grow.none (by assumption) hbk.2.2.2 | have hbn := Grow.none (by assumption) hbk.2.2.2.2 | have hbn := Grow.none (by assumption) hbk.2.2.2.2.2)); (try simp only [set_none'] at hbn); (try (first | have hbm := Grow.none (by assumption) hbn | have hbm := Grow.none (by assumption) hbn.2 | have hbm := Grow.none (by assumption) hbn.2.2 | have hbm := Grow.none (by assumption) hbn.2.2.2 | have hbm := Grow.none (by assumption) hbn.2.2.2.2 | have hbm := Grow.none (by assumption) hbn.2.2.2.2.2)); (try simp only [set_none'] at hbm)) | ((first | refine condS_i ?_ ?_ | refine pick_i ?_ ?_ | refine gS_it ?_ ?_ | refine gS_if ?_ ?_ | refine gP_it ?_ ?_ | refine gP_if ?_ ?_) <;> (intro hc; try simp only [Int.reduceLE,Int.reduceLT,Int.reduceEq,and_self,not_true_eq_false,not_false_eq_true,and_true,true_and,false_and,and_false,true_or,or_true,false_or,or_false,decide_eq_true_eq,decide_eq_false_iff_not,beq_iff_eq,beq_eq_false_iff_ne,bne_iff_ne,ne_eq,gt_iff_lt,ge_iff_le,Bool.not_eq_true,Bool.not_eq_false,Bool.not_eq_true',Bool.not_eq_false',Bool.not_eq_eq_eq_not,Bool.not_true,Bool.not_false] at hc)) | (refine KP_i (by (repeat' (first | exact Heap.Le.refl _ | (refine Le_known (by first | (simp only [Heap.set_same, set_ne, ne_eq, not_false_eq_true, *] <;> rfl) | fail) ?_) | (refine Le_fresh (by first | (simp only [*] <;> done) | (simp [set_none', Heap.set_same, set_ne, *] <;> done) | fail) ?_) | (refine Heap.Le.trans ?_ (Grow.le (by assumption)))))) ?_) | (with_reducible refine And.intro ?_ ?_)) <;> (try simp only [Sh,Si,Sl,Bu,Bb,Bd,Bc,Bw,Bn,Int.reduceAdd,Int.reduceSub,Int.reduceMul,Int.reduceTDiv,Int.reduceTMod,Int.reduceMod,Int.reduceDiv,Nat.reduceLT,Nat.reduceEqDiff,decide_true,decide_false,Sa,Sb,Sc,Sd,Se,Sf,Sg,true_and,and_true,and_self,eq_self,b_i64,b_i32,b_u64,b_u32,b_u8,Int.reduceLE,Int.reduceLT,Int.reduceToNat,Int.reduceNeg,Int.reduceEq,Nat.reduceLeDiff,Nat.reducePow,Int.reducePow,Nat.min_def,reduceIte,Nat.reduceSub,Nat.reduceAdd,Nat.reduceMul,KP_same,KP_f,condS_t,condS_f,pick_t,pick_f,gS_tt,gS_ff,gS_tf,gS_ft,gS_u,gP_tt,gP_ff,gP_tf,gP_ft,gP_u,ptrV_eq,slcV_eq,cells_agg,cells_int,cells_bool,cells_ptr,cells_slice,oc_int,oc_bool,oc_slice,oc_ptr,rd1_set,rd1_ne,rdn_set,rdn_ne,Heap.set_same,set_ne,Heap.set_set,set_up,set_up2,set_up3,putAt,ceq,List.map_cons,List.map_nil,List.length_cons,List.length_nil,List.length_set,List.cons_append,List.nil_append,List.append_nil,List.replicate,List.size_toArray,List.all_cons,List.all_nil,Bool.and_self,Bool.and_true,List.drop_zero,List.drop_succ_cons,List.take_succ_cons,List.take_zero,List.set_cons_zero,List.set_cons_succ,List.getElem?_cons_zero,List.getElem?_cons_succ,Option.map_some,Option.map_none,ne_eq,not_false_eq_true,not_true_eq_false,gt_iff_lt,ge_iff_le,Int.one_mul,Nat.zero_add,Nat.zero_mul,Bool.not_true,Bool.not_false,Bool.false_eq_true,Bool.and_false,Bool.false_and,Bool.true_and, *]))
    · exact Fin_mk (by (repeat' (first | exact Heap.Le.refl _ | (refine Le_known (by first | (simp only [Heap.set_same, set_ne, ne_eq, not_false_eq_true, *] <;> rfl) | fail) ?_) | (refine Le_fresh (by first | (simp only [*] <;> done) | (simp [set_none', Heap.set_same, set_ne, *] <;> done) | fail) ?_) | (refine Heap.Le.trans ?_ (Grow.le (by assumption)))))) (h2 (by omega))
    · have h1 := h1 (by omega) a2 c2
      have gH : Grow w0 H G2 := Grow.trans (by (repeat' (first | exact Grow.refl _ | assumption | (refine Grow_known (by first | (simp only [Heap.set_same, set_ne, ne_eq, not_false_eq_true, *] <;> rfl) | fail) ?_) | (refine Grow.set ?_ (by assumption) (by first | (simp only [*] <;> done) | (simp [set_none', Heap.set_same, set_ne, *] <;> done) | fail)) | (refine Grow.trans ?_ (by assumption))))) hg2
      have hn := hn2.base (H0 := H) (by (repeat' (first | exact Grow.refl _ | assumption | (refine Grow_known (by first | (simp only [Heap.set_same, set_ne, ne_eq, not_false_eq_true, *] <;> rfl) | fail) ?_) | (refine Grow.set ?_ (by assumption) (by first | (simp only [*] <;> done) | (simp [set_none', Heap.set_same, set_ne, *] <;> done) | fail)) | (refine Grow.trans ?_ (by assumption)))))
      clear hn2
      rename_i b1 p1 q1 b2 p2 q2 _ _ _
      have m3 := hg2.some (b := bk) (by simp only [Heap.set_same, set_ne, ne_eq, not_false_eq_true, *] <;> rfl)
      rw [root1 m3]
      (all_goals (refine (fun f : True → _ => f trivial) ?_)); repeat' ((first | (with_reducible refine fun _ : True => ?_) | (refine AllocQ_i ?_; intro bk hb0 hbk; (try simp only [set_none'] at hbk); (try (first | have hbn := Grow.none (by assumption) hbk | have hbn := Grow.none (by assumption) hbk.2 | have hbn := Grow.none (by assumption) hbk.2.2 | have hbn := Grow.none (by assumption) hbk.2.2.2 | have hbn := Grow.none (by assumption) hbk.2.2.2.2 | have hbn := Grow.none (by assumption) hbk.2.2.2.2.2)); (try simp only [set_none'] at hbn); (try (first | have hbm := Grow.none (by assumption) hbn | have hbm := Grow.none (by assumption) hbn.2 | have hbm := Grow.none (by assumption) hbn.2.2 | have hbm := Grow.none (by assumption) hbn.2.2.2 | have hbm := Grow.none (by assumption) hbn.2.2.2.2 | have hbm := Grow.none (by assumption) hbn.2.2.2.2.2)); (try simp only [set_none'] at hbm)) | ((first | refine condS_i ?_ ?_ | refine pick_i ?_ ?_ | refine gS_it ?_ ?_ | refine gS_if ?_ ?_ | refine gP_it ?_ ?_ | refine gP_if ?_ ?_) <;> (intro hc; try simp only [Int.reduceLE,Int.reduceLT,Int.reduceEq,and_self,not_true_eq_false,not_false_eq_true,and_true,true_and,false_and,and_false,true_or,or_true,false_or,or_false,decide_eq_true_eq,decide_eq_false_iff_not,beq_iff_eq,beq_eq_false_iff_ne,bne_iff_ne,ne_eq,gt_iff_lt,ge_iff_le,Bool.not_eq_true,Bool.not_eq_false,Bool.not_eq_true',Bool.not_eq_false',Bool.not_eq_eq_eq_not,Bool.not_true,Bool.not_false] at hc)) | (refine KP_i (by (repeat' (first | exact Heap.Le.refl _ | (refine Le_known (by first | (simp only [Heap.set_same, set_ne, ne_eq, not_false_eq_true, *] <;> rfl) | fail) ?_) | (refine Le_fresh (by first | (simp only [*] <;> done) | (simp [set_none', Heap.set_same, set_ne, *] <;> done) | fail) ?_) | (refine Heap.Le.trans ?_ (Grow.le (by assumption)))))) ?_) | (with_reducible refine And.intro ?_ ?_)) <;> (try simp only [Sh,Si,Sl,Bu,Bb,Bd,Bc,Bw,Bn,Int.reduceAdd,Int.reduceSub,Int.reduceMul,Int.reduceTDiv,Int.reduceTMod,Int.reduceMod,Int.reduceDiv,Nat.reduceLT,Nat.reduceEqDiff,decide_true,decide_false,Sa,Sb,Sc,Sd,Se,Sf,Sg,true_and,and_true,and_self,eq_self,b_i64,b_i32,b_u64,b_u32,b_u8,Int.reduceLE,Int.reduceLT,Int.reduceToNat,Int.reduceNeg,Int.reduceEq,Nat.reduceLeDiff,Nat.reducePow,Int.reducePow,Nat.min_def,reduceIte,Nat.reduceSub,Nat.reduceAdd,Nat.reduceMul,KP_same,KP_f,condS_t,condS_f,pick_t,pick_f,gS_tt,gS_ff,gS_tf,gS_ft,gS_u,gP_tt,gP_ff,gP_tf,gP_ft,gP_u,ptrV_eq,slcV_eq,cells_agg,cells_int,cells_bool,cells_ptr,cells_slice,oc_int,oc_bool,oc_slice,oc_ptr,rd1_set,rd1_ne,rdn_set,rdn_ne,Heap.set_same,set_ne,Heap.set_set,set_up,set_up2,set_up3,putAt,ceq,List.map_cons,List.map_nil,List.length_cons,List.length_nil,List.length_set,List.cons_append,List.nil_append,List.append_nil,List.replicate,List.size_toArray,List.all_cons,List.all_nil,Bool.and_self,Bool.and_true,List.drop_zero,List.drop_succ_cons,List.take_succ_cons,List.take_zero,List.set_cons_zero,List.set_cons_succ,List.getElem?_cons_zero,List.getElem?_cons_succ,Option.map_some,Option.map_none,ne_eq,not_false_eq_true,not_true_eq_false,gt_iff_lt,ge_iff_le,Int.one_mul,Nat.zero_add,Nat.zero_mul,Bool.not_true,Bool.not_false,Bool.false_eq_true,Bool.and_false,Bool.false_and,Bool.true_and, *]))
      exact Fin_mk (Heap.Le.refl _) (h1 _ (hn.keep (by (repeat' (first | exact KeepT.refl | assumption | (refine KeepT.known (by first | (simp only [Heap.set_same, set_ne, ne_eq, not_false_eq_true, *] <;> rfl) | fail) ?_) | (refine KeepT.set ?_ (by simp only [Heap.set_same, set_ne, ne_eq, not_false_eq_true, *] <;> rfl) (Nat.ne_of_beq_eq_false rfl)) | (refine KeepT.fresh ?_ (by first | (simp only [*] <;> done) | (simp [set_none', Heap.set_same, set_ne, *] <;> done) | fail)) | (refine KeepT.trans ?_ (by assumption)) | (refine KeepT.of (w0 := w0) ?_; first | exact Grow.refl _ | assumption))))) (by (repeat' (first | exact Grow.refl _ | assumption | (refine Grow_known (by first | (simp only [Heap.set_same, set_ne, ne_eq, not_false_eq_true, *] <;> rfl) | fail) ?_) | (refine Grow.set ?_ (by assumption) (by first | (simp only [*] <;> done) | (simp [set_none', Heap.set_same, set_ne, *] <;> done) | fail)) | (refine Grow.trans ?_ (by assumption))))))
    · exact Fin_mk (by (repeat' (first | exact Heap.Le.refl _ | (refine Le_known (by first | (simp only [Heap.set_same, set_ne, ne_eq, not_false_eq_true, *] <;> rfl) | fail) ?_) | (refine Le_fresh (by first | (simp only [*] <;> done) | (simp [set_none', Heap.set_same, set_ne, *] <;> done) | fail) ?_) | (refine Heap.Le.trans ?_ (Grow.le (by assumption)))))) (h2 (by omega))
  · have h2 := h2 fun h' => hv h'.1
    unfold VtR.v Vw.v WnR.v at *
    clear h1
    refine HL.hc k17 999 ?_; unfold M17
    (all_goals (refine (fun f : True → _ => f trivial) ?_)); repeat' ((first | (with_reducible refine fun _ : True => ?_) | refine cR _ _ ?_ | (refine AllocQ_i ?_; intro bk hb0 hbk; (try simp only [set_none'] at hbk); (try (first | have hbn := Grow.none (by assumption) hbk | have hbn := Grow.none (by assumption) hbk.2 | have hbn := Grow.none (by assumption) hbk.2.2 | have hbn := Grow.none (by assumption) hbk.2.2.2 | have hbn := Grow.none (by assumption) hbk.2.2.2.2 | have hbn := Grow.none (by assumption) hbk.2.2.2.2.2)); (try simp only [set_none'] at hbn); (try (first | have hbm := Grow.none (by assumption) hbn | have hbm := Grow.none (by assumption) hbn.2 | have hbm := Grow.none (by assumption) hbn.2.2 | have hbm := Grow.none (by assumption) hbn.2.2.2 | have hbm := Grow.none (by assumption) hbn.2.2.2.2 | have hbm := Grow.none (by assumption) hbn.2.2.2.2.2)); (try simp only [set_none'] at hbm)) | ((first | refine condS_i ?_ ?_ | refine pick_i ?_ ?_ | refine gS_it ?_ ?_ | refine gS_if ?_ ?_ | refine gP_it ?_ ?_ | refine gP_if ?_ ?_) <;> (intro hc; try simp only [Int.reduceLE,Int.reduceLT,Int.reduceEq,and_self,not_true_eq_false,not_false_eq_true,and_true,true_and,false_and,and_false,true_or,or_true,false_or,or_false,decide_eq_true_eq,decide_eq_false_iff_not,beq_iff_eq,beq_eq_false_iff_ne,bne_iff_ne,ne_eq,gt_iff_lt,ge_iff_le,Bool.not_eq_true,Bool.not_eq_false,Bool.not_eq_true',Bool.not_eq_false',Bool.not_eq_eq_eq_not,Bool.not_true,Bool.not_false] at hc)) | (refine KP_i (by (repeat' (first | exact Heap.Le.refl _ | (refine Le_known (by first | (simp only [Heap.set_same, set_ne, ne_eq, not_false_eq_true, *] <;> rfl) | fail) ?_) | (refine Le_fresh (by first | (simp only [*] <;> done) | (simp [set_none', Heap.set_same, set_ne, *] <;> done) | fail) ?_) | (refine Heap.Le.trans ?_ (Grow.le (by assumption)))))) ?_) | (with_reducible refine And.intro ?_ ?_)) <;> (try simp only [Sh,Si,Sl,Bu,Bb,Bd,Bc,Bw,Bn,Int.reduceAdd,Int.reduceSub,Int.reduceMul,Int.reduceTDiv,Int.reduceTMod,Int.reduceMod,Int.reduceDiv,Nat.reduceLT,Nat.reduceEqDiff,decide_true,decide_false,Sa,Sb,Sc,Sd,Se,Sf,Sg,true_and,and_true,and_self,eq_self,b_i64,b_i32,b_u64,b_u32,b_u8,Int.reduceLE,Int.reduceLT,Int.reduceToNat,Int.reduceNeg,Int.reduceEq,Nat.reduceLeDiff,Nat.reducePow,Int.reducePow,Nat.min_def,reduceIte,Nat.reduceSub,Nat.reduceAdd,Nat.reduceMul,KP_same,KP_f,condS_t,condS_f,pick_t,pick_f,gS_tt,gS_ff,gS_tf,gS_ft,gS_u,gP_tt,gP_ff,gP_tf,gP_ft,gP_u,ptrV_eq,slcV_eq,cells_agg,cells_int,cells_bool,cells_ptr,cells_slice,oc_int,oc_bool,oc_slice,oc_ptr,rd1_set,rd1_ne,rdn_set,rdn_ne,Heap.set_same,set_ne,Heap.set_set,set_up,set_up2,set_up3,putAt,ceq,List.map_cons,List.map_nil,List.length_cons,List.length_nil,List.length_set,List.cons_append,List.nil_append,List.append_nil,List.replicate,List.size_toArray,List.all_cons,List.all_nil,Bool.and_self,Bool.and_true,List.drop_zero,List.drop_succ_cons,List.take_succ_cons,List.take_zero,List.set_cons_zero,List.set_cons_succ,List.getElem?_cons_zero,List.getElem?_cons_succ,Option.map_some,Option.map_none,ne_eq,not_false_eq_true,not_true_eq_false,gt_iff_lt,ge_iff_le,Int.one_mul,Nat.zero_add,Nat.zero_mul,Bool.not_true,Bool.not_false,Bool.false_eq_true,Bool.and_false,Bool.false_and,Bool.true_and, *]))
    exact Fin_mk (by (repeat' (first | exact Heap.Le.refl _ | (refine Le_known (by first | (simp only [Heap.set_same, set_ne, ne_eq, not_false_eq_true, *] <;> rfl) | fail) ?_) | (refine Le_fresh (by first | (simp only [*] <;> done) | (simp [set_none', Heap.set_same, set_ne, *] <;> done) | fail) ?_) | (refine Heap.Le.trans ?_ (Grow.le (by assumption)))))) h2
/- clip Cut -/
def M24 : MC :=
  .seq (.reg [⟨(some 4), .mv (.const (.slice none 0 0)), none⟩,
     ⟨(some 5), .mv (.const (.int .i64 0)), none⟩])
  (.seq (.seq (.reg [⟨(some 6), .mv (.tmp 1), none⟩,
       ⟨(some 7), .bin .lss (.tmp 6) (.const (.int .i64 0)), none⟩,
       ⟨(some 8), .mv (.tmp 7), none⟩,
       ⟨(some 9), .mv (.tmp 1), (some (8, false))⟩,
       ⟨(some 10), .bin .geq (.tmp 9) (.const (.int .i64 7)), (some (8, false))⟩,
       ⟨(some 11), .pick (.tmp 8) (.const (.bool true)) (.tmp 10), none⟩,
       ⟨(some 12), .mv (.tmp 11), none⟩,
       ⟨(some 13), .mv (.tmp 0), (some (12, false))⟩,
       ⟨(some 14), .len (.tmp 13), (some (12, false))⟩,
       ⟨(some 15), .bin .gtr (.tmp 14) (.const (.int .i64 16)), (some (12, false))⟩,
       ⟨(some 16), .pick (.tmp 12) (.const (.bool true)) (.tmp 15), none⟩,
       ⟨(some 17), .mv (.tmp 16), none⟩,
       ⟨(some 18), .mv (.tmp 0), (some (17, false))⟩,
       ⟨(some 19), .call 32 [(.tmp 18)], (some (17, false))⟩,
       ⟨(some 20), .un .not (.tmp 19), (some (17, false))⟩,
       ⟨(some 21), .pick (.tmp 17) (.const (.bool true)) (.tmp 20), none⟩])
    (.cond (.tmp 21)
     (.seq (.reg [⟨(some 4), .mv (.const (.slice none 0 0)), none⟩,
         ⟨(some 5), .mv (.const (.int .i64 2)), none⟩])
      (.ret))
     (.skip)))
   (.seq (.reg [⟨(some 22), .mv (.tmp 0), none⟩,
       ⟨(some 23), .mv (.tmp 1), none⟩,
       ⟨(some 24), .call 33 [(.tmp 22), (.tmp 23)], none⟩,
       ⟨(some 4), .mv (.tmp 24), none⟩,
       ⟨(some 5), .mv (.const (.int .i64 0)), none⟩])
    (.ret)))
theorem k24 : fnOk Try.prog 24 = some (M24, [.t 4, .t 5], 25) := by kernel_rfl

theorem c_Cut (a : Option Addr) (cap : Nat) (ls : List VtR) (n : Int) (hA : RowsOk w0 H a cap ls)
    (h1 : (0 ≤ n ∧ n ≤ 6) ∧ ls.length ≤ 16 ∧ Al (ls.map VtR.toVt) → ∀ a' cap' os H', os.map VtR.toVt = cutA (ls.map VtR.toVt) n → RowsB w0 H H' a' cap' os → Grow w0 H H' → K (.tuple #[.slice a' os.length cap', .int .i64 0]) H')
    (h2 : ¬ ((0 ≤ n ∧ n ≤ 6) ∧ ls.length ≤ 16 ∧ Al (ls.map VtR.toVt)) → K (.tuple #[.slice none 0 0, .int .i64 2]) H) : HCalls Try.prog w0 24 [.slice a ls.length cap, .int .i64 n] H K := by
  obtain ⟨m, em⟩ : ∃ m, ls.length = m := ⟨_, rfl⟩
  by_cases hAl : Al (ls.map VtR.toVt)
  · obtain ⟨mv, hmv⟩ := al_ali hAl
    have ca := fun (G : Heap) (K : Value → Heap → Prop) (g : Grow w0 H G) (hk : K (.bool true) G) => c_alike a cap ls (hA.grow g) (fun _ => hk) (fun hh => (hh hAl).elim)
    have cc := fun (hl : ls.length ≤ 1000000) (G : Heap) (K : Value → Heap → Prop) (g : Grow w0 H G) => c_cutV (K := K) a cap ls n (hA.grow g) hmv hl
    rw [em] at h1 h2 ca cc ⊢
    clear hA
    refine HL.hc k24 999 ?_; unfold M24
    (all_goals (refine (fun f : True → _ => f trivial) ?_)); repeat' ((first | (with_reducible refine fun _ : True => ?_) | refine ca _ _ (by (repeat' (first | exact Grow.refl _ | assumption | (refine Grow_known (by first | (simp only [Heap.set_same, set_ne, ne_eq, not_false_eq_true, *] <;> rfl) | fail) ?_) | (refine Grow.set ?_ (by assumption) (by first | (simp only [*] <;> done) | (simp [set_none', Heap.set_same, set_ne, *] <;> done) | fail)) | (refine Grow.trans ?_ (by assumption))))) ?_ | refine cc (by omega) _ _ (by (repeat' (first | exact Grow.refl _ | assumption | (refine Grow_known (by first | (simp only [Heap.set_same, set_ne, ne_eq, not_false_eq_true, *] <;> rfl) | fail) ?_) | (refine Grow.set ?_ (by assumption) (by first | (simp only [*] <;> done) | (simp [set_none', Heap.set_same, set_ne, *] <;> done) | fail)) | (refine Grow.trans ?_ (by assumption))))) (fun a2 c2 os2 G2 ho2 hB2 hg2 => ?_)  | (refine AllocQ_i ?_; intro bk hb0 hbk; (try simp only [set_none'] at hbk); (try (first | have hbn := Grow.none (by assumption) hbk | have hbn := Grow.none (by assumption) hbk.2 | have hbn := Grow.none (by assumption) hbk.2.2 | have hbn := Grow.none (by assumption) hbk.2.2.2 | have hbn := Grow.none (by assumption) hbk.2.2.2.2 | have hbn := Grow.none (by assumption) hbk.2.2.2.2.2)); (try simp only [set_none'] at hbn); (try (first | have hbm := Grow.none (by assumption) hbn | have hbm := Grow.none (by assumption) hbn.2 | have hbm := Grow.none (by assumption) hbn.2.2 | have hbm := Grow.none (by assumption) hbn.2.2.2 | have hbm := Grow.none (by assumption) hbn.2.2.2.2 | have hbm := Grow.none (by assumption) hbn.2.2.2.2.2)); (try simp only [set_none'] at hbm)) | ((first | refine condS_i ?_ ?_ | refine pick_i ?_ ?_ | refine gS_it ?_ ?_ | refine gS_if ?_ ?_ | refine gP_it ?_ ?_ | refine gP_if ?_ ?_) <;> (intro hc; try simp only [Int.reduceLE,Int.reduceLT,Int.reduceEq,and_self,not_true_eq_false,not_false_eq_true,and_true,true_and,false_and,and_false,true_or,or_true,false_or,or_false,decide_eq_true_eq,decide_eq_false_iff_not,beq_iff_eq,beq_eq_false_iff_ne,bne_iff_ne,ne_eq,gt_iff_lt,ge_iff_le,Bool.not_eq_true,Bool.not_eq_false,Bool.not_eq_true',Bool.not_eq_false',Bool.not_eq_eq_eq_not,Bool.not_true,Bool.not_false] at hc)) | (refine KP_i (by (repeat' (first | exact Heap.Le.refl _ | (refine Le_known (by first | (simp only [Heap.set_same, set_ne, ne_eq, not_false_eq_true, *] <;> rfl) | fail) ?_) | (refine Le_fresh (by first | (simp only [*] <;> done) | (simp [set_none', Heap.set_same, set_ne, *] <;> done) | fail) ?_) | (refine Heap.Le.trans ?_ (Grow.le (by assumption)))))) ?_) | (with_reducible refine And.intro ?_ ?_)) <;> (try simp only [Sh,Si,Sl,Bu,Bb,Bd,Bc,Bw,Bn,Int.reduceAdd,Int.reduceSub,Int.reduceMul,Int.reduceTDiv,Int.reduceTMod,Int.reduceMod,Int.reduceDiv,Nat.reduceLT,Nat.reduceEqDiff,decide_true,decide_false,Sa,Sb,Sc,Sd,Se,Sf,Sg,true_and,and_true,and_self,eq_self,b_i64,b_i32,b_u64,b_u32,b_u8,Int.reduceLE,Int.reduceLT,Int.reduceToNat,Int.reduceNeg,Int.reduceEq,Nat.reduceLeDiff,Nat.reducePow,Int.reducePow,Nat.min_def,reduceIte,Nat.reduceSub,Nat.reduceAdd,Nat.reduceMul,KP_same,KP_f,condS_t,condS_f,pick_t,pick_f,gS_tt,gS_ff,gS_tf,gS_ft,gS_u,gP_tt,gP_ff,gP_tf,gP_ft,gP_u,ptrV_eq,slcV_eq,cells_agg,cells_int,cells_bool,cells_ptr,cells_slice,oc_int,oc_bool,oc_slice,oc_ptr,rd1_set,rd1_ne,rdn_set,rdn_ne,Heap.set_same,set_ne,Heap.set_set,set_up,set_up2,set_up3,putAt,ceq,List.map_cons,List.map_nil,List.length_cons,List.length_nil,List.length_set,List.cons_append,List.nil_append,List.append_nil,List.replicate,List.size_toArray,List.all_cons,List.all_nil,Bool.and_self,Bool.and_true,List.drop_zero,List.drop_succ_cons,List.take_succ_cons,List.take_zero,List.set_cons_zero,List.set_cons_succ,List.getElem?_cons_zero,List.getElem?_cons_succ,Option.map_some,Option.map_none,ne_eq,not_false_eq_true,not_true_eq_false,gt_iff_lt,ge_iff_le,Int.one_mul,Nat.zero_add,Nat.zero_mul,Bool.not_true,Bool.not_false,Bool.false_eq_true,Bool.and_false,Bool.false_and,Bool.true_and, *]))
    all_goals first
      | exact Fin_mk (Heap.Le.refl _) (h1 ⟨by omega, by omega, hAl⟩ a2 c2 os2 G2 ho2 hB2 hg2)
      | exact Fin_mk (by (repeat' (first | exact Heap.Le.refl _ | (refine Le_known (by first | (simp only [Heap.set_same, set_ne, ne_eq, not_false_eq_true, *] <;> rfl) | fail) ?_) | (refine Le_fresh (by first | (simp only [*] <;> done) | (simp [set_none', Heap.set_same, set_ne, *] <;> done) | fail) ?_) | (refine Heap.Le.trans ?_ (Grow.le (by assumption)))))) (h2 (by omega))
  · have ca := fun (G : Heap) (K : Value → Heap → Prop) (g : Grow w0 H G) (hk : K (.bool false) G) => c_alike a cap ls (hA.grow g) (fun hh => (hAl hh).elim) (fun _ => hk)
    rw [em] at h2 ca ⊢
    clear hA h1
    have h2 := h2 fun hh => hAl hh.2.2
    refine HL.hc k24 999 ?_; unfold M24
    (all_goals (refine (fun f : True → _ => f trivial) ?_)); repeat' ((first | (with_reducible refine fun _ : True => ?_) | refine ca _ _ (by (repeat' (first | exact Grow.refl _ | assumption | (refine Grow_known (by first | (simp only [Heap.set_same, set_ne, ne_eq, not_false_eq_true, *] <;> rfl) | fail) ?_) | (refine Grow.set ?_ (by assumption) (by first | (simp only [*] <;> done) | (simp [set_none', Heap.set_same, set_ne, *] <;> done) | fail)) | (refine Grow.trans ?_ (by assumption))))) ?_ | (refine AllocQ_i ?_; intro bk hb0 hbk; (try simp only [set_none'] at hbk); (try (first | have hbn := Grow.none (by assumption) hbk | have hbn := Grow.none (by assumption) hbk.2 | have hbn := Grow.none (by assumption) hbk.2.2 | have hbn := Grow.none (by assumption) hbk.2.2.2 | have hbn := Grow.none (by assumption) hbk.2.2.2.2 | have hbn := Grow.none (by assumption) hbk.2.2.2.2.2)); (try simp only [set_none'] at hbn); (try (first | have hbm := Grow.none (by assumption) hbn | have hbm := Grow.none (by assumption) hbn.2 | have hbm := Grow.none (by assumption) hbn.2.2 | have hbm := Grow.none (by assumption) hbn.2.2.2 | have hbm := Grow.none (by assumption) hbn.2.2.2.2 | have hbm := Grow.none (by assumption) hbn.2.2.2.2.2)); (try simp only [set_none'] at hbm)) | ((first | refine condS_i ?_ ?_ | refine pick_i ?_ ?_ | refine gS_it ?_ ?_ | refine gS_if ?_ ?_ | refine gP_it ?_ ?_ | refine gP_if ?_ ?_) <;> (intro hc; try simp only [Int.reduceLE,Int.reduceLT,Int.reduceEq,and_self,not_true_eq_false,not_false_eq_true,and_true,true_and,false_and,and_false,true_or,or_true,false_or,or_false,decide_eq_true_eq,decide_eq_false_iff_not,beq_iff_eq,beq_eq_false_iff_ne,bne_iff_ne,ne_eq,gt_iff_lt,ge_iff_le,Bool.not_eq_true,Bool.not_eq_false,Bool.not_eq_true',Bool.not_eq_false',Bool.not_eq_eq_eq_not,Bool.not_true,Bool.not_false] at hc)) | (refine KP_i (by (repeat' (first | exact Heap.Le.refl _ | (refine Le_known (by first | (simp only [Heap.set_same, set_ne, ne_eq, not_false_eq_true, *] <;> rfl) | fail) ?_) | (refine Le_fresh (by first | (simp only [*] <;> done) | (simp [set_none', Heap.set_same, set_ne, *] <;> done) | fail) ?_) | (refine Heap.Le.trans ?_ (Grow.le (by assumption)))))) ?_) | (with_reducible refine And.intro ?_ ?_)) <;> (try simp only [Sh,Si,Sl,Bu,Bb,Bd,Bc,Bw,Bn,Int.reduceAdd,Int.reduceSub,Int.reduceMul,Int.reduceTDiv,Int.reduceTMod,Int.reduceMod,Int.reduceDiv,Nat.reduceLT,Nat.reduceEqDiff,decide_true,decide_false,Sa,Sb,Sc,Sd,Se,Sf,Sg,true_and,and_true,and_self,eq_self,b_i64,b_i32,b_u64,b_u32,b_u8,Int.reduceLE,Int.reduceLT,Int.reduceToNat,Int.reduceNeg,Int.reduceEq,Nat.reduceLeDiff,Nat.reducePow,Int.reducePow,Nat.min_def,reduceIte,Nat.reduceSub,Nat.reduceAdd,Nat.reduceMul,KP_same,KP_f,condS_t,condS_f,pick_t,pick_f,gS_tt,gS_ff,gS_tf,gS_ft,gS_u,gP_tt,gP_ff,gP_tf,gP_ft,gP_u,ptrV_eq,slcV_eq,cells_agg,cells_int,cells_bool,cells_ptr,cells_slice,oc_int,oc_bool,oc_slice,oc_ptr,rd1_set,rd1_ne,rdn_set,rdn_ne,Heap.set_same,set_ne,Heap.set_set,set_up,set_up2,set_up3,putAt,ceq,List.map_cons,List.map_nil,List.length_cons,List.length_nil,List.length_set,List.cons_append,List.nil_append,List.append_nil,List.replicate,List.size_toArray,List.all_cons,List.all_nil,Bool.and_self,Bool.and_true,List.drop_zero,List.drop_succ_cons,List.take_succ_cons,List.take_zero,List.set_cons_zero,List.set_cons_succ,List.getElem?_cons_zero,List.getElem?_cons_succ,Option.map_some,Option.map_none,ne_eq,not_false_eq_true,not_true_eq_false,gt_iff_lt,ge_iff_le,Int.one_mul,Nat.zero_add,Nat.zero_mul,Bool.not_true,Bool.not_false,Bool.false_eq_true,Bool.and_false,Bool.false_and,Bool.true_and, *]))
    all_goals exact Fin_mk (by (repeat' (first | exact Heap.Le.refl _ | (refine Le_known (by first | (simp only [Heap.set_same, set_ne, ne_eq, not_false_eq_true, *] <;> rfl) | fail) ?_) | (refine Le_fresh (by first | (simp only [*] <;> done) | (simp [set_none', Heap.set_same, set_ne, *] <;> done) | fail) ?_) | (refine Heap.Le.trans ?_ (Grow.le (by assumption)))))) h2
end Go.Proofs.Ytofgiimfempcjaa
