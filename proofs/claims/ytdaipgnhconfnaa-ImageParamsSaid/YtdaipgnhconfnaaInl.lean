/- The statement on parameters, as a call (layer 8). -/
import Derived.Test.YtdaipgnhconfnaaInp
import Derived.Test.YtdaipgnhconfnaaInk
import Derived.Test.YtdaipgnhconfnaaInh
import Derived.Test.YtdaipgnhconfnaaImy
import Derived.Test.YtdaipgnhconfnaaWk8
set_option linter.unusedSimpArgs false
set_option linter.unusedVariables false
set_option maxRecDepth 100000
set_option maxHeartbeats 8000000
namespace Go.Proofs.Ytdaipgnhconfnaa
open Go Go.HL Go.RowKit Pb
variable {w0 : World} {H : Heap} {K : Value → Heap → Prop}

theorem compl_eqv {x y : Im} (h : Im.Eqv x y) (c : x.compl) : y.compl := by
  obtain ⟨hr, a, ea, hn, hcase⟩ := c
  obtain ⟨b, eb, hb⟩ := core_get h.symm ea
  obtain ⟨h1, h2, h3⟩ := core_eq hb
  refine ⟨right_eqv h hr, b, eb, fun hh => hn ((nil_core hb).1 hh), ?_⟩
  unfold Im.mip Im.lvls at *
  rw [h1, h2, h.s, h.t, h.mn]
  rcases hcase with ⟨p1, p2, hl⟩ | hc
  · refine .inl ⟨p1, p2, fun hm k hk => ?_⟩
    obtain ⟨z, ez, e1, e2⟩ := hl hm k hk
    obtain ⟨z', ez', hz'⟩ := core_get h.symm ez
    obtain ⟨q1, q2, -⟩ := core_eq hz'
    exact ⟨z', ez', by rw [q1, e1], by rw [q2, e2]⟩
  · exact .inr hc
/-- An image made short, in a heap of its own. -/
theorem cShort {x : Im} (hx : ImOk w0 H x) (G : Heap) (K : Value → Heap → Prop) (g : Grow w0 H G)
    (h : ∀ y H' Hy, x.Short y → ImOk w0 Hy y → Grow w0 Hy H' → (∀ b, w0.heap.size ≤ b → (G b).isSome = true → Hy b = none) → (∀ b, H' b = none → Hy b = none) → Grow w0 H H' → Grow w0 G H' → K y.v H') :
    HCalls Try.prog w0 13 [x.v] G K :=
  l_short x (hx.grow g) fun y H' hE hC hg => h y H' (newHp w0 G H') hE hC.newHp.ok (newHp_grow hg) (fun b h1 h2 => by unfold newHp; rw [if_pos ⟨h1, h2⟩]) (fun b e => (newHp_grow hg).none e) (g.trans hg) hg
theorem lenSum_core : ∀ {a b : List LvR}, a.map LvR.core = b.map LvR.core → lenSum a = lenSum b
  | [], [], _ => rfl
  | [], _ :: _, h => by simp at h
  | _ :: _, [], h => by simp at h
  | x :: a, y :: b, h => by
    simp only [List.map_cons, List.cons.injEq] at h
    simp only [lenSum, lenSum_core h.2, (core_eq h.1).2.2]
theorem cost_eqv {x y : Im} (h : Im.Eqv x y) : costI y = costI x := by
  unfold costI
  by_cases hr : x.right
  · rw [if_pos hr, if_pos (right_eqv h hr), lenSum_core h.ls]
  · rw [if_neg hr, if_neg (fun hh => hr (right_eqv h.symm hh))]
theorem ImC.grow {G F : Heap} {x : Im} (h : ImC w0 H G x) (g : Grow w0 G F) : ImC w0 H F x := ⟨h.bld.grow g, fun y hy => ⟨(h.lv y hy).bld.grow g, (h.lv y hy).lm, (h.lv y hy).lr, (h.lv y hy).w, (h.lv y hy).h, (h.lv y hy).by_⟩, h.lm, h.lr, h.f, h.s, h.t, h.mn, h.mg⟩
def Im0 : Im := ⟨0, none, 0, [], 0, 0, 0, 0⟩
theorem Im0_ok (w0 : World) (H G : Heap) : ImC w0 H G Im0 := ⟨Bld.none, fun y hy => by simp [Im0] at hy, Nat.zero_le _, Nat.zero_le _, by unfold I64 Im0; simp, by unfold I64 Im0; simp, by unfold I64 Im0; simp, by unfold I64 Im0; simp, by unfold I64 Im0; simp⟩
/-- What setting a parameter comes to. -/
def PRes (x : Im) (i n : Int) (y : Im) (e : Int) : Prop := (¬ x.right ∧ e = 180 ∧ y = Im0) ∨ (x.right ∧ ¬ valP i n ∧ e = 2 ∧ y = Im0) ∨ (x.right ∧ valP i n ∧ e = 0 ∧ Im.Eqv (x.setp i n) y)
theorem PRes_eqv {x w y z : Im} {i n e e' : Int} (h : Im.Eqv x w) (h1 : PRes x i n y e) (h2 : PRes w i n z e') : e' = e ∧ Im.Eqv y z := by
  have hr := right_iff h
  rcases h1 with ⟨a, rfl, rfl⟩ | ⟨a, b, rfl, rfl⟩ | ⟨a, b, rfl, c⟩ <;> rcases h2 with ⟨p, rfl, rfl⟩ | ⟨p, q, rfl, rfl⟩ | ⟨p, q, rfl, r⟩
  · exact ⟨rfl, .refl _⟩
  · exact (a (hr.1 p)).elim
  · exact (a (hr.1 p)).elim
  · exact (p (hr.2 a)).elim
  · exact ⟨rfl, .refl _⟩
  · exact (b q).elim
  · exact (p (hr.2 a)).elim
  · exact (q b).elim
  · exact ⟨rfl, c.symm.trans ((setp_eqv h i n).trans r)⟩
theorem c_ParamT {x : Im} (hx : ImOk w0 H x) (i n : Int) (hn : I64 n) (h : ∀ y e H', PRes x i n y e → ImC w0 H H' y → Grow w0 H H' → K (.tuple #[y.v, .int .i64 e]) H') : HCalls Try.prog w0 27 [x.v, .int .i64 i, .int .i64 n] H K := by
  by_cases hr : x.right
  · by_cases hv : valP i n
    · exact c_Param_ok x hx i n hr hv hn fun y H' a b c => h y 0 H' (.inr (.inr ⟨hr, hv, rfl, a⟩)) b c
    · exact c_Param_arg x hx i n hr hv (h Im0 2 H (.inr (.inl ⟨hr, hv, rfl, rfl⟩)) (Im0_ok _ _ _) (Grow.refl _))
  · exact c_Param_bad x hx i n hr (h Im0 180 H (.inl ⟨hr, rfl, rfl⟩) (Im0_ok _ _ _) (Grow.refl _))
theorem r_ParamT {x : Im} (hx : ImOk w0 H x) (i n : Int) (hn : I64 n) (h : ∀ y e H', PRes x i n y e → ImC w0 H H' y → Grow w0 H H' → K (.tuple #[y.v, .int .i64 e]) H') : HCalls Try.prog w0 28 [x.v, .int .i64 i, .int .i64 n] H K := by
  by_cases hr : x.right
  · by_cases hv : valP i n
    · exact r_Param_ok x hx i n hr hv hn fun y H' a b c => h y 0 H' (.inr (.inr ⟨hr, hv, rfl, a⟩)) b c
    · exact r_Param_arg x hx i n hr hv (h Im0 2 H (.inr (.inl ⟨hr, hv, rfl, rfl⟩)) (Im0_ok _ _ _) (Grow.refl _))
  · exact r_Param_bad x hx i n hr (h Im0 180 H (.inl ⟨hr, rfl, rfl⟩) (Im0_ok _ _ _) (Grow.refl _))
theorem hc_heap {f : FuncId} {args : List Value} (h : ∀ G, G = H → HCalls Try.prog w0 f args G K) : HCalls Try.prog w0 f args H K := h H rfl
/- paintboxlaw08 ImageParams -/
def M7 : MC :=
  .seq (.reg [⟨(some 3), .box 24 (.tmp 0), none⟩,
     ⟨(some 6), .mv (.const (.bool false)), none⟩])
  (.seq (.seq (.reg [⟨(some 13), .call 12 [], none⟩,
       ⟨(some 14), .un .not (.tmp 13), none⟩])
    (.cond (.tmp 14)
     (.seq (.reg [⟨(some 6), .mv (.const (.bool false)), none⟩])
      (.ret))
     (.skip)))
   (.seq (.reg [⟨(some 15), .ldn 6 (.tmp 3), none⟩,
       ⟨(some 16), .call 13 [(.tmp 15)], none⟩,
       ⟨none, .stn 6 (.tmp 3) (.tmp 16), none⟩])
    (.seq (.reg [⟨(some 17), .ldn 6 (.tmp 3), none⟩,
        ⟨(some 18), .call 14 [(.tmp 17)], none⟩,
        ⟨(some 7), .alloc 24 [(.int .i64 0), (.slice none 0 0), (.int .i64 0), (.int .i64 0), (.int .i64 0), (.int .i64 0)], none⟩,
        ⟨none, .stn 6 (.tmp 7) (.tmp 18), none⟩])
     (.seq (.reg [⟨(some 20), .ldn 6 (.tmp 3), none⟩,
         ⟨(some 21), .mv (.tmp 1), none⟩,
         ⟨(some 22), .mv (.tmp 2), none⟩,
         ⟨(some 23), .call 27 [(.tmp 20), (.tmp 21), (.tmp 22)], none⟩,
         ⟨(some 19), .mv (.tmp 23), none⟩,
         ⟨(some 24), .ext 0 (.tmp 19), none⟩,
         ⟨(some 25), .ext 1 (.tmp 19), none⟩,
         ⟨(some 8), .alloc 24 [(.int .i64 0), (.slice none 0 0), (.int .i64 0), (.int .i64 0), (.int .i64 0), (.int .i64 0)], none⟩,
         ⟨none, .stn 6 (.tmp 8) (.tmp 24), none⟩,
         ⟨(some 9), .mv (.tmp 25), none⟩])
      (.seq (.reg [⟨(some 27), .ldn 6 (.tmp 7), none⟩,
          ⟨(some 28), .mv (.tmp 1), none⟩,
          ⟨(some 29), .mv (.tmp 2), none⟩,
          ⟨(some 30), .call 28 [(.tmp 27), (.tmp 28), (.tmp 29)], none⟩,
          ⟨(some 26), .mv (.tmp 30), none⟩,
          ⟨(some 31), .ext 0 (.tmp 26), none⟩,
          ⟨(some 32), .ext 1 (.tmp 26), none⟩,
          ⟨(some 10), .alloc 24 [(.int .i64 0), (.slice none 0 0), (.int .i64 0), (.int .i64 0), (.int .i64 0), (.int .i64 0)], none⟩,
          ⟨none, .stn 6 (.tmp 10) (.tmp 31), none⟩,
          ⟨(some 11), .mv (.tmp 32), none⟩])
       (.seq (.seq (.reg [⟨(some 33), .ldn 6 (.tmp 8), none⟩,
            ⟨(some 34), .ldn 6 (.tmp 10), none⟩,
            ⟨(some 35), .ldn 6 (.tmp 3), none⟩,
            ⟨(some 36), .ldn 6 (.tmp 7), none⟩,
            ⟨(some 37), .mv (.tmp 9), none⟩,
            ⟨(some 38), .mv (.tmp 11), none⟩,
            ⟨(some 39), .call 17 [(.tmp 33), (.tmp 34), (.tmp 35), (.tmp 36), (.tmp 37), (.tmp 38)], none⟩,
            ⟨(some 40), .un .not (.tmp 39), none⟩])
         (.cond (.tmp 40)
          (.seq (.reg [⟨(some 6), .mv (.const (.bool false)), none⟩])
           (.ret))
          (.skip)))
        (.seq (.reg [⟨(some 41), .ldn 6 (.tmp 3), none⟩,
            ⟨(some 42), .call 19 [(.tmp 41)], none⟩,
            ⟨(some 12), .mv (.tmp 42), none⟩])
         (.seq (.any [(true, true, ⟨(some 43), .mv (.tmp 12), none⟩),
             (true, true, ⟨(some 44), .bin .eql (.tmp 43) (.const (.int .i64 0)), none⟩),
             (false, true, ⟨(some 45), .ldn 6 (.tmp 7), none⟩),
             (false, true, ⟨(some 46), .call 29 [(.tmp 45)], none⟩),
             (false, true, ⟨(some 47), .eqb false (.tmp 44) (.tmp 46), none⟩),
             (false, true, ⟨(some 48), .mv (.tmp 47), none⟩),
             (false, true, ⟨(some 49), .mv (.tmp 12), (some (48, true))⟩),
             (false, true, ⟨(some 50), .bin .eql (.tmp 49) (.const (.int .i64 0)), (some (48, true))⟩),
             (false, true, ⟨(some 51), .mv (.tmp 50), (some (48, true))⟩),
             (false, true, ⟨(some 52), .mv (.tmp 12), (some (51, false))⟩),
             (false, true, ⟨(some 53), .bin .eql (.tmp 52) (.const (.int .i64 180)), (some (51, false))⟩),
             (false, true, ⟨(some 54), .pick (.tmp 51) (.const (.bool true)) (.tmp 53), (some (48, true))⟩),
             (false, true, ⟨(some 55), .pick (.tmp 48) (.tmp 54) (.const (.bool false)), none⟩),
             (false, true, ⟨(some 56), .mv (.tmp 55), none⟩),
             (true, true, ⟨(some 57), .ldn 6 (.tmp 3), (some (56, true))⟩),
             (true, true, ⟨(some 59), .ldn 6 (.tmp 7), (some (56, true))⟩),
             (false, true, ⟨(some 58), .call 30 [(.tmp 57)], (some (56, true))⟩),
             (false, true, ⟨(some 60), .call 31 [(.tmp 59)], (some (56, true))⟩),
             (false, true, ⟨(some 61), .eqb false (.tmp 58) (.tmp 60), (some (56, true))⟩),
             (false, true, ⟨(some 62), .pick (.tmp 56) (.tmp 61) (.const (.bool false)), none⟩),
             (false, true, ⟨(some 63), .mv (.tmp 62), none⟩),
             (true, true, ⟨(some 64), .ldn 6 (.tmp 3), (some (63, true))⟩),
             (true, true, ⟨(some 66), .ldn 6 (.tmp 7), (some (63, true))⟩),
             (false, true, ⟨(some 65), .call 32 [(.tmp 64)], (some (63, true))⟩),
             (false, false, ⟨(some 67), .call 33 [(.tmp 66)], (some (63, true))⟩),
             (false, false, ⟨(some 68), .bin .eql (.tmp 65) (.tmp 67), (some (63, true))⟩),
             (false, false, ⟨(some 69), .pick (.tmp 63) (.tmp 68) (.const (.bool false)), none⟩),
             (false, false, ⟨(some 6), .mv (.tmp 69), none⟩)])
          (.ret)))))))))
theorem k7 : fnOk Try.prog 7 = some (M7, [.t 6], 70) := by kernel_rfl

theorem l_ImageParams (x : Im) (hx : ImOk w0 H x) (i n : Int) (hn : I64 n) (h : K (.bool true) H) : HCalls Try.prog w0 7 [x.v, .int .i64 i, .int .i64 n] H K := by
  have cX := cShort hx
  clear hx
  unfold Im.v at cX ⊢
  refine HL.hc k7 3000 ?_; unfold M7
  (all_goals (refine (fun f : True → _ => f trivial) ?_)); repeat' ((first | (with_reducible refine fun _ : True => ?_) | refine x_Wakes ?_ | refine cX _ _ (by (repeat' (first | exact Grow.refl _ | assumption | (refine Grow_known (by first | (simp only [Heap.set_same, set_ne, ne_eq, not_false_eq_true, *] <;> rfl) | fail) ?_) | (refine Grow.set ?_ (by assumption) (by first | (simp only [*] <;> done) | (simp [set_none', Heap.set_same, set_ne, *] <;> done) | fail)) | (refine Grow.trans ?_ (by assumption))))) (fun x1 H1 Hx hSx hIx gx nx fx gHx hg => ?_)  | (refine AllocQ_i ?_; intro bk hb0 hbk; (try simp only [set_none'] at hbk); (try (first | have hbn := Grow.none (by assumption) hbk | have hbn := Grow.none (by assumption) hbk.2 | have hbn := Grow.none (by assumption) hbk.2.2 | have hbn := Grow.none (by assumption) hbk.2.2.2 | have hbn := Grow.none (by assumption) hbk.2.2.2.2 | have hbn := Grow.none (by assumption) hbk.2.2.2.2.2)); (try simp only [set_none'] at hbn); (try (first | have hbm := Grow.none (by assumption) hbn | have hbm := Grow.none (by assumption) hbn.2 | have hbm := Grow.none (by assumption) hbn.2.2 | have hbm := Grow.none (by assumption) hbn.2.2.2 | have hbm := Grow.none (by assumption) hbn.2.2.2.2 | have hbm := Grow.none (by assumption) hbn.2.2.2.2.2)); (try simp only [set_none'] at hbm)) | ((first | refine condS_i ?_ ?_ | refine pick_i ?_ ?_ | refine gS_it ?_ ?_ | refine gS_if ?_ ?_ | refine gP_it ?_ ?_ | refine gP_if ?_ ?_) <;> (intro hc; try simp only [Int.reduceLE,Int.reduceLT,Int.reduceEq,and_self,not_true_eq_false,not_false_eq_true,and_true,true_and,false_and,and_false,true_or,or_true,false_or,or_false,decide_eq_true_eq,decide_eq_false_iff_not,beq_iff_eq,beq_eq_false_iff_ne,bne_iff_ne,ne_eq,gt_iff_lt,ge_iff_le,Bool.not_eq_true,Bool.not_eq_false,Bool.not_eq_true',Bool.not_eq_false',Bool.not_eq_eq_eq_not,Bool.not_true,Bool.not_false] at hc)) | (refine KP_i (by (repeat' (first | exact Heap.Le.refl _ | (refine Le_known (by first | (simp only [Heap.set_same, set_ne, ne_eq, not_false_eq_true, *] <;> rfl) | fail) ?_) | (refine Le_fresh (by first | (simp only [*] <;> done) | (simp [set_none', Heap.set_same, set_ne, *] <;> done) | fail) ?_) | (refine Heap.Le.trans ?_ (Grow.le (by assumption)))))) ?_) | (with_reducible refine And.intro ?_ ?_)) <;> (try simp only [Sh,Si,Sl,Bu,Bb,Bd,Bc,Bw,Bn,Int.reduceAdd,Int.reduceSub,Int.reduceMul,Int.reduceTDiv,Int.reduceTMod,Int.reduceMod,Int.reduceDiv,Nat.reduceLT,Nat.reduceEqDiff,decide_true,decide_false,Sa,Sb,Sc,Sd,Se,Sf,Sg,true_and,and_true,and_self,eq_self,b_i64,b_i32,b_u64,b_u32,b_u8,Int.reduceLE,Int.reduceLT,Int.reduceToNat,Int.reduceNeg,Int.reduceEq,Nat.reduceLeDiff,Nat.reducePow,Int.reducePow,Nat.min_def,reduceIte,Nat.reduceSub,Nat.reduceAdd,Nat.reduceMul,KP_same,KP_f,condS_t,condS_f,pick_t,pick_f,gS_tt,gS_ff,gS_tf,gS_ft,gS_u,gP_tt,gP_ff,gP_tf,gP_ft,gP_u,ptrV_eq,slcV_eq,cells_agg,cells_int,cells_bool,cells_ptr,cells_slice,oc_int,oc_bool,oc_slice,oc_ptr,rd1_set,rd1_ne,rdn_set,rdn_ne,Heap.set_same,set_ne,Heap.set_set,set_up,set_up2,set_up3,putAt,ceq,List.map_cons,List.map_nil,List.length_cons,List.length_nil,List.length_set,List.cons_append,List.nil_append,List.append_nil,List.replicate,List.size_toArray,List.all_cons,List.all_nil,Bool.and_self,Bool.and_true,List.drop_zero,List.drop_succ_cons,List.take_succ_cons,List.take_zero,List.set_cons_zero,List.set_cons_succ,List.getElem?_cons_zero,List.getElem?_cons_succ,Option.map_some,Option.map_none,ne_eq,not_false_eq_true,not_true_eq_false,gt_iff_lt,ge_iff_le,Int.one_mul,Nat.zero_add,Nat.zero_mul,Bool.not_true,Bool.not_false,Bool.false_eq_true,Bool.and_false,Bool.false_and,Bool.true_and, *]))
  rw [up1 hg]
  have cC := cCopy hIx
  unfold Im.v at cC
  (all_goals (refine (fun f : True → _ => f trivial) ?_)); repeat' ((first | (with_reducible refine fun _ : True => ?_) | refine cC _ _ (by (repeat' (first | exact Grow.refl _ | assumption | (refine Grow_known (by first | (simp only [Heap.set_same, set_ne, ne_eq, not_false_eq_true, *] <;> rfl) | fail) ?_) | (refine Grow.set ?_ (by assumption) (by first | (simp only [*] <;> done) | (simp [set_none', Heap.set_same, set_ne, *] <;> done) | fail)) | (refine Grow.trans ?_ (by assumption))))) (fun w H2 Hw hE hIw gw nw fw gHw hg2 => ?_)  | (refine AllocQ_i ?_; intro bk hb0 hbk; (try simp only [set_none'] at hbk); (try (first | have hbn := Grow.none (by assumption) hbk | have hbn := Grow.none (by assumption) hbk.2 | have hbn := Grow.none (by assumption) hbk.2.2 | have hbn := Grow.none (by assumption) hbk.2.2.2 | have hbn := Grow.none (by assumption) hbk.2.2.2.2 | have hbn := Grow.none (by assumption) hbk.2.2.2.2.2)); (try simp only [set_none'] at hbn); (try (first | have hbm := Grow.none (by assumption) hbn | have hbm := Grow.none (by assumption) hbn.2 | have hbm := Grow.none (by assumption) hbn.2.2 | have hbm := Grow.none (by assumption) hbn.2.2.2 | have hbm := Grow.none (by assumption) hbn.2.2.2.2 | have hbm := Grow.none (by assumption) hbn.2.2.2.2.2)); (try simp only [set_none'] at hbm)) | ((first | refine condS_i ?_ ?_ | refine pick_i ?_ ?_ | refine gS_it ?_ ?_ | refine gS_if ?_ ?_ | refine gP_it ?_ ?_ | refine gP_if ?_ ?_) <;> (intro hc; try simp only [Int.reduceLE,Int.reduceLT,Int.reduceEq,and_self,not_true_eq_false,not_false_eq_true,and_true,true_and,false_and,and_false,true_or,or_true,false_or,or_false,decide_eq_true_eq,decide_eq_false_iff_not,beq_iff_eq,beq_eq_false_iff_ne,bne_iff_ne,ne_eq,gt_iff_lt,ge_iff_le,Bool.not_eq_true,Bool.not_eq_false,Bool.not_eq_true',Bool.not_eq_false',Bool.not_eq_eq_eq_not,Bool.not_true,Bool.not_false] at hc)) | (refine KP_i (by (repeat' (first | exact Heap.Le.refl _ | (refine Le_known (by first | (simp only [Heap.set_same, set_ne, ne_eq, not_false_eq_true, *] <;> rfl) | fail) ?_) | (refine Le_fresh (by first | (simp only [*] <;> done) | (simp [set_none', Heap.set_same, set_ne, *] <;> done) | fail) ?_) | (refine Heap.Le.trans ?_ (Grow.le (by assumption)))))) ?_) | (with_reducible refine And.intro ?_ ?_)) <;> (try simp only [Sh,Si,Sl,Bu,Bb,Bd,Bc,Bw,Bn,Int.reduceAdd,Int.reduceSub,Int.reduceMul,Int.reduceTDiv,Int.reduceTMod,Int.reduceMod,Int.reduceDiv,Nat.reduceLT,Nat.reduceEqDiff,decide_true,decide_false,Sa,Sb,Sc,Sd,Se,Sf,Sg,true_and,and_true,and_self,eq_self,b_i64,b_i32,b_u64,b_u32,b_u8,Int.reduceLE,Int.reduceLT,Int.reduceToNat,Int.reduceNeg,Int.reduceEq,Nat.reduceLeDiff,Nat.reducePow,Int.reducePow,Nat.min_def,reduceIte,Nat.reduceSub,Nat.reduceAdd,Nat.reduceMul,KP_same,KP_f,condS_t,condS_f,pick_t,pick_f,gS_tt,gS_ff,gS_tf,gS_ft,gS_u,gP_tt,gP_ff,gP_tf,gP_ft,gP_u,ptrV_eq,slcV_eq,cells_agg,cells_int,cells_bool,cells_ptr,cells_slice,oc_int,oc_bool,oc_slice,oc_ptr,rd1_set,rd1_ne,rdn_set,rdn_ne,Heap.set_same,set_ne,Heap.set_set,set_up,set_up2,set_up3,putAt,ceq,List.map_cons,List.map_nil,List.length_cons,List.length_nil,List.length_set,List.cons_append,List.nil_append,List.append_nil,List.replicate,List.size_toArray,List.all_cons,List.all_nil,Bool.and_self,Bool.and_true,List.drop_zero,List.drop_succ_cons,List.take_succ_cons,List.take_zero,List.set_cons_zero,List.set_cons_succ,List.getElem?_cons_zero,List.getElem?_cons_succ,Option.map_some,Option.map_none,ne_eq,not_false_eq_true,not_true_eq_false,gt_iff_lt,ge_iff_le,Int.one_mul,Nat.zero_add,Nat.zero_mul,Bool.not_true,Bool.not_false,Bool.false_eq_true,Bool.and_false,Bool.false_and,Bool.true_and, *]))
  have gH2 : Grow w0 H H2 := Grow.trans (by (repeat' (first | exact Grow.refl _ | assumption | (refine Grow_known (by first | (simp only [Heap.set_same, set_ne, ne_eq, not_false_eq_true, *] <;> rfl) | fail) ?_) | (refine Grow.set ?_ (by assumption) (by first | (simp only [*] <;> done) | (simp [set_none', Heap.set_same, set_ne, *] <;> done) | fail)) | (refine Grow.trans ?_ (by assumption))))) hg2
  have gx2 : Grow w0 Hx H2 := Grow.trans (by (repeat' (first | exact Grow.refl _ | assumption | (refine Grow_known (by first | (simp only [Heap.set_same, set_ne, ne_eq, not_false_eq_true, *] <;> rfl) | fail) ?_) | (refine Grow.set ?_ (by assumption) (by first | (simp only [*] <;> done) | (simp [set_none', Heap.set_same, set_ne, *] <;> done) | fail)) | (refine Grow.trans ?_ (by assumption))))) hg2
  rename_i b3 p3 q3 q4
  have nx3 : Hx b3 = none := nx b3 p3 (by rw [Heap.set_same]; rfl)
  have nw3 : Hw b3 = none := nw b3 p3 (by rw [Heap.set_same]; rfl)
  rw [up1 hg2]
  clear hg hg2 nx nw gx gHx gHw cX cC fx
  (all_goals (refine (fun f : True → _ => f trivial) ?_)); repeat' ((first | (with_reducible refine fun _ : True => ?_) | (refine AllocQ_i ?_; intro bk hb0 hbk; (try simp only [set_none'] at hbk); (try (first | have hbn := Grow.none (by assumption) hbk | have hbn := Grow.none (by assumption) hbk.2 | have hbn := Grow.none (by assumption) hbk.2.2 | have hbn := Grow.none (by assumption) hbk.2.2.2 | have hbn := Grow.none (by assumption) hbk.2.2.2.2 | have hbn := Grow.none (by assumption) hbk.2.2.2.2.2)); (try simp only [set_none'] at hbn); (try (first | have hbm := Grow.none (by assumption) hbn | have hbm := Grow.none (by assumption) hbn.2 | have hbm := Grow.none (by assumption) hbn.2.2 | have hbm := Grow.none (by assumption) hbn.2.2.2 | have hbm := Grow.none (by assumption) hbn.2.2.2.2 | have hbm := Grow.none (by assumption) hbn.2.2.2.2.2)); (try simp only [set_none'] at hbm)) | ((first | refine condS_i ?_ ?_ | refine pick_i ?_ ?_ | refine gS_it ?_ ?_ | refine gS_if ?_ ?_ | refine gP_it ?_ ?_ | refine gP_if ?_ ?_) <;> (intro hc; try simp only [Int.reduceLE,Int.reduceLT,Int.reduceEq,and_self,not_true_eq_false,not_false_eq_true,and_true,true_and,false_and,and_false,true_or,or_true,false_or,or_false,decide_eq_true_eq,decide_eq_false_iff_not,beq_iff_eq,beq_eq_false_iff_ne,bne_iff_ne,ne_eq,gt_iff_lt,ge_iff_le,Bool.not_eq_true,Bool.not_eq_false,Bool.not_eq_true',Bool.not_eq_false',Bool.not_eq_eq_eq_not,Bool.not_true,Bool.not_false] at hc)) | (refine KP_i (by (repeat' (first | exact Heap.Le.refl _ | (refine Le_known (by first | (simp only [Heap.set_same, set_ne, ne_eq, not_false_eq_true, *] <;> rfl) | fail) ?_) | (refine Le_fresh (by first | (simp only [*] <;> done) | (simp [set_none', Heap.set_same, set_ne, *] <;> done) | fail) ?_) | (refine Heap.Le.trans ?_ (Grow.le (by assumption)))))) ?_) | (with_reducible refine And.intro ?_ ?_)) <;> (try simp only [Sh,Si,Sl,Bu,Bb,Bd,Bc,Bw,Bn,Int.reduceAdd,Int.reduceSub,Int.reduceMul,Int.reduceTDiv,Int.reduceTMod,Int.reduceMod,Int.reduceDiv,Nat.reduceLT,Nat.reduceEqDiff,decide_true,decide_false,Sa,Sb,Sc,Sd,Se,Sf,Sg,true_and,and_true,and_self,eq_self,b_i64,b_i32,b_u64,b_u32,b_u8,Int.reduceLE,Int.reduceLT,Int.reduceToNat,Int.reduceNeg,Int.reduceEq,Nat.reduceLeDiff,Nat.reducePow,Int.reducePow,Nat.min_def,reduceIte,Nat.reduceSub,Nat.reduceAdd,Nat.reduceMul,KP_same,KP_f,condS_t,condS_f,pick_t,pick_f,gS_tt,gS_ff,gS_tf,gS_ft,gS_u,gP_tt,gP_ff,gP_tf,gP_ft,gP_u,ptrV_eq,slcV_eq,cells_agg,cells_int,cells_bool,cells_ptr,cells_slice,oc_int,oc_bool,oc_slice,oc_ptr,rd1_set,rd1_ne,rdn_set,rdn_ne,Heap.set_same,set_ne,Heap.set_set,set_up,set_up2,set_up3,putAt,ceq,List.map_cons,List.map_nil,List.length_cons,List.length_nil,List.length_set,List.cons_append,List.nil_append,List.append_nil,List.replicate,List.size_toArray,List.all_cons,List.all_nil,Bool.and_self,Bool.and_true,List.drop_zero,List.drop_succ_cons,List.take_succ_cons,List.take_zero,List.set_cons_zero,List.set_cons_succ,List.getElem?_cons_zero,List.getElem?_cons_succ,Option.map_some,Option.map_none,ne_eq,not_false_eq_true,not_true_eq_false,gt_iff_lt,ge_iff_le,Int.one_mul,Nat.zero_add,Nat.zero_mul,Bool.not_true,Bool.not_false,Bool.false_eq_true,Bool.and_false,Bool.false_and,Bool.true_and, *]))
  have hne : b3 ≠ bk := hbn.1.2
  have hne2 := hbn.1
  have nx7 : Hx bk = none := gx2.none hbk
  have nw7 : Hw bk = none := fw _ hbk
  refine hc_heap (fun G3 e3 => ?_)
  have k3 := at_of e3 (b := b3) (by simp only [Heap.set_same, set_ne, ne_eq, not_false_eq_true, *] <;> rfl)
  have k7 := at_of e3 (b := bk) (by simp only [Heap.set_same, set_ne, ne_eq, not_false_eq_true, *] <;> rfl)
  have gx3 : Grow w0 Hx G3 := by rw [e3]; exact (gx2.set p3 nx3).set hb0 nx7
  have gw3 : Grow w0 Hw G3 := by rw [e3]; exact (gw.set p3 nw3).set hb0 nw7
  have gH3 : Grow w0 H G3 := by rw [e3]; exact (gH2.set p3 q3).set hb0 hbm.2
  clear e3 fw nx3 nw3 nx7 nw7 hbk
  refine c_ParamT (hIx.grow gx3) i n hn (fun got e H4 hP hC4 g4 => ?_)
  have j3 := g4.some k3
  have j7 := g4.some k7
  rw [root2 hne j3 j7]
  unfold Im.v
  clear hbn hbm gw gH2 gx2
  (all_goals (refine (fun f : True → _ => f trivial) ?_)); repeat' ((first | (with_reducible refine fun _ : True => ?_) | (refine AllocQ_i ?_; intro bk hb0 hbk; (try simp only [set_none'] at hbk); (try (first | have hbn := Grow.none (by assumption) hbk | have hbn := Grow.none (by assumption) hbk.2 | have hbn := Grow.none (by assumption) hbk.2.2 | have hbn := Grow.none (by assumption) hbk.2.2.2 | have hbn := Grow.none (by assumption) hbk.2.2.2.2 | have hbn := Grow.none (by assumption) hbk.2.2.2.2.2)); (try simp only [set_none'] at hbn); (try (first | have hbm := Grow.none (by assumption) hbn | have hbm := Grow.none (by assumption) hbn.2 | have hbm := Grow.none (by assumption) hbn.2.2 | have hbm := Grow.none (by assumption) hbn.2.2.2 | have hbm := Grow.none (by assumption) hbn.2.2.2.2 | have hbm := Grow.none (by assumption) hbn.2.2.2.2.2)); (try simp only [set_none'] at hbm)) | ((first | refine condS_i ?_ ?_ | refine pick_i ?_ ?_ | refine gS_it ?_ ?_ | refine gS_if ?_ ?_ | refine gP_it ?_ ?_ | refine gP_if ?_ ?_) <;> (intro hc; try simp only [Int.reduceLE,Int.reduceLT,Int.reduceEq,and_self,not_true_eq_false,not_false_eq_true,and_true,true_and,false_and,and_false,true_or,or_true,false_or,or_false,decide_eq_true_eq,decide_eq_false_iff_not,beq_iff_eq,beq_eq_false_iff_ne,bne_iff_ne,ne_eq,gt_iff_lt,ge_iff_le,Bool.not_eq_true,Bool.not_eq_false,Bool.not_eq_true',Bool.not_eq_false',Bool.not_eq_eq_eq_not,Bool.not_true,Bool.not_false] at hc)) | (refine KP_i (by (repeat' (first | exact Heap.Le.refl _ | (refine Le_known (by first | (simp only [Heap.set_same, set_ne, ne_eq, not_false_eq_true, *] <;> rfl) | fail) ?_) | (refine Le_fresh (by first | (simp only [*] <;> done) | (simp [set_none', Heap.set_same, set_ne, *] <;> done) | fail) ?_) | (refine Heap.Le.trans ?_ (Grow.le (by assumption)))))) ?_) | (with_reducible refine And.intro ?_ ?_)) <;> (try simp only [Sh,Si,Sl,Bu,Bb,Bd,Bc,Bw,Bn,Int.reduceAdd,Int.reduceSub,Int.reduceMul,Int.reduceTDiv,Int.reduceTMod,Int.reduceMod,Int.reduceDiv,Nat.reduceLT,Nat.reduceEqDiff,decide_true,decide_false,Sa,Sb,Sc,Sd,Se,Sf,Sg,true_and,and_true,and_self,eq_self,b_i64,b_i32,b_u64,b_u32,b_u8,Int.reduceLE,Int.reduceLT,Int.reduceToNat,Int.reduceNeg,Int.reduceEq,Nat.reduceLeDiff,Nat.reducePow,Int.reducePow,Nat.min_def,reduceIte,Nat.reduceSub,Nat.reduceAdd,Nat.reduceMul,KP_same,KP_f,condS_t,condS_f,pick_t,pick_f,gS_tt,gS_ff,gS_tf,gS_ft,gS_u,gP_tt,gP_ff,gP_tf,gP_ft,gP_u,ptrV_eq,slcV_eq,cells_agg,cells_int,cells_bool,cells_ptr,cells_slice,oc_int,oc_bool,oc_slice,oc_ptr,rd1_set,rd1_ne,rdn_set,rdn_ne,Heap.set_same,set_ne,Heap.set_set,set_up,set_up2,set_up3,putAt,ceq,List.map_cons,List.map_nil,List.length_cons,List.length_nil,List.length_set,List.cons_append,List.nil_append,List.append_nil,List.replicate,List.size_toArray,List.all_cons,List.all_nil,Bool.and_self,Bool.and_true,List.drop_zero,List.drop_succ_cons,List.take_succ_cons,List.take_zero,List.set_cons_zero,List.set_cons_succ,List.getElem?_cons_zero,List.getElem?_cons_succ,Option.map_some,Option.map_none,ne_eq,not_false_eq_true,not_true_eq_false,gt_iff_lt,ge_iff_le,Int.one_mul,Nat.zero_add,Nat.zero_mul,Bool.not_true,Bool.not_false,Bool.false_eq_true,Bool.and_false,Bool.false_and,Bool.true_and, *]))
  refine hc_heap (fun G5 e5 => ?_)
  have m8 := at_of e5 (b := bk) (by simp only [Heap.set_same, set_ne, ne_eq, not_false_eq_true, *] <;> rfl)
  have g35 : Grow w0 G3 G5 := by rw [e5]; exact (by (repeat' (first | exact Grow.refl _ | assumption | (refine Grow_known (by first | (simp only [Heap.set_same, set_ne, ne_eq, not_false_eq_true, *] <;> rfl) | fail) ?_) | (refine Grow.set ?_ (by assumption) (by first | (simp only [*] <;> done) | (simp [set_none', Heap.set_same, set_ne, *] <;> done) | fail)) | (refine Grow.trans ?_ (by assumption)))))
  have g45 : Grow w0 H4 G5 := by rw [e5]; exact (by (repeat' (first | exact Grow.refl _ | assumption | (refine Grow_known (by first | (simp only [Heap.set_same, set_ne, ne_eq, not_false_eq_true, *] <;> rfl) | fail) ?_) | (refine Grow.set ?_ (by assumption) (by first | (simp only [*] <;> done) | (simp [set_none', Heap.set_same, set_ne, *] <;> done) | fail)) | (refine Grow.trans ?_ (by assumption)))))
  have n83 := hbk.1
  have n87 := hbk.2.1
  clear e5 hbn hbm
  refine r_ParamT (hIw.grow (gw3.trans g35)) i n hn (fun want e' H6 hP2 hC6 g6 => ?_)
  obtain ⟨rfl, hEq⟩ := PRes_eqv hE hP hP2
  have i3 := g6.some (g35.some k3)
  have i7 := g6.some (g35.some k7)
  have i8 := g6.some m8
  have g36 := g35.trans g6
  have g46 := g45.trans g6
  rw [root3 i3 i7 i8]
  unfold Im.v
  clear hbk m8
  (all_goals (refine (fun f : True → _ => f trivial) ?_)); repeat' ((first | (with_reducible refine fun _ : True => ?_) | (refine AllocQ_i ?_; intro bk hb0 hbk; (try simp only [set_none'] at hbk); (try (first | have hbn := Grow.none (by assumption) hbk | have hbn := Grow.none (by assumption) hbk.2 | have hbn := Grow.none (by assumption) hbk.2.2 | have hbn := Grow.none (by assumption) hbk.2.2.2 | have hbn := Grow.none (by assumption) hbk.2.2.2.2 | have hbn := Grow.none (by assumption) hbk.2.2.2.2.2)); (try simp only [set_none'] at hbn); (try (first | have hbm := Grow.none (by assumption) hbn | have hbm := Grow.none (by assumption) hbn.2 | have hbm := Grow.none (by assumption) hbn.2.2 | have hbm := Grow.none (by assumption) hbn.2.2.2 | have hbm := Grow.none (by assumption) hbn.2.2.2.2 | have hbm := Grow.none (by assumption) hbn.2.2.2.2.2)); (try simp only [set_none'] at hbm)) | ((first | refine condS_i ?_ ?_ | refine pick_i ?_ ?_ | refine gS_it ?_ ?_ | refine gS_if ?_ ?_ | refine gP_it ?_ ?_ | refine gP_if ?_ ?_) <;> (intro hc; try simp only [Int.reduceLE,Int.reduceLT,Int.reduceEq,and_self,not_true_eq_false,not_false_eq_true,and_true,true_and,false_and,and_false,true_or,or_true,false_or,or_false,decide_eq_true_eq,decide_eq_false_iff_not,beq_iff_eq,beq_eq_false_iff_ne,bne_iff_ne,ne_eq,gt_iff_lt,ge_iff_le,Bool.not_eq_true,Bool.not_eq_false,Bool.not_eq_true',Bool.not_eq_false',Bool.not_eq_eq_eq_not,Bool.not_true,Bool.not_false] at hc)) | (refine KP_i (by (repeat' (first | exact Heap.Le.refl _ | (refine Le_known (by first | (simp only [Heap.set_same, set_ne, ne_eq, not_false_eq_true, *] <;> rfl) | fail) ?_) | (refine Le_fresh (by first | (simp only [*] <;> done) | (simp [set_none', Heap.set_same, set_ne, *] <;> done) | fail) ?_) | (refine Heap.Le.trans ?_ (Grow.le (by assumption)))))) ?_) | (with_reducible refine And.intro ?_ ?_)) <;> (try simp only [Sh,Si,Sl,Bu,Bb,Bd,Bc,Bw,Bn,Int.reduceAdd,Int.reduceSub,Int.reduceMul,Int.reduceTDiv,Int.reduceTMod,Int.reduceMod,Int.reduceDiv,Nat.reduceLT,Nat.reduceEqDiff,decide_true,decide_false,Sa,Sb,Sc,Sd,Se,Sf,Sg,true_and,and_true,and_self,eq_self,b_i64,b_i32,b_u64,b_u32,b_u8,Int.reduceLE,Int.reduceLT,Int.reduceToNat,Int.reduceNeg,Int.reduceEq,Nat.reduceLeDiff,Nat.reducePow,Int.reducePow,Nat.min_def,reduceIte,Nat.reduceSub,Nat.reduceAdd,Nat.reduceMul,KP_same,KP_f,condS_t,condS_f,pick_t,pick_f,gS_tt,gS_ff,gS_tf,gS_ft,gS_u,gP_tt,gP_ff,gP_tf,gP_ft,gP_u,ptrV_eq,slcV_eq,cells_agg,cells_int,cells_bool,cells_ptr,cells_slice,oc_int,oc_bool,oc_slice,oc_ptr,rd1_set,rd1_ne,rdn_set,rdn_ne,Heap.set_same,set_ne,Heap.set_set,set_up,set_up2,set_up3,putAt,ceq,List.map_cons,List.map_nil,List.length_cons,List.length_nil,List.length_set,List.cons_append,List.nil_append,List.append_nil,List.replicate,List.size_toArray,List.all_cons,List.all_nil,Bool.and_self,Bool.and_true,List.drop_zero,List.drop_succ_cons,List.take_succ_cons,List.take_zero,List.set_cons_zero,List.set_cons_succ,List.getElem?_cons_zero,List.getElem?_cons_succ,Option.map_some,Option.map_none,ne_eq,not_false_eq_true,not_true_eq_false,gt_iff_lt,ge_iff_le,Int.one_mul,Nat.zero_add,Nat.zero_mul,Bool.not_true,Bool.not_false,Bool.false_eq_true,Bool.and_false,Bool.false_and,Bool.true_and, *]))
  refine hc_heap (fun G7 e7 => ?_)
  have g67 : Grow w0 H6 G7 := by rw [e7]; exact (by (repeat' (first | exact Grow.refl _ | assumption | (refine Grow_known (by first | (simp only [Heap.set_same, set_ne, ne_eq, not_false_eq_true, *] <;> rfl) | fail) ?_) | (refine Grow.set ?_ (by assumption) (by first | (simp only [*] <;> done) | (simp [set_none', Heap.set_same, set_ne, *] <;> done) | fail)) | (refine Grow.trans ?_ (by assumption)))))
  clear e7
  refine l_right got want x1 w _ (Hb := G3) (hC4.grow (g46.trans g67)) (g36.trans g67) (hC6.ok.grow g67) (hIx.grow gx3) (hIw.grow gw3) hEq hE (fun H8 g8 => ?_)
  have r3 := g8.some k3
  have r7 := g8.some k7
  have hcur := root2 hne r3 r7
  have gxc : Grow w0 Hx H8 := gx3.trans g8
  have gwc : Grow w0 Hw H8 := gw3.trans g8
  have gHc : Grow w0 H H8 := gH3.trans g8
  have cA : ∀ K, K (.int .i64 (if x1.right then 0 else 180)) H8 → HCalls Try.prog w0 19 [x1.v] H8 K := fun K hk => c_Check x1 (hIx.grow gxc) hk
  have cB : ∀ K, K (.bool (decide x1.right)) H8 → HCalls Try.prog w0 29 [w.v] H8 K := fun K hk => r_Right8 w (hIw.grow gwc) (by rw [show decide w.right = decide x1.right by rw [decide_eq_decide]; exact right_iff hE]; exact hk)
  have cD : ∀ K, (x1.compl → K (.bool true) H8) → (¬ x1.compl → K (.bool false) H8) → HCalls Try.prog w0 30 [x1.v] H8 K := fun K h1 h2 => c_Complete x1 (hIx.grow gxc) h1 h2
  have cE : ∀ K, (x1.compl → K (.bool true) H8) → (¬ x1.compl → K (.bool false) H8) → HCalls Try.prog w0 31 [w.v] H8 K := fun K h1 h2 => r_Complete w (hIw.grow gwc) (fun hc => h1 (compl_eqv hE.symm hc)) (fun hc => h2 fun hh => hc (compl_eqv hE hh))
  have cF : ∀ K, K (.int .i64 (costI x1)) H8 → HCalls Try.prog w0 32 [x1.v] H8 K := fun K hk => c_Cost x1 (hIx.grow gxc) hk
  have cG : ∀ K, K (.int .i64 (costI x1)) H8 → HCalls Try.prog w0 33 [w.v] H8 K := fun K hk => r_Cost w (hIw.grow gwc) (by rw [cost_eqv hE]; exact hk)
  unfold Im.v at cA cB cD cE cF cG
  rw [hcur] at cA cB cD cE cF cG gHc ⊢
  clear hP hP2 hC4 hC6 g4 g6 g35 g45 g36 g46 g67 g8 gxc gwc gx3 gw3 gH3 hIx hIw hEq hSx j3 j7 i3 i7 i8 k3 k7 hcur
  by_cases hr : x1.right
  · simp only [if_pos hr, decide_eq_true hr] at cA cB
    by_cases hc : x1.compl
    · have cD := fun K hk => cD K (fun _ => hk) (fun h => (h hc).elim)
      have cE := fun K hk => cE K (fun _ => hk) (fun h => (h hc).elim)
      clear hr hc hE
      (all_goals (refine (fun f : True → _ => f trivial) ?_)); repeat' ((first | (with_reducible refine fun _ : True => ?_) | refine cA _ ?_ | refine cB _ ?_ | refine cD _ ?_ | refine cE _ ?_ | refine cF _ ?_ | refine cG _ ?_ | (refine AllocQ_i ?_; intro bk hb0 hbk; (try simp only [set_none'] at hbk); (try (first | have hbn := Grow.none (by assumption) hbk | have hbn := Grow.none (by assumption) hbk.2 | have hbn := Grow.none (by assumption) hbk.2.2 | have hbn := Grow.none (by assumption) hbk.2.2.2 | have hbn := Grow.none (by assumption) hbk.2.2.2.2 | have hbn := Grow.none (by assumption) hbk.2.2.2.2.2)); (try simp only [set_none'] at hbn); (try (first | have hbm := Grow.none (by assumption) hbn | have hbm := Grow.none (by assumption) hbn.2 | have hbm := Grow.none (by assumption) hbn.2.2 | have hbm := Grow.none (by assumption) hbn.2.2.2 | have hbm := Grow.none (by assumption) hbn.2.2.2.2 | have hbm := Grow.none (by assumption) hbn.2.2.2.2.2)); (try simp only [set_none'] at hbm)) | ((first | refine condS_i ?_ ?_ | refine pick_i ?_ ?_ | refine gS_it ?_ ?_ | refine gS_if ?_ ?_ | refine gP_it ?_ ?_ | refine gP_if ?_ ?_) <;> (intro hc; try simp only [Int.reduceLE,Int.reduceLT,Int.reduceEq,and_self,not_true_eq_false,not_false_eq_true,and_true,true_and,false_and,and_false,true_or,or_true,false_or,or_false,decide_eq_true_eq,decide_eq_false_iff_not,beq_iff_eq,beq_eq_false_iff_ne,bne_iff_ne,ne_eq,gt_iff_lt,ge_iff_le,Bool.not_eq_true,Bool.not_eq_false,Bool.not_eq_true',Bool.not_eq_false',Bool.not_eq_eq_eq_not,Bool.not_true,Bool.not_false] at hc)) | (refine KP_i (by (repeat' (first | exact Heap.Le.refl _ | (refine Le_known (by first | (simp only [Heap.set_same, set_ne, ne_eq, not_false_eq_true, *] <;> rfl) | fail) ?_) | (refine Le_fresh (by first | (simp only [*] <;> done) | (simp [set_none', Heap.set_same, set_ne, *] <;> done) | fail) ?_) | (refine Heap.Le.trans ?_ (Grow.le (by assumption)))))) ?_) | (with_reducible refine And.intro ?_ ?_)) <;> (try simp only [Sh,Si,Sl,Bu,Bb,Bd,Bc,Bw,Bn,Int.reduceAdd,Int.reduceSub,Int.reduceMul,Int.reduceTDiv,Int.reduceTMod,Int.reduceMod,Int.reduceDiv,Nat.reduceLT,Nat.reduceEqDiff,decide_true,decide_false,Sa,Sb,Sc,Sd,Se,Sf,Sg,true_and,and_true,and_self,eq_self,b_i64,b_i32,b_u64,b_u32,b_u8,Int.reduceLE,Int.reduceLT,Int.reduceToNat,Int.reduceNeg,Int.reduceEq,Nat.reduceLeDiff,Nat.reducePow,Int.reducePow,Nat.min_def,reduceIte,Nat.reduceSub,Nat.reduceAdd,Nat.reduceMul,KP_same,KP_f,condS_t,condS_f,pick_t,pick_f,gS_tt,gS_ff,gS_tf,gS_ft,gS_u,gP_tt,gP_ff,gP_tf,gP_ft,gP_u,ptrV_eq,slcV_eq,cells_agg,cells_int,cells_bool,cells_ptr,cells_slice,oc_int,oc_bool,oc_slice,oc_ptr,rd1_set,rd1_ne,rdn_set,rdn_ne,Heap.set_same,set_ne,Heap.set_set,set_up,set_up2,set_up3,putAt,ceq,List.map_cons,List.map_nil,List.length_cons,List.length_nil,List.length_set,List.cons_append,List.nil_append,List.append_nil,List.replicate,List.size_toArray,List.all_cons,List.all_nil,Bool.and_self,Bool.and_true,List.drop_zero,List.drop_succ_cons,List.take_succ_cons,List.take_zero,List.set_cons_zero,List.set_cons_succ,List.getElem?_cons_zero,List.getElem?_cons_succ,Option.map_some,Option.map_none,ne_eq,not_false_eq_true,not_true_eq_false,gt_iff_lt,ge_iff_le,Int.one_mul,Nat.zero_add,Nat.zero_mul,Bool.not_true,Bool.not_false,Bool.false_eq_true,Bool.and_false,Bool.false_and,Bool.true_and, *]))
      all_goals exact Fin_mk (Grow.le gHc) h
    · have cD := fun K hk => cD K (fun h => (hc h).elim) (fun _ => hk)
      have cE := fun K hk => cE K (fun h => (hc h).elim) (fun _ => hk)
      clear hr hc hE
      (all_goals (refine (fun f : True → _ => f trivial) ?_)); repeat' ((first | (with_reducible refine fun _ : True => ?_) | refine cA _ ?_ | refine cB _ ?_ | refine cD _ ?_ | refine cE _ ?_ | refine cF _ ?_ | refine cG _ ?_ | (refine AllocQ_i ?_; intro bk hb0 hbk; (try simp only [set_none'] at hbk); (try (first | have hbn := Grow.none (by assumption) hbk | have hbn := Grow.none (by assumption) hbk.2 | have hbn := Grow.none (by assumption) hbk.2.2 | have hbn := Grow.none (by assumption) hbk.2.2.2 | have hbn := Grow.none (by assumption) hbk.2.2.2.2 | have hbn := Grow.none (by assumption) hbk.2.2.2.2.2)); (try simp only [set_none'] at hbn); (try (first | have hbm := Grow.none (by assumption) hbn | have hbm := Grow.none (by assumption) hbn.2 | have hbm := Grow.none (by assumption) hbn.2.2 | have hbm := Grow.none (by assumption) hbn.2.2.2 | have hbm := Grow.none (by assumption) hbn.2.2.2.2 | have hbm := Grow.none (by assumption) hbn.2.2.2.2.2)); (try simp only [set_none'] at hbm)) | ((first | refine condS_i ?_ ?_ | refine pick_i ?_ ?_ | refine gS_it ?_ ?_ | refine gS_if ?_ ?_ | refine gP_it ?_ ?_ | refine gP_if ?_ ?_) <;> (intro hc; try simp only [Int.reduceLE,Int.reduceLT,Int.reduceEq,and_self,not_true_eq_false,not_false_eq_true,and_true,true_and,false_and,and_false,true_or,or_true,false_or,or_false,decide_eq_true_eq,decide_eq_false_iff_not,beq_iff_eq,beq_eq_false_iff_ne,bne_iff_ne,ne_eq,gt_iff_lt,ge_iff_le,Bool.not_eq_true,Bool.not_eq_false,Bool.not_eq_true',Bool.not_eq_false',Bool.not_eq_eq_eq_not,Bool.not_true,Bool.not_false] at hc)) | (refine KP_i (by (repeat' (first | exact Heap.Le.refl _ | (refine Le_known (by first | (simp only [Heap.set_same, set_ne, ne_eq, not_false_eq_true, *] <;> rfl) | fail) ?_) | (refine Le_fresh (by first | (simp only [*] <;> done) | (simp [set_none', Heap.set_same, set_ne, *] <;> done) | fail) ?_) | (refine Heap.Le.trans ?_ (Grow.le (by assumption)))))) ?_) | (with_reducible refine And.intro ?_ ?_)) <;> (try simp only [Sh,Si,Sl,Bu,Bb,Bd,Bc,Bw,Bn,Int.reduceAdd,Int.reduceSub,Int.reduceMul,Int.reduceTDiv,Int.reduceTMod,Int.reduceMod,Int.reduceDiv,Nat.reduceLT,Nat.reduceEqDiff,decide_true,decide_false,Sa,Sb,Sc,Sd,Se,Sf,Sg,true_and,and_true,and_self,eq_self,b_i64,b_i32,b_u64,b_u32,b_u8,Int.reduceLE,Int.reduceLT,Int.reduceToNat,Int.reduceNeg,Int.reduceEq,Nat.reduceLeDiff,Nat.reducePow,Int.reducePow,Nat.min_def,reduceIte,Nat.reduceSub,Nat.reduceAdd,Nat.reduceMul,KP_same,KP_f,condS_t,condS_f,pick_t,pick_f,gS_tt,gS_ff,gS_tf,gS_ft,gS_u,gP_tt,gP_ff,gP_tf,gP_ft,gP_u,ptrV_eq,slcV_eq,cells_agg,cells_int,cells_bool,cells_ptr,cells_slice,oc_int,oc_bool,oc_slice,oc_ptr,rd1_set,rd1_ne,rdn_set,rdn_ne,Heap.set_same,set_ne,Heap.set_set,set_up,set_up2,set_up3,putAt,ceq,List.map_cons,List.map_nil,List.length_cons,List.length_nil,List.length_set,List.cons_append,List.nil_append,List.append_nil,List.replicate,List.size_toArray,List.all_cons,List.all_nil,Bool.and_self,Bool.and_true,List.drop_zero,List.drop_succ_cons,List.take_succ_cons,List.take_zero,List.set_cons_zero,List.set_cons_succ,List.getElem?_cons_zero,List.getElem?_cons_succ,Option.map_some,Option.map_none,ne_eq,not_false_eq_true,not_true_eq_false,gt_iff_lt,ge_iff_le,Int.one_mul,Nat.zero_add,Nat.zero_mul,Bool.not_true,Bool.not_false,Bool.false_eq_true,Bool.and_false,Bool.false_and,Bool.true_and, *]))
      all_goals exact Fin_mk (Grow.le gHc) h
  · simp only [if_neg hr, decide_eq_false hr] at cA cB
    have hc : ¬ x1.compl := fun h => hr h.1
    have cD := fun K hk => cD K (fun h => (hc h).elim) (fun _ => hk)
    have cE := fun K hk => cE K (fun h => (hc h).elim) (fun _ => hk)
    clear hr hc hE
    (all_goals (refine (fun f : True → _ => f trivial) ?_)); repeat' ((first | (with_reducible refine fun _ : True => ?_) | refine cA _ ?_ | refine cB _ ?_ | refine cD _ ?_ | refine cE _ ?_ | refine cF _ ?_ | refine cG _ ?_ | (refine AllocQ_i ?_; intro bk hb0 hbk; (try simp only [set_none'] at hbk); (try (first | have hbn := Grow.none (by assumption) hbk | have hbn := Grow.none (by assumption) hbk.2 | have hbn := Grow.none (by assumption) hbk.2.2 | have hbn := Grow.none (by assumption) hbk.2.2.2 | have hbn := Grow.none (by assumption) hbk.2.2.2.2 | have hbn := Grow.none (by assumption) hbk.2.2.2.2.2)); (try simp only [set_none'] at hbn); (try (first | have hbm := Grow.none (by assumption) hbn | have hbm := Grow.none (by assumption) hbn.2 | have hbm := Grow.none (by assumption) hbn.2.2 | have hbm := Grow.none (by assumption) hbn.2.2.2 | have hbm := Grow.none (by assumption) hbn.2.2.2.2 | have hbm := Grow.none (by assumption) hbn.2.2.2.2.2)); (try simp only [set_none'] at hbm)) | ((first | refine condS_i ?_ ?_ | refine pick_i ?_ ?_ | refine gS_it ?_ ?_ | refine gS_if ?_ ?_ | refine gP_it ?_ ?_ | refine gP_if ?_ ?_) <;> (intro hc; try simp only [Int.reduceLE,Int.reduceLT,Int.reduceEq,and_self,not_true_eq_false,not_false_eq_true,and_true,true_and,false_and,and_false,true_or,or_true,false_or,or_false,decide_eq_true_eq,decide_eq_false_iff_not,beq_iff_eq,beq_eq_false_iff_ne,bne_iff_ne,ne_eq,gt_iff_lt,ge_iff_le,Bool.not_eq_true,Bool.not_eq_false,Bool.not_eq_true',Bool.not_eq_false',Bool.not_eq_eq_eq_not,Bool.not_true,Bool.not_false] at hc)) | (refine KP_i (by (repeat' (first | exact Heap.Le.refl _ | (refine Le_known (by first | (simp only [Heap.set_same, set_ne, ne_eq, not_false_eq_true, *] <;> rfl) | fail) ?_) | (refine Le_fresh (by first | (simp only [*] <;> done) | (simp [set_none', Heap.set_same, set_ne, *] <;> done) | fail) ?_) | (refine Heap.Le.trans ?_ (Grow.le (by assumption)))))) ?_) | (with_reducible refine And.intro ?_ ?_)) <;> (try simp only [Sh,Si,Sl,Bu,Bb,Bd,Bc,Bw,Bn,Int.reduceAdd,Int.reduceSub,Int.reduceMul,Int.reduceTDiv,Int.reduceTMod,Int.reduceMod,Int.reduceDiv,Nat.reduceLT,Nat.reduceEqDiff,decide_true,decide_false,Sa,Sb,Sc,Sd,Se,Sf,Sg,true_and,and_true,and_self,eq_self,b_i64,b_i32,b_u64,b_u32,b_u8,Int.reduceLE,Int.reduceLT,Int.reduceToNat,Int.reduceNeg,Int.reduceEq,Nat.reduceLeDiff,Nat.reducePow,Int.reducePow,Nat.min_def,reduceIte,Nat.reduceSub,Nat.reduceAdd,Nat.reduceMul,KP_same,KP_f,condS_t,condS_f,pick_t,pick_f,gS_tt,gS_ff,gS_tf,gS_ft,gS_u,gP_tt,gP_ff,gP_tf,gP_ft,gP_u,ptrV_eq,slcV_eq,cells_agg,cells_int,cells_bool,cells_ptr,cells_slice,oc_int,oc_bool,oc_slice,oc_ptr,rd1_set,rd1_ne,rdn_set,rdn_ne,Heap.set_same,set_ne,Heap.set_set,set_up,set_up2,set_up3,putAt,ceq,List.map_cons,List.map_nil,List.length_cons,List.length_nil,List.length_set,List.cons_append,List.nil_append,List.append_nil,List.replicate,List.size_toArray,List.all_cons,List.all_nil,Bool.and_self,Bool.and_true,List.drop_zero,List.drop_succ_cons,List.take_succ_cons,List.take_zero,List.set_cons_zero,List.set_cons_succ,List.getElem?_cons_zero,List.getElem?_cons_succ,Option.map_some,Option.map_none,ne_eq,not_false_eq_true,not_true_eq_false,gt_iff_lt,ge_iff_le,Int.one_mul,Nat.zero_add,Nat.zero_mul,Bool.not_true,Bool.not_false,Bool.false_eq_true,Bool.and_false,Bool.false_and,Bool.true_and, *]))
    all_goals exact Fin_mk (Grow.le gHc) h
end Go.Proofs.Ytdaipgnhconfnaa
