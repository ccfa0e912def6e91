/- Areas, and the statement on them as a call (layer 21). -/
import Derived.Test.YtofgiimfempcjaaClt
set_option linter.unusedSimpArgs false
set_option linter.unusedVariables false
set_option maxRecDepth 100000
set_option maxHeartbeats 8000000
namespace Go.Proofs.Ytofgiimfempcjaa
open Go Go.HL Go.RowKit Pb
variable {w0 : World} {H : Heap} {K : Value → Heap → Prop}

abbrev W64 (n : Int) : Int := IntKind.i64.wrap n
def areaI (a b c : Wn) : Int := W64 (W64 (W64 (b.x - a.x) * W64 (c.y - a.y)) - W64 (W64 (c.x - a.x) * W64 (b.y - a.y)))
theorem w64_def (n : Int) : W64 n = if 9223372036854775808 ≤ n % 18446744073709551616 then n % 18446744073709551616 - 18446744073709551616 else n % 18446744073709551616 := by
  unfold W64 IntKind.wrap
  simp [IntKind.signed, IntKind.bits]
theorem w64_res {m n : Int} (h : m % 18446744073709551616 = n % 18446744073709551616) : W64 m = W64 n := by rw [w64_def, w64_def, h]
theorem w64_mod (n : Int) : W64 n % 18446744073709551616 = n % 18446744073709551616 := by rw [w64_def]; split <;> omega
theorem c_mul {a b a' b' M : Int} (h1 : a % M = a' % M) (h2 : b % M = b' % M) : (a * b) % M = (a' * b') % M := by rw [Int.mul_emod, h1, h2, ← Int.mul_emod]
theorem c_sub {a b a' b' M : Int} (h1 : a % M = a' % M) (h2 : b % M = b' % M) : (a - b) % M = (a' - b') % M := by rw [Int.sub_emod, h1, h2, ← Int.sub_emod]
def areaP (a b c : Wn) : Int := (b.x - a.x) * (c.y - a.y) - (c.x - a.x) * (b.y - a.y)
theorem area_res (a b c : Wn) : areaI a b c % 18446744073709551616 = areaP a b c % 18446744073709551616 := by
  unfold areaI areaP
  rw [w64_mod]
  refine c_sub ?_ ?_ <;> (rw [w64_mod]; exact c_mul (w64_mod _) (w64_mod _))
theorem area_turn (a b c : Wn) : areaI b a c = W64 (0 - areaI a b c) := by
  have h1 : areaI b a c = W64 (areaI b a c) := by unfold areaI; exact (w64_res (w64_mod _)).symm
  rw [h1]
  refine w64_res ?_
  rw [area_res, c_sub rfl (area_res a b c)]
  congr 1
  unfold areaP
  simp only [Int.sub_mul, Int.mul_sub]
  omega
theorem area_round (a b c : Wn) : areaI b c a = areaI a b c := by
  have h1 : areaI b c a = W64 (areaI b c a) := by unfold areaI; exact (w64_res (w64_mod _)).symm
  have h2 : areaI a b c = W64 (areaI a b c) := by unfold areaI; exact (w64_res (w64_mod _)).symm
  rw [h1, h2]
  refine w64_res ?_
  rw [area_res, area_res]
  congr 1
  unfold areaP
  simp only [Int.sub_mul, Int.mul_sub]
  omega
def triV (x y z : WnR) : Value := .agg #[.int .i64 x.x, .int .i64 x.y, .int .i32 x.z, .int .i32 x.w, .int .i32 x.s, .slice x.a x.l.length x.cap, .int .i64 y.x, .int .i64 y.y, .int .i32 y.z, .int .i32 y.w, .int .i32 y.s, .slice y.a y.l.length y.cap, .int .i64 z.x, .int .i64 z.y, .int .i32 z.z, .int .i32 z.w, .int .i32 z.s, .slice z.a z.l.length z.cap]
def A16_1 : PT := (.one true true ⟨(some 6), .ia 3 6 (.tmp 1) (.const (.int .i64 0)), none⟩ (.one true true ⟨(some 7), .ldn 6 (.tmp 6), none⟩ (.one true true ⟨(some 8), .ia 3 6 (.tmp 1) (.const (.int .i64 1)), none⟩ (.one true true ⟨(some 9), .ldn 6 (.tmp 8), none⟩ (.one true true ⟨(some 10), .ia 3 6 (.tmp 1) (.const (.int .i64 2)), none⟩ (.one true true ⟨(some 11), .ldn 6 (.tmp 10), none⟩ (.alt (.one false true ⟨(some 3), .alloc 44 [(.int .i64 0), (.int .i64 0), (.int .i32 0), (.int .i32 0), (.int .i32 0), (.slice none 0 0)], none⟩ (.alt (.one false true ⟨(some 4), .alloc 44 [(.int .i64 0), (.int .i64 0), (.int .i32 0), (.int .i32 0), (.int .i32 0), (.slice none 0 0)], none⟩ (.one false true ⟨(some 5), .alloc 44 [(.int .i64 0), (.int .i64 0), (.int .i32 0), (.int .i32 0), (.int .i32 0), (.slice none 0 0)], none⟩ (.one false true ⟨none, .stn 6 (.tmp 3) (.tmp 7), none⟩ (.one false true ⟨none, .stn 6 (.tmp 4) (.tmp 9), none⟩ (.one false false ⟨none, .stn 6 (.tmp 5) (.tmp 11), none⟩ .nil)))))
      (.one false true ⟨(some 5), .alloc 44 [(.int .i64 0), (.int .i64 0), (.int .i32 0), (.int .i32 0), (.int .i32 0), (.slice none 0 0)], none⟩ (.one false true ⟨(some 4), .alloc 44 [(.int .i64 0), (.int .i64 0), (.int .i32 0), (.int .i32 0), (.int .i32 0), (.slice none 0 0)], none⟩ (.one false true ⟨none, .stn 6 (.tmp 3) (.tmp 7), none⟩ (.one false true ⟨none, .stn 6 (.tmp 4) (.tmp 9), none⟩ (.one false false ⟨none, .stn 6 (.tmp 5) (.tmp 11), none⟩ .nil)))))))
      (.alt (.one false true ⟨(some 4), .alloc 44 [(.int .i64 0), (.int .i64 0), (.int .i32 0), (.int .i32 0), (.int .i32 0), (.slice none 0 0)], none⟩ (.alt (.one false true ⟨(some 3), .alloc 44 [(.int .i64 0), (.int .i64 0), (.int .i32 0), (.int .i32 0), (.int .i32 0), (.slice none 0 0)], none⟩ (.one false true ⟨(some 5), .alloc 44 [(.int .i64 0), (.int .i64 0), (.int .i32 0), (.int .i32 0), (.int .i32 0), (.slice none 0 0)], none⟩ (.one false true ⟨none, .stn 6 (.tmp 3) (.tmp 7), none⟩ (.one false true ⟨none, .stn 6 (.tmp 4) (.tmp 9), none⟩ (.one false false ⟨none, .stn 6 (.tmp 5) (.tmp 11), none⟩ .nil)))))
      (.one false true ⟨(some 5), .alloc 44 [(.int .i64 0), (.int .i64 0), (.int .i32 0), (.int .i32 0), (.int .i32 0), (.slice none 0 0)], none⟩ (.one false true ⟨(some 3), .alloc 44 [(.int .i64 0), (.int .i64 0), (.int .i32 0), (.int .i32 0), (.int .i32 0), (.slice none 0 0)], none⟩ (.one false true ⟨none, .stn 6 (.tmp 3) (.tmp 7), none⟩ (.one false true ⟨none, .stn 6 (.tmp 4) (.tmp 9), none⟩ (.one false false ⟨none, .stn 6 (.tmp 5) (.tmp 11), none⟩ .nil)))))))
      (.one false true ⟨(some 5), .alloc 44 [(.int .i64 0), (.int .i64 0), (.int .i32 0), (.int .i32 0), (.int .i32 0), (.slice none 0 0)], none⟩ (.alt (.one false true ⟨(some 3), .alloc 44 [(.int .i64 0), (.int .i64 0), (.int .i32 0), (.int .i32 0), (.int .i32 0), (.slice none 0 0)], none⟩ (.one false true ⟨(some 4), .alloc 44 [(.int .i64 0), (.int .i64 0), (.int .i32 0), (.int .i32 0), (.int .i32 0), (.slice none 0 0)], none⟩ (.one false true ⟨none, .stn 6 (.tmp 3) (.tmp 7), none⟩ (.one false true ⟨none, .stn 6 (.tmp 4) (.tmp 9), none⟩ (.one false false ⟨none, .stn 6 (.tmp 5) (.tmp 11), none⟩ .nil)))))
      (.one false true ⟨(some 4), .alloc 44 [(.int .i64 0), (.int .i64 0), (.int .i32 0), (.int .i32 0), (.int .i32 0), (.slice none 0 0)], none⟩ (.one false true ⟨(some 3), .alloc 44 [(.int .i64 0), (.int .i64 0), (.int .i32 0), (.int .i32 0), (.int .i32 0), (.slice none 0 0)], none⟩ (.one false true ⟨none, .stn 6 (.tmp 3) (.tmp 7), none⟩ (.one false true ⟨none, .stn 6 (.tmp 4) (.tmp 9), none⟩ (.one false false ⟨none, .stn 6 (.tmp 5) (.tmp 11), none⟩ .nil)))))))))))))))
/- clip Area -/
def M16 : MC :=
  .seq (.reg [⟨(some 1), .box 45 (.tmp 0), none⟩,
     ⟨(some 2), .mv (.const (.int .i64 0)), none⟩])
  (.seq (.alts A16_1)
   (.seq (.reg [⟨(some 12), .fa 0 (.tmp 4), none⟩,
       ⟨(some 13), .ld1 (.tmp 12), none⟩,
       ⟨(some 14), .fa 0 (.tmp 3), none⟩,
       ⟨(some 15), .ld1 (.tmp 14), none⟩,
       ⟨(some 16), .bin .sub (.tmp 13) (.tmp 15), none⟩,
       ⟨(some 17), .fa 1 (.tmp 5), none⟩,
       ⟨(some 18), .ld1 (.tmp 17), none⟩,
       ⟨(some 19), .fa 1 (.tmp 3), none⟩,
       ⟨(some 20), .ld1 (.tmp 19), none⟩,
       ⟨(some 21), .bin .sub (.tmp 18) (.tmp 20), none⟩,
       ⟨(some 22), .bin .mul (.tmp 16) (.tmp 21), none⟩,
       ⟨(some 23), .fa 0 (.tmp 5), none⟩,
       ⟨(some 24), .ld1 (.tmp 23), none⟩,
       ⟨(some 25), .fa 0 (.tmp 3), none⟩,
       ⟨(some 26), .ld1 (.tmp 25), none⟩,
       ⟨(some 27), .bin .sub (.tmp 24) (.tmp 26), none⟩,
       ⟨(some 28), .fa 1 (.tmp 4), none⟩,
       ⟨(some 29), .ld1 (.tmp 28), none⟩,
       ⟨(some 30), .fa 1 (.tmp 3), none⟩,
       ⟨(some 31), .ld1 (.tmp 30), none⟩,
       ⟨(some 32), .bin .sub (.tmp 29) (.tmp 31), none⟩,
       ⟨(some 33), .bin .mul (.tmp 27) (.tmp 32), none⟩,
       ⟨(some 34), .bin .sub (.tmp 22) (.tmp 33), none⟩,
       ⟨(some 2), .mv (.tmp 34), none⟩])
    (.ret)))
theorem k16 : fnOk Try.prog 16 = some (M16, [.t 2], 35) := by kernel_rfl

theorem c_Area (x y z : WnR) (h : K (.int .i64 (areaI x.toWn y.toWn z.toWn)) H) : HCalls Try.prog w0 16 [triV x y z] H K := by
  unfold triV
  refine HL.hc k16 999 ?_; unfold M16
  (all_goals (refine (fun f : True → _ => f trivial) ?_)); repeat' ((first | (with_reducible refine fun _ : True => ?_) | (refine AllocQ_i ?_; intro bk hb0 hbk; (try simp only [set_none'] at hbk); (try (first | have hbn := Grow.none (by assumption) hbk | have hbn := Grow.none (by assumption) hbk.2 | have hbn := Grow.none (by assumption) hbk.2.2 | have hbn := Grow.none (by assumption) hbk.2.2.2 | have hbn := Grow.none (by assumption) hbk.2.2.2.2 | have hbn := Grow.none (by assumption) hbk.2.2.2.2.2)); (try simp only [set_none'] at hbn); (try (first | have hbm := Grow.none (by assumption) hbn | have hbm := Grow.none (by assumption) hbn.2 | have hbm := Grow.none (by assumption) hbn.2.2 | have hbm := Grow.none (by assumption) hbn.2.2.2 | have hbm := Grow.none (by assumption) hbn.2.2.2.2 | have hbm := Grow.none (by assumption) hbn.2.2.2.2.2)); (try simp only [set_none'] at hbm)) | ((first | refine condS_i ?_ ?_ | refine pick_i ?_ ?_ | refine gS_it ?_ ?_ | refine gS_if ?_ ?_ | refine gP_it ?_ ?_ | refine gP_if ?_ ?_) <;> (intro hc; try simp only [Int.reduceLE,Int.reduceLT,Int.reduceEq,and_self,not_true_eq_false,not_false_eq_true,and_true,true_and,false_and,and_false,true_or,or_true,false_or,or_false,decide_eq_true_eq,decide_eq_false_iff_not,beq_iff_eq,beq_eq_false_iff_ne,bne_iff_ne,ne_eq,gt_iff_lt,ge_iff_le,Bool.not_eq_true,Bool.not_eq_false,Bool.not_eq_true',Bool.not_eq_false',Bool.not_eq_eq_eq_not,Bool.not_true,Bool.not_false] at hc)) | (refine KP_i (by (repeat' (first | exact Heap.Le.refl _ | (refine Le_known (by first | (simp only [Heap.set_same, set_ne, ne_eq, not_false_eq_true, *] <;> rfl) | fail) ?_) | (refine Le_fresh (by first | (simp only [*] <;> done) | (simp [set_none', Heap.set_same, set_ne, *] <;> done) | fail) ?_) | (refine Heap.Le.trans ?_ (Grow.le (by assumption)))))) ?_) | (with_reducible refine And.intro ?_ ?_)) <;> (try simp only [Sh,Si,Sl,Bu,Bb,Bd,Bc,Bw,Bn,Int.reduceAdd,Int.reduceSub,Int.reduceMul,Int.reduceTDiv,Int.reduceTMod,Int.reduceMod,Int.reduceDiv,Nat.reduceLT,Nat.reduceEqDiff,decide_true,decide_false,Sa,Sb,Sc,Sd,Se,Sf,Sg,true_and,and_true,and_self,eq_self,b_i64,b_i32,b_u64,b_u32,b_u8,Int.reduceLE,Int.reduceLT,Int.reduceToNat,Int.reduceNeg,Int.reduceEq,Nat.reduceLeDiff,Nat.reducePow,Int.reducePow,Nat.min_def,reduceIte,Nat.reduceSub,Nat.reduceAdd,Nat.reduceMul,KP_same,KP_f,condS_t,condS_f,pick_t,pick_f,gS_tt,gS_ff,gS_tf,gS_ft,gS_u,gP_tt,gP_ff,gP_tf,gP_ft,gP_u,ptrV_eq,slcV_eq,cells_agg,cells_int,cells_bool,cells_ptr,cells_slice,oc_int,oc_bool,oc_slice,oc_ptr,rd1_set,rd1_ne,rdn_set,rdn_ne,Heap.set_same,set_ne,Heap.set_set,set_up,set_up2,set_up3,putAt,ceq,List.map_cons,List.map_nil,List.length_cons,List.length_nil,List.length_set,List.cons_append,List.nil_append,List.append_nil,List.replicate,List.size_toArray,List.all_cons,List.all_nil,Bool.and_self,Bool.and_true,List.drop_zero,List.drop_succ_cons,List.take_succ_cons,List.take_zero,List.set_cons_zero,List.set_cons_succ,List.getElem?_cons_zero,List.getElem?_cons_succ,Option.map_some,Option.map_none,ne_eq,not_false_eq_true,not_true_eq_false,gt_iff_lt,ge_iff_le,Int.one_mul,Nat.zero_add,Nat.zero_mul,Bool.not_true,Bool.not_false,Bool.false_eq_true,Bool.and_false,Bool.false_and,Bool.true_and, *]))
  refine pt_heap (fun G0 eG => ?_)
  obtain ⟨b1, rfl⟩ : ∃ q, q = bk := ⟨bk, rfl⟩
  have gH0 : Grow w0 H G0 := by rw [eG]; exact (by (repeat' (first | exact Grow.refl _ | assumption | (refine Grow_known (by first | (simp only [Heap.set_same, set_ne, ne_eq, not_false_eq_true, *] <;> rfl) | fail) ?_) | (refine Grow.set ?_ (by assumption) (by first | (simp only [*] <;> done) | (simp [set_none', Heap.set_same, set_ne, *] <;> done) | fail)) | (refine Grow.trans ?_ (by assumption)))))
  have k1 := at_of eG (b := b1) (by simp only [Heap.set_same, set_ne, ne_eq, not_false_eq_true, *] <;> rfl)
  clear eG
  refine alts_g (S := (Nat × Nat × Nat) × Heap) 6 (fun s => [(3, .pointer (some ⟨s.1.1, 0, none⟩)), (4, .pointer (some ⟨s.1.2.1, 0, none⟩)), (5, .pointer (some ⟨s.1.2.2, 0, none⟩))]) (fun s => s.2)
    (fun s => Grow w0 G0 s.2 ∧ (s.1.1 ≠ s.1.2.1 ∧ s.1.1 ≠ s.1.2.2 ∧ s.1.2.1 ≠ s.1.2.2) ∧ s.2 s.1.1 = some ⟨44, x.row⟩ ∧ s.2 s.1.2.1 = some ⟨44, y.row⟩ ∧ s.2 s.1.2.2 = some ⟨44, z.row⟩) 100 800 ?_ ?_ (by decide)
  · rw [root1 k1]
    unfold A16_1
    (all_goals (refine (fun f : True → _ => f trivial) ?_)); repeat' ((first | (with_reducible refine fun _ : True => ?_) | (refine AllocQ_i ?_; intro bk hb0 hbk; (try simp only [set_none'] at hbk); (try (first | have hbn := Grow.none (by assumption) hbk | have hbn := Grow.none (by assumption) hbk.2 | have hbn := Grow.none (by assumption) hbk.2.2 | have hbn := Grow.none (by assumption) hbk.2.2.2 | have hbn := Grow.none (by assumption) hbk.2.2.2.2 | have hbn := Grow.none (by assumption) hbk.2.2.2.2.2)); (try simp only [set_none'] at hbn); (try (first | have hbm := Grow.none (by assumption) hbn | have hbm := Grow.none (by assumption) hbn.2 | have hbm := Grow.none (by assumption) hbn.2.2 | have hbm := Grow.none (by assumption) hbn.2.2.2 | have hbm := Grow.none (by assumption) hbn.2.2.2.2 | have hbm := Grow.none (by assumption) hbn.2.2.2.2.2)); (try simp only [set_none'] at hbm)) | ((first | refine condS_i ?_ ?_ | refine pick_i ?_ ?_ | refine gS_it ?_ ?_ | refine gS_if ?_ ?_ | refine gP_it ?_ ?_ | refine gP_if ?_ ?_) <;> (intro hc; try simp only [Int.reduceLE,Int.reduceLT,Int.reduceEq,and_self,not_true_eq_false,not_false_eq_true,and_true,true_and,false_and,and_false,true_or,or_true,false_or,or_false,decide_eq_true_eq,decide_eq_false_iff_not,beq_iff_eq,beq_eq_false_iff_ne,bne_iff_ne,ne_eq,gt_iff_lt,ge_iff_le,Bool.not_eq_true,Bool.not_eq_false,Bool.not_eq_true',Bool.not_eq_false',Bool.not_eq_eq_eq_not,Bool.not_true,Bool.not_false] at hc)) | (refine KP_i (by (repeat' (first | exact Heap.Le.refl _ | (refine Le_known (by first | (simp only [Heap.set_same, set_ne, ne_eq, not_false_eq_true, *] <;> rfl) | fail) ?_) | (refine Le_fresh (by first | (simp only [*] <;> done) | (simp [set_none', Heap.set_same, set_ne, *] <;> done) | fail) ?_) | (refine Heap.Le.trans ?_ (Grow.le (by assumption)))))) ?_) | (with_reducible refine And.intro ?_ ?_)) <;> (try simp only [Sh,Si,Sl,Bu,Bb,Bd,Bc,Bw,Bn,Int.reduceAdd,Int.reduceSub,Int.reduceMul,Int.reduceTDiv,Int.reduceTMod,Int.reduceMod,Int.reduceDiv,Nat.reduceLT,Nat.reduceEqDiff,decide_true,decide_false,Sa,Sb,Sc,Sd,Se,Sf,Sg,true_and,and_true,and_self,eq_self,b_i64,b_i32,b_u64,b_u32,b_u8,Int.reduceLE,Int.reduceLT,Int.reduceToNat,Int.reduceNeg,Int.reduceEq,Nat.reduceLeDiff,Nat.reducePow,Int.reducePow,Nat.min_def,reduceIte,Nat.reduceSub,Nat.reduceAdd,Nat.reduceMul,KP_same,KP_f,condS_t,condS_f,pick_t,pick_f,gS_tt,gS_ff,gS_tf,gS_ft,gS_u,gP_tt,gP_ff,gP_tf,gP_ft,gP_u,ptrV_eq,slcV_eq,cells_agg,cells_int,cells_bool,cells_ptr,cells_slice,oc_int,oc_bool,oc_slice,oc_ptr,rd1_set,rd1_ne,rdn_set,rdn_ne,Heap.set_same,set_ne,Heap.set_set,set_up,set_up2,set_up3,putAt,ceq,List.map_cons,List.map_nil,List.length_cons,List.length_nil,List.length_set,List.cons_append,List.nil_append,List.append_nil,List.replicate,List.size_toArray,List.all_cons,List.all_nil,Bool.and_self,Bool.and_true,List.drop_zero,List.drop_succ_cons,List.take_succ_cons,List.take_zero,List.set_cons_zero,List.set_cons_succ,List.getElem?_cons_zero,List.getElem?_cons_succ,Option.map_some,Option.map_none,ne_eq,not_false_eq_true,not_true_eq_false,gt_iff_lt,ge_iff_le,Int.one_mul,Nat.zero_add,Nat.zero_mul,Bool.not_true,Bool.not_false,Bool.false_eq_true,Bool.and_false,Bool.false_and,Bool.true_and, *]))
    all_goals (refine Meet_p (_, _, _) ?_ rfl rfl)
    all_goals (simp only)
    all_goals (refine ⟨(by (repeat' (first | exact Grow.refl _ | assumption | (refine Grow_known (by first | (simp only [Heap.set_same, set_ne, ne_eq, not_false_eq_true, *] <;> rfl) | fail) ?_) | (refine Grow.set ?_ (by assumption) (by first | (simp only [*] <;> done) | (simp [set_none', Heap.set_same, set_ne, *] <;> done) | fail)) | (refine Grow.trans ?_ (by assumption))))), by omega, ?_, ?_, ?_⟩ <;> (unfold WnR.row; first | exact Heap.set_same _ _ _ | exact (by simp only [Heap.set_same, set_ne, ne_eq, not_false_eq_true, *] <;> rfl)))
  · rintro ⟨⟨b3, b4, b5⟩, G⟩ f ⟨hG, ⟨n1, n2, n3⟩, k3, k4, k5⟩
    simp only at hG n1 n2 n3 k3 k4 k5
    have n1' := Ne.symm n1
    have n2' := Ne.symm n2
    have n3' := Ne.symm n3
    have gF := gH0.trans hG
    unfold WnR.row at k3 k4 k5
    rw [root3 k3 k4 k5]
    (all_goals (refine (fun f : True → _ => f trivial) ?_)); repeat' ((first | (with_reducible refine fun _ : True => ?_) | (refine AllocQ_i ?_; intro bk hb0 hbk; (try simp only [set_none'] at hbk); (try (first | have hbn := Grow.none (by assumption) hbk | have hbn := Grow.none (by assumption) hbk.2 | have hbn := Grow.none (by assumption) hbk.2.2 | have hbn := Grow.none (by assumption) hbk.2.2.2 | have hbn := Grow.none (by assumption) hbk.2.2.2.2 | have hbn := Grow.none (by assumption) hbk.2.2.2.2.2)); (try simp only [set_none'] at hbn); (try (first | have hbm := Grow.none (by assumption) hbn | have hbm := Grow.none (by assumption) hbn.2 | have hbm := Grow.none (by assumption) hbn.2.2 | have hbm := Grow.none (by assumption) hbn.2.2.2 | have hbm := Grow.none (by assumption) hbn.2.2.2.2 | have hbm := Grow.none (by assumption) hbn.2.2.2.2.2)); (try simp only [set_none'] at hbm)) | ((first | refine condS_i ?_ ?_ | refine pick_i ?_ ?_ | refine gS_it ?_ ?_ | refine gS_if ?_ ?_ | refine gP_it ?_ ?_ | refine gP_if ?_ ?_) <;> (intro hc; try simp only [Int.reduceLE,Int.reduceLT,Int.reduceEq,and_self,not_true_eq_false,not_false_eq_true,and_true,true_and,false_and,and_false,true_or,or_true,false_or,or_false,decide_eq_true_eq,decide_eq_false_iff_not,beq_iff_eq,beq_eq_false_iff_ne,bne_iff_ne,ne_eq,gt_iff_lt,ge_iff_le,Bool.not_eq_true,Bool.not_eq_false,Bool.not_eq_true',Bool.not_eq_false',Bool.not_eq_eq_eq_not,Bool.not_true,Bool.not_false] at hc)) | (refine KP_i (by (repeat' (first | exact Heap.Le.refl _ | (refine Le_known (by first | (simp only [Heap.set_same, set_ne, ne_eq, not_false_eq_true, *] <;> rfl) | fail) ?_) | (refine Le_fresh (by first | (simp only [*] <;> done) | (simp [set_none', Heap.set_same, set_ne, *] <;> done) | fail) ?_) | (refine Heap.Le.trans ?_ (Grow.le (by assumption)))))) ?_) | (with_reducible refine And.intro ?_ ?_)) <;> (try simp only [Sh,Si,Sl,Bu,Bb,Bd,Bc,Bw,Bn,Int.reduceAdd,Int.reduceSub,Int.reduceMul,Int.reduceTDiv,Int.reduceTMod,Int.reduceMod,Int.reduceDiv,Nat.reduceLT,Nat.reduceEqDiff,decide_true,decide_false,Sa,Sb,Sc,Sd,Se,Sf,Sg,true_and,and_true,and_self,eq_self,b_i64,b_i32,b_u64,b_u32,b_u8,Int.reduceLE,Int.reduceLT,Int.reduceToNat,Int.reduceNeg,Int.reduceEq,Nat.reduceLeDiff,Nat.reducePow,Int.reducePow,Nat.min_def,reduceIte,Nat.reduceSub,Nat.reduceAdd,Nat.reduceMul,KP_same,KP_f,condS_t,condS_f,pick_t,pick_f,gS_tt,gS_ff,gS_tf,gS_ft,gS_u,gP_tt,gP_ff,gP_tf,gP_ft,gP_u,ptrV_eq,slcV_eq,cells_agg,cells_int,cells_bool,cells_ptr,cells_slice,oc_int,oc_bool,oc_slice,oc_ptr,rd1_set,rd1_ne,rdn_set,rdn_ne,Heap.set_same,set_ne,Heap.set_set,set_up,set_up2,set_up3,putAt,ceq,List.map_cons,List.map_nil,List.length_cons,List.length_nil,List.length_set,List.cons_append,List.nil_append,List.append_nil,List.replicate,List.size_toArray,List.all_cons,List.all_nil,Bool.and_self,Bool.and_true,List.drop_zero,List.drop_succ_cons,List.take_succ_cons,List.take_zero,List.set_cons_zero,List.set_cons_succ,List.getElem?_cons_zero,List.getElem?_cons_succ,Option.map_some,Option.map_none,ne_eq,not_false_eq_true,not_true_eq_false,gt_iff_lt,ge_iff_le,Int.one_mul,Nat.zero_add,Nat.zero_mul,Bool.not_true,Bool.not_false,Bool.false_eq_true,Bool.and_false,Bool.false_and,Bool.true_and, *]))
    rw [← root3 k3 k4 k5]
    exact Fin_mk gF.le h
theorem c_TriangleB (v : Vw) (A B C : VtR) (hvi : I64 v.x ∧ I64 v.y ∧ I64 v.w ∧ I64 v.h) (hA : VtOk w0 H A) (hB : VtOk w0 H B) (hC : VtOk w0 H C)
    (h : ∀ a' cap' (ts : List (WnR × WnR × WnR)) e H', ts.length ≤ 384 → RO triT w0 H' a' cap' ts → Grow w0 H H' → K (.tuple #[.slice a' ts.length cap', .int .i64 e]) H') : HCalls Try.prog w0 11 [v.v, A.v, B.v, C.v] H K :=
  c_Triangle v A B C hvi hA hB hC (fun _ a' cap' ts H' e hR hg => h a' cap' ts 0 H' (by rw [← List.length_map (f := triC), e]; exact triA_len v (by simp)) hR hg) (fun _ => h none 0 [] 2 H (by simp) RO.nil (Grow.refl _))
/- paintboxlaw21 ClipAreas -/
def M4 : MC :=
  .seq (.reg [⟨(some 2), .box 24 (.tmp 0), none⟩,
     ⟨(some 3), .box 31 (.tmp 1), none⟩,
     ⟨(some 4), .mv (.const (.bool false)), none⟩])
  (.seq (.seq (.reg [⟨(some 10), .call 10 [], none⟩,
       ⟨(some 11), .un .not (.tmp 10), none⟩])
    (.cond (.tmp 11)
     (.seq (.reg [⟨(some 4), .mv (.const (.bool false)), none⟩])
      (.ret))
     (.skip)))
   (.seq (.reg [⟨(some 13), .ldn 6 (.tmp 2), none⟩,
       ⟨(some 14), .fa 0 (.tmp 3), none⟩,
       ⟨(some 15), .ldn 6 (.tmp 14), none⟩,
       ⟨(some 16), .fa 6 (.tmp 3), none⟩,
       ⟨(some 17), .ldn 6 (.tmp 16), none⟩,
       ⟨(some 18), .fa 12 (.tmp 3), none⟩,
       ⟨(some 19), .ldn 6 (.tmp 18), none⟩,
       ⟨(some 20), .call 11 [(.tmp 13), (.tmp 15), (.tmp 17), (.tmp 19)], none⟩,
       ⟨(some 12), .mv (.tmp 20), none⟩,
       ⟨(some 21), .ext 0 (.tmp 12), none⟩,
       ⟨(some 22), .ext 1 (.tmp 12), none⟩,
       ⟨(some 5), .mv (.tmp 21), none⟩,
       ⟨(some 6), .mv (.tmp 22), none⟩])
    (.seq (.seq (.reg [⟨(some 23), .mv (.tmp 5), none⟩,
         ⟨(some 24), .len (.tmp 23), none⟩,
         ⟨(some 25), .mv (.const (.int .i64 0)), none⟩])
      (.block 0 (.loop (.seq (.reg [⟨(some 26), .bin .lss (.tmp 25) (.tmp 24), none⟩])
         (.seq (.cond (.tmp 26)
           (.skip)
           (.exit 0))
          (.seq (.block 1 (.seq (.reg [⟨(some 27), .is 18 (.tmp 23) (.tmp 25), none⟩,
                ⟨(some 28), .ldn 18 (.tmp 27), none⟩,
                ⟨(some 8), .alloc 45 [(.int .i64 0), (.int .i64 0), (.int .i32 0), (.int .i32 0), (.int .i32 0), (.slice none 0 0), (.int .i64 0), (.int .i64 0), (.int .i32 0), (.int .i32 0), (.int .i32 0), (.slice none 0 0), (.int .i64 0), (.int .i64 0), (.int .i32 0), (.int .i32 0), (.int .i32 0), (.slice none 0 0)], none⟩,
                ⟨none, .stn 18 (.tmp 8) (.tmp 28), none⟩])
             (.seq (.reg [⟨(some 29), .ldn 18 (.tmp 8), none⟩,
                 ⟨(some 30), .call 16 [(.tmp 29)], none⟩,
                 ⟨(some 9), .mv (.tmp 30), none⟩])
              (.seq (.reg [⟨(some 31), .ia 3 6 (.tmp 8) (.const (.int .i64 1)), none⟩,
                  ⟨(some 32), .ldn 6 (.tmp 31), none⟩,
                  ⟨(some 33), .ia 3 6 (.tmp 8) (.const (.int .i64 0)), none⟩,
                  ⟨(some 34), .ldn 6 (.tmp 33), none⟩,
                  ⟨(some 35), .ia 3 6 (.tmp 8) (.const (.int .i64 2)), none⟩,
                  ⟨(some 36), .ldn 6 (.tmp 35), none⟩,
                  ⟨(some 37), .build [(.int .i64 0), (.int .i64 0), (.int .i32 0), (.int .i32 0), (.int .i32 0), (.slice none 0 0), (.int .i64 0), (.int .i64 0), (.int .i32 0), (.int .i32 0), (.int .i32 0), (.slice none 0 0), (.int .i64 0), (.int .i64 0), (.int .i32 0), (.int .i32 0), (.int .i32 0), (.slice none 0 0)] [(0, 6, (.tmp 32)), (6, 6, (.tmp 34)), (12, 6, (.tmp 36))], none⟩,
                  ⟨(some 38), .call 16 [(.tmp 37)], none⟩,
                  ⟨(some 39), .mv (.tmp 9), none⟩,
                  ⟨(some 40), .un .neg (.tmp 39), none⟩,
                  ⟨(some 41), .bin .neq (.tmp 38) (.tmp 40), none⟩,
                  ⟨(some 42), .mv (.tmp 41), none⟩,
                  ⟨(some 43), .ia 3 6 (.tmp 8) (.const (.int .i64 1)), (some (42, false))⟩,
                  ⟨(some 44), .ldn 6 (.tmp 43), (some (42, false))⟩,
                  ⟨(some 45), .ia 3 6 (.tmp 8) (.const (.int .i64 2)), (some (42, false))⟩,
                  ⟨(some 46), .ldn 6 (.tmp 45), (some (42, false))⟩,
                  ⟨(some 47), .ia 3 6 (.tmp 8) (.const (.int .i64 0)), (some (42, false))⟩,
                  ⟨(some 48), .ldn 6 (.tmp 47), (some (42, false))⟩,
                  ⟨(some 49), .build [(.int .i64 0), (.int .i64 0), (.int .i32 0), (.int .i32 0), (.int .i32 0), (.slice none 0 0), (.int .i64 0), (.int .i64 0), (.int .i32 0), (.int .i32 0), (.int .i32 0), (.slice none 0 0), (.int .i64 0), (.int .i64 0), (.int .i32 0), (.int .i32 0), (.int .i32 0), (.slice none 0 0)] [(0, 6, (.tmp 44)), (6, 6, (.tmp 46)), (12, 6, (.tmp 48))], (some (42, false))⟩,
                  ⟨(some 50), .call 16 [(.tmp 49)], (some (42, false))⟩,
                  ⟨(some 51), .mv (.tmp 9), (some (42, false))⟩,
                  ⟨(some 52), .bin .neq (.tmp 50) (.tmp 51), (some (42, false))⟩,
                  ⟨(some 53), .pick (.tmp 42) (.const (.bool true)) (.tmp 52), none⟩])
               (.cond (.tmp 53)
                (.seq (.reg [⟨(some 4), .mv (.const (.bool false)), none⟩])
                 (.ret))
                (.skip))))))
           (.reg [⟨(some 54), .bin .add (.tmp 25) (.const (.int .i64 1)), none⟩,
              ⟨(some 25), .mv (.tmp 54), none⟩])))))))
     (.seq (.reg [⟨(some 4), .mv (.const (.bool true)), none⟩])
      (.ret)))))
theorem k4 : fnOk Try.prog 4 = some (M4, [.t 4], 55) := by kernel_rfl

theorem l_ClipAreas (v : Vw) (A B C : VtR) (hvi : I64 v.x ∧ I64 v.y ∧ I64 v.w ∧ I64 v.h) (hA : VtOk w0 H A) (hB : VtOk w0 H B) (hC : VtOk w0 H C) (h : K (.bool true) H) : HCalls Try.prog w0 4 [v.v, threeV A B C] H K := by
  have cA : ∀ (G : Heap) (K : Value → Heap → Prop), K (.bool true) G → HCalls Try.prog w0 10 [] G K := fun G K hk => l_wakes hk
  have cT := fun (G : Heap) (K : Value → Heap → Prop) (g : Grow w0 H G) => c_TriangleB (K := K) v A B C hvi (hA.grow g) (hB.grow g) (hC.grow g)
  clear hA hB hC
  unfold threeV VtR.v Vw.v at *
  refine HL.hc k4 2000 ?_; unfold M4
  (all_goals (refine (fun f : True → _ => f trivial) ?_)); repeat' ((first | (with_reducible refine fun _ : True => ?_) | refine cA _ _ ?_ | refine cT _ _ (by (repeat' (first | exact Grow.refl _ | assumption | (refine Grow_known (by first | (simp only [Heap.set_same, set_ne, ne_eq, not_false_eq_true, *] <;> rfl) | fail) ?_) | (refine Grow.set ?_ (by assumption) (by first | (simp only [*] <;> done) | (simp [set_none', Heap.set_same, set_ne, *] <;> done) | fail)) | (refine Grow.trans ?_ (by assumption))))) (fun a2 c2 ts e G2 hl2 hR2 hg2 => ?_)  | (refine AllocQ_i ?_; intro bk hb0 hbk; (try simp only [set_none'] at hbk); (try (first | have hbn := Grow.none (by assumption) hbk | have hbn := Grow.none (by assumption) hbk.2 | have hbn := Grow.none (by assumption) hbk.2.2 | have hbn := Grow.none (by assumption) hbk.2.2.2 | have hbn := Grow.none (by assumption) hbk.2.2.2.2 | have hbn := Grow.none (by assumption) hbk.2.2.2.2.2)); (try simp only [set_none'] at hbn); (try (first | have hbm := Grow.none (by assumption) hbn | have hbm := Grow.none (by assumption) hbn.2 | have hbm := Grow.none (by assumption) hbn.2.2 | have hbm := Grow.none (by assumption) hbn.2.2.2 | have hbm := Grow.none (by assumption) hbn.2.2.2.2 | have hbm := Grow.none (by assumption) hbn.2.2.2.2.2)); (try simp only [set_none'] at hbm)) | ((first | refine condS_i ?_ ?_ | refine pick_i ?_ ?_ | refine gS_it ?_ ?_ | refine gS_if ?_ ?_ | refine gP_it ?_ ?_ | refine gP_if ?_ ?_) <;> (intro hc; try simp only [Int.reduceLE,Int.reduceLT,Int.reduceEq,and_self,not_true_eq_false,not_false_eq_true,and_true,true_and,false_and,and_false,true_or,or_true,false_or,or_false,decide_eq_true_eq,decide_eq_false_iff_not,beq_iff_eq,beq_eq_false_iff_ne,bne_iff_ne,ne_eq,gt_iff_lt,ge_iff_le,Bool.not_eq_true,Bool.not_eq_false,Bool.not_eq_true',Bool.not_eq_false',Bool.not_eq_eq_eq_not,Bool.not_true,Bool.not_false] at hc)) | (refine KP_i (by (repeat' (first | exact Heap.Le.refl _ | (refine Le_known (by first | (simp only [Heap.set_same, set_ne, ne_eq, not_false_eq_true, *] <;> rfl) | fail) ?_) | (refine Le_fresh (by first | (simp only [*] <;> done) | (simp [set_none', Heap.set_same, set_ne, *] <;> done) | fail) ?_) | (refine Heap.Le.trans ?_ (Grow.le (by assumption)))))) ?_) | (with_reducible refine And.intro ?_ ?_)) <;> (try simp only [Sh,Si,Sl,Bu,Bb,Bd,Bc,Bw,Bn,Int.reduceAdd,Int.reduceSub,Int.reduceMul,Int.reduceTDiv,Int.reduceTMod,Int.reduceMod,Int.reduceDiv,Nat.reduceLT,Nat.reduceEqDiff,decide_true,decide_false,Sa,Sb,Sc,Sd,Se,Sf,Sg,true_and,and_true,and_self,eq_self,b_i64,b_i32,b_u64,b_u32,b_u8,Int.reduceLE,Int.reduceLT,Int.reduceToNat,Int.reduceNeg,Int.reduceEq,Nat.reduceLeDiff,Nat.reducePow,Int.reducePow,Nat.min_def,reduceIte,Nat.reduceSub,Nat.reduceAdd,Nat.reduceMul,KP_same,KP_f,condS_t,condS_f,pick_t,pick_f,gS_tt,gS_ff,gS_tf,gS_ft,gS_u,gP_tt,gP_ff,gP_tf,gP_ft,gP_u,ptrV_eq,slcV_eq,cells_agg,cells_int,cells_bool,cells_ptr,cells_slice,oc_int,oc_bool,oc_slice,oc_ptr,rd1_set,rd1_ne,rdn_set,rdn_ne,Heap.set_same,set_ne,Heap.set_set,set_up,set_up2,set_up3,putAt,ceq,List.map_cons,List.map_nil,List.length_cons,List.length_nil,List.length_set,List.cons_append,List.nil_append,List.append_nil,List.replicate,List.size_toArray,List.all_cons,List.all_nil,Bool.and_self,Bool.and_true,List.drop_zero,List.drop_succ_cons,List.take_succ_cons,List.take_zero,List.set_cons_zero,List.set_cons_succ,List.getElem?_cons_zero,List.getElem?_cons_succ,Option.map_some,Option.map_none,ne_eq,not_false_eq_true,not_true_eq_false,gt_iff_lt,ge_iff_le,Int.one_mul,Nat.zero_add,Nat.zero_mul,Bool.not_true,Bool.not_false,Bool.false_eq_true,Bool.and_false,Bool.false_and,Bool.true_and, *]))
  have gH : Grow w0 H G2 := Grow.trans (by (repeat' (first | exact Grow.refl _ | assumption | (refine Grow_known (by first | (simp only [Heap.set_same, set_ne, ne_eq, not_false_eq_true, *] <;> rfl) | fail) ?_) | (refine Grow.set ?_ (by assumption) (by first | (simp only [*] <;> done) | (simp [set_none', Heap.set_same, set_ne, *] <;> done) | fail)) | (refine Grow.trans ?_ (by assumption))))) hg2
  clear cT hg2
  obtain ⟨n, en⟩ : ∃ n, ts.length = n := ⟨_, rfl⟩
  rw [en] at hl2 ⊢
  refine loop_g 26 (fun s : Nat × Value × Value => [(8, s.2.1), (9, s.2.2), (25, .int .i64 (s.1 : Nat))]) (fun _ => G2) (fun s => s.1 ≤ n) (fun s => n - s.1) (0, undef, undef) (Nat.zero_le _) (Heap.Le.refl _) rfl ?_
  rintro ⟨k, u, u2⟩ f hk
  simp only at hk
  rcases Nat.lt_or_ge k n with hlt | hge
  · obtain ⟨⟨x, y, z⟩, ex⟩ : ∃ v, ts[k]? = some v := ⟨_, List.getElem?_eq_getElem (by omega)⟩
    obtain ⟨b, o, rfl, r1, -⟩ := hR2.row ex
    replace r1 : rdn w0 G2 b (o + k * 18) 18 = some (x.row ++ y.row ++ z.row) := r1
    have a1 : ∀ (G : Heap) (K : Value → Heap → Prop), K (.int .i64 (areaI x.toWn y.toWn z.toWn)) G → HCalls Try.prog w0 16 [triV x y z] G K := fun G K hk => c_Area x y z hk
    have a2 : ∀ (G : Heap) (K : Value → Heap → Prop), K (.int .i64 (IntKind.i64.wrap (0 - areaI x.toWn y.toWn z.toWn))) G → HCalls Try.prog w0 16 [triV y x z] G K := fun G K hk => c_Area y x z (by rw [area_turn]; exact hk)
    have a3 : ∀ (G : Heap) (K : Value → Heap → Prop), K (.int .i64 (areaI x.toWn y.toWn z.toWn)) G → HCalls Try.prog w0 16 [triV y z x] G K := fun G K hk => c_Area y z x (by rw [area_round]; exact hk)
    unfold WnR.row at r1
    unfold triV at a1 a2 a3
    generalize areaI x.toWn y.toWn z.toWn = ar at *
    have t0 : (k : Int) < (n : Int) := by omega
    have t6 : IntKind.i64.wrap ((k : Int) + 1) = (k : Int) + 1 := Bw.1 _ (by omega) (by omega)
    clear hR2 ex en
    (all_goals (refine (fun f : True → _ => f trivial) ?_)); repeat' ((first | (with_reducible refine fun _ : True => ?_) | refine a1 _ _ ?_ | refine a2 _ _ ?_ | refine a3 _ _ ?_ | (refine AllocQ_i ?_; intro bk hb0 hbk; (try simp only [set_none'] at hbk); (try (first | have hbn := Grow.none (by assumption) hbk | have hbn := Grow.none (by assumption) hbk.2 | have hbn := Grow.none (by assumption) hbk.2.2 | have hbn := Grow.none (by assumption) hbk.2.2.2 | have hbn := Grow.none (by assumption) hbk.2.2.2.2 | have hbn := Grow.none (by assumption) hbk.2.2.2.2.2)); (try simp only [set_none'] at hbn); (try (first | have hbm := Grow.none (by assumption) hbn | have hbm := Grow.none (by assumption) hbn.2 | have hbm := Grow.none (by assumption) hbn.2.2 | have hbm := Grow.none (by assumption) hbn.2.2.2 | have hbm := Grow.none (by assumption) hbn.2.2.2.2 | have hbm := Grow.none (by assumption) hbn.2.2.2.2.2)); (try simp only [set_none'] at hbm)) | ((first | refine condS_i ?_ ?_ | refine pick_i ?_ ?_ | refine gS_it ?_ ?_ | refine gS_if ?_ ?_ | refine gP_it ?_ ?_ | refine gP_if ?_ ?_) <;> (intro hc; try simp only [Int.reduceLE,Int.reduceLT,Int.reduceEq,and_self,not_true_eq_false,not_false_eq_true,and_true,true_and,false_and,and_false,true_or,or_true,false_or,or_false,decide_eq_true_eq,decide_eq_false_iff_not,beq_iff_eq,beq_eq_false_iff_ne,bne_iff_ne,ne_eq,gt_iff_lt,ge_iff_le,Bool.not_eq_true,Bool.not_eq_false,Bool.not_eq_true',Bool.not_eq_false',Bool.not_eq_eq_eq_not,Bool.not_true,Bool.not_false] at hc)) | (refine KP_i (by (repeat' (first | exact Heap.Le.refl _ | (refine Le_known (by first | (simp only [Heap.set_same, set_ne, ne_eq, not_false_eq_true, *] <;> rfl) | fail) ?_) | (refine Le_fresh (by first | (simp only [*] <;> done) | (simp [set_none', Heap.set_same, set_ne, *] <;> done) | fail) ?_) | (refine Heap.Le.trans ?_ (Grow.le (by assumption)))))) ?_) | (with_reducible refine And.intro ?_ ?_)) <;> (try simp only [Sh,Si,Sl,Bu,Bb,Bd,Bc,Bw,Bn,Int.reduceAdd,Int.reduceSub,Int.reduceMul,Int.reduceTDiv,Int.reduceTMod,Int.reduceMod,Int.reduceDiv,Nat.reduceLT,Nat.reduceEqDiff,decide_true,decide_false,Sa,Sb,Sc,Sd,Se,Sf,Sg,true_and,and_true,and_self,eq_self,b_i64,b_i32,b_u64,b_u32,b_u8,Int.reduceLE,Int.reduceLT,Int.reduceToNat,Int.reduceNeg,Int.reduceEq,Nat.reduceLeDiff,Nat.reducePow,Int.reducePow,Nat.min_def,reduceIte,Nat.reduceSub,Nat.reduceAdd,Nat.reduceMul,KP_same,KP_f,condS_t,condS_f,pick_t,pick_f,gS_tt,gS_ff,gS_tf,gS_ft,gS_u,gP_tt,gP_ff,gP_tf,gP_ft,gP_u,ptrV_eq,slcV_eq,cells_agg,cells_int,cells_bool,cells_ptr,cells_slice,oc_int,oc_bool,oc_slice,oc_ptr,rd1_set,rd1_ne,rdn_set,rdn_ne,Heap.set_same,set_ne,Heap.set_set,set_up,set_up2,set_up3,putAt,ceq,List.map_cons,List.map_nil,List.length_cons,List.length_nil,List.length_set,List.cons_append,List.nil_append,List.append_nil,List.replicate,List.size_toArray,List.all_cons,List.all_nil,Bool.and_self,Bool.and_true,List.drop_zero,List.drop_succ_cons,List.take_succ_cons,List.take_zero,List.set_cons_zero,List.set_cons_succ,List.getElem?_cons_zero,List.getElem?_cons_succ,Option.map_some,Option.map_none,ne_eq,not_false_eq_true,not_true_eq_false,gt_iff_lt,ge_iff_le,Int.one_mul,Nat.zero_add,Nat.zero_mul,Bool.not_true,Bool.not_false,Bool.false_eq_true,Bool.and_false,Bool.false_and,Bool.true_and, *]))
    exact Round_mk (k + 1, _, _) hlt (by simp only; omega) (by (repeat' (first | exact Heap.Le.refl _ | (refine Le_known (by first | (simp only [Heap.set_same, set_ne, ne_eq, not_false_eq_true, *] <;> rfl) | fail) ?_) | (refine Le_fresh (by first | (simp only [*] <;> done) | (simp [set_none', Heap.set_same, set_ne, *] <;> done) | fail) ?_) | (refine Heap.Le.trans ?_ (Grow.le (by assumption)))))) rfl rfl
  · obtain rfl : n = k := by omega
    have t0 : ¬ ((n : Nat) : Int) < ((n : Nat) : Int) := by omega
    clear hR2
    (all_goals (refine (fun f : True → _ => f trivial) ?_)); repeat' ((first | (with_reducible refine fun _ : True => ?_) | (refine AllocQ_i ?_; intro bk hb0 hbk; (try simp only [set_none'] at hbk); (try (first | have hbn := Grow.none (by assumption) hbk | have hbn := Grow.none (by assumption) hbk.2 | have hbn := Grow.none (by assumption) hbk.2.2 | have hbn := Grow.none (by assumption) hbk.2.2.2 | have hbn := Grow.none (by assumption) hbk.2.2.2.2 | have hbn := Grow.none (by assumption) hbk.2.2.2.2.2)); (try simp only [set_none'] at hbn); (try (first | have hbm := Grow.none (by assumption) hbn | have hbm := Grow.none (by assumption) hbn.2 | have hbm := Grow.none (by assumption) hbn.2.2 | have hbm := Grow.none (by assumption) hbn.2.2.2 | have hbm := Grow.none (by assumption) hbn.2.2.2.2 | have hbm := Grow.none (by assumption) hbn.2.2.2.2.2)); (try simp only [set_none'] at hbm)) | ((first | refine condS_i ?_ ?_ | refine pick_i ?_ ?_ | refine gS_it ?_ ?_ | refine gS_if ?_ ?_ | refine gP_it ?_ ?_ | refine gP_if ?_ ?_) <;> (intro hc; try simp only [Int.reduceLE,Int.reduceLT,Int.reduceEq,and_self,not_true_eq_false,not_false_eq_true,and_true,true_and,false_and,and_false,true_or,or_true,false_or,or_false,decide_eq_true_eq,decide_eq_false_iff_not,beq_iff_eq,beq_eq_false_iff_ne,bne_iff_ne,ne_eq,gt_iff_lt,ge_iff_le,Bool.not_eq_true,Bool.not_eq_false,Bool.not_eq_true',Bool.not_eq_false',Bool.not_eq_eq_eq_not,Bool.not_true,Bool.not_false] at hc)) | (refine KP_i (by (repeat' (first | exact Heap.Le.refl _ | (refine Le_known (by first | (simp only [Heap.set_same, set_ne, ne_eq, not_false_eq_true, *] <;> rfl) | fail) ?_) | (refine Le_fresh (by first | (simp only [*] <;> done) | (simp [set_none', Heap.set_same, set_ne, *] <;> done) | fail) ?_) | (refine Heap.Le.trans ?_ (Grow.le (by assumption)))))) ?_) | (with_reducible refine And.intro ?_ ?_)) <;> (try simp only [Sh,Si,Sl,Bu,Bb,Bd,Bc,Bw,Bn,Int.reduceAdd,Int.reduceSub,Int.reduceMul,Int.reduceTDiv,Int.reduceTMod,Int.reduceMod,Int.reduceDiv,Nat.reduceLT,Nat.reduceEqDiff,decide_true,decide_false,Sa,Sb,Sc,Sd,Se,Sf,Sg,true_and,and_true,and_self,eq_self,b_i64,b_i32,b_u64,b_u32,b_u8,Int.reduceLE,Int.reduceLT,Int.reduceToNat,Int.reduceNeg,Int.reduceEq,Nat.reduceLeDiff,Nat.reducePow,Int.reducePow,Nat.min_def,reduceIte,Nat.reduceSub,Nat.reduceAdd,Nat.reduceMul,KP_same,KP_f,condS_t,condS_f,pick_t,pick_f,gS_tt,gS_ff,gS_tf,gS_ft,gS_u,gP_tt,gP_ff,gP_tf,gP_ft,gP_u,ptrV_eq,slcV_eq,cells_agg,cells_int,cells_bool,cells_ptr,cells_slice,oc_int,oc_bool,oc_slice,oc_ptr,rd1_set,rd1_ne,rdn_set,rdn_ne,Heap.set_same,set_ne,Heap.set_set,set_up,set_up2,set_up3,putAt,ceq,List.map_cons,List.map_nil,List.length_cons,List.length_nil,List.length_set,List.cons_append,List.nil_append,List.append_nil,List.replicate,List.size_toArray,List.all_cons,List.all_nil,Bool.and_self,Bool.and_true,List.drop_zero,List.drop_succ_cons,List.take_succ_cons,List.take_zero,List.set_cons_zero,List.set_cons_succ,List.getElem?_cons_zero,List.getElem?_cons_succ,Option.map_some,Option.map_none,ne_eq,not_false_eq_true,not_true_eq_false,gt_iff_lt,ge_iff_le,Int.one_mul,Nat.zero_add,Nat.zero_mul,Bool.not_true,Bool.not_false,Bool.false_eq_true,Bool.and_false,Bool.false_and,Bool.true_and, *]))
    exact Fin_mk gH.le h
end Go.Proofs.Ytofgiimfempcjaa
