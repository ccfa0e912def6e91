/- Rows cut, by the program and by the document (layer 21). -/
import Derived.Test.YtofgiimfempcjaaClf
set_option linter.unusedSimpArgs false
set_option linter.unusedVariables false
set_option maxRecDepth 100000
set_option maxHeartbeats 8000000
namespace Go.Proofs.Ytofgiimfempcjaa
open Go Go.HL Go.RowKit Pb
variable {w0 : World} {H : Heap} {K : Value → Heap → Prop}

/-- Corners so far, of a row that is being built. -/
structure RowsB (w0 : World) (H G : Heap) (a : Option Addr) (cap : Nat) (os : List VtR) : Prop where
  bld : Bld w0 H G a cap 6 29 (os.map VtR.row).flatten
  lc : os.length ≤ cap
  ok : ∀ y ∈ os, VsAt w0 H G y.a y.cap y.l ∧ V32 y.p ∧ I32 y.s
theorem rows_flat (os : List VtR) : (os.map VtR.row).flatten.length = os.length * 6 := by
  rw [flat_len (sz := 6) _ fun r hr => by obtain ⟨z, -, rfl⟩ := List.mem_map.1 hr; rfl, List.length_map]
theorem rows_one (os : List VtR) : ((os.map VtR.row).flatten).all Value.oneCell' = true := by
  rw [List.all_eq_true]
  intro v hv
  obtain ⟨r, hr, hv⟩ := List.mem_flatten.1 hv
  obtain ⟨z, -, rfl⟩ := List.mem_map.1 hr
  simp [VtR.row] at hv
  rcases hv with rfl | rfl | rfl | rfl | rfl | rfl <;> rfl
section
variable {G G' : Heap} {a : Option Addr} {cap : Nat} {os : List VtR}
theorem RowsB.grow (h : RowsB w0 H G a cap os) (g : Grow w0 G G') : RowsB w0 H G' a cap os := ⟨h.bld.grow g, h.lc, fun y hy => ⟨(h.ok y hy).1.grow g, (h.ok y hy).2⟩⟩
theorem RowsB.rows (h : RowsB w0 H G a cap os) (g : Grow w0 H G) (hm : os.length ≤ maxLen) : RowsOk w0 G a cap os := ⟨h.bld.slAt, h.lc, hm, fun y hy => ⟨(h.ok y hy).1.ok g, (h.ok y hy).2.1, (h.ok y hy).2.2⟩⟩
theorem RowsB.none : RowsB w0 H G none 0 [] := ⟨Bld.none, Nat.le_refl _, fun y hy => by simp at hy⟩
theorem VsAt.base {H0 : Heap} {l : List (Nat → Int)} (h : VsNew w0 H G a cap l) (g : Grow w0 H0 H) (hk : KeepT 26 G G') : VsAt w0 H0 G' a cap l := ((h.base g).at).keep hk
theorem app_rows {K : Value → Heap → Prop} {ns : List VtR} {xa : Option Addr} {xc : Nat} {zero : List Value} (hB : RowsB w0 H G a cap os) (hz : zero.length = 6) (hx : srd w0 G xa (ns.length * 6) = some (ns.map VtR.row).flatten)
    (hns : ∀ y ∈ ns, VsAt w0 H G y.a y.cap y.l ∧ V32 y.p ∧ I32 y.s) (hg : Grow w0 H G) (hm : os.length + ns.length ≤ 1000000000)
    (h : ∀ a' cap' os' G', os' = os ++ ns → RowsB w0 H G' a' cap' os' → Grow w0 H G' → K (.slice a' os'.length cap') G') : appQ w0 G K 29 6 48 zero (.slice a os.length cap) (.slice xa ns.length xc) := by
  refine app_bld (H := H) (n := os.length) (m := ns.length) (cs := (os.map VtR.row).flatten) (ns := (ns.map VtR.row).flatten) hB.bld (rows_flat os) hz hx (rows_flat ns) hg ⟨by omega, by omega⟩ (rows_one ns) (fun a2 cap2 G2 hB2 hg2 hk2 hc2 => ?_)
  have hkt : KeepT 26 G G2 := KeepT.app hk2 (by decide)
  have h := h a2 cap2 (os ++ ns) G2 rfl ⟨by rw [List.map_append, List.flatten_append]; exact hB2, by rw [List.length_append]; exact hc2, fun y hy => by
    rcases List.mem_append.1 hy with h' | h'
    · exact ⟨(hB.ok y h').1.keep hkt, (hB.ok y h').2⟩
    · exact ⟨(hns y h').1.keep hkt, (hns y h').2⟩⟩ hg2
  rw [List.length_append] at h
  exact h
end
theorem cut_prev {ls : List VtR} {x0 x : VtR} {k j : Nat} (h0 : ls[ls.length - 1]? = some x0) (hj : ls[j]? = some x) (h : (k = 0 ∧ j = ls.length - 1) ∨ k = j + 1) : (x0.toVt :: ls.map VtR.toVt)[k]? = some x.toVt := by
  rcases h with ⟨rfl, rfl⟩ | rfl
  · rw [hj] at h0; cases h0; rfl
  · rw [List.getElem?_cons_succ, List.getElem?_map, hj]; rfl
theorem cutA_of {ls : List VtR} {x0 : VtR} {n : Int} (h0 : ls[ls.length - 1]? = some x0) : cutA (ls.map VtR.toVt) n = cutF n x0.toVt (ls.map VtR.toVt) := by
  unfold cutA
  have : (ls.map VtR.toVt).getLast? = some x0.toVt := by rw [List.getLast?_map, List.getLast?_eq_getElem?, h0]; rfl
  rw [this]
def A33_1 : PT := (.one true true ⟨(some 22), .mv (.tmp 0), none⟩ (.one true true ⟨(some 23), .mv (.tmp 6), none⟩ (.one true true ⟨(some 24), .is 6 (.tmp 22) (.tmp 23), none⟩ (.one true true ⟨(some 25), .ldn 6 (.tmp 24), none⟩ (.one true true ⟨(some 26), .mv (.tmp 0), none⟩ (.one true true ⟨(some 27), .mv (.tmp 7), none⟩ (.one true true ⟨(some 28), .is 6 (.tmp 26) (.tmp 27), none⟩ (.one true true ⟨(some 29), .ldn 6 (.tmp 28), none⟩ (.alt (.one false true ⟨(some 8), .alloc 29 [(.int .i32 0), (.int .i32 0), (.int .i32 0), (.int .i32 0), (.int .i32 0), (.slice none 0 0)], none⟩ (.one false true ⟨(some 9), .alloc 29 [(.int .i32 0), (.int .i32 0), (.int .i32 0), (.int .i32 0), (.int .i32 0), (.slice none 0 0)], none⟩ (.one false true ⟨none, .stn 6 (.tmp 8) (.tmp 25), none⟩ (.one false false ⟨none, .stn 6 (.tmp 9) (.tmp 29), none⟩ .nil))))
      (.one false true ⟨(some 9), .alloc 29 [(.int .i32 0), (.int .i32 0), (.int .i32 0), (.int .i32 0), (.int .i32 0), (.slice none 0 0)], none⟩ (.one false true ⟨(some 8), .alloc 29 [(.int .i32 0), (.int .i32 0), (.int .i32 0), (.int .i32 0), (.int .i32 0), (.slice none 0 0)], none⟩ (.one false true ⟨none, .stn 6 (.tmp 8) (.tmp 25), none⟩ (.one false false ⟨none, .stn 6 (.tmp 9) (.tmp 29), none⟩ .nil)))))))))))))
/- clip cut -/
def M33 : MC :=
  .seq (.reg [⟨(some 4), .mv (.const (.slice none 0 0)), none⟩])
  (.seq (.reg [⟨(some 5), .mv (.const (.slice none 0 0)), none⟩])
   (.seq (.seq (.reg [⟨(some 12), .mv (.tmp 0), none⟩,
        ⟨(some 13), .len (.tmp 12), none⟩,
        ⟨(some 14), .bin .sub (.tmp 13) (.const (.int .i64 1)), none⟩,
        ⟨(some 6), .mv (.tmp 14), none⟩,
        ⟨(some 7), .mv (.const (.int .i64 0)), none⟩])
     (.block 0 (.loop (.seq (.seq (.reg [⟨(some 15), .mv (.tmp 7), none⟩,
            ⟨(some 16), .mv (.tmp 0), none⟩,
            ⟨(some 17), .len (.tmp 16), none⟩,
            ⟨(some 18), .bin .lss (.tmp 15) (.tmp 17), none⟩])
         (.cond (.tmp 18)
          (.skip)
          (.exit 0)))
        (.seq (.block 1 (.seq (.alts A33_1)
           (.seq (.any [(true, true, ⟨(some 30), .ldn 6 (.tmp 8), none⟩),
               (true, true, ⟨(some 31), .mv (.tmp 1), none⟩),
               (true, true, ⟨(some 34), .ldn 6 (.tmp 9), none⟩),
               (true, true, ⟨(some 35), .mv (.tmp 1), none⟩),
               (false, true, ⟨(some 32), .call 34 [(.tmp 30), (.tmp 31)], none⟩),
               (true, true, ⟨(some 33), .bin .geq (.tmp 32) (.const (.int .i32 0)), none⟩),
               (false, true, ⟨(some 36), .call 34 [(.tmp 34), (.tmp 35)], none⟩),
               (true, true, ⟨(some 37), .bin .geq (.tmp 36) (.const (.int .i32 0)), none⟩),
               (false, true, ⟨(some 10), .mv (.tmp 33), none⟩),
               (false, false, ⟨(some 11), .mv (.tmp 37), none⟩)])
            (.block 2 (.seq (.reg [⟨(some 39), .mv (.tmp 10), none⟩,
                 ⟨(some 40), .mv (.tmp 39), none⟩,
                 ⟨(some 41), .mv (.tmp 11), (some (40, true))⟩,
                 ⟨(some 42), .un .not (.tmp 41), (some (40, true))⟩,
                 ⟨(some 43), .pick (.tmp 40) (.tmp 42) (.const (.bool false)), none⟩,
                 ⟨(some 38), .mv (.tmp 43), none⟩])
              (.cond (.tmp 38)
               (.reg [⟨(some 44), .mv (.tmp 5), none⟩,
                  ⟨(some 45), .ldn 6 (.tmp 8), none⟩,
                  ⟨(some 46), .ldn 6 (.tmp 9), none⟩,
                  ⟨(some 47), .mv (.tmp 1), none⟩,
                  ⟨(some 48), .call 43 [(.tmp 45), (.tmp 46), (.tmp 47)], none⟩,
                  ⟨(some 49), .bslice 29 1 [(.int .i32 0), (.int .i32 0), (.int .i32 0), (.int .i32 0), (.int .i32 0), (.slice none 0 0)] [(0, 6, (.tmp 48))], none⟩,
                  ⟨(some 50), .app 29 6 48 [(.int .i32 0), (.int .i32 0), (.int .i32 0), (.int .i32 0), (.int .i32 0), (.slice none 0 0)] (.tmp 44) (.tmp 49), none⟩,
                  ⟨(some 5), .mv (.tmp 50), none⟩])
               (.seq (.reg [⟨(some 52), .mv (.tmp 11), none⟩,
                   ⟨(some 53), .mv (.tmp 52), none⟩,
                   ⟨(some 54), .mv (.tmp 10), (some (53, true))⟩,
                   ⟨(some 55), .un .not (.tmp 54), (some (53, true))⟩,
                   ⟨(some 56), .pick (.tmp 53) (.tmp 55) (.const (.bool false)), none⟩,
                   ⟨(some 51), .mv (.tmp 56), none⟩])
                (.cond (.tmp 51)
                 (.any [(true, true, ⟨(some 57), .mv (.tmp 5), none⟩),
                    (true, true, ⟨(some 58), .ldn 6 (.tmp 9), none⟩),
                    (true, true, ⟨(some 59), .ldn 6 (.tmp 8), none⟩),
                    (true, true, ⟨(some 60), .mv (.tmp 1), none⟩),
                    (true, true, ⟨(some 62), .ldn 6 (.tmp 9), none⟩),
                    (false, true, ⟨(some 61), .call 43 [(.tmp 58), (.tmp 59), (.tmp 60)], none⟩),
                    (false, true, ⟨(some 63), .call 44 [(.tmp 62)], none⟩),
                    (false, true, ⟨(some 64), .bslice 29 2 [(.int .i32 0), (.int .i32 0), (.int .i32 0), (.int .i32 0), (.int .i32 0), (.slice none 0 0), (.int .i32 0), (.int .i32 0), (.int .i32 0), (.int .i32 0), (.int .i32 0), (.slice none 0 0)] [(0, 6, (.tmp 61)), (6, 6, (.tmp 63))], none⟩),
                    (false, false, ⟨(some 65), .app 29 6 48 [(.int .i32 0), (.int .i32 0), (.int .i32 0), (.int .i32 0), (.int .i32 0), (.slice none 0 0)] (.tmp 57) (.tmp 64), none⟩),
                    (false, false, ⟨(some 5), .mv (.tmp 65), none⟩)])
                 (.seq (.reg [⟨(some 67), .mv (.tmp 11), none⟩,
                     ⟨(some 66), .mv (.tmp 67), none⟩])
                  (.cond (.tmp 66)
                   (.reg [⟨(some 68), .mv (.tmp 5), none⟩,
                      ⟨(some 69), .ldn 6 (.tmp 9), none⟩,
                      ⟨(some 70), .call 44 [(.tmp 69)], none⟩,
                      ⟨(some 71), .bslice 29 1 [(.int .i32 0), (.int .i32 0), (.int .i32 0), (.int .i32 0), (.int .i32 0), (.slice none 0 0)] [(0, 6, (.tmp 70))], none⟩,
                      ⟨(some 72), .app 29 6 48 [(.int .i32 0), (.int .i32 0), (.int .i32 0), (.int .i32 0), (.int .i32 0), (.slice none 0 0)] (.tmp 68) (.tmp 71), none⟩,
                      ⟨(some 5), .mv (.tmp 72), none⟩])
                   (.skip)))))))))))
         (.reg [⟨(some 19), .mv (.tmp 7), none⟩,
            ⟨(some 20), .mv (.tmp 7), none⟩,
            ⟨(some 21), .bin .add (.tmp 20) (.const (.int .i64 1)), none⟩,
            ⟨(some 6), .mv (.tmp 19), none⟩,
            ⟨(some 7), .mv (.tmp 21), none⟩]))))))
    (.seq (.reg [⟨(some 73), .mv (.tmp 5), none⟩,
        ⟨(some 4), .mv (.tmp 73), none⟩])
     (.ret))))
theorem k33 : fnOk Try.prog 33 = some (M33, [.t 4], 74) := by kernel_rfl

theorem c_cutV (a : Option Addr) (cap : Nat) (ls : List VtR) (n : Int) {mv : Nat} (hA : RowsOk w0 H a cap ls) (hal : Ali mv (ls.map VtR.toVt)) (hl : ls.length ≤ 1000000)
    (h : ∀ a' cap' os H', os.map VtR.toVt = cutA (ls.map VtR.toVt) n → RowsB w0 H H' a' cap' os → Grow w0 H H' → K (.slice a' os.length cap') H') :
    HCalls Try.prog w0 33 [.slice a ls.length cap, .int .i64 n] H K := by
  rcases Nat.eq_zero_or_pos ls.length with h0 | h0
  · have e1 : ls = [] := List.length_eq_zero_iff.1 h0
    subst e1
    have h := h none 0 [] H rfl RowsB.none (Grow.refl _)
    have e0 : IntKind.i64.wrap (-1) = -1 := rfl
    refine HL.hc k33 999 ?_; unfold M33
    (all_goals (refine (fun f : True → _ => f trivial) ?_)); repeat' ((first | (with_reducible refine fun _ : True => ?_) | (refine AllocQ_i ?_; intro bk hb0 hbk; (try simp only [set_none'] at hbk); (try (first | have hbn := Grow.none (by assumption) hbk | have hbn := Grow.none (by assumption) hbk.2 | have hbn := Grow.none (by assumption) hbk.2.2 | have hbn := Grow.none (by assumption) hbk.2.2.2 | have hbn := Grow.none (by assumption) hbk.2.2.2.2 | have hbn := Grow.none (by assumption) hbk.2.2.2.2.2)); (try simp only [set_none'] at hbn); (try (first | have hbm := Grow.none (by assumption) hbn | have hbm := Grow.none (by assumption) hbn.2 | have hbm := Grow.none (by assumption) hbn.2.2 | have hbm := Grow.none (by assumption) hbn.2.2.2 | have hbm := Grow.none (by assumption) hbn.2.2.2.2 | have hbm := Grow.none (by assumption) hbn.2.2.2.2.2)); (try simp only [set_none'] at hbm)) | ((first | refine condS_i ?_ ?_ | refine pick_i ?_ ?_ | refine gS_it ?_ ?_ | refine gS_if ?_ ?_ | refine gP_it ?_ ?_ | refine gP_if ?_ ?_) <;> (intro hc; try simp only [Int.reduceLE,Int.reduceLT,Int.reduceEq,and_self,not_true_eq_false,not_false_eq_true,and_true,true_and,false_and,and_false,true_or,or_true,false_or,or_false,decide_eq_true_eq,decide_eq_false_iff_not,beq_iff_eq,beq_eq_false_iff_ne,bne_iff_ne,ne_eq,gt_iff_lt,ge_iff_le,Bool.not_eq_true,Bool.not_eq_false,Bool.not_eq_true',Bool.not_eq_false',Bool.not_eq_eq_eq_not,Bool.not_true,Bool.not_false] at hc)) | (refine KP_i (by (repeat' (first | exact Heap.Le.refl _ | (refine Le_known (by first | (simp only [Heap.set_same, set_ne, ne_eq, not_false_eq_true, *] <;> rfl) | fail) ?_) | (refine Le_fresh (by first | (simp only [*] <;> done) | (simp [set_none', Heap.set_same, set_ne, *] <;> done) | fail) ?_) | (refine Heap.Le.trans ?_ (Grow.le (by assumption)))))) ?_) | (with_reducible refine loop_u ?_) | (with_reducible refine And.intro ?_ ?_)) <;> (try simp only [Sh,Si,Sl,Bu,Bb,Bd,Bc,Bw,Bn,Int.reduceAdd,Int.reduceSub,Int.reduceMul,Int.reduceTDiv,Int.reduceTMod,Int.reduceMod,Int.reduceDiv,Nat.reduceLT,Nat.reduceEqDiff,decide_true,decide_false,Sa,Sb,Sc,Sd,Se,Sf,Sg,true_and,and_true,and_self,eq_self,b_i64,b_i32,b_u64,b_u32,b_u8,Int.reduceLE,Int.reduceLT,Int.reduceToNat,Int.reduceNeg,Int.reduceEq,Nat.reduceLeDiff,Nat.reducePow,Int.reducePow,Nat.min_def,reduceIte,Nat.reduceSub,Nat.reduceAdd,Nat.reduceMul,KP_same,KP_f,condS_t,condS_f,pick_t,pick_f,gS_tt,gS_ff,gS_tf,gS_ft,gS_u,gP_tt,gP_ff,gP_tf,gP_ft,gP_u,ptrV_eq,slcV_eq,cells_agg,cells_int,cells_bool,cells_ptr,cells_slice,oc_int,oc_bool,oc_slice,oc_ptr,rd1_set,rd1_ne,rdn_set,rdn_ne,Heap.set_same,set_ne,Heap.set_set,set_up,set_up2,set_up3,putAt,ceq,List.map_cons,List.map_nil,List.length_cons,List.length_nil,List.length_set,List.cons_append,List.nil_append,List.append_nil,List.replicate,List.size_toArray,List.all_cons,List.all_nil,Bool.and_self,Bool.and_true,List.drop_zero,List.drop_succ_cons,List.take_succ_cons,List.take_zero,List.set_cons_zero,List.set_cons_succ,List.getElem?_cons_zero,List.getElem?_cons_succ,Option.map_some,Option.map_none,ne_eq,not_false_eq_true,not_true_eq_false,gt_iff_lt,ge_iff_le,Int.one_mul,Nat.zero_add,Nat.zero_mul,Bool.not_true,Bool.not_false,Bool.false_eq_true,Bool.and_false,Bool.false_and,Bool.true_and, *]))
    exact Fin_mk (by (repeat' (first | exact Heap.Le.refl _ | (refine Le_known (by first | (simp only [Heap.set_same, set_ne, ne_eq, not_false_eq_true, *] <;> rfl) | fail) ?_) | (refine Le_fresh (by first | (simp only [*] <;> done) | (simp [set_none', Heap.set_same, set_ne, *] <;> done) | fail) ?_) | (refine Heap.Le.trans ?_ (Grow.le (by assumption)))))) h
  · obtain ⟨x0, hx0⟩ : ∃ v, ls[ls.length - 1]? = some v := ⟨_, List.getElem?_eq_getElem (by omega)⟩
    rw [cutA_of hx0] at h
    obtain ⟨bl, ol, ea, -, hf⟩ := rows_vt hA hx0
    subst ea
    obtain ⟨m, em⟩ : ∃ m, ls.length = m := ⟨_, rfl⟩
    have hrow : ∀ (k : Nat) (y : VtR), ls[k]? = some y → rdn w0 H bl (ol + k * 6) 6 = some y.row := fun k y e => by
      obtain ⟨b', o', e', r, -⟩ := rows_vt hA e
      cases e'; exact r
    have hok := hA.ok
    clear hA
    rw [em] at hx0 hl h0 ⊢
    have w1 : IntKind.i64.wrap ((m : Int) - 1) = ((m - 1 : Nat) : Int) := by rw [Bw.1 _ (by omega) (by omega)]; omega
    refine HL.hc k33 999 ?_; unfold M33
    (all_goals (refine (fun f : True → _ => f trivial) ?_)); repeat' ((first | (with_reducible refine fun _ : True => ?_) | (refine AllocQ_i ?_; intro bk hb0 hbk; (try simp only [set_none'] at hbk); (try (first | have hbn := Grow.none (by assumption) hbk | have hbn := Grow.none (by assumption) hbk.2 | have hbn := Grow.none (by assumption) hbk.2.2 | have hbn := Grow.none (by assumption) hbk.2.2.2 | have hbn := Grow.none (by assumption) hbk.2.2.2.2 | have hbn := Grow.none (by assumption) hbk.2.2.2.2.2)); (try simp only [set_none'] at hbn); (try (first | have hbm := Grow.none (by assumption) hbn | have hbm := Grow.none (by assumption) hbn.2 | have hbm := Grow.none (by assumption) hbn.2.2 | have hbm := Grow.none (by assumption) hbn.2.2.2 | have hbm := Grow.none (by assumption) hbn.2.2.2.2 | have hbm := Grow.none (by assumption) hbn.2.2.2.2.2)); (try simp only [set_none'] at hbm)) | ((first | refine condS_i ?_ ?_ | refine pick_i ?_ ?_ | refine gS_it ?_ ?_ | refine gS_if ?_ ?_ | refine gP_it ?_ ?_ | refine gP_if ?_ ?_) <;> (intro hc; try simp only [Int.reduceLE,Int.reduceLT,Int.reduceEq,and_self,not_true_eq_false,not_false_eq_true,and_true,true_and,false_and,and_false,true_or,or_true,false_or,or_false,decide_eq_true_eq,decide_eq_false_iff_not,beq_iff_eq,beq_eq_false_iff_ne,bne_iff_ne,ne_eq,gt_iff_lt,ge_iff_le,Bool.not_eq_true,Bool.not_eq_false,Bool.not_eq_true',Bool.not_eq_false',Bool.not_eq_eq_eq_not,Bool.not_true,Bool.not_false] at hc)) | (refine KP_i (by (repeat' (first | exact Heap.Le.refl _ | (refine Le_known (by first | (simp only [Heap.set_same, set_ne, ne_eq, not_false_eq_true, *] <;> rfl) | fail) ?_) | (refine Le_fresh (by first | (simp only [*] <;> done) | (simp [set_none', Heap.set_same, set_ne, *] <;> done) | fail) ?_) | (refine Heap.Le.trans ?_ (Grow.le (by assumption)))))) ?_) | (with_reducible refine And.intro ?_ ?_)) <;> (try simp only [Sh,Si,Sl,Bu,Bb,Bd,Bc,Bw,Bn,Int.reduceAdd,Int.reduceSub,Int.reduceMul,Int.reduceTDiv,Int.reduceTMod,Int.reduceMod,Int.reduceDiv,Nat.reduceLT,Nat.reduceEqDiff,decide_true,decide_false,Sa,Sb,Sc,Sd,Se,Sf,Sg,true_and,and_true,and_self,eq_self,b_i64,b_i32,b_u64,b_u32,b_u8,Int.reduceLE,Int.reduceLT,Int.reduceToNat,Int.reduceNeg,Int.reduceEq,Nat.reduceLeDiff,Nat.reducePow,Int.reducePow,Nat.min_def,reduceIte,Nat.reduceSub,Nat.reduceAdd,Nat.reduceMul,KP_same,KP_f,condS_t,condS_f,pick_t,pick_f,gS_tt,gS_ff,gS_tf,gS_ft,gS_u,gP_tt,gP_ff,gP_tf,gP_ft,gP_u,ptrV_eq,slcV_eq,cells_agg,cells_int,cells_bool,cells_ptr,cells_slice,oc_int,oc_bool,oc_slice,oc_ptr,rd1_set,rd1_ne,rdn_set,rdn_ne,Heap.set_same,set_ne,Heap.set_set,set_up,set_up2,set_up3,putAt,ceq,List.map_cons,List.map_nil,List.length_cons,List.length_nil,List.length_set,List.cons_append,List.nil_append,List.append_nil,List.replicate,List.size_toArray,List.all_cons,List.all_nil,Bool.and_self,Bool.and_true,List.drop_zero,List.drop_succ_cons,List.take_succ_cons,List.take_zero,List.set_cons_zero,List.set_cons_succ,List.getElem?_cons_zero,List.getElem?_cons_succ,Option.map_some,Option.map_none,ne_eq,not_false_eq_true,not_true_eq_false,gt_iff_lt,ge_iff_le,Int.one_mul,Nat.zero_add,Nat.zero_mul,Bool.not_true,Bool.not_false,Bool.false_eq_true,Bool.and_false,Bool.false_and,Bool.true_and, *]))
    refine loop_g 12 (fun s : (Nat × Nat × Value × Value × Value × Value × Option Addr × Nat × List VtR) × Heap => [(5, .slice s.1.2.2.2.2.2.2.1 s.1.2.2.2.2.2.2.2.2.length s.1.2.2.2.2.2.2.2.1), (6, .int .i64 (s.1.2.1 : Nat)), (7, .int .i64 (s.1.1 : Nat)), (8, s.1.2.2.1), (9, s.1.2.2.2.1), (10, s.1.2.2.2.2.1), (11, s.1.2.2.2.2.2.1)]) (fun s => s.2)
      (fun s => s.1.1 ≤ m ∧ s.1.2.1 < m ∧ ((s.1.1 = 0 ∧ s.1.2.1 = m - 1) ∨ s.1.1 = s.1.2.1 + 1) ∧ Grow w0 H s.2 ∧ RowsB w0 H s.2 s.1.2.2.2.2.2.2.1 s.1.2.2.2.2.2.2.2.1 s.1.2.2.2.2.2.2.2.2 ∧ s.1.2.2.2.2.2.2.2.2.map VtR.toVt = cutF n x0.toVt ((ls.map VtR.toVt).take s.1.1))
      (fun s => m - s.1.1) ((0, m - 1, undef, undef, undef, undef, none, 0, []), H) ⟨Nat.zero_le _, by simp only; omega, .inl ⟨rfl, rfl⟩, Grow.refl _, RowsB.none, rfl⟩ (Heap.Le.refl _) rfl ?_
    rintro ⟨⟨k, j, u8, u9, u10, u11, a', cap', os⟩, G⟩ g ⟨hk, hj, hkj, hG, hB, hos⟩
    simp only at hk hj hkj hG hB hos
    show run _ _ _ _ _ _ G
    rcases Nat.lt_or_ge k m with hlt | hge
    · obtain ⟨y, ey⟩ : ∃ v, ls[k]? = some v := ⟨_, List.getElem?_eq_getElem (by omega)⟩
      obtain ⟨x, ex⟩ : ∃ v, ls[j]? = some v := ⟨_, List.getElem?_eq_getElem (by omega)⟩
      have r1 := hG.rdn (hrow k y ey) (by decide)
      have r2 := hG.rdn (hrow j x ex) (by decide)
      have hx := (hok x (List.mem_of_getElem? ex)).grow hG
      have hy := (hok y (List.mem_of_getElem? ey)).grow hG
      have lx := hal.2 x.toVt (List.mem_map.2 ⟨x, List.mem_of_getElem? ex, rfl⟩)
      have ly := hal.2 y.toVt (List.mem_map.2 ⟨y, List.mem_of_getElem? ey, rfl⟩)
      have hstep := cutF_take (n := n) (ls.map VtR.toVt) x0.toVt k x.toVt y.toVt (cut_prev (by rw [em]; exact hx0) ex (by rw [em]; exact hkj)) (by rw [List.getElem?_map, ey]; rfl)
      have hol : os.length ≤ 2 * m := by
        have := cutF_le (n := n) ((ls.map VtR.toVt).take k) x0.toVt
        rw [← hos, List.length_map, List.length_take, List.length_map, em] at this
        omega
      have t0 : (k : Int) < (m : Int) := by omega
      have t1 : (j : Int) < (m : Int) := by omega
      have t6 : IntKind.i64.wrap ((k : Int) + 1) = (k : Int) + 1 := Bw.1 _ (by omega) (by omega)
      have d1 : ∀ (G : Heap) (K : Value → Heap → Prop), K (.int .i32 (dist x.p n)) G → HCalls Try.prog w0 34 [x.v, .int .i64 n] G K := fun G K hk => c_distance x n hx.p hk
      have d2 : ∀ (G : Heap) (K : Value → Heap → Prop), K (.int .i32 (dist y.p n)) G → HCalls Try.prog w0 34 [y.v, .int .i64 n] G K := fun G K hk => c_distance y n hy.p hk
      have ow : ∀ (F : Heap) (K : Value → Heap → Prop), Grow w0 G F → (∀ a' cap' H', VsNew w0 F H' a' cap' y.l → Grow w0 F H' → K (VtR.mk y.toVt a' cap').v H') → HCalls Try.prog w0 44 [y.v] F K := fun F K g hk => c_own y (hy.grow g) hk
      have bt1 : ∀ (F : Heap) (K : Value → Heap → Prop), Grow w0 G F → (∀ a' cap' H', VsNew w0 F H' a' cap' (betw x.toVt y.toVt n).l → Grow w0 F H' → K (VtR.mk (betw x.toVt y.toVt n) a' cap').v H') → HCalls Try.prog w0 43 [x.v, y.v, .int .i64 n] F K := fun F K g hk =>
        c_between x y n (hx.grow g) (hy.grow g) (ly.trans lx.symm) (by have := hal.1; omega) fun a' cap' H' hn hg => by
          have := hk a' cap' H' hn hg
          unfold VtR.v at this
          rw [betw_len (m := x.l.length) rfl (ly.trans lx.symm)] at this
          exact this
      have bt2 : ∀ (F : Heap) (K : Value → Heap → Prop), Grow w0 G F → (∀ a' cap' H', VsNew w0 F H' a' cap' (betw y.toVt x.toVt n).l → Grow w0 F H' → K (VtR.mk (betw y.toVt x.toVt n) a' cap').v H') → HCalls Try.prog w0 43 [y.v, x.v, .int .i64 n] F K := fun F K g hk =>
        c_between y x n (hy.grow g) (hx.grow g) (lx.trans ly.symm) (by have := hal.1; omega) fun a' cap' H' hn hg => by
          have := hk a' cap' H' hn hg
          unfold VtR.v at this
          rw [betw_len (m := y.l.length) rfl (lx.trans ly.symm)] at this
          exact this
      unfold VtR.v at d1 d2 ow bt1 bt2
      have hyp := hy.p
      have hys := hy.s
      unfold VtR.row at r1 r2
      clear hrow hok lx ly
      (all_goals (refine (fun f : True → _ => f trivial) ?_)); repeat' ((first | (with_reducible refine fun _ : True => ?_) | (refine AllocQ_i ?_; intro bk hb0 hbk; (try simp only [set_none'] at hbk); (try (first | have hbn := Grow.none (by assumption) hbk | have hbn := Grow.none (by assumption) hbk.2 | have hbn := Grow.none (by assumption) hbk.2.2 | have hbn := Grow.none (by assumption) hbk.2.2.2 | have hbn := Grow.none (by assumption) hbk.2.2.2.2 | have hbn := Grow.none (by assumption) hbk.2.2.2.2.2)); (try simp only [set_none'] at hbn); (try (first | have hbm := Grow.none (by assumption) hbn | have hbm := Grow.none (by assumption) hbn.2 | have hbm := Grow.none (by assumption) hbn.2.2 | have hbm := Grow.none (by assumption) hbn.2.2.2 | have hbm := Grow.none (by assumption) hbn.2.2.2.2 | have hbm := Grow.none (by assumption) hbn.2.2.2.2.2)); (try simp only [set_none'] at hbm)) | ((first | refine condS_i ?_ ?_ | refine pick_i ?_ ?_ | refine gS_it ?_ ?_ | refine gS_if ?_ ?_ | refine gP_it ?_ ?_ | refine gP_if ?_ ?_) <;> (intro hc; try simp only [Int.reduceLE,Int.reduceLT,Int.reduceEq,and_self,not_true_eq_false,not_false_eq_true,and_true,true_and,false_and,and_false,true_or,or_true,false_or,or_false,decide_eq_true_eq,decide_eq_false_iff_not,beq_iff_eq,beq_eq_false_iff_ne,bne_iff_ne,ne_eq,gt_iff_lt,ge_iff_le,Bool.not_eq_true,Bool.not_eq_false,Bool.not_eq_true',Bool.not_eq_false',Bool.not_eq_eq_eq_not,Bool.not_true,Bool.not_false] at hc)) | (refine KP_i (by (repeat' (first | exact Heap.Le.refl _ | (refine Le_known (by first | (simp only [Heap.set_same, set_ne, ne_eq, not_false_eq_true, *] <;> rfl) | fail) ?_) | (refine Le_fresh (by first | (simp only [*] <;> done) | (simp [set_none', Heap.set_same, set_ne, *] <;> done) | fail) ?_) | (refine Heap.Le.trans ?_ (Grow.le (by assumption)))))) ?_) | (with_reducible refine And.intro ?_ ?_)) <;> (try simp only [Sh,Si,Sl,Bu,Bb,Bd,Bc,Bw,Bn,Int.reduceAdd,Int.reduceSub,Int.reduceMul,Int.reduceTDiv,Int.reduceTMod,Int.reduceMod,Int.reduceDiv,Nat.reduceLT,Nat.reduceEqDiff,decide_true,decide_false,Sa,Sb,Sc,Sd,Se,Sf,Sg,true_and,and_true,and_self,eq_self,b_i64,b_i32,b_u64,b_u32,b_u8,Int.reduceLE,Int.reduceLT,Int.reduceToNat,Int.reduceNeg,Int.reduceEq,Nat.reduceLeDiff,Nat.reducePow,Int.reducePow,Nat.min_def,reduceIte,Nat.reduceSub,Nat.reduceAdd,Nat.reduceMul,KP_same,KP_f,condS_t,condS_f,pick_t,pick_f,gS_tt,gS_ff,gS_tf,gS_ft,gS_u,gP_tt,gP_ff,gP_tf,gP_ft,gP_u,ptrV_eq,slcV_eq,cells_agg,cells_int,cells_bool,cells_ptr,cells_slice,oc_int,oc_bool,oc_slice,oc_ptr,rd1_set,rd1_ne,rdn_set,rdn_ne,Heap.set_same,set_ne,Heap.set_set,set_up,set_up2,set_up3,putAt,ceq,List.map_cons,List.map_nil,List.length_cons,List.length_nil,List.length_set,List.cons_append,List.nil_append,List.append_nil,List.replicate,List.size_toArray,List.all_cons,List.all_nil,Bool.and_self,Bool.and_true,List.drop_zero,List.drop_succ_cons,List.take_succ_cons,List.take_zero,List.set_cons_zero,List.set_cons_succ,List.getElem?_cons_zero,List.getElem?_cons_succ,Option.map_some,Option.map_none,ne_eq,not_false_eq_true,not_true_eq_false,gt_iff_lt,ge_iff_le,Int.one_mul,Nat.zero_add,Nat.zero_mul,Bool.not_true,Bool.not_false,Bool.false_eq_true,Bool.and_false,Bool.false_and,Bool.true_and, *]))
      refine pt_heap (fun G0 eG => ?_)
      refine alts_g (S := (Nat × Nat) × Heap) 10 (fun s => [(8, .pointer (some ⟨s.1.1, 0, none⟩)), (9, .pointer (some ⟨s.1.2, 0, none⟩))]) (fun s => s.2)
        (fun s => Grow w0 G0 s.2 ∧ s.1.1 ≠ s.1.2 ∧ s.1.2 ≠ s.1.1 ∧ s.2 s.1.1 = some ⟨29, x.row⟩ ∧ s.2 s.1.2 = some ⟨29, y.row⟩) 60 900 ?_ ?_ (by decide)
      · subst eG
        unfold A33_1
        (all_goals (refine (fun f : True → _ => f trivial) ?_)); repeat' ((first | (with_reducible refine fun _ : True => ?_) | (refine AllocQ_i ?_; intro bk hb0 hbk; (try simp only [set_none'] at hbk); (try (first | have hbn := Grow.none (by assumption) hbk | have hbn := Grow.none (by assumption) hbk.2 | have hbn := Grow.none (by assumption) hbk.2.2 | have hbn := Grow.none (by assumption) hbk.2.2.2 | have hbn := Grow.none (by assumption) hbk.2.2.2.2 | have hbn := Grow.none (by assumption) hbk.2.2.2.2.2)); (try simp only [set_none'] at hbn); (try (first | have hbm := Grow.none (by assumption) hbn | have hbm := Grow.none (by assumption) hbn.2 | have hbm := Grow.none (by assumption) hbn.2.2 | have hbm := Grow.none (by assumption) hbn.2.2.2 | have hbm := Grow.none (by assumption) hbn.2.2.2.2 | have hbm := Grow.none (by assumption) hbn.2.2.2.2.2)); (try simp only [set_none'] at hbm)) | ((first | refine condS_i ?_ ?_ | refine pick_i ?_ ?_ | refine gS_it ?_ ?_ | refine gS_if ?_ ?_ | refine gP_it ?_ ?_ | refine gP_if ?_ ?_) <;> (intro hc; try simp only [Int.reduceLE,Int.reduceLT,Int.reduceEq,and_self,not_true_eq_false,not_false_eq_true,and_true,true_and,false_and,and_false,true_or,or_true,false_or,or_false,decide_eq_true_eq,decide_eq_false_iff_not,beq_iff_eq,beq_eq_false_iff_ne,bne_iff_ne,ne_eq,gt_iff_lt,ge_iff_le,Bool.not_eq_true,Bool.not_eq_false,Bool.not_eq_true',Bool.not_eq_false',Bool.not_eq_eq_eq_not,Bool.not_true,Bool.not_false] at hc)) | (refine KP_i (by (repeat' (first | exact Heap.Le.refl _ | (refine Le_known (by first | (simp only [Heap.set_same, set_ne, ne_eq, not_false_eq_true, *] <;> rfl) | fail) ?_) | (refine Le_fresh (by first | (simp only [*] <;> done) | (simp [set_none', Heap.set_same, set_ne, *] <;> done) | fail) ?_) | (refine Heap.Le.trans ?_ (Grow.le (by assumption)))))) ?_) | (with_reducible refine And.intro ?_ ?_)) <;> (try simp only [Sh,Si,Sl,Bu,Bb,Bd,Bc,Bw,Bn,Int.reduceAdd,Int.reduceSub,Int.reduceMul,Int.reduceTDiv,Int.reduceTMod,Int.reduceMod,Int.reduceDiv,Nat.reduceLT,Nat.reduceEqDiff,decide_true,decide_false,Sa,Sb,Sc,Sd,Se,Sf,Sg,true_and,and_true,and_self,eq_self,b_i64,b_i32,b_u64,b_u32,b_u8,Int.reduceLE,Int.reduceLT,Int.reduceToNat,Int.reduceNeg,Int.reduceEq,Nat.reduceLeDiff,Nat.reducePow,Int.reducePow,Nat.min_def,reduceIte,Nat.reduceSub,Nat.reduceAdd,Nat.reduceMul,KP_same,KP_f,condS_t,condS_f,pick_t,pick_f,gS_tt,gS_ff,gS_tf,gS_ft,gS_u,gP_tt,gP_ff,gP_tf,gP_ft,gP_u,ptrV_eq,slcV_eq,cells_agg,cells_int,cells_bool,cells_ptr,cells_slice,oc_int,oc_bool,oc_slice,oc_ptr,rd1_set,rd1_ne,rdn_set,rdn_ne,Heap.set_same,set_ne,Heap.set_set,set_up,set_up2,set_up3,putAt,ceq,List.map_cons,List.map_nil,List.length_cons,List.length_nil,List.length_set,List.cons_append,List.nil_append,List.append_nil,List.replicate,List.size_toArray,List.all_cons,List.all_nil,Bool.and_self,Bool.and_true,List.drop_zero,List.drop_succ_cons,List.take_succ_cons,List.take_zero,List.set_cons_zero,List.set_cons_succ,List.getElem?_cons_zero,List.getElem?_cons_succ,Option.map_some,Option.map_none,ne_eq,not_false_eq_true,not_true_eq_false,gt_iff_lt,ge_iff_le,Int.one_mul,Nat.zero_add,Nat.zero_mul,Bool.not_true,Bool.not_false,Bool.false_eq_true,Bool.and_false,Bool.false_and,Bool.true_and, *]))
        all_goals (refine Meet_p (_, _) ?_ rfl rfl)
        all_goals (simp only)
        all_goals (refine ⟨(by (repeat' (first | exact Grow.refl _ | assumption | (refine Grow_known (by first | (simp only [Heap.set_same, set_ne, ne_eq, not_false_eq_true, *] <;> rfl) | fail) ?_) | (refine Grow.set ?_ (by assumption) (by first | (simp only [*] <;> done) | (simp [set_none', Heap.set_same, set_ne, *] <;> done) | fail)) | (refine Grow.trans ?_ (by assumption))))), by omega, by omega, ?_, ?_⟩ <;> (unfold VtR.row; first | exact Heap.set_same _ _ _ | exact (by simp only [Heap.set_same, set_ne, ne_eq, not_false_eq_true, *] <;> rfl)))
      · rintro ⟨⟨b8, b9⟩, G1⟩ f ⟨g1, n1, n2, k8, k9⟩
        simp only at g1 n1 n2 k8 k9
        rw [eG] at g1
        clear eG
        have hB1 := hB.grow g1
        have gH1 := hG.trans g1
        have hx1 := hx.grow g1
        have hy1 := hy.grow g1
        have gg : Grow w0 G ((G1.set b8 ⟨29, x.row⟩).set b9 ⟨29, y.row⟩) := by rw [← root2 n1 k8 k9]; exact g1
        have gh := hG.trans gg
        have hBg := hB.grow gg
        clear hB hB1 hx1 hy1 hx hy hG
        rw [root2 n1 k8 k9]
        unfold VtR.row at *
        (all_goals (refine (fun f : True → _ => f trivial) ?_)); repeat' ((first | (with_reducible refine fun _ : True => ?_) | refine d1 _ _ ?_ | refine d2 _ _ ?_ | refine bt1 _ _ (by (repeat' (first | exact Grow.refl _ | assumption | (refine Grow_known (by first | (simp only [Heap.set_same, set_ne, ne_eq, not_false_eq_true, *] <;> rfl) | fail) ?_) | (refine Grow.set ?_ (by assumption) (by first | (simp only [*] <;> done) | (simp [set_none', Heap.set_same, set_ne, *] <;> done) | fail)) | (refine Grow.trans ?_ (by assumption))))) (fun a2 c2 G2 hn2 hg2 => ?_)  | refine bt2 _ _ (by (repeat' (first | exact Grow.refl _ | assumption | (refine Grow_known (by first | (simp only [Heap.set_same, set_ne, ne_eq, not_false_eq_true, *] <;> rfl) | fail) ?_) | (refine Grow.set ?_ (by assumption) (by first | (simp only [*] <;> done) | (simp [set_none', Heap.set_same, set_ne, *] <;> done) | fail)) | (refine Grow.trans ?_ (by assumption))))) (fun a2 c2 G2 hn2 hg2 => ?_)  | refine ow _ _ (by (repeat' (first | exact Grow.refl _ | assumption | (refine Grow_known (by first | (simp only [Heap.set_same, set_ne, ne_eq, not_false_eq_true, *] <;> rfl) | fail) ?_) | (refine Grow.set ?_ (by assumption) (by first | (simp only [*] <;> done) | (simp [set_none', Heap.set_same, set_ne, *] <;> done) | fail)) | (refine Grow.trans ?_ (by assumption))))) (fun a2 c2 G2 hn2 hg2 => ?_)  | (refine AllocQ_i ?_; intro bk hb0 hbk; (try simp only [set_none'] at hbk); (try (first | have hbn := Grow.none (by assumption) hbk | have hbn := Grow.none (by assumption) hbk.2 | have hbn := Grow.none (by assumption) hbk.2.2 | have hbn := Grow.none (by assumption) hbk.2.2.2 | have hbn := Grow.none (by assumption) hbk.2.2.2.2 | have hbn := Grow.none (by assumption) hbk.2.2.2.2.2)); (try simp only [set_none'] at hbn); (try (first | have hbm := Grow.none (by assumption) hbn | have hbm := Grow.none (by assumption) hbn.2 | have hbm := Grow.none (by assumption) hbn.2.2 | have hbm := Grow.none (by assumption) hbn.2.2.2 | have hbm := Grow.none (by assumption) hbn.2.2.2.2 | have hbm := Grow.none (by assumption) hbn.2.2.2.2.2)); (try simp only [set_none'] at hbm)) | ((first | refine condS_i ?_ ?_ | refine pick_i ?_ ?_ | refine gS_it ?_ ?_ | refine gS_if ?_ ?_ | refine gP_it ?_ ?_ | refine gP_if ?_ ?_) <;> (intro hc; try simp only [Int.reduceLE,Int.reduceLT,Int.reduceEq,and_self,not_true_eq_false,not_false_eq_true,and_true,true_and,false_and,and_false,true_or,or_true,false_or,or_false,decide_eq_true_eq,decide_eq_false_iff_not,beq_iff_eq,beq_eq_false_iff_ne,bne_iff_ne,ne_eq,gt_iff_lt,ge_iff_le,Bool.not_eq_true,Bool.not_eq_false,Bool.not_eq_true',Bool.not_eq_false',Bool.not_eq_eq_eq_not,Bool.not_true,Bool.not_false] at hc)) | (refine KP_i (by (repeat' (first | exact Heap.Le.refl _ | (refine Le_known (by first | (simp only [Heap.set_same, set_ne, ne_eq, not_false_eq_true, *] <;> rfl) | fail) ?_) | (refine Le_fresh (by first | (simp only [*] <;> done) | (simp [set_none', Heap.set_same, set_ne, *] <;> done) | fail) ?_) | (refine Heap.Le.trans ?_ (Grow.le (by assumption)))))) ?_) | (with_reducible refine And.intro ?_ ?_)) <;> (try simp only [Sh,Si,Sl,Bu,Bb,Bd,Bc,Bw,Bn,Int.reduceAdd,Int.reduceSub,Int.reduceMul,Int.reduceTDiv,Int.reduceTMod,Int.reduceMod,Int.reduceDiv,Nat.reduceLT,Nat.reduceEqDiff,decide_true,decide_false,Sa,Sb,Sc,Sd,Se,Sf,Sg,true_and,and_true,and_self,eq_self,b_i64,b_i32,b_u64,b_u32,b_u8,Int.reduceLE,Int.reduceLT,Int.reduceToNat,Int.reduceNeg,Int.reduceEq,Nat.reduceLeDiff,Nat.reducePow,Int.reducePow,Nat.min_def,reduceIte,Nat.reduceSub,Nat.reduceAdd,Nat.reduceMul,KP_same,KP_f,condS_t,condS_f,pick_t,pick_f,gS_tt,gS_ff,gS_tf,gS_ft,gS_u,gP_tt,gP_ff,gP_tf,gP_ft,gP_u,ptrV_eq,slcV_eq,cells_agg,cells_int,cells_bool,cells_ptr,cells_slice,oc_int,oc_bool,oc_slice,oc_ptr,rd1_set,rd1_ne,rdn_set,rdn_ne,Heap.set_same,set_ne,Heap.set_set,set_up,set_up2,set_up3,putAt,ceq,List.map_cons,List.map_nil,List.length_cons,List.length_nil,List.length_set,List.cons_append,List.nil_append,List.append_nil,List.replicate,List.size_toArray,List.all_cons,List.all_nil,Bool.and_self,Bool.and_true,List.drop_zero,List.drop_succ_cons,List.take_succ_cons,List.take_zero,List.set_cons_zero,List.set_cons_succ,List.getElem?_cons_zero,List.getElem?_cons_succ,Option.map_some,Option.map_none,ne_eq,not_false_eq_true,not_true_eq_false,gt_iff_lt,ge_iff_le,Int.one_mul,Nat.zero_add,Nat.zero_mul,Bool.not_true,Bool.not_false,Bool.false_eq_true,Bool.and_false,Bool.false_and,Bool.true_and, *]))
        · rename_i hc1
          have gF := gh.trans hg2
          have gb := (Grow.refl (w0 := w0) G2).set (x := ⟨29, (VtR.mk (betw x.toVt y.toVt n) a2 c2).row⟩) hb0 hbk
          refine app_rows (ns := [VtR.mk (betw x.toVt y.toVt n) a2 c2]) (hBg.grow (hg2.trans gb)) rfl (srd_blk (by simp only [Heap.set_same, set_ne, ne_eq, not_false_eq_true, *] <;> rfl) rfl) (fun z hz => ?_) (gF.trans gb) (by simp; omega) (fun a3 c3 os3 G3 e3 hB3 hG3 => ?_)
          · rw [List.mem_singleton.1 hz]
            exact ⟨VsAt.base hn2 gh (KeepT.of gb), bvec_V32 _ _ _, betw_s_I32 _ _ _⟩
          · have hos3 : os3.map VtR.toVt = cutF n x0.toVt ((ls.map VtR.toVt).take (k + 1)) := by
              rw [e3, hstep, List.map_append, hos]
              simp [piece, hc1, hc]
            clear h hBg hos hstep bt1 bt2 ow d1 d2 hn2 e3
            (all_goals (refine (fun f : True → _ => f trivial) ?_)); repeat' ((first | (with_reducible refine fun _ : True => ?_) | (refine AllocQ_i ?_; intro bk hb0 hbk; (try simp only [set_none'] at hbk); (try (first | have hbn := Grow.none (by assumption) hbk | have hbn := Grow.none (by assumption) hbk.2 | have hbn := Grow.none (by assumption) hbk.2.2 | have hbn := Grow.none (by assumption) hbk.2.2.2 | have hbn := Grow.none (by assumption) hbk.2.2.2.2 | have hbn := Grow.none (by assumption) hbk.2.2.2.2.2)); (try simp only [set_none'] at hbn); (try (first | have hbm := Grow.none (by assumption) hbn | have hbm := Grow.none (by assumption) hbn.2 | have hbm := Grow.none (by assumption) hbn.2.2 | have hbm := Grow.none (by assumption) hbn.2.2.2 | have hbm := Grow.none (by assumption) hbn.2.2.2.2 | have hbm := Grow.none (by assumption) hbn.2.2.2.2.2)); (try simp only [set_none'] at hbm)) | ((first | refine condS_i ?_ ?_ | refine pick_i ?_ ?_ | refine gS_it ?_ ?_ | refine gS_if ?_ ?_ | refine gP_it ?_ ?_ | refine gP_if ?_ ?_) <;> (intro hc; try simp only [Int.reduceLE,Int.reduceLT,Int.reduceEq,and_self,not_true_eq_false,not_false_eq_true,and_true,true_and,false_and,and_false,true_or,or_true,false_or,or_false,decide_eq_true_eq,decide_eq_false_iff_not,beq_iff_eq,beq_eq_false_iff_ne,bne_iff_ne,ne_eq,gt_iff_lt,ge_iff_le,Bool.not_eq_true,Bool.not_eq_false,Bool.not_eq_true',Bool.not_eq_false',Bool.not_eq_eq_eq_not,Bool.not_true,Bool.not_false] at hc)) | (refine KP_i (by (repeat' (first | exact Heap.Le.refl _ | (refine Le_known (by first | (simp only [Heap.set_same, set_ne, ne_eq, not_false_eq_true, *] <;> rfl) | fail) ?_) | (refine Le_fresh (by first | (simp only [*] <;> done) | (simp [set_none', Heap.set_same, set_ne, *] <;> done) | fail) ?_) | (refine Heap.Le.trans ?_ (Grow.le (by assumption)))))) ?_) | (with_reducible refine And.intro ?_ ?_)) <;> (try simp only [Sh,Si,Sl,Bu,Bb,Bd,Bc,Bw,Bn,Int.reduceAdd,Int.reduceSub,Int.reduceMul,Int.reduceTDiv,Int.reduceTMod,Int.reduceMod,Int.reduceDiv,Nat.reduceLT,Nat.reduceEqDiff,decide_true,decide_false,Sa,Sb,Sc,Sd,Se,Sf,Sg,true_and,and_true,and_self,eq_self,b_i64,b_i32,b_u64,b_u32,b_u8,Int.reduceLE,Int.reduceLT,Int.reduceToNat,Int.reduceNeg,Int.reduceEq,Nat.reduceLeDiff,Nat.reducePow,Int.reducePow,Nat.min_def,reduceIte,Nat.reduceSub,Nat.reduceAdd,Nat.reduceMul,KP_same,KP_f,condS_t,condS_f,pick_t,pick_f,gS_tt,gS_ff,gS_tf,gS_ft,gS_u,gP_tt,gP_ff,gP_tf,gP_ft,gP_u,ptrV_eq,slcV_eq,cells_agg,cells_int,cells_bool,cells_ptr,cells_slice,oc_int,oc_bool,oc_slice,oc_ptr,rd1_set,rd1_ne,rdn_set,rdn_ne,Heap.set_same,set_ne,Heap.set_set,set_up,set_up2,set_up3,putAt,ceq,List.map_cons,List.map_nil,List.length_cons,List.length_nil,List.length_set,List.cons_append,List.nil_append,List.append_nil,List.replicate,List.size_toArray,List.all_cons,List.all_nil,Bool.and_self,Bool.and_true,List.drop_zero,List.drop_succ_cons,List.take_succ_cons,List.take_zero,List.set_cons_zero,List.set_cons_succ,List.getElem?_cons_zero,List.getElem?_cons_succ,Option.map_some,Option.map_none,ne_eq,not_false_eq_true,not_true_eq_false,gt_iff_lt,ge_iff_le,Int.one_mul,Nat.zero_add,Nat.zero_mul,Bool.not_true,Bool.not_false,Bool.false_eq_true,Bool.and_false,Bool.false_and,Bool.true_and, *]))
            exact Round_p (k + 1, k, _, _, _, _, a3, c3, os3) ⟨hlt, hlt, .inr rfl, hG3, hB3, hos3⟩ (by simp only; omega) rfl rfl
        · rename_i hc1
          have gF := gh.trans hg2
          have gb := (Grow.refl (w0 := w0) G2).set (x := ⟨29, (VtR.mk y.toVt a2 c2).row⟩) hb0 hbk
          refine app_rows (ns := [VtR.mk y.toVt a2 c2]) (hBg.grow (hg2.trans gb)) rfl (srd_blk (by simp only [Heap.set_same, set_ne, ne_eq, not_false_eq_true, *] <;> rfl) rfl) (fun z hz => ?_) (gF.trans gb) (by simp; omega) (fun a3 c3 os3 G3 e3 hB3 hG3 => ?_)
          · rw [List.mem_singleton.1 hz]
            exact ⟨VsAt.base hn2 gh (KeepT.of gb), hyp, hys⟩
          · have hos3 : os3.map VtR.toVt = cutF n x0.toVt ((ls.map VtR.toVt).take (k + 1)) := by
              rw [e3, hstep, List.map_append, hos]
              simp [piece, hc1, hc]
            clear h hBg hos hstep bt1 bt2 ow d1 d2 hn2 e3
            (all_goals (refine (fun f : True → _ => f trivial) ?_)); repeat' ((first | (with_reducible refine fun _ : True => ?_) | (refine AllocQ_i ?_; intro bk hb0 hbk; (try simp only [set_none'] at hbk); (try (first | have hbn := Grow.none (by assumption) hbk | have hbn := Grow.none (by assumption) hbk.2 | have hbn := Grow.none (by assumption) hbk.2.2 | have hbn := Grow.none (by assumption) hbk.2.2.2 | have hbn := Grow.none (by assumption) hbk.2.2.2.2 | have hbn := Grow.none (by assumption) hbk.2.2.2.2.2)); (try simp only [set_none'] at hbn); (try (first | have hbm := Grow.none (by assumption) hbn | have hbm := Grow.none (by assumption) hbn.2 | have hbm := Grow.none (by assumption) hbn.2.2 | have hbm := Grow.none (by assumption) hbn.2.2.2 | have hbm := Grow.none (by assumption) hbn.2.2.2.2 | have hbm := Grow.none (by assumption) hbn.2.2.2.2.2)); (try simp only [set_none'] at hbm)) | ((first | refine condS_i ?_ ?_ | refine pick_i ?_ ?_ | refine gS_it ?_ ?_ | refine gS_if ?_ ?_ | refine gP_it ?_ ?_ | refine gP_if ?_ ?_) <;> (intro hc; try simp only [Int.reduceLE,Int.reduceLT,Int.reduceEq,and_self,not_true_eq_false,not_false_eq_true,and_true,true_and,false_and,and_false,true_or,or_true,false_or,or_false,decide_eq_true_eq,decide_eq_false_iff_not,beq_iff_eq,beq_eq_false_iff_ne,bne_iff_ne,ne_eq,gt_iff_lt,ge_iff_le,Bool.not_eq_true,Bool.not_eq_false,Bool.not_eq_true',Bool.not_eq_false',Bool.not_eq_eq_eq_not,Bool.not_true,Bool.not_false] at hc)) | (refine KP_i (by (repeat' (first | exact Heap.Le.refl _ | (refine Le_known (by first | (simp only [Heap.set_same, set_ne, ne_eq, not_false_eq_true, *] <;> rfl) | fail) ?_) | (refine Le_fresh (by first | (simp only [*] <;> done) | (simp [set_none', Heap.set_same, set_ne, *] <;> done) | fail) ?_) | (refine Heap.Le.trans ?_ (Grow.le (by assumption)))))) ?_) | (with_reducible refine And.intro ?_ ?_)) <;> (try simp only [Sh,Si,Sl,Bu,Bb,Bd,Bc,Bw,Bn,Int.reduceAdd,Int.reduceSub,Int.reduceMul,Int.reduceTDiv,Int.reduceTMod,Int.reduceMod,Int.reduceDiv,Nat.reduceLT,Nat.reduceEqDiff,decide_true,decide_false,Sa,Sb,Sc,Sd,Se,Sf,Sg,true_and,and_true,and_self,eq_self,b_i64,b_i32,b_u64,b_u32,b_u8,Int.reduceLE,Int.reduceLT,Int.reduceToNat,Int.reduceNeg,Int.reduceEq,Nat.reduceLeDiff,Nat.reducePow,Int.reducePow,Nat.min_def,reduceIte,Nat.reduceSub,Nat.reduceAdd,Nat.reduceMul,KP_same,KP_f,condS_t,condS_f,pick_t,pick_f,gS_tt,gS_ff,gS_tf,gS_ft,gS_u,gP_tt,gP_ff,gP_tf,gP_ft,gP_u,ptrV_eq,slcV_eq,cells_agg,cells_int,cells_bool,cells_ptr,cells_slice,oc_int,oc_bool,oc_slice,oc_ptr,rd1_set,rd1_ne,rdn_set,rdn_ne,Heap.set_same,set_ne,Heap.set_set,set_up,set_up2,set_up3,putAt,ceq,List.map_cons,List.map_nil,List.length_cons,List.length_nil,List.length_set,List.cons_append,List.nil_append,List.append_nil,List.replicate,List.size_toArray,List.all_cons,List.all_nil,Bool.and_self,Bool.and_true,List.drop_zero,List.drop_succ_cons,List.take_succ_cons,List.take_zero,List.set_cons_zero,List.set_cons_succ,List.getElem?_cons_zero,List.getElem?_cons_succ,Option.map_some,Option.map_none,ne_eq,not_false_eq_true,not_true_eq_false,gt_iff_lt,ge_iff_le,Int.one_mul,Nat.zero_add,Nat.zero_mul,Bool.not_true,Bool.not_false,Bool.false_eq_true,Bool.and_false,Bool.false_and,Bool.true_and, *]))
            exact Round_p (k + 1, k, _, _, _, _, a3, c3, os3) ⟨hlt, hlt, .inr rfl, hG3, hB3, hos3⟩ (by simp only; omega) rfl rfl
        · rename_i hc1 a1 c1 F1 hn1 hg1
          have gF := gh.trans (hg1.trans hg2)
          have gb := (Grow.refl (w0 := w0) G2).set (x := ⟨29, (VtR.mk (betw y.toVt x.toVt n) a1 c1).row ++ (VtR.mk y.toVt a2 c2).row⟩) hb0 hbk
          refine app_rows (ns := [VtR.mk (betw y.toVt x.toVt n) a1 c1, VtR.mk y.toVt a2 c2]) (hBg.grow (hg1.trans (hg2.trans gb))) rfl (srd_blk (by simp only [Heap.set_same, set_ne, ne_eq, not_false_eq_true, *] <;> rfl) rfl) (fun z hz => ?_) (gF.trans gb) (by simp; omega) (fun a3 c3 os3 G3 e3 hB3 hG3 => ?_)
          · rcases List.mem_cons.1 hz with rfl | hz
            · exact ⟨VsAt.base hn1 gh (KeepT.of (hg2.trans gb)), bvec_V32 _ _ _, betw_s_I32 _ _ _⟩
            · rw [List.mem_singleton.1 hz]
              exact ⟨VsAt.base hn2 (gh.trans hg1) (KeepT.of gb), hyp, hys⟩
          · have hos3 : os3.map VtR.toVt = cutF n x0.toVt ((ls.map VtR.toVt).take (k + 1)) := by
              rw [e3, hstep, List.map_append, hos]
              simp [piece, hc1, hc]
            clear h hBg hos hstep bt1 bt2 ow d1 d2 hn1 hn2 e3
            (all_goals (refine (fun f : True → _ => f trivial) ?_)); repeat' ((first | (with_reducible refine fun _ : True => ?_) | (refine AllocQ_i ?_; intro bk hb0 hbk; (try simp only [set_none'] at hbk); (try (first | have hbn := Grow.none (by assumption) hbk | have hbn := Grow.none (by assumption) hbk.2 | have hbn := Grow.none (by assumption) hbk.2.2 | have hbn := Grow.none (by assumption) hbk.2.2.2 | have hbn := Grow.none (by assumption) hbk.2.2.2.2 | have hbn := Grow.none (by assumption) hbk.2.2.2.2.2)); (try simp only [set_none'] at hbn); (try (first | have hbm := Grow.none (by assumption) hbn | have hbm := Grow.none (by assumption) hbn.2 | have hbm := Grow.none (by assumption) hbn.2.2 | have hbm := Grow.none (by assumption) hbn.2.2.2 | have hbm := Grow.none (by assumption) hbn.2.2.2.2 | have hbm := Grow.none (by assumption) hbn.2.2.2.2.2)); (try simp only [set_none'] at hbm)) | ((first | refine condS_i ?_ ?_ | refine pick_i ?_ ?_ | refine gS_it ?_ ?_ | refine gS_if ?_ ?_ | refine gP_it ?_ ?_ | refine gP_if ?_ ?_) <;> (intro hc; try simp only [Int.reduceLE,Int.reduceLT,Int.reduceEq,and_self,not_true_eq_false,not_false_eq_true,and_true,true_and,false_and,and_false,true_or,or_true,false_or,or_false,decide_eq_true_eq,decide_eq_false_iff_not,beq_iff_eq,beq_eq_false_iff_ne,bne_iff_ne,ne_eq,gt_iff_lt,ge_iff_le,Bool.not_eq_true,Bool.not_eq_false,Bool.not_eq_true',Bool.not_eq_false',Bool.not_eq_eq_eq_not,Bool.not_true,Bool.not_false] at hc)) | (refine KP_i (by (repeat' (first | exact Heap.Le.refl _ | (refine Le_known (by first | (simp only [Heap.set_same, set_ne, ne_eq, not_false_eq_true, *] <;> rfl) | fail) ?_) | (refine Le_fresh (by first | (simp only [*] <;> done) | (simp [set_none', Heap.set_same, set_ne, *] <;> done) | fail) ?_) | (refine Heap.Le.trans ?_ (Grow.le (by assumption)))))) ?_) | (with_reducible refine And.intro ?_ ?_)) <;> (try simp only [Sh,Si,Sl,Bu,Bb,Bd,Bc,Bw,Bn,Int.reduceAdd,Int.reduceSub,Int.reduceMul,Int.reduceTDiv,Int.reduceTMod,Int.reduceMod,Int.reduceDiv,Nat.reduceLT,Nat.reduceEqDiff,decide_true,decide_false,Sa,Sb,Sc,Sd,Se,Sf,Sg,true_and,and_true,and_self,eq_self,b_i64,b_i32,b_u64,b_u32,b_u8,Int.reduceLE,Int.reduceLT,Int.reduceToNat,Int.reduceNeg,Int.reduceEq,Nat.reduceLeDiff,Nat.reducePow,Int.reducePow,Nat.min_def,reduceIte,Nat.reduceSub,Nat.reduceAdd,Nat.reduceMul,KP_same,KP_f,condS_t,condS_f,pick_t,pick_f,gS_tt,gS_ff,gS_tf,gS_ft,gS_u,gP_tt,gP_ff,gP_tf,gP_ft,gP_u,ptrV_eq,slcV_eq,cells_agg,cells_int,cells_bool,cells_ptr,cells_slice,oc_int,oc_bool,oc_slice,oc_ptr,rd1_set,rd1_ne,rdn_set,rdn_ne,Heap.set_same,set_ne,Heap.set_set,set_up,set_up2,set_up3,putAt,ceq,List.map_cons,List.map_nil,List.length_cons,List.length_nil,List.length_set,List.cons_append,List.nil_append,List.append_nil,List.replicate,List.size_toArray,List.all_cons,List.all_nil,Bool.and_self,Bool.and_true,List.drop_zero,List.drop_succ_cons,List.take_succ_cons,List.take_zero,List.set_cons_zero,List.set_cons_succ,List.getElem?_cons_zero,List.getElem?_cons_succ,Option.map_some,Option.map_none,ne_eq,not_false_eq_true,not_true_eq_false,gt_iff_lt,ge_iff_le,Int.one_mul,Nat.zero_add,Nat.zero_mul,Bool.not_true,Bool.not_false,Bool.false_eq_true,Bool.and_false,Bool.false_and,Bool.true_and, *]))
            exact Round_p (k + 1, k, _, _, _, _, a3, c3, os3) ⟨hlt, hlt, .inr rfl, hG3, hB3, hos3⟩ (by simp only; omega) rfl rfl
        · rename_i hc1
          have hos3 : os.map VtR.toVt = cutF n x0.toVt ((ls.map VtR.toVt).take (k + 1)) := by
            rw [hstep, hos]
            simp [piece, hc1, hc]
          exact Round_p (k + 1, k, _, _, _, _, a', cap', os) ⟨hlt, hlt, .inr rfl, gh, hBg, hos3⟩ (by simp only; omega) rfl rfl
    · obtain rfl : m = k := by omega
      have t0 : ¬ ((m : Nat) : Int) < ((m : Nat) : Int) := by omega
      have hfin := h a' cap' os G (by rw [hos, List.take_of_length_le (by rw [List.length_map]; omega)]) hB hG
      clear h hB hos
      (all_goals (refine (fun f : True → _ => f trivial) ?_)); repeat' ((first | (with_reducible refine fun _ : True => ?_) | (refine AllocQ_i ?_; intro bk hb0 hbk; (try simp only [set_none'] at hbk); (try (first | have hbn := Grow.none (by assumption) hbk | have hbn := Grow.none (by assumption) hbk.2 | have hbn := Grow.none (by assumption) hbk.2.2 | have hbn := Grow.none (by assumption) hbk.2.2.2 | have hbn := Grow.none (by assumption) hbk.2.2.2.2 | have hbn := Grow.none (by assumption) hbk.2.2.2.2.2)); (try simp only [set_none'] at hbn); (try (first | have hbm := Grow.none (by assumption) hbn | have hbm := Grow.none (by assumption) hbn.2 | have hbm := Grow.none (by assumption) hbn.2.2 | have hbm := Grow.none (by assumption) hbn.2.2.2 | have hbm := Grow.none (by assumption) hbn.2.2.2.2 | have hbm := Grow.none (by assumption) hbn.2.2.2.2.2)); (try simp only [set_none'] at hbm)) | ((first | refine condS_i ?_ ?_ | refine pick_i ?_ ?_ | refine gS_it ?_ ?_ | refine gS_if ?_ ?_ | refine gP_it ?_ ?_ | refine gP_if ?_ ?_) <;> (intro hc; try simp only [Int.reduceLE,Int.reduceLT,Int.reduceEq,and_self,not_true_eq_false,not_false_eq_true,and_true,true_and,false_and,and_false,true_or,or_true,false_or,or_false,decide_eq_true_eq,decide_eq_false_iff_not,beq_iff_eq,beq_eq_false_iff_ne,bne_iff_ne,ne_eq,gt_iff_lt,ge_iff_le,Bool.not_eq_true,Bool.not_eq_false,Bool.not_eq_true',Bool.not_eq_false',Bool.not_eq_eq_eq_not,Bool.not_true,Bool.not_false] at hc)) | (refine KP_i (by (repeat' (first | exact Heap.Le.refl _ | (refine Le_known (by first | (simp only [Heap.set_same, set_ne, ne_eq, not_false_eq_true, *] <;> rfl) | fail) ?_) | (refine Le_fresh (by first | (simp only [*] <;> done) | (simp [set_none', Heap.set_same, set_ne, *] <;> done) | fail) ?_) | (refine Heap.Le.trans ?_ (Grow.le (by assumption)))))) ?_) | (with_reducible refine And.intro ?_ ?_)) <;> (try simp only [Sh,Si,Sl,Bu,Bb,Bd,Bc,Bw,Bn,Int.reduceAdd,Int.reduceSub,Int.reduceMul,Int.reduceTDiv,Int.reduceTMod,Int.reduceMod,Int.reduceDiv,Nat.reduceLT,Nat.reduceEqDiff,decide_true,decide_false,Sa,Sb,Sc,Sd,Se,Sf,Sg,true_and,and_true,and_self,eq_self,b_i64,b_i32,b_u64,b_u32,b_u8,Int.reduceLE,Int.reduceLT,Int.reduceToNat,Int.reduceNeg,Int.reduceEq,Nat.reduceLeDiff,Nat.reducePow,Int.reducePow,Nat.min_def,reduceIte,Nat.reduceSub,Nat.reduceAdd,Nat.reduceMul,KP_same,KP_f,condS_t,condS_f,pick_t,pick_f,gS_tt,gS_ff,gS_tf,gS_ft,gS_u,gP_tt,gP_ff,gP_tf,gP_ft,gP_u,ptrV_eq,slcV_eq,cells_agg,cells_int,cells_bool,cells_ptr,cells_slice,oc_int,oc_bool,oc_slice,oc_ptr,rd1_set,rd1_ne,rdn_set,rdn_ne,Heap.set_same,set_ne,Heap.set_set,set_up,set_up2,set_up3,putAt,ceq,List.map_cons,List.map_nil,List.length_cons,List.length_nil,List.length_set,List.cons_append,List.nil_append,List.append_nil,List.replicate,List.size_toArray,List.all_cons,List.all_nil,Bool.and_self,Bool.and_true,List.drop_zero,List.drop_succ_cons,List.take_succ_cons,List.take_zero,List.set_cons_zero,List.set_cons_succ,List.getElem?_cons_zero,List.getElem?_cons_succ,Option.map_some,Option.map_none,ne_eq,not_false_eq_true,not_true_eq_false,gt_iff_lt,ge_iff_le,Int.one_mul,Nat.zero_add,Nat.zero_mul,Bool.not_true,Bool.not_false,Bool.false_eq_true,Bool.and_false,Bool.false_and,Bool.true_and, *]))
      exact Fin_mk (by (repeat' (first | exact Heap.Le.refl _ | (refine Le_known (by first | (simp only [Heap.set_same, set_ne, ne_eq, not_false_eq_true, *] <;> rfl) | fail) ?_) | (refine Le_fresh (by first | (simp only [*] <;> done) | (simp [set_none', Heap.set_same, set_ne, *] <;> done) | fail) ?_) | (refine Heap.Le.trans ?_ (Grow.le (by assumption)))))) hfin
end Go.Proofs.Ytofgiimfempcjaa
