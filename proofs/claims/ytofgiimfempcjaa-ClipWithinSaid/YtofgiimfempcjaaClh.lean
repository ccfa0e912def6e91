/- Rows cut, by the document (layer 21). -/
import Derived.Test.YtofgiimfempcjaaClg
set_option linter.unusedSimpArgs false
set_option linter.unusedVariables false
set_option maxRecDepth 100000
set_option maxHeartbeats 8000000
namespace Go.Proofs.Ytofgiimfempcjaa
open Go Go.HL Go.RowKit Pb
variable {w0 : World} {H : Heap} {K : Value → Heap → Prop}

/-- As app_rows; and what is new stays. -/
theorem app_rows2 {G0 G : Heap} {a : Option Addr} {cap : Nat} {os : List VtR} {K : Value → Heap → Prop} {ns : List VtR} {xa : Option Addr} {xc : Nat} {zero : List Value} (hB : RowsB w0 H G0 a cap os) (gg : Grow w0 G0 G) (hz : zero.length = 6) (hx : srd w0 G xa (ns.length * 6) = some (ns.map VtR.row).flatten) (hne : ns ≠ [])
    (hns : ∀ y ∈ ns, VsAt w0 H G y.a y.cap y.l ∧ V32 y.p ∧ I32 y.s) (hg : Grow w0 H G) (hm : os.length + ns.length ≤ 1000000000)
    (h : ∀ a' cap' os' G', os' = os ++ ns → RowsB w0 H G' a' cap' os' → Grow w0 H G' → (∀ c x, G0 c = none → G c = some x → G' c = some x) → K (.slice a' os'.length cap') G') : appQ w0 G K 29 6 48 zero (.slice a os.length cap) (.slice xa ns.length xc) := by
  have hnl : 0 < ns.length := List.length_pos_iff.2 hne
  have hB' := hB.grow gg
  rcases hB.bld with ⟨b, z, rfl, h1, h2, h3, h4⟩ | ⟨rfl, he⟩
  · refine app_bld (H := H) (n := os.length) (m := ns.length) (cs := (os.map VtR.row).flatten) (ns := (ns.map VtR.row).flatten) hB'.bld (rows_flat os) hz hx (rows_flat ns) hg ⟨by omega, by omega⟩ (rows_one ns) (fun a2 cap2 G2 hB2 hg2 hk2 hc2 => ?_)
    have hkt : KeepT 26 G G2 := KeepT.app hk2 (by decide)
    have h := h a2 cap2 (os ++ ns) G2 rfl ⟨by rw [List.map_append, List.flatten_append]; exact hB2, by rw [List.length_append]; exact hc2, fun y hy => by
      rcases List.mem_append.1 hy with h' | h'
      · exact ⟨(hB'.ok y h').1.keep hkt, (hB'.ok y h').2⟩
      · exact ⟨(hns y h').1.keep hkt, (hns y h').2⟩⟩ hg2 (fun c x e0 e => hk2 c x e (fun _ e' => by cases e'; rw [h3] at e0; cases e0))
    rw [List.length_append] at h
    exact h
  · have e1 : os = [] := by
      have := congrArg List.length he
      rw [rows_flat, List.length_nil] at this
      exact List.length_eq_zero_iff.1 (by omega)
    subst e1
    unfold appQ
    simp only [hx, optQ]
    refine ⟨by simp only [List.length_nil]; omega, by simp only [List.length_nil]; omega, fun hle => by simp only [List.length_nil] at hle; omega, fun _ => ?_⟩
    have hold : srd w0 G a (([] : List VtR).length * 6) = some [] := by unfold srd; rfl
    simp only [hold]
    intro c hc hc2 b hb hnb
    have gk : Grow w0 G (G.set b ⟨29, [] ++ (ns.map VtR.row).flatten ++ zeroL zero (c - (([] : List VtR).length + ns.length))⟩) := (Grow.refl G).set hb hnb
    have h := h (some ⟨b, 0, none⟩) c ([] ++ ns) _ rfl ⟨.inl ⟨b, zeroL zero (c - (([] : List VtR).length + ns.length)), rfl, hb, hg.none hnb, Heap.set_same _ _ _, ?_⟩, ?_, fun y hy => ⟨(hns y hy).1.grow gk, (hns y hy).2⟩⟩ (hg.trans gk) (fun d x e0 e => gk.some e)
    · rw [List.length_append] at h
      exact h
    · rw [zeroL_len, hz, List.nil_append, rows_flat]
      simp only [List.length_nil, Nat.zero_add] at hc ⊢
      rw [← Nat.add_mul]; congr 1; omega
    · simpa using hc
/- paintboxref21 Cut -/
def M25 : MC :=
  .seq (.reg [⟨(some 4), .mv (.const (.slice none 0 0)), none⟩])
  (.seq (.reg [⟨(some 5), .mv (.const (.slice none 0 0)), none⟩])
   (.seq (.seq (.reg [⟨(some 6), .mv (.const (.int .i64 0)), none⟩])
     (.block 0 (.loop (.seq (.seq (.reg [⟨(some 11), .mv (.tmp 6), none⟩,
            ⟨(some 12), .mv (.tmp 0), none⟩,
            ⟨(some 13), .len (.tmp 12), none⟩,
            ⟨(some 14), .bin .lss (.tmp 11) (.tmp 13), none⟩])
         (.cond (.tmp 14)
          (.skip)
          (.exit 0)))
        (.seq (.block 1 (.seq (.reg [⟨(some 17), .mv (.tmp 0), none⟩,
              ⟨(some 18), .mv (.tmp 6), none⟩,
              ⟨(some 19), .mv (.tmp 0), none⟩,
              ⟨(some 20), .len (.tmp 19), none⟩,
              ⟨(some 21), .bin .add (.tmp 18) (.tmp 20), none⟩,
              ⟨(some 22), .bin .sub (.tmp 21) (.const (.int .i64 1)), none⟩,
              ⟨(some 23), .mv (.tmp 0), none⟩,
              ⟨(some 24), .len (.tmp 23), none⟩,
              ⟨(some 25), .bin .rem (.tmp 22) (.tmp 24), none⟩,
              ⟨(some 26), .is 6 (.tmp 17) (.tmp 25), none⟩,
              ⟨(some 27), .ldn 6 (.tmp 26), none⟩,
              ⟨(some 7), .alloc 29 [(.int .i32 0), (.int .i32 0), (.int .i32 0), (.int .i32 0), (.int .i32 0), (.slice none 0 0)], none⟩,
              ⟨none, .stn 6 (.tmp 7) (.tmp 27), none⟩])
           (.seq (.reg [⟨(some 28), .mv (.tmp 0), none⟩,
               ⟨(some 29), .mv (.tmp 6), none⟩,
               ⟨(some 30), .is 6 (.tmp 28) (.tmp 29), none⟩,
               ⟨(some 31), .ldn 6 (.tmp 30), none⟩,
               ⟨(some 8), .alloc 29 [(.int .i32 0), (.int .i32 0), (.int .i32 0), (.int .i32 0), (.int .i32 0), (.slice none 0 0)], none⟩,
               ⟨none, .stn 6 (.tmp 8) (.tmp 31), none⟩])
            (.seq (.any [(true, true, ⟨(some 32), .ldn 6 (.tmp 7), none⟩),
                (true, true, ⟨(some 33), .mv (.tmp 1), none⟩),
                (true, true, ⟨(some 36), .ldn 6 (.tmp 8), none⟩),
                (true, true, ⟨(some 37), .mv (.tmp 1), none⟩),
                (false, true, ⟨(some 34), .call 20 [(.tmp 32), (.tmp 33)], none⟩),
                (true, true, ⟨(some 35), .bin .geq (.tmp 34) (.const (.int .i32 0)), none⟩),
                (false, true, ⟨(some 38), .call 20 [(.tmp 36), (.tmp 37)], none⟩),
                (true, true, ⟨(some 39), .bin .geq (.tmp 38) (.const (.int .i32 0)), none⟩),
                (false, true, ⟨(some 9), .mv (.tmp 35), none⟩),
                (false, false, ⟨(some 10), .mv (.tmp 39), none⟩)])
             (.seq (.seq (.reg [⟨(some 40), .mv (.tmp 9), none⟩,
                  ⟨(some 41), .mv (.tmp 40), none⟩,
                  ⟨(some 42), .mv (.tmp 10), (some (41, true))⟩,
                  ⟨(some 43), .un .not (.tmp 42), (some (41, true))⟩,
                  ⟨(some 44), .pick (.tmp 41) (.tmp 43) (.const (.bool false)), none⟩])
               (.cond (.tmp 44)
                (.reg [⟨(some 45), .mv (.tmp 5), none⟩,
                   ⟨(some 46), .ldn 6 (.tmp 7), none⟩,
                   ⟨(some 47), .ldn 6 (.tmp 8), none⟩,
                   ⟨(some 48), .mv (.tmp 1), none⟩,
                   ⟨(some 49), .call 42 [(.tmp 46), (.tmp 47), (.tmp 48)], none⟩,
                   ⟨(some 50), .bslice 29 1 [(.int .i32 0), (.int .i32 0), (.int .i32 0), (.int .i32 0), (.int .i32 0), (.slice none 0 0)] [(0, 6, (.tmp 49))], none⟩,
                   ⟨(some 51), .app 29 6 48 [(.int .i32 0), (.int .i32 0), (.int .i32 0), (.int .i32 0), (.int .i32 0), (.slice none 0 0)] (.tmp 45) (.tmp 50), none⟩,
                   ⟨(some 5), .mv (.tmp 51), none⟩])
                (.skip)))
              (.seq (.seq (.reg [⟨(some 52), .mv (.tmp 10), none⟩,
                   ⟨(some 53), .mv (.tmp 52), none⟩,
                   ⟨(some 54), .mv (.tmp 9), (some (53, true))⟩,
                   ⟨(some 55), .un .not (.tmp 54), (some (53, true))⟩,
                   ⟨(some 56), .pick (.tmp 53) (.tmp 55) (.const (.bool false)), none⟩])
                (.cond (.tmp 56)
                 (.reg [⟨(some 57), .mv (.tmp 5), none⟩,
                    ⟨(some 58), .ldn 6 (.tmp 8), none⟩,
                    ⟨(some 59), .ldn 6 (.tmp 7), none⟩,
                    ⟨(some 60), .mv (.tmp 1), none⟩,
                    ⟨(some 61), .call 42 [(.tmp 58), (.tmp 59), (.tmp 60)], none⟩,
                    ⟨(some 62), .bslice 29 1 [(.int .i32 0), (.int .i32 0), (.int .i32 0), (.int .i32 0), (.int .i32 0), (.slice none 0 0)] [(0, 6, (.tmp 61))], none⟩,
                    ⟨(some 63), .app 29 6 48 [(.int .i32 0), (.int .i32 0), (.int .i32 0), (.int .i32 0), (.int .i32 0), (.slice none 0 0)] (.tmp 57) (.tmp 62), none⟩,
                    ⟨(some 5), .mv (.tmp 63), none⟩])
                 (.skip)))
               (.seq (.reg [⟨(some 64), .mv (.tmp 10), none⟩])
                (.cond (.tmp 64)
                 (.reg [⟨(some 65), .mv (.tmp 5), none⟩,
                    ⟨(some 66), .ldn 6 (.tmp 8), none⟩,
                    ⟨(some 67), .bslice 29 1 [(.int .i32 0), (.int .i32 0), (.int .i32 0), (.int .i32 0), (.int .i32 0), (.slice none 0 0)] [(0, 6, (.tmp 66))], none⟩,
                    ⟨(some 68), .app 29 6 48 [(.int .i32 0), (.int .i32 0), (.int .i32 0), (.int .i32 0), (.int .i32 0), (.slice none 0 0)] (.tmp 65) (.tmp 67), none⟩,
                    ⟨(some 5), .mv (.tmp 68), none⟩])
                 (.skip)))))))))
         (.reg [⟨(some 15), .mv (.tmp 6), none⟩,
            ⟨(some 16), .bin .add (.tmp 15) (.const (.int .i64 1)), none⟩,
            ⟨(some 6), .mv (.tmp 16), none⟩]))))))
    (.seq (.reg [⟨(some 69), .mv (.tmp 5), none⟩,
        ⟨(some 4), .mv (.tmp 69), none⟩])
     (.ret))))
theorem k25 : fnOk Try.prog 25 = some (M25, [.t 4], 70) := by kernel_rfl

theorem r_Cut (a : Option Addr) (cap : Nat) (ls : List VtR) (n : Int) (hn : 0 ≤ n ∧ n ≤ 6) {mv : Nat} (hA : RowsOk w0 H a cap ls) (hal : Ali mv (ls.map VtR.toVt)) (hl : ls.length ≤ 1000000)
    (h : ∀ a' cap' os H', os.map VtR.toVt = cutA (ls.map VtR.toVt) n → RowsB w0 H H' a' cap' os → Grow w0 H H' → K (.slice a' os.length cap') H') :
    HCalls Try.prog w0 25 [.slice a ls.length cap, .int .i64 n] H K := by
  rcases Nat.eq_zero_or_pos ls.length with h0 | h0
  · have e1 : ls = [] := List.length_eq_zero_iff.1 h0
    subst e1
    have h := h none 0 [] H rfl RowsB.none (Grow.refl _)
    have e0 : IntKind.i64.wrap (-1) = -1 := rfl
    refine HL.hc k25 999 ?_; unfold M25
    (all_goals (refine (fun f : True → _ => f trivial) ?_)); repeat' ((first | (with_reducible refine fun _ : True => ?_) | (refine AllocQ_i ?_; intro bk hb0 hbk; (try simp only [set_none'] at hbk); (try (first | have hbn := Grow.none (by assumption) hbk | have hbn := Grow.none (by assumption) hbk.2 | have hbn := Grow.none (by assumption) hbk.2.2 | have hbn := Grow.none (by assumption) hbk.2.2.2 | have hbn := Grow.none (by assumption) hbk.2.2.2.2 | have hbn := Grow.none (by assumption) hbk.2.2.2.2.2)); (try simp only [set_none'] at hbn); (try (first | have hbm := Grow.none (by assumption) hbn | have hbm := Grow.none (by assumption) hbn.2 | have hbm := Grow.none (by assumption) hbn.2.2 | have hbm := Grow.none (by assumption) hbn.2.2.2 | have hbm := Grow.none (by assumption) hbn.2.2.2.2 | have hbm := Grow.none (by assumption) hbn.2.2.2.2.2)); (try simp only [set_none'] at hbm)) | ((first | refine condS_i ?_ ?_ | refine pick_i ?_ ?_ | refine gS_it ?_ ?_ | refine gS_if ?_ ?_ | refine gP_it ?_ ?_ | refine gP_if ?_ ?_) <;> (intro hc; try simp only [Int.reduceLE,Int.reduceLT,Int.reduceEq,and_self,not_true_eq_false,not_false_eq_true,and_true,true_and,false_and,and_false,true_or,or_true,false_or,or_false,decide_eq_true_eq,decide_eq_false_iff_not,beq_iff_eq,beq_eq_false_iff_ne,bne_iff_ne,ne_eq,gt_iff_lt,ge_iff_le,Bool.not_eq_true,Bool.not_eq_false,Bool.not_eq_true',Bool.not_eq_false',Bool.not_eq_eq_eq_not,Bool.not_true,Bool.not_false] at hc)) | (refine KP_i (by (repeat' (first | exact Heap.Le.refl _ | (refine Le_known (by first | (simp only [Heap.set_same, set_ne, ne_eq, not_false_eq_true, *] <;> rfl) | fail) ?_) | (refine Le_fresh (by first | (simp only [*] <;> done) | (simp [set_none', Heap.set_same, set_ne, *] <;> done) | fail) ?_) | (refine Heap.Le.trans ?_ (Grow.le (by assumption)))))) ?_) | (with_reducible refine loop_u ?_) | (with_reducible refine And.intro ?_ ?_)) <;> (try simp only [Sh,Si,Sl,Bu,Bb,Bd,Bc,Bw,Bn,Int.reduceAdd,Int.reduceSub,Int.reduceMul,Int.reduceTDiv,Int.reduceTMod,Int.reduceMod,Int.reduceDiv,Nat.reduceLT,Nat.reduceEqDiff,decide_true,decide_false,Sa,Sb,Sc,Sd,Se,Sf,Sg,true_and,and_true,and_self,eq_self,b_i64,b_i32,b_u64,b_u32,b_u8,Int.reduceLE,Int.reduceLT,Int.reduceToNat,Int.reduceNeg,Int.reduceEq,Nat.reduceLeDiff,Nat.reducePow,Int.reducePow,Nat.min_def,reduceIte,Nat.reduceSub,Nat.reduceAdd,Nat.reduceMul,KP_same,KP_f,condS_t,condS_f,pick_t,pick_f,gS_tt,gS_ff,gS_tf,gS_ft,gS_u,gP_tt,gP_ff,gP_tf,gP_ft,gP_u,ptrV_eq,slcV_eq,cells_agg,cells_int,cells_bool,cells_ptr,cells_slice,oc_int,oc_bool,oc_slice,oc_ptr,rd1_set,rd1_ne,rdn_set,rdn_ne,Heap.set_same,set_ne,Heap.set_set,set_up,set_up2,set_up3,putAt,ceq,List.map_cons,List.map_nil,List.length_cons,List.length_nil,List.length_set,List.cons_append,List.nil_append,List.append_nil,List.replicate,List.size_toArray,List.all_cons,List.all_nil,Bool.and_self,Bool.and_true,List.drop_zero,List.drop_succ_cons,List.take_succ_cons,List.take_zero,List.set_cons_zero,List.set_cons_succ,List.getElem?_cons_zero,List.getElem?_cons_succ,Option.map_some,Option.map_none,ne_eq,not_false_eq_true,not_true_eq_false,gt_iff_lt,ge_iff_le,Int.one_mul,Nat.zero_add,Nat.zero_mul,Bool.not_true,Bool.not_false,Bool.false_eq_true,Bool.and_false,Bool.false_and,Bool.true_and, *]))
    exact Fin_mk (by (repeat' (first | exact Heap.Le.refl _ | (refine Le_known (by first | (simp only [Heap.set_same, set_ne, ne_eq, not_false_eq_true, *] <;> rfl) | fail) ?_) | (refine Le_fresh (by first | (simp only [*] <;> done) | (simp [set_none', Heap.set_same, set_ne, *] <;> done) | fail) ?_) | (refine Heap.Le.trans ?_ (Grow.le (by assumption)))))) h
  · obtain ⟨x0, hx0⟩ : ∃ v, ls[ls.length - 1]? = some v := ⟨_, List.getElem?_eq_getElem (by omega)⟩
    rw [cutA_of hx0] at h
    obtain ⟨bl, ol, ea, -, hf⟩ := rows_vt hA hx0
    subst ea
    obtain ⟨m, em⟩ : ∃ m, ls.length = m := ⟨_, rfl⟩
    have hrow : ∀ (k : Nat) (y : VtR), ls[k]? = some y → rdn w0 H bl (ol + k * 6) 6 = some y.row := fun k y e => by
      obtain ⟨b', o', e', r, -⟩ := rows_vt hA e
      cases e'; exact r
    have hok := hA.ok
    clear hA
    rw [em] at hx0 hl h0 ⊢
    refine HL.hc k25 999 ?_; unfold M25
    (all_goals (refine (fun f : True → _ => f trivial) ?_)); repeat' ((first | (with_reducible refine fun _ : True => ?_) | (refine AllocQ_i ?_; intro bk hb0 hbk; (try simp only [set_none'] at hbk); (try (first | have hbn := Grow.none (by assumption) hbk | have hbn := Grow.none (by assumption) hbk.2 | have hbn := Grow.none (by assumption) hbk.2.2 | have hbn := Grow.none (by assumption) hbk.2.2.2 | have hbn := Grow.none (by assumption) hbk.2.2.2.2 | have hbn := Grow.none (by assumption) hbk.2.2.2.2.2)); (try simp only [set_none'] at hbn); (try (first | have hbm := Grow.none (by assumption) hbn | have hbm := Grow.none (by assumption) hbn.2 | have hbm := Grow.none (by assumption) hbn.2.2 | have hbm := Grow.none (by assumption) hbn.2.2.2 | have hbm := Grow.none (by assumption) hbn.2.2.2.2 | have hbm := Grow.none (by assumption) hbn.2.2.2.2.2)); (try simp only [set_none'] at hbm)) | ((first | refine condS_i ?_ ?_ | refine pick_i ?_ ?_ | refine gS_it ?_ ?_ | refine gS_if ?_ ?_ | refine gP_it ?_ ?_ | refine gP_if ?_ ?_) <;> (intro hc; try simp only [Int.reduceLE,Int.reduceLT,Int.reduceEq,and_self,not_true_eq_false,not_false_eq_true,and_true,true_and,false_and,and_false,true_or,or_true,false_or,or_false,decide_eq_true_eq,decide_eq_false_iff_not,beq_iff_eq,beq_eq_false_iff_ne,bne_iff_ne,ne_eq,gt_iff_lt,ge_iff_le,Bool.not_eq_true,Bool.not_eq_false,Bool.not_eq_true',Bool.not_eq_false',Bool.not_eq_eq_eq_not,Bool.not_true,Bool.not_false] at hc)) | (refine KP_i (by (repeat' (first | exact Heap.Le.refl _ | (refine Le_known (by first | (simp only [Heap.set_same, set_ne, ne_eq, not_false_eq_true, *] <;> rfl) | fail) ?_) | (refine Le_fresh (by first | (simp only [*] <;> done) | (simp [set_none', Heap.set_same, set_ne, *] <;> done) | fail) ?_) | (refine Heap.Le.trans ?_ (Grow.le (by assumption)))))) ?_) | (with_reducible refine And.intro ?_ ?_)) <;> (try simp only [Sh,Si,Sl,Bu,Bb,Bd,Bc,Bw,Bn,Int.reduceAdd,Int.reduceSub,Int.reduceMul,Int.reduceTDiv,Int.reduceTMod,Int.reduceMod,Int.reduceDiv,Nat.reduceLT,Nat.reduceEqDiff,decide_true,decide_false,Sa,Sb,Sc,Sd,Se,Sf,Sg,true_and,and_true,and_self,eq_self,b_i64,b_i32,b_u64,b_u32,b_u8,Int.reduceLE,Int.reduceLT,Int.reduceToNat,Int.reduceNeg,Int.reduceEq,Nat.reduceLeDiff,Nat.reducePow,Int.reducePow,Nat.min_def,reduceIte,Nat.reduceSub,Nat.reduceAdd,Nat.reduceMul,KP_same,KP_f,condS_t,condS_f,pick_t,pick_f,gS_tt,gS_ff,gS_tf,gS_ft,gS_u,gP_tt,gP_ff,gP_tf,gP_ft,gP_u,ptrV_eq,slcV_eq,cells_agg,cells_int,cells_bool,cells_ptr,cells_slice,oc_int,oc_bool,oc_slice,oc_ptr,rd1_set,rd1_ne,rdn_set,rdn_ne,Heap.set_same,set_ne,Heap.set_set,set_up,set_up2,set_up3,putAt,ceq,List.map_cons,List.map_nil,List.length_cons,List.length_nil,List.length_set,List.cons_append,List.nil_append,List.append_nil,List.replicate,List.size_toArray,List.all_cons,List.all_nil,Bool.and_self,Bool.and_true,List.drop_zero,List.drop_succ_cons,List.take_succ_cons,List.take_zero,List.set_cons_zero,List.set_cons_succ,List.getElem?_cons_zero,List.getElem?_cons_succ,Option.map_some,Option.map_none,ne_eq,not_false_eq_true,not_true_eq_false,gt_iff_lt,ge_iff_le,Int.one_mul,Nat.zero_add,Nat.zero_mul,Bool.not_true,Bool.not_false,Bool.false_eq_true,Bool.and_false,Bool.false_and,Bool.true_and, *]))
    refine loop_g 11 (fun s : (Nat × Value × Value × Value × Value × Option Addr × Nat × List VtR) × Heap => [(5, .slice s.1.2.2.2.2.2.1 s.1.2.2.2.2.2.2.2.length s.1.2.2.2.2.2.2.1), (6, .int .i64 (s.1.1 : Nat)), (7, s.1.2.1), (8, s.1.2.2.1), (9, s.1.2.2.2.1), (10, s.1.2.2.2.2.1)]) (fun s => s.2)
      (fun s => s.1.1 ≤ m ∧ Grow w0 H s.2 ∧ RowsB w0 H s.2 s.1.2.2.2.2.2.1 s.1.2.2.2.2.2.2.1 s.1.2.2.2.2.2.2.2 ∧ s.1.2.2.2.2.2.2.2.map VtR.toVt = cutF n x0.toVt ((ls.map VtR.toVt).take s.1.1))
      (fun s => m - s.1.1) ((0, undef, undef, undef, undef, none, 0, []), H) ⟨Nat.zero_le _, Grow.refl _, RowsB.none, rfl⟩ (Heap.Le.refl _) rfl ?_
    rintro ⟨⟨k, u7, u8, u9, u10, a', cap', os⟩, G⟩ g ⟨hk, hG, hB, hos⟩
    simp only at hk hG hB hos
    show run _ _ _ _ _ _ G
    rcases Nat.lt_or_ge k m with hlt | hge
    · obtain ⟨j, hj, hkj⟩ : ∃ j, j < m ∧ ((k = 0 ∧ j = m - 1) ∨ k = j + 1) := by
        rcases Nat.eq_zero_or_pos k with h' | h'
        · exact ⟨m - 1, by omega, .inl ⟨h', rfl⟩⟩
        · exact ⟨k - 1, by omega, .inr (by omega)⟩
      have w2 : IntKind.i64.wrap ((k : Int) + (m : Int)) = (k : Int) + (m : Int) := Bw.1 _ (by omega) (by omega)
      have w3 : IntKind.i64.wrap ((k : Int) + (m : Int) - 1) = (k : Int) + (m : Int) - 1 := Bw.1 _ (by omega) (by omega)
      have w4 : ((k : Int) + (m : Int) - 1).tmod (m : Int) = (j : Int) := by
        rw [Int.tmod_eq_emod_of_nonneg (by omega)]
        rcases hkj with ⟨h1, h2⟩ | h1
        · rw [Int.emod_eq_of_lt (by omega) (by omega)]; omega
        · rw [show (k : Int) + (m : Int) - 1 = (j : Int) + (m : Int) by omega, Int.add_emod_right, Int.emod_eq_of_lt (by omega) (by omega)]
      have w5 : IntKind.i64.wrap (j : Int) = (j : Int) := Bw.1 _ (by omega) (by omega)
      have w6 : ¬ (m : Int) = 0 := by omega
      obtain ⟨y, ey⟩ : ∃ v, ls[k]? = some v := ⟨_, List.getElem?_eq_getElem (by omega)⟩
      obtain ⟨x, ex⟩ : ∃ v, ls[j]? = some v := ⟨_, List.getElem?_eq_getElem (by omega)⟩
      have r1 := hG.rdn (hrow k y ey) (by decide)
      have r2 := hG.rdn (hrow j x ex) (by decide)
      have hyo : ∀ F, VsAt w0 H F y.a y.cap y.l := fun F => (hok y (List.mem_of_getElem? ey)).vs.old
      have hx := (hok x (List.mem_of_getElem? ex)).grow hG
      have hy := (hok y (List.mem_of_getElem? ey)).grow hG
      have lx := hal.2 x.toVt (List.mem_map.2 ⟨x, List.mem_of_getElem? ex, rfl⟩)
      have ly := hal.2 y.toVt (List.mem_map.2 ⟨y, List.mem_of_getElem? ey, rfl⟩)
      have hstep := cutF_take (n := n) (ls.map VtR.toVt) x0.toVt k x.toVt y.toVt (cut_prev (by rw [em]; exact hx0) ex (by rw [em]; exact hkj)) (by rw [List.getElem?_map, ey]; rfl)
      have hol : os.length ≤ 2 * m := by
        have := cutF_le (n := n) ((ls.map VtR.toVt).take k) x0.toVt
        rw [← hos, List.length_map, List.length_take, List.length_map, em] at this
        omega
      have t0 : (k : Int) < (m : Int) := by omega
      have t1 : (j : Int) < (m : Int) := by omega
      have t6 : IntKind.i64.wrap ((k : Int) + 1) = (k : Int) + 1 := Bw.1 _ (by omega) (by omega)
      have d1 : ∀ (G : Heap) (K : Value → Heap → Prop), K (.int .i32 (dist x.p n)) G → HCalls Try.prog w0 20 [x.v, .int .i64 n] G K := fun G K hk => r_Distance x n hn hx.p hk
      have d2 : ∀ (G : Heap) (K : Value → Heap → Prop), K (.int .i32 (dist y.p n)) G → HCalls Try.prog w0 20 [y.v, .int .i64 n] G K := fun G K hk => r_Distance y n hn hy.p hk
      have bt1 : ∀ (F : Heap) (K : Value → Heap → Prop), Grow w0 G F → (∀ a' cap' H', VsNew w0 F H' a' cap' (betw x.toVt y.toVt n).l → Grow w0 F H' → K (VtR.mk (betw x.toVt y.toVt n) a' cap').v H') → HCalls Try.prog w0 42 [x.v, y.v, .int .i64 n] F K := fun F K g hk =>
        r_Between x y n hn (hx.grow g) (hy.grow g) (ly.trans lx.symm) (by have := hal.1; omega) fun a' cap' H' hn hg => by
          have := hk a' cap' H' hn hg
          unfold VtR.v at this
          rw [betw_len (m := x.l.length) rfl (ly.trans lx.symm)] at this
          exact this
      have bt2 : ∀ (F : Heap) (K : Value → Heap → Prop), Grow w0 G F → (∀ a' cap' H', VsNew w0 F H' a' cap' (betw y.toVt x.toVt n).l → Grow w0 F H' → K (VtR.mk (betw y.toVt x.toVt n) a' cap').v H') → HCalls Try.prog w0 42 [y.v, x.v, .int .i64 n] F K := fun F K g hk =>
        r_Between y x n hn (hy.grow g) (hx.grow g) (lx.trans ly.symm) (by have := hal.1; omega) fun a' cap' H' hn hg => by
          have := hk a' cap' H' hn hg
          unfold VtR.v at this
          rw [betw_len (m := y.l.length) rfl (lx.trans ly.symm)] at this
          exact this
      unfold VtR.v at d1 d2 bt1 bt2
      have hyp := hy.p
      have hys := hy.s
      unfold VtR.row at r1 r2
      clear hrow hok lx ly
      (all_goals (refine (fun f : True → _ => f trivial) ?_)); repeat' ((first | (with_reducible refine fun _ : True => ?_) | refine d1 _ _ ?_ | refine d2 _ _ ?_ | refine bt1 _ _ (by (repeat' (first | exact Grow.refl _ | assumption | (refine Grow_known (by first | (simp only [Heap.set_same, set_ne, ne_eq, not_false_eq_true, *] <;> rfl) | fail) ?_) | (refine Grow.set ?_ (by assumption) (by first | (simp only [*] <;> done) | (simp [set_none', Heap.set_same, set_ne, *] <;> done) | fail)) | (refine Grow.trans ?_ (by assumption))))) (fun a2 c2 G2 hn2 hg2 => ?_)  | refine bt2 _ _ (by (repeat' (first | exact Grow.refl _ | assumption | (refine Grow_known (by first | (simp only [Heap.set_same, set_ne, ne_eq, not_false_eq_true, *] <;> rfl) | fail) ?_) | (refine Grow.set ?_ (by assumption) (by first | (simp only [*] <;> done) | (simp [set_none', Heap.set_same, set_ne, *] <;> done) | fail)) | (refine Grow.trans ?_ (by assumption))))) (fun a2 c2 G2 hn2 hg2 => ?_)  | (refine AllocQ_i ?_; intro bk hb0 hbk; (try simp only [set_none'] at hbk); (try (first | have hbn := Grow.none (by assumption) hbk | have hbn := Grow.none (by assumption) hbk.2 | have hbn := Grow.none (by assumption) hbk.2.2 | have hbn := Grow.none (by assumption) hbk.2.2.2 | have hbn := Grow.none (by assumption) hbk.2.2.2.2 | have hbn := Grow.none (by assumption) hbk.2.2.2.2.2)); (try simp only [set_none'] at hbn); (try (first | have hbm := Grow.none (by assumption) hbn | have hbm := Grow.none (by assumption) hbn.2 | have hbm := Grow.none (by assumption) hbn.2.2 | have hbm := Grow.none (by assumption) hbn.2.2.2 | have hbm := Grow.none (by assumption) hbn.2.2.2.2 | have hbm := Grow.none (by assumption) hbn.2.2.2.2.2)); (try simp only [set_none'] at hbm)) | ((first | refine condS_i ?_ ?_ | refine pick_i ?_ ?_ | refine gS_it ?_ ?_ | refine gS_if ?_ ?_ | refine gP_it ?_ ?_ | refine gP_if ?_ ?_) <;> (intro hc; try simp only [Int.reduceLE,Int.reduceLT,Int.reduceEq,and_self,not_true_eq_false,not_false_eq_true,and_true,true_and,false_and,and_false,true_or,or_true,false_or,or_false,decide_eq_true_eq,decide_eq_false_iff_not,beq_iff_eq,beq_eq_false_iff_ne,bne_iff_ne,ne_eq,gt_iff_lt,ge_iff_le,Bool.not_eq_true,Bool.not_eq_false,Bool.not_eq_true',Bool.not_eq_false',Bool.not_eq_eq_eq_not,Bool.not_true,Bool.not_false] at hc)) | (refine KP_i (by (repeat' (first | exact Heap.Le.refl _ | (refine Le_known (by first | (simp only [Heap.set_same, set_ne, ne_eq, not_false_eq_true, *] <;> rfl) | fail) ?_) | (refine Le_fresh (by first | (simp only [*] <;> done) | (simp [set_none', Heap.set_same, set_ne, *] <;> done) | fail) ?_) | (refine Heap.Le.trans ?_ (Grow.le (by assumption)))))) ?_) | (with_reducible refine And.intro ?_ ?_)) <;> (try simp only [Sh,Si,Sl,Bu,Bb,Bd,Bc,Bw,Bn,Int.reduceAdd,Int.reduceSub,Int.reduceMul,Int.reduceTDiv,Int.reduceTMod,Int.reduceMod,Int.reduceDiv,Nat.reduceLT,Nat.reduceEqDiff,decide_true,decide_false,Sa,Sb,Sc,Sd,Se,Sf,Sg,true_and,and_true,and_self,eq_self,b_i64,b_i32,b_u64,b_u32,b_u8,Int.reduceLE,Int.reduceLT,Int.reduceToNat,Int.reduceNeg,Int.reduceEq,Nat.reduceLeDiff,Nat.reducePow,Int.reducePow,Nat.min_def,reduceIte,Nat.reduceSub,Nat.reduceAdd,Nat.reduceMul,KP_same,KP_f,condS_t,condS_f,pick_t,pick_f,gS_tt,gS_ff,gS_tf,gS_ft,gS_u,gP_tt,gP_ff,gP_tf,gP_ft,gP_u,ptrV_eq,slcV_eq,cells_agg,cells_int,cells_bool,cells_ptr,cells_slice,oc_int,oc_bool,oc_slice,oc_ptr,rd1_set,rd1_ne,rdn_set,rdn_ne,Heap.set_same,set_ne,Heap.set_set,set_up,set_up2,set_up3,putAt,ceq,List.map_cons,List.map_nil,List.length_cons,List.length_nil,List.length_set,List.cons_append,List.nil_append,List.append_nil,List.replicate,List.size_toArray,List.all_cons,List.all_nil,Bool.and_self,Bool.and_true,List.drop_zero,List.drop_succ_cons,List.take_succ_cons,List.take_zero,List.set_cons_zero,List.set_cons_succ,List.getElem?_cons_zero,List.getElem?_cons_succ,Option.map_some,Option.map_none,ne_eq,not_false_eq_true,not_true_eq_false,gt_iff_lt,ge_iff_le,Int.one_mul,Nat.zero_add,Nat.zero_mul,Bool.not_true,Bool.not_false,Bool.false_eq_true,Bool.and_false,Bool.false_and,Bool.true_and, *]))
      · rename_i hc1
        have gg := Grow.trans (H := G) (by (repeat' (first | exact Grow.refl _ | assumption | (refine Grow_known (by first | (simp only [Heap.set_same, set_ne, ne_eq, not_false_eq_true, *] <;> rfl) | fail) ?_) | (refine Grow.set ?_ (by assumption) (by first | (simp only [*] <;> done) | (simp [set_none', Heap.set_same, set_ne, *] <;> done) | fail)) | (refine Grow.trans ?_ (by assumption))))) hg2
        have gF := hG.trans gg
        have gb := (Grow.refl (w0 := w0) G2).set (x := ⟨29, (VtR.mk (betw x.toVt y.toVt n) a2 c2).row⟩) hb0 hbk
        refine app_rows (ns := [VtR.mk (betw x.toVt y.toVt n) a2 c2]) (hB.grow (gg.trans gb)) rfl (srd_blk (by simp only [Heap.set_same, set_ne, ne_eq, not_false_eq_true, *] <;> rfl) rfl) (fun z hz => ?_) (gF.trans gb) (by simp; omega) (fun a3 c3 os3 G3 e3 hB3 hG3 => ?_)
        · rw [List.mem_singleton.1 hz]
          exact ⟨VsAt.base hn2 (hG.trans (by (repeat' (first | exact Grow.refl _ | assumption | (refine Grow_known (by first | (simp only [Heap.set_same, set_ne, ne_eq, not_false_eq_true, *] <;> rfl) | fail) ?_) | (refine Grow.set ?_ (by assumption) (by first | (simp only [*] <;> done) | (simp [set_none', Heap.set_same, set_ne, *] <;> done) | fail)) | (refine Grow.trans ?_ (by assumption)))))) (KeepT.of gb), bvec_V32 _ _ _, betw_s_I32 _ _ _⟩
        · have hos3 : os3.map VtR.toVt = cutF n x0.toVt ((ls.map VtR.toVt).take (k + 1)) := by
            rw [e3, hstep, List.map_append, hos]
            simp [piece, hc1, hc]
          clear h hB hos hstep bt1 bt2 d1 d2 e3 hn2
          (all_goals (refine (fun f : True → _ => f trivial) ?_)); repeat' ((first | (with_reducible refine fun _ : True => ?_) | (refine AllocQ_i ?_; intro bk hb0 hbk; (try simp only [set_none'] at hbk); (try (first | have hbn := Grow.none (by assumption) hbk | have hbn := Grow.none (by assumption) hbk.2 | have hbn := Grow.none (by assumption) hbk.2.2 | have hbn := Grow.none (by assumption) hbk.2.2.2 | have hbn := Grow.none (by assumption) hbk.2.2.2.2 | have hbn := Grow.none (by assumption) hbk.2.2.2.2.2)); (try simp only [set_none'] at hbn); (try (first | have hbm := Grow.none (by assumption) hbn | have hbm := Grow.none (by assumption) hbn.2 | have hbm := Grow.none (by assumption) hbn.2.2 | have hbm := Grow.none (by assumption) hbn.2.2.2 | have hbm := Grow.none (by assumption) hbn.2.2.2.2 | have hbm := Grow.none (by assumption) hbn.2.2.2.2.2)); (try simp only [set_none'] at hbm)) | ((first | refine condS_i ?_ ?_ | refine pick_i ?_ ?_ | refine gS_it ?_ ?_ | refine gS_if ?_ ?_ | refine gP_it ?_ ?_ | refine gP_if ?_ ?_) <;> (intro hc; try simp only [Int.reduceLE,Int.reduceLT,Int.reduceEq,and_self,not_true_eq_false,not_false_eq_true,and_true,true_and,false_and,and_false,true_or,or_true,false_or,or_false,decide_eq_true_eq,decide_eq_false_iff_not,beq_iff_eq,beq_eq_false_iff_ne,bne_iff_ne,ne_eq,gt_iff_lt,ge_iff_le,Bool.not_eq_true,Bool.not_eq_false,Bool.not_eq_true',Bool.not_eq_false',Bool.not_eq_eq_eq_not,Bool.not_true,Bool.not_false] at hc)) | (refine KP_i (by (repeat' (first | exact Heap.Le.refl _ | (refine Le_known (by first | (simp only [Heap.set_same, set_ne, ne_eq, not_false_eq_true, *] <;> rfl) | fail) ?_) | (refine Le_fresh (by first | (simp only [*] <;> done) | (simp [set_none', Heap.set_same, set_ne, *] <;> done) | fail) ?_) | (refine Heap.Le.trans ?_ (Grow.le (by assumption)))))) ?_) | (with_reducible refine And.intro ?_ ?_)) <;> (try simp only [Sh,Si,Sl,Bu,Bb,Bd,Bc,Bw,Bn,Int.reduceAdd,Int.reduceSub,Int.reduceMul,Int.reduceTDiv,Int.reduceTMod,Int.reduceMod,Int.reduceDiv,Nat.reduceLT,Nat.reduceEqDiff,decide_true,decide_false,Sa,Sb,Sc,Sd,Se,Sf,Sg,true_and,and_true,and_self,eq_self,b_i64,b_i32,b_u64,b_u32,b_u8,Int.reduceLE,Int.reduceLT,Int.reduceToNat,Int.reduceNeg,Int.reduceEq,Nat.reduceLeDiff,Nat.reducePow,Int.reducePow,Nat.min_def,reduceIte,Nat.reduceSub,Nat.reduceAdd,Nat.reduceMul,KP_same,KP_f,condS_t,condS_f,pick_t,pick_f,gS_tt,gS_ff,gS_tf,gS_ft,gS_u,gP_tt,gP_ff,gP_tf,gP_ft,gP_u,ptrV_eq,slcV_eq,cells_agg,cells_int,cells_bool,cells_ptr,cells_slice,oc_int,oc_bool,oc_slice,oc_ptr,rd1_set,rd1_ne,rdn_set,rdn_ne,Heap.set_same,set_ne,Heap.set_set,set_up,set_up2,set_up3,putAt,ceq,List.map_cons,List.map_nil,List.length_cons,List.length_nil,List.length_set,List.cons_append,List.nil_append,List.append_nil,List.replicate,List.size_toArray,List.all_cons,List.all_nil,Bool.and_self,Bool.and_true,List.drop_zero,List.drop_succ_cons,List.take_succ_cons,List.take_zero,List.set_cons_zero,List.set_cons_succ,List.getElem?_cons_zero,List.getElem?_cons_succ,Option.map_some,Option.map_none,ne_eq,not_false_eq_true,not_true_eq_false,gt_iff_lt,ge_iff_le,Int.one_mul,Nat.zero_add,Nat.zero_mul,Bool.not_true,Bool.not_false,Bool.false_eq_true,Bool.and_false,Bool.false_and,Bool.true_and, *]))
          exact Round_p (k + 1, _, _, _, _, a3, c3, os3) ⟨hlt, hG3, hB3, hos3⟩ (by simp only; omega) rfl rfl
      · rename_i hc1
        have hB1 := hB.grow (G' := _) ((by (repeat' (first | exact Grow.refl _ | assumption | (refine Grow_known (by first | (simp only [Heap.set_same, set_ne, ne_eq, not_false_eq_true, *] <;> rfl) | fail) ?_) | (refine Grow.set ?_ (by assumption) (by first | (simp only [*] <;> done) | (simp [set_none', Heap.set_same, set_ne, *] <;> done) | fail)) | (refine Grow.trans ?_ (by assumption))))) : Grow w0 G _)
        refine app_rows (ns := [y]) (hB.grow (by (repeat' (first | exact Grow.refl _ | assumption | (refine Grow_known (by first | (simp only [Heap.set_same, set_ne, ne_eq, not_false_eq_true, *] <;> rfl) | fail) ?_) | (refine Grow.set ?_ (by assumption) (by first | (simp only [*] <;> done) | (simp [set_none', Heap.set_same, set_ne, *] <;> done) | fail)) | (refine Grow.trans ?_ (by assumption)))))) rfl (srd_blk (by simp only [Heap.set_same, set_ne, ne_eq, not_false_eq_true, *] <;> rfl) rfl) (fun z hz => ?_) (hG.trans (by (repeat' (first | exact Grow.refl _ | assumption | (refine Grow_known (by first | (simp only [Heap.set_same, set_ne, ne_eq, not_false_eq_true, *] <;> rfl) | fail) ?_) | (refine Grow.set ?_ (by assumption) (by first | (simp only [*] <;> done) | (simp [set_none', Heap.set_same, set_ne, *] <;> done) | fail)) | (refine Grow.trans ?_ (by assumption)))))) (by simp; omega) (fun a3 c3 os3 G3 e3 hB3 hG3 => ?_)
        · rw [List.mem_singleton.1 hz]
          exact ⟨hyo _, hyp, hys⟩
        · have hos3 : os3.map VtR.toVt = cutF n x0.toVt ((ls.map VtR.toVt).take (k + 1)) := by
            rw [e3, hstep, List.map_append, hos]
            simp [piece, hc1, hc]
          clear h hB hos hstep bt1 bt2 d1 d2 e3
          (all_goals (refine (fun f : True → _ => f trivial) ?_)); repeat' ((first | (with_reducible refine fun _ : True => ?_) | (refine AllocQ_i ?_; intro bk hb0 hbk; (try simp only [set_none'] at hbk); (try (first | have hbn := Grow.none (by assumption) hbk | have hbn := Grow.none (by assumption) hbk.2 | have hbn := Grow.none (by assumption) hbk.2.2 | have hbn := Grow.none (by assumption) hbk.2.2.2 | have hbn := Grow.none (by assumption) hbk.2.2.2.2 | have hbn := Grow.none (by assumption) hbk.2.2.2.2.2)); (try simp only [set_none'] at hbn); (try (first | have hbm := Grow.none (by assumption) hbn | have hbm := Grow.none (by assumption) hbn.2 | have hbm := Grow.none (by assumption) hbn.2.2 | have hbm := Grow.none (by assumption) hbn.2.2.2 | have hbm := Grow.none (by assumption) hbn.2.2.2.2 | have hbm := Grow.none (by assumption) hbn.2.2.2.2.2)); (try simp only [set_none'] at hbm)) | ((first | refine condS_i ?_ ?_ | refine pick_i ?_ ?_ | refine gS_it ?_ ?_ | refine gS_if ?_ ?_ | refine gP_it ?_ ?_ | refine gP_if ?_ ?_) <;> (intro hc; try simp only [Int.reduceLE,Int.reduceLT,Int.reduceEq,and_self,not_true_eq_false,not_false_eq_true,and_true,true_and,false_and,and_false,true_or,or_true,false_or,or_false,decide_eq_true_eq,decide_eq_false_iff_not,beq_iff_eq,beq_eq_false_iff_ne,bne_iff_ne,ne_eq,gt_iff_lt,ge_iff_le,Bool.not_eq_true,Bool.not_eq_false,Bool.not_eq_true',Bool.not_eq_false',Bool.not_eq_eq_eq_not,Bool.not_true,Bool.not_false] at hc)) | (refine KP_i (by (repeat' (first | exact Heap.Le.refl _ | (refine Le_known (by first | (simp only [Heap.set_same, set_ne, ne_eq, not_false_eq_true, *] <;> rfl) | fail) ?_) | (refine Le_fresh (by first | (simp only [*] <;> done) | (simp [set_none', Heap.set_same, set_ne, *] <;> done) | fail) ?_) | (refine Heap.Le.trans ?_ (Grow.le (by assumption)))))) ?_) | (with_reducible refine And.intro ?_ ?_)) <;> (try simp only [Sh,Si,Sl,Bu,Bb,Bd,Bc,Bw,Bn,Int.reduceAdd,Int.reduceSub,Int.reduceMul,Int.reduceTDiv,Int.reduceTMod,Int.reduceMod,Int.reduceDiv,Nat.reduceLT,Nat.reduceEqDiff,decide_true,decide_false,Sa,Sb,Sc,Sd,Se,Sf,Sg,true_and,and_true,and_self,eq_self,b_i64,b_i32,b_u64,b_u32,b_u8,Int.reduceLE,Int.reduceLT,Int.reduceToNat,Int.reduceNeg,Int.reduceEq,Nat.reduceLeDiff,Nat.reducePow,Int.reducePow,Nat.min_def,reduceIte,Nat.reduceSub,Nat.reduceAdd,Nat.reduceMul,KP_same,KP_f,condS_t,condS_f,pick_t,pick_f,gS_tt,gS_ff,gS_tf,gS_ft,gS_u,gP_tt,gP_ff,gP_tf,gP_ft,gP_u,ptrV_eq,slcV_eq,cells_agg,cells_int,cells_bool,cells_ptr,cells_slice,oc_int,oc_bool,oc_slice,oc_ptr,rd1_set,rd1_ne,rdn_set,rdn_ne,Heap.set_same,set_ne,Heap.set_set,set_up,set_up2,set_up3,putAt,ceq,List.map_cons,List.map_nil,List.length_cons,List.length_nil,List.length_set,List.cons_append,List.nil_append,List.append_nil,List.replicate,List.size_toArray,List.all_cons,List.all_nil,Bool.and_self,Bool.and_true,List.drop_zero,List.drop_succ_cons,List.take_succ_cons,List.take_zero,List.set_cons_zero,List.set_cons_succ,List.getElem?_cons_zero,List.getElem?_cons_succ,Option.map_some,Option.map_none,ne_eq,not_false_eq_true,not_true_eq_false,gt_iff_lt,ge_iff_le,Int.one_mul,Nat.zero_add,Nat.zero_mul,Bool.not_true,Bool.not_false,Bool.false_eq_true,Bool.and_false,Bool.false_and,Bool.true_and, *]))
          exact Round_p (k + 1, _, _, _, _, a3, c3, os3) ⟨hlt, hG3, hB3, hos3⟩ (by simp only; omega) rfl rfl
      · rename_i b7 p7 q7 b8 p8 q8 _ hc1
        have gg := Grow.trans (H := G) (by (repeat' (first | exact Grow.refl _ | assumption | (refine Grow_known (by first | (simp only [Heap.set_same, set_ne, ne_eq, not_false_eq_true, *] <;> rfl) | fail) ?_) | (refine Grow.set ?_ (by assumption) (by first | (simp only [*] <;> done) | (simp [set_none', Heap.set_same, set_ne, *] <;> done) | fail)) | (refine Grow.trans ?_ (by assumption))))) hg2
        have gF := hG.trans gg
        have k8 := hg2.some (b := b8) (by simp only [Heap.set_same, set_ne, ne_eq, not_false_eq_true, *] <;> rfl)
        have gb := (Grow.refl (w0 := w0) G2).set (x := ⟨29, (VtR.mk (betw y.toVt x.toVt n) a2 c2).row⟩) hb0 hbk
        refine app_rows2 (ns := [VtR.mk (betw y.toVt x.toVt n) a2 c2]) hB (gg.trans gb) rfl (srd_blk (by simp only [Heap.set_same, set_ne, ne_eq, not_false_eq_true, *] <;> rfl) rfl) (by simp) (fun z hz => ?_) (gF.trans gb) (by simp; omega) (fun a3 c3 os3 G3 e3 hB3 hG3 hk3 => ?_)
        · rw [List.mem_singleton.1 hz]
          exact ⟨VsAt.base hn2 (hG.trans (by (repeat' (first | exact Grow.refl _ | assumption | (refine Grow_known (by first | (simp only [Heap.set_same, set_ne, ne_eq, not_false_eq_true, *] <;> rfl) | fail) ?_) | (refine Grow.set ?_ (by assumption) (by first | (simp only [*] <;> done) | (simp [set_none', Heap.set_same, set_ne, *] <;> done) | fail)) | (refine Grow.trans ?_ (by assumption)))))) (KeepT.of gb), bvec_V32 _ _ _, betw_s_I32 _ _ _⟩
        · have k8 := hk3 b8 _ q8.2 (gb.some k8)
          have hl3 : os3.length ≤ 2 * m + 1 := by rw [e3]; simp; omega
          have hos3 : os3.map VtR.toVt = os.map VtR.toVt ++ [betw y.toVt x.toVt n] := by rw [e3, List.map_append]; rfl
          clear hB h bt1 bt2 d1 d2 hn2 e3 hk3 gb gF gg hg2
          rw [root1 k8]
          (all_goals (refine (fun f : True → _ => f trivial) ?_)); repeat' ((first | (with_reducible refine fun _ : True => ?_) | (refine AllocQ_i ?_; intro bk hb0 hbk; (try simp only [set_none'] at hbk); (try (first | have hbn := Grow.none (by assumption) hbk | have hbn := Grow.none (by assumption) hbk.2 | have hbn := Grow.none (by assumption) hbk.2.2 | have hbn := Grow.none (by assumption) hbk.2.2.2 | have hbn := Grow.none (by assumption) hbk.2.2.2.2 | have hbn := Grow.none (by assumption) hbk.2.2.2.2.2)); (try simp only [set_none'] at hbn); (try (first | have hbm := Grow.none (by assumption) hbn | have hbm := Grow.none (by assumption) hbn.2 | have hbm := Grow.none (by assumption) hbn.2.2 | have hbm := Grow.none (by assumption) hbn.2.2.2 | have hbm := Grow.none (by assumption) hbn.2.2.2.2 | have hbm := Grow.none (by assumption) hbn.2.2.2.2.2)); (try simp only [set_none'] at hbm)) | ((first | refine condS_i ?_ ?_ | refine pick_i ?_ ?_ | refine gS_it ?_ ?_ | refine gS_if ?_ ?_ | refine gP_it ?_ ?_ | refine gP_if ?_ ?_) <;> (intro hc; try simp only [Int.reduceLE,Int.reduceLT,Int.reduceEq,and_self,not_true_eq_false,not_false_eq_true,and_true,true_and,false_and,and_false,true_or,or_true,false_or,or_false,decide_eq_true_eq,decide_eq_false_iff_not,beq_iff_eq,beq_eq_false_iff_ne,bne_iff_ne,ne_eq,gt_iff_lt,ge_iff_le,Bool.not_eq_true,Bool.not_eq_false,Bool.not_eq_true',Bool.not_eq_false',Bool.not_eq_eq_eq_not,Bool.not_true,Bool.not_false] at hc)) | (refine KP_i (by (repeat' (first | exact Heap.Le.refl _ | (refine Le_known (by first | (simp only [Heap.set_same, set_ne, ne_eq, not_false_eq_true, *] <;> rfl) | fail) ?_) | (refine Le_fresh (by first | (simp only [*] <;> done) | (simp [set_none', Heap.set_same, set_ne, *] <;> done) | fail) ?_) | (refine Heap.Le.trans ?_ (Grow.le (by assumption)))))) ?_) | (with_reducible refine And.intro ?_ ?_)) <;> (try simp only [Sh,Si,Sl,Bu,Bb,Bd,Bc,Bw,Bn,Int.reduceAdd,Int.reduceSub,Int.reduceMul,Int.reduceTDiv,Int.reduceTMod,Int.reduceMod,Int.reduceDiv,Nat.reduceLT,Nat.reduceEqDiff,decide_true,decide_false,Sa,Sb,Sc,Sd,Se,Sf,Sg,true_and,and_true,and_self,eq_self,b_i64,b_i32,b_u64,b_u32,b_u8,Int.reduceLE,Int.reduceLT,Int.reduceToNat,Int.reduceNeg,Int.reduceEq,Nat.reduceLeDiff,Nat.reducePow,Int.reducePow,Nat.min_def,reduceIte,Nat.reduceSub,Nat.reduceAdd,Nat.reduceMul,KP_same,KP_f,condS_t,condS_f,pick_t,pick_f,gS_tt,gS_ff,gS_tf,gS_ft,gS_u,gP_tt,gP_ff,gP_tf,gP_ft,gP_u,ptrV_eq,slcV_eq,cells_agg,cells_int,cells_bool,cells_ptr,cells_slice,oc_int,oc_bool,oc_slice,oc_ptr,rd1_set,rd1_ne,rdn_set,rdn_ne,Heap.set_same,set_ne,Heap.set_set,set_up,set_up2,set_up3,putAt,ceq,List.map_cons,List.map_nil,List.length_cons,List.length_nil,List.length_set,List.cons_append,List.nil_append,List.append_nil,List.replicate,List.size_toArray,List.all_cons,List.all_nil,Bool.and_self,Bool.and_true,List.drop_zero,List.drop_succ_cons,List.take_succ_cons,List.take_zero,List.set_cons_zero,List.set_cons_succ,List.getElem?_cons_zero,List.getElem?_cons_succ,Option.map_some,Option.map_none,ne_eq,not_false_eq_true,not_true_eq_false,gt_iff_lt,ge_iff_le,Int.one_mul,Nat.zero_add,Nat.zero_mul,Bool.not_true,Bool.not_false,Bool.false_eq_true,Bool.and_false,Bool.false_and,Bool.true_and, *]))
          have g6 := (Grow.refl (w0 := w0) G3).set (x := ⟨29, y.row⟩) hb0 (by first | exact hbk | exact hbk.2)
          rw [← root1 k8]
          refine app_rows (ns := [y]) (hB3.grow g6) rfl (srd_blk (by simp only [Heap.set_same, set_ne, ne_eq, not_false_eq_true, *] <;> rfl) rfl) (fun z hz => ?_) (hG3.trans g6) (by simp; omega) (fun a4 c4 os4 G4 e4 hB4 hG4 => ?_)
          · rw [List.mem_singleton.1 hz]
            exact ⟨hyo _, hyp, hys⟩
          · have hos4 : os4.map VtR.toVt = cutF n x0.toVt ((ls.map VtR.toVt).take (k + 1)) := by
              rw [e4, hstep, List.map_append, hos3, hos]
              simp [piece, hc1, hc]
            clear hos hstep e4 hB3 hos3
            (all_goals (refine (fun f : True → _ => f trivial) ?_)); repeat' ((first | (with_reducible refine fun _ : True => ?_) | (refine AllocQ_i ?_; intro bk hb0 hbk; (try simp only [set_none'] at hbk); (try (first | have hbn := Grow.none (by assumption) hbk | have hbn := Grow.none (by assumption) hbk.2 | have hbn := Grow.none (by assumption) hbk.2.2 | have hbn := Grow.none (by assumption) hbk.2.2.2 | have hbn := Grow.none (by assumption) hbk.2.2.2.2 | have hbn := Grow.none (by assumption) hbk.2.2.2.2.2)); (try simp only [set_none'] at hbn); (try (first | have hbm := Grow.none (by assumption) hbn | have hbm := Grow.none (by assumption) hbn.2 | have hbm := Grow.none (by assumption) hbn.2.2 | have hbm := Grow.none (by assumption) hbn.2.2.2 | have hbm := Grow.none (by assumption) hbn.2.2.2.2 | have hbm := Grow.none (by assumption) hbn.2.2.2.2.2)); (try simp only [set_none'] at hbm)) | ((first | refine condS_i ?_ ?_ | refine pick_i ?_ ?_ | refine gS_it ?_ ?_ | refine gS_if ?_ ?_ | refine gP_it ?_ ?_ | refine gP_if ?_ ?_) <;> (intro hc; try simp only [Int.reduceLE,Int.reduceLT,Int.reduceEq,and_self,not_true_eq_false,not_false_eq_true,and_true,true_and,false_and,and_false,true_or,or_true,false_or,or_false,decide_eq_true_eq,decide_eq_false_iff_not,beq_iff_eq,beq_eq_false_iff_ne,bne_iff_ne,ne_eq,gt_iff_lt,ge_iff_le,Bool.not_eq_true,Bool.not_eq_false,Bool.not_eq_true',Bool.not_eq_false',Bool.not_eq_eq_eq_not,Bool.not_true,Bool.not_false] at hc)) | (refine KP_i (by (repeat' (first | exact Heap.Le.refl _ | (refine Le_known (by first | (simp only [Heap.set_same, set_ne, ne_eq, not_false_eq_true, *] <;> rfl) | fail) ?_) | (refine Le_fresh (by first | (simp only [*] <;> done) | (simp [set_none', Heap.set_same, set_ne, *] <;> done) | fail) ?_) | (refine Heap.Le.trans ?_ (Grow.le (by assumption)))))) ?_) | (with_reducible refine And.intro ?_ ?_)) <;> (try simp only [Sh,Si,Sl,Bu,Bb,Bd,Bc,Bw,Bn,Int.reduceAdd,Int.reduceSub,Int.reduceMul,Int.reduceTDiv,Int.reduceTMod,Int.reduceMod,Int.reduceDiv,Nat.reduceLT,Nat.reduceEqDiff,decide_true,decide_false,Sa,Sb,Sc,Sd,Se,Sf,Sg,true_and,and_true,and_self,eq_self,b_i64,b_i32,b_u64,b_u32,b_u8,Int.reduceLE,Int.reduceLT,Int.reduceToNat,Int.reduceNeg,Int.reduceEq,Nat.reduceLeDiff,Nat.reducePow,Int.reducePow,Nat.min_def,reduceIte,Nat.reduceSub,Nat.reduceAdd,Nat.reduceMul,KP_same,KP_f,condS_t,condS_f,pick_t,pick_f,gS_tt,gS_ff,gS_tf,gS_ft,gS_u,gP_tt,gP_ff,gP_tf,gP_ft,gP_u,ptrV_eq,slcV_eq,cells_agg,cells_int,cells_bool,cells_ptr,cells_slice,oc_int,oc_bool,oc_slice,oc_ptr,rd1_set,rd1_ne,rdn_set,rdn_ne,Heap.set_same,set_ne,Heap.set_set,set_up,set_up2,set_up3,putAt,ceq,List.map_cons,List.map_nil,List.length_cons,List.length_nil,List.length_set,List.cons_append,List.nil_append,List.append_nil,List.replicate,List.size_toArray,List.all_cons,List.all_nil,Bool.and_self,Bool.and_true,List.drop_zero,List.drop_succ_cons,List.take_succ_cons,List.take_zero,List.set_cons_zero,List.set_cons_succ,List.getElem?_cons_zero,List.getElem?_cons_succ,Option.map_some,Option.map_none,ne_eq,not_false_eq_true,not_true_eq_false,gt_iff_lt,ge_iff_le,Int.one_mul,Nat.zero_add,Nat.zero_mul,Bool.not_true,Bool.not_false,Bool.false_eq_true,Bool.and_false,Bool.false_and,Bool.true_and, *]))
            exact Round_p (k + 1, _, _, _, _, a4, c4, os4) ⟨hlt, hG4, hB4, hos4⟩ (by simp only; omega) rfl rfl
      · rename_i hc1
        have hos3 : os.map VtR.toVt = cutF n x0.toVt ((ls.map VtR.toVt).take (k + 1)) := by
          rw [hstep, hos]
          simp [piece, hc1, hc]
        exact Round_p (k + 1, _, _, _, _, a', cap', os) ⟨hlt, hG.trans (by (repeat' (first | exact Grow.refl _ | assumption | (refine Grow_known (by first | (simp only [Heap.set_same, set_ne, ne_eq, not_false_eq_true, *] <;> rfl) | fail) ?_) | (refine Grow.set ?_ (by assumption) (by first | (simp only [*] <;> done) | (simp [set_none', Heap.set_same, set_ne, *] <;> done) | fail)) | (refine Grow.trans ?_ (by assumption))))), hB.grow (by (repeat' (first | exact Grow.refl _ | assumption | (refine Grow_known (by first | (simp only [Heap.set_same, set_ne, ne_eq, not_false_eq_true, *] <;> rfl) | fail) ?_) | (refine Grow.set ?_ (by assumption) (by first | (simp only [*] <;> done) | (simp [set_none', Heap.set_same, set_ne, *] <;> done) | fail)) | (refine Grow.trans ?_ (by assumption))))), hos3⟩ (by simp only; omega) rfl rfl
    · obtain rfl : m = k := by omega
      have t0 : ¬ ((m : Nat) : Int) < ((m : Nat) : Int) := by omega
      have hfin := h a' cap' os G (by rw [hos, List.take_of_length_le (by rw [List.length_map]; omega)]) hB hG
      clear h hB hos
      (all_goals (refine (fun f : True → _ => f trivial) ?_)); repeat' ((first | (with_reducible refine fun _ : True => ?_) | (refine AllocQ_i ?_; intro bk hb0 hbk; (try simp only [set_none'] at hbk); (try (first | have hbn := Grow.none (by assumption) hbk | have hbn := Grow.none (by assumption) hbk.2 | have hbn := Grow.none (by assumption) hbk.2.2 | have hbn := Grow.none (by assumption) hbk.2.2.2 | have hbn := Grow.none (by assumption) hbk.2.2.2.2 | have hbn := Grow.none (by assumption) hbk.2.2.2.2.2)); (try simp only [set_none'] at hbn); (try (first | have hbm := Grow.none (by assumption) hbn | have hbm := Grow.none (by assumption) hbn.2 | have hbm := Grow.none (by assumption) hbn.2.2 | have hbm := Grow.none (by assumption) hbn.2.2.2 | have hbm := Grow.none (by assumption) hbn.2.2.2.2 | have hbm := Grow.none (by assumption) hbn.2.2.2.2.2)); (try simp only [set_none'] at hbm)) | ((first | refine condS_i ?_ ?_ | refine pick_i ?_ ?_ | refine gS_it ?_ ?_ | refine gS_if ?_ ?_ | refine gP_it ?_ ?_ | refine gP_if ?_ ?_) <;> (intro hc; try simp only [Int.reduceLE,Int.reduceLT,Int.reduceEq,and_self,not_true_eq_false,not_false_eq_true,and_true,true_and,false_and,and_false,true_or,or_true,false_or,or_false,decide_eq_true_eq,decide_eq_false_iff_not,beq_iff_eq,beq_eq_false_iff_ne,bne_iff_ne,ne_eq,gt_iff_lt,ge_iff_le,Bool.not_eq_true,Bool.not_eq_false,Bool.not_eq_true',Bool.not_eq_false',Bool.not_eq_eq_eq_not,Bool.not_true,Bool.not_false] at hc)) | (refine KP_i (by (repeat' (first | exact Heap.Le.refl _ | (refine Le_known (by first | (simp only [Heap.set_same, set_ne, ne_eq, not_false_eq_true, *] <;> rfl) | fail) ?_) | (refine Le_fresh (by first | (simp only [*] <;> done) | (simp [set_none', Heap.set_same, set_ne, *] <;> done) | fail) ?_) | (refine Heap.Le.trans ?_ (Grow.le (by assumption)))))) ?_) | (with_reducible refine And.intro ?_ ?_)) <;> (try simp only [Sh,Si,Sl,Bu,Bb,Bd,Bc,Bw,Bn,Int.reduceAdd,Int.reduceSub,Int.reduceMul,Int.reduceTDiv,Int.reduceTMod,Int.reduceMod,Int.reduceDiv,Nat.reduceLT,Nat.reduceEqDiff,decide_true,decide_false,Sa,Sb,Sc,Sd,Se,Sf,Sg,true_and,and_true,and_self,eq_self,b_i64,b_i32,b_u64,b_u32,b_u8,Int.reduceLE,Int.reduceLT,Int.reduceToNat,Int.reduceNeg,Int.reduceEq,Nat.reduceLeDiff,Nat.reducePow,Int.reducePow,Nat.min_def,reduceIte,Nat.reduceSub,Nat.reduceAdd,Nat.reduceMul,KP_same,KP_f,condS_t,condS_f,pick_t,pick_f,gS_tt,gS_ff,gS_tf,gS_ft,gS_u,gP_tt,gP_ff,gP_tf,gP_ft,gP_u,ptrV_eq,slcV_eq,cells_agg,cells_int,cells_bool,cells_ptr,cells_slice,oc_int,oc_bool,oc_slice,oc_ptr,rd1_set,rd1_ne,rdn_set,rdn_ne,Heap.set_same,set_ne,Heap.set_set,set_up,set_up2,set_up3,putAt,ceq,List.map_cons,List.map_nil,List.length_cons,List.length_nil,List.length_set,List.cons_append,List.nil_append,List.append_nil,List.replicate,List.size_toArray,List.all_cons,List.all_nil,Bool.and_self,Bool.and_true,List.drop_zero,List.drop_succ_cons,List.take_succ_cons,List.take_zero,List.set_cons_zero,List.set_cons_succ,List.getElem?_cons_zero,List.getElem?_cons_succ,Option.map_some,Option.map_none,ne_eq,not_false_eq_true,not_true_eq_false,gt_iff_lt,ge_iff_le,Int.one_mul,Nat.zero_add,Nat.zero_mul,Bool.not_true,Bool.not_false,Bool.false_eq_true,Bool.and_false,Bool.false_and,Bool.true_and, *]))
      exact Fin_mk (by (repeat' (first | exact Heap.Le.refl _ | (refine Le_known (by first | (simp only [Heap.set_same, set_ne, ne_eq, not_false_eq_true, *] <;> rfl) | fail) ?_) | (refine Le_fresh (by first | (simp only [*] <;> done) | (simp [set_none', Heap.set_same, set_ne, *] <;> done) | fail) ?_) | (refine Heap.Le.trans ?_ (Grow.le (by assumption)))))) hfin
end Go.Proofs.Ytofgiimfempcjaa
