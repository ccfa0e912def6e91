/- The statements on repeats and on middles, as calls (layer 9). -/
import Derived.Test.YtfokghepfcfbjaaImj
set_option linter.unusedSimpArgs false
set_option linter.unusedVariables false
set_option maxRecDepth 100000
set_option maxHeartbeats 8000000
namespace Go.Proofs.Ytfokghepfcfbjaa
open Go.HL Go.RowKit Pb
variable {w0 : World} {H H' : Heap} {K : Value → Heap → Prop}

theorem fwrap_rep {w : Int} (hw : 1 ≤ w ∧ w ≤ 64) (i q : Int) : fwrap 1 (i + w * q) w = fwrap 1 i w := by
  unfold fwrap
  have hn : ¬ (w < 1 ∨ 64 < w) := by omega
  simp only [hn, if_false, if_true]
  exact Int.add_mul_emod_self_left ..
theorem col_rep {x : Im} {y : LvR} (hs : x.s = 1) (ht : x.t = 1) (hw : 1 ≤ y.w ∧ y.w ≤ 64) (hh : 1 ≤ y.h ∧ y.h ≤ 64) (i j q r : Int) : colI x y (i + y.w * q) (j + y.h * r) = colI x y i j := by
  unfold colI
  rw [hs, ht, fwrap_rep hw, fwrap_rep hh]
theorem rep_mul (w u q : Int) : w * (u + q * 65536) = w * u + w * q * 65536 := by rw [Int.mul_add, Int.mul_assoc]
theorem plcI_rep (w u q : Int) : plcI w (u + q * 65536) = plcI w u + w * q := by
  unfold plcI
  rw [rep_mul]; omega
theorem plcF_rep (w u q : Int) : plcF w (u + q * 65536) = plcF w u := by
  unfold plcF
  rw [rep_mul]; omega
theorem nearP_rep (w u q : Int) : nearP w (u + q * 65536) = nearP w u + w * q := by
  unfold nearP
  rw [rep_mul]; omega
theorem lin_rep {x : Im} {y : LvR} (hs : x.s = 1) (ht : x.t = 1) (hw : 1 ≤ y.w ∧ y.w ≤ 64) (hh : 1 ≤ y.h ∧ y.h ≤ 64) (u v q : Int) : linI x y (u + q * 65536) (v + q * 65536) = linI x y u v := by
  unfold linI
  funext k
  rw [plcI_rep, plcI_rep, plcF_rep, plcF_rep, show plcI y.w u + y.w * q + 1 = plcI y.w u + 1 + y.w * q by omega, show plcI y.h v + y.h * q + 1 = plcI y.h v + 1 + y.h * q by omega,
    col_rep hs ht hw hh, col_rep hs ht hw hh, col_rep hs ht hw hh, col_rep hs ht hw hh]
theorem near_rep {x : Im} {y : LvR} (hs : x.s = 1) (ht : x.t = 1) (hw : 1 ≤ y.w ∧ y.w ≤ 64) (hh : 1 ≤ y.h ∧ y.h ≤ 64) (u v q : Int) : colI x y (nearP y.w (u + q * 65536)) (nearP y.h v) = colI x y (nearP y.w u) (nearP y.h v) := by
  have := col_rep hs ht hw hh (nearP y.w u) (nearP y.h v) q 0
  rw [Int.mul_zero, Int.add_zero] at this
  rw [nearP_rep, this]
/-- What the two colours of a level are, and whether it is there. -/
theorem c_Colours (x : Im) (hx : ImOk w0 H x) (n : Int) : ∃ (e : Int) (L N : Int → Int → Nat → Int),
    (∀ (G : Heap) (K : Value → Heap → Prop) (u v : Int), I32 u → I32 v → Grow w0 H G → K (.tuple #[V4 (L u v), .int .i64 e]) G → HCalls Try.prog w0 22 [x.v, .int .i64 n, .int .i32 u, .int .i32 v] G K) ∧
    (∀ (G : Heap) (K : Value → Heap → Prop) (u v : Int), I32 u → I32 v → Grow w0 H G → K (.tuple #[V4 (N u v), .int .i64 e]) G → HCalls Try.prog w0 21 [x.v, .int .i64 n, .int .i32 u, .int .i32 v] G K) ∧
    ((∀ u v, L u v = fun _ => 0) ∧ (∀ u v, N u v = fun _ => 0) ∧ e ≠ 0 ∨ e = 0 ∧ ∃ (k : Nat) (y : LvR), n = k ∧ x.ls[k]? = some y ∧ x.right ∧ 0 < y.w ∧ Lvl w0 H x y ∧ (∀ u v, L u v = linI x y u v) ∧ ∀ u v, N u v = colI x y (nearP y.w u) (nearP y.h v)) := by
  by_cases hr : x.right
  · by_cases hn : x.has n
    · obtain ⟨k, y, rfl, ek, hw⟩ := hn
      have hl := lvl_of hr hx ek hw
      exact ⟨0, fun u v => linI x y u v, fun u v => colI x y (nearP y.w u) (nearP y.h v), fun G K u v hu hv g hk => c_Linear_ok x (hx.grow g) k y u v hu hv hr ek hw hk,
        fun G K u v hu hv g hk => c_Nearest_ok x (hx.grow g) k y u v hu hv hr ek hw hk, .inr ⟨rfl, k, y, rfl, ek, hr, hw, hl, fun _ _ => rfl, fun _ _ => rfl⟩⟩
    · exact ⟨4, fun _ _ _ => 0, fun _ _ _ => 0, fun G K u v hu hv g hk => c_Linear_none x (hx.grow g) n u v hr hn hk, fun G K u v hu hv g hk => c_Nearest_none x (hx.grow g) n u v hr hn hk, .inl ⟨fun _ _ => rfl, fun _ _ => rfl, by decide⟩⟩
  · exact ⟨180, fun _ _ _ => 0, fun _ _ _ => 0, fun G K u v hu hv g hk => c_Linear_bad x (hx.grow g) n u v hr hk, fun G K u v hu hv g hk => c_Nearest_bad x (hx.grow g) n u v hr hk, .inl ⟨fun _ _ => rfl, fun _ _ => rfl, by decide⟩⟩
/- paintboxlaw09 SampleRepeats -/
def M7 : MC :=
  .seq (.reg [⟨(some 3), .box 29 (.tmp 0), none⟩,
     ⟨(some 4), .box 32 (.tmp 1), none⟩,
     ⟨(some 6), .mv (.const (.bool false)), none⟩])
  (.seq (.seq (.reg [⟨(some 16), .call 10 [], none⟩,
       ⟨(some 17), .un .not (.tmp 16), none⟩])
    (.cond (.tmp 17)
     (.seq (.reg [⟨(some 6), .mv (.const (.bool false)), none⟩])
      (.ret))
     (.skip)))
   (.seq (.reg [⟨(some 18), .fa 2 (.tmp 3), none⟩,
       ⟨none, .st1 (.tmp 18) (.const (.int .i64 1)), none⟩,
       ⟨(some 19), .fa 3 (.tmp 3), none⟩,
       ⟨none, .st1 (.tmp 19) (.const (.int .i64 1)), none⟩])
    (.seq (.reg [⟨(some 20), .mv (.tmp 2), none⟩,
        ⟨(some 21), .mx (.tmp 20) (.const (.int .i64 0)), none⟩,
        ⟨(some 22), .bin .rem (.tmp 21) (.const (.int .i64 1000)), none⟩,
        ⟨(some 23), .bin .shl (.tmp 22) (.const (.int .u64 16)), none⟩,
        ⟨(some 7), .mv (.tmp 23), none⟩])
     (.seq (.seq (.reg [⟨(some 24), .fa 0 (.tmp 4), none⟩,
          ⟨(some 25), .ld1 (.tmp 24), none⟩,
          ⟨(some 26), .bin .gtr (.tmp 25) (.const (.int .i32 1073741824)), none⟩,
          ⟨(some 27), .mv (.tmp 26), none⟩,
          ⟨(some 28), .fa 1 (.tmp 4), (some (27, false))⟩,
          ⟨(some 29), .ld1 (.tmp 28), (some (27, false))⟩,
          ⟨(some 30), .bin .gtr (.tmp 29) (.const (.int .i32 1073741824)), (some (27, false))⟩,
          ⟨(some 31), .pick (.tmp 27) (.const (.bool true)) (.tmp 30), none⟩])
       (.cond (.tmp 31)
        (.seq (.reg [⟨(some 6), .mv (.const (.bool true)), none⟩])
         (.ret))
        (.skip)))
      (.seq (.reg [⟨(some 33), .ldn 6 (.tmp 3), none⟩,
          ⟨(some 34), .fa 3 (.tmp 4), none⟩,
          ⟨(some 35), .ld1 (.tmp 34), none⟩,
          ⟨(some 36), .fa 0 (.tmp 4), none⟩,
          ⟨(some 37), .ld1 (.tmp 36), none⟩,
          ⟨(some 38), .fa 1 (.tmp 4), none⟩,
          ⟨(some 39), .ld1 (.tmp 38), none⟩,
          ⟨(some 40), .call 22 [(.tmp 33), (.tmp 35), (.tmp 37), (.tmp 39)], none⟩,
          ⟨(some 32), .mv (.tmp 40), none⟩,
          ⟨(some 41), .ext 0 (.tmp 32), none⟩,
          ⟨(some 42), .ext 1 (.tmp 32), none⟩,
          ⟨(some 8), .alloc 34 [(.int .i32 0), (.int .i32 0), (.int .i32 0), (.int .i32 0)], none⟩,
          ⟨none, .stn 4 (.tmp 8) (.tmp 41), none⟩,
          ⟨(some 9), .mv (.tmp 42), none⟩])
       (.seq (.reg [⟨(some 44), .ldn 6 (.tmp 3), none⟩,
           ⟨(some 45), .fa 3 (.tmp 4), none⟩,
           ⟨(some 46), .ld1 (.tmp 45), none⟩,
           ⟨(some 47), .fa 0 (.tmp 4), none⟩,
           ⟨(some 48), .ld1 (.tmp 47), none⟩,
           ⟨(some 49), .conv .i64 (.tmp 48), none⟩,
           ⟨(some 50), .mv (.tmp 7), none⟩,
           ⟨(some 51), .bin .add (.tmp 49) (.tmp 50), none⟩,
           ⟨(some 52), .conv .i32 (.tmp 51), none⟩,
           ⟨(some 53), .fa 1 (.tmp 4), none⟩,
           ⟨(some 54), .ld1 (.tmp 53), none⟩,
           ⟨(some 55), .conv .i64 (.tmp 54), none⟩,
           ⟨(some 56), .mv (.tmp 7), none⟩,
           ⟨(some 57), .bin .add (.tmp 55) (.tmp 56), none⟩,
           ⟨(some 58), .conv .i32 (.tmp 57), none⟩,
           ⟨(some 59), .call 22 [(.tmp 44), (.tmp 46), (.tmp 52), (.tmp 58)], none⟩,
           ⟨(some 43), .mv (.tmp 59), none⟩,
           ⟨(some 60), .ext 0 (.tmp 43), none⟩,
           ⟨(some 61), .ext 1 (.tmp 43), none⟩,
           ⟨(some 10), .alloc 34 [(.int .i32 0), (.int .i32 0), (.int .i32 0), (.int .i32 0)], none⟩,
           ⟨none, .stn 4 (.tmp 10) (.tmp 60), none⟩,
           ⟨(some 11), .mv (.tmp 61), none⟩])
        (.seq (.reg [⟨(some 63), .ldn 6 (.tmp 3), none⟩,
            ⟨(some 64), .fa 3 (.tmp 4), none⟩,
            ⟨(some 65), .ld1 (.tmp 64), none⟩,
            ⟨(some 66), .fa 0 (.tmp 4), none⟩,
            ⟨(some 67), .ld1 (.tmp 66), none⟩,
            ⟨(some 68), .fa 1 (.tmp 4), none⟩,
            ⟨(some 69), .ld1 (.tmp 68), none⟩,
            ⟨(some 70), .call 21 [(.tmp 63), (.tmp 65), (.tmp 67), (.tmp 69)], none⟩,
            ⟨(some 62), .mv (.tmp 70), none⟩,
            ⟨(some 71), .ext 0 (.tmp 62), none⟩,
            ⟨(some 72), .ext 1 (.tmp 62), none⟩,
            ⟨(some 12), .alloc 34 [(.int .i32 0), (.int .i32 0), (.int .i32 0), (.int .i32 0)], none⟩,
            ⟨none, .stn 4 (.tmp 12) (.tmp 71), none⟩,
            ⟨(some 13), .mv (.tmp 72), none⟩])
         (.seq (.reg [⟨(some 74), .ldn 6 (.tmp 3), none⟩,
             ⟨(some 75), .fa 3 (.tmp 4), none⟩,
             ⟨(some 76), .ld1 (.tmp 75), none⟩,
             ⟨(some 77), .fa 0 (.tmp 4), none⟩,
             ⟨(some 78), .ld1 (.tmp 77), none⟩,
             ⟨(some 79), .conv .i64 (.tmp 78), none⟩,
             ⟨(some 80), .mv (.tmp 7), none⟩,
             ⟨(some 81), .bin .add (.tmp 79) (.tmp 80), none⟩,
             ⟨(some 82), .conv .i32 (.tmp 81), none⟩,
             ⟨(some 83), .fa 1 (.tmp 4), none⟩,
             ⟨(some 84), .ld1 (.tmp 83), none⟩,
             ⟨(some 85), .call 21 [(.tmp 74), (.tmp 76), (.tmp 82), (.tmp 84)], none⟩,
             ⟨(some 73), .mv (.tmp 85), none⟩,
             ⟨(some 86), .ext 0 (.tmp 73), none⟩,
             ⟨(some 87), .ext 1 (.tmp 73), none⟩,
             ⟨(some 14), .alloc 34 [(.int .i32 0), (.int .i32 0), (.int .i32 0), (.int .i32 0)], none⟩,
             ⟨none, .stn 4 (.tmp 14) (.tmp 86), none⟩,
             ⟨(some 15), .mv (.tmp 87), none⟩])
          (.seq (.reg [⟨(some 88), .ldn 4 (.tmp 8), none⟩,
              ⟨(some 89), .ldn 4 (.tmp 10), none⟩,
              ⟨(some 90), .eqa false 4 (.tmp 88) (.tmp 89), none⟩,
              ⟨(some 91), .mv (.tmp 90), none⟩,
              ⟨(some 92), .mv (.tmp 9), (some (91, true))⟩,
              ⟨(some 93), .mv (.tmp 11), (some (91, true))⟩,
              ⟨(some 94), .bin .eql (.tmp 92) (.tmp 93), (some (91, true))⟩,
              ⟨(some 95), .pick (.tmp 91) (.tmp 94) (.const (.bool false)), none⟩,
              ⟨(some 96), .mv (.tmp 95), none⟩,
              ⟨(some 97), .ldn 4 (.tmp 12), (some (96, true))⟩,
              ⟨(some 98), .ldn 4 (.tmp 14), (some (96, true))⟩,
              ⟨(some 99), .eqa false 4 (.tmp 97) (.tmp 98), (some (96, true))⟩,
              ⟨(some 100), .pick (.tmp 96) (.tmp 99) (.const (.bool false)), none⟩,
              ⟨(some 101), .mv (.tmp 100), none⟩,
              ⟨(some 102), .mv (.tmp 13), (some (101, true))⟩,
              ⟨(some 103), .mv (.tmp 15), (some (101, true))⟩,
              ⟨(some 104), .bin .eql (.tmp 102) (.tmp 103), (some (101, true))⟩,
              ⟨(some 105), .pick (.tmp 101) (.tmp 104) (.const (.bool false)), none⟩,
              ⟨(some 6), .mv (.tmp 105), none⟩])
           (.ret))))))))))
theorem k7 : fnOk Try.prog 7 = some (M7, [.t 6], 106) := by kernel_rfl

theorem l_SampleRepeats (x : Im) (hx : ImOk w0 H x) (u v lod n i j more : Int) (hu : I32 u) (hv : I32 v) (hm : I64 more) (h : K (.bool true) H) : HCalls Try.prog w0 7 [x.v, AtV u v lod n i j, .int .i64 more] H K := by
  have hx1 : ImOk w0 H { x with s := 1, t := 1 } := ⟨hx.at_, hx.lv, hx.lc, hx.lm, hx.lr, hx.f, by show I64 1; unfold I64; omega, by show I64 1; unfold I64; omega, hx.mn, hx.mg⟩
  obtain ⟨a, ea⟩ : ∃ a, (if more < 0 then 0 else more) = a := ⟨_, rfl⟩
  have ha : 0 ≤ a := by rw [← ea]; split <;> omega
  obtain ⟨q, eq⟩ : ∃ q, a.tmod 1000 = q := ⟨_, rfl⟩
  have hq : 0 ≤ q ∧ q < 1000 := by rw [Int.tmod_eq_emod_of_nonneg ha] at eq; omega
  have es : IntKind.i64.wrap (q * 65536) = q * 65536 := Bw.1 _ (by omega) (by omega)
  by_cases hb : 1073741824 < u ∨ 1073741824 < v
  · unfold Im.v
    rcases Int.lt_or_le 1073741824 u with h1 | h1
    · clear hb
      refine HL.hc k7 2500 ?_; unfold M7
      (all_goals (refine (fun f : True → _ => f trivial) ?_)); repeat' ((first | (with_reducible refine fun _ : True => ?_) | refine x_Wakes ?_ | (refine AllocQ_i ?_; intro bk hb0 hbk; (try simp only [set_none'] at hbk); (try (first | have hbn := Grow.none (by assumption) hbk | have hbn := Grow.none (by assumption) hbk.2 | have hbn := Grow.none (by assumption) hbk.2.2 | have hbn := Grow.none (by assumption) hbk.2.2.2 | have hbn := Grow.none (by assumption) hbk.2.2.2.2 | have hbn := Grow.none (by assumption) hbk.2.2.2.2.2)); (try simp only [set_none'] at hbn); (try (first | have hbm := Grow.none (by assumption) hbn | have hbm := Grow.none (by assumption) hbn.2 | have hbm := Grow.none (by assumption) hbn.2.2 | have hbm := Grow.none (by assumption) hbn.2.2.2 | have hbm := Grow.none (by assumption) hbn.2.2.2.2 | have hbm := Grow.none (by assumption) hbn.2.2.2.2.2)); (try simp only [set_none'] at hbm)) | ((first | refine condS_i ?_ ?_ | refine pick_i ?_ ?_ | refine gS_it ?_ ?_ | refine gS_if ?_ ?_ | refine gP_it ?_ ?_ | refine gP_if ?_ ?_) <;> (intro hc; try simp only [Int.reduceLE,Int.reduceLT,Int.reduceEq,and_self,not_true_eq_false,not_false_eq_true,and_true,true_and,false_and,and_false,true_or,or_true,false_or,or_false,decide_eq_true_eq,decide_eq_false_iff_not,beq_iff_eq,beq_eq_false_iff_ne,bne_iff_ne,ne_eq,gt_iff_lt,ge_iff_le,Bool.not_eq_true,Bool.not_eq_false,Bool.not_eq_true',Bool.not_eq_false',Bool.not_eq_eq_eq_not,Bool.not_true,Bool.not_false] at hc)) | (refine KP_i (by (repeat' (first | exact Heap.Le.refl _ | (refine Le_known (by first | (simp only [Heap.set_same, set_ne, ne_eq, not_false_eq_true, *] <;> rfl) | fail) ?_) | (refine Le_fresh (by first | (simp only [*] <;> done) | (simp [set_none', Heap.set_same, set_ne, *] <;> done) | fail) ?_) | (refine Heap.Le.trans ?_ (Grow.le (by assumption)))))) ?_) | (with_reducible refine And.intro ?_ ?_)) <;> (try simp only [Sh,Si,Sl,Bu,Bb,Bd,Bc,Bw,Bn,Int.reduceAdd,Int.reduceSub,Int.reduceMul,Int.reduceTDiv,Int.reduceTMod,Int.reduceMod,Int.reduceDiv,Nat.reduceLT,Nat.reduceEqDiff,decide_true,decide_false,Sa,Sb,Sc,Sd,Se,Sf,Sg,true_and,and_true,and_self,eq_self,b_i64,b_i32,b_u64,b_u32,b_u8,Int.reduceLE,Int.reduceLT,Int.reduceToNat,Int.reduceNeg,Int.reduceEq,Nat.reduceLeDiff,Nat.reducePow,Int.reducePow,Nat.min_def,reduceIte,Nat.reduceSub,Nat.reduceAdd,Nat.reduceMul,KP_same,KP_f,condS_t,condS_f,pick_t,pick_f,gS_tt,gS_ff,gS_tf,gS_ft,gS_u,gP_tt,gP_ff,gP_tf,gP_ft,gP_u,ptrV_eq,slcV_eq,cells_agg,cells_int,cells_bool,cells_ptr,cells_slice,oc_int,oc_bool,oc_slice,oc_ptr,rd1_set,rd1_ne,rdn_set,rdn_ne,Heap.set_same,set_ne,Heap.set_set,set_up,set_up2,set_up3,putAt,ceq,List.map_cons,List.map_nil,List.length_cons,List.length_nil,List.length_set,List.cons_append,List.nil_append,List.append_nil,List.replicate,List.size_toArray,List.all_cons,List.all_nil,Bool.and_self,Bool.and_true,List.drop_zero,List.drop_succ_cons,List.take_succ_cons,List.take_zero,List.set_cons_zero,List.set_cons_succ,List.getElem?_cons_zero,List.getElem?_cons_succ,Option.map_some,Option.map_none,ne_eq,not_false_eq_true,not_true_eq_false,gt_iff_lt,ge_iff_le,Int.one_mul,Nat.zero_add,Nat.zero_mul,Bool.not_true,Bool.not_false,Bool.false_eq_true,Bool.and_false,Bool.false_and,Bool.true_and, *]))
      exact Fin_mk (by (repeat' (first | exact Heap.Le.refl _ | (refine Le_known (by first | (simp only [Heap.set_same, set_ne, ne_eq, not_false_eq_true, *] <;> rfl) | fail) ?_) | (refine Le_fresh (by first | (simp only [*] <;> done) | (simp [set_none', Heap.set_same, set_ne, *] <;> done) | fail) ?_) | (refine Heap.Le.trans ?_ (Grow.le (by assumption)))))) h
    · have h2 : 1073741824 < v := by omega
      have h3 : ¬ 1073741824 < u := by omega
      clear hb h1
      refine HL.hc k7 2500 ?_; unfold M7
      (all_goals (refine (fun f : True → _ => f trivial) ?_)); repeat' ((first | (with_reducible refine fun _ : True => ?_) | refine x_Wakes ?_ | (refine AllocQ_i ?_; intro bk hb0 hbk; (try simp only [set_none'] at hbk); (try (first | have hbn := Grow.none (by assumption) hbk | have hbn := Grow.none (by assumption) hbk.2 | have hbn := Grow.none (by assumption) hbk.2.2 | have hbn := Grow.none (by assumption) hbk.2.2.2 | have hbn := Grow.none (by assumption) hbk.2.2.2.2 | have hbn := Grow.none (by assumption) hbk.2.2.2.2.2)); (try simp only [set_none'] at hbn); (try (first | have hbm := Grow.none (by assumption) hbn | have hbm := Grow.none (by assumption) hbn.2 | have hbm := Grow.none (by assumption) hbn.2.2 | have hbm := Grow.none (by assumption) hbn.2.2.2 | have hbm := Grow.none (by assumption) hbn.2.2.2.2 | have hbm := Grow.none (by assumption) hbn.2.2.2.2.2)); (try simp only [set_none'] at hbm)) | ((first | refine condS_i ?_ ?_ | refine pick_i ?_ ?_ | refine gS_it ?_ ?_ | refine gS_if ?_ ?_ | refine gP_it ?_ ?_ | refine gP_if ?_ ?_) <;> (intro hc; try simp only [Int.reduceLE,Int.reduceLT,Int.reduceEq,and_self,not_true_eq_false,not_false_eq_true,and_true,true_and,false_and,and_false,true_or,or_true,false_or,or_false,decide_eq_true_eq,decide_eq_false_iff_not,beq_iff_eq,beq_eq_false_iff_ne,bne_iff_ne,ne_eq,gt_iff_lt,ge_iff_le,Bool.not_eq_true,Bool.not_eq_false,Bool.not_eq_true',Bool.not_eq_false',Bool.not_eq_eq_eq_not,Bool.not_true,Bool.not_false] at hc)) | (refine KP_i (by (repeat' (first | exact Heap.Le.refl _ | (refine Le_known (by first | (simp only [Heap.set_same, set_ne, ne_eq, not_false_eq_true, *] <;> rfl) | fail) ?_) | (refine Le_fresh (by first | (simp only [*] <;> done) | (simp [set_none', Heap.set_same, set_ne, *] <;> done) | fail) ?_) | (refine Heap.Le.trans ?_ (Grow.le (by assumption)))))) ?_) | (with_reducible refine And.intro ?_ ?_)) <;> (try simp only [Sh,Si,Sl,Bu,Bb,Bd,Bc,Bw,Bn,Int.reduceAdd,Int.reduceSub,Int.reduceMul,Int.reduceTDiv,Int.reduceTMod,Int.reduceMod,Int.reduceDiv,Nat.reduceLT,Nat.reduceEqDiff,decide_true,decide_false,Sa,Sb,Sc,Sd,Se,Sf,Sg,true_and,and_true,and_self,eq_self,b_i64,b_i32,b_u64,b_u32,b_u8,Int.reduceLE,Int.reduceLT,Int.reduceToNat,Int.reduceNeg,Int.reduceEq,Nat.reduceLeDiff,Nat.reducePow,Int.reducePow,Nat.min_def,reduceIte,Nat.reduceSub,Nat.reduceAdd,Nat.reduceMul,KP_same,KP_f,condS_t,condS_f,pick_t,pick_f,gS_tt,gS_ff,gS_tf,gS_ft,gS_u,gP_tt,gP_ff,gP_tf,gP_ft,gP_u,ptrV_eq,slcV_eq,cells_agg,cells_int,cells_bool,cells_ptr,cells_slice,oc_int,oc_bool,oc_slice,oc_ptr,rd1_set,rd1_ne,rdn_set,rdn_ne,Heap.set_same,set_ne,Heap.set_set,set_up,set_up2,set_up3,putAt,ceq,List.map_cons,List.map_nil,List.length_cons,List.length_nil,List.length_set,List.cons_append,List.nil_append,List.append_nil,List.replicate,List.size_toArray,List.all_cons,List.all_nil,Bool.and_self,Bool.and_true,List.drop_zero,List.drop_succ_cons,List.take_succ_cons,List.take_zero,List.set_cons_zero,List.set_cons_succ,List.getElem?_cons_zero,List.getElem?_cons_succ,Option.map_some,Option.map_none,ne_eq,not_false_eq_true,not_true_eq_false,gt_iff_lt,ge_iff_le,Int.one_mul,Nat.zero_add,Nat.zero_mul,Bool.not_true,Bool.not_false,Bool.false_eq_true,Bool.and_false,Bool.false_and,Bool.true_and, *]))
      exact Fin_mk (by (repeat' (first | exact Heap.Le.refl _ | (refine Le_known (by first | (simp only [Heap.set_same, set_ne, ne_eq, not_false_eq_true, *] <;> rfl) | fail) ?_) | (refine Le_fresh (by first | (simp only [*] <;> done) | (simp [set_none', Heap.set_same, set_ne, *] <;> done) | fail) ?_) | (refine Heap.Le.trans ?_ (Grow.le (by assumption)))))) h
  · obtain ⟨e, L, N, cL, cN, hres⟩ := c_Colours _ hx1 n
    have hLN : L (u + q * 65536) (v + q * 65536) = L u v ∧ N (u + q * 65536) v = N u v := by
      rcases hres with ⟨z1, z2, -⟩ | ⟨-, k, y, rfl, ek, hr, hw, hl, z1, z2⟩
      · rw [z1, z1, z2, z2]; exact ⟨rfl, rfl⟩
      · rw [z1, z1, z2, z2]
        exact ⟨lin_rep rfl rfl hl.w hl.h u v q, near_rep rfl rfl hl.w hl.h u v q⟩
    have h1 : ¬ 1073741824 < u := by omega
    have h2 : ¬ 1073741824 < v := by omega
    have u2 : I32 (u + q * 65536) := by unfold I32 at *; omega
    have v2 : I32 (v + q * 65536) := by unfold I32 at *; omega
    have d1 := fun G K => cL G K u v hu hv
    have d2 := fun G K => cL G K _ _ u2 v2
    have d3 := fun G K => cN G K u v hu hv
    have d4 := fun G K => cN G K _ v u2 hv
    rw [hLN.1] at d2
    rw [hLN.2] at d4
    generalize L u v = cl at *
    generalize N u v = cn at *
    unfold I32 at hu hv u2 v2
    have w1 : IntKind.i64.wrap u = u := Bw.1 _ (by omega) (by omega)
    have w2 : IntKind.i64.wrap v = v := Bw.1 _ (by omega) (by omega)
    have w3 : IntKind.i64.wrap (u + q * 65536) = u + q * 65536 := Bw.1 _ (by omega) (by omega)
    have w4 : IntKind.i64.wrap (v + q * 65536) = v + q * 65536 := Bw.1 _ (by omega) (by omega)
    have w5 : IntKind.i32.wrap (u + q * 65536) = u + q * 65536 := Bw.2 _ (by omega) (by omega)
    have w6 : IntKind.i32.wrap (v + q * 65536) = v + q * 65536 := Bw.2 _ (by omega) (by omega)
    clear hLN hres cL cN hx hx1 hb
    unfold Im.v at d1 d2 d3 d4 ⊢
    simp only at d1 d2 d3 d4
    refine HL.hc k7 2500 ?_; unfold M7
    (all_goals (refine (fun f : True → _ => f trivial) ?_)); repeat' ((first | (with_reducible refine fun _ : True => ?_) | refine x_Wakes ?_ | refine d1 _ _ (by (repeat' (first | exact Grow.refl _ | assumption | (refine Grow_known (by first | (simp only [Heap.set_same, set_ne, ne_eq, not_false_eq_true, *] <;> rfl) | fail) ?_) | (refine Grow.set ?_ (by assumption) (by first | (simp only [*] <;> done) | (simp [set_none', Heap.set_same, set_ne, *] <;> done) | fail)) | (refine Grow.trans ?_ (by assumption))))) ?_ | refine d2 _ _ (by (repeat' (first | exact Grow.refl _ | assumption | (refine Grow_known (by first | (simp only [Heap.set_same, set_ne, ne_eq, not_false_eq_true, *] <;> rfl) | fail) ?_) | (refine Grow.set ?_ (by assumption) (by first | (simp only [*] <;> done) | (simp [set_none', Heap.set_same, set_ne, *] <;> done) | fail)) | (refine Grow.trans ?_ (by assumption))))) ?_ | refine d3 _ _ (by (repeat' (first | exact Grow.refl _ | assumption | (refine Grow_known (by first | (simp only [Heap.set_same, set_ne, ne_eq, not_false_eq_true, *] <;> rfl) | fail) ?_) | (refine Grow.set ?_ (by assumption) (by first | (simp only [*] <;> done) | (simp [set_none', Heap.set_same, set_ne, *] <;> done) | fail)) | (refine Grow.trans ?_ (by assumption))))) ?_ | refine d4 _ _ (by (repeat' (first | exact Grow.refl _ | assumption | (refine Grow_known (by first | (simp only [Heap.set_same, set_ne, ne_eq, not_false_eq_true, *] <;> rfl) | fail) ?_) | (refine Grow.set ?_ (by assumption) (by first | (simp only [*] <;> done) | (simp [set_none', Heap.set_same, set_ne, *] <;> done) | fail)) | (refine Grow.trans ?_ (by assumption))))) ?_ | (refine AllocQ_i ?_; intro bk hb0 hbk; (try simp only [set_none'] at hbk); (try (first | have hbn := Grow.none (by assumption) hbk | have hbn := Grow.none (by assumption) hbk.2 | have hbn := Grow.none (by assumption) hbk.2.2 | have hbn := Grow.none (by assumption) hbk.2.2.2 | have hbn := Grow.none (by assumption) hbk.2.2.2.2 | have hbn := Grow.none (by assumption) hbk.2.2.2.2.2)); (try simp only [set_none'] at hbn); (try (first | have hbm := Grow.none (by assumption) hbn | have hbm := Grow.none (by assumption) hbn.2 | have hbm := Grow.none (by assumption) hbn.2.2 | have hbm := Grow.none (by assumption) hbn.2.2.2 | have hbm := Grow.none (by assumption) hbn.2.2.2.2 | have hbm := Grow.none (by assumption) hbn.2.2.2.2.2)); (try simp only [set_none'] at hbm)) | ((first | refine condS_i ?_ ?_ | refine pick_i ?_ ?_ | refine gS_it ?_ ?_ | refine gS_if ?_ ?_ | refine gP_it ?_ ?_ | refine gP_if ?_ ?_) <;> (intro hc; try simp only [Int.reduceLE,Int.reduceLT,Int.reduceEq,and_self,not_true_eq_false,not_false_eq_true,and_true,true_and,false_and,and_false,true_or,or_true,false_or,or_false,decide_eq_true_eq,decide_eq_false_iff_not,beq_iff_eq,beq_eq_false_iff_ne,bne_iff_ne,ne_eq,gt_iff_lt,ge_iff_le,Bool.not_eq_true,Bool.not_eq_false,Bool.not_eq_true',Bool.not_eq_false',Bool.not_eq_eq_eq_not,Bool.not_true,Bool.not_false] at hc)) | (refine KP_i (by (repeat' (first | exact Heap.Le.refl _ | (refine Le_known (by first | (simp only [Heap.set_same, set_ne, ne_eq, not_false_eq_true, *] <;> rfl) | fail) ?_) | (refine Le_fresh (by first | (simp only [*] <;> done) | (simp [set_none', Heap.set_same, set_ne, *] <;> done) | fail) ?_) | (refine Heap.Le.trans ?_ (Grow.le (by assumption)))))) ?_) | (with_reducible refine And.intro ?_ ?_)) <;> (try simp only [Sh,Si,Sl,Bu,Bb,Bd,Bc,Bw,Bn,Int.reduceAdd,Int.reduceSub,Int.reduceMul,Int.reduceTDiv,Int.reduceTMod,Int.reduceMod,Int.reduceDiv,Nat.reduceLT,Nat.reduceEqDiff,decide_true,decide_false,Sa,Sb,Sc,Sd,Se,Sf,Sg,true_and,and_true,and_self,eq_self,b_i64,b_i32,b_u64,b_u32,b_u8,Int.reduceLE,Int.reduceLT,Int.reduceToNat,Int.reduceNeg,Int.reduceEq,Nat.reduceLeDiff,Nat.reducePow,Int.reducePow,Nat.min_def,reduceIte,Nat.reduceSub,Nat.reduceAdd,Nat.reduceMul,KP_same,KP_f,condS_t,condS_f,pick_t,pick_f,gS_tt,gS_ff,gS_tf,gS_ft,gS_u,gP_tt,gP_ff,gP_tf,gP_ft,gP_u,ptrV_eq,slcV_eq,cells_agg,cells_int,cells_bool,cells_ptr,cells_slice,oc_int,oc_bool,oc_slice,oc_ptr,rd1_set,rd1_ne,rdn_set,rdn_ne,Heap.set_same,set_ne,Heap.set_set,set_up,set_up2,set_up3,putAt,ceq,List.map_cons,List.map_nil,List.length_cons,List.length_nil,List.length_set,List.cons_append,List.nil_append,List.append_nil,List.replicate,List.size_toArray,List.all_cons,List.all_nil,Bool.and_self,Bool.and_true,List.drop_zero,List.drop_succ_cons,List.take_succ_cons,List.take_zero,List.set_cons_zero,List.set_cons_succ,List.getElem?_cons_zero,List.getElem?_cons_succ,Option.map_some,Option.map_none,ne_eq,not_false_eq_true,not_true_eq_false,gt_iff_lt,ge_iff_le,Int.one_mul,Nat.zero_add,Nat.zero_mul,Bool.not_true,Bool.not_false,Bool.false_eq_true,Bool.and_false,Bool.false_and,Bool.true_and, *]))
    exact Fin_mk (by (repeat' (first | exact Heap.Le.refl _ | (refine Le_known (by first | (simp only [Heap.set_same, set_ne, ne_eq, not_false_eq_true, *] <;> rfl) | fail) ?_) | (refine Le_fresh (by first | (simp only [*] <;> done) | (simp [set_none', Heap.set_same, set_ne, *] <;> done) | fail) ?_) | (refine Heap.Le.trans ?_ (Grow.le (by assumption)))))) h
theorem side_div : ∀ n : Nat, n < 65 → 1 ≤ n → (64 : Int).tmod n = 0 → n = 1 ∨ n = 2 ∨ n = 4 ∨ n = 8 ∨ n = 16 ∨ n = 32 ∨ n = 64 := by decide
theorem mid {w i : Int} (hw : 1 ≤ w ∧ w ≤ 64) (hd : (64 : Int).tmod w = 0) (hi : 0 ≤ i ∧ i < w) : ∃ u, ((2 * i + 1) * 32768).tdiv w = u ∧ (0 ≤ u ∧ u ≤ 65536) ∧ plcI w u = i ∧ plcF w u = 0 ∧ nearP w u = i := by
  obtain ⟨n, rfl⟩ := Int.eq_ofNat_of_zero_le (show 0 ≤ w by omega)
  have hn := side_div n (by omega) (by omega) hd
  refine ⟨_, rfl, ?_⟩
  rw [Int.tdiv_eq_ediv_of_nonneg (by omega)]
  unfold plcI plcF nearP
  clear hd
  rcases hn with rfl | rfl | rfl | rfl | rfl | rfl | rfl <;> omega
theorem lin_mid (x : Im) (y : LvR) {u v i j : Int} (h1 : plcI y.w u = i) (h2 : plcI y.h v = j) (h3 : plcF y.w u = 0) (h4 : plcF y.h v = 0) : linI x y u v = colI x y i j := by
  unfold linI lin4
  funext k
  rw [h1, h2, h3, h4]
  omega
theorem c_Texels (x : Im) (hx : ImOk w0 H x) (n : Int) (hb : ¬ x.right ∨ ¬ x.has n) : ∃ e : Int, e ≠ 0 ∧ ∀ (G : Heap) (K : Value → Heap → Prop) (i j : Int), Grow w0 H G → K (.tuple #[z4, .int .i64 e]) G → HCalls Try.prog w0 18 [x.v, .int .i64 n, .int .i64 i, .int .i64 j] G K := by
  by_cases hr : x.right
  · exact ⟨4, by decide, fun G K i j g hk => c_Texel_none x (hx.grow g) n i j hr (by rcases hb with h | h; exact (h hr).elim; exact h) hk⟩
  · exact ⟨180, by decide, fun G K i j g hk => c_Texel_bad x (hx.grow g) n i j hr hk⟩
/- paintboxlaw09 SampleMiddles -/
def M9 : MC :=
  .seq (.reg [⟨(some 2), .box 29 (.tmp 0), none⟩,
     ⟨(some 3), .box 32 (.tmp 1), none⟩,
     ⟨(some 4), .mv (.const (.bool false)), none⟩])
  (.seq (.seq (.reg [⟨(some 18), .call 10 [], none⟩,
       ⟨(some 19), .un .not (.tmp 18), none⟩])
    (.cond (.tmp 19)
     (.seq (.reg [⟨(some 4), .mv (.const (.bool false)), none⟩])
      (.ret))
     (.skip)))
   (.seq (.seq (.reg [⟨(some 21), .ldn 6 (.tmp 2), none⟩,
        ⟨(some 22), .fa 3 (.tmp 3), none⟩,
        ⟨(some 23), .ld1 (.tmp 22), none⟩,
        ⟨(some 24), .call 18 [(.tmp 21), (.tmp 23), (.const (.int .i64 0)), (.const (.int .i64 0))], none⟩,
        ⟨(some 20), .mv (.tmp 24), none⟩,
        ⟨(some 25), .ext 0 (.tmp 20), none⟩,
        ⟨(some 26), .ext 1 (.tmp 20), none⟩,
        ⟨(some 5), .alloc 34 [(.int .i32 0), (.int .i32 0), (.int .i32 0), (.int .i32 0)], none⟩,
        ⟨none, .stn 4 (.tmp 5) (.tmp 25), none⟩,
        ⟨(some 6), .mv (.tmp 26), none⟩])
     (.seq (.reg [⟨(some 27), .mv (.tmp 6), none⟩,
         ⟨(some 28), .bin .neq (.tmp 27) (.const (.int .i64 0)), none⟩])
      (.cond (.tmp 28)
       (.seq (.reg [⟨(some 4), .mv (.const (.bool true)), none⟩])
        (.ret))
       (.skip))))
    (.seq (.reg [⟨(some 29), .fa 1 (.tmp 2), none⟩,
        ⟨(some 30), .ld1 (.tmp 29), none⟩,
        ⟨(some 31), .fa 3 (.tmp 3), none⟩,
        ⟨(some 32), .ld1 (.tmp 31), none⟩,
        ⟨(some 33), .is 3 (.tmp 30) (.tmp 32), none⟩,
        ⟨(some 34), .ldn 3 (.tmp 33), none⟩,
        ⟨(some 7), .alloc 51 [(.int .i64 0), (.int .i64 0), (.slice none 0 0)], none⟩,
        ⟨none, .stn 3 (.tmp 7) (.tmp 34), none⟩])
     (.seq (.seq (.reg [⟨(some 35), .fa 0 (.tmp 7), none⟩,
          ⟨(some 36), .ld1 (.tmp 35), none⟩,
          ⟨(some 37), .bin .rem (.const (.int .i64 64)) (.tmp 36), none⟩,
          ⟨(some 38), .bin .neq (.tmp 37) (.const (.int .i64 0)), none⟩,
          ⟨(some 39), .mv (.tmp 38), none⟩,
          ⟨(some 40), .fa 1 (.tmp 7), (some (39, false))⟩,
          ⟨(some 41), .ld1 (.tmp 40), (some (39, false))⟩,
          ⟨(some 42), .bin .rem (.const (.int .i64 64)) (.tmp 41), (some (39, false))⟩,
          ⟨(some 43), .bin .neq (.tmp 42) (.const (.int .i64 0)), (some (39, false))⟩,
          ⟨(some 44), .pick (.tmp 39) (.const (.bool true)) (.tmp 43), none⟩])
       (.cond (.tmp 44)
        (.seq (.reg [⟨(some 4), .mv (.const (.bool true)), none⟩])
         (.ret))
        (.skip)))
      (.seq (.any [(true, true, ⟨(some 45), .fa 4 (.tmp 3), none⟩),
          (true, true, ⟨(some 46), .ld1 (.tmp 45), none⟩),
          (true, true, ⟨(some 47), .mx (.tmp 46) (.const (.int .i64 0)), none⟩),
          (true, true, ⟨(some 48), .fa 0 (.tmp 7), none⟩),
          (true, true, ⟨(some 49), .ld1 (.tmp 48), none⟩),
          (true, true, ⟨(some 50), .bin .rem (.tmp 47) (.tmp 49), none⟩),
          (true, true, ⟨(some 51), .fa 5 (.tmp 3), none⟩),
          (true, true, ⟨(some 52), .ld1 (.tmp 51), none⟩),
          (true, true, ⟨(some 53), .mx (.tmp 52) (.const (.int .i64 0)), none⟩),
          (true, true, ⟨(some 54), .fa 1 (.tmp 7), none⟩),
          (true, true, ⟨(some 55), .ld1 (.tmp 54), none⟩),
          (true, true, ⟨(some 56), .bin .rem (.tmp 53) (.tmp 55), none⟩),
          (false, true, ⟨(some 8), .mv (.tmp 50), none⟩),
          (false, false, ⟨(some 9), .mv (.tmp 56), none⟩)])
       (.seq (.any [(true, true, ⟨(some 57), .mv (.tmp 8), none⟩),
           (true, true, ⟨(some 58), .bin .mul (.const (.int .i64 2)) (.tmp 57), none⟩),
           (true, true, ⟨(some 59), .bin .add (.tmp 58) (.const (.int .i64 1)), none⟩),
           (true, true, ⟨(some 60), .bin .mul (.tmp 59) (.const (.int .i64 32768)), none⟩),
           (true, true, ⟨(some 61), .fa 0 (.tmp 7), none⟩),
           (true, true, ⟨(some 62), .ld1 (.tmp 61), none⟩),
           (true, true, ⟨(some 63), .bin .quo (.tmp 60) (.tmp 62), none⟩),
           (true, true, ⟨(some 64), .conv .i32 (.tmp 63), none⟩),
           (true, true, ⟨(some 65), .mv (.tmp 9), none⟩),
           (true, true, ⟨(some 66), .bin .mul (.const (.int .i64 2)) (.tmp 65), none⟩),
           (true, true, ⟨(some 67), .bin .add (.tmp 66) (.const (.int .i64 1)), none⟩),
           (true, true, ⟨(some 68), .bin .mul (.tmp 67) (.const (.int .i64 32768)), none⟩),
           (true, true, ⟨(some 69), .fa 1 (.tmp 7), none⟩),
           (true, true, ⟨(some 70), .ld1 (.tmp 69), none⟩),
           (true, true, ⟨(some 71), .bin .quo (.tmp 68) (.tmp 70), none⟩),
           (true, true, ⟨(some 72), .conv .i32 (.tmp 71), none⟩),
           (false, true, ⟨(some 10), .mv (.tmp 64), none⟩),
           (false, false, ⟨(some 11), .mv (.tmp 72), none⟩)])
        (.seq (.reg [⟨(some 74), .ldn 6 (.tmp 2), none⟩,
            ⟨(some 75), .fa 3 (.tmp 3), none⟩,
            ⟨(some 76), .ld1 (.tmp 75), none⟩,
            ⟨(some 77), .mv (.tmp 8), none⟩,
            ⟨(some 78), .mv (.tmp 9), none⟩,
            ⟨(some 79), .call 18 [(.tmp 74), (.tmp 76), (.tmp 77), (.tmp 78)], none⟩,
            ⟨(some 73), .mv (.tmp 79), none⟩,
            ⟨(some 80), .ext 0 (.tmp 73), none⟩,
            ⟨(some 81), .ext 1 (.tmp 73), none⟩,
            ⟨(some 12), .alloc 34 [(.int .i32 0), (.int .i32 0), (.int .i32 0), (.int .i32 0)], none⟩,
            ⟨none, .stn 4 (.tmp 12) (.tmp 80), none⟩,
            ⟨(some 13), .mv (.tmp 81), none⟩])
         (.seq (.reg [⟨(some 83), .ldn 6 (.tmp 2), none⟩,
             ⟨(some 84), .fa 3 (.tmp 3), none⟩,
             ⟨(some 85), .ld1 (.tmp 84), none⟩,
             ⟨(some 86), .mv (.tmp 10), none⟩,
             ⟨(some 87), .mv (.tmp 11), none⟩,
             ⟨(some 88), .call 21 [(.tmp 83), (.tmp 85), (.tmp 86), (.tmp 87)], none⟩,
             ⟨(some 82), .mv (.tmp 88), none⟩,
             ⟨(some 89), .ext 0 (.tmp 82), none⟩,
             ⟨(some 90), .ext 1 (.tmp 82), none⟩,
             ⟨(some 14), .alloc 34 [(.int .i32 0), (.int .i32 0), (.int .i32 0), (.int .i32 0)], none⟩,
             ⟨none, .stn 4 (.tmp 14) (.tmp 89), none⟩,
             ⟨(some 15), .mv (.tmp 90), none⟩])
          (.seq (.reg [⟨(some 92), .ldn 6 (.tmp 2), none⟩,
              ⟨(some 93), .fa 3 (.tmp 3), none⟩,
              ⟨(some 94), .ld1 (.tmp 93), none⟩,
              ⟨(some 95), .mv (.tmp 10), none⟩,
              ⟨(some 96), .mv (.tmp 11), none⟩,
              ⟨(some 97), .call 22 [(.tmp 92), (.tmp 94), (.tmp 95), (.tmp 96)], none⟩,
              ⟨(some 91), .mv (.tmp 97), none⟩,
              ⟨(some 98), .ext 0 (.tmp 91), none⟩,
              ⟨(some 99), .ext 1 (.tmp 91), none⟩,
              ⟨(some 16), .alloc 34 [(.int .i32 0), (.int .i32 0), (.int .i32 0), (.int .i32 0)], none⟩,
              ⟨none, .stn 4 (.tmp 16) (.tmp 98), none⟩,
              ⟨(some 17), .mv (.tmp 99), none⟩])
           (.seq (.reg [⟨(some 100), .mv (.tmp 13), none⟩,
               ⟨(some 101), .bin .eql (.tmp 100) (.const (.int .i64 0)), none⟩,
               ⟨(some 102), .mv (.tmp 101), none⟩,
               ⟨(some 103), .mv (.tmp 15), (some (102, true))⟩,
               ⟨(some 104), .bin .eql (.tmp 103) (.const (.int .i64 0)), (some (102, true))⟩,
               ⟨(some 105), .pick (.tmp 102) (.tmp 104) (.const (.bool false)), none⟩,
               ⟨(some 106), .mv (.tmp 105), none⟩,
               ⟨(some 107), .mv (.tmp 17), (some (106, true))⟩,
               ⟨(some 108), .bin .eql (.tmp 107) (.const (.int .i64 0)), (some (106, true))⟩,
               ⟨(some 109), .pick (.tmp 106) (.tmp 108) (.const (.bool false)), none⟩,
               ⟨(some 110), .mv (.tmp 109), none⟩,
               ⟨(some 111), .ldn 4 (.tmp 14), (some (110, true))⟩,
               ⟨(some 112), .ldn 4 (.tmp 12), (some (110, true))⟩,
               ⟨(some 113), .eqa false 4 (.tmp 111) (.tmp 112), (some (110, true))⟩,
               ⟨(some 114), .pick (.tmp 110) (.tmp 113) (.const (.bool false)), none⟩,
               ⟨(some 115), .mv (.tmp 114), none⟩,
               ⟨(some 116), .ldn 4 (.tmp 16), (some (115, true))⟩,
               ⟨(some 117), .ldn 4 (.tmp 12), (some (115, true))⟩,
               ⟨(some 118), .eqa false 4 (.tmp 116) (.tmp 117), (some (115, true))⟩,
               ⟨(some 119), .pick (.tmp 115) (.tmp 118) (.const (.bool false)), none⟩,
               ⟨(some 4), .mv (.tmp 119), none⟩])
            (.ret)))))))))))
theorem k9 : fnOk Try.prog 9 = some (M9, [.t 4], 120) := by kernel_rfl

theorem l_SampleMiddles (x : Im) (hx : ImOk w0 H x) (u v lod n i j : Int) (hi : I64 i) (hj : I64 j) (h : K (.bool true) H) : HCalls Try.prog w0 9 [x.v, AtV u v lod n i j] H K := by
  by_cases hb : x.right ∧ x.has n
  · obtain ⟨hr, k, y, rfl, ek, hw⟩ := hb
    have hl := lvl_of hr hx ek hw
    have hyw := hl.w
    have hyh := hl.h
    obtain ⟨b, o, ea, hrd, hf⟩ := im_row hx ek
    have hlt : (k : Int) < (x.ls.length : Int) := by have := (List.getElem?_eq_some_iff.1 ek).1; omega
    have cT : ∀ (G : Heap) (K : Value → Heap → Prop) (i j : Int), Grow w0 H G → I64 i → I64 j → K (.tuple #[V4 (colI x y i j), .int .i64 0]) G → HCalls Try.prog w0 18 [x.v, .int .i64 (k : Nat), .int .i64 i, .int .i64 j] G K :=
      fun G K i j g hi hj hk => c_Texel_ok x (hx.grow g) k y i j hi hj hr ek hw hk
    have cN : ∀ (G : Heap) (K : Value → Heap → Prop) (u v : Int), Grow w0 H G → I32 u → I32 v → K (.tuple #[V4 (colI x y (nearP y.w u) (nearP y.h v)), .int .i64 0]) G → HCalls Try.prog w0 21 [x.v, .int .i64 (k : Nat), .int .i32 u, .int .i32 v] G K :=
      fun G K u v g hu hv hk => c_Nearest_ok x (hx.grow g) k y u v hu hv hr ek hw hk
    have cL : ∀ (G : Heap) (K : Value → Heap → Prop) (u v : Int), Grow w0 H G → I32 u → I32 v → K (.tuple #[V4 (linI x y u v), .int .i64 0]) G → HCalls Try.prog w0 22 [x.v, .int .i64 (k : Nat), .int .i32 u, .int .i32 v] G K :=
      fun G K u v g hu hv hk => c_Linear_ok x (hx.grow g) k y u v hu hv hr ek hw hk
    have zz : I64 0 := by unfold I64; omega
    have nw : ¬ y.w = 0 := by omega
    have nh : ¬ y.h = 0 := by omega
    by_cases hd : (64 : Int).tmod y.w = 0 ∧ (64 : Int).tmod y.h = 0
    · obtain ⟨a, ea'⟩ : ∃ a, (if i < 0 then 0 else i) = a := ⟨_, rfl⟩
      have ha : 0 ≤ a := by rw [← ea']; split <;> omega
      obtain ⟨c, ec'⟩ : ∃ a, (if j < 0 then 0 else j) = a := ⟨_, rfl⟩
      have hc : 0 ≤ c := by rw [← ec']; split <;> omega
      obtain ⟨p, ep⟩ : ∃ p, a.tmod y.w = p := ⟨_, rfl⟩
      have hp : 0 ≤ p ∧ p < y.w := by
        rw [Int.tmod_eq_emod_of_nonneg ha] at ep
        rw [← ep]
        exact ⟨Int.emod_nonneg _ nw, Int.emod_lt_of_pos _ (by omega)⟩
      obtain ⟨q, eq⟩ : ∃ p, c.tmod y.h = p := ⟨_, rfl⟩
      have hq : 0 ≤ q ∧ q < y.h := by
        rw [Int.tmod_eq_emod_of_nonneg hc] at eq
        rw [← eq]
        exact ⟨Int.emod_nonneg _ nh, Int.emod_lt_of_pos _ (by omega)⟩
      obtain ⟨U, eU, hU, p1, p2, p3⟩ := mid hyw hd.1 hp
      obtain ⟨V, eV, hV, q1, q2, q3⟩ := mid hyh hd.2 hq
      obtain ⟨hd1, hd2⟩ := hd
      have u1 : IntKind.i64.wrap U = U := Bw.1 _ (by omega) (by omega)
      have u2 : IntKind.i32.wrap U = U := Bw.2 _ (by omega) (by omega)
      have v1 : IntKind.i64.wrap V = V := Bw.1 _ (by omega) (by omega)
      have v2 : IntKind.i32.wrap V = V := Bw.2 _ (by omega) (by omega)
      have m1 : IntKind.i64.wrap (2 * p) = 2 * p := Bw.1 _ (by omega) (by omega)
      have m2 : IntKind.i64.wrap (2 * p + 1) = 2 * p + 1 := Bw.1 _ (by omega) (by omega)
      have m3 : IntKind.i64.wrap ((2 * p + 1) * 32768) = (2 * p + 1) * 32768 := Bw.1 _ (by omega) (by omega)
      have m4 : IntKind.i64.wrap (2 * q) = 2 * q := Bw.1 _ (by omega) (by omega)
      have m5 : IntKind.i64.wrap (2 * q + 1) = 2 * q + 1 := Bw.1 _ (by omega) (by omega)
      have m6 : IntKind.i64.wrap ((2 * q + 1) * 32768) = (2 * q + 1) * 32768 := Bw.1 _ (by omega) (by omega)
      have iU : I32 U := by unfold I32; omega
      have iV : I32 V := by unfold I32; omega
      have ip : I64 p := by unfold I64; omega
      have iq : I64 q := by unfold I64; omega
      have cN' := fun G K g => cN G K U V g iU iV
      have cL' := fun G K g => cL G K U V g iU iV
      rw [lin_mid x y p1 q1 p2 q2] at cL'
      rw [p3, q3] at cN'
      clear cN cL p1 p2 p3 q1 q2 q3 hl hr hx ek hU hV ha hc hp hq iU iV hi hj hw hyw hyh
      generalize colI x y = C at *
      unfold Im.v at cT cN' cL' ⊢
      rw [ea] at cT cN' cL' ⊢
      refine HL.hc k9 2500 ?_; unfold M9
      (all_goals (refine (fun f : True → _ => f trivial) ?_)); repeat' ((first | (with_reducible refine fun _ : True => ?_) | refine x_Wakes ?_ | refine cT _ _ 0 0 (by (repeat' (first | exact Grow.refl _ | assumption | (refine Grow_known (by first | (simp only [Heap.set_same, set_ne, ne_eq, not_false_eq_true, *] <;> rfl) | fail) ?_) | (refine Grow.set ?_ (by assumption) (by first | (simp only [*] <;> done) | (simp [set_none', Heap.set_same, set_ne, *] <;> done) | fail)) | (refine Grow.trans ?_ (by assumption))))) zz zz ?_ | refine cT _ _ p q (by (repeat' (first | exact Grow.refl _ | assumption | (refine Grow_known (by first | (simp only [Heap.set_same, set_ne, ne_eq, not_false_eq_true, *] <;> rfl) | fail) ?_) | (refine Grow.set ?_ (by assumption) (by first | (simp only [*] <;> done) | (simp [set_none', Heap.set_same, set_ne, *] <;> done) | fail)) | (refine Grow.trans ?_ (by assumption))))) ip iq ?_ | refine cN' _ _ (by (repeat' (first | exact Grow.refl _ | assumption | (refine Grow_known (by first | (simp only [Heap.set_same, set_ne, ne_eq, not_false_eq_true, *] <;> rfl) | fail) ?_) | (refine Grow.set ?_ (by assumption) (by first | (simp only [*] <;> done) | (simp [set_none', Heap.set_same, set_ne, *] <;> done) | fail)) | (refine Grow.trans ?_ (by assumption))))) ?_ | refine cL' _ _ (by (repeat' (first | exact Grow.refl _ | assumption | (refine Grow_known (by first | (simp only [Heap.set_same, set_ne, ne_eq, not_false_eq_true, *] <;> rfl) | fail) ?_) | (refine Grow.set ?_ (by assumption) (by first | (simp only [*] <;> done) | (simp [set_none', Heap.set_same, set_ne, *] <;> done) | fail)) | (refine Grow.trans ?_ (by assumption))))) ?_ | (refine AllocQ_i ?_; intro bk hb0 hbk; (try simp only [set_none'] at hbk); (try (first | have hbn := Grow.none (by assumption) hbk | have hbn := Grow.none (by assumption) hbk.2 | have hbn := Grow.none (by assumption) hbk.2.2 | have hbn := Grow.none (by assumption) hbk.2.2.2 | have hbn := Grow.none (by assumption) hbk.2.2.2.2 | have hbn := Grow.none (by assumption) hbk.2.2.2.2.2)); (try simp only [set_none'] at hbn); (try (first | have hbm := Grow.none (by assumption) hbn | have hbm := Grow.none (by assumption) hbn.2 | have hbm := Grow.none (by assumption) hbn.2.2 | have hbm := Grow.none (by assumption) hbn.2.2.2 | have hbm := Grow.none (by assumption) hbn.2.2.2.2 | have hbm := Grow.none (by assumption) hbn.2.2.2.2.2)); (try simp only [set_none'] at hbm)) | ((first | refine condS_i ?_ ?_ | refine pick_i ?_ ?_ | refine gS_it ?_ ?_ | refine gS_if ?_ ?_ | refine gP_it ?_ ?_ | refine gP_if ?_ ?_) <;> (intro hc; try simp only [Int.reduceLE,Int.reduceLT,Int.reduceEq,and_self,not_true_eq_false,not_false_eq_true,and_true,true_and,false_and,and_false,true_or,or_true,false_or,or_false,decide_eq_true_eq,decide_eq_false_iff_not,beq_iff_eq,beq_eq_false_iff_ne,bne_iff_ne,ne_eq,gt_iff_lt,ge_iff_le,Bool.not_eq_true,Bool.not_eq_false,Bool.not_eq_true',Bool.not_eq_false',Bool.not_eq_eq_eq_not,Bool.not_true,Bool.not_false] at hc)) | (refine KP_i (by (repeat' (first | exact Heap.Le.refl _ | (refine Le_known (by first | (simp only [Heap.set_same, set_ne, ne_eq, not_false_eq_true, *] <;> rfl) | fail) ?_) | (refine Le_fresh (by first | (simp only [*] <;> done) | (simp [set_none', Heap.set_same, set_ne, *] <;> done) | fail) ?_) | (refine Heap.Le.trans ?_ (Grow.le (by assumption)))))) ?_) | (with_reducible refine And.intro ?_ ?_)) <;> (try simp only [Sh,Si,Sl,Bu,Bb,Bd,Bc,Bw,Bn,Int.reduceAdd,Int.reduceSub,Int.reduceMul,Int.reduceTDiv,Int.reduceTMod,Int.reduceMod,Int.reduceDiv,Nat.reduceLT,Nat.reduceEqDiff,decide_true,decide_false,Sa,Sb,Sc,Sd,Se,Sf,Sg,true_and,and_true,and_self,eq_self,b_i64,b_i32,b_u64,b_u32,b_u8,Int.reduceLE,Int.reduceLT,Int.reduceToNat,Int.reduceNeg,Int.reduceEq,Nat.reduceLeDiff,Nat.reducePow,Int.reducePow,Nat.min_def,reduceIte,Nat.reduceSub,Nat.reduceAdd,Nat.reduceMul,KP_same,KP_f,condS_t,condS_f,pick_t,pick_f,gS_tt,gS_ff,gS_tf,gS_ft,gS_u,gP_tt,gP_ff,gP_tf,gP_ft,gP_u,ptrV_eq,slcV_eq,cells_agg,cells_int,cells_bool,cells_ptr,cells_slice,oc_int,oc_bool,oc_slice,oc_ptr,rd1_set,rd1_ne,rdn_set,rdn_ne,Heap.set_same,set_ne,Heap.set_set,set_up,set_up2,set_up3,putAt,ceq,List.map_cons,List.map_nil,List.length_cons,List.length_nil,List.length_set,List.cons_append,List.nil_append,List.append_nil,List.replicate,List.size_toArray,List.all_cons,List.all_nil,Bool.and_self,Bool.and_true,List.drop_zero,List.drop_succ_cons,List.take_succ_cons,List.take_zero,List.set_cons_zero,List.set_cons_succ,List.getElem?_cons_zero,List.getElem?_cons_succ,Option.map_some,Option.map_none,ne_eq,not_false_eq_true,not_true_eq_false,gt_iff_lt,ge_iff_le,Int.one_mul,Nat.zero_add,Nat.zero_mul,Bool.not_true,Bool.not_false,Bool.false_eq_true,Bool.and_false,Bool.false_and,Bool.true_and, *]))
      all_goals exact Fin_mk (by (repeat' (first | exact Heap.Le.refl _ | (refine Le_known (by first | (simp only [Heap.set_same, set_ne, ne_eq, not_false_eq_true, *] <;> rfl) | fail) ?_) | (refine Le_fresh (by first | (simp only [*] <;> done) | (simp [set_none', Heap.set_same, set_ne, *] <;> done) | fail) ?_) | (refine Heap.Le.trans ?_ (Grow.le (by assumption)))))) h
    · clear hl hr hx ek hw hyw hyh cN cL
      generalize colI x y = C at *
      unfold Im.v at cT ⊢
      rw [ea] at cT ⊢
      by_cases hd1 : (64 : Int).tmod y.w = 0
      · have hd2 : ¬ (64 : Int).tmod y.h = 0 := fun e => hd ⟨hd1, e⟩
        clear hd
        refine HL.hc k9 2500 ?_; unfold M9
        (all_goals (refine (fun f : True → _ => f trivial) ?_)); repeat' ((first | (with_reducible refine fun _ : True => ?_) | refine x_Wakes ?_ | refine cT _ _ 0 0 (by (repeat' (first | exact Grow.refl _ | assumption | (refine Grow_known (by first | (simp only [Heap.set_same, set_ne, ne_eq, not_false_eq_true, *] <;> rfl) | fail) ?_) | (refine Grow.set ?_ (by assumption) (by first | (simp only [*] <;> done) | (simp [set_none', Heap.set_same, set_ne, *] <;> done) | fail)) | (refine Grow.trans ?_ (by assumption))))) zz zz ?_ | (refine AllocQ_i ?_; intro bk hb0 hbk; (try simp only [set_none'] at hbk); (try (first | have hbn := Grow.none (by assumption) hbk | have hbn := Grow.none (by assumption) hbk.2 | have hbn := Grow.none (by assumption) hbk.2.2 | have hbn := Grow.none (by assumption) hbk.2.2.2 | have hbn := Grow.none (by assumption) hbk.2.2.2.2 | have hbn := Grow.none (by assumption) hbk.2.2.2.2.2)); (try simp only [set_none'] at hbn); (try (first | have hbm := Grow.none (by assumption) hbn | have hbm := Grow.none (by assumption) hbn.2 | have hbm := Grow.none (by assumption) hbn.2.2 | have hbm := Grow.none (by assumption) hbn.2.2.2 | have hbm := Grow.none (by assumption) hbn.2.2.2.2 | have hbm := Grow.none (by assumption) hbn.2.2.2.2.2)); (try simp only [set_none'] at hbm)) | ((first | refine condS_i ?_ ?_ | refine pick_i ?_ ?_ | refine gS_it ?_ ?_ | refine gS_if ?_ ?_ | refine gP_it ?_ ?_ | refine gP_if ?_ ?_) <;> (intro hc; try simp only [Int.reduceLE,Int.reduceLT,Int.reduceEq,and_self,not_true_eq_false,not_false_eq_true,and_true,true_and,false_and,and_false,true_or,or_true,false_or,or_false,decide_eq_true_eq,decide_eq_false_iff_not,beq_iff_eq,beq_eq_false_iff_ne,bne_iff_ne,ne_eq,gt_iff_lt,ge_iff_le,Bool.not_eq_true,Bool.not_eq_false,Bool.not_eq_true',Bool.not_eq_false',Bool.not_eq_eq_eq_not,Bool.not_true,Bool.not_false] at hc)) | (refine KP_i (by (repeat' (first | exact Heap.Le.refl _ | (refine Le_known (by first | (simp only [Heap.set_same, set_ne, ne_eq, not_false_eq_true, *] <;> rfl) | fail) ?_) | (refine Le_fresh (by first | (simp only [*] <;> done) | (simp [set_none', Heap.set_same, set_ne, *] <;> done) | fail) ?_) | (refine Heap.Le.trans ?_ (Grow.le (by assumption)))))) ?_) | (with_reducible refine And.intro ?_ ?_)) <;> (try simp only [Sh,Si,Sl,Bu,Bb,Bd,Bc,Bw,Bn,Int.reduceAdd,Int.reduceSub,Int.reduceMul,Int.reduceTDiv,Int.reduceTMod,Int.reduceMod,Int.reduceDiv,Nat.reduceLT,Nat.reduceEqDiff,decide_true,decide_false,Sa,Sb,Sc,Sd,Se,Sf,Sg,true_and,and_true,and_self,eq_self,b_i64,b_i32,b_u64,b_u32,b_u8,Int.reduceLE,Int.reduceLT,Int.reduceToNat,Int.reduceNeg,Int.reduceEq,Nat.reduceLeDiff,Nat.reducePow,Int.reducePow,Nat.min_def,reduceIte,Nat.reduceSub,Nat.reduceAdd,Nat.reduceMul,KP_same,KP_f,condS_t,condS_f,pick_t,pick_f,gS_tt,gS_ff,gS_tf,gS_ft,gS_u,gP_tt,gP_ff,gP_tf,gP_ft,gP_u,ptrV_eq,slcV_eq,cells_agg,cells_int,cells_bool,cells_ptr,cells_slice,oc_int,oc_bool,oc_slice,oc_ptr,rd1_set,rd1_ne,rdn_set,rdn_ne,Heap.set_same,set_ne,Heap.set_set,set_up,set_up2,set_up3,putAt,ceq,List.map_cons,List.map_nil,List.length_cons,List.length_nil,List.length_set,List.cons_append,List.nil_append,List.append_nil,List.replicate,List.size_toArray,List.all_cons,List.all_nil,Bool.and_self,Bool.and_true,List.drop_zero,List.drop_succ_cons,List.take_succ_cons,List.take_zero,List.set_cons_zero,List.set_cons_succ,List.getElem?_cons_zero,List.getElem?_cons_succ,Option.map_some,Option.map_none,ne_eq,not_false_eq_true,not_true_eq_false,gt_iff_lt,ge_iff_le,Int.one_mul,Nat.zero_add,Nat.zero_mul,Bool.not_true,Bool.not_false,Bool.false_eq_true,Bool.and_false,Bool.false_and,Bool.true_and, *]))
        all_goals exact Fin_mk (by (repeat' (first | exact Heap.Le.refl _ | (refine Le_known (by first | (simp only [Heap.set_same, set_ne, ne_eq, not_false_eq_true, *] <;> rfl) | fail) ?_) | (refine Le_fresh (by first | (simp only [*] <;> done) | (simp [set_none', Heap.set_same, set_ne, *] <;> done) | fail) ?_) | (refine Heap.Le.trans ?_ (Grow.le (by assumption)))))) h
      · clear hd
        refine HL.hc k9 2500 ?_; unfold M9
        (all_goals (refine (fun f : True → _ => f trivial) ?_)); repeat' ((first | (with_reducible refine fun _ : True => ?_) | refine x_Wakes ?_ | refine cT _ _ 0 0 (by (repeat' (first | exact Grow.refl _ | assumption | (refine Grow_known (by first | (simp only [Heap.set_same, set_ne, ne_eq, not_false_eq_true, *] <;> rfl) | fail) ?_) | (refine Grow.set ?_ (by assumption) (by first | (simp only [*] <;> done) | (simp [set_none', Heap.set_same, set_ne, *] <;> done) | fail)) | (refine Grow.trans ?_ (by assumption))))) zz zz ?_ | (refine AllocQ_i ?_; intro bk hb0 hbk; (try simp only [set_none'] at hbk); (try (first | have hbn := Grow.none (by assumption) hbk | have hbn := Grow.none (by assumption) hbk.2 | have hbn := Grow.none (by assumption) hbk.2.2 | have hbn := Grow.none (by assumption) hbk.2.2.2 | have hbn := Grow.none (by assumption) hbk.2.2.2.2 | have hbn := Grow.none (by assumption) hbk.2.2.2.2.2)); (try simp only [set_none'] at hbn); (try (first | have hbm := Grow.none (by assumption) hbn | have hbm := Grow.none (by assumption) hbn.2 | have hbm := Grow.none (by assumption) hbn.2.2 | have hbm := Grow.none (by assumption) hbn.2.2.2 | have hbm := Grow.none (by assumption) hbn.2.2.2.2 | have hbm := Grow.none (by assumption) hbn.2.2.2.2.2)); (try simp only [set_none'] at hbm)) | ((first | refine condS_i ?_ ?_ | refine pick_i ?_ ?_ | refine gS_it ?_ ?_ | refine gS_if ?_ ?_ | refine gP_it ?_ ?_ | refine gP_if ?_ ?_) <;> (intro hc; try simp only [Int.reduceLE,Int.reduceLT,Int.reduceEq,and_self,not_true_eq_false,not_false_eq_true,and_true,true_and,false_and,and_false,true_or,or_true,false_or,or_false,decide_eq_true_eq,decide_eq_false_iff_not,beq_iff_eq,beq_eq_false_iff_ne,bne_iff_ne,ne_eq,gt_iff_lt,ge_iff_le,Bool.not_eq_true,Bool.not_eq_false,Bool.not_eq_true',Bool.not_eq_false',Bool.not_eq_eq_eq_not,Bool.not_true,Bool.not_false] at hc)) | (refine KP_i (by (repeat' (first | exact Heap.Le.refl _ | (refine Le_known (by first | (simp only [Heap.set_same, set_ne, ne_eq, not_false_eq_true, *] <;> rfl) | fail) ?_) | (refine Le_fresh (by first | (simp only [*] <;> done) | (simp [set_none', Heap.set_same, set_ne, *] <;> done) | fail) ?_) | (refine Heap.Le.trans ?_ (Grow.le (by assumption)))))) ?_) | (with_reducible refine And.intro ?_ ?_)) <;> (try simp only [Sh,Si,Sl,Bu,Bb,Bd,Bc,Bw,Bn,Int.reduceAdd,Int.reduceSub,Int.reduceMul,Int.reduceTDiv,Int.reduceTMod,Int.reduceMod,Int.reduceDiv,Nat.reduceLT,Nat.reduceEqDiff,decide_true,decide_false,Sa,Sb,Sc,Sd,Se,Sf,Sg,true_and,and_true,and_self,eq_self,b_i64,b_i32,b_u64,b_u32,b_u8,Int.reduceLE,Int.reduceLT,Int.reduceToNat,Int.reduceNeg,Int.reduceEq,Nat.reduceLeDiff,Nat.reducePow,Int.reducePow,Nat.min_def,reduceIte,Nat.reduceSub,Nat.reduceAdd,Nat.reduceMul,KP_same,KP_f,condS_t,condS_f,pick_t,pick_f,gS_tt,gS_ff,gS_tf,gS_ft,gS_u,gP_tt,gP_ff,gP_tf,gP_ft,gP_u,ptrV_eq,slcV_eq,cells_agg,cells_int,cells_bool,cells_ptr,cells_slice,oc_int,oc_bool,oc_slice,oc_ptr,rd1_set,rd1_ne,rdn_set,rdn_ne,Heap.set_same,set_ne,Heap.set_set,set_up,set_up2,set_up3,putAt,ceq,List.map_cons,List.map_nil,List.length_cons,List.length_nil,List.length_set,List.cons_append,List.nil_append,List.append_nil,List.replicate,List.size_toArray,List.all_cons,List.all_nil,Bool.and_self,Bool.and_true,List.drop_zero,List.drop_succ_cons,List.take_succ_cons,List.take_zero,List.set_cons_zero,List.set_cons_succ,List.getElem?_cons_zero,List.getElem?_cons_succ,Option.map_some,Option.map_none,ne_eq,not_false_eq_true,not_true_eq_false,gt_iff_lt,ge_iff_le,Int.one_mul,Nat.zero_add,Nat.zero_mul,Bool.not_true,Bool.not_false,Bool.false_eq_true,Bool.and_false,Bool.false_and,Bool.true_and, *]))
        all_goals exact Fin_mk (by (repeat' (first | exact Heap.Le.refl _ | (refine Le_known (by first | (simp only [Heap.set_same, set_ne, ne_eq, not_false_eq_true, *] <;> rfl) | fail) ?_) | (refine Le_fresh (by first | (simp only [*] <;> done) | (simp [set_none', Heap.set_same, set_ne, *] <;> done) | fail) ?_) | (refine Heap.Le.trans ?_ (Grow.le (by assumption)))))) h
  · obtain ⟨e, he, cT⟩ := c_Texels x hx n (by by_cases hr : x.right; exact .inr fun hh => hb ⟨hr, hh⟩; exact .inl hr)
    clear hb hx
    unfold Im.v at cT ⊢
    refine HL.hc k9 2500 ?_; unfold M9
    (all_goals (refine (fun f : True → _ => f trivial) ?_)); repeat' ((first | (with_reducible refine fun _ : True => ?_) | refine x_Wakes ?_ | refine cT _ _ _ _ (by (repeat' (first | exact Grow.refl _ | assumption | (refine Grow_known (by first | (simp only [Heap.set_same, set_ne, ne_eq, not_false_eq_true, *] <;> rfl) | fail) ?_) | (refine Grow.set ?_ (by assumption) (by first | (simp only [*] <;> done) | (simp [set_none', Heap.set_same, set_ne, *] <;> done) | fail)) | (refine Grow.trans ?_ (by assumption))))) ?_ | (refine AllocQ_i ?_; intro bk hb0 hbk; (try simp only [set_none'] at hbk); (try (first | have hbn := Grow.none (by assumption) hbk | have hbn := Grow.none (by assumption) hbk.2 | have hbn := Grow.none (by assumption) hbk.2.2 | have hbn := Grow.none (by assumption) hbk.2.2.2 | have hbn := Grow.none (by assumption) hbk.2.2.2.2 | have hbn := Grow.none (by assumption) hbk.2.2.2.2.2)); (try simp only [set_none'] at hbn); (try (first | have hbm := Grow.none (by assumption) hbn | have hbm := Grow.none (by assumption) hbn.2 | have hbm := Grow.none (by assumption) hbn.2.2 | have hbm := Grow.none (by assumption) hbn.2.2.2 | have hbm := Grow.none (by assumption) hbn.2.2.2.2 | have hbm := Grow.none (by assumption) hbn.2.2.2.2.2)); (try simp only [set_none'] at hbm)) | ((first | refine condS_i ?_ ?_ | refine pick_i ?_ ?_ | refine gS_it ?_ ?_ | refine gS_if ?_ ?_ | refine gP_it ?_ ?_ | refine gP_if ?_ ?_) <;> (intro hc; try simp only [Int.reduceLE,Int.reduceLT,Int.reduceEq,and_self,not_true_eq_false,not_false_eq_true,and_true,true_and,false_and,and_false,true_or,or_true,false_or,or_false,decide_eq_true_eq,decide_eq_false_iff_not,beq_iff_eq,beq_eq_false_iff_ne,bne_iff_ne,ne_eq,gt_iff_lt,ge_iff_le,Bool.not_eq_true,Bool.not_eq_false,Bool.not_eq_true',Bool.not_eq_false',Bool.not_eq_eq_eq_not,Bool.not_true,Bool.not_false] at hc)) | (refine KP_i (by (repeat' (first | exact Heap.Le.refl _ | (refine Le_known (by first | (simp only [Heap.set_same, set_ne, ne_eq, not_false_eq_true, *] <;> rfl) | fail) ?_) | (refine Le_fresh (by first | (simp only [*] <;> done) | (simp [set_none', Heap.set_same, set_ne, *] <;> done) | fail) ?_) | (refine Heap.Le.trans ?_ (Grow.le (by assumption)))))) ?_) | (with_reducible refine And.intro ?_ ?_)) <;> (try simp only [Sh,Si,Sl,Bu,Bb,Bd,Bc,Bw,Bn,Int.reduceAdd,Int.reduceSub,Int.reduceMul,Int.reduceTDiv,Int.reduceTMod,Int.reduceMod,Int.reduceDiv,Nat.reduceLT,Nat.reduceEqDiff,decide_true,decide_false,Sa,Sb,Sc,Sd,Se,Sf,Sg,true_and,and_true,and_self,eq_self,b_i64,b_i32,b_u64,b_u32,b_u8,Int.reduceLE,Int.reduceLT,Int.reduceToNat,Int.reduceNeg,Int.reduceEq,Nat.reduceLeDiff,Nat.reducePow,Int.reducePow,Nat.min_def,reduceIte,Nat.reduceSub,Nat.reduceAdd,Nat.reduceMul,KP_same,KP_f,condS_t,condS_f,pick_t,pick_f,gS_tt,gS_ff,gS_tf,gS_ft,gS_u,gP_tt,gP_ff,gP_tf,gP_ft,gP_u,ptrV_eq,slcV_eq,cells_agg,cells_int,cells_bool,cells_ptr,cells_slice,oc_int,oc_bool,oc_slice,oc_ptr,rd1_set,rd1_ne,rdn_set,rdn_ne,Heap.set_same,set_ne,Heap.set_set,set_up,set_up2,set_up3,putAt,ceq,List.map_cons,List.map_nil,List.length_cons,List.length_nil,List.length_set,List.cons_append,List.nil_append,List.append_nil,List.replicate,List.size_toArray,List.all_cons,List.all_nil,Bool.and_self,Bool.and_true,List.drop_zero,List.drop_succ_cons,List.take_succ_cons,List.take_zero,List.set_cons_zero,List.set_cons_succ,List.getElem?_cons_zero,List.getElem?_cons_succ,Option.map_some,Option.map_none,ne_eq,not_false_eq_true,not_true_eq_false,gt_iff_lt,ge_iff_le,Int.one_mul,Nat.zero_add,Nat.zero_mul,Bool.not_true,Bool.not_false,Bool.false_eq_true,Bool.and_false,Bool.false_and,Bool.true_and, *]))
    all_goals exact Fin_mk (by (repeat' (first | exact Heap.Le.refl _ | (refine Le_known (by first | (simp only [Heap.set_same, set_ne, ne_eq, not_false_eq_true, *] <;> rfl) | fail) ?_) | (refine Le_fresh (by first | (simp only [*] <;> done) | (simp [set_none', Heap.set_same, set_ne, *] <;> done) | fail) ?_) | (refine Heap.Le.trans ?_ (Grow.le (by assumption)))))) h
end Go.Proofs.Ytfokghepfcfbjaa
