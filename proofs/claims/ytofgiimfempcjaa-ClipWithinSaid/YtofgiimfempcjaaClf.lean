/- Rows of corners: what is alike, by the program and by the document; the document's window (layer 21). -/
import Derived.Test.YtofgiimfempcjaaCle
set_option linter.unusedSimpArgs false
set_option linter.unusedVariables false
set_option maxRecDepth 100000
set_option maxHeartbeats 4000000
namespace Go.Proofs.Ytofgiimfempcjaa
open Go Go.HL Go.RowKit Pb
variable {w0 : World} {H : Heap} {K : Value → Heap → Prop}

/-- A slice of corners. -/
structure RowsOk (w0 : World) (H : Heap) (a : Option Addr) (cap : Nat) (ls : List VtR) : Prop where
  at_ : SlAt w0 H a (ls.map VtR.row).flatten
  lc : ls.length ≤ cap
  lm : ls.length ≤ maxLen
  ok : ∀ y ∈ ls, VtOk w0 H y
section
variable {a : Option Addr} {cap : Nat} {ls : List VtR}
theorem RowsOk.grow {G : Heap} (h : RowsOk w0 H a cap ls) (g : Grow w0 H G) : RowsOk w0 G a cap ls := ⟨h.at_.grow g, h.lc, h.lm, fun y hy => (h.ok y hy).grow g⟩
theorem rows_vt (h : RowsOk w0 H a cap ls) {k : Nat} {y : VtR} (e : ls[k]? = some y) :
    ∃ b o, a = some ⟨b, o, none⟩ ∧ rdn w0 H b (o + k * 6) 6 = some y.row ∧ ∀ c, w0.heap.size ≤ c → H c = none → c ≠ b :=
  h.at_.row (rows := ls.map VtR.row) (fun r hr => by obtain ⟨z, -, rfl⟩ := List.mem_map.1 hr; rfl) (by decide) (by rw [List.getElem?_map, e]; rfl)
/-- Corners alike. -/
def Al (l : List Vt) : Prop := ∀ y ∈ l, ∀ z ∈ l.head?, y.l.length = z.l.length ∧ y.l.length ≤ 4
theorem al_ali {l : List Vt} (h : Al l) : ∃ m, Ali m l := by
  cases l with
  | nil => exact ⟨0, by omega, fun y hy => by simp at hy⟩
  | cons z r => exact ⟨z.l.length, (h z (by simp) z (by simp)).2, fun y hy => (h y hy z (by simp)).1⟩
theorem al_all (hl : 0 < ls.length) (h : ∀ (k : Nat) (y : VtR), ls[k]? = some y → y.l.length = (ls[0]'hl).l.length ∧ y.l.length ≤ 4) : Al (ls.map VtR.toVt) := by
  intro y hy z hz
  obtain ⟨x, hx, rfl⟩ := List.mem_map.1 hy
  obtain ⟨i, hi⟩ := List.mem_iff_getElem?.1 hx
  rw [List.head?_map, List.head?_eq_getElem?, List.getElem?_eq_getElem hl] at hz
  simp at hz; subst hz
  exact h i x hi
theorem al_not {k : Nat} {y : VtR} (hl : 0 < ls.length) (e : ls[k]? = some y) (h : ¬ (y.l.length = (ls[0]'hl).l.length ∧ y.l.length ≤ 4)) : ¬ Al (ls.map VtR.toVt) := fun hA => by
  refine h (hA y.toVt (List.mem_map.2 ⟨y, List.mem_of_getElem? e, rfl⟩) (ls[0]'hl).toVt ?_)
  rw [List.head?_map, List.head?_eq_getElem?, List.getElem?_eq_getElem hl]; rfl
/- clip alike -/
def M32 : MC :=
  .seq (.reg [⟨(some 2), .mv (.const (.bool false)), none⟩])
  (.seq (.seq (.reg [⟨(some 5), .mv (.tmp 0), none⟩,
       ⟨(some 6), .len (.tmp 5), none⟩,
       ⟨(some 7), .mv (.const (.int .i64 0)), none⟩])
    (.block 0 (.loop (.seq (.reg [⟨(some 8), .bin .lss (.tmp 7) (.tmp 6), none⟩])
       (.seq (.cond (.tmp 8)
         (.skip)
         (.exit 0))
        (.seq (.block 1 (.seq (.reg [⟨(some 9), .is 6 (.tmp 5) (.tmp 7), none⟩,
              ⟨(some 10), .ldn 6 (.tmp 9), none⟩,
              ⟨(some 4), .alloc 29 [(.int .i32 0), (.int .i32 0), (.int .i32 0), (.int .i32 0), (.int .i32 0), (.slice none 0 0)], none⟩,
              ⟨none, .stn 6 (.tmp 4) (.tmp 10), none⟩])
           (.seq (.any [(true, true, ⟨(some 11), .fa 5 (.tmp 4), none⟩),
               (true, true, ⟨(some 12), .ld1 (.tmp 11), none⟩),
               (true, true, ⟨(some 13), .len (.tmp 12), none⟩),
               (false, true, ⟨(some 14), .mv (.tmp 0), none⟩),
               (false, true, ⟨(some 15), .is 6 (.tmp 14) (.const (.int .i64 0)), none⟩),
               (false, true, ⟨(some 16), .fa 5 (.tmp 15), none⟩),
               (false, true, ⟨(some 17), .ld1 (.tmp 16), none⟩),
               (false, true, ⟨(some 18), .len (.tmp 17), none⟩),
               (false, false, ⟨(some 19), .bin .neq (.tmp 13) (.tmp 18), none⟩),
               (false, false, ⟨(some 20), .mv (.tmp 19), none⟩),
               (false, false, ⟨(some 21), .fa 5 (.tmp 4), (some (20, false))⟩),
               (false, false, ⟨(some 22), .ld1 (.tmp 21), (some (20, false))⟩),
               (false, false, ⟨(some 23), .len (.tmp 22), (some (20, false))⟩),
               (false, false, ⟨(some 24), .bin .gtr (.tmp 23) (.const (.int .i64 4)), (some (20, false))⟩),
               (false, false, ⟨(some 25), .pick (.tmp 20) (.const (.bool true)) (.tmp 24), none⟩)])
            (.cond (.tmp 25)
             (.seq (.reg [⟨(some 2), .mv (.const (.bool false)), none⟩])
              (.ret))
             (.skip)))))
         (.reg [⟨(some 26), .bin .add (.tmp 7) (.const (.int .i64 1)), none⟩,
            ⟨(some 7), .mv (.tmp 26), none⟩])))))))
   (.seq (.reg [⟨(some 2), .mv (.const (.bool true)), none⟩])
    (.ret)))
theorem k32 : fnOk Try.prog 32 = some (M32, [.t 2], 27) := by kernel_rfl

theorem c_alike (a : Option Addr) (cap : Nat) (ls : List VtR) (hA : RowsOk w0 H a cap ls) (h1 : Al (ls.map VtR.toVt) → K (.bool true) H) (h2 : ¬ Al (ls.map VtR.toVt) → K (.bool false) H) :
    HCalls Try.prog w0 32 [.slice a ls.length cap] H K := by
  rcases Nat.eq_zero_or_pos ls.length with h0 | h0
  · have e1 : ls = [] := List.length_eq_zero_iff.1 h0
    subst e1
    have h1 := h1 (fun y hy => by simp at hy)
    clear h2
    refine HL.hc k32 999 ?_; unfold M32
    (all_goals (refine (fun f : True → _ => f trivial) ?_)); repeat' ((first | (with_reducible refine fun _ : True => ?_) | (refine AllocQ_i ?_; intro bk hb0 hbk; (try simp only [set_none'] at hbk); (try (first | have hbn := Grow.none (by assumption) hbk | have hbn := Grow.none (by assumption) hbk.2 | have hbn := Grow.none (by assumption) hbk.2.2 | have hbn := Grow.none (by assumption) hbk.2.2.2 | have hbn := Grow.none (by assumption) hbk.2.2.2.2 | have hbn := Grow.none (by assumption) hbk.2.2.2.2.2)); (try simp only [set_none'] at hbn); (try (first | have hbm := Grow.none (by assumption) hbn | have hbm := Grow.none (by assumption) hbn.2 | have hbm := Grow.none (by assumption) hbn.2.2 | have hbm := Grow.none (by assumption) hbn.2.2.2 | have hbm := Grow.none (by assumption) hbn.2.2.2.2 | have hbm := Grow.none (by assumption) hbn.2.2.2.2.2)); (try simp only [set_none'] at hbm)) | ((first | refine condS_i ?_ ?_ | refine pick_i ?_ ?_ | refine gS_it ?_ ?_ | refine gS_if ?_ ?_ | refine gP_it ?_ ?_ | refine gP_if ?_ ?_) <;> (intro hc; try simp only [Int.reduceLE,Int.reduceLT,Int.reduceEq,and_self,not_true_eq_false,not_false_eq_true,and_true,true_and,false_and,and_false,true_or,or_true,false_or,or_false,decide_eq_true_eq,decide_eq_false_iff_not,beq_iff_eq,beq_eq_false_iff_ne,bne_iff_ne,ne_eq,gt_iff_lt,ge_iff_le,Bool.not_eq_true,Bool.not_eq_false,Bool.not_eq_true',Bool.not_eq_false',Bool.not_eq_eq_eq_not,Bool.not_true,Bool.not_false] at hc)) | (refine KP_i (by (repeat' (first | exact Heap.Le.refl _ | (refine Le_known (by first | (simp only [Heap.set_same, set_ne, ne_eq, not_false_eq_true, *] <;> rfl) | fail) ?_) | (refine Le_fresh (by first | (simp only [*] <;> done) | (simp [set_none', Heap.set_same, set_ne, *] <;> done) | fail) ?_) | (refine Heap.Le.trans ?_ (Grow.le (by assumption)))))) ?_) | (with_reducible refine loop_u ?_) | (with_reducible refine And.intro ?_ ?_)) <;> (try simp only [Sh,Si,Sl,Bu,Bb,Bd,Bc,Bw,Bn,Int.reduceAdd,Int.reduceSub,Int.reduceMul,Int.reduceTDiv,Int.reduceTMod,Int.reduceMod,Int.reduceDiv,Nat.reduceLT,Nat.reduceEqDiff,decide_true,decide_false,Sa,Sb,Sc,Sd,Se,Sf,Sg,true_and,and_true,and_self,eq_self,b_i64,b_i32,b_u64,b_u32,b_u8,Int.reduceLE,Int.reduceLT,Int.reduceToNat,Int.reduceNeg,Int.reduceEq,Nat.reduceLeDiff,Nat.reducePow,Int.reducePow,Nat.min_def,reduceIte,Nat.reduceSub,Nat.reduceAdd,Nat.reduceMul,KP_same,KP_f,condS_t,condS_f,pick_t,pick_f,gS_tt,gS_ff,gS_tf,gS_ft,gS_u,gP_tt,gP_ff,gP_tf,gP_ft,gP_u,ptrV_eq,slcV_eq,cells_agg,cells_int,cells_bool,cells_ptr,cells_slice,oc_int,oc_bool,oc_slice,oc_ptr,rd1_set,rd1_ne,rdn_set,rdn_ne,Heap.set_same,set_ne,Heap.set_set,set_up,set_up2,set_up3,putAt,ceq,List.map_cons,List.map_nil,List.length_cons,List.length_nil,List.length_set,List.cons_append,List.nil_append,List.append_nil,List.replicate,List.size_toArray,List.all_cons,List.all_nil,Bool.and_self,Bool.and_true,List.drop_zero,List.drop_succ_cons,List.take_succ_cons,List.take_zero,List.set_cons_zero,List.set_cons_succ,List.getElem?_cons_zero,List.getElem?_cons_succ,Option.map_some,Option.map_none,ne_eq,not_false_eq_true,not_true_eq_false,gt_iff_lt,ge_iff_le,Int.one_mul,Nat.zero_add,Nat.zero_mul,Bool.not_true,Bool.not_false,Bool.false_eq_true,Bool.and_false,Bool.false_and,Bool.true_and, *]))
    exact Fin_mk (by (repeat' (first | exact Heap.Le.refl _ | (refine Le_known (by first | (simp only [Heap.set_same, set_ne, ne_eq, not_false_eq_true, *] <;> rfl) | fail) ?_) | (refine Le_fresh (by first | (simp only [*] <;> done) | (simp [set_none', Heap.set_same, set_ne, *] <;> done) | fail) ?_) | (refine Heap.Le.trans ?_ (Grow.le (by assumption)))))) h1
  · have hlm := hA.lm
    have e0 := List.getElem?_eq_getElem h0
    have hno : ∀ (k : Nat) (y : VtR), ls[k]? = some y → ¬ (y.l.length = (ls[0]'h0).l.length ∧ y.l.length ≤ 4) → ∀ G, Heap.Le H G → HL.Fin K (.bool false) G := fun k y e hn G g => Fin_mk g (h2 (al_not h0 e hn))
    have hyes := fun hh => h1 (al_all h0 hh)
    obtain ⟨z, ez⟩ : ∃ z, ls[0]'h0 = z := ⟨_, rfl⟩
    rw [ez] at e0 hyes hno
    obtain ⟨b, o, rfl, r0, hf⟩ := rows_vt hA e0
    have q0 := (rd1_of_rdn r0 (i := 5) (by omega)).1
    simp [VtR.row] at q0
    obtain ⟨n, en⟩ : ∃ n, ls.length = n := ⟨_, rfl⟩
    rw [en] at hlm ⊢
    clear h1 h2 r0
    refine HL.hc k32 999 ?_; unfold M32
    (all_goals (refine (fun f : True → _ => f trivial) ?_)); repeat' ((first | (with_reducible refine fun _ : True => ?_) | (refine AllocQ_i ?_; intro bk hb0 hbk; (try simp only [set_none'] at hbk); (try (first | have hbn := Grow.none (by assumption) hbk | have hbn := Grow.none (by assumption) hbk.2 | have hbn := Grow.none (by assumption) hbk.2.2 | have hbn := Grow.none (by assumption) hbk.2.2.2 | have hbn := Grow.none (by assumption) hbk.2.2.2.2 | have hbn := Grow.none (by assumption) hbk.2.2.2.2.2)); (try simp only [set_none'] at hbn); (try (first | have hbm := Grow.none (by assumption) hbn | have hbm := Grow.none (by assumption) hbn.2 | have hbm := Grow.none (by assumption) hbn.2.2 | have hbm := Grow.none (by assumption) hbn.2.2.2 | have hbm := Grow.none (by assumption) hbn.2.2.2.2 | have hbm := Grow.none (by assumption) hbn.2.2.2.2.2)); (try simp only [set_none'] at hbm)) | ((first | refine condS_i ?_ ?_ | refine pick_i ?_ ?_ | refine gS_it ?_ ?_ | refine gS_if ?_ ?_ | refine gP_it ?_ ?_ | refine gP_if ?_ ?_) <;> (intro hc; try simp only [Int.reduceLE,Int.reduceLT,Int.reduceEq,and_self,not_true_eq_false,not_false_eq_true,and_true,true_and,false_and,and_false,true_or,or_true,false_or,or_false,decide_eq_true_eq,decide_eq_false_iff_not,beq_iff_eq,beq_eq_false_iff_ne,bne_iff_ne,ne_eq,gt_iff_lt,ge_iff_le,Bool.not_eq_true,Bool.not_eq_false,Bool.not_eq_true',Bool.not_eq_false',Bool.not_eq_eq_eq_not,Bool.not_true,Bool.not_false] at hc)) | (refine KP_i (by (repeat' (first | exact Heap.Le.refl _ | (refine Le_known (by first | (simp only [Heap.set_same, set_ne, ne_eq, not_false_eq_true, *] <;> rfl) | fail) ?_) | (refine Le_fresh (by first | (simp only [*] <;> done) | (simp [set_none', Heap.set_same, set_ne, *] <;> done) | fail) ?_) | (refine Heap.Le.trans ?_ (Grow.le (by assumption)))))) ?_) | (with_reducible refine And.intro ?_ ?_)) <;> (try simp only [Sh,Si,Sl,Bu,Bb,Bd,Bc,Bw,Bn,Int.reduceAdd,Int.reduceSub,Int.reduceMul,Int.reduceTDiv,Int.reduceTMod,Int.reduceMod,Int.reduceDiv,Nat.reduceLT,Nat.reduceEqDiff,decide_true,decide_false,Sa,Sb,Sc,Sd,Se,Sf,Sg,true_and,and_true,and_self,eq_self,b_i64,b_i32,b_u64,b_u32,b_u8,Int.reduceLE,Int.reduceLT,Int.reduceToNat,Int.reduceNeg,Int.reduceEq,Nat.reduceLeDiff,Nat.reducePow,Int.reducePow,Nat.min_def,reduceIte,Nat.reduceSub,Nat.reduceAdd,Nat.reduceMul,KP_same,KP_f,condS_t,condS_f,pick_t,pick_f,gS_tt,gS_ff,gS_tf,gS_ft,gS_u,gP_tt,gP_ff,gP_tf,gP_ft,gP_u,ptrV_eq,slcV_eq,cells_agg,cells_int,cells_bool,cells_ptr,cells_slice,oc_int,oc_bool,oc_slice,oc_ptr,rd1_set,rd1_ne,rdn_set,rdn_ne,Heap.set_same,set_ne,Heap.set_set,set_up,set_up2,set_up3,putAt,ceq,List.map_cons,List.map_nil,List.length_cons,List.length_nil,List.length_set,List.cons_append,List.nil_append,List.append_nil,List.replicate,List.size_toArray,List.all_cons,List.all_nil,Bool.and_self,Bool.and_true,List.drop_zero,List.drop_succ_cons,List.take_succ_cons,List.take_zero,List.set_cons_zero,List.set_cons_succ,List.getElem?_cons_zero,List.getElem?_cons_succ,Option.map_some,Option.map_none,ne_eq,not_false_eq_true,not_true_eq_false,gt_iff_lt,ge_iff_le,Int.one_mul,Nat.zero_add,Nat.zero_mul,Bool.not_true,Bool.not_false,Bool.false_eq_true,Bool.and_false,Bool.false_and,Bool.true_and, *]))
    refine loop_g 8 (fun s : (Nat × Value) => [(4, s.2), (7, .int .i64 (s.1 : Nat))]) (fun _ => H) (fun s => s.1 ≤ n ∧ ∀ (k : Nat) (y : VtR), k < s.1 → ls[k]? = some y → y.l.length = z.l.length ∧ y.l.length ≤ 4) (fun s => n - s.1) (0, undef) ⟨Nat.zero_le _, fun k y hk => by simp at hk⟩ (Heap.Le.refl _) rfl ?_
    rintro ⟨k, u⟩ g ⟨hk, hall⟩
    simp only at hk hall
    rcases Nat.lt_or_ge k n with hlt | hge
    · obtain ⟨y, ey⟩ : ∃ v, ls[k]? = some v := ⟨_, List.getElem?_eq_getElem (by omega)⟩
      obtain ⟨b', o', e', r1, -⟩ := rows_vt hA ey
      cases e'
      have ok := hA.ok y (List.mem_of_getElem? ey)
      have ym := ok.vs.lm
      have hno := hno k y ey
      have nxt : y.l.length = z.l.length → y.l.length ≤ 4 → ∀ (j : Nat) (v : VtR), j < k + 1 → ls[j]? = some v → v.l.length = z.l.length ∧ v.l.length ≤ 4 := fun e1 e2 j v hj ev => by
        rcases Nat.lt_or_ge j k with h | h
        · exact hall j v h ev
        · obtain rfl : j = k := by omega
          rw [ey] at ev; cases ev; exact ⟨e1, e2⟩
      have t0 : (k : Int) < (n : Int) := by omega
      have t6 : IntKind.i64.wrap ((k : Int) + 1) = (k : Int) + 1 := Bw.1 _ (by omega) (by unfold maxLen at hlm; omega)
      have t1 : (0 : Int) < (n : Int) := by omega
      have q1 := (rd1_of_rdn r1 (i := 5) (by omega)).1
      simp [VtR.row] at q1
      unfold VtR.row at r1
      clear hall hA ok hyes ey e0 en
      (all_goals (refine (fun f : True → _ => f trivial) ?_)); repeat' ((first | (with_reducible refine fun _ : True => ?_) | (refine AllocQ_i ?_; intro bk hb0 hbk; (try simp only [set_none'] at hbk); (try (first | have hbn := Grow.none (by assumption) hbk | have hbn := Grow.none (by assumption) hbk.2 | have hbn := Grow.none (by assumption) hbk.2.2 | have hbn := Grow.none (by assumption) hbk.2.2.2 | have hbn := Grow.none (by assumption) hbk.2.2.2.2 | have hbn := Grow.none (by assumption) hbk.2.2.2.2.2)); (try simp only [set_none'] at hbn); (try (first | have hbm := Grow.none (by assumption) hbn | have hbm := Grow.none (by assumption) hbn.2 | have hbm := Grow.none (by assumption) hbn.2.2 | have hbm := Grow.none (by assumption) hbn.2.2.2 | have hbm := Grow.none (by assumption) hbn.2.2.2.2 | have hbm := Grow.none (by assumption) hbn.2.2.2.2.2)); (try simp only [set_none'] at hbm)) | ((first | refine condS_i ?_ ?_ | refine pick_i ?_ ?_ | refine gS_it ?_ ?_ | refine gS_if ?_ ?_ | refine gP_it ?_ ?_ | refine gP_if ?_ ?_) <;> (intro hc; try simp only [Int.reduceLE,Int.reduceLT,Int.reduceEq,and_self,not_true_eq_false,not_false_eq_true,and_true,true_and,false_and,and_false,true_or,or_true,false_or,or_false,decide_eq_true_eq,decide_eq_false_iff_not,beq_iff_eq,beq_eq_false_iff_ne,bne_iff_ne,ne_eq,gt_iff_lt,ge_iff_le,Bool.not_eq_true,Bool.not_eq_false,Bool.not_eq_true',Bool.not_eq_false',Bool.not_eq_eq_eq_not,Bool.not_true,Bool.not_false] at hc)) | (refine KP_i (by (repeat' (first | exact Heap.Le.refl _ | (refine Le_known (by first | (simp only [Heap.set_same, set_ne, ne_eq, not_false_eq_true, *] <;> rfl) | fail) ?_) | (refine Le_fresh (by first | (simp only [*] <;> done) | (simp [set_none', Heap.set_same, set_ne, *] <;> done) | fail) ?_) | (refine Heap.Le.trans ?_ (Grow.le (by assumption)))))) ?_) | (with_reducible refine And.intro ?_ ?_)) <;> (try simp only [Sh,Si,Sl,Bu,Bb,Bd,Bc,Bw,Bn,Int.reduceAdd,Int.reduceSub,Int.reduceMul,Int.reduceTDiv,Int.reduceTMod,Int.reduceMod,Int.reduceDiv,Nat.reduceLT,Nat.reduceEqDiff,decide_true,decide_false,Sa,Sb,Sc,Sd,Se,Sf,Sg,true_and,and_true,and_self,eq_self,b_i64,b_i32,b_u64,b_u32,b_u8,Int.reduceLE,Int.reduceLT,Int.reduceToNat,Int.reduceNeg,Int.reduceEq,Nat.reduceLeDiff,Nat.reducePow,Int.reducePow,Nat.min_def,reduceIte,Nat.reduceSub,Nat.reduceAdd,Nat.reduceMul,KP_same,KP_f,condS_t,condS_f,pick_t,pick_f,gS_tt,gS_ff,gS_tf,gS_ft,gS_u,gP_tt,gP_ff,gP_tf,gP_ft,gP_u,ptrV_eq,slcV_eq,cells_agg,cells_int,cells_bool,cells_ptr,cells_slice,oc_int,oc_bool,oc_slice,oc_ptr,rd1_set,rd1_ne,rdn_set,rdn_ne,Heap.set_same,set_ne,Heap.set_set,set_up,set_up2,set_up3,putAt,ceq,List.map_cons,List.map_nil,List.length_cons,List.length_nil,List.length_set,List.cons_append,List.nil_append,List.append_nil,List.replicate,List.size_toArray,List.all_cons,List.all_nil,Bool.and_self,Bool.and_true,List.drop_zero,List.drop_succ_cons,List.take_succ_cons,List.take_zero,List.set_cons_zero,List.set_cons_succ,List.getElem?_cons_zero,List.getElem?_cons_succ,Option.map_some,Option.map_none,ne_eq,not_false_eq_true,not_true_eq_false,gt_iff_lt,ge_iff_le,Int.one_mul,Nat.zero_add,Nat.zero_mul,Bool.not_true,Bool.not_false,Bool.false_eq_true,Bool.and_false,Bool.false_and,Bool.true_and, *]))
      all_goals first
        | exact hno (by omega) _ (by (repeat' (first | exact Heap.Le.refl _ | (refine Le_known (by first | (simp only [Heap.set_same, set_ne, ne_eq, not_false_eq_true, *] <;> rfl) | fail) ?_) | (refine Le_fresh (by first | (simp only [*] <;> done) | (simp [set_none', Heap.set_same, set_ne, *] <;> done) | fail) ?_) | (refine Heap.Le.trans ?_ (Grow.le (by assumption))))))
        | exact Round_mk (k + 1, _) ⟨hlt, nxt (by omega) (by omega)⟩ (by simp only; omega) (by (repeat' (first | exact Heap.Le.refl _ | (refine Le_known (by first | (simp only [Heap.set_same, set_ne, ne_eq, not_false_eq_true, *] <;> rfl) | fail) ?_) | (refine Le_fresh (by first | (simp only [*] <;> done) | (simp [set_none', Heap.set_same, set_ne, *] <;> done) | fail) ?_) | (refine Heap.Le.trans ?_ (Grow.le (by assumption)))))) rfl rfl
    · obtain rfl : n = k := by omega
      have t0 : ¬ ((n : Nat) : Int) < ((n : Nat) : Int) := by omega
      have hfin := hyes fun k y e => hall k y (by rw [← en]; exact (List.getElem?_eq_some_iff.1 e).1) e
      clear hno hall hyes hA
      (all_goals (refine (fun f : True → _ => f trivial) ?_)); repeat' ((first | (with_reducible refine fun _ : True => ?_) | (refine AllocQ_i ?_; intro bk hb0 hbk; (try simp only [set_none'] at hbk); (try (first | have hbn := Grow.none (by assumption) hbk | have hbn := Grow.none (by assumption) hbk.2 | have hbn := Grow.none (by assumption) hbk.2.2 | have hbn := Grow.none (by assumption) hbk.2.2.2 | have hbn := Grow.none (by assumption) hbk.2.2.2.2 | have hbn := Grow.none (by assumption) hbk.2.2.2.2.2)); (try simp only [set_none'] at hbn); (try (first | have hbm := Grow.none (by assumption) hbn | have hbm := Grow.none (by assumption) hbn.2 | have hbm := Grow.none (by assumption) hbn.2.2 | have hbm := Grow.none (by assumption) hbn.2.2.2 | have hbm := Grow.none (by assumption) hbn.2.2.2.2 | have hbm := Grow.none (by assumption) hbn.2.2.2.2.2)); (try simp only [set_none'] at hbm)) | ((first | refine condS_i ?_ ?_ | refine pick_i ?_ ?_ | refine gS_it ?_ ?_ | refine gS_if ?_ ?_ | refine gP_it ?_ ?_ | refine gP_if ?_ ?_) <;> (intro hc; try simp only [Int.reduceLE,Int.reduceLT,Int.reduceEq,and_self,not_true_eq_false,not_false_eq_true,and_true,true_and,false_and,and_false,true_or,or_true,false_or,or_false,decide_eq_true_eq,decide_eq_false_iff_not,beq_iff_eq,beq_eq_false_iff_ne,bne_iff_ne,ne_eq,gt_iff_lt,ge_iff_le,Bool.not_eq_true,Bool.not_eq_false,Bool.not_eq_true',Bool.not_eq_false',Bool.not_eq_eq_eq_not,Bool.not_true,Bool.not_false] at hc)) | (refine KP_i (by (repeat' (first | exact Heap.Le.refl _ | (refine Le_known (by first | (simp only [Heap.set_same, set_ne, ne_eq, not_false_eq_true, *] <;> rfl) | fail) ?_) | (refine Le_fresh (by first | (simp only [*] <;> done) | (simp [set_none', Heap.set_same, set_ne, *] <;> done) | fail) ?_) | (refine Heap.Le.trans ?_ (Grow.le (by assumption)))))) ?_) | (with_reducible refine And.intro ?_ ?_)) <;> (try simp only [Sh,Si,Sl,Bu,Bb,Bd,Bc,Bw,Bn,Int.reduceAdd,Int.reduceSub,Int.reduceMul,Int.reduceTDiv,Int.reduceTMod,Int.reduceMod,Int.reduceDiv,Nat.reduceLT,Nat.reduceEqDiff,decide_true,decide_false,Sa,Sb,Sc,Sd,Se,Sf,Sg,true_and,and_true,and_self,eq_self,b_i64,b_i32,b_u64,b_u32,b_u8,Int.reduceLE,Int.reduceLT,Int.reduceToNat,Int.reduceNeg,Int.reduceEq,Nat.reduceLeDiff,Nat.reducePow,Int.reducePow,Nat.min_def,reduceIte,Nat.reduceSub,Nat.reduceAdd,Nat.reduceMul,KP_same,KP_f,condS_t,condS_f,pick_t,pick_f,gS_tt,gS_ff,gS_tf,gS_ft,gS_u,gP_tt,gP_ff,gP_tf,gP_ft,gP_u,ptrV_eq,slcV_eq,cells_agg,cells_int,cells_bool,cells_ptr,cells_slice,oc_int,oc_bool,oc_slice,oc_ptr,rd1_set,rd1_ne,rdn_set,rdn_ne,Heap.set_same,set_ne,Heap.set_set,set_up,set_up2,set_up3,putAt,ceq,List.map_cons,List.map_nil,List.length_cons,List.length_nil,List.length_set,List.cons_append,List.nil_append,List.append_nil,List.replicate,List.size_toArray,List.all_cons,List.all_nil,Bool.and_self,Bool.and_true,List.drop_zero,List.drop_succ_cons,List.take_succ_cons,List.take_zero,List.set_cons_zero,List.set_cons_succ,List.getElem?_cons_zero,List.getElem?_cons_succ,Option.map_some,Option.map_none,ne_eq,not_false_eq_true,not_true_eq_false,gt_iff_lt,ge_iff_le,Int.one_mul,Nat.zero_add,Nat.zero_mul,Bool.not_true,Bool.not_false,Bool.false_eq_true,Bool.and_false,Bool.false_and,Bool.true_and, *]))
      exact Fin_mk (by (repeat' (first | exact Heap.Le.refl _ | (refine Le_known (by first | (simp only [Heap.set_same, set_ne, ne_eq, not_false_eq_true, *] <;> rfl) | fail) ?_) | (refine Le_fresh (by first | (simp only [*] <;> done) | (simp [set_none', Heap.set_same, set_ne, *] <;> done) | fail) ?_) | (refine Heap.Le.trans ?_ (Grow.le (by assumption)))))) hfin
/- paintboxref21 Alike -/
def M13 : MC :=
  .seq (.reg [⟨(some 2), .mv (.const (.bool false)), none⟩])
  (.seq (.seq (.reg [⟨(some 3), .mv (.const (.int .i64 0)), none⟩])
    (.block 0 (.loop (.seq (.seq (.reg [⟨(some 4), .mv (.tmp 3), none⟩,
           ⟨(some 5), .mv (.tmp 0), none⟩,
           ⟨(some 6), .len (.tmp 5), none⟩,
           ⟨(some 7), .bin .lss (.tmp 4) (.tmp 6), none⟩])
        (.cond (.tmp 7)
         (.skip)
         (.exit 0)))
       (.seq (.block 1 (.seq (.any [(true, true, ⟨(some 10), .mv (.tmp 0), none⟩),
             (true, true, ⟨(some 11), .mv (.tmp 3), none⟩),
             (true, true, ⟨(some 12), .is 6 (.tmp 10) (.tmp 11), none⟩),
             (true, true, ⟨(some 13), .fa 5 (.tmp 12), none⟩),
             (true, true, ⟨(some 14), .ld1 (.tmp 13), none⟩),
             (true, true, ⟨(some 15), .len (.tmp 14), none⟩),
             (false, true, ⟨(some 16), .mv (.tmp 0), none⟩),
             (false, true, ⟨(some 17), .is 6 (.tmp 16) (.const (.int .i64 0)), none⟩),
             (false, true, ⟨(some 18), .fa 5 (.tmp 17), none⟩),
             (false, true, ⟨(some 19), .ld1 (.tmp 18), none⟩),
             (false, true, ⟨(some 20), .len (.tmp 19), none⟩),
             (false, true, ⟨(some 21), .bin .neq (.tmp 15) (.tmp 20), none⟩),
             (false, true, ⟨(some 22), .mv (.tmp 21), none⟩),
             (true, true, ⟨(some 23), .mv (.tmp 0), (some (22, false))⟩),
             (false, true, ⟨(some 24), .mv (.tmp 3), (some (22, false))⟩),
             (false, false, ⟨(some 25), .is 6 (.tmp 23) (.tmp 24), (some (22, false))⟩),
             (false, false, ⟨(some 26), .fa 5 (.tmp 25), (some (22, false))⟩),
             (false, false, ⟨(some 27), .ld1 (.tmp 26), (some (22, false))⟩),
             (false, false, ⟨(some 28), .len (.tmp 27), (some (22, false))⟩),
             (false, false, ⟨(some 29), .bin .gtr (.tmp 28) (.const (.int .i64 4)), (some (22, false))⟩),
             (false, false, ⟨(some 30), .pick (.tmp 22) (.const (.bool true)) (.tmp 29), none⟩)])
          (.cond (.tmp 30)
           (.seq (.reg [⟨(some 2), .mv (.const (.bool false)), none⟩])
            (.ret))
           (.skip))))
        (.reg [⟨(some 8), .mv (.tmp 3), none⟩,
           ⟨(some 9), .bin .add (.tmp 8) (.const (.int .i64 1)), none⟩,
           ⟨(some 3), .mv (.tmp 9), none⟩]))))))
   (.seq (.reg [⟨(some 2), .mv (.const (.bool true)), none⟩])
    (.ret)))
theorem k13 : fnOk Try.prog 13 = some (M13, [.t 2], 31) := by kernel_rfl

theorem r_Alike (a : Option Addr) (cap : Nat) (ls : List VtR) (hA : RowsOk w0 H a cap ls) (h1 : Al (ls.map VtR.toVt) → K (.bool true) H) (h2 : ¬ Al (ls.map VtR.toVt) → K (.bool false) H) :
    HCalls Try.prog w0 13 [.slice a ls.length cap] H K := by
  rcases Nat.eq_zero_or_pos ls.length with h0 | h0
  · have e1 : ls = [] := List.length_eq_zero_iff.1 h0
    subst e1
    have h1 := h1 (fun y hy => by simp at hy)
    clear h2
    refine HL.hc k13 999 ?_; unfold M13
    (all_goals (refine (fun f : True → _ => f trivial) ?_)); repeat' ((first | (with_reducible refine fun _ : True => ?_) | (refine AllocQ_i ?_; intro bk hb0 hbk; (try simp only [set_none'] at hbk); (try (first | have hbn := Grow.none (by assumption) hbk | have hbn := Grow.none (by assumption) hbk.2 | have hbn := Grow.none (by assumption) hbk.2.2 | have hbn := Grow.none (by assumption) hbk.2.2.2 | have hbn := Grow.none (by assumption) hbk.2.2.2.2 | have hbn := Grow.none (by assumption) hbk.2.2.2.2.2)); (try simp only [set_none'] at hbn); (try (first | have hbm := Grow.none (by assumption) hbn | have hbm := Grow.none (by assumption) hbn.2 | have hbm := Grow.none (by assumption) hbn.2.2 | have hbm := Grow.none (by assumption) hbn.2.2.2 | have hbm := Grow.none (by assumption) hbn.2.2.2.2 | have hbm := Grow.none (by assumption) hbn.2.2.2.2.2)); (try simp only [set_none'] at hbm)) | ((first | refine condS_i ?_ ?_ | refine pick_i ?_ ?_ | refine gS_it ?_ ?_ | refine gS_if ?_ ?_ | refine gP_it ?_ ?_ | refine gP_if ?_ ?_) <;> (intro hc; try simp only [Int.reduceLE,Int.reduceLT,Int.reduceEq,and_self,not_true_eq_false,not_false_eq_true,and_true,true_and,false_and,and_false,true_or,or_true,false_or,or_false,decide_eq_true_eq,decide_eq_false_iff_not,beq_iff_eq,beq_eq_false_iff_ne,bne_iff_ne,ne_eq,gt_iff_lt,ge_iff_le,Bool.not_eq_true,Bool.not_eq_false,Bool.not_eq_true',Bool.not_eq_false',Bool.not_eq_eq_eq_not,Bool.not_true,Bool.not_false] at hc)) | (refine KP_i (by (repeat' (first | exact Heap.Le.refl _ | (refine Le_known (by first | (simp only [Heap.set_same, set_ne, ne_eq, not_false_eq_true, *] <;> rfl) | fail) ?_) | (refine Le_fresh (by first | (simp only [*] <;> done) | (simp [set_none', Heap.set_same, set_ne, *] <;> done) | fail) ?_) | (refine Heap.Le.trans ?_ (Grow.le (by assumption)))))) ?_) | (with_reducible refine loop_u ?_) | (with_reducible refine And.intro ?_ ?_)) <;> (try simp only [Sh,Si,Sl,Bu,Bb,Bd,Bc,Bw,Bn,Int.reduceAdd,Int.reduceSub,Int.reduceMul,Int.reduceTDiv,Int.reduceTMod,Int.reduceMod,Int.reduceDiv,Nat.reduceLT,Nat.reduceEqDiff,decide_true,decide_false,Sa,Sb,Sc,Sd,Se,Sf,Sg,true_and,and_true,and_self,eq_self,b_i64,b_i32,b_u64,b_u32,b_u8,Int.reduceLE,Int.reduceLT,Int.reduceToNat,Int.reduceNeg,Int.reduceEq,Nat.reduceLeDiff,Nat.reducePow,Int.reducePow,Nat.min_def,reduceIte,Nat.reduceSub,Nat.reduceAdd,Nat.reduceMul,KP_same,KP_f,condS_t,condS_f,pick_t,pick_f,gS_tt,gS_ff,gS_tf,gS_ft,gS_u,gP_tt,gP_ff,gP_tf,gP_ft,gP_u,ptrV_eq,slcV_eq,cells_agg,cells_int,cells_bool,cells_ptr,cells_slice,oc_int,oc_bool,oc_slice,oc_ptr,rd1_set,rd1_ne,rdn_set,rdn_ne,Heap.set_same,set_ne,Heap.set_set,set_up,set_up2,set_up3,putAt,ceq,List.map_cons,List.map_nil,List.length_cons,List.length_nil,List.length_set,List.cons_append,List.nil_append,List.append_nil,List.replicate,List.size_toArray,List.all_cons,List.all_nil,Bool.and_self,Bool.and_true,List.drop_zero,List.drop_succ_cons,List.take_succ_cons,List.take_zero,List.set_cons_zero,List.set_cons_succ,List.getElem?_cons_zero,List.getElem?_cons_succ,Option.map_some,Option.map_none,ne_eq,not_false_eq_true,not_true_eq_false,gt_iff_lt,ge_iff_le,Int.one_mul,Nat.zero_add,Nat.zero_mul,Bool.not_true,Bool.not_false,Bool.false_eq_true,Bool.and_false,Bool.false_and,Bool.true_and, *]))
    exact Fin_mk (by (repeat' (first | exact Heap.Le.refl _ | (refine Le_known (by first | (simp only [Heap.set_same, set_ne, ne_eq, not_false_eq_true, *] <;> rfl) | fail) ?_) | (refine Le_fresh (by first | (simp only [*] <;> done) | (simp [set_none', Heap.set_same, set_ne, *] <;> done) | fail) ?_) | (refine Heap.Le.trans ?_ (Grow.le (by assumption)))))) h1
  · have hlm := hA.lm
    have e0 := List.getElem?_eq_getElem h0
    have hno : ∀ (k : Nat) (y : VtR), ls[k]? = some y → ¬ (y.l.length = (ls[0]'h0).l.length ∧ y.l.length ≤ 4) → ∀ G, Heap.Le H G → HL.Fin K (.bool false) G := fun k y e hn G g => Fin_mk g (h2 (al_not h0 e hn))
    have hyes := fun hh => h1 (al_all h0 hh)
    obtain ⟨z, ez⟩ : ∃ z, ls[0]'h0 = z := ⟨_, rfl⟩
    rw [ez] at e0 hyes hno
    obtain ⟨b, o, rfl, r0, hf⟩ := rows_vt hA e0
    have q0 := (rd1_of_rdn r0 (i := 5) (by omega)).1
    simp [VtR.row] at q0
    obtain ⟨n, en⟩ : ∃ n, ls.length = n := ⟨_, rfl⟩
    rw [en] at hlm ⊢
    clear h1 h2 r0
    refine HL.hc k13 999 ?_; unfold M13
    (all_goals (refine (fun f : True → _ => f trivial) ?_)); repeat' ((first | (with_reducible refine fun _ : True => ?_) | (refine AllocQ_i ?_; intro bk hb0 hbk; (try simp only [set_none'] at hbk); (try (first | have hbn := Grow.none (by assumption) hbk | have hbn := Grow.none (by assumption) hbk.2 | have hbn := Grow.none (by assumption) hbk.2.2 | have hbn := Grow.none (by assumption) hbk.2.2.2 | have hbn := Grow.none (by assumption) hbk.2.2.2.2 | have hbn := Grow.none (by assumption) hbk.2.2.2.2.2)); (try simp only [set_none'] at hbn); (try (first | have hbm := Grow.none (by assumption) hbn | have hbm := Grow.none (by assumption) hbn.2 | have hbm := Grow.none (by assumption) hbn.2.2 | have hbm := Grow.none (by assumption) hbn.2.2.2 | have hbm := Grow.none (by assumption) hbn.2.2.2.2 | have hbm := Grow.none (by assumption) hbn.2.2.2.2.2)); (try simp only [set_none'] at hbm)) | ((first | refine condS_i ?_ ?_ | refine pick_i ?_ ?_ | refine gS_it ?_ ?_ | refine gS_if ?_ ?_ | refine gP_it ?_ ?_ | refine gP_if ?_ ?_) <;> (intro hc; try simp only [Int.reduceLE,Int.reduceLT,Int.reduceEq,and_self,not_true_eq_false,not_false_eq_true,and_true,true_and,false_and,and_false,true_or,or_true,false_or,or_false,decide_eq_true_eq,decide_eq_false_iff_not,beq_iff_eq,beq_eq_false_iff_ne,bne_iff_ne,ne_eq,gt_iff_lt,ge_iff_le,Bool.not_eq_true,Bool.not_eq_false,Bool.not_eq_true',Bool.not_eq_false',Bool.not_eq_eq_eq_not,Bool.not_true,Bool.not_false] at hc)) | (refine KP_i (by (repeat' (first | exact Heap.Le.refl _ | (refine Le_known (by first | (simp only [Heap.set_same, set_ne, ne_eq, not_false_eq_true, *] <;> rfl) | fail) ?_) | (refine Le_fresh (by first | (simp only [*] <;> done) | (simp [set_none', Heap.set_same, set_ne, *] <;> done) | fail) ?_) | (refine Heap.Le.trans ?_ (Grow.le (by assumption)))))) ?_) | (with_reducible refine And.intro ?_ ?_)) <;> (try simp only [Sh,Si,Sl,Bu,Bb,Bd,Bc,Bw,Bn,Int.reduceAdd,Int.reduceSub,Int.reduceMul,Int.reduceTDiv,Int.reduceTMod,Int.reduceMod,Int.reduceDiv,Nat.reduceLT,Nat.reduceEqDiff,decide_true,decide_false,Sa,Sb,Sc,Sd,Se,Sf,Sg,true_and,and_true,and_self,eq_self,b_i64,b_i32,b_u64,b_u32,b_u8,Int.reduceLE,Int.reduceLT,Int.reduceToNat,Int.reduceNeg,Int.reduceEq,Nat.reduceLeDiff,Nat.reducePow,Int.reducePow,Nat.min_def,reduceIte,Nat.reduceSub,Nat.reduceAdd,Nat.reduceMul,KP_same,KP_f,condS_t,condS_f,pick_t,pick_f,gS_tt,gS_ff,gS_tf,gS_ft,gS_u,gP_tt,gP_ff,gP_tf,gP_ft,gP_u,ptrV_eq,slcV_eq,cells_agg,cells_int,cells_bool,cells_ptr,cells_slice,oc_int,oc_bool,oc_slice,oc_ptr,rd1_set,rd1_ne,rdn_set,rdn_ne,Heap.set_same,set_ne,Heap.set_set,set_up,set_up2,set_up3,putAt,ceq,List.map_cons,List.map_nil,List.length_cons,List.length_nil,List.length_set,List.cons_append,List.nil_append,List.append_nil,List.replicate,List.size_toArray,List.all_cons,List.all_nil,Bool.and_self,Bool.and_true,List.drop_zero,List.drop_succ_cons,List.take_succ_cons,List.take_zero,List.set_cons_zero,List.set_cons_succ,List.getElem?_cons_zero,List.getElem?_cons_succ,Option.map_some,Option.map_none,ne_eq,not_false_eq_true,not_true_eq_false,gt_iff_lt,ge_iff_le,Int.one_mul,Nat.zero_add,Nat.zero_mul,Bool.not_true,Bool.not_false,Bool.false_eq_true,Bool.and_false,Bool.false_and,Bool.true_and, *]))
    refine loop_g 4 (fun s : (Nat × Value) => [(3, .int .i64 (s.1 : Nat))]) (fun _ => H) (fun s => s.1 ≤ n ∧ ∀ (k : Nat) (y : VtR), k < s.1 → ls[k]? = some y → y.l.length = z.l.length ∧ y.l.length ≤ 4) (fun s => n - s.1) (0, undef) ⟨Nat.zero_le _, fun k y hk => by simp at hk⟩ (Heap.Le.refl _) rfl ?_
    rintro ⟨k, u⟩ g ⟨hk, hall⟩
    simp only at hk hall
    rcases Nat.lt_or_ge k n with hlt | hge
    · obtain ⟨y, ey⟩ : ∃ v, ls[k]? = some v := ⟨_, List.getElem?_eq_getElem (by omega)⟩
      obtain ⟨b', o', e', r1, -⟩ := rows_vt hA ey
      cases e'
      have ok := hA.ok y (List.mem_of_getElem? ey)
      have ym := ok.vs.lm
      have hno := hno k y ey
      have nxt : y.l.length = z.l.length → y.l.length ≤ 4 → ∀ (j : Nat) (v : VtR), j < k + 1 → ls[j]? = some v → v.l.length = z.l.length ∧ v.l.length ≤ 4 := fun e1 e2 j v hj ev => by
        rcases Nat.lt_or_ge j k with h | h
        · exact hall j v h ev
        · obtain rfl : j = k := by omega
          rw [ey] at ev; cases ev; exact ⟨e1, e2⟩
      have t0 : (k : Int) < (n : Int) := by omega
      have t6 : IntKind.i64.wrap ((k : Int) + 1) = (k : Int) + 1 := Bw.1 _ (by omega) (by unfold maxLen at hlm; omega)
      have t1 : (0 : Int) < (n : Int) := by omega
      have q1 := (rd1_of_rdn r1 (i := 5) (by omega)).1
      simp [VtR.row] at q1
      unfold VtR.row at r1
      clear hall hA ok hyes ey e0 en
      (all_goals (refine (fun f : True → _ => f trivial) ?_)); repeat' ((first | (with_reducible refine fun _ : True => ?_) | (refine AllocQ_i ?_; intro bk hb0 hbk; (try simp only [set_none'] at hbk); (try (first | have hbn := Grow.none (by assumption) hbk | have hbn := Grow.none (by assumption) hbk.2 | have hbn := Grow.none (by assumption) hbk.2.2 | have hbn := Grow.none (by assumption) hbk.2.2.2 | have hbn := Grow.none (by assumption) hbk.2.2.2.2 | have hbn := Grow.none (by assumption) hbk.2.2.2.2.2)); (try simp only [set_none'] at hbn); (try (first | have hbm := Grow.none (by assumption) hbn | have hbm := Grow.none (by assumption) hbn.2 | have hbm := Grow.none (by assumption) hbn.2.2 | have hbm := Grow.none (by assumption) hbn.2.2.2 | have hbm := Grow.none (by assumption) hbn.2.2.2.2 | have hbm := Grow.none (by assumption) hbn.2.2.2.2.2)); (try simp only [set_none'] at hbm)) | ((first | refine condS_i ?_ ?_ | refine pick_i ?_ ?_ | refine gS_it ?_ ?_ | refine gS_if ?_ ?_ | refine gP_it ?_ ?_ | refine gP_if ?_ ?_) <;> (intro hc; try simp only [Int.reduceLE,Int.reduceLT,Int.reduceEq,and_self,not_true_eq_false,not_false_eq_true,and_true,true_and,false_and,and_false,true_or,or_true,false_or,or_false,decide_eq_true_eq,decide_eq_false_iff_not,beq_iff_eq,beq_eq_false_iff_ne,bne_iff_ne,ne_eq,gt_iff_lt,ge_iff_le,Bool.not_eq_true,Bool.not_eq_false,Bool.not_eq_true',Bool.not_eq_false',Bool.not_eq_eq_eq_not,Bool.not_true,Bool.not_false] at hc)) | (refine KP_i (by (repeat' (first | exact Heap.Le.refl _ | (refine Le_known (by first | (simp only [Heap.set_same, set_ne, ne_eq, not_false_eq_true, *] <;> rfl) | fail) ?_) | (refine Le_fresh (by first | (simp only [*] <;> done) | (simp [set_none', Heap.set_same, set_ne, *] <;> done) | fail) ?_) | (refine Heap.Le.trans ?_ (Grow.le (by assumption)))))) ?_) | (with_reducible refine And.intro ?_ ?_)) <;> (try simp only [Sh,Si,Sl,Bu,Bb,Bd,Bc,Bw,Bn,Int.reduceAdd,Int.reduceSub,Int.reduceMul,Int.reduceTDiv,Int.reduceTMod,Int.reduceMod,Int.reduceDiv,Nat.reduceLT,Nat.reduceEqDiff,decide_true,decide_false,Sa,Sb,Sc,Sd,Se,Sf,Sg,true_and,and_true,and_self,eq_self,b_i64,b_i32,b_u64,b_u32,b_u8,Int.reduceLE,Int.reduceLT,Int.reduceToNat,Int.reduceNeg,Int.reduceEq,Nat.reduceLeDiff,Nat.reducePow,Int.reducePow,Nat.min_def,reduceIte,Nat.reduceSub,Nat.reduceAdd,Nat.reduceMul,KP_same,KP_f,condS_t,condS_f,pick_t,pick_f,gS_tt,gS_ff,gS_tf,gS_ft,gS_u,gP_tt,gP_ff,gP_tf,gP_ft,gP_u,ptrV_eq,slcV_eq,cells_agg,cells_int,cells_bool,cells_ptr,cells_slice,oc_int,oc_bool,oc_slice,oc_ptr,rd1_set,rd1_ne,rdn_set,rdn_ne,Heap.set_same,set_ne,Heap.set_set,set_up,set_up2,set_up3,putAt,ceq,List.map_cons,List.map_nil,List.length_cons,List.length_nil,List.length_set,List.cons_append,List.nil_append,List.append_nil,List.replicate,List.size_toArray,List.all_cons,List.all_nil,Bool.and_self,Bool.and_true,List.drop_zero,List.drop_succ_cons,List.take_succ_cons,List.take_zero,List.set_cons_zero,List.set_cons_succ,List.getElem?_cons_zero,List.getElem?_cons_succ,Option.map_some,Option.map_none,ne_eq,not_false_eq_true,not_true_eq_false,gt_iff_lt,ge_iff_le,Int.one_mul,Nat.zero_add,Nat.zero_mul,Bool.not_true,Bool.not_false,Bool.false_eq_true,Bool.and_false,Bool.false_and,Bool.true_and, *]))
      all_goals first
        | exact hno (by omega) _ (by (repeat' (first | exact Heap.Le.refl _ | (refine Le_known (by first | (simp only [Heap.set_same, set_ne, ne_eq, not_false_eq_true, *] <;> rfl) | fail) ?_) | (refine Le_fresh (by first | (simp only [*] <;> done) | (simp [set_none', Heap.set_same, set_ne, *] <;> done) | fail) ?_) | (refine Heap.Le.trans ?_ (Grow.le (by assumption))))))
        | exact Round_mk (k + 1, undef) ⟨hlt, nxt (by omega) (by omega)⟩ (by simp only; omega) (by (repeat' (first | exact Heap.Le.refl _ | (refine Le_known (by first | (simp only [Heap.set_same, set_ne, ne_eq, not_false_eq_true, *] <;> rfl) | fail) ?_) | (refine Le_fresh (by first | (simp only [*] <;> done) | (simp [set_none', Heap.set_same, set_ne, *] <;> done) | fail) ?_) | (refine Heap.Le.trans ?_ (Grow.le (by assumption)))))) rfl rfl
    · obtain rfl : n = k := by omega
      have t0 : ¬ ((n : Nat) : Int) < ((n : Nat) : Int) := by omega
      have hfin := hyes fun k y e => hall k y (by rw [← en]; exact (List.getElem?_eq_some_iff.1 e).1) e
      clear hno hall hyes hA
      (all_goals (refine (fun f : True → _ => f trivial) ?_)); repeat' ((first | (with_reducible refine fun _ : True => ?_) | (refine AllocQ_i ?_; intro bk hb0 hbk; (try simp only [set_none'] at hbk); (try (first | have hbn := Grow.none (by assumption) hbk | have hbn := Grow.none (by assumption) hbk.2 | have hbn := Grow.none (by assumption) hbk.2.2 | have hbn := Grow.none (by assumption) hbk.2.2.2 | have hbn := Grow.none (by assumption) hbk.2.2.2.2 | have hbn := Grow.none (by assumption) hbk.2.2.2.2.2)); (try simp only [set_none'] at hbn); (try (first | have hbm := Grow.none (by assumption) hbn | have hbm := Grow.none (by assumption) hbn.2 | have hbm := Grow.none (by assumption) hbn.2.2 | have hbm := Grow.none (by assumption) hbn.2.2.2 | have hbm := Grow.none (by assumption) hbn.2.2.2.2 | have hbm := Grow.none (by assumption) hbn.2.2.2.2.2)); (try simp only [set_none'] at hbm)) | ((first | refine condS_i ?_ ?_ | refine pick_i ?_ ?_ | refine gS_it ?_ ?_ | refine gS_if ?_ ?_ | refine gP_it ?_ ?_ | refine gP_if ?_ ?_) <;> (intro hc; try simp only [Int.reduceLE,Int.reduceLT,Int.reduceEq,and_self,not_true_eq_false,not_false_eq_true,and_true,true_and,false_and,and_false,true_or,or_true,false_or,or_false,decide_eq_true_eq,decide_eq_false_iff_not,beq_iff_eq,beq_eq_false_iff_ne,bne_iff_ne,ne_eq,gt_iff_lt,ge_iff_le,Bool.not_eq_true,Bool.not_eq_false,Bool.not_eq_true',Bool.not_eq_false',Bool.not_eq_eq_eq_not,Bool.not_true,Bool.not_false] at hc)) | (refine KP_i (by (repeat' (first | exact Heap.Le.refl _ | (refine Le_known (by first | (simp only [Heap.set_same, set_ne, ne_eq, not_false_eq_true, *] <;> rfl) | fail) ?_) | (refine Le_fresh (by first | (simp only [*] <;> done) | (simp [set_none', Heap.set_same, set_ne, *] <;> done) | fail) ?_) | (refine Heap.Le.trans ?_ (Grow.le (by assumption)))))) ?_) | (with_reducible refine And.intro ?_ ?_)) <;> (try simp only [Sh,Si,Sl,Bu,Bb,Bd,Bc,Bw,Bn,Int.reduceAdd,Int.reduceSub,Int.reduceMul,Int.reduceTDiv,Int.reduceTMod,Int.reduceMod,Int.reduceDiv,Nat.reduceLT,Nat.reduceEqDiff,decide_true,decide_false,Sa,Sb,Sc,Sd,Se,Sf,Sg,true_and,and_true,and_self,eq_self,b_i64,b_i32,b_u64,b_u32,b_u8,Int.reduceLE,Int.reduceLT,Int.reduceToNat,Int.reduceNeg,Int.reduceEq,Nat.reduceLeDiff,Nat.reducePow,Int.reducePow,Nat.min_def,reduceIte,Nat.reduceSub,Nat.reduceAdd,Nat.reduceMul,KP_same,KP_f,condS_t,condS_f,pick_t,pick_f,gS_tt,gS_ff,gS_tf,gS_ft,gS_u,gP_tt,gP_ff,gP_tf,gP_ft,gP_u,ptrV_eq,slcV_eq,cells_agg,cells_int,cells_bool,cells_ptr,cells_slice,oc_int,oc_bool,oc_slice,oc_ptr,rd1_set,rd1_ne,rdn_set,rdn_ne,Heap.set_same,set_ne,Heap.set_set,set_up,set_up2,set_up3,putAt,ceq,List.map_cons,List.map_nil,List.length_cons,List.length_nil,List.length_set,List.cons_append,List.nil_append,List.append_nil,List.replicate,List.size_toArray,List.all_cons,List.all_nil,Bool.and_self,Bool.and_true,List.drop_zero,List.drop_succ_cons,List.take_succ_cons,List.take_zero,List.set_cons_zero,List.set_cons_succ,List.getElem?_cons_zero,List.getElem?_cons_succ,Option.map_some,Option.map_none,ne_eq,not_false_eq_true,not_true_eq_false,gt_iff_lt,ge_iff_le,Int.one_mul,Nat.zero_add,Nat.zero_mul,Bool.not_true,Bool.not_false,Bool.false_eq_true,Bool.and_false,Bool.false_and,Bool.true_and, *]))
      exact Fin_mk (by (repeat' (first | exact Heap.Le.refl _ | (refine Le_known (by first | (simp only [Heap.set_same, set_ne, ne_eq, not_false_eq_true, *] <;> rfl) | fail) ?_) | (refine Le_fresh (by first | (simp only [*] <;> done) | (simp [set_none', Heap.set_same, set_ne, *] <;> done) | fail) ?_) | (refine Heap.Le.trans ?_ (Grow.le (by assumption)))))) hfin
end
/- paintboxref21 part -/
def M40 : MC :=
  .seq (.reg [⟨(some 4), .mv (.const (.int .i64 0)), none⟩])
  (.seq (.reg [⟨(some 6), .mv (.tmp 0), none⟩,
      ⟨(some 7), .mv (.tmp 1), none⟩,
      ⟨(some 8), .call 51 [(.tmp 6), (.tmp 7)], none⟩,
      ⟨(some 9), .conv .i64 (.tmp 8), none⟩,
      ⟨(some 5), .mv (.tmp 9), none⟩])
   (.seq (.seq (.reg [⟨(some 10), .mv (.tmp 5), none⟩,
        ⟨(some 11), .bin .lss (.tmp 10) (.const (.int .i64 (-65536))), none⟩])
     (.cond (.tmp 11)
      (.reg [⟨(some 5), .mv (.const (.int .i64 (-65536))), none⟩])
      (.skip)))
    (.seq (.seq (.reg [⟨(some 12), .mv (.tmp 5), none⟩,
         ⟨(some 13), .bin .gtr (.tmp 12) (.const (.int .i64 65536)), none⟩])
      (.cond (.tmp 13)
       (.reg [⟨(some 5), .mv (.const (.int .i64 65536)), none⟩])
       (.skip)))
     (.seq (.reg [⟨(some 14), .mv (.tmp 5), none⟩,
         ⟨(some 15), .bin .add (.tmp 14) (.const (.int .i64 65536)), none⟩,
         ⟨(some 4), .mv (.tmp 15), none⟩])
      (.ret)))))
theorem k40 : fnOk Try.prog 40 = some (M40, [.t 4], 16) := by kernel_rfl

theorem r_part (x w : Int) (hx : I32 x) (hw : I32 w) (h : K (.int .i64 (wpart x w)) H) : HCalls Try.prog w0 40 [.int .i32 x, .int .i32 w] H K := by
  have key : ∀ (G : Heap) (y : Int), Heap.Le H G → y = wpart x w → HL.Fin K (.int .i64 y) G := fun G y g e => by subst e; exact Fin_mk g h
  clear h
  have hd := fdiv_I32 (a := x) (b := w)
  unfold I32 at hd
  unfold wpart at key
  have e1 : IntKind.i64.wrap (fdiv x w) = fdiv x w := Bw.1 _ (by omega) (by omega)
  refine HL.hc k40 999 ?_; unfold M40
  (all_goals (refine (fun f : True → _ => f trivial) ?_)); repeat' ((first | (with_reducible refine fun _ : True => ?_) | refine r_Div _ _ hx hw ?_ | (refine AllocQ_i ?_; intro bk hb0 hbk; try simp only [set_none'] at hbk) | ((first | refine condS_i ?_ ?_ | refine pick_i ?_ ?_ | refine gS_it ?_ ?_ | refine gS_if ?_ ?_ | refine gP_it ?_ ?_ | refine gP_if ?_ ?_) <;> (intro hc; try simp only [Int.reduceLE,Int.reduceLT,Int.reduceEq,and_self,not_true_eq_false,not_false_eq_true,and_true,true_and,false_and,and_false,true_or,or_true,false_or,or_false,decide_eq_true_eq,decide_eq_false_iff_not,beq_iff_eq,beq_eq_false_iff_ne,bne_iff_ne,ne_eq,gt_iff_lt,ge_iff_le,Bool.not_eq_true,Bool.not_eq_false,Bool.not_eq_true',Bool.not_eq_false',Bool.not_eq_eq_eq_not,Bool.not_true,Bool.not_false] at hc)) | (refine KP_i (by (repeat' (first | exact Heap.Le.refl _ | (refine Le_fresh (by first | exact (by simp only [*]) | exact (by simp [set_none', *])) ?_) | (refine Heap.Le.trans ?_ (Grow.le (by assumption)))))) ?_) | (with_reducible refine And.intro ?_ ?_)) <;> (try simp only [Sh,Si,Sl,Bu,Bb,Bd,Bc,Bw,Bn,Int.reduceAdd,Int.reduceSub,Int.reduceMul,Int.reduceTDiv,Int.reduceTMod,Int.reduceMod,Int.reduceDiv,Nat.reduceLT,Nat.reduceEqDiff,decide_true,decide_false,Sa,Sb,Sc,Sd,Se,Sf,Sg,true_and,and_true,and_self,eq_self,b_i64,b_i32,b_u64,b_u32,b_u8,Int.reduceLE,Int.reduceLT,Int.reduceToNat,Int.reduceNeg,Int.reduceEq,Nat.reduceLeDiff,Nat.reducePow,Int.reducePow,Nat.min_def,reduceIte,Nat.reduceSub,Nat.reduceAdd,Nat.reduceMul,KP_same,KP_f,condS_t,condS_f,pick_t,pick_f,gS_tt,gS_ff,gS_tf,gS_ft,gS_u,gP_tt,gP_ff,gP_tf,gP_ft,gP_u,ptrV_eq,slcV_eq,cells_agg,cells_int,cells_bool,cells_ptr,cells_slice,oc_int,oc_bool,oc_slice,oc_ptr,rd1_set,rd1_ne,rdn_set,rdn_ne,Heap.set_same,set_ne,Heap.set_set,set_up,set_up2,set_up3,putAt,ceq,List.map_cons,List.map_nil,List.length_cons,List.length_nil,List.length_set,List.cons_append,List.nil_append,List.append_nil,List.replicate,List.size_toArray,List.all_cons,List.all_nil,Bool.and_self,Bool.and_true,List.drop_zero,List.drop_succ_cons,List.take_succ_cons,List.take_zero,List.set_cons_zero,List.set_cons_succ,List.getElem?_cons_zero,List.getElem?_cons_succ,Option.map_some,Option.map_none,ne_eq,not_false_eq_true,not_true_eq_false,gt_iff_lt,ge_iff_le,Int.one_mul,Nat.zero_add,Nat.zero_mul,Bool.not_true,Bool.not_false,Bool.false_eq_true,Bool.and_false,Bool.false_and,Bool.true_and, *]))
  all_goals (refine key _ _ (by (repeat' (first | exact Heap.Le.refl _ | (refine Le_known (by first | (simp only [Heap.set_same, set_ne, ne_eq, not_false_eq_true, *] <;> rfl) | fail) ?_) | (refine Le_fresh (by first | (simp only [*] <;> done) | (simp [set_none', Heap.set_same, set_ne, *] <;> done) | fail) ?_) | (refine Heap.Le.trans ?_ (Grow.le (by assumption)))))) ?_)
  all_goals (try rw [Bw.1 _ (by omega) (by omega)])
  all_goals ((repeat' split) <;> omega)
/- paintboxref21 Window -/
def M22 : MC :=
  .seq (.reg [⟨(some 2), .box 24 (.tmp 0), none⟩,
     ⟨(some 3), .box 29 (.tmp 1), none⟩,
     ⟨(some 4), .alloc 44 [(.int .i64 0), (.int .i64 0), (.int .i32 0), (.int .i32 0), (.int .i32 0), (.slice none 0 0)], none⟩])
  (.seq (.reg [⟨(some 8), .fa 0 (.tmp 3), none⟩,
      ⟨(some 9), .ia 4 1 (.tmp 8) (.const (.int .i64 3)), none⟩,
      ⟨(some 10), .ld1 (.tmp 9), none⟩,
      ⟨(some 5), .mv (.tmp 10), none⟩])
   (.seq (.reg [⟨(some 11), .mv (.tmp 5), none⟩,
       ⟨(some 12), .fa 4 (.tmp 3), none⟩,
       ⟨(some 13), .ld1 (.tmp 12), none⟩,
       ⟨(some 14), .fa 5 (.tmp 3), none⟩,
       ⟨(some 15), .ld1 (.tmp 14), none⟩,
       ⟨(some 16), .build [(.int .i64 0), (.int .i64 0), (.int .i32 0), (.int .i32 0), (.int .i32 0), (.slice none 0 0)] [(3, 1, (.tmp 11)), (4, 1, (.tmp 13)), (5, 1, (.tmp 15))], none⟩,
       ⟨(some 6), .alloc 44 [(.int .i64 0), (.int .i64 0), (.int .i32 0), (.int .i32 0), (.int .i32 0), (.slice none 0 0)], none⟩,
       ⟨none, .stn 6 (.tmp 6) (.tmp 16), none⟩])
    (.seq (.any [(true, true, ⟨(some 17), .fa 0 (.tmp 2), none⟩),
        (true, true, ⟨(some 18), .ld1 (.tmp 17), none⟩),
        (true, true, ⟨(some 19), .bin .mul (.const (.int .i64 256)) (.tmp 18), none⟩),
        (true, true, ⟨(some 20), .fa 0 (.tmp 3), none⟩),
        (true, true, ⟨(some 21), .ia 4 1 (.tmp 20) (.const (.int .i64 0)), none⟩),
        (true, true, ⟨(some 22), .ld1 (.tmp 21), none⟩),
        (true, true, ⟨(some 23), .mv (.tmp 5), none⟩),
        (true, true, ⟨(some 25), .fa 2 (.tmp 2), none⟩),
        (true, true, ⟨(some 26), .ld1 (.tmp 25), none⟩),
        (false, true, ⟨(some 24), .call 40 [(.tmp 22), (.tmp 23)], none⟩),
        (false, true, ⟨(some 27), .bin .mul (.tmp 24) (.tmp 26), none⟩),
        (false, true, ⟨(some 28), .bin .quo (.tmp 27) (.const (.int .i64 512)), none⟩),
        (false, false, ⟨(some 29), .bin .add (.tmp 19) (.tmp 28), none⟩),
        (false, false, ⟨(some 30), .fa 0 (.tmp 6), none⟩),
        (false, false, ⟨none, .st1 (.tmp 30) (.tmp 29), none⟩)])
     (.seq (.any [(true, true, ⟨(some 31), .fa 1 (.tmp 2), none⟩),
         (true, true, ⟨(some 32), .ld1 (.tmp 31), none⟩),
         (true, true, ⟨(some 33), .bin .mul (.const (.int .i64 256)) (.tmp 32), none⟩),
         (true, true, ⟨(some 34), .fa 0 (.tmp 3), none⟩),
         (true, true, ⟨(some 35), .ia 4 1 (.tmp 34) (.const (.int .i64 1)), none⟩),
         (true, true, ⟨(some 36), .ld1 (.tmp 35), none⟩),
         (true, true, ⟨(some 37), .mv (.tmp 5), none⟩),
         (true, true, ⟨(some 39), .fa 3 (.tmp 2), none⟩),
         (true, true, ⟨(some 40), .ld1 (.tmp 39), none⟩),
         (false, true, ⟨(some 38), .call 40 [(.tmp 36), (.tmp 37)], none⟩),
         (false, true, ⟨(some 41), .bin .mul (.tmp 38) (.tmp 40), none⟩),
         (false, true, ⟨(some 42), .bin .quo (.tmp 41) (.const (.int .i64 512)), none⟩),
         (false, false, ⟨(some 43), .bin .add (.tmp 33) (.tmp 42), none⟩),
         (false, false, ⟨(some 44), .fa 1 (.tmp 6), none⟩),
         (false, false, ⟨none, .st1 (.tmp 44) (.tmp 43), none⟩)])
      (.seq (.reg [⟨(some 45), .fa 0 (.tmp 3), none⟩,
          ⟨(some 46), .ia 4 1 (.tmp 45) (.const (.int .i64 2)), none⟩,
          ⟨(some 47), .ld1 (.tmp 46), none⟩,
          ⟨(some 48), .mv (.tmp 5), none⟩,
          ⟨(some 49), .call 40 [(.tmp 47), (.tmp 48)], none⟩,
          ⟨(some 50), .bin .quo (.tmp 49) (.const (.int .i64 2)), none⟩,
          ⟨(some 51), .conv .i32 (.tmp 50), none⟩,
          ⟨(some 7), .mv (.tmp 51), none⟩])
       (.seq (.any [(true, true, ⟨(some 52), .fa 4 (.tmp 2), none⟩),
           (true, true, ⟨(some 53), .ld1 (.tmp 52), none⟩),
           (true, true, ⟨(some 54), .fa 5 (.tmp 2), none⟩),
           (true, true, ⟨(some 55), .ld1 (.tmp 54), none⟩),
           (true, true, ⟨(some 56), .fa 4 (.tmp 2), none⟩),
           (true, true, ⟨(some 57), .ld1 (.tmp 56), none⟩),
           (true, true, ⟨(some 59), .mv (.tmp 7), none⟩),
           (false, true, ⟨(some 58), .call 37 [(.tmp 55), (.tmp 57)], none⟩),
           (false, true, ⟨(some 60), .call 41 [(.tmp 58), (.tmp 59)], none⟩),
           (false, false, ⟨(some 61), .call 38 [(.tmp 53), (.tmp 60)], none⟩),
           (false, false, ⟨(some 62), .fa 2 (.tmp 6), none⟩),
           (false, false, ⟨none, .st1 (.tmp 62) (.tmp 61), none⟩)])
        (.seq (.reg [⟨(some 63), .ldn 6 (.tmp 6), none⟩,
            ⟨none, .stn 6 (.tmp 4) (.tmp 63), none⟩])
         (.ret))))))))
theorem k22 : fnOk Try.prog 22 = some (M22, [.cn 6 4], 64) := by kernel_rfl

theorem r_Window (v : Vw) (x : VtR) (hv : v.right) (hx : VtOk w0 H x) (h : K (WnR.mk (winA v x.toVt) x.a x.cap).v H) : HCalls Try.prog w0 22 [v.v, x.v] H K := by
  have hp := hx.p
  have hs := hx.s
  clear hx
  have o1 : ∀ i j, 0 ≤ wpart i j ∧ wpart i j ≤ 131072 := fun i j => wpart_le i j
  obtain ⟨v1, v2, v3, v4, v5, v6, v7, v8⟩ := hv
  have p0 := winX_le v1 v3 (o1 (x.p 0) (x.p 3))
  have p1 := winX_le v2 v4 (o1 (x.p 1) (x.p 3))
  have nI : I32 v.n := by unfold I32; omega
  have fI : I32 v.f := by unfold I32; omega
  obtain ⟨hd, he⟩ := o1 (x.p 2) (x.p 3)
  have zI : I32 (wpart (x.p 2) (x.p 3) / 2) := by unfold I32; omega
  have t0 : ∀ a c : Int, 0 ≤ a → a.tdiv c = a / c := fun a c h => Int.tdiv_eq_ediv_of_nonneg h
  unfold winX at p0 p1
  obtain ⟨q0a, q0b⟩ := o1 (x.p 0) (x.p 3)
  obtain ⟨q1a, q1b⟩ := o1 (x.p 1) (x.p 3)
  have e1 : IntKind.i64.wrap (wpart (x.p 0) (x.p 3) * v.w) = wpart (x.p 0) (x.p 3) * v.w := Bw.1 _ (by omega) (by omega)
  have e2 : IntKind.i64.wrap (wpart (x.p 1) (x.p 3) * v.h) = wpart (x.p 1) (x.p 3) * v.h := Bw.1 _ (by omega) (by omega)
  have e3 : IntKind.i64.wrap (256 * v.x) = 256 * v.x := Bw.1 _ (by omega) (by omega)
  have e4 : IntKind.i64.wrap (256 * v.y) = 256 * v.y := Bw.1 _ (by omega) (by omega)
  have e5 : IntKind.i64.wrap (wpart (x.p 0) (x.p 3) * v.w / 512) = wpart (x.p 0) (x.p 3) * v.w / 512 := Bw.1 _ (by omega) (by omega)
  have e6 : IntKind.i64.wrap (wpart (x.p 1) (x.p 3) * v.h / 512) = wpart (x.p 1) (x.p 3) * v.h / 512 := Bw.1 _ (by omega) (by omega)
  have e7 : IntKind.i64.wrap (256 * v.x + wpart (x.p 0) (x.p 3) * v.w / 512) = 256 * v.x + wpart (x.p 0) (x.p 3) * v.w / 512 := Bw.1 _ (by omega) (by omega)
  have e8 : IntKind.i64.wrap (256 * v.y + wpart (x.p 1) (x.p 3) * v.h / 512) = 256 * v.y + wpart (x.p 1) (x.p 3) * v.h / 512 := Bw.1 _ (by omega) (by omega)
  have e9 : IntKind.i64.wrap (wpart (x.p 2) (x.p 3) / 2) = wpart (x.p 2) (x.p 3) / 2 := Bw.1 _ (by omega) (by omega)
  have e10 : IntKind.i32.wrap (wpart (x.p 2) (x.p 3) / 2) = wpart (x.p 2) (x.p 3) / 2 := Bw.2 _ (by omega) (by omega)
  have f1 := t0 _ 512 p0.2.2.1
  have f2 := t0 _ 512 p1.2.2.1
  have f3 := t0 _ 2 hd
  clear t0
  unfold VtR.v Vw.v
  unfold WnR.v winA winX winZ at h
  refine HL.hc k22 999 ?_; unfold M22
  (all_goals (refine (fun f : True → _ => f trivial) ?_)); repeat' ((first | (with_reducible refine fun _ : True => ?_) | refine r_part _ _ (hp _) (hp 3) ?_ | refine r_Sub _ _ fI nI ?_ | refine r_Mul _ _ (raw_I32 _) zI ?_ | refine r_Add _ _ nI (raw_I32 _) ?_ | (refine AllocQ_i ?_; intro bk hb0 hbk; (try simp only [set_none'] at hbk); (try (first | have hbn := Grow.none (by assumption) hbk | have hbn := Grow.none (by assumption) hbk.2 | have hbn := Grow.none (by assumption) hbk.2.2 | have hbn := Grow.none (by assumption) hbk.2.2.2 | have hbn := Grow.none (by assumption) hbk.2.2.2.2 | have hbn := Grow.none (by assumption) hbk.2.2.2.2.2)); (try simp only [set_none'] at hbn); (try (first | have hbm := Grow.none (by assumption) hbn | have hbm := Grow.none (by assumption) hbn.2 | have hbm := Grow.none (by assumption) hbn.2.2 | have hbm := Grow.none (by assumption) hbn.2.2.2 | have hbm := Grow.none (by assumption) hbn.2.2.2.2 | have hbm := Grow.none (by assumption) hbn.2.2.2.2.2)); (try simp only [set_none'] at hbm)) | ((first | refine condS_i ?_ ?_ | refine pick_i ?_ ?_ | refine gS_it ?_ ?_ | refine gS_if ?_ ?_ | refine gP_it ?_ ?_ | refine gP_if ?_ ?_) <;> (intro hc; try simp only [Int.reduceLE,Int.reduceLT,Int.reduceEq,and_self,not_true_eq_false,not_false_eq_true,and_true,true_and,false_and,and_false,true_or,or_true,false_or,or_false,decide_eq_true_eq,decide_eq_false_iff_not,beq_iff_eq,beq_eq_false_iff_ne,bne_iff_ne,ne_eq,gt_iff_lt,ge_iff_le,Bool.not_eq_true,Bool.not_eq_false,Bool.not_eq_true',Bool.not_eq_false',Bool.not_eq_eq_eq_not,Bool.not_true,Bool.not_false] at hc)) | (refine KP_i (by (repeat' (first | exact Heap.Le.refl _ | (refine Le_known (by first | (simp only [Heap.set_same, set_ne, ne_eq, not_false_eq_true, *] <;> rfl) | fail) ?_) | (refine Le_fresh (by first | (simp only [*] <;> done) | (simp [set_none', Heap.set_same, set_ne, *] <;> done) | fail) ?_) | (refine Heap.Le.trans ?_ (Grow.le (by assumption)))))) ?_) | (with_reducible refine And.intro ?_ ?_)) <;> (try simp only [Sh,Si,Sl,Bu,Bb,Bd,Bc,Bw,Bn,Int.reduceAdd,Int.reduceSub,Int.reduceMul,Int.reduceTDiv,Int.reduceTMod,Int.reduceMod,Int.reduceDiv,Nat.reduceLT,Nat.reduceEqDiff,decide_true,decide_false,Sa,Sb,Sc,Sd,Se,Sf,Sg,true_and,and_true,and_self,eq_self,b_i64,b_i32,b_u64,b_u32,b_u8,Int.reduceLE,Int.reduceLT,Int.reduceToNat,Int.reduceNeg,Int.reduceEq,Nat.reduceLeDiff,Nat.reducePow,Int.reducePow,Nat.min_def,reduceIte,Nat.reduceSub,Nat.reduceAdd,Nat.reduceMul,KP_same,KP_f,condS_t,condS_f,pick_t,pick_f,gS_tt,gS_ff,gS_tf,gS_ft,gS_u,gP_tt,gP_ff,gP_tf,gP_ft,gP_u,ptrV_eq,slcV_eq,cells_agg,cells_int,cells_bool,cells_ptr,cells_slice,oc_int,oc_bool,oc_slice,oc_ptr,rd1_set,rd1_ne,rdn_set,rdn_ne,Heap.set_same,set_ne,Heap.set_set,set_up,set_up2,set_up3,putAt,ceq,List.map_cons,List.map_nil,List.length_cons,List.length_nil,List.length_set,List.cons_append,List.nil_append,List.append_nil,List.replicate,List.size_toArray,List.all_cons,List.all_nil,Bool.and_self,Bool.and_true,List.drop_zero,List.drop_succ_cons,List.take_succ_cons,List.take_zero,List.set_cons_zero,List.set_cons_succ,List.getElem?_cons_zero,List.getElem?_cons_succ,Option.map_some,Option.map_none,ne_eq,not_false_eq_true,not_true_eq_false,gt_iff_lt,ge_iff_le,Int.one_mul,Nat.zero_add,Nat.zero_mul,Bool.not_true,Bool.not_false,Bool.false_eq_true,Bool.and_false,Bool.false_and,Bool.true_and, *]))
  exact Fin_mk (by (repeat' (first | exact Heap.Le.refl _ | (refine Le_known (by first | (simp only [Heap.set_same, set_ne, ne_eq, not_false_eq_true, *] <;> rfl) | fail) ?_) | (refine Le_fresh (by first | (simp only [*] <;> done) | (simp [set_none', Heap.set_same, set_ne, *] <;> done) | fail) ?_) | (refine Heap.Le.trans ?_ (Grow.le (by assumption)))))) h
end Go.Proofs.Ytofgiimfempcjaa
