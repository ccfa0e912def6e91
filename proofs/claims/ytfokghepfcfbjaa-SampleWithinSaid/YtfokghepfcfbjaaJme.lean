/- The colour of a level at a place, by both (layer 9). -/
import Derived.Test.YtfokghepfcfbjaaJmc
import Derived.Test.YtfokghepfcfbjaaImv
import Derived.Test.YtfokghepfcfbjaaSa
set_option linter.unusedSimpArgs false
set_option linter.unusedVariables false
set_option maxRecDepth 100000
set_option maxHeartbeats 4000000
namespace Go.Proofs.Ytfokghepfcfbjaa
open Go.HL Go.RowKit Pb
variable {w0 : World} {H : Heap} {K : Value → Heap → Prop}

/-- Bytes as a number, the lowest first. -/
def leN : List Int → Int
  | [] => 0
  | b :: l => b + 256 * leN l
theorem size_cases {f : Int} {n : Nat} (h : (n : Int) = sizeI f) (h0 : sizeI f ≠ 0) : (f = 1 ∧ n = 4) ∨ ((f = 2 ∨ f = 3 ∨ f = 4 ∨ f = 7) ∧ n = 2) ∨ ((f = 5 ∨ f = 6) ∧ n = 1) := by
  unfold sizeI at h h0
  split at h
  · exact .inl ⟨by assumption, by omega⟩
  · split at h
    · exact .inr (.inl ⟨by assumption, by omega⟩)
    · split at h
      · exact .inr (.inr ⟨by assumption, by omega⟩)
      · rename_i h1 h2 h3
        rw [if_neg h1, if_neg h2, if_neg h3] at h0
        exact (h0 rfl).elim
theorem list1 {l : List Int} (h : l.length = 1) : ∃ a, l = [a] := by
  match l, h with
  | [a], _ => exact ⟨a, rfl⟩
theorem list2 {l : List Int} (h : l.length = 2) : ∃ a b, l = [a, b] := by
  match l, h with
  | [a, b], _ => exact ⟨a, b, rfl⟩
theorem list4 {l : List Int} (h : l.length = 4) : ∃ a b c d, l = [a, b, c, d] := by
  match l, h with
  | [a, b, c, d], _ => exact ⟨a, b, c, d, rfl⟩
theorem c_Unpack (f : Int) (a : Option Addr) (n c : Nat) (l : List Int) (hn : l.length = n) (hs : (n : Int) = sizeI f) (h0 : sizeI f ≠ 0) (hb : ∀ b ∈ l, 0 ≤ b ∧ b ≤ 255) (hA : IntsAt w0 H .u8 a l) (h : K (.tuple #[V4 (unp f (leN l)), .int .i64 0]) H) :
    HCalls Try.prog w0 53 [.int .i64 f, .slice a n c] H K := by
  subst hn
  rcases size_cases hs h0 with ⟨rfl, e⟩ | ⟨e, e'⟩ | ⟨e, e'⟩
  · obtain ⟨b0, b1, b2, b3, rfl⟩ := list4 e
    exact c_Unpack1 a c b0 b1 b2 b3 _ (by simp [leN]; omega) (hb _ (by simp)) (hb _ (by simp)) (hb _ (by simp)) (hb _ (by simp)) hA h
  · obtain ⟨b0, b1, rfl⟩ := list2 e'
    rcases e with rfl | rfl | rfl | rfl
    · exact c_Unpack2 a c b0 b1 _ (by simp [leN]; omega) (hb _ (by simp)) (hb _ (by simp)) hA h
    · exact c_Unpack3 a c b0 b1 _ (by simp [leN]; omega) (hb _ (by simp)) (hb _ (by simp)) hA h
    · exact c_Unpack4 a c b0 b1 _ (by simp [leN]; omega) (hb _ (by simp)) (hb _ (by simp)) hA h
    · exact c_Unpack7 a c b0 b1 _ (by simp [leN]; omega) (hb _ (by simp)) (hb _ (by simp)) hA h
  · obtain ⟨b0, rfl⟩ := list1 e'
    rcases e with rfl | rfl
    · exact c_Unpack5 a c b0 _ (by simp [leN]) (hb _ (by simp)) hA h
    · exact c_Unpack6 a c b0 _ (by simp [leN]) (hb _ (by simp)) hA h
theorem ints_sub {k : IntKind} {b o : Nat} {l : List Int} (h : IntsAt w0 H k (some ⟨b, o, none⟩) l) (i n : Nat) (hi : i + n ≤ l.length) : IntsAt w0 H k (some ⟨b, o + i, none⟩) ((l.drop i).take n) := fun hne => by
  have hn : 0 < n := by
    rcases Nat.eq_zero_or_pos n with e | e
    · subst e; simp at hne
    · exact e
  obtain ⟨b', o', e, hr, hf⟩ := h (by intro e; subst e; simp at hi; omega)
  cases e
  refine ⟨b, o + i, rfl, fun j hj => ?_, hf⟩
  have hl : ((l.drop i).take n).length = n := by simp; omega
  have := hr (i + j) (by omega)
  rw [Nat.add_assoc, this]
  congr 2
  simp only [List.getD, List.getElem?_take, List.getElem?_drop]
  rw [if_pos (by omega)]
theorem fwrap_lt {mode i n : Int} (hn : 1 ≤ n ∧ n ≤ 64) : 0 ≤ fwrap mode i n ∧ fwrap mode i n < n := by
  unfold fwrap
  rw [if_neg (by omega)]
  have h1 := Int.emod_nonneg i (show n ≠ 0 by omega)
  have h2 := Int.emod_lt_of_pos i (show 0 < n by omega)
  have h3 := Int.emod_nonneg i (show 2 * n ≠ 0 by omega)
  have h4 := Int.emod_lt_of_pos i (show 0 < 2 * n by omega)
  (repeat' split) <;> omega
/-- The colour of a level at a place. -/
def colI (x : Im) (y : LvR) (i j : Int) : Nat → Int :=
  unp x.f (leN ((y.l.drop ((fwrap x.t j y.h * y.w + fwrap x.s i y.w) * sizeI x.f).toNat).take (sizeI x.f).toNat))
/-- What is known of a level that is there, of an image that may be. -/
structure Lvl (W : World) (H : Heap) (x : Im) (y : LvR) : Prop where
  ok : LvOk W H y
  w : 1 ≤ y.w ∧ y.w ≤ 64
  h : 1 ≤ y.h ∧ y.h ≤ 64
  l : (y.l.length : Int) = y.w * y.h * sizeI x.f
  f : sizeI x.f ≠ 0
  s : 1 ≤ x.s ∧ x.s ≤ 3
  t : 1 ≤ x.t ∧ x.t ≤ 3
theorem Lvl.grow {W : World} {H G : Heap} {x : Im} {y : LvR} (h : Lvl W H x y) (g : Grow W H G) : Lvl W G x y := ⟨h.ok.grow g, h.w, h.h, h.l, h.f, h.s, h.t⟩
/-- The numbers of a place. -/
theorem place {x : Im} {y : LvR} {W : World} (h : Lvl W H x y) (i j : Int) : ∃ A B w hh S L : Nat, y.w = w ∧ y.h = hh ∧ sizeI x.f = S ∧ fwrap x.t j hh = A ∧ fwrap x.s i w = B ∧
    IntKind.i64.wrap ((A : Int) * w) = ((A * w : Nat) : Int) ∧ IntKind.i64.wrap (((A * w : Nat) : Int) + B) = ((A * w + B : Nat) : Int) ∧ IntKind.i64.wrap (((A * w + B : Nat) : Int) * S) = (L : Int) ∧
    IntKind.i64.wrap ((L : Int) + S) = ((L + S : Nat) : Int) ∧ L + S ≤ y.l.length ∧ 0 < S ∧ S ≤ 4 ∧ colI x y i j = unp x.f (leN ((y.l.drop L).take S)) := by
  obtain ⟨w, ew⟩ := Int.eq_ofNat_of_zero_le (show 0 ≤ y.w by have := h.w; omega)
  obtain ⟨hh, eh⟩ := Int.eq_ofNat_of_zero_le (show 0 ≤ y.h by have := h.h; omega)
  obtain ⟨S, eS⟩ := Int.eq_ofNat_of_zero_le (sizeI_le x.f).1
  have hA := fwrap_lt (mode := x.t) (i := j) (n := y.h) h.h
  have hB := fwrap_lt (mode := x.s) (i := i) (n := y.w) h.w
  obtain ⟨A, eA⟩ := Int.eq_ofNat_of_zero_le hA.1
  obtain ⟨B, eB⟩ := Int.eq_ofNat_of_zero_le hB.1
  have hw := h.w
  have hhh := h.h
  have hl := h.l
  have hS4 := (sizeI_le x.f).2
  have hS0 := h.f
  rw [eA, eh] at hA
  rw [eB, ew] at hB
  rw [ew] at hw
  rw [eh] at hhh
  rw [ew, eh, eS] at hl
  rw [eS] at hS4 hS0
  have hA' : A + 1 ≤ hh := by omega
  have hB' : B + 1 ≤ w := by omega
  have k1 : A * w + w ≤ hh * w := by have := Nat.mul_le_mul_right w hA'; rwa [Nat.add_mul, Nat.one_mul] at this
  have k2 : (A * w + B) * S + S ≤ hh * w * S := by
    have : (A * w + B + 1) * S ≤ hh * w * S := Nat.mul_le_mul_right _ (by omega)
    rwa [Nat.add_mul, Nat.one_mul] at this
  have k3 : y.l.length = hh * w * S := by
    have e : ((y.l.length : Nat) : Int) = ((hh * w * S : Nat) : Int) := by rw [hl, Int.natCast_mul, Int.natCast_mul, Int.mul_comm (w : Int)]
    exact Int.ofNat.inj e
  have k4 : hh * w ≤ 64 * 64 := Nat.mul_le_mul (by omega) (by omega)
  have k5 : hh * w * S ≤ 64 * 64 * 4 := Nat.mul_le_mul k4 (by omega)
  refine ⟨A, B, w, hh, S, (A * w + B) * S, ew, eh, eS, by rw [← eh]; exact eA, by rw [← ew]; exact eB, ?_, ?_, ?_, ?_, by omega, by omega, by omega, ?_⟩
  · rw [← Int.natCast_mul]; exact Bw.1 _ (by omega) (by omega)
  · rw [← Int.natCast_add]; exact Bw.1 _ (by omega) (by omega)
  · rw [← Int.natCast_mul]; exact Bw.1 _ (by omega) (by omega)
  · rw [← Int.natCast_add]; exact Bw.1 _ (by omega) (by omega)
  · unfold colI
    rw [eA, eB, ew, eS]
    congr 4
/- sample texel -/
def M40 : MC :=
  .seq (.reg [⟨(some 4), .box 29 (.tmp 0), none⟩,
     ⟨(some 5), .box 51 (.tmp 1), none⟩,
     ⟨(some 8), .alloc 34 [(.int .i32 0), (.int .i32 0), (.int .i32 0), (.int .i32 0)], none⟩])
  (.seq (.reg [⟨(some 13), .fa 0 (.tmp 4), none⟩,
      ⟨(some 14), .ld1 (.tmp 13), none⟩,
      ⟨(some 15), .call 43 [(.tmp 14)], none⟩,
      ⟨(some 9), .mv (.tmp 15), none⟩])
   (.seq (.any [(true, 0, [], ⟨(some 16), .fa 3 (.tmp 4), none⟩),
       (true, 1, [], ⟨(some 17), .ld1 (.tmp 16), none⟩),
       (true, 2, [], ⟨(some 18), .mv (.tmp 3), none⟩),
       (true, 3, [], ⟨(some 19), .fa 1 (.tmp 5), none⟩),
       (true, 4, [], ⟨(some 20), .ld1 (.tmp 19), none⟩),
       (true, 6, [], ⟨(some 22), .fa 0 (.tmp 5), none⟩),
       (true, 7, [], ⟨(some 23), .ld1 (.tmp 22), none⟩),
       (true, 9, [], ⟨(some 25), .fa 2 (.tmp 4), none⟩),
       (true, 10, [], ⟨(some 26), .ld1 (.tmp 25), none⟩),
       (true, 11, [], ⟨(some 27), .mv (.tmp 2), none⟩),
       (true, 12, [], ⟨(some 28), .fa 0 (.tmp 5), none⟩),
       (true, 13, [], ⟨(some 29), .ld1 (.tmp 28), none⟩),
       (true, 16, [], ⟨(some 32), .mv (.tmp 9), none⟩),
       (false, 5, [6, 7, 9, 10, 11, 12, 13, 16, 8], ⟨(some 21), .call 11 [(.tmp 17), (.tmp 18), (.tmp 20)], none⟩),
       (true, 8, [], ⟨(some 24), .bin .mul (.tmp 21) (.tmp 23), none⟩),
       (false, 14, [6, 7, 16, 8], ⟨(some 30), .call 11 [(.tmp 26), (.tmp 27), (.tmp 29)], none⟩),
       (false, 15, [16], ⟨(some 31), .bin .add (.tmp 24) (.tmp 30), none⟩),
       (false, 17, [], ⟨(some 33), .bin .mul (.tmp 31) (.tmp 32), none⟩),
       (false, 18, [], ⟨(some 10), .mv (.tmp 33), none⟩)])
    (.seq (.alts (.one true 0 [] ⟨(some 35), .fa 0 (.tmp 4), none⟩ (.one true 1 [] ⟨(some 36), .ld1 (.tmp 35), none⟩ (.one true 2 [] ⟨(some 37), .fa 2 (.tmp 5), none⟩ (.one true 3 [] ⟨(some 38), .ld1 (.tmp 37), none⟩ (.one true 4 [] ⟨(some 39), .mv (.tmp 10), none⟩ (.one true 5 [] ⟨(some 40), .mv (.tmp 10), none⟩ (.one true 6 [] ⟨(some 41), .mv (.tmp 9), none⟩ (.one true 7 [] ⟨(some 42), .bin .add (.tmp 40) (.tmp 41), none⟩ (.one true 8 [] ⟨(some 43), .slc 1 (.tmp 38) (some (.tmp 39)) (some (.tmp 42)), none⟩ (.alt (.one false 9 [10, 11, 12, 11, 12] ⟨(some 44), .call 53 [(.tmp 36), (.tmp 43)], none⟩ (.one true 10 [] ⟨(some 34), .mv (.tmp 44), none⟩ (.one true 11 [] ⟨(some 45), .ext 0 (.tmp 34), none⟩ (.one true 12 [] ⟨(some 46), .ext 1 (.tmp 34), none⟩ (.one false 13 [10, 11, 12, 11, 12] ⟨(some 11), .alloc 34 [(.int .i32 0), (.int .i32 0), (.int .i32 0), (.int .i32 0)], none⟩ (.one false 14 [12, 12] ⟨none, .stn 4 (.tmp 11) (.tmp 45), none⟩ (.one false 15 [] ⟨(some 12), .mv (.tmp 46), none⟩ .nil)))))))
      (.one false 13 [0, 1, 2, 3, 4, 5, 6, 7, 8, 10, 11, 12, 11, 12] ⟨(some 11), .alloc 34 [(.int .i32 0), (.int .i32 0), (.int .i32 0), (.int .i32 0)], none⟩ (.one false 9 [10, 11, 12, 11, 12] ⟨(some 44), .call 53 [(.tmp 36), (.tmp 43)], none⟩ (.one false 10 [10, 11, 12, 11, 12] ⟨(some 34), .mv (.tmp 44), none⟩ (.one true 11 [] ⟨(some 45), .ext 0 (.tmp 34), none⟩ (.one true 12 [] ⟨(some 46), .ext 1 (.tmp 34), none⟩ (.one false 14 [12, 12] ⟨none, .stn 4 (.tmp 11) (.tmp 45), none⟩ (.one false 15 [] ⟨(some 12), .mv (.tmp 46), none⟩ .nil))))))))))))))))))
     (.seq (.reg [⟨(some 47), .ldn 4 (.tmp 11), none⟩,
         ⟨none, .stn 4 (.tmp 8) (.tmp 47), none⟩])
      (.ret)))))
theorem k40 : fnOk Try.prog 40 = some (M40, [.cn 4 8], 48) := by kernel_rfl

theorem c_texel (x : Im) (y : LvR) (i j : Int) (hy : Lvl w0 H x y) (hi : I64 i) (hj : I64 j) (h : K (V4 (colI x y i j)) H) : HCalls Try.prog w0 40 [x.v, y.v, .int .i64 i, .int .i64 j] H K := by
  obtain ⟨A, B, w, hh, S, L, ew, eh, eS, eA, eB, m1, m2, m3, m4, hL, hS, hS4, hc⟩ := place hy i j
  have hcap := hy.ok.lc
  have hA := hy.ok.at_
  have hb := hy.ok.by_
  have h0 := hy.f
  rw [hc] at h
  obtain ⟨yw, yh, ya, ycap, yl⟩ := y
  simp only at ew eh hL hcap hA hb h
  subst ew eh
  clear hc hy
  unfold Im.v LvR.v
  obtain ⟨b, o, rfl, hr, hf⟩ := hA (by intro e; subst e; simp at hL; omega)
  have hsub := ints_sub hA L S hL
  have hlen : ((yl.drop L).take S).length = S := by simp; omega
  have hbs : ∀ z ∈ (yl.drop L).take S, 0 ≤ z ∧ z ≤ 255 := fun z hz => hb z (List.mem_of_mem_drop (List.mem_of_mem_take hz))
  generalize hq : (yl.drop L).take S = q at *
  have t1 : (L : Int) ≤ ((L + S : Nat) : Int) := by omega
  have t2 : ((L + S : Nat) : Int) ≤ (ycap : Int) := by omega
  have t3 : ¬ ycap = L := by omega
  have t4 : L + S - L = S := by omega
  clear hr hA hb hL hcap hq
  refine HL.hc k40 999 ?_; unfold M40
  (all_goals (try simp only [Sh,Si,Sl,Bu,Bb,Bd,Bc,Bw,Bn,Int.reduceAdd,Int.reduceSub,Int.reduceMul,Int.reduceTDiv,Int.reduceTMod,Int.reduceMod,Int.reduceDiv,Nat.reduceLT,Nat.reduceEqDiff,decide_true,decide_false,Sa,Sb,Sc,Sd,Se,Sf,Sg,true_and,and_true,and_self,eq_self,b_i64,b_i32,b_u64,b_u32,b_u8,Int.reduceLE,Int.reduceLT,Int.reduceToNat,Int.reduceNeg,Int.reduceEq,Nat.reduceLeDiff,Nat.reducePow,Int.reducePow,Nat.min_def,reduceIte,Nat.reduceSub,Nat.reduceAdd,Nat.reduceMul,KP_same,KP_f,condS_t,condS_f,pick_t,pick_f,gS_tt,gS_ff,gS_tf,gS_ft,gS_u,gP_tt,gP_ff,gP_tf,gP_ft,gP_u,ptrV_eq,slcV_eq,mapV_eq,cells_agg,cells_int,cells_bool,cells_ptr,cells_slice,oc_int,oc_bool,oc_slice,oc_ptr,rd1_set,rd1_ne,rdn_set,rdn_ne,Heap.set_same,set_ne,Heap.set_set,set_up,set_up2,set_up3,putAt,ceq,List.map_cons,List.map_nil,List.length_cons,List.length_nil,List.length_set,List.cons_append,List.nil_append,List.append_nil,List.replicate,List.size_toArray,List.all_cons,List.all_nil,Bool.and_self,Bool.and_true,List.drop_zero,List.drop_succ_cons,List.take_succ_cons,List.take_zero,List.set_cons_zero,List.set_cons_succ,List.getElem?_cons_zero,List.getElem?_cons_succ,Option.map_some,Option.map_none,ne_eq,not_false_eq_true,not_true_eq_false,gt_iff_lt,ge_iff_le,Int.one_mul,Nat.zero_add,Nat.zero_mul,Bool.not_true,Bool.not_false,Bool.false_eq_true,Bool.and_false,Bool.false_and,Bool.true_and, *])); repeat' ((first | (with_reducible refine fun _ : True => ?_) | refine c_pSize _ ?_ | refine c_Wrap _ _ _ hi ?_ | refine c_Wrap _ _ _ hj ?_ | refine c_Unpack x.f _ _ _ q hlen eS.symm h0 hbs (IntsAt.grow hsub (by (repeat' (first | exact Grow.refl _ | assumption | (refine Grow.set ?_ (by assumption) (by first | exact (by simp only [*]) | exact (by simp [set_none', *]) | exact Grow.none (by assumption) (by simp [set_none', *]))) | (refine Grow.trans ?_ (by assumption)))))) ?_ | (with_reducible refine any_h ?_) | ((first | refine AllocQ_i ?_ | refine AllocO_i ?_); intro bk hb0 hbk; try simp only [set_none'] at hbk) | ((first | refine condS_i ?_ ?_ | refine pick_i ?_ ?_ | refine gS_it ?_ ?_ | refine gS_if ?_ ?_ | refine gP_it ?_ ?_ | refine gP_if ?_ ?_) <;> (intro hc; try simp only [Int.reduceLE,Int.reduceLT,Int.reduceEq,and_self,not_true_eq_false,not_false_eq_true,and_true,true_and,false_and,and_false,true_or,or_true,false_or,or_false,decide_eq_true_eq,decide_eq_false_iff_not,beq_iff_eq,beq_eq_false_iff_ne,bne_iff_ne,ne_eq,gt_iff_lt,ge_iff_le,Bool.not_eq_true,Bool.not_eq_false,Bool.not_eq_true',Bool.not_eq_false',Bool.not_eq_eq_eq_not,Bool.not_true,Bool.not_false] at hc)) | (refine KP_i (by (repeat' (first | exact Heap.Le.refl _ | (refine Le_fresh (by first | exact (by simp only [*]) | exact (by simp [set_none', *])) ?_) | (refine Heap.Le.trans ?_ (Grow.le (by assumption)))))) ?_) | (with_reducible refine And.intro ?_ ?_)) <;> (try simp only [Sh,Si,Sl,Bu,Bb,Bd,Bc,Bw,Bn,Int.reduceAdd,Int.reduceSub,Int.reduceMul,Int.reduceTDiv,Int.reduceTMod,Int.reduceMod,Int.reduceDiv,Nat.reduceLT,Nat.reduceEqDiff,decide_true,decide_false,Sa,Sb,Sc,Sd,Se,Sf,Sg,true_and,and_true,and_self,eq_self,b_i64,b_i32,b_u64,b_u32,b_u8,Int.reduceLE,Int.reduceLT,Int.reduceToNat,Int.reduceNeg,Int.reduceEq,Nat.reduceLeDiff,Nat.reducePow,Int.reducePow,Nat.min_def,reduceIte,Nat.reduceSub,Nat.reduceAdd,Nat.reduceMul,KP_same,KP_f,condS_t,condS_f,pick_t,pick_f,gS_tt,gS_ff,gS_tf,gS_ft,gS_u,gP_tt,gP_ff,gP_tf,gP_ft,gP_u,ptrV_eq,slcV_eq,mapV_eq,cells_agg,cells_int,cells_bool,cells_ptr,cells_slice,oc_int,oc_bool,oc_slice,oc_ptr,rd1_set,rd1_ne,rdn_set,rdn_ne,Heap.set_same,set_ne,Heap.set_set,set_up,set_up2,set_up3,putAt,ceq,List.map_cons,List.map_nil,List.length_cons,List.length_nil,List.length_set,List.cons_append,List.nil_append,List.append_nil,List.replicate,List.size_toArray,List.all_cons,List.all_nil,Bool.and_self,Bool.and_true,List.drop_zero,List.drop_succ_cons,List.take_succ_cons,List.take_zero,List.set_cons_zero,List.set_cons_succ,List.getElem?_cons_zero,List.getElem?_cons_succ,Option.map_some,Option.map_none,ne_eq,not_false_eq_true,not_true_eq_false,gt_iff_lt,ge_iff_le,Int.one_mul,Nat.zero_add,Nat.zero_mul,Bool.not_true,Bool.not_false,Bool.false_eq_true,Bool.and_false,Bool.false_and,Bool.true_and, *]))
  all_goals exact Fin_mk (by (repeat' (first | exact Heap.Le.refl _ | (refine Le_fresh (by first | exact (by simp only [*]) | exact (by simp [set_none', *])) ?_) | (refine Heap.Le.trans ?_ (Grow.le (by assumption)))))) h
end Go.Proofs.Ytfokghepfcfbjaa
