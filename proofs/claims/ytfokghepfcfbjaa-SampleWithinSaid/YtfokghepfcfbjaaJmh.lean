/- The nearest and the linear colour of a level, by both (layer 9). -/
import Derived.Test.YtfokghepfcfbjaaJmf
import Derived.Test.YtfokghepfcfbjaaHlt
set_option linter.unusedSimpArgs false
set_option linter.unusedVariables false
set_option maxRecDepth 100000
set_option maxHeartbeats 8000000
namespace Go.Proofs.Ytfokghepfcfbjaa
open Go.HL Go.RowKit Pb
variable {w0 : World} {H : Heap} {K : Value → Heap → Prop}

def I32 (x : Int) : Prop := -2147483648 ≤ x ∧ x ≤ 2147483647
theorem unp_le (f X : Int) (k : Nat) : 0 ≤ unp f X k ∧ unp f X k ≤ 65536 := by
  unfold unp
  (repeat' split) <;> first | exact chan_le (by omega) | omega
theorem colI_le (x : Im) (y : LvR) (i j : Int) (k : Nat) : 0 ≤ colI x y i j k ∧ colI x y i j k ≤ 65536 := unp_le _ _ _
theorem mul_le2 {a b A B : Int} (h0 : 0 ≤ a) (h1 : a ≤ A) (h2 : 0 ≤ b) (h3 : b ≤ B) : 0 ≤ a * b ∧ a * b ≤ A * B :=
  ⟨Int.mul_nonneg h0 h2, Int.mul_le_mul h1 h3 h2 (Int.le_trans h0 h1)⟩
theorem mul_le3 {c a b : Int} (h0 : 0 ≤ c ∧ c ≤ 65536) (h1 : 0 ≤ a ∧ a ≤ 65536) (h2 : 0 ≤ b ∧ b ≤ 65536) : 0 ≤ c * a ∧ c * a ≤ 4294967296 ∧ 0 ≤ c * a * b ∧ c * a * b ≤ 281474976710656 := by
  have k1 := mul_le2 h0.1 h0.2 h1.1 h1.2
  have k2 := mul_le2 k1.1 k1.2 h2.1 h2.2
  omega
theorem and_low (x : Int) : bitsI .and .i64 x 65535 = x % 65536 := by
  have e : (BitVec.ofInt 64 x).toNat = (x % 18446744073709551616).toNat := by rw [BitVec.toNat_ofInt]; rfl
  show IntKind.i64.wrap ((BitVec.ofInt 64 x &&& BitVec.ofInt 64 65535).toNat : Int) = _
  rw [BitVec.toNat_and, e, show (BitVec.ofInt 64 65535).toNat = 2 ^ 16 - 1 by rfl, Nat.and_two_pow_sub_one_eq_mod]
  have h1 : (((x % 18446744073709551616).toNat % 2 ^ 16 : Nat) : Int) = x % 65536 := by omega
  rw [h1]
  exact Bw.1 _ (by omega) (by omega)
/-- Where a place lies among n pixels. -/
def plcI (n u : Int) : Int := (n * u - 32768) / 65536
def plcF (n u : Int) : Int := (n * u - 32768) % 65536
theorem side_mul {n u : Int} (hn : 1 ≤ n ∧ n ≤ 64) (hu : I32 u) : -137438953472 ≤ n * u ∧ n * u ≤ 137438953472 := by
  unfold I32 at hu
  have h1 : n * u ≤ n * 2147483647 := Int.mul_le_mul_of_nonneg_left hu.2 (by omega)
  have h2 : n * (-2147483648) ≤ n * u := Int.mul_le_mul_of_nonneg_left hu.1 (by omega)
  omega
/- sample spread -/
def M50 : MC :=
  .seq (.reg [⟨(some 4), .mv (.const (.int .i64 0)), none⟩,
     ⟨(some 5), .mv (.const (.int .i64 0)), none⟩])
  (.seq (.reg [⟨(some 7), .mv (.tmp 0), none⟩,
      ⟨(some 8), .mv (.tmp 1), none⟩,
      ⟨(some 9), .conv .i64 (.tmp 8), none⟩,
      ⟨(some 10), .bin .mul (.tmp 7) (.tmp 9), none⟩,
      ⟨(some 11), .bin .sub (.tmp 10) (.const (.int .i64 32768)), none⟩,
      ⟨(some 6), .mv (.tmp 11), none⟩])
   (.seq (.reg [⟨(some 12), .mv (.tmp 6), none⟩,
       ⟨(some 13), .bin .shr (.tmp 12) (.const (.int .u64 16)), none⟩,
       ⟨(some 14), .mv (.tmp 6), none⟩,
       ⟨(some 15), .bin .and (.tmp 14) (.const (.int .i64 65535)), none⟩,
       ⟨(some 4), .mv (.tmp 13), none⟩,
       ⟨(some 5), .mv (.tmp 15), none⟩])
    (.ret)))
theorem k50 : fnOk Try.prog 50 = some (M50, [.t 4, .t 5], 16) := by kernel_rfl

theorem c_spread (n u : Int) (hn : 1 ≤ n ∧ n ≤ 64) (hu : I32 u) (h : K (.tuple #[.int .i64 (plcI n u), .int .i64 (plcF n u)]) H) : HCalls Try.prog w0 50 [.int .i64 n, .int .i32 u] H K := by
  have hm := side_mul hn hu
  unfold I32 at hu
  have e1 : IntKind.i64.wrap u = u := Bw.1 _ (by omega) (by omega)
  have e2 : IntKind.i64.wrap (n * u) = n * u := Bw.1 _ (by omega) (by omega)
  have e3 : IntKind.i64.wrap (n * u - 32768) = n * u - 32768 := Bw.1 _ (by omega) (by omega)
  have fd : ∀ a : Int, a.fdiv 65536 = a / 65536 := fun a => Int.fdiv_eq_ediv_of_nonneg _ (by decide)
  have e4 := and_low (n * u - 32768)
  unfold plcI plcF at h
  clear hm hn
  refine HL.hc k50 999 ?_; unfold M50
  (all_goals (try simp only [Sh,Si,Sl,Bu,Bb,Bd,Bc,Bw,Bn,Int.reduceAdd,Int.reduceSub,Int.reduceMul,Int.reduceTDiv,Int.reduceTMod,Int.reduceMod,Int.reduceDiv,Nat.reduceLT,Nat.reduceEqDiff,decide_true,decide_false,Sa,Sb,Sc,Sd,Se,Sf,Sg,true_and,and_true,and_self,eq_self,b_i64,b_i32,b_u64,b_u32,b_u8,Int.reduceLE,Int.reduceLT,Int.reduceToNat,Int.reduceNeg,Int.reduceEq,Nat.reduceLeDiff,Nat.reducePow,Int.reducePow,Nat.min_def,reduceIte,Nat.reduceSub,Nat.reduceAdd,Nat.reduceMul,KP_same,KP_f,condS_t,condS_f,pick_t,pick_f,gS_tt,gS_ff,gS_tf,gS_ft,gS_u,gP_tt,gP_ff,gP_tf,gP_ft,gP_u,ptrV_eq,slcV_eq,mapV_eq,cells_agg,cells_int,cells_bool,cells_ptr,cells_slice,oc_int,oc_bool,oc_slice,oc_ptr,rd1_set,rd1_ne,rdn_set,rdn_ne,Heap.set_same,set_ne,Heap.set_set,set_up,set_up2,set_up3,putAt,ceq,List.map_cons,List.map_nil,List.length_cons,List.length_nil,List.length_set,List.cons_append,List.nil_append,List.append_nil,List.replicate,List.size_toArray,List.all_cons,List.all_nil,Bool.and_self,Bool.and_true,List.drop_zero,List.drop_succ_cons,List.take_succ_cons,List.take_zero,List.set_cons_zero,List.set_cons_succ,List.getElem?_cons_zero,List.getElem?_cons_succ,Option.map_some,Option.map_none,ne_eq,not_false_eq_true,not_true_eq_false,gt_iff_lt,ge_iff_le,Int.one_mul,Nat.zero_add,Nat.zero_mul,Bool.not_true,Bool.not_false,Bool.false_eq_true,Bool.and_false,Bool.false_and,Bool.true_and, *])); repeat' ((first | (with_reducible refine fun _ : True => ?_) | (with_reducible refine any_h ?_) | ((first | refine AllocQ_i ?_ | refine AllocO_i ?_); intro bk hb0 hbk; try simp only [set_none'] at hbk) | ((first | refine condS_i ?_ ?_ | refine pick_i ?_ ?_ | refine gS_it ?_ ?_ | refine gS_if ?_ ?_ | refine gP_it ?_ ?_ | refine gP_if ?_ ?_) <;> (intro hc; try simp only [Int.reduceLE,Int.reduceLT,Int.reduceEq,and_self,not_true_eq_false,not_false_eq_true,and_true,true_and,false_and,and_false,true_or,or_true,false_or,or_false,decide_eq_true_eq,decide_eq_false_iff_not,beq_iff_eq,beq_eq_false_iff_ne,bne_iff_ne,ne_eq,gt_iff_lt,ge_iff_le,Bool.not_eq_true,Bool.not_eq_false,Bool.not_eq_true',Bool.not_eq_false',Bool.not_eq_eq_eq_not,Bool.not_true,Bool.not_false] at hc)) | (refine KP_i (by (repeat' (first | exact Heap.Le.refl _ | (refine Le_fresh (by first | exact (by simp only [*]) | exact (by simp [set_none', *])) ?_) | (refine Heap.Le.trans ?_ (Grow.le (by assumption)))))) ?_) | (with_reducible refine And.intro ?_ ?_)) <;> (try simp only [Sh,Si,Sl,Bu,Bb,Bd,Bc,Bw,Bn,Int.reduceAdd,Int.reduceSub,Int.reduceMul,Int.reduceTDiv,Int.reduceTMod,Int.reduceMod,Int.reduceDiv,Nat.reduceLT,Nat.reduceEqDiff,decide_true,decide_false,Sa,Sb,Sc,Sd,Se,Sf,Sg,true_and,and_true,and_self,eq_self,b_i64,b_i32,b_u64,b_u32,b_u8,Int.reduceLE,Int.reduceLT,Int.reduceToNat,Int.reduceNeg,Int.reduceEq,Nat.reduceLeDiff,Nat.reducePow,Int.reducePow,Nat.min_def,reduceIte,Nat.reduceSub,Nat.reduceAdd,Nat.reduceMul,KP_same,KP_f,condS_t,condS_f,pick_t,pick_f,gS_tt,gS_ff,gS_tf,gS_ft,gS_u,gP_tt,gP_ff,gP_tf,gP_ft,gP_u,ptrV_eq,slcV_eq,mapV_eq,cells_agg,cells_int,cells_bool,cells_ptr,cells_slice,oc_int,oc_bool,oc_slice,oc_ptr,rd1_set,rd1_ne,rdn_set,rdn_ne,Heap.set_same,set_ne,Heap.set_set,set_up,set_up2,set_up3,putAt,ceq,List.map_cons,List.map_nil,List.length_cons,List.length_nil,List.length_set,List.cons_append,List.nil_append,List.append_nil,List.replicate,List.size_toArray,List.all_cons,List.all_nil,Bool.and_self,Bool.and_true,List.drop_zero,List.drop_succ_cons,List.take_succ_cons,List.take_zero,List.set_cons_zero,List.set_cons_succ,List.getElem?_cons_zero,List.getElem?_cons_succ,Option.map_some,Option.map_none,ne_eq,not_false_eq_true,not_true_eq_false,gt_iff_lt,ge_iff_le,Int.one_mul,Nat.zero_add,Nat.zero_mul,Bool.not_true,Bool.not_false,Bool.false_eq_true,Bool.and_false,Bool.false_and,Bool.true_and, *]))
  exact Fin_mk (Heap.Le.refl _) h
def nearP (n u : Int) : Int := n * u / 65536
/- sample near -/
def M31 : MC :=
  .seq (.reg [⟨(some 4), .box 29 (.tmp 0), none⟩,
     ⟨(some 5), .box 51 (.tmp 1), none⟩,
     ⟨(some 8), .alloc 34 [(.int .i32 0), (.int .i32 0), (.int .i32 0), (.int .i32 0)], none⟩])
  (.seq (.reg [⟨(some 9), .ldn 6 (.tmp 4), none⟩,
      ⟨(some 10), .ldn 3 (.tmp 5), none⟩,
      ⟨(some 11), .fa 0 (.tmp 5), none⟩,
      ⟨(some 12), .ld1 (.tmp 11), none⟩,
      ⟨(some 13), .mv (.tmp 2), none⟩,
      ⟨(some 14), .conv .i64 (.tmp 13), none⟩,
      ⟨(some 15), .bin .mul (.tmp 12) (.tmp 14), none⟩,
      ⟨(some 16), .bin .shr (.tmp 15) (.const (.int .u64 16)), none⟩,
      ⟨(some 17), .fa 1 (.tmp 5), none⟩,
      ⟨(some 18), .ld1 (.tmp 17), none⟩,
      ⟨(some 19), .mv (.tmp 3), none⟩,
      ⟨(some 20), .conv .i64 (.tmp 19), none⟩,
      ⟨(some 21), .bin .mul (.tmp 18) (.tmp 20), none⟩,
      ⟨(some 22), .bin .shr (.tmp 21) (.const (.int .u64 16)), none⟩,
      ⟨(some 23), .call 40 [(.tmp 9), (.tmp 10), (.tmp 16), (.tmp 22)], none⟩,
      ⟨none, .stn 4 (.tmp 8) (.tmp 23), none⟩])
   (.ret))
theorem k31 : fnOk Try.prog 31 = some (M31, [.cn 4 8], 24) := by kernel_rfl

theorem c_near (x : Im) (y : LvR) (u v : Int) (hy : Lvl w0 H x y) (hu : I32 u) (hv : I32 v) (h : K (V4 (colI x y (nearP y.w u) (nearP y.h v))) H) :
    HCalls Try.prog w0 31 [x.v, y.v, .int .i32 u, .int .i32 v] H K := by
  have hm := side_mul hy.w hu
  have hm2 := side_mul hy.h hv
  have ht : ∀ (G : Heap) (K : Value → Heap → Prop) (i j : Int), Grow w0 H G → I64 i → I64 j → K (V4 (colI x y i j)) G → HCalls Try.prog w0 40 [x.v, y.v, .int .i64 i, .int .i64 j] G K := fun G K i j g hi hj hk => c_texel x y i j (hy.grow g) hi hj hk
  unfold I32 at hu hv
  have e1 : IntKind.i64.wrap u = u := Bw.1 _ (by omega) (by omega)
  have e2 : IntKind.i64.wrap (y.w * u) = y.w * u := Bw.1 _ (by omega) (by omega)
  have e3 : IntKind.i64.wrap v = v := Bw.1 _ (by omega) (by omega)
  have e4 : IntKind.i64.wrap (y.h * v) = y.h * v := Bw.1 _ (by omega) (by omega)
  have fd : ∀ a : Int, a.fdiv 65536 = a / 65536 := fun a => Int.fdiv_eq_ediv_of_nonneg _ (by decide)
  have i1 : I64 (y.w * u / 65536) := by unfold I64; omega
  have i2 : I64 (y.h * v / 65536) := by unfold I64; omega
  clear hm hm2 hy
  unfold nearP at h
  unfold Im.v LvR.v at ht ⊢
  refine HL.hc k31 999 ?_; unfold M31
  (all_goals (try simp only [Sh,Si,Sl,Bu,Bb,Bd,Bc,Bw,Bn,Int.reduceAdd,Int.reduceSub,Int.reduceMul,Int.reduceTDiv,Int.reduceTMod,Int.reduceMod,Int.reduceDiv,Nat.reduceLT,Nat.reduceEqDiff,decide_true,decide_false,Sa,Sb,Sc,Sd,Se,Sf,Sg,true_and,and_true,and_self,eq_self,b_i64,b_i32,b_u64,b_u32,b_u8,Int.reduceLE,Int.reduceLT,Int.reduceToNat,Int.reduceNeg,Int.reduceEq,Nat.reduceLeDiff,Nat.reducePow,Int.reducePow,Nat.min_def,reduceIte,Nat.reduceSub,Nat.reduceAdd,Nat.reduceMul,KP_same,KP_f,condS_t,condS_f,pick_t,pick_f,gS_tt,gS_ff,gS_tf,gS_ft,gS_u,gP_tt,gP_ff,gP_tf,gP_ft,gP_u,ptrV_eq,slcV_eq,mapV_eq,cells_agg,cells_int,cells_bool,cells_ptr,cells_slice,oc_int,oc_bool,oc_slice,oc_ptr,rd1_set,rd1_ne,rdn_set,rdn_ne,Heap.set_same,set_ne,Heap.set_set,set_up,set_up2,set_up3,putAt,ceq,List.map_cons,List.map_nil,List.length_cons,List.length_nil,List.length_set,List.cons_append,List.nil_append,List.append_nil,List.replicate,List.size_toArray,List.all_cons,List.all_nil,Bool.and_self,Bool.and_true,List.drop_zero,List.drop_succ_cons,List.take_succ_cons,List.take_zero,List.set_cons_zero,List.set_cons_succ,List.getElem?_cons_zero,List.getElem?_cons_succ,Option.map_some,Option.map_none,ne_eq,not_false_eq_true,not_true_eq_false,gt_iff_lt,ge_iff_le,Int.one_mul,Nat.zero_add,Nat.zero_mul,Bool.not_true,Bool.not_false,Bool.false_eq_true,Bool.and_false,Bool.false_and,Bool.true_and, *])); repeat' ((first | (with_reducible refine fun _ : True => ?_) | refine ht _ _ _ _ (by (repeat' (first | exact Grow.refl _ | assumption | (refine Grow_known (by first | (simp only [Heap.set_same, set_ne, ne_eq, not_false_eq_true, *] <;> rfl) | fail) ?_) | (refine Grow.set ?_ (by assumption) (by first | (simp only [*] <;> done) | (simp [set_none', Heap.set_same, set_ne, noneH, *] <;> done) | fail)) | (refine Grow.trans ?_ (by assumption))))) i1 i2 ?_ | (with_reducible refine any_h ?_) | ((first | refine AllocQ_i ?_ | refine AllocO_i ?_); intro bk hb0 hbk; (try simp only [set_none'] at hbk); (try (first | have hbn := Grow.none (by assumption) hbk | have hbn := Grow.none (by assumption) hbk.2 | have hbn := Grow.none (by assumption) hbk.2.2 | have hbn := Grow.none (by assumption) hbk.2.2.2 | have hbn := Grow.none (by assumption) hbk.2.2.2.2 | have hbn := Grow.none (by assumption) hbk.2.2.2.2.2)); (try simp only [set_none'] at hbn); (try (first | have hbm := Grow.none (by assumption) hbn | have hbm := Grow.none (by assumption) hbn.2 | have hbm := Grow.none (by assumption) hbn.2.2 | have hbm := Grow.none (by assumption) hbn.2.2.2 | have hbm := Grow.none (by assumption) hbn.2.2.2.2 | have hbm := Grow.none (by assumption) hbn.2.2.2.2.2)); (try simp only [set_none'] at hbm)) | ((first | refine condS_i ?_ ?_ | refine pick_i ?_ ?_ | refine gS_it ?_ ?_ | refine gS_if ?_ ?_ | refine gP_it ?_ ?_ | refine gP_if ?_ ?_) <;> (intro hc; try simp only [Int.reduceLE,Int.reduceLT,Int.reduceEq,and_self,not_true_eq_false,not_false_eq_true,and_true,true_and,false_and,and_false,true_or,or_true,false_or,or_false,decide_eq_true_eq,decide_eq_false_iff_not,beq_iff_eq,beq_eq_false_iff_ne,bne_iff_ne,ne_eq,gt_iff_lt,ge_iff_le,Bool.not_eq_true,Bool.not_eq_false,Bool.not_eq_true',Bool.not_eq_false',Bool.not_eq_eq_eq_not,Bool.not_true,Bool.not_false] at hc)) | (refine KP_i (by (repeat' (first | exact Heap.Le.refl _ | (with_reducible refine Le_set2 ?_) | (refine Le_known (by first | (simp only [Heap.set_same, set_ne, ne_eq, not_false_eq_true, *] <;> rfl) | fail) ?_) | (refine Le_fresh (by first | (simp only [*] <;> done) | (simp [set_none', Heap.set_same, set_ne, noneH, *] <;> done) | fail) ?_) | (refine Heap.Le.trans ?_ (Grow.le (by assumption))) | exact Le_none | (refine Le_put ?_ (by first | (simp only [Heap.set_same, set_ne, ne_eq, not_false_eq_true, *] <;> rfl) | fail)) | fail))) ?_) | (with_reducible refine And.intro ?_ ?_)) <;> (try simp only [Sh,Si,Sl,Bu,Bb,Bd,Bc,Bw,Bn,Int.reduceAdd,Int.reduceSub,Int.reduceMul,Int.reduceTDiv,Int.reduceTMod,Int.reduceMod,Int.reduceDiv,Nat.reduceLT,Nat.reduceEqDiff,decide_true,decide_false,Sa,Sb,Sc,Sd,Se,Sf,Sg,true_and,and_true,and_self,eq_self,b_i64,b_i32,b_u64,b_u32,b_u8,Int.reduceLE,Int.reduceLT,Int.reduceToNat,Int.reduceNeg,Int.reduceEq,Nat.reduceLeDiff,Nat.reducePow,Int.reducePow,Nat.min_def,reduceIte,Nat.reduceSub,Nat.reduceAdd,Nat.reduceMul,KP_same,KP_f,condS_t,condS_f,pick_t,pick_f,gS_tt,gS_ff,gS_tf,gS_ft,gS_u,gP_tt,gP_ff,gP_tf,gP_ft,gP_u,ptrV_eq,slcV_eq,mapV_eq,cells_agg,cells_int,cells_bool,cells_ptr,cells_slice,oc_int,oc_bool,oc_slice,oc_ptr,rd1_set,rd1_ne,rdn_set,rdn_ne,Heap.set_same,set_ne,Heap.set_set,set_up,set_up2,set_up3,putAt,ceq,List.map_cons,List.map_nil,List.length_cons,List.length_nil,List.length_set,List.cons_append,List.nil_append,List.append_nil,List.replicate,List.size_toArray,List.all_cons,List.all_nil,Bool.and_self,Bool.and_true,List.drop_zero,List.drop_succ_cons,List.take_succ_cons,List.take_zero,List.set_cons_zero,List.set_cons_succ,List.getElem?_cons_zero,List.getElem?_cons_succ,Option.map_some,Option.map_none,ne_eq,not_false_eq_true,not_true_eq_false,gt_iff_lt,ge_iff_le,Int.one_mul,Nat.zero_add,Nat.zero_mul,Bool.not_true,Bool.not_false,Bool.false_eq_true,Bool.and_false,Bool.false_and,Bool.true_and, *]))
  exact Fin_mk (by (repeat' (first | exact Heap.Le.refl _ | (with_reducible refine Le_set2 ?_) | (refine Le_known (by first | (simp only [Heap.set_same, set_ne, ne_eq, not_false_eq_true, *] <;> rfl) | fail) ?_) | (refine Le_fresh (by first | (simp only [*] <;> done) | (simp [set_none', Heap.set_same, set_ne, noneH, *] <;> done) | fail) ?_) | (refine Heap.Le.trans ?_ (Grow.le (by assumption))) | exact Le_none | (refine Le_put ?_ (by first | (simp only [Heap.set_same, set_ne, ne_eq, not_false_eq_true, *] <;> rfl) | fail)) | fail))) h
def lin4 (a b c d f g : Int) : Int := (a * (65536 - f) * (65536 - g) + b * f * (65536 - g) + c * (65536 - f) * g + d * f * g + 2147483648) / 4294967296
def linI (x : Im) (y : LvR) (u v : Int) : Nat → Int := fun k =>
  lin4 (colI x y (plcI y.w u) (plcI y.h v) k) (colI x y (plcI y.w u + 1) (plcI y.h v) k) (colI x y (plcI y.w u) (plcI y.h v + 1) k) (colI x y (plcI y.w u + 1) (plcI y.h v + 1) k) (plcF y.w u) (plcF y.h v)
/-- What the numbers of a linear colour are bounded by. -/
structure LinF (C : Int → Int → Nat → Int) (i j f g : Int) : Prop where
  a0 : IntKind.i64.wrap (65536 - f) = 65536 - f
  a1 : IntKind.i64.wrap (65536 - g) = 65536 - g
  c1 : ∀ i j k, IntKind.i64.wrap (C i j k) = C i j k
  m1 : ∀ i j k, IntKind.i64.wrap (C i j k * (65536 - f)) = C i j k * (65536 - f)
  m2 : ∀ i j k, IntKind.i64.wrap (C i j k * f) = C i j k * f
  m3 : ∀ i j k, IntKind.i64.wrap (C i j k * (65536 - f) * (65536 - g)) = C i j k * (65536 - f) * (65536 - g)
  m4 : ∀ i j k, IntKind.i64.wrap (C i j k * f * (65536 - g)) = C i j k * f * (65536 - g)
  m5 : ∀ i j k, IntKind.i64.wrap (C i j k * (65536 - f) * g) = C i j k * (65536 - f) * g
  m6 : ∀ i j k, IntKind.i64.wrap (C i j k * f * g) = C i j k * f * g
  s1 : ∀ k, IntKind.i64.wrap (0 + C i j k * (65536 - f) * (65536 - g)) = C i j k * (65536 - f) * (65536 - g)
  s2 : ∀ k, IntKind.i64.wrap (C i j k * (65536 - f) * (65536 - g) + C (i + 1) j k * f * (65536 - g)) = C i j k * (65536 - f) * (65536 - g) + C (i + 1) j k * f * (65536 - g)
  s3 : ∀ k, IntKind.i64.wrap (C i j k * (65536 - f) * (65536 - g) + C (i + 1) j k * f * (65536 - g) + C i (j + 1) k * (65536 - f) * g) = C i j k * (65536 - f) * (65536 - g) + C (i + 1) j k * f * (65536 - g) + C i (j + 1) k * (65536 - f) * g
  s4 : ∀ k, IntKind.i64.wrap (C i j k * (65536 - f) * (65536 - g) + C (i + 1) j k * f * (65536 - g) + C i (j + 1) k * (65536 - f) * g + C (i + 1) (j + 1) k * f * g) = C i j k * (65536 - f) * (65536 - g) + C (i + 1) j k * f * (65536 - g) + C i (j + 1) k * (65536 - f) * g + C (i + 1) (j + 1) k * f * g
  s5 : ∀ k, IntKind.i64.wrap (C i j k * (65536 - f) * (65536 - g) + C (i + 1) j k * f * (65536 - g) + C i (j + 1) k * (65536 - f) * g + C (i + 1) (j + 1) k * f * g + 2147483648) = C i j k * (65536 - f) * (65536 - g) + C (i + 1) j k * f * (65536 - g) + C i (j + 1) k * (65536 - f) * g + C (i + 1) (j + 1) k * f * g + 2147483648
  s6 : ∀ k, IntKind.i32.wrap ((C i j k * (65536 - f) * (65536 - g) + C (i + 1) j k * f * (65536 - g) + C i (j + 1) k * (65536 - f) * g + C (i + 1) (j + 1) k * f * g + 2147483648) / 4294967296) = (C i j k * (65536 - f) * (65536 - g) + C (i + 1) j k * f * (65536 - g) + C i (j + 1) k * (65536 - f) * g + C (i + 1) (j + 1) k * f * g + 2147483648) / 4294967296
  s7 : ∀ k, IntKind.i64.wrap ((C i j k * (65536 - f) * (65536 - g) + C (i + 1) j k * f * (65536 - g) + C i (j + 1) k * (65536 - f) * g + C (i + 1) (j + 1) k * f * g + 2147483648).tdiv 4294967296) = (C i j k * (65536 - f) * (65536 - g) + C (i + 1) j k * f * (65536 - g) + C i (j + 1) k * (65536 - f) * g + C (i + 1) (j + 1) k * f * g + 2147483648) / 4294967296
theorem linF {C : Int → Int → Nat → Int} {i j f g : Int} (hC : ∀ i j k, 0 ≤ C i j k ∧ C i j k ≤ 65536) (hf : 0 ≤ f ∧ f ≤ 65536) (hg : 0 ≤ g ∧ g ≤ 65536) : LinF C i j f g := by
  have hf' : 0 ≤ 65536 - f ∧ 65536 - f ≤ 65536 := by omega
  have hg' : 0 ≤ 65536 - g ∧ 65536 - g ≤ 65536 := by omega
  have q1 := fun i j k => mul_le3 (hC i j k) hf' hg'
  have q2 := fun i j k => mul_le3 (hC i j k) hf hg'
  have q3 := fun i j k => mul_le3 (hC i j k) hf' hg
  have q4 := fun i j k => mul_le3 (hC i j k) hf hg
  refine ⟨?_, ?_, fun i j k => ?_, fun i j k => ?_, fun i j k => ?_, fun i j k => ?_, fun i j k => ?_, fun i j k => ?_, fun i j k => ?_, fun k => ?_, fun k => ?_, fun k => ?_, fun k => ?_, fun k => ?_, fun k => ?_, fun k => ?_⟩
  · exact Bw.1 _ (by omega) (by omega)
  · exact Bw.1 _ (by omega) (by omega)
  · have := hC i j k; exact Bw.1 _ (by omega) (by omega)
  · have := q1 i j k; exact Bw.1 _ (by omega) (by omega)
  · have := q2 i j k; exact Bw.1 _ (by omega) (by omega)
  · have := q1 i j k; exact Bw.1 _ (by omega) (by omega)
  · have := q2 i j k; exact Bw.1 _ (by omega) (by omega)
  · have := q3 i j k; exact Bw.1 _ (by omega) (by omega)
  · have := q4 i j k; exact Bw.1 _ (by omega) (by omega)
  · have := q1 i j k; rw [Int.zero_add]; exact Bw.1 _ (by omega) (by omega)
  all_goals
    have w1 := q1 i j k
    have w2 := q2 (i + 1) j k
    have w3 := q3 i (j + 1) k
    have w4 := q4 (i + 1) (j + 1) k
    generalize C i j k * (65536 - f) * (65536 - g) = A at *
    generalize C (i + 1) j k * f * (65536 - g) = B at *
    generalize C i (j + 1) k * (65536 - f) * g = D at *
    generalize C (i + 1) (j + 1) k * f * g = E at *
  · exact Bw.1 _ (by omega) (by omega)
  · exact Bw.1 _ (by omega) (by omega)
  · exact Bw.1 _ (by omega) (by omega)
  · exact Bw.1 _ (by omega) (by omega)
  · exact Bw.2 _ (by omega) (by omega)
  · rw [Int.tdiv_eq_ediv_of_nonneg (by omega)]; exact Bw.1 _ (by omega) (by omega)
theorem plcF_le (n u : Int) : 0 ≤ plcF n u ∧ plcF n u ≤ 65536 := by unfold plcF; omega
theorem plcI_le {n u : Int} (hn : 1 ≤ n ∧ n ≤ 64) (hu : I32 u) : -2097154 ≤ plcI n u ∧ plcI n u ≤ 2097154 := by
  have := side_mul hn hu
  unfold plcI; omega
/- sample linear -/
def M32 : MC :=
  .seq (.reg [⟨(some 4), .box 29 (.tmp 0), none⟩,
     ⟨(some 5), .box 51 (.tmp 1), none⟩,
     ⟨(some 8), .alloc 34 [(.int .i32 0), (.int .i32 0), (.int .i32 0), (.int .i32 0)], none⟩])
  (.seq (.reg [⟨(some 23), .fa 0 (.tmp 5), none⟩,
      ⟨(some 24), .ld1 (.tmp 23), none⟩,
      ⟨(some 25), .mv (.tmp 2), none⟩,
      ⟨(some 26), .call 50 [(.tmp 24), (.tmp 25)], none⟩,
      ⟨(some 22), .mv (.tmp 26), none⟩,
      ⟨(some 27), .ext 0 (.tmp 22), none⟩,
      ⟨(some 28), .ext 1 (.tmp 22), none⟩,
      ⟨(some 9), .mv (.tmp 27), none⟩,
      ⟨(some 10), .mv (.tmp 28), none⟩])
   (.seq (.reg [⟨(some 30), .fa 1 (.tmp 5), none⟩,
       ⟨(some 31), .ld1 (.tmp 30), none⟩,
       ⟨(some 32), .mv (.tmp 3), none⟩,
       ⟨(some 33), .call 50 [(.tmp 31), (.tmp 32)], none⟩,
       ⟨(some 29), .mv (.tmp 33), none⟩,
       ⟨(some 34), .ext 0 (.tmp 29), none⟩,
       ⟨(some 35), .ext 1 (.tmp 29), none⟩,
       ⟨(some 11), .mv (.tmp 34), none⟩,
       ⟨(some 12), .mv (.tmp 35), none⟩])
    (.seq (.reg [⟨(some 13), .alloc 34 [(.int .i32 0), (.int .i32 0), (.int .i32 0), (.int .i32 0)], none⟩])
     (.seq (.reg [⟨(some 14), .alloc 67 [(.int .i64 0), (.int .i64 0), (.int .i64 0), (.int .i64 0)], none⟩])
      (.seq (.seq (.reg [⟨(some 36), .mv (.const (.int .i64 0)), none⟩])
        (.block 0 (.loop (.seq (.reg [⟨(some 37), .bin .lss (.tmp 36) (.const (.int .i64 4)), none⟩])
           (.seq (.cond (.tmp 37)
             (.skip)
             (.exit 0))
            (.seq (.block 1 (.seq (.reg [⟨(some 38), .mv (.tmp 36), none⟩,
                  ⟨(some 15), .mv (.tmp 38), none⟩])
               (.seq (.reg [⟨(some 39), .mv (.tmp 10), none⟩,
                   ⟨(some 40), .bin .sub (.const (.int .i64 65536)) (.tmp 39), none⟩,
                   ⟨(some 41), .mv (.tmp 12), none⟩,
                   ⟨(some 42), .bin .sub (.const (.int .i64 65536)) (.tmp 41), none⟩,
                   ⟨(some 16), .mv (.tmp 40), none⟩,
                   ⟨(some 17), .mv (.tmp 42), none⟩])
                (.seq (.seq (.reg [⟨(some 43), .mv (.tmp 15), none⟩,
                     ⟨(some 44), .bin .and (.tmp 43) (.const (.int .i64 1)), none⟩,
                     ⟨(some 45), .bin .eql (.tmp 44) (.const (.int .i64 1)), none⟩])
                  (.cond (.tmp 45)
                   (.reg [⟨(some 46), .mv (.tmp 10), none⟩,
                      ⟨(some 16), .mv (.tmp 46), none⟩])
                   (.skip)))
                 (.seq (.seq (.reg [⟨(some 47), .mv (.tmp 15), none⟩,
                      ⟨(some 48), .bin .and (.tmp 47) (.const (.int .i64 2)), none⟩,
                      ⟨(some 49), .bin .eql (.tmp 48) (.const (.int .i64 2)), none⟩])
                   (.cond (.tmp 49)
                    (.reg [⟨(some 50), .mv (.tmp 12), none⟩,
                       ⟨(some 17), .mv (.tmp 50), none⟩])
                    (.skip)))
                  (.seq (.reg [⟨(some 51), .ldn 6 (.tmp 4), none⟩,
                      ⟨(some 52), .ldn 3 (.tmp 5), none⟩,
                      ⟨(some 53), .mv (.tmp 9), none⟩,
                      ⟨(some 54), .mv (.tmp 15), none⟩,
                      ⟨(some 55), .bin .and (.tmp 54) (.const (.int .i64 1)), none⟩,
                      ⟨(some 56), .bin .add (.tmp 53) (.tmp 55), none⟩,
                      ⟨(some 57), .mv (.tmp 11), none⟩,
                      ⟨(some 58), .mv (.tmp 15), none⟩,
                      ⟨(some 59), .bin .shr (.tmp 58) (.const (.int .u64 1)), none⟩,
                      ⟨(some 60), .bin .add (.tmp 57) (.tmp 59), none⟩,
                      ⟨(some 61), .call 40 [(.tmp 51), (.tmp 52), (.tmp 56), (.tmp 60)], none⟩,
                      ⟨(some 18), .alloc 34 [(.int .i32 0), (.int .i32 0), (.int .i32 0), (.int .i32 0)], none⟩,
                      ⟨none, .stn 4 (.tmp 18) (.tmp 61), none⟩])
                   (.seq (.reg [⟨(some 62), .mv (.const (.int .i64 0)), none⟩])
                    (.block 2 (.loop (.seq (.reg [⟨(some 63), .bin .lss (.tmp 62) (.const (.int .i64 4)), none⟩])
                       (.seq (.cond (.tmp 63)
                         (.skip)
                         (.exit 2))
                        (.seq (.block 3 (.seq (.reg [⟨(some 64), .mv (.tmp 62), none⟩,
                              ⟨(some 19), .mv (.tmp 64), none⟩])
                           (.any [(true, 0, [], ⟨(some 65), .mv (.tmp 19), none⟩),
                              (true, 1, [], ⟨(some 66), .ia 4 1 (.tmp 14) (.tmp 65), none⟩),
                              (true, 2, [], ⟨(some 67), .ld1 (.tmp 66), none⟩),
                              (true, 3, [], ⟨(some 68), .mv (.tmp 19), none⟩),
                              (true, 4, [], ⟨(some 69), .ia 4 1 (.tmp 18) (.tmp 68), none⟩),
                              (true, 5, [], ⟨(some 70), .ld1 (.tmp 69), none⟩),
                              (true, 6, [], ⟨(some 71), .conv .i64 (.tmp 70), none⟩),
                              (true, 7, [], ⟨(some 72), .mv (.tmp 16), none⟩),
                              (true, 8, [], ⟨(some 73), .bin .mul (.tmp 71) (.tmp 72), none⟩),
                              (false, 9, [0, 1, 2, 3, 4, 5, 6, 7, 8], ⟨(some 74), .mv (.tmp 17), none⟩),
                              (false, 10, [0, 1, 2], ⟨(some 75), .bin .mul (.tmp 73) (.tmp 74), none⟩),
                              (false, 11, [], ⟨(some 76), .bin .add (.tmp 67) (.tmp 75), none⟩),
                              (false, 12, [], ⟨(some 77), .ia 4 1 (.tmp 14) (.tmp 65), none⟩),
                              (false, 13, [], ⟨none, .st1 (.tmp 77) (.tmp 76), none⟩)])))
                         (.reg [⟨(some 78), .bin .add (.tmp 62) (.const (.int .i64 1)), none⟩,
                            ⟨(some 62), .mv (.tmp 78), none⟩])))))))))))))
             (.reg [⟨(some 79), .bin .add (.tmp 36) (.const (.int .i64 1)), none⟩,
                ⟨(some 36), .mv (.tmp 79), none⟩])))))))
       (.seq (.seq (.reg [⟨(some 80), .ldn 4 (.tmp 14), none⟩,
            ⟨(some 81), .mv (.const (.int .i64 0)), none⟩])
         (.block 4 (.loop (.seq (.reg [⟨(some 82), .bin .lss (.tmp 81) (.const (.int .i64 4)), none⟩])
            (.seq (.cond (.tmp 82)
              (.skip)
              (.exit 4))
             (.seq (.block 5 (.seq (.reg [⟨(some 83), .mv (.tmp 81), none⟩,
                   ⟨(some 84), .ix 4 (.tmp 80) (.tmp 81), none⟩,
                   ⟨(some 20), .mv (.tmp 83), none⟩,
                   ⟨(some 21), .mv (.tmp 84), none⟩])
                (.reg [⟨(some 85), .mv (.tmp 20), none⟩,
                   ⟨(some 86), .mv (.tmp 21), none⟩,
                   ⟨(some 87), .bin .add (.tmp 86) (.const (.int .i64 2147483648)), none⟩,
                   ⟨(some 88), .bin .shr (.tmp 87) (.const (.int .u64 32)), none⟩,
                   ⟨(some 89), .conv .i32 (.tmp 88), none⟩,
                   ⟨(some 90), .ia 4 1 (.tmp 13) (.tmp 85), none⟩,
                   ⟨none, .st1 (.tmp 90) (.tmp 89), none⟩])))
              (.reg [⟨(some 91), .bin .add (.tmp 81) (.const (.int .i64 1)), none⟩,
                 ⟨(some 81), .mv (.tmp 91), none⟩])))))))
        (.seq (.reg [⟨(some 92), .ldn 4 (.tmp 13), none⟩,
            ⟨none, .stn 4 (.tmp 8) (.tmp 92), none⟩])
         (.ret))))))))
theorem k32 : fnOk Try.prog 32 = some (M32, [.cn 4 8], 93) := by kernel_rfl

theorem c_linear (x : Im) (y : LvR) (u v : Int) (hy : Lvl w0 H x y) (hu : I32 u) (hv : I32 v) (h : K (V4 (linI x y u v)) H) :
    HCalls Try.prog w0 32 [x.v, y.v, .int .i32 u, .int .i32 v] H K := by
  have p1 := plcI_le hy.w hu
  have p2 := plcI_le hy.h hv
  have s1 : ∀ (G : Heap) (K : Value → Heap → Prop), K (.tuple #[.int .i64 (plcI y.w u), .int .i64 (plcF y.w u)]) G → HCalls Try.prog w0 50 [.int .i64 y.w, .int .i32 u] G K := fun G K hk => c_spread _ _ hy.w hu hk
  have s2 : ∀ (G : Heap) (K : Value → Heap → Prop), K (.tuple #[.int .i64 (plcI y.h v), .int .i64 (plcF y.h v)]) G → HCalls Try.prog w0 50 [.int .i64 y.h, .int .i32 v] G K := fun G K hk => c_spread _ _ hy.h hv hk
  have ht : ∀ (G : Heap) (K : Value → Heap → Prop) (i j : Int), Grow w0 H G → I64 i → I64 j → K (V4 (colI x y i j)) G → HCalls Try.prog w0 40 [x.v, y.v, .int .i64 i, .int .i64 j] G K := fun G K i j g hi hj hk => c_texel x y i j (hy.grow g) hi hj hk
  have hC := colI_le x y
  have f1 := plcF_le y.w u
  have f2 := plcF_le y.h v
  unfold linI lin4 at h
  generalize colI x y = C at *
  generalize plcI y.w u = i at *
  generalize plcI y.h v = j at *
  generalize plcF y.w u = f at *
  generalize plcF y.h v = g at *
  obtain ⟨a0, a1, c1, m1, m2, m3, m4, m5, m6, t1, t2, t3, t4, t5, t6, -⟩ := linF (i := i) (j := j) hC f1 f2
  have n1 : bitsI .and .i64 0 1 = 0 ∧ bitsI .and .i64 1 1 = 1 ∧ bitsI .and .i64 2 1 = 0 ∧ bitsI .and .i64 3 1 = 1 ∧ bitsI .and .i64 0 2 = 0 ∧ bitsI .and .i64 1 2 = 0 ∧ bitsI .and .i64 2 2 = 2 ∧ bitsI .and .i64 3 2 = 2 := by decide
  have fd2 : ∀ a : Int, a.fdiv 2 = a / 2 := fun a => Int.fdiv_eq_ediv_of_nonneg _ (by decide)
  have fd : ∀ a : Int, a.fdiv 4294967296 = a / 4294967296 := fun a => Int.fdiv_eq_ediv_of_nonneg _ (by decide)
  have i0 : IntKind.i64.wrap (i + 0) = i := by rw [Int.add_zero]; exact Bw.1 _ (by omega) (by omega)
  have i1 : IntKind.i64.wrap (i + 1) = i + 1 := Bw.1 _ (by omega) (by omega)
  have j0 : IntKind.i64.wrap (j + 0) = j := by rw [Int.add_zero]; exact Bw.1 _ (by omega) (by omega)
  have j1 : IntKind.i64.wrap (j + 1) = j + 1 := Bw.1 _ (by omega) (by omega)
  have k0 : I64 i := by unfold I64; omega
  have k1 : I64 (i + 1) := by unfold I64; omega
  have k2 : I64 j := by unfold I64; omega
  have k3 : I64 (j + 1) := by unfold I64; omega
  clear p1 p2 hC f1 f2 hu hv hy
  unfold Im.v LvR.v at ht ⊢
  refine HL.hc k32 2500 ?_; unfold M32
  (all_goals (try simp only [Sh,Si,Sl,Bu,Bb,Bd,Bc,Bw,Bn,Int.reduceAdd,Int.reduceSub,Int.reduceMul,Int.reduceTDiv,Int.reduceTMod,Int.reduceMod,Int.reduceDiv,Nat.reduceLT,Nat.reduceEqDiff,decide_true,decide_false,Sa,Sb,Sc,Sd,Se,Sf,Sg,true_and,and_true,and_self,eq_self,b_i64,b_i32,b_u64,b_u32,b_u8,Int.reduceLE,Int.reduceLT,Int.reduceToNat,Int.reduceNeg,Int.reduceEq,Nat.reduceLeDiff,Nat.reducePow,Int.reducePow,Nat.min_def,reduceIte,Nat.reduceSub,Nat.reduceAdd,Nat.reduceMul,KP_same,KP_f,condS_t,condS_f,pick_t,pick_f,gS_tt,gS_ff,gS_tf,gS_ft,gS_u,gP_tt,gP_ff,gP_tf,gP_ft,gP_u,ptrV_eq,slcV_eq,mapV_eq,cells_agg,cells_int,cells_bool,cells_ptr,cells_slice,oc_int,oc_bool,oc_slice,oc_ptr,rd1_set,rd1_ne,rdn_set,rdn_ne,Heap.set_same,set_ne,Heap.set_set,set_up,set_up2,set_up3,putAt,ceq,List.map_cons,List.map_nil,List.length_cons,List.length_nil,List.length_set,List.cons_append,List.nil_append,List.append_nil,List.replicate,List.size_toArray,List.all_cons,List.all_nil,Bool.and_self,Bool.and_true,List.drop_zero,List.drop_succ_cons,List.take_succ_cons,List.take_zero,List.set_cons_zero,List.set_cons_succ,List.getElem?_cons_zero,List.getElem?_cons_succ,Option.map_some,Option.map_none,ne_eq,not_false_eq_true,not_true_eq_false,gt_iff_lt,ge_iff_le,Int.one_mul,Nat.zero_add,Nat.zero_mul,Bool.not_true,Bool.not_false,Bool.false_eq_true,Bool.and_false,Bool.false_and,Bool.true_and, *])); repeat' ((first | (with_reducible refine fun _ : True => ?_) | refine s1 _ _ ?_ | refine s2 _ _ ?_ | refine ht _ _ _ _ (by (repeat' (first | exact Grow.refl _ | assumption | (refine Grow_known (by first | (simp only [Heap.set_same, set_ne, ne_eq, not_false_eq_true, *] <;> rfl) | fail) ?_) | (refine Grow.set ?_ (by assumption) (by first | (simp only [*] <;> done) | (simp [set_none', Heap.set_same, set_ne, noneH, *] <;> done) | fail)) | (refine Grow.trans ?_ (by assumption))))) (by assumption) (by assumption) ?_ | (with_reducible refine any_h ?_) | ((first | refine AllocQ_i ?_ | refine AllocO_i ?_); intro bk hb0 hbk; (try simp only [set_none'] at hbk); (try (first | have hbn := Grow.none (by assumption) hbk | have hbn := Grow.none (by assumption) hbk.2 | have hbn := Grow.none (by assumption) hbk.2.2 | have hbn := Grow.none (by assumption) hbk.2.2.2 | have hbn := Grow.none (by assumption) hbk.2.2.2.2 | have hbn := Grow.none (by assumption) hbk.2.2.2.2.2)); (try simp only [set_none'] at hbn); (try (first | have hbm := Grow.none (by assumption) hbn | have hbm := Grow.none (by assumption) hbn.2 | have hbm := Grow.none (by assumption) hbn.2.2 | have hbm := Grow.none (by assumption) hbn.2.2.2 | have hbm := Grow.none (by assumption) hbn.2.2.2.2 | have hbm := Grow.none (by assumption) hbn.2.2.2.2.2)); (try simp only [set_none'] at hbm)) | ((first | refine condS_i ?_ ?_ | refine pick_i ?_ ?_ | refine gS_it ?_ ?_ | refine gS_if ?_ ?_ | refine gP_it ?_ ?_ | refine gP_if ?_ ?_) <;> (intro hc; try simp only [Int.reduceLE,Int.reduceLT,Int.reduceEq,and_self,not_true_eq_false,not_false_eq_true,and_true,true_and,false_and,and_false,true_or,or_true,false_or,or_false,decide_eq_true_eq,decide_eq_false_iff_not,beq_iff_eq,beq_eq_false_iff_ne,bne_iff_ne,ne_eq,gt_iff_lt,ge_iff_le,Bool.not_eq_true,Bool.not_eq_false,Bool.not_eq_true',Bool.not_eq_false',Bool.not_eq_eq_eq_not,Bool.not_true,Bool.not_false] at hc)) | (refine KP_i (by (repeat' (first | exact Heap.Le.refl _ | (with_reducible refine Le_set2 ?_) | (refine Le_known (by first | (simp only [Heap.set_same, set_ne, ne_eq, not_false_eq_true, *] <;> rfl) | fail) ?_) | (refine Le_fresh (by first | (simp only [*] <;> done) | (simp [set_none', Heap.set_same, set_ne, noneH, *] <;> done) | fail) ?_) | (refine Heap.Le.trans ?_ (Grow.le (by assumption))) | exact Le_none | (refine Le_put ?_ (by first | (simp only [Heap.set_same, set_ne, ne_eq, not_false_eq_true, *] <;> rfl) | fail)) | fail))) ?_) | (with_reducible refine loop_u ?_) | (with_reducible refine And.intro ?_ ?_)) <;> (try simp only [Sh,Si,Sl,Bu,Bb,Bd,Bc,Bw,Bn,Int.reduceAdd,Int.reduceSub,Int.reduceMul,Int.reduceTDiv,Int.reduceTMod,Int.reduceMod,Int.reduceDiv,Nat.reduceLT,Nat.reduceEqDiff,decide_true,decide_false,Sa,Sb,Sc,Sd,Se,Sf,Sg,true_and,and_true,and_self,eq_self,b_i64,b_i32,b_u64,b_u32,b_u8,Int.reduceLE,Int.reduceLT,Int.reduceToNat,Int.reduceNeg,Int.reduceEq,Nat.reduceLeDiff,Nat.reducePow,Int.reducePow,Nat.min_def,reduceIte,Nat.reduceSub,Nat.reduceAdd,Nat.reduceMul,KP_same,KP_f,condS_t,condS_f,pick_t,pick_f,gS_tt,gS_ff,gS_tf,gS_ft,gS_u,gP_tt,gP_ff,gP_tf,gP_ft,gP_u,ptrV_eq,slcV_eq,mapV_eq,cells_agg,cells_int,cells_bool,cells_ptr,cells_slice,oc_int,oc_bool,oc_slice,oc_ptr,rd1_set,rd1_ne,rdn_set,rdn_ne,Heap.set_same,set_ne,Heap.set_set,set_up,set_up2,set_up3,putAt,ceq,List.map_cons,List.map_nil,List.length_cons,List.length_nil,List.length_set,List.cons_append,List.nil_append,List.append_nil,List.replicate,List.size_toArray,List.all_cons,List.all_nil,Bool.and_self,Bool.and_true,List.drop_zero,List.drop_succ_cons,List.take_succ_cons,List.take_zero,List.set_cons_zero,List.set_cons_succ,List.getElem?_cons_zero,List.getElem?_cons_succ,Option.map_some,Option.map_none,ne_eq,not_false_eq_true,not_true_eq_false,gt_iff_lt,ge_iff_le,Int.one_mul,Nat.zero_add,Nat.zero_mul,Bool.not_true,Bool.not_false,Bool.false_eq_true,Bool.and_false,Bool.false_and,Bool.true_and, *]))
  exact Fin_mk (by (repeat' (first | exact Heap.Le.refl _ | (with_reducible refine Le_set2 ?_) | (refine Le_known (by first | (simp only [Heap.set_same, set_ne, ne_eq, not_false_eq_true, *] <;> rfl) | fail) ?_) | (refine Le_fresh (by first | (simp only [*] <;> done) | (simp [set_none', Heap.set_same, set_ne, noneH, *] <;> done) | fail) ?_) | (refine Heap.Le.trans ?_ (Grow.le (by assumption))) | exact Le_none | (refine Le_put ?_ (by first | (simp only [Heap.set_same, set_ne, ne_eq, not_false_eq_true, *] <;> rfl) | fail)) | fail))) h
end Go.Proofs.Ytfokghepfcfbjaa
