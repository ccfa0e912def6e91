/- Words of 64 bits: lengths, products of two words, quotients of two words by one (layer 23). -/
import Derived.Test.YtokjajfojjibcaaPn
import Derived.Test.YtokjajfojjibcaaFa
import Derived.Test.YtokjajfojjibcaaPd
set_option linter.unusedSimpArgs false
set_option linter.unusedVariables false
set_option maxRecDepth 100000
set_option maxHeartbeats 4000000
namespace Go.Proofs.Ytokjajfojjibcaa
open Go.HL Go.RowKit Pb
variable {w0 : World} {H : Heap} {K : Value → Heap → Prop}

theorem and_w (a : Int) (h0 : 0 ≤ a) (h1 : a < 18446744073709551616) : bitsI .and .u64 a 4294967295 = a % 4294967296 := by
  obtain ⟨m, rfl⟩ := Int.eq_ofNat_of_zero_le h0
  show IntKind.u64.wrap ((BitVec.ofInt 64 m &&& BitVec.ofInt 64 ((4294967295 : Nat) : Int)).toNat : Int) = _
  rw [BitVec.toNat_and, ofInt_nat 64 m (by omega), ofInt_nat 64 _ (by omega), show (4294967295 : Nat) = 2 ^ 32 - 1 from rfl, Nat.and_two_pow_sub_one_eq_mod]
  rw [Bu.1 _ (by omega) (by omega)]
  omega
theorem or_w (a c : Int) (k : Nat) (h0 : 0 ≤ a) (h1 : a < 2 ^ k) (h2 : 0 ≤ c) (h3 : c * 2 ^ k + a < 18446744073709551616) : bitsI .or .u64 (c * 2 ^ k) a = c * 2 ^ k + a := by
  obtain ⟨m, rfl⟩ := Int.eq_ofNat_of_zero_le h0
  obtain ⟨n, rfl⟩ := Int.eq_ofNat_of_zero_le h2
  have e : ((n : Int) * 2 ^ k) = ((2 ^ k * n : Nat) : Int) := by rw [Int.natCast_mul, Int.natCast_pow, Int.mul_comm]; rfl
  rw [e] at h3 ⊢
  have h4 : m < 2 ^ k := by
    have : ((2 ^ k : Nat) : Int) = (2 : Int) ^ k := by simp
    omega
  show IntKind.u64.wrap ((BitVec.ofInt 64 ((2 ^ k * n : Nat) : Int) ||| BitVec.ofInt 64 (m : Int)).toNat : Int) = _
  rw [BitVec.toNat_or, ofInt_nat 64 _ (by omega), ofInt_nat 64 m (by omega), ← Nat.two_pow_add_eq_or_of_lt h4]
  rw [Bu.1 _ (by omega) (by omega)]
  omega
theorem optQ_of {α : Type} {o : Option α} {v : α} {φ : α → Prop} (e : o = some v) (h : φ v) : optQ o φ := by subst e; exact h
theorem K_hl {K : Value → Heap → Prop} {a b c d : Int} (h : K (.tuple #[.int .u64 a, .int .u64 b]) H) (e : c = a) (e' : d = b) : K (.tuple #[.int .u64 c, .int .u64 d]) H := by subst e e'; exact h
/- math/bits Mul64 -/
def M44 : MC :=
  .seq (.reg [⟨(some 4), .mv (.const (.int .u64 0)), none⟩,
     ⟨(some 5), .mv (.const (.int .u64 0)), none⟩])
  (.seq (.reg [⟨(some 14), .mv (.tmp 0), none⟩,
      ⟨(some 15), .bin .and (.tmp 14) (.const (.int .u64 4294967295)), none⟩,
      ⟨(some 6), .mv (.tmp 15), none⟩])
   (.seq (.reg [⟨(some 16), .mv (.tmp 0), none⟩,
       ⟨(some 17), .bin .shr (.tmp 16) (.const (.int .u64 32)), none⟩,
       ⟨(some 7), .mv (.tmp 17), none⟩])
    (.seq (.reg [⟨(some 18), .mv (.tmp 1), none⟩,
        ⟨(some 19), .bin .and (.tmp 18) (.const (.int .u64 4294967295)), none⟩,
        ⟨(some 8), .mv (.tmp 19), none⟩])
     (.seq (.reg [⟨(some 20), .mv (.tmp 1), none⟩,
         ⟨(some 21), .bin .shr (.tmp 20) (.const (.int .u64 32)), none⟩,
         ⟨(some 9), .mv (.tmp 21), none⟩])
      (.seq (.reg [⟨(some 22), .mv (.tmp 6), none⟩,
          ⟨(some 23), .mv (.tmp 8), none⟩,
          ⟨(some 24), .bin .mul (.tmp 22) (.tmp 23), none⟩,
          ⟨(some 10), .mv (.tmp 24), none⟩])
       (.seq (.reg [⟨(some 25), .mv (.tmp 7), none⟩,
           ⟨(some 26), .mv (.tmp 8), none⟩,
           ⟨(some 27), .bin .mul (.tmp 25) (.tmp 26), none⟩,
           ⟨(some 28), .mv (.tmp 10), none⟩,
           ⟨(some 29), .bin .shr (.tmp 28) (.const (.int .u64 32)), none⟩,
           ⟨(some 30), .bin .add (.tmp 27) (.tmp 29), none⟩,
           ⟨(some 11), .mv (.tmp 30), none⟩])
        (.seq (.reg [⟨(some 31), .mv (.tmp 11), none⟩,
            ⟨(some 32), .bin .and (.tmp 31) (.const (.int .u64 4294967295)), none⟩,
            ⟨(some 12), .mv (.tmp 32), none⟩])
         (.seq (.reg [⟨(some 33), .mv (.tmp 11), none⟩,
             ⟨(some 34), .bin .shr (.tmp 33) (.const (.int .u64 32)), none⟩,
             ⟨(some 13), .mv (.tmp 34), none⟩])
          (.seq (.reg [⟨(some 35), .mv (.tmp 12), none⟩,
              ⟨(some 36), .mv (.tmp 6), none⟩,
              ⟨(some 37), .mv (.tmp 9), none⟩,
              ⟨(some 38), .bin .mul (.tmp 36) (.tmp 37), none⟩,
              ⟨(some 39), .bin .add (.tmp 35) (.tmp 38), none⟩,
              ⟨(some 12), .mv (.tmp 39), none⟩])
           (.seq (.reg [⟨(some 40), .mv (.tmp 7), none⟩,
               ⟨(some 41), .mv (.tmp 9), none⟩,
               ⟨(some 42), .bin .mul (.tmp 40) (.tmp 41), none⟩,
               ⟨(some 43), .mv (.tmp 13), none⟩,
               ⟨(some 44), .bin .add (.tmp 42) (.tmp 43), none⟩,
               ⟨(some 45), .mv (.tmp 12), none⟩,
               ⟨(some 46), .bin .shr (.tmp 45) (.const (.int .u64 32)), none⟩,
               ⟨(some 47), .bin .add (.tmp 44) (.tmp 46), none⟩,
               ⟨(some 4), .mv (.tmp 47), none⟩])
            (.seq (.reg [⟨(some 48), .mv (.tmp 0), none⟩,
                ⟨(some 49), .mv (.tmp 1), none⟩,
                ⟨(some 50), .bin .mul (.tmp 48) (.tmp 49), none⟩,
                ⟨(some 5), .mv (.tmp 50), none⟩])
             (.ret))))))))))))
theorem k44 : fnOk Try.prog 44 = some (M44, [.t 4, .t 5], 51) := by kernel_rfl

theorem c_Mul64 (x y : Int) (hx : 0 ≤ x ∧ x < 18446744073709551616) (hy : 0 ≤ y ∧ y < 18446744073709551616) (h : K (.tuple #[.int .u64 (x * y / 18446744073709551616), .int .u64 (x * y % 18446744073709551616)]) H) :
    HCalls Try.prog w0 44 [.int .u64 x, .int .u64 y] H K := by
  have fd : ∀ a : Int, a.fdiv 4294967296 = a / 4294967296 := fun a => Int.fdiv_eq_ediv_of_nonneg a (by omega)
  have a1 := and_w x hx.1 hx.2
  have a2 := and_w y hy.1 hy.2
  obtain ⟨x0, e1⟩ : ∃ z, x % 4294967296 = z := ⟨_, rfl⟩
  obtain ⟨x1, e2⟩ : ∃ z, x / 4294967296 = z := ⟨_, rfl⟩
  obtain ⟨y0, e3⟩ : ∃ z, y % 4294967296 = z := ⟨_, rfl⟩
  obtain ⟨y1, e4⟩ : ∃ z, y / 4294967296 = z := ⟨_, rfl⟩
  have hx' : x = x1 * 4294967296 + x0 := by omega
  have hy' : y = y1 * 4294967296 + y0 := by omega
  have mb : ∀ a b : Int, 0 ≤ a → a ≤ 4294967295 → 0 ≤ b → b ≤ 4294967295 → 0 ≤ a * b ∧ a * b ≤ 18446744065119617025 := fun a b h0 h1 h2 h3 => ⟨Int.mul_nonneg h0 h2, by have := Int.mul_le_mul h1 h3 h2 (by omega); omega⟩
  have m00 := mb x0 y0 (by omega) (by omega) (by omega) (by omega)
  have m01 := mb x0 y1 (by omega) (by omega) (by omega) (by omega)
  have m10 := mb x1 y0 (by omega) (by omega) (by omega) (by omega)
  have m11 := mb x1 y1 (by omega) (by omega) (by omega) (by omega)
  have hxy : x * y = x1 * y1 * 18446744073709551616 + (x1 * y0 + x0 * y1) * 4294967296 + x0 * y0 := by
    rw [hx', hy', Int.add_mul, Int.mul_add, Int.mul_add]
    have q1 : x1 * 4294967296 * (y1 * 4294967296) = x1 * y1 * 18446744073709551616 := by
      rw [Int.mul_assoc, Int.mul_left_comm 4294967296, ← Int.mul_assoc]; rfl
    have q2 : x1 * 4294967296 * y0 = x1 * y0 * 4294967296 := Int.mul_right_comm _ _ _
    have q3 : x0 * (y1 * 4294967296) = x0 * y1 * 4294967296 := (Int.mul_assoc _ _ _).symm
    rw [q1, q2, q3]; omega
  have w9 : IntKind.u64.wrap (x * y) = x * y % 18446744073709551616 := by simp only [IntKind.wrap_u64]
  clear mb hx' hy'
  rw [e1] at a1
  rw [e3] at a2
  generalize hp00 : x0 * y0 = p00 at *
  generalize hp01 : x0 * y1 = p01 at *
  generalize hp10 : x1 * y0 = p10 at *
  generalize hp11 : x1 * y1 = p11 at *
  have w1 : IntKind.u64.wrap p00 = p00 := Bu.1 _ (by omega) (by omega)
  have w2 : IntKind.u64.wrap p01 = p01 := Bu.1 _ (by omega) (by omega)
  have w3 : IntKind.u64.wrap p10 = p10 := Bu.1 _ (by omega) (by omega)
  have w4 : IntKind.u64.wrap p11 = p11 := Bu.1 _ (by omega) (by omega)
  obtain ⟨t, et⟩ : ∃ t, p10 + p00 / 4294967296 = t := ⟨_, rfl⟩
  have w5 : IntKind.u64.wrap t = t := Bu.1 _ (by omega) (by omega)
  have a3 := and_w t (by omega) (by omega)
  obtain ⟨v, ev⟩ : ∃ v, t % 4294967296 + p01 = v := ⟨_, rfl⟩
  have w6 : IntKind.u64.wrap v = v := Bu.1 _ (by omega) (by omega)
  have w7 : IntKind.u64.wrap (p11 + t / 4294967296) = p11 + t / 4294967296 := Bu.1 _ (by omega) (by omega)
  have w8 : IntKind.u64.wrap (p11 + t / 4294967296 + v / 4294967296) = x * y / 18446744073709551616 := by rw [Bu.1 _ (by omega) (by omega)]; omega
  clear hxy m00 m01 m10 m11 hx hy
  generalize x * y / 18446744073709551616 = hi at *
  refine HL.hc k44 999 ?_; unfold M44
  (all_goals (try simp only [Sh,Si,Sl,Bu,Bb,Bd,Bc,Bw,Bn,Int.reduceAdd,Int.reduceSub,Int.reduceMul,Int.reduceTDiv,Int.reduceTMod,Int.reduceMod,Int.reduceDiv,Nat.reduceLT,Nat.reduceEqDiff,decide_true,decide_false,Sa,Sb,Sc,Sd,Se,Sf,Sg,true_and,and_true,and_self,eq_self,b_i64,b_i32,b_u64,b_u32,b_u8,Int.reduceLE,Int.reduceLT,Int.reduceToNat,Int.reduceNeg,Int.reduceEq,Nat.reduceLeDiff,Nat.reducePow,Int.reducePow,Nat.min_def,reduceIte,Nat.reduceSub,Nat.reduceAdd,Nat.reduceMul,KP_same,KP_f,condS_t,condS_f,pick_t,pick_f,gS_tt,gS_ff,gS_tf,gS_ft,gS_u,gP_tt,gP_ff,gP_tf,gP_ft,gP_u,ptrV_eq,slcV_eq,mapV_eq,cells_agg,cells_int,cells_bool,cells_ptr,cells_slice,oc_int,oc_bool,oc_slice,oc_ptr,rd1_set,rd1_ne,rdn_set,rdn_ne,Heap.set_same,set_ne,Heap.set_set,set_up,set_up2,set_up3,putAt,ceq,List.map_cons,List.map_nil,List.length_cons,List.length_nil,List.length_set,List.cons_append,List.nil_append,List.append_nil,List.replicate,List.size_toArray,List.all_cons,List.all_nil,Bool.and_self,Bool.and_true,List.drop_zero,List.drop_succ_cons,List.take_succ_cons,List.take_zero,List.set_cons_zero,List.set_cons_succ,List.getElem?_cons_zero,List.getElem?_cons_succ,Option.map_some,Option.map_none,ne_eq,not_false_eq_true,not_true_eq_false,gt_iff_lt,ge_iff_le,Int.one_mul,Nat.zero_add,Nat.zero_mul,Bool.not_true,Bool.not_false,Bool.false_eq_true,Bool.and_false,Bool.false_and,Bool.true_and, *])); repeat' ((first | (with_reducible refine fun _ : True => ?_) | (with_reducible refine any_h ?_) | ((first | refine AllocQ_i ?_ | refine AllocO_i ?_); intro bk hb0 hbk; try simp only [set_none'] at hbk) | ((first | refine condS_i ?_ ?_ | refine pick_i ?_ ?_ | refine gS_it ?_ ?_ | refine gS_if ?_ ?_ | refine gP_it ?_ ?_ | refine gP_if ?_ ?_) <;> (intro hc; try simp only [Int.reduceLE,Int.reduceLT,Int.reduceEq,and_self,not_true_eq_false,not_false_eq_true,and_true,true_and,false_and,and_false,true_or,or_true,false_or,or_false,decide_eq_true_eq,decide_eq_false_iff_not,beq_iff_eq,beq_eq_false_iff_ne,bne_iff_ne,ne_eq,gt_iff_lt,ge_iff_le,Bool.not_eq_true,Bool.not_eq_false,Bool.not_eq_true',Bool.not_eq_false',Bool.not_eq_eq_eq_not,Bool.not_true,Bool.not_false] at hc)) | (refine KP_i (by (repeat' (first | exact Heap.Le.refl _ | (refine Le_fresh (by first | exact (by simp only [*]) | exact (by simp [set_none', *])) ?_) | (refine Heap.Le.trans ?_ (Grow.le (by assumption)))))) ?_) | (with_reducible refine And.intro ?_ ?_)) <;> (try simp only [Sh,Si,Sl,Bu,Bb,Bd,Bc,Bw,Bn,Int.reduceAdd,Int.reduceSub,Int.reduceMul,Int.reduceTDiv,Int.reduceTMod,Int.reduceMod,Int.reduceDiv,Nat.reduceLT,Nat.reduceEqDiff,decide_true,decide_false,Sa,Sb,Sc,Sd,Se,Sf,Sg,true_and,and_true,and_self,eq_self,b_i64,b_i32,b_u64,b_u32,b_u8,Int.reduceLE,Int.reduceLT,Int.reduceToNat,Int.reduceNeg,Int.reduceEq,Nat.reduceLeDiff,Nat.reducePow,Int.reducePow,Nat.min_def,reduceIte,Nat.reduceSub,Nat.reduceAdd,Nat.reduceMul,KP_same,KP_f,condS_t,condS_f,pick_t,pick_f,gS_tt,gS_ff,gS_tf,gS_ft,gS_u,gP_tt,gP_ff,gP_tf,gP_ft,gP_u,ptrV_eq,slcV_eq,mapV_eq,cells_agg,cells_int,cells_bool,cells_ptr,cells_slice,oc_int,oc_bool,oc_slice,oc_ptr,rd1_set,rd1_ne,rdn_set,rdn_ne,Heap.set_same,set_ne,Heap.set_set,set_up,set_up2,set_up3,putAt,ceq,List.map_cons,List.map_nil,List.length_cons,List.length_nil,List.length_set,List.cons_append,List.nil_append,List.append_nil,List.replicate,List.size_toArray,List.all_cons,List.all_nil,Bool.and_self,Bool.and_true,List.drop_zero,List.drop_succ_cons,List.take_succ_cons,List.take_zero,List.set_cons_zero,List.set_cons_succ,List.getElem?_cons_zero,List.getElem?_cons_succ,Option.map_some,Option.map_none,ne_eq,not_false_eq_true,not_true_eq_false,gt_iff_lt,ge_iff_le,Int.one_mul,Nat.zero_add,Nat.zero_mul,Bool.not_true,Bool.not_false,Bool.false_eq_true,Bool.and_false,Bool.false_and,Bool.true_and, *]))
  exact Fin_mk (Heap.Le.refl _) h
/- math/bits Len64 -/
def M47 : MC :=
  .seq (.reg [⟨(some 2), .mv (.const (.int .i64 0)), none⟩])
  (.seq (.seq (.reg [⟨(some 3), .mv (.tmp 0), none⟩,
       ⟨(some 4), .bin .geq (.tmp 3) (.const (.int .u64 4294967296)), none⟩])
    (.cond (.tmp 4)
     (.seq (.reg [⟨(some 5), .mv (.tmp 0), none⟩,
         ⟨(some 6), .bin .shr (.tmp 5) (.const (.int .u64 32)), none⟩,
         ⟨(some 0), .mv (.tmp 6), none⟩])
      (.reg [⟨(some 2), .mv (.const (.int .i64 32)), none⟩]))
     (.skip)))
   (.seq (.seq (.reg [⟨(some 7), .mv (.tmp 0), none⟩,
        ⟨(some 8), .bin .geq (.tmp 7) (.const (.int .u64 65536)), none⟩])
     (.cond (.tmp 8)
      (.seq (.reg [⟨(some 9), .mv (.tmp 0), none⟩,
          ⟨(some 10), .bin .shr (.tmp 9) (.const (.int .u64 16)), none⟩,
          ⟨(some 0), .mv (.tmp 10), none⟩])
       (.reg [⟨(some 11), .mv (.tmp 2), none⟩,
          ⟨(some 12), .bin .add (.tmp 11) (.const (.int .i64 16)), none⟩,
          ⟨(some 2), .mv (.tmp 12), none⟩]))
      (.skip)))
    (.seq (.seq (.reg [⟨(some 13), .mv (.tmp 0), none⟩,
         ⟨(some 14), .bin .geq (.tmp 13) (.const (.int .u64 256)), none⟩])
      (.cond (.tmp 14)
       (.seq (.reg [⟨(some 15), .mv (.tmp 0), none⟩,
           ⟨(some 16), .bin .shr (.tmp 15) (.const (.int .u64 8)), none⟩,
           ⟨(some 0), .mv (.tmp 16), none⟩])
        (.reg [⟨(some 17), .mv (.tmp 2), none⟩,
           ⟨(some 18), .bin .add (.tmp 17) (.const (.int .i64 8)), none⟩,
           ⟨(some 2), .mv (.tmp 18), none⟩]))
       (.skip)))
     (.seq (.reg [⟨(some 19), .mv (.tmp 2), none⟩,
         ⟨(some 20), .mv (.tmp 0), none⟩,
         ⟨(some 21), .conv .u8 (.tmp 20), none⟩,
         ⟨(some 22), .ixs (.const (.string ⟨⟨[0, 1, 2, 2, 3, 3, 3, 3, 4, 4, 4, 4, 4, 4, 4, 4, 5, 5, 5, 5, 5, 5, 5, 5, 5, 5, 5, 5, 5, 5, 5, 5, 6, 6, 6, 6, 6, 6, 6, 6, 6, 6, 6, 6, 6, 6, 6, 6, 6, 6, 6, 6, 6, 6, 6, 6, 6, 6, 6, 6, 6, 6, 6, 6, 7, 7, 7, 7, 7, 7, 7, 7, 7, 7, 7, 7, 7, 7, 7, 7, 7, 7, 7, 7, 7, 7, 7, 7, 7, 7, 7, 7, 7, 7, 7, 7, 7, 7, 7, 7, 7, 7, 7, 7, 7, 7, 7, 7, 7, 7, 7, 7, 7, 7, 7, 7, 7, 7, 7, 7, 7, 7, 7, 7, 7, 7, 7, 7, 8, 8, 8, 8, 8, 8, 8, 8, 8, 8, 8, 8, 8, 8, 8, 8, 8, 8, 8, 8, 8, 8, 8, 8, 8, 8, 8, 8, 8, 8, 8, 8, 8, 8, 8, 8, 8, 8, 8, 8, 8, 8, 8, 8, 8, 8, 8, 8, 8, 8, 8, 8, 8, 8, 8, 8, 8, 8, 8, 8, 8, 8, 8, 8, 8, 8, 8, 8, 8, 8, 8, 8, 8, 8, 8, 8, 8, 8, 8, 8, 8, 8, 8, 8, 8, 8, 8, 8, 8, 8, 8, 8, 8, 8, 8, 8, 8, 8, 8, 8, 8, 8, 8, 8, 8, 8, 8, 8, 8, 8, 8, 8, 8, 8, 8, 8, 8, 8, 8, 8, 8, 8, 8, 8, 8, 8, 8, 8]⟩⟩)) (.tmp 21), none⟩,
         ⟨(some 23), .conv .i64 (.tmp 22), none⟩,
         ⟨(some 24), .bin .add (.tmp 19) (.tmp 23), none⟩,
         ⟨(some 2), .mv (.tmp 24), none⟩])
      (.ret)))))
theorem k47 : fnOk Try.prog 47 = some (M47, [.t 2], 25) := by kernel_rfl

theorem c_Len64 (x : Int) (h0 : 0 < x) (h1 : x < 18446744073709551616) (h : K (.int .i64 (elog x + 1)) H) : HCalls Try.prog w0 47 [.int .u64 x] H K := by
  have a0 : ∀ a : Int, a.fdiv 4294967296 = a / 4294967296 := fun a => Int.fdiv_eq_ediv_of_nonneg a (by omega)
  have a1 : ∀ a : Int, a.fdiv 65536 = a / 65536 := fun a => Int.fdiv_eq_ediv_of_nonneg a (by omega)
  have a2 : ∀ a : Int, a.fdiv 256 = a / 256 := fun a => Int.fdiv_eq_ediv_of_nonneg a (by omega)
  have nn : ∀ z : Int, 0 ≤ IntKind.u8.wrap z := fun z => by simp [IntKind.wrap, IntKind.bits, IntKind.signed]; omega
  have fin : ∀ (n : Nat) (z m : Int), m = n → 0 < z → z < 256 → (2 : Int) ^ n * z ≤ x ∧ x < 2 ^ n * (z + 1) → n ≤ 56 → ∀ φ : UInt8 → Prop, (∀ v : UInt8, IntKind.i64.wrap (m + IntKind.i64.wrap (v.toNat : Int)) = elog x + 1 → φ v) → optQ (lenL[(IntKind.u8.wrap z).toNat]?) φ := by
    intro n z m hm y0 y1 hy hn φ hφ
    obtain ⟨y, rfl⟩ := Int.eq_ofNat_of_zero_le (Int.le_of_lt y0)
    subst hm
    have e1 : (IntKind.u8.wrap (y : Int)).toNat = y := by rw [Bu.2.2 _ (by omega) (by omega)]; rfl
    rw [e1]
    refine optQ_of (len_tab y (by omega)) (hφ _ ?_)
    have := len_le y (by omega)
    have e2 : ((UInt8.ofNat (len8 y)).toNat : Int) = len8 y := by rw [UInt8.toNat_ofNat']; omega
    rw [e2, Bw.1 (len8 y : Int) (by omega) (by omega), Bw.1 _ (by omega) (by omega)]
    exact len_hi n y (by omega) hy
  refine HL.hc k47 999 ?_; unfold M47
  (all_goals (try simp only [Sh,Si,Sl,Bu,Bb,Bd,Bc,Bw,Bn,Int.reduceAdd,Int.reduceSub,Int.reduceMul,Int.reduceTDiv,Int.reduceTMod,Int.reduceMod,Int.reduceDiv,Nat.reduceLT,Nat.reduceEqDiff,decide_true,decide_false,Sa,Sb,Sc,Sd,Se,Sf,Sg,true_and,and_true,and_self,eq_self,b_i64,b_i32,b_u64,b_u32,b_u8,Int.reduceLE,Int.reduceLT,Int.reduceToNat,Int.reduceNeg,Int.reduceEq,Nat.reduceLeDiff,Nat.reducePow,Int.reducePow,Nat.min_def,reduceIte,Nat.reduceSub,Nat.reduceAdd,Nat.reduceMul,KP_same,KP_f,condS_t,condS_f,pick_t,pick_f,gS_tt,gS_ff,gS_tf,gS_ft,gS_u,gP_tt,gP_ff,gP_tf,gP_ft,gP_u,ptrV_eq,slcV_eq,mapV_eq,cells_agg,cells_int,cells_bool,cells_ptr,cells_slice,oc_int,oc_bool,oc_slice,oc_ptr,rd1_set,rd1_ne,rdn_set,rdn_ne,Heap.set_same,set_ne,Heap.set_set,set_up,set_up2,set_up3,putAt,ceq,List.map_cons,List.map_nil,List.length_cons,List.length_nil,List.length_set,List.cons_append,List.nil_append,List.append_nil,List.replicate,List.size_toArray,List.all_cons,List.all_nil,Bool.and_self,Bool.and_true,List.drop_zero,List.drop_succ_cons,List.take_succ_cons,List.take_zero,List.set_cons_zero,List.set_cons_succ,List.getElem?_cons_zero,List.getElem?_cons_succ,Option.map_some,Option.map_none,ne_eq,not_false_eq_true,not_true_eq_false,gt_iff_lt,ge_iff_le,Int.one_mul,Nat.zero_add,Nat.zero_mul,Bool.not_true,Bool.not_false,Bool.false_eq_true,Bool.and_false,Bool.false_and,Bool.true_and, *])); repeat' ((first | (with_reducible refine fun _ : True => ?_) | (with_reducible refine any_h ?_) | ((first | refine AllocQ_i ?_ | refine AllocO_i ?_); intro bk hb0 hbk; try simp only [set_none'] at hbk) | ((first | refine condS_i ?_ ?_ | refine pick_i ?_ ?_ | refine gS_it ?_ ?_ | refine gS_if ?_ ?_ | refine gP_it ?_ ?_ | refine gP_if ?_ ?_) <;> (intro hc; try simp only [Int.reduceLE,Int.reduceLT,Int.reduceEq,and_self,not_true_eq_false,not_false_eq_true,and_true,true_and,false_and,and_false,true_or,or_true,false_or,or_false,decide_eq_true_eq,decide_eq_false_iff_not,beq_iff_eq,beq_eq_false_iff_ne,bne_iff_ne,ne_eq,gt_iff_lt,ge_iff_le,Bool.not_eq_true,Bool.not_eq_false,Bool.not_eq_true',Bool.not_eq_false',Bool.not_eq_eq_eq_not,Bool.not_true,Bool.not_false] at hc)) | (refine KP_i (by (repeat' (first | exact Heap.Le.refl _ | (refine Le_fresh (by first | exact (by simp only [*]) | exact (by simp [set_none', *])) ?_) | (refine Heap.Le.trans ?_ (Grow.le (by assumption)))))) ?_) | (with_reducible refine And.intro ?_ ?_)) <;> (try simp only [Sh,Si,Sl,Bu,Bb,Bd,Bc,Bw,Bn,Int.reduceAdd,Int.reduceSub,Int.reduceMul,Int.reduceTDiv,Int.reduceTMod,Int.reduceMod,Int.reduceDiv,Nat.reduceLT,Nat.reduceEqDiff,decide_true,decide_false,Sa,Sb,Sc,Sd,Se,Sf,Sg,true_and,and_true,and_self,eq_self,b_i64,b_i32,b_u64,b_u32,b_u8,Int.reduceLE,Int.reduceLT,Int.reduceToNat,Int.reduceNeg,Int.reduceEq,Nat.reduceLeDiff,Nat.reducePow,Int.reducePow,Nat.min_def,reduceIte,Nat.reduceSub,Nat.reduceAdd,Nat.reduceMul,KP_same,KP_f,condS_t,condS_f,pick_t,pick_f,gS_tt,gS_ff,gS_tf,gS_ft,gS_u,gP_tt,gP_ff,gP_tf,gP_ft,gP_u,ptrV_eq,slcV_eq,mapV_eq,cells_agg,cells_int,cells_bool,cells_ptr,cells_slice,oc_int,oc_bool,oc_slice,oc_ptr,rd1_set,rd1_ne,rdn_set,rdn_ne,Heap.set_same,set_ne,Heap.set_set,set_up,set_up2,set_up3,putAt,ceq,List.map_cons,List.map_nil,List.length_cons,List.length_nil,List.length_set,List.cons_append,List.nil_append,List.append_nil,List.replicate,List.size_toArray,List.all_cons,List.all_nil,Bool.and_self,Bool.and_true,List.drop_zero,List.drop_succ_cons,List.take_succ_cons,List.take_zero,List.set_cons_zero,List.set_cons_succ,List.getElem?_cons_zero,List.getElem?_cons_succ,Option.map_some,Option.map_none,ne_eq,not_false_eq_true,not_true_eq_false,gt_iff_lt,ge_iff_le,Int.one_mul,Nat.zero_add,Nat.zero_mul,Bool.not_true,Bool.not_false,Bool.false_eq_true,Bool.and_false,Bool.false_and,Bool.true_and, *]))
  all_goals first
    | exact nn _
    | exact fin 56 _ _ rfl (by omega) (by omega) (by omega) (by omega) _ fun v hv => Fin_mk (Heap.Le.refl _) (K_int h hv)
    | exact fin 48 _ _ rfl (by omega) (by omega) (by omega) (by omega) _ fun v hv => Fin_mk (Heap.Le.refl _) (K_int h hv)
    | exact fin 40 _ _ rfl (by omega) (by omega) (by omega) (by omega) _ fun v hv => Fin_mk (Heap.Le.refl _) (K_int h hv)
    | exact fin 32 _ _ rfl (by omega) (by omega) (by omega) (by omega) _ fun v hv => Fin_mk (Heap.Le.refl _) (K_int h hv)
    | exact fin 24 _ _ rfl (by omega) (by omega) (by omega) (by omega) _ fun v hv => Fin_mk (Heap.Le.refl _) (K_int h hv)
    | exact fin 16 _ _ rfl (by omega) (by omega) (by omega) (by omega) _ fun v hv => Fin_mk (Heap.Le.refl _) (K_int h hv)
    | exact fin 8 _ _ rfl (by omega) (by omega) (by omega) (by omega) _ fun v hv => Fin_mk (Heap.Le.refl _) (K_int h hv)
    | exact fin 0 _ _ rfl (by omega) (by omega) (by omega) (by omega) _ fun v hv => Fin_mk (Heap.Le.refl _) (K_int h hv)
/- math/bits LeadingZeros64 -/
def M46 : MC :=
  .seq (.reg [⟨(some 2), .mv (.const (.int .i64 0)), none⟩])
  (.seq (.reg [⟨(some 3), .mv (.tmp 0), none⟩,
      ⟨(some 4), .call 47 [(.tmp 3)], none⟩,
      ⟨(some 5), .bin .sub (.const (.int .i64 64)) (.tmp 4), none⟩,
      ⟨(some 2), .mv (.tmp 5), none⟩])
   (.ret))
theorem k46 : fnOk Try.prog 46 = some (M46, [.t 2], 6) := by kernel_rfl

theorem c_LeadingZeros64 (x : Int) (h0 : 0 < x) (h1 : x < 18446744073709551616) (hl : elog x ≤ 63) (h : K (.int .i64 (63 - (elog x : Int))) H) : HCalls Try.prog w0 46 [.int .u64 x] H K := by
  have e : IntKind.i64.wrap (64 - ((elog x : Int) + 1)) = 63 - (elog x : Int) := by rw [Bw.1 _ (by omega) (by omega)]; omega
  refine HL.hc k46 999 ?_; unfold M46
  (all_goals (try simp only [Sh,Si,Sl,Bu,Bb,Bd,Bc,Bw,Bn,Int.reduceAdd,Int.reduceSub,Int.reduceMul,Int.reduceTDiv,Int.reduceTMod,Int.reduceMod,Int.reduceDiv,Nat.reduceLT,Nat.reduceEqDiff,decide_true,decide_false,Sa,Sb,Sc,Sd,Se,Sf,Sg,true_and,and_true,and_self,eq_self,b_i64,b_i32,b_u64,b_u32,b_u8,Int.reduceLE,Int.reduceLT,Int.reduceToNat,Int.reduceNeg,Int.reduceEq,Nat.reduceLeDiff,Nat.reducePow,Int.reducePow,Nat.min_def,reduceIte,Nat.reduceSub,Nat.reduceAdd,Nat.reduceMul,KP_same,KP_f,condS_t,condS_f,pick_t,pick_f,gS_tt,gS_ff,gS_tf,gS_ft,gS_u,gP_tt,gP_ff,gP_tf,gP_ft,gP_u,ptrV_eq,slcV_eq,mapV_eq,cells_agg,cells_int,cells_bool,cells_ptr,cells_slice,oc_int,oc_bool,oc_slice,oc_ptr,rd1_set,rd1_ne,rdn_set,rdn_ne,Heap.set_same,set_ne,Heap.set_set,set_up,set_up2,set_up3,putAt,ceq,List.map_cons,List.map_nil,List.length_cons,List.length_nil,List.length_set,List.cons_append,List.nil_append,List.append_nil,List.replicate,List.size_toArray,List.all_cons,List.all_nil,Bool.and_self,Bool.and_true,List.drop_zero,List.drop_succ_cons,List.take_succ_cons,List.take_zero,List.set_cons_zero,List.set_cons_succ,List.getElem?_cons_zero,List.getElem?_cons_succ,Option.map_some,Option.map_none,ne_eq,not_false_eq_true,not_true_eq_false,gt_iff_lt,ge_iff_le,Int.one_mul,Nat.zero_add,Nat.zero_mul,Bool.not_true,Bool.not_false,Bool.false_eq_true,Bool.and_false,Bool.false_and,Bool.true_and, *])); repeat' ((first | (with_reducible refine fun _ : True => ?_) | refine c_Len64 _ h0 h1 ?_ | (with_reducible refine any_h ?_) | ((first | refine AllocQ_i ?_ | refine AllocO_i ?_); intro bk hb0 hbk; try simp only [set_none'] at hbk) | ((first | refine condS_i ?_ ?_ | refine pick_i ?_ ?_ | refine gS_it ?_ ?_ | refine gS_if ?_ ?_ | refine gP_it ?_ ?_ | refine gP_if ?_ ?_) <;> (intro hc; try simp only [Int.reduceLE,Int.reduceLT,Int.reduceEq,and_self,not_true_eq_false,not_false_eq_true,and_true,true_and,false_and,and_false,true_or,or_true,false_or,or_false,decide_eq_true_eq,decide_eq_false_iff_not,beq_iff_eq,beq_eq_false_iff_ne,bne_iff_ne,ne_eq,gt_iff_lt,ge_iff_le,Bool.not_eq_true,Bool.not_eq_false,Bool.not_eq_true',Bool.not_eq_false',Bool.not_eq_eq_eq_not,Bool.not_true,Bool.not_false] at hc)) | (refine KP_i (by (repeat' (first | exact Heap.Le.refl _ | (refine Le_fresh (by first | exact (by simp only [*]) | exact (by simp [set_none', *])) ?_) | (refine Heap.Le.trans ?_ (Grow.le (by assumption)))))) ?_) | (with_reducible refine And.intro ?_ ?_)) <;> (try simp only [Sh,Si,Sl,Bu,Bb,Bd,Bc,Bw,Bn,Int.reduceAdd,Int.reduceSub,Int.reduceMul,Int.reduceTDiv,Int.reduceTMod,Int.reduceMod,Int.reduceDiv,Nat.reduceLT,Nat.reduceEqDiff,decide_true,decide_false,Sa,Sb,Sc,Sd,Se,Sf,Sg,true_and,and_true,and_self,eq_self,b_i64,b_i32,b_u64,b_u32,b_u8,Int.reduceLE,Int.reduceLT,Int.reduceToNat,Int.reduceNeg,Int.reduceEq,Nat.reduceLeDiff,Nat.reducePow,Int.reducePow,Nat.min_def,reduceIte,Nat.reduceSub,Nat.reduceAdd,Nat.reduceMul,KP_same,KP_f,condS_t,condS_f,pick_t,pick_f,gS_tt,gS_ff,gS_tf,gS_ft,gS_u,gP_tt,gP_ff,gP_tf,gP_ft,gP_u,ptrV_eq,slcV_eq,mapV_eq,cells_agg,cells_int,cells_bool,cells_ptr,cells_slice,oc_int,oc_bool,oc_slice,oc_ptr,rd1_set,rd1_ne,rdn_set,rdn_ne,Heap.set_same,set_ne,Heap.set_set,set_up,set_up2,set_up3,putAt,ceq,List.map_cons,List.map_nil,List.length_cons,List.length_nil,List.length_set,List.cons_append,List.nil_append,List.append_nil,List.replicate,List.size_toArray,List.all_cons,List.all_nil,Bool.and_self,Bool.and_true,List.drop_zero,List.drop_succ_cons,List.take_succ_cons,List.take_zero,List.set_cons_zero,List.set_cons_succ,List.getElem?_cons_zero,List.getElem?_cons_succ,Option.map_some,Option.map_none,ne_eq,not_false_eq_true,not_true_eq_false,gt_iff_lt,ge_iff_le,Int.one_mul,Nat.zero_add,Nat.zero_mul,Bool.not_true,Bool.not_false,Bool.false_eq_true,Bool.and_false,Bool.false_and,Bool.true_and, *]))
  exact Fin_mk (Heap.Le.refl _) h
end Go.Proofs.Ytokjajfojjibcaa
