/- The number of a pixel and the channels of a format, by the program (layer 8). -/
import Derived.Test.YtdaipgnhconfnaaIpa
import Derived.Test.YtdaipgnhconfnaaInf
import Derived.Test.YtdaipgnhconfnaaIna
set_option linter.unusedSimpArgs false
set_option linter.unusedVariables false
set_option maxRecDepth 100000
set_option maxHeartbeats 4000000
namespace Go.Proofs.Ytdaipgnhconfnaa
open Go Go.HL Go.RowKit Pb
variable {w0 : World} {H G : Heap} {K : Value → Heap → Prop}

/- image channels -/
def M67 : MC :=
  .seq (.reg [⟨(some 2), .mv (.const (.slice none 0 0)), none⟩])
 (.seq (.seq (.reg [⟨(some 3), .mv (.tmp 0), none⟩])
 (.block 0 (.seq (.reg [⟨(some 5), .bin .eql (.tmp 3) (.const (.int .i64 2)), none⟩,
 ⟨(some 4), .mv (.tmp 5), none⟩])
 (.cond (.tmp 4)
 (.seq (.reg [⟨(some 6), .bslice 3 3 [(.int .i64 0), (.int .i64 0), (.int .i64 0)] [(0, 1, (.const (.int .i64 5))), (1, 1, (.const (.int .i64 6))), (2, 1, (.const (.int .i64 5)))], none⟩,
 ⟨(some 2), .mv (.tmp 6), none⟩])
 (.ret))
 (.seq (.reg [⟨(some 8), .bin .eql (.tmp 3) (.const (.int .i64 3)), none⟩,
 ⟨(some 7), .mv (.tmp 8), none⟩])
 (.cond (.tmp 7)
 (.seq (.reg [⟨(some 9), .bslice 3 4 [(.int .i64 0), (.int .i64 0), (.int .i64 0), (.int .i64 0)] [(0, 1, (.const (.int .i64 4))), (1, 1, (.const (.int .i64 4))), (2, 1, (.const (.int .i64 4))), (3, 1, (.const (.int .i64 4)))], none⟩,
 ⟨(some 2), .mv (.tmp 9), none⟩])
 (.ret))
 (.seq (.reg [⟨(some 11), .bin .eql (.tmp 3) (.const (.int .i64 4)), none⟩,
 ⟨(some 10), .mv (.tmp 11), none⟩])
 (.cond (.tmp 10)
 (.seq (.reg [⟨(some 12), .bslice 3 4 [(.int .i64 0), (.int .i64 0), (.int .i64 0), (.int .i64 0)] [(0, 1, (.const (.int .i64 1))), (1, 1, (.const (.int .i64 5))), (2, 1, (.const (.int .i64 5))), (3, 1, (.const (.int .i64 5)))], none⟩,
 ⟨(some 2), .mv (.tmp 12), none⟩])
 (.ret))
 (.skip)))))))))
 (.seq (.reg [⟨(some 13), .bslice 3 4 [(.int .i64 0), (.int .i64 0), (.int .i64 0), (.int .i64 0)] [(0, 1, (.const (.int .i64 8))), (1, 1, (.const (.int .i64 8))), (2, 1, (.const (.int .i64 8))), (3, 1, (.const (.int .i64 8)))], none⟩,
 ⟨(some 14), .mv (.tmp 0), none⟩,
 ⟨(some 15), .call 48 [(.tmp 14)], none⟩,
 ⟨(some 16), .slc 1 (.tmp 13) none (some (.tmp 15)), none⟩,
 ⟨(some 2), .mv (.tmp 16), none⟩])
 (.ret)))
theorem k67 : fnOk Try.prog 67 = some (M67, [.t 2], 17) := by kernel_rfl
/- image half 1 -/
def M66 : MC :=
  .seq (.reg [⟨(some 6), .mv (.const (.int .u32 0)), none⟩])
 (.seq (.reg [⟨(some 7), .mv (.const (.int .u32 0)), none⟩])
 (.seq (.seq (.any [(true, 0, [], ⟨(some 10), .fa 2 (.tmp 2), none⟩),
 (true, 1, [], ⟨(some 11), .ld1 (.tmp 10), none⟩),
 (true, 2, [], ⟨(some 12), .mv (.tmp 1), none⟩),
 (true, 3, [], ⟨(some 13), .fa 0 (.tmp 2), none⟩),
 (true, 4, [], ⟨(some 14), .ld1 (.tmp 13), none⟩),
 (true, 5, [], ⟨(some 15), .bin .mul (.tmp 12) (.tmp 14), none⟩),
 (true, 6, [], ⟨(some 16), .mv (.tmp 0), none⟩),
 (true, 7, [], ⟨(some 17), .bin .add (.tmp 15) (.tmp 16), none⟩),
 (true, 8, [], ⟨(some 18), .ld1 (.tmp 3), none⟩),
 (true, 9, [], ⟨(some 19), .bin .mul (.tmp 17) (.tmp 18), none⟩),
 (true, 10, [], ⟨(some 20), .slc 1 (.tmp 11) (some (.tmp 19)) none, none⟩),
 (true, 11, [], ⟨(some 21), .ld1 (.tmp 3), none⟩),
 (true, 12, [], ⟨(some 22), .slc 1 (.tmp 20) none (some (.tmp 21)), none⟩),
 (true, 13, [], ⟨(some 23), .len (.tmp 22), none⟩),
 (false, 14, [0, 1, 2, 3, 4, 5, 6, 7, 8, 9, 10, 11, 12, 13], ⟨(some 24), .mv (.const (.int .i64 0)), none⟩)])
 (.block 0 (.loop (.seq (.reg [⟨(some 25), .bin .lss (.tmp 24) (.tmp 23), none⟩])
 (.seq (.cond (.tmp 25)
 (.skip)
 (.exit 0))
 (.seq (.block 1 (.seq (.reg [⟨(some 26), .mv (.tmp 24), none⟩,
 ⟨(some 27), .is 1 (.tmp 22) (.tmp 24), none⟩,
 ⟨(some 28), .ld1 (.tmp 27), none⟩,
 ⟨(some 8), .mv (.tmp 26), none⟩,
 ⟨(some 9), .mv (.tmp 28), none⟩])
 (.reg [⟨(some 29), .mv (.tmp 7), none⟩,
 ⟨(some 30), .mv (.tmp 9), none⟩,
 ⟨(some 31), .conv .u32 (.tmp 30), none⟩,
 ⟨(some 32), .mv (.tmp 8), none⟩,
 ⟨(some 33), .bin .mul (.const (.int .i64 8)) (.tmp 32), none⟩,
 ⟨(some 34), .bin .shl (.tmp 31) (.tmp 33), none⟩,
 ⟨(some 35), .bin .or (.tmp 29) (.tmp 34), none⟩,
 ⟨(some 7), .mv (.tmp 35), none⟩])))
 (.reg [⟨(some 36), .bin .add (.tmp 24) (.const (.int .i64 1)), none⟩,
 ⟨(some 24), .mv (.tmp 36), none⟩])))))))
 (.seq (.reg [⟨(some 37), .mv (.tmp 7), none⟩,
 ⟨(some 6), .mv (.tmp 37), none⟩])
 (.ret))))
theorem k66 : fnOk Try.prog 66 = some (M66, [.t 6], 38) := by kernel_rfl

def chsV (f : Int) : List Int := (chs f).map fun k : Nat => Int.ofNat k
theorem c_channels (f : Int) (hs : sizeI f ≠ 0) (h : ∀ b n c G, Grow w0 H G → IntsAt w0 G .i64 (some ⟨b, 0, none⟩) (chsV f) → n = (chsV f).length → K (.slice (some ⟨b, 0, none⟩) n c) G) : HCalls Try.prog w0 67 [.int .i64 f] H K := by
  have hc : f = 2 ∨ f = 3 ∨ f = 4 ∨ (f = 1 ∨ f = 5 ∨ f = 6 ∨ f = 7) := by
    by_cases c : f < 1 ∨ 8 ≤ f
    · exact absurd (sizeI_none c) hs
    · omega
  have fin : ∀ (b m : Nat) (t : TypeId) (cs z : List Value) (G : Heap), G b = some ⟨.t t, cs ++ z⟩ → cs = (chsV f).map (.int .i64) → IntsAt w0 G .i64 (some ⟨b, 0, none⟩) (chsV f) := fun b m t cs z G hb e => SlAt.toInts (show SlAt w0 G _ ((chsV f).map (Value.int .i64)) by rw [← e]; exact SlAt.blk hb)
  rcases hc with rfl | rfl | rfl | hc
  · clear hs
    refine HL.hc k67 999 ?_; unfold M67
    (all_goals (try simp only [Sq,Sr,Sh,Si,Sl,Bu,Bb,Bd,Bc,Bw,Bn,Int.reduceAdd,Int.reduceSub,Int.reduceMul,Int.reduceTDiv,Int.reduceTMod,Int.reduceMod,Int.reduceDiv,Nat.reduceLT,Nat.reduceEqDiff,Sa,Sb,Sc,Sd,Se,Sf,Sg,Int.reduceLE,Int.reduceLT,Int.reduceToNat,Int.reduceNeg,Int.reduceEq,Nat.reduceLeDiff,Nat.reducePow,Int.reducePow,reduceIte,Nat.reduceSub,Nat.reduceAdd,Nat.reduceMul,putAt,ceq,List.replicate, *])); repeat' ((first | (with_reducible refine fun _ : True => ?_) | (with_reducible refine any_h ?_) | ((first | refine AllocQ_i ?_ | refine AllocO_i ?_); intro bk hb0 hbk; (try simp only [set_none'] at hbk)) | ((first | refine condS_i ?_ ?_ | refine pick_i ?_ ?_ | refine gS_it ?_ ?_ | refine gS_if ?_ ?_ | refine gP_it ?_ ?_ | refine gP_if ?_ ?_) <;> (intro hc; try simp only [Int.reduceLE,Int.reduceLT,Int.reduceEq,Sn] at hc)) | (with_reducible refine And.intro ?_ ?_)) <;> (try simp only [Sq,Sr,Sh,Si,Sl,Bu,Bb,Bd,Bc,Bw,Bn,Int.reduceAdd,Int.reduceSub,Int.reduceMul,Int.reduceTDiv,Int.reduceTMod,Int.reduceMod,Int.reduceDiv,Nat.reduceLT,Nat.reduceEqDiff,Sa,Sb,Sc,Sd,Se,Sf,Sg,Int.reduceLE,Int.reduceLT,Int.reduceToNat,Int.reduceNeg,Int.reduceEq,Nat.reduceLeDiff,Nat.reducePow,Int.reducePow,reduceIte,Nat.reduceSub,Nat.reduceAdd,Nat.reduceMul,putAt,ceq,List.replicate, *]))
    exact Fin_mk (Heap.Le.refl _) (h bk 3 3 _ (by (repeat' (first | exact Grow.refl _ | assumption | (refine Grow_known (by first | (simp only [Heap.set_same, set_ne, ne_eq, not_false_eq_true, *] <;> rfl) | fail) ?_) | (refine Grow.set ?_ (by assumption) (by first | (simp only [*] <;> done) | (simp [set_none', Heap.set_same, set_ne, noneH, *] <;> done) | fail)) | (refine Grow.trans ?_ (by assumption))))) (fin bk 3 _ _ [] _ (by rw [List.append_nil]; exact Heap.set_same _ _ _) rfl) rfl)
  · clear hs
    refine HL.hc k67 999 ?_; unfold M67
    (all_goals (try simp only [Sq,Sr,Sh,Si,Sl,Bu,Bb,Bd,Bc,Bw,Bn,Int.reduceAdd,Int.reduceSub,Int.reduceMul,Int.reduceTDiv,Int.reduceTMod,Int.reduceMod,Int.reduceDiv,Nat.reduceLT,Nat.reduceEqDiff,Sa,Sb,Sc,Sd,Se,Sf,Sg,Int.reduceLE,Int.reduceLT,Int.reduceToNat,Int.reduceNeg,Int.reduceEq,Nat.reduceLeDiff,Nat.reducePow,Int.reducePow,reduceIte,Nat.reduceSub,Nat.reduceAdd,Nat.reduceMul,putAt,ceq,List.replicate, *])); repeat' ((first | (with_reducible refine fun _ : True => ?_) | (with_reducible refine any_h ?_) | ((first | refine AllocQ_i ?_ | refine AllocO_i ?_); intro bk hb0 hbk; (try simp only [set_none'] at hbk)) | ((first | refine condS_i ?_ ?_ | refine pick_i ?_ ?_ | refine gS_it ?_ ?_ | refine gS_if ?_ ?_ | refine gP_it ?_ ?_ | refine gP_if ?_ ?_) <;> (intro hc; try simp only [Int.reduceLE,Int.reduceLT,Int.reduceEq,Sn] at hc)) | (with_reducible refine And.intro ?_ ?_)) <;> (try simp only [Sq,Sr,Sh,Si,Sl,Bu,Bb,Bd,Bc,Bw,Bn,Int.reduceAdd,Int.reduceSub,Int.reduceMul,Int.reduceTDiv,Int.reduceTMod,Int.reduceMod,Int.reduceDiv,Nat.reduceLT,Nat.reduceEqDiff,Sa,Sb,Sc,Sd,Se,Sf,Sg,Int.reduceLE,Int.reduceLT,Int.reduceToNat,Int.reduceNeg,Int.reduceEq,Nat.reduceLeDiff,Nat.reducePow,Int.reducePow,reduceIte,Nat.reduceSub,Nat.reduceAdd,Nat.reduceMul,putAt,ceq,List.replicate, *]))
    exact Fin_mk (Heap.Le.refl _) (h bk 4 4 _ (by (repeat' (first | exact Grow.refl _ | assumption | (refine Grow_known (by first | (simp only [Heap.set_same, set_ne, ne_eq, not_false_eq_true, *] <;> rfl) | fail) ?_) | (refine Grow.set ?_ (by assumption) (by first | (simp only [*] <;> done) | (simp [set_none', Heap.set_same, set_ne, noneH, *] <;> done) | fail)) | (refine Grow.trans ?_ (by assumption))))) (fin bk 4 _ _ [] _ (by rw [List.append_nil]; exact Heap.set_same _ _ _) rfl) rfl)
  · clear hs
    refine HL.hc k67 999 ?_; unfold M67
    (all_goals (try simp only [Sq,Sr,Sh,Si,Sl,Bu,Bb,Bd,Bc,Bw,Bn,Int.reduceAdd,Int.reduceSub,Int.reduceMul,Int.reduceTDiv,Int.reduceTMod,Int.reduceMod,Int.reduceDiv,Nat.reduceLT,Nat.reduceEqDiff,Sa,Sb,Sc,Sd,Se,Sf,Sg,Int.reduceLE,Int.reduceLT,Int.reduceToNat,Int.reduceNeg,Int.reduceEq,Nat.reduceLeDiff,Nat.reducePow,Int.reducePow,reduceIte,Nat.reduceSub,Nat.reduceAdd,Nat.reduceMul,putAt,ceq,List.replicate, *])); repeat' ((first | (with_reducible refine fun _ : True => ?_) | (with_reducible refine any_h ?_) | ((first | refine AllocQ_i ?_ | refine AllocO_i ?_); intro bk hb0 hbk; (try simp only [set_none'] at hbk)) | ((first | refine condS_i ?_ ?_ | refine pick_i ?_ ?_ | refine gS_it ?_ ?_ | refine gS_if ?_ ?_ | refine gP_it ?_ ?_ | refine gP_if ?_ ?_) <;> (intro hc; try simp only [Int.reduceLE,Int.reduceLT,Int.reduceEq,Sn] at hc)) | (with_reducible refine And.intro ?_ ?_)) <;> (try simp only [Sq,Sr,Sh,Si,Sl,Bu,Bb,Bd,Bc,Bw,Bn,Int.reduceAdd,Int.reduceSub,Int.reduceMul,Int.reduceTDiv,Int.reduceTMod,Int.reduceMod,Int.reduceDiv,Nat.reduceLT,Nat.reduceEqDiff,Sa,Sb,Sc,Sd,Se,Sf,Sg,Int.reduceLE,Int.reduceLT,Int.reduceToNat,Int.reduceNeg,Int.reduceEq,Nat.reduceLeDiff,Nat.reducePow,Int.reducePow,reduceIte,Nat.reduceSub,Nat.reduceAdd,Nat.reduceMul,putAt,ceq,List.replicate, *]))
    exact Fin_mk (Heap.Le.refl _) (h bk 4 4 _ (by (repeat' (first | exact Grow.refl _ | assumption | (refine Grow_known (by first | (simp only [Heap.set_same, set_ne, ne_eq, not_false_eq_true, *] <;> rfl) | fail) ?_) | (refine Grow.set ?_ (by assumption) (by first | (simp only [*] <;> done) | (simp [set_none', Heap.set_same, set_ne, noneH, *] <;> done) | fail)) | (refine Grow.trans ?_ (by assumption))))) (fin bk 4 _ _ [] _ (by rw [List.append_nil]; exact Heap.set_same _ _ _) rfl) rfl)
  · have c1 : ¬ f = 2 ∧ ¬ f = 3 ∧ ¬ f = 4 := by omega
    obtain ⟨c1, c2, c3⟩ := c1
    have hz := size_cases hs
    have hch : chsV f = List.replicate (sizeI f).toNat 8 := by rcases hc with rfl | rfl | rfl | rfl <;> decide
    obtain ⟨S, hS⟩ : ∃ S : Nat, sizeI f = (S : Int) := ⟨(sizeI f).toNat, by omega⟩
    rw [hS] at hz
    have cs := fun (G : Heap) (K : Value → Heap → Prop) => c_pSize (w0 := w0) (H := G) (K := K) f
    rw [hS] at cs hch
    rw [Int.toNat_natCast] at hch
    rw [hch] at fin h
    rw [List.length_replicate] at h
    have hS4 : (S : Int) ≤ 4 := by omega
    clear hc hs hS hch
    have mem : ∀ (b : Nat) (G : Heap), G b = some ⟨.t 3, [.int .i64 8, .int .i64 8, .int .i64 8, .int .i64 8]⟩ → IntsAt w0 G .i64 (some ⟨b, 0, none⟩) (List.replicate S 8) := by
      intro b G hb
      rcases hz with e | e | e
      · obtain rfl : S = 1 := by omega
        exact fin b 4 3 [.int .i64 8] [.int .i64 8, .int .i64 8, .int .i64 8] G hb rfl
      · obtain rfl : S = 2 := by omega
        exact fin b 4 3 [.int .i64 8, .int .i64 8] [.int .i64 8, .int .i64 8] G hb rfl
      · obtain rfl : S = 4 := by omega
        exact fin b 4 3 [.int .i64 8, .int .i64 8, .int .i64 8, .int .i64 8] [] G hb rfl
    clear fin
    replace hz : Keep _ := hz
    replace h : Keep _ := h
    refine HL.hc k67 999 ?_; unfold M67
    (all_goals (try simp only [Sq,Sr,Sh,Si,Sl,Bu,Bb,Bd,Bc,Bw,Bn,Int.reduceAdd,Int.reduceSub,Int.reduceMul,Int.reduceTDiv,Int.reduceTMod,Int.reduceMod,Int.reduceDiv,Nat.reduceLT,Nat.reduceEqDiff,Sa,Sb,Sc,Sd,Se,Sf,Sg,Int.reduceLE,Int.reduceLT,Int.reduceToNat,Int.reduceNeg,Int.reduceEq,Nat.reduceLeDiff,Nat.reducePow,Int.reducePow,reduceIte,Nat.reduceSub,Nat.reduceAdd,Nat.reduceMul,putAt,ceq,List.replicate, *])); repeat' ((first | (with_reducible refine fun _ : True => ?_) | refine cs _ _ ?_ | (with_reducible refine any_h ?_) | ((first | refine AllocQ_i ?_ | refine AllocO_i ?_); intro bk hb0 hbk; (try simp only [set_none'] at hbk)) | ((first | refine condS_i ?_ ?_ | refine pick_i ?_ ?_ | refine gS_it ?_ ?_ | refine gS_if ?_ ?_ | refine gP_it ?_ ?_ | refine gP_if ?_ ?_) <;> (intro hc; try simp only [Int.reduceLE,Int.reduceLT,Int.reduceEq,Sn] at hc)) | (with_reducible refine And.intro ?_ ?_)) <;> (try simp only [Sq,Sr,Sh,Si,Sl,Bu,Bb,Bd,Bc,Bw,Bn,Int.reduceAdd,Int.reduceSub,Int.reduceMul,Int.reduceTDiv,Int.reduceTMod,Int.reduceMod,Int.reduceDiv,Nat.reduceLT,Nat.reduceEqDiff,Sa,Sb,Sc,Sd,Se,Sf,Sg,Int.reduceLE,Int.reduceLT,Int.reduceToNat,Int.reduceNeg,Int.reduceEq,Nat.reduceLeDiff,Nat.reducePow,Int.reducePow,reduceIte,Nat.reduceSub,Nat.reduceAdd,Nat.reduceMul,putAt,ceq,List.replicate, *]))
    exact Fin_mk (Heap.Le.refl _) ((show ∀ (b n c : Nat) (G : Heap), _ from h) bk S 4 (H.set bk _) (by (repeat' (first | exact Grow.refl _ | assumption | (refine Grow_known (by first | (simp only [Heap.set_same, set_ne, ne_eq, not_false_eq_true, *] <;> rfl) | fail) ?_) | (refine Grow.set ?_ (by assumption) (by first | (simp only [*] <;> done) | (simp [set_none', Heap.set_same, set_ne, noneH, *] <;> done) | fail)) | (refine Grow.trans ?_ (by assumption))))) (mem bk _ (Heap.set_same _ _ _)) rfl)
theorem c_number (p q : Nat) (z : LvR) (S : Nat) (a b : Int) {t1 t2 : Kd} (hp : H p = some ⟨t1, z.row⟩) (hq : H q = some ⟨t2, [.int .i64 (S : Nat)]⟩) (hz : LvOk w0 H z) (k : Nat) (ha : 0 ≤ a ∧ a ≤ 64) (hb : 0 ≤ b ∧ b ≤ 64) (hw : sideP z.w)
    (hS : 1 ≤ S ∧ S ≤ 4) (hk : b * z.w + a = (k : Int)) (hl : (k + 1) * S ≤ z.l.length) (h : K (.int .u32 (num ((z.l.drop (k * S)).take S))) H) :
    HCalls Try.prog w0 66 [.int .i64 a, .int .i64 b, .pointer (some ⟨p, 0, none⟩), .pointer (some ⟨q, 0, none⟩)] H K := by
  obtain ⟨m, hm⟩ : ∃ m, m = k * S := ⟨_, rfl⟩
  have hkS : (k : Int) * (S : Int) = (m : Int) := by rw [hm]; simp
  have hl' : m + S ≤ z.l.length := by rw [hm, ← Nat.succ_mul]; exact hl
  have hb2 : 0 ≤ b * z.w ∧ b * z.w ≤ 4096 := ⟨Int.mul_nonneg hb.1 (by have := hw.1; omega), Int.le_trans (Int.mul_le_mul hb.2 hw.2 (by have := hw.1; omega) (by omega)) (by decide)⟩
  have hk2 : k ≤ 4160 := by omega
  have hm2 : m ≤ 16640 := by rw [hm]; exact Nat.le_trans (Nat.mul_le_mul hk2 hS.2) (by decide)
  have w1 : IntKind.i64.wrap (b * z.w) = b * z.w := Bw.1 _ (by omega) (by omega)
  have w2 : IntKind.i64.wrap (k : Int) = (k : Int) := Bw.1 _ (by omega) (by omega)
  have w3 : IntKind.i64.wrap (m : Int) = (m : Int) := Bw.1 _ (by omega) (by omega)
  have hA := hz.at_
  obtain ⟨ps, hps⟩ : ∃ ps, ps = (z.l.drop m).take S := ⟨_, rfl⟩
  have hpl : ps.length = S := by rw [hps]; simp; omega
  rw [← hm, ← hps] at h
  have hby : ∀ x ∈ ps, 0 ≤ x ∧ x ≤ 255 := fun x hx => hz.by_ x (by rw [hps] at hx; exact List.mem_of_mem_drop (List.mem_of_mem_take hx))
  obtain ⟨bb, o, ea, hr, hf⟩ := ints_get hA (by omega)
  have hr2 : ∀ i v, ps[i]? = some v → rd1 w0 H bb (o + m + i) = some (.int .u8 v) := fun i v hv => by
    rw [Nat.add_assoc]
    refine hr (m + i) v ?_
    have hi := (List.getElem?_eq_some_iff.1 hv).1
    rw [hps, List.getElem?_take, if_pos (by omega), List.getElem?_drop] at hv
    exact hv
  have hlz : z.l.length ≤ z.cap := hz.lc
  obtain ⟨ww, hh, aa, cap, l⟩ := z
  simp only at *
  subst ea
  unfold LvR.row at hp
  simp only at hp
  clear hA hr hz hf
  have hp0 : rd1 w0 H p 0 = some (.int .i64 ww) := by unfold rd1; rw [hp]; rfl
  have hp2 : rd1 w0 H p 2 = some (.slice (some ⟨bb, o, none⟩) l.length cap) := by unfold rd1; rw [hp]; rfl
  have hq0 : rd1 w0 H q 0 = some (.int .i64 (S : Nat)) := by unfold rd1; rw [hq]; rfl
  replace hps : Keep _ := hps
  replace hm : Keep _ := hm
  replace hpl : Keep _ := hpl
  have f1 : (m : Int) ≤ (l.length : Int) := by omega
  have f2 : (S : Int) ≤ ((cap - m : Nat) : Int) := by omega
  have f3 : m ≤ cap := by omega
  have f4 : ¬ cap = m := by omega
  clear hp hq hb2 hl hw ha hb hlz
  refine HL.hc k66 999 ?_; unfold M66
  (all_goals (try simp only [Sq,Sr,Sh,Si,Sl,Bu,Bb,Bd,Bc,Bw,Bn,Int.reduceAdd,Int.reduceSub,Int.reduceMul,Int.reduceTDiv,Int.reduceTMod,Int.reduceMod,Int.reduceDiv,Nat.reduceLT,Nat.reduceEqDiff,Sa,Sb,Sc,Sd,Se,Sf,Sg,Int.reduceLE,Int.reduceLT,Int.reduceToNat,Int.reduceNeg,Int.reduceEq,Nat.reduceLeDiff,Nat.reducePow,Int.reducePow,reduceIte,Nat.reduceSub,Nat.reduceAdd,Nat.reduceMul,putAt,ceq,List.replicate, *])); repeat' ((first | (with_reducible refine fun _ : True => ?_) | (with_reducible refine any_h ?_) | ((first | refine AllocQ_i ?_ | refine AllocO_i ?_); intro bk hb0 hbk; (try simp only [set_none'] at hbk)) | ((first | refine condS_i ?_ ?_ | refine pick_i ?_ ?_ | refine gS_it ?_ ?_ | refine gS_if ?_ ?_ | refine gP_it ?_ ?_ | refine gP_if ?_ ?_) <;> (intro hc; try simp only [Int.reduceLE,Int.reduceLT,Int.reduceEq,Sn] at hc)) | (with_reducible refine And.intro ?_ ?_)) <;> (try simp only [Sq,Sr,Sh,Si,Sl,Bu,Bb,Bd,Bc,Bw,Bn,Int.reduceAdd,Int.reduceSub,Int.reduceMul,Int.reduceTDiv,Int.reduceTMod,Int.reduceMod,Int.reduceDiv,Nat.reduceLT,Nat.reduceEqDiff,Sa,Sb,Sc,Sd,Se,Sf,Sg,Int.reduceLE,Int.reduceLT,Int.reduceToNat,Int.reduceNeg,Int.reduceEq,Nat.reduceLeDiff,Nat.reducePow,Int.reducePow,reduceIte,Nat.reduceSub,Nat.reduceAdd,Nat.reduceMul,putAt,ceq,List.replicate, *]))
  refine loop_g 25 (fun s : Nat × Value × Value => [(7, .int .u32 (num (ps.take s.1))), (8, s.2.1), (9, s.2.2), (24, .int .i64 (s.1 : Nat))]) (fun _ => H) (fun s => s.1 ≤ S) (fun s => S - s.1) (0, undef, undef) (Nat.zero_le _) (Heap.Le.refl _) rfl ?_
  intro ⟨i, v8, v9⟩ g hi
  simp only at hi
  have hpl' : ps.length = S := hpl
  rcases Nat.lt_or_ge i S with hlt | hge
  · have hlt' : (i : Int) < (S : Int) := by omega
    obtain ⟨v, hv⟩ : ∃ v, ps[i]? = some v := ⟨_, List.getElem?_eq_getElem (by omega)⟩
    have hvb := hby v (List.mem_of_getElem? hv)
    have hr := hr2 i v hv
    have en : num (ps.take (i + 1)) = num (ps.take i) + v * 2 ^ (8 * i) := by
      rw [List.take_add_one, hv, Option.toList_some, num_snoc, List.length_take, hpl', Nat.min_eq_left (by omega), Int.pow_mul]; rfl
    have hnb := num_b (ps.take i) fun x hx => hby x (List.mem_of_mem_take hx)
    rw [List.length_take, hpl', Nat.min_eq_left (by omega)] at hnb
    have e256 : (256 : Int) ^ i = 2 ^ (8 * i) := by rw [Int.pow_mul]; rfl
    rw [e256] at hnb
    have hi4 : i < 4 := by omega
    have h32 : (2 : Int) ^ (8 * i) * 256 ≤ 4294967296 := by
      rcases (show i = 0 ∨ i = 1 ∨ i = 2 ∨ i = 3 by omega) with rfl | rfl | rfl | rfl <;> decide
    have hp2 := p2 (8 * i)
    have hvm : v * 2 ^ (8 * i) ≤ 255 * 2 ^ (8 * i) := Int.mul_le_mul_of_nonneg_right hvb.2 (by omega)
    have hv0 : 0 ≤ v * 2 ^ (8 * i) := Int.mul_nonneg hvb.1 (by omega)
    have u1 : IntKind.u32.wrap v = v := Bu.2.1 _ (by omega) (by omega)
    have u2 : IntKind.i64.wrap (8 * (i : Int)) = 8 * (i : Int) := Bw.1 _ (by omega) (by omega)
    have u3 : (8 * (i : Int)).toNat = 8 * i := by omega
    have u4 : IntKind.u32.wrap (v * 2 ^ (8 * i)) = v * 2 ^ (8 * i) := Bu.2.1 _ (by omega) (by omega)
    have u5 := or_shl (num (ps.take i)) v (8 * i) hnb.1 hnb.2 hvb.1 (by omega)
    have u6 : IntKind.i64.wrap ((i : Int) + 1) = (i : Int) + 1 := Bw.1 _ (by omega) (by omega)
    have u7 : 0 ≤ 8 * (i : Int) := by omega
    have u8 : 8 * i ≤ 32 := by omega
    rw [← en] at u5
    clear hr2 hby hv hnb h32 hvm hv0 hi4 hpl' hvb hpl hps hm en e256 hp2 hlt'
    have hlt' : (i : Int) < (S : Int) := by omega
    (all_goals (try simp only [Sq,Sr,Sh,Si,Sl,Bu,Bb,Bd,Bc,Bw,Bn,Int.reduceAdd,Int.reduceSub,Int.reduceMul,Int.reduceTDiv,Int.reduceTMod,Int.reduceMod,Int.reduceDiv,Nat.reduceLT,Nat.reduceEqDiff,Sa,Sb,Sc,Sd,Se,Sf,Sg,Int.reduceLE,Int.reduceLT,Int.reduceToNat,Int.reduceNeg,Int.reduceEq,Nat.reduceLeDiff,Nat.reducePow,Int.reducePow,reduceIte,Nat.reduceSub,Nat.reduceAdd,Nat.reduceMul,putAt,ceq,List.replicate, *])); repeat' ((first | (with_reducible refine fun _ : True => ?_) | (with_reducible refine any_h ?_) | ((first | refine AllocQ_i ?_ | refine AllocO_i ?_); intro bk hb0 hbk; (try simp only [set_none'] at hbk)) | ((first | refine condS_i ?_ ?_ | refine pick_i ?_ ?_ | refine gS_it ?_ ?_ | refine gS_if ?_ ?_ | refine gP_it ?_ ?_ | refine gP_if ?_ ?_) <;> (intro hc; try simp only [Int.reduceLE,Int.reduceLT,Int.reduceEq,Sn] at hc)) | (with_reducible refine And.intro ?_ ?_)) <;> (try simp only [Sq,Sr,Sh,Si,Sl,Bu,Bb,Bd,Bc,Bw,Bn,Int.reduceAdd,Int.reduceSub,Int.reduceMul,Int.reduceTDiv,Int.reduceTMod,Int.reduceMod,Int.reduceDiv,Nat.reduceLT,Nat.reduceEqDiff,Sa,Sb,Sc,Sd,Se,Sf,Sg,Int.reduceLE,Int.reduceLT,Int.reduceToNat,Int.reduceNeg,Int.reduceEq,Nat.reduceLeDiff,Nat.reducePow,Int.reducePow,reduceIte,Nat.reduceSub,Nat.reduceAdd,Nat.reduceMul,putAt,ceq,List.replicate, *]))
    exact Round_mk (i + 1, _, _) (show i + 1 ≤ S by omega) (show S - (i + 1) < S - i by omega) (Heap.Le.refl _) rfl rfl
  · obtain rfl : i = S := by omega
    have hn : ¬ (i : Int) < (i : Int) := by omega
    have e : ps.take i = ps := List.take_of_length_le (by omega)
    rw [← e] at h
    clear hr2 hby e
    (all_goals (try simp only [Sq,Sr,Sh,Si,Sl,Bu,Bb,Bd,Bc,Bw,Bn,Int.reduceAdd,Int.reduceSub,Int.reduceMul,Int.reduceTDiv,Int.reduceTMod,Int.reduceMod,Int.reduceDiv,Nat.reduceLT,Nat.reduceEqDiff,Sa,Sb,Sc,Sd,Se,Sf,Sg,Int.reduceLE,Int.reduceLT,Int.reduceToNat,Int.reduceNeg,Int.reduceEq,Nat.reduceLeDiff,Nat.reducePow,Int.reducePow,reduceIte,Nat.reduceSub,Nat.reduceAdd,Nat.reduceMul,putAt,ceq,List.replicate, *])); repeat' ((first | (with_reducible refine fun _ : True => ?_) | (with_reducible refine any_h ?_) | ((first | refine AllocQ_i ?_ | refine AllocO_i ?_); intro bk hb0 hbk; (try simp only [set_none'] at hbk)) | ((first | refine condS_i ?_ ?_ | refine pick_i ?_ ?_ | refine gS_it ?_ ?_ | refine gS_if ?_ ?_ | refine gP_it ?_ ?_ | refine gP_if ?_ ?_) <;> (intro hc; try simp only [Int.reduceLE,Int.reduceLT,Int.reduceEq,Sn] at hc)) | (with_reducible refine And.intro ?_ ?_)) <;> (try simp only [Sq,Sr,Sh,Si,Sl,Bu,Bb,Bd,Bc,Bw,Bn,Int.reduceAdd,Int.reduceSub,Int.reduceMul,Int.reduceTDiv,Int.reduceTMod,Int.reduceMod,Int.reduceDiv,Nat.reduceLT,Nat.reduceEqDiff,Sa,Sb,Sc,Sd,Se,Sf,Sg,Int.reduceLE,Int.reduceLT,Int.reduceToNat,Int.reduceNeg,Int.reduceEq,Nat.reduceLeDiff,Nat.reducePow,Int.reducePow,reduceIte,Nat.reduceSub,Nat.reduceAdd,Nat.reduceMul,putAt,ceq,List.replicate, *]))
    exact Fin_mk (Heap.Le.refl _) h
end Go.Proofs.Ytdaipgnhconfnaa
