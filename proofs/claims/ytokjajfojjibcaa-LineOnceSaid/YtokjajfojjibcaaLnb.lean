/- Quotients of two words by one (layer 23). -/
import Derived.Test.YtokjajfojjibcaaLna
import Derived.Test.YtokjajfojjibcaaLnp
import Derived.Test.YtokjajfojjibcaaHlu
set_option linter.unusedSimpArgs false
set_option linter.unusedVariables false
set_option maxRecDepth 100000
set_option maxHeartbeats 8000000
namespace Go.Proofs.Ytokjajfojjibcaa
open Go.HL Go.RowKit Pb
variable {w0 : World} {H : Heap} {K : Value → Heap → Prop}

/- math/bits Div64 -/
def M45 : MC :=
  .seq (.reg [⟨(some 6), .mv (.const (.int .u64 0)), none⟩,
     ⟨(some 7), .mv (.const (.int .u64 0)), none⟩])
  (.seq (.seq (.reg [⟨(some 19), .mv (.tmp 2), none⟩,
       ⟨(some 20), .bin .eql (.tmp 19) (.const (.int .u64 0)), none⟩])
    (.cond (.tmp 20)
     (.reg [⟨(some 21), .ld1 (.global 0), none⟩,
        ⟨none, .bad, none⟩])
     (.skip)))
   (.seq (.seq (.reg [⟨(some 22), .mv (.tmp 2), none⟩,
        ⟨(some 23), .mv (.tmp 0), none⟩,
        ⟨(some 24), .bin .leq (.tmp 22) (.tmp 23), none⟩])
     (.cond (.tmp 24)
      (.reg [⟨(some 25), .ld1 (.global 1), none⟩,
         ⟨none, .bad, none⟩])
      (.skip)))
    (.seq (.seq (.reg [⟨(some 26), .mv (.tmp 0), none⟩,
         ⟨(some 27), .bin .eql (.tmp 26) (.const (.int .u64 0)), none⟩])
      (.cond (.tmp 27)
       (.seq (.any [(true, 0, [], ⟨(some 28), .mv (.tmp 1), none⟩),
           (true, 1, [], ⟨(some 29), .mv (.tmp 2), none⟩),
           (true, 2, [], ⟨(some 30), .bin .quo (.tmp 28) (.tmp 29), none⟩),
           (true, 3, [], ⟨(some 31), .mv (.tmp 1), none⟩),
           (true, 4, [], ⟨(some 32), .mv (.tmp 2), none⟩),
           (true, 5, [], ⟨(some 33), .bin .rem (.tmp 31) (.tmp 32), none⟩),
           (false, 6, [3, 4, 5], ⟨(some 6), .mv (.tmp 30), none⟩),
           (false, 7, [], ⟨(some 7), .mv (.tmp 33), none⟩)])
        (.ret))
       (.skip)))
     (.seq (.reg [⟨(some 34), .mv (.tmp 2), none⟩,
         ⟨(some 35), .call 46 [(.tmp 34)], none⟩,
         ⟨(some 36), .conv .u64 (.tmp 35), none⟩,
         ⟨(some 8), .mv (.tmp 36), none⟩])
      (.seq (.reg [⟨(some 37), .mv (.tmp 2), none⟩,
          ⟨(some 38), .mv (.tmp 8), none⟩,
          ⟨(some 39), .bin .shl (.tmp 37) (.tmp 38), none⟩,
          ⟨(some 2), .mv (.tmp 39), none⟩])
       (.seq (.reg [⟨(some 40), .mv (.tmp 2), none⟩,
           ⟨(some 41), .bin .shr (.tmp 40) (.const (.int .u64 32)), none⟩,
           ⟨(some 9), .mv (.tmp 41), none⟩])
        (.seq (.reg [⟨(some 42), .mv (.tmp 2), none⟩,
            ⟨(some 43), .bin .and (.tmp 42) (.const (.int .u64 4294967295)), none⟩,
            ⟨(some 10), .mv (.tmp 43), none⟩])
         (.seq (.reg [⟨(some 44), .mv (.tmp 0), none⟩,
             ⟨(some 45), .mv (.tmp 8), none⟩,
             ⟨(some 46), .bin .shl (.tmp 44) (.tmp 45), none⟩,
             ⟨(some 47), .mv (.tmp 1), none⟩,
             ⟨(some 48), .mv (.tmp 8), none⟩,
             ⟨(some 49), .bin .sub (.const (.int .u64 64)) (.tmp 48), none⟩,
             ⟨(some 50), .bin .shr (.tmp 47) (.tmp 49), none⟩,
             ⟨(some 51), .bin .or (.tmp 46) (.tmp 50), none⟩,
             ⟨(some 11), .mv (.tmp 51), none⟩])
          (.seq (.reg [⟨(some 52), .mv (.tmp 1), none⟩,
              ⟨(some 53), .mv (.tmp 8), none⟩,
              ⟨(some 54), .bin .shl (.tmp 52) (.tmp 53), none⟩,
              ⟨(some 12), .mv (.tmp 54), none⟩])
           (.seq (.reg [⟨(some 55), .mv (.tmp 12), none⟩,
               ⟨(some 56), .bin .shr (.tmp 55) (.const (.int .u64 32)), none⟩,
               ⟨(some 13), .mv (.tmp 56), none⟩])
            (.seq (.reg [⟨(some 57), .mv (.tmp 12), none⟩,
                ⟨(some 58), .bin .and (.tmp 57) (.const (.int .u64 4294967295)), none⟩,
                ⟨(some 14), .mv (.tmp 58), none⟩])
             (.seq (.reg [⟨(some 59), .mv (.tmp 11), none⟩,
                 ⟨(some 60), .mv (.tmp 9), none⟩,
                 ⟨(some 61), .bin .quo (.tmp 59) (.tmp 60), none⟩,
                 ⟨(some 15), .mv (.tmp 61), none⟩])
              (.seq (.reg [⟨(some 62), .mv (.tmp 11), none⟩,
                  ⟨(some 63), .mv (.tmp 15), none⟩,
                  ⟨(some 64), .mv (.tmp 9), none⟩,
                  ⟨(some 65), .bin .mul (.tmp 63) (.tmp 64), none⟩,
                  ⟨(some 66), .bin .sub (.tmp 62) (.tmp 65), none⟩,
                  ⟨(some 16), .mv (.tmp 66), none⟩])
               (.seq (.block 0 (.loop (.seq (.seq (.reg [⟨(some 67), .mv (.tmp 15), none⟩,
                       ⟨(some 68), .bin .geq (.tmp 67) (.const (.int .u64 4294967296)), none⟩,
                       ⟨(some 69), .mv (.tmp 68), none⟩,
                       ⟨(some 70), .mv (.tmp 15), (some (69, false))⟩,
                       ⟨(some 71), .mv (.tmp 10), (some (69, false))⟩,
                       ⟨(some 72), .bin .mul (.tmp 70) (.tmp 71), (some (69, false))⟩,
                       ⟨(some 73), .mv (.tmp 16), (some (69, false))⟩,
                       ⟨(some 74), .bin .mul (.const (.int .u64 4294967296)) (.tmp 73), (some (69, false))⟩,
                       ⟨(some 75), .mv (.tmp 13), (some (69, false))⟩,
                       ⟨(some 76), .bin .add (.tmp 74) (.tmp 75), (some (69, false))⟩,
                       ⟨(some 77), .bin .gtr (.tmp 72) (.tmp 76), (some (69, false))⟩,
                       ⟨(some 78), .pick (.tmp 69) (.const (.bool true)) (.tmp 77), none⟩])
                    (.cond (.tmp 78)
                     (.skip)
                     (.exit 0)))
                   (.block 1 (.seq (.reg [⟨(some 79), .mv (.tmp 15), none⟩,
                        ⟨(some 80), .bin .sub (.tmp 79) (.const (.int .u64 1)), none⟩,
                        ⟨(some 15), .mv (.tmp 80), none⟩])
                     (.seq (.reg [⟨(some 81), .mv (.tmp 16), none⟩,
                         ⟨(some 82), .mv (.tmp 9), none⟩,
                         ⟨(some 83), .bin .add (.tmp 81) (.tmp 82), none⟩,
                         ⟨(some 16), .mv (.tmp 83), none⟩])
                      (.seq (.reg [⟨(some 84), .mv (.tmp 16), none⟩,
                          ⟨(some 85), .bin .geq (.tmp 84) (.const (.int .u64 4294967296)), none⟩])
                       (.cond (.tmp 85)
                        (.exit 0)
                        (.skip)))))))))
                (.seq (.reg [⟨(some 86), .mv (.tmp 11), none⟩,
                    ⟨(some 87), .bin .mul (.tmp 86) (.const (.int .u64 4294967296)), none⟩,
                    ⟨(some 88), .mv (.tmp 13), none⟩,
                    ⟨(some 89), .bin .add (.tmp 87) (.tmp 88), none⟩,
                    ⟨(some 90), .mv (.tmp 15), none⟩,
                    ⟨(some 91), .mv (.tmp 2), none⟩,
                    ⟨(some 92), .bin .mul (.tmp 90) (.tmp 91), none⟩,
                    ⟨(some 93), .bin .sub (.tmp 89) (.tmp 92), none⟩,
                    ⟨(some 17), .mv (.tmp 93), none⟩])
                 (.seq (.reg [⟨(some 94), .mv (.tmp 17), none⟩,
                     ⟨(some 95), .mv (.tmp 9), none⟩,
                     ⟨(some 96), .bin .quo (.tmp 94) (.tmp 95), none⟩,
                     ⟨(some 18), .mv (.tmp 96), none⟩])
                  (.seq (.reg [⟨(some 97), .mv (.tmp 17), none⟩,
                      ⟨(some 98), .mv (.tmp 18), none⟩,
                      ⟨(some 99), .mv (.tmp 9), none⟩,
                      ⟨(some 100), .bin .mul (.tmp 98) (.tmp 99), none⟩,
                      ⟨(some 101), .bin .sub (.tmp 97) (.tmp 100), none⟩,
                      ⟨(some 16), .mv (.tmp 101), none⟩])
                   (.seq (.block 2 (.loop (.seq (.seq (.reg [⟨(some 102), .mv (.tmp 18), none⟩,
                           ⟨(some 103), .bin .geq (.tmp 102) (.const (.int .u64 4294967296)), none⟩,
                           ⟨(some 104), .mv (.tmp 103), none⟩,
                           ⟨(some 105), .mv (.tmp 18), (some (104, false))⟩,
                           ⟨(some 106), .mv (.tmp 10), (some (104, false))⟩,
                           ⟨(some 107), .bin .mul (.tmp 105) (.tmp 106), (some (104, false))⟩,
                           ⟨(some 108), .mv (.tmp 16), (some (104, false))⟩,
                           ⟨(some 109), .bin .mul (.const (.int .u64 4294967296)) (.tmp 108), (some (104, false))⟩,
                           ⟨(some 110), .mv (.tmp 14), (some (104, false))⟩,
                           ⟨(some 111), .bin .add (.tmp 109) (.tmp 110), (some (104, false))⟩,
                           ⟨(some 112), .bin .gtr (.tmp 107) (.tmp 111), (some (104, false))⟩,
                           ⟨(some 113), .pick (.tmp 104) (.const (.bool true)) (.tmp 112), none⟩])
                        (.cond (.tmp 113)
                         (.skip)
                         (.exit 2)))
                       (.block 3 (.seq (.reg [⟨(some 114), .mv (.tmp 18), none⟩,
                            ⟨(some 115), .bin .sub (.tmp 114) (.const (.int .u64 1)), none⟩,
                            ⟨(some 18), .mv (.tmp 115), none⟩])
                         (.seq (.reg [⟨(some 116), .mv (.tmp 16), none⟩,
                             ⟨(some 117), .mv (.tmp 9), none⟩,
                             ⟨(some 118), .bin .add (.tmp 116) (.tmp 117), none⟩,
                             ⟨(some 16), .mv (.tmp 118), none⟩])
                          (.seq (.reg [⟨(some 119), .mv (.tmp 16), none⟩,
                              ⟨(some 120), .bin .geq (.tmp 119) (.const (.int .u64 4294967296)), none⟩])
                           (.cond (.tmp 120)
                            (.exit 2)
                            (.skip)))))))))
                    (.seq (.reg [⟨(some 121), .mv (.tmp 15), none⟩,
                        ⟨(some 122), .bin .mul (.tmp 121) (.const (.int .u64 4294967296)), none⟩,
                        ⟨(some 123), .mv (.tmp 18), none⟩,
                        ⟨(some 124), .bin .add (.tmp 122) (.tmp 123), none⟩,
                        ⟨(some 125), .mv (.tmp 17), none⟩,
                        ⟨(some 126), .bin .mul (.tmp 125) (.const (.int .u64 4294967296)), none⟩,
                        ⟨(some 127), .mv (.tmp 14), none⟩,
                        ⟨(some 128), .bin .add (.tmp 126) (.tmp 127), none⟩,
                        ⟨(some 129), .mv (.tmp 18), none⟩,
                        ⟨(some 130), .mv (.tmp 2), none⟩,
                        ⟨(some 131), .bin .mul (.tmp 129) (.tmp 130), none⟩,
                        ⟨(some 132), .bin .sub (.tmp 128) (.tmp 131), none⟩,
                        ⟨(some 133), .mv (.tmp 8), none⟩,
                        ⟨(some 134), .bin .shr (.tmp 132) (.tmp 133), none⟩,
                        ⟨(some 6), .mv (.tmp 124), none⟩,
                        ⟨(some 7), .mv (.tmp 134), none⟩])
                     (.ret))))))))))))))))))))
theorem k45 : fnOk Try.prog 45 = some (M45, [.t 6, .t 7], 135) := by kernel_rfl

theorem c_Div64 (hi lo y : Int) (hh : 0 ≤ hi ∧ hi < y) (hl : 0 ≤ lo ∧ lo < 18446744073709551616) (hy : 0 < y ∧ y < 18446744073709551616)
    (h : K (.tuple #[.int .u64 ((hi * 18446744073709551616 + lo) / y), .int .u64 ((hi * 18446744073709551616 + lo) % y)]) H) : HCalls Try.prog w0 45 [.int .u64 hi, .int .u64 lo, .int .u64 y] H K := by
  have z0 : ¬ y = 0 := by omega
  have z1 : ¬ y ≤ hi := by omega
  by_cases h0 : hi = 0
  · subst h0
    have e1 : lo.tdiv y = (0 * 18446744073709551616 + lo) / y := by rw [Int.tdiv_eq_ediv_of_nonneg hl.1]; congr 1; omega
    have e2 : lo.tmod y = (0 * 18446744073709551616 + lo) % y := by rw [Int.tmod_eq_emod_of_nonneg hl.1]; congr 1; omega
    have b1 : 0 ≤ lo / y := Int.ediv_nonneg hl.1 (by omega)
    have b2 : lo / y ≤ lo := Int.ediv_le_self _ hl.1
    have b3 := Int.emod_nonneg lo z0
    have b4 := Int.emod_lt_of_pos lo hy.1
    rw [show (0 : Int) * 18446744073709551616 + lo = lo by omega] at h e1 e2
    have e3 : IntKind.u64.wrap (lo / y) = lo / y := Bu.1 _ (by omega) (by omega)
    have e4 : IntKind.u64.wrap (lo % y) = lo % y := Bu.1 _ (by omega) (by omega)
    refine HL.hc k45 999 ?_; unfold M45
    (all_goals (try simp only [Sq,Sr,Sh,Si,Sl,Bu,Bb,Bd,Bc,Bw,Bn,Int.reduceAdd,Int.reduceSub,Int.reduceMul,Int.reduceTDiv,Int.reduceTMod,Int.reduceMod,Int.reduceDiv,Nat.reduceLT,Nat.reduceEqDiff,Sa,Sb,Sc,Sd,Se,Sf,Sg,Int.reduceLE,Int.reduceLT,Int.reduceToNat,Int.reduceNeg,Int.reduceEq,Nat.reduceLeDiff,Nat.reducePow,Int.reducePow,reduceIte,Nat.reduceSub,Nat.reduceAdd,Nat.reduceMul,putAt,ceq,List.replicate, *])); repeat' ((first | (with_reducible refine fun _ : True => ?_) | (with_reducible refine any_h ?_) | ((first | refine AllocQ_i ?_ | refine AllocO_i ?_); intro bk hb0 hbk; try simp only [set_none'] at hbk) | ((first | refine condS_i ?_ ?_ | refine pick_i ?_ ?_ | refine gS_it ?_ ?_ | refine gS_if ?_ ?_ | refine gP_it ?_ ?_ | refine gP_if ?_ ?_) <;> (intro hc; try simp only [Int.reduceLE,Int.reduceLT,Int.reduceEq,Sn] at hc)) | (with_reducible refine KP_i ?_ ?_; · (repeat' (first | exact Heap.Le.refl _ | (refine Le_fresh (by first | exact (by simp only [*]) | exact (by simp [set_none', *])) ?_) | (refine Heap.Le.trans ?_ (Grow.le (by assumption)))))) | (with_reducible refine And.intro ?_ ?_)) <;> (try simp only [Sq,Sr,Sh,Si,Sl,Bu,Bb,Bd,Bc,Bw,Bn,Int.reduceAdd,Int.reduceSub,Int.reduceMul,Int.reduceTDiv,Int.reduceTMod,Int.reduceMod,Int.reduceDiv,Nat.reduceLT,Nat.reduceEqDiff,Sa,Sb,Sc,Sd,Se,Sf,Sg,Int.reduceLE,Int.reduceLT,Int.reduceToNat,Int.reduceNeg,Int.reduceEq,Nat.reduceLeDiff,Nat.reducePow,Int.reducePow,reduceIte,Nat.reduceSub,Nat.reduceAdd,Nat.reduceMul,putAt,ceq,List.replicate, *]))
    exact Fin_mk (Heap.Le.refl _) h
  · obtain ⟨s, hs⟩ : ∃ s, s = 63 - elog y := ⟨_, rfl⟩
    have hle := elog_le63 hy.1 hy.2
    obtain ⟨P, R, eP, eR, hP, hR, hPR, hY1, hY2⟩ := norm_facts hy.1 hy.2 s hs
    obtain ⟨n1, n2, n3, n4⟩ := div_normI hPR hP hR hl.1 hl.2 hh.2
    have hi0 : 0 ≤ hi * P := Int.mul_nonneg hh.1 (by omega)
    have hl1 : 0 ≤ lo * P := Int.mul_nonneg hl.1 (by omega)
    have c1 : IntKind.u64.wrap (63 - (elog y : Int)) = (s : Int) := by rw [Bu.1 _ (by omega) (by omega)]; omega
    have c2 : IntKind.u64.wrap (64 - (s : Int)) = ((64 - s : Nat) : Int) := by rw [Bu.1 _ (by omega) (by omega)]; omega
    have c3 : s ≤ 64 := by omega
    have c4 : 64 - s ≤ 64 := by omega
    have fd : ∀ a : Int, a.fdiv 4294967296 = a / 4294967296 := fun a => Int.fdiv_eq_ediv_of_nonneg a (by omega)
    have fR : lo.fdiv R = lo / R := Int.fdiv_eq_ediv_of_nonneg _ (by omega)
    have fP : ∀ a : Int, a.fdiv P = a / P := fun a => Int.fdiv_eq_ediv_of_nonneg a (by omega)
    obtain ⟨Y, eY⟩ : ∃ Y, y * P = Y := ⟨_, rfl⟩
    obtain ⟨L, eL⟩ : ∃ L, lo * P % 18446744073709551616 = L := ⟨_, rfl⟩
    obtain ⟨U, eU⟩ : ∃ U, hi * P + lo / R = U := ⟨_, rfl⟩
    obtain ⟨X, eX⟩ : ∃ X, hi * 18446744073709551616 + lo = X := ⟨_, rfl⟩
    have hL : 0 ≤ L ∧ L < 18446744073709551616 := by omega
    have k1 : IntKind.u64.wrap Y = Y := Bu.1 _ (by omega) (by omega)
    have k2 : IntKind.u64.wrap (hi * P) = hi * P := Bu.1 _ (by omega) (by omega)
    have k3 : IntKind.u64.wrap (lo * P) = L := by rw [← eL]; simp only [IntKind.wrap_u64]
    have k4 : bitsI .or .u64 (hi * P) (lo / R) = U := by
      have := or_w (lo / R) hi s n1 (by rw [eP]; exact n2) hh.1 (by rw [eP, eU]; omega)
      rw [eP, eU] at this
      exact this
    have k5 := and_w Y (by omega) (by omega)
    have k6 := and_w L hL.1 hL.2
    rw [eY] at hY1 hY2 n3
    rw [eU] at n3 n4
    rw [eL, eX] at n4
    rw [eX] at h
    obtain ⟨y1, ey1⟩ : ∃ z, Y / 4294967296 = z := ⟨_, rfl⟩
    obtain ⟨y0, ey0⟩ : ∃ z, Y % 4294967296 = z := ⟨_, rfl⟩
    obtain ⟨u1, eu1⟩ : ∃ z, L / 4294967296 = z := ⟨_, rfl⟩
    obtain ⟨u0, eu0⟩ : ∃ z, L % 4294967296 = z := ⟨_, rfl⟩
    rw [ey0] at k5
    rw [eu0] at k6
    have hU0 : 0 ≤ U := by omega
    have hYs : Keep (Y = y1 * 4294967296 + y0) := by unfold Keep; omega
    have hLs : Keep (L = u1 * 4294967296 + u0) := by unfold Keep; omega
    obtain ⟨i1, i2, i3, i4, i5, i6, i7⟩ := dig_init hYs (by omega) (by omega) (by omega) (by omega) hU0 n3 (show 0 ≤ u1 by omega) (by omega)
    have m1 : U.tdiv y1 = U / y1 := Int.tdiv_eq_ediv_of_nonneg hU0
    have m0 : ¬ y1 = 0 := by omega
    have m2 : IntKind.u64.wrap (U / y1) = U / y1 := Bu.1 _ (by omega) (by omega)
    have m3 : IntKind.u64.wrap (IntKind.u64.wrap U) = 0 → True := fun _ => trivial
    have m4 : IntKind.u64.wrap (U / y1 * y1) = U / y1 * y1 := Bu.1 _ (by omega) (by omega)
    have m5 : IntKind.u64.wrap (U - U / y1 * y1) = U - U / y1 * y1 := Bu.1 _ (by omega) (by omega)
    have hq0 : Keep (U / y1 * y1 + (U - U / y1 * y1) = U) := by unfold Keep; omega
    -- the first digit
    obtain ⟨j1, j2, j3, j4, -⟩ := dig_rest (Y := Y) (u := U) (un := u1) (by omega) hU0 n3 (by omega) (by omega)
    obtain ⟨D, eD⟩ : ∃ D, (U * 4294967296 + u1) / Y = D := ⟨_, rfl⟩
    rw [eD] at j1 j2 j3 j4 i3
    obtain ⟨V, eV⟩ : ∃ V, U * 4294967296 + u1 - D * Y = V := ⟨_, rfl⟩
    rw [eV] at j3 j4
    -- the second
    obtain ⟨k7, k8, k9, k10, k11, k12, k13⟩ := dig_init (u := V) (Y := Y) (un := u0) hYs (by omega) (by omega) (by omega) (by omega) j3 j4 (by omega) (by omega)
    obtain ⟨l1, l2, l3, l4, -⟩ := dig_rest (Y := Y) (u := V) (un := u0) (by omega) j3 j4 (by omega) (by omega)
    obtain ⟨E, eE⟩ : ∃ E, (V * 4294967296 + u0) / Y = E := ⟨_, rfl⟩
    rw [eE] at l1 l2 l3 l4 k9
    obtain ⟨Z, eZ⟩ : ∃ Z, V * 4294967296 + u0 - E * Y = Z := ⟨_, rfl⟩
    rw [eZ] at l3 l4
    have hq2 : Keep (V / y1 * y1 + (V - V / y1 * y1) = V) := by unfold Keep; omega
    obtain ⟨r1, r2⟩ := div_finI (X := X) (y := y) (P := P) (un32 := U) (un1 := u1) (un0 := u0) (q1 := D) (q0 := E) (u := V) (r := Z) hy.1 hP (by rw [← n4]; unfold Keep at hLs; omega) (by rw [eY]; omega) (by rw [eY]; omega) l3 (by rw [eY]; exact l4)
    rw [r1, r2] at h
    have p1 : IntKind.u64.wrap (IntKind.u64.wrap (IntKind.u64.wrap (U * 4294967296) + u1) - IntKind.u64.wrap (D * Y)) = V := by
      rw [show IntKind.u64.wrap (IntKind.u64.wrap (U * 4294967296) + u1) = IntKind.u64.wrap (U * 4294967296 + u1) by simp only [IntKind.wrap_u64]; omega]
      rw [wrap_sub (by omega) (by omega), eV]
    have p2 : IntKind.u64.wrap (IntKind.u64.wrap (IntKind.u64.wrap (V * 4294967296) + u0) - IntKind.u64.wrap (E * Y)) = Z := by
      rw [show IntKind.u64.wrap (IntKind.u64.wrap (V * 4294967296) + u0) = IntKind.u64.wrap (V * 4294967296 + u0) by simp only [IntKind.wrap_u64]; omega]
      rw [wrap_sub (by omega) (by omega), eZ]
    have p3 : IntKind.u64.wrap (D * 4294967296) = D * 4294967296 := Bu.1 _ (by omega) (by omega)
    have p4 : IntKind.u64.wrap (D * 4294967296 + E) = D * 4294967296 + E := Bu.1 _ (by omega) (by omega)
    have p5 : IntKind.u64.wrap D = D := Bu.1 _ (by omega) (by omega)
    have p6 : IntKind.u64.wrap E = E := Bu.1 _ (by omega) (by omega)
    have m6 : V.tdiv y1 = V / y1 := Int.tdiv_eq_ediv_of_nonneg j3
    have m7 : IntKind.u64.wrap (V / y1) = V / y1 := Bu.1 _ (by omega) (by omega)
    have m8 : IntKind.u64.wrap (V / y1 * y1) = V / y1 * y1 := Bu.1 _ (by omega) (by omega)
    have m9 : IntKind.u64.wrap (V - V / y1 * y1) = V - V / y1 * y1 := Bu.1 _ (by omega) (by omega)
    have hy0 : 0 ≤ y0 ∧ y0 < 4294967296 := by omega
    have hy1 : 2147483648 ≤ y1 ∧ y1 < 4294967296 := by omega
    have hu1 : 0 ≤ u1 ∧ u1 < 4294967296 := by omega
    have hu0 : 0 ≤ u0 ∧ u0 < 4294967296 := by omega
    have hYp : 0 < Y := by omega
    have lo1 : ∀ q r : Int, q * y1 + r = U → q * y0 ≤ 4294967296 * r + u1 → q ≤ D := fun q r h1 h2 => by rw [← eD]; exact dig_lo hYs h1 hYp h2
    have hi1 : ∀ q r : Int, q * y1 + r = U → 4294967296 ≤ q ∨ 4294967296 * r + u1 < q * y0 → D < q := fun q r h1 h2 => by rw [← eD]; exact dig_hi hYs h1 (by omega) hYp h2 n3 hu1.2
    have lo2 : ∀ q r : Int, q * y1 + r = V → q * y0 ≤ 4294967296 * r + u0 → q ≤ E := fun q r h1 h2 => by rw [← eE]; exact dig_lo hYs h1 hYp h2
    have hi2 : ∀ q r : Int, q * y1 + r = V → 4294967296 ≤ q ∨ 4294967296 * r + u0 < q * y0 → E < q := fun q r h1 h2 => by rw [← eE]; exact dig_hi hYs h1 (by omega) hYp h2 j4 hu0.2
    have big : ∀ q : Int, 0 ≤ q → q ≤ 4294967296 → 0 ≤ q * y0 ∧ q * y0 ≤ 18446744069414584320 := fun q h1 h2 => ⟨Int.mul_nonneg h1 hy0.1, by have := Int.mul_le_mul h2 (show y0 ≤ 4294967295 by omega) hy0.1 (by omega); omega⟩
    have nx : ∀ q r W : Int, q * y1 + r = W → (q - 1) * y1 + (r + y1) = W := fun q r W e => by rw [Int.sub_mul, Int.one_mul]; omega
    clear hs m3 n4 eL eU eX ey0 eu0 eV eZ eD eE r1 r2 hh hl i6 i7 k12 k13
    replace lo1 : Keep _ := lo1
    replace hi1 : Keep _ := hi1
    replace lo2 : Keep _ := lo2
    replace hi2 : Keep _ := hi2
    replace big : Keep _ := big
    replace nx : Keep _ := nx
    refine HL.hc k45 999 ?_; unfold M45
    (all_goals (try simp only [Sq,Sr,Sh,Si,Sl,Bu,Bb,Bd,Bc,Bw,Bn,Int.reduceAdd,Int.reduceSub,Int.reduceMul,Int.reduceTDiv,Int.reduceTMod,Int.reduceMod,Int.reduceDiv,Nat.reduceLT,Nat.reduceEqDiff,Sa,Sb,Sc,Sd,Se,Sf,Sg,Int.reduceLE,Int.reduceLT,Int.reduceToNat,Int.reduceNeg,Int.reduceEq,Nat.reduceLeDiff,Nat.reducePow,Int.reducePow,reduceIte,Nat.reduceSub,Nat.reduceAdd,Nat.reduceMul,putAt,ceq,List.replicate, *])); repeat' ((first | (with_reducible refine fun _ : True => ?_) | refine c_LeadingZeros64 _ hy.1 hy.2 hle ?_ | (with_reducible refine any_h ?_) | ((first | refine AllocQ_i ?_ | refine AllocO_i ?_); intro bk hb0 hbk; try simp only [set_none'] at hbk) | ((first | refine condS_i ?_ ?_ | refine pick_i ?_ ?_ | refine gS_it ?_ ?_ | refine gS_if ?_ ?_ | refine gP_it ?_ ?_ | refine gP_if ?_ ?_) <;> (intro hc; try simp only [Int.reduceLE,Int.reduceLT,Int.reduceEq,Sn] at hc)) | (with_reducible refine KP_i ?_ ?_; · (repeat' (first | exact Heap.Le.refl _ | (refine Le_fresh (by first | exact (by simp only [*]) | exact (by simp [set_none', *])) ?_) | (refine Heap.Le.trans ?_ (Grow.le (by assumption)))))) | (with_reducible refine And.intro ?_ ?_)) <;> (try simp only [Sq,Sr,Sh,Si,Sl,Bu,Bb,Bd,Bc,Bw,Bn,Int.reduceAdd,Int.reduceSub,Int.reduceMul,Int.reduceTDiv,Int.reduceTMod,Int.reduceMod,Int.reduceDiv,Nat.reduceLT,Nat.reduceEqDiff,Sa,Sb,Sc,Sd,Se,Sf,Sg,Int.reduceLE,Int.reduceLT,Int.reduceToNat,Int.reduceNeg,Int.reduceEq,Nat.reduceLeDiff,Nat.reducePow,Int.reducePow,reduceIte,Nat.reduceSub,Nat.reduceAdd,Nat.reduceMul,putAt,ceq,List.replicate, *]))
    refine cut_loop (S := Value) 17 (fun s => [(15, .int .u64 D), (16, s)]) (fun _ => H) (fun _ => True) 150 600 ?_ ?_ (by decide)
    · refine loop_g 17 (fun s : Int × Int => [(15, .int .u64 s.1), (16, .int .u64 s.2)]) (fun _ => H) (fun s => s.1 * y1 + s.2 = U ∧ 0 ≤ s.2 ∧ s.2 < 4294967296 ∧ D ≤ s.1 ∧ s.1 ≤ 4294967297) (fun s => s.1.toNat) (U / y1, U - U / y1 * y1) ⟨hq0, by simp only; omega, by simp only; omega, i3, i2⟩ (Heap.Le.refl _) rfl ?_
      rintro ⟨q, r⟩ g ⟨c1, c2, c3, c4, c5⟩
      simp only at c1 c2 c3 c4 c5
      have b2 : IntKind.u64.wrap (4294967296 * r) = 4294967296 * r := Bu.1 _ (by omega) (by omega)
      have b3 : IntKind.u64.wrap (4294967296 * r + u1) = 4294967296 * r + u1 := Bu.1 _ (by omega) (by omega)
      have b4 : 1 ≤ q → IntKind.u64.wrap (q - 1) = q - 1 := fun _ => Bu.1 _ (by omega) (by omega)
      have b5 : IntKind.u64.wrap (r + y1) = r + y1 := Bu.1 _ (by omega) (by omega)
      have go : Keep (4294967296 ≤ q ∨ 4294967296 * r + u1 < q * y0 → D < q) := hi1 q r c1
      have fin : q * y1 + r = U → 4294967296 ≤ r + y1 → 1 ≤ q → q - 1 ≤ D := fun e h1 h2 => by
        have bg := big (q - 1) (by omega) (by omega)
        exact lo1 (q - 1) (r + y1) (nx q r U e) (by omega)
      have nx : (q - 1) * y1 + (r + y1) = U := nx q r U c1
      by_cases hq : 4294967296 ≤ q
      · have d1 : D < q := go (.inl hq)
        have b4 := b4 (by omega)
        have fin := fin c1
        clear c1 go
        by_cases hr : 4294967296 ≤ r + y1
        · have d2 : q - 1 = D := by have := fin hr (by omega); omega
          clear nx fin
          (all_goals (try simp only [Sq,Sr,Sh,Si,Sl,Bu,Bb,Bd,Bc,Bw,Bn,Int.reduceAdd,Int.reduceSub,Int.reduceMul,Int.reduceTDiv,Int.reduceTMod,Int.reduceMod,Int.reduceDiv,Nat.reduceLT,Nat.reduceEqDiff,Sa,Sb,Sc,Sd,Se,Sf,Sg,Int.reduceLE,Int.reduceLT,Int.reduceToNat,Int.reduceNeg,Int.reduceEq,Nat.reduceLeDiff,Nat.reducePow,Int.reducePow,reduceIte,Nat.reduceSub,Nat.reduceAdd,Nat.reduceMul,putAt,ceq,List.replicate, *])); repeat' ((first | (with_reducible refine fun _ : True => ?_) | (with_reducible refine any_h ?_) | ((first | refine AllocQ_i ?_ | refine AllocO_i ?_); intro bk hb0 hbk; try simp only [set_none'] at hbk) | ((first | refine condS_i ?_ ?_ | refine pick_i ?_ ?_ | refine gS_it ?_ ?_ | refine gS_if ?_ ?_ | refine gP_it ?_ ?_ | refine gP_if ?_ ?_) <;> (intro hc; try simp only [Int.reduceLE,Int.reduceLT,Int.reduceEq,Sn] at hc)) | (with_reducible refine KP_i ?_ ?_; · (repeat' (first | exact Heap.Le.refl _ | (refine Le_fresh (by first | exact (by simp only [*]) | exact (by simp [set_none', *])) ?_) | (refine Heap.Le.trans ?_ (Grow.le (by assumption)))))) | (with_reducible refine And.intro ?_ ?_)) <;> (try simp only [Sq,Sr,Sh,Si,Sl,Bu,Bb,Bd,Bc,Bw,Bn,Int.reduceAdd,Int.reduceSub,Int.reduceMul,Int.reduceTDiv,Int.reduceTMod,Int.reduceMod,Int.reduceDiv,Nat.reduceLT,Nat.reduceEqDiff,Sa,Sb,Sc,Sd,Se,Sf,Sg,Int.reduceLE,Int.reduceLT,Int.reduceToNat,Int.reduceNeg,Int.reduceEq,Nat.reduceLeDiff,Nat.reducePow,Int.reducePow,reduceIte,Nat.reduceSub,Nat.reduceAdd,Nat.reduceMul,putAt,ceq,List.replicate, *]))
          exact ⟨_, rfl, rfl, rfl, trivial⟩
        · clear fin
          (all_goals (try simp only [Sq,Sr,Sh,Si,Sl,Bu,Bb,Bd,Bc,Bw,Bn,Int.reduceAdd,Int.reduceSub,Int.reduceMul,Int.reduceTDiv,Int.reduceTMod,Int.reduceMod,Int.reduceDiv,Nat.reduceLT,Nat.reduceEqDiff,Sa,Sb,Sc,Sd,Se,Sf,Sg,Int.reduceLE,Int.reduceLT,Int.reduceToNat,Int.reduceNeg,Int.reduceEq,Nat.reduceLeDiff,Nat.reducePow,Int.reducePow,reduceIte,Nat.reduceSub,Nat.reduceAdd,Nat.reduceMul,putAt,ceq,List.replicate, *])); repeat' ((first | (with_reducible refine fun _ : True => ?_) | (with_reducible refine any_h ?_) | ((first | refine AllocQ_i ?_ | refine AllocO_i ?_); intro bk hb0 hbk; try simp only [set_none'] at hbk) | ((first | refine condS_i ?_ ?_ | refine pick_i ?_ ?_ | refine gS_it ?_ ?_ | refine gS_if ?_ ?_ | refine gP_it ?_ ?_ | refine gP_if ?_ ?_) <;> (intro hc; try simp only [Int.reduceLE,Int.reduceLT,Int.reduceEq,Sn] at hc)) | (with_reducible refine KP_i ?_ ?_; · (repeat' (first | exact Heap.Le.refl _ | (refine Le_fresh (by first | exact (by simp only [*]) | exact (by simp [set_none', *])) ?_) | (refine Heap.Le.trans ?_ (Grow.le (by assumption)))))) | (with_reducible refine And.intro ?_ ?_)) <;> (try simp only [Sq,Sr,Sh,Si,Sl,Bu,Bb,Bd,Bc,Bw,Bn,Int.reduceAdd,Int.reduceSub,Int.reduceMul,Int.reduceTDiv,Int.reduceTMod,Int.reduceMod,Int.reduceDiv,Nat.reduceLT,Nat.reduceEqDiff,Sa,Sb,Sc,Sd,Se,Sf,Sg,Int.reduceLE,Int.reduceLT,Int.reduceToNat,Int.reduceNeg,Int.reduceEq,Nat.reduceLeDiff,Nat.reducePow,Int.reducePow,reduceIte,Nat.reduceSub,Nat.reduceAdd,Nat.reduceMul,putAt,ceq,List.replicate, *]))
          exact Round_mk (q - 1, r + y1) ⟨nx, by simp only; omega, by simp only; omega, by simp only; omega, by simp only; omega⟩ (by simp only; omega) (Heap.Le.refl _) rfl rfl
      · have b1 := big q (by omega) (by omega)
        have b0 : IntKind.u64.wrap (q * y0) = q * y0 := Bu.1 _ (by omega) (by omega)
        by_cases hc : 4294967296 * r + u1 < q * y0
        · have d1 : D < q := go (.inr hc)
          have b4 := b4 (by omega)
          have fin := fin c1
          clear c1 go
          by_cases hr : 4294967296 ≤ r + y1
          · have d2 : q - 1 = D := by have := fin hr (by omega); omega
            clear nx fin
            (all_goals (try simp only [Sq,Sr,Sh,Si,Sl,Bu,Bb,Bd,Bc,Bw,Bn,Int.reduceAdd,Int.reduceSub,Int.reduceMul,Int.reduceTDiv,Int.reduceTMod,Int.reduceMod,Int.reduceDiv,Nat.reduceLT,Nat.reduceEqDiff,Sa,Sb,Sc,Sd,Se,Sf,Sg,Int.reduceLE,Int.reduceLT,Int.reduceToNat,Int.reduceNeg,Int.reduceEq,Nat.reduceLeDiff,Nat.reducePow,Int.reducePow,reduceIte,Nat.reduceSub,Nat.reduceAdd,Nat.reduceMul,putAt,ceq,List.replicate, *])); repeat' ((first | (with_reducible refine fun _ : True => ?_) | (with_reducible refine any_h ?_) | ((first | refine AllocQ_i ?_ | refine AllocO_i ?_); intro bk hb0 hbk; try simp only [set_none'] at hbk) | ((first | refine condS_i ?_ ?_ | refine pick_i ?_ ?_ | refine gS_it ?_ ?_ | refine gS_if ?_ ?_ | refine gP_it ?_ ?_ | refine gP_if ?_ ?_) <;> (intro hc; try simp only [Int.reduceLE,Int.reduceLT,Int.reduceEq,Sn] at hc)) | (with_reducible refine KP_i ?_ ?_; · (repeat' (first | exact Heap.Le.refl _ | (refine Le_fresh (by first | exact (by simp only [*]) | exact (by simp [set_none', *])) ?_) | (refine Heap.Le.trans ?_ (Grow.le (by assumption)))))) | (with_reducible refine And.intro ?_ ?_)) <;> (try simp only [Sq,Sr,Sh,Si,Sl,Bu,Bb,Bd,Bc,Bw,Bn,Int.reduceAdd,Int.reduceSub,Int.reduceMul,Int.reduceTDiv,Int.reduceTMod,Int.reduceMod,Int.reduceDiv,Nat.reduceLT,Nat.reduceEqDiff,Sa,Sb,Sc,Sd,Se,Sf,Sg,Int.reduceLE,Int.reduceLT,Int.reduceToNat,Int.reduceNeg,Int.reduceEq,Nat.reduceLeDiff,Nat.reducePow,Int.reducePow,reduceIte,Nat.reduceSub,Nat.reduceAdd,Nat.reduceMul,putAt,ceq,List.replicate, *]))
            exact ⟨_, rfl, rfl, rfl, trivial⟩
          · clear fin
            (all_goals (try simp only [Sq,Sr,Sh,Si,Sl,Bu,Bb,Bd,Bc,Bw,Bn,Int.reduceAdd,Int.reduceSub,Int.reduceMul,Int.reduceTDiv,Int.reduceTMod,Int.reduceMod,Int.reduceDiv,Nat.reduceLT,Nat.reduceEqDiff,Sa,Sb,Sc,Sd,Se,Sf,Sg,Int.reduceLE,Int.reduceLT,Int.reduceToNat,Int.reduceNeg,Int.reduceEq,Nat.reduceLeDiff,Nat.reducePow,Int.reducePow,reduceIte,Nat.reduceSub,Nat.reduceAdd,Nat.reduceMul,putAt,ceq,List.replicate, *])); repeat' ((first | (with_reducible refine fun _ : True => ?_) | (with_reducible refine any_h ?_) | ((first | refine AllocQ_i ?_ | refine AllocO_i ?_); intro bk hb0 hbk; try simp only [set_none'] at hbk) | ((first | refine condS_i ?_ ?_ | refine pick_i ?_ ?_ | refine gS_it ?_ ?_ | refine gS_if ?_ ?_ | refine gP_it ?_ ?_ | refine gP_if ?_ ?_) <;> (intro hc; try simp only [Int.reduceLE,Int.reduceLT,Int.reduceEq,Sn] at hc)) | (with_reducible refine KP_i ?_ ?_; · (repeat' (first | exact Heap.Le.refl _ | (refine Le_fresh (by first | exact (by simp only [*]) | exact (by simp [set_none', *])) ?_) | (refine Heap.Le.trans ?_ (Grow.le (by assumption)))))) | (with_reducible refine And.intro ?_ ?_)) <;> (try simp only [Sq,Sr,Sh,Si,Sl,Bu,Bb,Bd,Bc,Bw,Bn,Int.reduceAdd,Int.reduceSub,Int.reduceMul,Int.reduceTDiv,Int.reduceTMod,Int.reduceMod,Int.reduceDiv,Nat.reduceLT,Nat.reduceEqDiff,Sa,Sb,Sc,Sd,Se,Sf,Sg,Int.reduceLE,Int.reduceLT,Int.reduceToNat,Int.reduceNeg,Int.reduceEq,Nat.reduceLeDiff,Nat.reducePow,Int.reducePow,reduceIte,Nat.reduceSub,Nat.reduceAdd,Nat.reduceMul,putAt,ceq,List.replicate, *]))
            exact Round_mk (q - 1, r + y1) ⟨nx, by simp only; omega, by simp only; omega, by simp only; omega, by simp only; omega⟩ (by simp only; omega) (Heap.Le.refl _) rfl rfl
        · have d2 : q = D := by have := lo1 q r c1 (by omega); omega
          clear c1 go fin nx b4
          subst d2
          (all_goals (try simp only [Sq,Sr,Sh,Si,Sl,Bu,Bb,Bd,Bc,Bw,Bn,Int.reduceAdd,Int.reduceSub,Int.reduceMul,Int.reduceTDiv,Int.reduceTMod,Int.reduceMod,Int.reduceDiv,Nat.reduceLT,Nat.reduceEqDiff,Sa,Sb,Sc,Sd,Se,Sf,Sg,Int.reduceLE,Int.reduceLT,Int.reduceToNat,Int.reduceNeg,Int.reduceEq,Nat.reduceLeDiff,Nat.reducePow,Int.reducePow,reduceIte,Nat.reduceSub,Nat.reduceAdd,Nat.reduceMul,putAt,ceq,List.replicate, *])); repeat' ((first | (with_reducible refine fun _ : True => ?_) | (with_reducible refine any_h ?_) | ((first | refine AllocQ_i ?_ | refine AllocO_i ?_); intro bk hb0 hbk; try simp only [set_none'] at hbk) | ((first | refine condS_i ?_ ?_ | refine pick_i ?_ ?_ | refine gS_it ?_ ?_ | refine gS_if ?_ ?_ | refine gP_it ?_ ?_ | refine gP_if ?_ ?_) <;> (intro hc; try simp only [Int.reduceLE,Int.reduceLT,Int.reduceEq,Sn] at hc)) | (with_reducible refine KP_i ?_ ?_; · (repeat' (first | exact Heap.Le.refl _ | (refine Le_fresh (by first | exact (by simp only [*]) | exact (by simp [set_none', *])) ?_) | (refine Heap.Le.trans ?_ (Grow.le (by assumption)))))) | (with_reducible refine And.intro ?_ ?_)) <;> (try simp only [Sq,Sr,Sh,Si,Sl,Bu,Bb,Bd,Bc,Bw,Bn,Int.reduceAdd,Int.reduceSub,Int.reduceMul,Int.reduceTDiv,Int.reduceTMod,Int.reduceMod,Int.reduceDiv,Nat.reduceLT,Nat.reduceEqDiff,Sa,Sb,Sc,Sd,Se,Sf,Sg,Int.reduceLE,Int.reduceLT,Int.reduceToNat,Int.reduceNeg,Int.reduceEq,Nat.reduceLeDiff,Nat.reducePow,Int.reducePow,reduceIte,Nat.reduceSub,Nat.reduceAdd,Nat.reduceMul,putAt,ceq,List.replicate, *]))
          exact ⟨_, rfl, rfl, rfl, trivial⟩
    · rintro s f -
      clear lo1 hi1
      (all_goals (try simp only [Sq,Sr,Sh,Si,Sl,Bu,Bb,Bd,Bc,Bw,Bn,Int.reduceAdd,Int.reduceSub,Int.reduceMul,Int.reduceTDiv,Int.reduceTMod,Int.reduceMod,Int.reduceDiv,Nat.reduceLT,Nat.reduceEqDiff,Sa,Sb,Sc,Sd,Se,Sf,Sg,Int.reduceLE,Int.reduceLT,Int.reduceToNat,Int.reduceNeg,Int.reduceEq,Nat.reduceLeDiff,Nat.reducePow,Int.reducePow,reduceIte,Nat.reduceSub,Nat.reduceAdd,Nat.reduceMul,putAt,ceq,List.replicate, *])); repeat' ((first | (with_reducible refine fun _ : True => ?_) | (with_reducible refine any_h ?_) | ((first | refine AllocQ_i ?_ | refine AllocO_i ?_); intro bk hb0 hbk; try simp only [set_none'] at hbk) | ((first | refine condS_i ?_ ?_ | refine pick_i ?_ ?_ | refine gS_it ?_ ?_ | refine gS_if ?_ ?_ | refine gP_it ?_ ?_ | refine gP_if ?_ ?_) <;> (intro hc; try simp only [Int.reduceLE,Int.reduceLT,Int.reduceEq,Sn] at hc)) | (with_reducible refine KP_i ?_ ?_; · (repeat' (first | exact Heap.Le.refl _ | (refine Le_fresh (by first | exact (by simp only [*]) | exact (by simp [set_none', *])) ?_) | (refine Heap.Le.trans ?_ (Grow.le (by assumption)))))) | (with_reducible refine And.intro ?_ ?_)) <;> (try simp only [Sq,Sr,Sh,Si,Sl,Bu,Bb,Bd,Bc,Bw,Bn,Int.reduceAdd,Int.reduceSub,Int.reduceMul,Int.reduceTDiv,Int.reduceTMod,Int.reduceMod,Int.reduceDiv,Nat.reduceLT,Nat.reduceEqDiff,Sa,Sb,Sc,Sd,Se,Sf,Sg,Int.reduceLE,Int.reduceLT,Int.reduceToNat,Int.reduceNeg,Int.reduceEq,Nat.reduceLeDiff,Nat.reducePow,Int.reducePow,reduceIte,Nat.reduceSub,Nat.reduceAdd,Nat.reduceMul,putAt,ceq,List.replicate, *]))
      refine cut_loop (S := Value) 19 (fun s => [(18, .int .u64 E), (16, s)]) (fun _ => H) (fun _ => True) 150 300 ?_ ?_ (by decide)
      · refine loop_g 19 (fun s : Int × Int => [(18, .int .u64 s.1), (16, .int .u64 s.2)]) (fun _ => H) (fun s => s.1 * y1 + s.2 = V ∧ 0 ≤ s.2 ∧ s.2 < 4294967296 ∧ E ≤ s.1 ∧ s.1 ≤ 4294967297) (fun s => s.1.toNat) (V / y1, V - V / y1 * y1) ⟨hq2, by simp only; omega, by simp only; omega, k9, k8⟩ (Heap.Le.refl _) rfl ?_
        rintro ⟨q, r⟩ g ⟨c1, c2, c3, c4, c5⟩
        simp only at c1 c2 c3 c4 c5
        have b2 : IntKind.u64.wrap (4294967296 * r) = 4294967296 * r := Bu.1 _ (by omega) (by omega)
        have b3 : IntKind.u64.wrap (4294967296 * r + u0) = 4294967296 * r + u0 := Bu.1 _ (by omega) (by omega)
        have b4 : 1 ≤ q → IntKind.u64.wrap (q - 1) = q - 1 := fun _ => Bu.1 _ (by omega) (by omega)
        have b5 : IntKind.u64.wrap (r + y1) = r + y1 := Bu.1 _ (by omega) (by omega)
        have go : Keep (4294967296 ≤ q ∨ 4294967296 * r + u0 < q * y0 → E < q) := hi2 q r c1
        have fin : q * y1 + r = V → 4294967296 ≤ r + y1 → 1 ≤ q → q - 1 ≤ E := fun e h1 h2 => by
          have bg := big (q - 1) (by omega) (by omega)
          exact lo2 (q - 1) (r + y1) (nx q r V e) (by omega)
        have nx : (q - 1) * y1 + (r + y1) = V := nx q r V c1
        by_cases hq : 4294967296 ≤ q
        · have d1 : E < q := go (.inl hq)
          have b4 := b4 (by omega)
          have fin := fin c1
          clear c1 go
          by_cases hr : 4294967296 ≤ r + y1
          · have d2 : q - 1 = E := by have := fin hr (by omega); omega
            clear nx fin
            (all_goals (try simp only [Sq,Sr,Sh,Si,Sl,Bu,Bb,Bd,Bc,Bw,Bn,Int.reduceAdd,Int.reduceSub,Int.reduceMul,Int.reduceTDiv,Int.reduceTMod,Int.reduceMod,Int.reduceDiv,Nat.reduceLT,Nat.reduceEqDiff,Sa,Sb,Sc,Sd,Se,Sf,Sg,Int.reduceLE,Int.reduceLT,Int.reduceToNat,Int.reduceNeg,Int.reduceEq,Nat.reduceLeDiff,Nat.reducePow,Int.reducePow,reduceIte,Nat.reduceSub,Nat.reduceAdd,Nat.reduceMul,putAt,ceq,List.replicate, *])); repeat' ((first | (with_reducible refine fun _ : True => ?_) | (with_reducible refine any_h ?_) | ((first | refine AllocQ_i ?_ | refine AllocO_i ?_); intro bk hb0 hbk; try simp only [set_none'] at hbk) | ((first | refine condS_i ?_ ?_ | refine pick_i ?_ ?_ | refine gS_it ?_ ?_ | refine gS_if ?_ ?_ | refine gP_it ?_ ?_ | refine gP_if ?_ ?_) <;> (intro hc; try simp only [Int.reduceLE,Int.reduceLT,Int.reduceEq,Sn] at hc)) | (with_reducible refine KP_i ?_ ?_; · (repeat' (first | exact Heap.Le.refl _ | (refine Le_fresh (by first | exact (by simp only [*]) | exact (by simp [set_none', *])) ?_) | (refine Heap.Le.trans ?_ (Grow.le (by assumption)))))) | (with_reducible refine And.intro ?_ ?_)) <;> (try simp only [Sq,Sr,Sh,Si,Sl,Bu,Bb,Bd,Bc,Bw,Bn,Int.reduceAdd,Int.reduceSub,Int.reduceMul,Int.reduceTDiv,Int.reduceTMod,Int.reduceMod,Int.reduceDiv,Nat.reduceLT,Nat.reduceEqDiff,Sa,Sb,Sc,Sd,Se,Sf,Sg,Int.reduceLE,Int.reduceLT,Int.reduceToNat,Int.reduceNeg,Int.reduceEq,Nat.reduceLeDiff,Nat.reducePow,Int.reducePow,reduceIte,Nat.reduceSub,Nat.reduceAdd,Nat.reduceMul,putAt,ceq,List.replicate, *]))
            exact ⟨_, rfl, rfl, rfl, trivial⟩
          · clear fin
            (all_goals (try simp only [Sq,Sr,Sh,Si,Sl,Bu,Bb,Bd,Bc,Bw,Bn,Int.reduceAdd,Int.reduceSub,Int.reduceMul,Int.reduceTDiv,Int.reduceTMod,Int.reduceMod,Int.reduceDiv,Nat.reduceLT,Nat.reduceEqDiff,Sa,Sb,Sc,Sd,Se,Sf,Sg,Int.reduceLE,Int.reduceLT,Int.reduceToNat,Int.reduceNeg,Int.reduceEq,Nat.reduceLeDiff,Nat.reducePow,Int.reducePow,reduceIte,Nat.reduceSub,Nat.reduceAdd,Nat.reduceMul,putAt,ceq,List.replicate, *])); repeat' ((first | (with_reducible refine fun _ : True => ?_) | (with_reducible refine any_h ?_) | ((first | refine AllocQ_i ?_ | refine AllocO_i ?_); intro bk hb0 hbk; try simp only [set_none'] at hbk) | ((first | refine condS_i ?_ ?_ | refine pick_i ?_ ?_ | refine gS_it ?_ ?_ | refine gS_if ?_ ?_ | refine gP_it ?_ ?_ | refine gP_if ?_ ?_) <;> (intro hc; try simp only [Int.reduceLE,Int.reduceLT,Int.reduceEq,Sn] at hc)) | (with_reducible refine KP_i ?_ ?_; · (repeat' (first | exact Heap.Le.refl _ | (refine Le_fresh (by first | exact (by simp only [*]) | exact (by simp [set_none', *])) ?_) | (refine Heap.Le.trans ?_ (Grow.le (by assumption)))))) | (with_reducible refine And.intro ?_ ?_)) <;> (try simp only [Sq,Sr,Sh,Si,Sl,Bu,Bb,Bd,Bc,Bw,Bn,Int.reduceAdd,Int.reduceSub,Int.reduceMul,Int.reduceTDiv,Int.reduceTMod,Int.reduceMod,Int.reduceDiv,Nat.reduceLT,Nat.reduceEqDiff,Sa,Sb,Sc,Sd,Se,Sf,Sg,Int.reduceLE,Int.reduceLT,Int.reduceToNat,Int.reduceNeg,Int.reduceEq,Nat.reduceLeDiff,Nat.reducePow,Int.reducePow,reduceIte,Nat.reduceSub,Nat.reduceAdd,Nat.reduceMul,putAt,ceq,List.replicate, *]))
            exact Round_mk (q - 1, r + y1) ⟨nx, by simp only; omega, by simp only; omega, by simp only; omega, by simp only; omega⟩ (by simp only; omega) (Heap.Le.refl _) rfl rfl
        · have b1 := big q (by omega) (by omega)
          have b0 : IntKind.u64.wrap (q * y0) = q * y0 := Bu.1 _ (by omega) (by omega)
          by_cases hc : 4294967296 * r + u0 < q * y0
          · have d1 : E < q := go (.inr hc)
            have b4 := b4 (by omega)
            have fin := fin c1
            clear c1 go
            by_cases hr : 4294967296 ≤ r + y1
            · have d2 : q - 1 = E := by have := fin hr (by omega); omega
              clear nx fin
              (all_goals (try simp only [Sq,Sr,Sh,Si,Sl,Bu,Bb,Bd,Bc,Bw,Bn,Int.reduceAdd,Int.reduceSub,Int.reduceMul,Int.reduceTDiv,Int.reduceTMod,Int.reduceMod,Int.reduceDiv,Nat.reduceLT,Nat.reduceEqDiff,Sa,Sb,Sc,Sd,Se,Sf,Sg,Int.reduceLE,Int.reduceLT,Int.reduceToNat,Int.reduceNeg,Int.reduceEq,Nat.reduceLeDiff,Nat.reducePow,Int.reducePow,reduceIte,Nat.reduceSub,Nat.reduceAdd,Nat.reduceMul,putAt,ceq,List.replicate, *])); repeat' ((first | (with_reducible refine fun _ : True => ?_) | (with_reducible refine any_h ?_) | ((first | refine AllocQ_i ?_ | refine AllocO_i ?_); intro bk hb0 hbk; try simp only [set_none'] at hbk) | ((first | refine condS_i ?_ ?_ | refine pick_i ?_ ?_ | refine gS_it ?_ ?_ | refine gS_if ?_ ?_ | refine gP_it ?_ ?_ | refine gP_if ?_ ?_) <;> (intro hc; try simp only [Int.reduceLE,Int.reduceLT,Int.reduceEq,Sn] at hc)) | (with_reducible refine KP_i ?_ ?_; · (repeat' (first | exact Heap.Le.refl _ | (refine Le_fresh (by first | exact (by simp only [*]) | exact (by simp [set_none', *])) ?_) | (refine Heap.Le.trans ?_ (Grow.le (by assumption)))))) | (with_reducible refine And.intro ?_ ?_)) <;> (try simp only [Sq,Sr,Sh,Si,Sl,Bu,Bb,Bd,Bc,Bw,Bn,Int.reduceAdd,Int.reduceSub,Int.reduceMul,Int.reduceTDiv,Int.reduceTMod,Int.reduceMod,Int.reduceDiv,Nat.reduceLT,Nat.reduceEqDiff,Sa,Sb,Sc,Sd,Se,Sf,Sg,Int.reduceLE,Int.reduceLT,Int.reduceToNat,Int.reduceNeg,Int.reduceEq,Nat.reduceLeDiff,Nat.reducePow,Int.reducePow,reduceIte,Nat.reduceSub,Nat.reduceAdd,Nat.reduceMul,putAt,ceq,List.replicate, *]))
              exact ⟨_, rfl, rfl, rfl, trivial⟩
            · clear fin
              (all_goals (try simp only [Sq,Sr,Sh,Si,Sl,Bu,Bb,Bd,Bc,Bw,Bn,Int.reduceAdd,Int.reduceSub,Int.reduceMul,Int.reduceTDiv,Int.reduceTMod,Int.reduceMod,Int.reduceDiv,Nat.reduceLT,Nat.reduceEqDiff,Sa,Sb,Sc,Sd,Se,Sf,Sg,Int.reduceLE,Int.reduceLT,Int.reduceToNat,Int.reduceNeg,Int.reduceEq,Nat.reduceLeDiff,Nat.reducePow,Int.reducePow,reduceIte,Nat.reduceSub,Nat.reduceAdd,Nat.reduceMul,putAt,ceq,List.replicate, *])); repeat' ((first | (with_reducible refine fun _ : True => ?_) | (with_reducible refine any_h ?_) | ((first | refine AllocQ_i ?_ | refine AllocO_i ?_); intro bk hb0 hbk; try simp only [set_none'] at hbk) | ((first | refine condS_i ?_ ?_ | refine pick_i ?_ ?_ | refine gS_it ?_ ?_ | refine gS_if ?_ ?_ | refine gP_it ?_ ?_ | refine gP_if ?_ ?_) <;> (intro hc; try simp only [Int.reduceLE,Int.reduceLT,Int.reduceEq,Sn] at hc)) | (with_reducible refine KP_i ?_ ?_; · (repeat' (first | exact Heap.Le.refl _ | (refine Le_fresh (by first | exact (by simp only [*]) | exact (by simp [set_none', *])) ?_) | (refine Heap.Le.trans ?_ (Grow.le (by assumption)))))) | (with_reducible refine And.intro ?_ ?_)) <;> (try simp only [Sq,Sr,Sh,Si,Sl,Bu,Bb,Bd,Bc,Bw,Bn,Int.reduceAdd,Int.reduceSub,Int.reduceMul,Int.reduceTDiv,Int.reduceTMod,Int.reduceMod,Int.reduceDiv,Nat.reduceLT,Nat.reduceEqDiff,Sa,Sb,Sc,Sd,Se,Sf,Sg,Int.reduceLE,Int.reduceLT,Int.reduceToNat,Int.reduceNeg,Int.reduceEq,Nat.reduceLeDiff,Nat.reducePow,Int.reducePow,reduceIte,Nat.reduceSub,Nat.reduceAdd,Nat.reduceMul,putAt,ceq,List.replicate, *]))
              exact Round_mk (q - 1, r + y1) ⟨nx, by simp only; omega, by simp only; omega, by simp only; omega, by simp only; omega⟩ (by simp only; omega) (Heap.Le.refl _) rfl rfl
          · have d2 : q = E := by have := lo2 q r c1 (by omega); omega
            clear c1 go fin nx b4
            subst d2
            (all_goals (try simp only [Sq,Sr,Sh,Si,Sl,Bu,Bb,Bd,Bc,Bw,Bn,Int.reduceAdd,Int.reduceSub,Int.reduceMul,Int.reduceTDiv,Int.reduceTMod,Int.reduceMod,Int.reduceDiv,Nat.reduceLT,Nat.reduceEqDiff,Sa,Sb,Sc,Sd,Se,Sf,Sg,Int.reduceLE,Int.reduceLT,Int.reduceToNat,Int.reduceNeg,Int.reduceEq,Nat.reduceLeDiff,Nat.reducePow,Int.reducePow,reduceIte,Nat.reduceSub,Nat.reduceAdd,Nat.reduceMul,putAt,ceq,List.replicate, *])); repeat' ((first | (with_reducible refine fun _ : True => ?_) | (with_reducible refine any_h ?_) | ((first | refine AllocQ_i ?_ | refine AllocO_i ?_); intro bk hb0 hbk; try simp only [set_none'] at hbk) | ((first | refine condS_i ?_ ?_ | refine pick_i ?_ ?_ | refine gS_it ?_ ?_ | refine gS_if ?_ ?_ | refine gP_it ?_ ?_ | refine gP_if ?_ ?_) <;> (intro hc; try simp only [Int.reduceLE,Int.reduceLT,Int.reduceEq,Sn] at hc)) | (with_reducible refine KP_i ?_ ?_; · (repeat' (first | exact Heap.Le.refl _ | (refine Le_fresh (by first | exact (by simp only [*]) | exact (by simp [set_none', *])) ?_) | (refine Heap.Le.trans ?_ (Grow.le (by assumption)))))) | (with_reducible refine And.intro ?_ ?_)) <;> (try simp only [Sq,Sr,Sh,Si,Sl,Bu,Bb,Bd,Bc,Bw,Bn,Int.reduceAdd,Int.reduceSub,Int.reduceMul,Int.reduceTDiv,Int.reduceTMod,Int.reduceMod,Int.reduceDiv,Nat.reduceLT,Nat.reduceEqDiff,Sa,Sb,Sc,Sd,Se,Sf,Sg,Int.reduceLE,Int.reduceLT,Int.reduceToNat,Int.reduceNeg,Int.reduceEq,Nat.reduceLeDiff,Nat.reducePow,Int.reducePow,reduceIte,Nat.reduceSub,Nat.reduceAdd,Nat.reduceMul,putAt,ceq,List.replicate, *]))
            exact ⟨_, rfl, rfl, rfl, trivial⟩
      · rintro s f -
        clear lo2 hi2 big nx
        (all_goals (try simp only [Sq,Sr,Sh,Si,Sl,Bu,Bb,Bd,Bc,Bw,Bn,Int.reduceAdd,Int.reduceSub,Int.reduceMul,Int.reduceTDiv,Int.reduceTMod,Int.reduceMod,Int.reduceDiv,Nat.reduceLT,Nat.reduceEqDiff,Sa,Sb,Sc,Sd,Se,Sf,Sg,Int.reduceLE,Int.reduceLT,Int.reduceToNat,Int.reduceNeg,Int.reduceEq,Nat.reduceLeDiff,Nat.reducePow,Int.reducePow,reduceIte,Nat.reduceSub,Nat.reduceAdd,Nat.reduceMul,putAt,ceq,List.replicate, *])); repeat' ((first | (with_reducible refine fun _ : True => ?_) | (with_reducible refine any_h ?_) | ((first | refine AllocQ_i ?_ | refine AllocO_i ?_); intro bk hb0 hbk; try simp only [set_none'] at hbk) | ((first | refine condS_i ?_ ?_ | refine pick_i ?_ ?_ | refine gS_it ?_ ?_ | refine gS_if ?_ ?_ | refine gP_it ?_ ?_ | refine gP_if ?_ ?_) <;> (intro hc; try simp only [Int.reduceLE,Int.reduceLT,Int.reduceEq,Sn] at hc)) | (with_reducible refine KP_i ?_ ?_; · (repeat' (first | exact Heap.Le.refl _ | (refine Le_fresh (by first | exact (by simp only [*]) | exact (by simp [set_none', *])) ?_) | (refine Heap.Le.trans ?_ (Grow.le (by assumption)))))) | (with_reducible refine And.intro ?_ ?_)) <;> (try simp only [Sq,Sr,Sh,Si,Sl,Bu,Bb,Bd,Bc,Bw,Bn,Int.reduceAdd,Int.reduceSub,Int.reduceMul,Int.reduceTDiv,Int.reduceTMod,Int.reduceMod,Int.reduceDiv,Nat.reduceLT,Nat.reduceEqDiff,Sa,Sb,Sc,Sd,Se,Sf,Sg,Int.reduceLE,Int.reduceLT,Int.reduceToNat,Int.reduceNeg,Int.reduceEq,Nat.reduceLeDiff,Nat.reducePow,Int.reducePow,reduceIte,Nat.reduceSub,Nat.reduceAdd,Nat.reduceMul,putAt,ceq,List.replicate, *]))
        exact Fin_mk (Heap.Le.refl _) h
end Go.Proofs.Ytokjajfojjibcaa
