/- An image's memory is written over: the walk (layer 8). -/
import Derived.Test.YtdaipgnhconfnaaIni
set_option linter.unusedSimpArgs false
set_option linter.unusedVariables false
set_option maxRecDepth 100000
set_option maxHeartbeats 4000000
namespace Go.Proofs.Ytdaipgnhconfnaa
open Go Go.HL Go.RowKit Pb
variable {w0 : World} {H : Heap} {K : Value → Heap → Prop}

/- paintboxlaw08 spoil -/
def M47 : MC :=
  .seq (.reg [⟨(some 1), .box 24 (.tmp 0), none⟩])
 (.seq (.reg [⟨(some 4), .fa 1 (.tmp 1), none⟩,
 ⟨(some 5), .ld1 (.tmp 4), none⟩,
 ⟨(some 6), .len (.tmp 5), none⟩,
 ⟨(some 7), .mv (.const (.int .i64 0)), none⟩])
 (.block 0 (.loop (.seq (.reg [⟨(some 8), .bin .lss (.tmp 7) (.tmp 6), none⟩])
 (.seq (.cond (.tmp 8)
 (.skip)
 (.exit 0))
 (.seq (.block 1 (.seq (.reg [⟨(some 9), .mv (.tmp 7), none⟩,
 ⟨(some 2), .mv (.tmp 9), none⟩])
 (.seq (.seq (.reg [⟨(some 10), .fa 1 (.tmp 1), none⟩,
 ⟨(some 11), .ld1 (.tmp 10), none⟩,
 ⟨(some 12), .mv (.tmp 2), none⟩,
 ⟨(some 13), .is 3 (.tmp 11) (.tmp 12), none⟩,
 ⟨(some 14), .fa 2 (.tmp 13), none⟩,
 ⟨(some 15), .ld1 (.tmp 14), none⟩,
 ⟨(some 16), .len (.tmp 15), none⟩,
 ⟨(some 17), .mv (.const (.int .i64 0)), none⟩])
 (.block 2 (.loop (.seq (.reg [⟨(some 18), .bin .lss (.tmp 17) (.tmp 16), none⟩])
 (.seq (.cond (.tmp 18)
 (.skip)
 (.exit 2))
 (.seq (.block 3 (.seq (.reg [⟨(some 19), .mv (.tmp 17), none⟩,
 ⟨(some 3), .mv (.tmp 19), none⟩])
 (.reg [⟨(some 20), .fa 1 (.tmp 1), none⟩,
 ⟨(some 21), .ld1 (.tmp 20), none⟩,
 ⟨(some 22), .mv (.tmp 2), none⟩,
 ⟨(some 23), .is 3 (.tmp 21) (.tmp 22), none⟩,
 ⟨(some 24), .fa 2 (.tmp 23), none⟩,
 ⟨(some 25), .ld1 (.tmp 24), none⟩,
 ⟨(some 26), .mv (.tmp 3), none⟩,
 ⟨(some 27), .is 1 (.tmp 25) (.tmp 26), none⟩,
 ⟨(some 28), .ld1 (.tmp 27), none⟩,
 ⟨(some 29), .bin .xor (.tmp 28) (.const (.int .u8 238)), none⟩,
 ⟨(some 30), .is 1 (.tmp 25) (.tmp 26), none⟩,
 ⟨none, .st1 (.tmp 30) (.tmp 29), none⟩])))
 (.reg [⟨(some 31), .bin .add (.tmp 17) (.const (.int .i64 1)), none⟩,
 ⟨(some 17), .mv (.tmp 31), none⟩])))))))
 (.reg [⟨(some 32), .fa 1 (.tmp 1), none⟩,
 ⟨(some 33), .ld1 (.tmp 32), none⟩,
 ⟨(some 34), .mv (.tmp 2), none⟩,
 ⟨(some 35), .is 3 (.tmp 33) (.tmp 34), none⟩,
 ⟨(some 36), .fa 0 (.tmp 35), none⟩,
 ⟨none, .st1 (.tmp 36) (.const (.int .i64 (-1))), none⟩]))))
 (.reg [⟨(some 37), .bin .add (.tmp 7) (.const (.int .i64 1)), none⟩,
 ⟨(some 7), .mv (.tmp 37), none⟩])))))))
theorem k47 : fnOk Try.prog 47 = some (M47, [], 38) := by kernel_rfl

theorem l_spoil (y : Im) {Hb : Heap} (hC : ImC w0 Hb H y) (g : Grow w0 Hb H) (h : ∀ H', Grow w0 Hb H' → K (.tuple #[]) H') : HCalls Try.prog w0 47 [y.v] H K := by
  have hlm := hC.lm
  rcases Nat.eq_zero_or_pos y.ls.length with h0 | h0
  · have h := h H g
    unfold Im.v
    rw [h0]
    clear hC hlm
    refine HL.hc k47 999 ?_; unfold M47
    (all_goals (try simp only [Sq,Sr,Sh,Si,Sl,Bu,Bb,Bd,Bc,Bw,Bn,Int.reduceAdd,Int.reduceSub,Int.reduceMul,Int.reduceTDiv,Int.reduceTMod,Int.reduceMod,Int.reduceDiv,Nat.reduceLT,Nat.reduceEqDiff,Sa,Sb,Sc,Sd,Se,Sf,Sg,Int.reduceLE,Int.reduceLT,Int.reduceToNat,Int.reduceNeg,Int.reduceEq,Nat.reduceLeDiff,Nat.reducePow,Int.reducePow,reduceIte,Nat.reduceSub,Nat.reduceAdd,Nat.reduceMul,putAt,ceq,List.replicate, *])); repeat' ((first | (with_reducible refine fun _ : True => ?_) | (with_reducible refine any_h ?_) | ((first | refine AllocQ_i ?_ | refine AllocO_i ?_); intro bk hb0 hbk; (try simp only [set_none'] at hbk); (try (first | have hbn := Grow.none (by assumption) hbk | have hbn := Grow.none (by assumption) hbk.2 | have hbn := Grow.none (by assumption) hbk.2.2 | have hbn := Grow.none (by assumption) hbk.2.2.2 | have hbn := Grow.none (by assumption) hbk.2.2.2.2 | have hbn := Grow.none (by assumption) hbk.2.2.2.2.2)); (try simp only [set_none'] at hbn); (try (first | have hbm := Grow.none (by assumption) hbn | have hbm := Grow.none (by assumption) hbn.2 | have hbm := Grow.none (by assumption) hbn.2.2 | have hbm := Grow.none (by assumption) hbn.2.2.2 | have hbm := Grow.none (by assumption) hbn.2.2.2.2 | have hbm := Grow.none (by assumption) hbn.2.2.2.2.2)); (try simp only [set_none'] at hbm)) | ((first | refine condS_i ?_ ?_ | refine pick_i ?_ ?_ | refine gS_it ?_ ?_ | refine gS_if ?_ ?_ | refine gP_it ?_ ?_ | refine gP_if ?_ ?_) <;> (intro hc; try simp only [Int.reduceLE,Int.reduceLT,Int.reduceEq,Sn] at hc)) | (with_reducible refine KP_i ?_ ?_; · (repeat' (first | exact Heap.Le.refl _ | (with_reducible refine Le_set2 ?_) | (refine Le_known (by first | (simp only [Heap.set_same, set_ne, ne_eq, not_false_eq_true, *] <;> rfl) | fail) ?_) | (refine Le_fresh (by first | (simp only [*] <;> done) | (simp [set_none', Heap.set_same, set_ne, noneH, *] <;> done) | fail) ?_) | (refine Heap.Le.trans ?_ (Grow.le (by assumption))) | exact Le_none | (refine Le_put ?_ (by first | (simp only [Heap.set_same, set_ne, ne_eq, not_false_eq_true, *] <;> rfl) | fail)) | fail))) | (with_reducible refine loop_u ?_) | (with_reducible refine And.intro ?_ ?_)) <;> (try simp only [Sq,Sr,Sh,Si,Sl,Bu,Bb,Bd,Bc,Bw,Bn,Int.reduceAdd,Int.reduceSub,Int.reduceMul,Int.reduceTDiv,Int.reduceTMod,Int.reduceMod,Int.reduceDiv,Nat.reduceLT,Nat.reduceEqDiff,Sa,Sb,Sc,Sd,Se,Sf,Sg,Int.reduceLE,Int.reduceLT,Int.reduceToNat,Int.reduceNeg,Int.reduceEq,Nat.reduceLeDiff,Nat.reducePow,Int.reducePow,reduceIte,Nat.reduceSub,Nat.reduceAdd,Nat.reduceMul,putAt,ceq,List.replicate, *]))
    exact Fin_mk (by (repeat' (first | exact Heap.Le.refl _ | (with_reducible refine Le_set2 ?_) | (refine Le_known (by first | (simp only [Heap.set_same, set_ne, ne_eq, not_false_eq_true, *] <;> rfl) | fail) ?_) | (refine Le_fresh (by first | (simp only [*] <;> done) | (simp [set_none', Heap.set_same, set_ne, noneH, *] <;> done) | fail) ?_) | (refine Heap.Le.trans ?_ (Grow.le (by assumption))) | exact Le_none | (refine Le_put ?_ (by first | (simp only [Heap.set_same, set_ne, ne_eq, not_false_eq_true, *] <;> rfl) | fail)) | fail))) h
  · have hrl := rows_len y.ls
    rcases hC.bld with ⟨b, zz, eb, b1, b2, b3, b4⟩ | ⟨-, hnil⟩
    · obtain ⟨m, em⟩ : ∃ m, y.ls.length = m := ⟨_, rfl⟩
      have hlen : ∀ z ∈ y.ls, z.l.length ≤ 140737488355328 := fun z hz => (hC.lv z hz).lr
      have hwk : ∀ z ∈ y.ls, Wk w0 Hb H z := fun z hz => (hC.lv z hz).wk
      have hrows : ∀ i z, y.ls[i]? = some z → i * 3 + 2 < ((y.ls.map LvR.row).flatten ++ zz).length ∧ ((y.ls.map LvR.row).flatten ++ zz)[i * 3 + 2]? = some (.slice z.a z.l.length z.cap) := fun i z hz => by
        obtain ⟨A, B, hA, c1, -⟩ := cutRows_at hz
        have hf : cutRows y.ls i = (((y.ls.take i).map LvR.cut ++ y.ls.drop i).map LvR.row).flatten := rfl
        have e : (y.ls.map LvR.row).flatten = ((y.ls.take i).map LvR.row).flatten ++ ((y.ls.drop i).map LvR.row).flatten := by
          rw [← List.flatten_append, ← List.map_append, List.take_append_drop]
        obtain ⟨hi, ez⟩ := List.getElem?_eq_some_iff.1 hz
        have e2 : ((y.ls.drop i).map LvR.row).flatten = .int .i64 z.w :: .int .i64 z.h :: .slice z.a z.l.length z.cap :: ((y.ls.drop (i + 1)).map LvR.row).flatten := by
          rw [List.drop_eq_getElem_cons hi, ez]; simp [LvR.row]
        have e3 : (((y.ls.take i).map LvR.row).flatten).length = i * 3 := by rw [rows_len]; simp; omega
        have e4 : ((y.ls.map LvR.row).flatten ++ zz)[i * 3 + 2]? = some (.slice z.a z.l.length z.cap) := by
          rw [e, e2, List.append_assoc, ← e3]
          simp
        exact ⟨(List.getElem?_eq_some_iff.1 e4).1, e4⟩
      unfold Im.v
      rw [eb, em]
      rw [em] at hlm
      clear hC hrl
      refine HL.hc k47 999 ?_; unfold M47
      (all_goals (try simp only [Sq,Sr,Sh,Si,Sl,Bu,Bb,Bd,Bc,Bw,Bn,Int.reduceAdd,Int.reduceSub,Int.reduceMul,Int.reduceTDiv,Int.reduceTMod,Int.reduceMod,Int.reduceDiv,Nat.reduceLT,Nat.reduceEqDiff,Sa,Sb,Sc,Sd,Se,Sf,Sg,Int.reduceLE,Int.reduceLT,Int.reduceToNat,Int.reduceNeg,Int.reduceEq,Nat.reduceLeDiff,Nat.reducePow,Int.reducePow,reduceIte,Nat.reduceSub,Nat.reduceAdd,Nat.reduceMul,putAt,ceq,List.replicate, *])); repeat' ((first | (with_reducible refine fun _ : True => ?_) | (with_reducible refine any_h ?_) | ((first | refine AllocQ_i ?_ | refine AllocO_i ?_); intro bk hb0 hbk; (try simp only [set_none'] at hbk); (try (first | have hbn := Grow.none (by assumption) hbk | have hbn := Grow.none (by assumption) hbk.2 | have hbn := Grow.none (by assumption) hbk.2.2 | have hbn := Grow.none (by assumption) hbk.2.2.2 | have hbn := Grow.none (by assumption) hbk.2.2.2.2 | have hbn := Grow.none (by assumption) hbk.2.2.2.2.2)); (try simp only [set_none'] at hbn); (try (first | have hbm := Grow.none (by assumption) hbn | have hbm := Grow.none (by assumption) hbn.2 | have hbm := Grow.none (by assumption) hbn.2.2 | have hbm := Grow.none (by assumption) hbn.2.2.2 | have hbm := Grow.none (by assumption) hbn.2.2.2.2 | have hbm := Grow.none (by assumption) hbn.2.2.2.2.2)); (try simp only [set_none'] at hbm)) | ((first | refine condS_i ?_ ?_ | refine pick_i ?_ ?_ | refine gS_it ?_ ?_ | refine gS_if ?_ ?_ | refine gP_it ?_ ?_ | refine gP_if ?_ ?_) <;> (intro hc; try simp only [Int.reduceLE,Int.reduceLT,Int.reduceEq,Sn] at hc)) | (with_reducible refine KP_i ?_ ?_; · (repeat' (first | exact Heap.Le.refl _ | (with_reducible refine Le_set2 ?_) | (refine Le_known (by first | (simp only [Heap.set_same, set_ne, ne_eq, not_false_eq_true, *] <;> rfl) | fail) ?_) | (refine Le_fresh (by first | (simp only [*] <;> done) | (simp [set_none', Heap.set_same, set_ne, noneH, *] <;> done) | fail) ?_) | (refine Heap.Le.trans ?_ (Grow.le (by assumption))) | exact Le_none | (refine Le_put ?_ (by first | (simp only [Heap.set_same, set_ne, ne_eq, not_false_eq_true, *] <;> rfl) | fail)) | fail))) | (with_reducible refine And.intro ?_ ?_)) <;> (try simp only [Sq,Sr,Sh,Si,Sl,Bu,Bb,Bd,Bc,Bw,Bn,Int.reduceAdd,Int.reduceSub,Int.reduceMul,Int.reduceTDiv,Int.reduceTMod,Int.reduceMod,Int.reduceDiv,Nat.reduceLT,Nat.reduceEqDiff,Sa,Sb,Sc,Sd,Se,Sf,Sg,Int.reduceLE,Int.reduceLT,Int.reduceToNat,Int.reduceNeg,Int.reduceEq,Nat.reduceLeDiff,Nat.reducePow,Int.reducePow,reduceIte,Nat.reduceSub,Nat.reduceAdd,Nat.reduceMul,putAt,ceq,List.replicate, *]))
      have x1 : b ≠ bk := fun e => by subst e; rw [b3] at hbk; cases hbk
      have sp0 : SpOk w0 Hb y bk b [.int .i64 y.f, .slice (some ⟨b, 0, none⟩) m y.cap, .int .i64 y.s, .int .i64 y.t, .int .i64 y.mn, .int .i64 y.mg] (H.set bk ⟨.t 24, [.int .i64 y.f, .slice (some ⟨b, 0, none⟩) m y.cap, .int .i64 y.s, .int .i64 y.t, .int .i64 y.mn, .int .i64 y.mg]⟩) := ⟨(by (repeat' (first | exact Grow.refl _ | assumption | (refine Grow_known (by first | (simp only [Heap.set_same, set_ne, ne_eq, not_false_eq_true, *] <;> rfl) | fail) ?_) | (refine Grow.set ?_ (by assumption) (by first | (simp only [*] <;> done) | (simp [set_none', Heap.set_same, set_ne, noneH, *] <;> done) | fail)) | (refine Grow.trans ?_ (by assumption))))), Heap.set_same _ _ _, ⟨_, by rw [Heap.set_other _ _ x1]; exact b3, hrows⟩, fun z hz => by
        rcases hwk z hz with h' | ⟨bz, ds, e, h1, h2, h3, h4⟩
        · exact .inl h'
        · exact .inr ⟨bz, ds, e, h1, h2, by rw [Heap.set_other _ _ (fun e => by subst e; rw [h3] at hbk; cases hbk)]; exact h3, h4⟩⟩
      clear hwk hrows b3 b4
      refine loop_g 8 (fun s : Nat × Value × Value × Heap => [(2, s.2.1), (3, s.2.2.1), (7, .int .i64 (s.1 : Nat))]) (fun s => s.2.2.2) (fun s => s.1 ≤ m ∧ SpOk w0 Hb y bk b [.int .i64 y.f, .slice (some ⟨b, 0, none⟩) m y.cap, .int .i64 y.s, .int .i64 y.t, .int .i64 y.mn, .int .i64 y.mg] s.2.2.2) (fun s => m - s.1) (0, undef, undef, _) ⟨Nat.zero_le _, sp0⟩ (Heap.Le.refl _) rfl ?_
      clear sp0 hbk g
      intro ⟨k, v2, v3, G⟩ f ⟨hk, sp⟩
      simp only at hk sp
      obtain ⟨cs, kr, hcs⟩ := sp.rows
      have kx := sp.box
      have x2 : b ≠ bk := x1
      have x3 := Ne.symm x1
      have hroot : G = (G.set bk ⟨.t 24, [.int .i64 y.f, .slice (some ⟨b, 0, none⟩) m y.cap, .int .i64 y.s, .int .i64 y.t, .int .i64 y.mn, .int .i64 y.mg]⟩).set b ⟨.t 38, cs⟩ := root2 x3 kx kr
      show run _ _ _ _ _ _ G
      rcases Nat.lt_or_ge k m with hlt | hge
      · obtain ⟨z, ez⟩ : ∃ z, y.ls[k]? = some z := ⟨_, List.getElem?_eq_getElem (by omega)⟩
        obtain ⟨q1, q2⟩ := hcs k z ez
        have hzm := List.mem_of_getElem? ez
        have t0 : (k : Int) < (m : Int) := by omega
        have t6 : IntKind.i64.wrap ((k : Int) + 1) = (k : Int) + 1 := Bw.1 _ (by omega) (by unfold maxLen at hlm; omega)
        have hzl : (z.l.length : Int) ≤ 140737488355328 := by have := hlen z hzm; omega
        rw [hroot]
        have sp1 : SpOk w0 Hb y bk b [.int .i64 y.f, .slice (some ⟨b, 0, none⟩) m y.cap, .int .i64 y.s, .int .i64 y.t, .int .i64 y.mn, .int .i64 y.mg] ((G.set bk ⟨.t 24, [.int .i64 y.f, .slice (some ⟨b, 0, none⟩) m y.cap, .int .i64 y.s, .int .i64 y.t, .int .i64 y.mn, .int .i64 y.mg]⟩).set b ⟨.t 38, cs⟩) := by rw [← hroot]; exact sp
        clear sp kx kr hroot hcs
        (all_goals (try simp only [Sq,Sr,Sh,Si,Sl,Bu,Bb,Bd,Bc,Bw,Bn,Int.reduceAdd,Int.reduceSub,Int.reduceMul,Int.reduceTDiv,Int.reduceTMod,Int.reduceMod,Int.reduceDiv,Nat.reduceLT,Nat.reduceEqDiff,Sa,Sb,Sc,Sd,Se,Sf,Sg,Int.reduceLE,Int.reduceLT,Int.reduceToNat,Int.reduceNeg,Int.reduceEq,Nat.reduceLeDiff,Nat.reducePow,Int.reducePow,reduceIte,Nat.reduceSub,Nat.reduceAdd,Nat.reduceMul,putAt,ceq,List.replicate, *])); repeat' ((first | (with_reducible refine fun _ : True => ?_) | (with_reducible refine any_h ?_) | ((first | refine AllocQ_i ?_ | refine AllocO_i ?_); intro bk hb0 hbk; (try simp only [set_none'] at hbk); (try (first | have hbn := Grow.none (by assumption) hbk | have hbn := Grow.none (by assumption) hbk.2 | have hbn := Grow.none (by assumption) hbk.2.2 | have hbn := Grow.none (by assumption) hbk.2.2.2 | have hbn := Grow.none (by assumption) hbk.2.2.2.2 | have hbn := Grow.none (by assumption) hbk.2.2.2.2.2)); (try simp only [set_none'] at hbn); (try (first | have hbm := Grow.none (by assumption) hbn | have hbm := Grow.none (by assumption) hbn.2 | have hbm := Grow.none (by assumption) hbn.2.2 | have hbm := Grow.none (by assumption) hbn.2.2.2 | have hbm := Grow.none (by assumption) hbn.2.2.2.2 | have hbm := Grow.none (by assumption) hbn.2.2.2.2.2)); (try simp only [set_none'] at hbm)) | ((first | refine condS_i ?_ ?_ | refine pick_i ?_ ?_ | refine gS_it ?_ ?_ | refine gS_if ?_ ?_ | refine gP_it ?_ ?_ | refine gP_if ?_ ?_) <;> (intro hc; try simp only [Int.reduceLE,Int.reduceLT,Int.reduceEq,Sn] at hc)) | (with_reducible refine KP_i ?_ ?_; · (repeat' (first | exact Heap.Le.refl _ | (with_reducible refine Le_set2 ?_) | (refine Le_known (by first | (simp only [Heap.set_same, set_ne, ne_eq, not_false_eq_true, *] <;> rfl) | fail) ?_) | (refine Le_fresh (by first | (simp only [*] <;> done) | (simp [set_none', Heap.set_same, set_ne, noneH, *] <;> done) | fail) ?_) | (refine Heap.Le.trans ?_ (Grow.le (by assumption))) | exact Le_none | (refine Le_put ?_ (by first | (simp only [Heap.set_same, set_ne, ne_eq, not_false_eq_true, *] <;> rfl) | fail)) | fail))) | (with_reducible refine And.intro ?_ ?_)) <;> (try simp only [Sq,Sr,Sh,Si,Sl,Bu,Bb,Bd,Bc,Bw,Bn,Int.reduceAdd,Int.reduceSub,Int.reduceMul,Int.reduceTDiv,Int.reduceTMod,Int.reduceMod,Int.reduceDiv,Nat.reduceLT,Nat.reduceEqDiff,Sa,Sb,Sc,Sd,Se,Sf,Sg,Int.reduceLE,Int.reduceLT,Int.reduceToNat,Int.reduceNeg,Int.reduceEq,Nat.reduceLeDiff,Nat.reducePow,Int.reducePow,reduceIte,Nat.reduceSub,Nat.reduceAdd,Nat.reduceMul,putAt,ceq,List.replicate, *]))
        refine loop_g 18 (fun s : Nat × Value × Heap => [(3, s.2.1), (17, .int .i64 (s.1 : Nat))]) (fun s => s.2.2) (fun s => s.1 ≤ z.l.length ∧ SpOk w0 Hb y bk b [.int .i64 y.f, .slice (some ⟨b, 0, none⟩) m y.cap, .int .i64 y.s, .int .i64 y.t, .int .i64 y.mn, .int .i64 y.mg] s.2.2) (fun s => z.l.length - s.1) (0, v3, _) ⟨Nat.zero_le _, sp1⟩ (Heap.Le.refl _) rfl ?_
        clear sp1 q1 q2 cs G
        intro ⟨j, u3, G⟩ f2 ⟨hj, sp⟩
        simp only at hj sp
        obtain ⟨cs, kr, hcs⟩ := sp.rows
        have kx := sp.box
        obtain ⟨q1, q2⟩ := hcs k z ez
        have hroot : G = (G.set bk ⟨.t 24, [.int .i64 y.f, .slice (some ⟨b, 0, none⟩) m y.cap, .int .i64 y.s, .int .i64 y.t, .int .i64 y.mn, .int .i64 y.mg]⟩).set b ⟨.t 38, cs⟩ := root2 x3 kx kr
        show run _ _ _ _ _ _ G
        rcases Nat.lt_or_ge j z.l.length with hjl | hjg
        · rcases sp.wk z hzm with h' | ⟨bz, ds, ea, z1, z2, z3, z4⟩
          · omega
          · obtain ⟨nv, hnv⟩ := z4 j hjl
            have hds := (List.getElem?_eq_some_iff.1 hnv).1
            have y1 : bz ≠ b := fun e => by subst e; rw [kr] at z3; cases z3
            have y2 : bz ≠ bk := fun e => by subst e; rw [kx] at z3; cases z3
            have y3 := Ne.symm y1
            have y4 := Ne.symm y2
            have t1 : (j : Int) < (z.l.length : Int) := by omega
            have t7 : IntKind.i64.wrap ((j : Int) + 1) = (j : Int) + 1 := Bw.1 _ (by omega) (by omega)
            have sp2 : SpOk w0 Hb y bk b [.int .i64 y.f, .slice (some ⟨b, 0, none⟩) m y.cap, .int .i64 y.s, .int .i64 y.t, .int .i64 y.mn, .int .i64 y.mg] (((G.set bk ⟨.t 24, [.int .i64 y.f, .slice (some ⟨b, 0, none⟩) m y.cap, .int .i64 y.s, .int .i64 y.t, .int .i64 y.mn, .int .i64 y.mg]⟩).set b ⟨.t 38, cs⟩).set bz ⟨.t 5, ds.set j (.int .u8 (bitsI .xor .u8 nv 238))⟩) := by rw [← hroot]; exact sp.byte z3 z2 z1
            rw [root3 kx kr z3]
            rw [ea] at q2
            clear sp kx kr z3 z4 hroot hcs ez h
            (all_goals (try simp only [Sq,Sr,Sh,Si,Sl,Bu,Bb,Bd,Bc,Bw,Bn,Int.reduceAdd,Int.reduceSub,Int.reduceMul,Int.reduceTDiv,Int.reduceTMod,Int.reduceMod,Int.reduceDiv,Nat.reduceLT,Nat.reduceEqDiff,Sa,Sb,Sc,Sd,Se,Sf,Sg,Int.reduceLE,Int.reduceLT,Int.reduceToNat,Int.reduceNeg,Int.reduceEq,Nat.reduceLeDiff,Nat.reducePow,Int.reducePow,reduceIte,Nat.reduceSub,Nat.reduceAdd,Nat.reduceMul,putAt,ceq,List.replicate, *])); repeat' ((first | (with_reducible refine fun _ : True => ?_) | (with_reducible refine any_h ?_) | ((first | refine AllocQ_i ?_ | refine AllocO_i ?_); intro bk hb0 hbk; (try simp only [set_none'] at hbk); (try (first | have hbn := Grow.none (by assumption) hbk | have hbn := Grow.none (by assumption) hbk.2 | have hbn := Grow.none (by assumption) hbk.2.2 | have hbn := Grow.none (by assumption) hbk.2.2.2 | have hbn := Grow.none (by assumption) hbk.2.2.2.2 | have hbn := Grow.none (by assumption) hbk.2.2.2.2.2)); (try simp only [set_none'] at hbn); (try (first | have hbm := Grow.none (by assumption) hbn | have hbm := Grow.none (by assumption) hbn.2 | have hbm := Grow.none (by assumption) hbn.2.2 | have hbm := Grow.none (by assumption) hbn.2.2.2 | have hbm := Grow.none (by assumption) hbn.2.2.2.2 | have hbm := Grow.none (by assumption) hbn.2.2.2.2.2)); (try simp only [set_none'] at hbm)) | ((first | refine condS_i ?_ ?_ | refine pick_i ?_ ?_ | refine gS_it ?_ ?_ | refine gS_if ?_ ?_ | refine gP_it ?_ ?_ | refine gP_if ?_ ?_) <;> (intro hc; try simp only [Int.reduceLE,Int.reduceLT,Int.reduceEq,Sn] at hc)) | (with_reducible refine KP_i ?_ ?_; · (repeat' (first | exact Heap.Le.refl _ | (with_reducible refine Le_set2 ?_) | (refine Le_known (by first | (simp only [Heap.set_same, set_ne, ne_eq, not_false_eq_true, *] <;> rfl) | fail) ?_) | (refine Le_fresh (by first | (simp only [*] <;> done) | (simp [set_none', Heap.set_same, set_ne, noneH, *] <;> done) | fail) ?_) | (refine Heap.Le.trans ?_ (Grow.le (by assumption))) | exact Le_none | (refine Le_put ?_ (by first | (simp only [Heap.set_same, set_ne, ne_eq, not_false_eq_true, *] <;> rfl) | fail)) | fail))) | (with_reducible refine And.intro ?_ ?_)) <;> (try simp only [Sq,Sr,Sh,Si,Sl,Bu,Bb,Bd,Bc,Bw,Bn,Int.reduceAdd,Int.reduceSub,Int.reduceMul,Int.reduceTDiv,Int.reduceTMod,Int.reduceMod,Int.reduceDiv,Nat.reduceLT,Nat.reduceEqDiff,Sa,Sb,Sc,Sd,Se,Sf,Sg,Int.reduceLE,Int.reduceLT,Int.reduceToNat,Int.reduceNeg,Int.reduceEq,Nat.reduceLeDiff,Nat.reducePow,Int.reducePow,reduceIte,Nat.reduceSub,Nat.reduceAdd,Nat.reduceMul,putAt,ceq,List.replicate, *]))
            exact Round_mk (j + 1, _, _) ⟨hjl, sp2⟩ (by simp only; omega) (Heap.Le.refl _) rfl rfl
        · obtain rfl : j = z.l.length := by omega
          have t1 : ¬ ((z.l.length : Nat) : Int) < ((z.l.length : Nat) : Int) := by omega
          have q3 : k * 3 < cs.length := by omega
          have sp2 : SpOk w0 Hb y bk b [.int .i64 y.f, .slice (some ⟨b, 0, none⟩) m y.cap, .int .i64 y.s, .int .i64 y.t, .int .i64 y.mn, .int .i64 y.mg] ((G.set bk ⟨.t 24, [.int .i64 y.f, .slice (some ⟨b, 0, none⟩) m y.cap, .int .i64 y.s, .int .i64 y.t, .int .i64 y.mn, .int .i64 y.mg]⟩).set b ⟨.t 38, cs.set (k * 3) (.int .i64 (-1))⟩) := by
            have := sp.row (k := k) (v := .int .i64 (-1)) kr b2 b1
            rw [hroot] at this
            simpa only [Heap.set_set] using this
          rw [hroot]
          clear sp kx kr hroot hcs ez h
          (all_goals (try simp only [Sq,Sr,Sh,Si,Sl,Bu,Bb,Bd,Bc,Bw,Bn,Int.reduceAdd,Int.reduceSub,Int.reduceMul,Int.reduceTDiv,Int.reduceTMod,Int.reduceMod,Int.reduceDiv,Nat.reduceLT,Nat.reduceEqDiff,Sa,Sb,Sc,Sd,Se,Sf,Sg,Int.reduceLE,Int.reduceLT,Int.reduceToNat,Int.reduceNeg,Int.reduceEq,Nat.reduceLeDiff,Nat.reducePow,Int.reducePow,reduceIte,Nat.reduceSub,Nat.reduceAdd,Nat.reduceMul,putAt,ceq,List.replicate, *])); repeat' ((first | (with_reducible refine fun _ : True => ?_) | (with_reducible refine any_h ?_) | ((first | refine AllocQ_i ?_ | refine AllocO_i ?_); intro bk hb0 hbk; (try simp only [set_none'] at hbk); (try (first | have hbn := Grow.none (by assumption) hbk | have hbn := Grow.none (by assumption) hbk.2 | have hbn := Grow.none (by assumption) hbk.2.2 | have hbn := Grow.none (by assumption) hbk.2.2.2 | have hbn := Grow.none (by assumption) hbk.2.2.2.2 | have hbn := Grow.none (by assumption) hbk.2.2.2.2.2)); (try simp only [set_none'] at hbn); (try (first | have hbm := Grow.none (by assumption) hbn | have hbm := Grow.none (by assumption) hbn.2 | have hbm := Grow.none (by assumption) hbn.2.2 | have hbm := Grow.none (by assumption) hbn.2.2.2 | have hbm := Grow.none (by assumption) hbn.2.2.2.2 | have hbm := Grow.none (by assumption) hbn.2.2.2.2.2)); (try simp only [set_none'] at hbm)) | ((first | refine condS_i ?_ ?_ | refine pick_i ?_ ?_ | refine gS_it ?_ ?_ | refine gS_if ?_ ?_ | refine gP_it ?_ ?_ | refine gP_if ?_ ?_) <;> (intro hc; try simp only [Int.reduceLE,Int.reduceLT,Int.reduceEq,Sn] at hc)) | (with_reducible refine KP_i ?_ ?_; · (repeat' (first | exact Heap.Le.refl _ | (with_reducible refine Le_set2 ?_) | (refine Le_known (by first | (simp only [Heap.set_same, set_ne, ne_eq, not_false_eq_true, *] <;> rfl) | fail) ?_) | (refine Le_fresh (by first | (simp only [*] <;> done) | (simp [set_none', Heap.set_same, set_ne, noneH, *] <;> done) | fail) ?_) | (refine Heap.Le.trans ?_ (Grow.le (by assumption))) | exact Le_none | (refine Le_put ?_ (by first | (simp only [Heap.set_same, set_ne, ne_eq, not_false_eq_true, *] <;> rfl) | fail)) | fail))) | (with_reducible refine And.intro ?_ ?_)) <;> (try simp only [Sq,Sr,Sh,Si,Sl,Bu,Bb,Bd,Bc,Bw,Bn,Int.reduceAdd,Int.reduceSub,Int.reduceMul,Int.reduceTDiv,Int.reduceTMod,Int.reduceMod,Int.reduceDiv,Nat.reduceLT,Nat.reduceEqDiff,Sa,Sb,Sc,Sd,Se,Sf,Sg,Int.reduceLE,Int.reduceLT,Int.reduceToNat,Int.reduceNeg,Int.reduceEq,Nat.reduceLeDiff,Nat.reducePow,Int.reducePow,reduceIte,Nat.reduceSub,Nat.reduceAdd,Nat.reduceMul,putAt,ceq,List.replicate, *]))
          exact Round_mk (k + 1, _, _, _) ⟨hlt, sp2⟩ (by simp only; omega) (Heap.Le.refl _) rfl rfl
      · obtain rfl : m = k := by omega
        have t0 : ¬ ((m : Nat) : Int) < ((m : Nat) : Int) := by omega
        have h := h G sp.g
        clear sp kx kr hroot hcs
        (all_goals (try simp only [Sq,Sr,Sh,Si,Sl,Bu,Bb,Bd,Bc,Bw,Bn,Int.reduceAdd,Int.reduceSub,Int.reduceMul,Int.reduceTDiv,Int.reduceTMod,Int.reduceMod,Int.reduceDiv,Nat.reduceLT,Nat.reduceEqDiff,Sa,Sb,Sc,Sd,Se,Sf,Sg,Int.reduceLE,Int.reduceLT,Int.reduceToNat,Int.reduceNeg,Int.reduceEq,Nat.reduceLeDiff,Nat.reducePow,Int.reducePow,reduceIte,Nat.reduceSub,Nat.reduceAdd,Nat.reduceMul,putAt,ceq,List.replicate, *])); repeat' ((first | (with_reducible refine fun _ : True => ?_) | (with_reducible refine any_h ?_) | ((first | refine AllocQ_i ?_ | refine AllocO_i ?_); intro bk hb0 hbk; (try simp only [set_none'] at hbk); (try (first | have hbn := Grow.none (by assumption) hbk | have hbn := Grow.none (by assumption) hbk.2 | have hbn := Grow.none (by assumption) hbk.2.2 | have hbn := Grow.none (by assumption) hbk.2.2.2 | have hbn := Grow.none (by assumption) hbk.2.2.2.2 | have hbn := Grow.none (by assumption) hbk.2.2.2.2.2)); (try simp only [set_none'] at hbn); (try (first | have hbm := Grow.none (by assumption) hbn | have hbm := Grow.none (by assumption) hbn.2 | have hbm := Grow.none (by assumption) hbn.2.2 | have hbm := Grow.none (by assumption) hbn.2.2.2 | have hbm := Grow.none (by assumption) hbn.2.2.2.2 | have hbm := Grow.none (by assumption) hbn.2.2.2.2.2)); (try simp only [set_none'] at hbm)) | ((first | refine condS_i ?_ ?_ | refine pick_i ?_ ?_ | refine gS_it ?_ ?_ | refine gS_if ?_ ?_ | refine gP_it ?_ ?_ | refine gP_if ?_ ?_) <;> (intro hc; try simp only [Int.reduceLE,Int.reduceLT,Int.reduceEq,Sn] at hc)) | (with_reducible refine KP_i ?_ ?_; · (repeat' (first | exact Heap.Le.refl _ | (with_reducible refine Le_set2 ?_) | (refine Le_known (by first | (simp only [Heap.set_same, set_ne, ne_eq, not_false_eq_true, *] <;> rfl) | fail) ?_) | (refine Le_fresh (by first | (simp only [*] <;> done) | (simp [set_none', Heap.set_same, set_ne, noneH, *] <;> done) | fail) ?_) | (refine Heap.Le.trans ?_ (Grow.le (by assumption))) | exact Le_none | (refine Le_put ?_ (by first | (simp only [Heap.set_same, set_ne, ne_eq, not_false_eq_true, *] <;> rfl) | fail)) | fail))) | (with_reducible refine And.intro ?_ ?_)) <;> (try simp only [Sq,Sr,Sh,Si,Sl,Bu,Bb,Bd,Bc,Bw,Bn,Int.reduceAdd,Int.reduceSub,Int.reduceMul,Int.reduceTDiv,Int.reduceTMod,Int.reduceMod,Int.reduceDiv,Nat.reduceLT,Nat.reduceEqDiff,Sa,Sb,Sc,Sd,Se,Sf,Sg,Int.reduceLE,Int.reduceLT,Int.reduceToNat,Int.reduceNeg,Int.reduceEq,Nat.reduceLeDiff,Nat.reducePow,Int.reducePow,reduceIte,Nat.reduceSub,Nat.reduceAdd,Nat.reduceMul,putAt,ceq,List.replicate, *]))
        exact Fin_mk (Heap.Le.refl _) h
    · rw [hnil] at hrl; simp at hrl; omega
end Go.Proofs.Ytdaipgnhconfnaa
