/- The bytes of a code, by the program (layer 16). -/
import Derived.Test.YtndgmnmnpfblmaaCdi
import Derived.Test.YtndgmnmnpfblmaaCdg
import Derived.Test.YtndgmnmnpfblmaaHlu
set_option linter.unusedSimpArgs false
set_option linter.unusedVariables false
set_option maxRecDepth 100000
set_option maxHeartbeats 4000000
namespace Go.Proofs.Ytndgmnmnpfblmaa
open Go.HL Go.RowKit Pb
variable {w0 : World} {H G : Heap} {K : Value → Heap → Prop}

def Ins.nums (i : Ins) : List Int := [i.op, i.fn, i.bs, i.n, i.dst, i.a, i.b, i.c, i.m0, i.m1, i.m2, i.m3, i.p0, i.p1, i.p2, i.p3]
def bytesL (l : List Int) : List Int := (l.map low4).flatten
theorem bytesL_snoc (l : List Int) (x : Int) : bytesL (l ++ [x]) = bytesL l ++ low4 x := by simp [bytesL]
theorem bytesL_app (l m : List Int) : bytesL (l ++ m) = bytesL l ++ bytesL m := by simp [bytesL]
theorem bytesL_len (l : List Int) : (bytesL l).length = 4 * l.length := by
  induction l with
  | nil => rfl
  | cons x l ih => simp only [bytesL, List.map_cons, List.flatten_cons, List.length_append] at ih ⊢; rw [ih]; simp [low4]; omega
def Cd.hd (c : Cd) : List Int := [1128353872, c.st, c.rg, c.ab, c.un, c.va, c.is.length]
def Cd.nums (c : Cd) : List Int := c.hd ++ (c.is.map Ins.nums).flatten
def Cd.bytes (c : Cd) : List Int := bytesL c.nums
theorem nums_len (l : List Ins) : ((l.map Ins.nums).flatten).length = 16 * l.length := by
  induction l with
  | nil => rfl
  | cons i l ih => rw [List.map_cons, List.flatten_cons, List.length_append, ih]; simp [Ins.nums]; omega
theorem EnSt.grow {F : Heap} {b : Nat} {l : List Int} (h : EnSt w0 H G b l) (g : Grow w0 G F) : EnSt w0 H F b l := by
  obtain ⟨⟨a, c, h1, h2⟩, h3, h4, h5⟩ := h
  exact ⟨⟨a, c, g.some h1, h2.grow g⟩, h3.trans g, h4, h5⟩
/-- Another object at a place is turned. -/
theorem EnSt.turn {b d : Nat} {l : List Int} (h : EnSt w0 H G b l) {x y : Blk} (hd : H d = none) (hs : w0.heap.size ≤ d) (hy : G d = some y) (n1 : y.ty ≠ .t 5) (n2 : d ≠ b) : EnSt w0 H (G.set d x) b l := by
  obtain ⟨⟨a, c, h1, h2⟩, h3, h4, h5⟩ := h
  refine ⟨⟨a, c, ?_, h2.turn hy fun e => n1 e.symm⟩, h3.set hs hd, h4, h5⟩
  rw [Heap.set_other _ _ (fun e => n2 e.symm)]
  exact h1
theorem kept_o {b l : Nat} {F G2 : Heap} {x y : Blk} (kl : F l = some y) (h : Kept b (F.set l x) G2) : Kept b F (G2.set l y) := fun d z h1 h2 h3 => by
  by_cases e : d = l
  · subst e
    rw [Heap.set_same, ← kl]
    exact h1
  · rw [Heap.set_other _ _ e]
    exact h d z (by rw [Heap.set_other _ _ e]; exact h1) h2 h3
theorem low4_w64 (x : Int) : low4 (IntKind.i64.wrap x) = low4 x := by
  have e : IntKind.i64.wrap x = (x + 9223372036854775808) % 18446744073709551616 - 9223372036854775808 := by simp [IntKind.wrap, IntKind.signed, IntKind.bits]; omega
  rw [e]
  unfold low4
  simp only [List.cons.injEq, and_true]
  omega
/- code Encode -/
def M24 : MC :=
  .seq (.reg [⟨(some 1), .box 34 (.tmp 0), none⟩,
 ⟨(some 2), .mv (.const (.slice none 0 0)), none⟩,
 ⟨(some 3), .mv (.const (.int .i64 0)), none⟩])
 (.seq (.seq (.reg [⟨(some 16), .ldn 6 (.tmp 1), none⟩,
 ⟨(some 17), .call 18 [(.tmp 16)], none⟩,
 ⟨(some 4), .mv (.tmp 17), none⟩])
 (.seq (.reg [⟨(some 18), .mv (.tmp 4), none⟩,
 ⟨(some 19), .bin .neq (.tmp 18) (.const (.int .i64 0)), none⟩])
 (.cond (.tmp 19)
 (.seq (.reg [⟨(some 20), .mv (.tmp 4), none⟩,
 ⟨(some 2), .mv (.const (.slice none 0 0)), none⟩,
 ⟨(some 3), .mv (.tmp 20), none⟩])
 (.ret))
 (.skip))))
 (.seq (.reg [⟨(some 5), .alloc 44 [(.slice none 0 0)], none⟩])
 (.seq (.reg [⟨(some 21), .fn 42 [(.tmp 5)], none⟩,
 ⟨(some 6), .alloc 78 [.nilFunc], none⟩,
 ⟨none, .st1 (.tmp 6) (.tmp 21), none⟩])
 (.seq (.seq (.reg [⟨(some 22), .fa 0 (.tmp 1), none⟩,
 ⟨(some 23), .ld1 (.tmp 22), none⟩,
 ⟨(some 24), .fa 2 (.tmp 1), none⟩,
 ⟨(some 25), .ld1 (.tmp 24), none⟩,
 ⟨(some 26), .fa 3 (.tmp 1), none⟩,
 ⟨(some 27), .ld1 (.tmp 26), none⟩,
 ⟨(some 28), .fa 4 (.tmp 1), none⟩,
 ⟨(some 29), .ld1 (.tmp 28), none⟩,
 ⟨(some 30), .fa 5 (.tmp 1), none⟩,
 ⟨(some 31), .ld1 (.tmp 30), none⟩,
 ⟨(some 32), .fa 1 (.tmp 1), none⟩,
 ⟨(some 33), .ld1 (.tmp 32), none⟩,
 ⟨(some 34), .len (.tmp 33), none⟩,
 ⟨(some 35), .bslice 3 7 [(.int .i64 0), (.int .i64 0), (.int .i64 0), (.int .i64 0), (.int .i64 0), (.int .i64 0), (.int .i64 0)] [(0, 1, (.const (.int .i64 1128353872))), (1, 1, (.tmp 23)), (2, 1, (.tmp 25)), (3, 1, (.tmp 27)), (4, 1, (.tmp 29)), (5, 1, (.tmp 31)), (6, 1, (.tmp 34))], none⟩,
 ⟨(some 36), .len (.tmp 35), none⟩,
 ⟨(some 37), .mv (.const (.int .i64 0)), none⟩])
 (.block 0 (.loop (.seq (.reg [⟨(some 38), .bin .lss (.tmp 37) (.tmp 36), none⟩])
 (.seq (.cond (.tmp 38)
 (.skip)
 (.exit 0))
 (.seq (.block 1 (.seq (.reg [⟨(some 39), .is 1 (.tmp 35) (.tmp 37), none⟩,
 ⟨(some 40), .ld1 (.tmp 39), none⟩,
 ⟨(some 8), .mv (.tmp 40), none⟩])
 (.reg [⟨(some 41), .ld1 (.tmp 6), none⟩,
 ⟨(some 42), .mv (.tmp 8), none⟩,
 ⟨(some 43), .yv (.tmp 41) [(.tmp 42)], none⟩])))
 (.reg [⟨(some 44), .bin .add (.tmp 37) (.const (.int .i64 1)), none⟩,
 ⟨(some 37), .mv (.tmp 44), none⟩])))))))
 (.seq (.seq (.reg [⟨(some 45), .fa 1 (.tmp 1), none⟩,
 ⟨(some 46), .ld1 (.tmp 45), none⟩,
 ⟨(some 47), .len (.tmp 46), none⟩,
 ⟨(some 48), .mv (.const (.int .i64 0)), none⟩])
 (.block 2 (.loop (.seq (.reg [⟨(some 49), .bin .lss (.tmp 48) (.tmp 47), none⟩])
 (.seq (.cond (.tmp 49)
 (.skip)
 (.exit 2))
 (.seq (.block 3 (.seq (.reg [⟨(some 50), .is 16 (.tmp 46) (.tmp 48), none⟩,
 ⟨(some 51), .ldn 16 (.tmp 50), none⟩,
 ⟨(some 10), .alloc 30 [(.int .i64 0), (.int .i64 0), (.int .i64 0), (.int .i64 0), (.int .i64 0), (.int .i64 0), (.int .i64 0), (.int .i64 0), (.int .i32 0), (.int .i32 0), (.int .i32 0), (.int .i32 0), (.int .i64 0), (.int .i64 0), (.int .i64 0), (.int .i64 0)], none⟩,
 ⟨none, .stn 16 (.tmp 10) (.tmp 51), none⟩])
 (.seq (.seq (.reg [⟨(some 52), .call 41 [(.tmp 10)], none⟩])
 (.block 4 (.rangef (.tmp 52) [53]
 (.reg [⟨(some 11), .mv (.tmp 53), none⟩])
 (.block 5 (.any [(true, 0, [], ⟨(some 54), .ld1 (.tmp 6), none⟩),
 (false, 1, [0], ⟨(some 55), .mv (.tmp 11), none⟩),
 (false, 2, [0], ⟨(some 56), .nilc (.tmp 55), none⟩),
 (false, 3, [0], ⟨(some 57), .ld1 (.tmp 56), none⟩),
 (false, 4, [], ⟨(some 58), .callv (.tmp 54) [(.tmp 57)], none⟩)])))))
 (.seq (.seq (.reg [⟨(some 59), .fa 8 (.tmp 10), none⟩,
 ⟨(some 60), .ldn 4 (.tmp 59), none⟩,
 ⟨(some 61), .mv (.const (.int .i64 0)), none⟩])
 (.block 6 (.loop (.seq (.reg [⟨(some 62), .bin .lss (.tmp 61) (.const (.int .i64 4)), none⟩])
 (.seq (.cond (.tmp 62)
 (.skip)
 (.exit 6))
 (.seq (.block 7 (.seq (.reg [⟨(some 63), .ix 4 (.tmp 60) (.tmp 61), none⟩,
 ⟨(some 13), .mv (.tmp 63), none⟩])
 (.reg [⟨(some 64), .ld1 (.tmp 6), none⟩,
 ⟨(some 65), .mv (.tmp 13), none⟩,
 ⟨(some 66), .conv .i64 (.tmp 65), none⟩,
 ⟨(some 67), .yv (.tmp 64) [(.tmp 66)], none⟩])))
 (.reg [⟨(some 68), .bin .add (.tmp 61) (.const (.int .i64 1)), none⟩,
 ⟨(some 61), .mv (.tmp 68), none⟩])))))))
 (.seq (.reg [⟨(some 69), .fa 12 (.tmp 10), none⟩,
 ⟨(some 70), .ldn 4 (.tmp 69), none⟩,
 ⟨(some 71), .mv (.const (.int .i64 0)), none⟩])
 (.block 8 (.loop (.seq (.reg [⟨(some 72), .bin .lss (.tmp 71) (.const (.int .i64 4)), none⟩])
 (.seq (.cond (.tmp 72)
 (.skip)
 (.exit 8))
 (.seq (.block 9 (.seq (.reg [⟨(some 73), .ix 4 (.tmp 70) (.tmp 71), none⟩,
 ⟨(some 15), .mv (.tmp 73), none⟩])
 (.reg [⟨(some 74), .ld1 (.tmp 6), none⟩,
 ⟨(some 75), .mv (.tmp 15), none⟩,
 ⟨(some 76), .yv (.tmp 74) [(.tmp 75)], none⟩])))
 (.reg [⟨(some 77), .bin .add (.tmp 71) (.const (.int .i64 1)), none⟩,
 ⟨(some 71), .mv (.tmp 77), none⟩])))))))))))
 (.reg [⟨(some 78), .bin .add (.tmp 48) (.const (.int .i64 1)), none⟩,
 ⟨(some 48), .mv (.tmp 78), none⟩])))))))
 (.seq (.reg [⟨(some 79), .ld1 (.tmp 5), none⟩,
 ⟨(some 2), .mv (.tmp 79), none⟩,
 ⟨(some 3), .mv (.const (.int .i64 0)), none⟩])
 (.ret)))))))
theorem k24 : fnOk Try.prog 24 = some (M24, [.t 2, .t 3], 80) := by kernel_rfl

theorem c_Encode (c : Cd) (hc : CdAt w0 H c) (hy : mayP c → ∀ a k G, BB w0 H G a k c.bytes → Grow w0 H G → K (.tuple #[.slice a c.bytes.length k, .int .i64 0]) G) (hn : ¬ mayP c → K (.tuple #[.slice none 0 0, .int .i64 260]) H) :
    HCalls Try.prog w0 24 [c.v] H K := by
  have hrow := fun (G : Heap) (g : Grow w0 H G) (k : Nat) (i : Ins) => (hc.grow g).row (k := k) (i := i)
  have hCk := fun (G : Heap) (K : Value → Heap → Prop) (g : Grow w0 H G) => c_Check (K := K) c (hc.grow g)
  have hm := hc.lm
  by_cases ho : mayP c
  · replace hy := hy ho
    have hCk := fun (G : Heap) (K : Value → Heap → Prop) (g : Grow w0 H G) (h : K (.int .i64 0) G) => hCk G K g (fun _ => h) (fun h => absurd ho h)
    have hlen := ho.2.1
    clear hc hn ho
    replace hy : Keep _ := hy
    replace hCk : Keep _ := hCk
    replace hrow : Keep _ := hrow
    unfold Cd.v at hCk ⊢
    refine HL.hc k24 999 ?_; unfold M24
    simp only [Sq,Sr,Sh,Si,Sl,Bu,Bb,Bd,Bc,Bw,Bn,Int.reduceAdd,Int.reduceSub,Int.reduceMul,Int.reduceTDiv,Int.reduceTMod,Int.reduceMod,Int.reduceDiv,Nat.reduceLT,Nat.reduceEqDiff,Sa,Sb,Sc,Sd,Se,Sf,Sg,Int.reduceLE,Int.reduceLT,Int.reduceToNat,Int.reduceNeg,Int.reduceEq,Nat.reduceLeDiff,Nat.reducePow,Int.reducePow,reduceIte,Nat.reduceSub,Nat.reduceAdd,Nat.reduceMul,putAt,ceq,List.replicate, *]
    refine AllocQ_i ?_
    intro b1 hb1 hn1
    (all_goals (try simp only [Sq,Sr,Sh,Si,Sl,Bu,Bb,Bd,Bc,Bw,Bn,Int.reduceAdd,Int.reduceSub,Int.reduceMul,Int.reduceTDiv,Int.reduceTMod,Int.reduceMod,Int.reduceDiv,Nat.reduceLT,Nat.reduceEqDiff,Sa,Sb,Sc,Sd,Se,Sf,Sg,Int.reduceLE,Int.reduceLT,Int.reduceToNat,Int.reduceNeg,Int.reduceEq,Nat.reduceLeDiff,Nat.reducePow,Int.reducePow,reduceIte,Nat.reduceSub,Nat.reduceAdd,Nat.reduceMul,putAt,ceq,List.replicate, *])); repeat' ((first | (with_reducible refine fun _ : True => ?_) | refine hCk _ _ (by (repeat' (first | exact Grow.refl _ | assumption | (refine Grow_known (by first | (simp only [Heap.set_same, set_ne, ne_eq, not_false_eq_true, *] <;> rfl) | fail) ?_) | (refine Grow.set ?_ (by assumption) (by first | (simp only [*] <;> done) | (simp [set_none', Heap.set_same, set_ne, noneH, *] <;> done) | fail)) | (refine Grow.trans ?_ (by assumption))))) ?_ | (with_reducible refine any_h ?_) | ((first | refine AllocQ_i ?_ | refine AllocO_i ?_); intro bk hb0 hbk; (try simp only [set_none'] at hbk); (try (first | have hbn := Grow.none (by assumption) hbk | have hbn := Grow.none (by assumption) hbk.2 | have hbn := Grow.none (by assumption) hbk.2.2 | have hbn := Grow.none (by assumption) hbk.2.2.2 | have hbn := Grow.none (by assumption) hbk.2.2.2.2 | have hbn := Grow.none (by assumption) hbk.2.2.2.2.2)); (try simp only [set_none'] at hbn); (try (first | have hbm := Grow.none (by assumption) hbn | have hbm := Grow.none (by assumption) hbn.2 | have hbm := Grow.none (by assumption) hbn.2.2 | have hbm := Grow.none (by assumption) hbn.2.2.2 | have hbm := Grow.none (by assumption) hbn.2.2.2.2 | have hbm := Grow.none (by assumption) hbn.2.2.2.2.2)); (try simp only [set_none'] at hbm)) | ((first | refine condS_i ?_ ?_ | refine pick_i ?_ ?_ | refine gS_it ?_ ?_ | refine gS_if ?_ ?_ | refine gP_it ?_ ?_ | refine gP_if ?_ ?_) <;> (intro hc; try simp only [Int.reduceLE,Int.reduceLT,Int.reduceEq,Sn] at hc)) | (with_reducible refine And.intro ?_ ?_)) <;> (try simp only [Sq,Sr,Sh,Si,Sl,Bu,Bb,Bd,Bc,Bw,Bn,Int.reduceAdd,Int.reduceSub,Int.reduceMul,Int.reduceTDiv,Int.reduceTMod,Int.reduceMod,Int.reduceDiv,Nat.reduceLT,Nat.reduceEqDiff,Sa,Sb,Sc,Sd,Se,Sf,Sg,Int.reduceLE,Int.reduceLT,Int.reduceToNat,Int.reduceNeg,Int.reduceEq,Nat.reduceLeDiff,Nat.reducePow,Int.reducePow,reduceIte,Nat.reduceSub,Nat.reduceAdd,Nat.reduceMul,putAt,ceq,List.replicate, *]))
    · rfl
    rename_i b2 hb2 q2 b3 hb3 q3
    refine loopq_heap ?_
    intro H0 eH
    have k1 : H0 b1 = some _ := at_of eH (by simp only [Heap.set_same, set_ne, ne_eq, not_false_eq_true, *] <;> rfl)
    have k2 : H0 b2 = some _ := at_of eH (by simp only [Heap.set_same, set_ne, ne_eq, not_false_eq_true, *] <;> rfl)
    have k3 : H0 b3 = some _ := at_of eH (by simp only [Heap.set_same, set_ne, ne_eq, not_false_eq_true, *] <;> rfl)
    have k4 : H0 bk = some _ := at_of eH (by simp only [Heap.set_same, set_ne, ne_eq, not_false_eq_true, *] <;> rfl)
    have g0 : Grow w0 H H0 := by rw [eH]; exact (by (repeat' (first | exact Grow.refl _ | assumption | (refine Grow_known (by first | (simp only [Heap.set_same, set_ne, ne_eq, not_false_eq_true, *] <;> rfl) | fail) ?_) | (refine Grow.set ?_ (by assumption) (by first | (simp only [*] <;> done) | (simp [set_none', Heap.set_same, set_ne, noneH, *] <;> done) | fail)) | (refine Grow.trans ?_ (by assumption)))))
    have kv : ∃ a k, H0 b2 = some ⟨.t 44, [.slice a (bytesL []).length k]⟩ ∧ BB w0 H H0 a k (bytesL []) := ⟨none, 0, k2, Bld.none⟩
    have hS : EnSt w0 H H0 b2 (bytesL (c.hd.take 0)) := ⟨kv, g0, by first | exact q2.2 | (simp_all), hb2⟩
    clear eH kv k2
    have d12 : b1 ≠ b2 := q2.1.2
    have d32 : b3 ≠ b2 := q3.1.1
    have d42 : bk ≠ b2 := hbk.2.1.1
    clear q2 q3 hbk hb0 hb3 hn1 hb1
    have hhd : c.hd.length = 7 := rfl
    have k4 : H0 bk = some ⟨.t 3, c.hd.map fun x => .int .i64 x⟩ := k4
    refine loop_g 38 (fun s : Nat × Value × Heap => [(8, s.2.1), (37, .int .i64 (s.1 : Nat))]) (fun s => s.2.2) (fun s => s.1 ≤ 7 ∧ EnSt w0 H s.2.2 b2 (bytesL (c.hd.take s.1)) ∧ Kept b2 H0 s.2.2) (fun s => 7 - s.1) (0, undef, _) ⟨Nat.zero_le _, hS, Kept.refl⟩ (Heap.Le.refl _) rfl ?_
    clear hS
    intro ⟨k, v, G⟩ g ⟨hk, hS, hK⟩
    simp only at hk hS hK
    rcases Nat.lt_or_ge k 7 with hlt | hge
    · obtain ⟨x, ex⟩ : ∃ x, c.hd[k]? = some x := ⟨_, List.getElem?_eq_getElem (by omega)⟩
      have f3 : rd1 w0 G b3 0 = some (.func (.func 42) #[] #[.pointer (some ⟨b2, 0, none⟩)]) := by unfold rd1; rw [hK _ _ k3 d32 (fun e => by cases e)]; rfl
      have f4 : rd1 w0 G bk k = some (.int .i64 x) := by unfold rd1; rw [hK _ _ k4 d42 (fun e => by cases e)]; simp only [List.getElem?_map, ex]; rfl
      have t0 : (k : Int) < 7 := by omega
      have t6 : IntKind.i64.wrap ((k : Int) + 1) = (k : Int) + 1 := Bw.1 _ (by omega) (by omega)
      have hb : (bytesL (c.hd.take k)).length ≤ 1000000000 := by rw [bytesL_len, List.length_take]; omega
      clear hy hCk hrow
      (all_goals (try simp only [Sq,Sr,Sh,Si,Sl,Bu,Bb,Bd,Bc,Bw,Bn,Int.reduceAdd,Int.reduceSub,Int.reduceMul,Int.reduceTDiv,Int.reduceTMod,Int.reduceMod,Int.reduceDiv,Nat.reduceLT,Nat.reduceEqDiff,Sa,Sb,Sc,Sd,Se,Sf,Sg,Int.reduceLE,Int.reduceLT,Int.reduceToNat,Int.reduceNeg,Int.reduceEq,Nat.reduceLeDiff,Nat.reducePow,Int.reducePow,reduceIte,Nat.reduceSub,Nat.reduceAdd,Nat.reduceMul,putAt,ceq,List.replicate, *])); repeat' ((first | (with_reducible refine fun _ : True => ?_) | refine c_enc1 hS hb (fun G2 hS2 hK2 => ?_)  | (with_reducible refine any_h ?_) | ((first | refine AllocQ_i ?_ | refine AllocO_i ?_); intro bk hb0 hbk; (try simp only [set_none'] at hbk); (try (first | have hbn := Grow.none (by assumption) hbk | have hbn := Grow.none (by assumption) hbk.2 | have hbn := Grow.none (by assumption) hbk.2.2 | have hbn := Grow.none (by assumption) hbk.2.2.2 | have hbn := Grow.none (by assumption) hbk.2.2.2.2 | have hbn := Grow.none (by assumption) hbk.2.2.2.2.2)); (try simp only [set_none'] at hbn); (try (first | have hbm := Grow.none (by assumption) hbn | have hbm := Grow.none (by assumption) hbn.2 | have hbm := Grow.none (by assumption) hbn.2.2 | have hbm := Grow.none (by assumption) hbn.2.2.2 | have hbm := Grow.none (by assumption) hbn.2.2.2.2 | have hbm := Grow.none (by assumption) hbn.2.2.2.2.2)); (try simp only [set_none'] at hbm)) | ((first | refine condS_i ?_ ?_ | refine pick_i ?_ ?_ | refine gS_it ?_ ?_ | refine gS_if ?_ ?_ | refine gP_it ?_ ?_ | refine gP_if ?_ ?_) <;> (intro hc; try simp only [Int.reduceLE,Int.reduceLT,Int.reduceEq,Sn] at hc)) | (with_reducible refine And.intro ?_ ?_)) <;> (try simp only [Sq,Sr,Sh,Si,Sl,Bu,Bb,Bd,Bc,Bw,Bn,Int.reduceAdd,Int.reduceSub,Int.reduceMul,Int.reduceTDiv,Int.reduceTMod,Int.reduceMod,Int.reduceDiv,Nat.reduceLT,Nat.reduceEqDiff,Sa,Sb,Sc,Sd,Se,Sf,Sg,Int.reduceLE,Int.reduceLT,Int.reduceToNat,Int.reduceNeg,Int.reduceEq,Nat.reduceLeDiff,Nat.reducePow,Int.reducePow,reduceIte,Nat.reduceSub,Nat.reduceAdd,Nat.reduceMul,putAt,ceq,List.replicate, *]))
      rw [← bytesL_snoc, ← take_succ' ex] at hS2
      (all_goals (try simp only [Sq,Sr,Sh,Si,Sl,Bu,Bb,Bd,Bc,Bw,Bn,Int.reduceAdd,Int.reduceSub,Int.reduceMul,Int.reduceTDiv,Int.reduceTMod,Int.reduceMod,Int.reduceDiv,Nat.reduceLT,Nat.reduceEqDiff,Sa,Sb,Sc,Sd,Se,Sf,Sg,Int.reduceLE,Int.reduceLT,Int.reduceToNat,Int.reduceNeg,Int.reduceEq,Nat.reduceLeDiff,Nat.reducePow,Int.reducePow,reduceIte,Nat.reduceSub,Nat.reduceAdd,Nat.reduceMul,putAt,ceq,List.replicate, *])); repeat' ((first | (with_reducible refine fun _ : True => ?_) | (with_reducible refine any_h ?_) | ((first | refine AllocQ_i ?_ | refine AllocO_i ?_); intro bk hb0 hbk; (try simp only [set_none'] at hbk); (try (first | have hbn := Grow.none (by assumption) hbk | have hbn := Grow.none (by assumption) hbk.2 | have hbn := Grow.none (by assumption) hbk.2.2 | have hbn := Grow.none (by assumption) hbk.2.2.2 | have hbn := Grow.none (by assumption) hbk.2.2.2.2 | have hbn := Grow.none (by assumption) hbk.2.2.2.2.2)); (try simp only [set_none'] at hbn); (try (first | have hbm := Grow.none (by assumption) hbn | have hbm := Grow.none (by assumption) hbn.2 | have hbm := Grow.none (by assumption) hbn.2.2 | have hbm := Grow.none (by assumption) hbn.2.2.2 | have hbm := Grow.none (by assumption) hbn.2.2.2.2 | have hbm := Grow.none (by assumption) hbn.2.2.2.2.2)); (try simp only [set_none'] at hbm)) | ((first | refine condS_i ?_ ?_ | refine pick_i ?_ ?_ | refine gS_it ?_ ?_ | refine gS_if ?_ ?_ | refine gP_it ?_ ?_ | refine gP_if ?_ ?_) <;> (intro hc; try simp only [Int.reduceLE,Int.reduceLT,Int.reduceEq,Sn] at hc)) | (with_reducible refine And.intro ?_ ?_)) <;> (try simp only [Sq,Sr,Sh,Si,Sl,Bu,Bb,Bd,Bc,Bw,Bn,Int.reduceAdd,Int.reduceSub,Int.reduceMul,Int.reduceTDiv,Int.reduceTMod,Int.reduceMod,Int.reduceDiv,Nat.reduceLT,Nat.reduceEqDiff,Sa,Sb,Sc,Sd,Se,Sf,Sg,Int.reduceLE,Int.reduceLT,Int.reduceToNat,Int.reduceNeg,Int.reduceEq,Nat.reduceLeDiff,Nat.reducePow,Int.reducePow,reduceIte,Nat.reduceSub,Nat.reduceAdd,Nat.reduceMul,putAt,ceq,List.replicate, *]))
      exact Round_mk (k + 1, _, G2) ⟨hlt, hS2, hK.trans hK2⟩ (by simp only; omega) (Heap.Le.refl _) rfl rfl
    · obtain rfl : k = 7 := by omega
      have t0 : ¬ ((7 : Nat) : Int) < 7 := by omega
      have hS : EnSt w0 H G b2 (bytesL c.hd) := hS
      have k1 := hK _ _ k1 d12 (fun e => by cases e)
      have k3 := hK _ _ k3 d32 (fun e => by cases e)
      have f1 := rdn_blk (w0 := w0) (n := 6) k1 rfl (by omega)
      have f2 : ∀ k, rd1 w0 G b1 k = _ := fun k => by unfold rd1; rw [k1]
      have f3 : rd1 w0 G b3 0 = some (.func (.func 42) #[] #[.pointer (some ⟨b2, 0, none⟩)]) := by unfold rd1; rw [k3]; rfl
      clear hK k4
      (all_goals (try simp only [Sq,Sr,Sh,Si,Sl,Bu,Bb,Bd,Bc,Bw,Bn,Int.reduceAdd,Int.reduceSub,Int.reduceMul,Int.reduceTDiv,Int.reduceTMod,Int.reduceMod,Int.reduceDiv,Nat.reduceLT,Nat.reduceEqDiff,Sa,Sb,Sc,Sd,Se,Sf,Sg,Int.reduceLE,Int.reduceLT,Int.reduceToNat,Int.reduceNeg,Int.reduceEq,Nat.reduceLeDiff,Nat.reducePow,Int.reducePow,reduceIte,Nat.reduceSub,Nat.reduceAdd,Nat.reduceMul,putAt,ceq,List.replicate, *])); repeat' ((first | (with_reducible refine fun _ : True => ?_) | (with_reducible refine any_h ?_) | ((first | refine AllocQ_i ?_ | refine AllocO_i ?_); intro bk hb0 hbk; (try simp only [set_none'] at hbk); (try (first | have hbn := Grow.none (by assumption) hbk | have hbn := Grow.none (by assumption) hbk.2 | have hbn := Grow.none (by assumption) hbk.2.2 | have hbn := Grow.none (by assumption) hbk.2.2.2 | have hbn := Grow.none (by assumption) hbk.2.2.2.2 | have hbn := Grow.none (by assumption) hbk.2.2.2.2.2)); (try simp only [set_none'] at hbn); (try (first | have hbm := Grow.none (by assumption) hbn | have hbm := Grow.none (by assumption) hbn.2 | have hbm := Grow.none (by assumption) hbn.2.2 | have hbm := Grow.none (by assumption) hbn.2.2.2 | have hbm := Grow.none (by assumption) hbn.2.2.2.2 | have hbm := Grow.none (by assumption) hbn.2.2.2.2.2)); (try simp only [set_none'] at hbm)) | ((first | refine condS_i ?_ ?_ | refine pick_i ?_ ?_ | refine gS_it ?_ ?_ | refine gS_if ?_ ?_ | refine gP_it ?_ ?_ | refine gP_if ?_ ?_) <;> (intro hc; try simp only [Int.reduceLE,Int.reduceLT,Int.reduceEq,Sn] at hc)) | (with_reducible refine And.intro ?_ ?_)) <;> (try simp only [Sq,Sr,Sh,Si,Sl,Bu,Bb,Bd,Bc,Bw,Bn,Int.reduceAdd,Int.reduceSub,Int.reduceMul,Int.reduceTDiv,Int.reduceTMod,Int.reduceMod,Int.reduceDiv,Nat.reduceLT,Nat.reduceEqDiff,Sa,Sb,Sc,Sd,Se,Sf,Sg,Int.reduceLE,Int.reduceLT,Int.reduceToNat,Int.reduceNeg,Int.reduceEq,Nat.reduceLeDiff,Nat.reducePow,Int.reducePow,reduceIte,Nat.reduceSub,Nat.reduceAdd,Nat.reduceMul,putAt,ceq,List.replicate, *]))
      have hS0 : EnSt w0 H G b2 (bytesL (c.hd ++ ((c.is.take 0).map Ins.nums).flatten)) := by simpa using hS
      refine loop_g 49 (fun s : Nat × (Value × Value × Value × Value) × Heap => [(10, s.2.1.1), (11, s.2.1.2.1), (13, s.2.1.2.2.1), (15, s.2.1.2.2.2), (48, .int .i64 (s.1 : Nat))]) (fun s => s.2.2) (fun s => s.1 ≤ c.is.length ∧ EnSt w0 H s.2.2 b2 (bytesL (c.hd ++ ((c.is.take s.1).map Ins.nums).flatten)) ∧ Kept b2 G s.2.2) (fun s => c.is.length - s.1) (0, (undef, undef, undef, undef), _) ⟨Nat.zero_le _, hS0, Kept.refl⟩ (Heap.Le.refl _) rfl ?_
      clear hS0 hS hge hk f1 f2 f3
      intro ⟨k, ⟨v10, v11, v13, v15⟩, G1⟩ g ⟨hk, hS, hK⟩
      simp only at hk hS hK
      have k1 := hK _ _ k1 d12 (fun e => by cases e)
      have k3 := hK _ _ k3 d32 (fun e => by cases e)
      have f3 : rd1 w0 G1 b3 0 = some (.func (.func 42) #[] #[.pointer (some ⟨b2, 0, none⟩)]) := by unfold rd1; rw [k3]; rfl
      rcases Nat.lt_or_ge k c.is.length with hlt | hge
      · obtain ⟨i, ei⟩ : ∃ i, c.is[k]? = some i := ⟨_, List.getElem?_eq_getElem hlt⟩
        obtain ⟨b, o, ea, hr, hf⟩ := hrow G1 hS.g k i ei
        have t0 : (k : Int) < c.is.length := by omega
        have t6 : IntKind.i64.wrap ((k : Int) + 1) = (k : Int) + 1 := Bw.1 _ (by omega) (by unfold maxLen at hm; omega)
        unfold Ins.row at hr
        clear hy hCk hrow
        (all_goals (try simp only [Sq,Sr,Sh,Si,Sl,Bu,Bb,Bd,Bc,Bw,Bn,Int.reduceAdd,Int.reduceSub,Int.reduceMul,Int.reduceTDiv,Int.reduceTMod,Int.reduceMod,Int.reduceDiv,Nat.reduceLT,Nat.reduceEqDiff,Sa,Sb,Sc,Sd,Se,Sf,Sg,Int.reduceLE,Int.reduceLT,Int.reduceToNat,Int.reduceNeg,Int.reduceEq,Nat.reduceLeDiff,Nat.reducePow,Int.reducePow,reduceIte,Nat.reduceSub,Nat.reduceAdd,Nat.reduceMul,putAt,ceq,List.replicate, *])); repeat' ((first | (with_reducible refine fun _ : True => ?_) | refine c_numbers (fun b5 hb5 hn5 => ?_)  | (with_reducible refine any_h ?_) | ((first | refine AllocQ_i ?_ | refine AllocO_i ?_); intro bk hb0 hbk; (try simp only [set_none'] at hbk); (try (first | have hbn := Grow.none (by assumption) hbk | have hbn := Grow.none (by assumption) hbk.2 | have hbn := Grow.none (by assumption) hbk.2.2 | have hbn := Grow.none (by assumption) hbk.2.2.2 | have hbn := Grow.none (by assumption) hbk.2.2.2.2 | have hbn := Grow.none (by assumption) hbk.2.2.2.2.2)); (try simp only [set_none'] at hbn); (try (first | have hbm := Grow.none (by assumption) hbn | have hbm := Grow.none (by assumption) hbn.2 | have hbm := Grow.none (by assumption) hbn.2.2 | have hbm := Grow.none (by assumption) hbn.2.2.2 | have hbm := Grow.none (by assumption) hbn.2.2.2.2 | have hbm := Grow.none (by assumption) hbn.2.2.2.2.2)); (try simp only [set_none'] at hbm)) | ((first | refine condS_i ?_ ?_ | refine pick_i ?_ ?_ | refine gS_it ?_ ?_ | refine gS_if ?_ ?_ | refine gP_it ?_ ?_ | refine gP_if ?_ ?_) <;> (intro hc; try simp only [Int.reduceLE,Int.reduceLT,Int.reduceEq,Sn] at hc)) | (with_reducible refine And.intro ?_ ?_)) <;> (try simp only [Sq,Sr,Sh,Si,Sl,Bu,Bb,Bd,Bc,Bw,Bn,Int.reduceAdd,Int.reduceSub,Int.reduceMul,Int.reduceTDiv,Int.reduceTMod,Int.reduceMod,Int.reduceDiv,Nat.reduceLT,Nat.reduceEqDiff,Sa,Sb,Sc,Sd,Se,Sf,Sg,Int.reduceLE,Int.reduceLT,Int.reduceToNat,Int.reduceNeg,Int.reduceEq,Nat.reduceLeDiff,Nat.reducePow,Int.reducePow,reduceIte,Nat.reduceSub,Nat.reduceAdd,Nat.reduceMul,putAt,ceq,List.replicate, *]))
        simp only [set_none'] at hn5
        unfold rfQ
        dsimp only
        intro l L hl0 hln hL
        generalize hF0 : ((G1.set bk _).set b5 _) = F0 at hln ⊢
        have gF : Grow w0 G1 F0 := by rw [← hF0]; exact (by (repeat' (first | exact Grow.refl _ | assumption | (refine Grow_known (by first | (simp only [Heap.set_same, set_ne, ne_eq, not_false_eq_true, *] <;> rfl) | fail) ?_) | (refine Grow.set ?_ (by assumption) (by first | (simp only [*] <;> done) | (simp [set_none', Heap.set_same, set_ne, noneH, *] <;> done) | fail)) | (refine Grow.trans ?_ (by assumption)))))
        have e4 : F0 bk = some ⟨.t 30, i.row⟩ := by rw [← hF0]; exact (by simp only [Heap.set_same, set_ne, ne_eq, not_false_eq_true, *] <;> rfl)
        have e5 : F0 b5 = some ⟨.t 75, [.pointer (some ⟨bk, 0, none⟩)]⟩ := by rw [← hF0]; exact (by simp only [Heap.set_same, set_ne, ne_eq, not_false_eq_true, *] <;> rfl)
        clear hF0
        have e3 := gF.some k3
        have hS1 := hS.grow gF
        have hF := hS1.g
        have n2 : l ≠ b2 := ((blk_ne hS1.ex.choose_spec.choose_spec.1) l hln).1
        have n3 : l ≠ b3 := (blk_ne e3 l hln).1
        have n4 : l ≠ bk := (blk_ne e4 l hln).1
        have n5 : l ≠ b5 := (blk_ne e5 l hln).1
        have hlH : H l = none := hF.none hln
        have gL : Grow w0 F0 (F0.set l ⟨.o (.loop L), []⟩) := Grow.set (Grow.refl _) hl0 hln
        have s4 : bk ≠ b2 := fun e => by subst e; rw [hS1.ex.choose_spec.choose_spec.1] at e4; cases e4
        refine c_numbers1 (ib := bk) (fun j F => EnSt w0 H F b2 (bytesL (c.hd ++ ((c.is.take k).map Ins.nums).flatten ++ i.nums.take j)) ∧ Kept b2 (F0.set l ⟨.o (.loop L), []⟩) F) (gL.some e5) ?_ ?_ ?_
        · intro F gF1
          exact ⟨by simpa using (hS1.grow gL).grow gF1, fun d z h _ _ => gF1.some h⟩
        · intro j F K' hj ⟨hSj, hKj⟩ hK'
          have kl : F l = some ⟨.o (.loop L), []⟩ := hKj l _ (Heap.set_same _ _ _) n2 (fun e => by cases e)
          have hSb := hSj.turn (x := ⟨.o (.loop { L with state := .busy }), []⟩) hlH hl0 kl (fun e => by cases e) n2
          have m3 := hKj _ _ (gL.some e3) d32 (fun e => by cases e)
          have m4 := hKj _ _ (gL.some e4) s4 (fun e => by cases e)
          have q3 : rd1 w0 F b3 0 = some (.func (.func 42) #[] #[.pointer (some ⟨b2, 0, none⟩)]) := by unfold rd1; rw [m3]; rfl
          obtain ⟨x, ex⟩ : ∃ x, i.nums[j]? = some x := ⟨_, List.getElem?_eq_getElem (by unfold Ins.nums; simp only [List.length_cons, List.length_nil]; omega)⟩
          have q4 : rd1 w0 F bk j = some (.int .i64 x) := by
            unfold rd1
            rw [m4]
            rcases (show j = 0 ∨ j = 1 ∨ j = 2 ∨ j = 3 ∨ j = 4 ∨ j = 5 ∨ j = 6 ∨ j = 7 by omega) with rfl | rfl | rfl | rfl | rfl | rfl | rfl | rfl <;> (unfold Ins.nums at ex; simp at ex; subst ex; rfl)
          have hbl : (bytesL (c.hd ++ ((c.is.take k).map Ins.nums).flatten ++ i.nums.take j)).length ≤ 1000000000 := by
            rw [bytesL_len, List.length_append, List.length_append, nums_len, List.length_take, List.length_take]
            omega
          have hst := hL.st
          refine hround hL kl rfl 200 ?_
          have hSj' := hSj
          clear hL hSj m3 m4
          unfold putR
          simp only [List.zip_cons_cons, List.zip_nil_right, List.zip_nil_left, List.foldl_cons, List.foldl_nil]
          (all_goals (try simp only [Sq,Sr,Sh,Si,Sl,Bu,Bb,Bd,Bc,Bw,Bn,Int.reduceAdd,Int.reduceSub,Int.reduceMul,Int.reduceTDiv,Int.reduceTMod,Int.reduceMod,Int.reduceDiv,Nat.reduceLT,Nat.reduceEqDiff,Sa,Sb,Sc,Sd,Se,Sf,Sg,Int.reduceLE,Int.reduceLT,Int.reduceToNat,Int.reduceNeg,Int.reduceEq,Nat.reduceLeDiff,Nat.reducePow,Int.reducePow,reduceIte,Nat.reduceSub,Nat.reduceAdd,Nat.reduceMul,putAt,ceq,List.replicate, *])); repeat' ((first | (with_reducible refine fun _ : True => ?_) | (with_reducible refine any_h ?_) | ((first | refine AllocQ_i ?_ | refine AllocO_i ?_); intro bk hb0 hbk; (try simp only [set_none'] at hbk); (try (first | have hbn := Grow.none (by assumption) hbk | have hbn := Grow.none (by assumption) hbk.2 | have hbn := Grow.none (by assumption) hbk.2.2 | have hbn := Grow.none (by assumption) hbk.2.2.2 | have hbn := Grow.none (by assumption) hbk.2.2.2.2 | have hbn := Grow.none (by assumption) hbk.2.2.2.2.2)); (try simp only [set_none'] at hbn); (try (first | have hbm := Grow.none (by assumption) hbn | have hbm := Grow.none (by assumption) hbn.2 | have hbm := Grow.none (by assumption) hbn.2.2 | have hbm := Grow.none (by assumption) hbn.2.2.2 | have hbm := Grow.none (by assumption) hbn.2.2.2.2 | have hbm := Grow.none (by assumption) hbn.2.2.2.2.2)); (try simp only [set_none'] at hbm)) | ((first | refine condS_i ?_ ?_ | refine pick_i ?_ ?_ | refine gS_it ?_ ?_ | refine gS_if ?_ ?_ | refine gP_it ?_ ?_ | refine gP_if ?_ ?_) <;> (intro hc; try simp only [Int.reduceLE,Int.reduceLT,Int.reduceEq,Sn] at hc)) | (with_reducible refine And.intro ?_ ?_)) <;> (try simp only [Sq,Sr,Sh,Si,Sl,Bu,Bb,Bd,Bc,Bw,Bn,Int.reduceAdd,Int.reduceSub,Int.reduceMul,Int.reduceTDiv,Int.reduceTMod,Int.reduceMod,Int.reduceDiv,Nat.reduceLT,Nat.reduceEqDiff,Sa,Sb,Sc,Sd,Se,Sf,Sg,Int.reduceLE,Int.reduceLT,Int.reduceToNat,Int.reduceNeg,Int.reduceEq,Nat.reduceLeDiff,Nat.reducePow,Int.reducePow,reduceIte,Nat.reduceSub,Nat.reduceAdd,Nat.reduceMul,putAt,ceq,List.replicate, *]))
          refine ⟨kl, hst, ?_⟩
          (all_goals (try simp only [Sq,Sr,Sh,Si,Sl,Bu,Bb,Bd,Bc,Bw,Bn,Int.reduceAdd,Int.reduceSub,Int.reduceMul,Int.reduceTDiv,Int.reduceTMod,Int.reduceMod,Int.reduceDiv,Nat.reduceLT,Nat.reduceEqDiff,Sa,Sb,Sc,Sd,Se,Sf,Sg,Int.reduceLE,Int.reduceLT,Int.reduceToNat,Int.reduceNeg,Int.reduceEq,Nat.reduceLeDiff,Nat.reducePow,Int.reducePow,reduceIte,Nat.reduceSub,Nat.reduceAdd,Nat.reduceMul,putAt,ceq,List.replicate, *])); repeat' ((first | (with_reducible refine fun _ : True => ?_) | refine c_enc1 hSb hbl (fun G2 hS2 hK2 => ?_)  | (with_reducible refine any_h ?_) | ((first | refine AllocQ_i ?_ | refine AllocO_i ?_); intro bk hb0 hbk; (try simp only [set_none'] at hbk); (try (first | have hbn := Grow.none (by assumption) hbk | have hbn := Grow.none (by assumption) hbk.2 | have hbn := Grow.none (by assumption) hbk.2.2 | have hbn := Grow.none (by assumption) hbk.2.2.2 | have hbn := Grow.none (by assumption) hbk.2.2.2.2 | have hbn := Grow.none (by assumption) hbk.2.2.2.2.2)); (try simp only [set_none'] at hbn); (try (first | have hbm := Grow.none (by assumption) hbn | have hbm := Grow.none (by assumption) hbn.2 | have hbm := Grow.none (by assumption) hbn.2.2 | have hbm := Grow.none (by assumption) hbn.2.2.2 | have hbm := Grow.none (by assumption) hbn.2.2.2.2 | have hbm := Grow.none (by assumption) hbn.2.2.2.2.2)); (try simp only [set_none'] at hbm)) | ((first | refine condS_i ?_ ?_ | refine pick_i ?_ ?_ | refine gS_it ?_ ?_ | refine gS_if ?_ ?_ | refine gP_it ?_ ?_ | refine gP_if ?_ ?_) <;> (intro hc; try simp only [Int.reduceLE,Int.reduceLT,Int.reduceEq,Sn] at hc)) | (with_reducible refine And.intro ?_ ?_)) <;> (try simp only [Sq,Sr,Sh,Si,Sl,Bu,Bb,Bd,Bc,Bw,Bn,Int.reduceAdd,Int.reduceSub,Int.reduceMul,Int.reduceTDiv,Int.reduceTMod,Int.reduceMod,Int.reduceDiv,Nat.reduceLT,Nat.reduceEqDiff,Sa,Sb,Sc,Sd,Se,Sf,Sg,Int.reduceLE,Int.reduceLT,Int.reduceToNat,Int.reduceNeg,Int.reduceEq,Nat.reduceLeDiff,Nat.reducePow,Int.reducePow,reduceIte,Nat.reduceSub,Nat.reduceAdd,Nat.reduceMul,putAt,ceq,List.replicate, *]))
          have kl2 := hK2 l _ (Heap.set_same _ _ _) n2 (fun e => by cases e)
          rw [← bytesL_snoc, List.append_assoc, ← take_succ' ex] at hS2
          refine ⟨kl2, hK' _ ⟨hS2.turn hlH hl0 kl2 (fun e => by cases e) n2, hKj.trans ?_⟩ ?_⟩
          · exact kept_o kl hK2
          · intro d z h1 h2
            refine kept_o kl hK2 d z h1 (fun e => ?_) (fun e => by rw [h2] at e; cases e)
            subst e
            rw [hSj'.ex.choose_spec.choose_spec.1] at h1
            cases h1
            cases h2
        · intro F ⟨hSj, hKj⟩
          have kl : F l = some ⟨.o (.loop L), []⟩ := hKj l _ (Heap.set_same _ _ _) n2 (fun e => by cases e)
          refine ⟨kl, fun ob => ?_⟩
          have m3 := hKj _ _ (gL.some e3) d32 (fun e => by cases e)
          have m4 := hKj _ _ (gL.some e4) s4 (fun e => by cases e)
          have hS8 := hSj.turn (x := ⟨.o ob, []⟩) hlH hl0 kl (fun e => by cases e) n2
          have hK8 : Kept b2 G1 (F.set l ⟨.o ob, []⟩) := fun d z h1 h2 h3 => by
            have hdl : d ≠ l := fun e => by subst e; rw [gF.some h1] at hln; cases hln
            rw [Heap.set_other _ _ hdl]
            exact hKj d z (gL.some (gF.some h1)) h2 h3
          have p3 : (F.set l ⟨.o ob, []⟩) b3 = some _ := (Heap.set_other _ _ (fun e => n3 e.symm)).trans m3
          have p4 : (F.set l ⟨.o ob, []⟩) bk = some _ := (Heap.set_other _ _ (fun e => n4 e.symm)).trans m4
          generalize (F.set l ⟨.o ob, []⟩) = F1 at hS8 hK8 p3 p4 ⊢
          clear hSj hKj kl m3 m4 gL hlH n2 n3 n4 n5 hF hS1 e3 e4 e5 hln gF hL hl0 hn5 hr hf
          have r3 : rd1 w0 F1 b3 0 = some (.func (.func 42) #[] #[.pointer (some ⟨b2, 0, none⟩)]) := by unfold rd1; rw [p3]; rfl
          have r4 : rdn w0 F1 bk 8 4 = some [.int .i32 i.m0, .int .i32 i.m1, .int .i32 i.m2, .int .i32 i.m3] := by
            unfold rdn
            rw [p4]
            rfl
          (all_goals (try simp only [Sq,Sr,Sh,Si,Sl,Bu,Bb,Bd,Bc,Bw,Bn,Int.reduceAdd,Int.reduceSub,Int.reduceMul,Int.reduceTDiv,Int.reduceTMod,Int.reduceMod,Int.reduceDiv,Nat.reduceLT,Nat.reduceEqDiff,Sa,Sb,Sc,Sd,Se,Sf,Sg,Int.reduceLE,Int.reduceLT,Int.reduceToNat,Int.reduceNeg,Int.reduceEq,Nat.reduceLeDiff,Nat.reducePow,Int.reducePow,reduceIte,Nat.reduceSub,Nat.reduceAdd,Nat.reduceMul,putAt,ceq,List.replicate, *])); repeat' ((first | (with_reducible refine fun _ : True => ?_) | (with_reducible refine any_h ?_) | ((first | refine AllocQ_i ?_ | refine AllocO_i ?_); intro bk hb0 hbk; (try simp only [set_none'] at hbk); (try (first | have hbn := Grow.none (by assumption) hbk | have hbn := Grow.none (by assumption) hbk.2 | have hbn := Grow.none (by assumption) hbk.2.2 | have hbn := Grow.none (by assumption) hbk.2.2.2 | have hbn := Grow.none (by assumption) hbk.2.2.2.2 | have hbn := Grow.none (by assumption) hbk.2.2.2.2.2)); (try simp only [set_none'] at hbn); (try (first | have hbm := Grow.none (by assumption) hbn | have hbm := Grow.none (by assumption) hbn.2 | have hbm := Grow.none (by assumption) hbn.2.2 | have hbm := Grow.none (by assumption) hbn.2.2.2 | have hbm := Grow.none (by assumption) hbn.2.2.2.2 | have hbm := Grow.none (by assumption) hbn.2.2.2.2.2)); (try simp only [set_none'] at hbm)) | ((first | refine condS_i ?_ ?_ | refine pick_i ?_ ?_ | refine gS_it ?_ ?_ | refine gS_if ?_ ?_ | refine gP_it ?_ ?_ | refine gP_if ?_ ?_) <;> (intro hc; try simp only [Int.reduceLE,Int.reduceLT,Int.reduceEq,Sn] at hc)) | (with_reducible refine And.intro ?_ ?_)) <;> (try simp only [Sq,Sr,Sh,Si,Sl,Bu,Bb,Bd,Bc,Bw,Bn,Int.reduceAdd,Int.reduceSub,Int.reduceMul,Int.reduceTDiv,Int.reduceTMod,Int.reduceMod,Int.reduceDiv,Nat.reduceLT,Nat.reduceEqDiff,Sa,Sb,Sc,Sd,Se,Sf,Sg,Int.reduceLE,Int.reduceLT,Int.reduceToNat,Int.reduceNeg,Int.reduceEq,Nat.reduceLeDiff,Nat.reducePow,Int.reducePow,reduceIte,Nat.reduceSub,Nat.reduceAdd,Nat.reduceMul,putAt,ceq,List.replicate, *]))
          have hS61 : EnSt w0 H F1 b2 (bytesL (c.hd ++ ((c.is.take k).map Ins.nums).flatten ++ i.nums.take (8 + 0))) := hS8
          refine loop_g 62 (fun s : Nat × Value × Heap => [(13, s.2.1), (61, .int .i64 (s.1 : Nat))]) (fun s => s.2.2) (fun s => s.1 ≤ 4 ∧ EnSt w0 H s.2.2 b2 (bytesL (c.hd ++ ((c.is.take k).map Ins.nums).flatten ++ i.nums.take (8 + s.1))) ∧ Kept b2 F1 s.2.2) (fun s => 4 - s.1) (0, _, _) ⟨Nat.zero_le _, hS61, Kept.refl⟩ (Heap.Le.refl _) rfl ?_
          clear hS61 r3 r4
          intro ⟨m, v61, G61⟩ g ⟨hm4, hSm, hKm⟩
          simp only at hm4 hSm hKm
          have u3 := hKm _ _ p3 d32 (fun e => by cases e)
          have r3 : rd1 w0 G61 b3 0 = some (.func (.func 42) #[] #[.pointer (some ⟨b2, 0, none⟩)]) := by unfold rd1; rw [u3]; rfl
          by_cases hlt4 : m < 4
          · obtain ⟨x, ex⟩ : ∃ x, i.nums[8 + m]? = some x := ⟨_, List.getElem?_eq_getElem (by unfold Ins.nums; simp only [List.length_cons, List.length_nil]; omega)⟩
            have e1 : ([.int .i32 i.m0, .int .i32 i.m1, .int .i32 i.m2, .int .i32 i.m3] : List Value)[m]? = some (.int .i32 x) := by
              rcases (show m = 0 ∨ m = 1 ∨ m = 2 ∨ m = 3 by omega) with rfl | rfl | rfl | rfl <;> (unfold Ins.nums at ex; simp at ex; subst ex; rfl)
            have s0 : (m : Int) < 4 := by omega
            have s1 : m < 4 := hlt4
            have s6 : IntKind.i64.wrap ((m : Int) + 1) = (m : Int) + 1 := Bw.1 _ (by omega) (by omega)
            have hbl : (bytesL (c.hd ++ ((c.is.take k).map Ins.nums).flatten ++ i.nums.take (8 + m))).length ≤ 1000000000 := by
              rw [bytesL_len, List.length_append, List.length_append, nums_len, List.length_take, List.length_take]
              have : i.nums.length = 16 := rfl
              omega
            (all_goals (try simp only [Sq,Sr,Sh,Si,Sl,Bu,Bb,Bd,Bc,Bw,Bn,Int.reduceAdd,Int.reduceSub,Int.reduceMul,Int.reduceTDiv,Int.reduceTMod,Int.reduceMod,Int.reduceDiv,Nat.reduceLT,Nat.reduceEqDiff,Sa,Sb,Sc,Sd,Se,Sf,Sg,Int.reduceLE,Int.reduceLT,Int.reduceToNat,Int.reduceNeg,Int.reduceEq,Nat.reduceLeDiff,Nat.reducePow,Int.reducePow,reduceIte,Nat.reduceSub,Nat.reduceAdd,Nat.reduceMul,putAt,ceq,List.replicate, *])); repeat' ((first | (with_reducible refine fun _ : True => ?_) | refine c_enc1 hSm hbl (fun G2 hS2 hK2 => ?_)  | (with_reducible refine any_h ?_) | ((first | refine AllocQ_i ?_ | refine AllocO_i ?_); intro bk hb0 hbk; (try simp only [set_none'] at hbk); (try (first | have hbn := Grow.none (by assumption) hbk | have hbn := Grow.none (by assumption) hbk.2 | have hbn := Grow.none (by assumption) hbk.2.2 | have hbn := Grow.none (by assumption) hbk.2.2.2 | have hbn := Grow.none (by assumption) hbk.2.2.2.2 | have hbn := Grow.none (by assumption) hbk.2.2.2.2.2)); (try simp only [set_none'] at hbn); (try (first | have hbm := Grow.none (by assumption) hbn | have hbm := Grow.none (by assumption) hbn.2 | have hbm := Grow.none (by assumption) hbn.2.2 | have hbm := Grow.none (by assumption) hbn.2.2.2 | have hbm := Grow.none (by assumption) hbn.2.2.2.2 | have hbm := Grow.none (by assumption) hbn.2.2.2.2.2)); (try simp only [set_none'] at hbm)) | ((first | refine condS_i ?_ ?_ | refine pick_i ?_ ?_ | refine gS_it ?_ ?_ | refine gS_if ?_ ?_ | refine gP_it ?_ ?_ | refine gP_if ?_ ?_) <;> (intro hc; try simp only [Int.reduceLE,Int.reduceLT,Int.reduceEq,Sn] at hc)) | (with_reducible refine And.intro ?_ ?_)) <;> (try simp only [Sq,Sr,Sh,Si,Sl,Bu,Bb,Bd,Bc,Bw,Bn,Int.reduceAdd,Int.reduceSub,Int.reduceMul,Int.reduceTDiv,Int.reduceTMod,Int.reduceMod,Int.reduceDiv,Nat.reduceLT,Nat.reduceEqDiff,Sa,Sb,Sc,Sd,Se,Sf,Sg,Int.reduceLE,Int.reduceLT,Int.reduceToNat,Int.reduceNeg,Int.reduceEq,Nat.reduceLeDiff,Nat.reducePow,Int.reducePow,reduceIte,Nat.reduceSub,Nat.reduceAdd,Nat.reduceMul,putAt,ceq,List.replicate, *]))
            rw [low4_w64, ← bytesL_snoc, List.append_assoc, ← take_succ' ex] at hS2
            (all_goals (try simp only [Sq,Sr,Sh,Si,Sl,Bu,Bb,Bd,Bc,Bw,Bn,Int.reduceAdd,Int.reduceSub,Int.reduceMul,Int.reduceTDiv,Int.reduceTMod,Int.reduceMod,Int.reduceDiv,Nat.reduceLT,Nat.reduceEqDiff,Sa,Sb,Sc,Sd,Se,Sf,Sg,Int.reduceLE,Int.reduceLT,Int.reduceToNat,Int.reduceNeg,Int.reduceEq,Nat.reduceLeDiff,Nat.reducePow,Int.reducePow,reduceIte,Nat.reduceSub,Nat.reduceAdd,Nat.reduceMul,putAt,ceq,List.replicate, *])); repeat' ((first | (with_reducible refine fun _ : True => ?_) | (with_reducible refine any_h ?_) | ((first | refine AllocQ_i ?_ | refine AllocO_i ?_); intro bk hb0 hbk; (try simp only [set_none'] at hbk); (try (first | have hbn := Grow.none (by assumption) hbk | have hbn := Grow.none (by assumption) hbk.2 | have hbn := Grow.none (by assumption) hbk.2.2 | have hbn := Grow.none (by assumption) hbk.2.2.2 | have hbn := Grow.none (by assumption) hbk.2.2.2.2 | have hbn := Grow.none (by assumption) hbk.2.2.2.2.2)); (try simp only [set_none'] at hbn); (try (first | have hbm := Grow.none (by assumption) hbn | have hbm := Grow.none (by assumption) hbn.2 | have hbm := Grow.none (by assumption) hbn.2.2 | have hbm := Grow.none (by assumption) hbn.2.2.2 | have hbm := Grow.none (by assumption) hbn.2.2.2.2 | have hbm := Grow.none (by assumption) hbn.2.2.2.2.2)); (try simp only [set_none'] at hbm)) | ((first | refine condS_i ?_ ?_ | refine pick_i ?_ ?_ | refine gS_it ?_ ?_ | refine gS_if ?_ ?_ | refine gP_it ?_ ?_ | refine gP_if ?_ ?_) <;> (intro hc; try simp only [Int.reduceLE,Int.reduceLT,Int.reduceEq,Sn] at hc)) | (with_reducible refine And.intro ?_ ?_)) <;> (try simp only [Sq,Sr,Sh,Si,Sl,Bu,Bb,Bd,Bc,Bw,Bn,Int.reduceAdd,Int.reduceSub,Int.reduceMul,Int.reduceTDiv,Int.reduceTMod,Int.reduceMod,Int.reduceDiv,Nat.reduceLT,Nat.reduceEqDiff,Sa,Sb,Sc,Sd,Se,Sf,Sg,Int.reduceLE,Int.reduceLT,Int.reduceToNat,Int.reduceNeg,Int.reduceEq,Nat.reduceLeDiff,Nat.reducePow,Int.reducePow,reduceIte,Nat.reduceSub,Nat.reduceAdd,Nat.reduceMul,putAt,ceq,List.replicate, *]))
            exact Round_mk (m + 1, _, G2) ⟨hlt4, hS2, hKm.trans hK2⟩ (by simp only; omega) (Heap.Le.refl _) rfl rfl
          obtain rfl : m = 4 := by omega
          have s0 : ¬ ((4 : Nat) : Int) < 4 := by omega
          have u4 := hKm _ _ p4 s4 (fun e => by cases e)
          have hK9 := hK8.trans hKm
          clear hK8 hKm p3 p4
          have r4 : rdn w0 G61 bk 12 4 = some [.int .i64 i.p0, .int .i64 i.p1, .int .i64 i.p2, .int .i64 i.p3] := by
            unfold rdn
            rw [u4]
            rfl
          have p3 := u3
          have p4 := u4
          clear u3 u4
          (all_goals (try simp only [Sq,Sr,Sh,Si,Sl,Bu,Bb,Bd,Bc,Bw,Bn,Int.reduceAdd,Int.reduceSub,Int.reduceMul,Int.reduceTDiv,Int.reduceTMod,Int.reduceMod,Int.reduceDiv,Nat.reduceLT,Nat.reduceEqDiff,Sa,Sb,Sc,Sd,Se,Sf,Sg,Int.reduceLE,Int.reduceLT,Int.reduceToNat,Int.reduceNeg,Int.reduceEq,Nat.reduceLeDiff,Nat.reducePow,Int.reducePow,reduceIte,Nat.reduceSub,Nat.reduceAdd,Nat.reduceMul,putAt,ceq,List.replicate, *])); repeat' ((first | (with_reducible refine fun _ : True => ?_) | (with_reducible refine any_h ?_) | ((first | refine AllocQ_i ?_ | refine AllocO_i ?_); intro bk hb0 hbk; (try simp only [set_none'] at hbk); (try (first | have hbn := Grow.none (by assumption) hbk | have hbn := Grow.none (by assumption) hbk.2 | have hbn := Grow.none (by assumption) hbk.2.2 | have hbn := Grow.none (by assumption) hbk.2.2.2 | have hbn := Grow.none (by assumption) hbk.2.2.2.2 | have hbn := Grow.none (by assumption) hbk.2.2.2.2.2)); (try simp only [set_none'] at hbn); (try (first | have hbm := Grow.none (by assumption) hbn | have hbm := Grow.none (by assumption) hbn.2 | have hbm := Grow.none (by assumption) hbn.2.2 | have hbm := Grow.none (by assumption) hbn.2.2.2 | have hbm := Grow.none (by assumption) hbn.2.2.2.2 | have hbm := Grow.none (by assumption) hbn.2.2.2.2.2)); (try simp only [set_none'] at hbm)) | ((first | refine condS_i ?_ ?_ | refine pick_i ?_ ?_ | refine gS_it ?_ ?_ | refine gS_if ?_ ?_ | refine gP_it ?_ ?_ | refine gP_if ?_ ?_) <;> (intro hc; try simp only [Int.reduceLE,Int.reduceLT,Int.reduceEq,Sn] at hc)) | (with_reducible refine And.intro ?_ ?_)) <;> (try simp only [Sq,Sr,Sh,Si,Sl,Bu,Bb,Bd,Bc,Bw,Bn,Int.reduceAdd,Int.reduceSub,Int.reduceMul,Int.reduceTDiv,Int.reduceTMod,Int.reduceMod,Int.reduceDiv,Nat.reduceLT,Nat.reduceEqDiff,Sa,Sb,Sc,Sd,Se,Sf,Sg,Int.reduceLE,Int.reduceLT,Int.reduceToNat,Int.reduceNeg,Int.reduceEq,Nat.reduceLeDiff,Nat.reducePow,Int.reducePow,reduceIte,Nat.reduceSub,Nat.reduceAdd,Nat.reduceMul,putAt,ceq,List.replicate, *]))
          have hS71 : EnSt w0 H G61 b2 (bytesL (c.hd ++ ((c.is.take k).map Ins.nums).flatten ++ i.nums.take (12 + 0))) := hSm
          refine loop_g 72 (fun s : Nat × Value × Heap => [(15, s.2.1), (71, .int .i64 (s.1 : Nat))]) (fun s => s.2.2) (fun s => s.1 ≤ 4 ∧ EnSt w0 H s.2.2 b2 (bytesL (c.hd ++ ((c.is.take k).map Ins.nums).flatten ++ i.nums.take (12 + s.1))) ∧ Kept b2 G61 s.2.2) (fun s => 4 - s.1) (0, _, _) ⟨Nat.zero_le _, hS71, Kept.refl⟩ (Heap.Le.refl _) rfl ?_
          clear hS71 r3 r4
          intro ⟨m, v71, G71⟩ g ⟨hm4, hSm, hKm⟩
          simp only at hm4 hSm hKm
          have u3 := hKm _ _ p3 d32 (fun e => by cases e)
          have r3 : rd1 w0 G71 b3 0 = some (.func (.func 42) #[] #[.pointer (some ⟨b2, 0, none⟩)]) := by unfold rd1; rw [u3]; rfl
          by_cases hlt4 : m < 4
          · obtain ⟨x, ex⟩ : ∃ x, i.nums[12 + m]? = some x := ⟨_, List.getElem?_eq_getElem (by unfold Ins.nums; simp only [List.length_cons, List.length_nil]; omega)⟩
            have e1 : ([.int .i64 i.p0, .int .i64 i.p1, .int .i64 i.p2, .int .i64 i.p3] : List Value)[m]? = some (.int .i64 x) := by
              rcases (show m = 0 ∨ m = 1 ∨ m = 2 ∨ m = 3 by omega) with rfl | rfl | rfl | rfl <;> (unfold Ins.nums at ex; simp at ex; subst ex; rfl)
            have s0 : (m : Int) < 4 := by omega
            have s1 : m < 4 := hlt4
            have s6 : IntKind.i64.wrap ((m : Int) + 1) = (m : Int) + 1 := Bw.1 _ (by omega) (by omega)
            have hbl : (bytesL (c.hd ++ ((c.is.take k).map Ins.nums).flatten ++ i.nums.take (12 + m))).length ≤ 1000000000 := by
              rw [bytesL_len, List.length_append, List.length_append, nums_len, List.length_take, List.length_take]
              have : i.nums.length = 16 := rfl
              omega
            (all_goals (try simp only [Sq,Sr,Sh,Si,Sl,Bu,Bb,Bd,Bc,Bw,Bn,Int.reduceAdd,Int.reduceSub,Int.reduceMul,Int.reduceTDiv,Int.reduceTMod,Int.reduceMod,Int.reduceDiv,Nat.reduceLT,Nat.reduceEqDiff,Sa,Sb,Sc,Sd,Se,Sf,Sg,Int.reduceLE,Int.reduceLT,Int.reduceToNat,Int.reduceNeg,Int.reduceEq,Nat.reduceLeDiff,Nat.reducePow,Int.reducePow,reduceIte,Nat.reduceSub,Nat.reduceAdd,Nat.reduceMul,putAt,ceq,List.replicate, *])); repeat' ((first | (with_reducible refine fun _ : True => ?_) | refine c_enc1 hSm hbl (fun G2 hS2 hK2 => ?_)  | (with_reducible refine any_h ?_) | ((first | refine AllocQ_i ?_ | refine AllocO_i ?_); intro bk hb0 hbk; (try simp only [set_none'] at hbk); (try (first | have hbn := Grow.none (by assumption) hbk | have hbn := Grow.none (by assumption) hbk.2 | have hbn := Grow.none (by assumption) hbk.2.2 | have hbn := Grow.none (by assumption) hbk.2.2.2 | have hbn := Grow.none (by assumption) hbk.2.2.2.2 | have hbn := Grow.none (by assumption) hbk.2.2.2.2.2)); (try simp only [set_none'] at hbn); (try (first | have hbm := Grow.none (by assumption) hbn | have hbm := Grow.none (by assumption) hbn.2 | have hbm := Grow.none (by assumption) hbn.2.2 | have hbm := Grow.none (by assumption) hbn.2.2.2 | have hbm := Grow.none (by assumption) hbn.2.2.2.2 | have hbm := Grow.none (by assumption) hbn.2.2.2.2.2)); (try simp only [set_none'] at hbm)) | ((first | refine condS_i ?_ ?_ | refine pick_i ?_ ?_ | refine gS_it ?_ ?_ | refine gS_if ?_ ?_ | refine gP_it ?_ ?_ | refine gP_if ?_ ?_) <;> (intro hc; try simp only [Int.reduceLE,Int.reduceLT,Int.reduceEq,Sn] at hc)) | (with_reducible refine And.intro ?_ ?_)) <;> (try simp only [Sq,Sr,Sh,Si,Sl,Bu,Bb,Bd,Bc,Bw,Bn,Int.reduceAdd,Int.reduceSub,Int.reduceMul,Int.reduceTDiv,Int.reduceTMod,Int.reduceMod,Int.reduceDiv,Nat.reduceLT,Nat.reduceEqDiff,Sa,Sb,Sc,Sd,Se,Sf,Sg,Int.reduceLE,Int.reduceLT,Int.reduceToNat,Int.reduceNeg,Int.reduceEq,Nat.reduceLeDiff,Nat.reducePow,Int.reducePow,reduceIte,Nat.reduceSub,Nat.reduceAdd,Nat.reduceMul,putAt,ceq,List.replicate, *]))
            rw [← bytesL_snoc, List.append_assoc, ← take_succ' ex] at hS2
            (all_goals (try simp only [Sq,Sr,Sh,Si,Sl,Bu,Bb,Bd,Bc,Bw,Bn,Int.reduceAdd,Int.reduceSub,Int.reduceMul,Int.reduceTDiv,Int.reduceTMod,Int.reduceMod,Int.reduceDiv,Nat.reduceLT,Nat.reduceEqDiff,Sa,Sb,Sc,Sd,Se,Sf,Sg,Int.reduceLE,Int.reduceLT,Int.reduceToNat,Int.reduceNeg,Int.reduceEq,Nat.reduceLeDiff,Nat.reducePow,Int.reducePow,reduceIte,Nat.reduceSub,Nat.reduceAdd,Nat.reduceMul,putAt,ceq,List.replicate, *])); repeat' ((first | (with_reducible refine fun _ : True => ?_) | (with_reducible refine any_h ?_) | ((first | refine AllocQ_i ?_ | refine AllocO_i ?_); intro bk hb0 hbk; (try simp only [set_none'] at hbk); (try (first | have hbn := Grow.none (by assumption) hbk | have hbn := Grow.none (by assumption) hbk.2 | have hbn := Grow.none (by assumption) hbk.2.2 | have hbn := Grow.none (by assumption) hbk.2.2.2 | have hbn := Grow.none (by assumption) hbk.2.2.2.2 | have hbn := Grow.none (by assumption) hbk.2.2.2.2.2)); (try simp only [set_none'] at hbn); (try (first | have hbm := Grow.none (by assumption) hbn | have hbm := Grow.none (by assumption) hbn.2 | have hbm := Grow.none (by assumption) hbn.2.2 | have hbm := Grow.none (by assumption) hbn.2.2.2 | have hbm := Grow.none (by assumption) hbn.2.2.2.2 | have hbm := Grow.none (by assumption) hbn.2.2.2.2.2)); (try simp only [set_none'] at hbm)) | ((first | refine condS_i ?_ ?_ | refine pick_i ?_ ?_ | refine gS_it ?_ ?_ | refine gS_if ?_ ?_ | refine gP_it ?_ ?_ | refine gP_if ?_ ?_) <;> (intro hc; try simp only [Int.reduceLE,Int.reduceLT,Int.reduceEq,Sn] at hc)) | (with_reducible refine And.intro ?_ ?_)) <;> (try simp only [Sq,Sr,Sh,Si,Sl,Bu,Bb,Bd,Bc,Bw,Bn,Int.reduceAdd,Int.reduceSub,Int.reduceMul,Int.reduceTDiv,Int.reduceTMod,Int.reduceMod,Int.reduceDiv,Nat.reduceLT,Nat.reduceEqDiff,Sa,Sb,Sc,Sd,Se,Sf,Sg,Int.reduceLE,Int.reduceLT,Int.reduceToNat,Int.reduceNeg,Int.reduceEq,Nat.reduceLeDiff,Nat.reducePow,Int.reducePow,reduceIte,Nat.reduceSub,Nat.reduceAdd,Nat.reduceMul,putAt,ceq,List.replicate, *]))
            exact Round_mk (m + 1, _, G2) ⟨hlt4, hS2, hKm.trans hK2⟩ (by simp only; omega) (Heap.Le.refl _) rfl rfl
          obtain rfl : m = 4 := by omega
          have s0 : ¬ ((4 : Nat) : Int) < 4 := by omega
          have u4 := hKm _ _ p4 s4 (fun e => by cases e)
          have hKe := hK.trans (hK9.trans hKm)
          have hSe : EnSt w0 H G71 b2 (bytesL (c.hd ++ ((c.is.take (k + 1)).map Ins.nums).flatten)) := by
            rw [List.take_add_one, ei, Option.toList_some, List.map_append, List.flatten_append, ← List.append_assoc]
            simpa [Ins.nums] using hSm
          clear hK9 hKm p3 p4 u3 u4 hSm hK
          (all_goals (try simp only [Sq,Sr,Sh,Si,Sl,Bu,Bb,Bd,Bc,Bw,Bn,Int.reduceAdd,Int.reduceSub,Int.reduceMul,Int.reduceTDiv,Int.reduceTMod,Int.reduceMod,Int.reduceDiv,Nat.reduceLT,Nat.reduceEqDiff,Sa,Sb,Sc,Sd,Se,Sf,Sg,Int.reduceLE,Int.reduceLT,Int.reduceToNat,Int.reduceNeg,Int.reduceEq,Nat.reduceLeDiff,Nat.reducePow,Int.reducePow,reduceIte,Nat.reduceSub,Nat.reduceAdd,Nat.reduceMul,putAt,ceq,List.replicate, *])); repeat' ((first | (with_reducible refine fun _ : True => ?_) | (with_reducible refine any_h ?_) | ((first | refine AllocQ_i ?_ | refine AllocO_i ?_); intro bk hb0 hbk; (try simp only [set_none'] at hbk); (try (first | have hbn := Grow.none (by assumption) hbk | have hbn := Grow.none (by assumption) hbk.2 | have hbn := Grow.none (by assumption) hbk.2.2 | have hbn := Grow.none (by assumption) hbk.2.2.2 | have hbn := Grow.none (by assumption) hbk.2.2.2.2 | have hbn := Grow.none (by assumption) hbk.2.2.2.2.2)); (try simp only [set_none'] at hbn); (try (first | have hbm := Grow.none (by assumption) hbn | have hbm := Grow.none (by assumption) hbn.2 | have hbm := Grow.none (by assumption) hbn.2.2 | have hbm := Grow.none (by assumption) hbn.2.2.2 | have hbm := Grow.none (by assumption) hbn.2.2.2.2 | have hbm := Grow.none (by assumption) hbn.2.2.2.2.2)); (try simp only [set_none'] at hbm)) | ((first | refine condS_i ?_ ?_ | refine pick_i ?_ ?_ | refine gS_it ?_ ?_ | refine gS_if ?_ ?_ | refine gP_it ?_ ?_ | refine gP_if ?_ ?_) <;> (intro hc; try simp only [Int.reduceLE,Int.reduceLT,Int.reduceEq,Sn] at hc)) | (with_reducible refine And.intro ?_ ?_)) <;> (try simp only [Sq,Sr,Sh,Si,Sl,Bu,Bb,Bd,Bc,Bw,Bn,Int.reduceAdd,Int.reduceSub,Int.reduceMul,Int.reduceTDiv,Int.reduceTMod,Int.reduceMod,Int.reduceDiv,Nat.reduceLT,Nat.reduceEqDiff,Sa,Sb,Sc,Sd,Se,Sf,Sg,Int.reduceLE,Int.reduceLT,Int.reduceToNat,Int.reduceNeg,Int.reduceEq,Nat.reduceLeDiff,Nat.reducePow,Int.reducePow,reduceIte,Nat.reduceSub,Nat.reduceAdd,Nat.reduceMul,putAt,ceq,List.replicate, *]))
          exact Round_mk (k + 1, (_, _, _, _), G71) ⟨hlt, hSe, hKe⟩ (by simp only; omega) (Heap.Le.refl _) rfl rfl
      · obtain rfl : k = c.is.length := by omega
        have t0 : ¬ ((c.is.length : Nat) : Int) < (c.is.length : Nat) := by omega
        rw [List.take_length] at hS
        obtain ⟨⟨a, cp, h1, hB⟩, hg, -, -⟩ := hS
        have r2 : rd1 w0 G1 b2 0 = some (.slice a (bytesL (c.hd ++ (c.is.map Ins.nums).flatten)).length cp) := by unfold rd1; rw [h1]; rfl
        have fin := (show ∀ a k G, _ from hy) a cp G1 hB hg
        clear hy hCk hrow f3 k1 k3 hK hB
        unfold Cd.bytes Cd.nums at fin
        (all_goals (try simp only [Sq,Sr,Sh,Si,Sl,Bu,Bb,Bd,Bc,Bw,Bn,Int.reduceAdd,Int.reduceSub,Int.reduceMul,Int.reduceTDiv,Int.reduceTMod,Int.reduceMod,Int.reduceDiv,Nat.reduceLT,Nat.reduceEqDiff,Sa,Sb,Sc,Sd,Se,Sf,Sg,Int.reduceLE,Int.reduceLT,Int.reduceToNat,Int.reduceNeg,Int.reduceEq,Nat.reduceLeDiff,Nat.reducePow,Int.reducePow,reduceIte,Nat.reduceSub,Nat.reduceAdd,Nat.reduceMul,putAt,ceq,List.replicate, *])); repeat' ((first | (with_reducible refine fun _ : True => ?_) | (with_reducible refine any_h ?_) | ((first | refine AllocQ_i ?_ | refine AllocO_i ?_); intro bk hb0 hbk; (try simp only [set_none'] at hbk); (try (first | have hbn := Grow.none (by assumption) hbk | have hbn := Grow.none (by assumption) hbk.2 | have hbn := Grow.none (by assumption) hbk.2.2 | have hbn := Grow.none (by assumption) hbk.2.2.2 | have hbn := Grow.none (by assumption) hbk.2.2.2.2 | have hbn := Grow.none (by assumption) hbk.2.2.2.2.2)); (try simp only [set_none'] at hbn); (try (first | have hbm := Grow.none (by assumption) hbn | have hbm := Grow.none (by assumption) hbn.2 | have hbm := Grow.none (by assumption) hbn.2.2 | have hbm := Grow.none (by assumption) hbn.2.2.2 | have hbm := Grow.none (by assumption) hbn.2.2.2.2 | have hbm := Grow.none (by assumption) hbn.2.2.2.2.2)); (try simp only [set_none'] at hbm)) | ((first | refine condS_i ?_ ?_ | refine pick_i ?_ ?_ | refine gS_it ?_ ?_ | refine gS_if ?_ ?_ | refine gP_it ?_ ?_ | refine gP_if ?_ ?_) <;> (intro hc; try simp only [Int.reduceLE,Int.reduceLT,Int.reduceEq,Sn] at hc)) | (with_reducible refine And.intro ?_ ?_)) <;> (try simp only [Sq,Sr,Sh,Si,Sl,Bu,Bb,Bd,Bc,Bw,Bn,Int.reduceAdd,Int.reduceSub,Int.reduceMul,Int.reduceTDiv,Int.reduceTMod,Int.reduceMod,Int.reduceDiv,Nat.reduceLT,Nat.reduceEqDiff,Sa,Sb,Sc,Sd,Se,Sf,Sg,Int.reduceLE,Int.reduceLT,Int.reduceToNat,Int.reduceNeg,Int.reduceEq,Nat.reduceLeDiff,Nat.reducePow,Int.reducePow,reduceIte,Nat.reduceSub,Nat.reduceAdd,Nat.reduceMul,putAt,ceq,List.replicate, *]))
        exact Fin_mk (Heap.Le.refl _) fin
  · have hCk := fun (G : Heap) (K : Value → Heap → Prop) (g : Grow w0 H G) (h : K (.int .i64 260) G) => hCk G K g (fun h => absurd h ho) (fun _ => h)
    have hn := hn ho
    clear hc hy ho hrow
    replace hCk : Keep _ := hCk
    unfold Cd.v at hCk ⊢
    refine HL.hc k24 999 ?_; unfold M24
    simp only [Sq,Sr,Sh,Si,Sl,Bu,Bb,Bd,Bc,Bw,Bn,Int.reduceAdd,Int.reduceSub,Int.reduceMul,Int.reduceTDiv,Int.reduceTMod,Int.reduceMod,Int.reduceDiv,Nat.reduceLT,Nat.reduceEqDiff,Sa,Sb,Sc,Sd,Se,Sf,Sg,Int.reduceLE,Int.reduceLT,Int.reduceToNat,Int.reduceNeg,Int.reduceEq,Nat.reduceLeDiff,Nat.reducePow,Int.reducePow,reduceIte,Nat.reduceSub,Nat.reduceAdd,Nat.reduceMul,putAt,ceq,List.replicate, *]
    refine AllocQ_i ?_
    intro b1 hb1 hn1
    (all_goals (try simp only [Sq,Sr,Sh,Si,Sl,Bu,Bb,Bd,Bc,Bw,Bn,Int.reduceAdd,Int.reduceSub,Int.reduceMul,Int.reduceTDiv,Int.reduceTMod,Int.reduceMod,Int.reduceDiv,Nat.reduceLT,Nat.reduceEqDiff,Sa,Sb,Sc,Sd,Se,Sf,Sg,Int.reduceLE,Int.reduceLT,Int.reduceToNat,Int.reduceNeg,Int.reduceEq,Nat.reduceLeDiff,Nat.reducePow,Int.reducePow,reduceIte,Nat.reduceSub,Nat.reduceAdd,Nat.reduceMul,putAt,ceq,List.replicate, *])); repeat' ((first | (with_reducible refine fun _ : True => ?_) | refine hCk _ _ (by (repeat' (first | exact Grow.refl _ | assumption | (refine Grow_known (by first | (simp only [Heap.set_same, set_ne, ne_eq, not_false_eq_true, *] <;> rfl) | fail) ?_) | (refine Grow.set ?_ (by assumption) (by first | (simp only [*] <;> done) | (simp [set_none', Heap.set_same, set_ne, noneH, *] <;> done) | fail)) | (refine Grow.trans ?_ (by assumption))))) ?_ | (with_reducible refine any_h ?_) | ((first | refine AllocQ_i ?_ | refine AllocO_i ?_); intro bk hb0 hbk; (try simp only [set_none'] at hbk); (try (first | have hbn := Grow.none (by assumption) hbk | have hbn := Grow.none (by assumption) hbk.2 | have hbn := Grow.none (by assumption) hbk.2.2 | have hbn := Grow.none (by assumption) hbk.2.2.2 | have hbn := Grow.none (by assumption) hbk.2.2.2.2 | have hbn := Grow.none (by assumption) hbk.2.2.2.2.2)); (try simp only [set_none'] at hbn); (try (first | have hbm := Grow.none (by assumption) hbn | have hbm := Grow.none (by assumption) hbn.2 | have hbm := Grow.none (by assumption) hbn.2.2 | have hbm := Grow.none (by assumption) hbn.2.2.2 | have hbm := Grow.none (by assumption) hbn.2.2.2.2 | have hbm := Grow.none (by assumption) hbn.2.2.2.2.2)); (try simp only [set_none'] at hbm)) | ((first | refine condS_i ?_ ?_ | refine pick_i ?_ ?_ | refine gS_it ?_ ?_ | refine gS_if ?_ ?_ | refine gP_it ?_ ?_ | refine gP_if ?_ ?_) <;> (intro hc; try simp only [Int.reduceLE,Int.reduceLT,Int.reduceEq,Sn] at hc)) | (with_reducible refine And.intro ?_ ?_)) <;> (try simp only [Sq,Sr,Sh,Si,Sl,Bu,Bb,Bd,Bc,Bw,Bn,Int.reduceAdd,Int.reduceSub,Int.reduceMul,Int.reduceTDiv,Int.reduceTMod,Int.reduceMod,Int.reduceDiv,Nat.reduceLT,Nat.reduceEqDiff,Sa,Sb,Sc,Sd,Se,Sf,Sg,Int.reduceLE,Int.reduceLT,Int.reduceToNat,Int.reduceNeg,Int.reduceEq,Nat.reduceLeDiff,Nat.reducePow,Int.reducePow,reduceIte,Nat.reduceSub,Nat.reduceAdd,Nat.reduceMul,putAt,ceq,List.replicate, *]))
    exact Fin_mk (by (repeat' (first | exact Heap.Le.refl _ | (with_reducible refine Le_set2 ?_) | (refine Le_known (by first | (simp only [Heap.set_same, set_ne, ne_eq, not_false_eq_true, *] <;> rfl) | fail) ?_) | (refine Le_fresh (by first | (simp only [*] <;> done) | (simp [set_none', Heap.set_same, set_ne, noneH, *] <;> done) | fail) ?_) | (refine Heap.Le.trans ?_ (Grow.le (by assumption))) | exact Le_none | (refine Le_put ?_ (by first | (simp only [Heap.set_same, set_ne, ne_eq, not_false_eq_true, *] <;> rfl) | fail)) | fail))) hn
end Go.Proofs.Ytndgmnmnpfblmaa
