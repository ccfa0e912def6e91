/- The statement ImageCuts, as a call (layer 8). -/
import Derived.Test.YtdaipgnhconfnaaIsf
import Derived.Test.YtdaipgnhconfnaaInk
import Derived.Test.YtdaipgnhconfnaaWk8
set_option linter.unusedSimpArgs false
set_option linter.unusedVariables false
set_option maxRecDepth 100000
set_option maxHeartbeats 4000000
namespace Go.Proofs.Ytdaipgnhconfnaa
open Go Go.HL Go.RowKit Pb
variable {w0 : World} {H G : Heap} {K : Value → Heap → Prop}

theorem cShort {x : Im} (hx : ImOk w0 H x) (G : Heap) (K : Value → Heap → Prop) (g : Grow w0 H G)
    (h : ∀ y H' Hy, x.Short y → ImOk w0 Hy y → Grow w0 Hy H' → (∀ b, w0.heap.size ≤ b → (G b).isSome = true → Hy b = none) → (∀ b, H' b = none → Hy b = none) → Grow w0 H H' → Grow w0 G H' → K y.v H') :
    HCalls Try.prog w0 13 [x.v] G K :=
  l_short x (hx.grow g) fun y H' hE hC hg => h y H' (newHp w0 G H') hE hC.newHp.ok (newHp_grow hg) (fun b h1 h2 => by unfold newHp; rw [if_pos ⟨h1, h2⟩]) (fun b e => (newHp_grow hg).none e) (g.trans hg) hg
theorem hc_heap {f : FuncId} {args : List Value} (h : ∀ G, G = H → HCalls Try.prog w0 f args G K) : HCalls Try.prog w0 f args H K := h H rfl
def cutV (lv : Int) (p : Pc) (a : Option Addr) (n c : Nat) : Value := .agg #[.int .i64 lv, .int .i64 p.x, .int .i64 p.y, .int .i64 p.w, .int .i64 p.h, .slice a n c]
theorem BsOk.cut {a : Option Addr} {c : Nat} {l : List Int} (h : BsOk w0 H a c l) (n : Nat) : BsOk w0 H a c (l.take n) := by
  refine ⟨ints_take h.at_ n, ?_, h.pl, fun v hv => h.by_ v (List.mem_of_mem_take hv)⟩
  have := h.cap
  rw [List.length_take]
  omega
theorem slc_hi {φ : Value → Prop} {a : Option Addr} {len cap sz m : Nat} {k : IntKind} (h1 : (m : Int) ≤ (cap : Int)) (h : φ (.slice a m cap)) : slcQ φ sz (.slice a len cap) none (some (.int k (m : Nat))) := by
  cases a with
  | none => exact ⟨by omega, h1, h⟩
  | some ad =>
    obtain ⟨b, o, s⟩ := ad
    cases s <;> exact ⟨by omega, h1, h⟩
theorem ImC.grow {G F : Heap} {x : Im} (h : ImC w0 H G x) (g : Grow w0 G F) : ImC w0 H F x := ⟨h.bld.grow g, fun y hy => ⟨(h.lv y hy).bld.grow g, (h.lv y hy).lm, (h.lv y hy).lr, (h.lv y hy).w, (h.lv y hy).h, (h.lv y hy).by_⟩, h.lm, h.lr, h.f, h.s, h.t, h.mn, h.mg⟩
theorem root4n {G : Heap} {a b c d : Nat} {x y z u : Blk} (h1 : G a = some x) (h2 : G b = some y) (h3 : G c = some z) (h4 : G d = some u) : G = (((G.set a x).set b y).set c z).set d u := by
  rw [Heap.set_id G a _ h1, Heap.set_id G b _ h2, Heap.set_id G c _ h3, Heap.set_id G d _ h4]
theorem root5n {G : Heap} {a b c d e : Nat} {x y z u v : Blk} (h1 : G a = some x) (h2 : G b = some y) (h3 : G c = some z) (h4 : G d = some u) (h5 : G e = some v) : G = ((((G.set a x).set b y).set c z).set d u).set e v := by
  rw [Heap.set_id G a _ h1, Heap.set_id G b _ h2, Heap.set_id G c _ h3, Heap.set_id G d _ h4, Heap.set_id G e _ h5]
/-- Memory of the call's own, of bytes. -/
def XSt (W : World) (H0 F : Heap) (a : Option Addr) (n : Nat) : Prop := Grow W H0 F ∧ ∀ i, i < n → ∃ bb ds v, a = some ⟨bb, 0, none⟩ ∧ W.heap.size ≤ bb ∧ H0 bb = none ∧ F bb = some ⟨.t 5, ds⟩ ∧ ds[i]? = some (.int .u8 v)
theorem XSt.next {H0 F : Heap} {a : Option Addr} {n bb i : Nat} {ds : List Value} {v : Value} (h : XSt w0 H0 F a n) (ea : a = some ⟨bb, 0, none⟩) (q1 : w0.heap.size ≤ bb) (q2 : H0 bb = none) (q3 : F bb = some ⟨.t 5, ds⟩) (hv : ∃ u, v = .int .u8 u) :
    XSt w0 H0 (F.set bb ⟨.t 5, ds.set i v⟩) a n := by
  obtain ⟨u, rfl⟩ := hv
  refine ⟨h.1.set q1 q2, fun j hj => ?_⟩
  obtain ⟨b2, ds2, v2, e2, -, -, p3, p4⟩ := h.2 j hj
  rw [ea] at e2
  cases e2
  rw [q3] at p3
  cases p3
  by_cases e : i = j
  · subst e
    exact ⟨_, _, u, ea, q1, q2, Heap.set_same _ _ _, by rw [List.getElem?_set_self ((List.getElem?_eq_some_iff.1 p4).1)]⟩
  · exact ⟨_, _, v2, ea, q1, q2, Heap.set_same _ _ _, by rw [List.getElem?_set_ne e]; exact p4⟩
/- paintboxlaw08 ImageCuts -/
def M9 : MC :=
  .seq (.reg [⟨(some 2), .box 24 (.tmp 0), none⟩,
 ⟨(some 3), .box 51 (.tmp 1), none⟩,
 ⟨(some 4), .mv (.const (.bool false)), none⟩])
 (.seq (.seq (.reg [⟨(some 14), .call 12 [], none⟩,
 ⟨(some 15), .un .not (.tmp 14), none⟩])
 (.cond (.tmp 15)
 (.seq (.reg [⟨(some 4), .mv (.const (.bool false)), none⟩])
 (.ret))
 (.skip)))
 (.seq (.reg [⟨(some 16), .ldn 6 (.tmp 2), none⟩,
 ⟨(some 17), .call 13 [(.tmp 16)], none⟩,
 ⟨none, .stn 6 (.tmp 2) (.tmp 17), none⟩])
 (.seq (.reg [⟨(some 18), .ldn 6 (.tmp 2), none⟩,
 ⟨(some 19), .call 14 [(.tmp 18)], none⟩,
 ⟨(some 5), .alloc 24 [(.int .i64 0), (.slice none 0 0), (.int .i64 0), (.int .i64 0), (.int .i64 0), (.int .i64 0)], none⟩,
 ⟨none, .stn 6 (.tmp 5) (.tmp 19), none⟩])
 (.seq (.reg [⟨(some 20), .fa 5 (.tmp 3), none⟩,
 ⟨(some 21), .ld1 (.tmp 20), none⟩,
 ⟨(some 22), .fa 5 (.tmp 3), none⟩,
 ⟨(some 23), .ld1 (.tmp 22), none⟩,
 ⟨(some 24), .len (.tmp 23), none⟩,
 ⟨(some 25), .mn (.tmp 24) (.const (.int .i64 20000)), none⟩,
 ⟨(some 26), .slc 1 (.tmp 21) none (some (.tmp 25)), none⟩,
 ⟨(some 27), .fa 5 (.tmp 3), none⟩,
 ⟨none, .st1 (.tmp 27) (.tmp 26), none⟩])
 (.seq (.reg [⟨(some 28), .bslice 5 0 [] [], none⟩,
 ⟨(some 29), .fa 5 (.tmp 3), none⟩,
 ⟨(some 30), .ld1 (.tmp 29), none⟩,
 ⟨(some 31), .app 5 1 1 [(.int .u8 0)] (.tmp 28) (.tmp 30), none⟩,
 ⟨(some 6), .mv (.tmp 31), none⟩])
 (.seq (.reg [⟨(some 33), .ldn 6 (.tmp 2), none⟩,
 ⟨(some 34), .fa 0 (.tmp 3), none⟩,
 ⟨(some 35), .ld1 (.tmp 34), none⟩,
 ⟨(some 36), .fa 1 (.tmp 3), none⟩,
 ⟨(some 37), .ldn 4 (.tmp 36), none⟩,
 ⟨(some 38), .mv (.tmp 6), none⟩,
 ⟨(some 39), .call 34 [(.tmp 33), (.tmp 35), (.tmp 37), (.tmp 38)], none⟩,
 ⟨(some 32), .mv (.tmp 39), none⟩,
 ⟨(some 40), .ext 0 (.tmp 32), none⟩,
 ⟨(some 41), .ext 1 (.tmp 32), none⟩,
 ⟨(some 7), .alloc 24 [(.int .i64 0), (.slice none 0 0), (.int .i64 0), (.int .i64 0), (.int .i64 0), (.int .i64 0)], none⟩,
 ⟨none, .stn 6 (.tmp 7) (.tmp 40), none⟩,
 ⟨(some 8), .mv (.tmp 41), none⟩])
 (.seq (.reg [⟨(some 43), .ldn 6 (.tmp 5), none⟩,
 ⟨(some 44), .fa 0 (.tmp 3), none⟩,
 ⟨(some 45), .ld1 (.tmp 44), none⟩,
 ⟨(some 46), .fa 1 (.tmp 3), none⟩,
 ⟨(some 47), .ldn 4 (.tmp 46), none⟩,
 ⟨(some 48), .fa 5 (.tmp 3), none⟩,
 ⟨(some 49), .ld1 (.tmp 48), none⟩,
 ⟨(some 50), .call 35 [(.tmp 43), (.tmp 45), (.tmp 47), (.tmp 49)], none⟩,
 ⟨(some 42), .mv (.tmp 50), none⟩,
 ⟨(some 51), .ext 0 (.tmp 42), none⟩,
 ⟨(some 52), .ext 1 (.tmp 42), none⟩,
 ⟨(some 9), .alloc 24 [(.int .i64 0), (.slice none 0 0), (.int .i64 0), (.int .i64 0), (.int .i64 0), (.int .i64 0)], none⟩,
 ⟨none, .stn 6 (.tmp 9) (.tmp 51), none⟩,
 ⟨(some 10), .mv (.tmp 52), none⟩])
 (.seq (.seq (.reg [⟨(some 53), .ldn 6 (.tmp 7), none⟩,
 ⟨(some 54), .ldn 6 (.tmp 9), none⟩,
 ⟨(some 55), .ldn 6 (.tmp 2), none⟩,
 ⟨(some 56), .ldn 6 (.tmp 5), none⟩,
 ⟨(some 57), .mv (.tmp 8), none⟩,
 ⟨(some 58), .mv (.tmp 10), none⟩,
 ⟨(some 59), .call 17 [(.tmp 53), (.tmp 54), (.tmp 55), (.tmp 56), (.tmp 57), (.tmp 58)], none⟩,
 ⟨(some 60), .un .not (.tmp 59), none⟩,
 ⟨(some 61), .mv (.tmp 60), none⟩,
 ⟨(some 62), .mv (.tmp 6), (some (61, false))⟩,
 ⟨(some 63), .fa 5 (.tmp 3), (some (61, false))⟩,
 ⟨(some 64), .ld1 (.tmp 63), (some (61, false))⟩,
 ⟨(some 65), .call 24 [(.tmp 62), (.tmp 64)], (some (61, false))⟩,
 ⟨(some 66), .un .not (.tmp 65), (some (61, false))⟩,
 ⟨(some 67), .pick (.tmp 61) (.const (.bool true)) (.tmp 66), none⟩])
 (.cond (.tmp 67)
 (.seq (.reg [⟨(some 4), .mv (.const (.bool false)), none⟩])
 (.ret))
 (.skip)))
 (.seq (.reg [⟨(some 69), .ldn 6 (.tmp 2), none⟩,
 ⟨(some 70), .fa 0 (.tmp 3), none⟩,
 ⟨(some 71), .ld1 (.tmp 70), none⟩,
 ⟨(some 72), .fa 1 (.tmp 3), none⟩,
 ⟨(some 73), .ldn 4 (.tmp 72), none⟩,
 ⟨(some 74), .call 36 [(.tmp 69), (.tmp 71), (.tmp 73)], none⟩,
 ⟨(some 68), .mv (.tmp 74), none⟩,
 ⟨(some 75), .ext 0 (.tmp 68), none⟩,
 ⟨(some 76), .ext 1 (.tmp 68), none⟩,
 ⟨(some 11), .mv (.tmp 75), none⟩,
 ⟨(some 8), .mv (.tmp 76), none⟩])
 (.seq (.reg [⟨(some 78), .ldn 6 (.tmp 5), none⟩,
 ⟨(some 79), .fa 0 (.tmp 3), none⟩,
 ⟨(some 80), .ld1 (.tmp 79), none⟩,
 ⟨(some 81), .fa 1 (.tmp 3), none⟩,
 ⟨(some 82), .ldn 4 (.tmp 81), none⟩,
 ⟨(some 83), .call 37 [(.tmp 78), (.tmp 80), (.tmp 82)], none⟩,
 ⟨(some 77), .mv (.tmp 83), none⟩,
 ⟨(some 84), .ext 0 (.tmp 77), none⟩,
 ⟨(some 85), .ext 1 (.tmp 77), none⟩,
 ⟨(some 12), .mv (.tmp 84), none⟩,
 ⟨(some 10), .mv (.tmp 85), none⟩])
 (.seq (.seq (.reg [⟨(some 86), .mv (.tmp 8), none⟩,
 ⟨(some 87), .mv (.tmp 10), none⟩,
 ⟨(some 88), .bin .neq (.tmp 86) (.tmp 87), none⟩,
 ⟨(some 89), .mv (.tmp 88), none⟩,
 ⟨(some 90), .mv (.tmp 11), (some (89, false))⟩,
 ⟨(some 91), .mv (.tmp 12), (some (89, false))⟩,
 ⟨(some 92), .call 24 [(.tmp 90), (.tmp 91)], (some (89, false))⟩,
 ⟨(some 93), .un .not (.tmp 92), (some (89, false))⟩,
 ⟨(some 94), .pick (.tmp 89) (.const (.bool true)) (.tmp 93), none⟩])
 (.cond (.tmp 94)
 (.seq (.reg [⟨(some 4), .mv (.const (.bool false)), none⟩])
 (.ret))
 (.skip)))
 (.seq (.seq (.reg [⟨(some 95), .mv (.tmp 11), none⟩,
 ⟨(some 96), .len (.tmp 95), none⟩,
 ⟨(some 97), .mv (.const (.int .i64 0)), none⟩])
 (.block 0 (.loop (.seq (.reg [⟨(some 98), .bin .lss (.tmp 97) (.tmp 96), none⟩])
 (.seq (.cond (.tmp 98)
 (.skip)
 (.exit 0))
 (.seq (.block 1 (.seq (.reg [⟨(some 99), .mv (.tmp 97), none⟩,
 ⟨(some 13), .mv (.tmp 99), none⟩])
 (.reg [⟨(some 100), .mv (.tmp 11), none⟩,
 ⟨(some 101), .mv (.tmp 13), none⟩,
 ⟨(some 102), .is 1 (.tmp 100) (.tmp 101), none⟩,
 ⟨(some 103), .ld1 (.tmp 102), none⟩,
 ⟨(some 104), .bin .xor (.tmp 103) (.const (.int .u8 238)), none⟩,
 ⟨(some 105), .is 1 (.tmp 100) (.tmp 101), none⟩,
 ⟨none, .st1 (.tmp 105) (.tmp 104), none⟩])))
 (.reg [⟨(some 106), .bin .add (.tmp 97) (.const (.int .i64 1)), none⟩,
 ⟨(some 97), .mv (.tmp 106), none⟩])))))))
 (.seq (.reg [⟨(some 107), .ldn 6 (.tmp 2), none⟩,
 ⟨(some 108), .ldn 6 (.tmp 5), none⟩,
 ⟨(some 109), .call 26 [(.tmp 107), (.tmp 108)], none⟩,
 ⟨(some 4), .mv (.tmp 109), none⟩])
 (.ret))))))))))))))
theorem k9 : fnOk Try.prog 9 = some (M9, [.t 4], 110) := by kernel_rfl

theorem l_ImageCuts (x : Im) (hx : ImOk w0 H x) (lv : Int) (p : Pc) (a : Option Addr) (c : Nat) (l : List Int) (hb0 : BsOk w0 H a c l) (hll : l.length ≤ 9223372036854775807) (h : K (.bool true) H) : HCalls Try.prog w0 9 [x.v, cutV lv p a l.length c] H K := by
  have cX := cShort hx
  have hbb := hb0.cut 20000
  obtain ⟨b, eb⟩ : ∃ b, l.take 20000 = b := ⟨_, rfl⟩
  have hbn : b.length = min l.length 20000 := by rw [← eb, List.length_take, Nat.min_comm]
  rw [eb] at hbb
  have mn : (if (20000 : Int) < (l.length : Int) then (20000 : Int) else (l.length : Int)) = (b.length : Nat) := by
    rw [hbn]
    split <;> omega
  have mc : ((b.length : Nat) : Int) ≤ (c : Int) := by have := hbb.cap; omega
  have bl2 : b.length ≤ 20000 := by omega
  clear hx hb0 hbn hll
  replace eb : Keep _ := eb
  unfold Im.v at cX
  unfold Im.v cutV
  refine HL.hc k9 3000 ?_; unfold M9
  (all_goals (try simp only [Sq,Sr,Sh,Si,Sl,Bu,Bb,Bd,Bc,Bw,Bn,Int.reduceAdd,Int.reduceSub,Int.reduceMul,Int.reduceTDiv,Int.reduceTMod,Int.reduceMod,Int.reduceDiv,Nat.reduceLT,Nat.reduceEqDiff,Sa,Sb,Sc,Sd,Se,Sf,Sg,Int.reduceLE,Int.reduceLT,Int.reduceToNat,Int.reduceNeg,Int.reduceEq,Nat.reduceLeDiff,Nat.reducePow,Int.reducePow,reduceIte,Nat.reduceSub,Nat.reduceAdd,Nat.reduceMul,putAt,ceq,List.replicate, *])); repeat' ((first | (with_reducible refine fun _ : True => ?_) | refine x_Wakes ?_ | refine cX _ _ (by (repeat' (first | exact Grow.refl _ | assumption | (refine Grow_known (by first | (simp only [Heap.set_same, set_ne, ne_eq, not_false_eq_true, *] <;> rfl) | fail) ?_) | (refine Grow.set ?_ (by assumption) (by first | (simp only [*] <;> done) | (simp [set_none', Heap.set_same, set_ne, noneH, *] <;> done) | fail)) | (refine Grow.trans ?_ (by assumption))))) (fun x1 H1 Hx hSx hIx gx nx fx gHx hg => ?_)  | (with_reducible refine any_h ?_) | ((first | refine AllocQ_i ?_ | refine AllocO_i ?_); intro bk hb0 hbk; (try simp only [set_none'] at hbk); (try (first | have hbn := Grow.none (by assumption) hbk | have hbn := Grow.none (by assumption) hbk.2 | have hbn := Grow.none (by assumption) hbk.2.2 | have hbn := Grow.none (by assumption) hbk.2.2.2 | have hbn := Grow.none (by assumption) hbk.2.2.2.2 | have hbn := Grow.none (by assumption) hbk.2.2.2.2.2)); (try simp only [set_none'] at hbn); (try (first | have hbm := Grow.none (by assumption) hbn | have hbm := Grow.none (by assumption) hbn.2 | have hbm := Grow.none (by assumption) hbn.2.2 | have hbm := Grow.none (by assumption) hbn.2.2.2 | have hbm := Grow.none (by assumption) hbn.2.2.2.2 | have hbm := Grow.none (by assumption) hbn.2.2.2.2.2)); (try simp only [set_none'] at hbm)) | ((first | refine condS_i ?_ ?_ | refine pick_i ?_ ?_ | refine gS_it ?_ ?_ | refine gS_if ?_ ?_ | refine gP_it ?_ ?_ | refine gP_if ?_ ?_) <;> (intro hc; try simp only [Int.reduceLE,Int.reduceLT,Int.reduceEq,Sn] at hc)) | (with_reducible refine KP_i ?_ ?_; · (repeat' (first | exact Heap.Le.refl _ | (with_reducible refine Le_set2 ?_) | (refine Le_known (by first | (simp only [Heap.set_same, set_ne, ne_eq, not_false_eq_true, *] <;> rfl) | fail) ?_) | (refine Le_fresh (by first | (simp only [*] <;> done) | (simp [set_none', Heap.set_same, set_ne, noneH, *] <;> done) | fail) ?_) | (refine Heap.Le.trans ?_ (Grow.le (by assumption))) | exact Le_none | (refine Le_put ?_ (by first | (simp only [Heap.set_same, set_ne, ne_eq, not_false_eq_true, *] <;> rfl) | fail)) | fail))) | (with_reducible refine And.intro ?_ ?_)) <;> (try simp only [Sq,Sr,Sh,Si,Sl,Bu,Bb,Bd,Bc,Bw,Bn,Int.reduceAdd,Int.reduceSub,Int.reduceMul,Int.reduceTDiv,Int.reduceTMod,Int.reduceMod,Int.reduceDiv,Nat.reduceLT,Nat.reduceEqDiff,Sa,Sb,Sc,Sd,Se,Sf,Sg,Int.reduceLE,Int.reduceLT,Int.reduceToNat,Int.reduceNeg,Int.reduceEq,Nat.reduceLeDiff,Nat.reducePow,Int.reducePow,reduceIte,Nat.reduceSub,Nat.reduceAdd,Nat.reduceMul,putAt,ceq,List.replicate, *]))
  rename_i b1 s1 n1
  obtain ⟨b2, rfl⟩ : ∃ b2, b2 = bk := ⟨_, rfl⟩
  have s2 : w0.heap.size ≤ b2 := hb0
  have nx1 : Hx b1 = none := nx b1 s1 (by rw [Heap.set_other _ _ hbk.1.2, Heap.set_same]; rfl)
  have nx2 : Hx b2 = none := nx b2 s2 (by rw [Heap.set_same]; rfl)
  have n2 : H b2 = none := hbk.2
  have d12 := hbk.1.2
  have d21 := hbk.1.1
  have gH1 : Grow w0 H H1 := Grow.trans (by (repeat' (first | exact Grow.refl _ | assumption | (refine Grow_known (by first | (simp only [Heap.set_same, set_ne, ne_eq, not_false_eq_true, *] <;> rfl) | fail) ?_) | (refine Grow.set ?_ (by assumption) (by first | (simp only [*] <;> done) | (simp [set_none', Heap.set_same, set_ne, noneH, *] <;> done) | fail)) | (refine Grow.trans ?_ (by assumption))))) hg
  rw [up2 hg (by simp only [Heap.set_same, set_ne, ne_eq, not_false_eq_true, *] <;> rfl)]
  have cC := cCopy hIx
  unfold Im.v at cC
  clear hg nx cX
  (all_goals (try simp only [Sq,Sr,Sh,Si,Sl,Bu,Bb,Bd,Bc,Bw,Bn,Int.reduceAdd,Int.reduceSub,Int.reduceMul,Int.reduceTDiv,Int.reduceTMod,Int.reduceMod,Int.reduceDiv,Nat.reduceLT,Nat.reduceEqDiff,Sa,Sb,Sc,Sd,Se,Sf,Sg,Int.reduceLE,Int.reduceLT,Int.reduceToNat,Int.reduceNeg,Int.reduceEq,Nat.reduceLeDiff,Nat.reducePow,Int.reducePow,reduceIte,Nat.reduceSub,Nat.reduceAdd,Nat.reduceMul,putAt,ceq,List.replicate, *])); repeat' ((first | (with_reducible refine fun _ : True => ?_) | refine cC _ _ (by (repeat' (first | exact Grow.refl _ | assumption | (refine Grow_known (by first | (simp only [Heap.set_same, set_ne, ne_eq, not_false_eq_true, *] <;> rfl) | fail) ?_) | (refine Grow.set ?_ (by assumption) (by first | (simp only [*] <;> done) | (simp [set_none', Heap.set_same, set_ne, noneH, *] <;> done) | fail)) | (refine Grow.trans ?_ (by assumption))))) (fun w H2 Hw hE hIw gw nw fw gHw hg2 => ?_)  | (with_reducible refine any_h ?_) | ((first | refine AllocQ_i ?_ | refine AllocO_i ?_); intro bk hb0 hbk; (try simp only [set_none'] at hbk); (try (first | have hbn := Grow.none (by assumption) hbk | have hbn := Grow.none (by assumption) hbk.2 | have hbn := Grow.none (by assumption) hbk.2.2 | have hbn := Grow.none (by assumption) hbk.2.2.2 | have hbn := Grow.none (by assumption) hbk.2.2.2.2 | have hbn := Grow.none (by assumption) hbk.2.2.2.2.2)); (try simp only [set_none'] at hbn); (try (first | have hbm := Grow.none (by assumption) hbn | have hbm := Grow.none (by assumption) hbn.2 | have hbm := Grow.none (by assumption) hbn.2.2 | have hbm := Grow.none (by assumption) hbn.2.2.2 | have hbm := Grow.none (by assumption) hbn.2.2.2.2 | have hbm := Grow.none (by assumption) hbn.2.2.2.2.2)); (try simp only [set_none'] at hbm)) | ((first | refine condS_i ?_ ?_ | refine pick_i ?_ ?_ | refine gS_it ?_ ?_ | refine gS_if ?_ ?_ | refine gP_it ?_ ?_ | refine gP_if ?_ ?_) <;> (intro hc; try simp only [Int.reduceLE,Int.reduceLT,Int.reduceEq,Sn] at hc)) | (with_reducible refine KP_i ?_ ?_; · (repeat' (first | exact Heap.Le.refl _ | (with_reducible refine Le_set2 ?_) | (refine Le_known (by first | (simp only [Heap.set_same, set_ne, ne_eq, not_false_eq_true, *] <;> rfl) | fail) ?_) | (refine Le_fresh (by first | (simp only [*] <;> done) | (simp [set_none', Heap.set_same, set_ne, noneH, *] <;> done) | fail) ?_) | (refine Heap.Le.trans ?_ (Grow.le (by assumption))) | exact Le_none | (refine Le_put ?_ (by first | (simp only [Heap.set_same, set_ne, ne_eq, not_false_eq_true, *] <;> rfl) | fail)) | fail))) | (with_reducible refine And.intro ?_ ?_)) <;> (try simp only [Sq,Sr,Sh,Si,Sl,Bu,Bb,Bd,Bc,Bw,Bn,Int.reduceAdd,Int.reduceSub,Int.reduceMul,Int.reduceTDiv,Int.reduceTMod,Int.reduceMod,Int.reduceDiv,Nat.reduceLT,Nat.reduceEqDiff,Sa,Sb,Sc,Sd,Se,Sf,Sg,Int.reduceLE,Int.reduceLT,Int.reduceToNat,Int.reduceNeg,Int.reduceEq,Nat.reduceLeDiff,Nat.reducePow,Int.reducePow,reduceIte,Nat.reduceSub,Nat.reduceAdd,Nat.reduceMul,putAt,ceq,List.replicate, *]))
  obtain ⟨b5, rfl⟩ : ∃ b5, b5 = bk := ⟨_, rfl⟩
  have s5 : w0.heap.size ≤ b5 := hb0
  have nw1 : Hw b1 = none := nw b1 s1 (by rw [Heap.set_other _ _ d12, Heap.set_same]; rfl)
  have nw2 : Hw b2 = none := nw b2 s2 (by rw [Heap.set_same]; rfl)
  have nw5 : Hw b5 = none := fw _ hbk
  have nx5 : Hx b5 = none := gHw.none hbk
  have n5 : H b5 = none := hbm
  have gH2 : Grow w0 H H2 := ((gH1.set s1 n1).set s2 n2).trans hg2
  have d51 := hbn.2.1.1
  have d15 := hbn.2.1.2
  have d52 := hbn.1.1
  have d25 := hbn.1.2
  rw [up2 hg2 (by simp only [Heap.set_same, set_ne, ne_eq, not_false_eq_true, *] <;> rfl)]
  clear cC nw gx gHx hg2 gH1 fx
  (all_goals (try simp only [Sq,Sr,Sh,Si,Sl,Bu,Bb,Bd,Bc,Bw,Bn,Int.reduceAdd,Int.reduceSub,Int.reduceMul,Int.reduceTDiv,Int.reduceTMod,Int.reduceMod,Int.reduceDiv,Nat.reduceLT,Nat.reduceEqDiff,Sa,Sb,Sc,Sd,Se,Sf,Sg,Int.reduceLE,Int.reduceLT,Int.reduceToNat,Int.reduceNeg,Int.reduceEq,Nat.reduceLeDiff,Nat.reducePow,Int.reducePow,reduceIte,Nat.reduceSub,Nat.reduceAdd,Nat.reduceMul,putAt,ceq,List.replicate, *])); repeat' ((first | (with_reducible refine fun _ : True => ?_) | refine slc_hi mc ?_ | (with_reducible refine any_h ?_) | ((first | refine AllocQ_i ?_ | refine AllocO_i ?_); intro bk hb0 hbk; (try simp only [set_none'] at hbk); (try (first | have hbn := Grow.none (by assumption) hbk | have hbn := Grow.none (by assumption) hbk.2 | have hbn := Grow.none (by assumption) hbk.2.2 | have hbn := Grow.none (by assumption) hbk.2.2.2 | have hbn := Grow.none (by assumption) hbk.2.2.2.2 | have hbn := Grow.none (by assumption) hbk.2.2.2.2.2)); (try simp only [set_none'] at hbn); (try (first | have hbm := Grow.none (by assumption) hbn | have hbm := Grow.none (by assumption) hbn.2 | have hbm := Grow.none (by assumption) hbn.2.2 | have hbm := Grow.none (by assumption) hbn.2.2.2 | have hbm := Grow.none (by assumption) hbn.2.2.2.2 | have hbm := Grow.none (by assumption) hbn.2.2.2.2.2)); (try simp only [set_none'] at hbm)) | ((first | refine condS_i ?_ ?_ | refine pick_i ?_ ?_ | refine gS_it ?_ ?_ | refine gS_if ?_ ?_ | refine gP_it ?_ ?_ | refine gP_if ?_ ?_) <;> (intro hc; try simp only [Int.reduceLE,Int.reduceLT,Int.reduceEq,Sn] at hc)) | (with_reducible refine KP_i ?_ ?_; · (repeat' (first | exact Heap.Le.refl _ | (with_reducible refine Le_set2 ?_) | (refine Le_known (by first | (simp only [Heap.set_same, set_ne, ne_eq, not_false_eq_true, *] <;> rfl) | fail) ?_) | (refine Le_fresh (by first | (simp only [*] <;> done) | (simp [set_none', Heap.set_same, set_ne, noneH, *] <;> done) | fail) ?_) | (refine Heap.Le.trans ?_ (Grow.le (by assumption))) | exact Le_none | (refine Le_put ?_ (by first | (simp only [Heap.set_same, set_ne, ne_eq, not_false_eq_true, *] <;> rfl) | fail)) | fail))) | (with_reducible refine And.intro ?_ ?_)) <;> (try simp only [Sq,Sr,Sh,Si,Sl,Bu,Bb,Bd,Bc,Bw,Bn,Int.reduceAdd,Int.reduceSub,Int.reduceMul,Int.reduceTDiv,Int.reduceTMod,Int.reduceMod,Int.reduceDiv,Nat.reduceLT,Nat.reduceEqDiff,Sa,Sb,Sc,Sd,Se,Sf,Sg,Int.reduceLE,Int.reduceLT,Int.reduceToNat,Int.reduceNeg,Int.reduceEq,Nat.reduceLeDiff,Nat.reducePow,Int.reducePow,reduceIte,Nat.reduceSub,Nat.reduceAdd,Nat.reduceMul,putAt,ceq,List.replicate, *]))
  have nbk := hbk.2.2.2
  refine app_clone2 (e := 5) (IntsAt.grow hbb.at_ ((((gH2.set s1 n1).set s2 n2).set s5 n5).set hb0 hbn)) ⟨by omega, by omega⟩ (fun oa oc H3 hB hlc hg3 hS => ?_)
  obtain ⟨bo, rfl⟩ := hS
  have k1 := hg3.some (b := b1) (by simp only [Heap.set_same, set_ne, ne_eq, not_false_eq_true, *] <;> rfl)
  have k2 := hg3.some (b := b2) (by simp only [Heap.set_same, set_ne, ne_eq, not_false_eq_true, *] <;> rfl)
  have k5 := hg3.some (b := b5) (by simp only [Heap.set_same, set_ne, ne_eq, not_false_eq_true, *] <;> rfl)
  have gx3 : Grow w0 Hx H3 := ((((gHw.set s1 nx1).set s2 nx2).set s5 nx5).set hb0 (gHw.none nbk)).trans hg3
  have gw3 : Grow w0 Hw H3 := ((((gw.set s1 nw1).set s2 nw2).set s5 nw5).set hb0 (fw _ nbk)).trans hg3
  have gH3 : Grow w0 H H3 := ((((gH2.set s1 n1).set s2 n2).set s5 n5).set hb0 hbn).trans hg3
  have hoB : BsOk w0 H3 (some ⟨bo, 0, none⟩) oc b := ⟨SlAt.toInts hB.slAt, hlc, .inr ⟨bo, 0, rfl⟩, hbb.by_⟩
  have haB := hbb.grow gH3
  clear hB hlc hg3 hbk hbn hb0 nbk gw gHw fw gH2 nx1 nx2 nx5 nw1 nw2 nw5 mn mc hbb hbm
  rw [root3 k1 k2 k5]
  (all_goals (try simp only [Sq,Sr,Sh,Si,Sl,Bu,Bb,Bd,Bc,Bw,Bn,Int.reduceAdd,Int.reduceSub,Int.reduceMul,Int.reduceTDiv,Int.reduceTMod,Int.reduceMod,Int.reduceDiv,Nat.reduceLT,Nat.reduceEqDiff,Sa,Sb,Sc,Sd,Se,Sf,Sg,Int.reduceLE,Int.reduceLT,Int.reduceToNat,Int.reduceNeg,Int.reduceEq,Nat.reduceLeDiff,Nat.reducePow,Int.reducePow,reduceIte,Nat.reduceSub,Nat.reduceAdd,Nat.reduceMul,putAt,ceq,List.replicate, *])); repeat' ((first | (with_reducible refine fun _ : True => ?_) | (with_reducible refine any_h ?_) | ((first | refine AllocQ_i ?_ | refine AllocO_i ?_); intro bk hb0 hbk; (try simp only [set_none'] at hbk); (try (first | have hbn := Grow.none (by assumption) hbk | have hbn := Grow.none (by assumption) hbk.2 | have hbn := Grow.none (by assumption) hbk.2.2 | have hbn := Grow.none (by assumption) hbk.2.2.2 | have hbn := Grow.none (by assumption) hbk.2.2.2.2 | have hbn := Grow.none (by assumption) hbk.2.2.2.2.2)); (try simp only [set_none'] at hbn); (try (first | have hbm := Grow.none (by assumption) hbn | have hbm := Grow.none (by assumption) hbn.2 | have hbm := Grow.none (by assumption) hbn.2.2 | have hbm := Grow.none (by assumption) hbn.2.2.2 | have hbm := Grow.none (by assumption) hbn.2.2.2.2 | have hbm := Grow.none (by assumption) hbn.2.2.2.2.2)); (try simp only [set_none'] at hbm)) | ((first | refine condS_i ?_ ?_ | refine pick_i ?_ ?_ | refine gS_it ?_ ?_ | refine gS_if ?_ ?_ | refine gP_it ?_ ?_ | refine gP_if ?_ ?_) <;> (intro hc; try simp only [Int.reduceLE,Int.reduceLT,Int.reduceEq,Sn] at hc)) | (with_reducible refine KP_i ?_ ?_; · (repeat' (first | exact Heap.Le.refl _ | (with_reducible refine Le_set2 ?_) | (refine Le_known (by first | (simp only [Heap.set_same, set_ne, ne_eq, not_false_eq_true, *] <;> rfl) | fail) ?_) | (refine Le_fresh (by first | (simp only [*] <;> done) | (simp [set_none', Heap.set_same, set_ne, noneH, *] <;> done) | fail) ?_) | (refine Heap.Le.trans ?_ (Grow.le (by assumption))) | exact Le_none | (refine Le_put ?_ (by first | (simp only [Heap.set_same, set_ne, ne_eq, not_false_eq_true, *] <;> rfl) | fail)) | fail))) | (with_reducible refine And.intro ?_ ?_)) <;> (try simp only [Sq,Sr,Sh,Si,Sl,Bu,Bb,Bd,Bc,Bw,Bn,Int.reduceAdd,Int.reduceSub,Int.reduceMul,Int.reduceTDiv,Int.reduceTMod,Int.reduceMod,Int.reduceDiv,Nat.reduceLT,Nat.reduceEqDiff,Sa,Sb,Sc,Sd,Se,Sf,Sg,Int.reduceLE,Int.reduceLT,Int.reduceToNat,Int.reduceNeg,Int.reduceEq,Nat.reduceLeDiff,Nat.reducePow,Int.reducePow,reduceIte,Nat.reduceSub,Nat.reduceAdd,Nat.reduceMul,putAt,ceq,List.replicate, *]))
  refine hc_heap (fun G3 e3 => ?_)
  obtain rfl : G3 = H3 := e3.trans (root3 k1 k2 k5).symm
  clear e3
  refine c_SubT (hIx.grow gx3) lv p hoB (fun got e H4 hP hC4 g4 => ?_)
  have i1 := g4.some k1
  have i2 := g4.some k2
  have i5 := g4.some k5
  rw [root3 i1 i2 i5]
  unfold Im.v
  (all_goals (try simp only [Sq,Sr,Sh,Si,Sl,Bu,Bb,Bd,Bc,Bw,Bn,Int.reduceAdd,Int.reduceSub,Int.reduceMul,Int.reduceTDiv,Int.reduceTMod,Int.reduceMod,Int.reduceDiv,Nat.reduceLT,Nat.reduceEqDiff,Sa,Sb,Sc,Sd,Se,Sf,Sg,Int.reduceLE,Int.reduceLT,Int.reduceToNat,Int.reduceNeg,Int.reduceEq,Nat.reduceLeDiff,Nat.reducePow,Int.reducePow,reduceIte,Nat.reduceSub,Nat.reduceAdd,Nat.reduceMul,putAt,ceq,List.replicate, *])); repeat' ((first | (with_reducible refine fun _ : True => ?_) | (with_reducible refine any_h ?_) | ((first | refine AllocQ_i ?_ | refine AllocO_i ?_); intro bk hb0 hbk; (try simp only [set_none'] at hbk); (try (first | have hbn := Grow.none (by assumption) hbk | have hbn := Grow.none (by assumption) hbk.2 | have hbn := Grow.none (by assumption) hbk.2.2 | have hbn := Grow.none (by assumption) hbk.2.2.2 | have hbn := Grow.none (by assumption) hbk.2.2.2.2 | have hbn := Grow.none (by assumption) hbk.2.2.2.2.2)); (try simp only [set_none'] at hbn); (try (first | have hbm := Grow.none (by assumption) hbn | have hbm := Grow.none (by assumption) hbn.2 | have hbm := Grow.none (by assumption) hbn.2.2 | have hbm := Grow.none (by assumption) hbn.2.2.2 | have hbm := Grow.none (by assumption) hbn.2.2.2.2 | have hbm := Grow.none (by assumption) hbn.2.2.2.2.2)); (try simp only [set_none'] at hbm)) | ((first | refine condS_i ?_ ?_ | refine pick_i ?_ ?_ | refine gS_it ?_ ?_ | refine gS_if ?_ ?_ | refine gP_it ?_ ?_ | refine gP_if ?_ ?_) <;> (intro hc; try simp only [Int.reduceLE,Int.reduceLT,Int.reduceEq,Sn] at hc)) | (with_reducible refine KP_i ?_ ?_; · (repeat' (first | exact Heap.Le.refl _ | (with_reducible refine Le_set2 ?_) | (refine Le_known (by first | (simp only [Heap.set_same, set_ne, ne_eq, not_false_eq_true, *] <;> rfl) | fail) ?_) | (refine Le_fresh (by first | (simp only [*] <;> done) | (simp [set_none', Heap.set_same, set_ne, noneH, *] <;> done) | fail) ?_) | (refine Heap.Le.trans ?_ (Grow.le (by assumption))) | exact Le_none | (refine Le_put ?_ (by first | (simp only [Heap.set_same, set_ne, ne_eq, not_false_eq_true, *] <;> rfl) | fail)) | fail))) | (with_reducible refine And.intro ?_ ?_)) <;> (try simp only [Sq,Sr,Sh,Si,Sl,Bu,Bb,Bd,Bc,Bw,Bn,Int.reduceAdd,Int.reduceSub,Int.reduceMul,Int.reduceTDiv,Int.reduceTMod,Int.reduceMod,Int.reduceDiv,Nat.reduceLT,Nat.reduceEqDiff,Sa,Sb,Sc,Sd,Se,Sf,Sg,Int.reduceLE,Int.reduceLT,Int.reduceToNat,Int.reduceNeg,Int.reduceEq,Nat.reduceLeDiff,Nat.reducePow,Int.reducePow,reduceIte,Nat.reduceSub,Nat.reduceAdd,Nat.reduceMul,putAt,ceq,List.replicate, *]))
  obtain ⟨b7, rfl⟩ : ∃ b7, b7 = bk := ⟨_, rfl⟩
  refine hc_heap (fun G5 e5 => ?_)
  have m1 := at_of e5 (b := b1) (by simp only [Heap.set_same, set_ne, ne_eq, not_false_eq_true, *] <;> rfl)
  have m2 := at_of e5 (b := b2) (by simp only [Heap.set_same, set_ne, ne_eq, not_false_eq_true, *] <;> rfl)
  have m5 := at_of e5 (b := b5) (by simp only [Heap.set_same, set_ne, ne_eq, not_false_eq_true, *] <;> rfl)
  have m7 := at_of e5 (b := b7) (by simp only [Heap.set_same, set_ne, ne_eq, not_false_eq_true, *] <;> rfl)
  have g45 : Grow w0 H4 G5 := by rw [e5, ← root3 i1 i2 i5]; exact Grow.set (Grow.refl _) hb0 hbk.2.2.2
  have d71 := hbk.2.2.1.1
  have d17 := hbk.2.2.1.2
  have d72 := hbk.2.1.1
  have d27 := hbk.2.1.2
  have d75 := hbk.1.1
  have d57 := hbk.1.2
  clear e5 i1 i2 i5 hbk hb0
  have g35 := g4.trans g45
  refine r_SubT (hIw.grow (gw3.trans g35)) lv p (haB.grow g35) (fun want e' H6 hP2 hC6 g6 => ?_)
  obtain ⟨rfl, hEq⟩ := SRs_eqv hE hP hP2
  have i1 := g6.some m1
  have i2 := g6.some m2
  have i5 := g6.some m5
  have i7 := g6.some m7
  rw [root4n i1 i2 i5 i7]
  unfold Im.v
  clear hP hP2 m1 m2 m5 m7
  (all_goals (try simp only [Sq,Sr,Sh,Si,Sl,Bu,Bb,Bd,Bc,Bw,Bn,Int.reduceAdd,Int.reduceSub,Int.reduceMul,Int.reduceTDiv,Int.reduceTMod,Int.reduceMod,Int.reduceDiv,Nat.reduceLT,Nat.reduceEqDiff,Sa,Sb,Sc,Sd,Se,Sf,Sg,Int.reduceLE,Int.reduceLT,Int.reduceToNat,Int.reduceNeg,Int.reduceEq,Nat.reduceLeDiff,Nat.reducePow,Int.reducePow,reduceIte,Nat.reduceSub,Nat.reduceAdd,Nat.reduceMul,putAt,ceq,List.replicate, *])); repeat' ((first | (with_reducible refine fun _ : True => ?_) | (with_reducible refine any_h ?_) | ((first | refine AllocQ_i ?_ | refine AllocO_i ?_); intro bk hb0 hbk; (try simp only [set_none'] at hbk); (try (first | have hbn := Grow.none (by assumption) hbk | have hbn := Grow.none (by assumption) hbk.2 | have hbn := Grow.none (by assumption) hbk.2.2 | have hbn := Grow.none (by assumption) hbk.2.2.2 | have hbn := Grow.none (by assumption) hbk.2.2.2.2 | have hbn := Grow.none (by assumption) hbk.2.2.2.2.2)); (try simp only [set_none'] at hbn); (try (first | have hbm := Grow.none (by assumption) hbn | have hbm := Grow.none (by assumption) hbn.2 | have hbm := Grow.none (by assumption) hbn.2.2 | have hbm := Grow.none (by assumption) hbn.2.2.2 | have hbm := Grow.none (by assumption) hbn.2.2.2.2 | have hbm := Grow.none (by assumption) hbn.2.2.2.2.2)); (try simp only [set_none'] at hbm)) | ((first | refine condS_i ?_ ?_ | refine pick_i ?_ ?_ | refine gS_it ?_ ?_ | refine gS_if ?_ ?_ | refine gP_it ?_ ?_ | refine gP_if ?_ ?_) <;> (intro hc; try simp only [Int.reduceLE,Int.reduceLT,Int.reduceEq,Sn] at hc)) | (with_reducible refine KP_i ?_ ?_; · (repeat' (first | exact Heap.Le.refl _ | (with_reducible refine Le_set2 ?_) | (refine Le_known (by first | (simp only [Heap.set_same, set_ne, ne_eq, not_false_eq_true, *] <;> rfl) | fail) ?_) | (refine Le_fresh (by first | (simp only [*] <;> done) | (simp [set_none', Heap.set_same, set_ne, noneH, *] <;> done) | fail) ?_) | (refine Heap.Le.trans ?_ (Grow.le (by assumption))) | exact Le_none | (refine Le_put ?_ (by first | (simp only [Heap.set_same, set_ne, ne_eq, not_false_eq_true, *] <;> rfl) | fail)) | fail))) | (with_reducible refine And.intro ?_ ?_)) <;> (try simp only [Sq,Sr,Sh,Si,Sl,Bu,Bb,Bd,Bc,Bw,Bn,Int.reduceAdd,Int.reduceSub,Int.reduceMul,Int.reduceTDiv,Int.reduceTMod,Int.reduceMod,Int.reduceDiv,Nat.reduceLT,Nat.reduceEqDiff,Sa,Sb,Sc,Sd,Se,Sf,Sg,Int.reduceLE,Int.reduceLT,Int.reduceToNat,Int.reduceNeg,Int.reduceEq,Nat.reduceLeDiff,Nat.reducePow,Int.reducePow,reduceIte,Nat.reduceSub,Nat.reduceAdd,Nat.reduceMul,putAt,ceq,List.replicate, *]))
  obtain ⟨b9, rfl⟩ : ∃ b9, b9 = bk := ⟨_, rfl⟩
  refine hc_heap (fun G7 e7 => ?_)
  have g67 : Grow w0 H6 G7 := by rw [e7, ← root4n i1 i2 i5 i7]; exact Grow.set (Grow.refl _) hb0 hbk.2.2.2.2
  clear e7 i1 i2 i5 i7 hbk hb0
  refine l_right got want x1 w _ (Hb := G3) (hC4.grow ((g45.trans g6).trans g67)) ((g35.trans g6).trans g67) (hC6.ok.grow g67) (hIx.grow gx3) (hIw.grow gw3) hEq hE (fun H8 g8 => ?_)
  clear hC4 hC6 hEq g67 g6 g45 g35 g4 d71 d17 d72 d27 d75 d57
  have r1 := g8.some k1
  have r2 := g8.some k2
  have r5 := g8.some k5
  have gx8 := gx3.trans g8
  have gw8 := gw3.trans g8
  have gH8 := gH3.trans g8
  have hx8 := hIx.grow gx8
  have hw8 := hIw.grow gw8
  have cE : ∀ (K : Value → Heap → Prop), K (.bool true) H8 → HCalls Try.prog w0 24 [.slice (some ⟨bo, 0, none⟩) b.length oc, .slice a b.length c] H8 K := fun K hk => c_bytesEqual _ _ _ _ _ _ b b rfl rfl (hoB.at_.grow g8) (haB.at_.grow g8) hoB.by_ hoB.by_ (by rw [decide_eq_true rfl]; exact hk)
  clear k1 k2 k5 gx3 gw3 gH3 g8 hoB haB
  rw [root3 r1 r2 r5] at cE ⊢
  (all_goals (try simp only [Sq,Sr,Sh,Si,Sl,Bu,Bb,Bd,Bc,Bw,Bn,Int.reduceAdd,Int.reduceSub,Int.reduceMul,Int.reduceTDiv,Int.reduceTMod,Int.reduceMod,Int.reduceDiv,Nat.reduceLT,Nat.reduceEqDiff,Sa,Sb,Sc,Sd,Se,Sf,Sg,Int.reduceLE,Int.reduceLT,Int.reduceToNat,Int.reduceNeg,Int.reduceEq,Nat.reduceLeDiff,Nat.reducePow,Int.reducePow,reduceIte,Nat.reduceSub,Nat.reduceAdd,Nat.reduceMul,putAt,ceq,List.replicate, *])); repeat' ((first | (with_reducible refine fun _ : True => ?_) | refine cE _ ?_ | (with_reducible refine any_h ?_) | ((first | refine AllocQ_i ?_ | refine AllocO_i ?_); intro bk hb0 hbk; (try simp only [set_none'] at hbk); (try (first | have hbn := Grow.none (by assumption) hbk | have hbn := Grow.none (by assumption) hbk.2 | have hbn := Grow.none (by assumption) hbk.2.2 | have hbn := Grow.none (by assumption) hbk.2.2.2 | have hbn := Grow.none (by assumption) hbk.2.2.2.2 | have hbn := Grow.none (by assumption) hbk.2.2.2.2.2)); (try simp only [set_none'] at hbn); (try (first | have hbm := Grow.none (by assumption) hbn | have hbm := Grow.none (by assumption) hbn.2 | have hbm := Grow.none (by assumption) hbn.2.2 | have hbm := Grow.none (by assumption) hbn.2.2.2 | have hbm := Grow.none (by assumption) hbn.2.2.2.2 | have hbm := Grow.none (by assumption) hbn.2.2.2.2.2)); (try simp only [set_none'] at hbm)) | ((first | refine condS_i ?_ ?_ | refine pick_i ?_ ?_ | refine gS_it ?_ ?_ | refine gS_if ?_ ?_ | refine gP_it ?_ ?_ | refine gP_if ?_ ?_) <;> (intro hc; try simp only [Int.reduceLE,Int.reduceLT,Int.reduceEq,Sn] at hc)) | (with_reducible refine KP_i ?_ ?_; · (repeat' (first | exact Heap.Le.refl _ | (with_reducible refine Le_set2 ?_) | (refine Le_known (by first | (simp only [Heap.set_same, set_ne, ne_eq, not_false_eq_true, *] <;> rfl) | fail) ?_) | (refine Le_fresh (by first | (simp only [*] <;> done) | (simp [set_none', Heap.set_same, set_ne, noneH, *] <;> done) | fail) ?_) | (refine Heap.Le.trans ?_ (Grow.le (by assumption))) | exact Le_none | (refine Le_put ?_ (by first | (simp only [Heap.set_same, set_ne, ne_eq, not_false_eq_true, *] <;> rfl) | fail)) | fail))) | (with_reducible refine And.intro ?_ ?_)) <;> (try simp only [Sq,Sr,Sh,Si,Sl,Bu,Bb,Bd,Bc,Bw,Bn,Int.reduceAdd,Int.reduceSub,Int.reduceMul,Int.reduceTDiv,Int.reduceTMod,Int.reduceMod,Int.reduceDiv,Nat.reduceLT,Nat.reduceEqDiff,Sa,Sb,Sc,Sd,Se,Sf,Sg,Int.reduceLE,Int.reduceLT,Int.reduceToNat,Int.reduceNeg,Int.reduceEq,Nat.reduceLeDiff,Nat.reducePow,Int.reducePow,reduceIte,Nat.reduceSub,Nat.reduceAdd,Nat.reduceMul,putAt,ceq,List.replicate, *]))
  clear cE
  refine hc_heap (fun G9 e9 => ?_)
  obtain rfl : G9 = H8 := e9.trans (root3 r1 r2 r5).symm
  clear e9
  refine c_GetT hx8 lv p (fun a2 c2 l2 e2 HA hG hby hB hl2 gA => ?_)
  have i1 := gA.some r1
  have i2 := gA.some r2
  have i5 := gA.some r5
  rw [root3 i1 i2 i5]
  (all_goals (try simp only [Sq,Sr,Sh,Si,Sl,Bu,Bb,Bd,Bc,Bw,Bn,Int.reduceAdd,Int.reduceSub,Int.reduceMul,Int.reduceTDiv,Int.reduceTMod,Int.reduceMod,Int.reduceDiv,Nat.reduceLT,Nat.reduceEqDiff,Sa,Sb,Sc,Sd,Se,Sf,Sg,Int.reduceLE,Int.reduceLT,Int.reduceToNat,Int.reduceNeg,Int.reduceEq,Nat.reduceLeDiff,Nat.reducePow,Int.reducePow,reduceIte,Nat.reduceSub,Nat.reduceAdd,Nat.reduceMul,putAt,ceq,List.replicate, *])); repeat' ((first | (with_reducible refine fun _ : True => ?_) | (with_reducible refine any_h ?_) | ((first | refine AllocQ_i ?_ | refine AllocO_i ?_); intro bk hb0 hbk; (try simp only [set_none'] at hbk); (try (first | have hbn := Grow.none (by assumption) hbk | have hbn := Grow.none (by assumption) hbk.2 | have hbn := Grow.none (by assumption) hbk.2.2 | have hbn := Grow.none (by assumption) hbk.2.2.2 | have hbn := Grow.none (by assumption) hbk.2.2.2.2 | have hbn := Grow.none (by assumption) hbk.2.2.2.2.2)); (try simp only [set_none'] at hbn); (try (first | have hbm := Grow.none (by assumption) hbn | have hbm := Grow.none (by assumption) hbn.2 | have hbm := Grow.none (by assumption) hbn.2.2 | have hbm := Grow.none (by assumption) hbn.2.2.2 | have hbm := Grow.none (by assumption) hbn.2.2.2.2 | have hbm := Grow.none (by assumption) hbn.2.2.2.2.2)); (try simp only [set_none'] at hbm)) | ((first | refine condS_i ?_ ?_ | refine pick_i ?_ ?_ | refine gS_it ?_ ?_ | refine gS_if ?_ ?_ | refine gP_it ?_ ?_ | refine gP_if ?_ ?_) <;> (intro hc; try simp only [Int.reduceLE,Int.reduceLT,Int.reduceEq,Sn] at hc)) | (with_reducible refine KP_i ?_ ?_; · (repeat' (first | exact Heap.Le.refl _ | (with_reducible refine Le_set2 ?_) | (refine Le_known (by first | (simp only [Heap.set_same, set_ne, ne_eq, not_false_eq_true, *] <;> rfl) | fail) ?_) | (refine Le_fresh (by first | (simp only [*] <;> done) | (simp [set_none', Heap.set_same, set_ne, noneH, *] <;> done) | fail) ?_) | (refine Heap.Le.trans ?_ (Grow.le (by assumption))) | exact Le_none | (refine Le_put ?_ (by first | (simp only [Heap.set_same, set_ne, ne_eq, not_false_eq_true, *] <;> rfl) | fail)) | fail))) | (with_reducible refine And.intro ?_ ?_)) <;> (try simp only [Sq,Sr,Sh,Si,Sl,Bu,Bb,Bd,Bc,Bw,Bn,Int.reduceAdd,Int.reduceSub,Int.reduceMul,Int.reduceTDiv,Int.reduceTMod,Int.reduceMod,Int.reduceDiv,Nat.reduceLT,Nat.reduceEqDiff,Sa,Sb,Sc,Sd,Se,Sf,Sg,Int.reduceLE,Int.reduceLT,Int.reduceToNat,Int.reduceNeg,Int.reduceEq,Nat.reduceLeDiff,Nat.reducePow,Int.reducePow,reduceIte,Nat.reduceSub,Nat.reduceAdd,Nat.reduceMul,putAt,ceq,List.replicate, *]))
  refine hc_heap (fun GA eA => ?_)
  obtain rfl : GA = HA := eA.trans (root3 i1 i2 i5).symm
  clear eA i1 i2 i5
  refine r_GetT (hw8.grow gA) lv p (fun a3 c3 l3 e3 HB hG' hby' hB' gB => ?_)
  obtain ⟨rfl, rfl⟩ := GRs_eqv hE hG hG'
  have g9B := gA.trans gB
  have i1 := g9B.some r1
  have i2 := g9B.some r2
  have i5 := g9B.some r5
  have cE : ∀ (K : Value → Heap → Prop), K (.bool true) HB → HCalls Try.prog w0 24 [.slice a2 l3.length c2, .slice a3 l3.length c3] HB K := fun K hk => c_bytesEqual _ _ _ _ _ _ l3 l3 rfl rfl ((SlAt.toInts hB.slAt).grow gB) (SlAt.toInts hB'.slAt) hby hby (by rw [decide_eq_true rfl]; exact hk)
  have hBw := hB.grow gB
  clear hG hG' hB' hB hby hby'
  rw [root3 i1 i2 i5] at cE ⊢
  (all_goals (try simp only [Sq,Sr,Sh,Si,Sl,Bu,Bb,Bd,Bc,Bw,Bn,Int.reduceAdd,Int.reduceSub,Int.reduceMul,Int.reduceTDiv,Int.reduceTMod,Int.reduceMod,Int.reduceDiv,Nat.reduceLT,Nat.reduceEqDiff,Sa,Sb,Sc,Sd,Se,Sf,Sg,Int.reduceLE,Int.reduceLT,Int.reduceToNat,Int.reduceNeg,Int.reduceEq,Nat.reduceLeDiff,Nat.reducePow,Int.reducePow,reduceIte,Nat.reduceSub,Nat.reduceAdd,Nat.reduceMul,putAt,ceq,List.replicate, *])); repeat' ((first | (with_reducible refine fun _ : True => ?_) | refine cE _ ?_ | (with_reducible refine any_h ?_) | ((first | refine AllocQ_i ?_ | refine AllocO_i ?_); intro bk hb0 hbk; (try simp only [set_none'] at hbk); (try (first | have hbn := Grow.none (by assumption) hbk | have hbn := Grow.none (by assumption) hbk.2 | have hbn := Grow.none (by assumption) hbk.2.2 | have hbn := Grow.none (by assumption) hbk.2.2.2 | have hbn := Grow.none (by assumption) hbk.2.2.2.2 | have hbn := Grow.none (by assumption) hbk.2.2.2.2.2)); (try simp only [set_none'] at hbn); (try (first | have hbm := Grow.none (by assumption) hbn | have hbm := Grow.none (by assumption) hbn.2 | have hbm := Grow.none (by assumption) hbn.2.2 | have hbm := Grow.none (by assumption) hbn.2.2.2 | have hbm := Grow.none (by assumption) hbn.2.2.2.2 | have hbm := Grow.none (by assumption) hbn.2.2.2.2.2)); (try simp only [set_none'] at hbm)) | ((first | refine condS_i ?_ ?_ | refine pick_i ?_ ?_ | refine gS_it ?_ ?_ | refine gS_if ?_ ?_ | refine gP_it ?_ ?_ | refine gP_if ?_ ?_) <;> (intro hc; try simp only [Int.reduceLE,Int.reduceLT,Int.reduceEq,Sn] at hc)) | (with_reducible refine KP_i ?_ ?_; · (repeat' (first | exact Heap.Le.refl _ | (with_reducible refine Le_set2 ?_) | (refine Le_known (by first | (simp only [Heap.set_same, set_ne, ne_eq, not_false_eq_true, *] <;> rfl) | fail) ?_) | (refine Le_fresh (by first | (simp only [*] <;> done) | (simp [set_none', Heap.set_same, set_ne, noneH, *] <;> done) | fail) ?_) | (refine Heap.Le.trans ?_ (Grow.le (by assumption))) | exact Le_none | (refine Le_put ?_ (by first | (simp only [Heap.set_same, set_ne, ne_eq, not_false_eq_true, *] <;> rfl) | fail)) | fail))) | (with_reducible refine And.intro ?_ ?_)) <;> (try simp only [Sq,Sr,Sh,Si,Sl,Bu,Bb,Bd,Bc,Bw,Bn,Int.reduceAdd,Int.reduceSub,Int.reduceMul,Int.reduceTDiv,Int.reduceTMod,Int.reduceMod,Int.reduceDiv,Nat.reduceLT,Nat.reduceEqDiff,Sa,Sb,Sc,Sd,Se,Sf,Sg,Int.reduceLE,Int.reduceLT,Int.reduceToNat,Int.reduceNeg,Int.reduceEq,Nat.reduceLeDiff,Nat.reducePow,Int.reducePow,reduceIte,Nat.reduceSub,Nat.reduceAdd,Nat.reduceMul,putAt,ceq,List.replicate, *]))
  rw [← root3 i1 i2 i5]
  clear cE i1 i2 i5
  have cS : ∀ (G : Heap) (K : Value → Heap → Prop), Grow w0 G9 G → K (.bool true) G → HCalls Try.prog w0 26 [x1.v, w.v] G K := fun G K g hk => r_Same x1 w (hx8.grow g) (hw8.grow g) (fun _ => hk) (fun q => (q hE).elim)
  have x0 : XSt w0 G9 HB a2 l3.length := by
    refine ⟨g9B, fun i hi => ?_⟩
    rcases hBw with ⟨bb, zz, ea, q1, q2, q3, -⟩ | ⟨-, q⟩
    · refine ⟨bb, _, l3[i], ea, q1, q2, q3, ?_⟩
      rw [List.getElem?_append_left (by rw [List.length_map]; exact hi), List.getElem?_map, List.getElem?_eq_getElem hi]
      rfl
    · have := congrArg List.length q
      rw [List.length_map] at this
      have h0 : l3.length = 0 := this
      omega
  obtain ⟨n, en⟩ : ∃ n, l3.length = n := ⟨_, rfl⟩
  rw [en] at x0 hl2 ⊢
  unfold Im.v at cS
  clear hBw hx8 hw8 hIx hIw hE gx8 gw8 en
  refine loopq_name (fun code kont T eM eK eT => ?_)
  refine loop_a 98 (fun s : Nat × List Value => [(97, .int .i64 (s.1 : Nat)), (13, s.2.getD 0 undef)]) (fun s F => s.1 ≤ n ∧ XSt w0 G9 F a2 n) (fun s => n - s.1) (0, []) ⟨Nat.zero_le _, x0⟩ (by subst eT; rfl) ?_
  clear x0
  intro ⟨i, us⟩ F U ⟨hi, st⟩
  simp only at hi st
  rcases Nat.lt_or_ge i n with hlt | hge
  · have t1 : (i : Int) < (n : Int) := by omega
    have t2 : IntKind.i64.wrap ((i : Int) + 1) = ((i + 1 : Nat) : Int) := by rw [Bw.1 _ (by omega) (by omega)]; omega
    obtain ⟨bb, ds, v, ea, q1, q2, q3, q4⟩ := st.2 i hlt
    have st2 := st.next ea q1 q2 q3 (i := i) (v := .int .u8 (bitsI .xor .u8 v 238)) ⟨_, rfl⟩
    have hds := (List.getElem?_eq_some_iff.1 q4).1
    subst eM eK eT
    show run _ _ _ _ _ _ F
    rw [root1 q3]
    subst ea
    clear st cS
    (all_goals (try simp only [Sq,Sr,Sh,Si,Sl,Bu,Bb,Bd,Bc,Bw,Bn,Int.reduceAdd,Int.reduceSub,Int.reduceMul,Int.reduceTDiv,Int.reduceTMod,Int.reduceMod,Int.reduceDiv,Nat.reduceLT,Nat.reduceEqDiff,Sa,Sb,Sc,Sd,Se,Sf,Sg,Int.reduceLE,Int.reduceLT,Int.reduceToNat,Int.reduceNeg,Int.reduceEq,Nat.reduceLeDiff,Nat.reducePow,Int.reducePow,reduceIte,Nat.reduceSub,Nat.reduceAdd,Nat.reduceMul,putAt,ceq,List.replicate, *])); repeat' ((first | (with_reducible refine fun _ : True => ?_) | (with_reducible refine any_h ?_) | ((first | refine AllocQ_i ?_ | refine AllocO_i ?_); intro bk hb0 hbk; (try simp only [set_none'] at hbk); (try (first | have hbn := Grow.none (by assumption) hbk | have hbn := Grow.none (by assumption) hbk.2 | have hbn := Grow.none (by assumption) hbk.2.2 | have hbn := Grow.none (by assumption) hbk.2.2.2 | have hbn := Grow.none (by assumption) hbk.2.2.2.2 | have hbn := Grow.none (by assumption) hbk.2.2.2.2.2)); (try simp only [set_none'] at hbn); (try (first | have hbm := Grow.none (by assumption) hbn | have hbm := Grow.none (by assumption) hbn.2 | have hbm := Grow.none (by assumption) hbn.2.2 | have hbm := Grow.none (by assumption) hbn.2.2.2 | have hbm := Grow.none (by assumption) hbn.2.2.2.2 | have hbm := Grow.none (by assumption) hbn.2.2.2.2.2)); (try simp only [set_none'] at hbm)) | ((first | refine condS_i ?_ ?_ | refine pick_i ?_ ?_ | refine gS_it ?_ ?_ | refine gS_if ?_ ?_ | refine gP_it ?_ ?_ | refine gP_if ?_ ?_) <;> (intro hc; try simp only [Int.reduceLE,Int.reduceLT,Int.reduceEq,Sn] at hc)) | (with_reducible refine KP_i ?_ ?_; · (repeat' (first | exact Heap.Le.refl _ | (with_reducible refine Le_set2 ?_) | (refine Le_known (by first | (simp only [Heap.set_same, set_ne, ne_eq, not_false_eq_true, *] <;> rfl) | fail) ?_) | (refine Le_fresh (by first | (simp only [*] <;> done) | (simp [set_none', Heap.set_same, set_ne, noneH, *] <;> done) | fail) ?_) | (refine Heap.Le.trans ?_ (Grow.le (by assumption))) | exact Le_none | (refine Le_put ?_ (by first | (simp only [Heap.set_same, set_ne, ne_eq, not_false_eq_true, *] <;> rfl) | fail)) | fail))) | (with_reducible refine And.intro ?_ ?_)) <;> (try simp only [Sq,Sr,Sh,Si,Sl,Bu,Bb,Bd,Bc,Bw,Bn,Int.reduceAdd,Int.reduceSub,Int.reduceMul,Int.reduceTDiv,Int.reduceTMod,Int.reduceMod,Int.reduceDiv,Nat.reduceLT,Nat.reduceEqDiff,Sa,Sb,Sc,Sd,Se,Sf,Sg,Int.reduceLE,Int.reduceLT,Int.reduceToNat,Int.reduceNeg,Int.reduceEq,Nat.reduceLeDiff,Nat.reducePow,Int.reducePow,reduceIte,Nat.reduceSub,Nat.reduceAdd,Nat.reduceMul,putAt,ceq,List.replicate, *]))
    exact Round_p (i + 1, [_]) ⟨hlt, by simpa only [Heap.set_set] using st2⟩ (by simp only; omega) rfl rfl
  · obtain rfl : i = n := by omega
    have t1 : ¬ (i : Int) < (i : Int) := by omega
    have i1 := st.1.some r1
    have i2 := st.1.some r2
    have i5 := st.1.some r5
    have gF := st.1
    subst eM eK eT
    show run _ _ _ _ _ _ F
    have cS2 := cS F
    clear cS st
    rw [root3 i1 i2 i5] at cS2 ⊢
    (all_goals (try simp only [Sq,Sr,Sh,Si,Sl,Bu,Bb,Bd,Bc,Bw,Bn,Int.reduceAdd,Int.reduceSub,Int.reduceMul,Int.reduceTDiv,Int.reduceTMod,Int.reduceMod,Int.reduceDiv,Nat.reduceLT,Nat.reduceEqDiff,Sa,Sb,Sc,Sd,Se,Sf,Sg,Int.reduceLE,Int.reduceLT,Int.reduceToNat,Int.reduceNeg,Int.reduceEq,Nat.reduceLeDiff,Nat.reducePow,Int.reducePow,reduceIte,Nat.reduceSub,Nat.reduceAdd,Nat.reduceMul,putAt,ceq,List.replicate, *])); repeat' ((first | (with_reducible refine fun _ : True => ?_) | refine cS2 _ (by (repeat' (first | exact Grow.refl _ | assumption | (refine Grow_known (by first | (simp only [Heap.set_same, set_ne, ne_eq, not_false_eq_true, *] <;> rfl) | fail) ?_) | (refine Grow.set ?_ (by assumption) (by first | (simp only [*] <;> done) | (simp [set_none', Heap.set_same, set_ne, noneH, *] <;> done) | fail)) | (refine Grow.trans ?_ (by assumption))))) ?_ | (with_reducible refine any_h ?_) | ((first | refine AllocQ_i ?_ | refine AllocO_i ?_); intro bk hb0 hbk; (try simp only [set_none'] at hbk); (try (first | have hbn := Grow.none (by assumption) hbk | have hbn := Grow.none (by assumption) hbk.2 | have hbn := Grow.none (by assumption) hbk.2.2 | have hbn := Grow.none (by assumption) hbk.2.2.2 | have hbn := Grow.none (by assumption) hbk.2.2.2.2 | have hbn := Grow.none (by assumption) hbk.2.2.2.2.2)); (try simp only [set_none'] at hbn); (try (first | have hbm := Grow.none (by assumption) hbn | have hbm := Grow.none (by assumption) hbn.2 | have hbm := Grow.none (by assumption) hbn.2.2 | have hbm := Grow.none (by assumption) hbn.2.2.2 | have hbm := Grow.none (by assumption) hbn.2.2.2.2 | have hbm := Grow.none (by assumption) hbn.2.2.2.2.2)); (try simp only [set_none'] at hbm)) | ((first | refine condS_i ?_ ?_ | refine pick_i ?_ ?_ | refine gS_it ?_ ?_ | refine gS_if ?_ ?_ | refine gP_it ?_ ?_ | refine gP_if ?_ ?_) <;> (intro hc; try simp only [Int.reduceLE,Int.reduceLT,Int.reduceEq,Sn] at hc)) | (with_reducible refine KP_i ?_ ?_; · (repeat' (first | exact Heap.Le.refl _ | (with_reducible refine Le_set2 ?_) | (refine Le_known (by first | (simp only [Heap.set_same, set_ne, ne_eq, not_false_eq_true, *] <;> rfl) | fail) ?_) | (refine Le_fresh (by first | (simp only [*] <;> done) | (simp [set_none', Heap.set_same, set_ne, noneH, *] <;> done) | fail) ?_) | (refine Heap.Le.trans ?_ (Grow.le (by assumption))) | exact Le_none | (refine Le_put ?_ (by first | (simp only [Heap.set_same, set_ne, ne_eq, not_false_eq_true, *] <;> rfl) | fail)) | fail))) | (with_reducible refine And.intro ?_ ?_)) <;> (try simp only [Sq,Sr,Sh,Si,Sl,Bu,Bb,Bd,Bc,Bw,Bn,Int.reduceAdd,Int.reduceSub,Int.reduceMul,Int.reduceTDiv,Int.reduceTMod,Int.reduceMod,Int.reduceDiv,Nat.reduceLT,Nat.reduceEqDiff,Sa,Sb,Sc,Sd,Se,Sf,Sg,Int.reduceLE,Int.reduceLT,Int.reduceToNat,Int.reduceNeg,Int.reduceEq,Nat.reduceLeDiff,Nat.reducePow,Int.reducePow,reduceIte,Nat.reduceSub,Nat.reduceAdd,Nat.reduceMul,putAt,ceq,List.replicate, *]))
    exact Fin_mk (Heap.Le.trans (Grow.le gH8) (by (repeat' (first | exact Heap.Le.refl _ | (with_reducible refine Le_set2 ?_) | (refine Le_known (by first | (simp only [Heap.set_same, set_ne, ne_eq, not_false_eq_true, *] <;> rfl) | fail) ?_) | (refine Le_fresh (by first | (simp only [*] <;> done) | (simp [set_none', Heap.set_same, set_ne, noneH, *] <;> done) | fail) ?_) | (refine Heap.Le.trans ?_ (Grow.le (by assumption))) | exact Le_none | (refine Le_put ?_ (by first | (simp only [Heap.set_same, set_ne, ne_eq, not_false_eq_true, *] <;> rfl) | fail)) | fail)))) h
end Go.Proofs.Ytdaipgnhconfnaa
