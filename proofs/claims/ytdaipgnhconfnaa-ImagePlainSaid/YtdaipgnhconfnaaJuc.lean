/- The statement ImagePlain, as a call (layer 8). -/
import Derived.Test.YtdaipgnhconfnaaJub
import Derived.Test.YtdaipgnhconfnaaIph
import Derived.Test.YtdaipgnhconfnaaIod
import Derived.Test.YtdaipgnhconfnaaWk8
set_option linter.unusedSimpArgs false
set_option linter.unusedVariables false
set_option maxRecDepth 100000
set_option maxHeartbeats 4000000
namespace Go.Proofs.Ytdaipgnhconfnaa
open Go Go.HL Go.RowKit Pb
variable {w0 : World} {H G : Heap} {K : Value → Heap → Prop}

theorem ImC.growJ {G F : Heap} {x : Im} (h : ImC w0 H G x) (g : Grow w0 G F) : ImC w0 H F x := ⟨h.bld.grow g, fun y hy => ⟨(h.lv y hy).bld.grow g, (h.lv y hy).lm, (h.lv y hy).lr, (h.lv y hy).w, (h.lv y hy).h, (h.lv y hy).by_⟩, h.lm, h.lr, h.f, h.s, h.t, h.mn, h.mg⟩
def newI : Im := ⟨0, none, 0, [], 1, 1, 3, 2⟩
theorem newI_ok (w0 : World) (H : Heap) : ImOk w0 H newI := ⟨SlAt.nil, fun y hy => by simp [newI] at hy, Nat.zero_le _, Nat.zero_le _, Nat.zero_le _, by unfold I64 newI; simp, by unfold I64 newI; simp, by unfold I64 newI; simp, by unfold I64 newI; simp, by unfold I64 newI; simp⟩
theorem newI_right : newI.right := ⟨by decide, fun _ => rfl, fun u hu => by simp [newI] at hu, fun y hy => by simp [newI] at hy, by unfold newI; decide, by unfold newI; decide, by unfold newI; decide, by unfold newI; decide⟩
/- image New -/
def M18 : MC :=
  .seq (.reg [⟨(some 0), .alloc 24 [(.int .i64 0), (.slice none 0 0), (.int .i64 0), (.int .i64 0), (.int .i64 0), (.int .i64 0)], none⟩])
 (.seq (.reg [⟨(some 1), .build [(.int .i64 0), (.slice none 0 0), (.int .i64 0), (.int .i64 0), (.int .i64 0), (.int .i64 0)] [(2, 1, (.const (.int .i64 1))), (3, 1, (.const (.int .i64 1))), (4, 1, (.const (.int .i64 3))), (5, 1, (.const (.int .i64 2)))], none⟩,
 ⟨none, .stn 6 (.tmp 0) (.tmp 1), none⟩])
 (.ret))
theorem k18 : fnOk Try.prog 18 = some (M18, [.cn 6 0], 2) := by kernel_rfl

theorem c_New (h : ∀ G, Grow w0 H G → K (.agg #[.int .i64 0, .slice none 0 0, .int .i64 1, .int .i64 1, .int .i64 3, .int .i64 2]) G) : HCalls Try.prog w0 18 [] H K := by
  refine HL.hc k18 999 ?_; unfold M18
  (all_goals (try simp only [Sq,Sr,Sh,Si,Sl,Bu,Bb,Bd,Bc,Bw,Bn,Int.reduceAdd,Int.reduceSub,Int.reduceMul,Int.reduceTDiv,Int.reduceTMod,Int.reduceMod,Int.reduceDiv,Nat.reduceLT,Nat.reduceEqDiff,Sa,Sb,Sc,Sd,Se,Sf,Sg,Int.reduceLE,Int.reduceLT,Int.reduceToNat,Int.reduceNeg,Int.reduceEq,Nat.reduceLeDiff,Nat.reducePow,Int.reducePow,reduceIte,Nat.reduceSub,Nat.reduceAdd,Nat.reduceMul,putAt,ceq,List.replicate, *])); repeat' ((first | (with_reducible refine fun _ : True => ?_) | (with_reducible refine any_h ?_) | ((first | refine AllocQ_i ?_ | refine AllocO_i ?_); intro bk hb0 hbk; (try simp only [set_none'] at hbk); (try (first | have hbn := Grow.none (by assumption) hbk | have hbn := Grow.none (by assumption) hbk.2 | have hbn := Grow.none (by assumption) hbk.2.2 | have hbn := Grow.none (by assumption) hbk.2.2.2 | have hbn := Grow.none (by assumption) hbk.2.2.2.2 | have hbn := Grow.none (by assumption) hbk.2.2.2.2.2)); (try simp only [set_none'] at hbn); (try (first | have hbm := Grow.none (by assumption) hbn | have hbm := Grow.none (by assumption) hbn.2 | have hbm := Grow.none (by assumption) hbn.2.2 | have hbm := Grow.none (by assumption) hbn.2.2.2 | have hbm := Grow.none (by assumption) hbn.2.2.2.2 | have hbm := Grow.none (by assumption) hbn.2.2.2.2.2)); (try simp only [set_none'] at hbm)) | ((first | refine condS_i ?_ ?_ | refine pick_i ?_ ?_ | refine gS_it ?_ ?_ | refine gS_if ?_ ?_ | refine gP_it ?_ ?_ | refine gP_if ?_ ?_) <;> (intro hc; try simp only [Int.reduceLE,Int.reduceLT,Int.reduceEq,Sn] at hc)) | (with_reducible refine KP_i ?_ ?_; · (repeat' (first | exact Heap.Le.refl _ | (with_reducible refine Le_set2 ?_) | (refine Le_known (by first | (simp only [Heap.set_same, set_ne, ne_eq, not_false_eq_true, *] <;> rfl) | fail) ?_) | (refine Le_fresh (by first | (simp only [*] <;> done) | (simp [set_none', Heap.set_same, set_ne, noneH, *] <;> done) | fail) ?_) | (refine Heap.Le.trans ?_ (Grow.le (by assumption))) | exact Le_none | (refine Le_put ?_ (by first | (simp only [Heap.set_same, set_ne, ne_eq, not_false_eq_true, *] <;> rfl) | fail)) | fail))) | (with_reducible refine And.intro ?_ ?_)) <;> (try simp only [Sq,Sr,Sh,Si,Sl,Bu,Bb,Bd,Bc,Bw,Bn,Int.reduceAdd,Int.reduceSub,Int.reduceMul,Int.reduceTDiv,Int.reduceTMod,Int.reduceMod,Int.reduceDiv,Nat.reduceLT,Nat.reduceEqDiff,Sa,Sb,Sc,Sd,Se,Sf,Sg,Int.reduceLE,Int.reduceLT,Int.reduceToNat,Int.reduceNeg,Int.reduceEq,Nat.reduceLeDiff,Nat.reducePow,Int.reducePow,reduceIte,Nat.reduceSub,Nat.reduceAdd,Nat.reduceMul,putAt,ceq,List.replicate, *]))
  exact Fin_mk (Heap.Le.refl _) (h _ (by (repeat' (first | exact Grow.refl _ | assumption | (refine Grow_known (by first | (simp only [Heap.set_same, set_ne, ne_eq, not_false_eq_true, *] <;> rfl) | fail) ?_) | (refine Grow.set ?_ (by assumption) (by first | (simp only [*] <;> done) | (simp [set_none', Heap.set_same, set_ne, noneH, *] <;> done) | fail)) | (refine Grow.trans ?_ (by assumption))))))
/-- What a plain level that was put comes to. -/
structure Pl (f : Int) (px : List Int) (W V : Nat) (y : Im) : Prop where
  f : y.f = f
  ls : y.ls.map LvR.core = [((W : Int), (V : Int), repL px (W * V))]
  right : y.right
theorem put_pl {f : Int} {px : List Int} {W V : Nat} {y : Im} {z : LvR} (hs : sizeI f ≠ 0) (hl : px.length = (sizeI f).toNat) (hW : 1 ≤ W ∧ W ≤ 64) (hV : 1 ≤ V ∧ V ≤ 64) (ez : z.core = ((W : Int), (V : Int), repL px (W * V))) (h : PutOk newI 0 f z y) : Pl f px W V y := by
  have e1 : z.w = W := congrArg Prod.fst ez
  have e2 : z.h = V := congrArg (fun q : Int × Int × List Int => q.2.1) ez
  have e3 : z.l = repL px (W * V) := congrArg (fun q : Int × Int × List Int => q.2.2) ez
  have hlen : (z.l.length : Int) = W * V * sizeI f := by
    rw [e3, repL_len, hl, Int.natCast_mul, Int.natCast_mul, Int.toNat_of_nonneg (sizeI_le _).1]
  have hp : putB f z = z.l := by
    unfold putB
    rw [e1, e2, ← hlen]; simp
  have hls : y.ls.map LvR.core = [((W : Int), (V : Int), repL px (W * V))] := by
    rw [h.pl, hp, e1, e2, e3]
    have : newI.keep f = [] := by unfold Im.keep; split <;> rfl
    rw [this]; rfl
  have hone : ∃ u, y.ls = [u] := by
    have := congrArg List.length hls
    rw [List.length_map] at this
    exact List.length_eq_one_iff.1 this
  obtain ⟨u, eu⟩ := hone
  have hu : u.core = ((W : Int), (V : Int), repL px (W * V)) := by rw [eu] at hls; simpa using hls
  have u1 : u.w = W := congrArg Prod.fst hu
  have u2 : u.h = V := congrArg (fun q : Int × Int × List Int => q.2.1) hu
  have u3 : u.l = z.l := (congrArg (fun q : Int × Int × List Int => q.2.2) hu).trans e3.symm
  have hn : ¬ u.nil := fun hn => by unfold LvR.nil at hn; omega
  refine ⟨h.pf, hls, ?_⟩
  refine ⟨by rw [eu]; simp, fun e => by rw [eu] at e; simp at e, fun v hv => ?_, fun v hv => ?_, by rw [h.ps]; unfold newI; decide, by rw [h.pt]; unfold newI; decide, by rw [h.pn]; unfold newI; decide, by rw [h.pg]; unfold newI; decide⟩
  · rw [eu] at hv
    have : v = u := by simpa using hv.symm
    rw [this, h.pf]; exact ⟨hs, hn⟩
  · rw [eu] at hv
    have : v = u := by simpa using hv
    rw [this, h.pf]
    exact .inr ⟨by unfold sideP; omega, by unfold sideP; omega, by rw [u3, hlen, u1, u2]⟩
theorem ints_take {k : IntKind} {a : Option Addr} {l : List Int} (h : IntsAt w0 H k a l) (S : Nat) : IntsAt w0 H k a (l.take S) := fun hc => by
  obtain ⟨b, o, e, hr, hf⟩ := h (fun e => hc (by rw [e]; simp))
  refine ⟨b, o, e, fun i hi => ?_, hf⟩
  rw [List.length_take] at hi
  rw [hr i (by omega)]
  simp [List.getD, List.getElem?_take, (by omega : i < S)]
def A10_1 : PT := (.one true 1 [] ⟨(some 42), .mv (.tmp 0), none⟩ (.one true 2 [] ⟨(some 43), .conv .u64 (.tmp 42), none⟩ (.one true 3 [] ⟨(some 44), .bin .rem (.tmp 43) (.const (.int .u64 8)), none⟩ (.one true 4 [] ⟨(some 45), .conv .i64 (.tmp 44), none⟩ (.one true 5 [] ⟨(some 46), .mv (.tmp 7), none⟩ (.one true 6 [] ⟨(some 47), .mv (.tmp 8), none⟩ (.one true 7 [] ⟨(some 48), .mv (.tmp 2), none⟩ (.one true 8 [] ⟨(some 49), .mv (.tmp 9), none⟩ (.one true 9 [] ⟨(some 50), .slc 1 (.tmp 48) none (some (.tmp 49)), none⟩ (.one true 10 [] ⟨(some 51), .mv (.tmp 7), none⟩ (.one true 11 [] ⟨(some 52), .mv (.tmp 8), none⟩ (.one true 12 [] ⟨(some 53), .bin .mul (.tmp 51) (.tmp 52), none⟩ (.alt (.one false 0 [1, 2, 3, 4, 5, 6, 7, 8, 9, 10, 11, 12, 14, 16, 17, 18, 17, 18, 17, 18, 17, 18] ⟨(some 41), .call 18 [], none⟩ (.alt (.one false 13 [1, 2, 3, 4, 5, 6, 14, 16, 17, 18, 17, 18, 17, 18, 17, 18] ⟨(some 54), .call 38 [(.tmp 50), (.tmp 53)], none⟩ (.one true 14 [] ⟨(some 55), .build [(.int .i64 0), (.int .i64 0), (.slice none 0 0)] [(0, 1, (.tmp 46)), (1, 1, (.tmp 47)), (2, 1, (.tmp 54))], none⟩ (.alt (.one false 15 [16, 17, 18, 17, 18, 17, 18, 17, 18] ⟨(some 56), .call 22 [(.tmp 41), (.const (.int .i64 0)), (.tmp 45), (.tmp 55)], none⟩ (.one true 16 [] ⟨(some 40), .mv (.tmp 56), none⟩ (.one true 17 [] ⟨(some 57), .ext 0 (.tmp 40), none⟩ (.one true 18 [] ⟨(some 58), .ext 1 (.tmp 40), none⟩ (.one false 19 [16, 17, 18, 17, 18, 17, 18, 17, 18] ⟨(some 10), .alloc 24 [(.int .i64 0), (.slice none 0 0), (.int .i64 0), (.int .i64 0), (.int .i64 0), (.int .i64 0)], none⟩ (.one false 20 [18, 18, 18, 18] ⟨none, .stn 6 (.tmp 10) (.tmp 57), none⟩ (.one false 21 [] ⟨(some 11), .mv (.tmp 58), none⟩ .nil)))))))
      (.one false 19 [1, 2, 3, 4, 5, 6, 14, 16, 17, 18, 17, 18, 17, 18, 17, 18] ⟨(some 10), .alloc 24 [(.int .i64 0), (.slice none 0 0), (.int .i64 0), (.int .i64 0), (.int .i64 0), (.int .i64 0)], none⟩ (.one false 15 [16, 17, 18, 17, 18, 17, 18, 17, 18] ⟨(some 56), .call 22 [(.tmp 41), (.const (.int .i64 0)), (.tmp 45), (.tmp 55)], none⟩ (.one false 16 [16, 17, 18, 17, 18, 17, 18, 17, 18] ⟨(some 40), .mv (.tmp 56), none⟩ (.one true 17 [] ⟨(some 57), .ext 0 (.tmp 40), none⟩ (.one true 18 [] ⟨(some 58), .ext 1 (.tmp 40), none⟩ (.one false 20 [18, 18, 18, 18] ⟨none, .stn 6 (.tmp 10) (.tmp 57), none⟩ (.one false 21 [] ⟨(some 11), .mv (.tmp 58), none⟩ .nil))))))))))
      (.one false 19 [1, 2, 3, 4, 5, 6, 7, 8, 9, 10, 11, 12, 14, 16, 17, 18, 17, 18, 17, 18, 17, 18] ⟨(some 10), .alloc 24 [(.int .i64 0), (.slice none 0 0), (.int .i64 0), (.int .i64 0), (.int .i64 0), (.int .i64 0)], none⟩ (.one false 13 [1, 2, 3, 4, 5, 6, 14, 16, 17, 18, 17, 18, 17, 18, 17, 18] ⟨(some 54), .call 38 [(.tmp 50), (.tmp 53)], none⟩ (.one false 14 [1, 2, 3, 4, 5, 6, 14, 16, 17, 18, 17, 18, 17, 18, 17, 18] ⟨(some 55), .build [(.int .i64 0), (.int .i64 0), (.slice none 0 0)] [(0, 1, (.tmp 46)), (1, 1, (.tmp 47)), (2, 1, (.tmp 54))], none⟩ (.one false 15 [16, 17, 18, 17, 18, 17, 18, 17, 18] ⟨(some 56), .call 22 [(.tmp 41), (.const (.int .i64 0)), (.tmp 45), (.tmp 55)], none⟩ (.one false 16 [16, 17, 18, 17, 18, 17, 18, 17, 18] ⟨(some 40), .mv (.tmp 56), none⟩ (.one true 17 [] ⟨(some 57), .ext 0 (.tmp 40), none⟩ (.one true 18 [] ⟨(some 58), .ext 1 (.tmp 40), none⟩ (.one false 20 [18, 18, 18, 18] ⟨none, .stn 6 (.tmp 10) (.tmp 57), none⟩ (.one false 21 [] ⟨(some 11), .mv (.tmp 58), none⟩ .nil)))))))))))
      (.one false 19 [1, 2, 3, 4, 5, 6, 7, 8, 9, 10, 11, 12, 14, 16, 17, 18, 17, 18, 17, 18, 17, 18] ⟨(some 10), .alloc 24 [(.int .i64 0), (.slice none 0 0), (.int .i64 0), (.int .i64 0), (.int .i64 0), (.int .i64 0)], none⟩ (.one false 0 [1, 2, 3, 4, 5, 6, 7, 8, 9, 10, 11, 12, 14, 16, 17, 18, 17, 18, 17, 18, 17, 18] ⟨(some 41), .call 18 [], none⟩ (.one false 13 [1, 2, 3, 4, 5, 6, 14, 16, 17, 18, 17, 18, 17, 18, 17, 18] ⟨(some 54), .call 38 [(.tmp 50), (.tmp 53)], none⟩ (.one false 14 [1, 2, 3, 4, 5, 6, 14, 16, 17, 18, 17, 18, 17, 18, 17, 18] ⟨(some 55), .build [(.int .i64 0), (.int .i64 0), (.slice none 0 0)] [(0, 1, (.tmp 46)), (1, 1, (.tmp 47)), (2, 1, (.tmp 54))], none⟩ (.one false 15 [16, 17, 18, 17, 18, 17, 18, 17, 18] ⟨(some 56), .call 22 [(.tmp 41), (.const (.int .i64 0)), (.tmp 45), (.tmp 55)], none⟩ (.one false 16 [16, 17, 18, 17, 18, 17, 18, 17, 18] ⟨(some 40), .mv (.tmp 56), none⟩ (.one true 17 [] ⟨(some 57), .ext 0 (.tmp 40), none⟩ (.one true 18 [] ⟨(some 58), .ext 1 (.tmp 40), none⟩ (.one false 20 [18, 18, 18, 18] ⟨none, .stn 6 (.tmp 10) (.tmp 57), none⟩ (.one false 21 [] ⟨(some 11), .mv (.tmp 58), none⟩ .nil)))))))))))))))))))))))
/- paintboxlaw08 ImagePlain -/
def M10 : MC :=
  .seq (.reg [⟨(some 6), .mv (.const (.bool false)), none⟩])
 (.seq (.seq (.reg [⟨(some 16), .call 12 [], none⟩,
 ⟨(some 17), .un .not (.tmp 16), none⟩])
 (.cond (.tmp 17)
 (.seq (.reg [⟨(some 6), .mv (.const (.bool false)), none⟩])
 (.ret))
 (.skip)))
 (.seq (.reg [⟨(some 18), .mv (.tmp 1), none⟩,
 ⟨(some 19), .conv .u64 (.tmp 18), none⟩,
 ⟨(some 20), .bin .rem (.tmp 19) (.const (.int .u64 7)), none⟩,
 ⟨(some 21), .bin .shl (.const (.int .i64 1)) (.tmp 20), none⟩,
 ⟨(some 22), .mv (.tmp 1), none⟩,
 ⟨(some 23), .conv .u64 (.tmp 22), none⟩,
 ⟨(some 24), .bin .quo (.tmp 23) (.const (.int .u64 7)), none⟩,
 ⟨(some 25), .bin .rem (.tmp 24) (.const (.int .u64 7)), none⟩,
 ⟨(some 26), .bin .shl (.const (.int .i64 1)) (.tmp 25), none⟩,
 ⟨(some 7), .mv (.tmp 21), none⟩,
 ⟨(some 8), .mv (.tmp 26), none⟩])
 (.seq (.reg [⟨(some 27), .build [(.int .i64 0), (.int .i64 0), (.int .i64 0), (.int .i64 0), (.int .i64 0), (.int .i64 0), (.int .i64 0), (.int .i64 0)] [(0, 1, (.const (.int .i64 0))), (1, 1, (.const (.int .i64 4))), (2, 1, (.const (.int .i64 2))), (3, 1, (.const (.int .i64 2))), (4, 1, (.const (.int .i64 2))), (5, 1, (.const (.int .i64 1))), (6, 1, (.const (.int .i64 1))), (7, 1, (.const (.int .i64 2)))], none⟩,
 ⟨(some 28), .mv (.tmp 0), none⟩,
 ⟨(some 29), .conv .u64 (.tmp 28), none⟩,
 ⟨(some 30), .bin .rem (.tmp 29) (.const (.int .u64 8)), none⟩,
 ⟨(some 31), .ix 8 (.tmp 27) (.tmp 30), none⟩,
 ⟨(some 9), .mv (.tmp 31), none⟩])
 (.seq (.seq (.reg [⟨(some 32), .mv (.tmp 2), none⟩,
 ⟨(some 33), .len (.tmp 32), none⟩,
 ⟨(some 34), .mv (.tmp 9), none⟩,
 ⟨(some 35), .bin .lss (.tmp 33) (.tmp 34), none⟩,
 ⟨(some 36), .mv (.tmp 35), none⟩,
 ⟨(some 37), .mv (.tmp 9), (some (36, false))⟩,
 ⟨(some 38), .bin .eql (.tmp 37) (.const (.int .i64 0)), (some (36, false))⟩,
 ⟨(some 39), .pick (.tmp 36) (.const (.bool true)) (.tmp 38), none⟩])
 (.cond (.tmp 39)
 (.seq (.reg [⟨(some 6), .mv (.const (.bool true)), none⟩])
 (.ret))
 (.skip)))
 (.seq (.alts A10_1)
 (.seq (.reg [⟨(some 60), .ldn 6 (.tmp 10), none⟩,
 ⟨(some 61), .call 15 [(.tmp 60)], none⟩,
 ⟨(some 59), .mv (.tmp 61), none⟩,
 ⟨(some 62), .ext 0 (.tmp 59), none⟩,
 ⟨(some 63), .ext 1 (.tmp 59), none⟩,
 ⟨(some 12), .alloc 24 [(.int .i64 0), (.slice none 0 0), (.int .i64 0), (.int .i64 0), (.int .i64 0), (.int .i64 0)], none⟩,
 ⟨none, .stn 6 (.tmp 12) (.tmp 62), none⟩,
 ⟨(some 13), .mv (.tmp 63), none⟩])
 (.seq (.seq (.reg [⟨(some 64), .mv (.tmp 11), none⟩,
 ⟨(some 65), .bin .neq (.tmp 64) (.const (.int .i64 0)), none⟩,
 ⟨(some 66), .mv (.tmp 65), none⟩,
 ⟨(some 67), .mv (.tmp 13), (some (66, false))⟩,
 ⟨(some 68), .bin .neq (.tmp 67) (.const (.int .i64 0)), (some (66, false))⟩,
 ⟨(some 69), .pick (.tmp 66) (.const (.bool true)) (.tmp 68), none⟩])
 (.cond (.tmp 69)
 (.seq (.reg [⟨(some 6), .mv (.const (.bool false)), none⟩])
 (.ret))
 (.skip)))
 (.seq (.seq (.reg [⟨(some 70), .fa 1 (.tmp 12), none⟩,
 ⟨(some 71), .ld1 (.tmp 70), none⟩,
 ⟨(some 72), .len (.tmp 71), none⟩,
 ⟨(some 73), .mv (.const (.int .i64 0)), none⟩])
 (.block 0 (.loop (.seq (.reg [⟨(some 74), .bin .lss (.tmp 73) (.tmp 72), none⟩])
 (.seq (.cond (.tmp 74)
 (.skip)
 (.exit 0))
 (.seq (.block 1 (.seq (.reg [⟨(some 75), .is 3 (.tmp 71) (.tmp 73), none⟩,
 ⟨(some 76), .ldn 3 (.tmp 75), none⟩,
 ⟨(some 15), .alloc 38 [(.int .i64 0), (.int .i64 0), (.slice none 0 0)], none⟩,
 ⟨none, .stn 3 (.tmp 15) (.tmp 76), none⟩])
 (.seq (.any [(true, 0, [], ⟨(some 77), .fa 2 (.tmp 15), none⟩),
 (true, 1, [], ⟨(some 78), .ld1 (.tmp 77), none⟩),
 (true, 2, [], ⟨(some 79), .mv (.tmp 2), none⟩),
 (true, 3, [], ⟨(some 80), .mv (.tmp 9), none⟩),
 (true, 4, [], ⟨(some 81), .slc 1 (.tmp 79) none (some (.tmp 80)), none⟩),
 (true, 5, [], ⟨(some 82), .fa 0 (.tmp 15), none⟩),
 (true, 6, [], ⟨(some 83), .ld1 (.tmp 82), none⟩),
 (false, 7, [0, 1, 2, 3, 4, 5, 6], ⟨(some 84), .fa 1 (.tmp 15), none⟩),
 (false, 8, [0, 1, 2, 3, 4, 5, 6], ⟨(some 85), .ld1 (.tmp 84), none⟩),
 (false, 9, [0, 1, 2, 3, 4], ⟨(some 86), .bin .mul (.tmp 83) (.tmp 85), none⟩),
 (false, 10, [0, 1], ⟨(some 87), .call 38 [(.tmp 81), (.tmp 86)], none⟩),
 (false, 11, [], ⟨(some 88), .call 24 [(.tmp 78), (.tmp 87)], none⟩),
 (false, 12, [], ⟨(some 89), .un .not (.tmp 88), none⟩)])
 (.cond (.tmp 89)
 (.seq (.reg [⟨(some 6), .mv (.const (.bool false)), none⟩])
 (.ret))
 (.skip)))))
 (.reg [⟨(some 90), .bin .add (.tmp 73) (.const (.int .i64 1)), none⟩,
 ⟨(some 73), .mv (.tmp 90), none⟩])))))))
 (.seq (.any [(true, 0, [], ⟨(some 91), .fa 1 (.tmp 12), none⟩),
 (true, 1, [], ⟨(some 92), .ld1 (.tmp 91), none⟩),
 (true, 2, [], ⟨(some 93), .len (.tmp 92), none⟩),
 (true, 3, [], ⟨(some 94), .mv (.tmp 7), none⟩),
 (false, 4, [0, 1, 2, 3], ⟨(some 95), .mv (.tmp 8), none⟩),
 (false, 5, [0, 1, 2], ⟨(some 96), .call 20 [(.tmp 94), (.tmp 95)], none⟩),
 (false, 6, [], ⟨(some 97), .bin .eql (.tmp 93) (.tmp 96), none⟩),
 (false, 7, [], ⟨(some 6), .mv (.tmp 97), none⟩)])
 (.ret))))))))))
theorem k10 : fnOk Try.prog 10 = some (M10, [.t 6], 98) := by kernel_rfl

theorem l_ImagePlain (fm sd : Int) (a : Option Addr) (c : Nat) (l : List Int) (hA : IntsAt w0 H .u8 a l) (hb : ∀ b ∈ l, 0 ≤ b ∧ b ≤ 255) (hlc : l.length ≤ c) (h : K (.bool true) H) : HCalls Try.prog w0 10 [.int .i64 fm, .int .i64 sd, .slice a l.length c] H K := by
  have ub : ∀ z : Int, 0 ≤ IntKind.u64.wrap z := fun z => by simp [IntKind.wrap, IntKind.bits, IntKind.signed]; omega
  have pick : ∀ z : Int, 0 ≤ z → ∃ (s W : Nat), z.tmod 7 = (s : Int) ∧ s ≤ 64 ∧ IntKind.i64.wrap (2 ^ s) = (W : Int) ∧ powP (W : Int) := fun z hz => by
    have e : z.tmod 7 = z % 7 := Int.tmod_eq_emod_of_nonneg hz
    have hr : z % 7 = 0 ∨ z % 7 = 1 ∨ z % 7 = 2 ∨ z % 7 = 3 ∨ z % 7 = 4 ∨ z % 7 = 5 ∨ z % 7 = 6 := by omega
    rw [e]
    rcases hr with q | q | q | q | q | q | q <;> rw [q]
    · exact ⟨0, 1, rfl, by decide, by decide, by unfold powP; decide⟩
    · exact ⟨1, 2, rfl, by decide, by decide, by unfold powP; decide⟩
    · exact ⟨2, 4, rfl, by decide, by decide, by unfold powP; decide⟩
    · exact ⟨3, 8, rfl, by decide, by decide, by unfold powP; decide⟩
    · exact ⟨4, 16, rfl, by decide, by decide, by unfold powP; decide⟩
    · exact ⟨5, 32, rfl, by decide, by decide, by unfold powP; decide⟩
    · exact ⟨6, 64, rfl, by decide, by decide, by unfold powP; decide⟩
  obtain ⟨s1, W, p1, p2, p3, pw⟩ := pick _ (ub sd)
  obtain ⟨s2, V, p4, p5, p6, pv⟩ := pick _ (ub ((IntKind.u64.wrap sd).tdiv 7))
  obtain ⟨f, ef, f0, f8, fi⟩ : ∃ f : Int, (IntKind.u64.wrap fm).tmod 8 = f ∧ 0 ≤ f ∧ f < 8 ∧ ([.int .i64 0, .int .i64 4, .int .i64 2, .int .i64 2, .int .i64 2, .int .i64 1, .int .i64 1, .int .i64 2] : List Value)[f.toNat]? = some (.int .i64 (sizeI f)) := by
    have hz := ub fm
    refine ⟨_, rfl, ?_⟩
    rw [Int.tmod_eq_emod_of_nonneg hz]
    generalize IntKind.u64.wrap fm = z
    have hr : z % 8 = 0 ∨ z % 8 = 1 ∨ z % 8 = 2 ∨ z % 8 = 3 ∨ z % 8 = 4 ∨ z % 8 = 5 ∨ z % 8 = 6 ∨ z % 8 = 7 := by omega
    rcases hr with q | q | q | q | q | q | q | q <;> rw [q] <;> exact ⟨by decide, by decide, rfl⟩
  have i1 : ((s1 : Nat) : Int).toNat = s1 := rfl
  have i2 : ((s2 : Nat) : Int).toNat = s2 := rfl
  have i3 : (0 : Int) ≤ (s1 : Int) := by omega
  have i4 : (0 : Int) ≤ (s2 : Int) := by omega
  have i5 : IntKind.i64.wrap f = f := Bw.1 _ (by omega) (by omega)
  clear ub pick
  by_cases hc : (l.length : Int) < sizeI f ∨ sizeI f = 0
  · have hc2 : (l.length : Int) < sizeI f ∨ (¬ (l.length : Int) < sizeI f ∧ sizeI f = 0) := by omega
    clear hc
    rcases hc2 with hc | ⟨hcc, hc0⟩
    rotate_left
    · rw [hc0] at hcc fi
      refine HL.hc k10 3000 ?_; unfold M10
      (all_goals (try simp only [Sq,Sr,Sh,Si,Sl,Bu,Bb,Bd,Bc,Bw,Bn,Int.reduceAdd,Int.reduceSub,Int.reduceMul,Int.reduceTDiv,Int.reduceTMod,Int.reduceMod,Int.reduceDiv,Nat.reduceLT,Nat.reduceEqDiff,Sa,Sb,Sc,Sd,Se,Sf,Sg,Int.reduceLE,Int.reduceLT,Int.reduceToNat,Int.reduceNeg,Int.reduceEq,Nat.reduceLeDiff,Nat.reducePow,Int.reducePow,reduceIte,Nat.reduceSub,Nat.reduceAdd,Nat.reduceMul,putAt,ceq,List.replicate, *])); repeat' ((first | (with_reducible refine fun _ : True => ?_) | refine x_Wakes ?_ | ((first | refine AllocQ_i ?_ | refine AllocO_i ?_); intro bk hb0 hbk; (try simp only [set_none'] at hbk); (try (first | have hbn := Grow.none (by assumption) hbk | have hbn := Grow.none (by assumption) hbk.2 | have hbn := Grow.none (by assumption) hbk.2.2 | have hbn := Grow.none (by assumption) hbk.2.2.2 | have hbn := Grow.none (by assumption) hbk.2.2.2.2 | have hbn := Grow.none (by assumption) hbk.2.2.2.2.2)); (try simp only [set_none'] at hbn); (try (first | have hbm := Grow.none (by assumption) hbn | have hbm := Grow.none (by assumption) hbn.2 | have hbm := Grow.none (by assumption) hbn.2.2 | have hbm := Grow.none (by assumption) hbn.2.2.2 | have hbm := Grow.none (by assumption) hbn.2.2.2.2 | have hbm := Grow.none (by assumption) hbn.2.2.2.2.2)); (try simp only [set_none'] at hbm)) | ((first | refine condS_i ?_ ?_ | refine pick_i ?_ ?_ | refine gS_it ?_ ?_ | refine gS_if ?_ ?_ | refine gP_it ?_ ?_ | refine gP_if ?_ ?_) <;> (intro hc; try simp only [Int.reduceLE,Int.reduceLT,Int.reduceEq,Sn] at hc)) | (with_reducible refine KP_i ?_ ?_; · (repeat' (first | exact Heap.Le.refl _ | (with_reducible refine Le_set2 ?_) | (refine Le_known (by first | (simp only [Heap.set_same, set_ne, ne_eq, not_false_eq_true, *] <;> rfl) | fail) ?_) | (refine Le_fresh (by first | (simp only [*] <;> done) | (simp [set_none', Heap.set_same, set_ne, noneH, *] <;> done) | fail) ?_) | (refine Heap.Le.trans ?_ (Grow.le (by assumption))) | exact Le_none | (refine Le_put ?_ (by first | (simp only [Heap.set_same, set_ne, ne_eq, not_false_eq_true, *] <;> rfl) | fail)) | fail))) | (with_reducible refine And.intro ?_ ?_)) <;> (try simp only [Sq,Sr,Sh,Si,Sl,Bu,Bb,Bd,Bc,Bw,Bn,Int.reduceAdd,Int.reduceSub,Int.reduceMul,Int.reduceTDiv,Int.reduceTMod,Int.reduceMod,Int.reduceDiv,Nat.reduceLT,Nat.reduceEqDiff,Sa,Sb,Sc,Sd,Se,Sf,Sg,Int.reduceLE,Int.reduceLT,Int.reduceToNat,Int.reduceNeg,Int.reduceEq,Nat.reduceLeDiff,Nat.reducePow,Int.reducePow,reduceIte,Nat.reduceSub,Nat.reduceAdd,Nat.reduceMul,putAt,ceq,List.replicate, *]))
      all_goals exact Fin_mk (Heap.Le.refl _) h
    all_goals
      refine HL.hc k10 3000 ?_; unfold M10
      (all_goals (try simp only [Sq,Sr,Sh,Si,Sl,Bu,Bb,Bd,Bc,Bw,Bn,Int.reduceAdd,Int.reduceSub,Int.reduceMul,Int.reduceTDiv,Int.reduceTMod,Int.reduceMod,Int.reduceDiv,Nat.reduceLT,Nat.reduceEqDiff,Sa,Sb,Sc,Sd,Se,Sf,Sg,Int.reduceLE,Int.reduceLT,Int.reduceToNat,Int.reduceNeg,Int.reduceEq,Nat.reduceLeDiff,Nat.reducePow,Int.reducePow,reduceIte,Nat.reduceSub,Nat.reduceAdd,Nat.reduceMul,putAt,ceq,List.replicate, *])); repeat' ((first | (with_reducible refine fun _ : True => ?_) | refine x_Wakes ?_ | ((first | refine AllocQ_i ?_ | refine AllocO_i ?_); intro bk hb0 hbk; (try simp only [set_none'] at hbk); (try (first | have hbn := Grow.none (by assumption) hbk | have hbn := Grow.none (by assumption) hbk.2 | have hbn := Grow.none (by assumption) hbk.2.2 | have hbn := Grow.none (by assumption) hbk.2.2.2 | have hbn := Grow.none (by assumption) hbk.2.2.2.2 | have hbn := Grow.none (by assumption) hbk.2.2.2.2.2)); (try simp only [set_none'] at hbn); (try (first | have hbm := Grow.none (by assumption) hbn | have hbm := Grow.none (by assumption) hbn.2 | have hbm := Grow.none (by assumption) hbn.2.2 | have hbm := Grow.none (by assumption) hbn.2.2.2 | have hbm := Grow.none (by assumption) hbn.2.2.2.2 | have hbm := Grow.none (by assumption) hbn.2.2.2.2.2)); (try simp only [set_none'] at hbm)) | ((first | refine condS_i ?_ ?_ | refine pick_i ?_ ?_ | refine gS_it ?_ ?_ | refine gS_if ?_ ?_ | refine gP_it ?_ ?_ | refine gP_if ?_ ?_) <;> (intro hc; try simp only [Int.reduceLE,Int.reduceLT,Int.reduceEq,Sn] at hc)) | (with_reducible refine KP_i ?_ ?_; · (repeat' (first | exact Heap.Le.refl _ | (with_reducible refine Le_set2 ?_) | (refine Le_known (by first | (simp only [Heap.set_same, set_ne, ne_eq, not_false_eq_true, *] <;> rfl) | fail) ?_) | (refine Le_fresh (by first | (simp only [*] <;> done) | (simp [set_none', Heap.set_same, set_ne, noneH, *] <;> done) | fail) ?_) | (refine Heap.Le.trans ?_ (Grow.le (by assumption))) | exact Le_none | (refine Le_put ?_ (by first | (simp only [Heap.set_same, set_ne, ne_eq, not_false_eq_true, *] <;> rfl) | fail)) | fail))) | (with_reducible refine And.intro ?_ ?_)) <;> (try simp only [Sq,Sr,Sh,Si,Sl,Bu,Bb,Bd,Bc,Bw,Bn,Int.reduceAdd,Int.reduceSub,Int.reduceMul,Int.reduceTDiv,Int.reduceTMod,Int.reduceMod,Int.reduceDiv,Nat.reduceLT,Nat.reduceEqDiff,Sa,Sb,Sc,Sd,Se,Sf,Sg,Int.reduceLE,Int.reduceLT,Int.reduceToNat,Int.reduceNeg,Int.reduceEq,Nat.reduceLeDiff,Nat.reducePow,Int.reducePow,reduceIte,Nat.reduceSub,Nat.reduceAdd,Nat.reduceMul,putAt,ceq,List.replicate, *]))
    all_goals exact Fin_mk (Heap.Le.refl _) h
  · have hc1 : ¬ (l.length : Int) < sizeI f := fun q => hc (.inl q)
    have hc2 : ¬ sizeI f = 0 := fun q => hc (.inr q)
    clear hc
    obtain ⟨S, eS, hS⟩ : ∃ S : Nat, sizeI f = (S : Int) ∧ (S = 1 ∨ S = 2 ∨ S = 4) := ⟨(sizeI f).toNat, by have := size_nat hc2; omega, by have := size_cases hc2; omega⟩
    have hSl : S ≤ l.length := by omega
    obtain ⟨b0, o0, rfl, -, -⟩ := ints_get hA (by omega)
    obtain ⟨px, epx⟩ : ∃ px, px = l.take S := ⟨_, rfl⟩
    have hpl : px.length = S := by rw [epx, List.length_take]; omega
    have hpb : ∀ b ∈ px, 0 ≤ b ∧ b ≤ 255 := fun b hx => hb b (List.mem_of_mem_take (by rw [← epx]; exact hx))
    have hpA : IntsAt w0 H .u8 (some ⟨b0, o0, none⟩) px := by rw [epx]; exact ints_take hA S
    have hps : px.length = (sizeI f).toNat := by rw [hpl, eS]; rfl
    have cR : ∀ (G : Heap) (K : Value → Heap → Prop) (n : Nat), Grow w0 H G → 1 ≤ n ∧ n ≤ 4096 → (∀ b G', Grow w0 G G' → IntsAt w0 G' .u8 (some ⟨b, 0, none⟩) (repL px n) → K (.slice (some ⟨b, 0, none⟩) (n * S) (n * S)) G') → HCalls Try.prog w0 38 [.slice (some ⟨b0, o0, none⟩) S c, .int .i64 n] G K := fun G K n g hn hk => c_Repeat _ c S n px hpl hS hn (hpA.grow g) hk
    have hW := pow_b pw
    have hV := pow_b pv
    obtain ⟨N, eN⟩ : ∃ N, W * V = N := ⟨_, rfl⟩
    have hN : 1 ≤ N ∧ N ≤ 4096 := by
      rw [← eN]
      exact ⟨Nat.mul_pos (by omega) (by omega), Nat.mul_le_mul (show W ≤ 64 by omega) (show V ≤ 64 by omega)⟩
    have wN : IntKind.i64.wrap ((W : Int) * (V : Int)) = (N : Int) := by rw [← Int.natCast_mul, eN]; exact Bw.1 _ (by omega) (by omega)
    have cP : ∀ (b : Nat) (G : Heap) (K : Value → Heap → Prop), IntsAt w0 G .u8 (some ⟨b, 0, none⟩) (repL px N) → (∀ y H', Pl f px W V y → ImC w0 G H' y → Grow w0 G H' → K (.tuple #[.agg #[.int .i64 y.f, .slice y.a y.ls.length y.cap, .int .i64 y.s, .int .i64 y.t, .int .i64 y.mn, .int .i64 y.mg], .int .i64 0]) H') → HCalls Try.prog w0 22 [.agg #[.int .i64 0, .slice none 0 0, .int .i64 1, .int .i64 1, .int .i64 3, .int .i64 2], .int .i64 0, .int .i64 f, .agg #[.int .i64 W, .int .i64 V, .slice (some ⟨b, 0, none⟩) (N * S) (N * S)]] G K := fun b G K hI hk => by
      have hlen : (repL px N).length = N * S := by rw [repL_len, hpl]
      have hN4 : N * S ≤ 4096 * 4 := Nat.mul_le_mul hN.2 (by omega)
      have := c_Put_ok (w0 := w0) (H := G) (K := K) newI (newI_ok _ _) 0 f (by unfold I64; omega) ⟨W, V, some ⟨b, 0, none⟩, N * S, repL px N⟩ ⟨hI, by simp only; omega, by simp only [maxLen]; omega, by simp only; omega, by unfold I64; simp only; omega, by unfold I64; simp only; omega, repL_b hpb N⟩ newI_right
        (by rintro (q | q | q | q | q) <;> first | omega | exact q (by unfold sideP; simp only; omega)) (by rintro ⟨-, q⟩; exact q (by simp only; rw [hlen, eS, ← eN]; simp)) (by rintro ⟨q, -⟩; omega) (by decide)
        (fun y H' hP hC hg => hk y H' (put_pl hc2 hps (by omega) (by omega) (by rw [eN]; rfl) hP) hC hg)
      unfold LvR.v Im.v newI at this
      simp only [hlen] at this
      exact this
    rw [eS] at fi hc1 hc2
    have hc2' : ¬ (S : Int) = 0 := by omega
    have hSc : (S : Int) ≤ (c : Int) := by omega
    have hS0 : (0 : Int) ≤ (S : Int) := by omega
    have i6 : (S : Int).toNat = S := rfl
    clear hc2 hW hV hA hb hlc epx hpl hpA
    replace eN : Keep _ := eN
    replace eS : Keep _ := eS
    replace hps : Keep _ := hps
    refine HL.hc k10 3000 ?_; unfold M10
    (all_goals (try simp only [Sq,Sr,Sh,Si,Sl,Bu,Bb,Bd,Bc,Bw,Bn,Int.reduceAdd,Int.reduceSub,Int.reduceMul,Int.reduceTDiv,Int.reduceTMod,Int.reduceMod,Int.reduceDiv,Nat.reduceLT,Nat.reduceEqDiff,Sa,Sb,Sc,Sd,Se,Sf,Sg,Int.reduceLE,Int.reduceLT,Int.reduceToNat,Int.reduceNeg,Int.reduceEq,Nat.reduceLeDiff,Nat.reducePow,Int.reducePow,reduceIte,Nat.reduceSub,Nat.reduceAdd,Nat.reduceMul,putAt,ceq,List.replicate, *])); repeat' ((first | (with_reducible refine fun _ : True => ?_) | refine x_Wakes ?_ | ((first | refine AllocQ_i ?_ | refine AllocO_i ?_); intro bk hb0 hbk; (try simp only [set_none'] at hbk); (try (first | have hbn := Grow.none (by assumption) hbk | have hbn := Grow.none (by assumption) hbk.2 | have hbn := Grow.none (by assumption) hbk.2.2 | have hbn := Grow.none (by assumption) hbk.2.2.2 | have hbn := Grow.none (by assumption) hbk.2.2.2.2 | have hbn := Grow.none (by assumption) hbk.2.2.2.2.2)); (try simp only [set_none'] at hbn); (try (first | have hbm := Grow.none (by assumption) hbn | have hbm := Grow.none (by assumption) hbn.2 | have hbm := Grow.none (by assumption) hbn.2.2 | have hbm := Grow.none (by assumption) hbn.2.2.2 | have hbm := Grow.none (by assumption) hbn.2.2.2.2 | have hbm := Grow.none (by assumption) hbn.2.2.2.2.2)); (try simp only [set_none'] at hbm)) | ((first | refine condS_i ?_ ?_ | refine pick_i ?_ ?_ | refine gS_it ?_ ?_ | refine gS_if ?_ ?_ | refine gP_it ?_ ?_ | refine gP_if ?_ ?_) <;> (intro hc; try simp only [Int.reduceLE,Int.reduceLT,Int.reduceEq,Sn] at hc)) | (with_reducible refine KP_i ?_ ?_; · (repeat' (first | exact Heap.Le.refl _ | (with_reducible refine Le_set2 ?_) | (refine Le_known (by first | (simp only [Heap.set_same, set_ne, ne_eq, not_false_eq_true, *] <;> rfl) | fail) ?_) | (refine Le_fresh (by first | (simp only [*] <;> done) | (simp [set_none', Heap.set_same, set_ne, noneH, *] <;> done) | fail) ?_) | (refine Heap.Le.trans ?_ (Grow.le (by assumption))) | exact Le_none | (refine Le_put ?_ (by first | (simp only [Heap.set_same, set_ne, ne_eq, not_false_eq_true, *] <;> rfl) | fail)) | fail))) | (with_reducible refine And.intro ?_ ?_)) <;> (try simp only [Sq,Sr,Sh,Si,Sl,Bu,Bb,Bd,Bc,Bw,Bn,Int.reduceAdd,Int.reduceSub,Int.reduceMul,Int.reduceTDiv,Int.reduceTMod,Int.reduceMod,Int.reduceDiv,Nat.reduceLT,Nat.reduceEqDiff,Sa,Sb,Sc,Sd,Se,Sf,Sg,Int.reduceLE,Int.reduceLT,Int.reduceToNat,Int.reduceNeg,Int.reduceEq,Nat.reduceLeDiff,Nat.reducePow,Int.reducePow,reduceIte,Nat.reduceSub,Nat.reduceAdd,Nat.reduceMul,putAt,ceq,List.replicate, *]))
    refine any_sub noneH Le_none ?_
    refine alts_g (S := (Im × Nat) × Heap) 12 (fun s => [(10, .pointer (some ⟨s.1.2, 0, none⟩)), (11, .int .i64 0)]) (fun s => s.2) (fun s => Pl f px W V s.1.1 ∧ ImOk w0 s.2 s.1.1 ∧ Grow w0 H s.2 ∧ s.2 s.1.2 = some ⟨.t 24, imB s.1.1⟩) 400 2500 ?_ ?_ (by decide)
    · unfold A10_1
      (all_goals (try simp only [Sq,Sr,Sh,Si,Sl,Bu,Bb,Bd,Bc,Bw,Bn,Int.reduceAdd,Int.reduceSub,Int.reduceMul,Int.reduceTDiv,Int.reduceTMod,Int.reduceMod,Int.reduceDiv,Nat.reduceLT,Nat.reduceEqDiff,Sa,Sb,Sc,Sd,Se,Sf,Sg,Int.reduceLE,Int.reduceLT,Int.reduceToNat,Int.reduceNeg,Int.reduceEq,Nat.reduceLeDiff,Nat.reducePow,Int.reducePow,reduceIte,Nat.reduceSub,Nat.reduceAdd,Nat.reduceMul,putAt,ceq,List.replicate, *])); repeat' ((first | (with_reducible refine fun _ : True => ?_) | refine c_New (fun G1 hg1 => ?_)  | refine cR _ _ _ (by (repeat' (first | exact Grow.refl _ | assumption | (refine Grow_known (by first | (simp only [Heap.set_same, set_ne, ne_eq, not_false_eq_true, *] <;> rfl) | fail) ?_) | (refine Grow.set ?_ (by assumption) (by first | (simp only [*] <;> done) | (simp [set_none', Heap.set_same, set_ne, noneH, *] <;> done) | fail)) | (refine Grow.trans ?_ (by assumption))))) hN (fun b G2 hg2 hI => ?_)  | refine cP b _ _ (hI.grow (by (repeat' (first | exact Grow.refl _ | assumption | (refine Grow_known (by first | (simp only [Heap.set_same, set_ne, ne_eq, not_false_eq_true, *] <;> rfl) | fail) ?_) | (refine Grow.set ?_ (by assumption) (by first | (simp only [*] <;> done) | (simp [set_none', Heap.set_same, set_ne, noneH, *] <;> done) | fail)) | (refine Grow.trans ?_ (by assumption)))))) (fun y G3 hP hC hg3 => ?_)  | (with_reducible refine any_h ?_) | ((first | refine AllocQ_i ?_ | refine AllocO_i ?_); intro bk hb0 hbk; (try simp only [set_none'] at hbk); (try (first | have hbn := Grow.none (by assumption) hbk | have hbn := Grow.none (by assumption) hbk.2 | have hbn := Grow.none (by assumption) hbk.2.2 | have hbn := Grow.none (by assumption) hbk.2.2.2 | have hbn := Grow.none (by assumption) hbk.2.2.2.2 | have hbn := Grow.none (by assumption) hbk.2.2.2.2.2)); (try simp only [set_none'] at hbn); (try (first | have hbm := Grow.none (by assumption) hbn | have hbm := Grow.none (by assumption) hbn.2 | have hbm := Grow.none (by assumption) hbn.2.2 | have hbm := Grow.none (by assumption) hbn.2.2.2 | have hbm := Grow.none (by assumption) hbn.2.2.2.2 | have hbm := Grow.none (by assumption) hbn.2.2.2.2.2)); (try simp only [set_none'] at hbm)) | ((first | refine condS_i ?_ ?_ | refine pick_i ?_ ?_ | refine gS_it ?_ ?_ | refine gS_if ?_ ?_ | refine gP_it ?_ ?_ | refine gP_if ?_ ?_) <;> (intro hc; try simp only [Int.reduceLE,Int.reduceLT,Int.reduceEq,Sn] at hc)) | (with_reducible refine KP_i ?_ ?_; · (repeat' (first | exact Heap.Le.refl _ | (with_reducible refine Le_set2 ?_) | (refine Le_known (by first | (simp only [Heap.set_same, set_ne, ne_eq, not_false_eq_true, *] <;> rfl) | fail) ?_) | (refine Le_fresh (by first | (simp only [*] <;> done) | (simp [set_none', Heap.set_same, set_ne, noneH, *] <;> done) | fail) ?_) | (refine Heap.Le.trans ?_ (Grow.le (by assumption))) | exact Le_none | (refine Le_put ?_ (by first | (simp only [Heap.set_same, set_ne, ne_eq, not_false_eq_true, *] <;> rfl) | fail)) | fail))) | (with_reducible refine And.intro ?_ ?_)) <;> (try simp only [Sq,Sr,Sh,Si,Sl,Bu,Bb,Bd,Bc,Bw,Bn,Int.reduceAdd,Int.reduceSub,Int.reduceMul,Int.reduceTDiv,Int.reduceTMod,Int.reduceMod,Int.reduceDiv,Nat.reduceLT,Nat.reduceEqDiff,Sa,Sb,Sc,Sd,Se,Sf,Sg,Int.reduceLE,Int.reduceLT,Int.reduceToNat,Int.reduceNeg,Int.reduceEq,Nat.reduceLeDiff,Nat.reducePow,Int.reducePow,reduceIte,Nat.reduceSub,Nat.reduceAdd,Nat.reduceMul,putAt,ceq,List.replicate, *]))
      · exact Meet_p (y, bk) ⟨hP, hC.ok.grow (Grow.set (Grow.refl _) hb0 hbk), ((hg1.trans hg2).trans hg3).set hb0 (((hg1.trans hg2).trans hg3).none hbk), Heap.set_same _ _ _⟩ rfl rfl
      all_goals
        have k : G3 bk = some ⟨.t 24, [.int .i64 0, .slice none 0 0, .int .i64 0, .int .i64 0, .int .i64 0, .int .i64 0]⟩ := by first | exact hg3.some (Heap.set_same _ _ _) | exact hg3.some (hg2.some (Heap.set_same _ _ _)) | exact hg3.some (hg2.some (hg1.some (Heap.set_same _ _ _)))
        have kn : H bk = none := by first | exact hbm | exact hbn | exact hbk
        have g03 : Grow w0 H G3 := (by (repeat' (first | exact Grow.refl _ | assumption | (refine Grow_known (by first | (simp only [Heap.set_same, set_ne, ne_eq, not_false_eq_true, *] <;> rfl) | fail) ?_) | (refine Grow.set ?_ (by assumption) (by first | (simp only [*] <;> done) | (simp [set_none', Heap.set_same, set_ne, noneH, *] <;> done) | fail)) | (refine Grow.trans ?_ (by assumption)))))
        rw [root1 k]
        (all_goals (try simp only [Sq,Sr,Sh,Si,Sl,Bu,Bb,Bd,Bc,Bw,Bn,Int.reduceAdd,Int.reduceSub,Int.reduceMul,Int.reduceTDiv,Int.reduceTMod,Int.reduceMod,Int.reduceDiv,Nat.reduceLT,Nat.reduceEqDiff,Sa,Sb,Sc,Sd,Se,Sf,Sg,Int.reduceLE,Int.reduceLT,Int.reduceToNat,Int.reduceNeg,Int.reduceEq,Nat.reduceLeDiff,Nat.reducePow,Int.reducePow,reduceIte,Nat.reduceSub,Nat.reduceAdd,Nat.reduceMul,putAt,ceq,List.replicate, *])); repeat' ((first | (with_reducible refine fun _ : True => ?_) | (with_reducible refine any_h ?_) | ((first | refine AllocQ_i ?_ | refine AllocO_i ?_); intro bk hb0 hbk; (try simp only [set_none'] at hbk); (try (first | have hbn := Grow.none (by assumption) hbk | have hbn := Grow.none (by assumption) hbk.2 | have hbn := Grow.none (by assumption) hbk.2.2 | have hbn := Grow.none (by assumption) hbk.2.2.2 | have hbn := Grow.none (by assumption) hbk.2.2.2.2 | have hbn := Grow.none (by assumption) hbk.2.2.2.2.2)); (try simp only [set_none'] at hbn); (try (first | have hbm := Grow.none (by assumption) hbn | have hbm := Grow.none (by assumption) hbn.2 | have hbm := Grow.none (by assumption) hbn.2.2 | have hbm := Grow.none (by assumption) hbn.2.2.2 | have hbm := Grow.none (by assumption) hbn.2.2.2.2 | have hbm := Grow.none (by assumption) hbn.2.2.2.2.2)); (try simp only [set_none'] at hbm)) | ((first | refine condS_i ?_ ?_ | refine pick_i ?_ ?_ | refine gS_it ?_ ?_ | refine gS_if ?_ ?_ | refine gP_it ?_ ?_ | refine gP_if ?_ ?_) <;> (intro hc; try simp only [Int.reduceLE,Int.reduceLT,Int.reduceEq,Sn] at hc)) | (with_reducible refine KP_i ?_ ?_; · (repeat' (first | exact Heap.Le.refl _ | (with_reducible refine Le_set2 ?_) | (refine Le_known (by first | (simp only [Heap.set_same, set_ne, ne_eq, not_false_eq_true, *] <;> rfl) | fail) ?_) | (refine Le_fresh (by first | (simp only [*] <;> done) | (simp [set_none', Heap.set_same, set_ne, noneH, *] <;> done) | fail) ?_) | (refine Heap.Le.trans ?_ (Grow.le (by assumption))) | exact Le_none | (refine Le_put ?_ (by first | (simp only [Heap.set_same, set_ne, ne_eq, not_false_eq_true, *] <;> rfl) | fail)) | fail))) | (with_reducible refine And.intro ?_ ?_)) <;> (try simp only [Sq,Sr,Sh,Si,Sl,Bu,Bb,Bd,Bc,Bw,Bn,Int.reduceAdd,Int.reduceSub,Int.reduceMul,Int.reduceTDiv,Int.reduceTMod,Int.reduceMod,Int.reduceDiv,Nat.reduceLT,Nat.reduceEqDiff,Sa,Sb,Sc,Sd,Se,Sf,Sg,Int.reduceLE,Int.reduceLT,Int.reduceToNat,Int.reduceNeg,Int.reduceEq,Nat.reduceLeDiff,Nat.reducePow,Int.reducePow,reduceIte,Nat.reduceSub,Nat.reduceAdd,Nat.reduceMul,putAt,ceq,List.replicate, *]))
        exact Meet_p (y, bk) ⟨hP, (hC.turn k).ok, g03.set hb0 kn, Heap.set_same _ _ _⟩ rfl rfl
    · rintro ⟨⟨y, b10⟩, G0⟩ u ⟨hP, hI, hg, k10⟩
      replace eN : W * V = N := eN
      replace eS : sizeI f = (S : Int) := eS
      replace hps : px.length = (sizeI f).toNat := hps
      simp only at hP hI hg k10 ⊢
      obtain ⟨z, ez, ec⟩ : ∃ z, y.ls[0]? = some z ∧ z.core = ((W : Int), (V : Int), repL px N) := by
        rw [← eN]
        have : (y.ls.map LvR.core)[0]? = some ((W : Int), (V : Int), repL px (W * V)) := by rw [hP.ls]; rfl
        rw [List.getElem?_map] at this
        cases e : y.ls[0]? with
        | none => rw [e] at this; cases this
        | some q => rw [e] at this; exact ⟨q, rfl, by simpa using this⟩
      have z1 : z.w = W := congrArg Prod.fst ec
      have z2 : z.h = V := congrArg (fun q : Int × Int × List Int => q.2.1) ec
      have z3 : z.l = repL px N := congrArg (fun q : Int × Int × List Int => q.2.2) ec
      have hzn : ¬ z.nil := fun hn => by have := pow_b pw; unfold LvR.nil at hn; omega
      have hone : y.ls.map LvR.core = [z.core] := by rw [hP.ls, ec, ← eN]
      have hyf := hP.f
      have hplain := fun (y2 : Im) (h : GenOk y y2) => gen_plain (x := y) (z := z) (px := px) (by rw [hyf, eS]; omega) hpb (by rw [hyf]; exact hps) hone (by rw [z1]; exact pw) (by rw [z2]; exact pv) (by rw [z3, z1, z2]; simp [eN]) h
      have cG : ∀ (G : Heap) (K : Value → Heap → Prop), Grow w0 G0 G → (∀ y2 H', Keep ((y2.ls.length : Int) = cntI W V ∧ y2.ls.length ≤ 7 ∧ ∀ u ∈ y2.ls, u.l = repL px (u.w.toNat * u.h.toNat) ∧ powP u.w ∧ powP u.h) → ImC w0 G H' y2 → Grow w0 G H' → K (.tuple #[.agg #[.int .i64 y2.f, .slice y2.a y2.ls.length y2.cap, .int .i64 y2.s, .int .i64 y2.t, .int .i64 y2.mn, .int .i64 y2.mg], .int .i64 0]) H') → HCalls Try.prog w0 15 [.agg #[.int .i64 y.f, .slice y.a y.ls.length y.cap, .int .i64 y.s, .int .i64 y.t, .int .i64 y.mn, .int .i64 y.mg]] G K := fun G K g hk => by
        have := c_Gen_ok (w0 := w0) (H := G) (K := K) y (hI.grow g) z hP.right ez hzn (by rw [z1]; exact pw) (by rw [z2]; exact pv) (fun y2 H' hO hC hg => hk y2 H' (by have := hplain y2 hO; rw [z1, z2] at this; exact this) hC hg)
        unfold Im.v at this
        exact this
      clear hplain hone hzn z1 z2 z3 ec ez hP cP eN hyf
      rw [root1 k10]
      (all_goals (try simp only [Sq,Sr,Sh,Si,Sl,Bu,Bb,Bd,Bc,Bw,Bn,Int.reduceAdd,Int.reduceSub,Int.reduceMul,Int.reduceTDiv,Int.reduceTMod,Int.reduceMod,Int.reduceDiv,Nat.reduceLT,Nat.reduceEqDiff,Sa,Sb,Sc,Sd,Se,Sf,Sg,Int.reduceLE,Int.reduceLT,Int.reduceToNat,Int.reduceNeg,Int.reduceEq,Nat.reduceLeDiff,Nat.reducePow,Int.reducePow,reduceIte,Nat.reduceSub,Nat.reduceAdd,Nat.reduceMul,putAt,ceq,List.replicate, *])); repeat' ((first | (with_reducible refine fun _ : True => ?_) | refine cG _ _ (by (repeat' (first | exact Grow.refl _ | assumption | (refine Grow_known (by first | (simp only [Heap.set_same, set_ne, ne_eq, not_false_eq_true, *] <;> rfl) | fail) ?_) | (refine Grow.set ?_ (by assumption) (by first | (simp only [*] <;> done) | (simp [set_none', Heap.set_same, set_ne, noneH, *] <;> done) | fail)) | (refine Grow.trans ?_ (by assumption))))) (fun y2 G4 hy hC hg4 => ?_)  | (with_reducible refine any_h ?_) | ((first | refine AllocQ_i ?_ | refine AllocO_i ?_); intro bk hb0 hbk; (try simp only [set_none'] at hbk); (try (first | have hbn := Grow.none (by assumption) hbk | have hbn := Grow.none (by assumption) hbk.2 | have hbn := Grow.none (by assumption) hbk.2.2 | have hbn := Grow.none (by assumption) hbk.2.2.2 | have hbn := Grow.none (by assumption) hbk.2.2.2.2 | have hbn := Grow.none (by assumption) hbk.2.2.2.2.2)); (try simp only [set_none'] at hbn); (try (first | have hbm := Grow.none (by assumption) hbn | have hbm := Grow.none (by assumption) hbn.2 | have hbm := Grow.none (by assumption) hbn.2.2 | have hbm := Grow.none (by assumption) hbn.2.2.2 | have hbm := Grow.none (by assumption) hbn.2.2.2.2 | have hbm := Grow.none (by assumption) hbn.2.2.2.2.2)); (try simp only [set_none'] at hbm)) | ((first | refine condS_i ?_ ?_ | refine pick_i ?_ ?_ | refine gS_it ?_ ?_ | refine gS_if ?_ ?_ | refine gP_it ?_ ?_ | refine gP_if ?_ ?_) <;> (intro hc; try simp only [Int.reduceLE,Int.reduceLT,Int.reduceEq,Sn] at hc)) | (with_reducible refine KP_i ?_ ?_; · (repeat' (first | exact Heap.Le.refl _ | (with_reducible refine Le_set2 ?_) | (refine Le_known (by first | (simp only [Heap.set_same, set_ne, ne_eq, not_false_eq_true, *] <;> rfl) | fail) ?_) | (refine Le_fresh (by first | (simp only [*] <;> done) | (simp [set_none', Heap.set_same, set_ne, noneH, *] <;> done) | fail) ?_) | (refine Heap.Le.trans ?_ (Grow.le (by assumption))) | exact Le_none | (refine Le_put ?_ (by first | (simp only [Heap.set_same, set_ne, ne_eq, not_false_eq_true, *] <;> rfl) | fail)) | fail))) | (with_reducible refine And.intro ?_ ?_)) <;> (try simp only [Sq,Sr,Sh,Si,Sl,Bu,Bb,Bd,Bc,Bw,Bn,Int.reduceAdd,Int.reduceSub,Int.reduceMul,Int.reduceTDiv,Int.reduceTMod,Int.reduceMod,Int.reduceDiv,Nat.reduceLT,Nat.reduceEqDiff,Sa,Sb,Sc,Sd,Se,Sf,Sg,Int.reduceLE,Int.reduceLT,Int.reduceToNat,Int.reduceNeg,Int.reduceEq,Nat.reduceLeDiff,Nat.reducePow,Int.reducePow,reduceIte,Nat.reduceSub,Nat.reduceAdd,Nat.reduceMul,putAt,ceq,List.replicate, *]))
      obtain ⟨b5, rfl⟩ : ∃ b, b = bk := ⟨_, rfl⟩
      obtain ⟨hcnt, hy7, hall⟩ := kp hy
      have g04 : Grow w0 H G4 := hg.trans (Grow.trans (by (repeat' (first | exact Grow.refl _ | assumption | (refine Grow_known (by first | (simp only [Heap.set_same, set_ne, ne_eq, not_false_eq_true, *] <;> rfl) | fail) ?_) | (refine Grow.set ?_ (by assumption) (by first | (simp only [*] <;> done) | (simp [set_none', Heap.set_same, set_ne, noneH, *] <;> done) | fail)) | (refine Grow.trans ?_ (by assumption))))) hg4)
      have nb5 : H b5 = none := g04.none hbk
      have hI2 : ImOk w0 (G4.set b5 ⟨.t 24, imB y2⟩) y2 := hC.ok.grow (Grow.set (Grow.refl _) hb0 hbk)
      have g05 : Grow w0 H (G4.set b5 ⟨.t 24, imB y2⟩) := g04.set hb0 nb5
      obtain ⟨m, em⟩ : ∃ m, y2.ls.length = m := ⟨_, rfl⟩
      rw [em] at hcnt hy7
      have cN : ∀ (G : Heap) (K : Value → Heap → Prop), K (.int .i64 (m : Int)) G → HCalls Try.prog w0 20 [.int .i64 W, .int .i64 V] G K := fun G K hk => c_Count _ _ (by rw [← hcnt]; exact hk)
      clear hcnt cG hg4 k10 hI hbk hbn hg hC g04
      refine loopq_name fun code kont T eM eK eT => ?_
      refine loopq_heap fun F0 eF => ?_
      have kF : F0 b5 = some ⟨.t 24, imB y2⟩ := by rw [eF]; exact Heap.set_same _ _ _
      have hI3 : ImOk w0 F0 y2 := by rw [eF]; exact hI2
      have gF : Grow w0 H F0 := by rw [eF]; exact g05
      clear eF hI2 g05
      refine loop_a (A := Nat × Value) 74 (fun s => [(15, s.2), (73, .int .i64 (s.1 : Nat))]) (fun s G => s.1 ≤ m ∧ Grow w0 F0 G) (fun s => m - s.1) (0, T.getD 15 undef) ⟨Nat.zero_le _, Grow.refl _⟩ (by subst eT; rfl) ?_
      intro ⟨k, u15⟩ F u ⟨hk, gFF⟩
      simp only at hk gFF
      have k5 := gFF.some kF
      have gHF : Grow w0 H F := gF.trans gFF
      have t1 : (0 : Int) ≤ (k : Int) := by omega
      have t2 : (k : Int).toNat = k := rfl
      rcases Nat.lt_or_ge k m with hlt | hge
      · obtain ⟨q, eq⟩ : ∃ q, y2.ls[k]? = some q := ⟨_, List.getElem?_eq_getElem (by omega)⟩
        obtain ⟨b6, o6, ea, hrd, -⟩ := im_row hI3 eq
        have r1 := gFF.rdn hrd (by decide)
        have hmem := List.mem_of_getElem? eq
        obtain ⟨hql, hqw, hqh⟩ := hall q hmem
        have hq := (hI3.lv q hmem).grow gFF
        have hw := pow_b hqw
        have hh := pow_b hqh
        obtain ⟨n, en⟩ : ∃ n, q.w.toNat * q.h.toNat = n := ⟨_, rfl⟩
        have hn : 1 ≤ n ∧ n ≤ 4096 := by
          rw [← en]
          exact ⟨Nat.mul_pos (by omega) (by omega), Nat.mul_le_mul (show q.w.toNat ≤ 64 by omega) (show q.h.toNat ≤ 64 by omega)⟩
        have wq : IntKind.i64.wrap (q.w * q.h) = (n : Int) := by
          have : q.w * q.h = (n : Int) := by rw [← en, Int.natCast_mul, Int.toNat_of_nonneg (by omega), Int.toNat_of_nonneg (by omega)]
          rw [this]; exact Bw.1 _ (by omega) (by omega)
        have t0 : (k : Int) < (m : Int) := by omega
        have t3 : IntKind.i64.wrap ((k : Int) + 1) = ((k + 1 : Nat) : Int) := by rw [Bw.1 _ (by omega) (by omega)]; simp
        rw [en] at hql
        have hlen : (repL px n).length = n * S := by rw [repL_len, hps, eS]; rfl
        have hqa := hq.at_
        have hqb := hq.by_
        rw [hql] at hqa hqb
        have cE : ∀ (b : Nat) (G : Heap) (K : Value → Heap → Prop), Grow w0 F G → IntsAt w0 G .u8 (some ⟨b, 0, none⟩) (repL px n) → K (.bool true) G → HCalls Try.prog w0 24 [.slice q.a (n * S) q.cap, .slice (some ⟨b, 0, none⟩) (n * S) (n * S)] G K := fun b G K g hi hk => c_bytesEqual _ _ _ _ _ _ (repL px n) (repL px n) hlen hlen (hqa.grow g) hi hqb hqb (by rw [decide_eq_true rfl]; exact hk)
        rw [hql, hlen] at r1
        clear hq hql hqa hqb hmem hall eq hw hh hqw hqh en hI3 cN hrd hpb hlen hps
        replace em : y2.ls.length = m := em
        subst eM eK eT
        show run _ _ _ _ _ _ F
        (all_goals (try simp only [Sq,Sr,Sh,Si,Sl,Bu,Bb,Bd,Bc,Bw,Bn,Int.reduceAdd,Int.reduceSub,Int.reduceMul,Int.reduceTDiv,Int.reduceTMod,Int.reduceMod,Int.reduceDiv,Nat.reduceLT,Nat.reduceEqDiff,Sa,Sb,Sc,Sd,Se,Sf,Sg,Int.reduceLE,Int.reduceLT,Int.reduceToNat,Int.reduceNeg,Int.reduceEq,Nat.reduceLeDiff,Nat.reducePow,Int.reducePow,reduceIte,Nat.reduceSub,Nat.reduceAdd,Nat.reduceMul,putAt,ceq,List.replicate, *])); repeat' ((first | (with_reducible refine fun _ : True => ?_) | refine cR _ _ _ (by (repeat' (first | exact Grow.refl _ | assumption | (refine Grow_known (by first | (simp only [Heap.set_same, set_ne, ne_eq, not_false_eq_true, *] <;> rfl) | fail) ?_) | (refine Grow.set ?_ (by assumption) (by first | (simp only [*] <;> done) | (simp [set_none', Heap.set_same, set_ne, noneH, *] <;> done) | fail)) | (refine Grow.trans ?_ (by assumption))))) hn (fun b G2 hg2 hI => ?_)  | refine cE b _ _ (by (repeat' (first | exact Grow.refl _ | assumption | (refine Grow_known (by first | (simp only [Heap.set_same, set_ne, ne_eq, not_false_eq_true, *] <;> rfl) | fail) ?_) | (refine Grow.set ?_ (by assumption) (by first | (simp only [*] <;> done) | (simp [set_none', Heap.set_same, set_ne, noneH, *] <;> done) | fail)) | (refine Grow.trans ?_ (by assumption))))) hI ?_ | (with_reducible refine any_h ?_) | ((first | refine AllocQ_i ?_ | refine AllocO_i ?_); intro bk hb0 hbk; (try simp only [set_none'] at hbk); (try (first | have hbn := Grow.none (by assumption) hbk | have hbn := Grow.none (by assumption) hbk.2 | have hbn := Grow.none (by assumption) hbk.2.2 | have hbn := Grow.none (by assumption) hbk.2.2.2 | have hbn := Grow.none (by assumption) hbk.2.2.2.2 | have hbn := Grow.none (by assumption) hbk.2.2.2.2.2)); (try simp only [set_none'] at hbn); (try (first | have hbm := Grow.none (by assumption) hbn | have hbm := Grow.none (by assumption) hbn.2 | have hbm := Grow.none (by assumption) hbn.2.2 | have hbm := Grow.none (by assumption) hbn.2.2.2 | have hbm := Grow.none (by assumption) hbn.2.2.2.2 | have hbm := Grow.none (by assumption) hbn.2.2.2.2.2)); (try simp only [set_none'] at hbm)) | ((first | refine condS_i ?_ ?_ | refine pick_i ?_ ?_ | refine gS_it ?_ ?_ | refine gS_if ?_ ?_ | refine gP_it ?_ ?_ | refine gP_if ?_ ?_) <;> (intro hc; try simp only [Int.reduceLE,Int.reduceLT,Int.reduceEq,Sn] at hc)) | (with_reducible refine KP_i ?_ ?_; · (repeat' (first | exact Heap.Le.refl _ | (with_reducible refine Le_set2 ?_) | (refine Le_known (by first | (simp only [Heap.set_same, set_ne, ne_eq, not_false_eq_true, *] <;> rfl) | fail) ?_) | (refine Le_fresh (by first | (simp only [*] <;> done) | (simp [set_none', Heap.set_same, set_ne, noneH, *] <;> done) | fail) ?_) | (refine Heap.Le.trans ?_ (Grow.le (by assumption))) | exact Le_none | (refine Le_put ?_ (by first | (simp only [Heap.set_same, set_ne, ne_eq, not_false_eq_true, *] <;> rfl) | fail)) | fail))) | (with_reducible refine And.intro ?_ ?_)) <;> (try simp only [Sq,Sr,Sh,Si,Sl,Bu,Bb,Bd,Bc,Bw,Bn,Int.reduceAdd,Int.reduceSub,Int.reduceMul,Int.reduceTDiv,Int.reduceTMod,Int.reduceMod,Int.reduceDiv,Nat.reduceLT,Nat.reduceEqDiff,Sa,Sb,Sc,Sd,Se,Sf,Sg,Int.reduceLE,Int.reduceLT,Int.reduceToNat,Int.reduceNeg,Int.reduceEq,Nat.reduceLeDiff,Nat.reducePow,Int.reducePow,reduceIte,Nat.reduceSub,Nat.reduceAdd,Nat.reduceMul,putAt,ceq,List.replicate, *]))
        exact Round_k 15 1 (fun us => (k + 1, us.getD 0 undef)) ⟨hlt, gFF.trans ((Grow.set (Grow.refl _) hb0 hbk).trans hg2)⟩ (by simp only; omega) rfl rfl
      · obtain rfl : m = k := by omega
        have t0 : ¬ (m : Int) < (m : Int) := by omega
        clear hall hI3 hpb hps cR
        subst eM eK eT
        show run _ _ _ _ _ _ F
        rw [root1 k5]
        (all_goals (try simp only [Sq,Sr,Sh,Si,Sl,Bu,Bb,Bd,Bc,Bw,Bn,Int.reduceAdd,Int.reduceSub,Int.reduceMul,Int.reduceTDiv,Int.reduceTMod,Int.reduceMod,Int.reduceDiv,Nat.reduceLT,Nat.reduceEqDiff,Sa,Sb,Sc,Sd,Se,Sf,Sg,Int.reduceLE,Int.reduceLT,Int.reduceToNat,Int.reduceNeg,Int.reduceEq,Nat.reduceLeDiff,Nat.reducePow,Int.reducePow,reduceIte,Nat.reduceSub,Nat.reduceAdd,Nat.reduceMul,putAt,ceq,List.replicate, *])); repeat' ((first | (with_reducible refine fun _ : True => ?_) | refine cN _ _ ?_ | (with_reducible refine any_h ?_) | ((first | refine AllocQ_i ?_ | refine AllocO_i ?_); intro bk hb0 hbk; (try simp only [set_none'] at hbk); (try (first | have hbn := Grow.none (by assumption) hbk | have hbn := Grow.none (by assumption) hbk.2 | have hbn := Grow.none (by assumption) hbk.2.2 | have hbn := Grow.none (by assumption) hbk.2.2.2 | have hbn := Grow.none (by assumption) hbk.2.2.2.2 | have hbn := Grow.none (by assumption) hbk.2.2.2.2.2)); (try simp only [set_none'] at hbn); (try (first | have hbm := Grow.none (by assumption) hbn | have hbm := Grow.none (by assumption) hbn.2 | have hbm := Grow.none (by assumption) hbn.2.2 | have hbm := Grow.none (by assumption) hbn.2.2.2 | have hbm := Grow.none (by assumption) hbn.2.2.2.2 | have hbm := Grow.none (by assumption) hbn.2.2.2.2.2)); (try simp only [set_none'] at hbm)) | ((first | refine condS_i ?_ ?_ | refine pick_i ?_ ?_ | refine gS_it ?_ ?_ | refine gS_if ?_ ?_ | refine gP_it ?_ ?_ | refine gP_if ?_ ?_) <;> (intro hc; try simp only [Int.reduceLE,Int.reduceLT,Int.reduceEq,Sn] at hc)) | (with_reducible refine KP_i ?_ ?_; · (repeat' (first | exact Heap.Le.refl _ | (with_reducible refine Le_set2 ?_) | (refine Le_known (by first | (simp only [Heap.set_same, set_ne, ne_eq, not_false_eq_true, *] <;> rfl) | fail) ?_) | (refine Le_fresh (by first | (simp only [*] <;> done) | (simp [set_none', Heap.set_same, set_ne, noneH, *] <;> done) | fail) ?_) | (refine Heap.Le.trans ?_ (Grow.le (by assumption))) | exact Le_none | (refine Le_put ?_ (by first | (simp only [Heap.set_same, set_ne, ne_eq, not_false_eq_true, *] <;> rfl) | fail)) | fail))) | (with_reducible refine And.intro ?_ ?_)) <;> (try simp only [Sq,Sr,Sh,Si,Sl,Bu,Bb,Bd,Bc,Bw,Bn,Int.reduceAdd,Int.reduceSub,Int.reduceMul,Int.reduceTDiv,Int.reduceTMod,Int.reduceMod,Int.reduceDiv,Nat.reduceLT,Nat.reduceEqDiff,Sa,Sb,Sc,Sd,Se,Sf,Sg,Int.reduceLE,Int.reduceLT,Int.reduceToNat,Int.reduceNeg,Int.reduceEq,Nat.reduceLeDiff,Nat.reducePow,Int.reducePow,reduceIte,Nat.reduceSub,Nat.reduceAdd,Nat.reduceMul,putAt,ceq,List.replicate, *]))
        exact Fin_mk (Heap.Le.trans (Grow.le gHF) (by (repeat' (first | exact Heap.Le.refl _ | (with_reducible refine Le_set2 ?_) | (refine Le_known (by first | (simp only [Heap.set_same, set_ne, ne_eq, not_false_eq_true, *] <;> rfl) | fail) ?_) | (refine Le_fresh (by first | (simp only [*] <;> done) | (simp [set_none', Heap.set_same, set_ne, noneH, *] <;> done) | fail) ?_) | (refine Heap.Le.trans ?_ (Grow.le (by assumption))) | exact Le_none | (refine Le_put ?_ (by first | (simp only [Heap.set_same, set_ne, ne_eq, not_false_eq_true, *] <;> rfl) | fail)) | fail)))) h
end Go.Proofs.Ytdaipgnhconfnaa
