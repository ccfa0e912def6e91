/- Which images may be: the program's check and the document's (layer 8). -/
import Derived.Test.YtdaipgnhconfnaaIma
import Derived.Test.YtdaipgnhconfnaaImz
set_option linter.unusedSimpArgs false
set_option linter.unusedVariables false
set_option maxRecDepth 100000
set_option maxHeartbeats 4000000
namespace Go.Proofs.Ytdaipgnhconfnaa
open Go.HL Go.RowKit Pb
variable {w0 : World} {H : Heap} {K : Value → Heap → Prop}

theorem K_dec {p : Prop} {d : Decidable p} (h : K (.bool (@decide p d)) H) {n : Bool} (e : n = true ↔ p) : K (.bool n) H := by
  have : n = @decide p d := by
    cases n
    · exact (decide_eq_false (fun hp => by simpa using e.2 hp)).symm
    · exact (decide_eq_true (e.1 rfl)).symm
  rw [this]; exact h
def sizeI (f : Int) : Int := if f = 1 then 4 else if f = 2 ∨ f = 3 ∨ f = 4 ∨ f = 7 then 2 else if f = 5 ∨ f = 6 then 1 else 0
theorem sizeI_le (f : Int) : 0 ≤ sizeI f ∧ sizeI f ≤ 4 := by unfold sizeI; (repeat' split) <;> omega
theorem sizeI_none {f : Int} (h : f < 1 ∨ 8 ≤ f) : sizeI f = 0 := by
  unfold sizeI
  rw [if_neg (by omega), if_neg (by omega), if_neg (by omega)]
def LvR.nil (x : LvR) : Prop := x.w = 0 ∧ x.h = 0 ∧ x.l.length = 0
instance (x : LvR) : Decidable x.nil := by unfold LvR.nil; infer_instance
def sideP (n : Int) : Prop := 1 ≤ n ∧ n ≤ 64
instance (n : Int) : Decidable (sideP n) := by unfold sideP; infer_instance
def LvR.good (f : Int) (x : LvR) : Prop := x.nil ∨ (sideP x.w ∧ sideP x.h ∧ (x.l.length : Int) = x.w * x.h * sizeI f)
instance (f : Int) (x : LvR) : Decidable (x.good f) := by unfold LvR.good; infer_instance
def Im.right (x : Im) : Prop :=
  x.ls.length ≤ 7 ∧ (x.ls.length = 0 → x.f = 0) ∧ (∀ y, x.ls[x.ls.length - 1]? = some y → sizeI x.f ≠ 0 ∧ ¬ y.nil) ∧ (∀ y ∈ x.ls, y.good x.f) ∧ (1 ≤ x.s ∧ x.s ≤ 3) ∧ (1 ≤ x.t ∧ x.t ≤ 3) ∧ (1 ≤ x.mn ∧ x.mn ≤ 4) ∧ (1 ≤ x.mg ∧ x.mg ≤ 2)
/-- What is read of a level. -/
theorem im_row {x : Im} (hx : ImOk w0 H x) {k : Nat} {y : LvR} (hy : x.ls[k]? = some y) :
    ∃ b o, x.a = some ⟨b, o, none⟩ ∧ rdn w0 H b (o + k * 3) 3 = some [.int .i64 y.w, .int .i64 y.h, .slice y.a y.l.length y.cap] ∧ (∀ c, w0.heap.size ≤ c → H c = none → c ≠ b) :=
  hx.at_.row (fun r hr => by obtain ⟨z, -, rfl⟩ := List.mem_map.1 hr; rfl) (by decide) (by rw [List.getElem?_map, hy]; rfl)
/- pixel formats -/
def M75 : MC :=
  .seq (.reg [⟨(some 0), .mv (.const (.slice none 0 0)), none⟩])
 (.seq (.reg [⟨(some 2), .build [(.int .i32 0), (.int .i32 0), (.int .i32 0), (.int .i32 0)] [(0, 1, (.const (.int .i32 0))), (1, 1, (.const (.int .i32 0))), (2, 1, (.const (.int .i32 0))), (3, 1, (.const (.int .i32 65536)))], none⟩,
 ⟨(some 1), .alloc 93 [(.int .i32 0), (.int .i32 0), (.int .i32 0), (.int .i32 0)], none⟩,
 ⟨none, .stn 4 (.tmp 1) (.tmp 2), none⟩])
 (.seq (.reg [⟨(some 3), .build [(.int .i64 0), (.slice none 0 0), (.int .i32 0), (.int .i32 0), (.int .i32 0), (.int .i32 0)] [], none⟩,
 ⟨(some 4), .build [(.int .i64 0), (.int .i64 0), (.int .i64 0)] [(0, 1, (.const (.int .i64 0))), (1, 1, (.const (.int .i64 8))), (2, 1, (.const (.int .i64 0)))], none⟩,
 ⟨(some 5), .build [(.int .i64 0), (.int .i64 0), (.int .i64 0)] [(0, 1, (.const (.int .i64 1))), (1, 1, (.const (.int .i64 8))), (2, 1, (.const (.int .i64 8)))], none⟩,
 ⟨(some 6), .build [(.int .i64 0), (.int .i64 0), (.int .i64 0)] [(0, 1, (.const (.int .i64 2))), (1, 1, (.const (.int .i64 8))), (2, 1, (.const (.int .i64 16)))], none⟩,
 ⟨(some 7), .build [(.int .i64 0), (.int .i64 0), (.int .i64 0)] [(0, 1, (.const (.int .i64 3))), (1, 1, (.const (.int .i64 8))), (2, 1, (.const (.int .i64 24)))], none⟩,
 ⟨(some 8), .bslice 108 4 [(.int .i64 0), (.int .i64 0), (.int .i64 0), (.int .i64 0), (.int .i64 0), (.int .i64 0), (.int .i64 0), (.int .i64 0), (.int .i64 0), (.int .i64 0), (.int .i64 0), (.int .i64 0)] [(0, 3, (.tmp 4)), (3, 3, (.tmp 5)), (6, 3, (.tmp 6)), (9, 3, (.tmp 7))], none⟩,
 ⟨(some 9), .build [(.int .i32 0), (.int .i32 0), (.int .i32 0), (.int .i32 0)] [], none⟩,
 ⟨(some 10), .build [(.int .i64 0), (.slice none 0 0), (.int .i32 0), (.int .i32 0), (.int .i32 0), (.int .i32 0)] [(0, 1, (.const (.int .i64 4))), (1, 1, (.tmp 8)), (2, 4, (.tmp 9))], none⟩,
 ⟨(some 11), .build [(.int .i64 0), (.int .i64 0), (.int .i64 0)] [(0, 1, (.const (.int .i64 0))), (1, 1, (.const (.int .i64 5))), (2, 1, (.const (.int .i64 11)))], none⟩,
 ⟨(some 12), .build [(.int .i64 0), (.int .i64 0), (.int .i64 0)] [(0, 1, (.const (.int .i64 1))), (1, 1, (.const (.int .i64 6))), (2, 1, (.const (.int .i64 5)))], none⟩,
 ⟨(some 13), .build [(.int .i64 0), (.int .i64 0), (.int .i64 0)] [(0, 1, (.const (.int .i64 2))), (1, 1, (.const (.int .i64 5))), (2, 1, (.const (.int .i64 0)))], none⟩,
 ⟨(some 14), .bslice 108 3 [(.int .i64 0), (.int .i64 0), (.int .i64 0), (.int .i64 0), (.int .i64 0), (.int .i64 0), (.int .i64 0), (.int .i64 0), (.int .i64 0)] [(0, 3, (.tmp 11)), (3, 3, (.tmp 12)), (6, 3, (.tmp 13))], none⟩,
 ⟨(some 15), .ldn 4 (.tmp 1), none⟩,
 ⟨(some 16), .build [(.int .i64 0), (.slice none 0 0), (.int .i32 0), (.int .i32 0), (.int .i32 0), (.int .i32 0)] [(0, 1, (.const (.int .i64 2))), (1, 1, (.tmp 14)), (2, 4, (.tmp 15))], none⟩,
 ⟨(some 17), .build [(.int .i64 0), (.int .i64 0), (.int .i64 0)] [(0, 1, (.const (.int .i64 0))), (1, 1, (.const (.int .i64 4))), (2, 1, (.const (.int .i64 12)))], none⟩,
 ⟨(some 18), .build [(.int .i64 0), (.int .i64 0), (.int .i64 0)] [(0, 1, (.const (.int .i64 1))), (1, 1, (.const (.int .i64 4))), (2, 1, (.const (.int .i64 8)))], none⟩,
 ⟨(some 19), .build [(.int .i64 0), (.int .i64 0), (.int .i64 0)] [(0, 1, (.const (.int .i64 2))), (1, 1, (.const (.int .i64 4))), (2, 1, (.const (.int .i64 4)))], none⟩,
 ⟨(some 20), .build [(.int .i64 0), (.int .i64 0), (.int .i64 0)] [(0, 1, (.const (.int .i64 3))), (1, 1, (.const (.int .i64 4))), (2, 1, (.const (.int .i64 0)))], none⟩,
 ⟨(some 21), .bslice 108 4 [(.int .i64 0), (.int .i64 0), (.int .i64 0), (.int .i64 0), (.int .i64 0), (.int .i64 0), (.int .i64 0), (.int .i64 0), (.int .i64 0), (.int .i64 0), (.int .i64 0), (.int .i64 0)] [(0, 3, (.tmp 17)), (3, 3, (.tmp 18)), (6, 3, (.tmp 19)), (9, 3, (.tmp 20))], none⟩,
 ⟨(some 22), .build [(.int .i32 0), (.int .i32 0), (.int .i32 0), (.int .i32 0)] [], none⟩,
 ⟨(some 23), .build [(.int .i64 0), (.slice none 0 0), (.int .i32 0), (.int .i32 0), (.int .i32 0), (.int .i32 0)] [(0, 1, (.const (.int .i64 2))), (1, 1, (.tmp 21)), (2, 4, (.tmp 22))], none⟩,
 ⟨(some 24), .build [(.int .i64 0), (.int .i64 0), (.int .i64 0)] [(0, 1, (.const (.int .i64 0))), (1, 1, (.const (.int .i64 5))), (2, 1, (.const (.int .i64 11)))], none⟩,
 ⟨(some 25), .build [(.int .i64 0), (.int .i64 0), (.int .i64 0)] [(0, 1, (.const (.int .i64 1))), (1, 1, (.const (.int .i64 5))), (2, 1, (.const (.int .i64 6)))], none⟩,
 ⟨(some 26), .build [(.int .i64 0), (.int .i64 0), (.int .i64 0)] [(0, 1, (.const (.int .i64 2))), (1, 1, (.const (.int .i64 5))), (2, 1, (.const (.int .i64 1)))], none⟩,
 ⟨(some 27), .build [(.int .i64 0), (.int .i64 0), (.int .i64 0)] [(0, 1, (.const (.int .i64 3))), (1, 1, (.const (.int .i64 1))), (2, 1, (.const (.int .i64 0)))], none⟩,
 ⟨(some 28), .bslice 108 4 [(.int .i64 0), (.int .i64 0), (.int .i64 0), (.int .i64 0), (.int .i64 0), (.int .i64 0), (.int .i64 0), (.int .i64 0), (.int .i64 0), (.int .i64 0), (.int .i64 0), (.int .i64 0)] [(0, 3, (.tmp 24)), (3, 3, (.tmp 25)), (6, 3, (.tmp 26)), (9, 3, (.tmp 27))], none⟩,
 ⟨(some 29), .build [(.int .i32 0), (.int .i32 0), (.int .i32 0), (.int .i32 0)] [], none⟩,
 ⟨(some 30), .build [(.int .i64 0), (.slice none 0 0), (.int .i32 0), (.int .i32 0), (.int .i32 0), (.int .i32 0)] [(0, 1, (.const (.int .i64 2))), (1, 1, (.tmp 28)), (2, 4, (.tmp 29))], none⟩,
 ⟨(some 31), .build [(.int .i64 0), (.int .i64 0), (.int .i64 0)] [(0, 1, (.const (.int .i64 0))), (1, 1, (.const (.int .i64 8))), (2, 1, (.const (.int .i64 0)))], none⟩,
 ⟨(some 32), .bslice 108 1 [(.int .i64 0), (.int .i64 0), (.int .i64 0)] [(0, 3, (.tmp 31))], none⟩,
 ⟨(some 33), .ldn 4 (.tmp 1), none⟩,
 ⟨(some 34), .build [(.int .i64 0), (.slice none 0 0), (.int .i32 0), (.int .i32 0), (.int .i32 0), (.int .i32 0)] [(0, 1, (.const (.int .i64 1))), (1, 1, (.tmp 32)), (2, 4, (.tmp 33))], none⟩,
 ⟨(some 35), .build [(.int .i64 0), (.int .i64 0), (.int .i64 0)] [(0, 1, (.const (.int .i64 3))), (1, 1, (.const (.int .i64 8))), (2, 1, (.const (.int .i64 0)))], none⟩,
 ⟨(some 36), .bslice 108 1 [(.int .i64 0), (.int .i64 0), (.int .i64 0)] [(0, 3, (.tmp 35))], none⟩,
 ⟨(some 37), .build [(.int .i32 0), (.int .i32 0), (.int .i32 0), (.int .i32 0)] [], none⟩,
 ⟨(some 38), .build [(.int .i64 0), (.slice none 0 0), (.int .i32 0), (.int .i32 0), (.int .i32 0), (.int .i32 0)] [(0, 1, (.const (.int .i64 1))), (1, 1, (.tmp 36)), (2, 4, (.tmp 37))], none⟩,
 ⟨(some 39), .build [(.int .i64 0), (.int .i64 0), (.int .i64 0)] [(0, 1, (.const (.int .i64 0))), (1, 1, (.const (.int .i64 8))), (2, 1, (.const (.int .i64 0)))], none⟩,
 ⟨(some 40), .build [(.int .i64 0), (.int .i64 0), (.int .i64 0)] [(0, 1, (.const (.int .i64 3))), (1, 1, (.const (.int .i64 8))), (2, 1, (.const (.int .i64 8)))], none⟩,
 ⟨(some 41), .bslice 108 2 [(.int .i64 0), (.int .i64 0), (.int .i64 0), (.int .i64 0), (.int .i64 0), (.int .i64 0)] [(0, 3, (.tmp 39)), (3, 3, (.tmp 40))], none⟩,
 ⟨(some 42), .build [(.int .i32 0), (.int .i32 0), (.int .i32 0), (.int .i32 0)] [], none⟩,
 ⟨(some 43), .build [(.int .i64 0), (.slice none 0 0), (.int .i32 0), (.int .i32 0), (.int .i32 0), (.int .i32 0)] [(0, 1, (.const (.int .i64 2))), (1, 1, (.tmp 41)), (2, 4, (.tmp 42))], none⟩,
 ⟨(some 44), .bslice 95 8 [(.int .i64 0), (.slice none 0 0), (.int .i32 0), (.int .i32 0), (.int .i32 0), (.int .i32 0), (.int .i64 0), (.slice none 0 0), (.int .i32 0), (.int .i32 0), (.int .i32 0), (.int .i32 0), (.int .i64 0), (.slice none 0 0), (.int .i32 0), (.int .i32 0), (.int .i32 0), (.int .i32 0), (.int .i64 0), (.slice none 0 0), (.int .i32 0), (.int .i32 0), (.int .i32 0), (.int .i32 0), (.int .i64 0), (.slice none 0 0), (.int .i32 0), (.int .i32 0), (.int .i32 0), (.int .i32 0), (.int .i64 0), (.slice none 0 0), (.int .i32 0), (.int .i32 0), (.int .i32 0), (.int .i32 0), (.int .i64 0), (.slice none 0 0), (.int .i32 0), (.int .i32 0), (.int .i32 0), (.int .i32 0), (.int .i64 0), (.slice none 0 0), (.int .i32 0), (.int .i32 0), (.int .i32 0), (.int .i32 0)] [(0, 6, (.tmp 3)), (6, 6, (.tmp 10)), (12, 6, (.tmp 16)), (18, 6, (.tmp 23)), (24, 6, (.tmp 30)), (30, 6, (.tmp 34)), (36, 6, (.tmp 38)), (42, 6, (.tmp 43))], none⟩,
 ⟨(some 0), .mv (.tmp 44), none⟩])
 (.ret)))
theorem k75 : fnOk Try.prog 75 = some (M75, [.t 0], 45) := by kernel_rfl

theorem c_formats8 (h : ∀ b H', Grow w0 H H' → K (.slice (some ⟨b, 0, none⟩) 8 8) H') : HCalls Try.prog w0 75 [] H K := by
  refine HL.hc k75 999 ?_; unfold M75
  (all_goals (try simp only [Sq,Sr,Sh,Si,Sl,Bu,Bb,Bd,Bc,Bw,Bn,Int.reduceAdd,Int.reduceSub,Int.reduceMul,Int.reduceTDiv,Int.reduceTMod,Int.reduceMod,Int.reduceDiv,Nat.reduceLT,Nat.reduceEqDiff,Sa,Sb,Sc,Sd,Se,Sf,Sg,Int.reduceLE,Int.reduceLT,Int.reduceToNat,Int.reduceNeg,Int.reduceEq,Nat.reduceLeDiff,Nat.reducePow,Int.reducePow,reduceIte,Nat.reduceSub,Nat.reduceAdd,Nat.reduceMul,putAt,ceq,List.replicate, *])); repeat' ((first | (with_reducible refine fun _ : True => ?_) | (with_reducible refine any_h ?_) | ((first | refine AllocQ_i ?_ | refine AllocO_i ?_); intro bk hb0 hbk; try simp only [set_none'] at hbk) | ((first | refine condS_i ?_ ?_ | refine pick_i ?_ ?_ | refine gS_it ?_ ?_ | refine gS_if ?_ ?_ | refine gP_it ?_ ?_ | refine gP_if ?_ ?_) <;> (intro hc; try simp only [Int.reduceLE,Int.reduceLT,Int.reduceEq,Sn] at hc)) | (refine KP_i (by (repeat' (first | exact Heap.Le.refl _ | (refine Le_fresh (by first | exact (by simp only [*]) | exact (by simp [set_none', *])) ?_) | (refine Heap.Le.trans ?_ (Grow.le (by assumption)))))) ?_) | (with_reducible refine And.intro ?_ ?_)) <;> (try simp only [Sq,Sr,Sh,Si,Sl,Bu,Bb,Bd,Bc,Bw,Bn,Int.reduceAdd,Int.reduceSub,Int.reduceMul,Int.reduceTDiv,Int.reduceTMod,Int.reduceMod,Int.reduceDiv,Nat.reduceLT,Nat.reduceEqDiff,Sa,Sb,Sc,Sd,Se,Sf,Sg,Int.reduceLE,Int.reduceLT,Int.reduceToNat,Int.reduceNeg,Int.reduceEq,Nat.reduceLeDiff,Nat.reducePow,Int.reducePow,reduceIte,Nat.reduceSub,Nat.reduceAdd,Nat.reduceMul,putAt,ceq,List.replicate, *]))
  exact Fin_mk (Heap.Le.refl _) (h _ _ (by (repeat' (first | exact Grow.refl _ | assumption | (refine Grow.set ?_ (by assumption) (by first | exact (by simp only [*]) | exact (by simp [set_none', *]) | exact Grow.none (by assumption) (by simp [set_none', *]))) | (refine Grow.trans ?_ (by assumption))))))
/- pixel find -/
def M69 : MC :=
  .seq (.reg [⟨(some 2), .alloc 95 [(.int .i64 0), (.slice none 0 0), (.int .i32 0), (.int .i32 0), (.int .i32 0), (.int .i32 0)], none⟩,
 ⟨(some 3), .mv (.const (.bool false)), none⟩])
 (.seq (.reg [⟨(some 5), .call 75 [], none⟩,
 ⟨(some 4), .mv (.tmp 5), none⟩])
 (.seq (.seq (.reg [⟨(some 6), .mv (.tmp 0), none⟩,
 ⟨(some 7), .bin .lss (.tmp 6) (.const (.int .i64 1)), none⟩,
 ⟨(some 8), .mv (.tmp 7), none⟩,
 ⟨(some 9), .mv (.tmp 0), (some (8, false))⟩,
 ⟨(some 10), .mv (.tmp 4), (some (8, false))⟩,
 ⟨(some 11), .len (.tmp 10), (some (8, false))⟩,
 ⟨(some 12), .bin .geq (.tmp 9) (.tmp 11), (some (8, false))⟩,
 ⟨(some 13), .pick (.tmp 8) (.const (.bool true)) (.tmp 12), none⟩])
 (.cond (.tmp 13)
 (.seq (.reg [⟨(some 14), .build [(.int .i64 0), (.slice none 0 0), (.int .i32 0), (.int .i32 0), (.int .i32 0), (.int .i32 0)] [], none⟩,
 ⟨none, .stn 6 (.tmp 2) (.tmp 14), none⟩,
 ⟨(some 3), .mv (.const (.bool false)), none⟩])
 (.ret))
 (.skip)))
 (.seq (.reg [⟨(some 15), .mv (.tmp 4), none⟩,
 ⟨(some 16), .mv (.tmp 0), none⟩,
 ⟨(some 17), .is 6 (.tmp 15) (.tmp 16), none⟩,
 ⟨(some 18), .ldn 6 (.tmp 17), none⟩,
 ⟨none, .stn 6 (.tmp 2) (.tmp 18), none⟩,
 ⟨(some 3), .mv (.const (.bool true)), none⟩])
 (.ret))))
theorem k69 : fnOk Try.prog 69 = some (M69, [.cn 6 2, .t 3], 19) := by kernel_rfl

theorem c_find0 (n : Int) (hn : n < 1 ∨ 8 ≤ n) (h : K (.tuple #[.agg #[.int .i64 0, .slice none 0 0, .int .i32 0, .int .i32 0, .int .i32 0, .int .i32 0], .bool false]) H) : HCalls Try.prog w0 69 [.int .i64 n] H K := by
  by_cases h1 : n < 1
  · refine HL.hc k69 999 ?_; unfold M69
    (all_goals (try simp only [Sq,Sr,Sh,Si,Sl,Bu,Bb,Bd,Bc,Bw,Bn,Int.reduceAdd,Int.reduceSub,Int.reduceMul,Int.reduceTDiv,Int.reduceTMod,Int.reduceMod,Int.reduceDiv,Nat.reduceLT,Nat.reduceEqDiff,Sa,Sb,Sc,Sd,Se,Sf,Sg,Int.reduceLE,Int.reduceLT,Int.reduceToNat,Int.reduceNeg,Int.reduceEq,Nat.reduceLeDiff,Nat.reducePow,Int.reducePow,reduceIte,Nat.reduceSub,Nat.reduceAdd,Nat.reduceMul,putAt,ceq,List.replicate, *])); repeat' ((first | (with_reducible refine fun _ : True => ?_) | refine c_formats8 (fun b H' g => ?_)  | (with_reducible refine any_h ?_) | ((first | refine AllocQ_i ?_ | refine AllocO_i ?_); intro bk hb0 hbk; try simp only [set_none'] at hbk) | ((first | refine condS_i ?_ ?_ | refine pick_i ?_ ?_ | refine gS_it ?_ ?_ | refine gS_if ?_ ?_ | refine gP_it ?_ ?_ | refine gP_if ?_ ?_) <;> (intro hc; try simp only [Int.reduceLE,Int.reduceLT,Int.reduceEq,Sn] at hc)) | (refine KP_i (by (repeat' (first | exact Heap.Le.refl _ | (refine Le_fresh (by first | exact (by simp only [*]) | exact (by simp [set_none', *])) ?_) | (refine Heap.Le.trans ?_ (Grow.le (by assumption)))))) ?_) | (with_reducible refine And.intro ?_ ?_)) <;> (try simp only [Sq,Sr,Sh,Si,Sl,Bu,Bb,Bd,Bc,Bw,Bn,Int.reduceAdd,Int.reduceSub,Int.reduceMul,Int.reduceTDiv,Int.reduceTMod,Int.reduceMod,Int.reduceDiv,Nat.reduceLT,Nat.reduceEqDiff,Sa,Sb,Sc,Sd,Se,Sf,Sg,Int.reduceLE,Int.reduceLT,Int.reduceToNat,Int.reduceNeg,Int.reduceEq,Nat.reduceLeDiff,Nat.reducePow,Int.reducePow,reduceIte,Nat.reduceSub,Nat.reduceAdd,Nat.reduceMul,putAt,ceq,List.replicate, *]))
    have kb := g.some (b := bk) (by simp only [Heap.set_same, set_ne, ne_eq, not_false_eq_true, *] <;> rfl)
    rw [(Heap.set_id H' bk _ kb).symm]
    (all_goals (try simp only [Sq,Sr,Sh,Si,Sl,Bu,Bb,Bd,Bc,Bw,Bn,Int.reduceAdd,Int.reduceSub,Int.reduceMul,Int.reduceTDiv,Int.reduceTMod,Int.reduceMod,Int.reduceDiv,Nat.reduceLT,Nat.reduceEqDiff,Sa,Sb,Sc,Sd,Se,Sf,Sg,Int.reduceLE,Int.reduceLT,Int.reduceToNat,Int.reduceNeg,Int.reduceEq,Nat.reduceLeDiff,Nat.reducePow,Int.reducePow,reduceIte,Nat.reduceSub,Nat.reduceAdd,Nat.reduceMul,putAt,ceq,List.replicate, *])); repeat' ((first | (with_reducible refine fun _ : True => ?_) | (with_reducible refine any_h ?_) | ((first | refine AllocQ_i ?_ | refine AllocO_i ?_); intro bk hb0 hbk; try simp only [set_none'] at hbk) | ((first | refine condS_i ?_ ?_ | refine pick_i ?_ ?_ | refine gS_it ?_ ?_ | refine gS_if ?_ ?_ | refine gP_it ?_ ?_ | refine gP_if ?_ ?_) <;> (intro hc; try simp only [Int.reduceLE,Int.reduceLT,Int.reduceEq,Sn] at hc)) | (refine KP_i (by (repeat' (first | exact Heap.Le.refl _ | (refine Le_fresh (by first | exact (by simp only [*]) | exact (by simp [set_none', *])) ?_) | (refine Heap.Le.trans ?_ (Grow.le (by assumption)))))) ?_) | (with_reducible refine And.intro ?_ ?_)) <;> (try simp only [Sq,Sr,Sh,Si,Sl,Bu,Bb,Bd,Bc,Bw,Bn,Int.reduceAdd,Int.reduceSub,Int.reduceMul,Int.reduceTDiv,Int.reduceTMod,Int.reduceMod,Int.reduceDiv,Nat.reduceLT,Nat.reduceEqDiff,Sa,Sb,Sc,Sd,Se,Sf,Sg,Int.reduceLE,Int.reduceLT,Int.reduceToNat,Int.reduceNeg,Int.reduceEq,Nat.reduceLeDiff,Nat.reducePow,Int.reducePow,reduceIte,Nat.reduceSub,Nat.reduceAdd,Nat.reduceMul,putAt,ceq,List.replicate, *]))
    exact Fin_mk (by (repeat' (first | exact Heap.Le.refl _ | (refine Le_fresh (by first | exact (by simp only [*]) | exact (by simp [set_none', *])) ?_) | (refine Heap.Le.trans ?_ (Grow.le (by assumption)))))) h
  · have h2 : 8 ≤ n := by omega
    refine HL.hc k69 999 ?_; unfold M69
    (all_goals (try simp only [Sq,Sr,Sh,Si,Sl,Bu,Bb,Bd,Bc,Bw,Bn,Int.reduceAdd,Int.reduceSub,Int.reduceMul,Int.reduceTDiv,Int.reduceTMod,Int.reduceMod,Int.reduceDiv,Nat.reduceLT,Nat.reduceEqDiff,Sa,Sb,Sc,Sd,Se,Sf,Sg,Int.reduceLE,Int.reduceLT,Int.reduceToNat,Int.reduceNeg,Int.reduceEq,Nat.reduceLeDiff,Nat.reducePow,Int.reducePow,reduceIte,Nat.reduceSub,Nat.reduceAdd,Nat.reduceMul,putAt,ceq,List.replicate, *])); repeat' ((first | (with_reducible refine fun _ : True => ?_) | refine c_formats8 (fun b H' g => ?_)  | (with_reducible refine any_h ?_) | ((first | refine AllocQ_i ?_ | refine AllocO_i ?_); intro bk hb0 hbk; try simp only [set_none'] at hbk) | ((first | refine condS_i ?_ ?_ | refine pick_i ?_ ?_ | refine gS_it ?_ ?_ | refine gS_if ?_ ?_ | refine gP_it ?_ ?_ | refine gP_if ?_ ?_) <;> (intro hc; try simp only [Int.reduceLE,Int.reduceLT,Int.reduceEq,Sn] at hc)) | (refine KP_i (by (repeat' (first | exact Heap.Le.refl _ | (refine Le_fresh (by first | exact (by simp only [*]) | exact (by simp [set_none', *])) ?_) | (refine Heap.Le.trans ?_ (Grow.le (by assumption)))))) ?_) | (with_reducible refine And.intro ?_ ?_)) <;> (try simp only [Sq,Sr,Sh,Si,Sl,Bu,Bb,Bd,Bc,Bw,Bn,Int.reduceAdd,Int.reduceSub,Int.reduceMul,Int.reduceTDiv,Int.reduceTMod,Int.reduceMod,Int.reduceDiv,Nat.reduceLT,Nat.reduceEqDiff,Sa,Sb,Sc,Sd,Se,Sf,Sg,Int.reduceLE,Int.reduceLT,Int.reduceToNat,Int.reduceNeg,Int.reduceEq,Nat.reduceLeDiff,Nat.reducePow,Int.reducePow,reduceIte,Nat.reduceSub,Nat.reduceAdd,Nat.reduceMul,putAt,ceq,List.replicate, *]))
    have kb := g.some (b := bk) (by simp only [Heap.set_same, set_ne, ne_eq, not_false_eq_true, *] <;> rfl)
    rw [(Heap.set_id H' bk _ kb).symm]
    (all_goals (try simp only [Sq,Sr,Sh,Si,Sl,Bu,Bb,Bd,Bc,Bw,Bn,Int.reduceAdd,Int.reduceSub,Int.reduceMul,Int.reduceTDiv,Int.reduceTMod,Int.reduceMod,Int.reduceDiv,Nat.reduceLT,Nat.reduceEqDiff,Sa,Sb,Sc,Sd,Se,Sf,Sg,Int.reduceLE,Int.reduceLT,Int.reduceToNat,Int.reduceNeg,Int.reduceEq,Nat.reduceLeDiff,Nat.reducePow,Int.reducePow,reduceIte,Nat.reduceSub,Nat.reduceAdd,Nat.reduceMul,putAt,ceq,List.replicate, *])); repeat' ((first | (with_reducible refine fun _ : True => ?_) | (with_reducible refine any_h ?_) | ((first | refine AllocQ_i ?_ | refine AllocO_i ?_); intro bk hb0 hbk; try simp only [set_none'] at hbk) | ((first | refine condS_i ?_ ?_ | refine pick_i ?_ ?_ | refine gS_it ?_ ?_ | refine gS_if ?_ ?_ | refine gP_it ?_ ?_ | refine gP_if ?_ ?_) <;> (intro hc; try simp only [Int.reduceLE,Int.reduceLT,Int.reduceEq,Sn] at hc)) | (refine KP_i (by (repeat' (first | exact Heap.Le.refl _ | (refine Le_fresh (by first | exact (by simp only [*]) | exact (by simp [set_none', *])) ?_) | (refine Heap.Le.trans ?_ (Grow.le (by assumption)))))) ?_) | (with_reducible refine And.intro ?_ ?_)) <;> (try simp only [Sq,Sr,Sh,Si,Sl,Bu,Bb,Bd,Bc,Bw,Bn,Int.reduceAdd,Int.reduceSub,Int.reduceMul,Int.reduceTDiv,Int.reduceTMod,Int.reduceMod,Int.reduceDiv,Nat.reduceLT,Nat.reduceEqDiff,Sa,Sb,Sc,Sd,Se,Sf,Sg,Int.reduceLE,Int.reduceLT,Int.reduceToNat,Int.reduceNeg,Int.reduceEq,Nat.reduceLeDiff,Nat.reducePow,Int.reducePow,reduceIte,Nat.reduceSub,Nat.reduceAdd,Nat.reduceMul,putAt,ceq,List.replicate, *]))
    exact Fin_mk (by (repeat' (first | exact Heap.Le.refl _ | (refine Le_fresh (by first | exact (by simp only [*]) | exact (by simp [set_none', *])) ?_) | (refine Heap.Le.trans ?_ (Grow.le (by assumption)))))) h
/- pixel Size -/
def M48 : MC :=
  .seq (.reg [⟨(some 2), .mv (.const (.int .i64 0)), none⟩])
 (.seq (.reg [⟨(some 6), .mv (.tmp 0), none⟩,
 ⟨(some 7), .call 69 [(.tmp 6)], none⟩,
 ⟨(some 5), .mv (.tmp 7), none⟩,
 ⟨(some 8), .ext 0 (.tmp 5), none⟩,
 ⟨(some 9), .ext 1 (.tmp 5), none⟩,
 ⟨(some 3), .alloc 95 [(.int .i64 0), (.slice none 0 0), (.int .i32 0), (.int .i32 0), (.int .i32 0), (.int .i32 0)], none⟩,
 ⟨none, .stn 6 (.tmp 3) (.tmp 8), none⟩,
 ⟨(some 4), .mv (.tmp 9), none⟩])
 (.seq (.reg [⟨(some 10), .fa 0 (.tmp 3), none⟩,
 ⟨(some 11), .ld1 (.tmp 10), none⟩,
 ⟨(some 2), .mv (.tmp 11), none⟩])
 (.ret)))
theorem k48 : fnOk Try.prog 48 = some (M48, [.t 2], 12) := by kernel_rfl

theorem c_pSize (f : Int) (h : K (.int .i64 (sizeI f)) H) : HCalls Try.prog w0 48 [.int .i64 f] H K := by
  by_cases hf : 1 ≤ f ∧ f ≤ 7
  · rcases (by omega : f = 1 ∨ f = 2 ∨ f = 3 ∨ f = 4 ∨ f = 5 ∨ f = 6 ∨ f = 7) with rfl | rfl | rfl | rfl | rfl | rfl | rfl
    · exact x_Size1 h
    · exact x_Size2 h
    · exact x_Size3 h
    · exact x_Size4 h
    · exact x_Size5 h
    · exact x_Size6 h
    · exact x_Size7 h
  · rw [sizeI_none (by omega)] at h
    have hn : f < 1 ∨ 8 ≤ f := by omega
    clear hf
    refine HL.hc k48 999 ?_; unfold M48
    (all_goals (try simp only [Sq,Sr,Sh,Si,Sl,Bu,Bb,Bd,Bc,Bw,Bn,Int.reduceAdd,Int.reduceSub,Int.reduceMul,Int.reduceTDiv,Int.reduceTMod,Int.reduceMod,Int.reduceDiv,Nat.reduceLT,Nat.reduceEqDiff,Sa,Sb,Sc,Sd,Se,Sf,Sg,Int.reduceLE,Int.reduceLT,Int.reduceToNat,Int.reduceNeg,Int.reduceEq,Nat.reduceLeDiff,Nat.reducePow,Int.reducePow,reduceIte,Nat.reduceSub,Nat.reduceAdd,Nat.reduceMul,putAt,ceq,List.replicate, *])); repeat' ((first | (with_reducible refine fun _ : True => ?_) | refine c_find0 f hn ?_ | (with_reducible refine any_h ?_) | ((first | refine AllocQ_i ?_ | refine AllocO_i ?_); intro bk hb0 hbk; try simp only [set_none'] at hbk) | ((first | refine condS_i ?_ ?_ | refine pick_i ?_ ?_ | refine gS_it ?_ ?_ | refine gS_if ?_ ?_ | refine gP_it ?_ ?_ | refine gP_if ?_ ?_) <;> (intro hc; try simp only [Int.reduceLE,Int.reduceLT,Int.reduceEq,Sn] at hc)) | (refine KP_i (by (repeat' (first | exact Heap.Le.refl _ | (refine Le_fresh (by first | exact (by simp only [*]) | exact (by simp [set_none', *])) ?_) | (refine Heap.Le.trans ?_ (Grow.le (by assumption)))))) ?_) | (with_reducible refine And.intro ?_ ?_)) <;> (try simp only [Sq,Sr,Sh,Si,Sl,Bu,Bb,Bd,Bc,Bw,Bn,Int.reduceAdd,Int.reduceSub,Int.reduceMul,Int.reduceTDiv,Int.reduceTMod,Int.reduceMod,Int.reduceDiv,Nat.reduceLT,Nat.reduceEqDiff,Sa,Sb,Sc,Sd,Se,Sf,Sg,Int.reduceLE,Int.reduceLT,Int.reduceToNat,Int.reduceNeg,Int.reduceEq,Nat.reduceLeDiff,Nat.reducePow,Int.reducePow,reduceIte,Nat.reduceSub,Nat.reduceAdd,Nat.reduceMul,putAt,ceq,List.replicate, *]))
    exact Fin_mk (by (repeat' (first | exact Heap.Le.refl _ | (refine Le_fresh (by first | exact (by simp only [*]) | exact (by simp [set_none', *])) ?_) | (refine Heap.Le.trans ?_ (Grow.le (by assumption)))))) h
/- paintboxref08 Size -/
def M45 : MC :=
  .seq (.reg [⟨(some 2), .mv (.const (.int .i64 0)), none⟩])
 (.seq (.seq (.reg [⟨(some 3), .mv (.tmp 0), none⟩])
 (.block 0 (.seq (.reg [⟨(some 5), .bin .eql (.tmp 3) (.const (.int .i64 1)), none⟩,
 ⟨(some 4), .mv (.tmp 5), none⟩])
 (.cond (.tmp 4)
 (.seq (.reg [⟨(some 2), .mv (.const (.int .i64 4)), none⟩])
 (.ret))
 (.seq (.seq (.reg [⟨(some 7), .bin .eql (.tmp 3) (.const (.int .i64 2)), none⟩,
 ⟨(some 6), .mv (.tmp 7), none⟩])
 (.cond (.tmp 6)
 (.skip)
 (.seq (.reg [⟨(some 8), .bin .eql (.tmp 3) (.const (.int .i64 3)), none⟩,
 ⟨(some 6), .mv (.tmp 8), none⟩])
 (.cond (.tmp 6)
 (.skip)
 (.seq (.reg [⟨(some 9), .bin .eql (.tmp 3) (.const (.int .i64 4)), none⟩,
 ⟨(some 6), .mv (.tmp 9), none⟩])
 (.cond (.tmp 6)
 (.skip)
 (.reg [⟨(some 10), .bin .eql (.tmp 3) (.const (.int .i64 7)), none⟩,
 ⟨(some 6), .mv (.tmp 10), none⟩])))))))
 (.cond (.tmp 6)
 (.seq (.reg [⟨(some 2), .mv (.const (.int .i64 2)), none⟩])
 (.ret))
 (.seq (.seq (.reg [⟨(some 12), .bin .eql (.tmp 3) (.const (.int .i64 5)), none⟩,
 ⟨(some 11), .mv (.tmp 12), none⟩])
 (.cond (.tmp 11)
 (.skip)
 (.reg [⟨(some 13), .bin .eql (.tmp 3) (.const (.int .i64 6)), none⟩,
 ⟨(some 11), .mv (.tmp 13), none⟩])))
 (.cond (.tmp 11)
 (.seq (.reg [⟨(some 2), .mv (.const (.int .i64 1)), none⟩])
 (.ret))
 (.skip)))))))))
 (.seq (.reg [⟨(some 2), .mv (.const (.int .i64 0)), none⟩])
 (.ret)))
theorem k45 : fnOk Try.prog 45 = some (M45, [.t 2], 14) := by kernel_rfl

theorem r_Size8 (f : Int) (h : K (.int .i64 (sizeI f)) H) : HCalls Try.prog w0 45 [.int .i64 f] H K := by
  have key : ∀ n : Int, n = sizeI f → HL.Fin K (.int .i64 n) H := fun n e => by subst e; exact Fin_mk (Heap.Le.refl _) h
  clear h
  refine HL.hc k45 999 ?_; unfold M45
  (all_goals (try simp only [Sq,Sr,Sh,Si,Sl,Bu,Bb,Bd,Bc,Bw,Bn,Int.reduceAdd,Int.reduceSub,Int.reduceMul,Int.reduceTDiv,Int.reduceTMod,Int.reduceMod,Int.reduceDiv,Nat.reduceLT,Nat.reduceEqDiff,Sa,Sb,Sc,Sd,Se,Sf,Sg,Int.reduceLE,Int.reduceLT,Int.reduceToNat,Int.reduceNeg,Int.reduceEq,Nat.reduceLeDiff,Nat.reducePow,Int.reducePow,reduceIte,Nat.reduceSub,Nat.reduceAdd,Nat.reduceMul,putAt,ceq,List.replicate, *])); repeat' ((first | (with_reducible refine fun _ : True => ?_) | (with_reducible refine any_h ?_) | ((first | refine AllocQ_i ?_ | refine AllocO_i ?_); intro bk hb0 hbk; try simp only [set_none'] at hbk) | ((first | refine condS_i ?_ ?_ | refine pick_i ?_ ?_ | refine gS_it ?_ ?_ | refine gS_if ?_ ?_ | refine gP_it ?_ ?_ | refine gP_if ?_ ?_) <;> (intro hc; try simp only [Int.reduceLE,Int.reduceLT,Int.reduceEq,Sn] at hc)) | (refine KP_i (by (repeat' (first | exact Heap.Le.refl _ | (refine Le_fresh (by first | exact (by simp only [*]) | exact (by simp [set_none', *])) ?_) | (refine Heap.Le.trans ?_ (Grow.le (by assumption)))))) ?_) | (with_reducible refine And.intro ?_ ?_)) <;> (try simp only [Sq,Sr,Sh,Si,Sl,Bu,Bb,Bd,Bc,Bw,Bn,Int.reduceAdd,Int.reduceSub,Int.reduceMul,Int.reduceTDiv,Int.reduceTMod,Int.reduceMod,Int.reduceDiv,Nat.reduceLT,Nat.reduceEqDiff,Sa,Sb,Sc,Sd,Se,Sf,Sg,Int.reduceLE,Int.reduceLT,Int.reduceToNat,Int.reduceNeg,Int.reduceEq,Nat.reduceLeDiff,Nat.reducePow,Int.reducePow,reduceIte,Nat.reduceSub,Nat.reduceAdd,Nat.reduceMul,putAt,ceq,List.replicate, *]))
  all_goals (refine key _ ?_; unfold sizeI; (repeat' split) <;> omega)
/- image none -/
def M39 : MC :=
  .seq (.reg [⟨(some 1), .box 38 (.tmp 0), none⟩,
 ⟨(some 2), .mv (.const (.bool false)), none⟩])
 (.seq (.reg [⟨(some 3), .fa 0 (.tmp 1), none⟩,
 ⟨(some 4), .ld1 (.tmp 3), none⟩,
 ⟨(some 5), .bin .eql (.tmp 4) (.const (.int .i64 0)), none⟩,
 ⟨(some 6), .mv (.tmp 5), none⟩,
 ⟨(some 7), .fa 1 (.tmp 1), (some (6, true))⟩,
 ⟨(some 8), .ld1 (.tmp 7), (some (6, true))⟩,
 ⟨(some 9), .bin .eql (.tmp 8) (.const (.int .i64 0)), (some (6, true))⟩,
 ⟨(some 10), .pick (.tmp 6) (.tmp 9) (.const (.bool false)), none⟩,
 ⟨(some 11), .mv (.tmp 10), none⟩,
 ⟨(some 12), .fa 2 (.tmp 1), (some (11, true))⟩,
 ⟨(some 13), .ld1 (.tmp 12), (some (11, true))⟩,
 ⟨(some 14), .len (.tmp 13), (some (11, true))⟩,
 ⟨(some 15), .bin .eql (.tmp 14) (.const (.int .i64 0)), (some (11, true))⟩,
 ⟨(some 16), .pick (.tmp 11) (.tmp 15) (.const (.bool false)), none⟩,
 ⟨(some 2), .mv (.tmp 16), none⟩])
 (.ret))
theorem k39 : fnOk Try.prog 39 = some (M39, [.t 2], 17) := by kernel_rfl

theorem c_inone (x : LvR) (h : K (.bool (decide x.nil)) H) : HCalls Try.prog w0 39 [.agg #[.int .i64 x.w, .int .i64 x.h, .slice x.a x.l.length x.cap]] H K := by
  have key : ∀ n : Bool, n = decide x.nil → K (.bool n) H := fun n e => by subst e; exact h
  clear h
  refine HL.hc k39 999 ?_; unfold M39
  (all_goals (try simp only [Sq,Sr,Sh,Si,Sl,Bu,Bb,Bd,Bc,Bw,Bn,Int.reduceAdd,Int.reduceSub,Int.reduceMul,Int.reduceTDiv,Int.reduceTMod,Int.reduceMod,Int.reduceDiv,Nat.reduceLT,Nat.reduceEqDiff,Sa,Sb,Sc,Sd,Se,Sf,Sg,Int.reduceLE,Int.reduceLT,Int.reduceToNat,Int.reduceNeg,Int.reduceEq,Nat.reduceLeDiff,Nat.reducePow,Int.reducePow,reduceIte,Nat.reduceSub,Nat.reduceAdd,Nat.reduceMul,putAt,ceq,List.replicate, *])); repeat' ((first | (with_reducible refine fun _ : True => ?_) | (with_reducible refine any_h ?_) | ((first | refine AllocQ_i ?_ | refine AllocO_i ?_); intro bk hb0 hbk; try simp only [set_none'] at hbk) | ((first | refine condS_i ?_ ?_ | refine pick_i ?_ ?_ | refine gS_it ?_ ?_ | refine gS_if ?_ ?_ | refine gP_it ?_ ?_ | refine gP_if ?_ ?_) <;> (intro hc; try simp only [Int.reduceLE,Int.reduceLT,Int.reduceEq,Sn] at hc)) | (refine KP_i (by (repeat' (first | exact Heap.Le.refl _ | (refine Le_fresh (by first | exact (by simp only [*]) | exact (by simp [set_none', *])) ?_) | (refine Heap.Le.trans ?_ (Grow.le (by assumption)))))) ?_) | (with_reducible refine And.intro ?_ ?_)) <;> (try simp only [Sq,Sr,Sh,Si,Sl,Bu,Bb,Bd,Bc,Bw,Bn,Int.reduceAdd,Int.reduceSub,Int.reduceMul,Int.reduceTDiv,Int.reduceTMod,Int.reduceMod,Int.reduceDiv,Nat.reduceLT,Nat.reduceEqDiff,Sa,Sb,Sc,Sd,Se,Sf,Sg,Int.reduceLE,Int.reduceLT,Int.reduceToNat,Int.reduceNeg,Int.reduceEq,Nat.reduceLeDiff,Nat.reducePow,Int.reducePow,reduceIte,Nat.reduceSub,Nat.reduceAdd,Nat.reduceMul,putAt,ceq,List.replicate, *]))
  all_goals (refine Fin_mk (by (repeat' (first | exact Heap.Le.refl _ | (refine Le_fresh (by first | exact (by simp only [*]) | exact (by simp [set_none', *])) ?_) | (refine Heap.Le.trans ?_ (Grow.le (by assumption)))))) (key _ ?_); unfold LvR.nil; simp [*])
/- paintboxref08 none -/
def M58 : MC :=
  .seq (.reg [⟨(some 1), .box 38 (.tmp 0), none⟩,
 ⟨(some 2), .mv (.const (.bool false)), none⟩])
 (.seq (.reg [⟨(some 3), .fa 0 (.tmp 1), none⟩,
 ⟨(some 4), .ld1 (.tmp 3), none⟩,
 ⟨(some 5), .bin .eql (.tmp 4) (.const (.int .i64 0)), none⟩,
 ⟨(some 6), .mv (.tmp 5), none⟩,
 ⟨(some 7), .fa 1 (.tmp 1), (some (6, true))⟩,
 ⟨(some 8), .ld1 (.tmp 7), (some (6, true))⟩,
 ⟨(some 9), .bin .eql (.tmp 8) (.const (.int .i64 0)), (some (6, true))⟩,
 ⟨(some 10), .pick (.tmp 6) (.tmp 9) (.const (.bool false)), none⟩,
 ⟨(some 11), .mv (.tmp 10), none⟩,
 ⟨(some 12), .fa 2 (.tmp 1), (some (11, true))⟩,
 ⟨(some 13), .ld1 (.tmp 12), (some (11, true))⟩,
 ⟨(some 14), .len (.tmp 13), (some (11, true))⟩,
 ⟨(some 15), .bin .eql (.tmp 14) (.const (.int .i64 0)), (some (11, true))⟩,
 ⟨(some 16), .pick (.tmp 11) (.tmp 15) (.const (.bool false)), none⟩,
 ⟨(some 2), .mv (.tmp 16), none⟩])
 (.ret))
theorem k58 : fnOk Try.prog 58 = some (M58, [.t 2], 17) := by kernel_rfl

theorem r_none (x : LvR) (h : K (.bool (decide x.nil)) H) : HCalls Try.prog w0 58 [.agg #[.int .i64 x.w, .int .i64 x.h, .slice x.a x.l.length x.cap]] H K := by
  have key : ∀ n : Bool, n = decide x.nil → K (.bool n) H := fun n e => by subst e; exact h
  clear h
  refine HL.hc k58 999 ?_; unfold M58
  (all_goals (try simp only [Sq,Sr,Sh,Si,Sl,Bu,Bb,Bd,Bc,Bw,Bn,Int.reduceAdd,Int.reduceSub,Int.reduceMul,Int.reduceTDiv,Int.reduceTMod,Int.reduceMod,Int.reduceDiv,Nat.reduceLT,Nat.reduceEqDiff,Sa,Sb,Sc,Sd,Se,Sf,Sg,Int.reduceLE,Int.reduceLT,Int.reduceToNat,Int.reduceNeg,Int.reduceEq,Nat.reduceLeDiff,Nat.reducePow,Int.reducePow,reduceIte,Nat.reduceSub,Nat.reduceAdd,Nat.reduceMul,putAt,ceq,List.replicate, *])); repeat' ((first | (with_reducible refine fun _ : True => ?_) | (with_reducible refine any_h ?_) | ((first | refine AllocQ_i ?_ | refine AllocO_i ?_); intro bk hb0 hbk; try simp only [set_none'] at hbk) | ((first | refine condS_i ?_ ?_ | refine pick_i ?_ ?_ | refine gS_it ?_ ?_ | refine gS_if ?_ ?_ | refine gP_it ?_ ?_ | refine gP_if ?_ ?_) <;> (intro hc; try simp only [Int.reduceLE,Int.reduceLT,Int.reduceEq,Sn] at hc)) | (refine KP_i (by (repeat' (first | exact Heap.Le.refl _ | (refine Le_fresh (by first | exact (by simp only [*]) | exact (by simp [set_none', *])) ?_) | (refine Heap.Le.trans ?_ (Grow.le (by assumption)))))) ?_) | (with_reducible refine And.intro ?_ ?_)) <;> (try simp only [Sq,Sr,Sh,Si,Sl,Bu,Bb,Bd,Bc,Bw,Bn,Int.reduceAdd,Int.reduceSub,Int.reduceMul,Int.reduceTDiv,Int.reduceTMod,Int.reduceMod,Int.reduceDiv,Nat.reduceLT,Nat.reduceEqDiff,Sa,Sb,Sc,Sd,Se,Sf,Sg,Int.reduceLE,Int.reduceLT,Int.reduceToNat,Int.reduceNeg,Int.reduceEq,Nat.reduceLeDiff,Nat.reducePow,Int.reducePow,reduceIte,Nat.reduceSub,Nat.reduceAdd,Nat.reduceMul,putAt,ceq,List.replicate, *]))
  all_goals (refine Fin_mk (by (repeat' (first | exact Heap.Le.refl _ | (refine Le_fresh (by first | exact (by simp only [*]) | exact (by simp [set_none', *])) ?_) | (refine Heap.Le.trans ?_ (Grow.le (by assumption)))))) (key _ ?_); unfold LvR.nil; simp [*])
/- image side -/
def M50 : MC :=
  .seq (.reg [⟨(some 2), .mv (.const (.bool false)), none⟩])
 (.seq (.reg [⟨(some 3), .mv (.tmp 0), none⟩,
 ⟨(some 4), .bin .gtr (.tmp 3) (.const (.int .i64 0)), none⟩,
 ⟨(some 5), .mv (.tmp 4), none⟩,
 ⟨(some 6), .mv (.tmp 0), (some (5, true))⟩,
 ⟨(some 7), .bin .leq (.tmp 6) (.const (.int .i64 64)), (some (5, true))⟩,
 ⟨(some 8), .pick (.tmp 5) (.tmp 7) (.const (.bool false)), none⟩,
 ⟨(some 2), .mv (.tmp 8), none⟩])
 (.ret))
theorem k50 : fnOk Try.prog 50 = some (M50, [.t 2], 9) := by kernel_rfl

theorem c_side (n : Int) (h : K (.bool (decide (sideP n))) H) : HCalls Try.prog w0 50 [.int .i64 n] H K := by
  refine HL.hc k50 999 ?_; unfold M50
  (all_goals (try simp only [Sq,Sr,Sh,Si,Sl,Bu,Bb,Bd,Bc,Bw,Bn,Int.reduceAdd,Int.reduceSub,Int.reduceMul,Int.reduceTDiv,Int.reduceTMod,Int.reduceMod,Int.reduceDiv,Nat.reduceLT,Nat.reduceEqDiff,Sa,Sb,Sc,Sd,Se,Sf,Sg,Int.reduceLE,Int.reduceLT,Int.reduceToNat,Int.reduceNeg,Int.reduceEq,Nat.reduceLeDiff,Nat.reducePow,Int.reducePow,reduceIte,Nat.reduceSub,Nat.reduceAdd,Nat.reduceMul,putAt,ceq,List.replicate, *])); repeat' ((first | (with_reducible refine fun _ : True => ?_) | (with_reducible refine any_h ?_) | ((first | refine AllocQ_i ?_ | refine AllocO_i ?_); intro bk hb0 hbk; try simp only [set_none'] at hbk) | ((first | refine condS_i ?_ ?_ | refine pick_i ?_ ?_ | refine gS_it ?_ ?_ | refine gS_if ?_ ?_ | refine gP_it ?_ ?_ | refine gP_if ?_ ?_) <;> (intro hc; try simp only [Int.reduceLE,Int.reduceLT,Int.reduceEq,Sn] at hc)) | (refine KP_i (by (repeat' (first | exact Heap.Le.refl _ | (refine Le_fresh (by first | exact (by simp only [*]) | exact (by simp [set_none', *])) ?_) | (refine Heap.Le.trans ?_ (Grow.le (by assumption)))))) ?_) | (with_reducible refine And.intro ?_ ?_)) <;> (try simp only [Sq,Sr,Sh,Si,Sl,Bu,Bb,Bd,Bc,Bw,Bn,Int.reduceAdd,Int.reduceSub,Int.reduceMul,Int.reduceTDiv,Int.reduceTMod,Int.reduceMod,Int.reduceDiv,Nat.reduceLT,Nat.reduceEqDiff,Sa,Sb,Sc,Sd,Se,Sf,Sg,Int.reduceLE,Int.reduceLT,Int.reduceToNat,Int.reduceNeg,Int.reduceEq,Nat.reduceLeDiff,Nat.reducePow,Int.reducePow,reduceIte,Nat.reduceSub,Nat.reduceAdd,Nat.reduceMul,putAt,ceq,List.replicate, *]))
  all_goals (refine Fin_mk (Heap.Le.refl _) (K_dec h ?_); unfold sideP; first | (simp; done) | (simp; omega))
/- paintboxref08 side -/
def M53 : MC :=
  .seq (.reg [⟨(some 2), .mv (.const (.bool false)), none⟩])
 (.seq (.reg [⟨(some 3), .mv (.tmp 0), none⟩,
 ⟨(some 4), .bin .geq (.tmp 3) (.const (.int .i64 1)), none⟩,
 ⟨(some 5), .mv (.tmp 4), none⟩,
 ⟨(some 6), .mv (.tmp 0), (some (5, true))⟩,
 ⟨(some 7), .bin .leq (.tmp 6) (.const (.int .i64 64)), (some (5, true))⟩,
 ⟨(some 8), .pick (.tmp 5) (.tmp 7) (.const (.bool false)), none⟩,
 ⟨(some 2), .mv (.tmp 8), none⟩])
 (.ret))
theorem k53 : fnOk Try.prog 53 = some (M53, [.t 2], 9) := by kernel_rfl

theorem r_side (n : Int) (h : K (.bool (decide (sideP n))) H) : HCalls Try.prog w0 53 [.int .i64 n] H K := by
  refine HL.hc k53 999 ?_; unfold M53
  (all_goals (try simp only [Sq,Sr,Sh,Si,Sl,Bu,Bb,Bd,Bc,Bw,Bn,Int.reduceAdd,Int.reduceSub,Int.reduceMul,Int.reduceTDiv,Int.reduceTMod,Int.reduceMod,Int.reduceDiv,Nat.reduceLT,Nat.reduceEqDiff,Sa,Sb,Sc,Sd,Se,Sf,Sg,Int.reduceLE,Int.reduceLT,Int.reduceToNat,Int.reduceNeg,Int.reduceEq,Nat.reduceLeDiff,Nat.reducePow,Int.reducePow,reduceIte,Nat.reduceSub,Nat.reduceAdd,Nat.reduceMul,putAt,ceq,List.replicate, *])); repeat' ((first | (with_reducible refine fun _ : True => ?_) | (with_reducible refine any_h ?_) | ((first | refine AllocQ_i ?_ | refine AllocO_i ?_); intro bk hb0 hbk; try simp only [set_none'] at hbk) | ((first | refine condS_i ?_ ?_ | refine pick_i ?_ ?_ | refine gS_it ?_ ?_ | refine gS_if ?_ ?_ | refine gP_it ?_ ?_ | refine gP_if ?_ ?_) <;> (intro hc; try simp only [Int.reduceLE,Int.reduceLT,Int.reduceEq,Sn] at hc)) | (refine KP_i (by (repeat' (first | exact Heap.Le.refl _ | (refine Le_fresh (by first | exact (by simp only [*]) | exact (by simp [set_none', *])) ?_) | (refine Heap.Le.trans ?_ (Grow.le (by assumption)))))) ?_) | (with_reducible refine And.intro ?_ ?_)) <;> (try simp only [Sq,Sr,Sh,Si,Sl,Bu,Bb,Bd,Bc,Bw,Bn,Int.reduceAdd,Int.reduceSub,Int.reduceMul,Int.reduceTDiv,Int.reduceTMod,Int.reduceMod,Int.reduceDiv,Nat.reduceLT,Nat.reduceEqDiff,Sa,Sb,Sc,Sd,Se,Sf,Sg,Int.reduceLE,Int.reduceLT,Int.reduceToNat,Int.reduceNeg,Int.reduceEq,Nat.reduceLeDiff,Nat.reducePow,Int.reducePow,reduceIte,Nat.reduceSub,Nat.reduceAdd,Nat.reduceMul,putAt,ceq,List.replicate, *]))
  all_goals (refine Fin_mk (Heap.Le.refl _) (K_dec h ?_); unfold sideP; first | (simp; done) | (simp; omega))
def valP (i n : Int) : Prop := 1 ≤ n ∧ n ≤ (if i = 1 ∨ i = 2 then 3 else if i = 3 then 4 else if i = 4 then 2 else 0)
instance (i n : Int) : Decidable (valP i n) := by unfold valP; infer_instance
/- image legal -/
def M52 : MC :=
  .seq (.reg [⟨(some 4), .mv (.const (.bool false)), none⟩])
 (.seq (.reg [⟨(some 5), .mv (.const (.int .i64 0)), none⟩])
 (.seq (.seq (.reg [⟨(some 6), .mv (.tmp 0), none⟩])
 (.block 0 (.seq (.seq (.reg [⟨(some 8), .bin .eql (.tmp 6) (.const (.int .i64 1)), none⟩,
 ⟨(some 7), .mv (.tmp 8), none⟩])
 (.cond (.tmp 7)
 (.skip)
 (.reg [⟨(some 9), .bin .eql (.tmp 6) (.const (.int .i64 2)), none⟩,
 ⟨(some 7), .mv (.tmp 9), none⟩])))
 (.cond (.tmp 7)
 (.reg [⟨(some 5), .mv (.const (.int .i64 3)), none⟩])
 (.seq (.reg [⟨(some 11), .bin .eql (.tmp 6) (.const (.int .i64 3)), none⟩,
 ⟨(some 10), .mv (.tmp 11), none⟩])
 (.cond (.tmp 10)
 (.reg [⟨(some 5), .mv (.const (.int .i64 4)), none⟩])
 (.seq (.reg [⟨(some 13), .bin .eql (.tmp 6) (.const (.int .i64 4)), none⟩,
 ⟨(some 12), .mv (.tmp 13), none⟩])
 (.cond (.tmp 12)
 (.reg [⟨(some 5), .mv (.const (.int .i64 2)), none⟩])
 (.skip)))))))))
 (.seq (.reg [⟨(some 14), .mv (.tmp 1), none⟩,
 ⟨(some 15), .bin .geq (.tmp 14) (.const (.int .i64 1)), none⟩,
 ⟨(some 16), .mv (.tmp 15), none⟩,
 ⟨(some 17), .mv (.tmp 1), (some (16, true))⟩,
 ⟨(some 18), .mv (.tmp 5), (some (16, true))⟩,
 ⟨(some 19), .bin .leq (.tmp 17) (.tmp 18), (some (16, true))⟩,
 ⟨(some 20), .pick (.tmp 16) (.tmp 19) (.const (.bool false)), none⟩,
 ⟨(some 4), .mv (.tmp 20), none⟩])
 (.ret))))
theorem k52 : fnOk Try.prog 52 = some (M52, [.t 4], 21) := by kernel_rfl

theorem c_legal (i n : Int) (h : K (.bool (decide (valP i n))) H) : HCalls Try.prog w0 52 [.int .i64 i, .int .i64 n] H K := by
  refine HL.hc k52 999 ?_; unfold M52
  (all_goals (try simp only [Sq,Sr,Sh,Si,Sl,Bu,Bb,Bd,Bc,Bw,Bn,Int.reduceAdd,Int.reduceSub,Int.reduceMul,Int.reduceTDiv,Int.reduceTMod,Int.reduceMod,Int.reduceDiv,Nat.reduceLT,Nat.reduceEqDiff,Sa,Sb,Sc,Sd,Se,Sf,Sg,Int.reduceLE,Int.reduceLT,Int.reduceToNat,Int.reduceNeg,Int.reduceEq,Nat.reduceLeDiff,Nat.reducePow,Int.reducePow,reduceIte,Nat.reduceSub,Nat.reduceAdd,Nat.reduceMul,putAt,ceq,List.replicate, *])); repeat' ((first | (with_reducible refine fun _ : True => ?_) | (with_reducible refine any_h ?_) | ((first | refine AllocQ_i ?_ | refine AllocO_i ?_); intro bk hb0 hbk; try simp only [set_none'] at hbk) | ((first | refine condS_i ?_ ?_ | refine pick_i ?_ ?_ | refine gS_it ?_ ?_ | refine gS_if ?_ ?_ | refine gP_it ?_ ?_ | refine gP_if ?_ ?_) <;> (intro hc; try simp only [Int.reduceLE,Int.reduceLT,Int.reduceEq,Sn] at hc)) | (refine KP_i (by (repeat' (first | exact Heap.Le.refl _ | (refine Le_fresh (by first | exact (by simp only [*]) | exact (by simp [set_none', *])) ?_) | (refine Heap.Le.trans ?_ (Grow.le (by assumption)))))) ?_) | (with_reducible refine And.intro ?_ ?_)) <;> (try simp only [Sq,Sr,Sh,Si,Sl,Bu,Bb,Bd,Bc,Bw,Bn,Int.reduceAdd,Int.reduceSub,Int.reduceMul,Int.reduceTDiv,Int.reduceTMod,Int.reduceMod,Int.reduceDiv,Nat.reduceLT,Nat.reduceEqDiff,Sa,Sb,Sc,Sd,Se,Sf,Sg,Int.reduceLE,Int.reduceLT,Int.reduceToNat,Int.reduceNeg,Int.reduceEq,Nat.reduceLeDiff,Nat.reducePow,Int.reducePow,reduceIte,Nat.reduceSub,Nat.reduceAdd,Nat.reduceMul,putAt,ceq,List.replicate, *]))
  all_goals (refine Fin_mk (Heap.Le.refl _) (K_dec h ?_); unfold valP; (repeat' split) <;> first | (simp; done) | (simp; omega) | omega)
/- paintboxref08 values -/
def M57 : MC :=
  .seq (.reg [⟨(some 4), .mv (.const (.bool false)), none⟩])
 (.seq (.seq (.reg [⟨(some 5), .mv (.tmp 0), none⟩])
 (.block 0 (.seq (.seq (.reg [⟨(some 7), .bin .eql (.tmp 5) (.const (.int .i64 1)), none⟩,
 ⟨(some 6), .mv (.tmp 7), none⟩])
 (.cond (.tmp 6)
 (.skip)
 (.reg [⟨(some 8), .bin .eql (.tmp 5) (.const (.int .i64 2)), none⟩,
 ⟨(some 6), .mv (.tmp 8), none⟩])))
 (.cond (.tmp 6)
 (.seq (.reg [⟨(some 9), .mv (.tmp 1), none⟩,
 ⟨(some 10), .bin .geq (.tmp 9) (.const (.int .i64 1)), none⟩,
 ⟨(some 11), .mv (.tmp 10), none⟩,
 ⟨(some 12), .mv (.tmp 1), (some (11, true))⟩,
 ⟨(some 13), .bin .leq (.tmp 12) (.const (.int .i64 3)), (some (11, true))⟩,
 ⟨(some 14), .pick (.tmp 11) (.tmp 13) (.const (.bool false)), none⟩,
 ⟨(some 4), .mv (.tmp 14), none⟩])
 (.ret))
 (.seq (.reg [⟨(some 16), .bin .eql (.tmp 5) (.const (.int .i64 3)), none⟩,
 ⟨(some 15), .mv (.tmp 16), none⟩])
 (.cond (.tmp 15)
 (.seq (.reg [⟨(some 17), .mv (.tmp 1), none⟩,
 ⟨(some 18), .bin .geq (.tmp 17) (.const (.int .i64 1)), none⟩,
 ⟨(some 19), .mv (.tmp 18), none⟩,
 ⟨(some 20), .mv (.tmp 1), (some (19, true))⟩,
 ⟨(some 21), .bin .leq (.tmp 20) (.const (.int .i64 4)), (some (19, true))⟩,
 ⟨(some 22), .pick (.tmp 19) (.tmp 21) (.const (.bool false)), none⟩,
 ⟨(some 4), .mv (.tmp 22), none⟩])
 (.ret))
 (.seq (.reg [⟨(some 24), .bin .eql (.tmp 5) (.const (.int .i64 4)), none⟩,
 ⟨(some 23), .mv (.tmp 24), none⟩])
 (.cond (.tmp 23)
 (.seq (.reg [⟨(some 25), .mv (.tmp 1), none⟩,
 ⟨(some 26), .bin .eql (.tmp 25) (.const (.int .i64 1)), none⟩,
 ⟨(some 27), .mv (.tmp 26), none⟩,
 ⟨(some 28), .mv (.tmp 1), (some (27, false))⟩,
 ⟨(some 29), .bin .eql (.tmp 28) (.const (.int .i64 2)), (some (27, false))⟩,
 ⟨(some 30), .pick (.tmp 27) (.const (.bool true)) (.tmp 29), none⟩,
 ⟨(some 4), .mv (.tmp 30), none⟩])
 (.ret))
 (.skip)))))))))
 (.seq (.reg [⟨(some 4), .mv (.const (.bool false)), none⟩])
 (.ret)))
theorem k57 : fnOk Try.prog 57 = some (M57, [.t 4], 31) := by kernel_rfl

theorem r_values (i n : Int) (h : K (.bool (decide (valP i n))) H) : HCalls Try.prog w0 57 [.int .i64 i, .int .i64 n] H K := by
  refine HL.hc k57 999 ?_; unfold M57
  (all_goals (try simp only [Sq,Sr,Sh,Si,Sl,Bu,Bb,Bd,Bc,Bw,Bn,Int.reduceAdd,Int.reduceSub,Int.reduceMul,Int.reduceTDiv,Int.reduceTMod,Int.reduceMod,Int.reduceDiv,Nat.reduceLT,Nat.reduceEqDiff,Sa,Sb,Sc,Sd,Se,Sf,Sg,Int.reduceLE,Int.reduceLT,Int.reduceToNat,Int.reduceNeg,Int.reduceEq,Nat.reduceLeDiff,Nat.reducePow,Int.reducePow,reduceIte,Nat.reduceSub,Nat.reduceAdd,Nat.reduceMul,putAt,ceq,List.replicate, *])); repeat' ((first | (with_reducible refine fun _ : True => ?_) | (with_reducible refine any_h ?_) | ((first | refine AllocQ_i ?_ | refine AllocO_i ?_); intro bk hb0 hbk; try simp only [set_none'] at hbk) | ((first | refine condS_i ?_ ?_ | refine pick_i ?_ ?_ | refine gS_it ?_ ?_ | refine gS_if ?_ ?_ | refine gP_it ?_ ?_ | refine gP_if ?_ ?_) <;> (intro hc; try simp only [Int.reduceLE,Int.reduceLT,Int.reduceEq,Sn] at hc)) | (refine KP_i (by (repeat' (first | exact Heap.Le.refl _ | (refine Le_fresh (by first | exact (by simp only [*]) | exact (by simp [set_none', *])) ?_) | (refine Heap.Le.trans ?_ (Grow.le (by assumption)))))) ?_) | (with_reducible refine And.intro ?_ ?_)) <;> (try simp only [Sq,Sr,Sh,Si,Sl,Bu,Bb,Bd,Bc,Bw,Bn,Int.reduceAdd,Int.reduceSub,Int.reduceMul,Int.reduceTDiv,Int.reduceTMod,Int.reduceMod,Int.reduceDiv,Nat.reduceLT,Nat.reduceEqDiff,Sa,Sb,Sc,Sd,Se,Sf,Sg,Int.reduceLE,Int.reduceLT,Int.reduceToNat,Int.reduceNeg,Int.reduceEq,Nat.reduceLeDiff,Nat.reducePow,Int.reducePow,reduceIte,Nat.reduceSub,Nat.reduceAdd,Nat.reduceMul,putAt,ceq,List.replicate, *]))
  all_goals (refine Fin_mk (Heap.Le.refl _) (K_dec h ?_); unfold valP; (repeat' split) <;> first | (simp; done) | (simp; omega) | omega)
theorem nil_row (x : LvR) : ∃ v : Value, v = .agg #[.int .i64 x.w, .int .i64 x.h, .slice x.a x.l.length x.cap] := ⟨_, rfl⟩
/- image Check 1 -/
def M49 : MC :=
  .seq (.reg [⟨(some 2), .box 38 (.tmp 0), none⟩,
 ⟨(some 3), .mv (.const (.bool false)), none⟩])
 (.seq (.reg [⟨(some 4), .ldn 3 (.tmp 2), none⟩,
 ⟨(some 5), .call 39 [(.tmp 4)], none⟩,
 ⟨(some 6), .un .not (.tmp 5), none⟩,
 ⟨(some 7), .mv (.tmp 6), none⟩,
 ⟨(some 8), .fa 0 (.tmp 2), (some (7, true))⟩,
 ⟨(some 9), .ld1 (.tmp 8), (some (7, true))⟩,
 ⟨(some 10), .call 50 [(.tmp 9)], (some (7, true))⟩,
 ⟨(some 11), .un .not (.tmp 10), (some (7, true))⟩,
 ⟨(some 12), .mv (.tmp 11), (some (7, true))⟩,
 ⟨(some 13), .fa 1 (.tmp 2), (some (12, false))⟩,
 ⟨(some 14), .ld1 (.tmp 13), (some (12, false))⟩,
 ⟨(some 15), .call 50 [(.tmp 14)], (some (12, false))⟩,
 ⟨(some 16), .un .not (.tmp 15), (some (12, false))⟩,
 ⟨(some 17), .pick (.tmp 12) (.const (.bool true)) (.tmp 16), (some (7, true))⟩,
 ⟨(some 18), .mv (.tmp 17), (some (7, true))⟩,
 ⟨(some 19), .fa 2 (.tmp 2), (some (18, false))⟩,
 ⟨(some 20), .ld1 (.tmp 19), (some (18, false))⟩,
 ⟨(some 21), .len (.tmp 20), (some (18, false))⟩,
 ⟨(some 22), .fa 0 (.tmp 2), (some (18, false))⟩,
 ⟨(some 23), .ld1 (.tmp 22), (some (18, false))⟩,
 ⟨(some 24), .fa 1 (.tmp 2), (some (18, false))⟩,
 ⟨(some 25), .ld1 (.tmp 24), (some (18, false))⟩,
 ⟨(some 26), .bin .mul (.tmp 23) (.tmp 25), (some (18, false))⟩,
 ⟨(some 27), .ld1 (.tmp 1), (some (18, false))⟩,
 ⟨(some 28), .bin .mul (.tmp 26) (.tmp 27), (some (18, false))⟩,
 ⟨(some 29), .bin .neq (.tmp 21) (.tmp 28), (some (18, false))⟩,
 ⟨(some 30), .pick (.tmp 18) (.const (.bool true)) (.tmp 29), (some (7, true))⟩,
 ⟨(some 31), .pick (.tmp 7) (.tmp 30) (.const (.bool false)), none⟩,
 ⟨(some 3), .mv (.tmp 31), none⟩])
 (.ret))
theorem k49 : fnOk Try.prog 49 = some (M49, [.t 3], 32) := by kernel_rfl

theorem c_wrong (p : Nat) (x : LvR) (f : Int) {ty : TypeId} (hp : H p = some ⟨ty, [.int .i64 (sizeI f)]⟩) (hx : LvOk w0 H x) (h : K (.bool (decide (¬ x.good f))) H) :
    HCalls Try.prog w0 49 [.agg #[.int .i64 x.w, .int .i64 x.h, .slice x.a x.l.length x.cap], .pointer (some ⟨p, 0, none⟩)] H K := by
  have key : ∀ n : Bool, (n = true ↔ ¬ x.good f) → K (.bool n) H := fun n e => K_dec h e
  clear h
  have hs := sizeI_le f
  have rp : rd1 w0 H p 0 = some (.int .i64 (sizeI f)) := by unfold rd1; rw [hp]; rfl
  have fp : ∀ c, w0.heap.size ≤ c → H c = none → c ≠ p := fun c h1 h2 => rd1_fresh rp h1 h2
  generalize hsz : sizeI f = S at *
  cases hn : decide x.nil
  · by_cases h1 : sideP x.w
    · by_cases h2 : sideP x.h
      · have d1 : decide (sideP x.w) = true := by simp [h1]
        have d2 : decide (sideP x.h) = true := by simp [h2]
        have hwh : 0 ≤ x.w * x.h ∧ x.w * x.h ≤ 4096 := by unfold sideP at h1 h2; exact ⟨Int.mul_nonneg (by omega) (by omega), by have := Int.mul_le_mul h1.2 h2.2 (by omega) (by omega); omega⟩
        have e1 : IntKind.i64.wrap (x.w * x.h) = x.w * x.h := Bw.1 _ (by omega) (by omega)
        have hws : 0 ≤ x.w * x.h * S ∧ x.w * x.h * S ≤ 16384 := ⟨Int.mul_nonneg hwh.1 hs.1, by have := Int.mul_le_mul hwh.2 hs.2 hs.1 (by omega); omega⟩
        have e2 : IntKind.i64.wrap (x.w * x.h * S) = x.w * x.h * S := Bw.1 _ (by omega) (by omega)
        have fin : x.good f ↔ (x.l.length : Int) = x.w * x.h * S := by
          unfold LvR.good
          rw [hsz]
          simp only [decide_eq_false_iff_not] at hn
          simp [hn, h1, h2]
        refine HL.hc k49 999 ?_; unfold M49
        (all_goals (try simp only [Sq,Sr,Sh,Si,Sl,Bu,Bb,Bd,Bc,Bw,Bn,Int.reduceAdd,Int.reduceSub,Int.reduceMul,Int.reduceTDiv,Int.reduceTMod,Int.reduceMod,Int.reduceDiv,Nat.reduceLT,Nat.reduceEqDiff,Sa,Sb,Sc,Sd,Se,Sf,Sg,Int.reduceLE,Int.reduceLT,Int.reduceToNat,Int.reduceNeg,Int.reduceEq,Nat.reduceLeDiff,Nat.reducePow,Int.reducePow,reduceIte,Nat.reduceSub,Nat.reduceAdd,Nat.reduceMul,putAt,ceq,List.replicate, *])); repeat' ((first | (with_reducible refine fun _ : True => ?_) | refine c_inone x ?_ | refine c_side _ ?_ | (with_reducible refine any_h ?_) | ((first | refine AllocQ_i ?_ | refine AllocO_i ?_); intro bk hb0 hbk; try simp only [set_none'] at hbk) | ((first | refine condS_i ?_ ?_ | refine pick_i ?_ ?_ | refine gS_it ?_ ?_ | refine gS_if ?_ ?_ | refine gP_it ?_ ?_ | refine gP_if ?_ ?_) <;> (intro hc; try simp only [Int.reduceLE,Int.reduceLT,Int.reduceEq,Sn] at hc)) | (refine KP_i (by (repeat' (first | exact Heap.Le.refl _ | (refine Le_fresh (by first | exact (by simp only [*]) | exact (by simp [set_none', *])) ?_) | (refine Heap.Le.trans ?_ (Grow.le (by assumption)))))) ?_) | (with_reducible refine And.intro ?_ ?_)) <;> (try simp only [Sq,Sr,Sh,Si,Sl,Bu,Bb,Bd,Bc,Bw,Bn,Int.reduceAdd,Int.reduceSub,Int.reduceMul,Int.reduceTDiv,Int.reduceTMod,Int.reduceMod,Int.reduceDiv,Nat.reduceLT,Nat.reduceEqDiff,Sa,Sb,Sc,Sd,Se,Sf,Sg,Int.reduceLE,Int.reduceLT,Int.reduceToNat,Int.reduceNeg,Int.reduceEq,Nat.reduceLeDiff,Nat.reducePow,Int.reducePow,reduceIte,Nat.reduceSub,Nat.reduceAdd,Nat.reduceMul,putAt,ceq,List.replicate, *]))
        all_goals (refine Fin_mk (by (repeat' (first | exact Heap.Le.refl _ | (refine Le_fresh (by first | exact (by simp only [*]) | exact (by simp [set_none', *])) ?_) | (refine Heap.Le.trans ?_ (Grow.le (by assumption)))))) (key _ ?_); rw [fin]; simp)
      · have d1 : decide (sideP x.w) = true := by simp [h1]
        have d2 : decide (sideP x.h) = false := by simp [h2]
        have fin : ¬ x.good f := by
          unfold LvR.good
          simp only [decide_eq_false_iff_not] at hn
          simp [hn, h1, h2]
        refine HL.hc k49 999 ?_; unfold M49
        (all_goals (try simp only [Sq,Sr,Sh,Si,Sl,Bu,Bb,Bd,Bc,Bw,Bn,Int.reduceAdd,Int.reduceSub,Int.reduceMul,Int.reduceTDiv,Int.reduceTMod,Int.reduceMod,Int.reduceDiv,Nat.reduceLT,Nat.reduceEqDiff,Sa,Sb,Sc,Sd,Se,Sf,Sg,Int.reduceLE,Int.reduceLT,Int.reduceToNat,Int.reduceNeg,Int.reduceEq,Nat.reduceLeDiff,Nat.reducePow,Int.reducePow,reduceIte,Nat.reduceSub,Nat.reduceAdd,Nat.reduceMul,putAt,ceq,List.replicate, *])); repeat' ((first | (with_reducible refine fun _ : True => ?_) | refine c_inone x ?_ | refine c_side _ ?_ | (with_reducible refine any_h ?_) | ((first | refine AllocQ_i ?_ | refine AllocO_i ?_); intro bk hb0 hbk; try simp only [set_none'] at hbk) | ((first | refine condS_i ?_ ?_ | refine pick_i ?_ ?_ | refine gS_it ?_ ?_ | refine gS_if ?_ ?_ | refine gP_it ?_ ?_ | refine gP_if ?_ ?_) <;> (intro hc; try simp only [Int.reduceLE,Int.reduceLT,Int.reduceEq,Sn] at hc)) | (refine KP_i (by (repeat' (first | exact Heap.Le.refl _ | (refine Le_fresh (by first | exact (by simp only [*]) | exact (by simp [set_none', *])) ?_) | (refine Heap.Le.trans ?_ (Grow.le (by assumption)))))) ?_) | (with_reducible refine And.intro ?_ ?_)) <;> (try simp only [Sq,Sr,Sh,Si,Sl,Bu,Bb,Bd,Bc,Bw,Bn,Int.reduceAdd,Int.reduceSub,Int.reduceMul,Int.reduceTDiv,Int.reduceTMod,Int.reduceMod,Int.reduceDiv,Nat.reduceLT,Nat.reduceEqDiff,Sa,Sb,Sc,Sd,Se,Sf,Sg,Int.reduceLE,Int.reduceLT,Int.reduceToNat,Int.reduceNeg,Int.reduceEq,Nat.reduceLeDiff,Nat.reducePow,Int.reducePow,reduceIte,Nat.reduceSub,Nat.reduceAdd,Nat.reduceMul,putAt,ceq,List.replicate, *]))
        all_goals (refine Fin_mk (by (repeat' (first | exact Heap.Le.refl _ | (refine Le_fresh (by first | exact (by simp only [*]) | exact (by simp [set_none', *])) ?_) | (refine Heap.Le.trans ?_ (Grow.le (by assumption)))))) (key _ ?_); simp [fin])
    · have d1 : decide (sideP x.w) = false := by simp [h1]
      have fin : ¬ x.good f := by
        unfold LvR.good
        simp only [decide_eq_false_iff_not] at hn
        simp [hn, h1]
      refine HL.hc k49 999 ?_; unfold M49
      (all_goals (try simp only [Sq,Sr,Sh,Si,Sl,Bu,Bb,Bd,Bc,Bw,Bn,Int.reduceAdd,Int.reduceSub,Int.reduceMul,Int.reduceTDiv,Int.reduceTMod,Int.reduceMod,Int.reduceDiv,Nat.reduceLT,Nat.reduceEqDiff,Sa,Sb,Sc,Sd,Se,Sf,Sg,Int.reduceLE,Int.reduceLT,Int.reduceToNat,Int.reduceNeg,Int.reduceEq,Nat.reduceLeDiff,Nat.reducePow,Int.reducePow,reduceIte,Nat.reduceSub,Nat.reduceAdd,Nat.reduceMul,putAt,ceq,List.replicate, *])); repeat' ((first | (with_reducible refine fun _ : True => ?_) | refine c_inone x ?_ | refine c_side _ ?_ | (with_reducible refine any_h ?_) | ((first | refine AllocQ_i ?_ | refine AllocO_i ?_); intro bk hb0 hbk; try simp only [set_none'] at hbk) | ((first | refine condS_i ?_ ?_ | refine pick_i ?_ ?_ | refine gS_it ?_ ?_ | refine gS_if ?_ ?_ | refine gP_it ?_ ?_ | refine gP_if ?_ ?_) <;> (intro hc; try simp only [Int.reduceLE,Int.reduceLT,Int.reduceEq,Sn] at hc)) | (refine KP_i (by (repeat' (first | exact Heap.Le.refl _ | (refine Le_fresh (by first | exact (by simp only [*]) | exact (by simp [set_none', *])) ?_) | (refine Heap.Le.trans ?_ (Grow.le (by assumption)))))) ?_) | (with_reducible refine And.intro ?_ ?_)) <;> (try simp only [Sq,Sr,Sh,Si,Sl,Bu,Bb,Bd,Bc,Bw,Bn,Int.reduceAdd,Int.reduceSub,Int.reduceMul,Int.reduceTDiv,Int.reduceTMod,Int.reduceMod,Int.reduceDiv,Nat.reduceLT,Nat.reduceEqDiff,Sa,Sb,Sc,Sd,Se,Sf,Sg,Int.reduceLE,Int.reduceLT,Int.reduceToNat,Int.reduceNeg,Int.reduceEq,Nat.reduceLeDiff,Nat.reducePow,Int.reducePow,reduceIte,Nat.reduceSub,Nat.reduceAdd,Nat.reduceMul,putAt,ceq,List.replicate, *]))
      all_goals (refine Fin_mk (by (repeat' (first | exact Heap.Le.refl _ | (refine Le_fresh (by first | exact (by simp only [*]) | exact (by simp [set_none', *])) ?_) | (refine Heap.Le.trans ?_ (Grow.le (by assumption)))))) (key _ ?_); simp [fin])
  · have fin : x.good f := by
      unfold LvR.good
      exact .inl (by simpa using hn)
    refine HL.hc k49 999 ?_; unfold M49
    (all_goals (try simp only [Sq,Sr,Sh,Si,Sl,Bu,Bb,Bd,Bc,Bw,Bn,Int.reduceAdd,Int.reduceSub,Int.reduceMul,Int.reduceTDiv,Int.reduceTMod,Int.reduceMod,Int.reduceDiv,Nat.reduceLT,Nat.reduceEqDiff,Sa,Sb,Sc,Sd,Se,Sf,Sg,Int.reduceLE,Int.reduceLT,Int.reduceToNat,Int.reduceNeg,Int.reduceEq,Nat.reduceLeDiff,Nat.reducePow,Int.reducePow,reduceIte,Nat.reduceSub,Nat.reduceAdd,Nat.reduceMul,putAt,ceq,List.replicate, *])); repeat' ((first | (with_reducible refine fun _ : True => ?_) | refine c_inone x ?_ | refine c_side _ ?_ | (with_reducible refine any_h ?_) | ((first | refine AllocQ_i ?_ | refine AllocO_i ?_); intro bk hb0 hbk; try simp only [set_none'] at hbk) | ((first | refine condS_i ?_ ?_ | refine pick_i ?_ ?_ | refine gS_it ?_ ?_ | refine gS_if ?_ ?_ | refine gP_it ?_ ?_ | refine gP_if ?_ ?_) <;> (intro hc; try simp only [Int.reduceLE,Int.reduceLT,Int.reduceEq,Sn] at hc)) | (refine KP_i (by (repeat' (first | exact Heap.Le.refl _ | (refine Le_fresh (by first | exact (by simp only [*]) | exact (by simp [set_none', *])) ?_) | (refine Heap.Le.trans ?_ (Grow.le (by assumption)))))) ?_) | (with_reducible refine And.intro ?_ ?_)) <;> (try simp only [Sq,Sr,Sh,Si,Sl,Bu,Bb,Bd,Bc,Bw,Bn,Int.reduceAdd,Int.reduceSub,Int.reduceMul,Int.reduceTDiv,Int.reduceTMod,Int.reduceMod,Int.reduceDiv,Nat.reduceLT,Nat.reduceEqDiff,Sa,Sb,Sc,Sd,Se,Sf,Sg,Int.reduceLE,Int.reduceLT,Int.reduceToNat,Int.reduceNeg,Int.reduceEq,Nat.reduceLeDiff,Nat.reducePow,Int.reducePow,reduceIte,Nat.reduceSub,Nat.reduceAdd,Nat.reduceMul,putAt,ceq,List.replicate, *]))
    all_goals (refine Fin_mk (by (repeat' (first | exact Heap.Le.refl _ | (refine Le_fresh (by first | exact (by simp only [*]) | exact (by simp [set_none', *])) ?_) | (refine Heap.Le.trans ?_ (Grow.le (by assumption)))))) (key _ ?_); simp [fin])
/-- The first of a list's levels that is not good. -/
/- slices IndexFunc[[]paintbox/api Level,paintbox/api Level] -/
def M70 : MC :=
  .seq (.reg [⟨(some 4), .mv (.const (.int .i64 0)), none⟩])
 (.seq (.seq (.reg [⟨(some 6), .mv (.tmp 0), none⟩,
 ⟨(some 7), .len (.tmp 6), none⟩,
 ⟨(some 8), .mv (.const (.int .i64 0)), none⟩])
 (.block 0 (.loop (.seq (.reg [⟨(some 9), .bin .lss (.tmp 8) (.tmp 7), none⟩])
 (.seq (.cond (.tmp 9)
 (.skip)
 (.exit 0))
 (.seq (.block 1 (.seq (.reg [⟨(some 10), .mv (.tmp 8), none⟩,
 ⟨(some 5), .mv (.tmp 10), none⟩])
 (.seq (.reg [⟨(some 11), .mv (.tmp 1), none⟩,
 ⟨(some 12), .mv (.tmp 0), none⟩,
 ⟨(some 13), .mv (.tmp 5), none⟩,
 ⟨(some 14), .is 3 (.tmp 12) (.tmp 13), none⟩,
 ⟨(some 15), .ldn 3 (.tmp 14), none⟩,
 ⟨(some 16), .yv (.tmp 11) [(.tmp 15)], none⟩])
 (.cond (.tmp 16)
 (.seq (.reg [⟨(some 17), .mv (.tmp 5), none⟩,
 ⟨(some 4), .mv (.tmp 17), none⟩])
 (.ret))
 (.skip)))))
 (.reg [⟨(some 18), .bin .add (.tmp 8) (.const (.int .i64 1)), none⟩,
 ⟨(some 8), .mv (.tmp 18), none⟩])))))))
 (.seq (.reg [⟨(some 4), .mv (.const (.int .i64 (-1))), none⟩])
 (.ret)))
theorem k70 : fnOk Try.prog 70 = some (M70, [.t 4], 19) := by kernel_rfl

theorem c_IndexW (p : Nat) (f : Int) (a : Option Addr) (cap : Nat) (ls : List LvR) {ty : TypeId} (hp : H p = some ⟨ty, [.int .i64 (sizeI f)]⟩) (hA : SlAt w0 H a (ls.map LvR.row).flatten) (hx : ∀ y ∈ ls, LvOk w0 H y) (hl : ls.length ≤ 7)
    (hy : (∀ y ∈ ls, y.good f) → K (.int .i64 (-1)) H) (hn : (¬ ∀ y ∈ ls, y.good f) → ∀ k : Nat, K (.int .i64 k) H) :
    HCalls Try.prog w0 70 [.slice a ls.length cap, .func (.func 49) #[] #[.pointer (some ⟨p, 0, none⟩)]] H K := by
  refine HL.hc k70 999 ?_; unfold M70
  (all_goals (try simp only [Sq,Sr,Sh,Si,Sl,Bu,Bb,Bd,Bc,Bw,Bn,Int.reduceAdd,Int.reduceSub,Int.reduceMul,Int.reduceTDiv,Int.reduceTMod,Int.reduceMod,Int.reduceDiv,Nat.reduceLT,Nat.reduceEqDiff,Sa,Sb,Sc,Sd,Se,Sf,Sg,Int.reduceLE,Int.reduceLT,Int.reduceToNat,Int.reduceNeg,Int.reduceEq,Nat.reduceLeDiff,Nat.reducePow,Int.reducePow,reduceIte,Nat.reduceSub,Nat.reduceAdd,Nat.reduceMul,putAt,ceq,List.replicate, *])); repeat' ((first | (with_reducible refine fun _ : True => ?_) | (with_reducible refine any_h ?_) | ((first | refine AllocQ_i ?_ | refine AllocO_i ?_); intro bk hb0 hbk; try simp only [set_none'] at hbk) | ((first | refine condS_i ?_ ?_ | refine pick_i ?_ ?_ | refine gS_it ?_ ?_ | refine gS_if ?_ ?_ | refine gP_it ?_ ?_ | refine gP_if ?_ ?_) <;> (intro hc; try simp only [Int.reduceLE,Int.reduceLT,Int.reduceEq,Sn] at hc)) | (refine KP_i (by (repeat' (first | exact Heap.Le.refl _ | (refine Le_fresh (by first | exact (by simp only [*]) | exact (by simp [set_none', *])) ?_) | (refine Heap.Le.trans ?_ (Grow.le (by assumption)))))) ?_) | (with_reducible refine And.intro ?_ ?_)) <;> (try simp only [Sq,Sr,Sh,Si,Sl,Bu,Bb,Bd,Bc,Bw,Bn,Int.reduceAdd,Int.reduceSub,Int.reduceMul,Int.reduceTDiv,Int.reduceTMod,Int.reduceMod,Int.reduceDiv,Nat.reduceLT,Nat.reduceEqDiff,Sa,Sb,Sc,Sd,Se,Sf,Sg,Int.reduceLE,Int.reduceLT,Int.reduceToNat,Int.reduceNeg,Int.reduceEq,Nat.reduceLeDiff,Nat.reducePow,Int.reducePow,reduceIte,Nat.reduceSub,Nat.reduceAdd,Nat.reduceMul,putAt,ceq,List.replicate, *]))
  refine loop_g 9 (fun s : Nat × Value => [(5, s.2), (8, .int .i64 (s.1 : Nat))]) (fun _ => H) (fun s => s.1 ≤ ls.length ∧ ∀ y ∈ ls.take s.1, y.good f) (fun s => ls.length - s.1) (0, undef) ⟨Nat.zero_le _, by simp⟩ (Heap.Le.refl _) rfl ?_
  intro ⟨k, u⟩ g ⟨hk, hg⟩
  simp only at hk hg
  rcases Nat.lt_or_ge k ls.length with hlt | hge
  · obtain ⟨y, ey⟩ : ∃ y, ls[k]? = some y := ⟨_, List.getElem?_eq_getElem hlt⟩
    have hm : y ∈ ls := List.mem_of_getElem? ey
    obtain ⟨b, o, rfl, hr, hf⟩ := hA.row (i := k) (sz := 3) (r := y.row) (fun r hr => by obtain ⟨z, -, rfl⟩ := List.mem_map.1 hr; rfl) (by decide) (by rw [List.getElem?_map, ey]; rfl)
    simp only [LvR.row] at hr
    have t0 : (k : Int) < (ls.length : Int) := by omega
    have t3 : IntKind.i64.wrap ((k : Int) + 1) = (k : Int) + 1 := Bw.1 _ (by omega) (by omega)
    have tk : ls.take (k + 1) = ls.take k ++ [y] := by rw [List.take_add_one, ey]; rfl
    by_cases hgood : y.good f
    · have e1 : decide (¬ y.good f) = false := by simp [hgood]
      have hg' : ∀ z ∈ ls.take (k + 1), z.good f := fun z hz => by
        rw [tk] at hz
        rcases List.mem_append.1 hz with h' | h'
        · exact hg z h'
        · rw [List.mem_singleton.1 h']; exact hgood
      (all_goals (try simp only [Sq,Sr,Sh,Si,Sl,Bu,Bb,Bd,Bc,Bw,Bn,Int.reduceAdd,Int.reduceSub,Int.reduceMul,Int.reduceTDiv,Int.reduceTMod,Int.reduceMod,Int.reduceDiv,Nat.reduceLT,Nat.reduceEqDiff,Sa,Sb,Sc,Sd,Se,Sf,Sg,Int.reduceLE,Int.reduceLT,Int.reduceToNat,Int.reduceNeg,Int.reduceEq,Nat.reduceLeDiff,Nat.reducePow,Int.reducePow,reduceIte,Nat.reduceSub,Nat.reduceAdd,Nat.reduceMul,putAt,ceq,List.replicate, *])); repeat' ((first | (with_reducible refine fun _ : True => ?_) | refine c_wrong p y f hp (hx y hm) ?_ | (with_reducible refine any_h ?_) | ((first | refine AllocQ_i ?_ | refine AllocO_i ?_); intro bk hb0 hbk; try simp only [set_none'] at hbk) | ((first | refine condS_i ?_ ?_ | refine pick_i ?_ ?_ | refine gS_it ?_ ?_ | refine gS_if ?_ ?_ | refine gP_it ?_ ?_ | refine gP_if ?_ ?_) <;> (intro hc; try simp only [Int.reduceLE,Int.reduceLT,Int.reduceEq,Sn] at hc)) | (refine KP_i (by (repeat' (first | exact Heap.Le.refl _ | (refine Le_fresh (by first | exact (by simp only [*]) | exact (by simp [set_none', *])) ?_) | (refine Heap.Le.trans ?_ (Grow.le (by assumption)))))) ?_) | (with_reducible refine And.intro ?_ ?_)) <;> (try simp only [Sq,Sr,Sh,Si,Sl,Bu,Bb,Bd,Bc,Bw,Bn,Int.reduceAdd,Int.reduceSub,Int.reduceMul,Int.reduceTDiv,Int.reduceTMod,Int.reduceMod,Int.reduceDiv,Nat.reduceLT,Nat.reduceEqDiff,Sa,Sb,Sc,Sd,Se,Sf,Sg,Int.reduceLE,Int.reduceLT,Int.reduceToNat,Int.reduceNeg,Int.reduceEq,Nat.reduceLeDiff,Nat.reducePow,Int.reducePow,reduceIte,Nat.reduceSub,Nat.reduceAdd,Nat.reduceMul,putAt,ceq,List.replicate, *]))
      refine Round_mk (k + 1, _) ⟨by omega, hg'⟩ (by simp only; omega) ?_ rfl rfl
      exact Heap.Le.refl _
    · have e1 : decide (¬ y.good f) = true := by simp [hgood]
      have hn' := hn (fun h => hgood (h y hm)) k
      (all_goals (try simp only [Sq,Sr,Sh,Si,Sl,Bu,Bb,Bd,Bc,Bw,Bn,Int.reduceAdd,Int.reduceSub,Int.reduceMul,Int.reduceTDiv,Int.reduceTMod,Int.reduceMod,Int.reduceDiv,Nat.reduceLT,Nat.reduceEqDiff,Sa,Sb,Sc,Sd,Se,Sf,Sg,Int.reduceLE,Int.reduceLT,Int.reduceToNat,Int.reduceNeg,Int.reduceEq,Nat.reduceLeDiff,Nat.reducePow,Int.reducePow,reduceIte,Nat.reduceSub,Nat.reduceAdd,Nat.reduceMul,putAt,ceq,List.replicate, *])); repeat' ((first | (with_reducible refine fun _ : True => ?_) | refine c_wrong p y f hp (hx y hm) ?_ | (with_reducible refine any_h ?_) | ((first | refine AllocQ_i ?_ | refine AllocO_i ?_); intro bk hb0 hbk; try simp only [set_none'] at hbk) | ((first | refine condS_i ?_ ?_ | refine pick_i ?_ ?_ | refine gS_it ?_ ?_ | refine gS_if ?_ ?_ | refine gP_it ?_ ?_ | refine gP_if ?_ ?_) <;> (intro hc; try simp only [Int.reduceLE,Int.reduceLT,Int.reduceEq,Sn] at hc)) | (refine KP_i (by (repeat' (first | exact Heap.Le.refl _ | (refine Le_fresh (by first | exact (by simp only [*]) | exact (by simp [set_none', *])) ?_) | (refine Heap.Le.trans ?_ (Grow.le (by assumption)))))) ?_) | (with_reducible refine And.intro ?_ ?_)) <;> (try simp only [Sq,Sr,Sh,Si,Sl,Bu,Bb,Bd,Bc,Bw,Bn,Int.reduceAdd,Int.reduceSub,Int.reduceMul,Int.reduceTDiv,Int.reduceTMod,Int.reduceMod,Int.reduceDiv,Nat.reduceLT,Nat.reduceEqDiff,Sa,Sb,Sc,Sd,Se,Sf,Sg,Int.reduceLE,Int.reduceLT,Int.reduceToNat,Int.reduceNeg,Int.reduceEq,Nat.reduceLeDiff,Nat.reducePow,Int.reducePow,reduceIte,Nat.reduceSub,Nat.reduceAdd,Nat.reduceMul,putAt,ceq,List.replicate, *]))
      exact Fin_mk (by (repeat' (first | exact Heap.Le.refl _ | (refine Le_fresh (by first | exact (by simp only [*]) | exact (by simp [set_none', *])) ?_) | (refine Heap.Le.trans ?_ (Grow.le (by assumption)))))) hn'
  · obtain rfl : ls.length = k := by omega
    have t0 : ¬ ((ls.length : Nat) : Int) < ((ls.length : Nat) : Int) := by omega
    have hy' := hy (by simpa using hg)
    (all_goals (try simp only [Sq,Sr,Sh,Si,Sl,Bu,Bb,Bd,Bc,Bw,Bn,Int.reduceAdd,Int.reduceSub,Int.reduceMul,Int.reduceTDiv,Int.reduceTMod,Int.reduceMod,Int.reduceDiv,Nat.reduceLT,Nat.reduceEqDiff,Sa,Sb,Sc,Sd,Se,Sf,Sg,Int.reduceLE,Int.reduceLT,Int.reduceToNat,Int.reduceNeg,Int.reduceEq,Nat.reduceLeDiff,Nat.reducePow,Int.reducePow,reduceIte,Nat.reduceSub,Nat.reduceAdd,Nat.reduceMul,putAt,ceq,List.replicate, *])); repeat' ((first | (with_reducible refine fun _ : True => ?_) | (with_reducible refine any_h ?_) | ((first | refine AllocQ_i ?_ | refine AllocO_i ?_); intro bk hb0 hbk; try simp only [set_none'] at hbk) | ((first | refine condS_i ?_ ?_ | refine pick_i ?_ ?_ | refine gS_it ?_ ?_ | refine gS_if ?_ ?_ | refine gP_it ?_ ?_ | refine gP_if ?_ ?_) <;> (intro hc; try simp only [Int.reduceLE,Int.reduceLT,Int.reduceEq,Sn] at hc)) | (refine KP_i (by (repeat' (first | exact Heap.Le.refl _ | (refine Le_fresh (by first | exact (by simp only [*]) | exact (by simp [set_none', *])) ?_) | (refine Heap.Le.trans ?_ (Grow.le (by assumption)))))) ?_) | (with_reducible refine And.intro ?_ ?_)) <;> (try simp only [Sq,Sr,Sh,Si,Sl,Bu,Bb,Bd,Bc,Bw,Bn,Int.reduceAdd,Int.reduceSub,Int.reduceMul,Int.reduceTDiv,Int.reduceTMod,Int.reduceMod,Int.reduceDiv,Nat.reduceLT,Nat.reduceEqDiff,Sa,Sb,Sc,Sd,Se,Sf,Sg,Int.reduceLE,Int.reduceLT,Int.reduceToNat,Int.reduceNeg,Int.reduceEq,Nat.reduceLeDiff,Nat.reducePow,Int.reducePow,reduceIte,Nat.reduceSub,Nat.reduceAdd,Nat.reduceMul,putAt,ceq,List.replicate, *]))
    exact Fin_mk (by (repeat' (first | exact Heap.Le.refl _ | (refine Le_fresh (by first | exact (by simp only [*]) | exact (by simp [set_none', *])) ?_) | (refine Heap.Le.trans ?_ (Grow.le (by assumption)))))) hy'
/- slices ContainsFunc[[]paintbox/api Level,paintbox/api Level] -/
def M51 : MC :=
  .seq (.reg [⟨(some 4), .mv (.const (.bool false)), none⟩])
 (.seq (.reg [⟨(some 5), .mv (.tmp 0), none⟩,
 ⟨(some 6), .mv (.tmp 1), none⟩,
 ⟨(some 7), .call 70 [(.tmp 5), (.tmp 6)], none⟩,
 ⟨(some 8), .bin .geq (.tmp 7) (.const (.int .i64 0)), none⟩,
 ⟨(some 4), .mv (.tmp 8), none⟩])
 (.ret))
theorem k51 : fnOk Try.prog 51 = some (M51, [.t 4], 9) := by kernel_rfl

theorem c_ContainsW (p : Nat) (f : Int) (a : Option Addr) (cap : Nat) (ls : List LvR) {ty : TypeId} (hp : H p = some ⟨ty, [.int .i64 (sizeI f)]⟩) (hA : SlAt w0 H a (ls.map LvR.row).flatten) (hx : ∀ y ∈ ls, LvOk w0 H y) (hl : ls.length ≤ 7)
    (h : K (.bool (decide (¬ ∀ y ∈ ls, y.good f))) H) :
    HCalls Try.prog w0 51 [.slice a ls.length cap, .func (.func 49) #[] #[.pointer (some ⟨p, 0, none⟩)]] H K := by
  by_cases hg : ∀ y ∈ ls, y.good f
  · have h' : K (.bool false) H := K_bool h (by simpa using hg)
    refine HL.hc k51 999 ?_; unfold M51
    (all_goals (try simp only [Sq,Sr,Sh,Si,Sl,Bu,Bb,Bd,Bc,Bw,Bn,Int.reduceAdd,Int.reduceSub,Int.reduceMul,Int.reduceTDiv,Int.reduceTMod,Int.reduceMod,Int.reduceDiv,Nat.reduceLT,Nat.reduceEqDiff,Sa,Sb,Sc,Sd,Se,Sf,Sg,Int.reduceLE,Int.reduceLT,Int.reduceToNat,Int.reduceNeg,Int.reduceEq,Nat.reduceLeDiff,Nat.reducePow,Int.reducePow,reduceIte,Nat.reduceSub,Nat.reduceAdd,Nat.reduceMul,putAt,ceq,List.replicate, *])); repeat' ((first | (with_reducible refine fun _ : True => ?_) | (with_reducible refine any_h ?_) | ((first | refine AllocQ_i ?_ | refine AllocO_i ?_); intro bk hb0 hbk; try simp only [set_none'] at hbk) | ((first | refine condS_i ?_ ?_ | refine pick_i ?_ ?_ | refine gS_it ?_ ?_ | refine gS_if ?_ ?_ | refine gP_it ?_ ?_ | refine gP_if ?_ ?_) <;> (intro hc; try simp only [Int.reduceLE,Int.reduceLT,Int.reduceEq,Sn] at hc)) | (refine KP_i (by (repeat' (first | exact Heap.Le.refl _ | (refine Le_fresh (by first | exact (by simp only [*]) | exact (by simp [set_none', *])) ?_) | (refine Heap.Le.trans ?_ (Grow.le (by assumption)))))) ?_) | (with_reducible refine And.intro ?_ ?_)) <;> (try simp only [Sq,Sr,Sh,Si,Sl,Bu,Bb,Bd,Bc,Bw,Bn,Int.reduceAdd,Int.reduceSub,Int.reduceMul,Int.reduceTDiv,Int.reduceTMod,Int.reduceMod,Int.reduceDiv,Nat.reduceLT,Nat.reduceEqDiff,Sa,Sb,Sc,Sd,Se,Sf,Sg,Int.reduceLE,Int.reduceLT,Int.reduceToNat,Int.reduceNeg,Int.reduceEq,Nat.reduceLeDiff,Nat.reducePow,Int.reducePow,reduceIte,Nat.reduceSub,Nat.reduceAdd,Nat.reduceMul,putAt,ceq,List.replicate, *]))
    refine c_IndexW p f a cap ls hp hA hx hl (fun _ => ?_) (fun hn => (hn hg).elim)
    (all_goals (try simp only [Sq,Sr,Sh,Si,Sl,Bu,Bb,Bd,Bc,Bw,Bn,Int.reduceAdd,Int.reduceSub,Int.reduceMul,Int.reduceTDiv,Int.reduceTMod,Int.reduceMod,Int.reduceDiv,Nat.reduceLT,Nat.reduceEqDiff,Sa,Sb,Sc,Sd,Se,Sf,Sg,Int.reduceLE,Int.reduceLT,Int.reduceToNat,Int.reduceNeg,Int.reduceEq,Nat.reduceLeDiff,Nat.reducePow,Int.reducePow,reduceIte,Nat.reduceSub,Nat.reduceAdd,Nat.reduceMul,putAt,ceq,List.replicate, *])); repeat' ((first | (with_reducible refine fun _ : True => ?_) | (with_reducible refine any_h ?_) | ((first | refine AllocQ_i ?_ | refine AllocO_i ?_); intro bk hb0 hbk; try simp only [set_none'] at hbk) | ((first | refine condS_i ?_ ?_ | refine pick_i ?_ ?_ | refine gS_it ?_ ?_ | refine gS_if ?_ ?_ | refine gP_it ?_ ?_ | refine gP_if ?_ ?_) <;> (intro hc; try simp only [Int.reduceLE,Int.reduceLT,Int.reduceEq,Sn] at hc)) | (refine KP_i (by (repeat' (first | exact Heap.Le.refl _ | (refine Le_fresh (by first | exact (by simp only [*]) | exact (by simp [set_none', *])) ?_) | (refine Heap.Le.trans ?_ (Grow.le (by assumption)))))) ?_) | (with_reducible refine And.intro ?_ ?_)) <;> (try simp only [Sq,Sr,Sh,Si,Sl,Bu,Bb,Bd,Bc,Bw,Bn,Int.reduceAdd,Int.reduceSub,Int.reduceMul,Int.reduceTDiv,Int.reduceTMod,Int.reduceMod,Int.reduceDiv,Nat.reduceLT,Nat.reduceEqDiff,Sa,Sb,Sc,Sd,Se,Sf,Sg,Int.reduceLE,Int.reduceLT,Int.reduceToNat,Int.reduceNeg,Int.reduceEq,Nat.reduceLeDiff,Nat.reducePow,Int.reducePow,reduceIte,Nat.reduceSub,Nat.reduceAdd,Nat.reduceMul,putAt,ceq,List.replicate, *]))
    exact Fin_mk (by (repeat' (first | exact Heap.Le.refl _ | (refine Le_fresh (by first | exact (by simp only [*]) | exact (by simp [set_none', *])) ?_) | (refine Heap.Le.trans ?_ (Grow.le (by assumption)))))) h'
  · have h' : K (.bool true) H := K_bool h (by simpa using hg)
    refine HL.hc k51 999 ?_; unfold M51
    (all_goals (try simp only [Sq,Sr,Sh,Si,Sl,Bu,Bb,Bd,Bc,Bw,Bn,Int.reduceAdd,Int.reduceSub,Int.reduceMul,Int.reduceTDiv,Int.reduceTMod,Int.reduceMod,Int.reduceDiv,Nat.reduceLT,Nat.reduceEqDiff,Sa,Sb,Sc,Sd,Se,Sf,Sg,Int.reduceLE,Int.reduceLT,Int.reduceToNat,Int.reduceNeg,Int.reduceEq,Nat.reduceLeDiff,Nat.reducePow,Int.reducePow,reduceIte,Nat.reduceSub,Nat.reduceAdd,Nat.reduceMul,putAt,ceq,List.replicate, *])); repeat' ((first | (with_reducible refine fun _ : True => ?_) | (with_reducible refine any_h ?_) | ((first | refine AllocQ_i ?_ | refine AllocO_i ?_); intro bk hb0 hbk; try simp only [set_none'] at hbk) | ((first | refine condS_i ?_ ?_ | refine pick_i ?_ ?_ | refine gS_it ?_ ?_ | refine gS_if ?_ ?_ | refine gP_it ?_ ?_ | refine gP_if ?_ ?_) <;> (intro hc; try simp only [Int.reduceLE,Int.reduceLT,Int.reduceEq,Sn] at hc)) | (refine KP_i (by (repeat' (first | exact Heap.Le.refl _ | (refine Le_fresh (by first | exact (by simp only [*]) | exact (by simp [set_none', *])) ?_) | (refine Heap.Le.trans ?_ (Grow.le (by assumption)))))) ?_) | (with_reducible refine And.intro ?_ ?_)) <;> (try simp only [Sq,Sr,Sh,Si,Sl,Bu,Bb,Bd,Bc,Bw,Bn,Int.reduceAdd,Int.reduceSub,Int.reduceMul,Int.reduceTDiv,Int.reduceTMod,Int.reduceMod,Int.reduceDiv,Nat.reduceLT,Nat.reduceEqDiff,Sa,Sb,Sc,Sd,Se,Sf,Sg,Int.reduceLE,Int.reduceLT,Int.reduceToNat,Int.reduceNeg,Int.reduceEq,Nat.reduceLeDiff,Nat.reducePow,Int.reducePow,reduceIte,Nat.reduceSub,Nat.reduceAdd,Nat.reduceMul,putAt,ceq,List.replicate, *]))
    refine c_IndexW p f a cap ls hp hA hx hl (fun hy => (hg hy).elim) (fun _ k => ?_)
    (all_goals (try simp only [Sq,Sr,Sh,Si,Sl,Bu,Bb,Bd,Bc,Bw,Bn,Int.reduceAdd,Int.reduceSub,Int.reduceMul,Int.reduceTDiv,Int.reduceTMod,Int.reduceMod,Int.reduceDiv,Nat.reduceLT,Nat.reduceEqDiff,Sa,Sb,Sc,Sd,Se,Sf,Sg,Int.reduceLE,Int.reduceLT,Int.reduceToNat,Int.reduceNeg,Int.reduceEq,Nat.reduceLeDiff,Nat.reducePow,Int.reducePow,reduceIte,Nat.reduceSub,Nat.reduceAdd,Nat.reduceMul,putAt,ceq,List.replicate, *])); repeat' ((first | (with_reducible refine fun _ : True => ?_) | (with_reducible refine any_h ?_) | ((first | refine AllocQ_i ?_ | refine AllocO_i ?_); intro bk hb0 hbk; try simp only [set_none'] at hbk) | ((first | refine condS_i ?_ ?_ | refine pick_i ?_ ?_ | refine gS_it ?_ ?_ | refine gS_if ?_ ?_ | refine gP_it ?_ ?_ | refine gP_if ?_ ?_) <;> (intro hc; try simp only [Int.reduceLE,Int.reduceLT,Int.reduceEq,Sn] at hc)) | (refine KP_i (by (repeat' (first | exact Heap.Le.refl _ | (refine Le_fresh (by first | exact (by simp only [*]) | exact (by simp [set_none', *])) ?_) | (refine Heap.Le.trans ?_ (Grow.le (by assumption)))))) ?_) | (with_reducible refine And.intro ?_ ?_)) <;> (try simp only [Sq,Sr,Sh,Si,Sl,Bu,Bb,Bd,Bc,Bw,Bn,Int.reduceAdd,Int.reduceSub,Int.reduceMul,Int.reduceTDiv,Int.reduceTMod,Int.reduceMod,Int.reduceDiv,Nat.reduceLT,Nat.reduceEqDiff,Sa,Sb,Sc,Sd,Se,Sf,Sg,Int.reduceLE,Int.reduceLT,Int.reduceToNat,Int.reduceNeg,Int.reduceEq,Nat.reduceLeDiff,Nat.reducePow,Int.reducePow,reduceIte,Nat.reduceSub,Nat.reduceAdd,Nat.reduceMul,putAt,ceq,List.replicate, *]))
    exact Fin_mk (by (repeat' (first | exact Heap.Le.refl _ | (refine Le_fresh (by first | exact (by simp only [*]) | exact (by simp [set_none', *])) ?_) | (refine Heap.Le.trans ?_ (Grow.le (by assumption)))))) h'
end Go.Proofs.Ytdaipgnhconfnaa
