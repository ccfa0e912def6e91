/- The layer does something (layer 7). -/
import Derived.Test.YtgbcakebmpgghaaBfb
set_option linter.unusedSimpArgs false
set_option linter.unusedVariables false
set_option maxRecDepth 100000
set_option maxHeartbeats 4000000
namespace Go.Proofs.Ytgbcakebmpgghaa
open Go.HL Go.RowKit Pb
variable {w0 : World} {H G : Heap} {K : Value → Heap → Prop}

theorem hcalls_heap {P : Program} {f : FuncId} {args : List Value} (h : ∀ H0, H0 = H → HCalls P w0 f args H0 K) : HCalls P w0 f args H K := h H rfl
theorem key_int (x : Int) (hx : (Lit.int .i64 x).wf = true) : ∃ l, Go.keyOf Try.prog 3 (.int .i64 x) = some l := by
  have hu : Try.prog.underlying 3 = some (.int .i64) := by kernel_rfl
  simp [Go.keyOf, hu, mapKey, hx]
theorem keys_ok (es : Array MapEntry) (c : Nat) (x : Int) (hx : (Lit.int .i64 x).wf = true) (ha : ∀ e ∈ es.toList, ∃ y : Int, (Lit.int .i64 y).wf = true ∧ e.key = .int .i64 y) (hs : MapKept.Stamped es c) : KeysOk Try.prog 3 es c (.int .i64 x) :=
  ⟨Maps.int_keyed (q := .i64) (by kernel_rfl), key_int x hx, fun e he => by obtain ⟨y, hw, hy⟩ := ha e he; rw [hy]; exact key_int y hw, hs⟩
theorem lkp_empty {φ : Value → Prop} {ok : Bool} {z : Value} {m c : Nat} {x : Int} (hx : (Lit.int .i64 x).wf = true) (hm : H m = some ⟨.o (.map #[] c), []⟩) (h : φ (okV ok z false)) : lkpQ Try.prog H φ 3 ok z (.map (some m)) (.int .i64 x) := by
  unfold lkpQ
  simp only [mapAt, hm, optQ]
  exact ⟨keys_ok _ _ _ hx (fun e he => by simp at he) (MapKept.stamped_empty c), fun e he => by simp at he, fun _ => h⟩
theorem mup_empty {m : Nat} {x : Int} {v : Value} (hx : (Lit.int .i64 x).wf = true) (hm : H m = some ⟨.o (.map #[] 0), []⟩) (h : K undef (H.set m ⟨.o (.map #[⟨.int .i64 x, v, 0⟩] 1), []⟩)) : mupQ Try.prog H K 3 (.map (some m)) (.int .i64 x) v := by
  unfold mupQ
  simp only [mapAt, hm, optQ]
  exact ⟨keys_ok _ _ _ hx (fun e he => by simp at he) (MapKept.stamped_empty 0), fun j e he => by simp at he, fun _ => h⟩
theorem lkp_hit {φ : Value → Prop} {ok : Bool} {z v : Value} {m : Nat} {x : Int} (hx : (Lit.int .i64 x).wf = true) (hm : H m = some ⟨.o (.map #[⟨.int .i64 x, v, 0⟩] 1), []⟩) (h : φ (okV ok v true)) : lkpQ Try.prog H φ 3 ok z (.map (some m)) (.int .i64 x) := by
  unfold lkpQ
  simp only [mapAt, hm, optQ]
  refine ⟨keys_ok _ _ _ hx (fun e he => by simp at he; exact ⟨x, hx, by rw [he]⟩) ⟨by simp, by simp, by simp⟩, fun e he _ => ?_, fun hn => ?_⟩
  · simp at he; rw [he]; exact h
  · exact absurd rfl (hn ⟨.int .i64 x, v, 0⟩ (by simp))
theorem IntsAt.sub {k : IntKind} {b o : Nat} {l : List Int} (h : IntsAt w0 G k (some ⟨b, o, none⟩) l) (p n : Nat) (hp : p + n ≤ l.length) : IntsAt w0 G k (some ⟨b, o + p, none⟩) ((l.drop p).take n) := fun hl => by
  obtain ⟨b', o', e, hr, hf⟩ := h (by intro e; subst e; simp at hl)
  cases e
  refine ⟨b, o + p, rfl, fun i hi => ?_, hf⟩
  rw [List.length_take, List.length_drop] at hi
  rw [Nat.add_assoc, hr (p + i) (by omega)]
  congr 2
  rw [List.getD_eq_getElem?_getD, List.getD_eq_getElem?_getD, List.getElem?_take, if_pos (by omega), List.getElem?_drop]
theorem ne_new {x c : Nat} {y : Blk} (h : H x = some y) (hc : H c = none) : x ≠ c ∧ c ≠ x := ⟨fun e => (by rw [e] at h; rw [h] at hc; cases hc), fun e => (by rw [← e] at h; rw [h] at hc; cases hc)⟩
/- (*paintbox/buffer Store) Data -/
def M13 : MC :=
  .seq (.reg [⟨(some 6), .mv (.const (.int .i64 0)), none⟩])
 (.seq (.block 0 (.seq (.reg [⟨(some 9), .mv (.tmp 0), none⟩,
 ⟨(some 10), .eqp false (.tmp 9) (.const (.pointer none)), none⟩,
 ⟨(some 8), .mv (.tmp 10), none⟩])
 (.cond (.tmp 8)
 (.seq (.reg [⟨(some 6), .mv (.const (.int .i64 1)), none⟩])
 (.ret))
 (.seq (.reg [⟨(some 12), .mv (.tmp 1), none⟩,
 ⟨(some 13), .bin .lss (.tmp 12) (.const (.int .i64 1)), none⟩,
 ⟨(some 11), .mv (.tmp 13), none⟩])
 (.cond (.tmp 11)
 (.seq (.reg [⟨(some 6), .mv (.const (.int .i64 2)), none⟩])
 (.ret))
 (.skip))))))
 (.seq (.reg [⟨(some 14), .mv (.tmp 0), none⟩,
 ⟨(some 15), .nilc (.tmp 14), none⟩,
 ⟨(some 16), .fa 1 (.tmp 15), none⟩,
 ⟨(some 17), .ld1 (.tmp 16), none⟩,
 ⟨(some 18), .mv (.tmp 1), none⟩,
 ⟨(some 19), .lkp 3 false (.slice none 0 0) (.tmp 17) (.tmp 18), none⟩,
 ⟨(some 20), .len (.tmp 19), none⟩,
 ⟨(some 7), .mv (.tmp 20), none⟩])
 (.seq (.seq (.reg [⟨(some 21), .mv (.tmp 2), none⟩,
 ⟨(some 22), .len (.tmp 21), none⟩,
 ⟨(some 23), .mv (.tmp 0), none⟩,
 ⟨(some 24), .nilc (.tmp 23), none⟩,
 ⟨(some 25), .fa 0 (.tmp 24), none⟩,
 ⟨(some 26), .ld1 (.tmp 25), none⟩,
 ⟨(some 27), .call 9 [(.tmp 26)], none⟩,
 ⟨(some 28), .mv (.tmp 7), none⟩,
 ⟨(some 29), .bin .add (.tmp 27) (.tmp 28), none⟩,
 ⟨(some 30), .bin .gtr (.tmp 22) (.tmp 29), none⟩])
 (.cond (.tmp 30)
 (.seq (.reg [⟨(some 6), .mv (.const (.int .i64 6)), none⟩])
 (.ret))
 (.skip)))
 (.seq (.reg [⟨(some 31), .mv (.tmp 0), none⟩,
 ⟨(some 32), .nilc (.tmp 31), none⟩,
 ⟨(some 33), .fa 0 (.tmp 32), none⟩,
 ⟨(some 34), .ld1 (.tmp 33), none⟩,
 ⟨(some 35), .mv (.tmp 7), none⟩,
 ⟨(some 36), .call 11 [(.tmp 34), (.tmp 35)], none⟩])
 (.seq (.reg [⟨(some 37), .mv (.tmp 0), none⟩,
 ⟨(some 38), .nilc (.tmp 37), none⟩,
 ⟨(some 39), .fa 0 (.tmp 38), none⟩,
 ⟨(some 40), .ld1 (.tmp 39), none⟩,
 ⟨(some 41), .mv (.tmp 2), none⟩,
 ⟨(some 42), .len (.tmp 41), none⟩,
 ⟨(some 43), .call 10 [(.tmp 40), (.tmp 42)], none⟩])
 (.seq (.any [(true, 0, [], ⟨(some 44), .mv (.tmp 0), none⟩),
 (true, 1, [], ⟨(some 45), .nilc (.tmp 44), none⟩),
 (true, 2, [], ⟨(some 46), .fa 1 (.tmp 45), none⟩),
 (true, 3, [], ⟨(some 47), .ld1 (.tmp 46), none⟩),
 (true, 4, [], ⟨(some 48), .mv (.tmp 1), none⟩),
 (true, 6, [], ⟨(some 50), .mv (.tmp 2), none⟩),
 (false, 5, [0, 1, 2, 3, 4, 6], ⟨(some 49), .bslice 5 0 [] [], none⟩),
 (false, 7, [0, 1, 2, 3, 4], ⟨(some 51), .bslice 38 2 [(.slice none 0 0), (.slice none 0 0)] [(0, 1, (.tmp 49)), (1, 1, (.tmp 50))], none⟩),
 (false, 8, [0, 1, 2, 3, 4], ⟨(some 52), .call 27 [(.tmp 51)], none⟩),
 (false, 9, [], ⟨none, .mup 3 (.tmp 47) (.tmp 48) (.tmp 52), none⟩)])
 (.seq (.reg [⟨(some 6), .mv (.const (.int .i64 0)), none⟩])
 (.ret))))))))
theorem k13 : fnOk Try.prog 13 = some (M13, [.t 6], 53) := by kernel_rfl
/- (*paintbox/buffer Store) find -/
def M30 : MC :=
  .seq (.reg [⟨(some 4), .mv (.const (.slice none 0 0)), none⟩,
 ⟨(some 5), .mv (.const (.int .i64 0)), none⟩])
 (.seq (.seq (.reg [⟨(some 8), .mv (.tmp 0), none⟩,
 ⟨(some 9), .eqp false (.tmp 8) (.const (.pointer none)), none⟩])
 (.cond (.tmp 9)
 (.seq (.reg [⟨(some 4), .mv (.const (.slice none 0 0)), none⟩,
 ⟨(some 5), .mv (.const (.int .i64 1)), none⟩])
 (.ret))
 (.skip)))
 (.seq (.reg [⟨(some 11), .mv (.tmp 0), none⟩,
 ⟨(some 12), .nilc (.tmp 11), none⟩,
 ⟨(some 13), .fa 1 (.tmp 12), none⟩,
 ⟨(some 14), .ld1 (.tmp 13), none⟩,
 ⟨(some 15), .mv (.tmp 1), none⟩,
 ⟨(some 16), .lkp 3 true (.slice none 0 0) (.tmp 14) (.tmp 15), none⟩,
 ⟨(some 10), .mv (.tmp 16), none⟩,
 ⟨(some 17), .ext 0 (.tmp 10), none⟩,
 ⟨(some 18), .ext 1 (.tmp 10), none⟩,
 ⟨(some 6), .mv (.tmp 17), none⟩,
 ⟨(some 7), .mv (.tmp 18), none⟩])
 (.seq (.seq (.reg [⟨(some 19), .mv (.tmp 7), none⟩,
 ⟨(some 20), .un .not (.tmp 19), none⟩])
 (.cond (.tmp 20)
 (.seq (.reg [⟨(some 4), .mv (.const (.slice none 0 0)), none⟩,
 ⟨(some 5), .mv (.const (.int .i64 4)), none⟩])
 (.ret))
 (.skip)))
 (.seq (.reg [⟨(some 21), .mv (.tmp 6), none⟩,
 ⟨(some 4), .mv (.tmp 21), none⟩,
 ⟨(some 5), .mv (.const (.int .i64 0)), none⟩])
 (.ret)))))
theorem k30 : fnOk Try.prog 30 = some (M30, [.t 4, .t 5], 22) := by kernel_rfl
/- (*paintbox/buffer Store) Get -/
def M17 : MC :=
  .seq (.reg [⟨(some 8), .mv (.const (.slice none 0 0)), none⟩,
 ⟨(some 9), .mv (.const (.int .i64 0)), none⟩])
 (.seq (.reg [⟨(some 13), .mv (.tmp 0), none⟩,
 ⟨(some 14), .mv (.tmp 1), none⟩,
 ⟨(some 15), .call 30 [(.tmp 13), (.tmp 14)], none⟩,
 ⟨(some 12), .mv (.tmp 15), none⟩,
 ⟨(some 16), .ext 0 (.tmp 12), none⟩,
 ⟨(some 17), .ext 1 (.tmp 12), none⟩,
 ⟨(some 10), .mv (.tmp 16), none⟩,
 ⟨(some 11), .mv (.tmp 17), none⟩])
 (.seq (.block 0 (.seq (.reg [⟨(some 19), .mv (.tmp 11), none⟩,
 ⟨(some 20), .bin .neq (.tmp 19) (.const (.int .i64 0)), none⟩,
 ⟨(some 18), .mv (.tmp 20), none⟩])
 (.cond (.tmp 18)
 (.seq (.reg [⟨(some 21), .mv (.tmp 11), none⟩,
 ⟨(some 8), .mv (.const (.slice none 0 0)), none⟩,
 ⟨(some 9), .mv (.tmp 21), none⟩])
 (.ret))
 (.seq (.reg [⟨(some 23), .mv (.tmp 2), none⟩,
 ⟨(some 24), .mv (.tmp 3), none⟩,
 ⟨(some 25), .mv (.tmp 10), none⟩,
 ⟨(some 26), .len (.tmp 25), none⟩,
 ⟨(some 27), .call 31 [(.tmp 23), (.tmp 24), (.tmp 26)], none⟩,
 ⟨(some 28), .un .not (.tmp 27), none⟩,
 ⟨(some 22), .mv (.tmp 28), none⟩])
 (.cond (.tmp 22)
 (.seq (.reg [⟨(some 8), .mv (.const (.slice none 0 0)), none⟩,
 ⟨(some 9), .mv (.const (.int .i64 2)), none⟩])
 (.ret))
 (.skip))))))
 (.seq (.reg [⟨(some 29), .mv (.tmp 10), none⟩,
 ⟨(some 30), .mv (.tmp 2), none⟩,
 ⟨(some 31), .mv (.tmp 2), none⟩,
 ⟨(some 32), .mv (.tmp 3), none⟩,
 ⟨(some 33), .bin .add (.tmp 31) (.tmp 32), none⟩,
 ⟨(some 34), .slc 1 (.tmp 29) (some (.tmp 30)) (some (.tmp 33)), none⟩,
 ⟨(some 35), .call 33 [(.tmp 34)], none⟩,
 ⟨(some 8), .mv (.tmp 35), none⟩,
 ⟨(some 9), .mv (.const (.int .i64 0)), none⟩])
 (.ret))))
theorem k17 : fnOk Try.prog 17 = some (M17, [.t 8, .t 9], 36) := by kernel_rfl
/- paintbox/buffer within -/
def M31 : MC :=
  .seq (.reg [⟨(some 6), .mv (.const (.bool false)), none⟩])
 (.seq (.reg [⟨(some 7), .mv (.tmp 0), none⟩,
 ⟨(some 8), .bin .geq (.tmp 7) (.const (.int .i64 0)), none⟩,
 ⟨(some 9), .mv (.tmp 8), none⟩,
 ⟨(some 10), .mv (.tmp 1), (some (9, true))⟩,
 ⟨(some 11), .bin .geq (.tmp 10) (.const (.int .i64 0)), (some (9, true))⟩,
 ⟨(some 12), .pick (.tmp 9) (.tmp 11) (.const (.bool false)), none⟩,
 ⟨(some 13), .mv (.tmp 12), none⟩,
 ⟨(some 14), .mv (.tmp 1), (some (13, true))⟩,
 ⟨(some 15), .mv (.tmp 2), (some (13, true))⟩,
 ⟨(some 16), .bin .leq (.tmp 14) (.tmp 15), (some (13, true))⟩,
 ⟨(some 17), .pick (.tmp 13) (.tmp 16) (.const (.bool false)), none⟩,
 ⟨(some 18), .mv (.tmp 17), none⟩,
 ⟨(some 19), .mv (.tmp 0), (some (18, true))⟩,
 ⟨(some 20), .mv (.tmp 2), (some (18, true))⟩,
 ⟨(some 21), .mv (.tmp 1), (some (18, true))⟩,
 ⟨(some 22), .bin .sub (.tmp 20) (.tmp 21), (some (18, true))⟩,
 ⟨(some 23), .bin .leq (.tmp 19) (.tmp 22), (some (18, true))⟩,
 ⟨(some 24), .pick (.tmp 18) (.tmp 23) (.const (.bool false)), none⟩,
 ⟨(some 6), .mv (.tmp 24), none⟩])
 (.ret))
theorem k31 : fnOk Try.prog 31 = some (M31, [.t 6], 25) := by kernel_rfl
/- paintboxlaw07 wakes -/
def M7 : MC :=
  .seq (.reg [⟨(some 0), .mv (.const (.bool false)), none⟩])
 (.seq (.reg [⟨(some 6), .call 8 [(.const (.int .i64 10))], none⟩,
 ⟨(some 5), .mv (.tmp 6), none⟩,
 ⟨(some 7), .ext 0 (.tmp 5), none⟩,
 ⟨(some 8), .ext 1 (.tmp 5), none⟩,
 ⟨(some 1), .mv (.tmp 7), none⟩,
 ⟨(some 2), .mv (.tmp 8), none⟩])
 (.seq (.seq (.reg [⟨(some 9), .mv (.tmp 2), none⟩,
 ⟨(some 10), .bin .neq (.tmp 9) (.const (.int .i64 0)), none⟩])
 (.cond (.tmp 10)
 (.seq (.reg [⟨(some 0), .mv (.const (.bool false)), none⟩])
 (.ret))
 (.skip)))
 (.seq (.reg [⟨(some 12), .mv (.tmp 1), none⟩,
 ⟨(some 13), .call 12 [(.tmp 12)], none⟩,
 ⟨(some 11), .mv (.tmp 13), none⟩,
 ⟨(some 14), .ext 0 (.tmp 11), none⟩,
 ⟨(some 15), .ext 1 (.tmp 11), none⟩,
 ⟨(some 3), .mv (.tmp 14), none⟩,
 ⟨(some 2), .mv (.tmp 15), none⟩])
 (.seq (.seq (.reg [⟨(some 16), .mv (.tmp 2), none⟩,
 ⟨(some 17), .bin .neq (.tmp 16) (.const (.int .i64 0)), none⟩,
 ⟨(some 18), .mv (.tmp 17), none⟩,
 ⟨(some 19), .mv (.tmp 3), (some (18, false))⟩,
 ⟨(some 20), .bslice 5 3 [(.int .u8 0), (.int .u8 0), (.int .u8 0)] [(0, 1, (.const (.int .u8 1))), (1, 1, (.const (.int .u8 2))), (2, 1, (.const (.int .u8 3)))], (some (18, false))⟩,
 ⟨(some 21), .call 13 [(.tmp 19), (.const (.int .i64 1)), (.tmp 20)], (some (18, false))⟩,
 ⟨(some 22), .bin .neq (.tmp 21) (.const (.int .i64 0)), (some (18, false))⟩,
 ⟨(some 23), .pick (.tmp 18) (.const (.bool true)) (.tmp 22), none⟩])
 (.cond (.tmp 23)
 (.seq (.reg [⟨(some 0), .mv (.const (.bool false)), none⟩])
 (.ret))
 (.skip)))
 (.seq (.reg [⟨(some 25), .mv (.tmp 3), none⟩,
 ⟨(some 26), .call 17 [(.tmp 25), (.const (.int .i64 1)), (.const (.int .i64 1)), (.const (.int .i64 2))], none⟩,
 ⟨(some 24), .mv (.tmp 26), none⟩,
 ⟨(some 27), .ext 0 (.tmp 24), none⟩,
 ⟨(some 28), .ext 1 (.tmp 24), none⟩,
 ⟨(some 4), .mv (.tmp 27), none⟩,
 ⟨(some 2), .mv (.tmp 28), none⟩])
 (.seq (.reg [⟨(some 29), .mv (.tmp 2), none⟩,
 ⟨(some 30), .bin .eql (.tmp 29) (.const (.int .i64 0)), none⟩,
 ⟨(some 31), .mv (.tmp 30), none⟩,
 ⟨(some 32), .mv (.tmp 4), (some (31, true))⟩,
 ⟨(some 33), .len (.tmp 32), (some (31, true))⟩,
 ⟨(some 34), .bin .eql (.tmp 33) (.const (.int .i64 2)), (some (31, true))⟩,
 ⟨(some 35), .pick (.tmp 31) (.tmp 34) (.const (.bool false)), none⟩,
 ⟨(some 36), .mv (.tmp 35), none⟩,
 ⟨(some 37), .mv (.tmp 4), (some (36, true))⟩,
 ⟨(some 38), .is 1 (.tmp 37) (.const (.int .i64 0)), (some (36, true))⟩,
 ⟨(some 39), .ld1 (.tmp 38), (some (36, true))⟩,
 ⟨(some 40), .bin .eql (.tmp 39) (.const (.int .u8 2)), (some (36, true))⟩,
 ⟨(some 41), .pick (.tmp 36) (.tmp 40) (.const (.bool false)), none⟩,
 ⟨(some 42), .mv (.tmp 41), none⟩,
 ⟨(some 43), .mv (.tmp 1), (some (42, true))⟩,
 ⟨(some 44), .call 9 [(.tmp 43)], (some (42, true))⟩,
 ⟨(some 45), .bin .eql (.tmp 44) (.const (.int .i64 7)), (some (42, true))⟩,
 ⟨(some 46), .pick (.tmp 42) (.tmp 45) (.const (.bool false)), none⟩,
 ⟨(some 0), .mv (.tmp 46), none⟩])
 (.ret)))))))
theorem k7 : fnOk Try.prog 7 = some (M7, [.t 0], 47) := by kernel_rfl

theorem c_wakes (h : K (.bool true) H) : HCalls Try.prog w0 7 [] H K := by
  have kN := k12
  unfold M12 at kN
  have kD := k13
  unfold M13 at kD
  have kF := k30
  unfold M30 at kF
  have kG := k17
  unfold M17 at kG
  have kW := k31
  unfold M31 at kW
  replace kN : Keep _ := kN
  replace kD : Keep _ := kD
  replace kF : Keep _ := kF
  replace kG : Keep _ := kG
  replace kW : Keep _ := kW
  have wr1 : IntKind.i64.wrap 1 = 1 := rfl
  have wr3 : IntKind.i64.wrap 3 = 3 := rfl
  have hmc : ∀ m, (mapV m).cells.toList = [Value.map (some m)] := fun _ => rfl
  have hmv : ∀ m, mapV m = Value.map (some m) := fun _ => rfl
  have hmd : ∀ m, (Value.map m).cells.toList = [Value.map m] := fun _ => rfl
  replace h : Keep _ := h
  refine HL.hc k7 999 ?_; unfold M7
  (all_goals (try simp only [Sq,Sr,Sh,Si,Sl,Bu,Bb,Bd,Bc,Bw,Bn,Int.reduceAdd,Int.reduceSub,Int.reduceMul,Int.reduceTDiv,Int.reduceTMod,Int.reduceMod,Int.reduceDiv,Nat.reduceLT,Nat.reduceEqDiff,Sa,Sb,Sc,Sd,Se,Sf,Sg,Int.reduceLE,Int.reduceLT,Int.reduceToNat,Int.reduceNeg,Int.reduceEq,Nat.reduceLeDiff,Nat.reducePow,Int.reducePow,reduceIte,Nat.reduceSub,Nat.reduceAdd,Nat.reduceMul,putAt,ceq,List.replicate, *])); repeat' ((first | (with_reducible refine fun _ : True => ?_) | refine c_NewBudget 10 (by decide) (fun b hb0 hbn => ?_)  | (with_reducible refine any_h ?_) | ((first | refine AllocQ_i ?_ | refine AllocO_i ?_); intro bk hb0 hbk; (try simp only [set_none'] at hbk); (try (first | have hbn := Grow.none (by assumption) hbk | have hbn := Grow.none (by assumption) hbk.2 | have hbn := Grow.none (by assumption) hbk.2.2 | have hbn := Grow.none (by assumption) hbk.2.2.2 | have hbn := Grow.none (by assumption) hbk.2.2.2.2 | have hbn := Grow.none (by assumption) hbk.2.2.2.2.2)); (try simp only [set_none'] at hbn); (try (first | have hbm := Grow.none (by assumption) hbn | have hbm := Grow.none (by assumption) hbn.2 | have hbm := Grow.none (by assumption) hbn.2.2 | have hbm := Grow.none (by assumption) hbn.2.2.2 | have hbm := Grow.none (by assumption) hbn.2.2.2.2 | have hbm := Grow.none (by assumption) hbn.2.2.2.2.2)); (try simp only [set_none'] at hbm)) | ((first | refine condS_i ?_ ?_ | refine pick_i ?_ ?_ | refine gS_it ?_ ?_ | refine gS_if ?_ ?_ | refine gP_it ?_ ?_ | refine gP_if ?_ ?_) <;> (intro hc; try simp only [Int.reduceLE,Int.reduceLT,Int.reduceEq,Sn] at hc)) | (with_reducible refine KP_i ?_ ?_; · (repeat' (first | exact Heap.Le.refl _ | (with_reducible refine Le_set2 ?_) | (refine Le_known (by first | (simp only [Heap.set_same, set_ne, ne_eq, not_false_eq_true, *] <;> rfl) | fail) ?_) | (refine Le_fresh (by first | (simp only [*] <;> done) | (simp [set_none', Heap.set_same, set_ne, noneH, *] <;> done) | fail) ?_) | (refine Heap.Le.trans ?_ (Grow.le (by assumption))) | exact Le_none | (refine Le_put ?_ (by first | (simp only [Heap.set_same, set_ne, ne_eq, not_false_eq_true, *] <;> rfl) | fail)) | fail))) | (with_reducible refine And.intro ?_ ?_)) <;> (try simp only [Sq,Sr,Sh,Si,Sl,Bu,Bb,Bd,Bc,Bw,Bn,Int.reduceAdd,Int.reduceSub,Int.reduceMul,Int.reduceTDiv,Int.reduceTMod,Int.reduceMod,Int.reduceDiv,Nat.reduceLT,Nat.reduceEqDiff,Sa,Sb,Sc,Sd,Se,Sf,Sg,Int.reduceLE,Int.reduceLT,Int.reduceToNat,Int.reduceNeg,Int.reduceEq,Nat.reduceLeDiff,Nat.reducePow,Int.reducePow,reduceIte,Nat.reduceSub,Nat.reduceAdd,Nat.reduceMul,putAt,ceq,List.replicate, *]))
  (all_goals (try simp only [Sq,Sr,Sh,Si,Sl,Bu,Bb,Bd,Bc,Bw,Bn,Int.reduceAdd,Int.reduceSub,Int.reduceMul,Int.reduceTDiv,Int.reduceTMod,Int.reduceMod,Int.reduceDiv,Nat.reduceLT,Nat.reduceEqDiff,Sa,Sb,Sc,Sd,Se,Sf,Sg,Int.reduceLE,Int.reduceLT,Int.reduceToNat,Int.reduceNeg,Int.reduceEq,Nat.reduceLeDiff,Nat.reducePow,Int.reducePow,reduceIte,Nat.reduceSub,Nat.reduceAdd,Nat.reduceMul,putAt,ceq,List.replicate, *])); repeat' ((first | (with_reducible refine fun _ : True => ?_) | refine HL.hc (kpb kN) 999 ?_ | refine Fin_mk (Heap.Le.refl _) ?_ | (with_reducible refine any_h ?_) | ((first | refine AllocQ_i ?_ | refine AllocO_i ?_); intro bk hb0 hbk; (try simp only [set_none'] at hbk); (try (first | have hbn := Grow.none (by assumption) hbk | have hbn := Grow.none (by assumption) hbk.2 | have hbn := Grow.none (by assumption) hbk.2.2 | have hbn := Grow.none (by assumption) hbk.2.2.2 | have hbn := Grow.none (by assumption) hbk.2.2.2.2 | have hbn := Grow.none (by assumption) hbk.2.2.2.2.2)); (try simp only [set_none'] at hbn); (try (first | have hbm := Grow.none (by assumption) hbn | have hbm := Grow.none (by assumption) hbn.2 | have hbm := Grow.none (by assumption) hbn.2.2 | have hbm := Grow.none (by assumption) hbn.2.2.2 | have hbm := Grow.none (by assumption) hbn.2.2.2.2 | have hbm := Grow.none (by assumption) hbn.2.2.2.2.2)); (try simp only [set_none'] at hbm)) | ((first | refine condS_i ?_ ?_ | refine pick_i ?_ ?_ | refine gS_it ?_ ?_ | refine gS_if ?_ ?_ | refine gP_it ?_ ?_ | refine gP_if ?_ ?_) <;> (intro hc; try simp only [Int.reduceLE,Int.reduceLT,Int.reduceEq,Sn] at hc)) | (with_reducible refine KP_i ?_ ?_; · (repeat' (first | exact Heap.Le.refl _ | (with_reducible refine Le_set2 ?_) | (refine Le_known (by first | (simp only [Heap.set_same, set_ne, ne_eq, not_false_eq_true, *] <;> rfl) | fail) ?_) | (refine Le_fresh (by first | (simp only [*] <;> done) | (simp [set_none', Heap.set_same, set_ne, noneH, *] <;> done) | fail) ?_) | (refine Heap.Le.trans ?_ (Grow.le (by assumption))) | exact Le_none | (refine Le_put ?_ (by first | (simp only [Heap.set_same, set_ne, ne_eq, not_false_eq_true, *] <;> rfl) | fail)) | fail))) | (with_reducible refine And.intro ?_ ?_)) <;> (try simp only [Sq,Sr,Sh,Si,Sl,Bu,Bb,Bd,Bc,Bw,Bn,Int.reduceAdd,Int.reduceSub,Int.reduceMul,Int.reduceTDiv,Int.reduceTMod,Int.reduceMod,Int.reduceDiv,Nat.reduceLT,Nat.reduceEqDiff,Sa,Sb,Sc,Sd,Se,Sf,Sg,Int.reduceLE,Int.reduceLT,Int.reduceToNat,Int.reduceNeg,Int.reduceEq,Nat.reduceLeDiff,Nat.reducePow,Int.reducePow,reduceIte,Nat.reduceSub,Nat.reduceAdd,Nat.reduceMul,putAt,ceq,List.replicate, *]))
  rename_i hb0' m hm0 hmn s hs0 hsn
  refine hcalls_heap ?_
  intro H1 eH
  have eb : H1 b = some _ := at_of eH (by simp only [Heap.set_same, set_ne, ne_eq, not_false_eq_true, *] <;> rfl)
  have em : H1 m = some ⟨.o (.map #[] 0), []⟩ := at_of eH (by simp only [Heap.set_same, set_ne, ne_eq, not_false_eq_true, *] <;> rfl)
  have es : H1 s = some _ := at_of eH (by simp only [Heap.set_same, set_ne, ne_eq, not_false_eq_true, *] <;> rfl)
  have ed : H1 bk = some _ := at_of eH (by simp only [Heap.set_same, set_ne, ne_eq, not_false_eq_true, *] <;> rfl)
  have g1 : Grow w0 H H1 := by rw [eH]; exact (by (repeat' (first | exact Grow.refl _ | assumption | (refine Grow_known (by first | (simp only [Heap.set_same, set_ne, ne_eq, not_false_eq_true, *] <;> rfl) | fail) ?_) | (refine Grow.set ?_ (by assumption) (by first | (simp only [*] <;> done) | (simp [set_none', Heap.set_same, set_ne, noneH, *] <;> done) | fail)) | (refine Grow.trans ?_ (by assumption)))))
  have n1 : m ≠ b := hmn.1.1
  have n2 : b ≠ m := hmn.1.2
  have n3 : s ≠ b := hsn.2.1.1
  have n4 : b ≠ s := hsn.2.1.2
  have n5 : bk ≠ b ∧ b ≠ bk := hbk.2.2.1
  have n6 : s ≠ m := hsn.1.1
  have n7 : m ≠ s := hsn.1.2
  obtain ⟨d, rfl⟩ : ∃ x, x = bk := ⟨_, rfl⟩
  have nH : H b = none := hbn
  have mH : H m = none := hmn.2
  clear eH hmn hsn hbk hbn hb0 hm0 hs0
  have s0 : HL.rd1 w0 H1 s 0 = some _ := rd1_at es rfl
  have s1 : HL.rd1 w0 H1 s 1 = some _ := rd1_at es rfl
  (all_goals (try simp only [Sq,Sr,Sh,Si,Sl,Bu,Bb,Bd,Bc,Bw,Bn,Int.reduceAdd,Int.reduceSub,Int.reduceMul,Int.reduceTDiv,Int.reduceTMod,Int.reduceMod,Int.reduceDiv,Nat.reduceLT,Nat.reduceEqDiff,Sa,Sb,Sc,Sd,Se,Sf,Sg,Int.reduceLE,Int.reduceLT,Int.reduceToNat,Int.reduceNeg,Int.reduceEq,Nat.reduceLeDiff,Nat.reducePow,Int.reducePow,reduceIte,Nat.reduceSub,Nat.reduceAdd,Nat.reduceMul,putAt,ceq,List.replicate, *])); repeat' ((first | (with_reducible refine fun _ : True => ?_) | refine HL.hc (kpb kD) 999 ?_ | refine lkp_empty (by decide) em ?_ | refine c_Left 10 0 eb (by decide) ?_ | refine c_Give 10 0 0 eb (by decide) (fun h => absurd h (by decide)) (fun _ _ => ?_)  | (with_reducible refine any_h ?_) | ((first | refine AllocQ_i ?_ | refine AllocO_i ?_); intro bk hb0 hbk; (try simp only [set_none'] at hbk); (try (first | have hbn := Grow.none (by assumption) hbk | have hbn := Grow.none (by assumption) hbk.2 | have hbn := Grow.none (by assumption) hbk.2.2 | have hbn := Grow.none (by assumption) hbk.2.2.2 | have hbn := Grow.none (by assumption) hbk.2.2.2.2 | have hbn := Grow.none (by assumption) hbk.2.2.2.2.2)); (try simp only [set_none'] at hbn); (try (first | have hbm := Grow.none (by assumption) hbn | have hbm := Grow.none (by assumption) hbn.2 | have hbm := Grow.none (by assumption) hbn.2.2 | have hbm := Grow.none (by assumption) hbn.2.2.2 | have hbm := Grow.none (by assumption) hbn.2.2.2.2 | have hbm := Grow.none (by assumption) hbn.2.2.2.2.2)); (try simp only [set_none'] at hbm)) | ((first | refine condS_i ?_ ?_ | refine pick_i ?_ ?_ | refine gS_it ?_ ?_ | refine gS_if ?_ ?_ | refine gP_it ?_ ?_ | refine gP_if ?_ ?_) <;> (intro hc; try simp only [Int.reduceLE,Int.reduceLT,Int.reduceEq,Sn] at hc)) | (with_reducible refine KP_i ?_ ?_; · (repeat' (first | exact Heap.Le.refl _ | (with_reducible refine Le_set2 ?_) | (refine Le_known (by first | (simp only [Heap.set_same, set_ne, ne_eq, not_false_eq_true, *] <;> rfl) | fail) ?_) | (refine Le_fresh (by first | (simp only [*] <;> done) | (simp [set_none', Heap.set_same, set_ne, noneH, *] <;> done) | fail) ?_) | (refine Heap.Le.trans ?_ (Grow.le (by assumption))) | exact Le_none | (refine Le_put ?_ (by first | (simp only [Heap.set_same, set_ne, ne_eq, not_false_eq_true, *] <;> rfl) | fail)) | fail))) | (with_reducible refine And.intro ?_ ?_)) <;> (try simp only [Sq,Sr,Sh,Si,Sl,Bu,Bb,Bd,Bc,Bw,Bn,Int.reduceAdd,Int.reduceSub,Int.reduceMul,Int.reduceTDiv,Int.reduceTMod,Int.reduceMod,Int.reduceDiv,Nat.reduceLT,Nat.reduceEqDiff,Sa,Sb,Sc,Sd,Se,Sf,Sg,Int.reduceLE,Int.reduceLT,Int.reduceToNat,Int.reduceNeg,Int.reduceEq,Nat.reduceLeDiff,Nat.reducePow,Int.reducePow,reduceIte,Nat.reduceSub,Nat.reduceAdd,Nat.reduceMul,putAt,ceq,List.replicate, *]))
  (all_goals (try simp only [Sq,Sr,Sh,Si,Sl,Bu,Bb,Bd,Bc,Bw,Bn,Int.reduceAdd,Int.reduceSub,Int.reduceMul,Int.reduceTDiv,Int.reduceTMod,Int.reduceMod,Int.reduceDiv,Nat.reduceLT,Nat.reduceEqDiff,Sa,Sb,Sc,Sd,Se,Sf,Sg,Int.reduceLE,Int.reduceLT,Int.reduceToNat,Int.reduceNeg,Int.reduceEq,Nat.reduceLeDiff,Nat.reducePow,Int.reducePow,reduceIte,Nat.reduceSub,Nat.reduceAdd,Nat.reduceMul,putAt,ceq,List.replicate, *])); repeat' ((first | (with_reducible refine fun _ : True => ?_) | refine c_Take 10 0 3 (by simp only [Heap.set_same, set_ne, ne_eq, not_false_eq_true, *] <;> rfl) (by decide) (fun h => absurd h (by decide)) (fun h => absurd h (by decide)) (fun _ _ => ?_)  | (with_reducible refine any_h ?_) | ((first | refine AllocQ_i ?_ | refine AllocO_i ?_); intro bk hb0 hbk; (try simp only [set_none'] at hbk); (try (first | have hbn := Grow.none (by assumption) hbk | have hbn := Grow.none (by assumption) hbk.2 | have hbn := Grow.none (by assumption) hbk.2.2 | have hbn := Grow.none (by assumption) hbk.2.2.2 | have hbn := Grow.none (by assumption) hbk.2.2.2.2 | have hbn := Grow.none (by assumption) hbk.2.2.2.2.2)); (try simp only [set_none'] at hbn); (try (first | have hbm := Grow.none (by assumption) hbn | have hbm := Grow.none (by assumption) hbn.2 | have hbm := Grow.none (by assumption) hbn.2.2 | have hbm := Grow.none (by assumption) hbn.2.2.2 | have hbm := Grow.none (by assumption) hbn.2.2.2.2 | have hbm := Grow.none (by assumption) hbn.2.2.2.2.2)); (try simp only [set_none'] at hbm)) | ((first | refine condS_i ?_ ?_ | refine pick_i ?_ ?_ | refine gS_it ?_ ?_ | refine gS_if ?_ ?_ | refine gP_it ?_ ?_ | refine gP_if ?_ ?_) <;> (intro hc; try simp only [Int.reduceLE,Int.reduceLT,Int.reduceEq,Sn] at hc)) | (with_reducible refine KP_i ?_ ?_; · (repeat' (first | exact Heap.Le.refl _ | (with_reducible refine Le_set2 ?_) | (refine Le_known (by first | (simp only [Heap.set_same, set_ne, ne_eq, not_false_eq_true, *] <;> rfl) | fail) ?_) | (refine Le_fresh (by first | (simp only [*] <;> done) | (simp [set_none', Heap.set_same, set_ne, noneH, *] <;> done) | fail) ?_) | (refine Heap.Le.trans ?_ (Grow.le (by assumption))) | exact Le_none | (refine Le_put ?_ (by first | (simp only [Heap.set_same, set_ne, ne_eq, not_false_eq_true, *] <;> rfl) | fail)) | fail))) | (with_reducible refine And.intro ?_ ?_)) <;> (try simp only [Sq,Sr,Sh,Si,Sl,Bu,Bb,Bd,Bc,Bw,Bn,Int.reduceAdd,Int.reduceSub,Int.reduceMul,Int.reduceTDiv,Int.reduceTMod,Int.reduceMod,Int.reduceDiv,Nat.reduceLT,Nat.reduceEqDiff,Sa,Sb,Sc,Sd,Se,Sf,Sg,Int.reduceLE,Int.reduceLT,Int.reduceToNat,Int.reduceNeg,Int.reduceEq,Nat.reduceLeDiff,Nat.reducePow,Int.reducePow,reduceIte,Nat.reduceSub,Nat.reduceAdd,Nat.reduceMul,putAt,ceq,List.replicate, *]))
  (all_goals (try simp only [Sq,Sr,Sh,Si,Sl,Bu,Bb,Bd,Bc,Bw,Bn,Int.reduceAdd,Int.reduceSub,Int.reduceMul,Int.reduceTDiv,Int.reduceTMod,Int.reduceMod,Int.reduceDiv,Nat.reduceLT,Nat.reduceEqDiff,Sa,Sb,Sc,Sd,Se,Sf,Sg,Int.reduceLE,Int.reduceLT,Int.reduceToNat,Int.reduceNeg,Int.reduceEq,Nat.reduceLeDiff,Nat.reducePow,Int.reducePow,reduceIte,Nat.reduceSub,Nat.reduceAdd,Nat.reduceMul,putAt,ceq,List.replicate, *])); repeat' ((first | (with_reducible refine fun _ : True => ?_) | (with_reducible refine any_h ?_) | ((first | refine AllocQ_i ?_ | refine AllocO_i ?_); intro bk hb0 hbk; (try simp only [set_none'] at hbk); (try (first | have hbn := Grow.none (by assumption) hbk | have hbn := Grow.none (by assumption) hbk.2 | have hbn := Grow.none (by assumption) hbk.2.2 | have hbn := Grow.none (by assumption) hbk.2.2.2 | have hbn := Grow.none (by assumption) hbk.2.2.2.2 | have hbn := Grow.none (by assumption) hbk.2.2.2.2.2)); (try simp only [set_none'] at hbn); (try (first | have hbm := Grow.none (by assumption) hbn | have hbm := Grow.none (by assumption) hbn.2 | have hbm := Grow.none (by assumption) hbn.2.2 | have hbm := Grow.none (by assumption) hbn.2.2.2 | have hbm := Grow.none (by assumption) hbn.2.2.2.2 | have hbm := Grow.none (by assumption) hbn.2.2.2.2.2)); (try simp only [set_none'] at hbm)) | ((first | refine condS_i ?_ ?_ | refine pick_i ?_ ?_ | refine gS_it ?_ ?_ | refine gS_if ?_ ?_ | refine gP_it ?_ ?_ | refine gP_if ?_ ?_) <;> (intro hc; try simp only [Int.reduceLE,Int.reduceLT,Int.reduceEq,Sn] at hc)) | (with_reducible refine KP_i ?_ ?_; · (repeat' (first | exact Heap.Le.refl _ | (with_reducible refine Le_set2 ?_) | (refine Le_known (by first | (simp only [Heap.set_same, set_ne, ne_eq, not_false_eq_true, *] <;> rfl) | fail) ?_) | (refine Le_fresh (by first | (simp only [*] <;> done) | (simp [set_none', Heap.set_same, set_ne, noneH, *] <;> done) | fail) ?_) | (refine Heap.Le.trans ?_ (Grow.le (by assumption))) | exact Le_none | (refine Le_put ?_ (by first | (simp only [Heap.set_same, set_ne, ne_eq, not_false_eq_true, *] <;> rfl) | fail)) | fail))) | (with_reducible refine And.intro ?_ ?_)) <;> (try simp only [Sq,Sr,Sh,Si,Sl,Bu,Bb,Bd,Bc,Bw,Bn,Int.reduceAdd,Int.reduceSub,Int.reduceMul,Int.reduceTDiv,Int.reduceTMod,Int.reduceMod,Int.reduceDiv,Nat.reduceLT,Nat.reduceEqDiff,Sa,Sb,Sc,Sd,Se,Sf,Sg,Int.reduceLE,Int.reduceLT,Int.reduceToNat,Int.reduceNeg,Int.reduceEq,Nat.reduceLeDiff,Nat.reducePow,Int.reducePow,reduceIte,Nat.reduceSub,Nat.reduceAdd,Nat.reduceMul,putAt,ceq,List.replicate, *]))
  rename_i e1 he0 hen hen'
  have q1 := fun {x : Nat} {y : Blk} (h : H1 x = some y) => ne_new h hbk.2.2
  have q2 := fun {x : Nat} {y : Blk} (h : H1 x = some y) => ne_new h hen.2
  have q3 := q1 ed
  have q4 := q1 em
  have q5 := q1 es
  have q6 := q2 ed
  have q7 := q2 em
  have q8 := q2 es
  clear q1 q2
  refine c_Concat [1, 2, 3] (by simp only [Heap.set_same, set_ne, ne_eq, not_false_eq_true, *] <;> rfl) (SlAt.toInts (SlAt.blk (z := []) (by simp only [Heap.set_same, set_ne, ne_eq, not_false_eq_true, *] <;> rfl))) (by decide) (fun a' c' G hB hlc hg => ?_)
  have gb : G b = some _ := hg.some (by simp only [Heap.set_same, set_ne, ne_eq, not_false_eq_true, *] <;> rfl)
  have gs : G s = some _ := hg.some (by simp only [Heap.set_same, set_ne, ne_eq, not_false_eq_true, *] <;> rfl)
  have gm : G m = some ⟨.o (.map #[] 0), []⟩ := hg.some (by simp only [Heap.set_same, set_ne, ne_eq, not_false_eq_true, *] <;> rfl)
  have gd : G d = some _ := hg.some (by simp only [Heap.set_same, set_ne, ne_eq, not_false_eq_true, *] <;> rfl)
  have hB' := hB.resolve_right (fun h => by cases h.2)
  obtain ⟨x, z, rfl, hx0, hxn, hxx, -⟩ := hB'
  have xm : x ≠ m := fun e => by subst e; rw [gm] at hxx; cases hxx
  have hc3 : 3 ≤ c' := hlc
  (all_goals (try simp only [Sq,Sr,Sh,Si,Sl,Bu,Bb,Bd,Bc,Bw,Bn,Int.reduceAdd,Int.reduceSub,Int.reduceMul,Int.reduceTDiv,Int.reduceTMod,Int.reduceMod,Int.reduceDiv,Nat.reduceLT,Nat.reduceEqDiff,Sa,Sb,Sc,Sd,Se,Sf,Sg,Int.reduceLE,Int.reduceLT,Int.reduceToNat,Int.reduceNeg,Int.reduceEq,Nat.reduceLeDiff,Nat.reducePow,Int.reducePow,reduceIte,Nat.reduceSub,Nat.reduceAdd,Nat.reduceMul,putAt,ceq,List.replicate, *])); repeat' ((first | (with_reducible refine fun _ : True => ?_) | refine mup_empty (by decide) gm ?_ | refine Fin_mk (Heap.Le.refl _) ?_ | (with_reducible refine any_h ?_) | ((first | refine AllocQ_i ?_ | refine AllocO_i ?_); intro bk hb0 hbk; (try simp only [set_none'] at hbk); (try (first | have hbn := Grow.none (by assumption) hbk | have hbn := Grow.none (by assumption) hbk.2 | have hbn := Grow.none (by assumption) hbk.2.2 | have hbn := Grow.none (by assumption) hbk.2.2.2 | have hbn := Grow.none (by assumption) hbk.2.2.2.2 | have hbn := Grow.none (by assumption) hbk.2.2.2.2.2)); (try simp only [set_none'] at hbn); (try (first | have hbm := Grow.none (by assumption) hbn | have hbm := Grow.none (by assumption) hbn.2 | have hbm := Grow.none (by assumption) hbn.2.2 | have hbm := Grow.none (by assumption) hbn.2.2.2 | have hbm := Grow.none (by assumption) hbn.2.2.2.2 | have hbm := Grow.none (by assumption) hbn.2.2.2.2.2)); (try simp only [set_none'] at hbm)) | ((first | refine condS_i ?_ ?_ | refine pick_i ?_ ?_ | refine gS_it ?_ ?_ | refine gS_if ?_ ?_ | refine gP_it ?_ ?_ | refine gP_if ?_ ?_) <;> (intro hc; try simp only [Int.reduceLE,Int.reduceLT,Int.reduceEq,Sn] at hc)) | (with_reducible refine KP_i ?_ ?_; · (repeat' (first | exact Heap.Le.refl _ | (with_reducible refine Le_set2 ?_) | (refine Le_known (by first | (simp only [Heap.set_same, set_ne, ne_eq, not_false_eq_true, *] <;> rfl) | fail) ?_) | (refine Le_fresh (by first | (simp only [*] <;> done) | (simp [set_none', Heap.set_same, set_ne, noneH, *] <;> done) | fail) ?_) | (refine Heap.Le.trans ?_ (Grow.le (by assumption))) | exact Le_none | (refine Le_put ?_ (by first | (simp only [Heap.set_same, set_ne, ne_eq, not_false_eq_true, *] <;> rfl) | fail)) | fail))) | (with_reducible refine And.intro ?_ ?_)) <;> (try simp only [Sq,Sr,Sh,Si,Sl,Bu,Bb,Bd,Bc,Bw,Bn,Int.reduceAdd,Int.reduceSub,Int.reduceMul,Int.reduceTDiv,Int.reduceTMod,Int.reduceMod,Int.reduceDiv,Nat.reduceLT,Nat.reduceEqDiff,Sa,Sb,Sc,Sd,Se,Sf,Sg,Int.reduceLE,Int.reduceLT,Int.reduceToNat,Int.reduceNeg,Int.reduceEq,Nat.reduceLeDiff,Nat.reducePow,Int.reducePow,reduceIte,Nat.reduceSub,Nat.reduceAdd,Nat.reduceMul,putAt,ceq,List.replicate, *]))
  refine hcalls_heap ?_
  intro H2 eH2
  have fs : H2 s = some _ := at_of eH2 ((Heap.set_other _ _ n6).trans gs)
  have fb : H2 b = some _ := at_of eH2 ((Heap.set_other _ _ n2).trans gb)
  have fx : H2 x = some _ := at_of eH2 ((Heap.set_other _ _ xm).trans hxx)
  have fm : H2 m = some ⟨.o (.map _ 1), []⟩ := at_of eH2 (Heap.set_same _ _ _)
  have l2 : Heap.Le H H2 := by rw [eH2]; exact (by (repeat' (first | exact Heap.Le.refl _ | (with_reducible refine Le_set2 ?_) | (refine Le_known (by first | (simp only [Heap.set_same, set_ne, ne_eq, not_false_eq_true, *] <;> rfl) | fail) ?_) | (refine Le_fresh (by first | (simp only [*] <;> done) | (simp [set_none', Heap.set_same, set_ne, noneH, *] <;> done) | fail) ?_) | (refine Heap.Le.trans ?_ (Grow.le (by assumption))) | exact Le_none | (refine Le_put ?_ (by first | (simp only [Heap.set_same, set_ne, ne_eq, not_false_eq_true, *] <;> rfl) | fail)) | fail)))
  have hI : IntsAt w0 H2 .u8 (some ⟨x, 0, none⟩) [1, 2, 3] := SlAt.toInts (SlAt.blk (z := z) fx)
  have hI2 : IntsAt w0 H2 .u8 (some ⟨x, 1, none⟩) [2, 3] := IntsAt.sub hI 1 2 (by decide)
  have hc5 : ¬ c' = 1 := by omega
  have f1 : HL.rd1 w0 H2 s 1 = some _ := rd1_at fs rfl
  have hc4 : (3 : Int) ≤ (c' : Int) := by omega
  clear eH2 gs gb gm gd hxx hxn hx0 hB hg hbk hb0 hbn hen hen' he0 q3 q4 q5 q6 q7 q8 g1 eb em es ed s0 s1 n1 n3 n4 n5 n7 nH mH xm hlc n2 n6
  replace hI : Keep _ := hI
  replace hI2 : Keep _ := hI2
  replace fx : Keep _ := fx
  (all_goals (try simp only [Sq,Sr,Sh,Si,Sl,Bu,Bb,Bd,Bc,Bw,Bn,Int.reduceAdd,Int.reduceSub,Int.reduceMul,Int.reduceTDiv,Int.reduceTMod,Int.reduceMod,Int.reduceDiv,Nat.reduceLT,Nat.reduceEqDiff,Sa,Sb,Sc,Sd,Se,Sf,Sg,Int.reduceLE,Int.reduceLT,Int.reduceToNat,Int.reduceNeg,Int.reduceEq,Nat.reduceLeDiff,Nat.reducePow,Int.reducePow,reduceIte,Nat.reduceSub,Nat.reduceAdd,Nat.reduceMul,putAt,ceq,List.replicate, *])); repeat' ((first | (with_reducible refine fun _ : True => ?_) | refine HL.hc (kpb kG) 999 ?_ | refine HL.hc (kpb kF) 999 ?_ | refine HL.hc (kpb kW) 999 ?_ | refine lkp_hit (by decide) fm ?_ | refine c_cloneB _ _ [2, 3] (kpb hI2) (by decide) (fun a3 c3 G3 hB3 hlc3 hg3 => ?_)  | refine Fin_mk (Heap.Le.refl _) ?_ | (with_reducible refine any_h ?_) | ((first | refine AllocQ_i ?_ | refine AllocO_i ?_); intro bk hb0 hbk; (try simp only [set_none'] at hbk); (try (first | have hbn := Grow.none (by assumption) hbk | have hbn := Grow.none (by assumption) hbk.2 | have hbn := Grow.none (by assumption) hbk.2.2 | have hbn := Grow.none (by assumption) hbk.2.2.2 | have hbn := Grow.none (by assumption) hbk.2.2.2.2 | have hbn := Grow.none (by assumption) hbk.2.2.2.2.2)); (try simp only [set_none'] at hbn); (try (first | have hbm := Grow.none (by assumption) hbn | have hbm := Grow.none (by assumption) hbn.2 | have hbm := Grow.none (by assumption) hbn.2.2 | have hbm := Grow.none (by assumption) hbn.2.2.2 | have hbm := Grow.none (by assumption) hbn.2.2.2.2 | have hbm := Grow.none (by assumption) hbn.2.2.2.2.2)); (try simp only [set_none'] at hbm)) | ((first | refine condS_i ?_ ?_ | refine pick_i ?_ ?_ | refine gS_it ?_ ?_ | refine gS_if ?_ ?_ | refine gP_it ?_ ?_ | refine gP_if ?_ ?_) <;> (intro hc; try simp only [Int.reduceLE,Int.reduceLT,Int.reduceEq,Sn] at hc)) | (with_reducible refine KP_i ?_ ?_; · (repeat' (first | exact Heap.Le.refl _ | (with_reducible refine Le_set2 ?_) | (refine Le_known (by first | (simp only [Heap.set_same, set_ne, ne_eq, not_false_eq_true, *] <;> rfl) | fail) ?_) | (refine Le_fresh (by first | (simp only [*] <;> done) | (simp [set_none', Heap.set_same, set_ne, noneH, *] <;> done) | fail) ?_) | (refine Heap.Le.trans ?_ (Grow.le (by assumption))) | exact Le_none | (refine Le_put ?_ (by first | (simp only [Heap.set_same, set_ne, ne_eq, not_false_eq_true, *] <;> rfl) | fail)) | fail))) | (with_reducible refine And.intro ?_ ?_)) <;> (try simp only [Sq,Sr,Sh,Si,Sl,Bu,Bb,Bd,Bc,Bw,Bn,Int.reduceAdd,Int.reduceSub,Int.reduceMul,Int.reduceTDiv,Int.reduceTMod,Int.reduceMod,Int.reduceDiv,Nat.reduceLT,Nat.reduceEqDiff,Sa,Sb,Sc,Sd,Se,Sf,Sg,Int.reduceLE,Int.reduceLT,Int.reduceToNat,Int.reduceNeg,Int.reduceEq,Nat.reduceLeDiff,Nat.reducePow,Int.reducePow,reduceIte,Nat.reduceSub,Nat.reduceAdd,Nat.reduceMul,putAt,ceq,List.replicate, *]))
  all_goals first | exact (Bool.false_ne_true hc).elim | skip
  have hB3' := hB3.resolve_right (fun h => by cases h.2)
  obtain ⟨x3, z3, rfl, -, -, hx3, -⟩ := hB3'
  have y1 : HL.rd1 w0 G3 x3 0 = some (.int .u8 2) := rd1_at hx3 rfl
  have fb3 := hg3.some fb
  have l3 : Heap.Le H G3 := l2.trans hg3.le
  clear hI hI2 fx fs fm fb f1 hB3 hx3 hg3 l2 hc3 hc4 hc5 hlc3
  (all_goals (try simp only [Sq,Sr,Sh,Si,Sl,Bu,Bb,Bd,Bc,Bw,Bn,Int.reduceAdd,Int.reduceSub,Int.reduceMul,Int.reduceTDiv,Int.reduceTMod,Int.reduceMod,Int.reduceDiv,Nat.reduceLT,Nat.reduceEqDiff,Sa,Sb,Sc,Sd,Se,Sf,Sg,Int.reduceLE,Int.reduceLT,Int.reduceToNat,Int.reduceNeg,Int.reduceEq,Nat.reduceLeDiff,Nat.reducePow,Int.reducePow,reduceIte,Nat.reduceSub,Nat.reduceAdd,Nat.reduceMul,putAt,ceq,List.replicate, *])); repeat' ((first | (with_reducible refine fun _ : True => ?_) | refine c_Left 10 3 fb3 (by decide) ?_ | (with_reducible refine any_h ?_) | ((first | refine AllocQ_i ?_ | refine AllocO_i ?_); intro bk hb0 hbk; (try simp only [set_none'] at hbk); (try (first | have hbn := Grow.none (by assumption) hbk | have hbn := Grow.none (by assumption) hbk.2 | have hbn := Grow.none (by assumption) hbk.2.2 | have hbn := Grow.none (by assumption) hbk.2.2.2 | have hbn := Grow.none (by assumption) hbk.2.2.2.2 | have hbn := Grow.none (by assumption) hbk.2.2.2.2.2)); (try simp only [set_none'] at hbn); (try (first | have hbm := Grow.none (by assumption) hbn | have hbm := Grow.none (by assumption) hbn.2 | have hbm := Grow.none (by assumption) hbn.2.2 | have hbm := Grow.none (by assumption) hbn.2.2.2 | have hbm := Grow.none (by assumption) hbn.2.2.2.2 | have hbm := Grow.none (by assumption) hbn.2.2.2.2.2)); (try simp only [set_none'] at hbm)) | ((first | refine condS_i ?_ ?_ | refine pick_i ?_ ?_ | refine gS_it ?_ ?_ | refine gS_if ?_ ?_ | refine gP_it ?_ ?_ | refine gP_if ?_ ?_) <;> (intro hc; try simp only [Int.reduceLE,Int.reduceLT,Int.reduceEq,Sn] at hc)) | (with_reducible refine KP_i ?_ ?_; · (repeat' (first | exact Heap.Le.refl _ | (with_reducible refine Le_set2 ?_) | (refine Le_known (by first | (simp only [Heap.set_same, set_ne, ne_eq, not_false_eq_true, *] <;> rfl) | fail) ?_) | (refine Le_fresh (by first | (simp only [*] <;> done) | (simp [set_none', Heap.set_same, set_ne, noneH, *] <;> done) | fail) ?_) | (refine Heap.Le.trans ?_ (Grow.le (by assumption))) | exact Le_none | (refine Le_put ?_ (by first | (simp only [Heap.set_same, set_ne, ne_eq, not_false_eq_true, *] <;> rfl) | fail)) | fail))) | (with_reducible refine And.intro ?_ ?_)) <;> (try simp only [Sq,Sr,Sh,Si,Sl,Bu,Bb,Bd,Bc,Bw,Bn,Int.reduceAdd,Int.reduceSub,Int.reduceMul,Int.reduceTDiv,Int.reduceTMod,Int.reduceMod,Int.reduceDiv,Nat.reduceLT,Nat.reduceEqDiff,Sa,Sb,Sc,Sd,Se,Sf,Sg,Int.reduceLE,Int.reduceLT,Int.reduceToNat,Int.reduceNeg,Int.reduceEq,Nat.reduceLeDiff,Nat.reducePow,Int.reducePow,reduceIte,Nat.reduceSub,Nat.reduceAdd,Nat.reduceMul,putAt,ceq,List.replicate, *]))
  exact Fin_mk l3 (kpb h)
end Go.Proofs.Ytgbcakebmpgghaa
