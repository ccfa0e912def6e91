/- The statement on levels that are put, as a call (layer 8). -/
import Derived.Test.YtdaipgnhconfnaaIog
import Derived.Test.YtdaipgnhconfnaaInk
import Derived.Test.YtdaipgnhconfnaaWk8
set_option linter.unusedSimpArgs false
set_option linter.unusedVariables false
set_option maxRecDepth 100000
set_option maxHeartbeats 8000000
namespace Go.Proofs.Ytdaipgnhconfnaa
open Go Go.HL Go.RowKit Pb
variable {w0 : World} {H G : Heap} {K : Value → Heap → Prop}

theorem app_fit {b n m cap xc by_ sz : Nat} {xa : Option Addr} {ty : TypeId} {zero cs ns z : List Value} (hb : G b = some ⟨ty, cs ++ z⟩) (hn : cs.length = n * sz) (hx : srd w0 G xa (m * sz) = some ns) (hle : n + m ≤ cap) (hz : ns.length ≤ z.length) (ho : ns.all Value.oneCell' = true)
    (hm : (n + m) * by_ ≤ 140737488355328 ∧ n + m ≤ 9223372036854775807) (h : K (.slice (some ⟨b, 0, none⟩) (n + m) cap) (G.set b ⟨ty, cs ++ ns ++ z.drop ns.length⟩)) :
    appQ w0 G K ty sz by_ zero (.slice (some ⟨b, 0, none⟩) n cap) (.slice xa m xc) := by
  unfold appQ
  simp only [hx, optQ]
  refine ⟨hm.1, hm.2, fun _ => ?_, fun h' => by omega⟩
  unfold layQ
  by_cases he : ns = []
  · rw [if_pos he]
    rw [he, List.append_nil, List.length_nil, List.drop_zero, Heap.set_id G b _ hb] at h
    exact h
  · rw [if_neg he]
    simp only [hb, optQ]
    refine ⟨ho, by rw [← hn]; simp only [List.length_append]; omega, ?_⟩
    rw [Nat.zero_add, ← hn, putAt_end cs ns z hz]
    exact h
theorem slc_pre {φ : Value → Prop} {z n c : Nat} {a : Option Addr} {k : IntKind} {h : Int} (h0 : 0 ≤ h) (h1 : h ≤ c) (hφ : φ (.slice a h.toNat c)) : slcQ φ z (.slice a n c) none (some (.int k h)) := by
  rcases a with _ | ⟨b, o, _ | s⟩ <;> exact ⟨h0, h1, hφ⟩
theorem slTake {a : Option Addr} {cs : List Value} (h : SlAt w0 H a cs) (k : Nat) : SlAt w0 H a (cs.take k) := fun hc => by
  obtain ⟨b, o, ha, hr⟩ := h (fun e => hc (by rw [e]; simp))
  refine ⟨b, o, ha, fun i hi => ?_⟩
  rw [List.length_take] at hi
  rw [List.getElem?_take, if_pos (by omega)]
  exact hr i (by omega)
theorem ints_take {k : IntKind} {a : Option Addr} {l : List Int} (h : IntsAt w0 H k a l) (q : Nat) : IntsAt w0 H k a (l.take q) := by
  apply SlAt.toInts
  rw [List.map_take]
  exact slTake (SlAt.ints h) q

theorem Meet_p {A : Type} {T : List Value} {p : Nat} {w : A × Heap → List (Nat × Value)} {ok : A × Heap → Prop} {T' : List Value} {H' : Heap} (a : A) (ok' : ok (a, H'))
    (e : T'.take p = (sts T (w (a, H'))).take p) (l : (T'.drop p).length = (T.drop p).length) : Meet T p w (fun s => s.2) ok T' H' := ⟨(a, H'), e, l, rfl, ok'⟩
theorem root4n {G : Heap} {a b c d : Nat} {x y z u : Blk} (h1 : G a = some x) (h2 : G b = some y) (h3 : G c = some z) (h4 : G d = some u) : G = (((G.set a x).set b y).set c z).set d u := by
  rw [Heap.set_id G a _ h1, Heap.set_id G b _ h2, Heap.set_id G c _ h3, Heap.set_id G d _ h4]
theorem root5n {G : Heap} {a b c d e : Nat} {x y z u v : Blk} (h1 : G a = some x) (h2 : G b = some y) (h3 : G c = some z) (h4 : G d = some u) (h5 : G e = some v) : G = ((((G.set a x).set b y).set c z).set d u).set e v := by
  rw [Heap.set_id G a _ h1, Heap.set_id G b _ h2, Heap.set_id G c _ h3, Heap.set_id G d _ h4, Heap.set_id G e _ h5]
theorem root6n {G : Heap} {a b c d e f : Nat} {x y z u v w : Blk} (h1 : G a = some x) (h2 : G b = some y) (h3 : G c = some z) (h4 : G d = some u) (h5 : G e = some v) (h6 : G f = some w) : G = (((((G.set a x).set b y).set c z).set d u).set e v).set f w := by
  rw [Heap.set_id G a _ h1, Heap.set_id G b _ h2, Heap.set_id G c _ h3, Heap.set_id G d _ h4, Heap.set_id G e _ h5, Heap.set_id G f _ h6]
theorem any_pre {rec : List It → List Value → Heap → Prop} {f : (Nat → Heap) → It} {k : List It} {T : List Value} (m : Nat) (h : rec (f (fun i => if i < m then H else noneH) :: k) T H) : AnyQ rec f k T H :=
  ⟨fun i => if i < m then H else noneH, fun i => by dsimp only; split <;> first | exact Heap.Le.refl _ | exact Le_none, h⟩
theorem KP_pa {rec : List It → List Value → Heap → Prop} {st : List It} {T : List Value} {d : Option Tmp} {A : Heap} {ds : List Nat} {v : Value} {m : Nat} (hd : ds.all (fun i => decide (m ≤ i)) = true) (h : rec st (put T d v) H) : KP rec st T d (fun i => if i < m then A else noneH) ds v H := by
  refine ⟨fun f hf => ?_, h⟩
  have := of_decide_eq_true (List.all_eq_true.1 hd f hf)
  dsimp only
  rw [if_neg (by omega)]
  exact Le_none
theorem KP_pb {rec : List It → List Value → Heap → Prop} {st : List It} {T : List Value} {d : Option Tmp} {ds : List Nat} {v : Value} {m : Nat} (h : rec st (put T d v) H) : KP rec st T d (fun i => if i < m then H else noneH) ds v H := by
  refine ⟨fun f hf => ?_, h⟩
  dsimp only
  split
  · exact Heap.Le.refl _
  · exact Le_none
theorem anyq_heap {rec : List It → List Value → Heap → Prop} {f : (Nat → Heap) → It} {k : List It} {T : List Value} (h : ∀ G, G = H → AnyQ rec f k T G) : AnyQ rec f k T H := h H rfl
abbrev ub (l : List Int) : List Value := l.map fun x => .int .u8 x
theorem own1 {bo n xc : Nat} {xa : Option Addr} {l : List Int} (hb : G bo = some ⟨.t 5, zeroL [.int .u8 0] (n + 2)⟩) (hA : IntsAt w0 G .u8 xa l) (hn : l.length = n) (hle : n ≤ 20000)
    (h : K (.slice (some ⟨bo, 0, none⟩) n (n + 2)) (G.set bo ⟨.t 5, ub l ++ [.int .u8 0, .int .u8 0]⟩)) : appQ w0 G K 5 1 1 [.int .u8 0] (.slice (some ⟨bo, 0, none⟩) 0 (n + 2)) (.slice xa n xc) := by
  have hs := (SlAt.ints hA).srd
  rw [List.length_map, hn] at hs
  have hd : (zeroL [Value.int .u8 0] (n + 2)).drop (ub l).length = [.int .u8 0, .int .u8 0] := by rw [zeroL_one, List.drop_replicate, List.length_map, hn]; simp [List.replicate]
  refine app_fit (cs := []) (ns := ub l) (z := zeroL [.int .u8 0] (n + 2)) hb rfl (by rw [Nat.mul_one]; exact hs) (by omega) (by rw [zeroL_one, List.length_replicate, List.length_map, hn]; omega) (by simp [Value.oneCell']) ⟨by omega, by omega⟩ ?_
  rw [hd, Nat.zero_add]
  exact h
theorem own2 {bo bk n xc : Nat} {l : List Int} (hb : G bo = some ⟨.t 5, ub l ++ [.int .u8 0, .int .u8 0]⟩) (h7 : G bk = some ⟨.t 5, [.int .u8 7]⟩) (hn : l.length = n) (hle : n ≤ 20000)
    (h : K (.slice (some ⟨bo, 0, none⟩) (n + 1) (n + 2)) (G.set bo ⟨.t 5, ub l ++ [.int .u8 7, .int .u8 0]⟩)) : appQ w0 G K 5 1 1 [.int .u8 0] (.slice (some ⟨bo, 0, none⟩) n (n + 2)) (.slice (some ⟨bk, 0, none⟩) 1 xc) := by
  refine app_fit (cs := ub l) (ns := [.int .u8 7]) (z := [.int .u8 0, .int .u8 0]) hb (by rw [List.length_map, hn, Nat.mul_one]) (srd_blk (n := 1 * 1) h7 rfl) (by omega) (by simp) (by simp [Value.oneCell']) ⟨by omega, by omega⟩ ?_
  have : ub l ++ [Value.int .u8 7] ++ ([Value.int .u8 0, .int .u8 0].drop [Value.int .u8 7].length) = ub l ++ [.int .u8 7, .int .u8 0] := by simp
  rw [this]
  exact h
def A5_1 : PT := (.one true 0 [] ⟨(some 29), .fa 2 (.tmp 3), none⟩ (.one true 1 [] ⟨(some 30), .fa 2 (.tmp 29), none⟩ (.one true 2 [] ⟨(some 31), .ld1 (.tmp 30), none⟩ (.one true 3 [] ⟨(some 32), .len (.tmp 31), none⟩ (.one true 4 [] ⟨(some 33), .bin .add (.tmp 32) (.const (.int .i64 2)), none⟩ (.one true 6 [] ⟨(some 35), .fa 2 (.tmp 3), none⟩ (.one true 7 [] ⟨(some 36), .fa 2 (.tmp 35), none⟩ (.one true 8 [] ⟨(some 37), .ld1 (.tmp 36), none⟩ (.alt (.one false 5 [6, 7, 8] ⟨(some 34), .mks 5 1 [(.int .u8 0)] (.const (.int .i64 0)) (.tmp 33), none⟩ (.alt (.one false 9 [] ⟨(some 38), .app 5 1 1 [(.int .u8 0)] (.tmp 34) (.tmp 37), none⟩ (.one false 10 [] ⟨(some 39), .bslice 5 1 [(.int .u8 0)] [(0, 1, (.const (.int .u8 7)))], none⟩ (.one false 11 [] ⟨(some 40), .app 5 1 1 [(.int .u8 0)] (.tmp 38) (.tmp 39), none⟩ (.one false 12 [] ⟨(some 6), .mv (.tmp 40), none⟩ .nil))))
      (.one false 10 [6, 7, 8] ⟨(some 39), .bslice 5 1 [(.int .u8 0)] [(0, 1, (.const (.int .u8 7)))], none⟩ (.one false 9 [] ⟨(some 38), .app 5 1 1 [(.int .u8 0)] (.tmp 34) (.tmp 37), none⟩ (.one false 11 [] ⟨(some 40), .app 5 1 1 [(.int .u8 0)] (.tmp 38) (.tmp 39), none⟩ (.one false 12 [] ⟨(some 6), .mv (.tmp 40), none⟩ .nil))))))
      (.one false 10 [0, 1, 2, 3, 4, 6, 7, 8] ⟨(some 39), .bslice 5 1 [(.int .u8 0)] [(0, 1, (.const (.int .u8 7)))], none⟩ (.one false 5 [6, 7, 8] ⟨(some 34), .mks 5 1 [(.int .u8 0)] (.const (.int .i64 0)) (.tmp 33), none⟩ (.one false 9 [] ⟨(some 38), .app 5 1 1 [(.int .u8 0)] (.tmp 34) (.tmp 37), none⟩ (.one false 11 [] ⟨(some 40), .app 5 1 1 [(.int .u8 0)] (.tmp 38) (.tmp 39), none⟩ (.one false 12 [] ⟨(some 6), .mv (.tmp 40), none⟩ .nil))))))))))))))
/- paintboxlaw08 ImagePuts -/
def M5 : MC :=
  .seq (.reg [⟨(some 2), .box 24 (.tmp 0), none⟩,
 ⟨(some 3), .box 40 (.tmp 1), none⟩,
 ⟨(some 4), .mv (.const (.bool false)), none⟩])
 (.seq (.seq (.reg [⟨(some 12), .call 12 [], none⟩,
 ⟨(some 13), .un .not (.tmp 12), none⟩])
 (.cond (.tmp 13)
 (.seq (.reg [⟨(some 4), .mv (.const (.bool false)), none⟩])
 (.ret))
 (.skip)))
 (.seq (.reg [⟨(some 14), .ldn 6 (.tmp 2), none⟩,
 ⟨(some 15), .call 13 [(.tmp 14)], none⟩,
 ⟨none, .stn 6 (.tmp 2) (.tmp 15), none⟩])
 (.seq (.reg [⟨(some 16), .ldn 6 (.tmp 2), none⟩,
 ⟨(some 17), .call 14 [(.tmp 16)], none⟩,
 ⟨(some 5), .alloc 24 [(.int .i64 0), (.slice none 0 0), (.int .i64 0), (.int .i64 0), (.int .i64 0), (.int .i64 0)], none⟩,
 ⟨none, .stn 6 (.tmp 5) (.tmp 17), none⟩])
 (.seq (.reg [⟨(some 18), .fa 2 (.tmp 3), none⟩,
 ⟨(some 19), .fa 2 (.tmp 18), none⟩,
 ⟨(some 20), .ld1 (.tmp 19), none⟩,
 ⟨(some 21), .fa 2 (.tmp 3), none⟩,
 ⟨(some 22), .fa 2 (.tmp 21), none⟩,
 ⟨(some 23), .ld1 (.tmp 22), none⟩,
 ⟨(some 24), .len (.tmp 23), none⟩,
 ⟨(some 25), .mn (.tmp 24) (.const (.int .i64 20000)), none⟩,
 ⟨(some 26), .slc 1 (.tmp 20) none (some (.tmp 25)), none⟩,
 ⟨(some 27), .fa 2 (.tmp 3), none⟩,
 ⟨(some 28), .fa 2 (.tmp 27), none⟩,
 ⟨none, .st1 (.tmp 28) (.tmp 26), none⟩])
 (.seq (.alts A5_1)
 (.seq (.reg [⟨(some 41), .fa 2 (.tmp 3), none⟩,
 ⟨(some 42), .ldn 3 (.tmp 41), none⟩,
 ⟨(some 7), .alloc 38 [(.int .i64 0), (.int .i64 0), (.slice none 0 0)], none⟩,
 ⟨none, .stn 3 (.tmp 7) (.tmp 42), none⟩])
 (.seq (.reg [⟨(some 43), .mv (.tmp 6), none⟩,
 ⟨(some 44), .fa 2 (.tmp 3), none⟩,
 ⟨(some 45), .fa 2 (.tmp 44), none⟩,
 ⟨(some 46), .ld1 (.tmp 45), none⟩,
 ⟨(some 47), .len (.tmp 46), none⟩,
 ⟨(some 48), .slc 1 (.tmp 43) none (some (.tmp 47)), none⟩,
 ⟨(some 49), .fa 2 (.tmp 7), none⟩,
 ⟨none, .st1 (.tmp 49) (.tmp 48), none⟩])
 (.seq (.reg [⟨(some 51), .ldn 6 (.tmp 2), none⟩,
 ⟨(some 52), .fa 0 (.tmp 3), none⟩,
 ⟨(some 53), .ld1 (.tmp 52), none⟩,
 ⟨(some 54), .fa 1 (.tmp 3), none⟩,
 ⟨(some 55), .ld1 (.tmp 54), none⟩,
 ⟨(some 56), .ldn 3 (.tmp 7), none⟩,
 ⟨(some 57), .call 22 [(.tmp 51), (.tmp 53), (.tmp 55), (.tmp 56)], none⟩,
 ⟨(some 50), .mv (.tmp 57), none⟩,
 ⟨(some 58), .ext 0 (.tmp 50), none⟩,
 ⟨(some 59), .ext 1 (.tmp 50), none⟩,
 ⟨(some 8), .alloc 24 [(.int .i64 0), (.slice none 0 0), (.int .i64 0), (.int .i64 0), (.int .i64 0), (.int .i64 0)], none⟩,
 ⟨none, .stn 6 (.tmp 8) (.tmp 58), none⟩,
 ⟨(some 9), .mv (.tmp 59), none⟩])
 (.seq (.reg [⟨(some 61), .ldn 6 (.tmp 5), none⟩,
 ⟨(some 62), .fa 0 (.tmp 3), none⟩,
 ⟨(some 63), .ld1 (.tmp 62), none⟩,
 ⟨(some 64), .fa 1 (.tmp 3), none⟩,
 ⟨(some 65), .ld1 (.tmp 64), none⟩,
 ⟨(some 66), .fa 2 (.tmp 3), none⟩,
 ⟨(some 67), .ldn 3 (.tmp 66), none⟩,
 ⟨(some 68), .call 23 [(.tmp 61), (.tmp 63), (.tmp 65), (.tmp 67)], none⟩,
 ⟨(some 60), .mv (.tmp 68), none⟩,
 ⟨(some 69), .ext 0 (.tmp 60), none⟩,
 ⟨(some 70), .ext 1 (.tmp 60), none⟩,
 ⟨(some 10), .alloc 24 [(.int .i64 0), (.slice none 0 0), (.int .i64 0), (.int .i64 0), (.int .i64 0), (.int .i64 0)], none⟩,
 ⟨none, .stn 6 (.tmp 10) (.tmp 69), none⟩,
 ⟨(some 11), .mv (.tmp 70), none⟩])
 (.seq (.any [(true, 0, [], ⟨(some 71), .ldn 6 (.tmp 8), none⟩),
 (true, 1, [], ⟨(some 72), .ldn 6 (.tmp 10), none⟩),
 (true, 2, [], ⟨(some 73), .ldn 6 (.tmp 2), none⟩),
 (true, 3, [], ⟨(some 74), .ldn 6 (.tmp 5), none⟩),
 (true, 4, [], ⟨(some 75), .mv (.tmp 9), none⟩),
 (false, 5, [0, 1, 2, 3, 4, 8, 9, 10, 11, 12, 19], ⟨(some 76), .mv (.tmp 11), none⟩),
 (false, 6, [8, 9, 10, 11, 12, 19], ⟨(some 77), .call 17 [(.tmp 71), (.tmp 72), (.tmp 73), (.tmp 74), (.tmp 75), (.tmp 76)], none⟩),
 (false, 7, [8, 9, 10, 11, 12, 19], ⟨(some 78), .mv (.tmp 77), none⟩),
 (true, 8, [], ⟨(some 79), .mv (.tmp 6), (some (78, true))⟩),
 (true, 9, [], ⟨(some 80), .mv (.tmp 6), (some (78, true))⟩),
 (true, 10, [], ⟨(some 81), .len (.tmp 80), (some (78, true))⟩),
 (true, 11, [], ⟨(some 82), .bin .sub (.tmp 81) (.const (.int .i64 1)), (some (78, true))⟩),
 (true, 12, [], ⟨(some 83), .slc 1 (.tmp 79) none (some (.tmp 82)), (some (78, true))⟩),
 (false, 13, [8, 9, 10, 11, 12, 19], ⟨(some 84), .fa 2 (.tmp 3), (some (78, true))⟩),
 (false, 14, [8, 9, 10, 11, 12, 19], ⟨(some 85), .fa 2 (.tmp 84), (some (78, true))⟩),
 (false, 15, [8, 9, 10, 11, 12, 19], ⟨(some 86), .ld1 (.tmp 85), (some (78, true))⟩),
 (false, 16, [19], ⟨(some 87), .call 24 [(.tmp 83), (.tmp 86)], (some (78, true))⟩),
 (false, 17, [19], ⟨(some 88), .pick (.tmp 78) (.tmp 87) (.const (.bool false)), none⟩),
 (false, 18, [19], ⟨(some 89), .mv (.tmp 88), none⟩),
 (true, 19, [], ⟨(some 90), .mv (.tmp 6), (some (89, true))⟩),
 (false, 20, [19], ⟨(some 91), .mv (.tmp 6), (some (89, true))⟩),
 (false, 21, [19], ⟨(some 92), .len (.tmp 91), (some (89, true))⟩),
 (false, 22, [19], ⟨(some 93), .bin .sub (.tmp 92) (.const (.int .i64 1)), (some (89, true))⟩),
 (false, 23, [], ⟨(some 94), .is 1 (.tmp 90) (.tmp 93), (some (89, true))⟩),
 (false, 24, [], ⟨(some 95), .ld1 (.tmp 94), (some (89, true))⟩),
 (false, 25, [], ⟨(some 96), .bin .eql (.tmp 95) (.const (.int .u8 7)), (some (89, true))⟩),
 (false, 26, [], ⟨(some 97), .pick (.tmp 89) (.tmp 96) (.const (.bool false)), none⟩),
 (false, 27, [], ⟨(some 4), .mv (.tmp 97), none⟩)])
 (.ret)))))))))))
theorem k5 : fnOk Try.prog 5 = some (M5, [.t 4], 98) := by kernel_rfl

theorem l_ImagePuts (x : Im) (hx : ImOk w0 H x) (lv f : Int) (hf : I64 f) (z : LvR) (hz : LvOk w0 H z) (h : K (.bool true) H) : HCalls Try.prog w0 5 [x.v, .agg #[.int .i64 lv, .int .i64 f, .int .i64 z.w, .int .i64 z.h, .slice z.a z.l.length z.cap]] H K := by
  have cX := cShort hx
  have hlc := hz.lc
  clear hx
  unfold Im.v at cX ⊢
  refine HL.hc k5 3000 ?_; unfold M5
  (all_goals (try simp only [Sq,Sr,Sh,Si,Sl,Bu,Bb,Bd,Bc,Bw,Bn,Int.reduceAdd,Int.reduceSub,Int.reduceMul,Int.reduceTDiv,Int.reduceTMod,Int.reduceMod,Int.reduceDiv,Nat.reduceLT,Nat.reduceEqDiff,Sa,Sb,Sc,Sd,Se,Sf,Sg,Int.reduceLE,Int.reduceLT,Int.reduceToNat,Int.reduceNeg,Int.reduceEq,Nat.reduceLeDiff,Nat.reducePow,Int.reducePow,reduceIte,Nat.reduceSub,Nat.reduceAdd,Nat.reduceMul,putAt,ceq,List.replicate, *])); repeat' ((first | (with_reducible refine fun _ : True => ?_) | refine x_Wakes ?_ | refine cX _ _ (by (repeat' (first | exact Grow.refl _ | assumption | (refine Grow_known (by first | (simp only [Heap.set_same, set_ne, ne_eq, not_false_eq_true, *] <;> rfl) | fail) ?_) | (refine Grow.set ?_ (by assumption) (by first | (simp only [*] <;> done) | (simp [set_none', Heap.set_same, set_ne, noneH, *] <;> done) | fail)) | (refine Grow.trans ?_ (by assumption))))) (fun x1 H1 Hx hSx hIx gx nx fx gHx hg => ?_)  | (with_reducible refine any_h ?_) | ((first | refine AllocQ_i ?_ | refine AllocO_i ?_); intro bk hb0 hbk; (try simp only [set_none'] at hbk); (try (first | have hbn := Grow.none (by assumption) hbk | have hbn := Grow.none (by assumption) hbk.2 | have hbn := Grow.none (by assumption) hbk.2.2 | have hbn := Grow.none (by assumption) hbk.2.2.2 | have hbn := Grow.none (by assumption) hbk.2.2.2.2 | have hbn := Grow.none (by assumption) hbk.2.2.2.2.2)); (try simp only [set_none'] at hbn); (try (first | have hbm := Grow.none (by assumption) hbn | have hbm := Grow.none (by assumption) hbn.2 | have hbm := Grow.none (by assumption) hbn.2.2 | have hbm := Grow.none (by assumption) hbn.2.2.2 | have hbm := Grow.none (by assumption) hbn.2.2.2.2 | have hbm := Grow.none (by assumption) hbn.2.2.2.2.2)); (try simp only [set_none'] at hbm)) | ((first | refine condS_i ?_ ?_ | refine pick_i ?_ ?_ | refine gS_it ?_ ?_ | refine gS_if ?_ ?_ | refine gP_it ?_ ?_ | refine gP_if ?_ ?_) <;> (intro hc; try simp only [Int.reduceLE,Int.reduceLT,Int.reduceEq,Sn] at hc)) | (with_reducible refine KP_i ?_ ?_; · (repeat' (first | exact Heap.Le.refl _ | (with_reducible refine Le_set2 ?_) | (refine Le_known (by first | (simp only [Heap.set_same, set_ne, ne_eq, not_false_eq_true, *] <;> rfl) | fail) ?_) | (refine Le_fresh (by first | (simp only [*] <;> done) | (simp [set_none', Heap.set_same, set_ne, noneH, *] <;> done) | fail) ?_) | (refine Heap.Le.trans ?_ (Grow.le (by assumption))) | exact Le_none | (refine Le_put ?_ (by first | (simp only [Heap.set_same, set_ne, ne_eq, not_false_eq_true, *] <;> rfl) | fail)) | fail))) | (with_reducible refine And.intro ?_ ?_)) <;> (try simp only [Sq,Sr,Sh,Si,Sl,Bu,Bb,Bd,Bc,Bw,Bn,Int.reduceAdd,Int.reduceSub,Int.reduceMul,Int.reduceTDiv,Int.reduceTMod,Int.reduceMod,Int.reduceDiv,Nat.reduceLT,Nat.reduceEqDiff,Sa,Sb,Sc,Sd,Se,Sf,Sg,Int.reduceLE,Int.reduceLT,Int.reduceToNat,Int.reduceNeg,Int.reduceEq,Nat.reduceLeDiff,Nat.reducePow,Int.reducePow,reduceIte,Nat.reduceSub,Nat.reduceAdd,Nat.reduceMul,putAt,ceq,List.replicate, *]))
  rw [up2 hg (by simp only [Heap.set_same, set_ne, ne_eq, not_false_eq_true, *] <;> rfl)]
  have cC := cCopy hIx
  unfold Im.v at cC
  (all_goals (try simp only [Sq,Sr,Sh,Si,Sl,Bu,Bb,Bd,Bc,Bw,Bn,Int.reduceAdd,Int.reduceSub,Int.reduceMul,Int.reduceTDiv,Int.reduceTMod,Int.reduceMod,Int.reduceDiv,Nat.reduceLT,Nat.reduceEqDiff,Sa,Sb,Sc,Sd,Se,Sf,Sg,Int.reduceLE,Int.reduceLT,Int.reduceToNat,Int.reduceNeg,Int.reduceEq,Nat.reduceLeDiff,Nat.reducePow,Int.reducePow,reduceIte,Nat.reduceSub,Nat.reduceAdd,Nat.reduceMul,putAt,ceq,List.replicate, *])); repeat' ((first | (with_reducible refine fun _ : True => ?_) | refine cC _ _ (by (repeat' (first | exact Grow.refl _ | assumption | (refine Grow_known (by first | (simp only [Heap.set_same, set_ne, ne_eq, not_false_eq_true, *] <;> rfl) | fail) ?_) | (refine Grow.set ?_ (by assumption) (by first | (simp only [*] <;> done) | (simp [set_none', Heap.set_same, set_ne, noneH, *] <;> done) | fail)) | (refine Grow.trans ?_ (by assumption))))) (fun w H2 Hw hE hIw gw nw fw gHw hg2 => ?_)  | (with_reducible refine any_h ?_) | ((first | refine AllocQ_i ?_ | refine AllocO_i ?_); intro bk hb0 hbk; (try simp only [set_none'] at hbk); (try (first | have hbn := Grow.none (by assumption) hbk | have hbn := Grow.none (by assumption) hbk.2 | have hbn := Grow.none (by assumption) hbk.2.2 | have hbn := Grow.none (by assumption) hbk.2.2.2 | have hbn := Grow.none (by assumption) hbk.2.2.2.2 | have hbn := Grow.none (by assumption) hbk.2.2.2.2.2)); (try simp only [set_none'] at hbn); (try (first | have hbm := Grow.none (by assumption) hbn | have hbm := Grow.none (by assumption) hbn.2 | have hbm := Grow.none (by assumption) hbn.2.2 | have hbm := Grow.none (by assumption) hbn.2.2.2 | have hbm := Grow.none (by assumption) hbn.2.2.2.2 | have hbm := Grow.none (by assumption) hbn.2.2.2.2.2)); (try simp only [set_none'] at hbm)) | ((first | refine condS_i ?_ ?_ | refine pick_i ?_ ?_ | refine gS_it ?_ ?_ | refine gS_if ?_ ?_ | refine gP_it ?_ ?_ | refine gP_if ?_ ?_) <;> (intro hc; try simp only [Int.reduceLE,Int.reduceLT,Int.reduceEq,Sn] at hc)) | (with_reducible refine KP_i ?_ ?_; · (repeat' (first | exact Heap.Le.refl _ | (with_reducible refine Le_set2 ?_) | (refine Le_known (by first | (simp only [Heap.set_same, set_ne, ne_eq, not_false_eq_true, *] <;> rfl) | fail) ?_) | (refine Le_fresh (by first | (simp only [*] <;> done) | (simp [set_none', Heap.set_same, set_ne, noneH, *] <;> done) | fail) ?_) | (refine Heap.Le.trans ?_ (Grow.le (by assumption))) | exact Le_none | (refine Le_put ?_ (by first | (simp only [Heap.set_same, set_ne, ne_eq, not_false_eq_true, *] <;> rfl) | fail)) | fail))) | (with_reducible refine And.intro ?_ ?_)) <;> (try simp only [Sq,Sr,Sh,Si,Sl,Bu,Bb,Bd,Bc,Bw,Bn,Int.reduceAdd,Int.reduceSub,Int.reduceMul,Int.reduceTDiv,Int.reduceTMod,Int.reduceMod,Int.reduceDiv,Nat.reduceLT,Nat.reduceEqDiff,Sa,Sb,Sc,Sd,Se,Sf,Sg,Int.reduceLE,Int.reduceLT,Int.reduceToNat,Int.reduceNeg,Int.reduceEq,Nat.reduceLeDiff,Nat.reducePow,Int.reducePow,reduceIte,Nat.reduceSub,Nat.reduceAdd,Nat.reduceMul,putAt,ceq,List.replicate, *]))
  have gH2 : Grow w0 H H2 := Grow.trans (by (repeat' (first | exact Grow.refl _ | assumption | (refine Grow_known (by first | (simp only [Heap.set_same, set_ne, ne_eq, not_false_eq_true, *] <;> rfl) | fail) ?_) | (refine Grow.set ?_ (by assumption) (by first | (simp only [*] <;> done) | (simp [set_none', Heap.set_same, set_ne, noneH, *] <;> done) | fail)) | (refine Grow.trans ?_ (by assumption))))) hg2
  have gx2 : Grow w0 Hx H2 := Grow.trans (by (repeat' (first | exact Grow.refl _ | assumption | (refine Grow_known (by first | (simp only [Heap.set_same, set_ne, ne_eq, not_false_eq_true, *] <;> rfl) | fail) ?_) | (refine Grow.set ?_ (by assumption) (by first | (simp only [*] <;> done) | (simp [set_none', Heap.set_same, set_ne, noneH, *] <;> done) | fail)) | (refine Grow.trans ?_ (by assumption))))) hg2
  rename_i c2 p2 q2 c3 p3 q3
  have nx2 : Hx c2 = none := nx c2 p2 (by first | (simp only [*] <;> done) | (simp [set_none', Heap.set_same, set_ne, noneH, *] <;> done) | fail)
  have nx3 : Hx c3 = none := nx c3 p3 (by first | (simp only [*] <;> done) | (simp [set_none', Heap.set_same, set_ne, noneH, *] <;> done) | fail)
  have nw2 : Hw c2 = none := nw c2 p2 (by first | (simp only [*] <;> done) | (simp [set_none', Heap.set_same, set_ne, noneH, *] <;> done) | fail)
  have nw3 : Hw c3 = none := nw c3 p3 (by first | (simp only [*] <;> done) | (simp [set_none', Heap.set_same, set_ne, noneH, *] <;> done) | fail)
  rw [up2 hg2 (by simp only [Heap.set_same, set_ne, ne_eq, not_false_eq_true, *] <;> rfl)]
  clear hg hg2 nx nw gx gHx gHw cX cC fx
  obtain ⟨l, el⟩ : ∃ l, z.l.take 20000 = l := ⟨_, rfl⟩
  obtain ⟨n, en⟩ : ∃ n, l.length = n := ⟨_, rfl⟩
  have hn : n ≤ 20000 ∧ n ≤ z.l.length := by rw [← en, ← el, List.length_take]; omega
  have emn : (if (20000 : Int) < (z.l.length : Int) then (20000 : Int) else (z.l.length : Int)) = (n : Int) := by
    rw [← en, ← el, List.length_take]; split <;> omega
  have hz1 : LvOk w0 H ⟨z.w, z.h, z.a, z.cap, l⟩ := by
    refine ⟨by rw [← el]; exact ints_take hz.at_ _, by show l.length ≤ z.cap; omega, by show l.length ≤ _; unfold maxLen; omega, by show l.length ≤ _; omega, hz.w, hz.h, fun b hb => hz.by_ b ?_⟩
    have hb' : b ∈ l := hb
    rw [← el] at hb'
    exact List.mem_of_mem_take hb'
  have tn : ((n : Int)).toNat = n := Int.toNat_natCast n
  have hc1 : 0 ≤ (n : Int) ∧ (n : Int) ≤ (z.cap : Int) := by omega
  clear el hz hlc
  (all_goals (try simp only [Sq,Sr,Sh,Si,Sl,Bu,Bb,Bd,Bc,Bw,Bn,Int.reduceAdd,Int.reduceSub,Int.reduceMul,Int.reduceTDiv,Int.reduceTMod,Int.reduceMod,Int.reduceDiv,Nat.reduceLT,Nat.reduceEqDiff,Sa,Sb,Sc,Sd,Se,Sf,Sg,Int.reduceLE,Int.reduceLT,Int.reduceToNat,Int.reduceNeg,Int.reduceEq,Nat.reduceLeDiff,Nat.reducePow,Int.reducePow,reduceIte,Nat.reduceSub,Nat.reduceAdd,Nat.reduceMul,putAt,ceq,List.replicate, *])); repeat' ((first | (with_reducible refine fun _ : True => ?_) | refine slc_pre hc1.1 hc1.2 ?_ | (with_reducible refine any_h ?_) | ((first | refine AllocQ_i ?_ | refine AllocO_i ?_); intro bk hb0 hbk; (try simp only [set_none'] at hbk); (try (first | have hbn := Grow.none (by assumption) hbk | have hbn := Grow.none (by assumption) hbk.2 | have hbn := Grow.none (by assumption) hbk.2.2 | have hbn := Grow.none (by assumption) hbk.2.2.2 | have hbn := Grow.none (by assumption) hbk.2.2.2.2 | have hbn := Grow.none (by assumption) hbk.2.2.2.2.2)); (try simp only [set_none'] at hbn); (try (first | have hbm := Grow.none (by assumption) hbn | have hbm := Grow.none (by assumption) hbn.2 | have hbm := Grow.none (by assumption) hbn.2.2 | have hbm := Grow.none (by assumption) hbn.2.2.2 | have hbm := Grow.none (by assumption) hbn.2.2.2.2 | have hbm := Grow.none (by assumption) hbn.2.2.2.2.2)); (try simp only [set_none'] at hbm)) | ((first | refine condS_i ?_ ?_ | refine pick_i ?_ ?_ | refine gS_it ?_ ?_ | refine gS_if ?_ ?_ | refine gP_it ?_ ?_ | refine gP_if ?_ ?_) <;> (intro hc; try simp only [Int.reduceLE,Int.reduceLT,Int.reduceEq,Sn] at hc)) | (with_reducible refine KP_i ?_ ?_; · (repeat' (first | exact Heap.Le.refl _ | (with_reducible refine Le_set2 ?_) | (refine Le_known (by first | (simp only [Heap.set_same, set_ne, ne_eq, not_false_eq_true, *] <;> rfl) | fail) ?_) | (refine Le_fresh (by first | (simp only [*] <;> done) | (simp [set_none', Heap.set_same, set_ne, noneH, *] <;> done) | fail) ?_) | (refine Heap.Le.trans ?_ (Grow.le (by assumption))) | exact Le_none | (refine Le_put ?_ (by first | (simp only [Heap.set_same, set_ne, ne_eq, not_false_eq_true, *] <;> rfl) | fail)) | fail))) | (with_reducible refine And.intro ?_ ?_)) <;> (try simp only [Sq,Sr,Sh,Si,Sl,Bu,Bb,Bd,Bc,Bw,Bn,Int.reduceAdd,Int.reduceSub,Int.reduceMul,Int.reduceTDiv,Int.reduceTMod,Int.reduceMod,Int.reduceDiv,Nat.reduceLT,Nat.reduceEqDiff,Sa,Sb,Sc,Sd,Se,Sf,Sg,Int.reduceLE,Int.reduceLT,Int.reduceToNat,Int.reduceNeg,Int.reduceEq,Nat.reduceLeDiff,Nat.reducePow,Int.reducePow,reduceIte,Nat.reduceSub,Nat.reduceAdd,Nat.reduceMul,putAt,ceq,List.replicate, *]))
  refine pt_heap (fun G0 eG => ?_)
  have k2 := at_of eG (b := c2) (by simp only [Heap.set_same, set_ne, ne_eq, not_false_eq_true, *] <;> rfl)
  have k3 := at_of eG (b := c3) (by simp only [Heap.set_same, set_ne, ne_eq, not_false_eq_true, *] <;> rfl)
  have k5 := at_of eG (b := bk) (by simp only [Heap.set_same, set_ne, ne_eq, not_false_eq_true, *] <;> rfl)
  have gH0 : Grow w0 H G0 := by rw [eG]; exact (by (repeat' (first | exact Grow.refl _ | assumption | (refine Grow_known (by first | (simp only [Heap.set_same, set_ne, ne_eq, not_false_eq_true, *] <;> rfl) | fail) ?_) | (refine Grow.set ?_ (by assumption) (by first | (simp only [*] <;> done) | (simp [set_none', Heap.set_same, set_ne, noneH, *] <;> done) | fail)) | (refine Grow.trans ?_ (by assumption)))))
  have gx0 : Grow w0 Hx G0 := by rw [eG]; exact ((gx2.set p2 nx2).set p3 nx3).set hb0 (gx2.none hbk)
  have gw0 : Grow w0 Hw G0 := by rw [eG]; exact ((gw.set p2 nw2).set p3 nw3).set hb0 (fw _ hbk)
  have n52 := hbm.2.1
  have n53 := hbm.1
  have s5 := hb0
  obtain ⟨c5, rfl⟩ : ∃ c, c = bk := ⟨bk, rfl⟩
  have hzA : Keep (∀ G, Grow w0 G0 G → IntsAt w0 G .u8 z.a l) := fun G g => IntsAt.grow (IntsAt.grow hz1.at_ gH0) g
  replace gx0 : Keep _ := gx0
  replace gw0 : Keep _ := gw0
  clear eG hbn hbm hbk gH2 gx2 gw fw nx2 nx3 nw2 nw3 emn hc1 tn
  have en2 : IntKind.i64.wrap ((n : Int) + 2) = (n : Int) + 2 := Bw.1 _ (by omega) (by omega)
  have tn2 : ((n : Int) + 2).toNat = n + 2 := by omega
  refine alts_g (S := Nat × Heap) 7 (fun s => [(6, .slice (some ⟨s.1, 0, none⟩) (n + 1) (n + 2))]) (fun s => s.2) (fun s => Grow w0 G0 s.2 ∧ w0.heap.size ≤ s.1 ∧ G0 s.1 = none ∧ s.2 s.1 = some ⟨.t 5, ub l ++ [.int .u8 7, .int .u8 0]⟩) 100 2800 ?_ ?_ (by decide)
  · rw [root3 k2 k3 k5]
    clear hE hIx hIw hSx gx0 gw0 gH0 h hz1
    unfold A5_1
    (all_goals (try simp only [Sq,Sr,Sh,Si,Sl,Bu,Bb,Bd,Bc,Bw,Bn,Int.reduceAdd,Int.reduceSub,Int.reduceMul,Int.reduceTDiv,Int.reduceTMod,Int.reduceMod,Int.reduceDiv,Nat.reduceLT,Nat.reduceEqDiff,Sa,Sb,Sc,Sd,Se,Sf,Sg,Int.reduceLE,Int.reduceLT,Int.reduceToNat,Int.reduceNeg,Int.reduceEq,Nat.reduceLeDiff,Nat.reducePow,Int.reducePow,reduceIte,Nat.reduceSub,Nat.reduceAdd,Nat.reduceMul,putAt,ceq,List.replicate, *])); repeat' ((first | (with_reducible refine fun _ : True => ?_) | refine mks_i (by decide) (by omega) (by omega) (by omega) ?_ | refine own1 (by simp only [Heap.set_same, set_ne, ne_eq, not_false_eq_true, *] <;> rfl) (kpi hzA _ (by (repeat' (first | exact Grow.refl _ | assumption | (refine Grow_known (by first | (simp only [Heap.set_same, set_ne, ne_eq, not_false_eq_true, *] <;> rfl) | fail) ?_) | (refine Grow.set ?_ (by assumption) (by first | (simp only [*] <;> done) | (simp [set_none', Heap.set_same, set_ne, noneH, *] <;> done) | fail)) | (refine Grow.trans ?_ (by assumption)))))) en hn.1 ?_ | refine own2 (by simp only [Heap.set_same, set_ne, ne_eq, not_false_eq_true, *] <;> rfl) (by simp only [Heap.set_same, set_ne, ne_eq, not_false_eq_true, *] <;> rfl) en hn.1 ?_ | (with_reducible refine any_h ?_) | ((first | refine AllocQ_i ?_ | refine AllocO_i ?_); intro bk hb0 hbk; (try simp only [set_none'] at hbk); (try (first | have hbn := Grow.none (by assumption) hbk | have hbn := Grow.none (by assumption) hbk.2 | have hbn := Grow.none (by assumption) hbk.2.2 | have hbn := Grow.none (by assumption) hbk.2.2.2 | have hbn := Grow.none (by assumption) hbk.2.2.2.2 | have hbn := Grow.none (by assumption) hbk.2.2.2.2.2)); (try simp only [set_none'] at hbn); (try (first | have hbm := Grow.none (by assumption) hbn | have hbm := Grow.none (by assumption) hbn.2 | have hbm := Grow.none (by assumption) hbn.2.2 | have hbm := Grow.none (by assumption) hbn.2.2.2 | have hbm := Grow.none (by assumption) hbn.2.2.2.2 | have hbm := Grow.none (by assumption) hbn.2.2.2.2.2)); (try simp only [set_none'] at hbm)) | ((first | refine condS_i ?_ ?_ | refine pick_i ?_ ?_ | refine gS_it ?_ ?_ | refine gS_if ?_ ?_ | refine gP_it ?_ ?_ | refine gP_if ?_ ?_) <;> (intro hc; try simp only [Int.reduceLE,Int.reduceLT,Int.reduceEq,Sn] at hc)) | (with_reducible refine KP_i ?_ ?_; · (repeat' (first | exact Heap.Le.refl _ | (with_reducible refine Le_set2 ?_) | (refine Le_known (by first | (simp only [Heap.set_same, set_ne, ne_eq, not_false_eq_true, *] <;> rfl) | fail) ?_) | (refine Le_fresh (by first | (simp only [*] <;> done) | (simp [set_none', Heap.set_same, set_ne, noneH, *] <;> done) | fail) ?_) | (refine Heap.Le.trans ?_ (Grow.le (by assumption))) | exact Le_none | (refine Le_put ?_ (by first | (simp only [Heap.set_same, set_ne, ne_eq, not_false_eq_true, *] <;> rfl) | fail)) | fail))) | (with_reducible refine And.intro ?_ ?_)) <;> (try simp only [Sq,Sr,Sh,Si,Sl,Bu,Bb,Bd,Bc,Bw,Bn,Int.reduceAdd,Int.reduceSub,Int.reduceMul,Int.reduceTDiv,Int.reduceTMod,Int.reduceMod,Int.reduceDiv,Nat.reduceLT,Nat.reduceEqDiff,Sa,Sb,Sc,Sd,Se,Sf,Sg,Int.reduceLE,Int.reduceLT,Int.reduceToNat,Int.reduceNeg,Int.reduceEq,Nat.reduceLeDiff,Nat.reducePow,Int.reducePow,reduceIte,Nat.reduceSub,Nat.reduceAdd,Nat.reduceMul,putAt,ceq,List.replicate, *]))
    all_goals first
      | exact Meet_p (bk) ⟨(by (repeat' (first | exact Grow.refl _ | assumption | (refine Grow_known (by first | (simp only [Heap.set_same, set_ne, ne_eq, not_false_eq_true, *] <;> rfl) | fail) ?_) | (refine Grow.set ?_ (by assumption) (by first | (simp only [*] <;> done) | (simp [set_none', Heap.set_same, set_ne, noneH, *] <;> done) | fail)) | (refine Grow.trans ?_ (by assumption))))), hb0, (by first | (simp only [*] <;> done) | (simp [set_none', Heap.set_same, set_ne, noneH, *] <;> done) | fail), (by simp only [Heap.set_same, set_ne, ne_eq, not_false_eq_true, *] <;> rfl)⟩ rfl rfl
      | (rename_i c1 d1 f1; exact Meet_p (c1) ⟨(by (repeat' (first | exact Grow.refl _ | assumption | (refine Grow_known (by first | (simp only [Heap.set_same, set_ne, ne_eq, not_false_eq_true, *] <;> rfl) | fail) ?_) | (refine Grow.set ?_ (by assumption) (by first | (simp only [*] <;> done) | (simp [set_none', Heap.set_same, set_ne, noneH, *] <;> done) | fail)) | (refine Grow.trans ?_ (by assumption))))), d1, (by first | (simp only [*] <;> done) | (simp [set_none', Heap.set_same, set_ne, noneH, *] <;> done) | fail), (by simp only [Heap.set_same, set_ne, ne_eq, not_false_eq_true, *] <;> rfl)⟩ rfl rfl)
  · rintro ⟨bo, G1⟩ fT ⟨hg1, so, no, ko⟩
    simp only at hg1 so no ko
    show run _ _ _ _ _ _ G1
    have j2 := hg1.some k2
    have j3 := hg1.some k3
    have j5 := hg1.some k5
    have o2 : bo ≠ c2 ∧ c2 ≠ bo := ⟨fun e => (by rw [e, k2] at no; cases no), fun e => (by rw [← e, k2] at no; cases no)⟩
    have o3 : bo ≠ c3 ∧ c3 ≠ bo := ⟨fun e => (by rw [e, k3] at no; cases no), fun e => (by rw [← e, k3] at no; cases no)⟩
    have o5 : bo ≠ c5 ∧ c5 ≠ bo := ⟨fun e => (by rw [e, k5] at no; cases no), fun e => (by rw [← e, k5] at no; cases no)⟩
    have gx1 : Grow w0 Hx G1 := (show Grow w0 Hx G0 from kpi gx0).trans hg1
    have gw1 : Grow w0 Hw G1 := (show Grow w0 Hw G0 from kpi gw0).trans hg1
    have gH1 : Grow w0 H G1 := gH0.trans hg1
    rw [root4n j2 j3 j5 ko]
    have hc1 : 0 ≤ (n : Int) ∧ (n : Int) ≤ ((n + 2 : Nat) : Int) := by omega
    have tn : ((n : Int)).toNat = n := Int.toNat_natCast n
    clear hg1 gx0 gw0 gH0 no k2 k3 k5
    replace gx1 : Keep _ := gx1
    replace gw1 : Keep _ := gw1
    (all_goals (try simp only [Sq,Sr,Sh,Si,Sl,Bu,Bb,Bd,Bc,Bw,Bn,Int.reduceAdd,Int.reduceSub,Int.reduceMul,Int.reduceTDiv,Int.reduceTMod,Int.reduceMod,Int.reduceDiv,Nat.reduceLT,Nat.reduceEqDiff,Sa,Sb,Sc,Sd,Se,Sf,Sg,Int.reduceLE,Int.reduceLT,Int.reduceToNat,Int.reduceNeg,Int.reduceEq,Nat.reduceLeDiff,Nat.reducePow,Int.reducePow,reduceIte,Nat.reduceSub,Nat.reduceAdd,Nat.reduceMul,putAt,ceq,List.replicate, *])); repeat' ((first | (with_reducible refine fun _ : True => ?_) | refine slc_pre hc1.1 hc1.2 ?_ | (with_reducible refine any_h ?_) | ((first | refine AllocQ_i ?_ | refine AllocO_i ?_); intro bk hb0 hbk; (try simp only [set_none'] at hbk); (try (first | have hbn := Grow.none (by assumption) hbk | have hbn := Grow.none (by assumption) hbk.2 | have hbn := Grow.none (by assumption) hbk.2.2 | have hbn := Grow.none (by assumption) hbk.2.2.2 | have hbn := Grow.none (by assumption) hbk.2.2.2.2 | have hbn := Grow.none (by assumption) hbk.2.2.2.2.2)); (try simp only [set_none'] at hbn); (try (first | have hbm := Grow.none (by assumption) hbn | have hbm := Grow.none (by assumption) hbn.2 | have hbm := Grow.none (by assumption) hbn.2.2 | have hbm := Grow.none (by assumption) hbn.2.2.2 | have hbm := Grow.none (by assumption) hbn.2.2.2.2 | have hbm := Grow.none (by assumption) hbn.2.2.2.2.2)); (try simp only [set_none'] at hbm)) | ((first | refine condS_i ?_ ?_ | refine pick_i ?_ ?_ | refine gS_it ?_ ?_ | refine gS_if ?_ ?_ | refine gP_it ?_ ?_ | refine gP_if ?_ ?_) <;> (intro hc; try simp only [Int.reduceLE,Int.reduceLT,Int.reduceEq,Sn] at hc)) | (with_reducible refine KP_i ?_ ?_; · (repeat' (first | exact Heap.Le.refl _ | (with_reducible refine Le_set2 ?_) | (refine Le_known (by first | (simp only [Heap.set_same, set_ne, ne_eq, not_false_eq_true, *] <;> rfl) | fail) ?_) | (refine Le_fresh (by first | (simp only [*] <;> done) | (simp [set_none', Heap.set_same, set_ne, noneH, *] <;> done) | fail) ?_) | (refine Heap.Le.trans ?_ (Grow.le (by assumption))) | exact Le_none | (refine Le_put ?_ (by first | (simp only [Heap.set_same, set_ne, ne_eq, not_false_eq_true, *] <;> rfl) | fail)) | fail))) | (with_reducible refine And.intro ?_ ?_)) <;> (try simp only [Sq,Sr,Sh,Si,Sl,Bu,Bb,Bd,Bc,Bw,Bn,Int.reduceAdd,Int.reduceSub,Int.reduceMul,Int.reduceTDiv,Int.reduceTMod,Int.reduceMod,Int.reduceDiv,Nat.reduceLT,Nat.reduceEqDiff,Sa,Sb,Sc,Sd,Se,Sf,Sg,Int.reduceLE,Int.reduceLT,Int.reduceToNat,Int.reduceNeg,Int.reduceEq,Nat.reduceLeDiff,Nat.reducePow,Int.reducePow,reduceIte,Nat.reduceSub,Nat.reduceAdd,Nat.reduceMul,putAt,ceq,List.replicate, *]))
    obtain ⟨c7, rfl⟩ : ∃ c, c = bk := ⟨bk, rfl⟩
    refine hc_heap (fun G3 e3 => ?_)
    have m2 := at_of e3 (b := c2) (by simp only [Heap.set_same, set_ne, ne_eq, not_false_eq_true, *] <;> rfl)
    have m3 := at_of e3 (b := c3) (by simp only [Heap.set_same, set_ne, ne_eq, not_false_eq_true, *] <;> rfl)
    have m5 := at_of e3 (b := c5) (by simp only [Heap.set_same, set_ne, ne_eq, not_false_eq_true, *] <;> rfl)
    have mo := at_of e3 (b := bo) (by simp only [Heap.set_same, set_ne, ne_eq, not_false_eq_true, *] <;> rfl)
    have gx3 : Grow w0 Hx G3 := by rw [e3, ← root4n j2 j3 j5 ko]; exact Grow.set (kpi gx1) hb0 (Grow.none (kpi gx1) hbk.2.2.2.2)
    have gw3 : Grow w0 Hw G3 := by rw [e3, ← root4n j2 j3 j5 ko]; exact Grow.set (kpi gw1) hb0 (Grow.none (kpi gw1) hbk.2.2.2.2)
    have gH3 : Grow w0 H G3 := by rw [e3, ← root4n j2 j3 j5 ko]; exact Grow.set gH1 hb0 (Grow.none gH1 hbk.2.2.2.2)
    clear e3 hbk hbn j2 j3 j5 ko gx1 gw1 gH1
    have hoA : ∀ G, Grow w0 G3 G → IntsAt w0 G .u8 (some ⟨bo, 0, none⟩) l := fun G g => SlAt.toInts (SlAt.blk (z := [.int .u8 7, .int .u8 0]) (g.some mo))
    have hzo : LvOk w0 G3 ⟨z.w, z.h, some ⟨bo, 0, none⟩, n + 2, l⟩ := ⟨hoA _ (Grow.refl _), by show l.length ≤ n + 2; omega, hz1.lm, hz1.lr, hz1.w, hz1.h, hz1.by_⟩
    have cP := fun K h => c_PutT (w0 := w0) (K := K) (hIx.grow gx3) lv f hf hzo h
    unfold LvR.v Im.v at cP
    simp only [en] at cP
    refine cP _ (fun got e H4 hP hC4 g4 => ?_)
    have i2 := g4.some m2
    have i3 := g4.some m3
    have i5 := g4.some m5
    have io := g4.some mo
    rw [root4n i2 i3 i5 io]
    replace hoA : Keep _ := hoA
    replace gx3 : Keep _ := gx3
    replace gw3 : Keep _ := gw3
    replace gH3 : Keep _ := gH3
    clear cP hzo
    (all_goals (try simp only [Sq,Sr,Sh,Si,Sl,Bu,Bb,Bd,Bc,Bw,Bn,Int.reduceAdd,Int.reduceSub,Int.reduceMul,Int.reduceTDiv,Int.reduceTMod,Int.reduceMod,Int.reduceDiv,Nat.reduceLT,Nat.reduceEqDiff,Sa,Sb,Sc,Sd,Se,Sf,Sg,Int.reduceLE,Int.reduceLT,Int.reduceToNat,Int.reduceNeg,Int.reduceEq,Nat.reduceLeDiff,Nat.reducePow,Int.reducePow,reduceIte,Nat.reduceSub,Nat.reduceAdd,Nat.reduceMul,putAt,ceq,List.replicate, *])); repeat' ((first | (with_reducible refine fun _ : True => ?_) | (with_reducible refine any_h ?_) | ((first | refine AllocQ_i ?_ | refine AllocO_i ?_); intro bk hb0 hbk; (try simp only [set_none'] at hbk); (try (first | have hbn := Grow.none (by assumption) hbk | have hbn := Grow.none (by assumption) hbk.2 | have hbn := Grow.none (by assumption) hbk.2.2 | have hbn := Grow.none (by assumption) hbk.2.2.2 | have hbn := Grow.none (by assumption) hbk.2.2.2.2 | have hbn := Grow.none (by assumption) hbk.2.2.2.2.2)); (try simp only [set_none'] at hbn); (try (first | have hbm := Grow.none (by assumption) hbn | have hbm := Grow.none (by assumption) hbn.2 | have hbm := Grow.none (by assumption) hbn.2.2 | have hbm := Grow.none (by assumption) hbn.2.2.2 | have hbm := Grow.none (by assumption) hbn.2.2.2.2 | have hbm := Grow.none (by assumption) hbn.2.2.2.2.2)); (try simp only [set_none'] at hbm)) | ((first | refine condS_i ?_ ?_ | refine pick_i ?_ ?_ | refine gS_it ?_ ?_ | refine gS_if ?_ ?_ | refine gP_it ?_ ?_ | refine gP_if ?_ ?_) <;> (intro hc; try simp only [Int.reduceLE,Int.reduceLT,Int.reduceEq,Sn] at hc)) | (with_reducible refine KP_i ?_ ?_; · (repeat' (first | exact Heap.Le.refl _ | (with_reducible refine Le_set2 ?_) | (refine Le_known (by first | (simp only [Heap.set_same, set_ne, ne_eq, not_false_eq_true, *] <;> rfl) | fail) ?_) | (refine Le_fresh (by first | (simp only [*] <;> done) | (simp [set_none', Heap.set_same, set_ne, noneH, *] <;> done) | fail) ?_) | (refine Heap.Le.trans ?_ (Grow.le (by assumption))) | exact Le_none | (refine Le_put ?_ (by first | (simp only [Heap.set_same, set_ne, ne_eq, not_false_eq_true, *] <;> rfl) | fail)) | fail))) | (with_reducible refine And.intro ?_ ?_)) <;> (try simp only [Sq,Sr,Sh,Si,Sl,Bu,Bb,Bd,Bc,Bw,Bn,Int.reduceAdd,Int.reduceSub,Int.reduceMul,Int.reduceTDiv,Int.reduceTMod,Int.reduceMod,Int.reduceDiv,Nat.reduceLT,Nat.reduceEqDiff,Sa,Sb,Sc,Sd,Se,Sf,Sg,Int.reduceLE,Int.reduceLT,Int.reduceToNat,Int.reduceNeg,Int.reduceEq,Nat.reduceLeDiff,Nat.reducePow,Int.reducePow,reduceIte,Nat.reduceSub,Nat.reduceAdd,Nat.reduceMul,putAt,ceq,List.replicate, *]))
    obtain ⟨c8, rfl⟩ : ∃ c, c = bk := ⟨bk, rfl⟩
    refine hc_heap (fun G5 e5 => ?_)
    have m8 := at_of e5 (b := c8) (by simp only [Heap.set_same, set_ne, ne_eq, not_false_eq_true, *] <;> rfl)
    have g45 : Grow w0 H4 G5 := by rw [e5, ← root4n i2 i3 i5 io]; exact Grow.set (Grow.refl _) hb0 hbk.2.2.2.2
    have g35 : Grow w0 G3 G5 := g4.trans g45
    have d82 := hbk.2.2.2.1
    have d83 := hbk.2.2.1
    have d85 := hbk.2.1
    have d8o := hbk.1
    clear e5 hbk hbn hbm i2 i3 i5 io
    have cQ := fun K h => r_PutT (w0 := w0) (K := K) (hIw.grow ((show Grow w0 Hw G3 from kpi gw3).trans g35)) lv f hf (hz1.grow ((show Grow w0 H G3 from kpi gH3).trans g35)) h
    unfold LvR.v Im.v at cQ
    simp only [en] at cQ
    refine cQ _ (fun want e' H6 hP2 hC6 g6 => ?_)
    obtain ⟨rfl, hEq⟩ := QRes_eqv hE (by rfl) hP hP2
    have g36 := g35.trans g6
    have g46 := g45.trans g6
    have i2 := g36.some m2
    have i3 := g36.some m3
    have i5 := g36.some m5
    have io := g36.some mo
    have i8 := g6.some m8
    have h8n : ∀ c, H6 c = none → G3 c = none := fun c hc => g36.none hc
    rw [root5n i2 i3 i5 io i8]
    clear cQ
    (all_goals (try simp only [Sq,Sr,Sh,Si,Sl,Bu,Bb,Bd,Bc,Bw,Bn,Int.reduceAdd,Int.reduceSub,Int.reduceMul,Int.reduceTDiv,Int.reduceTMod,Int.reduceMod,Int.reduceDiv,Nat.reduceLT,Nat.reduceEqDiff,Sa,Sb,Sc,Sd,Se,Sf,Sg,Int.reduceLE,Int.reduceLT,Int.reduceToNat,Int.reduceNeg,Int.reduceEq,Nat.reduceLeDiff,Nat.reducePow,Int.reducePow,reduceIte,Nat.reduceSub,Nat.reduceAdd,Nat.reduceMul,putAt,ceq,List.replicate, *])); repeat' ((first | (with_reducible refine fun _ : True => ?_) | ((first | refine AllocQ_i ?_ | refine AllocO_i ?_); intro bk hb0 hbk; (try simp only [set_none'] at hbk); (try (first | have hbn := Grow.none (by assumption) hbk | have hbn := Grow.none (by assumption) hbk.2 | have hbn := Grow.none (by assumption) hbk.2.2 | have hbn := Grow.none (by assumption) hbk.2.2.2 | have hbn := Grow.none (by assumption) hbk.2.2.2.2 | have hbn := Grow.none (by assumption) hbk.2.2.2.2.2)); (try simp only [set_none'] at hbn); (try (first | have hbm := Grow.none (by assumption) hbn | have hbm := Grow.none (by assumption) hbn.2 | have hbm := Grow.none (by assumption) hbn.2.2 | have hbm := Grow.none (by assumption) hbn.2.2.2 | have hbm := Grow.none (by assumption) hbn.2.2.2.2 | have hbm := Grow.none (by assumption) hbn.2.2.2.2.2)); (try simp only [set_none'] at hbm)) | ((first | refine condS_i ?_ ?_ | refine pick_i ?_ ?_ | refine gS_it ?_ ?_ | refine gS_if ?_ ?_ | refine gP_it ?_ ?_ | refine gP_if ?_ ?_) <;> (intro hc; try simp only [Int.reduceLE,Int.reduceLT,Int.reduceEq,Sn] at hc)) | (with_reducible refine KP_i ?_ ?_; · (repeat' (first | exact Heap.Le.refl _ | (with_reducible refine Le_set2 ?_) | (refine Le_known (by first | (simp only [Heap.set_same, set_ne, ne_eq, not_false_eq_true, *] <;> rfl) | fail) ?_) | (refine Le_fresh (by first | (simp only [*] <;> done) | (simp [set_none', Heap.set_same, set_ne, noneH, *] <;> done) | fail) ?_) | (refine Heap.Le.trans ?_ (Grow.le (by assumption))) | exact Le_none | (refine Le_put ?_ (by first | (simp only [Heap.set_same, set_ne, ne_eq, not_false_eq_true, *] <;> rfl) | fail)) | fail))) | (with_reducible refine And.intro ?_ ?_)) <;> (try simp only [Sq,Sr,Sh,Si,Sl,Bu,Bb,Bd,Bc,Bw,Bn,Int.reduceAdd,Int.reduceSub,Int.reduceMul,Int.reduceTDiv,Int.reduceTMod,Int.reduceMod,Int.reduceDiv,Nat.reduceLT,Nat.reduceEqDiff,Sa,Sb,Sc,Sd,Se,Sf,Sg,Int.reduceLE,Int.reduceLT,Int.reduceToNat,Int.reduceNeg,Int.reduceEq,Nat.reduceLeDiff,Nat.reducePow,Int.reducePow,reduceIte,Nat.reduceSub,Nat.reduceAdd,Nat.reduceMul,putAt,ceq,List.replicate, *]))
    refine anyq_heap (fun G7 e7 => ?_)
    obtain ⟨c10, rfl⟩ : ∃ c, c = bk := ⟨bk, rfl⟩
    have m2' := at_of e7 (b := c2) (by simp only [Heap.set_same, set_ne, ne_eq, not_false_eq_true, *] <;> rfl)
    have m3' := at_of e7 (b := c3) (by simp only [Heap.set_same, set_ne, ne_eq, not_false_eq_true, *] <;> rfl)
    have m5' := at_of e7 (b := c5) (by simp only [Heap.set_same, set_ne, ne_eq, not_false_eq_true, *] <;> rfl)
    have mo' := at_of e7 (b := bo) (by simp only [Heap.set_same, set_ne, ne_eq, not_false_eq_true, *] <;> rfl)
    have m8' := at_of e7 (b := c8) (by simp only [Heap.set_same, set_ne, ne_eq, not_false_eq_true, *] <;> rfl)
    have m10' := at_of e7 (b := c10) (by simp only [Heap.set_same, set_ne, ne_eq, not_false_eq_true, *] <;> rfl)
    have g67 : Grow w0 H6 G7 := by rw [e7, ← root5n i2 i3 i5 io i8]; exact Grow.set (Grow.refl _) hb0 hbk.2.2.2.2.2
    have d102 := hbk.2.2.2.2.1
    have d103 := hbk.2.2.2.1
    have d105 := hbk.2.2.1
    have d10o := hbk.2.1
    have d108 := hbk.1
    clear e7 hbk hbn hbm i2 i3 i5 io i8
    have gx7 : Grow w0 Hx G3 := kpi gx3
    have gw7 : Grow w0 Hw G3 := kpi gw3
    have cR : ∀ K, (∀ H', Grow w0 G3 H' → K (.bool true) H') → HCalls Try.prog w0 17 [got.v, want.v, x1.v, w.v, .int .i64 e', .int .i64 e'] G7 K := fun K h => l_right got want x1 w e' (Hb := G3) (hC4.grow (g46.trans g67)) (g36.trans g67) (hC6.ok.grow g67) (hIx.grow gx7) (hIw.grow gw7) hEq hE h
    unfold Im.v at cR
    have hroot := root6n m2' m3' m5' mo' m8' m10'
    rw [hroot] at cR ⊢
    have hzA3 : ∀ G, Grow w0 G3 G → IntsAt w0 G .u8 z.a l := fun G g => IntsAt.grow hz1.at_ ((show Grow w0 H G3 from kpi gH3).trans g)
    have hby := hz1.by_
    have wn : IntKind.i64.wrap (((n + 1 : Nat) : Int) - 1) = (n : Int) := by rw [Bw.1 _ (by omega) (by omega)]; omega
    have e7' : (ub l ++ [Value.int .u8 7, .int .u8 0])[n]? = some (.int .u8 7) := by
      rw [List.getElem?_append_right (by rw [List.length_map]; omega), List.length_map, en, Nat.sub_self]; rfl
    have lt7 : (n : Int) < ((n + 1 : Nat) : Int) := by omega
    have lt8 : n < n + 1 := by omega
    clear hroot m2' m3' m5' mo' m8' m10' g67 g46 g36 g45 g35 hEq hP hP2 hC4 hC6 g4 g6 hIx hIw hE hSx gx7 gw7 gx3 gw3 h8n m8 hz1
    replace hoA : Keep _ := hoA
    replace hzA3 : Keep _ := hzA3
    replace hby : Keep _ := hby
    replace m2 : Keep _ := m2
    replace m3 : Keep _ := m3
    replace m5 : Keep _ := m5
    replace mo : Keep _ := mo
    refine any_pre 5 ?_
    (all_goals (try simp only [Sq,Sr,Sh,Si,Sl,Bu,Bb,Bd,Bc,Bw,Bn,Int.reduceAdd,Int.reduceSub,Int.reduceMul,Int.reduceTDiv,Int.reduceTMod,Int.reduceMod,Int.reduceDiv,Nat.reduceLT,Nat.reduceEqDiff,Sa,Sb,Sc,Sd,Se,Sf,Sg,Int.reduceLE,Int.reduceLT,Int.reduceToNat,Int.reduceNeg,Int.reduceEq,Nat.reduceLeDiff,Nat.reducePow,Int.reducePow,reduceIte,Nat.reduceSub,Nat.reduceAdd,Nat.reduceMul,putAt,ceq,List.replicate, *])); repeat' ((first | (with_reducible refine fun _ : True => ?_) | refine cR _ (fun H8 g8 => ?_)  | refine KP_pa rfl ?_ | refine KP_pb ?_ | (with_reducible refine any_h ?_) | ((first | refine AllocQ_i ?_ | refine AllocO_i ?_); intro bk hb0 hbk; (try simp only [set_none'] at hbk); (try (first | have hbn := Grow.none (by assumption) hbk | have hbn := Grow.none (by assumption) hbk.2 | have hbn := Grow.none (by assumption) hbk.2.2 | have hbn := Grow.none (by assumption) hbk.2.2.2 | have hbn := Grow.none (by assumption) hbk.2.2.2.2 | have hbn := Grow.none (by assumption) hbk.2.2.2.2.2)); (try simp only [set_none'] at hbn); (try (first | have hbm := Grow.none (by assumption) hbn | have hbm := Grow.none (by assumption) hbn.2 | have hbm := Grow.none (by assumption) hbn.2.2 | have hbm := Grow.none (by assumption) hbn.2.2.2 | have hbm := Grow.none (by assumption) hbn.2.2.2.2 | have hbm := Grow.none (by assumption) hbn.2.2.2.2.2)); (try simp only [set_none'] at hbm)) | ((first | refine condS_i ?_ ?_ | refine pick_i ?_ ?_ | refine gS_it ?_ ?_ | refine gS_if ?_ ?_ | refine gP_it ?_ ?_ | refine gP_if ?_ ?_) <;> (intro hc; try simp only [Int.reduceLE,Int.reduceLT,Int.reduceEq,Sn] at hc)) | (with_reducible refine KP_i ?_ ?_; · (repeat' (first | exact Heap.Le.refl _ | (with_reducible refine Le_set2 ?_) | (refine Le_known (by first | (simp only [Heap.set_same, set_ne, ne_eq, not_false_eq_true, *] <;> rfl) | fail) ?_) | (refine Le_fresh (by first | (simp only [*] <;> done) | (simp [set_none', Heap.set_same, set_ne, noneH, *] <;> done) | fail) ?_) | (refine Heap.Le.trans ?_ (Grow.le (by assumption))) | exact Le_none | (refine Le_put ?_ (by first | (simp only [Heap.set_same, set_ne, ne_eq, not_false_eq_true, *] <;> rfl) | fail)) | fail))) | (with_reducible refine And.intro ?_ ?_)) <;> (try simp only [Sq,Sr,Sh,Si,Sl,Bu,Bb,Bd,Bc,Bw,Bn,Int.reduceAdd,Int.reduceSub,Int.reduceMul,Int.reduceTDiv,Int.reduceTMod,Int.reduceMod,Int.reduceDiv,Nat.reduceLT,Nat.reduceEqDiff,Sa,Sb,Sc,Sd,Se,Sf,Sg,Int.reduceLE,Int.reduceLT,Int.reduceToNat,Int.reduceNeg,Int.reduceEq,Nat.reduceLeDiff,Nat.reducePow,Int.reducePow,reduceIte,Nat.reduceSub,Nat.reduceAdd,Nat.reduceMul,putAt,ceq,List.replicate, *]))
    have r3 := g8.some (kpi m3)
    have ro := g8.some (kpi mo)
    have gH8 : Grow w0 H H8 := (show Grow w0 H G3 from kpi gH3).trans g8
    rw [root2 o3.2 r3 ro]
    have cE : ∀ K, K (.bool true) ((H8.set c3 ⟨.t 40, [.int .i64 lv, .int .i64 f, .int .i64 z.w, .int .i64 z.h, .slice z.a n z.cap]⟩).set bo ⟨.t 5, ub l ++ [.int .u8 7, .int .u8 0]⟩) → HCalls Try.prog w0 24 [.slice (some ⟨bo, 0, none⟩) n (n + 2), .slice z.a n z.cap] ((H8.set c3 ⟨.t 40, [.int .i64 lv, .int .i64 f, .int .i64 z.w, .int .i64 z.h, .slice z.a n z.cap]⟩).set bo ⟨.t 5, ub l ++ [.int .u8 7, .int .u8 0]⟩) K := fun K hk => by
      rw [← root2 o3.2 r3 ro] at hk ⊢
      exact c_bytesEqual _ _ n n _ _ l l en en (kpi hoA _ g8) (kpi hzA3 _ g8) (kpi hby) (kpi hby) (by simpa using hk)
    clear cR
    replace gH8 : Keep _ := gH8
    clear g8 gH3
    (all_goals (try simp only [Sq,Sr,Sh,Si,Sl,Bu,Bb,Bd,Bc,Bw,Bn,Int.reduceAdd,Int.reduceSub,Int.reduceMul,Int.reduceTDiv,Int.reduceTMod,Int.reduceMod,Int.reduceDiv,Nat.reduceLT,Nat.reduceEqDiff,Sa,Sb,Sc,Sd,Se,Sf,Sg,Int.reduceLE,Int.reduceLT,Int.reduceToNat,Int.reduceNeg,Int.reduceEq,Nat.reduceLeDiff,Nat.reducePow,Int.reducePow,reduceIte,Nat.reduceSub,Nat.reduceAdd,Nat.reduceMul,putAt,ceq,List.replicate, *])); repeat' ((first | (with_reducible refine fun _ : True => ?_) | refine cE _ ?_ | refine KP_pa rfl ?_ | refine KP_pb ?_ | (with_reducible refine any_h ?_) | ((first | refine AllocQ_i ?_ | refine AllocO_i ?_); intro bk hb0 hbk; (try simp only [set_none'] at hbk); (try (first | have hbn := Grow.none (by assumption) hbk | have hbn := Grow.none (by assumption) hbk.2 | have hbn := Grow.none (by assumption) hbk.2.2 | have hbn := Grow.none (by assumption) hbk.2.2.2 | have hbn := Grow.none (by assumption) hbk.2.2.2.2 | have hbn := Grow.none (by assumption) hbk.2.2.2.2.2)); (try simp only [set_none'] at hbn); (try (first | have hbm := Grow.none (by assumption) hbn | have hbm := Grow.none (by assumption) hbn.2 | have hbm := Grow.none (by assumption) hbn.2.2 | have hbm := Grow.none (by assumption) hbn.2.2.2 | have hbm := Grow.none (by assumption) hbn.2.2.2.2 | have hbm := Grow.none (by assumption) hbn.2.2.2.2.2)); (try simp only [set_none'] at hbm)) | ((first | refine condS_i ?_ ?_ | refine pick_i ?_ ?_ | refine gS_it ?_ ?_ | refine gS_if ?_ ?_ | refine gP_it ?_ ?_ | refine gP_if ?_ ?_) <;> (intro hc; try simp only [Int.reduceLE,Int.reduceLT,Int.reduceEq,Sn] at hc)) | (with_reducible refine KP_i ?_ ?_; · (repeat' (first | exact Heap.Le.refl _ | (with_reducible refine Le_set2 ?_) | (refine Le_known (by first | (simp only [Heap.set_same, set_ne, ne_eq, not_false_eq_true, *] <;> rfl) | fail) ?_) | (refine Le_fresh (by first | (simp only [*] <;> done) | (simp [set_none', Heap.set_same, set_ne, noneH, *] <;> done) | fail) ?_) | (refine Heap.Le.trans ?_ (Grow.le (by assumption))) | exact Le_none | (refine Le_put ?_ (by first | (simp only [Heap.set_same, set_ne, ne_eq, not_false_eq_true, *] <;> rfl) | fail)) | fail))) | (with_reducible refine And.intro ?_ ?_)) <;> (try simp only [Sq,Sr,Sh,Si,Sl,Bu,Bb,Bd,Bc,Bw,Bn,Int.reduceAdd,Int.reduceSub,Int.reduceMul,Int.reduceTDiv,Int.reduceTMod,Int.reduceMod,Int.reduceDiv,Nat.reduceLT,Nat.reduceEqDiff,Sa,Sb,Sc,Sd,Se,Sf,Sg,Int.reduceLE,Int.reduceLT,Int.reduceToNat,Int.reduceNeg,Int.reduceEq,Nat.reduceLeDiff,Nat.reducePow,Int.reducePow,reduceIte,Nat.reduceSub,Nat.reduceAdd,Nat.reduceMul,putAt,ceq,List.replicate, *]))
    rw [← root2 o3.2 r3 ro]
    exact Fin_mk (Grow.le (show Grow w0 H H8 from kpi gH8)) h
end Go.Proofs.Ytdaipgnhconfnaa
