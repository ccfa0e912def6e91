/- A code from bytes, by the program (layer 16): the head. -/
import Derived.Test.YtndgmnmnpfblmaaCdl
import Derived.Test.YtndgmnmnpfblmaaCdj
import Derived.Test.YtndgmnmnpfblmaaHlu
set_option linter.unusedSimpArgs false
set_option linter.unusedVariables false
set_option maxRecDepth 100000
set_option maxHeartbeats 4000000
namespace Go.Proofs.Ytndgmnmnpfblmaa
open Go.HL Go.RowKit Pb
variable {w0 : World} {H G : Heap} {K : Value → Heap → Prop}

/-- An instruction of bytes. -/
def s32 (x : Int) : Int := IntKind.i32.wrap (IntKind.u32.wrap x)
def insA (l : List Int) (q : Nat) : Ins := ⟨numA l q, numA l (q + 4), numA l (q + 8), numA l (q + 12), numA l (q + 16), numA l (q + 20), numA l (q + 24), numA l (q + 28), s32 (numA l (q + 32)), s32 (numA l (q + 36)), s32 (numA l (q + 40)), s32 (numA l (q + 44)), numA l (q + 48), numA l (q + 52), numA l (q + 56), numA l (q + 60)⟩
def decIs (l : List Int) (n : Nat) : List Ins := (List.range n).map fun k => insA l (28 + 64 * k)
def decC (l : List Int) : Cd := ⟨numA l 4, none, 0, decIs l (numA l 24).toNat, numA l 8, numA l 12, numA l 16, numA l 20⟩
def okHd (l : List Int) : Prop := 28 ≤ l.length ∧ numA l 0 = 1128353872 ∧ numA l 24 ≤ 4096 ∧ l.length = 28 + 64 * (numA l 24).toNat
def zeroC : Value := .agg #[.int .i64 0, .slice none 0 0, .int .i64 0, .int .i64 0, .int .i64 0, .int .i64 0]
/-- What stays while bytes are read. -/
def DcK (rb : Nat) (G F : Heap) : Prop := ∀ d z, G d = some z → d ≠ rb → F d = some z
/-- A row, of which the first cells are laid. -/
def part (A Z : List Value) (j : Nat) : List Value := A.take j ++ Z.drop j
theorem part_z {A Z : List Value} : part A Z 0 = Z := by simp [part]
theorem part_e {A Z : List Value} (hA : A.length = 16) (hZ : Z.length = 16) : part A Z 16 = A := by
  unfold part
  rw [List.take_of_length_le (by omega), List.drop_of_length_le (by omega), List.append_nil]
theorem part_len {A Z : List Value} {j : Nat} (hA : A.length = 16) (hZ : Z.length = 16) (hj : j ≤ 16) : (part A Z j).length = 16 := by
  unfold part
  rw [List.length_append, List.length_take, List.length_drop]
  omega
theorem part_set {A Z : List Value} {j : Nat} {v : Value} (hA : A.length = 16) (hZ : Z.length = 16) (hj : j < 16) (hv : A[j]? = some v) : (part A Z j).set j v = part A Z (j + 1) := by
  unfold part
  have hl : (A.take j).length = j := by rw [List.length_take]; omega
  rw [List.set_append_right _ _ (by omega), hl, Nat.sub_self, List.take_add_one, hv, Option.toList_some, List.append_assoc]
  congr 1
  have hd : Z.drop j = Z[j] :: Z.drop (j + 1) := List.drop_eq_getElem_cons (by omega)
  rw [hd]
  rfl
theorem rd1_of {E : Heap} {b : Nat} {ty : Kd} {v : Value} (h : E b = some ⟨ty, [v]⟩) : rd1 w0 E b 0 = some v := by unfold rd1; rw [h]; rfl
theorem DcSt.stay {E : Heap} {rb pb : Nat} {a a' : Option Addr} {cp : Nat} {l : List Int} {j : Nat} (h : DcSt w0 H G rb pb a cp l j) (hg : Grow w0 H E)
    (hk : ∀ c x, G c = some x → (x.ty = .t 30 → a' ≠ some ⟨c, 0, .none⟩) → E c = some x) : DcSt w0 H E rb pb a cp l j := by
  obtain ⟨⟨p, e, hR, hp'⟩, k1, k2, k3, k4⟩ := h
  exact ⟨⟨p, e, ⟨hk _ _ hR.at_ (fun e => by cases e), hR.iv.stay (fun e => by cases e) hk, hR.lc, hR.lm, hR.lp, hR.wf⟩, hp'⟩, hk _ _ k1 (fun e => by cases e), hg, k3, k4⟩
theorem bld_st {E : Heap} {rb pb : Nat} {a a' : Option Addr} {cp c' : Nat} {l : List Int} {j : Nat} {cs : List Value} (hB : Bld w0 H G a' c' 16 30 cs) (h : DcSt w0 H G rb pb a cp l j) (hk : ∀ c x, G c = some x → c ≠ rb → E c = some x) : Bld w0 H E a' c' 16 30 cs := by
  obtain ⟨⟨p, e, hR, -⟩, -⟩ := h
  refine hB.stay (ty' := 86) (a' := some ⟨rb, 0, none⟩) (by decide) fun c x h1 h2 => hk c x h1 fun e => ?_
  subst e
  rw [hR.at_] at h1
  cases h1
  exact h2 rfl rfl
/-- A slice is being built of what the others leave. -/
theorem bld_st2 {E : Heap} {rb pb bi : Nat} {a a' : Option Addr} {cp c' : Nat} {l : List Int} {j : Nat} {cs : List Value} (hB : Bld w0 H G a' c' 16 30 cs) (h : DcSt w0 H G rb pb a cp l j) (hi : ∀ b, a' = some ⟨b, 0, none⟩ → b ≠ bi ∨ c' = 0) (hk : ∀ c x, G c = some x → c ≠ rb → c ≠ bi → E c = some x) : Bld w0 H E a' c' 16 30 cs := by
  obtain ⟨⟨p, e, hR, -⟩, -⟩ := h
  have zero : c' = 0 → cs = [] := fun e => by
    have := hB.le
    rw [e, Nat.zero_mul] at this
    exact List.length_eq_zero_iff.1 (by omega)
  rcases hB with ⟨b, z, rfl, h1, h2, h3, h4⟩ | h
  · rcases hi b rfl with hb | hb
    · exact .inl ⟨b, z, rfl, h1, h2, hk _ _ h3 (fun e => by subst e; rw [hR.at_] at h3; cases h3) hb, h4⟩
    · exact .inr ⟨hb, zero hb⟩
  · exact .inr h
theorem DcK.trans {rb : Nat} {G F E : Heap} (a : DcK rb G F) (b : ∀ d z, F d = some z → d ≠ rb → E d = some z) : DcK rb G E := fun d z h1 h2 => b d z (a d z h1 h2) h2
theorem dck_fresh {rb d : Nat} {x : Blk} {G F : Heap} (a : DcK rb G F) (h : F d = none) : DcK rb G (F.set d x) := fun c z h1 h2 => by
  have h3 := a c z h1 h2
  rw [Heap.set_other _ _ (fun e => by subst e; rw [h] at h3; cases h3)]
  exact h3
theorem dck_turn {rb d : Nat} {x z : Blk} {G F : Heap} (a : DcK rb G (F.set d z)) (h : G d = none) : DcK rb G (F.set d x) := fun c z' h1 h2 => by
  have hc : c ≠ d := fun e => by subst e; rw [h] at h1; cases h1
  have h3 := a c z' h1 h2
  rw [Heap.set_other _ _ hc] at h3 ⊢
  exact h3
theorem dck_none {rb d : Nat} {G F : Heap} (a : DcK rb G F) (h : F d = none) (h2 : d ≠ rb) : G d = none := by
  cases e : G d with
  | none => rfl
  | some z => rw [a d z e h2] at h; cases h
theorem DcSt.fresh_ne {rb pb d : Nat} {a : Option Addr} {cp : Nat} {l : List Int} {j : Nat} (h : DcSt w0 H G rb pb a cp l j) (hd : G d = none) : d ≠ rb := fun e => by
  obtain ⟨⟨p, e', hR, -⟩, -⟩ := h
  subst e
  rw [hR.at_] at hd
  cases hd
theorem dc_turn {rb pb d : Nat} {a : Option Addr} {cp : Nat} {l : List Int} {j : Nat} {x z : Blk} (h : DcSt w0 H (G.set d z) rb pb a cp l j) (hz : z.ty ≠ .t 5) (h1 : d ≠ rb) (hl : z.cells.length ≠ 1) (hn : H d = none) (hs : w0.heap.size ≤ d) : DcSt w0 H (G.set d x) rb pb a cp l j := by
  have hp : d ≠ pb := fun e => by
    obtain ⟨-, k, -⟩ := h
    subst e
    rw [Heap.set_same] at k
    cases k
    exact hl rfl
  have := h.turn (x := x) (Heap.set_same _ _ _) hz h1 hp hn hs
  rwa [Heap.set_set] at this
def A22_1 : PT := (.one true 0 [] ⟨(some 18), .ld1 (.tmp 5), none⟩ (.one true 2 [] ⟨(some 20), .ld1 (.tmp 5), none⟩ (.one true 4 [] ⟨(some 22), .ld1 (.tmp 5), none⟩ (.one true 6 [] ⟨(some 24), .ld1 (.tmp 5), none⟩ (.one true 8 [] ⟨(some 26), .ld1 (.tmp 5), none⟩ (.alt (.one false 1 [2, 4, 6, 8, 10] ⟨(some 19), .callv (.tmp 18) [], none⟩ (.alt (.one false 3 [4, 6, 8, 10] ⟨(some 21), .callv (.tmp 20) [], none⟩ (.alt (.one false 5 [6, 8, 10] ⟨(some 23), .callv (.tmp 22) [], none⟩ (.alt (.one false 7 [8, 10] ⟨(some 25), .callv (.tmp 24) [], none⟩ (.alt (.one false 9 [10] ⟨(some 27), .callv (.tmp 26) [], none⟩ (.one true 10 [] ⟨(some 28), .build [(.int .i64 0), (.slice none 0 0), (.int .i64 0), (.int .i64 0), (.int .i64 0), (.int .i64 0)] [(0, 1, (.tmp 19)), (2, 1, (.tmp 21)), (3, 1, (.tmp 23)), (4, 1, (.tmp 25)), (5, 1, (.tmp 27))], none⟩ (.one false 11 [10] ⟨(some 7), .alloc 34 [(.int .i64 0), (.slice none 0 0), (.int .i64 0), (.int .i64 0), (.int .i64 0), (.int .i64 0)], none⟩ (.one false 12 [] ⟨none, .stn 6 (.tmp 7) (.tmp 28), none⟩ .nil))))
      (.one false 11 [8, 10] ⟨(some 7), .alloc 34 [(.int .i64 0), (.slice none 0 0), (.int .i64 0), (.int .i64 0), (.int .i64 0), (.int .i64 0)], none⟩ (.one false 9 [10] ⟨(some 27), .callv (.tmp 26) [], none⟩ (.one false 10 [10] ⟨(some 28), .build [(.int .i64 0), (.slice none 0 0), (.int .i64 0), (.int .i64 0), (.int .i64 0), (.int .i64 0)] [(0, 1, (.tmp 19)), (2, 1, (.tmp 21)), (3, 1, (.tmp 23)), (4, 1, (.tmp 25)), (5, 1, (.tmp 27))], none⟩ (.one false 12 [] ⟨none, .stn 6 (.tmp 7) (.tmp 28), none⟩ .nil))))))
      (.one false 11 [6, 8, 10] ⟨(some 7), .alloc 34 [(.int .i64 0), (.slice none 0 0), (.int .i64 0), (.int .i64 0), (.int .i64 0), (.int .i64 0)], none⟩ (.one false 7 [8, 10] ⟨(some 25), .callv (.tmp 24) [], none⟩ (.one false 9 [10] ⟨(some 27), .callv (.tmp 26) [], none⟩ (.one false 10 [10] ⟨(some 28), .build [(.int .i64 0), (.slice none 0 0), (.int .i64 0), (.int .i64 0), (.int .i64 0), (.int .i64 0)] [(0, 1, (.tmp 19)), (2, 1, (.tmp 21)), (3, 1, (.tmp 23)), (4, 1, (.tmp 25)), (5, 1, (.tmp 27))], none⟩ (.one false 12 [] ⟨none, .stn 6 (.tmp 7) (.tmp 28), none⟩ .nil)))))))
      (.one false 11 [4, 6, 8, 10] ⟨(some 7), .alloc 34 [(.int .i64 0), (.slice none 0 0), (.int .i64 0), (.int .i64 0), (.int .i64 0), (.int .i64 0)], none⟩ (.one false 5 [6, 8, 10] ⟨(some 23), .callv (.tmp 22) [], none⟩ (.one false 7 [8, 10] ⟨(some 25), .callv (.tmp 24) [], none⟩ (.one false 9 [10] ⟨(some 27), .callv (.tmp 26) [], none⟩ (.one false 10 [10] ⟨(some 28), .build [(.int .i64 0), (.slice none 0 0), (.int .i64 0), (.int .i64 0), (.int .i64 0), (.int .i64 0)] [(0, 1, (.tmp 19)), (2, 1, (.tmp 21)), (3, 1, (.tmp 23)), (4, 1, (.tmp 25)), (5, 1, (.tmp 27))], none⟩ (.one false 12 [] ⟨none, .stn 6 (.tmp 7) (.tmp 28), none⟩ .nil))))))))
      (.one false 11 [2, 4, 6, 8, 10] ⟨(some 7), .alloc 34 [(.int .i64 0), (.slice none 0 0), (.int .i64 0), (.int .i64 0), (.int .i64 0), (.int .i64 0)], none⟩ (.one false 3 [4, 6, 8, 10] ⟨(some 21), .callv (.tmp 20) [], none⟩ (.one false 5 [6, 8, 10] ⟨(some 23), .callv (.tmp 22) [], none⟩ (.one false 7 [8, 10] ⟨(some 25), .callv (.tmp 24) [], none⟩ (.one false 9 [10] ⟨(some 27), .callv (.tmp 26) [], none⟩ (.one false 10 [10] ⟨(some 28), .build [(.int .i64 0), (.slice none 0 0), (.int .i64 0), (.int .i64 0), (.int .i64 0), (.int .i64 0)] [(0, 1, (.tmp 19)), (2, 1, (.tmp 21)), (3, 1, (.tmp 23)), (4, 1, (.tmp 25)), (5, 1, (.tmp 27))], none⟩ (.one false 12 [] ⟨none, .stn 6 (.tmp 7) (.tmp 28), none⟩ .nil)))))))))
      (.one false 11 [0, 2, 4, 6, 8, 10] ⟨(some 7), .alloc 34 [(.int .i64 0), (.slice none 0 0), (.int .i64 0), (.int .i64 0), (.int .i64 0), (.int .i64 0)], none⟩ (.one false 1 [2, 4, 6, 8, 10] ⟨(some 19), .callv (.tmp 18) [], none⟩ (.one false 3 [4, 6, 8, 10] ⟨(some 21), .callv (.tmp 20) [], none⟩ (.one false 5 [6, 8, 10] ⟨(some 23), .callv (.tmp 22) [], none⟩ (.one false 7 [8, 10] ⟨(some 25), .callv (.tmp 24) [], none⟩ (.one false 9 [10] ⟨(some 27), .callv (.tmp 26) [], none⟩ (.one false 10 [10] ⟨(some 28), .build [(.int .i64 0), (.slice none 0 0), (.int .i64 0), (.int .i64 0), (.int .i64 0), (.int .i64 0)] [(0, 1, (.tmp 19)), (2, 1, (.tmp 21)), (3, 1, (.tmp 23)), (4, 1, (.tmp 25)), (5, 1, (.tmp 27))], none⟩ (.one false 12 [] ⟨none, .stn 6 (.tmp 7) (.tmp 28), none⟩ .nil))))))))))))))
/- code Decode -/
def M22 : MC :=
  .seq (.reg [⟨(some 2), .alloc 34 [(.int .i64 0), (.slice none 0 0), (.int .i64 0), (.int .i64 0), (.int .i64 0), (.int .i64 0)], none⟩,
 ⟨(some 3), .mv (.const (.int .i64 0)), none⟩])
 (.seq (.reg [⟨(some 13), .mv (.tmp 0), none⟩,
 ⟨(some 14), .call 38 [(.tmp 13)], none⟩,
 ⟨(some 4), .alloc 68 [(.pointer none)], none⟩,
 ⟨none, .st1 (.tmp 4) (.tmp 14), none⟩])
 (.seq (.reg [⟨(some 15), .fn 39 [(.tmp 4)], none⟩,
 ⟨(some 5), .alloc 71 [.nilFunc], none⟩,
 ⟨none, .st1 (.tmp 5) (.tmp 15), none⟩])
 (.seq (.reg [⟨(some 16), .ld1 (.tmp 5), none⟩,
 ⟨(some 17), .yv (.tmp 16) [], none⟩,
 ⟨(some 6), .mv (.tmp 17), none⟩])
 (.seq (.alts A22_1)
 (.seq (.reg [⟨(some 29), .ld1 (.tmp 5), none⟩,
 ⟨(some 30), .yv (.tmp 29) [], none⟩,
 ⟨(some 8), .mv (.tmp 30), none⟩])
 (.seq (.seq (.reg [⟨(some 31), .mv (.tmp 0), none⟩,
 ⟨(some 32), .len (.tmp 31), none⟩,
 ⟨(some 33), .bin .lss (.tmp 32) (.const (.int .i64 28)), none⟩,
 ⟨(some 34), .mv (.tmp 33), none⟩,
 ⟨(some 35), .mv (.tmp 6), (some (34, false))⟩,
 ⟨(some 36), .bin .neq (.tmp 35) (.const (.int .i64 1128353872)), (some (34, false))⟩,
 ⟨(some 37), .pick (.tmp 34) (.const (.bool true)) (.tmp 36), none⟩,
 ⟨(some 38), .mv (.tmp 37), none⟩,
 ⟨(some 39), .mv (.tmp 8), (some (38, false))⟩,
 ⟨(some 40), .bin .gtr (.tmp 39) (.const (.int .i64 4096)), (some (38, false))⟩,
 ⟨(some 41), .pick (.tmp 38) (.const (.bool true)) (.tmp 40), none⟩,
 ⟨(some 42), .mv (.tmp 41), none⟩,
 ⟨(some 43), .mv (.tmp 0), (some (42, false))⟩,
 ⟨(some 44), .len (.tmp 43), (some (42, false))⟩,
 ⟨(some 45), .mv (.tmp 8), (some (42, false))⟩,
 ⟨(some 46), .bin .mul (.tmp 45) (.const (.int .i64 64)), (some (42, false))⟩,
 ⟨(some 47), .bin .add (.const (.int .i64 28)) (.tmp 46), (some (42, false))⟩,
 ⟨(some 48), .bin .neq (.tmp 44) (.tmp 47), (some (42, false))⟩,
 ⟨(some 49), .pick (.tmp 42) (.const (.bool true)) (.tmp 48), none⟩])
 (.cond (.tmp 49)
 (.seq (.reg [⟨(some 50), .build [(.int .i64 0), (.slice none 0 0), (.int .i64 0), (.int .i64 0), (.int .i64 0), (.int .i64 0)] [], none⟩,
 ⟨none, .stn 6 (.tmp 2) (.tmp 50), none⟩,
 ⟨(some 3), .mv (.const (.int .i64 261)), none⟩])
 (.ret))
 (.skip)))
 (.seq (.seq (.reg [⟨(some 51), .mv (.tmp 8), none⟩,
 ⟨(some 52), .mv (.const (.int .i64 0)), none⟩])
 (.block 0 (.loop (.seq (.reg [⟨(some 53), .bin .lss (.tmp 52) (.tmp 51), none⟩])
 (.seq (.cond (.tmp 53)
 (.skip)
 (.exit 0))
 (.seq (.block 1 (.seq (.reg [⟨(some 9), .alloc 30 [(.int .i64 0), (.int .i64 0), (.int .i64 0), (.int .i64 0), (.int .i64 0), (.int .i64 0), (.int .i64 0), (.int .i64 0), (.int .i32 0), (.int .i32 0), (.int .i32 0), (.int .i32 0), (.int .i64 0), (.int .i64 0), (.int .i64 0), (.int .i64 0)], none⟩])
 (.seq (.seq (.reg [⟨(some 54), .call 41 [(.tmp 9)], none⟩])
 (.block 2 (.rangef (.tmp 54) [55]
 (.reg [⟨(some 10), .mv (.tmp 55), none⟩])
 (.block 3 (.reg [⟨(some 56), .mv (.tmp 10), none⟩,
 ⟨(some 57), .ld1 (.tmp 5), none⟩,
 ⟨(some 58), .yv (.tmp 57) [], none⟩,
 ⟨(some 59), .nilc (.tmp 56), none⟩,
 ⟨none, .st1 (.tmp 59) (.tmp 58), none⟩])))))
 (.seq (.seq (.reg [⟨(some 60), .mv (.const (.int .i64 0)), none⟩])
 (.block 4 (.loop (.seq (.reg [⟨(some 61), .bin .lss (.tmp 60) (.const (.int .i64 4)), none⟩])
 (.seq (.cond (.tmp 61)
 (.skip)
 (.exit 4))
 (.seq (.block 5 (.seq (.reg [⟨(some 62), .mv (.tmp 60), none⟩,
 ⟨(some 11), .mv (.tmp 62), none⟩])
 (.reg [⟨(some 63), .mv (.tmp 11), none⟩,
 ⟨(some 64), .ld1 (.tmp 5), none⟩,
 ⟨(some 65), .yv (.tmp 64) [], none⟩,
 ⟨(some 66), .conv .u32 (.tmp 65), none⟩,
 ⟨(some 67), .conv .i32 (.tmp 66), none⟩,
 ⟨(some 68), .fa 8 (.tmp 9), none⟩,
 ⟨(some 69), .ia 4 1 (.tmp 68) (.tmp 63), none⟩,
 ⟨none, .st1 (.tmp 69) (.tmp 67), none⟩])))
 (.reg [⟨(some 70), .bin .add (.tmp 60) (.const (.int .i64 1)), none⟩,
 ⟨(some 60), .mv (.tmp 70), none⟩])))))))
 (.seq (.seq (.reg [⟨(some 71), .mv (.const (.int .i64 0)), none⟩])
 (.block 6 (.loop (.seq (.reg [⟨(some 72), .bin .lss (.tmp 71) (.const (.int .i64 4)), none⟩])
 (.seq (.cond (.tmp 72)
 (.skip)
 (.exit 6))
 (.seq (.block 7 (.seq (.reg [⟨(some 73), .mv (.tmp 71), none⟩,
 ⟨(some 12), .mv (.tmp 73), none⟩])
 (.reg [⟨(some 74), .mv (.tmp 12), none⟩,
 ⟨(some 75), .ld1 (.tmp 5), none⟩,
 ⟨(some 76), .yv (.tmp 75) [], none⟩,
 ⟨(some 77), .fa 12 (.tmp 9), none⟩,
 ⟨(some 78), .ia 4 1 (.tmp 77) (.tmp 74), none⟩,
 ⟨none, .st1 (.tmp 78) (.tmp 76), none⟩])))
 (.reg [⟨(some 79), .bin .add (.tmp 71) (.const (.int .i64 1)), none⟩,
 ⟨(some 71), .mv (.tmp 79), none⟩])))))))
 (.reg [⟨(some 80), .fa 1 (.tmp 7), none⟩,
 ⟨(some 81), .ld1 (.tmp 80), none⟩,
 ⟨(some 82), .ldn 16 (.tmp 9), none⟩,
 ⟨(some 83), .bslice 30 1 [(.int .i64 0), (.int .i64 0), (.int .i64 0), (.int .i64 0), (.int .i64 0), (.int .i64 0), (.int .i64 0), (.int .i64 0), (.int .i32 0), (.int .i32 0), (.int .i32 0), (.int .i32 0), (.int .i64 0), (.int .i64 0), (.int .i64 0), (.int .i64 0)] [(0, 16, (.tmp 82))], none⟩,
 ⟨(some 84), .app 30 16 112 [(.int .i64 0), (.int .i64 0), (.int .i64 0), (.int .i64 0), (.int .i64 0), (.int .i64 0), (.int .i64 0), (.int .i64 0), (.int .i32 0), (.int .i32 0), (.int .i32 0), (.int .i32 0), (.int .i64 0), (.int .i64 0), (.int .i64 0), (.int .i64 0)] (.tmp 81) (.tmp 83), none⟩,
 ⟨(some 85), .fa 1 (.tmp 7), none⟩,
 ⟨none, .st1 (.tmp 85) (.tmp 84), none⟩]))))))
 (.reg [⟨(some 86), .bin .add (.tmp 52) (.const (.int .i64 1)), none⟩,
 ⟨(some 52), .mv (.tmp 86), none⟩])))))))
 (.seq (.seq (.reg [⟨(some 87), .ldn 6 (.tmp 7), none⟩,
 ⟨(some 88), .call 18 [(.tmp 87)], none⟩,
 ⟨(some 89), .bin .neq (.tmp 88) (.const (.int .i64 0)), none⟩])
 (.cond (.tmp 89)
 (.seq (.reg [⟨(some 90), .build [(.int .i64 0), (.slice none 0 0), (.int .i64 0), (.int .i64 0), (.int .i64 0), (.int .i64 0)] [], none⟩,
 ⟨none, .stn 6 (.tmp 2) (.tmp 90), none⟩,
 ⟨(some 3), .mv (.const (.int .i64 261)), none⟩])
 (.ret))
 (.skip)))
 (.seq (.reg [⟨(some 91), .ldn 6 (.tmp 7), none⟩,
 ⟨none, .stn 6 (.tmp 2) (.tmp 91), none⟩,
 ⟨(some 3), .mv (.const (.int .i64 0)), none⟩])
 (.ret))))))))))
theorem k22 : fnOk Try.prog 22 = some (M22, [.cn 6 2, .t 3], 92) := by kernel_rfl

theorem c_Decode (a : Option Addr) (cp : Nat) (l : List Int) (hA : IntsAt w0 H .u8 a l) (hlc : l.length ≤ cp) (hl : l.length ≤ 1000000000) (hw : ∀ x ∈ l, 0 ≤ x ∧ x < 256)
    (hy : okHd l → mayP (decC l) → ∀ ad k G, Bld w0 H G ad k 16 30 ((decC l).is.map Ins.row).flatten → (decC l).is.length ≤ k → Grow w0 H G → K (.tuple #[({ decC l with adr := ad, cap := k } : Cd).v, .int .i64 0]) G)
    (hn : ¬ (okHd l ∧ mayP (decC l)) → K (.tuple #[zeroC, .int .i64 261]) H) : HCalls Try.prog w0 22 [.slice a l.length cp] H K := by
  have hRd := fun (G : Heap) (K : Value → Heap → Prop) (g : Grow w0 H G) => c_Read (w0 := w0) (H := G) (K := K) a cp l (hA.grow g) hlc hl hw
  replace hRd : Keep _ := hRd
  replace hn : Keep _ := hn
  replace hy : Keep _ := hy
  refine HL.hc k22 4000 ?_; unfold M22
  simp only [Sq,Sr,Sh,Si,Sl,Bu,Bb,Bd,Bc,Bw,Bn,Int.reduceAdd,Int.reduceSub,Int.reduceMul,Int.reduceTDiv,Int.reduceTMod,Int.reduceMod,Int.reduceDiv,Nat.reduceLT,Nat.reduceEqDiff,Sa,Sb,Sc,Sd,Se,Sf,Sg,Int.reduceLE,Int.reduceLT,Int.reduceToNat,Int.reduceNeg,Int.reduceEq,Nat.reduceLeDiff,Nat.reducePow,Int.reducePow,reduceIte,Nat.reduceSub,Nat.reduceAdd,Nat.reduceMul,putAt,ceq,List.replicate, *]
  refine AllocQ_i ?_
  intro b2 hb2 hn2
  (all_goals (try simp only [Sq,Sr,Sh,Si,Sl,Bu,Bb,Bd,Bc,Bw,Bn,Int.reduceAdd,Int.reduceSub,Int.reduceMul,Int.reduceTDiv,Int.reduceTMod,Int.reduceMod,Int.reduceDiv,Nat.reduceLT,Nat.reduceEqDiff,Sa,Sb,Sc,Sd,Se,Sf,Sg,Int.reduceLE,Int.reduceLT,Int.reduceToNat,Int.reduceNeg,Int.reduceEq,Nat.reduceLeDiff,Nat.reducePow,Int.reducePow,reduceIte,Nat.reduceSub,Nat.reduceAdd,Nat.reduceMul,putAt,ceq,List.replicate, *])); repeat' ((first | (with_reducible refine fun _ : True => ?_) | refine hRd _ _ (by (repeat' (first | exact Grow.refl _ | assumption | (refine Grow_known (by first | (simp only [Heap.set_same, set_ne, ne_eq, not_false_eq_true, *] <;> rfl) | fail) ?_) | (refine Grow.set ?_ (by assumption) (by first | (simp only [*] <;> done) | (simp [set_none', Heap.set_same, set_ne, noneH, *] <;> done) | fail)) | (refine Grow.trans ?_ (by assumption))))) (fun rb ra rc G hR hrn hrs hg => ?_)  | (with_reducible refine any_h ?_) | ((first | refine AllocQ_i ?_ | refine AllocO_i ?_); intro bk hb0 hbk; (try simp only [set_none'] at hbk); (try (first | have hbn := Grow.none (by assumption) hbk | have hbn := Grow.none (by assumption) hbk.2 | have hbn := Grow.none (by assumption) hbk.2.2 | have hbn := Grow.none (by assumption) hbk.2.2.2 | have hbn := Grow.none (by assumption) hbk.2.2.2.2 | have hbn := Grow.none (by assumption) hbk.2.2.2.2.2)); (try simp only [set_none'] at hbn); (try (first | have hbm := Grow.none (by assumption) hbn | have hbm := Grow.none (by assumption) hbn.2 | have hbm := Grow.none (by assumption) hbn.2.2 | have hbm := Grow.none (by assumption) hbn.2.2.2 | have hbm := Grow.none (by assumption) hbn.2.2.2.2 | have hbm := Grow.none (by assumption) hbn.2.2.2.2.2)); (try simp only [set_none'] at hbm)) | ((first | refine condS_i ?_ ?_ | refine pick_i ?_ ?_ | refine gS_it ?_ ?_ | refine gS_if ?_ ?_ | refine gP_it ?_ ?_ | refine gP_if ?_ ?_) <;> (intro hc; try simp only [Int.reduceLE,Int.reduceLT,Int.reduceEq,Sn] at hc)) | (refine KP_i (by (repeat' (first | exact Heap.Le.refl _ | (with_reducible refine Le_set2 ?_) | (refine Le_known (by first | (simp only [Heap.set_same, set_ne, ne_eq, not_false_eq_true, *] <;> rfl) | fail) ?_) | (refine Le_fresh (by first | (simp only [*] <;> done) | (simp [set_none', Heap.set_same, set_ne, noneH, *] <;> done) | fail) ?_) | (refine Heap.Le.trans ?_ (Grow.le (by assumption))) | exact Le_none | (refine Le_put ?_ (by first | (simp only [Heap.set_same, set_ne, ne_eq, not_false_eq_true, *] <;> rfl) | fail)) | fail))) ?_) | (with_reducible refine And.intro ?_ ?_)) <;> (try simp only [Sq,Sr,Sh,Si,Sl,Bu,Bb,Bd,Bc,Bw,Bn,Int.reduceAdd,Int.reduceSub,Int.reduceMul,Int.reduceTDiv,Int.reduceTMod,Int.reduceMod,Int.reduceDiv,Nat.reduceLT,Nat.reduceEqDiff,Sa,Sb,Sc,Sd,Se,Sf,Sg,Int.reduceLE,Int.reduceLT,Int.reduceToNat,Int.reduceNeg,Int.reduceEq,Nat.reduceLeDiff,Nat.reducePow,Int.reducePow,reduceIte,Nat.reduceSub,Nat.reduceAdd,Nat.reduceMul,putAt,ceq,List.replicate, *]))
  · rfl
  rename_i pb hpb qpb npb
  simp only [set_none'] at hrn
  obtain ⟨⟨hrb2, -⟩, hrH⟩ := hrn
  generalize hG0 : ((G.set pb _).set bk _) = G0
  have gG : Grow w0 G G0 := by rw [← hG0]; exact (by (repeat' (first | exact Grow.refl _ | assumption | (refine Grow_known (by first | (simp only [Heap.set_same, set_ne, ne_eq, not_false_eq_true, *] <;> rfl) | fail) ?_) | (refine Grow.set ?_ (by assumption) (by first | (simp only [*] <;> done) | (simp [set_none', Heap.set_same, set_ne, noneH, *] <;> done) | fail)) | (refine Grow.trans ?_ (by assumption)))))
  have kp : G0 pb = some ⟨.t 68, [.pointer (some ⟨rb, 0, none⟩)]⟩ := by rw [← hG0]; exact (by simp only [Heap.set_same, set_ne, ne_eq, not_false_eq_true, *] <;> rfl)
  have k5 : G0 bk = some ⟨.t 71, [.func (.func 39) #[] #[.pointer (some ⟨pb, 0, none⟩)]]⟩ := by rw [← hG0]; exact (by simp only [Heap.set_same, set_ne, ne_eq, not_false_eq_true, *] <;> rfl)
  have k2 := gG.some (hg.some (Heap.set_same _ _ _))
  have gH : Grow w0 H G0 := (Grow.trans (by (repeat' (first | exact Grow.refl _ | assumption | (refine Grow_known (by first | (simp only [Heap.set_same, set_ne, ne_eq, not_false_eq_true, *] <;> rfl) | fail) ?_) | (refine Grow.set ?_ (by assumption) (by first | (simp only [*] <;> done) | (simp [set_none', Heap.set_same, set_ne, noneH, *] <;> done) | fail)) | (refine Grow.trans ?_ (by assumption))))) hg).trans gG
  have kr := gG.some hR.at_
  have d5 : bk ≠ rb := fun e => by subst e; rw [k5] at kr; cases kr
  have d2 : b2 ≠ rb := fun e => by subst e; rw [k2] at kr; cases kr
  have n5 : bk ≠ b2 := hbn.1.1
  have hS0 : DcSt w0 H G0 rb pb ra rc l 0 := ⟨⟨0, 0, hR.grow gG, fun _ => ⟨rfl, rfl⟩⟩, kp, gH, hrH, hrs⟩
  clear hRd hG0 gG hg kr hR hbn hbk npb qpb kp
  refine c_getS hS0 (fun x0 G1 hx0 hS1 hk1 => ?_)
  replace k2 := hk1 _ _ k2 d2
  replace k5 := hk1 _ _ k5 d5
  clear hS0 hk1
  have r5 : rd1 w0 G1 bk 0 = some (.func (.func 39) #[] #[.pointer (some ⟨pb, 0, none⟩)]) := by unfold rd1; rw [k5]; rfl
  (all_goals (try simp only [Sq,Sr,Sh,Si,Sl,Bu,Bb,Bd,Bc,Bw,Bn,Int.reduceAdd,Int.reduceSub,Int.reduceMul,Int.reduceTDiv,Int.reduceTMod,Int.reduceMod,Int.reduceDiv,Nat.reduceLT,Nat.reduceEqDiff,Sa,Sb,Sc,Sd,Se,Sf,Sg,Int.reduceLE,Int.reduceLT,Int.reduceToNat,Int.reduceNeg,Int.reduceEq,Nat.reduceLeDiff,Nat.reducePow,Int.reducePow,reduceIte,Nat.reduceSub,Nat.reduceAdd,Nat.reduceMul,putAt,ceq,List.replicate, *])); repeat' ((first | (with_reducible refine fun _ : True => ?_) | ((first | refine AllocQ_i ?_ | refine AllocO_i ?_); intro bk hb0 hbk; (try simp only [set_none'] at hbk); (try (first | have hbn := Grow.none (by assumption) hbk | have hbn := Grow.none (by assumption) hbk.2 | have hbn := Grow.none (by assumption) hbk.2.2 | have hbn := Grow.none (by assumption) hbk.2.2.2 | have hbn := Grow.none (by assumption) hbk.2.2.2.2 | have hbn := Grow.none (by assumption) hbk.2.2.2.2.2)); (try simp only [set_none'] at hbn); (try (first | have hbm := Grow.none (by assumption) hbn | have hbm := Grow.none (by assumption) hbn.2 | have hbm := Grow.none (by assumption) hbn.2.2 | have hbm := Grow.none (by assumption) hbn.2.2.2 | have hbm := Grow.none (by assumption) hbn.2.2.2.2 | have hbm := Grow.none (by assumption) hbn.2.2.2.2.2)); (try simp only [set_none'] at hbm)) | ((first | refine condS_i ?_ ?_ | refine pick_i ?_ ?_ | refine gS_it ?_ ?_ | refine gS_if ?_ ?_ | refine gP_it ?_ ?_ | refine gP_if ?_ ?_) <;> (intro hc; try simp only [Int.reduceLE,Int.reduceLT,Int.reduceEq,Sn] at hc)) | (refine KP_i (by (repeat' (first | exact Heap.Le.refl _ | (with_reducible refine Le_set2 ?_) | (refine Le_known (by first | (simp only [Heap.set_same, set_ne, ne_eq, not_false_eq_true, *] <;> rfl) | fail) ?_) | (refine Le_fresh (by first | (simp only [*] <;> done) | (simp [set_none', Heap.set_same, set_ne, noneH, *] <;> done) | fail) ?_) | (refine Heap.Le.trans ?_ (Grow.le (by assumption))) | exact Le_none | (refine Le_put ?_ (by first | (simp only [Heap.set_same, set_ne, ne_eq, not_false_eq_true, *] <;> rfl) | fail)) | fail))) ?_) | (with_reducible refine And.intro ?_ ?_)) <;> (try simp only [Sq,Sr,Sh,Si,Sl,Bu,Bb,Bd,Bc,Bw,Bn,Int.reduceAdd,Int.reduceSub,Int.reduceMul,Int.reduceTDiv,Int.reduceTMod,Int.reduceMod,Int.reduceDiv,Nat.reduceLT,Nat.reduceEqDiff,Sa,Sb,Sc,Sd,Se,Sf,Sg,Int.reduceLE,Int.reduceLT,Int.reduceToNat,Int.reduceNeg,Int.reduceEq,Nat.reduceLeDiff,Nat.reducePow,Int.reducePow,reduceIte,Nat.reduceSub,Nat.reduceAdd,Nat.reduceMul,putAt,ceq,List.replicate, *]))
  refine any_sub (noneH.set bk ⟨.t 71, [.func (.func 39) #[] #[.pointer (some ⟨pb, 0, none⟩)]]⟩) (Le_put Le_none k5) ?_
  refine alts_g (S := Int × Int × Int × Int × Int × Nat × Heap) 29 (fun s => [(7, .pointer (some ⟨s.2.2.2.2.2.1, 0, none⟩)), (18, .func (.func 39) #[] #[.pointer (some ⟨pb, 0, none⟩)]), (19, .int .i64 s.1), (20, .func (.func 39) #[] #[.pointer (some ⟨pb, 0, none⟩)]), (21, .int .i64 s.2.1), (22, .func (.func 39) #[] #[.pointer (some ⟨pb, 0, none⟩)]), (23, .int .i64 s.2.2.1), (24, .func (.func 39) #[] #[.pointer (some ⟨pb, 0, none⟩)]), (25, .int .i64 s.2.2.2.1), (26, .func (.func 39) #[] #[.pointer (some ⟨pb, 0, none⟩)]), (27, .int .i64 s.2.2.2.2.1), (28, .agg #[.int .i64 s.1, .slice none 0 0, .int .i64 s.2.1, .int .i64 s.2.2.1, .int .i64 s.2.2.2.1, .int .i64 s.2.2.2.2.1])])
    (fun s => s.2.2.2.2.2.2.set s.2.2.2.2.2.1 ⟨.t 34, [.int .i64 s.1, .slice none 0 0, .int .i64 s.2.1, .int .i64 s.2.2.1, .int .i64 s.2.2.2.1, .int .i64 s.2.2.2.2.1]⟩)
    (fun s => ((8 ≤ l.length → s.1 = numA l 4) ∧ (12 ≤ l.length → s.2.1 = numA l 8) ∧ (16 ≤ l.length → s.2.2.1 = numA l 12) ∧ (20 ≤ l.length → s.2.2.2.1 = numA l 16) ∧ (24 ≤ l.length → s.2.2.2.2.1 = numA l 20)) ∧ DcSt w0 H (s.2.2.2.2.2.2.set s.2.2.2.2.2.1 ⟨.t 34, [.int .i64 s.1, .slice none 0 0, .int .i64 s.2.1, .int .i64 s.2.2.1, .int .i64 s.2.2.2.1, .int .i64 s.2.2.2.2.1]⟩) rb pb ra rc l 6 ∧ DcK rb G1 (s.2.2.2.2.2.2.set s.2.2.2.2.2.1 ⟨.t 34, [.int .i64 s.1, .slice none 0 0, .int .i64 s.2.1, .int .i64 s.2.2.1, .int .i64 s.2.2.2.1, .int .i64 s.2.2.2.2.1]⟩) ∧ G1 s.2.2.2.2.2.1 = none ∧ w0.heap.size ≤ s.2.2.2.2.2.1 ∧ s.2.2.2.2.2.1 ≠ rb) 100 3500 ?_ ?_ (by decide)
  · have hg1 : ∀ (j : Nat) (F : Heap) (K' : Value → Heap → Prop), DcSt w0 H F rb pb ra rc l j → DcK rb G1 F → (∀ (x : Int) (F' : Heap), (4 * (j + 1) ≤ l.length → x = numA l (4 * j)) → DcSt w0 H F' rb pb ra rc l (j + 1) → DcK rb G1 F' → F' bk = some ⟨.t 71, [.func (.func 39) #[] #[.pointer (some ⟨pb, 0, none⟩)]]⟩ → (∀ c, F' c = none → c ≠ bk ∧ bk ≠ c) → K' (.int .i64 x) F') → HCalls Try.prog w0 39 [.pointer (some ⟨pb, 0, none⟩)] F K' :=
      fun j F K' hS hK h => c_getS hS fun x F' hx hS' hk => h x F' hx hS' (hK.trans hk) ((hK.trans hk) _ _ k5 d5) (blk_ne ((hK.trans hk) _ _ k5 d5))
    have hgB : ∀ (j : Nat) (F : Heap) (d : Nat) (z : Blk) (K' : Value → Heap → Prop), DcSt w0 H (F.set d z) rb pb ra rc l j → DcK rb G1 (F.set d z) → d ≠ rb ∧ (d ≠ bk ∧ bk ≠ d) ∧ G1 d = none → (∀ (x : Int) (F' : Heap), (4 * (j + 1) ≤ l.length → x = numA l (4 * j)) → DcSt w0 H (F'.set d z) rb pb ra rc l (j + 1) → DcK rb G1 (F'.set d z) → F' bk = some ⟨.t 71, [.func (.func 39) #[] #[.pointer (some ⟨pb, 0, none⟩)]]⟩ → (∀ c, F' c = none → c ≠ bk ∧ bk ≠ c) → K' (.int .i64 x) (F'.set d z)) → HCalls Try.prog w0 39 [.pointer (some ⟨pb, 0, none⟩)] (F.set d z) K' :=
      fun j F d z K' hS hK hd h => c_getX hS hd.1 fun x F' hx hS' hk => by
        have h5 := (hK.trans hk) _ _ k5 d5
        rw [Heap.set_other _ _ hd.2.1.2] at h5
        exact h x F' hx hS' (hK.trans hk) h5 (blk_ne h5)
    have hgA : ∀ (j : Nat) (F : Heap) (d : Nat) (z : Blk) (K' : Value → Heap → Prop), DcSt w0 H F rb pb ra rc l j → DcK rb G1 F → F bk = some ⟨.t 71, [.func (.func 39) #[] #[.pointer (some ⟨pb, 0, none⟩)]]⟩ → w0.heap.size ≤ d → F d = none → (d ≠ rb ∧ (d ≠ bk ∧ bk ≠ d) ∧ G1 d = none → ∀ (x : Int) (F' : Heap), (4 * (j + 1) ≤ l.length → x = numA l (4 * j)) → DcSt w0 H (F'.set d z) rb pb ra rc l (j + 1) → DcK rb G1 (F'.set d z) → F' bk = some ⟨.t 71, [.func (.func 39) #[] #[.pointer (some ⟨pb, 0, none⟩)]]⟩ → (∀ c, F' c = none → c ≠ bk ∧ bk ≠ c) → K' (.int .i64 x) (F'.set d z)) → HCalls Try.prog w0 39 [.pointer (some ⟨pb, 0, none⟩)] (F.set d z) K' :=
      fun j F d z K' hS hK h5 hs hd h => by
        have q : d ≠ rb ∧ (d ≠ bk ∧ bk ≠ d) ∧ G1 d = none := ⟨hS.fresh_ne hd, blk_ne h5 d hd, dck_none hK hd (hS.fresh_ne hd)⟩
        exact hgB j F d z K' (hS.grow (Grow.set (Grow.refl _) hs hd)) (dck_fresh hK hd) q (h q)
    have hK1 : DcK rb G1 G1 := fun _ _ h _ => h
    have hne1 := blk_ne k5
    replace hg1 : Keep _ := hg1
    replace hgA : Keep _ := hgA
    replace hgB : Keep _ := hgB
    clear hx0 hn hA hw k2 hn2
    unfold A22_1
    (all_goals (try simp only [Sq,Sr,Sh,Si,Sl,Bu,Bb,Bd,Bc,Bw,Bn,Int.reduceAdd,Int.reduceSub,Int.reduceMul,Int.reduceTDiv,Int.reduceTMod,Int.reduceMod,Int.reduceDiv,Nat.reduceLT,Nat.reduceEqDiff,Sa,Sb,Sc,Sd,Se,Sf,Sg,Int.reduceLE,Int.reduceLT,Int.reduceToNat,Int.reduceNeg,Int.reduceEq,Nat.reduceLeDiff,Nat.reducePow,Int.reducePow,reduceIte,Nat.reduceSub,Nat.reduceAdd,Nat.reduceMul,putAt,ceq,List.replicate, *])); repeat' ((first | (with_reducible refine fun _ : True => ?_) | refine hgB _ _ _ _ _ (by assumption) (by assumption) (by assumption) (fun x F hx hS hK h5 hne5 => ?_)  | refine hgA _ _ _ _ _ (by assumption) (by assumption) (by assumption) (by assumption) (by assumption) (fun q x F hx hS hK h5 hne5 => ?_)  | refine hg1 _ _ _ (by assumption) (by assumption) (fun x F hx hS hK h5 hne5 => ?_)  | (with_reducible refine any_h ?_) | ((first | refine AllocQ_i ?_ | refine AllocO_i ?_); intro bk hb0 hbk; (try simp only [set_none'] at hbk); (try (first | have hbn := Grow.none (by assumption) hbk | have hbn := Grow.none (by assumption) hbk.2 | have hbn := Grow.none (by assumption) hbk.2.2 | have hbn := Grow.none (by assumption) hbk.2.2.2 | have hbn := Grow.none (by assumption) hbk.2.2.2.2 | have hbn := Grow.none (by assumption) hbk.2.2.2.2.2)); (try simp only [set_none'] at hbn); (try (first | have hbm := Grow.none (by assumption) hbn | have hbm := Grow.none (by assumption) hbn.2 | have hbm := Grow.none (by assumption) hbn.2.2 | have hbm := Grow.none (by assumption) hbn.2.2.2 | have hbm := Grow.none (by assumption) hbn.2.2.2.2 | have hbm := Grow.none (by assumption) hbn.2.2.2.2.2)); (try simp only [set_none'] at hbm)) | ((first | refine condS_i ?_ ?_ | refine pick_i ?_ ?_ | refine gS_it ?_ ?_ | refine gS_if ?_ ?_ | refine gP_it ?_ ?_ | refine gP_if ?_ ?_) <;> (intro hc; try simp only [Int.reduceLE,Int.reduceLT,Int.reduceEq,Sn] at hc)) | (refine KP_i (by (repeat' (first | exact Heap.Le.refl _ | (with_reducible refine Le_set2 ?_) | (refine Le_known (by first | (simp only [Heap.set_same, set_ne, ne_eq, not_false_eq_true, *] <;> rfl) | fail) ?_) | (refine Le_fresh (by first | (simp only [*] <;> done) | (simp [set_none', Heap.set_same, set_ne, noneH, *] <;> done) | fail) ?_) | (refine Heap.Le.trans ?_ (Grow.le (by assumption))) | exact Le_none | (refine Le_put ?_ (by first | (simp only [Heap.set_same, set_ne, ne_eq, not_false_eq_true, *] <;> rfl) | fail)) | fail))) ?_) | (with_reducible refine And.intro ?_ ?_)) <;> (try simp only [Sq,Sr,Sh,Si,Sl,Bu,Bb,Bd,Bc,Bw,Bn,Int.reduceAdd,Int.reduceSub,Int.reduceMul,Int.reduceTDiv,Int.reduceTMod,Int.reduceMod,Int.reduceDiv,Nat.reduceLT,Nat.reduceEqDiff,Sa,Sb,Sc,Sd,Se,Sf,Sg,Int.reduceLE,Int.reduceLT,Int.reduceToNat,Int.reduceNeg,Int.reduceEq,Nat.reduceLeDiff,Nat.reducePow,Int.reducePow,reduceIte,Nat.reduceSub,Nat.reduceAdd,Nat.reduceMul,putAt,ceq,List.replicate, *]))
    all_goals
      refine Meet_mk (_, _, _, _, _, _, _) ⟨⟨?_, ?_, ?_, ?_, ?_⟩, ?_, ?_, ?_, ?_, ?_⟩ rfl rfl rfl
    all_goals try assumption
    all_goals first
      | exact hS.grow (Grow.set (Grow.refl _) hb0 hbk)
      | exact dc_turn hS (fun e => by cases e) q.1 (by simp) (hS1.g.none q.2.2) hb0
      | exact dck_fresh hK hbk
      | exact dck_turn hK q.2.2
      | exact q.2.2
      | exact q.1
      | exact dck_none hK hbk (hS.fresh_ne hbk)
      | exact hS.fresh_ne hbk
  · rintro ⟨x1, x2, x3, x4, x5, b7, F⟩ f7 ⟨⟨hx1, hx2, hx3, hx4, hx5⟩, hS6, hK6, n7, s7, e7⟩
    simp only at hx1 hx2 hx3 hx4 hx5 hS6 hK6 n7 s7 e7 ⊢
    generalize hF2 : F.set b7 _ = F2 at hS6 hK6 ⊢
    have m7 : F2 b7 = some ⟨.t 34, [.int .i64 x1, .slice none 0 0, .int .i64 x2, .int .i64 x3, .int .i64 x4, .int .i64 x5]⟩ := by rw [← hF2]; exact Heap.set_same _ _ _
    clear hF2
    have h7H : H b7 = none := hS1.g.none n7
    have m5 := hK6 _ _ k5 d5
    have m2 := hK6 _ _ k2 d2
    have d7 := hS6
    have r5 : rd1 w0 F2 bk 0 = some (.func (.func 39) #[] #[.pointer (some ⟨pb, 0, none⟩)]) := by unfold rd1; rw [m5]; rfl
    (all_goals (try simp only [Sq,Sr,Sh,Si,Sl,Bu,Bb,Bd,Bc,Bw,Bn,Int.reduceAdd,Int.reduceSub,Int.reduceMul,Int.reduceTDiv,Int.reduceTMod,Int.reduceMod,Int.reduceDiv,Nat.reduceLT,Nat.reduceEqDiff,Sa,Sb,Sc,Sd,Se,Sf,Sg,Int.reduceLE,Int.reduceLT,Int.reduceToNat,Int.reduceNeg,Int.reduceEq,Nat.reduceLeDiff,Nat.reducePow,Int.reducePow,reduceIte,Nat.reduceSub,Nat.reduceAdd,Nat.reduceMul,putAt,ceq,List.replicate, *])); repeat' ((first | (with_reducible refine fun _ : True => ?_) | ((first | refine AllocQ_i ?_ | refine AllocO_i ?_); intro bk hb0 hbk; (try simp only [set_none'] at hbk); (try (first | have hbn := Grow.none (by assumption) hbk | have hbn := Grow.none (by assumption) hbk.2 | have hbn := Grow.none (by assumption) hbk.2.2 | have hbn := Grow.none (by assumption) hbk.2.2.2 | have hbn := Grow.none (by assumption) hbk.2.2.2.2 | have hbn := Grow.none (by assumption) hbk.2.2.2.2.2)); (try simp only [set_none'] at hbn); (try (first | have hbm := Grow.none (by assumption) hbn | have hbm := Grow.none (by assumption) hbn.2 | have hbm := Grow.none (by assumption) hbn.2.2 | have hbm := Grow.none (by assumption) hbn.2.2.2 | have hbm := Grow.none (by assumption) hbn.2.2.2.2 | have hbm := Grow.none (by assumption) hbn.2.2.2.2.2)); (try simp only [set_none'] at hbm)) | ((first | refine condS_i ?_ ?_ | refine pick_i ?_ ?_ | refine gS_it ?_ ?_ | refine gS_if ?_ ?_ | refine gP_it ?_ ?_ | refine gP_if ?_ ?_) <;> (intro hc; try simp only [Int.reduceLE,Int.reduceLT,Int.reduceEq,Sn] at hc)) | (refine KP_i (by (repeat' (first | exact Heap.Le.refl _ | (with_reducible refine Le_set2 ?_) | (refine Le_known (by first | (simp only [Heap.set_same, set_ne, ne_eq, not_false_eq_true, *] <;> rfl) | fail) ?_) | (refine Le_fresh (by first | (simp only [*] <;> done) | (simp [set_none', Heap.set_same, set_ne, noneH, *] <;> done) | fail) ?_) | (refine Heap.Le.trans ?_ (Grow.le (by assumption))) | exact Le_none | (refine Le_put ?_ (by first | (simp only [Heap.set_same, set_ne, ne_eq, not_false_eq_true, *] <;> rfl) | fail)) | fail))) ?_) | (with_reducible refine And.intro ?_ ?_)) <;> (try simp only [Sq,Sr,Sh,Si,Sl,Bu,Bb,Bd,Bc,Bw,Bn,Int.reduceAdd,Int.reduceSub,Int.reduceMul,Int.reduceTDiv,Int.reduceTMod,Int.reduceMod,Int.reduceDiv,Nat.reduceLT,Nat.reduceEqDiff,Sa,Sb,Sc,Sd,Se,Sf,Sg,Int.reduceLE,Int.reduceLT,Int.reduceToNat,Int.reduceNeg,Int.reduceEq,Nat.reduceLeDiff,Nat.reducePow,Int.reducePow,reduceIte,Nat.reduceSub,Nat.reduceAdd,Nat.reduceMul,putAt,ceq,List.replicate, *]))
    refine c_getS hS6 (fun x6 F3 hx6 hS7 hk7 => ?_)
    replace m2 := hk7 _ _ m2 d2
    replace m5 := hk7 _ _ m5 d5
    replace m7 := hk7 _ _ m7 e7
    have d72 : b2 ≠ b7 := fun e => by subst e; rw [n7] at k2; cases k2
    have d75 : bk ≠ b7 := fun e => by subst e; rw [n7] at k5; cases k5
    clear hS6 hK6 hk7 r5 d7
    by_cases h28 : 28 ≤ l.length
    · have t0 : ¬ (l.length : Int) < 28 := by omega
      have hN := numL_lt ((l.drop 24).take 4) fun x hx => hw x (List.mem_of_mem_drop (List.mem_of_mem_take hx))
      replace hx6 : x6 = numA l 24 := hx6 (by omega)
      have hr6 : 0 ≤ x6 ∧ x6 < 4294967296 := by
        rw [hx6]
        rw [show ((l.drop 24).take 4).length = 4 by rw [List.length_take, List.length_drop]; omega] at hN
        exact hN
      have t64 : IntKind.i64.wrap (x6 * 64) = x6 * 64 := Bw.1 _ (by omega) (by omega)
      have t65 : IntKind.i64.wrap (28 + x6 * 64) = 28 + x6 * 64 := Bw.1 _ (by omega) (by omega)
      have hx0' : x0 = numA l 0 := hx0 (by omega)
      clear hx0
      have e2 : F3 = F3.set b2 _ := root1 m2
      have fin : ¬ okHd l → HL.Fin K (.tuple #[zeroC, .int .i64 261]) H := fun h => Fin_mk (Heap.Le.refl _) ((show _ → _ from hn) fun h' => h h'.1)
      unfold okHd at fin
      rw [← hx0', ← hx6] at fin
      replace fin : Keep _ := fin
      have hH3 : Heap.Le H F3 := hS7.g.le
      rw [e2]
      clear hN e2
      replace hx6 : Keep _ := hx6
      replace hx0' : Keep _ := hx0'
      (all_goals (try simp only [Sq,Sr,Sh,Si,Sl,Bu,Bb,Bd,Bc,Bw,Bn,Int.reduceAdd,Int.reduceSub,Int.reduceMul,Int.reduceTDiv,Int.reduceTMod,Int.reduceMod,Int.reduceDiv,Nat.reduceLT,Nat.reduceEqDiff,Sa,Sb,Sc,Sd,Se,Sf,Sg,Int.reduceLE,Int.reduceLT,Int.reduceToNat,Int.reduceNeg,Int.reduceEq,Nat.reduceLeDiff,Nat.reducePow,Int.reducePow,reduceIte,Nat.reduceSub,Nat.reduceAdd,Nat.reduceMul,putAt,ceq,List.replicate, *])); repeat' ((first | (with_reducible refine fun _ : True => ?_) | (with_reducible refine any_h ?_) | ((first | refine AllocQ_i ?_ | refine AllocO_i ?_); intro bk hb0 hbk; (try simp only [set_none'] at hbk); (try (first | have hbn := Grow.none (by assumption) hbk | have hbn := Grow.none (by assumption) hbk.2 | have hbn := Grow.none (by assumption) hbk.2.2 | have hbn := Grow.none (by assumption) hbk.2.2.2 | have hbn := Grow.none (by assumption) hbk.2.2.2.2 | have hbn := Grow.none (by assumption) hbk.2.2.2.2.2)); (try simp only [set_none'] at hbn); (try (first | have hbm := Grow.none (by assumption) hbn | have hbm := Grow.none (by assumption) hbn.2 | have hbm := Grow.none (by assumption) hbn.2.2 | have hbm := Grow.none (by assumption) hbn.2.2.2 | have hbm := Grow.none (by assumption) hbn.2.2.2.2 | have hbm := Grow.none (by assumption) hbn.2.2.2.2.2)); (try simp only [set_none'] at hbm)) | ((first | refine condS_i ?_ ?_ | refine pick_i ?_ ?_ | refine gS_it ?_ ?_ | refine gS_if ?_ ?_ | refine gP_it ?_ ?_ | refine gP_if ?_ ?_) <;> (intro hc; try simp only [Int.reduceLE,Int.reduceLT,Int.reduceEq,Sn] at hc)) | (refine KP_i (by (repeat' (first | exact Heap.Le.refl _ | (with_reducible refine Le_set2 ?_) | (refine Le_known (by first | (simp only [Heap.set_same, set_ne, ne_eq, not_false_eq_true, *] <;> rfl) | fail) ?_) | (refine Le_fresh (by first | (simp only [*] <;> done) | (simp [set_none', Heap.set_same, set_ne, noneH, *] <;> done) | fail) ?_) | (refine Heap.Le.trans ?_ (Grow.le (by assumption))) | exact Le_none | (refine Le_put ?_ (by first | (simp only [Heap.set_same, set_ne, ne_eq, not_false_eq_true, *] <;> rfl) | fail)) | fail))) ?_) | (with_reducible refine And.intro ?_ ?_)) <;> (try simp only [Sq,Sr,Sh,Si,Sl,Bu,Bb,Bd,Bc,Bw,Bn,Int.reduceAdd,Int.reduceSub,Int.reduceMul,Int.reduceTDiv,Int.reduceTMod,Int.reduceMod,Int.reduceDiv,Nat.reduceLT,Nat.reduceEqDiff,Sa,Sb,Sc,Sd,Se,Sf,Sg,Int.reduceLE,Int.reduceLT,Int.reduceToNat,Int.reduceNeg,Int.reduceEq,Nat.reduceLeDiff,Nat.reducePow,Int.reducePow,reduceIte,Nat.reduceSub,Nat.reduceAdd,Nat.reduceMul,putAt,ceq,List.replicate, *]))
      any_goals
        rw [Heap.set_id F3 b2 _ m2]
        refine Fin_le ((show _ → _ from fin) ?_) hH3
        rintro ⟨-, q1, q2, q3⟩
        omega
      rw [Heap.set_id F3 b2 _ m2]
      obtain ⟨n, rfl⟩ := Int.eq_ofNat_of_zero_le hr6.1
      have hn6 : n ≤ 4096 := by omega
      have hlen : l.length = 28 + 64 * n := by omega
      have hB0 : Bld w0 H F3 none 0 16 30 (((decIs l n).take 0).map Ins.row).flatten := .inr ⟨rfl, rfl⟩
      have hxs : Keep (x1 = numA l 4 ∧ x2 = numA l 8 ∧ x3 = numA l 12 ∧ x4 = numA l 16 ∧ x5 = numA l 20) := ⟨hx1 (by omega), hx2 (by omega), hx3 (by omega), hx4 (by omega), hx5 (by omega)⟩
      have hokd : Keep (okHd l) := by
        have q0 : x0 = numA l 0 := hx0'
        have q6 : (n : Int) = numA l 24 := hx6
        exact ⟨h28, by rw [← q0]; assumption, by rw [← q6]; omega, by rw [← q6]; omega⟩
      clear fin t64 t65 hr6 t0 hx1 hx2 hx3 hx4 hx5 hS1 k2 k5
      refine loop_g 53 (fun s : Nat × (Value × Value × Value) × (Option Addr × Nat) × Heap => [(9, s.2.1.1), (11, s.2.1.2.1), (12, s.2.1.2.2), (52, .int .i64 (s.1 : Nat))]) (fun s => s.2.2.2) (fun s => s.1 ≤ n ∧ DcSt w0 H s.2.2.2 rb pb ra rc l (7 + 16 * s.1) ∧ s.2.2.2 b7 = some ⟨.t 34, [.int .i64 x1, .slice s.2.2.1.1 s.1 s.2.2.1.2, .int .i64 x2, .int .i64 x3, .int .i64 x4, .int .i64 x5]⟩ ∧ Bld w0 H s.2.2.2 s.2.2.1.1 s.2.2.1.2 16 30 (((decIs l n).take s.1).map Ins.row).flatten ∧ s.2.2.2 bk = some ⟨.t 71, [.func (.func 39) #[] #[.pointer (some ⟨pb, 0, none⟩)]]⟩ ∧ s.2.2.2 b2 = some ⟨.t 34, [.int .i64 0, .slice none 0 0, .int .i64 0, .int .i64 0, .int .i64 0, .int .i64 0]⟩) (fun s => n - s.1) (0, (undef, undef, undef), (none, 0), F3) ⟨Nat.zero_le _, hS7, m7, hB0, m5, m2⟩ (Heap.Le.refl _) rfl ?_
      clear hS7 m7 hB0 m5 m2 hH3
      intro ⟨k, ⟨v9, v11, v12⟩, ⟨a', c'⟩, F⟩ g ⟨hk, hS, m7, hB, m5, m2⟩
      simp only at hk hS m7 hB m5 m2
      rcases Nat.lt_or_ge k n with hlt | hge
      · have t0 : (k : Int) < n := by omega
        have t6 : IntKind.i64.wrap ((k : Int) + 1) = (k : Int) + 1 := Bw.1 _ (by omega) (by omega)
        (all_goals (try simp only [Sq,Sr,Sh,Si,Sl,Bu,Bb,Bd,Bc,Bw,Bn,Int.reduceAdd,Int.reduceSub,Int.reduceMul,Int.reduceTDiv,Int.reduceTMod,Int.reduceMod,Int.reduceDiv,Nat.reduceLT,Nat.reduceEqDiff,Sa,Sb,Sc,Sd,Se,Sf,Sg,Int.reduceLE,Int.reduceLT,Int.reduceToNat,Int.reduceNeg,Int.reduceEq,Nat.reduceLeDiff,Nat.reducePow,Int.reducePow,reduceIte,Nat.reduceSub,Nat.reduceAdd,Nat.reduceMul,putAt,ceq,List.replicate, *])); repeat' ((first | (with_reducible refine fun _ : True => ?_) | refine c_numbers (fun b5 hb5 hn5 => ?_)  | (with_reducible refine any_h ?_) | ((first | refine AllocQ_i ?_ | refine AllocO_i ?_); intro bk hb0 hbk; (try simp only [set_none'] at hbk); (try (first | have hbn := Grow.none (by assumption) hbk | have hbn := Grow.none (by assumption) hbk.2 | have hbn := Grow.none (by assumption) hbk.2.2 | have hbn := Grow.none (by assumption) hbk.2.2.2 | have hbn := Grow.none (by assumption) hbk.2.2.2.2 | have hbn := Grow.none (by assumption) hbk.2.2.2.2.2)); (try simp only [set_none'] at hbn); (try (first | have hbm := Grow.none (by assumption) hbn | have hbm := Grow.none (by assumption) hbn.2 | have hbm := Grow.none (by assumption) hbn.2.2 | have hbm := Grow.none (by assumption) hbn.2.2.2 | have hbm := Grow.none (by assumption) hbn.2.2.2.2 | have hbm := Grow.none (by assumption) hbn.2.2.2.2.2)); (try simp only [set_none'] at hbm)) | ((first | refine condS_i ?_ ?_ | refine pick_i ?_ ?_ | refine gS_it ?_ ?_ | refine gS_if ?_ ?_ | refine gP_it ?_ ?_ | refine gP_if ?_ ?_) <;> (intro hc; try simp only [Int.reduceLE,Int.reduceLT,Int.reduceEq,Sn] at hc)) | (refine KP_i (by (repeat' (first | exact Heap.Le.refl _ | (with_reducible refine Le_set2 ?_) | (refine Le_known (by first | (simp only [Heap.set_same, set_ne, ne_eq, not_false_eq_true, *] <;> rfl) | fail) ?_) | (refine Le_fresh (by first | (simp only [*] <;> done) | (simp [set_none', Heap.set_same, set_ne, noneH, *] <;> done) | fail) ?_) | (refine Heap.Le.trans ?_ (Grow.le (by assumption))) | exact Le_none | (refine Le_put ?_ (by first | (simp only [Heap.set_same, set_ne, ne_eq, not_false_eq_true, *] <;> rfl) | fail)) | fail))) ?_) | (with_reducible refine And.intro ?_ ?_)) <;> (try simp only [Sq,Sr,Sh,Si,Sl,Bu,Bb,Bd,Bc,Bw,Bn,Int.reduceAdd,Int.reduceSub,Int.reduceMul,Int.reduceTDiv,Int.reduceTMod,Int.reduceMod,Int.reduceDiv,Nat.reduceLT,Nat.reduceEqDiff,Sa,Sb,Sc,Sd,Se,Sf,Sg,Int.reduceLE,Int.reduceLT,Int.reduceToNat,Int.reduceNeg,Int.reduceEq,Nat.reduceLeDiff,Nat.reducePow,Int.reducePow,reduceIte,Nat.reduceSub,Nat.reduceAdd,Nat.reduceMul,putAt,ceq,List.replicate, *]))
        simp only [set_none'] at hn5
        unfold rfQ
        dsimp only
        intro lo L hl0 hln hL
        obtain ⟨A, eA⟩ : ∃ A, (insA l (28 + 64 * k)).row = A := ⟨_, rfl⟩
        obtain ⟨Z, eZ⟩ : ∃ Z, (⟨0, 0, 0, 0, 0, 0, 0, 0, 0, 0, 0, 0, 0, 0, 0, 0⟩ : Ins).row = Z := ⟨_, rfl⟩
        have lA : A.length = 16 := by rw [← eA]; rfl
        have lZ : Z.length = 16 := by rw [← eZ]; rfl
        generalize hF0 : ((F.set bk _).set b5 _) = F0 at hln ⊢
        have gF : Grow w0 F F0 := by rw [← hF0]; exact (by (repeat' (first | exact Grow.refl _ | assumption | (refine Grow_known (by first | (simp only [Heap.set_same, set_ne, ne_eq, not_false_eq_true, *] <;> rfl) | fail) ?_) | (refine Grow.set ?_ (by assumption) (by first | (simp only [*] <;> done) | (simp [set_none', Heap.set_same, set_ne, noneH, *] <;> done) | fail)) | (refine Grow.trans ?_ (by assumption)))))
        have e4 : F0 bk = some ⟨.t 30, (⟨0, 0, 0, 0, 0, 0, 0, 0, 0, 0, 0, 0, 0, 0, 0, 0⟩ : Ins).row⟩ := by rw [← hF0]; clear eA eZ; exact (by simp only [Heap.set_same, set_ne, ne_eq, not_false_eq_true, *] <;> rfl)
        rw [eZ, show Z = part A Z 0 from part_z.symm] at e4
        have e5 : F0 b5 = some ⟨.t 75, [.pointer (some ⟨bk, 0, none⟩)]⟩ := by rw [← hF0]; exact (by simp only [Heap.set_same, set_ne, ne_eq, not_false_eq_true, *] <;> rfl)
        clear hF0
        have hT := hS.grow gF
        have s4 : bk ≠ rb := hS.fresh_ne hbk
        have spb : bk ≠ pb := (blk_ne hS.at_ bk hbk).1
        have s5 := (blk_ne m5 bk hbk).2
        have s7' := (blk_ne m7 bk hbk).2
        have s2' := (blk_ne m2 bk hbk).2
        have hbkH : H bk = none := hS.g.none hbk
        have lrb : lo ≠ rb := hT.fresh_ne hln
        have lpb : lo ≠ pb := (blk_ne hT.at_ lo hln).1
        have l4 : lo ≠ bk := (blk_ne e4 lo hln).1
        have hlH : H lo = none := hT.g.none hln
        have gL : Grow w0 F0 (F0.set lo ⟨.o (.loop L), []⟩) := Grow.set (Grow.refl _) hl0 hln
        have m5' := gL.some (gF.some m5)
        have m7o := m7
        have m2o := m2
        replace m7 := gL.some (gF.some m7)
        replace m2 := gL.some (gF.some m2)
        have hB1 := (hB.grow gF).grow gL
        refine c_numbers1 (ib := bk) (fun j E => DcSt w0 H E rb pb ra rc l (7 + 16 * k + j) ∧ E bk = some ⟨.t 30, part A Z j⟩ ∧ ∀ d z, (F0.set lo ⟨.o (.loop L), []⟩) d = some z → d ≠ rb → d ≠ bk → E d = some z) (gL.some e5) ?_ ?_ ?_
        · intro E gE
          exact ⟨(hT.grow gL).grow gE, gE.some (gL.some e4), fun d z h _ _ => gE.some h⟩
        · intro j E K' hj ⟨hSj, kb, hKj⟩ hK'
          have kl : E lo = some ⟨.o (.loop L), []⟩ := hKj lo _ (Heap.set_same _ _ _) lrb l4
          have hSb := hSj.turn (x := ⟨.o (.loop { L with state := .busy }), []⟩) kl (fun e => by cases e) lrb lpb hlH hl0
          have r5 := rd1_of (w0 := w0) (hKj _ _ m5' d5 s5)
          have lne := blk_ne (G := F0) (gF.some m5) lo hln
          have hst := hL.st
          refine hround hL kl rfl 200 ?_
          clear hL m5 m5' m7 m2 hB hB1 m7o m2o
          unfold putR
          simp only [List.zip_cons_cons, List.zip_nil_right, List.zip_nil_left, List.foldl_cons, List.foldl_nil]
          (all_goals (try simp only [Sq,Sr,Sh,Si,Sl,Bu,Bb,Bd,Bc,Bw,Bn,Int.reduceAdd,Int.reduceSub,Int.reduceMul,Int.reduceTDiv,Int.reduceTMod,Int.reduceMod,Int.reduceDiv,Nat.reduceLT,Nat.reduceEqDiff,Sa,Sb,Sc,Sd,Se,Sf,Sg,Int.reduceLE,Int.reduceLT,Int.reduceToNat,Int.reduceNeg,Int.reduceEq,Nat.reduceLeDiff,Nat.reducePow,Int.reducePow,reduceIte,Nat.reduceSub,Nat.reduceAdd,Nat.reduceMul,putAt,ceq,List.replicate, *])); repeat' ((first | (with_reducible refine fun _ : True => ?_) | (with_reducible refine any_h ?_) | ((first | refine AllocQ_i ?_ | refine AllocO_i ?_); intro bk hb0 hbk; (try simp only [set_none'] at hbk); (try (first | have hbn := Grow.none (by assumption) hbk | have hbn := Grow.none (by assumption) hbk.2 | have hbn := Grow.none (by assumption) hbk.2.2 | have hbn := Grow.none (by assumption) hbk.2.2.2 | have hbn := Grow.none (by assumption) hbk.2.2.2.2 | have hbn := Grow.none (by assumption) hbk.2.2.2.2.2)); (try simp only [set_none'] at hbn); (try (first | have hbm := Grow.none (by assumption) hbn | have hbm := Grow.none (by assumption) hbn.2 | have hbm := Grow.none (by assumption) hbn.2.2 | have hbm := Grow.none (by assumption) hbn.2.2.2 | have hbm := Grow.none (by assumption) hbn.2.2.2.2 | have hbm := Grow.none (by assumption) hbn.2.2.2.2.2)); (try simp only [set_none'] at hbm)) | ((first | refine condS_i ?_ ?_ | refine pick_i ?_ ?_ | refine gS_it ?_ ?_ | refine gS_if ?_ ?_ | refine gP_it ?_ ?_ | refine gP_if ?_ ?_) <;> (intro hc; try simp only [Int.reduceLE,Int.reduceLT,Int.reduceEq,Sn] at hc)) | (refine KP_i (by (repeat' (first | exact Heap.Le.refl _ | (with_reducible refine Le_set2 ?_) | (refine Le_known (by first | (simp only [Heap.set_same, set_ne, ne_eq, not_false_eq_true, *] <;> rfl) | fail) ?_) | (refine Le_fresh (by first | (simp only [*] <;> done) | (simp [set_none', Heap.set_same, set_ne, noneH, *] <;> done) | fail) ?_) | (refine Heap.Le.trans ?_ (Grow.le (by assumption))) | exact Le_none | (refine Le_put ?_ (by first | (simp only [Heap.set_same, set_ne, ne_eq, not_false_eq_true, *] <;> rfl) | fail)) | fail))) ?_) | (with_reducible refine And.intro ?_ ?_)) <;> (try simp only [Sq,Sr,Sh,Si,Sl,Bu,Bb,Bd,Bc,Bw,Bn,Int.reduceAdd,Int.reduceSub,Int.reduceMul,Int.reduceTDiv,Int.reduceTMod,Int.reduceMod,Int.reduceDiv,Nat.reduceLT,Nat.reduceEqDiff,Sa,Sb,Sc,Sd,Se,Sf,Sg,Int.reduceLE,Int.reduceLT,Int.reduceToNat,Int.reduceNeg,Int.reduceEq,Nat.reduceLeDiff,Nat.reducePow,Int.reducePow,reduceIte,Nat.reduceSub,Nat.reduceAdd,Nat.reduceMul,putAt,ceq,List.replicate, *]))
          refine ⟨kl, hst, ?_⟩
          (all_goals (try simp only [Sq,Sr,Sh,Si,Sl,Bu,Bb,Bd,Bc,Bw,Bn,Int.reduceAdd,Int.reduceSub,Int.reduceMul,Int.reduceTDiv,Int.reduceTMod,Int.reduceMod,Int.reduceDiv,Nat.reduceLT,Nat.reduceEqDiff,Sa,Sb,Sc,Sd,Se,Sf,Sg,Int.reduceLE,Int.reduceLT,Int.reduceToNat,Int.reduceNeg,Int.reduceEq,Nat.reduceLeDiff,Nat.reducePow,Int.reducePow,reduceIte,Nat.reduceSub,Nat.reduceAdd,Nat.reduceMul,putAt,ceq,List.replicate, *])); repeat' ((first | (with_reducible refine fun _ : True => ?_) | ((first | refine AllocQ_i ?_ | refine AllocO_i ?_); intro bk hb0 hbk; (try simp only [set_none'] at hbk); (try (first | have hbn := Grow.none (by assumption) hbk | have hbn := Grow.none (by assumption) hbk.2 | have hbn := Grow.none (by assumption) hbk.2.2 | have hbn := Grow.none (by assumption) hbk.2.2.2 | have hbn := Grow.none (by assumption) hbk.2.2.2.2 | have hbn := Grow.none (by assumption) hbk.2.2.2.2.2)); (try simp only [set_none'] at hbn); (try (first | have hbm := Grow.none (by assumption) hbn | have hbm := Grow.none (by assumption) hbn.2 | have hbm := Grow.none (by assumption) hbn.2.2 | have hbm := Grow.none (by assumption) hbn.2.2.2 | have hbm := Grow.none (by assumption) hbn.2.2.2.2 | have hbm := Grow.none (by assumption) hbn.2.2.2.2.2)); (try simp only [set_none'] at hbm)) | ((first | refine condS_i ?_ ?_ | refine pick_i ?_ ?_ | refine gS_it ?_ ?_ | refine gS_if ?_ ?_ | refine gP_it ?_ ?_ | refine gP_if ?_ ?_) <;> (intro hc; try simp only [Int.reduceLE,Int.reduceLT,Int.reduceEq,Sn] at hc)) | (refine KP_i (by (repeat' (first | exact Heap.Le.refl _ | (with_reducible refine Le_set2 ?_) | (refine Le_known (by first | (simp only [Heap.set_same, set_ne, ne_eq, not_false_eq_true, *] <;> rfl) | fail) ?_) | (refine Le_fresh (by first | (simp only [*] <;> done) | (simp [set_none', Heap.set_same, set_ne, noneH, *] <;> done) | fail) ?_) | (refine Heap.Le.trans ?_ (Grow.le (by assumption))) | exact Le_none | (refine Le_put ?_ (by first | (simp only [Heap.set_same, set_ne, ne_eq, not_false_eq_true, *] <;> rfl) | fail)) | fail))) ?_) | (with_reducible refine And.intro ?_ ?_)) <;> (try simp only [Sq,Sr,Sh,Si,Sl,Bu,Bb,Bd,Bc,Bw,Bn,Int.reduceAdd,Int.reduceSub,Int.reduceMul,Int.reduceTDiv,Int.reduceTMod,Int.reduceMod,Int.reduceDiv,Nat.reduceLT,Nat.reduceEqDiff,Sa,Sb,Sc,Sd,Se,Sf,Sg,Int.reduceLE,Int.reduceLT,Int.reduceToNat,Int.reduceNeg,Int.reduceEq,Nat.reduceLeDiff,Nat.reducePow,Int.reducePow,reduceIte,Nat.reduceSub,Nat.reduceAdd,Nat.reduceMul,putAt,ceq,List.replicate, *]))
          refine c_getS hSb (fun x E2 hx hS2 hk2 => ?_)
          have kb2 : E2 bk = some _ := hk2 bk _ ((Heap.set_other _ _ (fun e => l4 e.symm)).trans kb) s4
          have hx' : x = numA l (28 + 64 * k + 4 * j) := by rw [hx (by omega)]; congr 1; omega
          have hv : A[j]? = some (.int .i64 x) := by
            rw [hx', ← eA]
            rcases (show j = 0 ∨ j = 1 ∨ j = 2 ∨ j = 3 ∨ j = 4 ∨ j = 5 ∨ j = 6 ∨ j = 7 by omega) with rfl | rfl | rfl | rfl | rfl | rfl | rfl | rfl <;> rfl
          have hps := part_set lA lZ (by omega) hv
          have hpl := part_len (j := j) lA lZ (by omega)
          have hj16 : j < 16 := by omega
          clear hx hx'
          (all_goals (try simp only [Sq,Sr,Sh,Si,Sl,Bu,Bb,Bd,Bc,Bw,Bn,Int.reduceAdd,Int.reduceSub,Int.reduceMul,Int.reduceTDiv,Int.reduceTMod,Int.reduceMod,Int.reduceDiv,Nat.reduceLT,Nat.reduceEqDiff,Sa,Sb,Sc,Sd,Se,Sf,Sg,Int.reduceLE,Int.reduceLT,Int.reduceToNat,Int.reduceNeg,Int.reduceEq,Nat.reduceLeDiff,Nat.reducePow,Int.reducePow,reduceIte,Nat.reduceSub,Nat.reduceAdd,Nat.reduceMul,putAt,ceq,List.replicate, *])); repeat' ((first | (with_reducible refine fun _ : True => ?_) | (with_reducible refine any_h ?_) | ((first | refine AllocQ_i ?_ | refine AllocO_i ?_); intro bk hb0 hbk; (try simp only [set_none'] at hbk); (try (first | have hbn := Grow.none (by assumption) hbk | have hbn := Grow.none (by assumption) hbk.2 | have hbn := Grow.none (by assumption) hbk.2.2 | have hbn := Grow.none (by assumption) hbk.2.2.2 | have hbn := Grow.none (by assumption) hbk.2.2.2.2 | have hbn := Grow.none (by assumption) hbk.2.2.2.2.2)); (try simp only [set_none'] at hbn); (try (first | have hbm := Grow.none (by assumption) hbn | have hbm := Grow.none (by assumption) hbn.2 | have hbm := Grow.none (by assumption) hbn.2.2 | have hbm := Grow.none (by assumption) hbn.2.2.2 | have hbm := Grow.none (by assumption) hbn.2.2.2.2 | have hbm := Grow.none (by assumption) hbn.2.2.2.2.2)); (try simp only [set_none'] at hbm)) | ((first | refine condS_i ?_ ?_ | refine pick_i ?_ ?_ | refine gS_it ?_ ?_ | refine gS_if ?_ ?_ | refine gP_it ?_ ?_ | refine gP_if ?_ ?_) <;> (intro hc; try simp only [Int.reduceLE,Int.reduceLT,Int.reduceEq,Sn] at hc)) | (refine KP_i (by (repeat' (first | exact Heap.Le.refl _ | (with_reducible refine Le_set2 ?_) | (refine Le_known (by first | (simp only [Heap.set_same, set_ne, ne_eq, not_false_eq_true, *] <;> rfl) | fail) ?_) | (refine Le_fresh (by first | (simp only [*] <;> done) | (simp [set_none', Heap.set_same, set_ne, noneH, *] <;> done) | fail) ?_) | (refine Heap.Le.trans ?_ (Grow.le (by assumption))) | exact Le_none | (refine Le_put ?_ (by first | (simp only [Heap.set_same, set_ne, ne_eq, not_false_eq_true, *] <;> rfl) | fail)) | fail))) ?_) | (with_reducible refine And.intro ?_ ?_)) <;> (try simp only [Sq,Sr,Sh,Si,Sl,Bu,Bb,Bd,Bc,Bw,Bn,Int.reduceAdd,Int.reduceSub,Int.reduceMul,Int.reduceTDiv,Int.reduceTMod,Int.reduceMod,Int.reduceDiv,Nat.reduceLT,Nat.reduceEqDiff,Sa,Sb,Sc,Sd,Se,Sf,Sg,Int.reduceLE,Int.reduceLT,Int.reduceToNat,Int.reduceNeg,Int.reduceEq,Nat.reduceLeDiff,Nat.reducePow,Int.reducePow,reduceIte,Nat.reduceSub,Nat.reduceAdd,Nat.reduceMul,putAt,ceq,List.replicate, *]))
          have kl2 : E2 lo = some _ := hk2 lo _ (Heap.set_same _ _ _) lrb
          have kl3 : (E2.set bk ⟨.t 30, part A Z (j + 1)⟩) lo = some _ := (Heap.set_other _ _ l4).trans kl2
          have dd : ∀ d z, E d = some z → d ≠ rb → d ≠ bk → ((E2.set bk ⟨.t 30, part A Z (j + 1)⟩).set lo ⟨.o (.loop L), []⟩) d = some z := fun d z h h1 h2 => by
            by_cases e : d = lo
            · subst e
              rw [Heap.set_same, ← kl]
              exact h
            · rw [Heap.set_other _ _ e, Heap.set_other _ _ h2]
              exact hk2 d z ((Heap.set_other _ _ e).trans h) h1
          refine ⟨kl3, hK' _ ⟨(hS2.turn kb2 (fun e => by cases e) s4 spb hbkH hb0).turn kl3 (fun e => by cases e) lrb lpb hlH hl0, ?_, fun d z h h1 h2 => dd d z (hKj d z h h1 h2) h1 h2⟩ fun d z h1 h2 => dd d z h1 (fun e => ?_) (fun e => ?_)⟩
          · rw [Heap.set_other _ _ (fun e => l4 e.symm), Heap.set_same]
          · subst e
            obtain ⟨⟨p, e', hR, -⟩, -⟩ := hSj
            rw [hR.at_] at h1
            cases h1
            cases h2
          · subst e
            rw [kb] at h1
            cases h1
            cases h2
        · intro E ⟨hSj, kb, hKj⟩
          have kl : E lo = some ⟨.o (.loop L), []⟩ := hKj lo _ (Heap.set_same _ _ _) lrb l4
          refine ⟨kl, fun ob => ?_⟩
          have hS8 := hSj.turn (x := ⟨.o ob, []⟩) kl (fun e => by cases e) lrb lpb hlH hl0
          have kb8 : (E.set lo ⟨.o ob, []⟩) bk = some _ := (Heap.set_other _ _ (fun e => l4 e.symm)).trans kb
          have hK8 : ∀ d z, F0 d = some z → d ≠ rb → d ≠ bk → (E.set lo ⟨.o ob, []⟩) d = some z := fun d z h h1 h2 => by
            have hdl : d ≠ lo := fun e => by subst e; rw [hln] at h; cases h
            rw [Heap.set_other _ _ hdl]
            exact hKj d z (gL.some h) h1 h2
          generalize (E.set lo ⟨.o ob, []⟩) = F4 at hS8 kb8 hK8 ⊢
          have lo5 := (blk_ne (gF.some m5) lo hln).1
          have M5 := hK8 _ _ (gF.some m5) d5 s5
          have M7 := hK8 _ _ (gF.some m7o) e7 s7'
          have M2 := hK8 _ _ (gF.some m2o) d2 s2'
          have hB4 := bld_st hB hS (E := F4) fun c x h h1 => hK8 c x (gF.some h) h1 ((blk_ne h bk hbk).2)
          have hS8' := hS8
          have hi : ∀ b, a' = some ⟨b, 0, none⟩ → b ≠ bk ∨ c' = 0 := fun b e => by
            rcases hB with ⟨b', z, e', -, -, h3, -⟩ | ⟨h, -⟩
            · rw [e'] at e
              cases e
              exact .inl (blk_ne h3 bk hbk).2
            · exact .inr h
          clear hSj kb hKj kl hK8 hL hln e4 e5 gL gF hT m5' m7 m2 hB1 lrb lpb l4 hlH m5 hB hl0 hn5 hb5
          have hS60 : DcSt w0 H F4 rb pb ra rc l (7 + 16 * k + (8 + 0)) := hS8
          refine loop_g 61 (fun s : Nat × Value × Heap => [(11, s.2.1), (60, .int .i64 (s.1 : Nat))]) (fun s => s.2.2) (fun s => s.1 ≤ 4 ∧ DcSt w0 H s.2.2 rb pb ra rc l (7 + 16 * k + (8 + s.1)) ∧ s.2.2 bk = some ⟨.t 30, part A Z (8 + s.1)⟩ ∧ ∀ d z, F4 d = some z → d ≠ rb → d ≠ bk → s.2.2 d = some z) (fun s => 4 - s.1) (0, _, _) ⟨Nat.zero_le _, hS60, kb8, fun d z h _ _ => h⟩ (Heap.Le.refl _) rfl ?_
          clear hS60 kb8
          intro ⟨m, v60, E60⟩ g ⟨hm4, hSm, kbm, hKm⟩
          simp only at hm4 hSm kbm hKm
          by_cases hlt4 : m < 4
          · have r5 := rd1_of (w0 := w0) (hKm _ _ M5 d5 s5)
            have u0 : (m : Int) < 4 := by omega
            have u6 : IntKind.i64.wrap ((m : Int) + 1) = (m : Int) + 1 := Bw.1 _ (by omega) (by omega)
            replace M5 : Keep _ := M5
            replace M7 : Keep _ := M7
            replace M2 : Keep _ := M2
            (all_goals (try simp only [Sq,Sr,Sh,Si,Sl,Bu,Bb,Bd,Bc,Bw,Bn,Int.reduceAdd,Int.reduceSub,Int.reduceMul,Int.reduceTDiv,Int.reduceTMod,Int.reduceMod,Int.reduceDiv,Nat.reduceLT,Nat.reduceEqDiff,Sa,Sb,Sc,Sd,Se,Sf,Sg,Int.reduceLE,Int.reduceLT,Int.reduceToNat,Int.reduceNeg,Int.reduceEq,Nat.reduceLeDiff,Nat.reducePow,Int.reducePow,reduceIte,Nat.reduceSub,Nat.reduceAdd,Nat.reduceMul,putAt,ceq,List.replicate, *])); repeat' ((first | (with_reducible refine fun _ : True => ?_) | ((first | refine AllocQ_i ?_ | refine AllocO_i ?_); intro bk hb0 hbk; (try simp only [set_none'] at hbk); (try (first | have hbn := Grow.none (by assumption) hbk | have hbn := Grow.none (by assumption) hbk.2 | have hbn := Grow.none (by assumption) hbk.2.2 | have hbn := Grow.none (by assumption) hbk.2.2.2 | have hbn := Grow.none (by assumption) hbk.2.2.2.2 | have hbn := Grow.none (by assumption) hbk.2.2.2.2.2)); (try simp only [set_none'] at hbn); (try (first | have hbm := Grow.none (by assumption) hbn | have hbm := Grow.none (by assumption) hbn.2 | have hbm := Grow.none (by assumption) hbn.2.2 | have hbm := Grow.none (by assumption) hbn.2.2.2 | have hbm := Grow.none (by assumption) hbn.2.2.2.2 | have hbm := Grow.none (by assumption) hbn.2.2.2.2.2)); (try simp only [set_none'] at hbm)) | ((first | refine condS_i ?_ ?_ | refine pick_i ?_ ?_ | refine gS_it ?_ ?_ | refine gS_if ?_ ?_ | refine gP_it ?_ ?_ | refine gP_if ?_ ?_) <;> (intro hc; try simp only [Int.reduceLE,Int.reduceLT,Int.reduceEq,Sn] at hc)) | (refine KP_i (by (repeat' (first | exact Heap.Le.refl _ | (with_reducible refine Le_set2 ?_) | (refine Le_known (by first | (simp only [Heap.set_same, set_ne, ne_eq, not_false_eq_true, *] <;> rfl) | fail) ?_) | (refine Le_fresh (by first | (simp only [*] <;> done) | (simp [set_none', Heap.set_same, set_ne, noneH, *] <;> done) | fail) ?_) | (refine Heap.Le.trans ?_ (Grow.le (by assumption))) | exact Le_none | (refine Le_put ?_ (by first | (simp only [Heap.set_same, set_ne, ne_eq, not_false_eq_true, *] <;> rfl) | fail)) | fail))) ?_) | (with_reducible refine And.intro ?_ ?_)) <;> (try simp only [Sq,Sr,Sh,Si,Sl,Bu,Bb,Bd,Bc,Bw,Bn,Int.reduceAdd,Int.reduceSub,Int.reduceMul,Int.reduceTDiv,Int.reduceTMod,Int.reduceMod,Int.reduceDiv,Nat.reduceLT,Nat.reduceEqDiff,Sa,Sb,Sc,Sd,Se,Sf,Sg,Int.reduceLE,Int.reduceLT,Int.reduceToNat,Int.reduceNeg,Int.reduceEq,Nat.reduceLeDiff,Nat.reducePow,Int.reducePow,reduceIte,Nat.reduceSub,Nat.reduceAdd,Nat.reduceMul,putAt,ceq,List.replicate, *]))
            refine c_getS hSm (fun x E2 hx hS2 hk2 => ?_)
            have kb2 : E2 bk = some _ := hk2 bk _ kbm s4
            have hx' : x = numA l (28 + 64 * k + 4 * (8 + m)) := by rw [hx (by omega)]; congr 1; omega
            have hv : A[8 + m]? = some (.int .i32 (IntKind.i32.wrap (IntKind.u32.wrap x))) := by
              rw [hx', ← eA]
              rcases (show m = 0 ∨ m = 1 ∨ m = 2 ∨ m = 3 by omega) with rfl | rfl | rfl | rfl <;> rfl
            have hps := part_set lA lZ (by omega) hv
            have hpl := part_len (j := 8 + m) lA lZ (by omega)
            have hj16 : 8 + m < 16 := by omega
            have hge0 : 0 ≤ (m : Int) := by omega
            clear hx hx'
            (all_goals (try simp only [Sq,Sr,Sh,Si,Sl,Bu,Bb,Bd,Bc,Bw,Bn,Int.reduceAdd,Int.reduceSub,Int.reduceMul,Int.reduceTDiv,Int.reduceTMod,Int.reduceMod,Int.reduceDiv,Nat.reduceLT,Nat.reduceEqDiff,Sa,Sb,Sc,Sd,Se,Sf,Sg,Int.reduceLE,Int.reduceLT,Int.reduceToNat,Int.reduceNeg,Int.reduceEq,Nat.reduceLeDiff,Nat.reducePow,Int.reducePow,reduceIte,Nat.reduceSub,Nat.reduceAdd,Nat.reduceMul,putAt,ceq,List.replicate, *])); repeat' ((first | (with_reducible refine fun _ : True => ?_) | (with_reducible refine any_h ?_) | ((first | refine AllocQ_i ?_ | refine AllocO_i ?_); intro bk hb0 hbk; (try simp only [set_none'] at hbk); (try (first | have hbn := Grow.none (by assumption) hbk | have hbn := Grow.none (by assumption) hbk.2 | have hbn := Grow.none (by assumption) hbk.2.2 | have hbn := Grow.none (by assumption) hbk.2.2.2 | have hbn := Grow.none (by assumption) hbk.2.2.2.2 | have hbn := Grow.none (by assumption) hbk.2.2.2.2.2)); (try simp only [set_none'] at hbn); (try (first | have hbm := Grow.none (by assumption) hbn | have hbm := Grow.none (by assumption) hbn.2 | have hbm := Grow.none (by assumption) hbn.2.2 | have hbm := Grow.none (by assumption) hbn.2.2.2 | have hbm := Grow.none (by assumption) hbn.2.2.2.2 | have hbm := Grow.none (by assumption) hbn.2.2.2.2.2)); (try simp only [set_none'] at hbm)) | ((first | refine condS_i ?_ ?_ | refine pick_i ?_ ?_ | refine gS_it ?_ ?_ | refine gS_if ?_ ?_ | refine gP_it ?_ ?_ | refine gP_if ?_ ?_) <;> (intro hc; try simp only [Int.reduceLE,Int.reduceLT,Int.reduceEq,Sn] at hc)) | (refine KP_i (by (repeat' (first | exact Heap.Le.refl _ | (with_reducible refine Le_set2 ?_) | (refine Le_known (by first | (simp only [Heap.set_same, set_ne, ne_eq, not_false_eq_true, *] <;> rfl) | fail) ?_) | (refine Le_fresh (by first | (simp only [*] <;> done) | (simp [set_none', Heap.set_same, set_ne, noneH, *] <;> done) | fail) ?_) | (refine Heap.Le.trans ?_ (Grow.le (by assumption))) | exact Le_none | (refine Le_put ?_ (by first | (simp only [Heap.set_same, set_ne, ne_eq, not_false_eq_true, *] <;> rfl) | fail)) | fail))) ?_) | (with_reducible refine And.intro ?_ ?_)) <;> (try simp only [Sq,Sr,Sh,Si,Sl,Bu,Bb,Bd,Bc,Bw,Bn,Int.reduceAdd,Int.reduceSub,Int.reduceMul,Int.reduceTDiv,Int.reduceTMod,Int.reduceMod,Int.reduceDiv,Nat.reduceLT,Nat.reduceEqDiff,Sa,Sb,Sc,Sd,Se,Sf,Sg,Int.reduceLE,Int.reduceLT,Int.reduceToNat,Int.reduceNeg,Int.reduceEq,Nat.reduceLeDiff,Nat.reducePow,Int.reducePow,reduceIte,Nat.reduceSub,Nat.reduceAdd,Nat.reduceMul,putAt,ceq,List.replicate, *]))
            exact Round_mk (m + 1, _, E2.set bk ⟨.t 30, part A Z (8 + (m + 1))⟩) ⟨hlt4, hS2.turn kb2 (fun e => by cases e) s4 spb hbkH hb0, Heap.set_same _ _ _, fun d z h h1 h2 => (Heap.set_other _ _ h2).trans (hk2 d z (hKm d z h h1 h2) h1)⟩ (by simp only; omega) (Heap.Le.refl _) rfl rfl
          obtain rfl : m = 4 := by omega
          have u0 : ¬ ((4 : Nat) : Int) < 4 := by omega
          replace M5 := hKm _ _ M5 d5 s5
          replace M7 := hKm _ _ M7 e7 s7'
          replace M2 := hKm _ _ M2 d2 s2'
          have hB5 := bld_st2 hB4 hS8' hi hKm
          have hS9 := hSm
          have kb12 : E60 bk = some ⟨.t 30, part A Z (12 + 0)⟩ := kbm
          clear kbm hSm hKm hB4 hS8'
          (all_goals (try simp only [Sq,Sr,Sh,Si,Sl,Bu,Bb,Bd,Bc,Bw,Bn,Int.reduceAdd,Int.reduceSub,Int.reduceMul,Int.reduceTDiv,Int.reduceTMod,Int.reduceMod,Int.reduceDiv,Nat.reduceLT,Nat.reduceEqDiff,Sa,Sb,Sc,Sd,Se,Sf,Sg,Int.reduceLE,Int.reduceLT,Int.reduceToNat,Int.reduceNeg,Int.reduceEq,Nat.reduceLeDiff,Nat.reducePow,Int.reducePow,reduceIte,Nat.reduceSub,Nat.reduceAdd,Nat.reduceMul,putAt,ceq,List.replicate, *])); repeat' ((first | (with_reducible refine fun _ : True => ?_) | (with_reducible refine any_h ?_) | ((first | refine AllocQ_i ?_ | refine AllocO_i ?_); intro bk hb0 hbk; (try simp only [set_none'] at hbk); (try (first | have hbn := Grow.none (by assumption) hbk | have hbn := Grow.none (by assumption) hbk.2 | have hbn := Grow.none (by assumption) hbk.2.2 | have hbn := Grow.none (by assumption) hbk.2.2.2 | have hbn := Grow.none (by assumption) hbk.2.2.2.2 | have hbn := Grow.none (by assumption) hbk.2.2.2.2.2)); (try simp only [set_none'] at hbn); (try (first | have hbm := Grow.none (by assumption) hbn | have hbm := Grow.none (by assumption) hbn.2 | have hbm := Grow.none (by assumption) hbn.2.2 | have hbm := Grow.none (by assumption) hbn.2.2.2 | have hbm := Grow.none (by assumption) hbn.2.2.2.2 | have hbm := Grow.none (by assumption) hbn.2.2.2.2.2)); (try simp only [set_none'] at hbm)) | ((first | refine condS_i ?_ ?_ | refine pick_i ?_ ?_ | refine gS_it ?_ ?_ | refine gS_if ?_ ?_ | refine gP_it ?_ ?_ | refine gP_if ?_ ?_) <;> (intro hc; try simp only [Int.reduceLE,Int.reduceLT,Int.reduceEq,Sn] at hc)) | (refine KP_i (by (repeat' (first | exact Heap.Le.refl _ | (with_reducible refine Le_set2 ?_) | (refine Le_known (by first | (simp only [Heap.set_same, set_ne, ne_eq, not_false_eq_true, *] <;> rfl) | fail) ?_) | (refine Le_fresh (by first | (simp only [*] <;> done) | (simp [set_none', Heap.set_same, set_ne, noneH, *] <;> done) | fail) ?_) | (refine Heap.Le.trans ?_ (Grow.le (by assumption))) | exact Le_none | (refine Le_put ?_ (by first | (simp only [Heap.set_same, set_ne, ne_eq, not_false_eq_true, *] <;> rfl) | fail)) | fail))) ?_) | (with_reducible refine And.intro ?_ ?_)) <;> (try simp only [Sq,Sr,Sh,Si,Sl,Bu,Bb,Bd,Bc,Bw,Bn,Int.reduceAdd,Int.reduceSub,Int.reduceMul,Int.reduceTDiv,Int.reduceTMod,Int.reduceMod,Int.reduceDiv,Nat.reduceLT,Nat.reduceEqDiff,Sa,Sb,Sc,Sd,Se,Sf,Sg,Int.reduceLE,Int.reduceLT,Int.reduceToNat,Int.reduceNeg,Int.reduceEq,Nat.reduceLeDiff,Nat.reducePow,Int.reducePow,reduceIte,Nat.reduceSub,Nat.reduceAdd,Nat.reduceMul,putAt,ceq,List.replicate, *]))
          have hS71 : DcSt w0 H E60 rb pb ra rc l (7 + 16 * k + (12 + 0)) := hS9
          refine loop_g 72 (fun s : Nat × Value × Heap => [(12, s.2.1), (71, .int .i64 (s.1 : Nat))]) (fun s => s.2.2) (fun s => s.1 ≤ 4 ∧ DcSt w0 H s.2.2 rb pb ra rc l (7 + 16 * k + (12 + s.1)) ∧ s.2.2 bk = some ⟨.t 30, part A Z (12 + s.1)⟩ ∧ ∀ d z, E60 d = some z → d ≠ rb → d ≠ bk → s.2.2 d = some z) (fun s => 4 - s.1) (0, _, _) ⟨Nat.zero_le _, hS71, kb12, fun d z h _ _ => h⟩ (Heap.Le.refl _) rfl ?_
          clear hS71 kb12
          intro ⟨m, v71, E71⟩ g ⟨hm4, hSm, kbm, hKm⟩
          simp only at hm4 hSm kbm hKm
          by_cases hlt4 : m < 4
          · have r5 := rd1_of (w0 := w0) (hKm _ _ M5 d5 s5)
            have u0 : (m : Int) < 4 := by omega
            have u6 : IntKind.i64.wrap ((m : Int) + 1) = (m : Int) + 1 := Bw.1 _ (by omega) (by omega)
            replace M5 : Keep _ := M5
            replace M7 : Keep _ := M7
            replace M2 : Keep _ := M2
            (all_goals (try simp only [Sq,Sr,Sh,Si,Sl,Bu,Bb,Bd,Bc,Bw,Bn,Int.reduceAdd,Int.reduceSub,Int.reduceMul,Int.reduceTDiv,Int.reduceTMod,Int.reduceMod,Int.reduceDiv,Nat.reduceLT,Nat.reduceEqDiff,Sa,Sb,Sc,Sd,Se,Sf,Sg,Int.reduceLE,Int.reduceLT,Int.reduceToNat,Int.reduceNeg,Int.reduceEq,Nat.reduceLeDiff,Nat.reducePow,Int.reducePow,reduceIte,Nat.reduceSub,Nat.reduceAdd,Nat.reduceMul,putAt,ceq,List.replicate, *])); repeat' ((first | (with_reducible refine fun _ : True => ?_) | ((first | refine AllocQ_i ?_ | refine AllocO_i ?_); intro bk hb0 hbk; (try simp only [set_none'] at hbk); (try (first | have hbn := Grow.none (by assumption) hbk | have hbn := Grow.none (by assumption) hbk.2 | have hbn := Grow.none (by assumption) hbk.2.2 | have hbn := Grow.none (by assumption) hbk.2.2.2 | have hbn := Grow.none (by assumption) hbk.2.2.2.2 | have hbn := Grow.none (by assumption) hbk.2.2.2.2.2)); (try simp only [set_none'] at hbn); (try (first | have hbm := Grow.none (by assumption) hbn | have hbm := Grow.none (by assumption) hbn.2 | have hbm := Grow.none (by assumption) hbn.2.2 | have hbm := Grow.none (by assumption) hbn.2.2.2 | have hbm := Grow.none (by assumption) hbn.2.2.2.2 | have hbm := Grow.none (by assumption) hbn.2.2.2.2.2)); (try simp only [set_none'] at hbm)) | ((first | refine condS_i ?_ ?_ | refine pick_i ?_ ?_ | refine gS_it ?_ ?_ | refine gS_if ?_ ?_ | refine gP_it ?_ ?_ | refine gP_if ?_ ?_) <;> (intro hc; try simp only [Int.reduceLE,Int.reduceLT,Int.reduceEq,Sn] at hc)) | (refine KP_i (by (repeat' (first | exact Heap.Le.refl _ | (with_reducible refine Le_set2 ?_) | (refine Le_known (by first | (simp only [Heap.set_same, set_ne, ne_eq, not_false_eq_true, *] <;> rfl) | fail) ?_) | (refine Le_fresh (by first | (simp only [*] <;> done) | (simp [set_none', Heap.set_same, set_ne, noneH, *] <;> done) | fail) ?_) | (refine Heap.Le.trans ?_ (Grow.le (by assumption))) | exact Le_none | (refine Le_put ?_ (by first | (simp only [Heap.set_same, set_ne, ne_eq, not_false_eq_true, *] <;> rfl) | fail)) | fail))) ?_) | (with_reducible refine And.intro ?_ ?_)) <;> (try simp only [Sq,Sr,Sh,Si,Sl,Bu,Bb,Bd,Bc,Bw,Bn,Int.reduceAdd,Int.reduceSub,Int.reduceMul,Int.reduceTDiv,Int.reduceTMod,Int.reduceMod,Int.reduceDiv,Nat.reduceLT,Nat.reduceEqDiff,Sa,Sb,Sc,Sd,Se,Sf,Sg,Int.reduceLE,Int.reduceLT,Int.reduceToNat,Int.reduceNeg,Int.reduceEq,Nat.reduceLeDiff,Nat.reducePow,Int.reducePow,reduceIte,Nat.reduceSub,Nat.reduceAdd,Nat.reduceMul,putAt,ceq,List.replicate, *]))
            refine c_getS hSm (fun x E2 hx hS2 hk2 => ?_)
            have kb2 : E2 bk = some _ := hk2 bk _ kbm s4
            have hx' : x = numA l (28 + 64 * k + 4 * (12 + m)) := by rw [hx (by omega)]; congr 1; omega
            have hv : A[12 + m]? = some (.int .i64 x) := by
              rw [hx', ← eA]
              rcases (show m = 0 ∨ m = 1 ∨ m = 2 ∨ m = 3 by omega) with rfl | rfl | rfl | rfl <;> rfl
            have hps := part_set lA lZ (by omega) hv
            have hpl := part_len (j := 12 + m) lA lZ (by omega)
            have hj16 : 12 + m < 16 := by omega
            have hge0 : 0 ≤ (m : Int) := by omega
            clear hx hx'
            (all_goals (try simp only [Sq,Sr,Sh,Si,Sl,Bu,Bb,Bd,Bc,Bw,Bn,Int.reduceAdd,Int.reduceSub,Int.reduceMul,Int.reduceTDiv,Int.reduceTMod,Int.reduceMod,Int.reduceDiv,Nat.reduceLT,Nat.reduceEqDiff,Sa,Sb,Sc,Sd,Se,Sf,Sg,Int.reduceLE,Int.reduceLT,Int.reduceToNat,Int.reduceNeg,Int.reduceEq,Nat.reduceLeDiff,Nat.reducePow,Int.reducePow,reduceIte,Nat.reduceSub,Nat.reduceAdd,Nat.reduceMul,putAt,ceq,List.replicate, *])); repeat' ((first | (with_reducible refine fun _ : True => ?_) | (with_reducible refine any_h ?_) | ((first | refine AllocQ_i ?_ | refine AllocO_i ?_); intro bk hb0 hbk; (try simp only [set_none'] at hbk); (try (first | have hbn := Grow.none (by assumption) hbk | have hbn := Grow.none (by assumption) hbk.2 | have hbn := Grow.none (by assumption) hbk.2.2 | have hbn := Grow.none (by assumption) hbk.2.2.2 | have hbn := Grow.none (by assumption) hbk.2.2.2.2 | have hbn := Grow.none (by assumption) hbk.2.2.2.2.2)); (try simp only [set_none'] at hbn); (try (first | have hbm := Grow.none (by assumption) hbn | have hbm := Grow.none (by assumption) hbn.2 | have hbm := Grow.none (by assumption) hbn.2.2 | have hbm := Grow.none (by assumption) hbn.2.2.2 | have hbm := Grow.none (by assumption) hbn.2.2.2.2 | have hbm := Grow.none (by assumption) hbn.2.2.2.2.2)); (try simp only [set_none'] at hbm)) | ((first | refine condS_i ?_ ?_ | refine pick_i ?_ ?_ | refine gS_it ?_ ?_ | refine gS_if ?_ ?_ | refine gP_it ?_ ?_ | refine gP_if ?_ ?_) <;> (intro hc; try simp only [Int.reduceLE,Int.reduceLT,Int.reduceEq,Sn] at hc)) | (refine KP_i (by (repeat' (first | exact Heap.Le.refl _ | (with_reducible refine Le_set2 ?_) | (refine Le_known (by first | (simp only [Heap.set_same, set_ne, ne_eq, not_false_eq_true, *] <;> rfl) | fail) ?_) | (refine Le_fresh (by first | (simp only [*] <;> done) | (simp [set_none', Heap.set_same, set_ne, noneH, *] <;> done) | fail) ?_) | (refine Heap.Le.trans ?_ (Grow.le (by assumption))) | exact Le_none | (refine Le_put ?_ (by first | (simp only [Heap.set_same, set_ne, ne_eq, not_false_eq_true, *] <;> rfl) | fail)) | fail))) ?_) | (with_reducible refine And.intro ?_ ?_)) <;> (try simp only [Sq,Sr,Sh,Si,Sl,Bu,Bb,Bd,Bc,Bw,Bn,Int.reduceAdd,Int.reduceSub,Int.reduceMul,Int.reduceTDiv,Int.reduceTMod,Int.reduceMod,Int.reduceDiv,Nat.reduceLT,Nat.reduceEqDiff,Sa,Sb,Sc,Sd,Se,Sf,Sg,Int.reduceLE,Int.reduceLT,Int.reduceToNat,Int.reduceNeg,Int.reduceEq,Nat.reduceLeDiff,Nat.reducePow,Int.reducePow,reduceIte,Nat.reduceSub,Nat.reduceAdd,Nat.reduceMul,putAt,ceq,List.replicate, *]))
            exact Round_mk (m + 1, _, E2.set bk ⟨.t 30, part A Z (12 + (m + 1))⟩) ⟨hlt4, hS2.turn kb2 (fun e => by cases e) s4 spb hbkH hb0, Heap.set_same _ _ _, fun d z h h1 h2 => (Heap.set_other _ _ h2).trans (hk2 d z (hKm d z h h1 h2) h1)⟩ (by simp only; omega) (Heap.Le.refl _) rfl rfl
          obtain rfl : m = 4 := by omega
          have u0 : ¬ ((4 : Nat) : Int) < 4 := by omega
          replace M5 := hKm _ _ M5 d5 s5
          replace M7 := hKm _ _ M7 e7 s7'
          replace M2 := hKm _ _ M2 d2 s2'
          have hB6 := bld_st2 hB5 hS9 hi hKm
          have kb16 : E71 bk = some ⟨.t 30, A⟩ := by rw [show E71 bk = _ from kbm]; rw [show 12 + 4 = 16 by rfl, part_e lA lZ]
          obtain ⟨i, ei⟩ : ∃ i, insA l (28 + 64 * k) = i := ⟨_, rfl⟩
          rw [← eA, ei] at kb16
          have r16 := rdn_blk (w0 := w0) (n := 16) kb16 rfl (by omega)
          have r7 : rd1 w0 E71 b7 1 = some (.slice a' k c') := by unfold rd1; rw [M7]; rfl
          unfold Ins.row at r16
          clear hB5 hS9 kbm hKm eA eZ lA lZ
          replace M5 : Keep _ := M5
          replace M7 : Keep _ := M7
          replace M2 : Keep _ := M2
          (all_goals (try simp only [Sq,Sr,Sh,Si,Sl,Bu,Bb,Bd,Bc,Bw,Bn,Int.reduceAdd,Int.reduceSub,Int.reduceMul,Int.reduceTDiv,Int.reduceTMod,Int.reduceMod,Int.reduceDiv,Nat.reduceLT,Nat.reduceEqDiff,Sa,Sb,Sc,Sd,Se,Sf,Sg,Int.reduceLE,Int.reduceLT,Int.reduceToNat,Int.reduceNeg,Int.reduceEq,Nat.reduceLeDiff,Nat.reducePow,Int.reducePow,reduceIte,Nat.reduceSub,Nat.reduceAdd,Nat.reduceMul,putAt,ceq,List.replicate, *])); repeat' ((first | (with_reducible refine fun _ : True => ?_) | (with_reducible refine any_h ?_) | ((first | refine AllocQ_i ?_ | refine AllocO_i ?_); intro bk hb0 hbk; (try simp only [set_none'] at hbk); (try (first | have hbn := Grow.none (by assumption) hbk | have hbn := Grow.none (by assumption) hbk.2 | have hbn := Grow.none (by assumption) hbk.2.2 | have hbn := Grow.none (by assumption) hbk.2.2.2 | have hbn := Grow.none (by assumption) hbk.2.2.2.2 | have hbn := Grow.none (by assumption) hbk.2.2.2.2.2)); (try simp only [set_none'] at hbn); (try (first | have hbm := Grow.none (by assumption) hbn | have hbm := Grow.none (by assumption) hbn.2 | have hbm := Grow.none (by assumption) hbn.2.2 | have hbm := Grow.none (by assumption) hbn.2.2.2 | have hbm := Grow.none (by assumption) hbn.2.2.2.2 | have hbm := Grow.none (by assumption) hbn.2.2.2.2.2)); (try simp only [set_none'] at hbm)) | ((first | refine condS_i ?_ ?_ | refine pick_i ?_ ?_ | refine gS_it ?_ ?_ | refine gS_if ?_ ?_ | refine gP_it ?_ ?_ | refine gP_if ?_ ?_) <;> (intro hc; try simp only [Int.reduceLE,Int.reduceLT,Int.reduceEq,Sn] at hc)) | (refine KP_i (by (repeat' (first | exact Heap.Le.refl _ | (with_reducible refine Le_set2 ?_) | (refine Le_known (by first | (simp only [Heap.set_same, set_ne, ne_eq, not_false_eq_true, *] <;> rfl) | fail) ?_) | (refine Le_fresh (by first | (simp only [*] <;> done) | (simp [set_none', Heap.set_same, set_ne, noneH, *] <;> done) | fail) ?_) | (refine Heap.Le.trans ?_ (Grow.le (by assumption))) | exact Le_none | (refine Le_put ?_ (by first | (simp only [Heap.set_same, set_ne, ne_eq, not_false_eq_true, *] <;> rfl) | fail)) | fail))) ?_) | (with_reducible refine And.intro ?_ ?_)) <;> (try simp only [Sq,Sr,Sh,Si,Sl,Bu,Bb,Bd,Bc,Bw,Bn,Int.reduceAdd,Int.reduceSub,Int.reduceMul,Int.reduceTDiv,Int.reduceTMod,Int.reduceMod,Int.reduceDiv,Nat.reduceLT,Nat.reduceEqDiff,Sa,Sb,Sc,Sd,Se,Sf,Sg,Int.reduceLE,Int.reduceLT,Int.reduceToNat,Int.reduceNeg,Int.reduceEq,Nat.reduceLeDiff,Nat.reducePow,Int.reducePow,reduceIte,Nat.reduceSub,Nat.reduceAdd,Nat.reduceMul,putAt,ceq,List.replicate, *]))
          have hcl : (((decIs l n).take k).map Ins.row).flatten.length = k * 16 := by
            rw [flat_len]
            · rw [List.length_map, List.length_take]
              unfold decIs
              rw [List.length_map, List.length_range]
              congr 1
              omega
            · intro r hr
              obtain ⟨j, -, rfl⟩ := List.mem_map.1 hr
              rfl
          have hbn1 := hSm.g.none hbk
          have gN : Grow w0 E71 (E71.set bk ⟨.t 30, i.row⟩) := Grow.set (Grow.refl _) hb0 hbk
          have hSn := hSm.grow gN
          refine app_bld (H := H) (n := k) (m := 1) (ns := i.row) (hB6.grow gN) hcl rfl (srd_blk (Heap.set_same _ _ _) rfl) rfl (hSm.g.trans gN) ⟨by omega, by omega⟩ rfl fun a2 c2 G2 hB2 hg2 hk2 hc2 => ?_
          have hSz := hSn.stay hg2 hk2
          have hk3 := fun d z (h : E71 d = some z) => hk2 d z (gN.some h)
          have N5 := hk3 _ _ (show _ = _ from M5) (fun e => by cases e)
          have N7 := hk3 _ _ (show _ = _ from M7) (fun e => by cases e)
          have N2 := hk3 _ _ (show _ = _ from M2) (fun e => by cases e)
          have hdk : (decIs l n)[k]? = some i := by
            unfold decIs
            rw [List.getElem?_map, List.getElem?_range hlt, ← ei]
            rfl
          have hB3 : Bld w0 H G2 a2 c2 16 30 (((decIs l n).take (k + 1)).map Ins.row).flatten := by
            rw [List.take_add_one, hdk, Option.toList_some, List.map_append, List.flatten_append]
            simpa using hB2
          have h7p : b7 ≠ pb := fun e => by
            subst e
            rw [hSz.at_] at N7
            cases N7
          clear M5 M7 M2 hk3 hk2 hB2 hSn gN hSm hB6 hcl kb16 r16 hdk
          rw [root1 N7]
          have hSf := hSz.turn (x := ⟨.t 34, [.int .i64 x1, .slice a2 (k + 1) c2, .int .i64 x2, .int .i64 x3, .int .i64 x4, .int .i64 x5]⟩) N7 (fun e => by cases e) e7 h7p h7H s7
          have hBf := hB3.turn (x := ⟨.t 34, [.int .i64 x1, .slice a2 (k + 1) c2, .int .i64 x2, .int .i64 x3, .int .i64 x4, .int .i64 x5]⟩) N7 (fun e => by cases e)
          replace N5 := (Heap.set_other (H := G2) (x := ⟨.t 34, [.int .i64 x1, .slice a2 (k + 1) c2, .int .i64 x2, .int .i64 x3, .int .i64 x4, .int .i64 x5]⟩) d75).trans N5
          replace N2 := (Heap.set_other (H := G2) (x := ⟨.t 34, [.int .i64 x1, .slice a2 (k + 1) c2, .int .i64 x2, .int .i64 x3, .int .i64 x4, .int .i64 x5]⟩) d72).trans N2
          have nN5 : Keep _ := N5
          have nN2 : Keep _ := N2
          clear N5 N2 N7 hB3 hSz
          (all_goals (try simp only [Sq,Sr,Sh,Si,Sl,Bu,Bb,Bd,Bc,Bw,Bn,Int.reduceAdd,Int.reduceSub,Int.reduceMul,Int.reduceTDiv,Int.reduceTMod,Int.reduceMod,Int.reduceDiv,Nat.reduceLT,Nat.reduceEqDiff,Sa,Sb,Sc,Sd,Se,Sf,Sg,Int.reduceLE,Int.reduceLT,Int.reduceToNat,Int.reduceNeg,Int.reduceEq,Nat.reduceLeDiff,Nat.reducePow,Int.reducePow,reduceIte,Nat.reduceSub,Nat.reduceAdd,Nat.reduceMul,putAt,ceq,List.replicate, *])); repeat' ((first | (with_reducible refine fun _ : True => ?_) | (with_reducible refine any_h ?_) | ((first | refine AllocQ_i ?_ | refine AllocO_i ?_); intro bk hb0 hbk; (try simp only [set_none'] at hbk); (try (first | have hbn := Grow.none (by assumption) hbk | have hbn := Grow.none (by assumption) hbk.2 | have hbn := Grow.none (by assumption) hbk.2.2 | have hbn := Grow.none (by assumption) hbk.2.2.2 | have hbn := Grow.none (by assumption) hbk.2.2.2.2 | have hbn := Grow.none (by assumption) hbk.2.2.2.2.2)); (try simp only [set_none'] at hbn); (try (first | have hbm := Grow.none (by assumption) hbn | have hbm := Grow.none (by assumption) hbn.2 | have hbm := Grow.none (by assumption) hbn.2.2 | have hbm := Grow.none (by assumption) hbn.2.2.2 | have hbm := Grow.none (by assumption) hbn.2.2.2.2 | have hbm := Grow.none (by assumption) hbn.2.2.2.2.2)); (try simp only [set_none'] at hbm)) | ((first | refine condS_i ?_ ?_ | refine pick_i ?_ ?_ | refine gS_it ?_ ?_ | refine gS_if ?_ ?_ | refine gP_it ?_ ?_ | refine gP_if ?_ ?_) <;> (intro hc; try simp only [Int.reduceLE,Int.reduceLT,Int.reduceEq,Sn] at hc)) | (refine KP_i (by (repeat' (first | exact Heap.Le.refl _ | (with_reducible refine Le_set2 ?_) | (refine Le_known (by first | (simp only [Heap.set_same, set_ne, ne_eq, not_false_eq_true, *] <;> rfl) | fail) ?_) | (refine Le_fresh (by first | (simp only [*] <;> done) | (simp [set_none', Heap.set_same, set_ne, noneH, *] <;> done) | fail) ?_) | (refine Heap.Le.trans ?_ (Grow.le (by assumption))) | exact Le_none | (refine Le_put ?_ (by first | (simp only [Heap.set_same, set_ne, ne_eq, not_false_eq_true, *] <;> rfl) | fail)) | fail))) ?_) | (with_reducible refine And.intro ?_ ?_)) <;> (try simp only [Sq,Sr,Sh,Si,Sl,Bu,Bb,Bd,Bc,Bw,Bn,Int.reduceAdd,Int.reduceSub,Int.reduceMul,Int.reduceTDiv,Int.reduceTMod,Int.reduceMod,Int.reduceDiv,Nat.reduceLT,Nat.reduceEqDiff,Sa,Sb,Sc,Sd,Se,Sf,Sg,Int.reduceLE,Int.reduceLT,Int.reduceToNat,Int.reduceNeg,Int.reduceEq,Nat.reduceLeDiff,Nat.reducePow,Int.reducePow,reduceIte,Nat.reduceSub,Nat.reduceAdd,Nat.reduceMul,putAt,ceq,List.replicate, *]))
          exact Round_mk (k + 1, (_, _, _), (a2, c2), G2.set b7 ⟨.t 34, [.int .i64 x1, .slice a2 (k + 1) c2, .int .i64 x2, .int .i64 x3, .int .i64 x4, .int .i64 x5]⟩) ⟨hlt, hSf, Heap.set_same _ _ _, hBf, nN5, nN2⟩ (by simp only; omega) (Heap.Le.refl _) rfl rfl
      · obtain rfl : k = n := by omega
        have t0 : ¬ ((k : Nat) : Int) < (k : Nat) := by omega
        have hdl : (decIs l k).length = k := by unfold decIs; rw [List.length_map, List.length_range]
        have htk : (decIs l k).take k = decIs l k := List.take_of_length_le (by omega)
        rw [htk] at hB
        have hk6 : (numA l 24).toNat = k := by
          have q6 : (k : Int) = numA l 24 := hx6
          rw [← q6]; rfl
        have hdc : decC l = ⟨numA l 4, none, 0, decIs l k, numA l 8, numA l 12, numA l 16, numA l 20⟩ := by unfold decC; rw [hk6]
        obtain ⟨rfl, rfl, rfl, rfl, rfl⟩ := (show _ ∧ _ ∧ _ ∧ _ ∧ _ from hxs)
        have hlek : (decIs l k).length ≤ c' := by
          have := hB.le
          rw [flat_len (sz := 16) _ (fun r hr => by obtain ⟨j, -, rfl⟩ := List.mem_map.1 hr; rfl), List.length_map] at this
          omega
        have hcd : CdAt w0 F ⟨numA l 4, a', c', decIs l k, numA l 8, numA l 12, numA l 16, numA l 20⟩ := ⟨hB.slAt, by simp only [hdl]; unfold maxLen; omega, hlek⟩
        have hck := fun (K : Value → Heap → Prop) => c_Check (w0 := w0) (H := F) (K := K) _ hcd
        have r6 := rdn_blk (w0 := w0) (n := 6) m7 rfl (by omega)
        have hye := (show okHd l → _ from hy) hokd
        have hne := (show ¬ _ → _ from hn)
        rw [hdc] at hye hne
        have hgF := hS.g
        by_cases hmp : mayP ⟨numA l 4, a', c', decIs l k, numA l 8, numA l 12, numA l 16, numA l 20⟩
        · have hck := fun (K : Value → Heap → Prop) h => hck K (fun _ => h) (fun h' => absurd hmp h')
          have fin := hye hmp a' c'
          unfold Cd.v at hck fin
          simp only [hdl] at hck fin
          replace hck : Keep _ := hck
          replace fin : Keep _ := fin
          clear hy hn hye hne hcd hdc hk6 htk
          (all_goals (try simp only [Sq,Sr,Sh,Si,Sl,Bu,Bb,Bd,Bc,Bw,Bn,Int.reduceAdd,Int.reduceSub,Int.reduceMul,Int.reduceTDiv,Int.reduceTMod,Int.reduceMod,Int.reduceDiv,Nat.reduceLT,Nat.reduceEqDiff,Sa,Sb,Sc,Sd,Se,Sf,Sg,Int.reduceLE,Int.reduceLT,Int.reduceToNat,Int.reduceNeg,Int.reduceEq,Nat.reduceLeDiff,Nat.reducePow,Int.reducePow,reduceIte,Nat.reduceSub,Nat.reduceAdd,Nat.reduceMul,putAt,ceq,List.replicate, *])); repeat' ((first | (with_reducible refine fun _ : True => ?_) | refine hck _ ?_ | (with_reducible refine any_h ?_) | ((first | refine AllocQ_i ?_ | refine AllocO_i ?_); intro bk hb0 hbk; (try simp only [set_none'] at hbk); (try (first | have hbn := Grow.none (by assumption) hbk | have hbn := Grow.none (by assumption) hbk.2 | have hbn := Grow.none (by assumption) hbk.2.2 | have hbn := Grow.none (by assumption) hbk.2.2.2 | have hbn := Grow.none (by assumption) hbk.2.2.2.2 | have hbn := Grow.none (by assumption) hbk.2.2.2.2.2)); (try simp only [set_none'] at hbn); (try (first | have hbm := Grow.none (by assumption) hbn | have hbm := Grow.none (by assumption) hbn.2 | have hbm := Grow.none (by assumption) hbn.2.2 | have hbm := Grow.none (by assumption) hbn.2.2.2 | have hbm := Grow.none (by assumption) hbn.2.2.2.2 | have hbm := Grow.none (by assumption) hbn.2.2.2.2.2)); (try simp only [set_none'] at hbm)) | ((first | refine condS_i ?_ ?_ | refine pick_i ?_ ?_ | refine gS_it ?_ ?_ | refine gS_if ?_ ?_ | refine gP_it ?_ ?_ | refine gP_if ?_ ?_) <;> (intro hc; try simp only [Int.reduceLE,Int.reduceLT,Int.reduceEq,Sn] at hc)) | (refine KP_i (by (repeat' (first | exact Heap.Le.refl _ | (with_reducible refine Le_set2 ?_) | (refine Le_known (by first | (simp only [Heap.set_same, set_ne, ne_eq, not_false_eq_true, *] <;> rfl) | fail) ?_) | (refine Le_fresh (by first | (simp only [*] <;> done) | (simp [set_none', Heap.set_same, set_ne, noneH, *] <;> done) | fail) ?_) | (refine Heap.Le.trans ?_ (Grow.le (by assumption))) | exact Le_none | (refine Le_put ?_ (by first | (simp only [Heap.set_same, set_ne, ne_eq, not_false_eq_true, *] <;> rfl) | fail)) | fail))) ?_) | (with_reducible refine And.intro ?_ ?_)) <;> (try simp only [Sq,Sr,Sh,Si,Sl,Bu,Bb,Bd,Bc,Bw,Bn,Int.reduceAdd,Int.reduceSub,Int.reduceMul,Int.reduceTDiv,Int.reduceTMod,Int.reduceMod,Int.reduceDiv,Nat.reduceLT,Nat.reduceEqDiff,Sa,Sb,Sc,Sd,Se,Sf,Sg,Int.reduceLE,Int.reduceLT,Int.reduceToNat,Int.reduceNeg,Int.reduceEq,Nat.reduceLeDiff,Nat.reducePow,Int.reducePow,reduceIte,Nat.reduceSub,Nat.reduceAdd,Nat.reduceMul,putAt,ceq,List.replicate, *]))
          exact Fin_mk (Heap.Le.refl _) ((show ∀ G, _ → _ → _ → _ from fin) _ (hB.turn m2 (fun e => by cases e)) (by omega) (hgF.set hb2 hn2))
        · have hck := fun (K : Value → Heap → Prop) h => hck K (fun h' => absurd h' hmp) (fun _ => h)
          have fin := hne (fun h => hmp h.2)
          unfold Cd.v at hck
          simp only [hdl] at hck
          replace hck : Keep _ := hck
          replace fin : Keep _ := fin
          clear hy hn hye hne hcd hdc hk6 htk
          (all_goals (try simp only [Sq,Sr,Sh,Si,Sl,Bu,Bb,Bd,Bc,Bw,Bn,Int.reduceAdd,Int.reduceSub,Int.reduceMul,Int.reduceTDiv,Int.reduceTMod,Int.reduceMod,Int.reduceDiv,Nat.reduceLT,Nat.reduceEqDiff,Sa,Sb,Sc,Sd,Se,Sf,Sg,Int.reduceLE,Int.reduceLT,Int.reduceToNat,Int.reduceNeg,Int.reduceEq,Nat.reduceLeDiff,Nat.reducePow,Int.reducePow,reduceIte,Nat.reduceSub,Nat.reduceAdd,Nat.reduceMul,putAt,ceq,List.replicate, *])); repeat' ((first | (with_reducible refine fun _ : True => ?_) | refine hck _ ?_ | (with_reducible refine any_h ?_) | ((first | refine AllocQ_i ?_ | refine AllocO_i ?_); intro bk hb0 hbk; (try simp only [set_none'] at hbk); (try (first | have hbn := Grow.none (by assumption) hbk | have hbn := Grow.none (by assumption) hbk.2 | have hbn := Grow.none (by assumption) hbk.2.2 | have hbn := Grow.none (by assumption) hbk.2.2.2 | have hbn := Grow.none (by assumption) hbk.2.2.2.2 | have hbn := Grow.none (by assumption) hbk.2.2.2.2.2)); (try simp only [set_none'] at hbn); (try (first | have hbm := Grow.none (by assumption) hbn | have hbm := Grow.none (by assumption) hbn.2 | have hbm := Grow.none (by assumption) hbn.2.2 | have hbm := Grow.none (by assumption) hbn.2.2.2 | have hbm := Grow.none (by assumption) hbn.2.2.2.2 | have hbm := Grow.none (by assumption) hbn.2.2.2.2.2)); (try simp only [set_none'] at hbm)) | ((first | refine condS_i ?_ ?_ | refine pick_i ?_ ?_ | refine gS_it ?_ ?_ | refine gS_if ?_ ?_ | refine gP_it ?_ ?_ | refine gP_if ?_ ?_) <;> (intro hc; try simp only [Int.reduceLE,Int.reduceLT,Int.reduceEq,Sn] at hc)) | (refine KP_i (by (repeat' (first | exact Heap.Le.refl _ | (with_reducible refine Le_set2 ?_) | (refine Le_known (by first | (simp only [Heap.set_same, set_ne, ne_eq, not_false_eq_true, *] <;> rfl) | fail) ?_) | (refine Le_fresh (by first | (simp only [*] <;> done) | (simp [set_none', Heap.set_same, set_ne, noneH, *] <;> done) | fail) ?_) | (refine Heap.Le.trans ?_ (Grow.le (by assumption))) | exact Le_none | (refine Le_put ?_ (by first | (simp only [Heap.set_same, set_ne, ne_eq, not_false_eq_true, *] <;> rfl) | fail)) | fail))) ?_) | (with_reducible refine And.intro ?_ ?_)) <;> (try simp only [Sq,Sr,Sh,Si,Sl,Bu,Bb,Bd,Bc,Bw,Bn,Int.reduceAdd,Int.reduceSub,Int.reduceMul,Int.reduceTDiv,Int.reduceTMod,Int.reduceMod,Int.reduceDiv,Nat.reduceLT,Nat.reduceEqDiff,Sa,Sb,Sc,Sd,Se,Sf,Sg,Int.reduceLE,Int.reduceLT,Int.reduceToNat,Int.reduceNeg,Int.reduceEq,Nat.reduceLeDiff,Nat.reducePow,Int.reducePow,reduceIte,Nat.reduceSub,Nat.reduceAdd,Nat.reduceMul,putAt,ceq,List.replicate, *]))
          rw [Heap.set_id F b2 _ m2]
          exact Fin_mk hgF.le fin
    · have t0 : (l.length : Int) < 28 := by omega
      have hn := (show _ → _ from hn) fun h => h28 h.1.1
      have e2 : F3 = F3.set b2 _ := root1 m2
      have hH3 : Heap.Le H F3 := hS7.g.le
      rw [e2]
      clear e2 m5 m7 hS7 hx6
      (all_goals (try simp only [Sq,Sr,Sh,Si,Sl,Bu,Bb,Bd,Bc,Bw,Bn,Int.reduceAdd,Int.reduceSub,Int.reduceMul,Int.reduceTDiv,Int.reduceTMod,Int.reduceMod,Int.reduceDiv,Nat.reduceLT,Nat.reduceEqDiff,Sa,Sb,Sc,Sd,Se,Sf,Sg,Int.reduceLE,Int.reduceLT,Int.reduceToNat,Int.reduceNeg,Int.reduceEq,Nat.reduceLeDiff,Nat.reducePow,Int.reducePow,reduceIte,Nat.reduceSub,Nat.reduceAdd,Nat.reduceMul,putAt,ceq,List.replicate, *])); repeat' ((first | (with_reducible refine fun _ : True => ?_) | (with_reducible refine any_h ?_) | ((first | refine AllocQ_i ?_ | refine AllocO_i ?_); intro bk hb0 hbk; (try simp only [set_none'] at hbk); (try (first | have hbn := Grow.none (by assumption) hbk | have hbn := Grow.none (by assumption) hbk.2 | have hbn := Grow.none (by assumption) hbk.2.2 | have hbn := Grow.none (by assumption) hbk.2.2.2 | have hbn := Grow.none (by assumption) hbk.2.2.2.2 | have hbn := Grow.none (by assumption) hbk.2.2.2.2.2)); (try simp only [set_none'] at hbn); (try (first | have hbm := Grow.none (by assumption) hbn | have hbm := Grow.none (by assumption) hbn.2 | have hbm := Grow.none (by assumption) hbn.2.2 | have hbm := Grow.none (by assumption) hbn.2.2.2 | have hbm := Grow.none (by assumption) hbn.2.2.2.2 | have hbm := Grow.none (by assumption) hbn.2.2.2.2.2)); (try simp only [set_none'] at hbm)) | ((first | refine condS_i ?_ ?_ | refine pick_i ?_ ?_ | refine gS_it ?_ ?_ | refine gS_if ?_ ?_ | refine gP_it ?_ ?_ | refine gP_if ?_ ?_) <;> (intro hc; try simp only [Int.reduceLE,Int.reduceLT,Int.reduceEq,Sn] at hc)) | (refine KP_i (by (repeat' (first | exact Heap.Le.refl _ | (with_reducible refine Le_set2 ?_) | (refine Le_known (by first | (simp only [Heap.set_same, set_ne, ne_eq, not_false_eq_true, *] <;> rfl) | fail) ?_) | (refine Le_fresh (by first | (simp only [*] <;> done) | (simp [set_none', Heap.set_same, set_ne, noneH, *] <;> done) | fail) ?_) | (refine Heap.Le.trans ?_ (Grow.le (by assumption))) | exact Le_none | (refine Le_put ?_ (by first | (simp only [Heap.set_same, set_ne, ne_eq, not_false_eq_true, *] <;> rfl) | fail)) | fail))) ?_) | (with_reducible refine And.intro ?_ ?_)) <;> (try simp only [Sq,Sr,Sh,Si,Sl,Bu,Bb,Bd,Bc,Bw,Bn,Int.reduceAdd,Int.reduceSub,Int.reduceMul,Int.reduceTDiv,Int.reduceTMod,Int.reduceMod,Int.reduceDiv,Nat.reduceLT,Nat.reduceEqDiff,Sa,Sb,Sc,Sd,Se,Sf,Sg,Int.reduceLE,Int.reduceLT,Int.reduceToNat,Int.reduceNeg,Int.reduceEq,Nat.reduceLeDiff,Nat.reducePow,Int.reducePow,reduceIte,Nat.reduceSub,Nat.reduceAdd,Nat.reduceMul,putAt,ceq,List.replicate, *]))
      rw [Heap.set_id F3 b2 _ m2]
      exact Fin_mk hH3 hn
end Go.Proofs.Ytndgmnmnpfblmaa
