/- A code in memory with room behind its list, and one in memory of its own (layer 16). -/
import Derived.Test.YtndgmnmnpfblmaaHlt
import Derived.Test.YtndgmnmnpfblmaaPd
import Derived.Test.YtndgmnmnpfblmaaCde

import Derived.Test.YtndgmnmnpfblmaaHlu
set_option linter.unusedSimpArgs false
set_option linter.unusedVariables false
set_option maxRecDepth 100000
set_option maxHeartbeats 4000000
namespace Go.Proofs.Ytndgmnmnpfblmaa
open Go.HL Go.RowKit Pb
variable {w0 : World} {H G : Heap} {K : Value → Heap → Prop}

theorem flat_take {sz : Nat} : ∀ (rows : List (List Value)) (k : Nat), (∀ r ∈ rows, r.length = sz) → rows.flatten.take (k * sz) = (rows.take k).flatten
  | [], k, _ => by simp
  | r :: rows, 0, _ => by simp
  | r :: rows, k + 1, h => by
    have hr := h r List.mem_cons_self
    have ih := flat_take rows k fun x hx => h x (List.mem_cons_of_mem _ hx)
    rw [List.flatten_cons, List.take_succ_cons, List.flatten_cons, ← ih, List.take_append, List.take_of_length_le (by rw [hr, Nat.add_mul]; omega), show (k + 1) * sz - r.length = k * sz by rw [hr, Nat.add_mul]; omega]
theorem slTake {a : Option Addr} {cs : List Value} (h : SlAt w0 H a cs) (k : Nat) : SlAt w0 H a (cs.take k) := fun hc => by
  obtain ⟨b, o, ha, hr⟩ := h (fun e => hc (by rw [e]; simp))
  refine ⟨b, o, ha, fun i hi => ?_⟩
  rw [List.length_take] at hi
  rw [List.getElem?_take, if_pos (by omega)]
  exact hr i (by omega)
def rowsC (l : List Ins) : List Value := (l.map Ins.row).flatten
theorem rowsC_len (l : List Ins) : (rowsC l).length = l.length * 16 := by
  unfold rowsC
  rw [flat_len (sz := 16) _ fun r hr => by obtain ⟨j, -, rfl⟩ := List.mem_map.1 hr; rfl, List.length_map]
theorem rowsC_take (l : List Ins) (k : Nat) : (rowsC l).take (k * 16) = rowsC (l.take k) := by
  unfold rowsC
  rw [flat_take _ _ fun r hr => by obtain ⟨j, -, rfl⟩ := List.mem_map.1 hr; rfl, List.map_take]
theorem rowsC_one (l : List Ins) : (rowsC l).all Value.oneCell' = true := by
  unfold rowsC
  rw [List.all_eq_true]
  intro v hv
  obtain ⟨r, hr, hv⟩ := List.mem_flatten.1 hv
  obtain ⟨j, -, rfl⟩ := List.mem_map.1 hr
  simp only [Ins.row, List.mem_cons, List.not_mem_nil, or_false] at hv
  rcases hv with rfl | rfl | rfl | rfl | rfl | rfl | rfl | rfl | rfl | rfl | rfl | rfl | rfl | rfl | rfl | rfl <;> rfl
/-- An append that fits. -/
theorem app_fit {b n m cap xc by_ sz : Nat} {xa : Option Addr} {ty : TypeId} {zero cs ns z : List Value} (hb : G b = some ⟨ty, cs ++ z⟩) (hn : cs.length = n * sz) (hx : srd w0 G xa (m * sz) = some ns) (hle : n + m ≤ cap) (hz : ns.length ≤ z.length) (ho : ns.all Value.oneCell' = true)
    (hm : (n + m) * by_ ≤ 140737488355328 ∧ n + m ≤ 9223372036854775807) (h : K (.slice (some ⟨b, 0, none⟩) (n + m) cap) (G.set b ⟨ty, cs ++ ns ++ z.drop ns.length⟩)) :
    appQ w0 G K ty sz by_ zero (.slice (some ⟨b, 0, none⟩) n cap) (.slice xa m xc) := by
  unfold appQ
  simp only [hx, optQ]
  refine ⟨hm.1, hm.2, fun _ => ?_, fun h' => by omega⟩
  unfold layQ
  by_cases he : ns = []
  · rw [if_pos he]
    rw [he, List.append_nil, List.length_nil, List.drop_zero, Heap.set_id G b _ hb] at h
    exact h
  · rw [if_neg he]
    simp only [hb, optQ]
    refine ⟨ho, by rw [← hn]; simp only [List.length_append]; omega, ?_⟩
    rw [Nat.zero_add, ← hn, putAt_end cs ns z hz]
    exact h
/-- An append to nothing. -/
theorem app_copy {a0 xa : Option Addr} {n xc by_ sz : Nat} {ty : TypeId} {zero cs : List Value} (hx : SlAt w0 G xa cs) (hl : cs.length = n * sz) (hz : zero.length = sz) (hb : n * by_ ≤ 140737488355328 ∧ n ≤ 9223372036854775807) (ho : cs.all Value.oneCell' = true)
    (h : ∀ a' cap' G', Bld w0 G G' a' cap' sz ty cs → n ≤ cap' → Grow w0 G G' → K (.slice a' n cap') G') : appQ w0 G K ty sz by_ zero (.slice a0 0 0) (.slice xa n xc) := by
  have hs := hx.srd
  rw [hl] at hs
  refine app_bld (H := G) (cs := []) (ns := cs) Bld.none (by simp) hz hs hl (Grow.refl _) (by simpa using hb) ho fun a' cap' G' hB hg _ hc => ?_
  rw [Nat.zero_add] at hc ⊢
  exact h a' cap' G' (by simpa using hB) hc hg

theorem mks_i {K : Value → Heap → Prop} {e : TypeId} {by_ : Nat} {z : List Value} {k k' : IntKind} {l c : Int} (h0 : 0 ≤ l) (h1 : l ≤ c) (h2 : c ≤ 9223372036854775807) (h3 : by_ * c.toNat ≤ 281474976710656)
    (h : AllocQ w0 G K (fun b => .slice (some ⟨b, 0, none⟩) l.toNat c.toNat) e (zeroL z c.toNat)) : mksQ w0 G K e by_ z (.int k l) (.int k' c) := ⟨h0, h1, h2, h3, h⟩
/-- The instruction that stands behind the list. -/
def i77 : Ins := ⟨77, 0, 0, 0, 0, 0, 0, 0, 0, 0, 0, 0, 0, 0, 0, 0⟩
def i0 : Ins := ⟨0, 0, 0, 0, 0, 0, 0, 0, 0, 0, 0, 0, 0, 0, 0, 0⟩
def Cd.few (c : Cd) (b : Nat) : Cd := ⟨c.st, some ⟨b, 0, none⟩, (c.is.take 4097).length + 2, c.is.take 4097, c.rg, c.ab, c.un, c.va⟩
/-- A code stands in a block of its own, with one instruction more behind it. -/
structure FewAt (w0 : World) (H G : Heap) (c : Cd) (b : Nat) : Prop where
  g : Grow w0 H G
  hs : w0.heap.size ≤ b
  hn : H b = none
  at_ : ∃ z, G b = some ⟨.t 30, rowsC (c.is.take 4097) ++ (i77.row ++ z)⟩
theorem FewAt.cd {c : Cd} {b : Nat} (h : FewAt w0 H G c b) : CdAt w0 G (c.few b) := by
  obtain ⟨z, hz⟩ := h.at_
  refine ⟨SlAt.blk hz, ?_, ?_⟩
  · unfold maxLen Cd.few; simp only [List.length_take]; omega
  · unfold Cd.few; simp only; omega
/- paintboxlaw16 few -/
def M14 : MC :=
  .seq (.reg [⟨(some 1), .box 34 (.tmp 0), none⟩,
 ⟨(some 2), .alloc 34 [(.int .i64 0), (.slice none 0 0), (.int .i64 0), (.int .i64 0), (.int .i64 0), (.int .i64 0)], none⟩])
 (.seq (.reg [⟨(some 4), .fa 1 (.tmp 1), none⟩,
 ⟨(some 5), .ld1 (.tmp 4), none⟩,
 ⟨(some 6), .len (.tmp 5), none⟩,
 ⟨(some 7), .mn (.tmp 6) (.const (.int .i64 4097)), none⟩,
 ⟨(some 3), .mv (.tmp 7), none⟩])
 (.seq (.alts (.one true 0 [] ⟨(some 8), .mv (.tmp 3), none⟩ (.one true 1 [] ⟨(some 9), .bin .add (.tmp 8) (.const (.int .i64 2)), none⟩ (.one true 3 [] ⟨(some 11), .fa 1 (.tmp 1), none⟩ (.one true 4 [] ⟨(some 12), .ld1 (.tmp 11), none⟩ (.one true 5 [] ⟨(some 13), .mv (.tmp 3), none⟩ (.one true 6 [] ⟨(some 14), .slc 16 (.tmp 12) none (some (.tmp 13)), none⟩ (.one true 8 [] ⟨(some 16), .build [(.int .i64 0), (.int .i64 0), (.int .i64 0), (.int .i64 0), (.int .i64 0), (.int .i64 0), (.int .i64 0), (.int .i64 0), (.int .i32 0), (.int .i32 0), (.int .i32 0), (.int .i32 0), (.int .i64 0), (.int .i64 0), (.int .i64 0), (.int .i64 0)] [(0, 1, (.const (.int .i64 77)))], none⟩ (.one true 11 [] ⟨(some 19), .mv (.tmp 3), none⟩ (.alt (.one false 2 [3, 4, 5, 6, 8, 11] ⟨(some 10), .mks 30 112 [(.int .i64 0), (.int .i64 0), (.int .i64 0), (.int .i64 0), (.int .i64 0), (.int .i64 0), (.int .i64 0), (.int .i64 0), (.int .i32 0), (.int .i32 0), (.int .i32 0), (.int .i32 0), (.int .i64 0), (.int .i64 0), (.int .i64 0), (.int .i64 0)] (.const (.int .i64 0)) (.tmp 9), none⟩ (.alt (.one false 7 [8, 11] ⟨(some 15), .app 30 16 112 [(.int .i64 0), (.int .i64 0), (.int .i64 0), (.int .i64 0), (.int .i64 0), (.int .i64 0), (.int .i64 0), (.int .i64 0), (.int .i32 0), (.int .i32 0), (.int .i32 0), (.int .i32 0), (.int .i64 0), (.int .i64 0), (.int .i64 0), (.int .i64 0)] (.tmp 10) (.tmp 14), none⟩ (.one false 9 [11] ⟨(some 17), .bslice 30 1 [(.int .i64 0), (.int .i64 0), (.int .i64 0), (.int .i64 0), (.int .i64 0), (.int .i64 0), (.int .i64 0), (.int .i64 0), (.int .i32 0), (.int .i32 0), (.int .i32 0), (.int .i32 0), (.int .i64 0), (.int .i64 0), (.int .i64 0), (.int .i64 0)] [(0, 16, (.tmp 16))], none⟩ (.one false 10 [11] ⟨(some 18), .app 30 16 112 [(.int .i64 0), (.int .i64 0), (.int .i64 0), (.int .i64 0), (.int .i64 0), (.int .i64 0), (.int .i64 0), (.int .i64 0), (.int .i32 0), (.int .i32 0), (.int .i32 0), (.int .i32 0), (.int .i64 0), (.int .i64 0), (.int .i64 0), (.int .i64 0)] (.tmp 15) (.tmp 17), none⟩ (.one false 12 [] ⟨(some 20), .slc 16 (.tmp 18) none (some (.tmp 19)), none⟩ (.one false 13 [] ⟨(some 21), .fa 1 (.tmp 1), none⟩ (.one false 14 [] ⟨none, .st1 (.tmp 21) (.tmp 20), none⟩ .nil))))))
 (.one false 9 [3, 4, 5, 6, 11] ⟨(some 17), .bslice 30 1 [(.int .i64 0), (.int .i64 0), (.int .i64 0), (.int .i64 0), (.int .i64 0), (.int .i64 0), (.int .i64 0), (.int .i64 0), (.int .i32 0), (.int .i32 0), (.int .i32 0), (.int .i32 0), (.int .i64 0), (.int .i64 0), (.int .i64 0), (.int .i64 0)] [(0, 16, (.tmp 16))], none⟩ (.one false 7 [11] ⟨(some 15), .app 30 16 112 [(.int .i64 0), (.int .i64 0), (.int .i64 0), (.int .i64 0), (.int .i64 0), (.int .i64 0), (.int .i64 0), (.int .i64 0), (.int .i32 0), (.int .i32 0), (.int .i32 0), (.int .i32 0), (.int .i64 0), (.int .i64 0), (.int .i64 0), (.int .i64 0)] (.tmp 10) (.tmp 14), none⟩ (.one false 10 [11] ⟨(some 18), .app 30 16 112 [(.int .i64 0), (.int .i64 0), (.int .i64 0), (.int .i64 0), (.int .i64 0), (.int .i64 0), (.int .i64 0), (.int .i64 0), (.int .i32 0), (.int .i32 0), (.int .i32 0), (.int .i32 0), (.int .i64 0), (.int .i64 0), (.int .i64 0), (.int .i64 0)] (.tmp 15) (.tmp 17), none⟩ (.one false 12 [] ⟨(some 20), .slc 16 (.tmp 18) none (some (.tmp 19)), none⟩ (.one false 13 [] ⟨(some 21), .fa 1 (.tmp 1), none⟩ (.one false 14 [] ⟨none, .st1 (.tmp 21) (.tmp 20), none⟩ .nil))))))))
 (.one false 9 [0, 1, 3, 4, 5, 6, 11] ⟨(some 17), .bslice 30 1 [(.int .i64 0), (.int .i64 0), (.int .i64 0), (.int .i64 0), (.int .i64 0), (.int .i64 0), (.int .i64 0), (.int .i64 0), (.int .i32 0), (.int .i32 0), (.int .i32 0), (.int .i32 0), (.int .i64 0), (.int .i64 0), (.int .i64 0), (.int .i64 0)] [(0, 16, (.tmp 16))], none⟩ (.one false 2 [3, 4, 5, 6, 11] ⟨(some 10), .mks 30 112 [(.int .i64 0), (.int .i64 0), (.int .i64 0), (.int .i64 0), (.int .i64 0), (.int .i64 0), (.int .i64 0), (.int .i64 0), (.int .i32 0), (.int .i32 0), (.int .i32 0), (.int .i32 0), (.int .i64 0), (.int .i64 0), (.int .i64 0), (.int .i64 0)] (.const (.int .i64 0)) (.tmp 9), none⟩ (.one false 7 [11] ⟨(some 15), .app 30 16 112 [(.int .i64 0), (.int .i64 0), (.int .i64 0), (.int .i64 0), (.int .i64 0), (.int .i64 0), (.int .i64 0), (.int .i64 0), (.int .i32 0), (.int .i32 0), (.int .i32 0), (.int .i32 0), (.int .i64 0), (.int .i64 0), (.int .i64 0), (.int .i64 0)] (.tmp 10) (.tmp 14), none⟩ (.one false 10 [11] ⟨(some 18), .app 30 16 112 [(.int .i64 0), (.int .i64 0), (.int .i64 0), (.int .i64 0), (.int .i64 0), (.int .i64 0), (.int .i64 0), (.int .i64 0), (.int .i32 0), (.int .i32 0), (.int .i32 0), (.int .i32 0), (.int .i64 0), (.int .i64 0), (.int .i64 0), (.int .i64 0)] (.tmp 15) (.tmp 17), none⟩ (.one false 12 [] ⟨(some 20), .slc 16 (.tmp 18) none (some (.tmp 19)), none⟩ (.one false 13 [] ⟨(some 21), .fa 1 (.tmp 1), none⟩ (.one false 14 [] ⟨none, .st1 (.tmp 21) (.tmp 20), none⟩ .nil)))))))))))))))))
 (.seq (.reg [⟨(some 22), .ldn 6 (.tmp 1), none⟩,
 ⟨none, .stn 6 (.tmp 2) (.tmp 22), none⟩])
 (.ret))))
theorem k14 : fnOk Try.prog 14 = some (M14, [.cn 6 2], 23) := by kernel_rfl
/- paintboxlaw16 copied -/
def M17 : MC :=
  .seq (.reg [⟨(some 1), .box 34 (.tmp 0), none⟩,
 ⟨(some 2), .alloc 34 [(.int .i64 0), (.slice none 0 0), (.int .i64 0), (.int .i64 0), (.int .i64 0), (.int .i64 0)], none⟩])
 (.seq (.reg [⟨(some 3), .bslice 30 0 [] [], none⟩,
 ⟨(some 4), .fa 1 (.tmp 1), none⟩,
 ⟨(some 5), .ld1 (.tmp 4), none⟩,
 ⟨(some 6), .app 30 16 112 [(.int .i64 0), (.int .i64 0), (.int .i64 0), (.int .i64 0), (.int .i64 0), (.int .i64 0), (.int .i64 0), (.int .i64 0), (.int .i32 0), (.int .i32 0), (.int .i32 0), (.int .i32 0), (.int .i64 0), (.int .i64 0), (.int .i64 0), (.int .i64 0)] (.tmp 3) (.tmp 5), none⟩,
 ⟨(some 7), .fa 1 (.tmp 1), none⟩,
 ⟨none, .st1 (.tmp 7) (.tmp 6), none⟩])
 (.seq (.reg [⟨(some 8), .ldn 6 (.tmp 1), none⟩,
 ⟨none, .stn 6 (.tmp 2) (.tmp 8), none⟩])
 (.ret)))
theorem k17 : fnOk Try.prog 17 = some (M17, [.cn 6 2], 9) := by kernel_rfl

theorem c_few (c : Cd) (hc : CdAt w0 H c) (h : ∀ b G, FewAt w0 H G c b → K (c.few b).v G) : HCalls Try.prog w0 14 [c.v] H K := by
  obtain ⟨st, adr, cap, is, rg, ab, un, va⟩ := c
  have hm := hc.lm
  have hcp := hc.lc
  have eT : is.take (is.take 4097).length = is.take 4097 := by
    rw [List.length_take]
    rcases Nat.le_total 4097 is.length with h' | h'
    · rw [Nat.min_eq_left h']
    · rw [Nat.min_eq_right h', List.take_length, List.take_of_length_le h']
  have hS : ∀ G, Grow w0 H G → srd w0 G adr ((is.take 4097).length * 16) = some (rowsC (is.take 4097)) := fun G g => by
    have := (slTake (hc.at_.grow g) ((is.take 4097).length * 16)).srd
    rw [show (({ st := st, adr := adr, cap := cap, is := is, rg := rg, ab := ab, un := un, va := va } : Cd).is.map Ins.row).flatten = rowsC is from rfl, rowsC_take, eT, rowsC_len] at this
    exact this
  have hL := rowsC_len (is.take 4097)
  have hO := rowsC_one (is.take 4097)
  unfold maxLen at hm
  simp only at hm hcp
  obtain ⟨len, el⟩ : ∃ l, is.length = l := ⟨_, rfl⟩
  have hlen : (is.take 4097).length = min 4097 len := by rw [List.length_take, el]
  unfold Cd.v
  simp only [el]
  rw [el] at hm hcp
  have h' : ∀ b G, FewAt w0 H G ⟨st, adr, cap, is, rg, ab, un, va⟩ b → HL.Fin K (.agg #[.int .i64 st, .slice (some ⟨b, 0, none⟩) (is.take 4097).length ((is.take 4097).length + 2), .int .i64 rg, .int .i64 ab, .int .i64 un, .int .i64 va]) G := fun b G hf => Fin_mk (Heap.Le.refl _) (h b G hf)
  have hF : ∀ b G z, Grow w0 H G → w0.heap.size ≤ b → H b = none → G b = some ⟨.t 30, rowsC (is.take 4097) ++ i77.row ++ z⟩ → HL.Fin K (.agg #[.int .i64 st, .slice (some ⟨b, 0, none⟩) (is.take 4097).length ((is.take 4097).length + 2), .int .i64 rg, .int .i64 ab, .int .i64 un, .int .i64 va]) G :=
    fun b G z g h1 h2 h3 => h' b G ⟨g, h1, h2, z, by rw [h3, List.append_assoc]⟩
  clear h' h hc
  generalize rowsC (is.take 4097) = R at hS hL hO hF
  generalize (is.take 4097).length = n at hS hL hO hF hlen
  have e1 : (if (4097 : Int) < (len : Int) then (4097 : Int) else (len : Int)) = n := by split <;> omega
  have e2 : IntKind.i64.wrap ((n : Int) + 2) = (n : Int) + 2 := Bw.1 _ (by omega) (by omega)
  have e3 : ((n : Int) + 2).toNat = n + 2 := by omega
  clear el
  have e4 : (n : Int) ≤ (cap : Int) := by omega
  have e7 : (n : Int) ≤ ((n + 2 : Nat) : Int) := by omega
  have e5 : n ≤ 4097 := by omega
  have e6 : n + 2 ≤ 4099 := by omega
  clear hlen hcp hm eT
  have hz1 : R.length ≤ (zeroL i0.row (n + 2)).length := by rw [zeroL_len, hL, show i0.row.length = 16 from rfl]; omega
  have hz2 : i77.row.length ≤ ((zeroL i0.row (n + 2)).drop R.length).length := by rw [List.length_drop, zeroL_len, hL, show i0.row.length = 16 from rfl, show i77.row.length = 16 from rfl]; omega
  replace hz1 : Keep _ := hz1
  replace hz2 : Keep _ := hz2
  replace hS : Keep _ := hS
  replace hF : Keep _ := hF
  replace hL : Keep _ := hL
  replace hO : Keep _ := hO
  rcases adr with _ | ⟨ba, oa, _ | sa⟩
  all_goals
    refine HL.hc k14 999 ?_; unfold M14
    (all_goals (try simp only [Sq,Sr,Sh,Si,Sl,Bu,Bb,Bd,Bc,Bw,Bn,Int.reduceAdd,Int.reduceSub,Int.reduceMul,Int.reduceTDiv,Int.reduceTMod,Int.reduceMod,Int.reduceDiv,Nat.reduceLT,Nat.reduceEqDiff,Sa,Sb,Sc,Sd,Se,Sf,Sg,Int.reduceLE,Int.reduceLT,Int.reduceToNat,Int.reduceNeg,Int.reduceEq,Nat.reduceLeDiff,Nat.reducePow,Int.reducePow,reduceIte,Nat.reduceSub,Nat.reduceAdd,Nat.reduceMul,putAt,ceq,List.replicate, *])); repeat' ((first | (with_reducible refine fun _ : True => ?_) | refine mks_i (by omega) (by omega) (by omega) (by omega) ?_ | refine app_fit (cs := []) (z := zeroL i0.row (n + 2)) (ns := R) (n := 0) (by simp only [Heap.set_same, set_ne, ne_eq, not_false_eq_true, *] <;> rfl) rfl ((show ∀ G, Grow w0 H G → srd w0 G _ _ = _ from hS) _ (by (repeat' (first | exact Grow.refl _ | assumption | (refine Grow_known (by first | (simp only [Heap.set_same, set_ne, ne_eq, not_false_eq_true, *] <;> rfl) | fail) ?_) | (refine Grow.set ?_ (by assumption) (by first | (simp only [*] <;> done) | (simp [set_none', Heap.set_same, set_ne, noneH, *] <;> done) | fail)) | (refine Grow.trans ?_ (by assumption)))))) (by omega) hz1 hO (by omega) ?_ | refine app_fit (cs := R) (z := (zeroL i0.row (n + 2)).drop R.length) (ns := i77.row) (n := n) (by simp only [Heap.set_same, set_ne, ne_eq, not_false_eq_true, *] <;> rfl) hL (srd_blk (by simp only [Heap.set_same, set_ne, ne_eq, not_false_eq_true, *] <;> rfl) rfl) (by omega) hz2 rfl (by omega) ?_ | (with_reducible refine any_h ?_) | ((first | refine AllocQ_i ?_ | refine AllocO_i ?_); intro bk hb0 hbk; (try simp only [set_none'] at hbk); (try (first | have hbn := Grow.none (by assumption) hbk | have hbn := Grow.none (by assumption) hbk.2 | have hbn := Grow.none (by assumption) hbk.2.2 | have hbn := Grow.none (by assumption) hbk.2.2.2 | have hbn := Grow.none (by assumption) hbk.2.2.2.2 | have hbn := Grow.none (by assumption) hbk.2.2.2.2.2)); (try simp only [set_none'] at hbn); (try (first | have hbm := Grow.none (by assumption) hbn | have hbm := Grow.none (by assumption) hbn.2 | have hbm := Grow.none (by assumption) hbn.2.2 | have hbm := Grow.none (by assumption) hbn.2.2.2 | have hbm := Grow.none (by assumption) hbn.2.2.2.2 | have hbm := Grow.none (by assumption) hbn.2.2.2.2.2)); (try simp only [set_none'] at hbm)) | ((first | refine condS_i ?_ ?_ | refine pick_i ?_ ?_ | refine gS_it ?_ ?_ | refine gS_if ?_ ?_ | refine gP_it ?_ ?_ | refine gP_if ?_ ?_) <;> (intro hc; try simp only [Int.reduceLE,Int.reduceLT,Int.reduceEq,Sn] at hc)) | (refine KP_i (by (repeat' (first | exact Heap.Le.refl _ | (with_reducible refine Le_set2 ?_) | (refine Le_known (by first | (simp only [Heap.set_same, set_ne, ne_eq, not_false_eq_true, *] <;> rfl) | fail) ?_) | (refine Le_fresh (by first | (simp only [*] <;> done) | (simp [set_none', Heap.set_same, set_ne, noneH, *] <;> done) | fail) ?_) | (refine Heap.Le.trans ?_ (Grow.le (by assumption))) | exact Le_none | (refine Le_put ?_ (by first | (simp only [Heap.set_same, set_ne, ne_eq, not_false_eq_true, *] <;> rfl) | fail)) | fail))) ?_) | (with_reducible refine And.intro ?_ ?_)) <;> (try simp only [Sq,Sr,Sh,Si,Sl,Bu,Bb,Bd,Bc,Bw,Bn,Int.reduceAdd,Int.reduceSub,Int.reduceMul,Int.reduceTDiv,Int.reduceTMod,Int.reduceMod,Int.reduceDiv,Nat.reduceLT,Nat.reduceEqDiff,Sa,Sb,Sc,Sd,Se,Sf,Sg,Int.reduceLE,Int.reduceLT,Int.reduceToNat,Int.reduceNeg,Int.reduceEq,Nat.reduceLeDiff,Nat.reducePow,Int.reducePow,reduceIte,Nat.reduceSub,Nat.reduceAdd,Nat.reduceMul,putAt,ceq,List.replicate, *]))
  all_goals exact (show ∀ (b : Nat) (G : Heap) (z : List Value), Grow w0 H G → w0.heap.size ≤ b → H b = none → G b = some _ → HL.Fin K (.agg _) G from hF) _ _ _ (by (repeat' (first | exact Grow.refl _ | assumption | (refine Grow_known (by first | (simp only [Heap.set_same, set_ne, ne_eq, not_false_eq_true, *] <;> rfl) | fail) ?_) | (refine Grow.set ?_ (by assumption) (by first | (simp only [*] <;> done) | (simp [set_none', Heap.set_same, set_ne, noneH, *] <;> done) | fail)) | (refine Grow.trans ?_ (by assumption))))) (by assumption) (by first | (simp only [*] <;> done) | (simp [set_none', Heap.set_same, set_ne, noneH, *] <;> done) | fail) (by simp only [Heap.set_same, set_ne, ne_eq, not_false_eq_true, *] <;> rfl)
theorem c_copied (c : Cd) (hc : CdAt w0 H c) (hb : c.is.length ≤ 4097) (h : ∀ a k G, Bld w0 H G a k 16 30 (rowsC c.is) → c.is.length ≤ k → Grow w0 H G → K ({ c with adr := a, cap := k } : Cd).v G) : HCalls Try.prog w0 17 [c.v] H K := by
  obtain ⟨st, adr, cap, is, rg, ab, un, va⟩ := c
  have hS := fun G (g : Grow w0 H G) => (hc.at_.grow g)
  have hL := rowsC_len is
  have hO := rowsC_one is
  unfold Cd.v at h ⊢
  simp only at hS hb h ⊢
  rw [show (is.map Ins.row).flatten = rowsC is from rfl] at hS
  generalize rowsC is = R at hS hL hO h
  generalize is.length = n at hS hL hO h hb
  replace hS : Keep _ := hS
  replace hL : Keep _ := hL
  replace hO : Keep _ := hO
  replace h : ∀ a k G, Bld w0 H G a k 16 30 R → n ≤ k → Grow w0 H G → HL.Fin K (.agg #[.int .i64 st, .slice a n k, .int .i64 rg, .int .i64 ab, .int .i64 un, .int .i64 va]) G := fun a k G h1 h2 h3 => Fin_mk (Heap.Le.refl _) (h a k G h1 h2 h3)
  replace h : Keep _ := h
  clear hc
  refine HL.hc k17 999 ?_; unfold M17
  (all_goals (try simp only [Sq,Sr,Sh,Si,Sl,Bu,Bb,Bd,Bc,Bw,Bn,Int.reduceAdd,Int.reduceSub,Int.reduceMul,Int.reduceTDiv,Int.reduceTMod,Int.reduceMod,Int.reduceDiv,Nat.reduceLT,Nat.reduceEqDiff,Sa,Sb,Sc,Sd,Se,Sf,Sg,Int.reduceLE,Int.reduceLT,Int.reduceToNat,Int.reduceNeg,Int.reduceEq,Nat.reduceLeDiff,Nat.reducePow,Int.reducePow,reduceIte,Nat.reduceSub,Nat.reduceAdd,Nat.reduceMul,putAt,ceq,List.replicate, *])); repeat' ((first | (with_reducible refine fun _ : True => ?_) | refine app_copy (cs := R) ((show ∀ G, Grow w0 H G → SlAt w0 G adr R from hS) _ (by (repeat' (first | exact Grow.refl _ | assumption | (refine Grow_known (by first | (simp only [Heap.set_same, set_ne, ne_eq, not_false_eq_true, *] <;> rfl) | fail) ?_) | (refine Grow.set ?_ (by assumption) (by first | (simp only [*] <;> done) | (simp [set_none', Heap.set_same, set_ne, noneH, *] <;> done) | fail)) | (refine Grow.trans ?_ (by assumption)))))) hL rfl (by omega) hO (fun a k G hB hk hg => ?_)  | (with_reducible refine any_h ?_) | ((first | refine AllocQ_i ?_ | refine AllocO_i ?_); intro bk hb0 hbk; (try simp only [set_none'] at hbk); (try (first | have hbn := Grow.none (by assumption) hbk | have hbn := Grow.none (by assumption) hbk.2 | have hbn := Grow.none (by assumption) hbk.2.2 | have hbn := Grow.none (by assumption) hbk.2.2.2 | have hbn := Grow.none (by assumption) hbk.2.2.2.2 | have hbn := Grow.none (by assumption) hbk.2.2.2.2.2)); (try simp only [set_none'] at hbn); (try (first | have hbm := Grow.none (by assumption) hbn | have hbm := Grow.none (by assumption) hbn.2 | have hbm := Grow.none (by assumption) hbn.2.2 | have hbm := Grow.none (by assumption) hbn.2.2.2 | have hbm := Grow.none (by assumption) hbn.2.2.2.2 | have hbm := Grow.none (by assumption) hbn.2.2.2.2.2)); (try simp only [set_none'] at hbm)) | ((first | refine condS_i ?_ ?_ | refine pick_i ?_ ?_ | refine gS_it ?_ ?_ | refine gS_if ?_ ?_ | refine gP_it ?_ ?_ | refine gP_if ?_ ?_) <;> (intro hc; try simp only [Int.reduceLE,Int.reduceLT,Int.reduceEq,Sn] at hc)) | (refine KP_i (by (repeat' (first | exact Heap.Le.refl _ | (with_reducible refine Le_set2 ?_) | (refine Le_known (by first | (simp only [Heap.set_same, set_ne, ne_eq, not_false_eq_true, *] <;> rfl) | fail) ?_) | (refine Le_fresh (by first | (simp only [*] <;> done) | (simp [set_none', Heap.set_same, set_ne, noneH, *] <;> done) | fail) ?_) | (refine Heap.Le.trans ?_ (Grow.le (by assumption))) | exact Le_none | (refine Le_put ?_ (by first | (simp only [Heap.set_same, set_ne, ne_eq, not_false_eq_true, *] <;> rfl) | fail)) | fail))) ?_) | (with_reducible refine And.intro ?_ ?_)) <;> (try simp only [Sq,Sr,Sh,Si,Sl,Bu,Bb,Bd,Bc,Bw,Bn,Int.reduceAdd,Int.reduceSub,Int.reduceMul,Int.reduceTDiv,Int.reduceTMod,Int.reduceMod,Int.reduceDiv,Nat.reduceLT,Nat.reduceEqDiff,Sa,Sb,Sc,Sd,Se,Sf,Sg,Int.reduceLE,Int.reduceLT,Int.reduceToNat,Int.reduceNeg,Int.reduceEq,Nat.reduceLeDiff,Nat.reducePow,Int.reducePow,reduceIte,Nat.reduceSub,Nat.reduceAdd,Nat.reduceMul,putAt,ceq,List.replicate, *]))
  rename_i b1 hb1 hn1 b2 hb2 hn2
  have g0 : Grow w0 H G := Grow.trans (by (repeat' (first | exact Grow.refl _ | assumption | (refine Grow.set ?_ (by assumption) (by first | exact (by simp only [*]) | exact (by simp [set_none', *]) | exact Grow.none (by assumption) (by simp [set_none', *]))) | (refine Grow.trans ?_ (by assumption))))) hg
  have hB1 : Bld w0 H G a k 16 30 R := hB.base (by (repeat' (first | exact Grow.refl _ | assumption | (refine Grow.set ?_ (by assumption) (by first | exact (by simp only [*]) | exact (by simp [set_none', *]) | exact Grow.none (by assumption) (by simp [set_none', *]))) | (refine Grow.trans ?_ (by assumption)))))
  have k1 : G b1 = some _ := hg.some (by simp only [Heap.set_same, set_ne, ne_eq, not_false_eq_true, *] <;> rfl)
  have k2 : G b2 = some _ := hg.some (by simp only [Heap.set_same, set_ne, ne_eq, not_false_eq_true, *] <;> rfl)
  have hG := root2 hn2.1.2 k1 k2
  clear hg hB
  replace h := (show ∀ (a : Option Addr) (k : Nat) (G : Heap), Bld w0 H G a k 16 30 R → n ≤ k → Grow w0 H G → HL.Fin K (.agg _) G from h) a k
  have t1 := fun x => Bld.turn (x := ⟨.t 34, x⟩) hB1 k1 (fun e => by cases e)
  have t2 := fun x y => Bld.turn (x := ⟨.t 34, y⟩) (b := b2) (t1 x) (by rw [Heap.set_other _ _ hn2.1.1]; exact k2) (fun e => by cases e)
  replace k1 : Keep _ := k1
  replace k2 : Keep _ := k2
  replace t2 : Keep _ := t2
  replace h : Keep _ := h
  clear t1
  rw [hG]
  clear hG
  (all_goals (try simp only [Sq,Sr,Sh,Si,Sl,Bu,Bb,Bd,Bc,Bw,Bn,Int.reduceAdd,Int.reduceSub,Int.reduceMul,Int.reduceTDiv,Int.reduceTMod,Int.reduceMod,Int.reduceDiv,Nat.reduceLT,Nat.reduceEqDiff,Sa,Sb,Sc,Sd,Se,Sf,Sg,Int.reduceLE,Int.reduceLT,Int.reduceToNat,Int.reduceNeg,Int.reduceEq,Nat.reduceLeDiff,Nat.reducePow,Int.reducePow,reduceIte,Nat.reduceSub,Nat.reduceAdd,Nat.reduceMul,putAt,ceq,List.replicate, *])); repeat' ((first | (with_reducible refine fun _ : True => ?_) | (with_reducible refine any_h ?_) | ((first | refine AllocQ_i ?_ | refine AllocO_i ?_); intro bk hb0 hbk; (try simp only [set_none'] at hbk); (try (first | have hbn := Grow.none (by assumption) hbk | have hbn := Grow.none (by assumption) hbk.2 | have hbn := Grow.none (by assumption) hbk.2.2 | have hbn := Grow.none (by assumption) hbk.2.2.2 | have hbn := Grow.none (by assumption) hbk.2.2.2.2 | have hbn := Grow.none (by assumption) hbk.2.2.2.2.2)); (try simp only [set_none'] at hbn); (try (first | have hbm := Grow.none (by assumption) hbn | have hbm := Grow.none (by assumption) hbn.2 | have hbm := Grow.none (by assumption) hbn.2.2 | have hbm := Grow.none (by assumption) hbn.2.2.2 | have hbm := Grow.none (by assumption) hbn.2.2.2.2 | have hbm := Grow.none (by assumption) hbn.2.2.2.2.2)); (try simp only [set_none'] at hbm)) | ((first | refine condS_i ?_ ?_ | refine pick_i ?_ ?_ | refine gS_it ?_ ?_ | refine gS_if ?_ ?_ | refine gP_it ?_ ?_ | refine gP_if ?_ ?_) <;> (intro hc; try simp only [Int.reduceLE,Int.reduceLT,Int.reduceEq,Sn] at hc)) | (refine KP_i (by (repeat' (first | exact Heap.Le.refl _ | (with_reducible refine Le_set2 ?_) | (refine Le_known (by first | (simp only [Heap.set_same, set_ne, ne_eq, not_false_eq_true, *] <;> rfl) | fail) ?_) | (refine Le_fresh (by first | (simp only [*] <;> done) | (simp [set_none', Heap.set_same, set_ne, noneH, *] <;> done) | fail) ?_) | (refine Heap.Le.trans ?_ (Grow.le (by assumption))) | exact Le_none | (refine Le_put ?_ (by first | (simp only [Heap.set_same, set_ne, ne_eq, not_false_eq_true, *] <;> rfl) | fail)) | fail))) ?_) | (with_reducible refine And.intro ?_ ?_)) <;> (try simp only [Sq,Sr,Sh,Si,Sl,Bu,Bb,Bd,Bc,Bw,Bn,Int.reduceAdd,Int.reduceSub,Int.reduceMul,Int.reduceTDiv,Int.reduceTMod,Int.reduceMod,Int.reduceDiv,Nat.reduceLT,Nat.reduceEqDiff,Sa,Sb,Sc,Sd,Se,Sf,Sg,Int.reduceLE,Int.reduceLT,Int.reduceToNat,Int.reduceNeg,Int.reduceEq,Nat.reduceLeDiff,Nat.reducePow,Int.reducePow,reduceIte,Nat.reduceSub,Nat.reduceAdd,Nat.reduceMul,putAt,ceq,List.replicate, *]))
  exact (show ∀ G, _ → _ → Grow w0 H G → _ from h) _ ((show ∀ x y, _ from t2) _ _) hk (by (repeat' (first | exact Grow.refl _ | assumption | (refine Grow_known (by first | (simp only [Heap.set_same, set_ne, ne_eq, not_false_eq_true, *] <;> rfl) | fail) ?_) | (refine Grow.set ?_ (by assumption) (by first | (simp only [*] <;> done) | (simp [set_none', Heap.set_same, set_ne, noneH, *] <;> done) | fail)) | (refine Grow.trans ?_ (by assumption)))))
end Go.Proofs.Ytndgmnmnpfblmaa
