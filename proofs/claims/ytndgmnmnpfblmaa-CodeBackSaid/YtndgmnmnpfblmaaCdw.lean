/- What is encoded is what is decoded, and the other way round: of numbers and bytes, no program in sight (layer 16). -/
import Derived.Test.YtndgmnmnpfblmaaCdm
import Derived.Test.YtndgmnmnpfblmaaCdq
set_option linter.unusedSimpArgs false
set_option linter.unusedVariables false
set_option maxRecDepth 100000
set_option maxHeartbeats 4000000
namespace Go.Proofs.Ytndgmnmnpfblmaa
open Go.HL Go.RowKit Pb

theorem args_pos {fn bs : Int} (h : 0 < args fn bs) : (1 ≤ fn ∧ fn ≤ 35) ∧ (1 ≤ bs ∧ bs ≤ 3) := by
  unfold args at h
  (repeat' split at h) <;> omega
/-- The numbers of an instruction that may be are small. -/
structure Small (i : Ins) : Prop where
  op : 0 ≤ i.op ∧ i.op < 4294967296
  fn : 0 ≤ i.fn ∧ i.fn < 4294967296
  bs : 0 ≤ i.bs ∧ i.bs < 4294967296
  n : 0 ≤ i.n ∧ i.n < 4294967296
  dst : 0 ≤ i.dst ∧ i.dst < 4294967296
  a : 0 ≤ i.a ∧ i.a < 4294967296
  b : 0 ≤ i.b ∧ i.b < 4294967296
  c : 0 ≤ i.c ∧ i.c < 4294967296
  p0 : 0 ≤ i.p0 ∧ i.p0 < 4294967296
  p1 : 0 ≤ i.p1 ∧ i.p1 < 4294967296
  p2 : 0 ≤ i.p2 ∧ i.p2 < 4294967296
  p3 : 0 ≤ i.p3 ∧ i.p3 < 4294967296
theorem okI_small {c : Cd} {k : Nat} {i : Ins} (h : okI c k i) (hl : c.is.length ≤ 4096) (hr : c.rg < 1025) (ha : c.ab < 9) (hu : c.un < 33) (hv : c.va < 5) : Small i := by
  obtain ⟨h1, h2, h3⟩ := h
  obtain ⟨op, fn, bs, n, dst, a, b, cc, m0, m1, m2, m3, p0, p1, p2, p3⟩ := i
  have hop : op = 1 ∨ op = 2 ∨ op = 3 ∨ op = 4 ∨ op = 5 ∨ op = 6 ∨ op = 7 ∨ op = 8 ∨ op = 9 ∨ op = 10 ∨ op = 11 ∨ op = 12 := by
    by_cases e : op = 1 ∨ op = 2 ∨ op = 3 ∨ op = 4 ∨ op = 5 ∨ op = 6 ∨ op = 7 ∨ op = 8 ∨ op = 9 ∨ op = 10 ∨ op = 11 ∨ op = 12
    · exact e
    · exfalso
      unfold legalB at h1
      simp only at h1
      rw [if_neg (by omega), if_neg (by omega), if_neg (by omega), if_neg (by omega), if_neg (by omega), if_neg (by omega), if_neg (by omega), if_neg (by omega)] at h1
      cases h1
  have hR : ∀ r, r ∈ regsL ⟨op, fn, bs, n, dst, a, b, cc, m0, m1, m2, m3, p0, p1, p2, p3⟩ → 0 ≤ r ∧ r < 1025 := fun r hr' => by
    have := h3 r hr'
    unfold below at this
    simp only [Bool.and_eq_true, decide_eq_true_eq] at this
    omega
  unfold regsL wrt reads at hR
  unfold keepI at h2
  unfold legalB at h1
  simp only at h1 h2 hR
  clear h3
  rcases hop with rfl | rfl | rfl | rfl | rfl | rfl | rfl | rfl | rfl | rfl | rfl | rfl
  all_goals simp only [Int.reduceEq, or_true, true_or, or_false, false_or, or_self, decide_true, decide_false, if_true, if_false, Bool.false_eq_true, Ins.mk.injEq, true_and, and_true, and_self, List.mem_cons, List.not_mem_nil, forall_eq_or_imp, forall_eq, reduceIte, false_implies, implies_true] at h1 h2 hR
  case inr.inr.inr.inr.inl =>
    simp only [sized, Bool.and_eq_true, decide_eq_true_eq] at h1
    have hp := args_pos h1.1
    have hle := args_le fn bs
    obtain ⟨hd, hR⟩ := hR
    rcases (show args fn bs = 1 ∨ args fn bs = 2 ∨ args fn bs = 3 by omega) with e | e | e
    all_goals
      rw [e] at h2 hR
      simp only [Int.reduceLE, if_true, if_false, Int.reduceToNat, List.take_succ_cons, List.take_zero, List.mem_cons, List.not_mem_nil, or_false, forall_eq_or_imp, forall_eq, true_and, reduceIte] at h2 hR
      constructor <;> simp only <;> omega
  all_goals try simp only [spreadB, okK, Ins.pl, List.getD_cons_zero, List.getD_cons_succ] at h1
  all_goals (repeat' split at h1)
  all_goals try simp only [below, sized, isBase, Bool.and_eq_true, decide_eq_true_eq, List.getD_cons_zero, List.getD_cons_succ] at h1
  all_goals first
    | exact absurd h1 Bool.false_ne_true
    | (constructor <;> simp only <;> omega)

theorem low4_num {x : Int} (h : 0 ≤ x ∧ x < 4294967296) : numL (low4 x) = x := by
  unfold low4 numL numL numL numL numL
  omega
theorem wrap_i32 (x : Int) : ∃ k : Int, IntKind.i32.wrap x = x + 4294967296 * k ∧ -2147483648 ≤ IntKind.i32.wrap x ∧ IntKind.i32.wrap x < 2147483648 := by
  refine ⟨(IntKind.i32.wrap x - x) / 4294967296, ?_⟩
  have e : IntKind.i32.wrap x = if 2147483648 ≤ x % 4294967296 then x % 4294967296 - 4294967296 else x % 4294967296 := by simp [IntKind.wrap, IntKind.signed, IntKind.bits]
  rw [e]
  split <;> omega
theorem low4_add (x k : Int) : low4 (x + 4294967296 * k) = low4 x := by
  unfold low4
  simp only [List.cons.injEq, and_true]
  omega
theorem low4_s32 (x : Int) : low4 (s32 x) = low4 x := by
  unfold s32
  obtain ⟨k, e, -⟩ := wrap_i32 (IntKind.u32.wrap x)
  rw [e, low4_add, low4_wrap]
theorem num_s32 {x : Int} (h : I32 x) : s32 (numL (low4 x)) = x := by
  obtain ⟨k, e, h1, h2⟩ := wrap_i32 (IntKind.u32.wrap (numL (low4 x)))
  have h3 : I32 x := h
  unfold I32 at h3
  unfold s32
  have e2 : IntKind.u32.wrap (numL (low4 x)) = x % 4294967296 := by
    rw [show IntKind.u32.wrap (numL (low4 x)) = (numL (low4 x)) % 4294967296 by simp [IntKind.wrap, IntKind.signed, IntKind.bits]]
    unfold low4 numL numL numL numL numL
    omega
  rw [e2] at e h1 h2 ⊢
  omega
theorem low4_bytes {a b c d : Int} (ha : 0 ≤ a ∧ a < 256) (hb : 0 ≤ b ∧ b < 256) (hc : 0 ≤ c ∧ c < 256) (hd : 0 ≤ d ∧ d < 256) : low4 (numL [a, b, c, d]) = [a, b, c, d] := by
  unfold low4 numL numL numL numL numL
  simp only [List.cons.injEq, and_true]
  omega
/-- The number at a place of bytes that stand for numbers. -/
theorem numA_bytes : ∀ (l : List Int) (j : Nat) (x : Int), l[j]? = some x → numA (bytesL l) (4 * j) = numL (low4 x)
  | [], j, x, h => by simp at h
  | y :: l, 0, x, h => by
    simp at h
    subst h
    unfold numA bytesL
    rw [List.map_cons, List.flatten_cons, Nat.mul_zero, List.drop_zero, List.take_append_of_le_length (by simp [low4])]
    rfl
  | y :: l, j + 1, x, h => by
    have ih := numA_bytes l j x (by simpa using h)
    unfold numA bytesL at ih ⊢
    rw [List.map_cons, List.flatten_cons, show 4 * (j + 1) = (low4 y).length + 4 * j by simp [low4]; omega, List.drop_append, List.drop_of_length_le (by omega), List.nil_append, show (low4 y).length + 4 * j - (low4 y).length = 4 * j by omega]
    exact ih
/-- Bytes are the bytes of their numbers. -/
theorem bytes_num : ∀ (n : Nat) (l : List Int), l.length = 4 * n → (∀ x ∈ l, 0 ≤ x ∧ x < 256) → bytesL ((List.range n).map fun j => numA l (4 * j)) = l
  | 0, l, hl, _ => by
    have : l = [] := List.length_eq_zero_iff.1 (by omega)
    subst this; rfl
  | n + 1, a :: b :: c :: d :: l, hl, h => by
    have ih := bytes_num n l (by simp at hl; omega) fun x hx => h x (by simp [hx])
    rw [List.range_succ_eq_map, List.map_cons, List.map_map]
    unfold bytesL at ih ⊢
    rw [List.map_cons, List.flatten_cons]
    rw [show numA (a :: b :: c :: d :: l) (4 * 0) = numL [a, b, c, d] from rfl, low4_bytes (h a (by simp)) (h b (by simp)) (h c (by simp)) (h d (by simp))]
    rw [show ((fun j => numA (a :: b :: c :: d :: l) (4 * j)) ∘ Nat.succ) = fun j => numA l (4 * j) from funext fun j => by
      unfold numA
      simp only [Function.comp, Nat.mul_succ]
      rfl]
    rw [ih]; rfl
  | n + 1, [], hl, _ => by simp at hl
  | n + 1, [_], hl, _ => by simp at hl; omega
  | n + 1, [_, _], hl, _ => by simp at hl; omega
  | n + 1, [_, _, _], hl, _ => by simp at hl; omega

theorem nums_get (l : List Ins) : ∀ (k : Nat) (i : Ins), l[k]? = some i → ∀ j, j < 16 → ((l.map Ins.nums).flatten)[16 * k + j]? = i.nums[j]? := by
  induction l with
  | nil => intro k i h; simp at h
  | cons y l ih =>
    intro k i h j hj
    rw [List.map_cons, List.flatten_cons]
    cases k with
    | zero =>
      simp at h
      subst h
      rw [Nat.mul_zero, Nat.zero_add, List.getElem?_append_left (by simp [Ins.nums]; omega)]
    | succ k =>
      rw [List.getElem?_append_right (by simp [Ins.nums]; omega), show 16 * (k + 1) + j - y.nums.length = 16 * k + j by simp [Ins.nums]; omega]
      exact ih k i (by simpa using h) j hj
theorem hd_len (c : Cd) : c.hd.length = 7 := rfl
theorem all_nums_len (c : Cd) : c.nums.length = 7 + 16 * c.is.length := by
  unfold Cd.nums; rw [List.length_append, nums_len, hd_len]
theorem bytes_len (c : Cd) : c.bytes.length = 28 + 64 * c.is.length := by
  unfold Cd.bytes; rw [bytesL_len, all_nums_len]; omega
theorem num_hd (c : Cd) (j : Nat) (x : Int) (h : c.hd[j]? = some x) : numA c.bytes (4 * j) = numL (low4 x) := by
  have hj : j < 7 := by have := (List.getElem?_eq_some_iff.1 h).1; simpa [hd_len] using this
  exact numA_bytes c.nums j x (by unfold Cd.nums; rw [List.getElem?_append_left (by rw [hd_len]; exact hj)]; exact h)
theorem num_in (c : Cd) (k : Nat) (i : Ins) (hi : c.is[k]? = some i) (j : Nat) (x : Int) (h : i.nums[j]? = some x) : numA c.bytes (28 + 64 * k + 4 * j) = numL (low4 x) := by
  have hj : j < 16 := by have := (List.getElem?_eq_some_iff.1 h).1; simpa [Ins.nums] using this
  rw [show 28 + 64 * k + 4 * j = 4 * (7 + (16 * k + j)) by omega]
  exact numA_bytes c.nums _ x (by unfold Cd.nums; rw [List.getElem?_append_right (by rw [hd_len]; omega), hd_len, show 7 + (16 * k + j) - 7 = 16 * k + j by omega, nums_get _ k i hi j hj]; exact h)
theorem insA_in {c : Cd} {k : Nat} {i : Ins} (hi : c.is[k]? = some i) (hs : Small i) (hw : InsW i) : insA c.bytes (28 + 64 * k) = i := by
  have h := fun j x => num_in c k i hi j x
  obtain ⟨w0, w1, w2, w3⟩ := hw
  unfold insA
  rw [show 28 + 64 * k = 28 + 64 * k + 4 * 0 by omega, h 0 i.op rfl, h 1 i.fn rfl, h 2 i.bs rfl, h 3 i.n rfl, h 4 i.dst rfl, h 5 i.a rfl, h 6 i.b rfl, h 7 i.c rfl, h 8 i.m0 rfl, h 9 i.m1 rfl, h 10 i.m2 rfl, h 11 i.m3 rfl, h 12 i.p0 rfl, h 13 i.p1 rfl, h 14 i.p2 rfl, h 15 i.p3 rfl]
  rw [low4_num hs.op, low4_num hs.fn, low4_num hs.bs, low4_num hs.n, low4_num hs.dst, low4_num hs.a, low4_num hs.b, low4_num hs.c, num_s32 w0, num_s32 w1, num_s32 w2, num_s32 w3, low4_num hs.p0, low4_num hs.p1, low4_num hs.p2, low4_num hs.p3]
theorem mayP_small {c : Cd} (h : mayP c) : ∀ i ∈ c.is, Small i := fun i hi => by
  obtain ⟨h1, h2, h3, h4, h5, h6, h7⟩ := h
  obtain ⟨k, hk⟩ := List.mem_iff_getElem?.1 hi
  unfold below at h3 h4 h5 h6
  simp only [decide_eq_true_eq] at h3 h4 h5 h6
  exact okI_small (h7 k i hk) h2 h3.2 (by have := h4.2; split at this <;> omega) h5.2 h6.2
theorem dec_bytes {c : Cd} (h : mayP c) (hw : ∀ i ∈ c.is, InsW i) : ∀ a k, ({ decC c.bytes with adr := a, cap := k } : Cd) = { c with adr := a, cap := k } := fun a k => by
  have hs := mayP_small h
  obtain ⟨h1, h2, h3, h4, h5, h6, h7⟩ := h
  unfold below at h3 h4 h5 h6
  simp only [decide_eq_true_eq] at h3 h4 h5 h6
  have h4' := h4.2
  have q := fun j x => num_hd c j x
  have qn : numA c.bytes 24 = c.is.length := by rw [show 24 = 4 * 6 from rfl, q 6 _ rfl, low4_num (by omega)]
  have ei : decIs c.bytes (numA c.bytes 24).toNat = c.is := by
    rw [qn, Int.toNat_natCast]
    unfold decIs
    apply List.ext_getElem?
    intro k
    rcases Nat.lt_or_ge k c.is.length with hk | hk
    · rw [List.getElem?_map, List.getElem?_range hk, Option.map_some, List.getElem?_eq_getElem hk]
      rw [insA_in (List.getElem?_eq_getElem hk) (hs _ (List.getElem_mem _)) (hw _ (List.getElem_mem _))]
    · rw [List.getElem?_eq_none hk, List.getElem?_eq_none (by simpa using hk)]
  unfold decC
  rw [ei, show 4 = 4 * 1 from rfl, q 1 _ rfl, show 8 = 4 * 2 from rfl, q 2 _ rfl, show 12 = 4 * 3 from rfl, q 3 _ rfl, show 16 = 4 * 4 from rfl, q 4 _ rfl, show 20 = 4 * 5 from rfl, q 5 _ rfl]
  rw [low4_num (by omega), low4_num (by omega), low4_num (by split at h4' <;> omega), low4_num (by omega), low4_num (by omega)]
theorem may_adr {c : Cd} {a : Option Addr} {k : Nat} : mayP c ↔ mayP { c with adr := a, cap := k } := Iff.rfl
theorem hd_bytes {c : Cd} (h : mayP c) : okHd c.bytes := by
  have h2 := h.2.1
  have qn : numA c.bytes 24 = c.is.length := by rw [show 24 = 4 * 6 from rfl, num_hd c 6 _ rfl, low4_num (by omega)]
  refine ⟨by rw [bytes_len]; omega, ?_, by rw [qn]; omega, by rw [qn, bytes_len]; omega⟩
  rw [show 0 = 4 * 0 from rfl, num_hd c 0 _ rfl, low4_num (by omega)]
theorem may_bytes {c : Cd} (h : mayP c) (hw : ∀ i ∈ c.is, InsW i) : okHd c.bytes ∧ mayP (decC c.bytes) := ⟨hd_bytes h, by
  have := dec_bytes h hw none 0
  rw [show decC c.bytes = { decC c.bytes with adr := none, cap := 0 } from rfl, this]
  exact may_adr.1 h⟩

theorem numA_take {l : List Int} {k q : Nat} (h : q + 4 ≤ k) : numA (l.take k) q = numA l q := by
  unfold numA
  rw [List.drop_take, List.take_take, Nat.min_eq_left (by omega)]
theorem numA_app {l m : List Int} {q : Nat} (h : q + 4 ≤ l.length) : numA (l ++ m) q = numA l q := by
  unfold numA
  rw [List.drop_append_of_le_length (by omega), List.take_append_of_le_length (by rw [List.length_drop]; omega)]
theorem hd_take {l : List Int} {k : Nat} (h : okHd l) (hk : k < l.length) : ¬ okHd (l.take k) := by
  rintro ⟨h1, h2, h3, h4⟩
  obtain ⟨g1, g2, g3, g4⟩ := h
  rw [List.length_take] at h1 h4
  rw [numA_take (by omega)] at h4
  omega
theorem hd_snoc {l : List Int} (h : okHd l) : ¬ okHd (l ++ [0]) := by
  rintro ⟨h1, h2, h3, h4⟩
  obtain ⟨g1, g2, g3, g4⟩ := h
  rw [numA_app (by omega), List.length_append, List.length_singleton] at h4
  omega
theorem insA_nums (l : List Int) (q r : Nat) (h : r < 16) : ((insA l q).nums[r]?).map low4 = some (low4 (numA l (q + 4 * r))) := by
  rcases (show r = 0 ∨ r = 1 ∨ r = 2 ∨ r = 3 ∨ r = 4 ∨ r = 5 ∨ r = 6 ∨ r = 7 ∨ r = 8 ∨ r = 9 ∨ r = 10 ∨ r = 11 ∨ r = 12 ∨ r = 13 ∨ r = 14 ∨ r = 15 by omega) with rfl | rfl | rfl | rfl | rfl | rfl | rfl | rfl | rfl | rfl | rfl | rfl | rfl | rfl | rfl | rfl
  all_goals first
    | rfl
    | (unfold Ins.nums insA; simp only [List.getElem?_cons_succ, List.getElem?_cons_zero, Option.map_some, low4_s32])
theorem bytes_dec {l : List Int} (h : okHd l) (hw : ∀ x ∈ l, 0 ≤ x ∧ x < 256) : (decC l).bytes = l := by
  obtain ⟨h1, h2, h3, h4⟩ := h
  have hp : 0 ≤ numA l 24 := (numL_lt _ fun x hx => hw x (List.mem_of_mem_drop (List.mem_of_mem_take hx))).1
  obtain ⟨n, en⟩ : ∃ n : Nat, numA l 24 = n := ⟨(numA l 24).toNat, by omega⟩
  rw [en, Int.toNat_natCast] at h4
  have eis : (decC l).is = decIs l n := by unfold decC; rw [en]; rfl
  have elen : (decC l).is.length = n := by rw [eis]; unfold decIs; simp
  refine Eq.trans ?_ (bytes_num (7 + 16 * n) l (by omega) hw)
  unfold Cd.bytes bytesL
  congr 1
  apply List.ext_getElem?
  intro j
  rcases Nat.lt_or_ge j (7 + 16 * n) with hj | hj
  · rw [List.getElem?_map, List.getElem?_map, List.getElem?_map, List.getElem?_range hj]
    simp only [Option.map_some]
    unfold Cd.nums
    rcases Nat.lt_or_ge j 7 with hj7 | hj7
    · rw [List.getElem?_append_left (by rw [hd_len]; exact hj7)]
      unfold Cd.hd
      rw [elen]
      rcases (show j = 0 ∨ j = 1 ∨ j = 2 ∨ j = 3 ∨ j = 4 ∨ j = 5 ∨ j = 6 by omega) with rfl | rfl | rfl | rfl | rfl | rfl | rfl
      · rw [show numA l (4 * 0) = 1128353872 from h2]; rfl
      · rfl
      · rfl
      · rfl
      · rfl
      · rfl
      · rw [show numA l (4 * 6) = n from en]; rfl
    · obtain ⟨k, r, hr, ej⟩ : ∃ k r, r < 16 ∧ j = 7 + (16 * k + r) := ⟨(j - 7) / 16, (j - 7) % 16, by omega, by omega⟩
      subst ej
      have hk : k < n := by omega
      have hi : (decC l).is[k]? = some (insA l (28 + 64 * k)) := by
        rw [eis]; unfold decIs; rw [List.getElem?_map, List.getElem?_range hk]; rfl
      rw [List.getElem?_append_right (by rw [hd_len]; omega), hd_len, show 7 + (16 * k + r) - 7 = 16 * k + r by omega, nums_get _ k _ hi r hr, insA_nums _ _ _ hr, show 28 + 64 * k + 4 * r = 4 * (7 + (16 * k + r)) by omega]
  · rw [List.getElem?_eq_none (by rw [List.length_map, all_nums_len, elen]; omega), List.getElem?_eq_none (by simpa using hj)]
end Go.Proofs.Ytndgmnmnpfblmaa
