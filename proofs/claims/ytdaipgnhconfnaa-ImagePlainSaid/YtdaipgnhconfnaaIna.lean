/- Which images are the same, by both; strings of bytes (layer 8). -/
import Derived.Test.YtdaipgnhconfnaaImd
import Derived.Test.YtdaipgnhconfnaaImq
import Derived.Test.YtdaipgnhconfnaaHlt
import Derived.Laws.BytesArg
import Derived.Laws.Strings
set_option linter.unusedSimpArgs false
set_option linter.unusedVariables false
set_option maxRecDepth 100000
set_option maxHeartbeats 4000000
namespace Go.Proofs.Ytdaipgnhconfnaa
open Go Go.HL Go.RowKit Pb
variable {w0 : World} {H : Heap} {K : Value → Heap → Prop}

theorem strOf_list (l : List Int) : (strOf l).toList = l.map fun n => UInt8.ofNat n.toNat := by
  unfold strOf
  rw [ByteArray.toList_eq, foldl_push_bytes]
  simp
theorem map_byte : ∀ {l l' : List Int}, (∀ b ∈ l, 0 ≤ b ∧ b ≤ 255) → (∀ b ∈ l', 0 ≤ b ∧ b ≤ 255) → (l.map fun n => UInt8.ofNat n.toNat) = (l'.map fun n => UInt8.ofNat n.toNat) → l = l'
  | [], [], _, _, _ => rfl
  | [], _ :: _, _, _, h => by simp at h
  | _ :: _, [], _, _, h => by simp at h
  | a :: l, b :: l', h1, h2, h => by
    simp only [List.map_cons, List.cons.injEq] at h
    have ha := h1 a (by simp)
    have hb := h2 b (by simp)
    have e := congrArg UInt8.toNat h.1
    rw [UInt8.toNat_ofNat', UInt8.toNat_ofNat'] at e
    have : a = b := by omega
    rw [this, map_byte (fun x hx => h1 x (by simp [hx])) (fun x hx => h2 x (by simp [hx])) h.2]
theorem strOf_beq {l l' : List Int} (h1 : ∀ b ∈ l, 0 ≤ b ∧ b ≤ 255) (h2 : ∀ b ∈ l', 0 ≤ b ∧ b ≤ 255) : ((strOf l).toList == (strOf l').toList) = decide (l = l') := by
  rw [strOf_list, strOf_list]
  by_cases e : l = l'
  · subst e; simp
  · rw [decide_eq_false e]
    simp only [beq_eq_false_iff_ne, ne_eq]
    exact fun h => e (map_byte h1 h2 h)
theorem bytesV_map : ∀ (l : List Int), bytesV (l.map (Value.int .u8)) = some l
  | [] => rfl
  | n :: l => by simp [bytesV, bytesV_map l]
theorem bstr_i {φ : Value → Prop} {a : Option Addr} {n c : Nat} (l : List Int) (hA : IntsAt w0 H .u8 a l) (hn : l.length = n) (h : φ (.string (strOf l))) : bstrQ w0 H φ (.slice a n c) := by
  subst hn
  unfold bstrQ
  by_cases hl : l.length = 0
  · obtain rfl := List.length_eq_zero_iff.1 hl
    simpa using h
  · simp only [if_neg hl]
    have hs := (SlAt.ints hA).srd
    rw [List.length_map] at hs
    unfold HL.srd at hs
    rw [if_neg hl] at hs
    split at hs
    · simp only [hs, optQ, bytesV_map]
      exact h
    · cases hs
/- bytes Equal -/
def M24 : MC :=
  .seq (.reg [⟨(some 4), .mv (.const (.bool false)), none⟩])
 (.seq (.reg [⟨(some 5), .mv (.tmp 0), none⟩,
 ⟨(some 6), .bstr (.tmp 5), none⟩,
 ⟨(some 7), .mv (.tmp 1), none⟩,
 ⟨(some 8), .bstr (.tmp 7), none⟩,
 ⟨(some 9), .eqst false (.tmp 6) (.tmp 8), none⟩,
 ⟨(some 4), .mv (.tmp 9), none⟩])
 (.ret))
theorem k24 : fnOk Try.prog 24 = some (M24, [.t 4], 10) := by kernel_rfl

theorem c_bytesEqual (a a' : Option Addr) (n n' c c' : Nat) (l l' : List Int) (hn : l.length = n) (hn' : l'.length = n') (hA : IntsAt w0 H .u8 a l) (hA' : IntsAt w0 H .u8 a' l') (hb : ∀ b ∈ l, 0 ≤ b ∧ b ≤ 255) (hb' : ∀ b ∈ l', 0 ≤ b ∧ b ≤ 255)
    (h : K (.bool (decide (l = l'))) H) : HCalls Try.prog w0 24 [.slice a n c, .slice a' n' c'] H K := by
  have e := strOf_beq hb hb'
  refine HL.hc k24 999 ?_; unfold M24
  (all_goals (try simp only [Sq,Sr,Sh,Si,Sl,Bu,Bb,Bd,Bc,Bw,Bn,Int.reduceAdd,Int.reduceSub,Int.reduceMul,Int.reduceTDiv,Int.reduceTMod,Int.reduceMod,Int.reduceDiv,Nat.reduceLT,Nat.reduceEqDiff,Sa,Sb,Sc,Sd,Se,Sf,Sg,Int.reduceLE,Int.reduceLT,Int.reduceToNat,Int.reduceNeg,Int.reduceEq,Nat.reduceLeDiff,Nat.reducePow,Int.reducePow,reduceIte,Nat.reduceSub,Nat.reduceAdd,Nat.reduceMul,putAt,ceq,List.replicate, *])); repeat' ((first | (with_reducible refine fun _ : True => ?_) | (with_reducible refine any_h ?_) | ((first | refine AllocQ_i ?_ | refine AllocO_i ?_); intro bk hb0 hbk; (try simp only [set_none'] at hbk)) | ((first | refine condS_i ?_ ?_ | refine pick_i ?_ ?_ | refine gS_it ?_ ?_ | refine gS_if ?_ ?_ | refine gP_it ?_ ?_ | refine gP_if ?_ ?_) <;> (intro hc; try simp only [Int.reduceLE,Int.reduceLT,Int.reduceEq,Sn] at hc)) | (with_reducible refine And.intro ?_ ?_)) <;> (try simp only [Sq,Sr,Sh,Si,Sl,Bu,Bb,Bd,Bc,Bw,Bn,Int.reduceAdd,Int.reduceSub,Int.reduceMul,Int.reduceTDiv,Int.reduceTMod,Int.reduceMod,Int.reduceDiv,Nat.reduceLT,Nat.reduceEqDiff,Sa,Sb,Sc,Sd,Se,Sf,Sg,Int.reduceLE,Int.reduceLT,Int.reduceToNat,Int.reduceNeg,Int.reduceEq,Nat.reduceLeDiff,Nat.reducePow,Int.reducePow,reduceIte,Nat.reduceSub,Nat.reduceAdd,Nat.reduceMul,putAt,ceq,List.replicate, *]))
  refine bstr_i l hA hn ?_
  (all_goals (try simp only [Sq,Sr,Sh,Si,Sl,Bu,Bb,Bd,Bc,Bw,Bn,Int.reduceAdd,Int.reduceSub,Int.reduceMul,Int.reduceTDiv,Int.reduceTMod,Int.reduceMod,Int.reduceDiv,Nat.reduceLT,Nat.reduceEqDiff,Sa,Sb,Sc,Sd,Se,Sf,Sg,Int.reduceLE,Int.reduceLT,Int.reduceToNat,Int.reduceNeg,Int.reduceEq,Nat.reduceLeDiff,Nat.reducePow,Int.reducePow,reduceIte,Nat.reduceSub,Nat.reduceAdd,Nat.reduceMul,putAt,ceq,List.replicate, *])); repeat' ((first | (with_reducible refine fun _ : True => ?_) | (with_reducible refine any_h ?_) | ((first | refine AllocQ_i ?_ | refine AllocO_i ?_); intro bk hb0 hbk; (try simp only [set_none'] at hbk)) | ((first | refine condS_i ?_ ?_ | refine pick_i ?_ ?_ | refine gS_it ?_ ?_ | refine gS_if ?_ ?_ | refine gP_it ?_ ?_ | refine gP_if ?_ ?_) <;> (intro hc; try simp only [Int.reduceLE,Int.reduceLT,Int.reduceEq,Sn] at hc)) | (with_reducible refine And.intro ?_ ?_)) <;> (try simp only [Sq,Sr,Sh,Si,Sl,Bu,Bb,Bd,Bc,Bw,Bn,Int.reduceAdd,Int.reduceSub,Int.reduceMul,Int.reduceTDiv,Int.reduceTMod,Int.reduceMod,Int.reduceDiv,Nat.reduceLT,Nat.reduceEqDiff,Sa,Sb,Sc,Sd,Se,Sf,Sg,Int.reduceLE,Int.reduceLT,Int.reduceToNat,Int.reduceNeg,Int.reduceEq,Nat.reduceLeDiff,Nat.reducePow,Int.reducePow,reduceIte,Nat.reduceSub,Nat.reduceAdd,Nat.reduceMul,putAt,ceq,List.replicate, *]))
  refine bstr_i l' hA' hn' ?_
  (all_goals (try simp only [Sq,Sr,Sh,Si,Sl,Bu,Bb,Bd,Bc,Bw,Bn,Int.reduceAdd,Int.reduceSub,Int.reduceMul,Int.reduceTDiv,Int.reduceTMod,Int.reduceMod,Int.reduceDiv,Nat.reduceLT,Nat.reduceEqDiff,Sa,Sb,Sc,Sd,Se,Sf,Sg,Int.reduceLE,Int.reduceLT,Int.reduceToNat,Int.reduceNeg,Int.reduceEq,Nat.reduceLeDiff,Nat.reducePow,Int.reducePow,reduceIte,Nat.reduceSub,Nat.reduceAdd,Nat.reduceMul,putAt,ceq,List.replicate, *])); repeat' ((first | (with_reducible refine fun _ : True => ?_) | (with_reducible refine any_h ?_) | ((first | refine AllocQ_i ?_ | refine AllocO_i ?_); intro bk hb0 hbk; (try simp only [set_none'] at hbk)) | ((first | refine condS_i ?_ ?_ | refine pick_i ?_ ?_ | refine gS_it ?_ ?_ | refine gS_if ?_ ?_ | refine gP_it ?_ ?_ | refine gP_if ?_ ?_) <;> (intro hc; try simp only [Int.reduceLE,Int.reduceLT,Int.reduceEq,Sn] at hc)) | (with_reducible refine And.intro ?_ ?_)) <;> (try simp only [Sq,Sr,Sh,Si,Sl,Bu,Bb,Bd,Bc,Bw,Bn,Int.reduceAdd,Int.reduceSub,Int.reduceMul,Int.reduceTDiv,Int.reduceTMod,Int.reduceMod,Int.reduceDiv,Nat.reduceLT,Nat.reduceEqDiff,Sa,Sb,Sc,Sd,Se,Sf,Sg,Int.reduceLE,Int.reduceLT,Int.reduceToNat,Int.reduceNeg,Int.reduceEq,Nat.reduceLeDiff,Nat.reducePow,Int.reducePow,reduceIte,Nat.reduceSub,Nat.reduceAdd,Nat.reduceMul,putAt,ceq,List.replicate, *]))
  exact Fin_mk (by (repeat' (first | exact Heap.Le.refl _ | (with_reducible refine Le_set2 ?_) | (refine Le_known (by first | (simp only [Heap.set_same, set_ne, ne_eq, not_false_eq_true, *] <;> rfl) | fail) ?_) | (refine Le_fresh (by first | (simp only [*] <;> done) | (simp [set_none', Heap.set_same, set_ne, noneH, *] <;> done) | fail) ?_) | (refine Heap.Le.trans ?_ (Grow.le (by assumption))) | exact Le_none | (refine Le_put ?_ (by first | (simp only [Heap.set_same, set_ne, ne_eq, not_false_eq_true, *] <;> rfl) | fail)) | fail))) h
/-- A byte of a row. -/
theorem ints_get {k : IntKind} {a : Option Addr} {l : List Int} (hA : IntsAt w0 H k a l) (hl : 0 < l.length) : ∃ b o, a = some ⟨b, o, none⟩ ∧ (∀ i v, l[i]? = some v → rd1 w0 H b (o + i) = some (.int k v)) ∧ ∀ c, w0.heap.size ≤ c → H c = none → c ≠ b := by
  obtain ⟨b, o, e, hr, hf⟩ := hA (by intro e; subst e; simp at hl)
  refine ⟨b, o, e, fun i v hv => ?_, hf⟩
  have hi := (List.getElem?_eq_some_iff.1 hv).1
  rw [hr i hi]
  simp [List.getD, hv]
/- slices Equal[[]byte,byte] -/
def M55 : MC :=
  .seq (.reg [⟨(some 4), .mv (.const (.bool false)), none⟩])
 (.seq (.seq (.reg [⟨(some 6), .mv (.tmp 0), none⟩,
 ⟨(some 7), .len (.tmp 6), none⟩,
 ⟨(some 8), .mv (.tmp 1), none⟩,
 ⟨(some 9), .len (.tmp 8), none⟩,
 ⟨(some 10), .bin .neq (.tmp 7) (.tmp 9), none⟩])
 (.cond (.tmp 10)
 (.seq (.reg [⟨(some 4), .mv (.const (.bool false)), none⟩])
 (.ret))
 (.skip)))
 (.seq (.seq (.reg [⟨(some 11), .mv (.tmp 0), none⟩,
 ⟨(some 12), .len (.tmp 11), none⟩,
 ⟨(some 13), .mv (.const (.int .i64 0)), none⟩])
 (.block 0 (.loop (.seq (.reg [⟨(some 14), .bin .lss (.tmp 13) (.tmp 12), none⟩])
 (.seq (.cond (.tmp 14)
 (.skip)
 (.exit 0))
 (.seq (.block 1 (.seq (.reg [⟨(some 15), .mv (.tmp 13), none⟩,
 ⟨(some 5), .mv (.tmp 15), none⟩])
 (.seq (.any [(true, 0, [], ⟨(some 16), .mv (.tmp 0), none⟩),
 (true, 1, [], ⟨(some 17), .mv (.tmp 5), none⟩),
 (true, 2, [], ⟨(some 18), .is 1 (.tmp 16) (.tmp 17), none⟩),
 (true, 3, [], ⟨(some 19), .ld1 (.tmp 18), none⟩),
 (true, 4, [], ⟨(some 20), .mv (.tmp 1), none⟩),
 (false, 5, [0, 1, 2, 3, 4], ⟨(some 21), .mv (.tmp 5), none⟩),
 (false, 6, [0, 1, 2, 3], ⟨(some 22), .is 1 (.tmp 20) (.tmp 21), none⟩),
 (false, 7, [0, 1, 2, 3], ⟨(some 23), .ld1 (.tmp 22), none⟩),
 (false, 8, [], ⟨(some 24), .bin .neq (.tmp 19) (.tmp 23), none⟩)])
 (.cond (.tmp 24)
 (.seq (.reg [⟨(some 4), .mv (.const (.bool false)), none⟩])
 (.ret))
 (.skip)))))
 (.reg [⟨(some 25), .bin .add (.tmp 13) (.const (.int .i64 1)), none⟩,
 ⟨(some 13), .mv (.tmp 25), none⟩])))))))
 (.seq (.reg [⟨(some 4), .mv (.const (.bool true)), none⟩])
 (.ret))))
theorem k55 : fnOk Try.prog 55 = some (M55, [.t 4], 26) := by kernel_rfl

theorem c_slicesEqual (a a' : Option Addr) (c c' : Nat) (l l' : List Int) (hA : IntsAt w0 H .u8 a l) (hA' : IntsAt w0 H .u8 a' l') (hm : l.length ≤ maxLen)
    (h1 : l = l' → K (.bool true) H) (h2 : l ≠ l' → K (.bool false) H) : HCalls Try.prog w0 55 [.slice a l.length c, .slice a' l'.length c'] H K := by
  by_cases hl : l.length = l'.length
  · rcases Nat.eq_zero_or_pos l.length with h0 | h0
    · have e1 : l = [] := List.length_eq_zero_iff.1 h0
      have e2 : l' = [] := List.length_eq_zero_iff.1 (by omega)
      subst e1 e2
      have h1 := h1 rfl
      clear h2
      refine HL.hc k55 999 ?_; unfold M55
      (all_goals (try simp only [Sq,Sr,Sh,Si,Sl,Bu,Bb,Bd,Bc,Bw,Bn,Int.reduceAdd,Int.reduceSub,Int.reduceMul,Int.reduceTDiv,Int.reduceTMod,Int.reduceMod,Int.reduceDiv,Nat.reduceLT,Nat.reduceEqDiff,Sa,Sb,Sc,Sd,Se,Sf,Sg,Int.reduceLE,Int.reduceLT,Int.reduceToNat,Int.reduceNeg,Int.reduceEq,Nat.reduceLeDiff,Nat.reducePow,Int.reducePow,reduceIte,Nat.reduceSub,Nat.reduceAdd,Nat.reduceMul,putAt,ceq,List.replicate, *])); repeat' ((first | (with_reducible refine fun _ : True => ?_) | (with_reducible refine any_h ?_) | ((first | refine AllocQ_i ?_ | refine AllocO_i ?_); intro bk hb0 hbk; (try simp only [set_none'] at hbk)) | ((first | refine condS_i ?_ ?_ | refine pick_i ?_ ?_ | refine gS_it ?_ ?_ | refine gS_if ?_ ?_ | refine gP_it ?_ ?_ | refine gP_if ?_ ?_) <;> (intro hc; try simp only [Int.reduceLE,Int.reduceLT,Int.reduceEq,Sn] at hc)) | (with_reducible refine loop_u ?_) | (with_reducible refine And.intro ?_ ?_)) <;> (try simp only [Sq,Sr,Sh,Si,Sl,Bu,Bb,Bd,Bc,Bw,Bn,Int.reduceAdd,Int.reduceSub,Int.reduceMul,Int.reduceTDiv,Int.reduceTMod,Int.reduceMod,Int.reduceDiv,Nat.reduceLT,Nat.reduceEqDiff,Sa,Sb,Sc,Sd,Se,Sf,Sg,Int.reduceLE,Int.reduceLT,Int.reduceToNat,Int.reduceNeg,Int.reduceEq,Nat.reduceLeDiff,Nat.reducePow,Int.reducePow,reduceIte,Nat.reduceSub,Nat.reduceAdd,Nat.reduceMul,putAt,ceq,List.replicate, *]))
      exact Fin_mk (by (repeat' (first | exact Heap.Le.refl _ | (with_reducible refine Le_set2 ?_) | (refine Le_known (by first | (simp only [Heap.set_same, set_ne, ne_eq, not_false_eq_true, *] <;> rfl) | fail) ?_) | (refine Le_fresh (by first | (simp only [*] <;> done) | (simp [set_none', Heap.set_same, set_ne, noneH, *] <;> done) | fail) ?_) | (refine Heap.Le.trans ?_ (Grow.le (by assumption))) | exact Le_none | (refine Le_put ?_ (by first | (simp only [Heap.set_same, set_ne, ne_eq, not_false_eq_true, *] <;> rfl) | fail)) | fail))) h1
    · obtain ⟨b, o, rfl, hr, hf⟩ := ints_get hA h0
      obtain ⟨b', o', rfl, hr', hf'⟩ := ints_get hA' (by omega)
      have hne : ∀ (k : Nat) (v v' : Int), l[k]? = some v → l'[k]? = some v' → v ≠ v' → HL.Fin K (.bool false) H := fun k v v' e1 e2 hv => Fin_mk (Heap.Le.refl _) (h2 fun e => by subst e; rw [e1] at e2; cases e2; exact hv rfl)
      have heq : (∀ k, k < l.length → l[k]? = l'[k]?) → HL.Fin K (.bool true) H := fun h => Fin_mk (Heap.Le.refl _) (h1 (by
        apply List.ext_getElem?
        intro i
        rcases Nat.lt_or_ge i l.length with hi | hi
        · exact h i hi
        · rw [List.getElem?_eq_none hi, List.getElem?_eq_none (by omega)]))
      obtain ⟨n, en⟩ : ∃ n, l.length = n := ⟨_, rfl⟩
      have en' : l'.length = n := by omega
      rw [en, en']
      rw [en] at hm heq
      clear hA hA' h1 h2 hl h0
      refine HL.hc k55 999 ?_; unfold M55
      (all_goals (try simp only [Sq,Sr,Sh,Si,Sl,Bu,Bb,Bd,Bc,Bw,Bn,Int.reduceAdd,Int.reduceSub,Int.reduceMul,Int.reduceTDiv,Int.reduceTMod,Int.reduceMod,Int.reduceDiv,Nat.reduceLT,Nat.reduceEqDiff,Sa,Sb,Sc,Sd,Se,Sf,Sg,Int.reduceLE,Int.reduceLT,Int.reduceToNat,Int.reduceNeg,Int.reduceEq,Nat.reduceLeDiff,Nat.reducePow,Int.reducePow,reduceIte,Nat.reduceSub,Nat.reduceAdd,Nat.reduceMul,putAt,ceq,List.replicate, *])); repeat' ((first | (with_reducible refine fun _ : True => ?_) | (with_reducible refine any_h ?_) | ((first | refine AllocQ_i ?_ | refine AllocO_i ?_); intro bk hb0 hbk; (try simp only [set_none'] at hbk)) | ((first | refine condS_i ?_ ?_ | refine pick_i ?_ ?_ | refine gS_it ?_ ?_ | refine gS_if ?_ ?_ | refine gP_it ?_ ?_ | refine gP_if ?_ ?_) <;> (intro hc; try simp only [Int.reduceLE,Int.reduceLT,Int.reduceEq,Sn] at hc)) | (with_reducible refine And.intro ?_ ?_)) <;> (try simp only [Sq,Sr,Sh,Si,Sl,Bu,Bb,Bd,Bc,Bw,Bn,Int.reduceAdd,Int.reduceSub,Int.reduceMul,Int.reduceTDiv,Int.reduceTMod,Int.reduceMod,Int.reduceDiv,Nat.reduceLT,Nat.reduceEqDiff,Sa,Sb,Sc,Sd,Se,Sf,Sg,Int.reduceLE,Int.reduceLT,Int.reduceToNat,Int.reduceNeg,Int.reduceEq,Nat.reduceLeDiff,Nat.reducePow,Int.reducePow,reduceIte,Nat.reduceSub,Nat.reduceAdd,Nat.reduceMul,putAt,ceq,List.replicate, *]))
      refine loop_g 14 (fun s : Nat × Value => [(5, s.2), (13, .int .i64 (s.1 : Nat))]) (fun _ => H) (fun s => s.1 ≤ n ∧ ∀ k, k < s.1 → l[k]? = l'[k]?) (fun s => n - s.1) (0, undef) ⟨Nat.zero_le _, fun k hk => by simp at hk⟩ (Heap.Le.refl _) rfl ?_
      intro ⟨k, u⟩ g ⟨hk, hall⟩
      simp only at hk hall
      rcases Nat.lt_or_ge k n with hlt | hge
      · obtain ⟨v, ev⟩ : ∃ v, l[k]? = some v := ⟨_, List.getElem?_eq_getElem (by omega)⟩
        obtain ⟨v', ev'⟩ : ∃ v, l'[k]? = some v := ⟨_, List.getElem?_eq_getElem (by omega)⟩
        have r1 := hr k v ev
        have r2 := hr' k v' ev'
        have hne := hne k v v' ev ev'
        have t0 : (k : Int) < (n : Int) := by omega
        have t6 : IntKind.i64.wrap ((k : Int) + 1) = (k : Int) + 1 := Bw.1 _ (by omega) (by unfold maxLen at hm; omega)
        have nxt : v = v' → ∀ j, j < k + 1 → l[j]? = l'[j]? := fun e j hj => by
          rcases Nat.lt_or_ge j k with h' | h'
          · exact hall j h'
          · obtain rfl : j = k := by omega
            rw [ev, ev', e]
        clear hall hr hr' heq en en' ev ev'
        by_cases hv : v = v'
        · have nxt2 := nxt hv
          subst hv
          clear hne nxt
          (all_goals (try simp only [Sq,Sr,Sh,Si,Sl,Bu,Bb,Bd,Bc,Bw,Bn,Int.reduceAdd,Int.reduceSub,Int.reduceMul,Int.reduceTDiv,Int.reduceTMod,Int.reduceMod,Int.reduceDiv,Nat.reduceLT,Nat.reduceEqDiff,Sa,Sb,Sc,Sd,Se,Sf,Sg,Int.reduceLE,Int.reduceLT,Int.reduceToNat,Int.reduceNeg,Int.reduceEq,Nat.reduceLeDiff,Nat.reducePow,Int.reducePow,reduceIte,Nat.reduceSub,Nat.reduceAdd,Nat.reduceMul,putAt,ceq,List.replicate, *])); repeat' ((first | (with_reducible refine fun _ : True => ?_) | (with_reducible refine any_h ?_) | ((first | refine AllocQ_i ?_ | refine AllocO_i ?_); intro bk hb0 hbk; (try simp only [set_none'] at hbk)) | ((first | refine condS_i ?_ ?_ | refine pick_i ?_ ?_ | refine gS_it ?_ ?_ | refine gS_if ?_ ?_ | refine gP_it ?_ ?_ | refine gP_if ?_ ?_) <;> (intro hc; try simp only [Int.reduceLE,Int.reduceLT,Int.reduceEq,Sn] at hc)) | (with_reducible refine And.intro ?_ ?_)) <;> (try simp only [Sq,Sr,Sh,Si,Sl,Bu,Bb,Bd,Bc,Bw,Bn,Int.reduceAdd,Int.reduceSub,Int.reduceMul,Int.reduceTDiv,Int.reduceTMod,Int.reduceMod,Int.reduceDiv,Nat.reduceLT,Nat.reduceEqDiff,Sa,Sb,Sc,Sd,Se,Sf,Sg,Int.reduceLE,Int.reduceLT,Int.reduceToNat,Int.reduceNeg,Int.reduceEq,Nat.reduceLeDiff,Nat.reducePow,Int.reducePow,reduceIte,Nat.reduceSub,Nat.reduceAdd,Nat.reduceMul,putAt,ceq,List.replicate, *]))
          exact Round_mk (k + 1, _) ⟨hlt, nxt2⟩ (by simp only; omega) (Heap.Le.refl _) rfl rfl
        · have hne := hne hv
          clear nxt
          (all_goals (try simp only [Sq,Sr,Sh,Si,Sl,Bu,Bb,Bd,Bc,Bw,Bn,Int.reduceAdd,Int.reduceSub,Int.reduceMul,Int.reduceTDiv,Int.reduceTMod,Int.reduceMod,Int.reduceDiv,Nat.reduceLT,Nat.reduceEqDiff,Sa,Sb,Sc,Sd,Se,Sf,Sg,Int.reduceLE,Int.reduceLT,Int.reduceToNat,Int.reduceNeg,Int.reduceEq,Nat.reduceLeDiff,Nat.reducePow,Int.reducePow,reduceIte,Nat.reduceSub,Nat.reduceAdd,Nat.reduceMul,putAt,ceq,List.replicate, *])); repeat' ((first | (with_reducible refine fun _ : True => ?_) | (with_reducible refine any_h ?_) | ((first | refine AllocQ_i ?_ | refine AllocO_i ?_); intro bk hb0 hbk; (try simp only [set_none'] at hbk)) | ((first | refine condS_i ?_ ?_ | refine pick_i ?_ ?_ | refine gS_it ?_ ?_ | refine gS_if ?_ ?_ | refine gP_it ?_ ?_ | refine gP_if ?_ ?_) <;> (intro hc; try simp only [Int.reduceLE,Int.reduceLT,Int.reduceEq,Sn] at hc)) | (with_reducible refine And.intro ?_ ?_)) <;> (try simp only [Sq,Sr,Sh,Si,Sl,Bu,Bb,Bd,Bc,Bw,Bn,Int.reduceAdd,Int.reduceSub,Int.reduceMul,Int.reduceTDiv,Int.reduceTMod,Int.reduceMod,Int.reduceDiv,Nat.reduceLT,Nat.reduceEqDiff,Sa,Sb,Sc,Sd,Se,Sf,Sg,Int.reduceLE,Int.reduceLT,Int.reduceToNat,Int.reduceNeg,Int.reduceEq,Nat.reduceLeDiff,Nat.reducePow,Int.reducePow,reduceIte,Nat.reduceSub,Nat.reduceAdd,Nat.reduceMul,putAt,ceq,List.replicate, *]))
          all_goals exact hne
      · obtain rfl : n = k := by omega
        have t0 : ¬ ((n : Nat) : Int) < ((n : Nat) : Int) := by omega
        have heq := heq hall
        clear hall hne hr hr' en en'
        (all_goals (try simp only [Sq,Sr,Sh,Si,Sl,Bu,Bb,Bd,Bc,Bw,Bn,Int.reduceAdd,Int.reduceSub,Int.reduceMul,Int.reduceTDiv,Int.reduceTMod,Int.reduceMod,Int.reduceDiv,Nat.reduceLT,Nat.reduceEqDiff,Sa,Sb,Sc,Sd,Se,Sf,Sg,Int.reduceLE,Int.reduceLT,Int.reduceToNat,Int.reduceNeg,Int.reduceEq,Nat.reduceLeDiff,Nat.reducePow,Int.reducePow,reduceIte,Nat.reduceSub,Nat.reduceAdd,Nat.reduceMul,putAt,ceq,List.replicate, *])); repeat' ((first | (with_reducible refine fun _ : True => ?_) | (with_reducible refine any_h ?_) | ((first | refine AllocQ_i ?_ | refine AllocO_i ?_); intro bk hb0 hbk; (try simp only [set_none'] at hbk)) | ((first | refine condS_i ?_ ?_ | refine pick_i ?_ ?_ | refine gS_it ?_ ?_ | refine gS_if ?_ ?_ | refine gP_it ?_ ?_ | refine gP_if ?_ ?_) <;> (intro hc; try simp only [Int.reduceLE,Int.reduceLT,Int.reduceEq,Sn] at hc)) | (with_reducible refine And.intro ?_ ?_)) <;> (try simp only [Sq,Sr,Sh,Si,Sl,Bu,Bb,Bd,Bc,Bw,Bn,Int.reduceAdd,Int.reduceSub,Int.reduceMul,Int.reduceTDiv,Int.reduceTMod,Int.reduceMod,Int.reduceDiv,Nat.reduceLT,Nat.reduceEqDiff,Sa,Sb,Sc,Sd,Se,Sf,Sg,Int.reduceLE,Int.reduceLT,Int.reduceToNat,Int.reduceNeg,Int.reduceEq,Nat.reduceLeDiff,Nat.reducePow,Int.reducePow,reduceIte,Nat.reduceSub,Nat.reduceAdd,Nat.reduceMul,putAt,ceq,List.replicate, *]))
        all_goals exact heq
  · have el : ¬ (l.length : Int) = (l'.length : Int) := by omega
    have h2 := h2 fun e => hl (by rw [e])
    clear hA hA' h1 hl
    refine HL.hc k55 999 ?_; unfold M55
    (all_goals (try simp only [Sq,Sr,Sh,Si,Sl,Bu,Bb,Bd,Bc,Bw,Bn,Int.reduceAdd,Int.reduceSub,Int.reduceMul,Int.reduceTDiv,Int.reduceTMod,Int.reduceMod,Int.reduceDiv,Nat.reduceLT,Nat.reduceEqDiff,Sa,Sb,Sc,Sd,Se,Sf,Sg,Int.reduceLE,Int.reduceLT,Int.reduceToNat,Int.reduceNeg,Int.reduceEq,Nat.reduceLeDiff,Nat.reducePow,Int.reducePow,reduceIte,Nat.reduceSub,Nat.reduceAdd,Nat.reduceMul,putAt,ceq,List.replicate, *])); repeat' ((first | (with_reducible refine fun _ : True => ?_) | (with_reducible refine any_h ?_) | ((first | refine AllocQ_i ?_ | refine AllocO_i ?_); intro bk hb0 hbk; (try simp only [set_none'] at hbk)) | ((first | refine condS_i ?_ ?_ | refine pick_i ?_ ?_ | refine gS_it ?_ ?_ | refine gS_if ?_ ?_ | refine gP_it ?_ ?_ | refine gP_if ?_ ?_) <;> (intro hc; try simp only [Int.reduceLE,Int.reduceLT,Int.reduceEq,Sn] at hc)) | (with_reducible refine And.intro ?_ ?_)) <;> (try simp only [Sq,Sr,Sh,Si,Sl,Bu,Bb,Bd,Bc,Bw,Bn,Int.reduceAdd,Int.reduceSub,Int.reduceMul,Int.reduceTDiv,Int.reduceTMod,Int.reduceMod,Int.reduceDiv,Nat.reduceLT,Nat.reduceEqDiff,Sa,Sb,Sc,Sd,Se,Sf,Sg,Int.reduceLE,Int.reduceLT,Int.reduceToNat,Int.reduceNeg,Int.reduceEq,Nat.reduceLeDiff,Nat.reducePow,Int.reducePow,reduceIte,Nat.reduceSub,Nat.reduceAdd,Nat.reduceMul,putAt,ceq,List.replicate, *]))
    exact Fin_mk (by (repeat' (first | exact Heap.Le.refl _ | (with_reducible refine Le_set2 ?_) | (refine Le_known (by first | (simp only [Heap.set_same, set_ne, ne_eq, not_false_eq_true, *] <;> rfl) | fail) ?_) | (refine Le_fresh (by first | (simp only [*] <;> done) | (simp [set_none', Heap.set_same, set_ne, noneH, *] <;> done) | fail) ?_) | (refine Heap.Le.trans ?_ (Grow.le (by assumption))) | exact Le_none | (refine Le_put ?_ (by first | (simp only [Heap.set_same, set_ne, ne_eq, not_false_eq_true, *] <;> rfl) | fail)) | fail))) h2
end Go.Proofs.Ytdaipgnhconfnaa
