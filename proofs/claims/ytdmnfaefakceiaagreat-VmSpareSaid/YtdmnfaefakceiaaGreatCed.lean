/- spread (layer 18). -/
import Derived.Test.YtdmnfaefakceiaaGreatCec
set_option linter.unusedSimpArgs false
set_option linter.unusedVariables false
set_option maxRecDepth 100000
set_option maxHeartbeats 4000000
namespace Go.Proofs.YtdmnfaefakceiaaGreat
open Go.HL Go.RowKit Pb
variable {w0 : World} {H : Heap} {K : Value → Heap → Prop}

theorem Fin_le {v : Value} {G : Heap} (h : HL.Fin K v H) (l : Heap.Le H G) : HL.Fin K v G := by
  obtain ⟨A, h1, h2⟩ := h
  exact ⟨A, h1.trans l, h2⟩
/-- Is a number among those? -/
def sB : List Int → Int → Bool
  | [], _ => false
  | a :: l, p => decide (p = a) || sB l p
def metL (l : List Int) : List Value := [.bool (sB l 0), .bool (sB l 1), .bool (sB l 2), .bool (sB l 3)]
theorem in4 {p : Int} (h : 0 ≤ p ∧ p < 4) : p = 0 ∨ p = 1 ∨ p = 2 ∨ p = 3 := by omega
theorem sB_snoc (l : List Int) (a p : Int) : sB (l ++ [a]) p = (sB l p || decide (p = a)) := by
  induction l with
  | nil => simp [sB]
  | cons b l ih => simp [sB, ih, Bool.or_assoc]
theorem metL_get {l : List Int} {p : Int} (h : 0 ≤ p ∧ p < 4) : (metL l)[p.toNat]? = some (.bool (sB l p)) := by
  rcases in4 h with rfl | rfl | rfl | rfl <;> rfl
theorem metL_set {l : List Int} {p : Int} (h : 0 ≤ p ∧ p < 4) : (metL l).set p.toNat (.bool true) = metL (l ++ [p]) := by
  unfold metL
  rcases in4 h with rfl | rfl | rfl | rfl <;> simp [sB_snoc]
theorem metL_len (l : List Int) : (metL l).length = 4 := rfl
theorem metL_nil : [Value.bool false, .bool false, .bool false, .bool false] = metL [] := rfl

/-- The places of an instruction, and whether the one at k may be. -/
def Ins.pl (i : Ins) : List Int := [i.p0, i.p1, i.p2, i.p3]
def okK (uniq : Bool) (n : Int) (P : List Int) (k : Nat) : Bool :=
  decide (0 ≤ P.getD k 0 ∧ P.getD k 0 < 4) && (decide ((k : Int) < n) || decide (P.getD k 0 = 0)) && !(uniq && decide ((k : Int) < n) && sB (P.take k) (P.getD k 0))
/-- May places be? (uniq: each once) -/
def spreadB (uniq : Bool) (i : Ins) : Bool := sized i.n && okK uniq i.n i.pl 0 && okK uniq i.n i.pl 1 && okK uniq i.n i.pl 2 && okK uniq i.n i.pl 3
theorem spread_t {uniq : Bool} {i : Ins} (h : sized i.n = true) (ha : ∀ j, j < 4 → okK uniq i.n i.pl j = true) : spreadB uniq i = true := by
  unfold spreadB; rw [h, ha 0 (by omega), ha 1 (by omega), ha 2 (by omega), ha 3 (by omega)]; rfl
theorem spread_f {uniq : Bool} {i : Ins} {j : Nat} (hj : j < 4) (h : okK uniq i.n i.pl j = false) : spreadB uniq i = false := by
  unfold spreadB
  rcases (show j = 0 ∨ j = 1 ∨ j = 2 ∨ j = 3 by omega) with rfl | rfl | rfl | rfl <;> rw [h] <;> simp
theorem take_succ' {P : List Int} {k : Nat} {p : Int} (h : P[k]? = some p) : P.take (k + 1) = P.take k ++ [p] := by
  rw [List.take_add_one, h]; rfl
/- code spread -/
def M103 : MC :=
  .seq (.reg [oX 1 (.box 46 (.tmp 0)),
 oX 2 (.mv (.const (.bool false)))])
 (.seq (.seq (.reg [oX 6 (.fa 3 (.tmp 1)),
 oX 7 (.ld1 (.tmp 6)),
 oX 8 (.call 102 [(.tmp 7)]),
 oX 9 (.un .not (.tmp 8))])
 (.cond (.tmp 9)
 (.seq (.reg [oX 2 (.mv (.const (.bool false)))])
 (.ret))
 (.skip)))
 (.seq (.reg [oX 10 (.build [(.bool false),(.bool false),(.bool false),(.bool false)] []),
 oX 3 (.alloc 148 [(.bool false),(.bool false),(.bool false),(.bool false)]),
 ⟨none,.stn 4 (.tmp 3) (.tmp 10),none⟩])
 (.seq (.seq (.reg [oX 11 (.fa 12 (.tmp 1)),
 oX 12 (.ldn 4 (.tmp 11)),
 oX 13 (.mv (kX 0))])
 (.block 0 (.loop (.seq (.reg [oX 14 (bK .lss 13 4)])
 (.seq (.cond (.tmp 14)
 (.skip)
 (.exit 0))
 (.seq (.block 1 (.seq (.reg [vX 15 13,
 oX 16 (.ix 4 (.tmp 12) (.tmp 13)),
 vX 4 15,
 vX 5 16])
 (.seq (.seq (.reg [vX 17 5,
 oX 18 (.call 50 [(.tmp 17),(kX 4)]),
 oX 19 (.un .not (.tmp 18)),
 vX 20 19,
 ⟨(some 21),.mv (.tmp 4),(some (20,false))⟩,
 ⟨(some 22),.fa 3 (.tmp 1),(some (20,false))⟩,
 ⟨(some 23),.ld1 (.tmp 22),(some (20,false))⟩,
 ⟨(some 24),bX .geq 21 23,(some (20,false))⟩,
 ⟨(some 25),.mv (.tmp 24),(some (20,false))⟩,
 ⟨(some 26),.mv (.tmp 5),(some (25,true))⟩,
 ⟨(some 27),bK .neq 26 0,(some (25,true))⟩,
 ⟨(some 28),.pick (.tmp 25) (.tmp 27) (.const (.bool false)),(some (20,false))⟩,
 oX 29 (.pick (.tmp 20) (.const (.bool true)) (.tmp 28)),
 vX 30 29,
 ⟨(some 31),.mv (.tmp 4),(some (30,false))⟩,
 ⟨(some 32),.fa 3 (.tmp 1),(some (30,false))⟩,
 ⟨(some 33),.ld1 (.tmp 32),(some (30,false))⟩,
 ⟨(some 34),bX .lss 31 33,(some (30,false))⟩,
 ⟨(some 35),.mv (.tmp 34),(some (30,false))⟩,
 ⟨(some 36),.fa 0 (.tmp 1),(some (35,true))⟩,
 ⟨(some 37),.ld1 (.tmp 36),(some (35,true))⟩,
 ⟨(some 38),bK .eql 37 7,(some (35,true))⟩,
 ⟨(some 39),.pick (.tmp 35) (.tmp 38) (.const (.bool false)),(some (30,false))⟩,
 ⟨(some 40),.mv (.tmp 39),(some (30,false))⟩,
 ⟨(some 41),.mv (.tmp 5),(some (40,true))⟩,
 ⟨(some 42),.ia 4 1 (.tmp 3) (.tmp 41),(some (40,true))⟩,
 ⟨(some 43),.ld1 (.tmp 42),(some (40,true))⟩,
 ⟨(some 44),.pick (.tmp 40) (.tmp 43) (.const (.bool false)),(some (30,false))⟩,
 oX 45 (.pick (.tmp 30) (.const (.bool true)) (.tmp 44))])
 (.cond (.tmp 45)
 (.seq (.reg [oX 2 (.mv (.const (.bool false)))])
 (.ret))
 (.skip)))
 (.reg [vX 46 5,
 oX 47 (.ia 4 1 (.tmp 3) (.tmp 46)),
 ⟨none,.st1 (.tmp 47) (.const (.bool true)),none⟩]))))
 (.reg [oX 48 (bK .add 13 1),
 vX 13 48])))))))
 (.seq (.reg [oX 2 (.mv (.const (.bool true)))])
 (.ret)))))
theorem k103 : fnOk Tryz.prog 103 = some (M103, [.t 2], 49) := by kernel_rfl

section
variable {op fn bs n dst a b c m0 m1 m2 m3 p0 p1 p2 p3 : Int}
theorem spread_a (h : K (.bool (spreadB (decide (op = 7)) ⟨op, fn, bs, n, dst, a, b, c, m0, m1, m2, m3, p0, p1, p2, p3⟩)) H) :
    HCalls Tryz.prog w0 103 [(⟨op, fn, bs, n, dst, a, b, c, m0, m1, m2, m3, p0, p1, p2, p3⟩ : Ins).v] H K := by
  obtain ⟨u, eu⟩ : ∃ u, decide (op = 7) = u := ⟨_, rfl⟩
  obtain ⟨sz, esz⟩ : ∃ u, sized n = u := ⟨_, rfl⟩
  have hf : spreadB (decide (op = 7)) ⟨op, fn, bs, n, dst, a, b, c, m0, m1, m2, m3, p0, p1, p2, p3⟩ = false → HL.Fin K (.bool false) H := fun e => Fin_mk (Heap.Le.refl _) (by rw [e] at h; exact h)
  have ht : spreadB (decide (op = 7)) ⟨op, fn, bs, n, dst, a, b, c, m0, m1, m2, m3, p0, p1, p2, p3⟩ = true → HL.Fin K (.bool true) H := fun e => Fin_mk (Heap.Le.refl _) (by rw [e] at h; exact h)
  clear h
  unfold Ins.v Ins.row
  cases sz with
  | false =>
    have hf := hf (by unfold spreadB; simp only [esz]; rfl)
    clear ht eu
    refine HL.hc k103 999 ?_; unfold M103
    (all_goals (try simp only [S0,putAt,List.replicate,Int.reduceAdd,Int.reduceSub,Int.reduceMul,Int.reduceTDiv,Int.reduceTMod,Int.reduceMod,Int.reduceDiv,Nat.reduceLT,Nat.reduceEqDiff,Int.reduceLE,Int.reduceLT,Int.reduceToNat,Int.reduceNeg,Int.reduceEq,Nat.reduceLeDiff,Nat.reducePow,Int.reducePow,reduceIte,Nat.reduceSub,Nat.reduceAdd,Nat.reduceMul, *])); repeat' ((first | (with_reducible refine fun _ : True => ?_) | refine c_csized _ ?_ | (with_reducible refine any_h ?_) | ((first | refine AllocQ_i ?_ | refine AllocO_i ?_); intro bk hb0 hbk; (try simp only [set_none'] at hbk)) | ((first | refine condS_i ?_ ?_ | refine pick_i ?_ ?_ | refine gS_it ?_ ?_ | refine gS_if ?_ ?_ | refine gP_it ?_ ?_ | refine gP_if ?_ ?_) <;> (intro hc; try simp only [Int.reduceLE,Int.reduceLT,Int.reduceEq,Sn] at hc)) | (with_reducible refine KP_i ?_ ?_; · exact aL) | (with_reducible refine And.intro ?_ ?_)) <;> (try simp only [S0,putAt,List.replicate,Int.reduceAdd,Int.reduceSub,Int.reduceMul,Int.reduceTDiv,Int.reduceTMod,Int.reduceMod,Int.reduceDiv,Nat.reduceLT,Nat.reduceEqDiff,Int.reduceLE,Int.reduceLT,Int.reduceToNat,Int.reduceNeg,Int.reduceEq,Nat.reduceLeDiff,Nat.reducePow,Int.reducePow,reduceIte,Nat.reduceSub,Nat.reduceAdd,Nat.reduceMul, *]))
    exact Fin_le hf aL
  | true =>
    obtain ⟨P, eP⟩ : ∃ P, [p0, p1, p2, p3] = P := ⟨_, rfl⟩
    have hP : P.length = 4 := by rw [← eP]; rfl
    have hf := fun (j : Nat) (hj : j < 4) (e : okK u n P j = false) => hf (spread_f (j := j) hj (by rw [eu]; unfold Ins.pl; simp only; rw [eP]; exact e))
    have ht := fun (e : ∀ j, j < 4 → okK u n P j = true) => ht (spread_t esz (fun j hj => by rw [eu]; unfold Ins.pl; simp only; rw [eP]; exact e j hj))
    refine HL.hc k103 999 ?_; unfold M103
    simp only [S0,putAt,List.replicate,Int.reduceAdd,Int.reduceSub,Int.reduceMul,Int.reduceTDiv,Int.reduceTMod,Int.reduceMod,Int.reduceDiv,Nat.reduceLT,Nat.reduceEqDiff,Int.reduceLE,Int.reduceLT,Int.reduceToNat,Int.reduceNeg,Int.reduceEq,Nat.reduceLeDiff,Nat.reducePow,Int.reducePow,reduceIte,Nat.reduceSub,Nat.reduceAdd,Nat.reduceMul, *]
    refine AllocQ_i ?_
    intro b1 hb1 hn1
    (all_goals (try simp only [S0,putAt,List.replicate,Int.reduceAdd,Int.reduceSub,Int.reduceMul,Int.reduceTDiv,Int.reduceTMod,Int.reduceMod,Int.reduceDiv,Nat.reduceLT,Nat.reduceEqDiff,Int.reduceLE,Int.reduceLT,Int.reduceToNat,Int.reduceNeg,Int.reduceEq,Nat.reduceLeDiff,Nat.reducePow,Int.reducePow,reduceIte,Nat.reduceSub,Nat.reduceAdd,Nat.reduceMul, *])); repeat' ((first | (with_reducible refine fun _ : True => ?_) | refine c_csized _ ?_ | (with_reducible refine any_h ?_) | ((first | refine AllocQ_i ?_ | refine AllocO_i ?_); intro bk hb0 hbk; (try simp only [set_none'] at hbk)) | ((first | refine condS_i ?_ ?_ | refine pick_i ?_ ?_ | refine gS_it ?_ ?_ | refine gS_if ?_ ?_ | refine gP_it ?_ ?_ | refine gP_if ?_ ?_) <;> (intro hc; try simp only [Int.reduceLE,Int.reduceLT,Int.reduceEq,Sn] at hc)) | (with_reducible refine KP_i ?_ ?_; · exact aL) | (with_reducible refine And.intro ?_ ?_)) <;> (try simp only [S0,putAt,List.replicate,Int.reduceAdd,Int.reduceSub,Int.reduceMul,Int.reduceTDiv,Int.reduceTMod,Int.reduceMod,Int.reduceDiv,Nat.reduceLT,Nat.reduceEqDiff,Int.reduceLE,Int.reduceLT,Int.reduceToNat,Int.reduceNeg,Int.reduceEq,Nat.reduceLeDiff,Nat.reducePow,Int.reducePow,reduceIte,Nat.reduceSub,Nat.reduceAdd,Nat.reduceMul, *]))
    have el : ∀ (k : Nat) (p : Int), P[k]? = some p → [Value.int .i64 p0, .int .i64 p1, .int .i64 p2, .int .i64 p3][k]? = some (.int .i64 p) := fun k p hp => by
      have : [Value.int .i64 p0, .int .i64 p1, .int .i64 p2, .int .i64 p3] = P.map fun x => .int .i64 x := by rw [← eP]; rfl
      rw [this, List.getElem?_map, hp]; rfl
    replace eP : Keep _ := eP
    refine loop_g 14 (fun s : Nat × Value × Value => [(4, s.2.1), (5, s.2.2), (13, .int .i64 (s.1 : Nat))]) (fun s => (H.set b1 ⟨.t 46, [.int .i64 op, .int .i64 fn, .int .i64 bs, .int .i64 n, .int .i64 dst, .int .i64 a, .int .i64 b, .int .i64 c, .int .i32 m0, .int .i32 m1, .int .i32 m2, .int .i32 m3, .int .i64 p0, .int .i64 p1, .int .i64 p2, .int .i64 p3]⟩).set bk ⟨.t 148, metL (P.take s.1)⟩) (fun s => s.1 ≤ 4 ∧ ∀ j, j < s.1 → okK u n P j = true) (fun s => 4 - s.1) (0, undef, undef) ⟨Nat.zero_le _, fun k hk => by simp at hk⟩ (Heap.Le.refl _) rfl ?_
    intro ⟨k, v4, v5⟩ g ⟨hk, hall⟩
    simp only at hk hall
    rcases Nat.lt_or_ge k 4 with hlt | hge
    · obtain ⟨p, ep⟩ : ∃ p, P[k]? = some p := ⟨_, List.getElem?_eq_getElem (by omega)⟩
      have ed : P.getD k 0 = p := by rw [List.getD_eq_getElem?_getD, ep]; rfl
      have e1 := el k p ep
      have ok1 : ∀ v, okK u n P k = v → (v = false → HL.Fin K (.bool false) H) := fun v e e' => hf k hlt (e.trans e')
      have nxt : okK u n P k = true → ∀ j, j < k + 1 → okK u n P j = true := fun e j hj => by
        rcases Nat.lt_or_ge j k with h' | h'
        · exact hall j h'
        · obtain rfl : j = k := by omega
          exact e
      have ts := take_succ' ep
      have t0 : (k : Int) < 4 := by omega
      have t6 : IntKind.i64.wrap ((k : Int) + 1) = (k : Int) + 1 := Bw.1 _ (by omega) (by omega)
      clear hall hf ht
      by_cases q : 0 ≤ p ∧ p < 4
      · have hb : below p 4 = true := decide_eq_true q
        have g0 := fun l => metL_get (l := l) q
        have s0 := metL_set (l := P.take k) q
        rw [← ts] at s0
        have hl := metL_len
        obtain ⟨q1, q2⟩ := q
        unfold okK at nxt ok1
        simp only [ed] at nxt ok1
        replace nxt : Keep _ := nxt
        replace ok1 : Keep _ := ok1
        clear ed ep ts eP
        cases u
        all_goals by_cases hp0 : p = 0
        all_goals try subst hp0
        all_goals (try simp only [Int.reduceToNat] at g0 s0)
        all_goals (try have tp : p.toNat < 4 := by omega)
        all_goals (all_goals (try simp only [S0,putAt,List.replicate,Int.reduceAdd,Int.reduceSub,Int.reduceMul,Int.reduceTDiv,Int.reduceTMod,Int.reduceMod,Int.reduceDiv,Nat.reduceLT,Nat.reduceEqDiff,Int.reduceLE,Int.reduceLT,Int.reduceToNat,Int.reduceNeg,Int.reduceEq,Nat.reduceLeDiff,Nat.reducePow,Int.reducePow,reduceIte,Nat.reduceSub,Nat.reduceAdd,Nat.reduceMul, *])); repeat' ((first | (with_reducible refine fun _ : True => ?_) | refine c_below _ _ ?_ | (with_reducible refine any_h ?_) | ((first | refine AllocQ_i ?_ | refine AllocO_i ?_); intro bk hb0 hbk; (try simp only [set_none'] at hbk)) | ((first | refine condS_i ?_ ?_ | refine pick_i ?_ ?_ | refine gS_it ?_ ?_ | refine gS_if ?_ ?_ | refine gP_it ?_ ?_ | refine gP_if ?_ ?_) <;> (intro hc; try simp only [Int.reduceLE,Int.reduceLT,Int.reduceEq,Sn] at hc; try (exfalso; omega))) | (with_reducible refine KP_i ?_ ?_; · exact aL) | (with_reducible refine And.intro ?_ ?_)) <;> (try simp only [S0,putAt,List.replicate,Int.reduceAdd,Int.reduceSub,Int.reduceMul,Int.reduceTDiv,Int.reduceTMod,Int.reduceMod,Int.reduceDiv,Nat.reduceLT,Nat.reduceEqDiff,Int.reduceLE,Int.reduceLT,Int.reduceToNat,Int.reduceNeg,Int.reduceEq,Nat.reduceLeDiff,Nat.reducePow,Int.reducePow,reduceIte,Nat.reduceSub,Nat.reduceAdd,Nat.reduceMul, *]))
        all_goals first
          | exact Round_mk (k + 1, _, _) ⟨hlt, nxt (by (try clear t6); rcases Int.lt_or_le (k : Int) n with hkn | hkn <;> first | (exfalso; omega) | (simp [hkn, q1, q2, Int.not_lt.2 hkn, *]; done) | (simp [hkn, q1, q2, *]; done))⟩ (by simp only; omega) (Heap.Le.refl _) rfl rfl
          | exact Fin_le (ok1 _ rfl (by (try clear t6); rcases Int.lt_or_le (k : Int) n with hkn | hkn <;> first | (exfalso; omega) | (simp [hkn, q1, q2, Int.not_lt.2 hkn, *]; done) | (simp [hkn, q1, q2, *]; done))) aL
      · have hb : below p 4 = false := decide_eq_false q
        have ok1 := ok1 false (by unfold okK; rw [ed, decide_eq_false q]; rfl) rfl
        clear nxt el ed ep ts q
        (all_goals (try simp only [S0,putAt,List.replicate,Int.reduceAdd,Int.reduceSub,Int.reduceMul,Int.reduceTDiv,Int.reduceTMod,Int.reduceMod,Int.reduceDiv,Nat.reduceLT,Nat.reduceEqDiff,Int.reduceLE,Int.reduceLT,Int.reduceToNat,Int.reduceNeg,Int.reduceEq,Nat.reduceLeDiff,Nat.reducePow,Int.reducePow,reduceIte,Nat.reduceSub,Nat.reduceAdd,Nat.reduceMul, *])); repeat' ((first | (with_reducible refine fun _ : True => ?_) | refine c_below _ _ ?_ | (with_reducible refine any_h ?_) | ((first | refine AllocQ_i ?_ | refine AllocO_i ?_); intro bk hb0 hbk; (try simp only [set_none'] at hbk)) | ((first | refine condS_i ?_ ?_ | refine pick_i ?_ ?_ | refine gS_it ?_ ?_ | refine gS_if ?_ ?_ | refine gP_it ?_ ?_ | refine gP_if ?_ ?_) <;> (intro hc; try simp only [Int.reduceLE,Int.reduceLT,Int.reduceEq,Sn] at hc; try (exfalso; omega))) | (with_reducible refine KP_i ?_ ?_; · exact aL) | (with_reducible refine And.intro ?_ ?_)) <;> (try simp only [S0,putAt,List.replicate,Int.reduceAdd,Int.reduceSub,Int.reduceMul,Int.reduceTDiv,Int.reduceTMod,Int.reduceMod,Int.reduceDiv,Nat.reduceLT,Nat.reduceEqDiff,Int.reduceLE,Int.reduceLT,Int.reduceToNat,Int.reduceNeg,Int.reduceEq,Nat.reduceLeDiff,Nat.reducePow,Int.reducePow,reduceIte,Nat.reduceSub,Nat.reduceAdd,Nat.reduceMul, *]))
        exact Fin_le ok1 aL
    · obtain rfl : k = 4 := by omega
      have ht := ht hall
      clear hall hf el
      (all_goals (try simp only [S0,putAt,List.replicate,Int.reduceAdd,Int.reduceSub,Int.reduceMul,Int.reduceTDiv,Int.reduceTMod,Int.reduceMod,Int.reduceDiv,Nat.reduceLT,Nat.reduceEqDiff,Int.reduceLE,Int.reduceLT,Int.reduceToNat,Int.reduceNeg,Int.reduceEq,Nat.reduceLeDiff,Nat.reducePow,Int.reducePow,reduceIte,Nat.reduceSub,Nat.reduceAdd,Nat.reduceMul, *])); repeat' ((first | (with_reducible refine fun _ : True => ?_) | (with_reducible refine any_h ?_) | ((first | refine AllocQ_i ?_ | refine AllocO_i ?_); intro bk hb0 hbk; (try simp only [set_none'] at hbk)) | ((first | refine condS_i ?_ ?_ | refine pick_i ?_ ?_ | refine gS_it ?_ ?_ | refine gS_if ?_ ?_ | refine gP_it ?_ ?_ | refine gP_if ?_ ?_) <;> (intro hc; try simp only [Int.reduceLE,Int.reduceLT,Int.reduceEq,Sn] at hc)) | (with_reducible refine KP_i ?_ ?_; · exact aL) | (with_reducible refine And.intro ?_ ?_)) <;> (try simp only [S0,putAt,List.replicate,Int.reduceAdd,Int.reduceSub,Int.reduceMul,Int.reduceTDiv,Int.reduceTMod,Int.reduceMod,Int.reduceDiv,Nat.reduceLT,Nat.reduceEqDiff,Int.reduceLE,Int.reduceLT,Int.reduceToNat,Int.reduceNeg,Int.reduceEq,Nat.reduceLeDiff,Nat.reducePow,Int.reducePow,reduceIte,Nat.reduceSub,Nat.reduceAdd,Nat.reduceMul, *]))
      exact Fin_le ht aL
end
theorem c_spread (i : Ins) (h : K (.bool (spreadB (decide (i.op = 7)) i)) H) : HCalls Tryz.prog w0 103 [i.v] H K := by
  obtain ⟨op, fn, bs, n, dst, a, b, c, m0, m1, m2, m3, p0, p1, p2, p3⟩ := i
  exact spread_a h
end Go.Proofs.YtdmnfaefakceiaaGreat
