/- Check (layer 18). -/
import Derived.Test.YtdmnfaefakceiaaGreatCef
set_option linter.unusedSimpArgs false
set_option linter.unusedVariables false
set_option maxRecDepth 100000
set_option maxHeartbeats 4000000
namespace Go.Proofs.YtdmnfaefakceiaaGreat
open Go.HL Go.RowKit Pb
variable {w0 : World} {H : Heap} {K : Value → Heap → Prop}

/-- May an instruction be at its place? -/
def okI (c : Cd) (k : Nat) (i : Ins) : Prop := legalB c k i = true ∧ keepI i = i ∧ ∀ r ∈ regsL i, below r c.rg = true
/-- May a code be? -/
def mayP (c : Cd) : Prop := (c.st = 1 ∨ c.st = 2) ∧ c.is.length ≤ 4096 ∧ below c.rg 1025 = true ∧ below c.ab (if c.st = 1 then 9 else 1) = true ∧ below c.un 33 = true ∧ below c.va 5 = true ∧ ∀ k i, c.is[k]? = some i → okI c k i
theorem ceq_row (i j : Ins) : ceq i.row j.row = some (decide (i = j)) := by
  by_cases e : i = j
  · subst e
    simp [Ins.row, ceq]
  · rw [decide_eq_false e]
    obtain ⟨op, fn, bs, n, dst, a, b, c, m0, m1, m2, m3, p0, p1, p2, p3⟩ := i
    obtain ⟨op', fn', bs', n', dst', a', b', c', m0', m1', m2', m3', p0', p1', p2', p3'⟩ := j
    simp only [Ins.mk.injEq] at e
    simp only [Ins.row, ceq, if_true, Option.map_some, Bool.and_true, Option.some.injEq]
    rw [Bool.eq_false_iff]
    intro h
    apply e
    simpa [Bool.and_eq_true, beq_iff_eq] using h
theorem rdn_blk {G : Heap} {b n : Nat} {t : Kd} {cs : List Value} (h : G b = some ⟨t, cs⟩) (hl : cs.length = n) (hn : 0 < n) : rdn w0 G b 0 n = some cs := by
  subst hl
  exact rdn_of (fun e => by subst e; simp at hn) fun i hi => by unfold rd1; rw [h]; simp only [Nat.zero_add]
/- code Check -/
def M31 : MC :=
  .seq (.reg [oX 1 (.box 24 (.tmp 0)),
 oX 2 (.mv (kX 0))])
 (.seq (.reg [oX 3 (.mv (kX 8))])
 (.seq (.seq (.reg [oX 6 (.fa 0 (.tmp 1)),
 oX 7 (.ld1 (.tmp 6))])
 (.block 0 (.seq (.reg [oX 9 (bK .eql 7 1),
 vX 8 9])
 (.cond (.tmp 8)
 (.skip)
 (.seq (.reg [oX 11 (bK .eql 7 2),
 vX 10 11])
 (.cond (.tmp 10)
 (.reg [oX 3 (.mv (kX 0))])
 (.seq (.reg [oX 2 (.mv (kX 260))])
 (.ret))))))))
 (.seq (.seq (.reg [oX 12 (.fa 1 (.tmp 1)),
 oX 13 (.ld1 (.tmp 12)),
 oX 14 (.len (.tmp 13)),
 oX 15 (bK .gtr 14 4096),
 vX 16 15,
 ⟨(some 17),.fa 2 (.tmp 1),(some (16,false))⟩,
 ⟨(some 18),.ld1 (.tmp 17),(some (16,false))⟩,
 ⟨(some 19),.call 50 [(.tmp 18),(kX 1025)],(some (16,false))⟩,
 ⟨(some 20),.un .not (.tmp 19),(some (16,false))⟩,
 oX 21 (.pick (.tmp 16) (.const (.bool true)) (.tmp 20)),
 vX 22 21,
 ⟨(some 23),.fa 3 (.tmp 1),(some (22,false))⟩,
 ⟨(some 24),.ld1 (.tmp 23),(some (22,false))⟩,
 ⟨(some 25),.mv (.tmp 3),(some (22,false))⟩,
 ⟨(some 26),bK .add 25 1,(some (22,false))⟩,
 ⟨(some 27),.call 50 [(.tmp 24),(.tmp 26)],(some (22,false))⟩,
 ⟨(some 28),.un .not (.tmp 27),(some (22,false))⟩,
 oX 29 (.pick (.tmp 22) (.const (.bool true)) (.tmp 28)),
 vX 30 29,
 ⟨(some 31),.fa 4 (.tmp 1),(some (30,false))⟩,
 ⟨(some 32),.ld1 (.tmp 31),(some (30,false))⟩,
 ⟨(some 33),.call 50 [(.tmp 32),(kX 33)],(some (30,false))⟩,
 ⟨(some 34),.un .not (.tmp 33),(some (30,false))⟩,
 oX 35 (.pick (.tmp 30) (.const (.bool true)) (.tmp 34)),
 vX 36 35,
 ⟨(some 37),.fa 5 (.tmp 1),(some (36,false))⟩,
 ⟨(some 38),.ld1 (.tmp 37),(some (36,false))⟩,
 ⟨(some 39),.call 50 [(.tmp 38),(kX 5)],(some (36,false))⟩,
 ⟨(some 40),.un .not (.tmp 39),(some (36,false))⟩,
 oX 41 (.pick (.tmp 36) (.const (.bool true)) (.tmp 40))])
 (.cond (.tmp 41)
 (.seq (.reg [oX 2 (.mv (kX 260))])
 (.ret))
 (.skip)))
 (.seq (.seq (.reg [oX 42 (.fa 1 (.tmp 1)),
 oX 43 (.ld1 (.tmp 42)),
 oX 44 (.len (.tmp 43)),
 oX 45 (.mv (kX 0))])
 (.block 1 (.loop (.seq (.reg [oX 46 (bX .lss 45 44)])
 (.seq (.cond (.tmp 46)
 (.skip)
 (.exit 1))
 (.seq (.block 2 (.seq (.reg [vX 47 45,
 oX 48 (.is 16 (.tmp 43) (.tmp 45)),
 oX 49 (.ldn 16 (.tmp 48)),
 oX 5 (.alloc 46 [(.int .i64 0),(.int .i64 0),(.int .i64 0),(.int .i64 0),(.int .i64 0),(.int .i64 0),(.int .i64 0),(.int .i64 0),(.int .i32 0),(.int .i32 0),(.int .i32 0),(.int .i32 0),(.int .i64 0),(.int .i64 0),(.int .i64 0),(.int .i64 0)]),
 vX 4 47,
 ⟨none,.stn 16 (.tmp 5) (.tmp 49),none⟩])
 (.seq (.any [(true,0,[],oX 50 (.ldn 6 (.tmp 1))),
 (false,1,[0,5,7,11,13],vX 51 4),
 (false,2,[5,7,11,13],oX 52 (.call 51 [(.tmp 50),(.tmp 51)])),
 (false,3,[5,7,11,13],oX 53 (.un .not (.tmp 52))),
 (false,4,[5,7,11,13],vX 54 53),
 (true,5,[],⟨(some 55),.ldn 16 (.tmp 5),(some (54,false))⟩),
 (true,7,[],⟨(some 57),.ldn 16 (.tmp 5),(some (54,false))⟩),
 (false,6,[7,11,13],⟨(some 56),.call 52 [(.tmp 55)],(some (54,false))⟩),
 (false,8,[11,13],⟨(some 58),.eqa true 16 (.tmp 56) (.tmp 57),(some (54,false))⟩),
 (false,9,[11,13],oX 59 (.pick (.tmp 54) (.const (.bool true)) (.tmp 58))),
 (false,10,[11,13],vX 60 59),
 (true,11,[],⟨(some 61),.ldn 16 (.tmp 5),(some (60,false))⟩),
 (true,13,[],⟨(some 63),.fn 55 [(.tmp 1)],(some (60,false))⟩),
 (false,12,[13],⟨(some 62),.call 54 [(.tmp 61)],(some (60,false))⟩),
 (false,14,[],⟨(some 64),.call 53 [(.tmp 62),(.tmp 63)],(some (60,false))⟩),
 (false,15,[],oX 65 (.pick (.tmp 60) (.const (.bool true)) (.tmp 64)))])
 (.cond (.tmp 65)
 (.seq (.reg [oX 2 (.mv (kX 260))])
 (.ret))
 (.skip)))))
 (.reg [oX 66 (bK .add 45 1),
 vX 45 66])))))))
 (.seq (.reg [oX 2 (.mv (kX 0))])
 (.ret))))))
theorem k31 : fnOk Tryz.prog 31 = some (M31, [.t 2], 67) := by kernel_rfl

theorem c_Check (c : Cd) (hc : CdAt w0 H c) (hy : mayP c → K (.int .i64 0) H) (hn : ¬ mayP c → K (.int .i64 260) H) : HCalls Tryz.prog w0 31 [c.v] H K := by
  replace hy : mayP c → HL.Fin K (.int .i64 0) H := fun h => Fin_mk (Heap.Le.refl _) (hy h)
  replace hn : ¬ mayP c → HL.Fin K (.int .i64 260) H := fun h => Fin_mk (Heap.Le.refl _) (hn h)
  have hL := fun (G : Heap) (K : Value → Heap → Prop) (k : Nat) (i : Ins) (g : Grow w0 H G) (hk : c.is[k]? = some i) => c_legal (K := K) c k i (hc.grow g) hk
  have hrow := fun (G : Heap) (g : Grow w0 H G) (k : Nat) (i : Ins) => (hc.grow g).row (k := k) (i := i)
  have hm := hc.lm
  unfold mayP at hy hn
  unfold maxLen at hm
  obtain ⟨st, adr, cap, is, rg, ab, un, va⟩ := c
  have okl : ∀ k i, okI ⟨st, adr, cap, is, rg, ab, un, va⟩ k i = (legalB ⟨st, adr, cap, is, rg, ab, un, va⟩ k i = true ∧ keepI i = i ∧ ∀ r ∈ regsL i, below r rg = true) := fun _ _ => rfl
  unfold Cd.v at hL ⊢
  simp only at hL hrow hm hy hn
  generalize okI ⟨st, adr, cap, is, rg, ab, un, va⟩ = ok at hy hn okl
  generalize legalB ⟨st, adr, cap, is, rg, ab, un, va⟩ = lg at hL okl
  clear hc
  obtain ⟨len, el⟩ : ∃ l, is.length = l := ⟨_, rfl⟩
  rw [el] at hm
  simp only [el] at hL hy hn ⊢
  replace hL : Keep _ := hL
  replace hy : Keep _ := hy
  replace hn : Keep _ := hn
  replace okl : Keep _ := okl
  replace hrow : Keep _ := hrow
  replace el : Keep _ := el
  rcases (show st = 1 ∨ st = 2 ∨ (¬ st = 1 ∧ ¬ st = 2) by omega) with rfl | rfl | ⟨s1, s2⟩
  all_goals refine HL.hc k31 999 ?_; unfold M31
  all_goals simp only [S0,putAt,List.replicate,Int.reduceAdd,Int.reduceSub,Int.reduceMul,Int.reduceTDiv,Int.reduceTMod,Int.reduceMod,Int.reduceDiv,Nat.reduceLT,Nat.reduceEqDiff,Int.reduceLE,Int.reduceLT,Int.reduceToNat,Int.reduceNeg,Int.reduceEq,Nat.reduceLeDiff,Nat.reducePow,Int.reducePow,reduceIte,Nat.reduceSub,Nat.reduceAdd,Nat.reduceMul, *]
  all_goals (refine AllocQ_i ?_; intro b1 hb1 hn1)
  all_goals (all_goals (try simp only [S0,putAt,List.replicate,Int.reduceAdd,Int.reduceSub,Int.reduceMul,Int.reduceTDiv,Int.reduceTMod,Int.reduceMod,Int.reduceDiv,Nat.reduceLT,Nat.reduceEqDiff,Int.reduceLE,Int.reduceLT,Int.reduceToNat,Int.reduceNeg,Int.reduceEq,Nat.reduceLeDiff,Nat.reducePow,Int.reducePow,reduceIte,Nat.reduceSub,Nat.reduceAdd,Nat.reduceMul, *])); repeat' ((first | (with_reducible refine fun _ : True => ?_) | refine c_below _ _ ?_ | (with_reducible refine any_h ?_) | ((first | refine AllocQ_i ?_ | refine AllocO_i ?_); intro bk hb0 hbk; (try simp only [set_none'] at hbk); (try have hbn := aNn); (try simp only [set_none'] at hbn); (try have hbm := aNm); (try simp only [set_none'] at hbm)) | ((first | refine condS_i ?_ ?_ | refine pick_i ?_ ?_ | refine gS_it ?_ ?_ | refine gS_if ?_ ?_ | refine gP_it ?_ ?_ | refine gP_if ?_ ?_) <;> (intro hc; try simp only [Int.reduceLE,Int.reduceLT,Int.reduceEq,Sn] at hc)) | (with_reducible refine KP_i ?_ ?_; · exact aL) | (with_reducible refine And.intro ?_ ?_)) <;> (try simp only [S0,putAt,List.replicate,Int.reduceAdd,Int.reduceSub,Int.reduceMul,Int.reduceTDiv,Int.reduceTMod,Int.reduceMod,Int.reduceDiv,Nat.reduceLT,Nat.reduceEqDiff,Int.reduceLE,Int.reduceLT,Int.reduceToNat,Int.reduceNeg,Int.reduceEq,Nat.reduceLeDiff,Nat.reducePow,Int.reducePow,reduceIte,Nat.reduceSub,Nat.reduceAdd,Nat.reduceMul, *]))
  any_goals (refine Fin_le (hn ?_) aL; clear hL hy hn hrow okl el; rintro ⟨q1, q2, q3, q4, q5, q6, -⟩; first | omega | (simp [*] at q3; done) | (simp [*] at q4; done) | (simp [*] at q5; done) | (simp [*] at q6; done))
  all_goals
    have hX : len ≤ 4096 := by omega
    replace hy : (∀ k i, is[k]? = some i → ok k i) → HL.Fin K (.int .i64 0) H := fun hall => hy ⟨by omega, hX, by assumption, by simp [*], by assumption, by assumption, hall⟩
    replace hn : ∀ k i, is[k]? = some i → ¬ ok k i → HL.Fin K (.int .i64 260) H := fun k i hk hno => hn fun h => hno (h.2.2.2.2.2.2 k i hk)
    replace hy : Keep _ := hy
    replace hn : Keep _ := hn
    refine loopq_heap ?_
    intro H0 eH
    have k0 : H0 b1 = some _ := at_of eH (Heap.set_same _ _ _)
    have g0 : Grow w0 H H0 := by rw [eH]; exact aG
    have l0 : Heap.Le H H0 := g0.le
    have hrd := rdn_blk (w0 := w0) (n := 6) k0 rfl (by omega)
    have hne := blk_ne k0
    clear eH hn1 hb1
    refine loop_g 46 (fun s : Nat × Value × Value => [(4, s.2.1), (5, s.2.2), (45, .int .i64 (s.1 : Nat))]) (fun s => H0) (fun s => s.1 ≤ len ∧ ∀ k i, k < s.1 → is[k]? = some i → ok k i) (fun s => len - s.1) (0, undef, undef) ⟨Nat.zero_le _, fun k i hk => by simp at hk⟩ (Heap.Le.refl _) rfl ?_
    intro ⟨k, v4, v5⟩ g ⟨hk, hall⟩
    simp only at hk hall
    rcases Nat.lt_or_ge k len with hlt | hge
    · obtain ⟨i, ei⟩ : ∃ i, is[k]? = some i := ⟨_, List.getElem?_eq_getElem (by have e2 : is.length = _ := el; omega)⟩
      obtain ⟨b, o, rfl, hr, hf⟩ := hrow H0 g0 k i ei
      have hL := fun (G : Heap) (K : Value → Heap → Prop) (g : Grow w0 H G) => hL G K k i g ei
      have hKp := fun (G : Heap) (K : Value → Heap → Prop) => c_keep (w0 := w0) (H := G) (K := K) i
      have hR := fun (G : Heap) (K : Value → Heap → Prop) => c_regs (w0 := w0) (H := G) (K := K) i
      obtain ⟨u, eu⟩ : ∃ u, lg k i = u := ⟨_, rfl⟩
      obtain ⟨q, eq⟩ : ∃ q, decide (keepI i = i) = q := ⟨_, rfl⟩
      obtain ⟨X, eX⟩ : ∃ X, (keepI i).v = .agg X := ⟨_, rfl⟩
      have hX1 : X.size = 16 := by unfold Ins.v at eX; simp only [Value.agg.injEq] at eX; rw [← eX]; rfl
      have hX2 : ceq X.toList i.row = some q := by unfold Ins.v at eX; simp only [Value.agg.injEq] at eX; rw [← eX, ← eq]; exact ceq_row _ _
      obtain ⟨rl, erl⟩ : ∃ rl, regsL i = rl := ⟨_, rfl⟩
      have hrl := regs_len i
      rw [erl] at hrl
      obtain ⟨cn, ecn⟩ : ∃ cn, decide (¬ ∀ r ∈ rl, below r rg = true) = cn := ⟨_, rfl⟩
      have hC := fun (G : Heap) (K : Value → Heap → Prop) (a : Option Addr) (c : Nat) (g : Grow w0 H0 G) (hA : SlAt w0 G a (rl.map fun x => .int .i64 x)) => c_Contains (rg := rg) (K := K) (cap := c) (g.some k0) hA (by unfold maxLen; omega)
      have hok := okl k i
      rw [eu, erl] at hok
      rw [eX] at hKp
      simp only [erl] at hR
      simp only [eu] at hL
      simp only [ecn] at hC
      have fin : u = false ∨ q = false ∨ cn = true → HL.Fin K (.int .i64 260) H := fun e => hn k i ei (by
        rw [hok]
        rintro ⟨e1, e2, e3⟩
        rcases e with e | e | e
        · rw [e] at e1; cases e1
        · rw [← eq] at e; exact of_decide_eq_false e e2
        · rw [← ecn] at e; exact of_decide_eq_true e e3)
      have nxt : u = true → q = true → cn = false → ∀ k' i', k' < k + 1 → is[k']? = some i' → ok k' i' := fun e1 e2 e3 k' i' hlt' hi' => by
        rcases Nat.lt_or_ge k' k with h' | h'
        · exact hall k' i' h' hi'
        · obtain rfl : k' = k := by omega
          rw [ei] at hi'
          cases hi'
          rw [hok]
          exact ⟨e1, of_decide_eq_true (by rw [eq]; exact e2), Classical.not_not.1 (of_decide_eq_false (by rw [ecn]; exact e3))⟩
      have t0 : (k : Int) < len := by omega
      have t6 : IntKind.i64.wrap ((k : Int) + 1) = (k : Int) + 1 := Bw.1 _ (by omega) (by omega)
      unfold Ins.v Ins.row at hKp hR
      unfold Ins.row at hr hX2
      clear hy hn hall okl hok ecn erl eu eq eX hrow ei el
      replace hL : Keep _ := hL
      replace hKp : Keep _ := hKp
      replace hR : Keep _ := hR
      replace hC : Keep _ := hC
      replace fin : Keep _ := fin
      replace nxt : Keep _ := nxt
      cases u
      rotate_left
      cases q
      rotate_left
      cases cn
      all_goals (all_goals (try simp only [S0,putAt,List.replicate,Int.reduceAdd,Int.reduceSub,Int.reduceMul,Int.reduceTDiv,Int.reduceTMod,Int.reduceMod,Int.reduceDiv,Nat.reduceLT,Nat.reduceEqDiff,Int.reduceLE,Int.reduceLT,Int.reduceToNat,Int.reduceNeg,Int.reduceEq,Nat.reduceLeDiff,Nat.reducePow,Int.reducePow,reduceIte,Nat.reduceSub,Nat.reduceAdd,Nat.reduceMul, *])); repeat' ((first | (with_reducible refine fun _ : True => ?_) | refine hL _ _ aG ?_ | refine hKp _ _ ?_ | refine hR _ _ (fun ra rc G hB hg => ?_)  | refine hC _ _ _ _ aG hB.slAt ?_ | (with_reducible refine any_h ?_) | ((first | refine AllocQ_i ?_ | refine AllocO_i ?_); intro bk hb0 hbk; (try simp only [set_none'] at hbk); (try have hbn := aNn); (try simp only [set_none'] at hbn); (try have hbm := aNm); (try simp only [set_none'] at hbm)) | ((first | refine condS_i ?_ ?_ | refine pick_i ?_ ?_ | refine gS_it ?_ ?_ | refine gS_if ?_ ?_ | refine gP_it ?_ ?_ | refine gP_if ?_ ?_) <;> (intro hc; try simp only [Int.reduceLE,Int.reduceLT,Int.reduceEq,Sn] at hc)) | (with_reducible refine KP_i ?_ ?_; · exact aL) | (with_reducible refine And.intro ?_ ?_)) <;> (try simp only [S0,putAt,List.replicate,Int.reduceAdd,Int.reduceSub,Int.reduceMul,Int.reduceTDiv,Int.reduceTMod,Int.reduceMod,Int.reduceDiv,Nat.reduceLT,Nat.reduceEqDiff,Int.reduceLE,Int.reduceLT,Int.reduceToNat,Int.reduceNeg,Int.reduceEq,Nat.reduceLeDiff,Nat.reducePow,Int.reducePow,reduceIte,Nat.reduceSub,Nat.reduceAdd,Nat.reduceMul, *]))
      all_goals first
        | exact Round_mk (k + 1, _, _) ⟨hlt, nxt rfl rfl rfl⟩ (by simp only; omega) aL rfl rfl
        | exact Fin_le (fin (by simp)) aL
    · obtain rfl : k = len := by omega
      have fin := hy fun k i hk => hall k i (by have := (List.getElem?_eq_some_iff.1 hk).1; have e2 : is.length = _ := el; omega) hk
      have t0 : ¬ ((k : Nat) : Int) < (k : Nat) := by omega
      clear hall hL hrow hn okl hy
      (all_goals (try simp only [S0,putAt,List.replicate,Int.reduceAdd,Int.reduceSub,Int.reduceMul,Int.reduceTDiv,Int.reduceTMod,Int.reduceMod,Int.reduceDiv,Nat.reduceLT,Nat.reduceEqDiff,Int.reduceLE,Int.reduceLT,Int.reduceToNat,Int.reduceNeg,Int.reduceEq,Nat.reduceLeDiff,Nat.reducePow,Int.reducePow,reduceIte,Nat.reduceSub,Nat.reduceAdd,Nat.reduceMul, *])); repeat' ((first | (with_reducible refine fun _ : True => ?_) | (with_reducible refine any_h ?_) | ((first | refine AllocQ_i ?_ | refine AllocO_i ?_); intro bk hb0 hbk; (try simp only [set_none'] at hbk); (try have hbn := aNn); (try simp only [set_none'] at hbn); (try have hbm := aNm); (try simp only [set_none'] at hbm)) | ((first | refine condS_i ?_ ?_ | refine pick_i ?_ ?_ | refine gS_it ?_ ?_ | refine gS_if ?_ ?_ | refine gP_it ?_ ?_ | refine gP_if ?_ ?_) <;> (intro hc; try simp only [Int.reduceLE,Int.reduceLT,Int.reduceEq,Sn] at hc)) | (with_reducible refine KP_i ?_ ?_; · exact aL) | (with_reducible refine And.intro ?_ ?_)) <;> (try simp only [S0,putAt,List.replicate,Int.reduceAdd,Int.reduceSub,Int.reduceMul,Int.reduceTDiv,Int.reduceTMod,Int.reduceMod,Int.reduceDiv,Nat.reduceLT,Nat.reduceEqDiff,Int.reduceLE,Int.reduceLT,Int.reduceToNat,Int.reduceNeg,Int.reduceEq,Nat.reduceLeDiff,Nat.reducePow,Int.reducePow,reduceIte,Nat.reduceSub,Nat.reduceAdd,Nat.reduceMul, *]))
      exact Fin_le fin aL
end Go.Proofs.YtdmnfaefakceiaaGreat
