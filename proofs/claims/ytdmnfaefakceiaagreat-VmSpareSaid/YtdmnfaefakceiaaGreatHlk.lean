/- The heap logic, part k: the equality of aggregates whose cells are all integers. -/
import Derived.Test.YtdmnfaefakceiaaGreatHld
set_option linter.unusedSimpArgs false
set_option linter.unusedVariables false
namespace Go.HL
open Go.RowKit

theorem ceq_append : ∀ (a b a' b' : List Value), a.length = a'.length → ceq (a ++ b) (a' ++ b') = match ceq a a', ceq b b' with | some r, some s => some (r && s) | _, _ => none
  | [], b, [], b', _ => by simp only [List.nil_append, ceq]; cases ceq b b' <;> simp
  | [], _, _ :: _, _, h => by simp at h
  | _ :: _, _, [], _, h => by simp at h
  | x :: a, b, y :: a', b', h => by
    have ih := ceq_append a b a' b' (by simpa using h)
    cases x <;> cases y <;> simp only [List.cons_append, ceq, Option.map] <;> (try rfl)
    split
    · rw [ih]
      cases ceq a a' <;> cases ceq b b' <;> simp [Bool.and_assoc]
    · rfl

theorem ceq_split {xs ys : List Value} {r : Bool} (n : Nat) (hl : xs.length = ys.length) (h : ceq xs ys = some r) : ∃ r1 r2, ceq (xs.take n) (ys.take n) = some r1 ∧ ceq (xs.drop n) (ys.drop n) = some r2 ∧ r = (r1 && r2) := by
  have e := ceq_append (xs.take n) (xs.drop n) (ys.take n) (ys.drop n) (by simp [hl])
  rw [List.take_append_drop, List.take_append_drop, h] at e
  cases h1 : ceq (xs.take n) (ys.take n) with
  | none => simp [h1] at e
  | some r1 => cases h2 : ceq (xs.drop n) (ys.drop n) with
    | none => simp [h1, h2] at e
    | some r2 => simp [h1, h2] at e; exact ⟨r1, r2, rfl, rfl, e⟩

section
variable {P : Program}

/-- The value of cells at a type. -/
def vOf (P : Program) (t : TypeId) (xs : List Value) : Value :=
  match P.underlying t with
  | some d => if aggD d then .agg xs.toArray else xs.headD undef
  | none => undef

theorem run_part {t : TypeId} {n : Nat} {D : Nat} (hp : plainT P D t = some n) (xs : List Value) (off : Nat) (hl : off + n ≤ xs.length) (w : World) :
    (part t xs.toArray off).run P w = .ok (vOf P t ((xs.drop off).take n)) w := by
  cases D with
  | zero => simp [plainT] at hp
  | succ D =>
    unfold plainT at hp
    split at hp <;> (try (cases hp; done))
    · rename_i k i hu hi
      split at hp <;> cases hp
      have hlt : off < xs.length := by omega
      have e1 : (xs.drop off).take 1 = [xs[off]] := by rw [List.drop_eq_getElem_cons hlt]; rfl
      simp only [part, Sem.run_bind, run_isAgg hu, aggD, Result.andThen_ok, vOf, hu, e1]
      simp [hlt]
    · rename_i m e i hu hi
      split at hp <;> (try (cases hp; done))
      split at hp <;> cases hp
      rename_i hc
      simp only [part, Sem.run_bind, run_isAgg hu, aggD, Result.andThen_ok, if_true, run_siz hi, Sem.run_pure, vOf, hu, hc.2]
      rw [extract_toList]
    · rename_i fs i hu hi
      split at hp <;> (try (cases hp; done))
      split at hp <;> (try (cases hp; done))
      split at hp <;> cases hp
      rename_i hc
      simp only [part, Sem.run_bind, run_isAgg hu, aggD, Result.andThen_ok, if_true, run_siz hi, Sem.run_pure, vOf, hu, hc]
      rw [extract_toList]

theorem vOf_int {t : TypeId} {k : IntKind} (hu : P.underlying t = some (.int k)) (v : Value) : vOf P t [v] = v := by simp [vOf, hu, aggD]
theorem vOf_bool {t : TypeId} (hu : P.underlying t = some .bool) (v : Value) : vOf P t [v] = v := by simp [vOf, hu, aggD]

theorem eqItems_plain {e : TypeId} {c D d : Nat} (hp : plainT P D e = some c) (hce : P.cellsOf e = c)
    (ih : ∀ (xs ys : List Value) (r : Bool), xs.length = c → ys.length = c → ceq xs ys = some r → ∀ w, (Op.equalIn d e (vOf P e xs) (vOf P e ys)).run P w = .ok r w) (xs ys : List Value) :
    ∀ (m i : Nat) (r : Bool), xs.length = (i + m) * c → ys.length = (i + m) * c → ceq (xs.drop (i * c)) (ys.drop (i * c)) = some r → ∀ w, (Op.eqItems d e (P.cellsOf e) xs.toArray ys.toArray (List.range' i m)).run P w = .ok r w
  | 0, i, r, hx, hy, h, w => by
    have e1 : xs.drop (i * c) = [] := List.drop_of_length_le (by simp [hx])
    have e2 : ys.drop (i * c) = [] := List.drop_of_length_le (by simp [hy])
    rw [e1, e2] at h
    simp [ceq] at h; subst h
    simp [Op.eqItems]
  | m + 1, i, r, hx, hy, h, w => by
    obtain ⟨r1, r2, h1, h2, hr⟩ := ceq_split c (by simp [hx, hy]) h
    have hle : i * c + c ≤ (i + (m + 1)) * c := by
      have : (i + (m + 1)) * c = i * c + c + m * c := by rw [show i + (m + 1) = i + 1 + m by omega, Nat.add_mul, Nat.add_mul, Nat.one_mul]
      omega
    have rest := eqItems_plain hp hce ih xs ys m (i + 1) r2 (by rw [hx]; congr 1; omega) (by rw [hy]; congr 1; omega) (by
      rw [List.drop_drop, List.drop_drop] at h2
      rw [show (i + 1) * c = i * c + c by rw [Nat.add_mul, Nat.one_mul]]; exact h2) w
    rw [hce] at rest ⊢
    simp only [List.range'_succ, Op.eqItems, Sem.run_bind, run_part hp xs (i * c) (by omega), run_part hp ys (i * c) (by omega), Result.andThen_ok]
    rw [ih _ _ r1 (by simp; omega) (by simp; omega) h1]
    simp only [Result.andThen_ok]
    cases r1
    · simp [hr]
    · simp only [Bool.not_true, Bool.false_eq_true, if_false]
      rw [rest, hr]; simp

theorem eqFields_plain {D d : Nat} (ih : ∀ (e : TypeId) (c : Nat), plainT P D e = some c → ∀ (xs ys : List Value) (r : Bool), xs.length = c → ys.length = c → ceq xs ys = some r → ∀ w, (Op.equalIn d e (vOf P e xs) (vOf P e ys)).run P w = .ok r w) (xs ys : List Value) :
    ∀ (fs : List Field) (o n : Nat) (r : Bool), fldsW (plainT P D) fs o = some n → xs.length = n → ys.length = n → ceq (xs.drop o) (ys.drop o) = some r → ∀ w, (Op.eqFields d xs.toArray ys.toArray fs).run P w = .ok r w
  | [], o, n, r, hf, hx, hy, h, w => by
    simp [fldsW] at hf; subst hf
    rw [List.drop_of_length_le (by omega), List.drop_of_length_le (by omega)] at h
    simp [ceq] at h; subst h
    simp [Op.eqFields]
  | f :: fs, o, n, r, hf, hx, hy, h, w => by
    unfold fldsW at hf
    split at hf <;> (try (cases hf; done))
    rename_i hc
    simp only [not_or, ne_eq, Decidable.not_not] at hc
    split at hf <;> (try (cases hf; done))
    rename_i c hpc
    have mono : ∀ (fs : List Field) (o n : Nat), fldsW (plainT P D) fs o = some n → o ≤ n := by
      intro fs
      induction fs with
      | nil => intro o n h; simp [fldsW] at h; omega
      | cons g gs ihg =>
        intro o n h
        unfold fldsW at h
        split at h <;> (try (cases h; done))
        split at h <;> (try (cases h; done))
        have := ihg _ _ h
        omega
    have hle := mono _ _ _ hf
    obtain ⟨r1, r2, h1, h2, hr⟩ := ceq_split c (by simp [hx, hy]) h
    have rest := eqFields_plain ih xs ys fs (o + c) n r2 hf hx hy (by rw [List.drop_drop, List.drop_drop] at h2; exact h2) w
    simp only [Op.eqFields, ne_eq, hc.1, not_false_eq_true, if_true, hc.2, Sem.run_bind, run_part hpc xs o (by omega), run_part hpc ys o (by omega), Result.andThen_ok]
    rw [ih _ _ hpc _ _ r1 (by simp; omega) (by simp; omega) h1]
    simp only [Result.andThen_ok]
    cases r1
    · simp [hr]
    · simp only [Bool.not_true, Bool.false_eq_true, if_false]
      rw [rest, hr]; simp

theorem equal_plain : ∀ (D : Nat) (t : TypeId) (n : Nat), plainT P D t = some n → ∀ (d : Nat), D ≤ d → ∀ (xs ys : List Value) (r : Bool), xs.length = n → ys.length = n → ceq xs ys = some r →
    ∀ w, (Op.equalIn d t (vOf P t xs) (vOf P t ys)).run P w = .ok r w
  | 0, t, n, hp => by simp [plainT] at hp
  | D + 1, t, n, hp => by
    intro d hd xs ys r hx hy h w
    obtain ⟨d, rfl⟩ : ∃ d', d = d' + 1 := ⟨d - 1, by omega⟩
    unfold plainT at hp
    split at hp <;> (try (cases hp; done))
    · rename_i k i hu hi
      split at hp <;> cases hp
      obtain ⟨x, rfl⟩ := List.length_eq_one_iff.1 hx
      obtain ⟨y, rfl⟩ := List.length_eq_one_iff.1 hy
      rw [vOf_int hu, vOf_int hu]
      cases x <;> cases y <;> simp [ceq] at h
      obtain ⟨rfl, rfl⟩ := h
      exact run_equalIn_int w d t _ _ _ _ hu
    · rename_i m e i hu hi
      split at hp <;> (try (cases hp; done))
      rename_i c hpc
      split at hp <;> cases hp
      rename_i hc
      have hie : ∃ ie, P.info? e = some ie := by
        cases D with
        | zero => simp [plainT] at hpc
        | succ D =>
          unfold plainT at hpc
          split at hpc <;> (try (cases hpc; done)) <;> exact ⟨_, by assumption⟩
      obtain ⟨ie, hie⟩ := hie
      have := eqItems_plain hpc hc.1 (fun xs ys r hx hy h w => equal_plain D e c hpc d (by omega) xs ys r hx hy h w) xs ys m 0 r (by simpa using hx) (by simpa using hy) (by simpa using h) w
      simp only [vOf, hu, aggD, if_true]
      rw [run_equalIn_array w d xs.toArray ys.toArray hu hie, List.range_eq_range']
      exact this
    · rename_i fs i hu hi
      split at hp <;> (try (cases hp; done))
      rename_i hst
      split at hp <;> (try (cases hp; done))
      rename_i n' hfl
      split at hp <;> cases hp
      have := eqFields_plain (fun e c hpc xs ys r hx hy h w => equal_plain D e c hpc d (by omega) xs ys r hx hy h w) xs ys fs.toList 0 n r hfl hx hy (by simpa using h) w
      have hfo : P.fieldsOf t = fs := by simp [Program.fieldsOf, hu]
      simp only [vOf, hu, aggD, if_true]
      rw [run_equalIn_struct w d t xs.toArray ys.toArray (by rw [hfo]; exact hu) (by simpa using hst), hfo]
      exact this

theorem yl_eqa {w0 : World} {H : Heap} {T : List Value} {φ : Value → Prop} {t : TypeId} {n : Nat} {d : TypeDesc} (hu : P.underlying t = some d) (hd : aggD d = true) (hg : P.eqGuardType P.depth t = false) (hp : plainT P 50 t = some n) {x y : Operand} (neg : Bool)
    (h : qv P w0 (.eqa neg n x y) T H φ) : Yl P w0 H (cmpS neg t x y (ev T x) (ev T y)) φ := by
  simp only [qv, ld1Q, ldnQ, nilQ, eqbQ, eqpQ, eqsQ, eqmQ, eqaQ, unQ, convQ, faQ, f1Q, fmQ, iaQ, isQ, ixQ, ixmQ, slcQ, slaQ, extQ, lenQ, mnQ, mxQ] at h
  split at h <;> (try exact h.elim)
  rename_i xs ys ha hb
  obtain ⟨hx, hy, h⟩ := h
  obtain ⟨r, hr, hφ⟩ := optQ_some h
  refine ⟨_, hφ, fun w _ => ?_⟩
  have he : ∀ d' w, (Op.equalIn (d' + 50) t (.agg xs) (.agg ys)).run P w = .ok r w := by
    intro d' w
    have := equal_plain 50 t n hp (d' + 50) (by omega) xs.toList ys.toList r (by simpa using hx) (by simpa using hy) hr w
    simpa [vOf, hu, hd] using this
  have he' : ∀ w, (Op.equal t (.agg xs) (.agg ys)).run P w = .ok r w := fun w => he 9950 w
  rw [ha, hb]
  cases neg
  · simp [cmpS, run_eqGuard_agg w _ t x y xs ys hg, Go.binOp, he']
  · simp [cmpS, run_eqGuard_agg w _ t x y xs ys hg, Go.binOp, he']

end
end Go.HL
