/- The heap logic, part d: each resolved operation is sound for the loaded one. -/
import Derived.Test.YtdmnfaefakceiaaGreatHlc
set_option linter.unusedSimpArgs false
set_option linter.unusedVariables false
namespace Go.HL
open Go.RowKit

theorem optQ_some {α : Type} {o : Option α} {φ : α → Prop} (h : optQ o φ) : ∃ v, o = some v ∧ φ v := by
  cases o with
  | none => exact h.elim
  | some v => exact ⟨v, rfl, h⟩

/-- An operation that yields a value in every world that holds H, and leaves the world. -/
def Yl (P : Program) (w0 : World) (H : Heap) (s : Sem Next) (φ : Value → Prop) : Prop := ∃ v, φ v ∧ ∀ {F : Nat → Prop} w, Own w0 F H w → s.run P w = .ok (.value v) w

section
variable {P : Program} {w0 : World} {H : Heap} {T : List Value} {φ : Value → Prop} {ρ : Operand → Value}

theorem yl_load1 {t : TypeId} {d : TypeDesc} (hu : P.underlying t = some d) (hd : aggD d = false) {x : Operand} (h : qv P w0 (.ld1 x) T H φ) :
    Yl P w0 H (do pure (.value (← Instr.loadAt t (ev T x)))) φ := by
  simp only [qv, ld1Q, ldnQ, nilQ, eqbQ, eqpQ, eqsQ, eqmQ, eqaQ, unQ, convQ, faQ, f1Q, fmQ, iaQ, isQ, ixQ, ixmQ, slcQ, slaQ, extQ, lenQ, mnQ, mxQ] at h
  split at h
  · rename_i b off he
    obtain ⟨v, hv, hφ⟩ := optQ_some h
    refine ⟨v, hφ, fun w hw => ?_⟩
    simp only [Instr.loadAt, Instr.sureAddr, he, Sem.run_bind, Sem.run_pure, Result.andThen_ok, loadVar, run_isAgg hu, hd, run_load, hw.rd1 hv, Sem.run_ite, Bool.false_eq_true, if_false]
  · exact h.elim

theorem yl_loadn {t : TypeId} {d : TypeDesc} {i : TypeInfo} (hu : P.underlying t = some d) (hd : aggD d = true) (hi : P.info? t = some i) {x : Operand} (h : qv P w0 (.ldn i.size x) T H φ) :
    Yl P w0 H (do pure (.value (← Instr.loadAt t (ev T x)))) φ := by
  simp only [qv, ld1Q, ldnQ, nilQ, eqbQ, eqpQ, eqsQ, eqmQ, eqaQ, unQ, convQ, faQ, f1Q, fmQ, iaQ, isQ, ixQ, ixmQ, slcQ, slaQ, extQ, lenQ, mnQ, mxQ] at h
  split at h
  · rename_i b off he
    obtain ⟨cs, hv, hφ⟩ := optQ_some h
    refine ⟨_, hφ, fun w hw => ?_⟩
    obtain ⟨hl, hc⟩ := hw.rdn hv
    simp only [Instr.loadAt, Instr.sureAddr, he, Sem.run_bind, Sem.run_pure, Result.andThen_ok, loadVar, run_isAgg hu, hd, Sem.run_ite, if_true, run_siz hi, run_loadCells hl hc]
  · exact h.elim

theorem yl_eqb {t : TypeId} (hu : P.underlying t = some .bool) {x y : Operand} (neg : Bool) (h : qv P w0 (.eqb neg x y) T H φ) :
    Yl P w0 H (do pure (.value (← (do eqGuard (if neg then .neq else .eql) t x y (ev T x) (ev T y); Go.binOp (if neg then .neq else .eql) t (ev T x) (ev T y) : Sem Value)))) φ := by
  simp only [qv, ld1Q, ldnQ, nilQ, eqbQ, eqpQ, eqsQ, eqmQ, eqaQ, unQ, convQ, faQ, f1Q, fmQ, iaQ, isQ, ixQ, ixmQ, slcQ, slaQ, extQ, lenQ, mnQ, mxQ] at h
  split at h
  · rename_i a b ha hb
    refine ⟨_, h, fun w _ => ?_⟩
    cases neg <;> simp [ha, hb, eqGuard, Go.binOp, Op.equal, Op.maxDepth, run_equalIn_bool' _ _ _ _ _ hu]
  · exact h.elim

theorem eqnil_run {t : TypeId} {a b : Value} {r : Bool} (he : ∀ d w, (Op.equalIn (d + 1) t a b).run P w = .ok r w) (hg : ∀ op (x y : Operand) w, (eqGuard op t x y a b).run P w = .ok () w)
    (hb : ∀ w, (Go.binOp .eql t a b).run P w = ((Op.equal t a b).run P w).andThen fun r w' => .ok (.bool r) w') (hn : ∀ w, (Go.binOp .neq t a b).run P w = ((Op.equal t a b).run P w).andThen fun r w' => .ok (.bool !r) w')
    (neg : Bool) (x y : Operand) (w : World) :
    (do pure (.value (← (do eqGuard (if neg then .neq else .eql) t x y a b; Go.binOp (if neg then .neq else .eql) t a b : Sem Value))) : Sem Next).run P w = .ok (.value (.bool (if neg then !r else r))) w := by
  have he' : ∀ w, (Op.equal t a b).run P w = .ok r w := fun w => he 9999 w
  cases neg <;> simp [hg, hb, hn, he']

theorem eq_ptr1 {t e : TypeId} (hu : P.underlying t = some (.pointer e)) (b : Option Addr) (d : Nat) (w : World) : (Op.equalIn (d + 1) t (.pointer none) (.pointer b)).run P w = .ok b.isNone w := by
  simp [Op.equalIn, run_und hu]
theorem eq_ptr2 {t e : TypeId} (hu : P.underlying t = some (.pointer e)) (a : Addr) (d : Nat) (w : World) : (Op.equalIn (d + 1) t (.pointer (some a)) (.pointer none)).run P w = .ok false w := by
  simp [Op.equalIn, run_und hu]
theorem eq_slc1 {t e : TypeId} (hu : P.underlying t = some (.slice e)) (b : Option Addr) (l c l' c' d : Nat) (w : World) : (Op.equalIn (d + 1) t (.slice none l c) (.slice b l' c')).run P w = .ok b.isNone w := by
  simp [Op.equalIn, run_und hu]
theorem eq_slc2 {t e : TypeId} (hu : P.underlying t = some (.slice e)) (a : Addr) (l c l' c' d : Nat) (w : World) : (Op.equalIn (d + 1) t (.slice (some a) l c) (.slice none l' c')).run P w = .ok false w := by
  simp [Op.equalIn, run_und hu]
theorem eq_map1 {t k e : TypeId} (hu : P.underlying t = some (.map k e)) (b : Option Nat) (d : Nat) (w : World) : (Op.equalIn (d + 1) t (.map none) (.map b)).run P w = .ok b.isNone w := by
  simp [Op.equalIn, run_und hu]
theorem eq_map2 {t k e : TypeId} (hu : P.underlying t = some (.map k e)) (a : Nat) (d : Nat) (w : World) : (Op.equalIn (d + 1) t (.map (some a)) (.map none)).run P w = .ok false w := by
  simp [Op.equalIn, run_und hu]

/-- The comparison of two values, as the loaded operation makes it. -/
def cmpS (neg : Bool) (t : TypeId) (x y : Operand) (a b : Value) : Sem Next := do
  pure (.value (← (do eqGuard (if neg then .neq else .eql) t x y a b; Go.binOp (if neg then .neq else .eql) t a b : Sem Value)))

theorem yl_eqp {t e : TypeId} (hu : P.underlying t = some (.pointer e)) {x y : Operand} (neg : Bool) (h : qv P w0 (.eqp neg x y) T H φ) : Yl P w0 H (cmpS neg t x y (ev T x) (ev T y)) φ := by
  simp only [qv, ld1Q, ldnQ, nilQ, eqbQ, eqpQ, eqsQ, eqmQ, eqaQ, unQ, convQ, faQ, f1Q, fmQ, iaQ, isQ, ixQ, ixmQ, slcQ, slaQ, extQ, lenQ, mnQ, mxQ] at h
  split at h <;> (try exact h.elim)
  · rename_i b ha hb
    refine ⟨_, h, fun w _ => ?_⟩
    rw [ha, hb]
    exact eqnil_run (eq_ptr1 hu b) (fun op x y w => by simp [eqGuard]) (fun w => by simp [Go.binOp]) (fun w => by simp [Go.binOp]) neg x y w
  · rename_i a ha hb
    refine ⟨_, h, fun w _ => ?_⟩
    rw [ha, hb]
    exact eqnil_run (eq_ptr2 hu a) (fun op x y w => by simp [eqGuard]) (fun w => by simp [Go.binOp]) (fun w => by simp [Go.binOp]) neg x y w

theorem yl_eqs {t e : TypeId} (hu : P.underlying t = some (.slice e)) {x y : Operand} (neg : Bool) (h : qv P w0 (.eqs neg x y) T H φ) : Yl P w0 H (cmpS neg t x y (ev T x) (ev T y)) φ := by
  simp only [qv, ld1Q, ldnQ, nilQ, eqbQ, eqpQ, eqsQ, eqmQ, eqaQ, unQ, convQ, faQ, f1Q, fmQ, iaQ, isQ, ixQ, ixmQ, slcQ, slaQ, extQ, lenQ, mnQ, mxQ] at h
  split at h <;> (try exact h.elim)
  · rename_i l c b l' c' ha hb
    refine ⟨_, h, fun w _ => ?_⟩
    rw [ha, hb]
    exact eqnil_run (eq_slc1 hu b l c l' c') (fun op x y w => by simp [eqGuard]) (fun w => by simp [Go.binOp]) (fun w => by simp [Go.binOp]) neg x y w
  · rename_i a l c l' c' ha hb
    refine ⟨_, h, fun w _ => ?_⟩
    rw [ha, hb]
    exact eqnil_run (eq_slc2 hu a l c l' c') (fun op x y w => by simp [eqGuard]) (fun w => by simp [Go.binOp]) (fun w => by simp [Go.binOp]) neg x y w

theorem yl_eqm {t k e : TypeId} (hu : P.underlying t = some (.map k e)) {x y : Operand} (neg : Bool) (h : qv P w0 (.eqm neg x y) T H φ) : Yl P w0 H (cmpS neg t x y (ev T x) (ev T y)) φ := by
  simp only [qv, ld1Q, ldnQ, nilQ, eqbQ, eqpQ, eqsQ, eqmQ, eqaQ, unQ, convQ, faQ, f1Q, fmQ, iaQ, isQ, ixQ, ixmQ, slcQ, slaQ, extQ, lenQ, mnQ, mxQ] at h
  split at h <;> (try exact h.elim)
  · rename_i b ha hb
    refine ⟨_, h, fun w _ => ?_⟩
    rw [ha, hb]
    exact eqnil_run (eq_map1 hu b) (fun op x y w => by simp [eqGuard]) (fun w => by simp [Go.binOp]) (fun w => by simp [Go.binOp]) neg x y w
  · rename_i a ha hb
    refine ⟨_, h, fun w _ => ?_⟩
    rw [ha, hb]
    exact eqnil_run (eq_map2 hu a) (fun op x y w => by simp [eqGuard]) (fun w => by simp [Go.binOp]) (fun w => by simp [Go.binOp]) neg x y w

theorem yl_build {t : TypeId} {place : Nat → Option (Nat × Nat)} {zero : List Value} {ps : Array (Nat × Operand)} {l : List (Nat × Nat × Operand)} (h1 : plc P t = some (place, zero)) (h2 : plcs place ps.toList = some l)
    (h : qv P w0 (.build zero l) T H φ) : Yl P w0 H (do pure (.value (← Instr.build t (ps.map fun (i, x) => (i, ev T x))))) φ := by
  simp only [qv, ld1Q, ldnQ, nilQ, eqbQ, eqpQ, eqsQ, eqmQ, eqaQ, unQ, convQ, faQ, f1Q, fmQ, iaQ, isQ, ixQ, ixmQ, slcQ, slaQ, extQ, lenQ, mnQ, mxQ] at h
  obtain ⟨cs, hf, hφ⟩ := optQ_some h
  refine ⟨_, hφ, fun w _ => ?_⟩
  have hb := built_of h1 h2 hf
  have := run_build w t (ps.map fun (i, x) => (i, ev T x)) cs.toArray (by simpa using hb)
  simp only [Sem.run_bind, this, Result.andThen_ok, Sem.run_pure]

theorem yl_nilc {x : Operand} {o : Oper} (ho : o.op = .nilCheck x) (h : qv P w0 (.nilc x) T H φ) : Yl P w0 H (execOp (ev T) o) φ := by
  simp only [qv, ld1Q, ldnQ, nilQ, eqbQ, eqpQ, eqsQ, eqmQ, eqaQ, unQ, convQ, faQ, f1Q, fmQ, iaQ, isQ, ixQ, ixmQ, slcQ, slaQ, extQ, lenQ, mnQ, mxQ] at h
  split at h <;> (try exact h.elim)
  · rename_i a ha
    exact ⟨_, h, fun w _ => by simp [execOp, ho, ha]⟩
  · rename_i f fs cs ha
    exact ⟨_, h, fun w _ => by simp [execOp, ho, ha]⟩

theorem yl_un {op : UnOp} {x : Operand} (h : qv P w0 (.un op x) T H φ) : Yl P w0 H (do pure (.value (← Op.unary op (ev T x)))) φ := by
  simp only [qv, ld1Q, ldnQ, nilQ, eqbQ, eqpQ, eqsQ, eqmQ, eqaQ, unQ, convQ, faQ, f1Q, fmQ, iaQ, isQ, ixQ, ixmQ, slcQ, slaQ, extQ, lenQ, mnQ, mxQ] at h
  split at h <;> (try exact h.elim)
  all_goals
    rename_i ha
    exact ⟨_, h, fun w _ => by simp [ha, Op.unary, Op.intArith, Op.intBits, bitsI]⟩

theorem yl_conv {s d : TypeId} {k k' : IntKind} (hs : P.underlying s = some (.int k')) (hd : P.underlying d = some (.int k)) {x : Operand} (h : qv P w0 (.conv k x) T H φ) : Yl P w0 H (do pure (.value (← convert s d (ev T x)))) φ := by
  simp only [qv, ld1Q, ldnQ, nilQ, eqbQ, eqpQ, eqsQ, eqmQ, eqaQ, unQ, convQ, faQ, f1Q, fmQ, iaQ, isQ, ixQ, ixmQ, slcQ, slaQ, extQ, lenQ, mnQ, mxQ] at h
  split at h <;> (try exact h.elim)
  rename_i ha
  exact ⟨_, h, fun w _ => by simp [ha, convert, run_und hs, run_und hd, Conv.intToInt]⟩

theorem yl_fa {s : TypeId} {fs : Array Field} {f : Nat} {fd : Field} {i : TypeInfo} (hs : P.underlying s = some (.struct fs)) (hf : fs[f]? = some fd) (hi : P.info? fd.type = some i) (hz : i.size ≠ 0) {x : Operand} (h : qv P w0 (.fa fd.offset x) T H φ) :
    Yl P w0 H (do pure (.value (← Instr.fieldAt s (ev T x) f))) φ := by
  simp only [qv, ld1Q, ldnQ, nilQ, eqbQ, eqpQ, eqsQ, eqmQ, eqaQ, unQ, convQ, faQ, f1Q, fmQ, iaQ, isQ, ixQ, ixmQ, slcQ, slaQ, extQ, lenQ, mnQ, mxQ] at h
  split at h <;> (try exact h.elim)
  rename_i b o ha
  exact ⟨_, h, fun w _ => by simp [ha, Instr.fieldAt, Instr.sureAddr, run_und hs, hf, fieldPlace, run_siz hi, hz, Addr.add_mk]⟩

theorem yl_f1 {s : TypeId} {fs : Array Field} {f : Nat} {fd : Field} {d : TypeDesc} (hs : P.underlying s = some (.struct fs)) (hf : fs[f]? = some fd) (hu : P.underlying fd.type = some d) (hd : aggD d = false) {x : Operand} (h : qv P w0 (.f1 fd.offset x) T H φ) :
    Yl P w0 H (do pure (.value (← Instr.field s (ev T x) f))) φ := by
  simp only [qv, ld1Q, ldnQ, nilQ, eqbQ, eqpQ, eqsQ, eqmQ, eqaQ, unQ, convQ, faQ, f1Q, fmQ, iaQ, isQ, ixQ, ixmQ, slcQ, slaQ, extQ, lenQ, mnQ, mxQ] at h
  split at h <;> (try exact h.elim)
  rename_i cs ha
  obtain ⟨v, hv, hφ⟩ := optQ_some h
  have hv' : cs[fd.offset]? = some v := by simpa using hv
  exact ⟨_, hφ, fun w _ => by simp [ha, Instr.field, run_und hs, hf, asAgg, part, run_isAgg hu, hd, hv']⟩

theorem extract_toList (cs : Array Value) (a n : Nat) : cs.extract a (a + n) = ((cs.toList.drop a).take n).toArray := by
  apply Array.ext'
  simp

theorem yl_fm {s : TypeId} {fs : Array Field} {f : Nat} {fd : Field} {d : TypeDesc} {i : TypeInfo} (hs : P.underlying s = some (.struct fs)) (hf : fs[f]? = some fd) (hu : P.underlying fd.type = some d) (hd : aggD d = true) (hi : P.info? fd.type = some i) {x : Operand} (h : qv P w0 (.fm fd.offset i.size x) T H φ) :
    Yl P w0 H (do pure (.value (← Instr.field s (ev T x) f))) φ := by
  simp only [qv, ld1Q, ldnQ, nilQ, eqbQ, eqpQ, eqsQ, eqmQ, eqaQ, unQ, convQ, faQ, f1Q, fmQ, iaQ, isQ, ixQ, ixmQ, slcQ, slaQ, extQ, lenQ, mnQ, mxQ] at h
  split at h <;> (try exact h.elim)
  rename_i cs ha
  refine ⟨_, h, fun w _ => ?_⟩
  rw [← extract_toList]
  simp [ha, Instr.field, run_und hs, hf, asAgg, part, run_isAgg hu, hd, run_siz hi]

theorem yl_ia {t e : TypeId} {n : Nat} {ie : TypeInfo} (hu : P.underlying t = some (.array n e)) (hi : P.info? e = some ie) {x i : Operand} (h : qv P w0 (.ia n ie.size x i) T H φ) :
    Yl P w0 H (do pure (.value (← Instr.indexAt t (ev T x) (ev T i)))) φ := by
  simp only [qv, ld1Q, ldnQ, nilQ, eqbQ, eqpQ, eqsQ, eqmQ, eqaQ, unQ, convQ, faQ, f1Q, fmQ, iaQ, isQ, ixQ, ixmQ, slcQ, slaQ, extQ, lenQ, mnQ, mxQ] at h
  split at h <;> (try exact h.elim)
  rename_i b o k j ha hb
  obtain ⟨h0, h1, h2⟩ := h
  exact ⟨_, h2, fun w _ => by simp [ha, hb, Instr.indexAt, asIntOf, Instr.sureAddr, run_und hu, run_siz hi, h0, h1, Addr.add_mk]⟩

theorem yl_is {t e : TypeId} {ie : TypeInfo} (hu : P.underlying t = some (.slice e)) (hi : P.info? e = some ie) {x i : Operand} (h : qv P w0 (.is ie.size x i) T H φ) :
    Yl P w0 H (do pure (.value (← Instr.indexAt t (ev T x) (ev T i)))) φ := by
  simp only [qv, ld1Q, ldnQ, nilQ, eqbQ, eqpQ, eqsQ, eqmQ, eqaQ, unQ, convQ, faQ, f1Q, fmQ, iaQ, isQ, ixQ, ixmQ, slcQ, slaQ, extQ, lenQ, mnQ, mxQ] at h
  split at h <;> (try exact h.elim)
  rename_i b o l c k j ha hb
  obtain ⟨h0, h1, h2⟩ := h
  exact ⟨_, h2, fun w _ => by simp [ha, hb, Instr.indexAt, asIntOf, run_und hu, run_siz hi, h0, h1, Addr.add_mk]⟩

theorem yl_ix {t e : TypeId} {n : Nat} {d : TypeDesc} {ie : TypeInfo} (hu : P.underlying t = some (.array n e)) (hue : P.underlying e = some d) (hd : aggD d = false) (hi : P.info? e = some ie) (hz : ie.size = 1) {x i : Operand} (h : qv P w0 (.ix n x i) T H φ) :
    Yl P w0 H (do pure (.value (← Instr.index t (ev T x) (ev T i)))) φ := by
  simp only [qv, ld1Q, ldnQ, nilQ, eqbQ, eqpQ, eqsQ, eqmQ, eqaQ, unQ, convQ, faQ, f1Q, fmQ, iaQ, isQ, ixQ, ixmQ, slcQ, slaQ, extQ, lenQ, mnQ, mxQ] at h
  split at h <;> (try exact h.elim)
  rename_i cs k j ha hb
  obtain ⟨h0, h1, h2⟩ := h
  obtain ⟨v, hv, hφ⟩ := optQ_some h2
  have hv' : cs[j.toNat]? = some v := by simpa using hv
  exact ⟨_, hφ, fun w _ => by simp [ha, hb, Instr.index, asIntOf, run_und hu, run_siz hi, hz, h0, h1, part, run_isAgg hue, hd, hv']⟩

theorem yl_ixm {t e : TypeId} {n : Nat} {d : TypeDesc} {ie : TypeInfo} (hu : P.underlying t = some (.array n e)) (hue : P.underlying e = some d) (hd : aggD d = true) (hi : P.info? e = some ie) {x i : Operand} (h : qv P w0 (.ixm n ie.size x i) T H φ) :
    Yl P w0 H (do pure (.value (← Instr.index t (ev T x) (ev T i)))) φ := by
  simp only [qv, ld1Q, ldnQ, nilQ, eqbQ, eqpQ, eqsQ, eqmQ, eqaQ, unQ, convQ, faQ, f1Q, fmQ, iaQ, isQ, ixQ, ixmQ, slcQ, slaQ, extQ, lenQ, mnQ, mxQ] at h
  split at h <;> (try exact h.elim)
  rename_i cs k j ha hb
  obtain ⟨h0, h1, h2⟩ := h
  refine ⟨_, h2, fun w _ => ?_⟩
  rw [← extract_toList]
  simp [ha, hb, Instr.index, asIntOf, run_und hu, run_siz hi, h0, h1, part, run_isAgg hue, hd]

theorem yl_ext {n : Nat} {x : Operand} (h : qv P w0 (.ext n x) T H φ) : Yl P w0 H (do pure (.value (← Instr.extract (ev T x) n))) φ := by
  simp only [qv, ld1Q, ldnQ, nilQ, eqbQ, eqpQ, eqsQ, eqmQ, eqaQ, unQ, convQ, faQ, f1Q, fmQ, iaQ, isQ, ixQ, ixmQ, slcQ, slaQ, extQ, lenQ, mnQ, mxQ] at h
  split at h <;> (try exact h.elim)
  rename_i vs ha
  obtain ⟨v, hv, hφ⟩ := optQ_some h
  have hv' : vs[n]? = some v := by simpa using hv
  exact ⟨_, hφ, fun w _ => by simp [ha, Instr.extract, hv']⟩

end
end Go.HL
