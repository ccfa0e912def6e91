/- The heap logic, part e: all operations together. -/
import Derived.Test.YtdmnfaefakceiaaGreatHlm
import Derived.Maps.Range
set_option linter.unusedSimpArgs false
set_option linter.unusedVariables false
namespace Go.HL
open Go.RowKit

section
variable {P : Program} {w0 : World} {H : Heap} {T : List Value} {φ : Value → Prop}

theorem yl_bin {op : BinOp} {t : TypeId} {x y : Operand} {yt : TypeId} {o : Oper} (ho : o.op = .binOp op t x y yt) (h : qv P w0 (.bin op x y) T H φ) : Yl P w0 H (execOp (ev T) o) φ := by
  simp only [qv, ld1Q, ldnQ, nilQ, eqbQ, eqpQ, eqsQ, eqmQ, eqaQ, unQ, convQ, faQ, f1Q, fmQ, iaQ, isQ, ixQ, ixmQ, slcQ, slaQ, extQ, lenQ, mnQ, mxQ] at h
  obtain ⟨v, hφ, hr⟩ := binQ_sound h P t x y
  refine ⟨v, hφ, fun w _ => ?_⟩
  have := hr w
  simp only [execOp, ho, Sem.run_bind] at this ⊢
  rw [this]
  simp

theorem yl_len {c : Call} {x : Operand} {ty : TypeId} {t e : TypeId} (ha : c.args.toList = [x]) (ht : c.argTypes[0]? = some t) (hu : P.underlying t = some (.slice e)) (h : qv P w0 (.len x) T H φ) :
    Yl P w0 H (do pure (.value (← Builtin.len_ c.argTypes ty (c.args.map (ev T))))) φ := by
  simp only [qv, ld1Q, ldnQ, nilQ, eqbQ, eqpQ, eqsQ, eqmQ, eqaQ, unQ, convQ, faQ, f1Q, fmQ, iaQ, isQ, ixQ, ixmQ, slcQ, slaQ, extQ, lenQ, mnQ, mxQ] at h
  split at h <;> (try exact h.elim)
  rename_i a n cap hx
  have hargs : c.args = #[x] := by apply Array.ext'; simpa using ha
  exact ⟨_, h, fun w _ => by simp [Builtin.len_, hargs, ht, run_und hu, hx, goInt]⟩

theorem yl_lenc {c : Call} {x : Operand} {ty : TypeId} {t e : TypeId} {n : Nat} (ha : c.args.toList = [x]) (ht : c.argTypes[0]? = some t) (hu : P.underlying t = some (.array n e)) (h : qv P w0 (.lenc n) T H φ) :
    Yl P w0 H (do pure (.value (← Builtin.len_ c.argTypes ty (c.args.map (ev T))))) φ := by
  simp only [qv, ld1Q, ldnQ, nilQ, eqbQ, eqpQ, eqsQ, eqmQ, eqaQ, unQ, convQ, faQ, f1Q, fmQ, iaQ, isQ, ixQ, ixmQ, slcQ, slaQ, extQ, lenQ, mnQ, mxQ] at h
  have hargs : c.args = #[x] := by apply Array.ext'; simpa using ha
  exact ⟨_, h, fun w _ => by simp [Builtin.len_, hargs, ht, run_und hu, goInt]⟩

theorem yl_mn {c : Call} {x y : Operand} {ty : TypeId} (ha : c.args.toList = [x, y]) (h : qv P w0 (.mn x y) T H φ) :
    Yl P w0 H (do pure (.value (← Builtin.min_ c.argTypes ty (c.args.map (ev T))))) φ := by
  simp only [qv, ld1Q, ldnQ, nilQ, eqbQ, eqpQ, eqsQ, eqmQ, eqaQ, unQ, convQ, faQ, f1Q, fmQ, iaQ, isQ, ixQ, ixmQ, slcQ, slaQ, extQ, lenQ, mnQ, mxQ] at h
  split at h <;> (try exact h.elim)
  rename_i k a k' b hx hy
  have hargs : c.args = #[x, y] := by apply Array.ext'; simpa using ha
  exact ⟨_, h, fun w _ => by simp [Builtin.min_, hargs, hx, hy, Builtin.min2]⟩

theorem yl_mx {c : Call} {x y : Operand} {ty : TypeId} (ha : c.args.toList = [x, y]) (h : qv P w0 (.mx x y) T H φ) :
    Yl P w0 H (do pure (.value (← Builtin.max_ c.argTypes ty (c.args.map (ev T))))) φ := by
  simp only [qv, ld1Q, ldnQ, nilQ, eqbQ, eqpQ, eqsQ, eqmQ, eqaQ, unQ, convQ, faQ, f1Q, fmQ, iaQ, isQ, ixQ, ixmQ, slcQ, slaQ, extQ, lenQ, mnQ, mxQ] at h
  split at h <;> (try exact h.elim)
  rename_i k a k' b hx hy
  have hargs : c.args = #[x, y] := by apply Array.ext'; simpa using ha
  exact ⟨_, h, fun w _ => by simp [Builtin.max_, hargs, hx, hy, Builtin.max2]⟩

theorem mapAt_some {r : Nat} {m : Array MapEntry × Nat} (h : mapAt H r = some m) : ∃ cs, H r = some ⟨.o (.map m.1 m.2), cs⟩ := by
  unfold mapAt at h
  split at h
  · rename_i es c cs e
    cases h; exact ⟨cs, e⟩
  · cases h
theorem Own.map {F : Nat → Prop} {w : World} (hO : Own w0 F H w) {r : Nat} {m : Array MapEntry × Nat} (h : mapAt H r = some m) : H r = some ⟨.o (.map m.1 m.2), []⟩ ∧ w.heap[r]? = some (.map m.1 m.2) := by
  obtain ⟨cs, e⟩ := mapAt_some h
  obtain ⟨-, hin⟩ := hO.blk r _ e
  simp only [Blk.In] at hin
  obtain ⟨h1, h2, -⟩ := hin
  have h1' : cs = [] := h1
  subst h1'
  exact ⟨e, h2⟩

theorem run_zero {t : TypeId} {i : TypeInfo} {z : Value} (hi : P.info? t = some i) (hz : i.zero = some z) (w : World) : (zeroValue t).run P w = .ok z w := by
  simp [zeroValue, typeInfo, hi, hz]

theorem KeysOk.one {kt : TypeId} {es : Array MapEntry} {clock : Nat} {k : Value} (h : KeysOk P kt es clock k) {e e' : MapEntry} (he : e ∈ es.toList) (he' : e' ∈ es.toList) (hk : e.key = e'.key) : e = e' :=
  entry_eq_of_key ((MapKept.stamped_iff _ _).1 h.st).2.2 he he' hk

theorem yl_lkp {t kt et : TypeId} {ie : TypeInfo} {z : Value} {ok : Bool} (hu : P.underlying t = some (.map kt et)) (hi : P.info? et = some ie) (hz : ie.zero = some z) {x i : Operand} (h : qv P w0 (.lkp kt ok z x i) T H φ) :
    Yl P w0 H (do pure (.value (← Instr.lookup t (ev T x) (ev T i) ok))) φ := by
  simp only [qv, lkpQ] at h
  split at h <;> (try exact h.elim)
  · rename_i hx
    obtain ⟨⟨hk, ⟨l, hl⟩, -, -⟩, hφ⟩ := h
    refine ⟨_, hφ, fun w _ => ?_⟩
    rcases hk.find w hl [] (by simp) with ⟨h1, -⟩ | ⟨j, e, -, h2, -⟩
    · simp only [Instr.lookup, Sem.run_bind, run_und hu, Result.andThen_ok, hx, Sem.run_pure, hk.check w _ hl, h1, run_zero hi hz, okV, Sem.run_ite]

    · simp at h2
  · rename_i r hx
    obtain ⟨m, hm, hK, h1, h2⟩ := optQ_some h
    obtain ⟨l, hl⟩ := hK.key
    have hes := hK.all
    have hk := hK.keyed
    rcases hk.find (default : World) hl m.1.toList hes with ⟨-, hne⟩ | ⟨j, e, -, hj, hek⟩
    · refine ⟨_, h2 hne, fun w hO => ?_⟩
      obtain ⟨-, hw⟩ := hO.map hm
      rcases hk.find w hl m.1.toList hes with ⟨hf, -⟩ | ⟨j', e', -, hj', hek'⟩
      · simp only [Instr.lookup, Sem.run_bind, run_und hu, Result.andThen_ok, hx, MapKept.run_getObj_map hw, Sem.run_pure, hk.check w _ hl, hf, run_zero hi hz, okV, Sem.run_ite]

      · exact absurd hek' (hne e' (List.mem_of_getElem? hj'))
    · refine ⟨_, h1 e (List.mem_of_getElem? hj) hek, fun w hO => ?_⟩
      obtain ⟨-, hw⟩ := hO.map hm
      rcases hk.find w hl m.1.toList hes with ⟨-, hne⟩ | ⟨j', e', hf, hj', hek'⟩
      · exact absurd hek (hne e (List.mem_of_getElem? hj))
      · obtain rfl := hK.one (List.mem_of_getElem? hj') (List.mem_of_getElem? hj) (hek'.trans hek.symm)
        simp only [Instr.lookup, Sem.run_bind, run_und hu, Result.andThen_ok, hx, MapKept.run_getObj_map hw, Sem.run_pure, hk.check w _ hl, hf, okV, Sem.run_ite]


theorem yl_lenm {c : Call} {x : Operand} {ty : TypeId} {t kt et : TypeId} (ha : c.args.toList = [x]) (ht : c.argTypes[0]? = some t) (hu : P.underlying t = some (.map kt et)) (h : qv P w0 (.lenm x) T H φ) :
    Yl P w0 H (do pure (.value (← Builtin.len_ c.argTypes ty (c.args.map (ev T))))) φ := by
  simp only [qv, lenmQ] at h
  have hargs : c.args = #[x] := by apply Array.ext'; simpa using ha
  split at h <;> (try exact h.elim)
  · rename_i hx
    exact ⟨_, h, fun w _ => by simp [Builtin.len_, hargs, ht, run_und hu, hx, goInt]⟩
  · rename_i r hx
    obtain ⟨m, hm, hφ⟩ := optQ_some h
    refine ⟨_, hφ, fun w hO => ?_⟩
    obtain ⟨-, hw⟩ := hO.map hm
    simp [Builtin.len_, hargs, ht, run_und hu, hx, goInt, MapKept.run_getObj_map hw]

def MO.quiet : MO → Bool
  | .alloc .. | .box .. | .bslice .. | .st1 .. | .stn .. | .call .. | .callv .. | .app .. | .appz .. | .mks .. | .cpy .. | .yv .. | .mkm | .mup .. | .del .. | .rng .. | .nxt .. | .mnz .. | .clr .. => false
  | _ => true

theorem yl_builtin {c : Call} {ty : TypeId} {b : Builtin} {f : Array TypeId → TypeId → Array Value → Sem Value} (hb : c.callee = .builtin b) (hf : ∀ at_ t cs args, builtin b at_ t cs args = (do pure (.value (← f at_ t args)) : Sem Next))
    {o : Oper} (ho : o.op = .call c) (hty : o.type = ty) (h : Yl P w0 H (do pure (.value (← f c.argTypes ty (c.args.map (ev T))))) φ) : Yl P w0 H (execOp (ev T) o) φ := by
  obtain ⟨v, hφ, hr⟩ := h
  refine ⟨v, hφ, fun w hw => ?_⟩
  have := hr w hw
  simp only [execOp, ho, resolve, hb, Sem.run_bind, Sem.run_pure, Result.andThen_ok, invoke, hf, hty]
  simpa using this

theorem qv_sound {o : Oper} {mo : MO} (htr : trOp P o = some mo) (hq : mo.quiet = true) (h : qv P w0 mo T H φ) : Yl P w0 H (execOp (ev T) o) φ := by
  obtain ⟨dst, op, ty, pos, after, guard⟩ := o
  cases op
  case move x => simp [trOp] at htr; subst htr; exact ⟨_, h, fun w _ => rfl⟩
  case assign x => simp [trOp] at htr; subst htr; exact ⟨_, h, fun w _ => rfl⟩
  case pick c a b =>
    simp [trOp] at htr; subst htr
    simp only [qv, PickQ] at h
    split at h <;> (try exact h.elim)
    rename_i c' hc
    cases c'
    · exact ⟨_, h.2 rfl, fun w _ => by simp [execOp, hc, asBool]⟩
    · exact ⟨_, h.1 rfl, fun w _ => by simp [execOp, hc, asBool]⟩
  case build t ps =>
    simp only [trOp] at htr
    split at htr <;> (try cases htr)
    rename_i place zero h1
    split at htr <;> (try cases htr)
    rename_i l h2
    exact yl_build h1 h2 h
  case load t x =>
    simp only [trOp] at htr
    split at htr <;> (try cases htr)
    · rename_i fs i hu hi; exact yl_loadn hu rfl hi h
    · rename_i n e i hu hi; exact yl_loadn hu rfl hi h
    · rename_i d i h1 h2 hu hi
      refine yl_load1 hu ?_ h
      cases d <;> first | rfl | (exfalso; simp_all; done)
  case nilCheck x => simp [trOp] at htr; subst htr; exact yl_nilc rfl h
  case binOp op t x y yt =>
    simp only [trOp, trBin] at htr
    have eqa : ∀ {d : TypeDesc}, P.underlying t = some d → aggD d = true → trEqa P op t x y = some mo → Yl P w0 H (execOp (ev T) ⟨dst, .binOp op t x y yt, ty, pos, after, guard⟩) φ := by
      intro d hu hd htr
      unfold trEqa at htr
      split at htr <;> (try (cases htr; done))
      rename_i hg
      split at htr <;> (try (cases htr; done))
      rename_i n hp
      obtain ⟨neg, rfl, rfl⟩ := trEq_some htr
      exact yl_eqa hu hd (by simpa using hg) hp neg h
    split at htr <;> (try (cases htr; done))
    · cases htr; exact yl_bin rfl h
    · rename_i hu; obtain ⟨neg, rfl, rfl⟩ := trEq_some htr; exact yl_eqb hu neg h
    · rename_i e hu; obtain ⟨neg, rfl, rfl⟩ := trEq_some htr; exact yl_eqp hu neg h
    · rename_i e hu; obtain ⟨neg, rfl, rfl⟩ := trEq_some htr; exact yl_eqs hu neg h
    · rename_i k e hu; obtain ⟨neg, rfl, rfl⟩ := trEq_some htr; exact yl_eqm hu neg h
    · rename_i fs hu; exact eqa hu rfl htr
    · rename_i m e hu; exact eqa hu rfl htr
    · rename_i hu; obtain ⟨neg, rfl, rfl⟩ := trEq_some htr; exact yl_eqst hu neg h
  case unOp op t x => simp [trOp] at htr; subst htr; exact yl_un h
  case convert s d x =>
    simp only [trOp] at htr
    split at htr <;> (try (cases htr; done))
    · rename_i k' k hs hd
      cases htr
      exact yl_conv hs hd h
    · rename_i e hs hd
      split at htr <;> cases htr
      rename_i he
      exact yl_bstr hs he hd h
  case makeFunc fn first caps =>
    cases fn <;> simp only [trOp] at htr <;> (try (cases htr; done))
    split at htr <;> cases htr
    rename_i f he
    simp only [qv, ld1Q, ldnQ, nilQ, eqbQ, eqpQ, eqsQ, eqmQ, eqaQ, unQ, convQ, faQ, f1Q, fmQ, iaQ, isQ, ixQ, ixmQ, slcQ, slaQ, extQ, lenQ, mnQ, mxQ] at h
    have hf : first = #[] := by simpa using he
    refine ⟨_, h, fun w _ => ?_⟩
    simp [execOp, Instr.makeFunc, hf]
    apply Array.ext'; simp
  case fieldAddr s x f =>
    simp only [trOp] at htr
    split at htr <;> (try (cases htr; done))
    rename_i fs hs
    split at htr <;> (try (cases htr; done))
    rename_i fd hf
    split at htr <;> cases htr
    rename_i hc
    have hc' : ¬ P.cellsOf fd.type = 0 ∧ ¬ (P.info? fd.type).isNone = true := by simpa [not_or] using hc
    cases hi : P.info? fd.type with
    | none => simp [hi] at hc'
    | some i => exact yl_fa hs hf hi (by simpa [Program.cellsOf, hi] using hc'.1) h
  case field s x f =>
    simp only [trOp] at htr
    split at htr <;> (try (cases htr; done))
    rename_i fs hs
    split at htr <;> (try (cases htr; done))
    rename_i fd hf
    split at htr <;> cases htr
    · rename_i fs' i hu hi; exact yl_fm hs hf hu rfl hi h
    · rename_i n e i hu hi; exact yl_fm hs hf hu rfl hi h
    · rename_i d i h1 h2 hu hi
      refine yl_f1 hs hf hu ?_ h
      cases d <;> first | rfl | (exfalso; simp_all; done)
  case indexAddr t x i =>
    simp only [trOp] at htr
    split at htr <;> (try (cases htr; done))
    · rename_i n e hu
      split at htr <;> cases htr
      rename_i ie hi
      exact yl_ia hu hi h
    · rename_i e hu
      split at htr <;> cases htr
      rename_i ie hi
      exact yl_is hu hi h
  case index t x i =>
    simp only [trOp] at htr
    split at htr <;> (try (cases htr; done))
    · rename_i n e hu
      split at htr <;> (try (cases htr; done))
      · rename_i fs ie hue hi; cases htr; exact yl_ixm hu hue rfl hi h
      · rename_i m e' ie hue hi; cases htr; exact yl_ixm hu hue rfl hi h
      · rename_i d ie h1 h2 hue hi
        split at htr <;> cases htr
        rename_i hz
        refine yl_ix hu hue ?_ hi hz h
        cases d <;> first | rfl | (exfalso; simp_all; done)
    · rename_i hu
      cases htr
      exact yl_ixs hu h
  case slice t x lo hi mx =>
    cases mx with
    | some m =>
      cases lo with
      | some _ => simp [trOp] at htr
      | none =>
      cases hi with
      | none => simp [trOp] at htr
      | some hh =>
      simp only [trOp] at htr
      split at htr <;> (try (cases htr; done))
      rename_i e hu
      split at htr <;> cases htr
      rename_i ie hi
      exact yl_slc3 hu hi h
    | none =>
      simp only [trOp] at htr
      split at htr <;> (try (cases htr; done))
      · rename_i e hu
        split at htr <;> cases htr
        rename_i ie hi
        exact yl_slc hu hi h
      · rename_i n e hu
        split at htr <;> cases htr
        rename_i ie hi
        exact yl_sla hu hi h
  case panic x => simp [trOp] at htr; subst htr; exact h.elim
  case makeInterface => simp [trOp] at htr; subst htr; exact h.elim
  case extract x i => simp [trOp] at htr; subst htr; exact yl_ext h
  case call c =>
    simp only [trOp, trCall] at htr
    split at htr <;> (try (cases htr; done))
    · rename_i f hcal
      split at htr
      · rename_i hadd
        split at htr <;> cases htr
        rename_i x y z hargs
        exact yl_add64 rfl hadd hcal hargs h
      · split at htr
        · (split at htr <;> cases htr); cases hq
        · cases htr; cases hq
    · cases htr; cases hq
    · rename_i hb
      split at htr <;> cases htr
      · rename_i x e hargs hu
        cases ht : c.argTypes[0]? with
        | none => simp [ht] at hu
        | some t =>
          simp [ht] at hu
          exact yl_builtin (f := Builtin.len_) hb (fun _ _ _ _ => rfl) rfl rfl (yl_len hargs ht hu h)
      · rename_i x n e hargs hu
        cases ht : c.argTypes[0]? with
        | none => simp [ht] at hu
        | some t =>
          simp [ht] at hu
          exact yl_builtin (f := Builtin.len_) hb (fun _ _ _ _ => rfl) rfl rfl (yl_lenc hargs ht hu h)
      · rename_i x hargs hu
        cases ht : c.argTypes[0]? with
        | none => simp [ht] at hu
        | some t =>
          simp [ht] at hu
          exact yl_builtin (f := Builtin.len_) hb (fun _ _ _ _ => rfl) rfl rfl (yl_lens hargs ht hu h)
      · rename_i x kt et hargs hu
        cases ht : c.argTypes[0]? with
        | none => simp [ht] at hu
        | some t =>
          simp [ht] at hu
          exact yl_builtin (f := Builtin.len_) hb (fun _ _ _ _ => rfl) rfl rfl (yl_lenm hargs ht hu h)
    · rename_i hb
      split at htr <;> cases htr
      rename_i x e hargs hu
      cases ht : c.argTypes[0]? with
      | none => simp [ht] at hu
      | some t =>
        simp [ht] at hu
        exact yl_builtin (f := Builtin.cap_) hb (fun _ _ _ _ => rfl) rfl rfl (yl_capo hargs ht hu h)
    · (repeat' (split at htr)) <;> (first | (cases htr; done) | (cases htr; cases hq))
    · (repeat' (split at htr)) <;> (first | (cases htr; done) | (cases htr; cases hq))
    · (repeat' (split at htr)) <;> (first | (cases htr; done) | (cases htr; cases hq))
    · (repeat' (split at htr)) <;> (first | (cases htr; done) | (cases htr; cases hq))
    · rename_i hb
      split at htr <;> cases htr
      rename_i x y hargs
      exact yl_builtin (f := Builtin.min_) hb (fun _ _ _ _ => rfl) rfl rfl (yl_mn hargs h)
    · rename_i hb
      split at htr <;> cases htr
      rename_i x y hargs
      exact yl_builtin (f := Builtin.max_) hb (fun _ _ _ _ => rfl) rfl rfl (yl_mx hargs h)
  case makeSlice t l c =>
    simp only [trOp] at htr
    (repeat' (split at htr)) <;> (first | (cases htr; done) | (cases htr; cases hq))
  case buildSlice t l c =>
    simp only [trOp] at htr
    (repeat' (split at htr)) <;> (first | (cases htr; done) | (cases htr; cases hq))
  case makeMap t r =>
    cases r <;> simp only [trOp] at htr <;> (first | (cases htr; done) | (cases htr; cases hq))
  case lookup t x i ok =>
    simp only [trOp] at htr
    split at htr <;> (try (cases htr; done))
    rename_i kt et hu
    split at htr <;> (try (cases htr; done))
    rename_i ie hi
    split at htr <;> cases htr
    rename_i z hz
    exact yl_lkp hu hi hz h
  case mapUpdate t m k v =>
    simp only [trOp] at htr
    split at htr <;> cases htr
    cases hq
  case insert t m k v =>
    simp only [trOp] at htr
    split at htr <;> cases htr
    cases hq
  case range t x =>
    simp only [trOp] at htr
    split at htr <;> cases htr
    cases hq
  case next x b =>
    cases b <;> simp only [trOp] at htr <;> cases htr
    cases hq
  case alloc t =>
    simp only [trOp] at htr
    split at htr <;> (try (cases htr; done))
    split at htr <;> cases htr
    cases hq
  case box t x => simp [trOp] at htr; subst htr; cases hq
  case store t x v =>
    simp only [trOp] at htr
    split at htr <;> (try (cases htr; done))
    · cases htr; cases hq
    · cases htr; cases hq
    · split at htr <;> cases htr; cases hq
  all_goals (simp [trOp] at htr)

end
end Go.HL
