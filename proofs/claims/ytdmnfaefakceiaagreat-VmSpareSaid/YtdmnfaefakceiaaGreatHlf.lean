/- The heap logic, part f: operations that make memory, write it or call; a region in its text's order. -/
import Derived.Test.YtdmnfaefakceiaaGreatHle
set_option linter.unusedSimpArgs false
set_option linter.unusedVariables false
namespace Go.HL
open Go.RowKit

section
variable {P : Program} {w0 : World} {F : Nat → Prop} {H : Heap} {T : List Value}

theorem alloc_step {s : Sem Next} {v : Nat → Value} {cs : Array Value} {ty : TypeId} (hr : ∀ w, s.run P w = .ok (.value (v w.heap.size)) (w.alloc (.cells cs ty))) {w : World} (hO : Own w0 F H w) {K : Value → Heap → Prop}
    (h : ∀ b, w0.heap.size ≤ b → H b = none → K (v b) (H.set b ⟨ty, cs.toList⟩)) : ∃ u H' w', s.run P w = .ok (.value u) w' ∧ K u H' ∧ Own w0 F H' w' := by
  obtain ⟨h1, h2, h3⟩ := hO.alloc ty cs
  exact ⟨_, _, _, hr w, h _ h1 h2, h3⟩

theorem allocO_step {s : Sem Next} {v : Nat → Value} {o : Obj} {w : World} (hr : s.run P w = .ok (.value (v w.heap.size)) (w.alloc o)) (hl : Obj.live o) (hO : Own w0 F H w) {K : Value → Heap → Prop}
    (h : AllocO w0 H K v o) : ∃ u H' w', s.run P w = .ok (.value u) w' ∧ K u H' ∧ Own w0 F H' w' := by
  obtain ⟨h1, h2, h3⟩ := hO.allocK o ⟨.o o, []⟩ ⟨rfl, rfl, hl⟩
  exact ⟨_, _, _, hr, h _ h1 h2, h3⟩

theorem mup_run {w : World} (hO : Own w0 F H w) {K : Value → Heap → Prop} {t kt et : TypeId} (hu : P.underlying t = some (.map kt et)) {m k v : Value} (h : mupQ P H K kt m k v) :
    ∃ H' w', (Instr.mapUpdate t m k v).run P w = .ok () w' ∧ K undef H' ∧ Own w0 F H' w' := by
  unfold mupQ at h
  split at h <;> (try exact h.elim)
  rename_i r
  obtain ⟨q, hq, hK, h1, h2⟩ := optQ_some h
  obtain ⟨l, hl⟩ := hK.key
  obtain ⟨hH, hw⟩ := hO.map hq
  rcases hK.keyed.find w hl q.1.toList hK.all with ⟨hf, hne⟩ | ⟨j, e, hf, hj, hek⟩
  · refine ⟨_, _, ?_, h2 hne, (hO.setObj hH (.map _ _) trivial).2.2⟩
    simp [Instr.mapUpdate, run_und hu, MapKept.run_getObj_map hw, hK.keyed.check w _ hl, hf, MapKept.run_setObj_map _ hw]
  · have hj' : q.1[j]? = some e := by simpa using hj
    refine ⟨_, _, ?_, h1 j e hj' hek, (hO.setObj hH (.map _ _) trivial).2.2⟩
    simp [Instr.mapUpdate, run_und hu, MapKept.run_getObj_map hw, hK.keyed.check w _ hl, hf, hj', hek, hK.keyed.stays w hl, MapKept.run_setObj_map _ hw]

theorem del_run {w : World} (hO : Own w0 F H w) {K : Value → Heap → Prop} {ats : Array TypeId} {ty t kt et : TypeId} (ht : ats[0]? = some t) (hu : P.underlying t = some (.map kt et)) {m k : Value} (h : delQ P H K kt m k) :
    ∃ u H' w', (Builtin.delete_ ats ty #[m, k]).run P w = .ok u w' ∧ K u H' ∧ Own w0 F H' w' := by
  unfold delQ at h
  split at h <;> (try exact h.elim)
  rename_i r
  obtain ⟨q, hq, hK, h1, h2⟩ := optQ_some h
  obtain ⟨l, hl⟩ := hK.key
  obtain ⟨hH, hw⟩ := hO.map hq
  rcases hK.keyed.find w hl q.1.toList hK.all with ⟨hf, hne⟩ | ⟨j, e, hf, hj, hek⟩
  · refine ⟨_, _, _, ?_, h2 hne, (hO.setObj hH (.map _ _) trivial).2.2⟩
    simp [Builtin.delete_, ht, run_und hu, MapKept.run_getObj_map hw, hK.keyed.check w _ hl, hf, MapKept.run_setObj_map _ hw]
  · have hj' : q.1[j]? = some e := by simpa using hj
    refine ⟨_, _, _, ?_, h1 j e hj' hek, (hO.setObj hH (.map _ _) trivial).2.2⟩
    simp [Builtin.delete_, ht, run_und hu, MapKept.run_getObj_map hw, hK.keyed.check w _ hl, hf, MapKept.run_setObj_map _ hw]

theorem rng_run {w : World} (hO : Own w0 F H w) {K : Value → Heap → Prop} {t kt et : TypeId} (hu : P.underlying t = some (.map kt et)) {x : Value} (h : rngQ w0 H K x) :
    ∃ u H' w', (Instr.range t x).run P w = .ok u w' ∧ K u H' ∧ Own w0 F H' w' := by
  unfold rngQ at h
  split at h <;> (try exact h.elim)
  · obtain ⟨h1, h2, h3⟩ := hO.allocK (.mapIter none 0 #[] 0) ⟨.o (.mapIter none 0 #[] 0), []⟩ ⟨rfl, rfl, trivial⟩
    exact ⟨ptrV w.heap.size, _, _, by simp [Instr.range, run_und hu, ptrV], h _ h1 h2, h3⟩
  · rename_i r
    obtain ⟨q, hq, hk⟩ := optQ_some h
    obtain ⟨hH, hw⟩ := hO.map hq
    obtain ⟨h1, h2, h3⟩ := hO.allocK (.mapIter (some r) q.2 #[] q.2) ⟨.o (.mapIter (some r) q.2 #[] q.2), []⟩ ⟨rfl, rfl, trivial⟩
    exact ⟨ptrV w.heap.size, _, _, by simp [Instr.range, run_und hu, MapKept.run_getObj_map hw, ptrV], hk _ h1 h2, h3⟩

theorem run_getObj_iter {w : World} {r : Nat} {m : Option Nat} {a : Nat} {b : Array Nat} {c : Nat} (h : w.heap[r]? = some (.mapIter m a b c)) : (getObj r).run P w = .ok (.mapIter m a b c) w := by
  simp [getObj, Sem.run, h]
theorem run_setObj_iter {w : World} {r : Nat} {m : Option Nat} {a : Nat} {b : Array Nat} {c : Nat} (o : Obj) (h : w.heap[r]? = some (.mapIter m a b c)) : (setObj r o).run P w = .ok () { w with heap := w.heap.setIfInBounds r o } := by
  simp [setObj, Sem.run, h]

theorem blk_obj {w : World} (hO : Own w0 F H w) {r : Nat} {o : Obj} {cs : List Value} (h : H r = some ⟨.o o, cs⟩) : H r = some ⟨.o o, []⟩ ∧ w.heap[r]? = some o := by
  obtain ⟨-, hin⟩ := hO.blk r _ h
  simp only [Blk.In] at hin
  obtain ⟨h1, h2, -⟩ := hin
  have h1' : cs = [] := h1
  subst h1'
  exact ⟨h, h2⟩

theorem nxt_run {w : World} (hO : Own w0 F H w) {K : Value → Heap → Prop} {x : Value} {ty : TypeId} (h : nxtQ H K x) :
    ∃ u H' w', (Instr.next x false ty).run P w = .ok u w' ∧ K u H' ∧ Own w0 F H' w' := by
  unfold nxtQ at h
  split at h <;> (try exact h.elim)
  rename_i r
  split at h <;> (try exact h.elim)
  · rename_i cs hH
    obtain ⟨-, hw⟩ := blk_obj hO hH
    exact ⟨_, _, _, by simp [Instr.next, run_getObj_iter hw], h, hO⟩
  · rename_i m since seen last cs hH
    obtain ⟨hH, hw⟩ := blk_obj hO hH
    obtain ⟨q, hq, hb, hsl, h1, h2⟩ := optQ_some h
    obtain ⟨-, hwm⟩ := hO.map hq
    have hun : ¬ ((!seen.isEmpty && !q.1.isEmpty && q.1.all fun e => decide (e.born ≥ last)) = true) := by
      intro hc
      simp only [Bool.and_eq_true, Array.all_eq_true] at hc
      obtain ⟨⟨-, hne⟩, hall⟩ := hc
      have hpos : 0 < q.1.size := by
        rcases Nat.eq_zero_or_pos q.1.size with e | e
        · have : q.1 = #[] := Array.eq_empty_of_size_eq_zero e
          rw [this] at hne; simp at hne
        · exact e
      have := hall 0 hpos
      have hlt := hb q.1[0] (by simp)
      simp only [decide_eq_true_eq] at this
      omega
    have hold : (q.1.filter fun e => !seen.contains e.born).filter (fun e => decide (e.born < since)) = q.1.filter fun e => !seen.contains e.born := by
      rw [Array.filter_eq_self]
      intro e he
      have he' := (Array.mem_filter.1 he).1
      simpa using hb e (by simpa using he')
    have hnew : (q.1.filter fun e => !seen.contains e.born).filter (fun e => decide (e.born ≥ since)) = #[] := by
      rw [Array.filter_eq_empty_iff]
      intro e he
      have he' := (Array.mem_filter.1 he).1
      have := hb e (by simpa using he')
      simp; omega
    generalize hleft : (q.1.filter fun e => !seen.contains e.born) = left at hold hnew
    have hmem : ∀ e ∈ left, e ∈ q.1.toList ∧ seen.contains e.born = false := fun e he => by
      rw [← hleft] at he
      have := Array.mem_filter.1 he
      exact ⟨by simpa using this.1, by simpa using this.2⟩
    by_cases he : left = #[]
    · have hall : ∀ e ∈ q.1.toList, seen.contains e.born = true := fun e hm => by
        cases hc : seen.contains e.born with
        | true => rfl
        | false =>
          have : e ∈ left := by rw [← hleft]; exact Array.mem_filter.2 ⟨by simpa using hm, by rw [hc]; rfl⟩
          rw [he] at this; simp at this
      refine ⟨_, _, _, ?_, h2 hall, hO⟩
      have hrun : (Instr.next (.pointer (some ⟨r, 0, none⟩)) false ty).run P w = .ok (.tuple #[.bool false]) w := by
        simp only [Instr.next, Sem.run_bind, run_getObj_iter hw, Result.andThen_ok, MapKept.run_getObj_map hwm, Sem.run_ite, hun, if_false, Sem.run_pure, hleft, hold, hnew, he]
        simp [choose, Sem.run, Question.forced]
      exact hrun
    · have hpos : 0 < left.size := by
        rcases Nat.eq_zero_or_pos left.size with e | e
        · exact absurd (Array.eq_empty_of_size_eq_zero e) he
        · exact e
      have hne : left.isEmpty = false := by simpa using he
      have step : ∀ (i : Nat) (hi : i < left.size) (w1 : World), w1 = w ∨ w1 = w.drew → ∃ u H' w', (do setObj r (.mapIter (some m) since (seen.push left[i].born) q.2); pure (.tuple #[.bool true, left[i].key, left[i].val]) : Sem Value).run P w1 = .ok u w' ∧ K u H' ∧ Own w0 F H' w' := by
        intro i hi w1 hw1
        have hO1 : Own w0 F H w1 := by rcases hw1 with rfl | rfl; exact hO; exact hO.drew
        obtain ⟨m1, m2⟩ := hmem left[i] (by simp)
        obtain ⟨e1, e2, e3⟩ := hO1.setObj hH (.mapIter (some m) since (seen.push left[i].born) q.2) trivial
        exact ⟨_, _, _, by simp only [Sem.run_bind, run_setObj_iter _ e1, Result.andThen_ok, Sem.run_pure], h1 _ m1 m2, e3⟩
      by_cases h1' : left.size ≤ 1
      · obtain ⟨u, H', w', hr, hk, ho⟩ := step 0 hpos w (.inl rfl)
        refine ⟨u, H', w', ?_, hk, ho⟩
        simp only [Instr.next, Sem.run_bind, run_getObj_iter hw, Result.andThen_ok, MapKept.run_getObj_map hwm, Sem.run_ite, hun, if_false, Sem.run_pure, hleft, hold, hnew]
        simp only [Sem.run_bind, Sem.run_pure] at hr
        simp [choose, Sem.run, Question.forced, hne, h1', hpos]
        simpa using hr
      · have hlt : w.tape w.drawn (.mapNext left.size) % left.size < left.size := Nat.mod_lt _ hpos
        obtain ⟨u, H', w', hr, hk, ho⟩ := step _ hlt w.drew (.inr rfl)
        refine ⟨u, H', w', ?_, hk, ho⟩
        simp only [Instr.next, Sem.run_bind, run_getObj_iter hw, Result.andThen_ok, MapKept.run_getObj_map hwm, Sem.run_ite, hun, if_false, Sem.run_pure, hleft, hold, hnew]
        have hch : (choose (.mapNext left.size)).run P w = .ok (w.tape w.drawn (.mapNext left.size) % left.size) w.drew := by
          simp only [choose, Sem.run, Question.forced, h1', decide_false, Bool.false_eq_true, if_false]
          rfl
        simp only [hne, Bool.false_eq_true, if_false, Array.append_empty, Array.empty_append, Array.size_map, hch, Result.andThen_ok, Array.getElem?_map]
        rw [Array.getElem?_eq_getElem hlt]
        simp only [Option.map_some]
        exact hr

theorem run_newVar (t : TypeId) (v : Value) (w : World) : (newVar t v).run P w = .ok ⟨w.heap.size, 0, none⟩ (w.alloc (.cells v.cells t)) := by
  simp [newVar, newRow]

/-- What each operation comes to: a value and a world (or it writes, and yields nothing), or a call. -/
theorem mop_run {o : Oper} {mo : MO} (htr : trOp P o = some mo) {w : World} (hO : Own w0 F H w) {K : Value → Heap → Prop} (h : mwp P w0 mo T H K) :
    (∃ u H' w', ((execOp (ev T) o).run P w = .ok (.value u) w' ∨ (u = undef ∧ (execOp (ev T) o).run P w = .ok .skip w')) ∧ K u H' ∧ Own w0 F H' w') ∨
    (∃ f args, (execOp (ev T) o).run P w = .ok (.enter f args.toArray) w ∧ HCalls P w0 f args H K) := by
  by_cases hq : mo.quiet = true
  · have h' : qv P w0 mo T H fun v => K v H := by cases mo <;> first | exact h | cases hq
    obtain ⟨v, hφ, hr⟩ := qv_sound htr hq h'
    exact .inl ⟨v, H, w, .inl (hr w hO), hφ, hO⟩
  · obtain ⟨dst, op, ty, pos, after, guard⟩ := o
    cases op
    case alloc t =>
      simp only [trOp] at htr
      split at htr <;> (try (cases htr; done))
      rename_i i hi
      split at htr <;> cases htr
      rename_i z hz
      refine .inl ?_
      obtain ⟨u, H', w', hr, hk, ho⟩ := alloc_step (P := P) (s := execOp (ev T) ⟨dst, .alloc t, ty, pos, after, guard⟩) (v := fun b => .pointer (some ⟨b, 0, none⟩)) (cs := z.cells) (ty := t)
        (fun w => by simp [execOp, Instr.alloc, zeroValue, typeInfo, hi, hz, run_newVar]) hO h
      exact ⟨u, H', w', .inl hr, hk, ho⟩
    case box t x =>
      simp [trOp] at htr; subst htr
      refine .inl ?_
      obtain ⟨u, H', w', hr, hk, ho⟩ := alloc_step (P := P) (s := execOp (ev T) ⟨dst, .box t x, ty, pos, after, guard⟩) (v := fun b => .pointer (some ⟨b, 0, none⟩)) (cs := (ev T x).cells) (ty := t)
        (fun w => by simp [execOp, Instr.box, run_newVar]) hO h
      exact ⟨u, H', w', .inl hr, hk, ho⟩
    case store t x v =>
      simp only [trOp] at htr
      have big : ∀ {d : TypeDesc} {i : TypeInfo}, P.info? t = some i → mo = .stn i.size x v → (∃ u H' w', ((execOp (ev T) ⟨dst, .store t x v, ty, pos, after, guard⟩).run P w = .ok (.value u) w' ∨ (u = undef ∧ (execOp (ev T) ⟨dst, .store t x v, ty, pos, after, guard⟩).run P w = .ok .skip w')) ∧ K u H' ∧ Own w0 F H' w') := by
        intro d i hi hm
        subst hm
        simp only [mwp, st1Q, stnQ, callvQ] at h
        split at h <;> (try exact h.elim)
        rename_i b off cs hx hv
        obtain ⟨y, hy, hn, hone, hle, hk⟩ := optQ_some h
        obtain ⟨w', hr, ho⟩ := run_storeCells (P := P) cs.toList w H b off 0 y hO hy (by simpa [hn] using hle) (fun v hv => List.all_eq_true.1 hone v hv)
        refine ⟨undef, _, w', .inr ⟨rfl, ?_⟩, hk, by simpa using ho⟩
        simp [execOp, Instr.storeAt, Instr.sureAddr, hx, hv, storeVar, run_siz hi, Value.cells, hn, hr]
      split at htr <;> (try (cases htr; done))
      · rename_i fs i hu hi; exact .inl (big (d := .struct fs) hi (by cases htr; rfl))
      · rename_i n e i hu hi; exact .inl (big (d := .array n e) hi (by cases htr; rfl))
      · rename_i d i _ _ hu hi
        split at htr <;> cases htr
        rename_i hz
        simp only [mwp, st1Q, stnQ, callvQ] at h
        split at h <;> (try exact h.elim)
        rename_i b off hx
        obtain ⟨y, hy, hone, hle, hk⟩ := optQ_some h
        obtain ⟨w', hr, ho⟩ := run_storeCells (P := P) [ev T v] w H b off 0 y hO hy (by simp; omega) (by simpa using hone)
        refine .inl ⟨undef, _, w', .inr ⟨rfl, ?_⟩, hk, by simpa [putAt_one] using ho⟩
        have hc : (ev T v).cells = #[ev T v] := by cases hv : ev T v <;> simp_all [Value.cells, Value.oneCell']
        simp [execOp, Instr.storeAt, Instr.sureAddr, hx, storeVar, run_siz hi, hc, hz, hr]
    case call c =>
      simp only [trOp, trCall] at htr
      have enter : ∀ (f : FuncId) (args : List Value), callable P f = true → ∀ w, (callFunc f args.toArray).run P w = .ok (.enter f args.toArray) w := by
        intro f args hc w
        unfold callable at hc
        split at hc
        · rename_i fn hf
          simp only [Bool.and_eq_true, bne_iff_ne, ne_eq] at hc
          have h1 : ¬ fn.name = "runtime.NumGoroutine" := hc.1
          have h2 : ¬ fn.body = none := by cases hb : fn.body <;> simp_all
          simp [callFunc, hf, h1, h2]
        · cases hc
      split at htr <;> (try (cases htr; done))
      · rename_i f hcal
        split at htr
        · (split at htr <;> cases htr); exact absurd rfl hq
        split at htr
        · rename_i e hm
          split at htr <;> cases htr
          rename_i x hargs
          obtain ⟨u, H', w', hr, hk, ho⟩ := mnz_run (P := P) (o := ⟨dst, .call c, ty, pos, after, guard⟩) hO rfl hm hcal hargs h
          exact .inl ⟨u, H', w', .inl hr, hk, ho⟩
        cases htr
        simp only [mwp, st1Q, stnQ, callvQ] at h
        refine .inr ⟨f, c.args.toList.map (ev T), ?_, h⟩
        have := enter f (c.args.toList.map (ev T)) h.1 w
        simp only [execOp, resolve, hcal, ev, Deferred.ofValue, Sem.run_bind, Sem.run_pure, Result.andThen_ok, invoke]
        have ha : #[] ++ c.args.map (ev T) ++ #[] = (c.args.toList.map (ev T)).toArray := by apply Array.ext'; simp
        rw [ha]; exact this
      · rename_i x _ hcal
        cases htr
        simp only [mwp, st1Q, stnQ, callvQ] at h
        split at h <;> (try exact h.elim)
        rename_i f fs cs hx
        refine .inr ⟨f, fs.toList ++ c.args.toList.map (ev T) ++ cs.toList, ?_, h⟩
        have := enter f (fs.toList ++ c.args.toList.map (ev T) ++ cs.toList) h.1 w
        simp only [execOp, resolve, hcal, hx, Deferred.ofValue, Sem.run_bind, Sem.run_pure, Result.andThen_ok, invoke]
        have ha : fs ++ c.args.map (ev T) ++ cs = (fs.toList ++ c.args.toList.map (ev T) ++ cs.toList).toArray := by apply Array.ext'; simp
        rw [ha]; exact this
      · split at htr <;> cases htr <;> exact absurd rfl hq
      · split at htr <;> cases htr <;> exact absurd rfl hq
      · rename_i hb
        split at htr <;> (try (cases htr; done))
        · rename_i s x e ex hargs ht htx
          split at htr <;> (try (cases htr; done))
          rename_i i hi
          split at htr <;> (try (cases htr; done))
          rename_i z hz
          split at htr <;> cases htr
          rename_i hzs
          have hargs' : c.args = #[s, x] := by apply Array.ext'; simpa using hargs
          cases h0 : c.argTypes[0]? with
          | none => simp [h0] at ht
          | some t =>
          cases h1 : c.argTypes[1]? with
          | none => simp [h1] at htx
          | some tx =>
            simp [h0] at ht
            simp [h1] at htx
            obtain ⟨u, H', w', hr, hk, ho⟩ := app_run (P := P) (ty := ty) hO ht htx hi hz (show appQ w0 H K e i.size i.bytes z.cells.toList (ev T s) (ev T x) from h)
            refine .inl ⟨u, H', w', .inl (exec_builtin (f := Builtin.append_) hb (fun _ _ _ _ => rfl) rfl ?_), hk, ho⟩
            rw [hargs']
            rw [← hr]
            simp [Builtin.append_, h0, h1]
        · rename_i s x e ex hargs ht htx
          split at htr <;> (try (cases htr; done))
          rename_i i hi
          split at htr <;> (try (cases htr; done))
          rename_i z hz
          split at htr <;> cases htr
          rename_i hzs
          have hargs' : c.args = #[s, x] := by apply Array.ext'; simpa using hargs
          cases h0 : c.argTypes[0]? with
          | none => simp [h0] at ht
          | some t =>
          cases h1 : c.argTypes[1]? with
          | none => simp [h1] at htx
          | some tx =>
            simp [h0] at ht
            simp [h1] at htx
            obtain ⟨u, H', w', hr, hk, ho⟩ := appz_run (P := P) (ty := ty) hO ht htx hi hz hzs (show appzQ w0 H K e i.size i.bytes z.cells.toList (ev T s) (ev T x) from h)
            refine .inl ⟨u, H', w', .inl (exec_builtin (f := Builtin.append_) hb (fun _ _ _ _ => rfl) rfl ?_), hk, ho⟩
            rw [hargs']
            rw [← hr]
            simp [Builtin.append_, h0, h1]
      · rename_i hb
        split at htr <;> (try (cases htr; done))
        rename_i d x e hargs ht
        split at htr <;> cases htr
        rename_i i hi
        have hargs' : c.args = #[d, x] := by apply Array.ext'; simpa using hargs
        cases h0 : c.argTypes[0]? with
        | none => simp [h0] at ht
        | some t =>
          simp [h0] at ht
          obtain ⟨u, H', w', hr, hk, ho⟩ := cpy_run (P := P) (ty := ty) hO h0 ht hi (show cpyQ w0 H K i.size (ev T d) (ev T x) from h)
          refine .inl ⟨u, H', w', .inl (exec_builtin (f := Builtin.copy_) hb (fun _ _ _ _ => rfl) rfl ?_), hk, ho⟩
          rw [hargs']
          simpa using hr
      · rename_i hb
        split at htr <;> (try (cases htr; done))
        rename_i x e hargs ht
        split at htr <;> (try (cases htr; done))
        rename_i i hi
        split at htr <;> (try (cases htr; done))
        rename_i z hz
        split at htr <;> cases htr
        have hargs' : c.args = #[x] := by apply Array.ext'; simpa using hargs
        cases h0 : c.argTypes[0]? with
        | none => simp [h0] at ht
        | some t =>
          simp [h0] at ht
          obtain ⟨u, H', w', hr, hk, ho⟩ := clr_run (P := P) (ty := ty) hO h0 ht hi hz (show clrQ H K z.cells.toList (ev T x) from h)
          refine .inl ⟨u, H', w', .inl (exec_builtin (f := Builtin.clear_) hb (fun _ _ _ _ => rfl) rfl ?_), hk, ho⟩
          rw [hargs']
          simpa using hr
      · rename_i hb
        split at htr <;> cases htr
        rename_i m k kt et hargs hu
        have hargs' : c.args = #[m, k] := by apply Array.ext'; simpa using hargs
        cases h0 : c.argTypes[0]? with
        | none => simp [h0] at hu
        | some t =>
          simp [h0] at hu
          obtain ⟨u, H', w', hr, hk, ho⟩ := del_run (P := P) (ty := ty) hO h0 hu (show delQ P H K kt (ev T m) (ev T k) from h)
          refine .inl ⟨u, H', w', .inl (exec_builtin (f := Builtin.delete_) hb (fun _ _ _ _ => rfl) rfl ?_), hk, ho⟩
          rw [hargs']
          simpa using hr
      · split at htr <;> cases htr <;> exact absurd rfl hq
      · split at htr <;> cases htr <;> exact absurd rfl hq
    case makeSlice t l c =>
      simp only [trOp] at htr
      split at htr <;> (try (cases htr; done))
      rename_i e ht
      split at htr <;> (try (cases htr; done))
      rename_i i hi
      split at htr <;> (try (cases htr; done))
      rename_i z hz
      split at htr <;> cases htr
      rename_i hzs
      obtain ⟨u, H', w', hr, hk, ho⟩ := mks_run (P := P) hO ht hi hz hzs (show mksQ w0 H K e i.bytes z.cells.toList (ev T l) (ev T c) from h)
      exact .inl ⟨u, H', w', .inl (by simp [execOp, hr]), hk, ho⟩
    case buildSlice t len ps =>
      simp only [trOp] at htr
      split at htr <;> (try (cases htr; done))
      rename_i e ht
      split at htr <;> (try (cases htr; done))
      rename_i i hi
      split at htr <;> (try (cases htr; done))
      rename_i z hz
      split at htr <;> (try (cases htr; done))
      rename_i hzs
      split at htr <;> cases htr
      rename_i l hl
      obtain ⟨u, H', w', hr, hk, ho⟩ := bslice_run (P := P) hO ht hi hz hzs.1 hzs.2 hl h
      exact .inl ⟨u, H', w', .inl (by simp only [execOp, Sem.run_bind, hr, Result.andThen_ok, Sem.run_pure]), hk, ho⟩
    case makeMap t r =>
      cases r <;> simp only [trOp] at htr <;> cases htr
      refine .inl ?_
      obtain ⟨u, H', w', hr, hk, ho⟩ := allocO_step (P := P) (s := execOp (ev T) ⟨dst, .makeMap t none, ty, pos, after, guard⟩) (v := mapV) (o := .map #[] 0) (w := w) (by simp [execOp, Instr.makeMap, mapV]) trivial hO h
      exact ⟨u, H', w', .inl hr, hk, ho⟩
    case mapUpdate t m k v =>
      simp only [trOp] at htr
      split at htr <;> cases htr
      rename_i kt et hu
      obtain ⟨H', w', hr, hk, ho⟩ := mup_run (P := P) hO hu h
      exact .inl ⟨undef, H', w', .inr ⟨rfl, by simp [execOp, hr]⟩, hk, ho⟩
    case insert t m k v =>
      simp only [trOp] at htr
      split at htr <;> cases htr
      rename_i kt et hu
      obtain ⟨H', w', hr, hk, ho⟩ := mup_run (P := P) hO hu h
      exact .inl ⟨undef, H', w', .inr ⟨rfl, by simp [execOp, hr]⟩, hk, ho⟩
    case range t x =>
      simp only [trOp] at htr
      split at htr <;> cases htr
      rename_i kt et hu
      obtain ⟨u, H', w', hr, hk, ho⟩ := rng_run (P := P) hO hu h
      exact .inl ⟨u, H', w', .inl (by simp [execOp, hr]), hk, ho⟩
    case next x b =>
      cases b <;> simp only [trOp] at htr <;> cases htr
      obtain ⟨u, H', w', hr, hk, ho⟩ := nxt_run (P := P) (ty := ty) hO h
      exact .inl ⟨u, H', w', .inl (by simp [execOp, hr]), hk, ho⟩
    case slice t x lo hi mx =>
      exfalso; apply hq; clear hq h
      cases lo <;> cases hi <;> cases mx <;> simp only [trOp] at htr <;> (repeat' (split at htr)) <;> (first | (cases htr; rfl) | cases htr)
    case makeFunc fn first caps =>
      cases fn <;> simp only [trOp] at htr <;> (try (cases htr; done))
      split at htr <;> cases htr
      exact absurd rfl hq
    case binOp op t x y yt =>
      exfalso; apply hq; clear hq h
      have e0 : ∀ f : Bool → MO, (∀ b, (f b).quiet = true) → trEq op f = some mo → mo.quiet = true := fun f hf he => by
        obtain ⟨neg, _, rfl⟩ := trEq_some he
        exact hf neg
      have e1 : trEqa P op t x y = some mo → mo.quiet = true := fun he => by
        unfold trEqa at he
        split at he <;> (try (cases he; done))
        split at he <;> (try (cases he; done))
        exact e0 _ (fun _ => rfl) he
      simp only [trOp, trBin] at htr
      split at htr <;> (first | (cases htr; done) | exact e1 htr | exact e0 _ (fun _ => rfl) htr | (cases htr; rfl))
    all_goals (exfalso; apply hq; clear hq h; simp only [trOp] at htr; (repeat' (split at htr)); all_goals (first | (cases htr; rfl) | cases htr))

theorem mop_sound {o : Oper} {mo : MO} (htr : trOp P o = some mo) {a : Act} (ha : a.tmps = T.toArray) {w : World} (hO : Own w0 F H w) {K : Value → Heap → Prop} (h : mwp P w0 mo T H K) {next : Act → World → Prop} {Q : Exit → Act → World → Prop}
    (hn : ∀ v H' w', K v H' → Own w0 F H' w' → next (a.put o.dst v) w') : o.wp P a w next Q := by
  unfold Oper.wp
  rw [ev_eq ha]
  rcases mop_run htr hO h with ⟨u, H', w', hr | ⟨hu, hr⟩, hk, ho⟩ | ⟨f, args, hr, hc⟩
  · rw [hr]; exact hn _ _ _ hk ho
  · rw [hr]; subst hu; exact hn _ _ _ hk ho
  · rw [hr]
    simp only [Oper.upon]
    refine (hc.2 w hO).mono fun e w' ⟨v, H', he, hk, ho⟩ => ?_
    subst he
    exact hn _ _ _ hk ho

end
end Go.HL
