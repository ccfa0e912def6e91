/- The heap logic, part m: slices, strings, and a sum with its carry. -/
import Derived.Laws.BytesString
import Derived.Test.YtdmnfaefakceiaaGreatHlk
import Derived.Laws.Externs
import Derived.Laws.AppendOwn
import Derived.Laws.MakeOwn
import Derived.Lib.MakeNoZero
import Derived.KernelRfl
set_option linter.unusedSimpArgs false
set_option linter.unusedVariables false
namespace Go.HL
open Go.RowKit

section
variable {P : Program} {w0 : World} {F : Nat → Prop} {H : Heap} {T : List Value} {φ : Value → Prop}

theorem add_zero' (b o : Nat) : ({ block := b, off := o, spot := none } : Addr).add 0 = { block := b, off := o, spot := none } := by simp [Addr.add_mk]
theorem yl_slc {t e : TypeId} {ie : TypeInfo} (hu : P.underlying t = some (.slice e)) (hi : P.info? e = some ie) {x : Operand} {lo hh : Option Operand} (h : qv P w0 (.slc ie.size x lo hh) T H φ) :
    Yl P w0 H (do pure (.value (← Instr.sliceAt t (ev T x) (lo.map (ev T)) (hh.map (ev T)) none))) φ := by
  simp only [qv, slcQ] at h
  split at h <;> (try exact h.elim)
  all_goals (rename_i h1 h2 h3)
  all_goals (refine ⟨_, (by first | exact h | exact h.2.2 | exact h.2.2.2), fun w _ => ?_⟩)
  all_goals (try (obtain ⟨c1, c2, c3⟩ := h))
  all_goals (try (obtain ⟨c3, -⟩ := c3))
  all_goals (rw [h1, h2, h3])
  case h_4 | h_8 =>
    simp only [Instr.sliceAt, Instr.slice, Instr.sliceBounds, Instr.sliceBound, asIntOf, run_und hu, run_siz hi, Sem.run_bind, Sem.run_pure, Result.andThen_ok, Sem.run_ite]
    rw [if_pos ⟨by omega, by omega⟩]
    simp only [Sem.run_pure, Result.andThen_ok]
    rw [if_pos ⟨by omega, by omega⟩]
    simp only [Sem.run_pure, Result.andThen_ok, Option.map, Addr.add_mk, run_siz hi]
    try (split <;> simp)
  all_goals (simp [Instr.sliceAt, Instr.slice, Instr.sliceBounds, Instr.sliceBound, asIntOf, run_und hu, run_siz hi, *, add_zero'])
  all_goals (try (split <;> simp [Addr.add_mk]))
  all_goals (try (intro _; simp [Addr.add]))
theorem yl_slc3 {t e : TypeId} {ie : TypeInfo} (hu : P.underlying t = some (.slice e)) (hi : P.info? e = some ie) {x hh m : Operand} (h : qv P w0 (.slc3 x hh m) T H φ) :
    Yl P w0 H (do pure (.value (← Instr.sliceAt t (ev T x) none ((some hh).map (ev T)) ((some m).map (ev T))))) φ := by
  simp only [qv, slc3Q] at h
  split at h <;> (try exact h.elim)
  rename_i a n cap k1 j k2 m' h1 h2 h3
  obtain ⟨c1, c2, c3, c4⟩ := h
  refine ⟨_, c4, fun w _ => ?_⟩
  have c5 : 0 ≤ m' := by omega
  have c6 : j ≤ (m'.toNat : Int) := by omega
  rw [h1]
  simp only [Option.map_some, h2, h3]
  simp [Instr.sliceAt, Instr.slice, Instr.sliceBounds, Instr.sliceBound, asIntOf, run_und hu, run_siz hi, c1, c2, c3, c5, c6]
  cases a <;> simp [Addr.add] <;> (intro hlt; rw [Int.max_eq_left c5] at hlt; omega)
theorem yl_sla {t e : TypeId} {n : Nat} {ie : TypeInfo} (hu : P.underlying t = some (.array n e)) (hi : P.info? e = some ie) {x : Operand} {lo hh : Option Operand} (h : qv P w0 (.sla n ie.size x lo hh) T H φ) :
    Yl P w0 H (do pure (.value (← Instr.sliceAt t (ev T x) (lo.map (ev T)) (hh.map (ev T)) none))) φ := by
  simp only [qv, slaQ] at h
  split at h <;> (try exact h.elim)
  all_goals (rename_i h1 h2 h3)
  all_goals (refine ⟨_, (by first | exact h | exact h.2.2 | exact h.2.2.2), fun w _ => ?_⟩)
  all_goals (try (obtain ⟨c1, c2, c3⟩ := h))
  all_goals (try (obtain ⟨c3, -⟩ := c3))
  all_goals (rw [h1, h2, h3])
  case h_4 =>
    simp only [Instr.sliceAt, Instr.sureAddr, Instr.sliceBounds, Instr.sliceBound, asIntOf, run_und hu, run_siz hi, Sem.run_bind, Sem.run_pure, Result.andThen_ok, Sem.run_ite]
    rw [if_pos ⟨by omega, by omega⟩]
    simp only [Sem.run_pure, Result.andThen_ok]
    rw [if_pos ⟨by omega, by omega⟩]
    simp only [Sem.run_pure, Result.andThen_ok, Option.map, Addr.add_mk, run_siz hi]
    try (split <;> simp)
  all_goals (simp [Instr.sliceAt, Instr.sureAddr, Instr.sliceBounds, Instr.sliceBound, asIntOf, run_und hu, run_siz hi, *, add_zero'])
  all_goals (try (split <;> simp [Addr.add_mk]))
theorem yl_ixs {t : TypeId} (hu : P.underlying t = some .string) {x i : Operand} (h : qv P w0 (.ixs x i) T H φ) : Yl P w0 H (do pure (.value (← Instr.index t (ev T x) (ev T i)))) φ := by
  simp only [qv, ixsQ] at h
  split at h <;> (try exact h.elim)
  rename_i s k j ha hb
  obtain ⟨h0, h1⟩ := h
  obtain ⟨v, hv, hφ⟩ := optQ_some h1
  have hv' : s[j.toNat]? = some v := by
    show s.data[j.toNat]? = some v
    rw [← Array.getElem?_toList]; exact hv
  exact ⟨_, hφ, fun w _ => by simp [ha, hb, Instr.index, asIntOf, run_und hu, h0, hv']⟩
theorem yl_lens {c : Call} {x : Operand} {ty : TypeId} {t : TypeId} (ha : c.args.toList = [x]) (ht : c.argTypes[0]? = some t) (hu : P.underlying t = some .string) (h : qv P w0 (.lens x) T H φ) :
    Yl P w0 H (do pure (.value (← Builtin.len_ c.argTypes ty (c.args.map (ev T))))) φ := by
  simp only [qv, lensQ] at h
  split at h <;> (try exact h.elim)
  rename_i s hx
  have hargs : c.args = #[x] := by apply Array.ext'; simpa using ha
  exact ⟨_, h, fun w _ => by simp [Builtin.len_, hargs, ht, run_und hu, hx, goInt]⟩
theorem bytesV_eq : ∀ {cs : List Value} {l : List Int}, bytesV cs = some l → cs = l.map (Value.int .u8)
  | [], l, h => by simp only [bytesV] at h; cases h; rfl
  | v :: cs, l, h => by
    unfold bytesV at h
    split at h <;> (try (cases h; done))
    · rename_i e; cases e
    · rename_i n l' e
      cases e
      simp only [Option.map_eq_some_iff] at h
      obtain ⟨l2, h2, rfl⟩ := h
      rw [bytesV_eq h2]; rfl
theorem yl_bstr {s d e : TypeId} {x : Operand} (hs : P.underlying s = some (.slice e)) (he : P.underlying e = some (.int .u8)) (hd : P.underlying d = some .string) (h : qv P w0 (.bstr x) T H φ) :
    Yl P w0 H (do pure (.value (← convert s d (ev T x)))) φ := by
  simp only [qv, bstrQ] at h
  split at h <;> (try exact h.elim)
  rename_i a n c hx
  rw [hx]
  have hr : ∀ w, (convert s d (.slice a n c)).run P w = (Conv.bytesToString (.slice a n c)).run P w := fun w => run_convert_bytes_string w s d e a n c hs he hd
  split at h
  · rename_i hn
    subst hn
    refine ⟨_, h, fun w _ => ?_⟩
    simp only [Sem.run_bind, hr]
    cases a with
    | none => simp [Conv.bytesToString, strOf]
    | some a =>
      rw [run_bytesToString w a 0 c [] (by simp [loadCells, loadCellsFrom])]
      simp [strOf]
  · split at h <;> (try exact h.elim)
    rename_i b o
    obtain ⟨cs, hv, h⟩ := optQ_some h
    obtain ⟨l, hl, hφ⟩ := optQ_some h
    refine ⟨_, hφ, fun w hw => ?_⟩
    obtain ⟨h1, h2⟩ := hw.rdn hv
    have hc := run_loadCells (P := P) h1 h2
    rw [bytesV_eq hl] at hc
    simp only [Sem.run_bind, hr]
    rw [run_bytesToString w _ n c l hc]
    simp [strOf]
theorem yl_eqst {t : TypeId} (hu : P.underlying t = some .string) {x y : Operand} (neg : Bool) (h : qv P w0 (.eqst neg x y) T H φ) : Yl P w0 H (cmpS neg t x y (ev T x) (ev T y)) φ := by
  simp only [qv, eqstQ] at h
  split at h <;> (try exact h.elim)
  rename_i s s' ha hb
  refine ⟨_, h, fun w _ => ?_⟩
  rw [ha, hb]
  cases neg <;> simp [cmpS, eqGuard, Go.binOp, Op.stringOp, run_und hu]
theorem yl_capo {c : Call} {x : Operand} {ty : TypeId} {t e : TypeId} (ha : c.args.toList = [x]) (ht : c.argTypes[0]? = some t) (hu : P.underlying t = some (.slice e)) (h : qv P w0 (.capo x) T H φ) :
    Yl P w0 H (do pure (.value (← Builtin.cap_ c.argTypes ty (c.args.map (ev T))))) φ := by
  simp only [qv, capQ] at h
  split at h <;> (try exact h.elim)
  rename_i a n cap hx
  have hargs : c.args = #[x] := by apply Array.ext'; simpa using ha
  exact ⟨_, h, fun w _ => by simp [Builtin.cap_, hargs, ht, run_und hu, hx, goInt]⟩

theorem add64_gen (x y c : Int) (k1 k2 k3 : IntKind) (hx : 0 ≤ x) (hy : 0 ≤ y) (hc0 : 0 ≤ c) (hc : c ≤ 1) (w : World) :
    (add64Entry #[.int k1 x, .int k2 y, .int k3 c]).run P w = .ok (.tuple #[.int .u64 ((x + y + c) % 18446744073709551616), .int .u64 ((x + y + c) / 18446744073709551616)]) w := by
  exact run_add64 (P := P) x y c hx hy hc0 hc w
theorem add64_found (fn : Func) (h : fn.name = "math/bits.Add64") (h2 : fn.origin = "") : Extern.findNext fn = none ∧ Extern.find fn = some add64Entry := by
  obtain ⟨name, origin⟩ := fn
  simp only at h h2
  subst h h2
  exact ⟨by kernel_rfl, by kernel_rfl⟩
theorem yl_add64 {f : FuncId} {c : Call} {x y z : Operand} {o : Oper} (ho : o.op = .call c) (hf : isAdd64 P f = true) (hcal : c.callee = .value (.func f)) (ha : c.args.toList = [x, y, z]) (h : qv P w0 (.add64 x y z) T H φ) :
    Yl P w0 H (execOp (ev T) o) φ := by
  simp only [qv, add64Q] at h
  split at h <;> (try exact h.elim)
  rename_i k1 a k2 b k3 d hx hy hz
  obtain ⟨h1, h2, h3, h4, h5⟩ := h
  refine ⟨_, h5, fun w _ => ?_⟩
  unfold isAdd64 at hf
  split at hf <;> (try (cases hf; done))
  rename_i fn hfn
  simp only [Bool.and_eq_true, beq_iff_eq] at hf
  obtain ⟨⟨hn, hn2⟩, hb⟩ := hf
  have hargs : c.args = #[x, y, z] := by apply Array.ext'; simpa using ha
  obtain ⟨e1, e2⟩ := add64_found fn hn hn2
  have h6 : ¬ fn.name = "runtime.NumGoroutine" := by rw [hn]; decide
  have hev : ev T (.func f) = .func (.func f) #[] #[] := rfl
  have hb' : fn.body = none := Option.isNone_iff_eq_none.1 hb
  simp [execOp, ho, resolve, hcal, hev, Deferred.ofValue, invoke, callFunc, hfn, h6, hb', hargs, e1, e2, hx, hy, hz, add64_gen a b d k1 k2 k3 h1 h2 h3 h4]

/-! ### Rows -/

theorem run_srd {w : World} (hO : Own w0 F H w) {a : Option Addr} {n size : Nat} {cs : List Value} (h : srd w0 H a (n * size) = some cs) (l c : Nat) :
    (Builtin.firstCells size n (.slice a l c)).run P w = .ok cs.toArray w ∧ cs.length = n * size := by
  unfold srd at h
  split at h
  · rename_i hk
    cases h
    cases a with
    | none => simp [Builtin.firstCells, hk]
    | some a => simp [Builtin.firstCells, hk, loadCells, loadCellsFrom]
  · rename_i hk
    split at h <;> (try (cases h; done))
    obtain ⟨hl, hc⟩ := hO.rdn h
    exact ⟨by simp [Builtin.firstCells, run_loadCells hl hc], hl⟩

theorem run_lay {w : World} (hO : Own w0 F H w) {a : Option Addr} {off : Nat} {vs : List Value} {K : Heap → Prop} (h : layQ H K a off vs) :
    ∃ w' H', (∀ b, a = some b → (storeCells (b.add off) vs).run P w = .ok () w') ∧ (a = none → w' = w) ∧ K H' ∧ Own w0 F H' w' := by
  unfold layQ at h
  split at h
  · rename_i hv
    subst hv
    exact ⟨w, H, fun b _ => by simp [storeCells], fun _ => rfl, h, hO⟩
  · split at h <;> (try exact h.elim)
    rename_i b o
    obtain ⟨y, hy, h1, h2, h3⟩ := optQ_some h
    obtain ⟨w', hr, ho⟩ := run_storeCells (P := P) vs w H b (o + off) 0 y hO hy (by simpa using h2) (fun v hv => List.all_eq_true.1 h1 v hv)
    refine ⟨w', _, fun b' e => ?_, fun e => (by cases e), h3, by simpa using ho⟩
    cases e
    rw [Addr.add_mk]; exact hr

theorem Own.alloc_drew {w : World} (h : Own w0 F H w) (ty : TypeId) (cs : Array Value) : w0.heap.size ≤ w.heap.size ∧ H w.heap.size = none ∧ Own w0 F (H.set w.heap.size ⟨ty, cs.toList⟩) (w.drew.alloc (.cells cs ty)) := by
  have := h.drew.alloc ty cs
  simpa using this

theorem app_run {w : World} (hO : Own w0 F H w) {K : Value → Heap → Prop} {t tx e ex ty : TypeId} {i : TypeInfo} {z : Value} (ht : P.underlying t = some (.slice e)) (htx : P.underlying tx = some (.slice ex)) (hi : P.info? e = some i) (hz : i.zero = some z)
    {s x : Value} (h : appQ w0 H K e i.size i.bytes z.cells.toList s x) : ∃ u H' w', (Builtin.append_ #[t, tx] ty #[s, x]).run P w = .ok u w' ∧ K u H' ∧ Own w0 F H' w' := by
  unfold appQ at h
  split at h <;> (try exact h.elim)
  rename_i a n cap xa m xc
  obtain ⟨hb, h63, h⟩ := h
  obtain ⟨news, hnews, hroom, hgrow⟩ := optQ_some h
  by_cases hr : n + m ≤ cap
  · obtain ⟨hfx, hlx⟩ := run_srd (P := P) hO hnews m xc
    obtain ⟨w', H', h1, h2, h3, h4⟩ := run_lay (P := P) hO (hroom hr)
    refine ⟨_, H', w', ?_, h3, h4⟩
    cases a with
    | none =>
      have := h2 rfl
      subst this
      simp [Builtin.append_, run_underlying ht, run_underlying htx, sizeOf, typeInfo, hi, Builtin.lenOf, hr, hfx]
    | some b => simp [Builtin.append_, run_underlying ht, run_underlying htx, sizeOf, typeInfo, hi, Builtin.lenOf, hr, hfx, h1 b rfl]
  · obtain ⟨olds, holds, hK⟩ := optQ_some (hgrow (by omega))
    obtain ⟨hfx, hlx⟩ := run_srd (P := P) hO.drew hnews m xc
    obtain ⟨hfo, hlo⟩ := run_srd (P := P) hO.drew holds n cap
    have hge := grownCap_ge w (n + m) cap e
    have hcm := grownCap_le_maxLen w (n + m) cap e h63
    have hfit := growslice_fits (need := n + m) (old := cap) (bytes := i.bytes) (by omega) hb
    obtain ⟨a1, a2, a3⟩ := hO.alloc_drew e (olds.toArray ++ news.toArray ++ Builtin.zeroCells z.cells (grownCap w (n + m) cap e - (n + m)))
    have := hK _ hge hcm w.heap.size a1 a2
    refine ⟨_, _, w.drew.alloc (.cells (olds.toArray ++ news.toArray ++ Builtin.zeroCells z.cells (grownCap w (n + m) cap e - (n + m))) e), ?_, this, ?_⟩
    rotate_left
    · have e1 : (olds.toArray ++ news.toArray ++ Builtin.zeroCells z.cells (grownCap w (n + m) cap e - (n + m))).toList = olds ++ news ++ zeroL z.cells.toList (grownCap w (n + m) cap e - (n + m)) := by simp [zeroL]
      rw [e1] at a3
      exact a3
    · have hn : ¬ (n + m ≤ cap) := hr
      have h63' : ¬ (9223372036854775807 < ((n : Int) + (m : Int))) := by omega
      have h48' : ¬ (281474976710656 < Builtin.nextslicecap (n + m) cap * i.bytes) := by omega
      simp [Builtin.append_, run_underlying ht, run_underlying htx, sizeOf, typeInfo, zeroValue, hi, hz, Builtin.lenOf, hn, h63', h48', Question.forced, hfx, hfo, newRow, grownCap]
      congr 2
      apply Array.ext'
      simp [List.append_assoc]

theorem appz_run {w : World} (hO : Own w0 F H w) {K : Value → Heap → Prop} {t tx e ty : TypeId} {xk : IntKind} {i : TypeInfo} {z : Value} (ht : P.underlying t = some (.slice e)) (htx : P.underlying tx = some (.int xk)) (hi : P.info? e = some i) (hz : i.zero = some z) (hs : z.cells.size = i.size)
    {s x : Value} (h : appzQ w0 H K e i.size i.bytes z.cells.toList s x) : ∃ u H' w', (Builtin.append_ #[t, tx] ty #[s, x]).run P w = .ok u w' ∧ K u H' ∧ Own w0 F H' w' := by
  unfold appzQ at h
  split at h <;> (try exact h.elim)
  rename_i a n cap k mi
  obtain ⟨h0, hb, h63, hroom, hgrow⟩ := h
  obtain ⟨m, rfl⟩ : ∃ m : Nat, mi = m := ⟨mi.toNat, by omega⟩
  rw [Int.toNat_natCast] at hb h63 hroom hgrow
  have hw : IntKind.i64.wrap (m : Int) = m := by simp [IntKind.wrap, IntKind.signed, IntKind.bits]; omega
  have hng : ¬ ((m : Int) < 0) := by omega
  have hm48 : ¬ (281474976710656 < (m : Int) * (i.bytes : Int)) := by
    have e1 : m * i.bytes ≤ (n + m) * i.bytes := Nat.mul_le_mul_right _ (by omega)
    have e2 : ((m * i.bytes : Nat) : Int) = (m : Int) * (i.bytes : Int) := Int.natCast_mul _ _
    omega
  have hz0 : m * i.size = 0 → (zeroL z.cells.toList m) = [] := fun e => by
    apply List.eq_nil_of_length_eq_zero
    have : (zeroL z.cells.toList m).length = (Builtin.zeroCells z.cells m).size := by simp [zeroL]
    rw [this, size_zeroCells, hs, e]
  have hzr : ∀ w : World, ((if m * i.size = 0 then pure #[] else pure (Builtin.zeroCells z.cells m)) : Sem (Array Value)).run P w = .ok (zeroL z.cells.toList m).toArray w := fun w => by
    by_cases e : m * i.size = 0
    · rw [if_pos e, hz0 e]; rfl
    · rw [if_neg e]; simp [zeroL]
  by_cases hr : n + m ≤ cap
  · obtain ⟨w', H', h1, h2, h3, h4⟩ := run_lay (P := P) hO (hroom hr)
    refine ⟨_, H', w', ?_, h3, h4⟩
    cases a with
    | none =>
      have := h2 rfl
      subst this
      by_cases e : m * i.size = 0
      · have e2 : m = 0 ∨ i.size = 0 := Nat.mul_eq_zero.1 e
        simp [Builtin.append_, run_underlying ht, run_underlying htx, sizeOf, typeInfo, hi, asInt, asIntOf, hng, hw, hm48, hr, e]
      · have e2 : ¬ (m = 0 ∨ i.size = 0) := fun h => e (Nat.mul_eq_zero.2 h)
        simp [Builtin.append_, run_underlying ht, run_underlying htx, sizeOf, typeInfo, zeroValue, hi, hz, asInt, asIntOf, hng, hw, hm48, hr, e]
    | some b =>
      have hl := h1 b rfl
      by_cases e : m * i.size = 0
      · rw [hz0 e] at hl
        have e2 : m = 0 ∨ i.size = 0 := Nat.mul_eq_zero.1 e
        simp [Builtin.append_, run_underlying ht, run_underlying htx, sizeOf, typeInfo, hi, asInt, asIntOf, hng, hw, hm48, hr, e, hl]
      · have e2 : ¬ (m = 0 ∨ i.size = 0) := fun h => e (Nat.mul_eq_zero.2 h)
        have hl2 : (storeCells (b.add (n * i.size)) (Builtin.zeroCells z.cells m).toList).run P w = .ok () w' := by rw [← hl]; simp [zeroL]
        simp [Builtin.append_, run_underlying ht, run_underlying htx, sizeOf, typeInfo, zeroValue, hi, hz, asInt, asIntOf, hng, hw, hm48, hr, e, hl2]
  · obtain ⟨olds, holds, hK⟩ := optQ_some (hgrow (by omega))
    obtain ⟨hfo, hlo⟩ := run_srd (P := P) hO.drew holds n cap
    have hge := grownCap_ge w (n + m) cap e
    have hcm := grownCap_le_maxLen w (n + m) cap e h63
    have hfit := growslice_fits (need := n + m) (old := cap) (bytes := i.bytes) (by omega) hb
    obtain ⟨a1, a2, a3⟩ := hO.alloc_drew e (olds.toArray ++ (zeroL z.cells.toList m).toArray ++ Builtin.zeroCells z.cells (grownCap w (n + m) cap e - (n + m)))
    have := hK _ hge hcm w.heap.size a1 a2
    refine ⟨_, _, w.drew.alloc (.cells (olds.toArray ++ (zeroL z.cells.toList m).toArray ++ Builtin.zeroCells z.cells (grownCap w (n + m) cap e - (n + m))) e), ?_, this, ?_⟩
    rotate_left
    · have e1 : (olds.toArray ++ (zeroL z.cells.toList m).toArray ++ Builtin.zeroCells z.cells (grownCap w (n + m) cap e - (n + m))).toList = olds ++ zeroL z.cells.toList m ++ zeroL z.cells.toList (grownCap w (n + m) cap e - (n + m)) := by simp [zeroL]
      rw [e1] at a3
      exact a3
    · have hn : ¬ (n + m ≤ cap) := hr
      have h63' : ¬ (9223372036854775807 < ((n : Int) + (m : Int))) := by omega
      have h48' : ¬ (281474976710656 < Builtin.nextslicecap (n + m) cap * i.bytes) := by omega
      by_cases e0 : m * i.size = 0
      · have e2 : m = 0 ∨ i.size = 0 := Nat.mul_eq_zero.1 e0
        simp [Builtin.append_, run_underlying ht, run_underlying htx, sizeOf, typeInfo, zeroValue, hi, hz, asInt, asIntOf, hng, hw, hm48, hn, h63', h48', Question.forced, hfo, newRow, grownCap, e0, hz0 e0]
      · have e2 : ¬ (m = 0 ∨ i.size = 0) := fun h => e0 (Nat.mul_eq_zero.2 h)
        simp [Builtin.append_, run_underlying ht, run_underlying htx, sizeOf, typeInfo, zeroValue, hi, hz, asInt, asIntOf, hng, hw, hm48, hn, h63', h48', Question.forced, hfo, newRow, grownCap, e0, zeroL]

theorem cells_range {z : Array Value} {n size : Nat} (h : z.size = size) : (Array.range (n * size)).map (fun x => z[x % z.size]!) = Builtin.zeroCells z n := by
  subst h; rfl

theorem mks_run {w : World} (hO : Own w0 F H w) {K : Value → Heap → Prop} {t e : TypeId} {i : TypeInfo} {z : Value} (ht : P.underlying t = some (.slice e)) (hi : P.info? e = some i) (hz : i.zero = some z) (hs : z.cells.size = i.size)
    {l c : Value} (h : mksQ w0 H K e i.bytes z.cells.toList l c) : ∃ u H' w', (Instr.makeSlice t l c).run P w = .ok u w' ∧ K u H' ∧ Own w0 F H' w' := by
  unfold mksQ at h
  split at h <;> (try exact h.elim)
  rename_i k1 l k2 c
  obtain ⟨h1, h2, h3, h4, h5⟩ := h
  obtain ⟨a1, a2, a3⟩ := hO.alloc e (Builtin.zeroCells z.cells c.toNat)
  have e3 : ((Builtin.zeroCells z.cells c.toNat)).toList = zeroL z.cells.toList c.toNat := by simp [zeroL]
  rw [e3] at a3
  refine ⟨_, _, _, ?_, h5 _ a1 a2, a3⟩
  have t4 : (i.bytes : Int) * c ≤ 281474976710656 := by
    have : (i.bytes : Int) * c = ((i.bytes * c.toNat : Nat) : Int) := by rw [Int.natCast_mul, Int.toNat_of_nonneg (by omega)]
    omega
  rw [run_make w t e i z ht hi hz k1 k2 l c h1 h2 t4 h3]
  have e4 : madeCells z.cells (c.toNat * i.size) = Builtin.zeroCells z.cells c.toNat := by rw [← hs]; rfl
  rw [e4]

theorem bslice_run {w : World} (hO : Own w0 F H w) {K : Value → Heap → Prop} {t e : TypeId} {i : TypeInfo} {z : Value} {len : Nat} {ps : Array (Nat × Operand)} {l : List (Nat × Nat × Operand)} (ht : P.underlying t = some (.slice e)) (hi : P.info? e = some i)
    (hz : i.zero = some z) (hs : z.cells.size = i.size) (hle : len * i.size ≤ 16777216) (hl : plcs (fun j => some (j * i.size, i.size)) ps.toList = some l)
    (h : mwp P w0 (.bslice e len (zeroL z.cells.toList len) l) T H K) : ∃ u H' w', (Instr.buildSlice t len (ps.map fun (j, x) => (j, ev T x))).run P w = .ok u w' ∧ K u H' ∧ Own w0 F H' w' := by
  simp only [mwp] at h
  obtain ⟨cs, hcs, hK⟩ := optQ_some h
  have hfill := fill_of _ T ps.toList l _ cs hl hcs
  have e3 : (zeroL z.cells.toList len).toArray = Builtin.zeroCells z.cells len := by simp [zeroL]
  rw [e3] at hfill
  obtain ⟨a1, a2, a3⟩ := hO.alloc e cs.toArray
  refine ⟨_, _, _, ?_, hK _ a1 a2, a3⟩
  have t1 : ¬ (16777216 < len * i.size) := by omega
  have hps : (ps.map fun (j, x) => (j, ev T x)).toList = ps.toList.map fun p => (p.1, ev T p.2) := by simp
  by_cases hn : len * i.size = 0
  · have e4 : Builtin.zeroCells z.cells len = #[] := by
      apply Array.eq_empty_of_size_eq_zero
      rw [size_zeroCells, hs, hn]
    rw [e4] at hfill
    simp [Instr.buildSlice, run_underlying ht, sizeOf, typeInfo, hi, t1, hn, newRow, slcV]
    have hfill' : Instr.fill (fun j => some (j * i.size, i.size)) #[] (List.map (fun a => (a.fst, ev T a.snd)) ps.toList) = some cs.toArray := hfill
    rw [show (Array.map (fun x => (default : Value)) (Array.range 0)) = #[] by simp, hfill']
    simp
  · have e4 : ∀ k, k = len * i.size → (Array.range k).map (fun x => z.cells[x % z.cells.size]!) = Builtin.zeroCells z.cells len := fun k hk => by subst hk; exact cells_range hs
    simp [Instr.buildSlice, run_underlying ht, sizeOf, typeInfo, zeroValue, hi, hz, t1, hn, newRow, slcV]
    have e5 := e4 _ rfl
    have hfill' : Instr.fill (fun j => some (j * i.size, i.size)) (Builtin.zeroCells z.cells len) (List.map (fun a => (a.fst, ev T a.snd)) ps.toList) = some cs.toArray := hfill
    rw [e5, hfill']
    simp

theorem cpy_run {w : World} (hO : Own w0 F H w) {K : Value → Heap → Prop} {ats : Array TypeId} {t e ty : TypeId} {i : TypeInfo} (ht0 : ats[0]? = some t) (ht : P.underlying t = some (.slice e)) (hi : P.info? e = some i)
    {d x : Value} (h : cpyQ w0 H K i.size d x) : ∃ u H' w', (Builtin.copy_ ats ty #[d, x]).run P w = .ok u w' ∧ K u H' ∧ Own w0 F H' w' := by
  unfold cpyQ at h
  split at h <;> (try exact h.elim)
  rename_i a n nc xa m xc
  obtain ⟨vs, hvs, h⟩ := optQ_some h
  obtain ⟨hfx, hlx⟩ := run_srd (P := P) hO hvs m xc
  obtain ⟨w', H', h1, h2, h3, h4⟩ := run_lay (P := P) hO h
  refine ⟨_, H', w', ?_, h3, h4⟩
  cases a with
  | none =>
    have := h2 rfl
    subst this
    simp [Builtin.copy_, ht0, run_underlying ht, sizeOf, typeInfo, hi, Builtin.lenOf, goInt] at hfx ⊢
    simp [hfx]
  | some b =>
    have h1' := h1 b rfl
    rw [show b.add 0 = b by cases b with | mk x y s => cases s <;> rfl] at h1'
    simp [Builtin.copy_, ht0, run_underlying ht, sizeOf, typeInfo, hi, Builtin.lenOf, goInt] at hfx ⊢
    simp [hfx, h1']

theorem mnz_found (fn : Func) (h : fn.name = "internal/bytealg.MakeNoZero") (h2 : fn.origin = "") : Extern.findNext fn = none ∧ Extern.find fn = some (Extern.BytealgMakeNoZero.makeNoZero fn.params fn.resultTypes) := by
  obtain ⟨name, origin⟩ := fn
  simp only at h h2
  subst h h2
  exact ⟨by kernel_rfl, by kernel_rfl⟩
theorem mnz_run {w : World} (hO : Own w0 F H w) {K : Value → Heap → Prop} {f : FuncId} {c : Call} {x : Operand} {e : TypeId} {o : Oper} (ho : o.op = .call c) (hf : mnzE P f = some e) (hcal : c.callee = .value (.func f)) (ha : c.args.toList = [x])
    (h : mnzQ w0 H K e (ev T x)) : ∃ u H' w', (execOp (ev T) o).run P w = .ok (.value u) w' ∧ K u H' ∧ Own w0 F H' w' := by
  unfold mnzE at hf
  split at hf <;> (try (cases hf; done))
  rename_i fn hfn
  split at hf <;> (try (cases hf; done))
  rename_i hc
  split at hf <;> cases hf
  rename_i hr
  simp only [Bool.and_eq_true, beq_iff_eq] at hc
  obtain ⟨⟨hn, hn2⟩, hb⟩ := hc
  have hargs : c.args = #[x] := by apply Array.ext'; simpa using ha
  obtain ⟨e1, e2⟩ := mnz_found fn hn hn2
  have h6 : (fn.name == "runtime.NumGoroutine") = false := by rw [hn]; decide
  have hev : ev T (.func f) = .func (.func f) #[] #[] := rfl
  unfold mnzQ at h
  split at h <;> (try exact h.elim)
  rename_i l hx
  obtain ⟨h1, h2, h3⟩ := h
  cases ht : fn.resultTypes[0]? with
  | none => simp [ht] at hr
  | some t =>
  simp [ht] at hr
  obtain ⟨n, rfl⟩ := Int.eq_ofNat_of_zero_le h1
  obtain ⟨cs, hrun, hle, hmx⟩ := Lib.run_makeNoZero (P := P) w fn.params t e hr n (by omega)
  have hrun' : (Extern.BytealgMakeNoZero.makeNoZero fn.params fn.resultTypes #[.int .i64 n]).run P w = .ok (.slice (some ⟨w.heap.size, 0, none⟩) n cs.size) (w.drew.drew.alloc (.cells cs e)) := by
    rw [← hrun]
    have hd : ∀ (ps rs : Array TypeId), Extern.BytealgMakeNoZero.makeNoZero ps rs #[.int .i64 (n : Int)] =
        (do
          let some t := rs[0]? | stuck "bytealg.MakeNoZero: no result type"
          let .slice elem ← underlying t | stuck "bytealg.MakeNoZero: slice type expected"
          if (n : Int) < 0 || (n : Int) > 2 ^ 48 then runtimePanic (.error "makeslice: len out of range")
          let cap ← choose (.appendCap (n : Int).toNat 0 elem)
          askRoom cap
          let bytes ← choose (.extern "internal/bytealg.MakeNoZero.bytes" 0)
          let a ← newRow elem (Extern.BytealgMakeNoZero.digits cap bytes #[])
          pure (.slice (some a) (n : Int).toNat cap)) := fun _ _ => rfl
    rw [hd, hd, ht]
    rfl
  obtain ⟨a1, a2, a3⟩ := hO.drew.alloc_drew e cs
  refine ⟨_, _, _, ?_, h3 cs.toList (by simpa using hle) (by simpa [maxLen] using hmx (by unfold maxLen; omega)) _ a1 a2, a3⟩
  simp only [execOp, ho, resolve, hcal, hev, Deferred.ofValue, Sem.run_bind, Sem.run_pure, Result.andThen_ok, invoke]
  have hargs2 : #[] ++ c.args.map (ev T) ++ #[] = #[.int .i64 (n : Int)] := by rw [hargs]; simp [hx]
  rw [hargs2, run_callFunc_extern hfn h6 hb e1 e2, hrun']
  simp
theorem clr_run {w : World} (hO : Own w0 F H w) {K : Value → Heap → Prop} {ats : Array TypeId} {t e ty : TypeId} {z : Value} {i : TypeInfo} (ht0 : ats[0]? = some t) (ht : P.underlying t = some (.slice e)) (hi : P.info? e = some i) (hz : i.zero = some z)
    {x : Value} (h : clrQ H K z.cells.toList x) : ∃ u H' w', (Builtin.clear_ ats ty #[x]).run P w = .ok u w' ∧ K u H' ∧ Own w0 F H' w' := by
  unfold clrQ at h
  split at h <;> (try exact h.elim)
  rename_i a n c
  obtain ⟨w', H', h1, h2, h3, h4⟩ := run_lay (P := P) hO h
  refine ⟨_, H', w', ?_, h3, h4⟩
  cases a with
  | none =>
    have := h2 rfl
    subst this
    simp [Builtin.clear_, ht0, run_underlying ht]
  | some b =>
    have h1' := h1 b rfl
    rw [show b.add 0 = b by cases b with | mk x y s => cases s <;> rfl] at h1'
    cases n with
    | zero =>
      have : zeroL z.cells.toList 0 = [] := by simp [zeroL, Builtin.zeroCells]
      rw [this] at h1'
      simp [storeCells] at h1'
      subst h1'
      simp [Builtin.clear_, ht0, run_underlying ht]
    | succ n =>
      simp [zeroL] at h1'
      simp [Builtin.clear_, ht0, run_underlying ht, zeroValue, typeInfo, hi, hz, h1']

/-- A builtin operation that makes or writes memory. -/
theorem exec_builtin {c : Call} {b : Builtin} {f : Array TypeId → TypeId → Array Value → Sem Value} (hb : c.callee = .builtin b) (hf : ∀ at_ t cs args, builtin b at_ t cs args = (do pure (.value (← f at_ t args)) : Sem Next))
    {o : Oper} (ho : o.op = .call c) {w w' : World} {u : Value} (h : (f c.argTypes o.type (c.args.map (ev T))).run P w = .ok u w') : (execOp (ev T) o).run P w = .ok (.value u) w' := by
  simp only [execOp, ho, resolve, hb, Sem.run_bind, Sem.run_pure, Result.andThen_ok, invoke, hf, h]

end
end Go.HL
