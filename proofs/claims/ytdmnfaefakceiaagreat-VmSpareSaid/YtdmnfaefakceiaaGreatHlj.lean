/- The heap logic, part j: a function's call, out of what its resolved code asks. -/
import Derived.Test.YtdmnfaefakceiaaGreatHli
set_option linter.unusedSimpArgs false
set_option linter.unusedVariables false
namespace Go.HL
open Go.RowKit

inductive RV where
  | t (t : Tmp)
  | c1 (a : Tmp)
  | cn (n : Nat) (a : Tmp)

def trRes (P : Program) : List ResultVar → Option (List RV)
  | [] => some []
  | .tmp t :: l => (trRes P l).map (.t t :: ·)
  | .cell a t :: l => match P.underlying t, P.info? t, trRes P l with
    | some (.struct _), some i, some r => some (.cn i.size a :: r)
    | some (.array _ _), some i, some r => some (.cn i.size a :: r)
    | some _, some _, some r => some (.c1 a :: r)
    | _, _, _ => none

def resV (w0 : World) (T : List Value) (H : Heap) : List RV → Option (List Value)
  | [] => some []
  | .t t :: l => (resV w0 T H l).map (lk T t :: ·)
  | .c1 a :: l => match lk T a with
    | .pointer (some ⟨b, off, none⟩) => match rd1 w0 H b off, resV w0 T H l with
      | some v, some r => some (v :: r)
      | _, _ => none
    | _ => none
  | .cn n a :: l => match lk T a with
    | .pointer (some ⟨b, off, none⟩) => match rdn w0 H b off n, resV w0 T H l with
      | some cs, some r => some (.agg cs.toArray :: r)
      | _, _ => none
    | _ => none

def tup : List Value → Value
  | [v] => v
  | vs => .tuple vs.toArray

def finQ (w0 : World) (rv : List RV) (K : Value → Heap → Prop) (T : List Value) (H : Heap) : Prop :=
  optQ (resV w0 T H rv) fun vs => K (tup vs) H

section
variable {P : Program} {w0 : World} {F : Nat → Prop}

def resOne (tm : Array Value) : ResultVar → Sem Value
  | .tmp t => pure (tm.getD t undef)
  | .cell a t => do loadVar t (← asAddr (tm.getD a undef))

theorem run_resOne_agg {tm : Array Value} {H : Heap} {w : World} (hO : Own w0 F H w) {a t b off : Nat} {d : TypeDesc} {i : TypeInfo} {cs : List Value} (hu : P.underlying t = some d) (hd : aggD d = true) (hi : P.info? t = some i)
    (hp : tm.getD a undef = .pointer (some ⟨b, off, none⟩)) (hcs : rdn w0 H b off i.size = some cs) : (resOne tm (.cell a t)).run P w = .ok (.agg cs.toArray) w := by
  obtain ⟨hl, hc⟩ := hO.rdn hcs
  simp only [resOne, Sem.run_bind, hp, asAddr, Sem.run_pure, Result.andThen_ok, loadVar, run_isAgg hu, hd, if_true, run_siz hi, run_loadCells hl hc]

theorem run_resOne_one {tm : Array Value} {H : Heap} {w : World} (hO : Own w0 F H w) {a t b off : Nat} {d : TypeDesc} {v : Value} (hu : P.underlying t = some d) (hd : aggD d = false)
    (hp : tm.getD a undef = .pointer (some ⟨b, off, none⟩)) (hv : rd1 w0 H b off = some v) : (resOne tm (.cell a t)).run P w = .ok v w := by
  simp only [resOne, Sem.run_bind, hp, asAddr, Sem.run_pure, Result.andThen_ok, loadVar, run_isAgg hu, hd, Bool.false_eq_true, if_false, run_load, hO.rd1 hv]

theorem run_resV {T : List Value} {H : Heap} {w : World} (hO : Own w0 F H w) : ∀ (rs : List ResultVar) (rv : List RV) (vs : List Value), trRes P rs = some rv → resV w0 T H rv = some vs →
    (rs.mapM (resOne T.toArray)).run P w = .ok vs w
  | [], rv, vs, h1, h2 => by
    simp [trRes] at h1; subst h1
    simp [resV] at h2; subst h2
    simp
  | .tmp t :: rs, rv, vs, h1, h2 => by
    simp only [trRes, Option.map_eq_some_iff] at h1
    obtain ⟨rv', h1', rfl⟩ := h1
    simp only [resV, Option.map_eq_some_iff] at h2
    obtain ⟨vs', h2', rfl⟩ := h2
    have ih := run_resV hO rs rv' vs' h1' h2'
    simp only [List.mapM_cons, Sem.run_bind, Sem.run_pure, Result.andThen_ok, ih, lk_eq, resOne]
  | .cell a t :: rs, rv, vs, h1, h2 => by
    simp only [trRes] at h1
    have agg : ∀ {d : TypeDesc} {i : TypeInfo} {r : List RV}, P.underlying t = some d → aggD d = true → P.info? t = some i → trRes P rs = some r → rv = .cn i.size a :: r →
        (List.mapM (resOne T.toArray) (.cell a t :: rs)).run P w = .ok vs w := by
      intro d i r hu hd hi hr hv
      subst hv
      simp only [resV] at h2
      split at h2 <;> (try (cases h2; done))
      rename_i b off hp
      split at h2 <;> cases h2
      rename_i cs vs' hcs hvs
      have ih := run_resV hO rs r vs' hr hvs
      rw [lk_eq] at hp
      simp only [List.mapM_cons, Sem.run_bind, Sem.run_pure, Result.andThen_ok, run_resOne_agg hO hu hd hi hp hcs, ih]
    split at h1 <;> (try (cases h1; done))
    · rename_i fs i r hu hi hr; cases h1; exact agg hu rfl hi hr rfl
    · rename_i n e i r hu hi hr; cases h1; exact agg hu rfl hi hr rfl
    · rename_i d i r hn1 hn2 hu hi hr
      cases h1
      have hd : aggD d = false := by cases d <;> first | rfl | (exfalso; simp_all; done)
      simp only [resV] at h2
      split at h2 <;> (try (cases h2; done))
      rename_i b off hp
      split at h2 <;> cases h2
      rename_i v vs' hv hvs
      have ih := run_resV hO rs r vs' hr hvs
      rw [lk_eq] at hp
      simp only [List.mapM_cons, Sem.run_bind, Sem.run_pure, Result.andThen_ok, run_resOne_one hO hu hd hp hv, ih]

theorem run_results {fn : Func} {T : List Value} {H : Heap} {w : World} (hO : Own w0 F H w) {rv : List RV} {vs : List Value} (h1 : trRes P fn.results.toList = some rv) (h2 : resV w0 T H rv = some vs) :
    (results fn T.toArray).run P w = .ok (tup vs) w := by
  have h := run_resV (P := P) hO fn.results.toList rv vs h1 h2
  have hfun : results fn T.toArray = (do let vs ← fn.results.mapM (resOne T.toArray); pure (if h : vs.size = 1 then vs[0] else .tuple vs)) := by
    unfold results
    congr 1
  rw [hfun, Array.mapM_eq_mapM_toList]
  simp only [Sem.run_bind, Sem.run_map, h, Result.andThen_ok, Sem.run_pure]
  congr 1
  unfold tup
  match vs with
  | [] => rfl
  | [v] => rfl
  | u :: v :: l => simp

/-- A function's resolved code, its results, and the number of its slots. -/
def fnOk (P : Program) (f : FuncId) : Option (MC × List RV × Nat) :=
  match P.funcs[f]? with
  | some fn => match fn.body with
    | some c => match trCode P c, trRes P fn.results.toList with
      | some m, some r => if callable P f then some (m, r, fn.ntmps) else none
      | _, _ => none
    | none => none
  | none => none

theorem hcalls {f : FuncId} {m : MC} {rv : List RV} {nt : Nat} (hf : fnOk P f = some (m, rv, nt)) {args : List Value} {H : Heap} {K : Value → Heap → Prop} (n : Nat)
    (h : run P w0 (finQ w0 rv K) n [.code m] (args ++ List.replicate (nt - args.length) undef) H) : HCalls P w0 f args H K := by
  unfold fnOk at hf
  split at hf <;> (try (cases hf; done))
  rename_i fn hfn
  split at hf <;> (try (cases hf; done))
  rename_i c hc
  split at hf <;> (try (cases hf; done))
  rename_i m' r' hm hr
  split at hf <;> cases hf
  rename_i hcall
  refine ⟨hcall, fun {F} w hO => ?_⟩
  let b : Frame := { (default : Frame) with fn := f, kind := .normal, roundOf := none }
  let X : Xf := { ok := fun _ => True, fin := fun cs m => ∃ v w' fr, m = lone fr cs w' ∧ (∃ H', K v H' ∧ Own w0 F H' w') ∧ fr.fn = f ∧ fr.leaving P w' (.returned v) }
  have henter : Frame.enter P f args.toArray .normal = b.atR { tmps := (args ++ List.replicate (fn.ntmps - args.length) undef).toArray, defers := [] } [.code c] := by
    simp [Frame.enter, Frame.atR, hfn, hc, b]
  have last : ∀ (F' : Nat → Prop) (ds : List Deferred) (T : List Value) (H : Heap) (a : Act) (w : World) (todo : List Item), finQ w0 rv K T H → Mks w0 F F' ds → a.tmps = T.toArray → a.defers = ds → Own w0 F' H w →
      (∀ cs, Go.step P (lone (b.atR a todo) cs w) = .next (lone { b.atR a todo with mode := .returning } cs w)) → Good P b X todo a w := by
    intro F' ds T H a w todo hfin ⟨rs, hds, hmk, hge⟩ ha hd hO hs cs hcs
    obtain ⟨vs, hvs, hk⟩ := optQ_some hfin
    obtain ⟨w', hst, ho'⟩ := take_marks (P := P) (fr := { b.atR a todo with mode := .returning }) (cs := cs) rfl rs F' w hmk hge hO (by show a.defers = _; rw [hd, hds])
    have hres := run_results ho' hr hvs
    refine ⟨_, ⟨tup vs, w', _, rfl, ⟨H, hk, ho'⟩, rfl, rfl, rfl, rfl, fn, hfn, ?_⟩, Steps.head (hs cs) hst⟩
    show (results fn a.tmps).run P w' = _
    rw [ha]; exact hres
  have key := run_sound (P := P) (w0 := w0) (b := b) (X := X) (F0 := F) (fin := finQ w0 rv K) (fun F' ds T H a w hfin hmk ha hd hO =>
    ⟨last F' ds T H a w [] hfin hmk ha hd hO (fun cs => stepR_end rfl), fun hro k => last F' ds T H a w (.code .ret :: k) hfin hmk ha hd hO (fun cs => stepR_ret rfl)⟩)
    n [.code m] [.code c] (.code hm .nil) F [] _ H ⟨[], rfl, Mk.refl F, fun r hr => by simp at hr⟩ h { tmps := (args ++ List.replicate (fn.ntmps - args.length) undef).toArray, defers := [] } w rfl rfl hO
  intro cs
  obtain ⟨mm, ⟨v, w', fr, rfl, ⟨H', hk, ho'⟩, hfr, hl⟩, hst⟩ := key cs trivial
  exact ⟨.returned v, w', fr, ⟨v, H', rfl, hk, ho'⟩, by rw [henter]; exact hst, hfr, hl⟩

/-- The slots of a round: the loop's own, with what yield was given. -/
def putR (T : List Value) (ps : List Tmp) (args : List Value) : List Value := (ps.zip args).foldl (fun T p => st T p.1 p.2) T
theorem putR_eq (T : List Value) : ∀ (l : List (Tmp × Value)) (T : List Value), l.foldl (fun (t : Array Value) p => t.setIfInBounds p.1 p.2) T.toArray = (l.foldl (fun T p => st T p.1 p.2) T).toArray
  | [], T => rfl
  | p :: l, T => by simp only [List.foldl_cons]; rw [st_eq]; exact putR_eq T l _

theorem zip_foldl (T : List Value) (ps : List Tmp) (args : List Value) : ((ps.toArray.zip args.toArray).foldl (fun (t : Array Value) (p : Tmp × Value) => t.setIfInBounds p.1 p.2) T.toArray) = (putR T ps args).toArray := by
  rw [← Array.foldl_toList]
  have : (ps.toArray.zip args.toArray).toList = ps.zip args := by simp
  rw [this]
  exact putR_eq T _ _

/-- A round, out of what its resolved code asks. -/
def finR (l : Nat) (L : Loop) (K : Value → Heap → Prop) (_ : List Value) (H : Heap) : Prop := H l = some ⟨.o (.loop { L with state := .busy }), []⟩ ∧ K (.bool true) (H.set l ⟨.o (.loop L), []⟩)

theorem hround {l : Nat} {L : Loop} {T : List Value} {ps : List Tmp} {ma mb : MC} (hL : LoopOk P L T ps ma mb) {args : List Value} {H : Heap} {K : Value → Heap → Prop} (hH : H l = some ⟨.o (.loop L), []⟩) (hn : args.length = ps.length) (n : Nat)
    (h : run P w0 (finR l L K) n [.code ma, .bgn l L, .code mb] (putR T ps args) H) : HRound P w0 l args H K := by
  refine ⟨fun {F} w hO => ?_⟩
  obtain ⟨-, hw⟩ := blk_obj hO hH
  have hy : (Instr.yield l args.toArray).run P w = .ok (.round l L.fn (putR T ps args).toArray L.assign L.body) w := by
    have hg : (Instr.getLoop l).run P w = .ok L w := by simp [Instr.getLoop, Go.getObj, Sem.run, hw]
    have hne : ¬ (args.toArray.size ≠ L.params.size) := by rw [hL.pr]; simp [hn]
    have hz := zip_foldl T ps args
    simp only [Instr.yield, Sem.run_bind, hg, Result.andThen_ok, Sem.run_ite, hne, if_false, Sem.run_pure]
    rw [← hz, hL.pr, hL.tm]
  refine ⟨L.fn, _, L.assign, L.body, hy, fun c cs => ?_⟩
  let b : Frame := { (default : Frame) with fn := L.fn, kind := .normal, roundOf := some l }
  let X : Xf := { ok := fun cs' => cs' = c :: cs, fin := fun cs' m => ∃ v H' w', K v H' ∧ Own w0 F H' w' ∧ m = lone (c.finish v) cs w' }
  have hfr : Frame.round l L.fn (putR T ps args).toArray L.assign L.body .normal = b.atR { tmps := (putR T ps args).toArray, defers := [] } [.code L.assign, .beginRound, .code L.body] := by
    simp [Frame.round, Frame.atR, b]
  have key := run_sound (P := P) (w0 := w0) (b := b) (X := X) (F0 := F) (fin := finR l L K) (fun F' ds T' H' a w hfin ⟨rs, hds, hmk, hge⟩ ha hd hO => by
      refine ⟨fun cs' hcs => ?_, fun hro => by cases hro⟩
      have hcs' : cs' = c :: cs := hcs
      subst hcs'
      obtain ⟨h1, h2⟩ := hfin
      obtain ⟨q1, -, q2⟩ := hO.setObj h1 (.loop L) trivial
      have hend : (Instr.endRound l none).run P w = .ok (.bool true) { w with heap := w.heap.setIfInBounds l (.loop L) } := by
        have e : ({ L with state := .ready, pending := none } : Loop) = L := by
          have h1 := hL.st
          have h2 := hL.pend
          cases L; simp_all
        have hg : (Instr.getLoop l).run P w = .ok { L with state := .busy } w := by simp [Instr.getLoop, Go.getObj, Sem.run, q1]
        have hs : (Go.setObj l (.loop L)).run P w = .ok () { w with heap := w.heap.setIfInBounds l (.loop L) } := by simp [Go.setObj, Sem.run, q1]
        simp only [Instr.endRound, Sem.run_bind, hg, Result.andThen_ok, Option.isNone_none, if_true, e, hs, Sem.run_pure]
      exact ⟨_, ⟨.bool true, _, _, h2, q2.weak hmk.le, rfl⟩, .one (stepR_round_end rfl rfl hend)⟩)
    n [.code ma, .bgn l L, .code mb] [.code L.assign, .beginRound, .code L.body] (.code hL.asg (.bgn rfl (.code hL.bd .nil))) F [] _ H ⟨[], rfl, Mk.refl F, fun r hr => by simp at hr⟩ h { tmps := (putR T ps args).toArray, defers := [] } w rfl rfl hO
  obtain ⟨mm, ⟨v, H', w', hk, ho', rfl⟩, hst⟩ := key (c :: cs) rfl
  exact ⟨v, H', w', hk, ho', by rw [hfr]; exact hst⟩

end
end Go.HL
