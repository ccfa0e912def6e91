/- The heap logic, part j: a function's call, out of what its resolved code asks. -/
import Derived.Test.YtokjajfojjibcaaHli
set_option linter.unusedSimpArgs false
set_option linter.unusedVariables false
namespace Go.HL
open Go.RowKit

inductive RV where
  | t (t : Tmp)
  | c1 (a : Tmp)
  | cn (n : Nat) (a : Tmp)

def trRes (P : Program) : List ResultVar → Option (List RV)
  | [] => some []
  | .tmp t :: l => (trRes P l).map (.t t :: ·)
  | .cell a t :: l => match P.underlying t, P.info? t, trRes P l with
    | some (.struct _), some i, some r => some (.cn i.size a :: r)
    | some (.array _ _), some i, some r => some (.cn i.size a :: r)
    | some _, some _, some r => some (.c1 a :: r)
    | _, _, _ => none

def resV (w0 : World) (T : List Value) (H : Heap) : List RV → Option (List Value)
  | [] => some []
  | .t t :: l => (resV w0 T H l).map (lk T t :: ·)
  | .c1 a :: l => match lk T a with
    | .pointer (some ⟨b, off, none⟩) => match rd1 w0 H b off, resV w0 T H l with
      | some v, some r => some (v :: r)
      | _, _ => none
    | _ => none
  | .cn n a :: l => match lk T a with
    | .pointer (some ⟨b, off, none⟩) => match rdn w0 H b off n, resV w0 T H l with
      | some cs, some r => some (.agg cs.toArray :: r)
      | _, _ => none
    | _ => none

def tup : List Value → Value
  | [v] => v
  | vs => .tuple vs.toArray

def finQ (w0 : World) (rv : List RV) (K : Value → Heap → Prop) (T : List Value) (H : Heap) : Prop :=
  optQ (resV w0 T H rv) fun vs => K (tup vs) H

section
variable {P : Program} {w0 : World}

def resOne (tm : Array Value) : ResultVar → Sem Value
  | .tmp t => pure (tm.getD t undef)
  | .cell a t => do loadVar t (← asAddr (tm.getD a undef))

theorem run_resOne_agg {tm : Array Value} {H : Heap} {w : World} (hO : Own w0 H w) {a t b off : Nat} {d : TypeDesc} {i : TypeInfo} {cs : List Value} (hu : P.underlying t = some d) (hd : aggD d = true) (hi : P.info? t = some i)
    (hp : tm.getD a undef = .pointer (some ⟨b, off, none⟩)) (hcs : rdn w0 H b off i.size = some cs) : (resOne tm (.cell a t)).run P w = .ok (.agg cs.toArray) w := by
  obtain ⟨hl, hc⟩ := hO.rdn hcs
  simp only [resOne, Sem.run_bind, hp, asAddr, Sem.run_pure, Result.andThen_ok, loadVar, run_isAgg hu, hd, if_true, run_siz hi, run_loadCells hl hc]

theorem run_resOne_one {tm : Array Value} {H : Heap} {w : World} (hO : Own w0 H w) {a t b off : Nat} {d : TypeDesc} {v : Value} (hu : P.underlying t = some d) (hd : aggD d = false)
    (hp : tm.getD a undef = .pointer (some ⟨b, off, none⟩)) (hv : rd1 w0 H b off = some v) : (resOne tm (.cell a t)).run P w = .ok v w := by
  simp only [resOne, Sem.run_bind, hp, asAddr, Sem.run_pure, Result.andThen_ok, loadVar, run_isAgg hu, hd, Bool.false_eq_true, if_false, run_load, hO.rd1 hv]

theorem run_resV {T : List Value} {H : Heap} {w : World} (hO : Own w0 H w) : ∀ (rs : List ResultVar) (rv : List RV) (vs : List Value), trRes P rs = some rv → resV w0 T H rv = some vs →
    (rs.mapM (resOne T.toArray)).run P w = .ok vs w
  | [], rv, vs, h1, h2 => by
    simp [trRes] at h1; subst h1
    simp [resV] at h2; subst h2
    simp
  | .tmp t :: rs, rv, vs, h1, h2 => by
    simp only [trRes, Option.map_eq_some_iff] at h1
    obtain ⟨rv', h1', rfl⟩ := h1
    simp only [resV, Option.map_eq_some_iff] at h2
    obtain ⟨vs', h2', rfl⟩ := h2
    have ih := run_resV hO rs rv' vs' h1' h2'
    simp only [List.mapM_cons, Sem.run_bind, Sem.run_pure, Result.andThen_ok, ih, lk_eq, resOne]
  | .cell a t :: rs, rv, vs, h1, h2 => by
    simp only [trRes] at h1
    have agg : ∀ {d : TypeDesc} {i : TypeInfo} {r : List RV}, P.underlying t = some d → aggD d = true → P.info? t = some i → trRes P rs = some r → rv = .cn i.size a :: r →
        (List.mapM (resOne T.toArray) (.cell a t :: rs)).run P w = .ok vs w := by
      intro d i r hu hd hi hr hv
      subst hv
      simp only [resV] at h2
      split at h2 <;> (try (cases h2; done))
      rename_i b off hp
      split at h2 <;> cases h2
      rename_i cs vs' hcs hvs
      have ih := run_resV hO rs r vs' hr hvs
      rw [lk_eq] at hp
      simp only [List.mapM_cons, Sem.run_bind, Sem.run_pure, Result.andThen_ok, run_resOne_agg hO hu hd hi hp hcs, ih]
    split at h1 <;> (try (cases h1; done))
    · rename_i fs i r hu hi hr; cases h1; exact agg hu rfl hi hr rfl
    · rename_i n e i r hu hi hr; cases h1; exact agg hu rfl hi hr rfl
    · rename_i d i r hn1 hn2 hu hi hr
      cases h1
      have hd : aggD d = false := by cases d <;> first | rfl | (exfalso; simp_all; done)
      simp only [resV] at h2
      split at h2 <;> (try (cases h2; done))
      rename_i b off hp
      split at h2 <;> cases h2
      rename_i v vs' hv hvs
      have ih := run_resV hO rs r vs' hr hvs
      rw [lk_eq] at hp
      simp only [List.mapM_cons, Sem.run_bind, Sem.run_pure, Result.andThen_ok, run_resOne_one hO hu hd hp hv, ih]

theorem run_results {fn : Func} {T : List Value} {H : Heap} {w : World} (hO : Own w0 H w) {rv : List RV} {vs : List Value} (h1 : trRes P fn.results.toList = some rv) (h2 : resV w0 T H rv = some vs) :
    (results fn T.toArray).run P w = .ok (tup vs) w := by
  have h := run_resV (P := P) hO fn.results.toList rv vs h1 h2
  have hfun : results fn T.toArray = (do let vs ← fn.results.mapM (resOne T.toArray); pure (if h : vs.size = 1 then vs[0] else .tuple vs)) := by
    unfold results
    congr 1
  rw [hfun, Array.mapM_eq_mapM_toList]
  simp only [Sem.run_bind, Sem.run_map, h, Result.andThen_ok, Sem.run_pure]
  congr 1
  unfold tup
  match vs with
  | [] => rfl
  | [v] => rfl
  | u :: v :: l => simp

/-- A function's resolved code, its results, and the number of its slots. -/
def fnOk (P : Program) (f : FuncId) : Option (MC × List RV × Nat) :=
  match P.funcs[f]? with
  | some fn => match fn.body with
    | some c => match trCode P c, trRes P fn.results.toList with
      | some m, some r => if callable P f then some (m, r, fn.ntmps) else none
      | _, _ => none
    | none => none
  | none => none

theorem hcalls {f : FuncId} {m : MC} {rv : List RV} {nt : Nat} (hf : fnOk P f = some (m, rv, nt)) {args : List Value} {H : Heap} {K : Value → Heap → Prop} (n : Nat)
    (h : run P w0 (finQ w0 rv K) n [.code m] (args ++ List.replicate (nt - args.length) undef) H) : HCalls P w0 f args H K := by
  unfold fnOk at hf
  split at hf <;> (try (cases hf; done))
  rename_i fn hfn
  split at hf <;> (try (cases hf; done))
  rename_i c hc
  split at hf <;> (try (cases hf; done))
  rename_i m' r' hm hr
  split at hf <;> cases hf
  rename_i hcall
  refine ⟨hcall, fun w hO => ?_⟩
  intro cs
  let b : Frame := { (default : Frame) with fn := f, kind := .normal }
  have henter : Frame.enter P f args.toArray .normal = b.at { tmps := (args ++ List.replicate (fn.ntmps - args.length) undef).toArray, defers := [] } [.code c] := by
    simp [Frame.enter, Frame.at, hfn, hc, b]
  rw [henter]
  refine run_sound (b := b) (fn := fn) (fin := finQ w0 rv K) rfl hfn (fun T H a w hfin ha hO => ?_) n _ _ (.code hm .nil) _ H h _ w rfl rfl hO cs
  obtain ⟨vs, hvs, hk⟩ := optQ_some hfin
  refine ⟨tup vs, ?_, tup vs, H, rfl, hk, hO⟩
  rw [ha]
  exact run_results hO hr hvs

end
end Go.HL
