/- The heap logic, part c: from the loaded operations to the resolved ones, and that what those ask is enough. -/
import Derived.Test.YtdmnfaefakceiaaGreatHlb
import Derived.ChangeKeysEq
set_option linter.unusedSimpArgs false
set_option linter.unusedVariables false
namespace Go.HL
open Go.RowKit

def plc (P : Program) (t : TypeId) : Option ((Nat → Option (Nat × Nat)) × List Value) :=
  match P.info? t, P.underlying t with
  | some it, some (.array _ e) =>
    match it.zero, P.info? e with
    | some z, some ie => some (fun i => some (i * ie.size, ie.size), z.cells.toList)
    | _, _ => none
  | some it, some (.struct fields) =>
    match it.zero, fields.toList.mapM (fun f => (P.info? f.type).map fun i => (f.offset, i.size)) with
    | some z, some places => some (fun i => places.toArray[i]?, z.cells.toList)
    | _, _ => none
  | _, _ => none

def plcs (place : Nat → Option (Nat × Nat)) : List (Nat × Operand) → Option (List (Nat × Nat × Operand))
  | [] => some []
  | (i, x) :: ps => match place i, plcs place ps with
    | some (o, s), some l => some ((o, s, x) :: l)
    | _, _ => none

def fldsW (g : TypeId → Option Nat) : List Field → Nat → Option Nat
  | [], n => some n
  | f :: fs, n => if f.name = "_" ∨ f.offset ≠ n then none else match g f.type with
    | some c => fldsW g fs (n + c)
    | none => none

/-- The number of cells of a type whose cells are all integers, side by side. -/
def plainT (P : Program) : Nat → TypeId → Option Nat
  | 0, _ => none
  | d + 1, t => match P.underlying t, P.info? t with
    | some (.int _), some i => if i.size = 1 then some 1 else none
    | some (.array n e), some i => match plainT P d e with
      | some c => if P.cellsOf e = c ∧ i.size = n * c then some (n * c) else none
      | none => none
    | some (.struct fs), some i => if P.stoodInHeld t then none else match fldsW (plainT P d) fs.toList 0 with
      | some n => if i.size = n then some n else none
      | none => none
    | _, _ => none

def trEq (op : BinOp) (f : Bool → MO) : Option MO :=
  match op with
  | .eql => some (f false)
  | .neq => some (f true)
  | _ => none

theorem trEq_some {op : BinOp} {f : Bool → MO} {mo : MO} (h : trEq op f = some mo) : ∃ neg : Bool, op = (if neg then .neq else .eql) ∧ mo = f neg := by
  unfold trEq at h
  split at h <;> cases h
  · exact ⟨false, rfl, rfl⟩
  · exact ⟨true, rfl, rfl⟩

def trEqa (P : Program) (op : BinOp) (t : TypeId) (x y : Operand) : Option MO :=
  if P.eqGuardType P.depth t then none else match plainT P 50 t with
    | some n => trEq op fun g => .eqa g n x y
    | none => none

def trBin (P : Program) (op : BinOp) (t : TypeId) (x y : Operand) : Option MO :=
  match P.underlying t with
  | some (.int _) => some (.bin op x y)
  | some .bool => trEq op fun g => .eqb g x y
  | some (.pointer _) => trEq op fun g => .eqp g x y
  | some (.slice _) => trEq op fun g => .eqs g x y
  | some (.map _ _) => trEq op fun g => .eqm g x y
  | some (.struct _) => trEqa P op t x y
  | some (.array _ _) => trEqa P op t x y
  | some .string => trEq op fun g => .eqst g x y
  | _ => none

def isAdd64 (P : Program) (f : FuncId) : Bool :=
  match P.funcs[f]? with
  | some fn => fn.name == "math/bits.Add64" && fn.origin == "" && fn.body.isNone
  | none => false

def mnzE (P : Program) (f : FuncId) : Option TypeId :=
  match P.funcs[f]? with
  | some fn => if fn.name == "internal/bytealg.MakeNoZero" && fn.origin == "" && fn.body.isNone then (match (fn.resultTypes[0]?).bind P.underlying with | some (.slice e) => some e | _ => none) else none
  | none => none

def trCall (P : Program) (c : Call) : Option MO :=
  match c.callee with
  | .value (.func f) => if isAdd64 P f then (match c.args.toList with | [x, y, z] => some (.add64 x y z) | _ => none) else (match mnzE P f with | some e => (match c.args.toList with | [x] => some (.mnz e x) | _ => none) | none => some (.call f c.args.toList))
  | .value x => some (.callv x c.args.toList)
  | .builtin .len => match c.args.toList, (c.argTypes[0]?).bind P.underlying with
    | [x], some (.slice _) => some (.len x)
    | [_], some (.array n _) => some (.lenc n)
    | [x], some .string => some (.lens x)
    | [x], some (.map _ _) => some (.lenm x)
    | _, _ => none
  | .builtin .cap => match c.args.toList, (c.argTypes[0]?).bind P.underlying with
    | [x], some (.slice _) => some (.capo x)
    | _, _ => none
  | .builtin .append => match c.args.toList, (c.argTypes[0]?).bind P.underlying, (c.argTypes[1]?).bind P.underlying with
    | [s, x], some (.slice e), some (.slice _) => match P.info? e with
      | some i => match i.zero with
        | some z => if z.cells.size = i.size then some (.app e i.size i.bytes z.cells.toList s x) else none
        | none => none
      | none => none
    | [s, x], some (.slice e), some (.int _) => match P.info? e with
      | some i => match i.zero with
        | some z => if z.cells.size = i.size then some (.appz e i.size i.bytes z.cells.toList s x) else none
        | none => none
      | none => none
    | _, _, _ => none
  | .builtin .copy => match c.args.toList, (c.argTypes[0]?).bind P.underlying with
    | [d, x], some (.slice e) => match P.info? e with
      | some i => some (.cpy i.size d x)
      | none => none
    | _, _ => none
  | .builtin .clear => match c.args.toList, (c.argTypes[0]?).bind P.underlying with
    | [x], some (.slice e) => match P.info? e with
      | some i => match i.zero with
        | some z => if z.cells.size = i.size ∧ (z.cells.toList.all Value.oneCell') = true then some (.clr z.cells.toList x) else none
        | none => none
      | none => none
    | _, _ => none
  | .builtin .delete => match c.args.toList, (c.argTypes[0]?).bind P.underlying with
    | [m, k], some (.map kt _) => some (.del kt m k)
    | _, _ => none
  | .builtin .min => match c.args.toList with | [x, y] => some (.mn x y) | _ => none
  | .builtin .max => match c.args.toList with | [x, y] => some (.mx x y) | _ => none
  | _ => none

def trOp (P : Program) (o : Oper) : Option MO :=
  match o.op with
  | .panic _ => some .bad
  | .makeInterface .. => some .bad
  | .move x => some (.mv x)
  | .assign x => some (.mv x)
  | .pick c a b => some (.pick c a b)
  | .alloc t => match P.info? t with
    | some i => match i.zero with
      | some z => some (.alloc t z.cells.toList)
      | none => none
    | none => none
  | .box t x => some (.box t x)
  | .build t ps => match plc P t with
    | some (place, zero) => match plcs place ps.toList with
      | some l => some (.build zero l)
      | none => none
    | none => none
  | .load t x => match P.underlying t, P.info? t with
    | some (.struct _), some i => some (.ldn i.size x)
    | some (.array _ _), some i => some (.ldn i.size x)
    | some _, some _ => some (.ld1 x)
    | _, _ => none
  | .store t x v => match P.underlying t, P.info? t with
    | some (.struct _), some i => some (.stn i.size x v)
    | some (.array _ _), some i => some (.stn i.size x v)
    | some _, some i => if i.size = 1 then some (.st1 x v) else none
    | _, _ => none
  | .nilCheck x => some (.nilc x)
  | .binOp op t x y _ => trBin P op t x y
  | .unOp op _ x => some (.un op x)
  | .convert s d x => match P.underlying s, P.underlying d with
    | some (.int _), some (.int k) => some (.conv k x)
    | some (.slice e), some .string => match P.underlying e with
      | some (.int .u8) => some (.bstr x)
      | _ => none
    | _, _ => none
  | .slice t x lo hi none => match P.underlying t with
    | some (.slice e) => match P.info? e with
      | some ie => some (.slc ie.size x lo hi)
      | none => none
    | some (.array n e) => match P.info? e with
      | some ie => some (.sla n ie.size x lo hi)
      | none => none
    | _ => none
  | .slice t x none (some h) (some m) => match P.underlying t with
    | some (.slice e) => match P.info? e with
      | some _ => some (.slc3 x h m)
      | none => none
    | _ => none
  | .makeSlice t l c => match P.underlying t with
    | some (.slice e) => match P.info? e with
      | some i => match i.zero with
        | some z => if z.cells.size = i.size then some (.mks e i.bytes z.cells.toList l c) else none
        | none => none
      | none => none
    | _ => none
  | .buildSlice t len ps => match P.underlying t with
    | some (.slice e) => match P.info? e with
      | some i => match i.zero with
        | some z => if z.cells.size = i.size ∧ len * i.size ≤ 16777216 then (match plcs (fun j => some (j * i.size, i.size)) ps.toList with
          | some l => some (.bslice e len (zeroL z.cells.toList len) l)
          | none => none) else none
        | none => none
      | none => none
    | _ => none
  | .makeFunc (.func f) first caps => if first.isEmpty then some (.fn f caps.toList) else none
  | .fieldAddr s x f => match P.underlying s with
    | some (.struct fs) => match fs[f]? with
      | some fd => if P.cellsOf fd.type = 0 ∨ (P.info? fd.type).isNone then none else some (.fa fd.offset x)
      | none => none
    | _ => none
  | .field s x f => match P.underlying s with
    | some (.struct fs) => match fs[f]? with
      | some fd => match P.underlying fd.type, P.info? fd.type with
        | some (.struct _), some i => some (.fm fd.offset i.size x)
        | some (.array _ _), some i => some (.fm fd.offset i.size x)
        | some _, some _ => some (.f1 fd.offset x)
        | _, _ => none
      | none => none
    | _ => none
  | .indexAddr t x i => match P.underlying t with
    | some (.array n e) => match P.info? e with
      | some ie => some (.ia n ie.size x i)
      | none => none
    | some (.slice e) => match P.info? e with
      | some ie => some (.is ie.size x i)
      | none => none
    | _ => none
  | .index t x i => match P.underlying t with
    | some (.array n e) => match P.underlying e, P.info? e with
      | some (.struct _), some ie => some (.ixm n ie.size x i)
      | some (.array _ _), some ie => some (.ixm n ie.size x i)
      | some _, some ie => if ie.size = 1 then some (.ix n x i) else none
      | _, _ => none
    | some .string => some (.ixs x i)
    | _ => none
  | .extract x i => some (.ext i x)
  | .call c => trCall P c
  | .makeMap _ none => some .mkm
  | .lookup t x i ok => match P.underlying t with
    | some (.map kt et) => match P.info? et with
      | some ie => match ie.zero with
        | some z => some (.lkp kt ok z x i)
        | none => none
      | none => none
    | _ => none
  | .mapUpdate t m k v => match P.underlying t with
    | some (.map kt _) => some (.mup kt m k v)
    | _ => none
  | .insert t m k v => match P.underlying t with
    | some (.map kt _) => some (.mup kt m k v)
    | _ => none
  | .range t x => match P.underlying t with
    | some (.map _ _) => some (.rng x)
    | _ => none
  | .next x false => some (.nxt x)
  | _ => none

def aggD : TypeDesc → Bool
  | .struct _ => true
  | .array _ _ => true
  | _ => false

/-! ### Runs of the model's parts -/
section
variable {P : Program}

theorem run_und {t : TypeId} {d : TypeDesc} (h : P.underlying t = some d) (w : World) : (underlying t).run P w = .ok d w := run_underlying h w
theorem run_siz {t : TypeId} {i : TypeInfo} (h : P.info? t = some i) (w : World) : (sizeOf t).run P w = .ok i.size w := by simp [sizeOf, typeInfo, h]
theorem run_isAgg {t : TypeId} {d : TypeDesc} (h : P.underlying t = some d) (w : World) : (isAgg t).run P w = .ok (aggD d) w := by
  simp only [isAgg, Sem.run_bind, run_und h, Result.andThen_ok]
  cases d <;> rfl

theorem fold_putAt : ∀ (l : List Value) (off k : Nat) (L : List Value), (l.zipIdx k).foldl (fun cs p => cs.set (off + p.2) p.1) L = putAt L (off + k) l
  | [], off, k, L => by simp [putAt_nil]
  | v :: l, off, k, L => by
    simp only [List.zipIdx_cons, List.foldl_cons]
    rw [fold_putAt l off (k + 1), putAt_cons]
    rfl

theorem fold_set (v : Value) (off : Nat) (cells : Array Value) :
    v.cells.zipIdx.foldl (fun cs (c, j) => cs.setIfInBounds (off + j) c) cells = (putAt cells.toList off v.cells.toList).toArray := by
  rw [← Array.foldl_toList, Array.toList_zipIdx]
  have key : ∀ (l : List (Value × Nat)) (c : Array Value), l.foldl (fun cs (p : Value × Nat) => cs.setIfInBounds (off + p.2) p.1) c = (l.foldl (fun (cs : List Value) (p : Value × Nat) => cs.set (off + p.2) p.1) c.toList).toArray := by
    intro l
    induction l with
    | nil => intro c; simp
    | cons p l ih => intro c; simp only [List.foldl_cons]; rw [ih]; simp
  have := fold_putAt v.cells.toList off 0 cells.toList
  simp only [Nat.add_zero] at this
  rw [← this]
  exact key _ _

theorem fill_of (place : Nat → Option (Nat × Nat)) (T : List Value) : ∀ (ps : List (Nat × Operand)) (l : List (Nat × Nat × Operand)) (zero cs : List Value), plcs place ps = some l →
    fillL zero (partsV T l) = some cs → Instr.fill place zero.toArray (ps.map fun p => (p.1, ev T p.2)) = some cs.toArray
  | [], l, zero, cs, hp, hf => by
    simp [plcs] at hp; subst hp
    simp [partsV, fillL] at hf; subst hf
    simp [Instr.fill]
  | (i, x) :: ps, l, zero, cs, hp, hf => by
    unfold plcs at hp
    split at hp
    · rename_i o s l' hpl hrest
      simp at hp; subst hp
      simp only [partsV, List.map_cons, fillL] at hf
      split at hf
      · rename_i hc
        have ih := fill_of place T ps l' _ cs hrest hf
        simp only [List.map_cons, Instr.fill, hpl]
        have h1 : ¬ ((ev T x).cells.size ≠ s ∨ o + (ev T x).cells.size > zero.toArray.size) := by
          simp; omega
        simp only [ne_eq, gt_iff_lt, Bool.or_eq_true, decide_eq_true_eq]
        rw [if_neg (by simpa using h1), fold_set]
        exact ih
      · cases hf
    · cases hp

theorem built_of {t : TypeId} {place : Nat → Option (Nat × Nat)} {zero cs : List Value} {T : List Value} {ps : List (Nat × Operand)} {l : List (Nat × Nat × Operand)} (h : plc P t = some (place, zero))
    (hp : plcs place ps = some l) (hf : fillL zero (partsV T l) = some cs) : P.built t (ps.map fun p => (p.1, ev T p.2)) = some cs.toArray := by
  have key := fill_of place T ps l zero cs hp hf
  unfold plc at h
  unfold Program.built
  split at h
  · rename_i it n e hit hu
    simp only [hit, hu]
    split at h
    · rename_i z ie hz hie
      simp only [Option.some.injEq, Prod.mk.injEq] at h
      obtain ⟨rfl, rfl⟩ := h
      simp only [hz, hie]
      simpa using key
    · cases h
  · rename_i it fields hit hu
    simp only [hit, hu]
    split at h
    · rename_i z places hz hpl
      simp only [Option.some.injEq, Prod.mk.injEq] at h
      obtain ⟨rfl, rfl⟩ := h
      simp only [hz, hpl]
      simpa using key
    · cases h
  · cases h

end
end Go.HL
