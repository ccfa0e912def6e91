/- The heap logic, part b: operations with their types resolved, what each asks and yields; each is sound for the model's own operation. -/
import Derived.Test.YtdmnfaefakceiaaGreatHla
import Derived.AtR
import Derived.Maps.Keyed
set_option linter.unusedSimpArgs false
set_option linter.unusedVariables false
namespace Go.HL
open Go.RowKit

def lk : List Value → Nat → Value
  | [], _ => undef
  | v :: _, 0 => v
  | _ :: l, n + 1 => lk l n

def st : List Value → Nat → Value → List Value
  | [], _, _ => []
  | _ :: l, 0, v => v :: l
  | u :: l, n + 1, v => u :: st l n v

theorem lk_eq : ∀ (T : List Value) (n : Nat), lk T n = T.toArray.getD n undef
  | [], n => by simp [lk]
  | v :: l, 0 => by simp [lk]
  | v :: l, n + 1 => by simp [lk, lk_eq l n]

theorem st_eq : ∀ (T : List Value) (n : Nat) (v : Value), T.toArray.setIfInBounds n v = (st T n v).toArray
  | [], n, v => by simp [st]
  | u :: l, 0, v => by simp [st]
  | u :: l, n + 1, v => by
    have := st_eq l n v
    simp only [List.setIfInBounds_toArray] at this ⊢
    simp only [List.set_cons_succ, st]
    have h := congrArg Array.toList this
    simp at h
    rw [h]

def put (T : List Value) (d : Option Tmp) (v : Value) : List Value :=
  match d with
  | some d => st T d v
  | none => T

def ev (T : List Value) : Operand → Value
  | .tmp t => lk T t
  | .const v => v
  | .global g => .pointer (some ⟨g, 0, none⟩)
  | .func f => .func (.func f) #[] #[]

theorem ev_eq {a : Act} {T : List Value} (h : a.tmps = T.toArray) : a.eval = ev T := by
  funext x; cases x with
  | tmp t => simp only [Act.eval, ev, lk_eq, h]
  | _ => rfl

theorem put_eq {a : Act} {T : List Value} (h : a.tmps = T.toArray) (d : Option Tmp) (v : Value) : (a.put d v).tmps = (put T d v).toArray := by
  cases d with
  | none => simpa [Act.put, put] using h
  | some d => simp only [Act.put, put, h, st_eq]

/-- The operations, their types resolved. -/
inductive MO where
  | mv (x : Operand)
  | pick (c a b : Operand)
  | build (zero : List Value) (parts : List (Nat × Nat × Operand))
  | ld1 (a : Operand)
  | ldn (n : Nat) (a : Operand)
  | nilc (x : Operand)
  | bin (op : BinOp) (x y : Operand)
  | eqb (neg : Bool) (x y : Operand)
  | eqp (neg : Bool) (x y : Operand)
  | eqs (neg : Bool) (x y : Operand)
  | eqm (neg : Bool) (x y : Operand)
  | eqa (neg : Bool) (n : Nat) (x y : Operand)
  | un (op : UnOp) (x : Operand)
  | conv (k : IntKind) (x : Operand)
  | fn (f : FuncId) (caps : List Operand)
  | fa (off : Nat) (x : Operand)
  | f1 (off : Nat) (x : Operand)
  | fm (off n : Nat) (x : Operand)
  | ia (n size : Nat) (x i : Operand)
  | is (size : Nat) (x i : Operand)
  | ix (n : Nat) (x i : Operand)
  | ixm (n size : Nat) (x i : Operand)
  | slc (size : Nat) (x : Operand) (lo hi : Option Operand)
  | sla (n size : Nat) (x : Operand) (lo hi : Option Operand)
  | ext (i : Nat) (x : Operand)
  | len (x : Operand)
  | lenc (n : Nat)
  | mn (x y : Operand)
  | mx (x y : Operand)
  | alloc (ty : TypeId) (zero : List Value)
  | box (ty : TypeId) (x : Operand)
  | bslice (ty : TypeId) (len : Nat) (zero : List Value) (parts : List (Nat × Nat × Operand))
  | st1 (a x : Operand)
  | stn (n : Nat) (a x : Operand)
  | call (f : FuncId) (args : List Operand)
  | callv (x : Operand) (args : List Operand)
  | ixs (x i : Operand)
  | lens (x : Operand)
  | capo (x : Operand)
  | bstr (x : Operand)
  | eqst (neg : Bool) (x y : Operand)
  | add64 (x y c : Operand)
  | bad
  | app (e : TypeId) (size bytes : Nat) (zero : List Value) (s x : Operand)
  | appz (e : TypeId) (size bytes : Nat) (zero : List Value) (s x : Operand)
  | mks (e : TypeId) (bytes : Nat) (zero : List Value) (len cap : Operand)
  | cpy (size : Nat) (dst src : Operand)
  | yv (x : Operand) (args : List Operand)
  | mkm
  | lkp (kt : TypeId) (ok : Bool) (z : Value) (x i : Operand)
  | lenm (x : Operand)
  | mup (kt : TypeId) (m k v : Operand)
  | del (kt : TypeId) (m k : Operand)
  | rng (x : Operand)
  | nxt (x : Operand)
  | slc3 (x hi mx : Operand)
  | mnz (e : TypeId) (n : Operand)
  | clr (zero : List Value) (x : Operand)

structure MOp where
  dst : Option Tmp
  op : MO
  guard : Option (Tmp × Bool)

/-! ### What quiet operations yield -/

def fillL : List Value → List (Nat × Nat × Value) → Option (List Value)
  | cs, [] => some cs
  | cs, (off, size, v) :: rest => if v.cells.size = size ∧ off + size ≤ cs.length then fillL (putAt cs off v.cells.toList) rest else none

def bitsI (op : BinOp) (k : IntKind) (a b : Int) : Int :=
  match op with
  | .and => k.wrap (BitVec.ofInt k.bits a &&& BitVec.ofInt k.bits b).toNat
  | .or => k.wrap (BitVec.ofInt k.bits a ||| BitVec.ofInt k.bits b).toNat
  | .xor => k.wrap (BitVec.ofInt k.bits a ^^^ BitVec.ofInt k.bits b).toNat
  | _ => k.wrap (BitVec.ofInt k.bits a &&& ~~~BitVec.ofInt k.bits b).toNat

def binQ (op : BinOp) (x y : Value) (φ : Value → Prop) : Prop :=
  match op, x, y with
  | .shl, .int k a, .int _ b => 0 ≤ b ∧ φ (.int k (k.wrap (a * 2 ^ (min b.toNat k.bits))))
  | .shr, .int k a, .int _ b => 0 ≤ b ∧ φ (.int k (a.fdiv (2 ^ (min b.toNat k.bits))))
  | .add, .int k a, .int k' b => k = k' ∧ φ (.int k (k.wrap (a + b)))
  | .sub, .int k a, .int k' b => k = k' ∧ φ (.int k (k.wrap (a - b)))
  | .mul, .int k a, .int k' b => k = k' ∧ φ (.int k (k.wrap (a * b)))
  | .quo, .int k a, .int k' b => k = k' ∧ b ≠ 0 ∧ φ (.int k (k.wrap (a.tdiv b)))
  | .rem, .int k a, .int k' b => k = k' ∧ b ≠ 0 ∧ φ (.int k (a.tmod b))
  | .and, .int k a, .int k' b => k = k' ∧ φ (.int k (bitsI .and k a b))
  | .or, .int k a, .int k' b => k = k' ∧ φ (.int k (bitsI .or k a b))
  | .xor, .int k a, .int k' b => k = k' ∧ φ (.int k (bitsI .xor k a b))
  | .andNot, .int k a, .int k' b => k = k' ∧ φ (.int k (bitsI .andNot k a b))
  | .eql, .int k a, .int k' b => k = k' ∧ φ (.bool (a == b))
  | .neq, .int k a, .int k' b => k = k' ∧ φ (.bool (a != b))
  | .lss, .int k a, .int k' b => k = k' ∧ φ (.bool (decide (a < b)))
  | .leq, .int k a, .int k' b => k = k' ∧ φ (.bool (decide (a ≤ b)))
  | .gtr, .int k a, .int k' b => k = k' ∧ φ (.bool (decide (a > b)))
  | .geq, .int k a, .int k' b => k = k' ∧ φ (.bool (decide (a ≥ b)))
  | _, _, _ => False

theorem binQ_sound {op : BinOp} {x y : Value} {φ : Value → Prop} (h : binQ op x y φ) (P : Program) (t : TypeId) (xo yo : Operand) :
    ∃ v, φ v ∧ ∀ w, (do eqGuard op t xo yo x y; Go.binOp op t x y : Sem Value).run P w = .ok v w := by
  unfold binQ at h
  split at h <;> try exact h.elim
  all_goals
    first
      | (obtain ⟨h1, h2⟩ := h
         have h1' := Int.not_lt.2 h1
         refine ⟨_, h2, fun w => ?_⟩
         simp [eqGuard, Go.binOp, Op.shift, h1'])
      | (obtain ⟨rfl, hb, h2⟩ := h
         refine ⟨_, h2, fun w => ?_⟩
         simp [eqGuard, Go.binOp, Op.intDiv, hb])
      | (obtain ⟨rfl, h2⟩ := h
         refine ⟨_, h2, fun w => ?_⟩
         simp [eqGuard, Go.binOp, Op.intArith, Op.intCmp, Op.intBits, bitsI])

/-- Whether two rows of plain cells are equal. -/
def ceq : List Value → List Value → Option Bool
  | [], [] => some true
  | .int k a :: xs, .int k' b :: ys => if k = k' then (ceq xs ys).map ((a == b) && ·) else none
  | _, _ => none

def partsV (T : List Value) (ps : List (Nat × Nat × Operand)) : List (Nat × Nat × Value) := ps.map fun p => (p.1, p.2.1, ev T p.2.2)

def optQ {α : Type} (o : Option α) (φ : α → Prop) : Prop := match o with | some v => φ v | none => False

def PickQ (v : Value) (φ : Value → Prop) (a b : Value) : Prop := match v with | .bool c => (c = true → φ a) ∧ (c = false → φ b) | _ => False

def ld1Q (w0 : World) (H : Heap) (φ : Value → Prop) (v : Value) : Prop := match v with | .pointer (some ⟨b, off, none⟩) => optQ (rd1 w0 H b off) φ | _ => False
def ldnQ (w0 : World) (H : Heap) (φ : Value → Prop) (n : Nat) (v : Value) : Prop := match v with | .pointer (some ⟨b, off, none⟩) => optQ (rdn w0 H b off n) (fun cs => φ (.agg cs.toArray)) | _ => False
def nilQ (φ : Value → Prop) (v : Value) : Prop := match v with | .pointer (some a) => φ (.pointer (some a)) | .func (.func f) fs cs => φ (.func (.func f) fs cs) | _ => False
def eqbQ (φ : Value → Prop) (neg : Bool) (x y : Value) : Prop := match x, y with | .bool a, .bool b => φ (.bool (if neg then !(a == b) else a == b)) | _, _ => False
def eqpQ (φ : Value → Prop) (neg : Bool) (x y : Value) : Prop := match x, y with
  | .pointer none, .pointer b => φ (.bool (if neg then !b.isNone else b.isNone))
  | .pointer (some _), .pointer none => φ (.bool (if neg then !false else false))
  | _, _ => False
def eqsQ (φ : Value → Prop) (neg : Bool) (x y : Value) : Prop := match x, y with
  | .slice none _ _, .slice b _ _ => φ (.bool (if neg then !b.isNone else b.isNone))
  | .slice (some _) _ _, .slice none _ _ => φ (.bool (if neg then !false else false))
  | _, _ => False
def eqmQ (φ : Value → Prop) (neg : Bool) (x y : Value) : Prop := match x, y with
  | .map none, .map b => φ (.bool (if neg then !b.isNone else b.isNone))
  | .map (some _), .map none => φ (.bool (if neg then !false else false))
  | _, _ => False
def eqaQ (φ : Value → Prop) (neg : Bool) (n : Nat) (x y : Value) : Prop := match x, y with
  | .agg xs, .agg ys => xs.size = n ∧ ys.size = n ∧ optQ (ceq xs.toList ys.toList) fun r => φ (.bool (if neg then !r else r))
  | _, _ => False
def unQ (φ : Value → Prop) (op : UnOp) (x : Value) : Prop := match op, x with
  | .neg, .int k n => φ (.int k (k.wrap (0 - n)))
  | .not, .bool b => φ (.bool !b)
  | .xor, .int k n => φ (.int k (bitsI .xor k (if k.signed then -1 else k.max) n))
  | _, _ => False
def convQ (φ : Value → Prop) (k : IntKind) (x : Value) : Prop := match x with | .int _ n => φ (.int k (k.wrap n)) | _ => False
def faQ (φ : Value → Prop) (off : Nat) (x : Value) : Prop := match x with | .pointer (some ⟨b, o, none⟩) => φ (.pointer (some ⟨b, o + off, none⟩)) | _ => False
def f1Q (φ : Value → Prop) (off : Nat) (x : Value) : Prop := match x with | .agg cs => optQ (cs.toList[off]?) φ | _ => False
def fmQ (φ : Value → Prop) (off n : Nat) (x : Value) : Prop := match x with | .agg cs => φ (.agg ((cs.toList.drop off).take n).toArray) | _ => False
def iaQ (φ : Value → Prop) (n size : Nat) (x i : Value) : Prop := match x, i with
  | .pointer (some ⟨b, o, none⟩), .int _ i => 0 ≤ i ∧ i < n ∧ φ (.pointer (some ⟨b, o + i.toNat * size, none⟩))
  | _, _ => False
def isQ (φ : Value → Prop) (size : Nat) (x i : Value) : Prop := match x, i with
  | .slice (some ⟨b, o, none⟩) len _, .int _ i => 0 ≤ i ∧ i < len ∧ φ (.pointer (some ⟨b, o + i.toNat * size, none⟩))
  | _, _ => False
def ixQ (φ : Value → Prop) (n : Nat) (x i : Value) : Prop := match x, i with
  | .agg cs, .int _ i => 0 ≤ i ∧ i < n ∧ optQ (cs.toList[i.toNat]?) φ
  | _, _ => False
def ixmQ (φ : Value → Prop) (n size : Nat) (x i : Value) : Prop := match x, i with
  | .agg cs, .int _ i => 0 ≤ i ∧ i < n ∧ φ (.agg ((cs.toList.drop (i.toNat * size)).take size).toArray)
  | _, _ => False
def slcQ (φ : Value → Prop) (size : Nat) (x : Value) (lo hi : Option Value) : Prop := match x, lo, hi with
  | .slice (some ⟨b, o, none⟩) len cap, none, none => φ (.slice (some ⟨b, o, none⟩) len cap)
  | .slice (some ad) _ cap, none, some (.int _ h) => 0 ≤ h ∧ h ≤ cap ∧ φ (.slice (some ad) h.toNat cap)
  | .slice (some ⟨b, o, none⟩) len cap, some (.int _ l), none => 0 ≤ l ∧ l ≤ len ∧ φ (.slice (some ⟨b, if cap = l.toNat then o else o + l.toNat * size, none⟩) (len - l.toNat) (cap - l.toNat))
  | .slice (some ⟨b, o, none⟩) _ cap, some (.int _ l), some (.int _ h) => 0 ≤ l ∧ l ≤ h ∧ h ≤ cap ∧
      φ (.slice (some ⟨b, if cap = l.toNat then o else o + l.toNat * size, none⟩) (h.toNat - l.toNat) (cap - l.toNat))
  | .slice none len cap, none, none => φ (.slice none len cap)
  | .slice none _ cap, none, some (.int _ h) => 0 ≤ h ∧ h ≤ cap ∧ φ (.slice none h.toNat cap)
  | .slice none len cap, some (.int _ l), none => 0 ≤ l ∧ l ≤ len ∧ φ (.slice none (len - l.toNat) (cap - l.toNat))
  | .slice none _ cap, some (.int _ l), some (.int _ h) => 0 ≤ l ∧ l ≤ h ∧ h ≤ cap ∧ φ (.slice none (h.toNat - l.toNat) (cap - l.toNat))
  | _, _, _ => False
def slc3Q (φ : Value → Prop) (x hi mx : Value) : Prop := match x, hi, mx with
  | .slice a _ cap, .int _ h, .int _ m => 0 ≤ h ∧ h ≤ m ∧ m ≤ cap ∧ φ (.slice a h.toNat m.toNat)
  | _, _, _ => False
def slaQ (φ : Value → Prop) (n size : Nat) (x : Value) (lo hi : Option Value) : Prop := match x, lo, hi with
  | .pointer (some ⟨b, o, none⟩), none, none => φ (.slice (some ⟨b, o, none⟩) n n)
  | .pointer (some ⟨b, o, none⟩), none, some (.int _ h) => 0 ≤ h ∧ h ≤ n ∧ φ (.slice (some ⟨b, o, none⟩) h.toNat n)
  | .pointer (some ⟨b, o, none⟩), some (.int _ l), none => 0 ≤ l ∧ l ≤ n ∧ φ (.slice (some ⟨b, if n = l.toNat then o else o + l.toNat * size, none⟩) (n - l.toNat) (n - l.toNat))
  | .pointer (some ⟨b, o, none⟩), some (.int _ l), some (.int _ h) => 0 ≤ l ∧ l ≤ h ∧ h ≤ n ∧
      φ (.slice (some ⟨b, if n = l.toNat then o else o + l.toNat * size, none⟩) (h.toNat - l.toNat) (n - l.toNat))
  | _, _, _ => False
def extQ (φ : Value → Prop) (i : Nat) (x : Value) : Prop := match x with | .tuple vs => optQ (vs.toList[i]?) φ | _ => False
def lenQ (φ : Value → Prop) (x : Value) : Prop := match x with | .slice _ n _ => φ (.int .i64 n) | _ => False
def mnQ (φ : Value → Prop) (x y : Value) : Prop := match x, y with | .int k a, .int _ b => φ (.int k (if b < a then b else a)) | _, _ => False
def mxQ (φ : Value → Prop) (x y : Value) : Prop := match x, y with | .int k a, .int _ b => φ (.int k (if b > a then b else a)) | _, _ => False

def ixsQ (φ : Value → Prop) (x i : Value) : Prop := match x, i with
  | .string s, .int _ i => 0 ≤ i ∧ optQ (s.data.toList[i.toNat]?) fun b => φ (.int .u8 b.toNat)
  | _, _ => False
def lensQ (φ : Value → Prop) (x : Value) : Prop := match x with | .string s => φ (.int .i64 s.size) | _ => False
def capQ (φ : Value → Prop) (x : Value) : Prop := match x with | .slice _ _ c => φ (.int .i64 c) | _ => False
def add64Q (φ : Value → Prop) (x y c : Value) : Prop := match x, y, c with
  | .int _ x, .int _ y, .int _ c => 0 ≤ x ∧ 0 ≤ y ∧ 0 ≤ c ∧ c ≤ 1 ∧ φ (.tuple #[.int .u64 ((x + y + c) % 18446744073709551616), .int .u64 ((x + y + c) / 18446744073709551616)])
  | _, _, _ => False

/-- The bytes in a row of cells, and the string of them. -/
def bytesV : List Value → Option (List Int)
  | [] => some []
  | .int .u8 n :: l => (bytesV l).map (n :: ·)
  | _ => none
def strOf (l : List Int) : ByteArray := l.foldl (fun r n => r.push (UInt8.ofNat n.toNat)) ByteArray.empty
def bstrQ (w0 : World) (H : Heap) (φ : Value → Prop) (x : Value) : Prop := match x with
  | .slice a n _ => if n = 0 then φ (.string (strOf [])) else match a with
    | some ⟨b, o, none⟩ => optQ (rdn w0 H b o n) fun cs => optQ (bytesV cs) fun l => φ (.string (strOf l))
    | _ => False
  | _ => False
def eqstQ (φ : Value → Prop) (neg : Bool) (x y : Value) : Prop := match x, y with
  | .string s, .string t => φ (.bool (if neg then !(s.toList == t.toList) else s.toList == t.toList))
  | _, _ => False

/-- The map that a block holds. -/
def mapAt (H : Heap) (r : Nat) : Option (Array MapEntry × Nat) := match H r with
  | some ⟨.o (.map es c), _⟩ => some (es, c)
  | _ => none
structure KeysOk (P : Program) (kt : TypeId) (es : Array MapEntry) (clock : Nat) (k : Value) : Prop where
  keyed : Maps.Keyed P kt
  key : ∃ l, Go.keyOf P kt k = some l
  all : ∀ e ∈ es.toList, ∃ l, Go.keyOf P kt e.key = some l
  st : MapKept.Stamped es clock
def okV (ok : Bool) (v : Value) (b : Bool) : Value := if ok then .tuple #[v, .bool b] else v
def lkpQ (P : Program) (H : Heap) (φ : Value → Prop) (kt : TypeId) (ok : Bool) (z x i : Value) : Prop := match x with
  | .map none => KeysOk P kt #[] 0 i ∧ φ (okV ok z false)
  | .map (some r) => optQ (mapAt H r) fun m => KeysOk P kt m.1 m.2 i ∧ (∀ e ∈ m.1.toList, e.key = i → φ (okV ok e.val true)) ∧ ((∀ e ∈ m.1.toList, e.key ≠ i) → φ (okV ok z false))
  | _ => False
def lenmQ (H : Heap) (φ : Value → Prop) (x : Value) : Prop := match x with
  | .map none => φ (.int .i64 0)
  | .map (some r) => optQ (mapAt H r) fun m => φ (.int .i64 m.1.size)
  | _ => False

/-- What a quiet operation asks, and yields. -/
def qv (P : Program) (w0 : World) (mo : MO) (T : List Value) (H : Heap) (φ : Value → Prop) : Prop :=
  match mo with
  | .mv x => φ (ev T x)
  | .pick c a b => PickQ (ev T c) φ (ev T a) (ev T b)
  | .build z ps => optQ (fillL z (partsV T ps)) fun cs => φ (.agg cs.toArray)
  | .ld1 a => ld1Q w0 H φ (ev T a)
  | .ldn n a => ldnQ w0 H φ n (ev T a)
  | .nilc x => nilQ φ (ev T x)
  | .bin op x y => binQ op (ev T x) (ev T y) φ
  | .eqb g x y => eqbQ φ g (ev T x) (ev T y)
  | .eqp g x y => eqpQ φ g (ev T x) (ev T y)
  | .eqs g x y => eqsQ φ g (ev T x) (ev T y)
  | .eqm g x y => eqmQ φ g (ev T x) (ev T y)
  | .eqa g n x y => eqaQ φ g n (ev T x) (ev T y)
  | .un op x => unQ φ op (ev T x)
  | .conv k x => convQ φ k (ev T x)
  | .fn f cs => φ (.func (.func f) #[] (cs.map (ev T)).toArray)
  | .fa o x => faQ φ o (ev T x)
  | .f1 o x => f1Q φ o (ev T x)
  | .fm o n x => fmQ φ o n (ev T x)
  | .ia n s x i => iaQ φ n s (ev T x) (ev T i)
  | .is s x i => isQ φ s (ev T x) (ev T i)
  | .ix n x i => ixQ φ n (ev T x) (ev T i)
  | .ixm n s x i => ixmQ φ n s (ev T x) (ev T i)
  | .slc s x l h => slcQ φ s (ev T x) (l.map (ev T)) (h.map (ev T))
  | .sla n s x l h => slaQ φ n s (ev T x) (l.map (ev T)) (h.map (ev T))
  | .ext i x => extQ φ i (ev T x)
  | .len x => lenQ φ (ev T x)
  | .lenc n => φ (.int .i64 n)
  | .mn x y => mnQ φ (ev T x) (ev T y)
  | .mx x y => mxQ φ (ev T x) (ev T y)
  | .ixs x i => ixsQ φ (ev T x) (ev T i)
  | .lens x => lensQ φ (ev T x)
  | .capo x => capQ φ (ev T x)
  | .bstr x => bstrQ w0 H φ (ev T x)
  | .eqst g x y => eqstQ φ g (ev T x) (ev T y)
  | .add64 x y c => add64Q φ (ev T x) (ev T y) (ev T c)
  | .lkp kt ok z x i => lkpQ P H φ kt ok z (ev T x) (ev T i)
  | .lenm x => lenmQ H φ (ev T x)
  | .slc3 x h m => slc3Q φ (ev T x) (ev T h) (ev T m)
  | _ => False

/-! ### Calls -/

def callable (P : Program) (f : FuncId) : Bool :=
  match P.funcs[f]? with
  | some fn => fn.name != "runtime.NumGoroutine" && fn.body.isSome
  | none => false

/-- The call of function f returns, whatever the world is that holds H; behind it stands what K says. -/
structure HCalls (P : Program) (w0 : World) (f : FuncId) (args : List Value) (H : Heap) (K : Value → Heap → Prop) : Prop where
  can : callable P f = true
  all : ∀ {F : Nat → Prop} w, Own w0 F H w → Calls P f args.toArray w fun e w' => ∃ v H', e = .returned v ∧ K v H' ∧ Own w0 F H' w'

theorem HCalls.mono {P : Program} {w0 : World} {f : FuncId} {args : List Value} {H : Heap} {K K' : Value → Heap → Prop} (h : HCalls P w0 f args H K)
    (hk : ∀ v H', K v H' → K' v H') : HCalls P w0 f args H K' :=
  ⟨h.1, fun w ho => (h.2 w ho).mono fun _ _ ⟨v, H', e, k, o⟩ => ⟨v, H', e, hk _ _ k, o⟩⟩

/-- A round of the loop l over a function: it runs to its end, and yield hands v back; behind it stands what K says. -/
structure HRound (P : Program) (w0 : World) (l : Nat) (args : List Value) (H : Heap) (K : Value → Heap → Prop) : Prop where
  all : ∀ {F : Nat → Prop} w, Own w0 F H w → ∃ fn tmps assign body, (Instr.yield l args.toArray).run P w = .ok (.round l fn tmps assign body) w ∧
    ∀ (c : Frame) cs, ∃ v H' w', K v H' ∧ Own w0 F H' w' ∧ Steps P (lone (Frame.round l fn tmps assign body .normal) (c :: cs) w) (lone (c.finish v) cs w')

theorem HRound.mono {P : Program} {w0 : World} {l : Nat} {args : List Value} {H : Heap} {K K' : Value → Heap → Prop} (h : HRound P w0 l args H K)
    (hk : ∀ v H', K v H' → K' v H') : HRound P w0 l args H K' :=
  ⟨fun w ho => by
    obtain ⟨fn, tmps, assign, body, h1, h2⟩ := h.1 w ho
    refine ⟨fn, tmps, assign, body, h1, fun c cs => ?_⟩
    obtain ⟨v, H', w', k, o, s⟩ := h2 c cs
    exact ⟨v, H', w', hk _ _ k, o, s⟩⟩

/-- A new block. -/
def AllocQ (w0 : World) (H : Heap) (K : Value → Heap → Prop) (v : Nat → Value) (ty : TypeId) (cs : List Value) : Prop :=
  ∀ b, w0.heap.size ≤ b → H b = none → K (v b) (H.set b ⟨ty, cs⟩)

def ptrV (b : Nat) : Value := .pointer (some ⟨b, 0, none⟩)
def slcV (len : Nat) (b : Nat) : Value := .slice (some ⟨b, 0, none⟩) len len

def st1Q (H : Heap) (K : Value → Heap → Prop) (a x : Value) : Prop := match a with
  | .pointer (some ⟨b, off, none⟩) => optQ (H b) fun y => x.oneCell' = true ∧ off < y.cells.length ∧ K undef (H.set b ⟨y.ty, y.cells.set off x⟩)
  | _ => False
def stnQ (H : Heap) (K : Value → Heap → Prop) (n : Nat) (a x : Value) : Prop := match a, x with
  | .pointer (some ⟨b, off, none⟩), .agg cs => optQ (H b) fun y => cs.size = n ∧ cs.toList.all Value.oneCell' = true ∧ off + n ≤ y.cells.length ∧ K undef (H.set b ⟨y.ty, putAt y.cells off cs.toList⟩)
  | _, _ => False
def callvQ (P : Program) (w0 : World) (H : Heap) (K : Value → Heap → Prop) (x : Value) (args : List Value) : Prop := match x with
  | .func (.func f) fs cs => HCalls P w0 f (fs.toList ++ args ++ cs.toList) H K
  | _ => False

/-- k cells of a slice, from its beginning. -/
def srd (w0 : World) (H : Heap) (a : Option Addr) (k : Nat) : Option (List Value) :=
  if k = 0 then some [] else match a with
    | some ⟨b, o, none⟩ => rdn w0 H b o k
    | _ => none
/-- Cells are laid into a slice's block. -/
def layQ (H : Heap) (K : Heap → Prop) (a : Option Addr) (off : Nat) (vs : List Value) : Prop :=
  if vs = [] then K H else match a with
    | some ⟨b, o, none⟩ => optQ (H b) fun y => vs.all Value.oneCell' = true ∧ o + off + vs.length ≤ y.cells.length ∧ K (H.set b ⟨y.ty, putAt y.cells (o + off) vs⟩)
    | _ => False
def zeroL (zero : List Value) (n : Nat) : List Value := (Builtin.zeroCells zero.toArray n).toList
def appQ (w0 : World) (H : Heap) (K : Value → Heap → Prop) (e : TypeId) (size bytes : Nat) (zero : List Value) (s x : Value) : Prop := match s, x with
  | .slice a n cap, .slice xa m _ => (n + m) * bytes ≤ 140737488355328 ∧ n + m ≤ 9223372036854775807 ∧ optQ (srd w0 H xa (m * size)) fun news =>
      (n + m ≤ cap → layQ H (K (.slice a (n + m) cap)) a (n * size) news) ∧
      (cap < n + m → optQ (srd w0 H a (n * size)) fun olds => ∀ c, n + m ≤ c → c ≤ 9223372036854775807 → AllocQ w0 H K (fun b => .slice (some ⟨b, 0, none⟩) (n + m) c) e (olds ++ news ++ zeroL zero (c - (n + m))))
  | _, _ => False
/-- Noughts appended. -/
def appzQ (w0 : World) (H : Heap) (K : Value → Heap → Prop) (e : TypeId) (size bytes : Nat) (zero : List Value) (s x : Value) : Prop := match s, x with
  | .slice a n cap, .int _ m => 0 ≤ m ∧ (n + m.toNat) * bytes ≤ 140737488355328 ∧ n + m.toNat ≤ 9223372036854775807 ∧
      (n + m.toNat ≤ cap → layQ H (K (.slice a (n + m.toNat) cap)) a (n * size) (zeroL zero m.toNat)) ∧
      (cap < n + m.toNat → optQ (srd w0 H a (n * size)) fun olds => ∀ c, n + m.toNat ≤ c → c ≤ 9223372036854775807 → AllocQ w0 H K (fun b => .slice (some ⟨b, 0, none⟩) (n + m.toNat) c) e (olds ++ zeroL zero m.toNat ++ zeroL zero (c - (n + m.toNat))))
  | _, _ => False
def mksQ (w0 : World) (H : Heap) (K : Value → Heap → Prop) (e : TypeId) (bytes : Nat) (zero : List Value) (len cap : Value) : Prop := match len, cap with
  | .int _ l, .int _ c => 0 ≤ l ∧ l ≤ c ∧ c ≤ 9223372036854775807 ∧ bytes * c.toNat ≤ 281474976710656 ∧ AllocQ w0 H K (fun b => .slice (some ⟨b, 0, none⟩) l.toNat c.toNat) e (zeroL zero c.toNat)
  | _, _ => False
/-- A new row of so many bytes, whatever they are. -/
def mnzQ (w0 : World) (H : Heap) (K : Value → Heap → Prop) (e : TypeId) (n : Value) : Prop := match n with
  | .int .i64 l => 0 ≤ l ∧ l ≤ 140737488355328 ∧ ∀ cs : List Value, l.toNat ≤ cs.length → cs.length ≤ 9223372036854775807 → AllocQ w0 H K (fun b => .slice (some ⟨b, 0, none⟩) l.toNat cs.length) e cs
  | _ => False
def clrQ (H : Heap) (K : Value → Heap → Prop) (zero : List Value) (x : Value) : Prop := match x with
  | .slice a n _ => layQ H (K (.tuple #[])) a 0 (zeroL zero n)
  | _ => False
def cpyQ (w0 : World) (H : Heap) (K : Value → Heap → Prop) (size : Nat) (d x : Value) : Prop := match d, x with
  | .slice a n _, .slice xa m _ => optQ (srd w0 H xa (Nat.min m n * size)) fun vs => layQ H (K (.int .i64 (Nat.min m n : Nat))) a 0 vs
  | _, _ => False

def yvQ (P : Program) (w0 : World) (H : Heap) (K : Value → Heap → Prop) (x : Value) (args : List Value) : Prop := match x with
  | .func (.func f) fs cs => HCalls P w0 f (fs.toList ++ args ++ cs.toList) H K
  | .func (.yield l) fs _ => HRound P w0 l (fs.toList ++ args) H K
  | _ => False
/-- A new object that is no row of cells. -/
def AllocO (w0 : World) (H : Heap) (K : Value → Heap → Prop) (v : Nat → Value) (o : Obj) : Prop :=
  ∀ b, w0.heap.size ≤ b → H b = none → K (v b) (H.set b ⟨.o o, []⟩)
def mapV (b : Nat) : Value := .map (some b)
def mupQ (P : Program) (H : Heap) (K : Value → Heap → Prop) (kt : TypeId) (m k v : Value) : Prop := match m with
  | .map (some r) => optQ (mapAt H r) fun q => KeysOk P kt q.1 q.2 k ∧
      (∀ j e, q.1[j]? = some e → e.key = k → K undef (H.set r ⟨.o (.map (q.1.modify j fun e => { e with key := k, val := v }) q.2), []⟩)) ∧
      ((∀ e ∈ q.1.toList, e.key ≠ k) → K undef (H.set r ⟨.o (.map (q.1.push { key := k, val := v, born := q.2 }) (q.2 + 1)), []⟩))
  | _ => False
def delQ (P : Program) (H : Heap) (K : Value → Heap → Prop) (kt : TypeId) (m k : Value) : Prop := match m with
  | .map (some r) => optQ (mapAt H r) fun q => KeysOk P kt q.1 q.2 k ∧
      (∀ j e, q.1[j]? = some e → e.key = k → K (.tuple #[]) (H.set r ⟨.o (.map (q.1.eraseIdxIfInBounds j) q.2), []⟩)) ∧
      ((∀ e ∈ q.1.toList, e.key ≠ k) → K (.tuple #[]) (H.set r ⟨.o (.map q.1 q.2), []⟩))
  | _ => False
def rngQ (w0 : World) (H : Heap) (K : Value → Heap → Prop) (x : Value) : Prop := match x with
  | .map none => AllocO w0 H K ptrV (.mapIter none 0 #[] 0)
  | .map (some r) => optQ (mapAt H r) fun q => AllocO w0 H K ptrV (.mapIter (some r) q.2 #[] q.2)
  | _ => False
/-- The next of a map that nothing was laid into since the loop began. -/
def nxtQ (H : Heap) (K : Value → Heap → Prop) (x : Value) : Prop := match x with
  | .pointer (some ⟨r, 0, none⟩) => match H r with
    | some ⟨.o (.mapIter none _ _ _), _⟩ => K (.tuple #[.bool false]) H
    | some ⟨.o (.mapIter (some m) since seen last), _⟩ => optQ (mapAt H m) fun q => (∀ e ∈ q.1.toList, e.born < since) ∧ since ≤ last ∧
        (∀ e ∈ q.1.toList, seen.contains e.born = false → K (.tuple #[.bool true, e.key, e.val]) (H.set r ⟨.o (.mapIter (some m) since (seen.push e.born) q.2), []⟩)) ∧
        ((∀ e ∈ q.1.toList, seen.contains e.born = true) → K (.tuple #[.bool false]) H)
    | _ => False
  | _ => False

/-- What any operation asks, and what stands behind it. -/
def mwp (P : Program) (w0 : World) (mo : MO) (T : List Value) (H : Heap) (K : Value → Heap → Prop) : Prop :=
  match mo with
  | .alloc ty zero => AllocQ w0 H K ptrV ty zero
  | .box ty x => AllocQ w0 H K ptrV ty (ev T x).cells.toList
  | .bslice ty len zero parts => optQ (fillL zero (partsV T parts)) fun cs => AllocQ w0 H K (slcV len) ty cs
  | .st1 a x => st1Q H K (ev T a) (ev T x)
  | .stn n a x => stnQ H K n (ev T a) (ev T x)
  | .call f args => HCalls P w0 f (args.map (ev T)) H K
  | .callv x args => callvQ P w0 H K (ev T x) (args.map (ev T))
  | .app e size bytes zero s x => appQ w0 H K e size bytes zero (ev T s) (ev T x)
  | .appz e size bytes zero s x => appzQ w0 H K e size bytes zero (ev T s) (ev T x)
  | .mks e bytes zero len cap => mksQ w0 H K e bytes zero (ev T len) (ev T cap)
  | .cpy size d x => cpyQ w0 H K size (ev T d) (ev T x)
  | .yv x args => yvQ P w0 H K (ev T x) (args.map (ev T))
  | .mkm => AllocO w0 H K mapV (.map #[] 0)
  | .mup kt m k v => mupQ P H K kt (ev T m) (ev T k) (ev T v)
  | .del kt m k => delQ P H K kt (ev T m) (ev T k)
  | .rng x => rngQ w0 H K (ev T x)
  | .nxt x => nxtQ H K (ev T x)
  | .mnz e n => mnzQ w0 H K e (ev T n)
  | .clr z x => clrQ H K z (ev T x)
  | q => qv P w0 q T H fun v => K v H

end Go.HL
