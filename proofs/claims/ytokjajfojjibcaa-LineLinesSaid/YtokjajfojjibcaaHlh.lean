/- The heap logic, part h: the code of a function, resolved, and what it asks ('run'). -/
import Derived.Test.YtokjajfojjibcaaHlg
set_option linter.unusedSimpArgs false
set_option linter.unusedVariables false
namespace Go.HL
open Go.RowKit

/-- The orders of a drawn region in which more than one operation acts: a tree. -/
inductive PT where
  | nil
  | one (fl hd : Bool) (m : MOp) (t : PT)
  | alt (a b : PT)
inductive MC where
  | skip
  | reg (ops : List MOp)
  | any (plan : List (Bool × Bool × MOp))
  | seq (a b : MC)
  | cond (c : Operand) (a b : MC)
  | block (id : Nat) (m : MC)
  | loop (m : MC)
  | exit (id : Nat)
  | ret
  | scope (m : MC)
  | alts (t : PT)

def trOper (P : Program) (ops : Array Oper) (o : Oper) : Option MOp :=
  match trOp P o, o.guard with
  | some mo, none => some ⟨o.dst, mo, none⟩
  | some mo, some (j, want) => match (ops[j]?).bind (·.dst) with
    | some d => some ⟨o.dst, mo, some (d, want)⟩
    | none => none
  | none, _ => none

def trOps (P : Program) (ops : Array Oper) : List Nat → Option (List MOp)
  | [] => some []
  | i :: l => match ops[i]? with
    | some o => match trOper P ops o, trOps P ops l with
      | some m, some ms => some (m :: ms)
      | _, _ => none
    | none => none

def quietAt (P : Program) (ops : Array Oper) (i : Nat) : Bool :=
  match (ops[i]?).bind (trOp P) with
  | some mo => mo.quiet
  | none => false

abbrev Nd := Nat × Oper × List Nat
/-- The operations of a region, each with those that it waits for. -/
def nodesL : List Oper → Nat → List Nd
  | [], _ => []
  | o :: l, k => (k, o, (o.after.toList.filter (Region.binds .any)).map (·.on)) :: nodesL l (k + 1)
def dropN (i : Nat) (l : List Nd) : List Nd := (l.filter fun x => !Nat.beq x.1 i).map fun x => (x.1, x.2.1, x.2.2.filter fun j => !Nat.beq j i)
def readyL (l : List Nd) : List Nd := l.filter fun x => x.2.2.isEmpty
def freeL (ops : Array Oper) (l : List Nd) (x : Nd) : Bool := l.all fun y => Nat.beq y.1 x.1 || y.2.2.any (Nat.beq x.1) || x.2.1.apart ops y.2.1

/-- The order in which a drawn region is gone through: (operation, taken first?). -/
def planGo (P : Program) (ops : Array Oper) (n : Nat) : Nat → List Nd → Option (List (Nat × Bool))
  | 0, rem => match readyL rem with
    | [] => some []
    | _ => none
  | fuel + 1, rem => match readyL rem with
    | [] => some []
    | [x] => (planGo P ops n fuel (dropN x.1 rem)).map ((x.1, false) :: ·)
    | rs => match rs.find? fun x => Nat.blt x.1 n && freeL ops rem x && quietAt P ops x.1 with
      | some x => (planGo P ops n fuel (dropN x.1 rem)).map ((x.1, true) :: ·)
      | none => none

inductive PI where
  | nil
  | one (i : Nat) (fl : Bool) (t : PI)
  | alt (a b : PI)
def altsP (f : Nd → Option PI) : List Nd → Option PI
  | [] => none
  | [x] => f x
  | x :: y :: xs => match f x, altsP f (y :: xs) with
    | some a, some b => some (.alt a b)
    | _, _ => none
/-- The same, where more than one operation that acts may come up: each of these orders. -/
def planT (P : Program) (ops : Array Oper) (n : Nat) : Nat → List Nd → Option PI
  | 0, rem => match readyL rem with
    | [] => some .nil
    | _ => none
  | fuel + 1, rem => match readyL rem with
    | [] => some .nil
    | [x] => (planT P ops n fuel (dropN x.1 rem)).map (.one x.1 false)
    | rs => match rs.find? fun x => Nat.blt x.1 n && freeL ops rem x && quietAt P ops x.1 with
      | some x => (planT P ops n fuel (dropN x.1 rem)).map (.one x.1 true)
      | none => if Nat.ble rs.length 3 then altsP (fun x => (planT P ops n fuel (dropN x.1 rem)).map (.one x.1 false)) rs else none
def trPT (P : Program) (ops : Array Oper) (n : Nat) : PI → Option PT
  | .nil => some .nil
  | .one i fl t => match ops[i]? with
    | some o => match trOper P ops o, trPT P ops n t with
      | some m, some ms => some (.one fl (decide (i < n)) m ms)
      | _, _ => none
    | none => none
  | .alt a b => match trPT P ops n a, trPT P ops n b with
    | some x, some y => some (.alt x y)
    | _, _ => none

def trPlan (P : Program) (ops : Array Oper) (n : Nat) : List (Nat × Bool) → Option (List (Bool × Bool × MOp))
  | [] => some []
  | (i, fl) :: l => match ops[i]? with
    | some o => match trOper P ops o, trPlan P ops n l with
      | some m, some ms => some ((fl, decide (i < n), m) :: ms)
      | _, _ => none
    | none => none

/-- The last operation that doesn't wait for the one ahead of it. -/
def lastBreak (ops : Array Oper) : Nat → Nat
  | 0 => 0
  | t + 1 => if Region.waitsFor .any ops (t + 1) t then lastBreak ops t else t + 1
def headFrom (ops : Array Oper) : Nat → Nat → Nat
  | 0, _ => ops.size
  | f + 1, n => if headOk .any ops n then n else headFrom ops f (n + 1)
def headN (ops : Array Oper) : Nat := headFrom ops (ops.size - lastBreak ops (ops.size - 1)) (lastBreak ops (ops.size - 1))

def trAny (P : Program) (ops : Array Oper) : Option MC :=
  if P.follows .mixedOrders && Region.noSelect ops && headOk .any ops (headN ops) then
    match planGo P ops (headN ops) ops.size (nodesL ops.toList 0) with
    | some pl => match trPlan P ops (headN ops) pl with
      | some ms => some (.any ms)
      | none => none
    | none => match planT P ops (headN ops) ops.size (nodesL ops.toList 0) with
      | some pt => match trPT P ops (headN ops) pt with
        | some t => some (.alts t)
        | none => none
      | none => none
  else none

def trCode (P : Program) : Code → Option MC
  | .skip => some .skip
  | .region _ ops false => match trOps P ops (List.range ops.size) with
    | some l => some (.reg l)
    | none => none
  | .region _ ops true => trAny P ops
  | .seq a b => match trCode P a, trCode P b with
    | some x, some y => some (.seq x y)
    | _, _ => none
  | .cond c a b => match trCode P a, trCode P b with
    | some x, some y => some (.cond c x y)
    | _, _ => none
  | .block id c => match trCode P c with
    | some x => some (.block id x)
    | none => none
  | .loop c => match trCode P c with
    | some x => some (.loop x)
    | none => none
  | .exit id => some (.exit id)
  | .scope c => match trCode P c with
    | some x => some (.scope x)
    | none => none
  | .label _ => some .skip
  | .ret => some .ret
  | _ => none

/-! ### What the code asks -/

inductive It where
  | code (m : MC)
  | ops (l : List MOp)
  | pl (H0 : Heap) (l : List (Bool × Bool × MOp))
  | pt (H0 : Heap) (t : PT)
  | blk (id : Nat)
  | scp
  | lp (m : MC)
  | chk (Φ : List Value → Heap → Prop)

def guardQ (T : List Value) (g : Option (Tmp × Bool)) (yes no : Prop) : Prop :=
  match g with
  | none => yes
  | some (d, want) => match lk T d with
    | .bool b => (b = want → yes) ∧ (b ≠ want → no)
    | _ => no

def exitIt (id : Nat) : List It → Option (List It)
  | .blk id' :: k => if id' = id then some k else exitIt id k
  | .code _ :: k => exitIt id k
  | .ops _ :: k => exitIt id k
  | .pl _ _ :: k => exitIt id k
  | .pt _ _ :: k => exitIt id k
  | .chk _ :: k => exitIt id k
  | .lp _ :: k => exitIt id k
  | .scp :: k => exitIt id k
  | [] => none

def LoopQ (rec : List It → List Value → Heap → Prop) (m : MC) (k : List It) (T : List Value) (H : Heap) : Prop :=
  (∃ (I : Nat → List Value → Heap → Prop), (∃ z G, Heap.Le G H ∧ I z T G) ∧
    ∀ z T H, I z T H → rec (.code m :: .chk (fun T' H' => ∃ z' G, z' < z ∧ Heap.Le G H' ∧ I z' T' G) :: k) T H) ∨ rec (.code m :: .lp m :: k) T H

/-- What stands behind an operation that has yielded a value. -/
def KK (rec : List It → List Value → Heap → Prop) (st : List It) (T : List Value) (d : Option Tmp) (v : Value) (H : Heap) : Prop := rec st (put T d v) H

def FK (rec : List It → List Value → Heap → Prop) (st : List It) (T : List Value) (d : Option Tmp) (H : Heap) (v : Value) : Prop := rec st (put T d v) H

/-- The same in a drawn region: in its head nothing of what was there may be turned. -/
def KP (rec : List It → List Value → Heap → Prop) (st : List It) (T : List Value) (d : Option Tmp) (H0 : Heap) (hd : Bool) (v : Value) (H : Heap) : Prop := (hd = true → Heap.Le H0 H) ∧ rec st (put T d v) H

def condS (rec : List It → List Value → Heap → Prop) (v : Value) (ky kn : List It) (T : List Value) (H : Heap) : Prop :=
  match v with
  | .bool b => (b = true → rec ky T H) ∧ (b = false → rec kn T H)
  | _ => False

def gS (P : Program) (w0 : World) (rec : List It → List Value → Heap → Prop) (v : Value) (want : Bool) (o : MOp) (k : List It) (T : List Value) (H : Heap) : Prop :=
  match v with
  | .bool b => (b = want → mwp P w0 o.op T H (KK rec k T o.dst)) ∧ (b ≠ want → rec k (put T o.dst undef) H)
  | _ => rec k (put T o.dst undef) H

def plQ (P : Program) (w0 : World) (rec : List It → List Value → Heap → Prop) (fl hd : Bool) (H0 : Heap) (o : MOp) (k : List It) (T : List Value) (H : Heap) : Prop :=
  match fl with
  | true => qv w0 o.op T H0 (FK rec k T o.dst H)
  | false => mwp P w0 o.op T H (KP rec k T o.dst H0 hd)

def gP (P : Program) (w0 : World) (rec : List It → List Value → Heap → Prop) (v : Value) (want : Bool) (fl hd : Bool) (H0 : Heap) (o : MOp) (k : List It) (T : List Value) (H : Heap) : Prop :=
  match v with
  | .bool b => (b = want → plQ P w0 rec fl hd H0 o k T H) ∧ (b ≠ want → rec k (put T o.dst undef) H)
  | _ => rec k (put T o.dst undef) H

def step (P : Program) (w0 : World) (fin : List Value → Heap → Prop) (rec : List It → List Value → Heap → Prop) : List It → List Value → Heap → Prop
  | [], T, H => fin T H
  | .blk _ :: k, T, H => rec k T H
  | .scp :: k, T, H => rec k T H
  | .chk Φ :: _, T, H => Φ T H
  | .lp m :: k, T, H => LoopQ rec m k T H
  | .ops [] :: k, T, H => rec k T H
  | .ops (⟨d, op, none⟩ :: l) :: k, T, H => mwp P w0 op T H (KK rec (.ops l :: k) T d)
  | .ops (⟨d, op, some g⟩ :: l) :: k, T, H => gS P w0 rec (lk T g.1) g.2 ⟨d, op, some g⟩ (.ops l :: k) T H
  | .pl _ [] :: k, T, H => rec k T H
  | .pl H0 ((fl, hd, ⟨d, op, none⟩) :: l) :: k, T, H => plQ P w0 rec fl hd H0 ⟨d, op, none⟩ (.pl H0 l :: k) T H
  | .pl H0 ((fl, hd, ⟨d, op, some g⟩) :: l) :: k, T, H => gP P w0 rec (lk T g.1) g.2 fl hd H0 ⟨d, op, some g⟩ (.pl H0 l :: k) T H
  | .pt _ .nil :: k, T, H => rec k T H
  | .pt H0 (.one fl hd ⟨d, op, none⟩ t) :: k, T, H => plQ P w0 rec fl hd H0 ⟨d, op, none⟩ (.pt H0 t :: k) T H
  | .pt H0 (.one fl hd ⟨d, op, some g⟩ t) :: k, T, H => gP P w0 rec (lk T g.1) g.2 fl hd H0 ⟨d, op, some g⟩ (.pt H0 t :: k) T H
  | .pt H0 (.alt a b) :: k, T, H => rec (.pt H0 a :: k) T H ∧ rec (.pt H0 b :: k) T H
  | .code (.alts t) :: k, T, H => rec (.pt H t :: k) T H
  | .code .skip :: k, T, H => rec k T H
  | .code (.reg l) :: k, T, H => rec (.ops l :: k) T H
  | .code (.any pl) :: k, T, H => rec (.pl H pl :: k) T H
  | .code (.seq a b) :: k, T, H => rec (.code a :: .code b :: k) T H
  | .code (.cond c a b) :: k, T, H => condS rec (ev T c) (.code a :: k) (.code b :: k) T H
  | .code (.block id m) :: k, T, H => rec (.code m :: .blk id :: k) T H
  | .code (.loop m) :: k, T, H => LoopQ rec m k T H
  | .code (.exit id) :: k, T, H => optQ (exitIt id k) fun k' => rec k' T H
  | .code .ret :: _, T, H => fin T H
  | .code (.scope m) :: k, T, H => rec (.code m :: .scp :: k) T H

def run (P : Program) (w0 : World) (fin : List Value → Heap → Prop) : Nat → List It → List Value → Heap → Prop
  | 0 => fun _ _ _ => False
  | n + 1 => step P w0 fin (run P w0 fin n)

/-! ### It is enough -/
section
variable {P : Program} {w0 : World} {fin : List Value → Heap → Prop} {Q : Exit → Act → World → Prop}

theorem yielded_eq {ops : Array Oper} {a : Act} {T : List Value} (ha : a.tmps = T.toArray) {j : Nat} {d : Tmp} (hd : (ops[j]?).bind (·.dst) = some d) :
    yielded ops a.tmps j = match lk T d with | .bool b => some b | _ => none := by
  unfold yielded
  rw [hd, ha, lk_eq]
  simp only [Option.bind_some]
  cases h : T.toArray[d]? with
  | none => simp at h; simp [undef, h]
  | some v => simp at h; simp [h]; cases v <;> rfl

theorem trOper_dst {ops : Array Oper} {o : Oper} {m : MOp} (hm : trOper P ops o = some m) : m.dst = o.dst ∧ trOp P o = some m.op := by
  unfold trOper at hm
  split at hm <;> (try (cases hm; done))
  · rename_i mo ht _; cases hm; exact ⟨rfl, ht⟩
  · rename_i mo j want ht _
    split at hm <;> cases hm
    exact ⟨rfl, ht⟩

def boolOf : Value → Option Bool
  | .bool b => some b
  | _ => none

/-- Is the operation wanted? -/
theorem wanted_eq {ops : Array Oper} {o : Oper} {m : MOp} (hm : trOper P ops o = some m) {a : Act} {T : List Value} (ha : a.tmps = T.toArray) :
    Region.wanted o (yielded ops a.tmps) = match m.guard with | none => true | some (d, want) => boolOf (lk T d) == some want := by
  unfold trOper at hm
  unfold Region.wanted
  split at hm <;> (try (cases hm; done))
  · rename_i mo _ hg; cases hm; rw [hg]
  · rename_i mo j want _ hg
    split at hm <;> cases hm
    rename_i d hd
    rw [hg]
    simp only
    rw [yielded_eq ha hd]
    cases lk T d <;> rfl

/-- One operation with its guard. -/
theorem wpOp_guard {ops : Array Oper} {i : Nat} {o : Oper} {m : MOp} (ho : ops[i]? = some o) (hm : trOper P ops o = some m) {a : Act} {T : List Value} (ha : a.tmps = T.toArray) {w : World} {K : Act → World → Prop}
    {yes no : Prop} (h : guardQ T m.guard yes no) (hy : yes → o.wp P a w K Q) (hn : no → K (a.put o.dst undef) w) : wpOp P ops Q i K a w := by
  have hw := wanted_eq hm ha
  have key : (Region.wanted o (yielded ops a.tmps) = true → yes) ∧ (Region.wanted o (yielded ops a.tmps) = false → no) := by
    rw [hw]
    cases hg : m.guard with
    | none =>
      rw [hg] at h
      exact ⟨fun _ => h, fun e => by cases e⟩
    | some dw =>
      obtain ⟨d, want⟩ := dw
      rw [hg] at h
      simp only [guardQ] at h
      show ((boolOf (lk T d) == some want) = true → yes) ∧ ((boolOf (lk T d) == some want) = false → no)
      generalize lk T d = u at h ⊢
      cases u <;> (try exact ⟨fun e => (by cases e), fun _ => h⟩)
      rename_i b
      exact ⟨fun e => h.1 (by simpa [boolOf] using e), fun e => h.2 (by simpa [boolOf] using e)⟩
  unfold wpOp
  simp only [ho]
  cases hc : Region.wanted o (yielded ops a.tmps) with
  | true => simp only [if_true]; exact .inl (hy (key.1 hc))
  | false => simp only [Bool.false_eq_true, if_false]; exact hn (key.2 hc)

/-- What stands behind a region. -/
def Behind (P : Program) (w0 : World) (fin : List Value → Heap → Prop) (n : Nat) (k : List It) (e : Exit) (a : Act) (w : World) : Prop :=
  e = .normal ∧ ∃ m T H, m < n ∧ run P w0 fin m k T H ∧ a.tmps = T.toArray ∧ a.defers = [] ∧ Own w0 H w

theorem Behind.mono {n n' : Nat} (h : n ≤ n') {k : List It} {e : Exit} {a : Act} {w : World} (hb : Behind P w0 fin n k e a w) : Behind P w0 fin n' k e a w := by
  obtain ⟨he, m, T, H, hm, r⟩ := hb
  exact ⟨he, m, T, H, by omega, r⟩

theorem ops_sound {ops : Array Oper} {k : List It} : ∀ (n : Nat) (is : List Nat) (l : List MOp) (T : List Value) (H : Heap), trOps P ops is = some l → run P w0 fin n (.ops l :: k) T H →
    ∀ (N : Nat), n ≤ N → ∀ a w, a.tmps = T.toArray → a.defers = [] → Own w0 H w → wpOps P ops (Behind P w0 fin N k) is a w
  | 0, _, _, _, _, _, h => h.elim
  | n + 1, [], l, T, H, hl, h => by
    intro N hN a w ha hd hO
    simp [trOps] at hl; subst hl
    exact ⟨rfl, n, T, H, by omega, h, ha, hd, hO⟩
  | n + 1, i :: is, l, T, H, hl, h => by
    intro N hN a w ha hd hO
    unfold trOps at hl
    split at hl <;> (try (cases hl; done))
    rename_i o ho
    split at hl <;> cases hl
    rename_i m ms hm hms
    rw [wpOps_cons]
    have h' : guardQ T m.guard (mwp P w0 m.op T H (KK (run P w0 fin n) (.ops ms :: k) T m.dst)) (run P w0 fin n (.ops ms :: k) (put T m.dst undef) H) := by
      obtain ⟨d, op, g⟩ := m
      cases g with
      | none => exact h
      | some g => exact h
    obtain ⟨hdst, htr⟩ := trOper_dst hm
    refine wpOp_guard ho hm ha h' (fun hy => ?_) (fun hno => ?_)
    · refine mop_sound htr ha hO hy (fun v H' w' hk ho' => ?_)
      exact ops_sound n is ms (put T m.dst v) H' hms hk N (by omega) _ _ (by rw [hdst]; exact put_eq ha _ _) (by cases o.dst <;> exact hd) ho'
    · exact ops_sound n is ms (put T m.dst undef) H hms hno N (by omega) _ _ (by rw [hdst]; exact put_eq ha _ _) (by cases o.dst <;> exact hd) hO

end
end Go.HL
