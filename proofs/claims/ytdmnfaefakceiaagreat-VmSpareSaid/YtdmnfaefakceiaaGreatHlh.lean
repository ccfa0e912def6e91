/- The heap logic, part h: the code of a function, resolved, and what it asks ('run'). -/
import Derived.Test.YtdmnfaefakceiaaGreatHlg
import Derived.RangeFuncIn
set_option linter.unusedSimpArgs false
set_option linter.unusedVariables false
namespace Go.HL
open Go.RowKit

/-- The orders of a drawn region in which more than one operation acts: a tree. -/
inductive PT where
  | nil
  | one (fl : Bool) (i : Nat) (ds : List Nat) (m : MOp) (t : PT)
  | alt (a b : PT)
inductive MC where
  | skip
  | reg (ops : List MOp)
  | any (plan : List (Bool × Nat × List Nat × MOp))
  | seq (a b : MC)
  | cond (c : Operand) (a b : MC)
  | block (id : Nat) (m : MC)
  | loop (m : MC)
  | exit (id : Nat)
  | ret
  | scope (m : MC)
  | alts (t : PT)
  | rangef (f : Operand) (ps : List Tmp) (ma mb : MC)

def trOper (P : Program) (ops : Array Oper) (o : Oper) : Option MOp :=
  match trOp P o, o.guard with
  | some mo, none => some ⟨o.dst, mo, none⟩
  | some mo, some (j, want) => match (ops[j]?).bind (·.dst) with
    | some d => some ⟨o.dst, mo, some (d, want)⟩
    | none => none
  | none, _ => none

/-- In a region in its text's order a value that is called may be a loop's yield. -/
def MO.y : MO → MO
  | .callv x args => .yv x args
  | q => q

def trOps (P : Program) (ops : Array Oper) : List Nat → Option (List MOp)
  | [] => some []
  | i :: l => match ops[i]? with
    | some o => match trOper P ops o, trOps P ops l with
      | some m, some ms => some (⟨m.dst, m.op.y, m.guard⟩ :: ms)
      | _, _ => none
    | none => none

def quietAt (P : Program) (ops : Array Oper) (i : Nat) : Bool :=
  match (ops[i]?).bind (trOp P) with
  | some mo => mo.quiet
  | none => false

abbrev Nd := Nat × Oper × List Nat
/-- The operations of a region, each with those that it waits for. -/
def nodesL : List Oper → Nat → List Nd
  | [], _ => []
  | o :: l, k => (k, o, (o.after.toList.filter (Region.binds .any)).map (·.on)) :: nodesL l (k + 1)
def dropN (i : Nat) (l : List Nd) : List Nd := (l.filter fun x => !Nat.beq x.1 i).map fun x => (x.1, x.2.1, x.2.2.filter fun j => !Nat.beq j i)
def readyL (l : List Nd) : List Nd := l.filter fun x => x.2.2.isEmpty
def freeL (ops : Array Oper) (l : List Nd) (x : Nd) : Bool := l.all fun y => Nat.beq y.1 x.1 || y.2.2.any (Nat.beq x.1) || x.2.1.apart ops y.2.1

/-- The order in which a drawn region is gone through: (operation, taken first?). -/
def planGo (P : Program) (ops : Array Oper) (n : Nat) : Nat → List Nd → Option (List (Nat × Bool))
  | 0, rem => match readyL rem with
    | [] => some []
    | _ => none
  | fuel + 1, rem => match readyL rem with
    | [] => some []
    | [x] => (planGo P ops n fuel (dropN x.1 rem)).map ((x.1, false) :: ·)
    | rs => match rs.find? fun x => Nat.blt x.1 n && freeL ops rem x && quietAt P ops x.1 with
      | some x => (planGo P ops n fuel (dropN x.1 rem)).map ((x.1, true) :: ·)
      | none => none

inductive PI where
  | nil
  | one (i : Nat) (fl : Bool) (t : PI)
  | alt (a b : PI)
def altsP (f : Nd → Option PI) : List Nd → Option PI
  | [] => none
  | [x] => f x
  | x :: y :: xs => match f x, altsP f (y :: xs) with
    | some a, some b => some (.alt a b)
    | _, _ => none
/-- The same, where more than one operation that acts may come up: each of these orders. -/
def planT (P : Program) (ops : Array Oper) (n : Nat) : Nat → List Nd → Option PI
  | 0, rem => match readyL rem with
    | [] => some .nil
    | _ => none
  | fuel + 1, rem => match readyL rem with
    | [] => some .nil
    | [x] => (planT P ops n fuel (dropN x.1 rem)).map (.one x.1 false)
    | rs => match rs.find? fun x => Nat.blt x.1 n && freeL ops rem x && quietAt P ops x.1 with
      | some x => (planT P ops n fuel (dropN x.1 rem)).map (.one x.1 true)
      | none => if Nat.ble rs.length 3 then altsP (fun x => (planT P ops n fuel (dropN x.1 rem)).map (.one x.1 false)) rs else none
/-- Which operations are taken first. -/
def planFT (l : List (Nat × Bool)) : List Nat := (l.filter (·.2)).map (·.1)
def ptFT : PI → List Nat
  | .nil => []
  | .one i true t => i :: ptFT t
  | .one _ false t => ptFT t
  | .alt a b => ptFT a ++ ptFT b
/-- Which ones that are taken first might still come behind this one. -/
def dsOf (ms FT done : List Nat) (n j : Nat) : List Nat := if j < n then FT.filter fun f => (FT.contains j || !anc ms j f) && done.all fun k => FT.contains k || !anc ms k f else []

def trPT (P : Program) (ops : Array Oper) (ms FT : List Nat) (n : Nat) : List Nat → PI → Option PT
  | _, .nil => some .nil
  | done, .one i fl t => match ops[i]? with
    | some o => match trOper P ops o, trPT P ops ms FT n (i :: done) t with
      | some m, some r => some (.one fl i (if fl then [] else dsOf ms FT done n i) m r)
      | _, _ => none
    | none => none
  | done, .alt a b => match trPT P ops ms FT n done a, trPT P ops ms FT n done b with
    | some x, some y => some (.alt x y)
    | _, _ => none

def trPlan (P : Program) (ops : Array Oper) (ms FT : List Nat) (n : Nat) : List Nat → List (Nat × Bool) → Option (List (Bool × Nat × List Nat × MOp))
  | _, [] => some []
  | done, (i, fl) :: l => match ops[i]? with
    | some o => match trOper P ops o, trPlan P ops ms FT n (i :: done) l with
      | some m, some r => some ((fl, i, (if fl then [] else dsOf ms FT done n i), m) :: r)
      | _, _ => none
    | none => none

/-- The last operation that doesn't wait for the one ahead of it. -/
def lastBreak (ops : Array Oper) : Nat → Nat
  | 0 => 0
  | t + 1 => if Region.waitsFor .any ops (t + 1) t then lastBreak ops t else t + 1
def headFrom (ops : Array Oper) : Nat → Nat → Nat
  | 0, _ => ops.size
  | f + 1, n => if headOk .any ops n then n else headFrom ops f (n + 1)
def headN (ops : Array Oper) : Nat := headFrom ops (ops.size - lastBreak ops (ops.size - 1)) (lastBreak ops (ops.size - 1))

def trAny (P : Program) (ops : Array Oper) : Option MC :=
  if P.follows .mixedOrders && Region.noSelect ops && headOk .any ops (headN ops) then
    match planGo P ops (headN ops) ops.size (nodesL ops.toList 0) with
    | some pl => match trPlan P ops (masks ops) (planFT pl) (headN ops) [] pl with
      | some ms => some (.any ms)
      | none => none
    | none => match planT P ops (headN ops) ops.size (nodesL ops.toList 0) with
      | some pt => match trPT P ops (masks ops) (ptFT pt) (headN ops) [] pt with
        | some t => some (.alts t)
        | none => none
      | none => none
  else none

def noDefer (ops : Array Oper) : Bool := ops.all fun o => match o.op with
  | .defer _ => false
  | _ => true

/-- The code of a round: no loop over a function within. -/
def trBody (P : Program) : Code → Option MC
  | .skip => some .skip
  | .region _ ops false => match trOps P ops (List.range ops.size) with
    | some l => some (.reg l)
    | none => none
  | .region _ ops true => if noDefer ops then trAny P ops else none
  | .seq a b => match trBody P a, trBody P b with
    | some x, some y => some (.seq x y)
    | _, _ => none
  | .cond c a b => match trBody P a, trBody P b with
    | some x, some y => some (.cond c x y)
    | _, _ => none
  | .block id c => match trBody P c with
    | some x => some (.block id x)
    | none => none
  | .loop c => match trBody P c with
    | some x => some (.loop x)
    | none => none
  | .exit id => some (.exit id)
  | .scope c => match trBody P c with
    | some x => some (.scope x)
    | none => none
  | .label _ => some .skip
  | _ => none

def trCode (P : Program) : Code → Option MC
  | .skip => some .skip
  | .region _ ops false => match trOps P ops (List.range ops.size) with
    | some l => some (.reg l)
    | none => none
  | .region _ ops true => trAny P ops
  | .seq a b => match trCode P a, trCode P b with
    | some x, some y => some (.seq x y)
    | _, _ => none
  | .cond c a b => match trCode P a, trCode P b with
    | some x, some y => some (.cond c x y)
    | _, _ => none
  | .block id c => match trCode P c with
    | some x => some (.block id x)
    | none => none
  | .loop c => match trCode P c with
    | some x => some (.loop x)
    | none => none
  | .exit id => some (.exit id)
  | .scope c => match trCode P c with
    | some x => some (.scope x)
    | none => none
  | .label _ => some .skip
  | .ret => some .ret
  | .rangeFunc f ps a b => match trBody P a, trBody P b with
    | some x, some y => some (.rangef f ps.toList x y)
    | _, _ => none
  | _ => none

/-- A loop over a function, ready for a round: what its rounds run. -/
structure LoopOk (P : Program) (L : Loop) (T : List Value) (ps : List Tmp) (ma mb : MC) : Prop where
  st : L.state = .ready
  pend : L.pending = none
  tm : L.tmps = T.toArray
  pr : L.params = ps.toArray
  asg : trBody P L.assign = some ma
  bd : trBody P L.body = some mb

/-! ### What the code asks -/

inductive It where
  | code (m : MC)
  | ops (l : List MOp)
  | pl (Hs : Nat → Heap) (l : List (Bool × Nat × List Nat × MOp))
  | pt (Hs : Nat → Heap) (t : PT)
  | blk (id : Nat)
  | scp
  | lp (m : MC)
  | chk (Φ : List Value → Heap → Prop)
  | bgn (l : Nat) (L : Loop)

def guardQ (T : List Value) (g : Option (Tmp × Bool)) (yes no : Prop) : Prop :=
  match g with
  | none => yes
  | some (d, want) => match lk T d with
    | .bool b => (b = want → yes) ∧ (b ≠ want → no)
    | _ => no

def exitIt (id : Nat) : List It → Option (List It)
  | .blk id' :: k => if id' = id then some k else exitIt id k
  | .code _ :: k => exitIt id k
  | .ops _ :: k => exitIt id k
  | .pl _ _ :: k => exitIt id k
  | .pt _ _ :: k => exitIt id k
  | .chk _ :: k => exitIt id k
  | .lp _ :: k => exitIt id k
  | .scp :: k => exitIt id k
  | .bgn _ _ :: k => exitIt id k
  | [] => none

def LoopQ (rec : List It → List Value → Heap → Prop) (m : MC) (k : List It) (T : List Value) (H : Heap) : Prop :=
  (∃ (I : Nat → List Value → Heap → Prop), (∃ z G, Heap.Le G H ∧ I z T G) ∧
    ∀ z T H, I z T H → rec (.code m :: .chk (fun T' H' => ∃ z' G, z' < z ∧ Heap.Le G H' ∧ I z' T' G) :: k) T H) ∨ rec (.code m :: .lp m :: k) T H

/-- What stands behind an operation that has yielded a value. -/
def KK (rec : List It → List Value → Heap → Prop) (st : List It) (T : List Value) (d : Option Tmp) (v : Value) (H : Heap) : Prop := rec st (put T d v) H

def FK (rec : List It → List Value → Heap → Prop) (st : List It) (T : List Value) (d : Option Tmp) (H : Heap) (v : Value) : Prop := rec st (put T d v) H

/-- The same in a drawn region: nothing may be turned that is still to be read by those of ds. -/
def KP (rec : List It → List Value → Heap → Prop) (st : List It) (T : List Value) (d : Option Tmp) (Hs : Nat → Heap) (ds : List Nat) (v : Value) (H : Heap) : Prop := (∀ f ∈ ds, Heap.Le (Hs f) H) ∧ rec st (put T d v) H

/-- A loop over a function: its one call. -/
def rfQ (P : Program) (w0 : World) (rec : List It → List Value → Heap → Prop) (f : Value) (ps : List Tmp) (ma mb : MC) (k : List It) (T : List Value) (H : Heap) : Prop := match f with
  | .func (.func g) fs cs => ∀ l L, w0.heap.size ≤ l → H l = none → LoopOk P L T ps ma mb → HCalls P w0 g (fs.toList ++ [.func (.yield l) #[] #[]] ++ cs.toList) (H.set l ⟨.o (.loop L), []⟩)
      (fun _ H' => H' l = some ⟨.o (.loop L), []⟩ ∧ ∀ o, rec k T (H'.set l ⟨.o o, []⟩))
  | _ => False
/-- A drawn region: what is taken first reads a part of what is known. -/
def AnyQ (rec : List It → List Value → Heap → Prop) (f : (Nat → Heap) → It) (k : List It) (T : List Value) (H : Heap) : Prop := ∃ Hs : Nat → Heap, (∀ i, Heap.Le (Hs i) H) ∧ rec (f Hs :: k) T H
def bgnQ (rec : List It → List Value → Heap → Prop) (l : Nat) (L : Loop) (k : List It) (T : List Value) (H : Heap) : Prop :=
  H l = some ⟨.o (.loop L), []⟩ ∧ L.state = .ready ∧ rec k T (H.set l ⟨.o (.loop { L with state := .busy }), []⟩)

def condS (rec : List It → List Value → Heap → Prop) (v : Value) (ky kn : List It) (T : List Value) (H : Heap) : Prop :=
  match v with
  | .bool b => (b = true → rec ky T H) ∧ (b = false → rec kn T H)
  | _ => False

def gS (P : Program) (w0 : World) (rec : List It → List Value → Heap → Prop) (v : Value) (want : Bool) (o : MOp) (k : List It) (T : List Value) (H : Heap) : Prop :=
  match v with
  | .bool b => (b = want → mwp P w0 o.op T H (KK rec k T o.dst)) ∧ (b ≠ want → rec k (put T o.dst undef) H)
  | _ => rec k (put T o.dst undef) H

def plQ (P : Program) (w0 : World) (rec : List It → List Value → Heap → Prop) (fl : Bool) (i : Nat) (ds : List Nat) (Hs : Nat → Heap) (o : MOp) (k : List It) (T : List Value) (H : Heap) : Prop :=
  match fl with
  | true => qv P w0 o.op T (Hs i) (FK rec k T o.dst H)
  | false => mwp P w0 o.op T H (KP rec k T o.dst Hs ds)

def gP (P : Program) (w0 : World) (rec : List It → List Value → Heap → Prop) (v : Value) (want : Bool) (fl : Bool) (i : Nat) (ds : List Nat) (Hs : Nat → Heap) (o : MOp) (k : List It) (T : List Value) (H : Heap) : Prop :=
  match v with
  | .bool b => (b = want → plQ P w0 rec fl i ds Hs o k T H) ∧ (b ≠ want → rec k (put T o.dst undef) H)
  | _ => rec k (put T o.dst undef) H

def step (P : Program) (w0 : World) (fin : List Value → Heap → Prop) (rec : List It → List Value → Heap → Prop) : List It → List Value → Heap → Prop
  | [], T, H => fin T H
  | .blk _ :: k, T, H => rec k T H
  | .scp :: k, T, H => rec k T H
  | .chk Φ :: _, T, H => Φ T H
  | .lp m :: k, T, H => LoopQ rec m k T H
  | .ops [] :: k, T, H => rec k T H
  | .ops (⟨d, op, none⟩ :: l) :: k, T, H => mwp P w0 op T H (KK rec (.ops l :: k) T d)
  | .ops (⟨d, op, some g⟩ :: l) :: k, T, H => gS P w0 rec (lk T g.1) g.2 ⟨d, op, some g⟩ (.ops l :: k) T H
  | .pl _ [] :: k, T, H => rec k T H
  | .pl Hs ((fl, i, ds, ⟨d, op, none⟩) :: l) :: k, T, H => plQ P w0 rec fl i ds Hs ⟨d, op, none⟩ (.pl Hs l :: k) T H
  | .pl Hs ((fl, i, ds, ⟨d, op, some g⟩) :: l) :: k, T, H => gP P w0 rec (lk T g.1) g.2 fl i ds Hs ⟨d, op, some g⟩ (.pl Hs l :: k) T H
  | .pt _ .nil :: k, T, H => rec k T H
  | .pt Hs (.one fl i ds ⟨d, op, none⟩ t) :: k, T, H => plQ P w0 rec fl i ds Hs ⟨d, op, none⟩ (.pt Hs t :: k) T H
  | .pt Hs (.one fl i ds ⟨d, op, some g⟩ t) :: k, T, H => gP P w0 rec (lk T g.1) g.2 fl i ds Hs ⟨d, op, some g⟩ (.pt Hs t :: k) T H
  | .pt Hs (.alt a b) :: k, T, H => rec (.pt Hs a :: k) T H ∧ rec (.pt Hs b :: k) T H
  | .code (.alts t) :: k, T, H => AnyQ rec (fun Hs => .pt Hs t) k T H
  | .code .skip :: k, T, H => rec k T H
  | .code (.reg l) :: k, T, H => rec (.ops l :: k) T H
  | .code (.any pl) :: k, T, H => AnyQ rec (fun Hs => .pl Hs pl) k T H
  | .code (.seq a b) :: k, T, H => rec (.code a :: .code b :: k) T H
  | .code (.cond c a b) :: k, T, H => condS rec (ev T c) (.code a :: k) (.code b :: k) T H
  | .code (.block id m) :: k, T, H => rec (.code m :: .blk id :: k) T H
  | .code (.loop m) :: k, T, H => LoopQ rec m k T H
  | .code (.exit id) :: k, T, H => optQ (exitIt id k) fun k' => rec k' T H
  | .code .ret :: _, T, H => fin T H
  | .code (.scope m) :: k, T, H => rec (.code m :: .scp :: k) T H
  | .code (.rangef f ps ma mb) :: k, T, H => rfQ P w0 rec (ev T f) ps ma mb k T H
  | .bgn l L :: k, T, H => bgnQ rec l L k T H

def run (P : Program) (w0 : World) (fin : List Value → Heap → Prop) : Nat → List It → List Value → Heap → Prop
  | 0 => fun _ _ _ => False
  | n + 1 => step P w0 fin (run P w0 fin n)

/-! ### It is enough -/
section
variable {P : Program} {w0 : World} {fin : List Value → Heap → Prop} {Q : Exit → Act → World → Prop}

theorem yielded_eq {ops : Array Oper} {a : Act} {T : List Value} (ha : a.tmps = T.toArray) {j : Nat} {d : Tmp} (hd : (ops[j]?).bind (·.dst) = some d) :
    yielded ops a.tmps j = match lk T d with | .bool b => some b | _ => none := by
  unfold yielded
  rw [hd, ha, lk_eq]
  simp only [Option.bind_some]
  cases h : T.toArray[d]? with
  | none => simp at h; simp [undef, h]
  | some v => simp at h; simp [h]; cases v <;> rfl

theorem trOper_dst {ops : Array Oper} {o : Oper} {m : MOp} (hm : trOper P ops o = some m) : m.dst = o.dst ∧ trOp P o = some m.op := by
  unfold trOper at hm
  split at hm <;> (try (cases hm; done))
  · rename_i mo ht _; cases hm; exact ⟨rfl, ht⟩
  · rename_i mo j want ht _
    split at hm <;> cases hm
    exact ⟨rfl, ht⟩

def boolOf : Value → Option Bool
  | .bool b => some b
  | _ => none

/-- Is the operation wanted? -/
theorem wanted_eq {ops : Array Oper} {o : Oper} {m : MOp} (hm : trOper P ops o = some m) {a : Act} {T : List Value} (ha : a.tmps = T.toArray) :
    Region.wanted o (yielded ops a.tmps) = match m.guard with | none => true | some (d, want) => boolOf (lk T d) == some want := by
  unfold trOper at hm
  unfold Region.wanted
  split at hm <;> (try (cases hm; done))
  · rename_i mo _ hg; cases hm; rw [hg]
  · rename_i mo j want _ hg
    split at hm <;> cases hm
    rename_i d hd
    rw [hg]
    simp only
    rw [yielded_eq ha hd]
    cases lk T d <;> rfl

/-- One operation with its guard. -/
theorem wpOp_guard {ops : Array Oper} {i : Nat} {o : Oper} {m : MOp} (ho : ops[i]? = some o) (hm : trOper P ops o = some m) {a : Act} {T : List Value} (ha : a.tmps = T.toArray) {w : World} {K : Act → World → Prop}
    {yes no : Prop} (h : guardQ T m.guard yes no) (hy : yes → o.wp P a w K Q) (hn : no → K (a.put o.dst undef) w) : wpOp P ops Q i K a w := by
  have hw := wanted_eq hm ha
  have key : (Region.wanted o (yielded ops a.tmps) = true → yes) ∧ (Region.wanted o (yielded ops a.tmps) = false → no) := by
    rw [hw]
    cases hg : m.guard with
    | none =>
      rw [hg] at h
      exact ⟨fun _ => h, fun e => by cases e⟩
    | some dw =>
      obtain ⟨d, want⟩ := dw
      rw [hg] at h
      simp only [guardQ] at h
      show ((boolOf (lk T d) == some want) = true → yes) ∧ ((boolOf (lk T d) == some want) = false → no)
      generalize lk T d = u at h ⊢
      cases u <;> (try exact ⟨fun e => (by cases e), fun _ => h⟩)
      rename_i b
      exact ⟨fun e => h.1 (by simpa [boolOf] using e), fun e => h.2 (by simpa [boolOf] using e)⟩
  unfold wpOp
  simp only [ho]
  cases hc : Region.wanted o (yielded ops a.tmps) with
  | true => simp only [if_true]; exact .inl (hy (key.1 hc))
  | false => simp only [Bool.false_eq_true, if_false]; exact hn (key.2 hc)

/-- What stands behind a region. -/
def Behind (P : Program) (w0 : World) (F : Nat → Prop) (ds : List Deferred) (fin : List Value → Heap → Prop) (n : Nat) (k : List It) (e : Exit) (a : Act) (w : World) : Prop :=
  e = .normal ∧ ∃ m T H, m < n ∧ run P w0 fin m k T H ∧ a.tmps = T.toArray ∧ a.defers = ds ∧ Own w0 F H w

theorem Behind.mono {F : Nat → Prop} {ds : List Deferred} {n n' : Nat} (h : n ≤ n') {k : List It} {e : Exit} {a : Act} {w : World} (hb : Behind P w0 F ds fin n k e a w) : Behind P w0 F ds fin n' k e a w := by
  obtain ⟨he, m, T, H, hm, r⟩ := hb
  exact ⟨he, m, T, H, by omega, r⟩

end
end Go.HL
