/- The heap logic, part l: the words by which code is run. -/
import Derived.Test.YtdmnfaefakceiaaGreatHlj
set_option linter.unusedSimpArgs false
set_option linter.unusedVariables false
namespace Go.HL
open Go.RowKit

theorem run_succ (P : Program) (w0 : World) (fin : List Value → Heap → Prop) (n : Nat) (s : List It) (T : List Value) (H : Heap) : run P w0 fin (n + 1) s T H = HL.step P w0 fin (run P w0 fin n) s T H := rfl
theorem Bb : (true == true) = true ∧ (true == false) = false ∧ (false == true) = false ∧ (false == false) = true ∧ (∀ b : Bool, (b == b) = true) ∧ (∀ n : Int, (n == n) = true) ∧ (∀ n : Int, (n != n) = false) := by simp
theorem Bc : (∀ n : Nat, ((no_index (OfNat.ofNat n) : Nat) : Int) = (OfNat.ofNat n : Int)) ∧ (∀ n : Nat, ((n : Int)).toNat = n) := ⟨fun _ => rfl, fun _ => rfl⟩
theorem Bw : (∀ n : Int, -9223372036854775808 ≤ n → n ≤ 9223372036854775807 → IntKind.i64.wrap n = n) ∧ (∀ n : Int, -2147483648 ≤ n → n ≤ 2147483647 → IntKind.i32.wrap n = n) :=
  ⟨fun n h h' => IntWalk.i64_in n ⟨h, h'⟩, fun n h h' => IntWalk.i32_in n ⟨h, h'⟩⟩
theorem Bn : (∀ n : Nat, n * 1 = n) ∧ (∀ n : Nat, n + 0 = n) ∧ (∀ n : Nat, 0 ≤ n) ∧ (∀ n : Nat, (0 : Int) ≤ (n : Int)) := ⟨fun n => Nat.mul_one n, fun _ => rfl, Nat.zero_le, fun n => by omega⟩
theorem Bd : (∀ a b : Int, (a == b) = decide (a = b)) ∧ (∀ a b : Int, (a != b) = !decide (a = b)) := ⟨fun a b => by by_cases h : a = b <;> simp [h], fun a b => by by_cases h : a = b <;> simp [h, bne]⟩
theorem b_i64 : IntKind.i64.bits = 64 := rfl
theorem b_i32 : IntKind.i32.bits = 32 := rfl
theorem b_u64 : IntKind.u64.bits = 64 := rfl
theorem b_u32 : IntKind.u32.bits = 32 := rfl
theorem b_u8 : IntKind.u8.bits = 8 := rfl
theorem cells_agg (cs : Array Value) : (Value.agg cs).cells = cs := rfl
theorem cells_int (k : IntKind) (n : Int) : (Value.int k n).cells = #[.int k n] := rfl
theorem cells_bool (b : Bool) : (Value.bool b).cells = #[.bool b] := rfl
theorem cells_ptr (a : Option Addr) : (Value.pointer a).cells = #[.pointer a] := rfl
theorem cells_slice (a : Option Addr) (n c : Nat) : (Value.slice a n c).cells = #[.slice a n c] := rfl
theorem oc_int (k : IntKind) (n : Int) : (Value.int k n).oneCell' = true := rfl
theorem oc_bool (b : Bool) : (Value.bool b).oneCell' = true := rfl
theorem oc_slice (a : Option Addr) (n c : Nat) : (Value.slice a n c).oneCell' = true := rfl
theorem oc_ptr (a : Option Addr) : (Value.pointer a).oneCell' = true := rfl
theorem ptrV_eq (b : Nat) : ptrV b = .pointer (some ⟨b, 0, none⟩) := rfl
theorem mapV_eq (b : Nat) : mapV b = .map (some b) := rfl
theorem slcV_eq (n b : Nat) : slcV n b = .slice (some ⟨b, 0, none⟩) n n := rfl

theorem Sa :
    (∀ (n : Nat), lk [] n = (undef)) ∧
    (∀ (v : Value) (l : List Value), lk (v :: l) 0 = (v)) ∧
    (∀ (v : Value) (l : List Value) (n : Nat), lk (v :: l) (n + 1) = (lk l n)) ∧
    (∀ (n : Nat) (v : Value), st [] n v = ([])) ∧
    (∀ (u v : Value) (l : List Value), st (u :: l) 0 v = (v :: l)) ∧
    (∀ (u v : Value) (l : List Value) (n : Nat), st (u :: l) (n + 1) v = (u :: st l n v)) ∧
    (∀ (T : List Value) (d : Tmp) (v : Value), put T (some d) v = (st T d v)) ∧
    (∀ (T : List Value) (v : Value), put T none v = (T)) ∧
    (∀ (T : List Value) (t : Tmp), ev T (.tmp t) = (lk T t)) ∧
    (∀ (T : List Value) (v : Value), ev T (.const v) = (v)) ∧
    (∀ (T : List Value) (f : FuncId), ev T (.func f) = (Value.func (.func f) #[] #[])) ∧
    (∀ (T : List Value) (g : Nat), ev T (.global g) = (Value.pointer (some ⟨g, 0, none⟩))) := by
  repeat' apply And.intro
  all_goals (intros; rfl)

theorem Sb :
    (∀ (P : Program) (w0 : World) (fin : List Value → Heap → Prop) (n : Nat) (s : List It) (T : List Value) (H : Heap), run P w0 fin (n + 1) s T H = (HL.step P w0 fin (run P w0 fin n) s T H)) ∧
    (∀ (P : Program) (w0 : World) (fin : List Value → Heap → Prop) (rec : List It → List Value → Heap → Prop) (T : List Value) (H : Heap), HL.step P w0 fin rec [] T H = (fin T H)) ∧
    (∀ (P : Program) (w0 : World) (fin : List Value → Heap → Prop) (rec : List It → List Value → Heap → Prop) (T : List Value) (H : Heap) (k : List It) (id : Nat), HL.step P w0 fin rec (.blk id :: k) T H = (rec k T H)) ∧
    (∀ (P : Program) (w0 : World) (fin : List Value → Heap → Prop) (rec : List It → List Value → Heap → Prop) (T : List Value) (H : Heap) (k : List It) (Φ : List Value → Heap → Prop), HL.step P w0 fin rec (.chk Φ :: k) T H = (Φ T H)) ∧
    (∀ (P : Program) (w0 : World) (fin : List Value → Heap → Prop) (rec : List It → List Value → Heap → Prop) (T : List Value) (H : Heap) (k : List It) , HL.step P w0 fin rec (.ops [] :: k) T H = (rec k T H)) ∧
    (∀ (P : Program) (w0 : World) (fin : List Value → Heap → Prop) (rec : List It → List Value → Heap → Prop) (T : List Value) (H : Heap) (k : List It) (d : Option Tmp) (op : MO) (l : List MOp), HL.step P w0 fin rec (.ops (⟨d, op, none⟩ :: l) :: k) T H = (mwp P w0 op T H (KK rec (.ops l :: k) T d))) ∧
    (∀ (P : Program) (w0 : World) (fin : List Value → Heap → Prop) (rec : List It → List Value → Heap → Prop) (T : List Value) (H : Heap) (k : List It) (d : Option Tmp) (op : MO) (g : Tmp × Bool) (l : List MOp), HL.step P w0 fin rec (.ops (⟨d, op, some g⟩ :: l) :: k) T H = (gS P w0 rec (lk T g.1) g.2 ⟨d, op, some g⟩ (.ops l :: k) T H)) ∧
    (∀ (P : Program) (w0 : World) (fin : List Value → Heap → Prop) (rec : List It → List Value → Heap → Prop) (T : List Value) (H : Heap) (k : List It) (Hs : Nat → Heap), HL.step P w0 fin rec (.pl Hs [] :: k) T H = (rec k T H)) ∧
    (∀ (P : Program) (w0 : World) (fin : List Value → Heap → Prop) (rec : List It → List Value → Heap → Prop) (T : List Value) (H : Heap) (k : List It) (Hs : Nat → Heap) (fl : Bool) (i : Nat) (ds : List Nat) (d : Option Tmp) (op : MO) (l : List (Bool × Nat × List Nat × MOp)), HL.step P w0 fin rec (.pl Hs ((fl, i, ds, ⟨d, op, none⟩) :: l) :: k) T H = (plQ P w0 rec fl i ds Hs ⟨d, op, none⟩ (.pl Hs l :: k) T H)) ∧
    (∀ (P : Program) (w0 : World) (fin : List Value → Heap → Prop) (rec : List It → List Value → Heap → Prop) (T : List Value) (H : Heap) (k : List It) (Hs : Nat → Heap) (fl : Bool) (i : Nat) (ds : List Nat) (d : Option Tmp) (op : MO) (g : Tmp × Bool) (l : List (Bool × Nat × List Nat × MOp)), HL.step P w0 fin rec (.pl Hs ((fl, i, ds, ⟨d, op, some g⟩) :: l) :: k) T H = (gP P w0 rec (lk T g.1) g.2 fl i ds Hs ⟨d, op, some g⟩ (.pl Hs l :: k) T H)) ∧
    (∀ (P : Program) (w0 : World) (fin : List Value → Heap → Prop) (rec : List It → List Value → Heap → Prop) (T : List Value) (H : Heap) (k : List It) , HL.step P w0 fin rec (.code .skip :: k) T H = (rec k T H)) ∧
    (∀ (P : Program) (w0 : World) (fin : List Value → Heap → Prop) (rec : List It → List Value → Heap → Prop) (T : List Value) (H : Heap) (k : List It) (l : List MOp), HL.step P w0 fin rec (.code (.reg l) :: k) T H = (rec (.ops l :: k) T H)) ∧
    (∀ (P : Program) (w0 : World) (fin : List Value → Heap → Prop) (rec : List It → List Value → Heap → Prop) (T : List Value) (H : Heap) (k : List It) (l : List (Bool × Nat × List Nat × MOp)), HL.step P w0 fin rec (.code (.any l) :: k) T H = AnyQ rec (fun Hs => .pl Hs l) k T H) ∧
    (∀ (P : Program) (w0 : World) (fin : List Value → Heap → Prop) (rec : List It → List Value → Heap → Prop) (T : List Value) (H : Heap) (k : List It) (a b : MC), HL.step P w0 fin rec (.code (.seq a b) :: k) T H = (rec (.code a :: .code b :: k) T H)) ∧
    (∀ (P : Program) (w0 : World) (fin : List Value → Heap → Prop) (rec : List It → List Value → Heap → Prop) (T : List Value) (H : Heap) (k : List It) (c : Operand) (a b : MC), HL.step P w0 fin rec (.code (.cond c a b) :: k) T H = (condS rec (ev T c) (.code a :: k) (.code b :: k) T H)) ∧
    (∀ (P : Program) (w0 : World) (fin : List Value → Heap → Prop) (rec : List It → List Value → Heap → Prop) (T : List Value) (H : Heap) (k : List It) (id : Nat) (m : MC), HL.step P w0 fin rec (.code (.block id m) :: k) T H = (rec (.code m :: .blk id :: k) T H)) ∧
    (∀ (P : Program) (w0 : World) (fin : List Value → Heap → Prop) (rec : List It → List Value → Heap → Prop) (T : List Value) (H : Heap) (k : List It) (m : MC), HL.step P w0 fin rec (.lp m :: k) T H = (LoopQ rec m k T H)) ∧
    (∀ (P : Program) (w0 : World) (fin : List Value → Heap → Prop) (rec : List It → List Value → Heap → Prop) (T : List Value) (H : Heap) (k : List It) (m : MC), HL.step P w0 fin rec (.code (.loop m) :: k) T H = (LoopQ rec m k T H)) ∧
    (∀ (P : Program) (w0 : World) (fin : List Value → Heap → Prop) (rec : List It → List Value → Heap → Prop) (T : List Value) (H : Heap) (k : List It) (id : Nat), HL.step P w0 fin rec (.code (.exit id) :: k) T H = (optQ (exitIt id k) fun k' => rec k' T H)) ∧
    (∀ (P : Program) (w0 : World) (fin : List Value → Heap → Prop) (rec : List It → List Value → Heap → Prop) (T : List Value) (H : Heap) (k : List It) , HL.step P w0 fin rec (.code .ret :: k) T H = (fin T H)) ∧
    (∀ (id i : Nat) (k : List It), exitIt id (.blk i :: k) = (if i = id then some k else exitIt id k)) ∧
    (∀ (id : Nat) (m : MC) (k : List It), exitIt id (.code m :: k) = (exitIt id k)) ∧
    (∀ (id : Nat) (m : MC) (k : List It), exitIt id (.lp m :: k) = (exitIt id k)) ∧
    (∀ (id : Nat) (m : List MOp) (k : List It), exitIt id (.ops m :: k) = (exitIt id k)) ∧
    (∀ (id : Nat) (m : List Value → Heap → Prop) (k : List It), exitIt id (.chk m :: k) = (exitIt id k)) ∧
    (∀ (rec : List It → List Value → Heap → Prop) (k : List It) (T : List Value) (d : Option Tmp) (v : Value) (H : Heap), KK rec k T d v H = (rec k (put T d v) H)) ∧
    (∀ (rec : List It → List Value → Heap → Prop) (k : List It) (T : List Value) (d : Option Tmp) (v : Value) (H : Heap), FK rec k T d H v = (rec k (put T d v) H)) ∧
    (∀ (P : Program) (w0 : World) (rec : List It → List Value → Heap → Prop) (i : Nat) (ds : List Nat) (Hs : Nat → Heap) (o : MOp) (k : List It) (T : List Value) (H : Heap), plQ P w0 rec true i ds Hs o k T H = (qv P w0 o.op T (Hs i) (FK rec k T o.dst H))) ∧
    (∀ (P : Program) (w0 : World) (rec : List It → List Value → Heap → Prop) (i : Nat) (ds : List Nat) (Hs : Nat → Heap) (o : MOp) (k : List It) (T : List Value) (H : Heap), plQ P w0 rec false i ds Hs o k T H = (mwp P w0 o.op T H (KP rec k T o.dst Hs ds))) := by
  repeat' apply And.intro
  all_goals (intros; rfl)

theorem Sc :
    (∀ (P : Program) (w0 : World) (T : List Value) (H : Heap) (φ : Value → Prop) (x : Operand), qv P w0 (.mv x) T H φ = (φ (ev T x))) ∧
    (∀ (P : Program) (w0 : World) (T : List Value) (H : Heap) (φ : Value → Prop) (c a b : Operand), qv P w0 (.pick c a b) T H φ = (PickQ (ev T c) φ (ev T a) (ev T b))) ∧
    (∀ (P : Program) (w0 : World) (T : List Value) (H : Heap) (φ : Value → Prop) (z : List Value) (ps : List (Nat × Nat × Operand)), qv P w0 (.build z ps) T H φ = (optQ (fillL z (partsV T ps)) fun cs => φ (.agg cs.toArray))) ∧
    (∀ (P : Program) (w0 : World) (T : List Value) (H : Heap) (φ : Value → Prop) (a : Operand), qv P w0 (.ld1 a) T H φ = (ld1Q w0 H φ (ev T a))) ∧
    (∀ (P : Program) (w0 : World) (T : List Value) (H : Heap) (φ : Value → Prop) (n : Nat) (a : Operand), qv P w0 (.ldn n a) T H φ = (ldnQ w0 H φ n (ev T a))) ∧
    (∀ (P : Program) (w0 : World) (T : List Value) (H : Heap) (φ : Value → Prop) (x : Operand), qv P w0 (.nilc x) T H φ = (nilQ φ (ev T x))) ∧
    (∀ (P : Program) (w0 : World) (T : List Value) (H : Heap) (φ : Value → Prop) (op : BinOp) (x y : Operand), qv P w0 (.bin op x y) T H φ = (binQ op (ev T x) (ev T y) φ)) ∧
    (∀ (P : Program) (w0 : World) (T : List Value) (H : Heap) (φ : Value → Prop) (g : Bool) (x y : Operand), qv P w0 (.eqb g x y) T H φ = (eqbQ φ g (ev T x) (ev T y))) ∧
    (∀ (P : Program) (w0 : World) (T : List Value) (H : Heap) (φ : Value → Prop) (g : Bool) (x y : Operand), qv P w0 (.eqp g x y) T H φ = (eqpQ φ g (ev T x) (ev T y))) ∧
    (∀ (P : Program) (w0 : World) (T : List Value) (H : Heap) (φ : Value → Prop) (g : Bool) (x y : Operand), qv P w0 (.eqs g x y) T H φ = (eqsQ φ g (ev T x) (ev T y))) ∧
    (∀ (P : Program) (w0 : World) (T : List Value) (H : Heap) (φ : Value → Prop) (g : Bool) (x y : Operand), qv P w0 (.eqm g x y) T H φ = (eqmQ φ g (ev T x) (ev T y))) ∧
    (∀ (P : Program) (w0 : World) (T : List Value) (H : Heap) (φ : Value → Prop) (g : Bool) (n : Nat) (x y : Operand), qv P w0 (.eqa g n x y) T H φ = (eqaQ φ g n (ev T x) (ev T y))) ∧
    (∀ (P : Program) (w0 : World) (T : List Value) (H : Heap) (φ : Value → Prop) (op : UnOp) (x : Operand), qv P w0 (.un op x) T H φ = (unQ φ op (ev T x))) ∧
    (∀ (P : Program) (w0 : World) (T : List Value) (H : Heap) (φ : Value → Prop) (k : IntKind) (x : Operand), qv P w0 (.conv k x) T H φ = (convQ φ k (ev T x))) ∧
    (∀ (P : Program) (w0 : World) (T : List Value) (H : Heap) (φ : Value → Prop) (f : FuncId) (cs : List Operand), qv P w0 (.fn f cs) T H φ = (φ (.func (.func f) #[] (cs.map (ev T)).toArray))) ∧
    (∀ (P : Program) (w0 : World) (T : List Value) (H : Heap) (φ : Value → Prop) (o : Nat) (x : Operand), qv P w0 (.fa o x) T H φ = (faQ φ o (ev T x))) ∧
    (∀ (P : Program) (w0 : World) (T : List Value) (H : Heap) (φ : Value → Prop) (o : Nat) (x : Operand), qv P w0 (.f1 o x) T H φ = (f1Q φ o (ev T x))) ∧
    (∀ (P : Program) (w0 : World) (T : List Value) (H : Heap) (φ : Value → Prop) (o n : Nat) (x : Operand), qv P w0 (.fm o n x) T H φ = (fmQ φ o n (ev T x))) ∧
    (∀ (P : Program) (w0 : World) (T : List Value) (H : Heap) (φ : Value → Prop) (n s : Nat) (x i : Operand), qv P w0 (.ia n s x i) T H φ = (iaQ φ n s (ev T x) (ev T i))) ∧
    (∀ (P : Program) (w0 : World) (T : List Value) (H : Heap) (φ : Value → Prop) (s : Nat) (x i : Operand), qv P w0 (.is s x i) T H φ = (isQ φ s (ev T x) (ev T i))) ∧
    (∀ (P : Program) (w0 : World) (T : List Value) (H : Heap) (φ : Value → Prop) (n : Nat) (x i : Operand), qv P w0 (.ix n x i) T H φ = (ixQ φ n (ev T x) (ev T i))) ∧
    (∀ (P : Program) (w0 : World) (T : List Value) (H : Heap) (φ : Value → Prop) (n s : Nat) (x i : Operand), qv P w0 (.ixm n s x i) T H φ = (ixmQ φ n s (ev T x) (ev T i))) ∧
    (∀ (P : Program) (w0 : World) (T : List Value) (H : Heap) (φ : Value → Prop) (s : Nat) (x : Operand) (l h : Option Operand), qv P w0 (.slc s x l h) T H φ = (slcQ φ s (ev T x) (l.map (ev T)) (h.map (ev T)))) ∧
    (∀ (P : Program) (w0 : World) (T : List Value) (H : Heap) (φ : Value → Prop) (n s : Nat) (x : Operand) (l h : Option Operand), qv P w0 (.sla n s x l h) T H φ = (slaQ φ n s (ev T x) (l.map (ev T)) (h.map (ev T)))) ∧
    (∀ (P : Program) (w0 : World) (T : List Value) (H : Heap) (φ : Value → Prop) (i : Nat) (x : Operand), qv P w0 (.ext i x) T H φ = (extQ φ i (ev T x))) ∧
    (∀ (P : Program) (w0 : World) (T : List Value) (H : Heap) (φ : Value → Prop) (x : Operand), qv P w0 (.len x) T H φ = (lenQ φ (ev T x))) ∧
    (∀ (P : Program) (w0 : World) (T : List Value) (H : Heap) (φ : Value → Prop) (n : Nat), qv P w0 (.lenc n) T H φ = (φ (.int .i64 n))) ∧
    (∀ (P : Program) (w0 : World) (T : List Value) (H : Heap) (φ : Value → Prop) (x y : Operand), qv P w0 (.mn x y) T H φ = (mnQ φ (ev T x) (ev T y))) ∧
    (∀ (P : Program) (w0 : World) (T : List Value) (H : Heap) (φ : Value → Prop) (x y : Operand), qv P w0 (.mx x y) T H φ = (mxQ φ (ev T x) (ev T y))) := by
  repeat' apply And.intro
  all_goals (intros; rfl)

theorem Sd :
    (∀ (P : Program) (w0 : World) (T : List Value) (H : Heap) (K : Value → Heap → Prop) (x : Operand), mwp P w0 (.mv x) T H K = (K (ev T x) H)) ∧
    (∀ (P : Program) (w0 : World) (T : List Value) (H : Heap) (K : Value → Heap → Prop) (c a b : Operand), mwp P w0 (.pick c a b) T H K = (PickQ (ev T c) (fun v => K v H) (ev T a) (ev T b))) ∧
    (∀ (P : Program) (w0 : World) (T : List Value) (H : Heap) (K : Value → Heap → Prop) (z : List Value) (ps : List (Nat × Nat × Operand)), mwp P w0 (.build z ps) T H K = (optQ (fillL z (partsV T ps)) fun cs => K (.agg cs.toArray) H)) ∧
    (∀ (P : Program) (w0 : World) (T : List Value) (H : Heap) (K : Value → Heap → Prop) (a : Operand), mwp P w0 (.ld1 a) T H K = (ld1Q w0 H (fun v => K v H) (ev T a))) ∧
    (∀ (P : Program) (w0 : World) (T : List Value) (H : Heap) (K : Value → Heap → Prop) (n : Nat) (a : Operand), mwp P w0 (.ldn n a) T H K = (ldnQ w0 H (fun v => K v H) n (ev T a))) ∧
    (∀ (P : Program) (w0 : World) (T : List Value) (H : Heap) (K : Value → Heap → Prop) (x : Operand), mwp P w0 (.nilc x) T H K = (nilQ (fun v => K v H) (ev T x))) ∧
    (∀ (P : Program) (w0 : World) (T : List Value) (H : Heap) (K : Value → Heap → Prop) (op : BinOp) (x y : Operand), mwp P w0 (.bin op x y) T H K = (binQ op (ev T x) (ev T y) (fun v => K v H))) ∧
    (∀ (P : Program) (w0 : World) (T : List Value) (H : Heap) (K : Value → Heap → Prop) (g : Bool) (x y : Operand), mwp P w0 (.eqb g x y) T H K = (eqbQ (fun v => K v H) g (ev T x) (ev T y))) ∧
    (∀ (P : Program) (w0 : World) (T : List Value) (H : Heap) (K : Value → Heap → Prop) (g : Bool) (x y : Operand), mwp P w0 (.eqp g x y) T H K = (eqpQ (fun v => K v H) g (ev T x) (ev T y))) ∧
    (∀ (P : Program) (w0 : World) (T : List Value) (H : Heap) (K : Value → Heap → Prop) (g : Bool) (x y : Operand), mwp P w0 (.eqs g x y) T H K = (eqsQ (fun v => K v H) g (ev T x) (ev T y))) ∧
    (∀ (P : Program) (w0 : World) (T : List Value) (H : Heap) (K : Value → Heap → Prop) (g : Bool) (x y : Operand), mwp P w0 (.eqm g x y) T H K = (eqmQ (fun v => K v H) g (ev T x) (ev T y))) ∧
    (∀ (P : Program) (w0 : World) (T : List Value) (H : Heap) (K : Value → Heap → Prop) (g : Bool) (n : Nat) (x y : Operand), mwp P w0 (.eqa g n x y) T H K = (eqaQ (fun v => K v H) g n (ev T x) (ev T y))) ∧
    (∀ (P : Program) (w0 : World) (T : List Value) (H : Heap) (K : Value → Heap → Prop) (op : UnOp) (x : Operand), mwp P w0 (.un op x) T H K = (unQ (fun v => K v H) op (ev T x))) ∧
    (∀ (P : Program) (w0 : World) (T : List Value) (H : Heap) (K : Value → Heap → Prop) (k : IntKind) (x : Operand), mwp P w0 (.conv k x) T H K = (convQ (fun v => K v H) k (ev T x))) ∧
    (∀ (P : Program) (w0 : World) (T : List Value) (H : Heap) (K : Value → Heap → Prop) (f : FuncId) (cs : List Operand), mwp P w0 (.fn f cs) T H K = (K (.func (.func f) #[] (cs.map (ev T)).toArray) H)) ∧
    (∀ (P : Program) (w0 : World) (T : List Value) (H : Heap) (K : Value → Heap → Prop) (o : Nat) (x : Operand), mwp P w0 (.fa o x) T H K = (faQ (fun v => K v H) o (ev T x))) ∧
    (∀ (P : Program) (w0 : World) (T : List Value) (H : Heap) (K : Value → Heap → Prop) (o : Nat) (x : Operand), mwp P w0 (.f1 o x) T H K = (f1Q (fun v => K v H) o (ev T x))) ∧
    (∀ (P : Program) (w0 : World) (T : List Value) (H : Heap) (K : Value → Heap → Prop) (o n : Nat) (x : Operand), mwp P w0 (.fm o n x) T H K = (fmQ (fun v => K v H) o n (ev T x))) ∧
    (∀ (P : Program) (w0 : World) (T : List Value) (H : Heap) (K : Value → Heap → Prop) (n s : Nat) (x i : Operand), mwp P w0 (.ia n s x i) T H K = (iaQ (fun v => K v H) n s (ev T x) (ev T i))) ∧
    (∀ (P : Program) (w0 : World) (T : List Value) (H : Heap) (K : Value → Heap → Prop) (s : Nat) (x i : Operand), mwp P w0 (.is s x i) T H K = (isQ (fun v => K v H) s (ev T x) (ev T i))) ∧
    (∀ (P : Program) (w0 : World) (T : List Value) (H : Heap) (K : Value → Heap → Prop) (n : Nat) (x i : Operand), mwp P w0 (.ix n x i) T H K = (ixQ (fun v => K v H) n (ev T x) (ev T i))) ∧
    (∀ (P : Program) (w0 : World) (T : List Value) (H : Heap) (K : Value → Heap → Prop) (n s : Nat) (x i : Operand), mwp P w0 (.ixm n s x i) T H K = (ixmQ (fun v => K v H) n s (ev T x) (ev T i))) ∧
    (∀ (P : Program) (w0 : World) (T : List Value) (H : Heap) (K : Value → Heap → Prop) (s : Nat) (x : Operand) (l h : Option Operand), mwp P w0 (.slc s x l h) T H K = (slcQ (fun v => K v H) s (ev T x) (l.map (ev T)) (h.map (ev T)))) ∧
    (∀ (P : Program) (w0 : World) (T : List Value) (H : Heap) (K : Value → Heap → Prop) (n s : Nat) (x : Operand) (l h : Option Operand), mwp P w0 (.sla n s x l h) T H K = (slaQ (fun v => K v H) n s (ev T x) (l.map (ev T)) (h.map (ev T)))) ∧
    (∀ (P : Program) (w0 : World) (T : List Value) (H : Heap) (K : Value → Heap → Prop) (i : Nat) (x : Operand), mwp P w0 (.ext i x) T H K = (extQ (fun v => K v H) i (ev T x))) ∧
    (∀ (P : Program) (w0 : World) (T : List Value) (H : Heap) (K : Value → Heap → Prop) (x : Operand), mwp P w0 (.len x) T H K = (lenQ (fun v => K v H) (ev T x))) ∧
    (∀ (P : Program) (w0 : World) (T : List Value) (H : Heap) (K : Value → Heap → Prop) (n : Nat), mwp P w0 (.lenc n) T H K = (K (.int .i64 n) H)) ∧
    (∀ (P : Program) (w0 : World) (T : List Value) (H : Heap) (K : Value → Heap → Prop) (x y : Operand), mwp P w0 (.mn x y) T H K = (mnQ (fun v => K v H) (ev T x) (ev T y))) ∧
    (∀ (P : Program) (w0 : World) (T : List Value) (H : Heap) (K : Value → Heap → Prop) (x y : Operand), mwp P w0 (.mx x y) T H K = (mxQ (fun v => K v H) (ev T x) (ev T y))) ∧
    (∀ (P : Program) (w0 : World) (T : List Value) (H : Heap) (K : Value → Heap → Prop) (ty : TypeId) (z : List Value), mwp P w0 (.alloc ty z) T H K = (AllocQ w0 H K ptrV ty z)) ∧
    (∀ (P : Program) (w0 : World) (T : List Value) (H : Heap) (K : Value → Heap → Prop) (ty : TypeId) (x : Operand), mwp P w0 (.box ty x) T H K = (AllocQ w0 H K ptrV ty (ev T x).cells.toList)) ∧
    (∀ (P : Program) (w0 : World) (T : List Value) (H : Heap) (K : Value → Heap → Prop) (ty : TypeId) (n : Nat) (z : List Value) (ps : List (Nat × Nat × Operand)), mwp P w0 (.bslice ty n z ps) T H K = (optQ (fillL z (partsV T ps)) fun cs => AllocQ w0 H K (slcV n) ty cs)) ∧
    (∀ (P : Program) (w0 : World) (T : List Value) (H : Heap) (K : Value → Heap → Prop) (a x : Operand), mwp P w0 (.st1 a x) T H K = (st1Q H K (ev T a) (ev T x))) ∧
    (∀ (P : Program) (w0 : World) (T : List Value) (H : Heap) (K : Value → Heap → Prop) (n : Nat) (a x : Operand), mwp P w0 (.stn n a x) T H K = (stnQ H K n (ev T a) (ev T x))) ∧
    (∀ (P : Program) (w0 : World) (T : List Value) (H : Heap) (K : Value → Heap → Prop) (f : FuncId) (args : List Operand), mwp P w0 (.call f args) T H K = (HCalls P w0 f (args.map (ev T)) H K)) ∧
    (∀ (P : Program) (w0 : World) (T : List Value) (H : Heap) (K : Value → Heap → Prop) (x : Operand) (args : List Operand), mwp P w0 (.callv x args) T H K = (callvQ P w0 H K (ev T x) (args.map (ev T)))) := by
  repeat' apply And.intro
  all_goals (intros; rfl)

theorem Se :
    (∀ (α : Type) (v : α) (φ : α → Prop), optQ (some v) φ = φ v) ∧ (∀ (α : Type) (φ : α → Prop), optQ none φ = False) ∧
    (∀ (T : List Value), partsV T [] = []) ∧ (∀ (T : List Value) (p : Nat × Nat × Operand) (ps : List (Nat × Nat × Operand)), partsV T (p :: ps) = (p.1, p.2.1, ev T p.2.2) :: partsV T ps) ∧
    (∀ (cs : List Value), fillL cs [] = some cs) ∧
    (∀ (cs : List Value) (off size : Nat) (v : Value) (rest : List (Nat × Nat × Value)), fillL cs ((off, size, v) :: rest) = if v.cells.size = size ∧ off + size ≤ cs.length then fillL (putAt cs off v.cells.toList) rest else none) ∧
    (∀ (w0 : World) (rv : List RV) (K : Value → Heap → Prop) (T : List Value) (H : Heap), finQ w0 rv K T H = optQ (resV w0 T H rv) fun vs => K (tup vs) H) ∧
    (∀ (w0 : World) (T : List Value) (H : Heap), resV w0 T H [] = some []) ∧
    (∀ (w0 : World) (T : List Value) (H : Heap) (t : Tmp) (l : List RV), resV w0 T H (.t t :: l) = (resV w0 T H l).map (lk T t :: ·)) ∧
    (∀ (w0 : World) (T : List Value) (H : Heap) (a : Tmp) (l : List RV), resV w0 T H (.c1 a :: l) = match lk T a with
      | .pointer (some ⟨b, off, none⟩) => match rd1 w0 H b off, resV w0 T H l with
        | some v, some r => some (v :: r)
        | _, _ => none
      | _ => none) ∧
    (∀ (w0 : World) (T : List Value) (H : Heap) (n : Nat) (a : Tmp) (l : List RV), resV w0 T H (.cn n a :: l) = match lk T a with
      | .pointer (some ⟨b, off, none⟩) => match rdn w0 H b off n, resV w0 T H l with
        | some cs, some r => some (.agg cs.toArray :: r)
        | _, _ => none
      | _ => none) ∧
    (∀ v, tup [v] = v) ∧ (∀ u v l, tup (u :: v :: l) = .tuple (u :: v :: l).toArray) ∧ tup [] = .tuple #[] := by
  repeat' apply And.intro
  all_goals (intros; rfl)

theorem Sf :
    (∀ (k j : IntKind) (a b : Int) (φ : Value → Prop), binQ .shl (.int k a) (.int j b) φ = (0 ≤ b ∧ φ (.int k (k.wrap (a * 2 ^ (min b.toNat k.bits)))))) ∧
    (∀ (k j : IntKind) (a b : Int) (φ : Value → Prop), binQ .shr (.int k a) (.int j b) φ = (0 ≤ b ∧ φ (.int k (a.fdiv (2 ^ (min b.toNat k.bits)))))) ∧
    (∀ (k j : IntKind) (a b : Int) (φ : Value → Prop), binQ .add (.int k a) (.int j b) φ = (k = j ∧ φ (.int k (k.wrap (a + b))))) ∧
    (∀ (k j : IntKind) (a b : Int) (φ : Value → Prop), binQ .sub (.int k a) (.int j b) φ = (k = j ∧ φ (.int k (k.wrap (a - b))))) ∧
    (∀ (k j : IntKind) (a b : Int) (φ : Value → Prop), binQ .mul (.int k a) (.int j b) φ = (k = j ∧ φ (.int k (k.wrap (a * b))))) ∧
    (∀ (k j : IntKind) (a b : Int) (φ : Value → Prop), binQ .and (.int k a) (.int j b) φ = (k = j ∧ φ (.int k (bitsI .and k a b)))) ∧
    (∀ (k j : IntKind) (a b : Int) (φ : Value → Prop), binQ .or (.int k a) (.int j b) φ = (k = j ∧ φ (.int k (bitsI .or k a b)))) ∧
    (∀ (k j : IntKind) (a b : Int) (φ : Value → Prop), binQ .xor (.int k a) (.int j b) φ = (k = j ∧ φ (.int k (bitsI .xor k a b)))) ∧
    (∀ (k j : IntKind) (a b : Int) (φ : Value → Prop), binQ .andNot (.int k a) (.int j b) φ = (k = j ∧ φ (.int k (bitsI .andNot k a b)))) ∧
    (∀ (k j : IntKind) (a b : Int) (φ : Value → Prop), binQ .eql (.int k a) (.int j b) φ = (k = j ∧ φ (.bool (a == b)))) ∧
    (∀ (k j : IntKind) (a b : Int) (φ : Value → Prop), binQ .neq (.int k a) (.int j b) φ = (k = j ∧ φ (.bool (a != b)))) ∧
    (∀ (k j : IntKind) (a b : Int) (φ : Value → Prop), binQ .lss (.int k a) (.int j b) φ = (k = j ∧ φ (.bool (decide (a < b))))) ∧
    (∀ (k j : IntKind) (a b : Int) (φ : Value → Prop), binQ .leq (.int k a) (.int j b) φ = (k = j ∧ φ (.bool (decide (a ≤ b))))) ∧
    (∀ (k j : IntKind) (a b : Int) (φ : Value → Prop), binQ .gtr (.int k a) (.int j b) φ = (k = j ∧ φ (.bool (decide (a > b))))) ∧
    (∀ (k j : IntKind) (a b : Int) (φ : Value → Prop), binQ .geq (.int k a) (.int j b) φ = (k = j ∧ φ (.bool (decide (a ≥ b))))) ∧
    (∀ (k j : IntKind) (a b : Int) (φ : Value → Prop), binQ .quo (.int k a) (.int j b) φ = (k = j ∧ b ≠ 0 ∧ φ (.int k (k.wrap (a.tdiv b))))) ∧
    (∀ (k j : IntKind) (a b : Int) (φ : Value → Prop), binQ .rem (.int k a) (.int j b) φ = (k = j ∧ b ≠ 0 ∧ φ (.int k (a.tmod b)))) := by
  repeat' apply And.intro
  all_goals (intros; rfl)

theorem Sg :
    (∀ (w0 : World) (H : Heap) (φ : Value → Prop) (b off : Nat), ld1Q w0 H φ (.pointer (some ⟨b, off, none⟩)) = (optQ (rd1 w0 H b off) φ)) ∧
    (∀ (w0 : World) (H : Heap) (φ : Value → Prop) (n b off : Nat), ldnQ w0 H φ n (.pointer (some ⟨b, off, none⟩)) = (optQ (rdn w0 H b off n) fun cs => φ (.agg cs.toArray))) ∧
    (∀ (φ : Value → Prop) (a : Addr), nilQ φ (.pointer (some a)) = (φ (.pointer (some a)))) ∧
    (∀ (φ : Value → Prop) (f : FuncId) (fs cs : Array Value), nilQ φ (.func (.func f) fs cs) = (φ (.func (.func f) fs cs))) ∧
    (∀ (φ : Value → Prop) (g a b : Bool), eqbQ φ g (.bool a) (.bool b) = (φ (.bool (if g then !(a == b) else a == b)))) ∧
    (∀ (φ : Value → Prop) (g : Bool) (b : Option Addr), eqpQ φ g (.pointer none) (.pointer b) = (φ (.bool (if g then !b.isNone else b.isNone)))) ∧
    (∀ (φ : Value → Prop) (g : Bool) (a : Addr), eqpQ φ g (.pointer (some a)) (.pointer none) = (φ (.bool (if g then !false else false)))) ∧
    (∀ (φ : Value → Prop) (g : Bool) (b : Option Addr) (l c l' c' : Nat), eqsQ φ g (.slice none l c) (.slice b l' c') = (φ (.bool (if g then !b.isNone else b.isNone)))) ∧
    (∀ (φ : Value → Prop) (g : Bool) (a : Addr) (l c l' c' : Nat), eqsQ φ g (.slice (some a) l c) (.slice none l' c') = (φ (.bool (if g then !false else false)))) ∧
    (∀ (φ : Value → Prop) (g : Bool) (b : Option Nat), eqmQ φ g (.map none) (.map b) = (φ (.bool (if g then !b.isNone else b.isNone)))) ∧
    (∀ (φ : Value → Prop) (g : Bool) (a : Nat), eqmQ φ g (.map (some a)) (.map none) = (φ (.bool (if g then !false else false)))) ∧
    (∀ (φ : Value → Prop) (g : Bool) (n : Nat) (xs ys : Array Value), eqaQ φ g n (.agg xs) (.agg ys) = (xs.size = n ∧ ys.size = n ∧ optQ (ceq xs.toList ys.toList) fun r => φ (.bool (if g then !r else r)))) ∧
    (∀ (φ : Value → Prop) (k : IntKind) (n : Int), unQ φ .neg (.int k n) = (φ (.int k (k.wrap (0 - n))))) ∧
    (∀ (φ : Value → Prop) (b : Bool), unQ φ .not (.bool b) = (φ (.bool !b))) ∧
    (∀ (φ : Value → Prop) (k : IntKind) (n : Int), unQ φ .xor (.int k n) = (φ (.int k (bitsI .xor k (if k.signed then -1 else k.max) n)))) ∧
    (∀ (φ : Value → Prop) (k j : IntKind) (n : Int), convQ φ k (.int j n) = (φ (.int k (k.wrap n)))) ∧
    (∀ (φ : Value → Prop) (off b o : Nat), faQ φ off (.pointer (some ⟨b, o, none⟩)) = (φ (.pointer (some ⟨b, o + off, none⟩)))) ∧
    (∀ (φ : Value → Prop) (off : Nat) (cs : Array Value), f1Q φ off (.agg cs) = (optQ (cs.toList[off]?) φ)) ∧
    (∀ (φ : Value → Prop) (off n : Nat) (cs : Array Value), fmQ φ off n (.agg cs) = (φ (.agg ((cs.toList.drop off).take n).toArray))) ∧
    (∀ (φ : Value → Prop) (n s b o : Nat) (k : IntKind) (i : Int), iaQ φ n s (.pointer (some ⟨b, o, none⟩)) (.int k i) = (0 ≤ i ∧ i < n ∧ φ (.pointer (some ⟨b, o + i.toNat * s, none⟩)))) ∧
    (∀ (φ : Value → Prop) (s b o l c : Nat) (k : IntKind) (i : Int), isQ φ s (.slice (some ⟨b, o, none⟩) l c) (.int k i) = (0 ≤ i ∧ i < l ∧ φ (.pointer (some ⟨b, o + i.toNat * s, none⟩)))) ∧
    (∀ (φ : Value → Prop) (n : Nat) (cs : Array Value) (k : IntKind) (i : Int), ixQ φ n (.agg cs) (.int k i) = (0 ≤ i ∧ i < n ∧ optQ (cs.toList[i.toNat]?) φ)) ∧
    (∀ (φ : Value → Prop) (n s : Nat) (cs : Array Value) (k : IntKind) (i : Int), ixmQ φ n s (.agg cs) (.int k i) = (0 ≤ i ∧ i < n ∧ φ (.agg ((cs.toList.drop (i.toNat * s)).take s).toArray))) ∧
    (∀ (φ : Value → Prop) (i : Nat) (vs : Array Value), extQ φ i (.tuple vs) = (optQ (vs.toList[i]?) φ)) ∧
    (∀ (φ : Value → Prop) (a : Option Addr) (n c : Nat), lenQ φ (.slice a n c) = (φ (.int .i64 n))) ∧
    (∀ (φ : Value → Prop) (k j : IntKind) (a b : Int), mnQ φ (.int k a) (.int j b) = (φ (.int k (if b < a then b else a)))) ∧
    (∀ (φ : Value → Prop) (k j : IntKind) (a b : Int), mxQ φ (.int k a) (.int j b) = (φ (.int k (if b > a then b else a)))) ∧
    (∀ (H : Heap) (K : Value → Heap → Prop) (b off : Nat) (x : Value), st1Q H K (.pointer (some ⟨b, off, none⟩)) x = (optQ (H b) fun y => x.oneCell' = true ∧ off < y.cells.length ∧ K undef (H.set b ⟨y.ty, y.cells.set off x⟩))) ∧
    (∀ (H : Heap) (K : Value → Heap → Prop) (n b off : Nat) (cs : Array Value), stnQ H K n (.pointer (some ⟨b, off, none⟩)) (.agg cs) = (optQ (H b) fun y => cs.size = n ∧ cs.toList.all Value.oneCell' = true ∧ off + n ≤ y.cells.length ∧ K undef (H.set b ⟨y.ty, putAt y.cells off cs.toList⟩))) ∧
    (∀ (P : Program) (w0 : World) (H : Heap) (K : Value → Heap → Prop) (f : FuncId) (fs cs : Array Value) (args : List Value), callvQ P w0 H K (.func (.func f) fs cs) args = (HCalls P w0 f (fs.toList ++ args ++ cs.toList) H K)) := by
  repeat' apply And.intro
  all_goals (intros; rfl)

theorem Bu : (∀ n : Int, 0 ≤ n → n ≤ 18446744073709551615 → IntKind.u64.wrap n = n) ∧ (∀ n : Int, 0 ≤ n → n ≤ 4294967295 → IntKind.u32.wrap n = n) ∧ (∀ n : Int, 0 ≤ n → n ≤ 255 → IntKind.u8.wrap n = n) := by
  refine ⟨fun n h1 h2 => ?_, fun n h1 h2 => ?_, fun n h1 h2 => ?_⟩
  · simp [IntKind.wrap, IntKind.bits, IntKind.signed]; omega
  · simp [IntKind.wrap, IntKind.bits, IntKind.signed]; omega
  · simp [IntKind.wrap, IntKind.bits, IntKind.signed]; omega
theorem zeroL_one (v : Value) (n : Nat) : zeroL [v] n = List.replicate n v := by
  apply List.ext_getElem
  · simp [zeroL, Builtin.zeroCells]
  · intro i h1 h2
    simp [zeroL, Builtin.zeroCells, Nat.mod_one]
theorem zeroL_zero (z : List Value) : zeroL z 0 = [] := by simp [zeroL, Builtin.zeroCells]
/-- Slices, strings, scopes. -/
theorem Sl :
    (∀ (P : Program) (w0 : World) (fin : List Value → Heap → Prop) (rec : List It → List Value → Heap → Prop) (T : List Value) (H : Heap) (k : List It) (m : MC), HL.step P w0 fin rec (.code (.scope m) :: k) T H = (rec (.code m :: .scp :: k) T H)) ∧
    (∀ (P : Program) (w0 : World) (fin : List Value → Heap → Prop) (rec : List It → List Value → Heap → Prop) (T : List Value) (H : Heap) (k : List It), HL.step P w0 fin rec (.scp :: k) T H = (rec k T H)) ∧
    (∀ (id : Nat) (k : List It), exitIt id (.scp :: k) = (exitIt id k)) ∧
    (∀ (P : Program) (w0 : World) (T : List Value) (H : Heap) (K : Value → Heap → Prop) (x : Operand) (args : List Operand), mwp P w0 (.yv x args) T H K = yvQ P w0 H K (ev T x) (args.map (ev T))) ∧
    (∀ (P : Program) (w0 : World) (H : Heap) (K : Value → Heap → Prop) (f : FuncId) (fs cs : Array Value) (args : List Value), yvQ P w0 H K (.func (.func f) fs cs) args = (HCalls P w0 f (fs.toList ++ args ++ cs.toList) H K)) ∧
    (∀ (P : Program) (w0 : World) (H : Heap) (K : Value → Heap → Prop) (l : Nat) (fs cs : Array Value) (args : List Value), yvQ P w0 H K (.func (.yield l) fs cs) args = (HRound P w0 l (fs.toList ++ args) H K)) ∧
    (∀ (P : Program) (w0 : World) (T : List Value) (H : Heap) (K : Value → Heap → Prop), mwp P w0 .mkm T H K = AllocO w0 H K mapV (.map #[] 0)) ∧
    (∀ (P : Program) (w0 : World) (T : List Value) (H : Heap) (K : Value → Heap → Prop) (kt : TypeId) (m k v : Operand), mwp P w0 (.mup kt m k v) T H K = mupQ P H K kt (ev T m) (ev T k) (ev T v)) ∧
    (∀ (P : Program) (w0 : World) (T : List Value) (H : Heap) (K : Value → Heap → Prop) (kt : TypeId) (m k : Operand), mwp P w0 (.del kt m k) T H K = delQ P H K kt (ev T m) (ev T k)) ∧
    (∀ (P : Program) (w0 : World) (T : List Value) (H : Heap) (K : Value → Heap → Prop) (x : Operand), mwp P w0 (.rng x) T H K = rngQ w0 H K (ev T x)) ∧
    (∀ (P : Program) (w0 : World) (T : List Value) (H : Heap) (K : Value → Heap → Prop) (x : Operand), mwp P w0 (.nxt x) T H K = nxtQ H K (ev T x)) ∧
    (∀ (P : Program) (w0 : World) (T : List Value) (H : Heap) (K : Value → Heap → Prop) (kt : TypeId) (ok : Bool) (z : Value) (x i : Operand), mwp P w0 (.lkp kt ok z x i) T H K = lkpQ P H (fun v => K v H) kt ok z (ev T x) (ev T i)) ∧
    (∀ (P : Program) (w0 : World) (T : List Value) (H : Heap) (K : Value → Heap → Prop) (x : Operand), mwp P w0 (.lenm x) T H K = lenmQ H (fun v => K v H) (ev T x)) ∧
    (∀ (P : Program) (w0 : World) (T : List Value) (H : Heap) (φ : Value → Prop) (kt : TypeId) (ok : Bool) (z : Value) (x i : Operand), qv P w0 (.lkp kt ok z x i) T H φ = lkpQ P H φ kt ok z (ev T x) (ev T i)) ∧
    (∀ (P : Program) (w0 : World) (T : List Value) (H : Heap) (φ : Value → Prop) (x : Operand), qv P w0 (.lenm x) T H φ = lenmQ H φ (ev T x)) ∧
    (∀ (id l : Nat) (L : Loop) (k : List It), exitIt id (.bgn l L :: k) = (exitIt id k)) ∧
    (∀ (P : Program) (w0 : World) (fin : List Value → Heap → Prop) (rec : List It → List Value → Heap → Prop) (T : List Value) (H : Heap) (k : List It) (l : Nat) (L : Loop), HL.step P w0 fin rec (.bgn l L :: k) T H = bgnQ rec l L k T H) ∧
    (∀ (P : Program) (w0 : World) (fin : List Value → Heap → Prop) (rec : List It → List Value → Heap → Prop) (T : List Value) (H : Heap) (k : List It) (f : Operand) (ps : List Tmp) (ma mb : MC), HL.step P w0 fin rec (.code (.rangef f ps ma mb) :: k) T H = rfQ P w0 rec (ev T f) ps ma mb k T H) ∧
    (∀ (P : Program) (w0 : World) (fin : List Value → Heap → Prop) (rec : List It → List Value → Heap → Prop) (T : List Value) (H : Heap) (k : List It) (t : PT), HL.step P w0 fin rec (.code (.alts t) :: k) T H = AnyQ rec (fun Hs => .pt Hs t) k T H) ∧
    (∀ (P : Program) (w0 : World) (fin : List Value → Heap → Prop) (rec : List It → List Value → Heap → Prop) (T : List Value) (H : Heap) (k : List It) (Hs : Nat → Heap), HL.step P w0 fin rec (.pt Hs .nil :: k) T H = (rec k T H)) ∧
    (∀ (P : Program) (w0 : World) (fin : List Value → Heap → Prop) (rec : List It → List Value → Heap → Prop) (T : List Value) (H : Heap) (k : List It) (Hs : Nat → Heap) (fl : Bool) (i : Nat) (ds : List Nat) (d : Option Tmp) (op : MO) (t : PT), HL.step P w0 fin rec (.pt Hs (.one fl i ds ⟨d, op, none⟩ t) :: k) T H = (plQ P w0 rec fl i ds Hs ⟨d, op, none⟩ (.pt Hs t :: k) T H)) ∧
    (∀ (P : Program) (w0 : World) (fin : List Value → Heap → Prop) (rec : List It → List Value → Heap → Prop) (T : List Value) (H : Heap) (k : List It) (Hs : Nat → Heap) (fl : Bool) (i : Nat) (ds : List Nat) (d : Option Tmp) (op : MO) (g : Tmp × Bool) (t : PT), HL.step P w0 fin rec (.pt Hs (.one fl i ds ⟨d, op, some g⟩ t) :: k) T H = (gP P w0 rec (lk T g.1) g.2 fl i ds Hs ⟨d, op, some g⟩ (.pt Hs t :: k) T H)) ∧
    (∀ (P : Program) (w0 : World) (fin : List Value → Heap → Prop) (rec : List It → List Value → Heap → Prop) (T : List Value) (H : Heap) (k : List It) (Hs : Nat → Heap) (a b : PT), HL.step P w0 fin rec (.pt Hs (.alt a b) :: k) T H = (rec (.pt Hs a :: k) T H ∧ rec (.pt Hs b :: k) T H)) ∧
    (∀ (P : Program) (w0 : World) (T : List Value) (H : Heap) (φ : Value → Prop) (x i : Operand), qv P w0 (.ixs x i) T H φ = (ixsQ φ (ev T x) (ev T i))) ∧
    (∀ (P : Program) (w0 : World) (T : List Value) (H : Heap) (φ : Value → Prop) (x : Operand), qv P w0 (.lens x) T H φ = (lensQ φ (ev T x))) ∧
    (∀ (P : Program) (w0 : World) (T : List Value) (H : Heap) (φ : Value → Prop) (x : Operand), qv P w0 (.capo x) T H φ = (capQ φ (ev T x))) ∧
    (∀ (P : Program) (w0 : World) (T : List Value) (H : Heap) (φ : Value → Prop) (x : Operand), qv P w0 (.bstr x) T H φ = (bstrQ w0 H φ (ev T x))) ∧
    (∀ (P : Program) (w0 : World) (T : List Value) (H : Heap) (φ : Value → Prop) (g : Bool) (x y : Operand), qv P w0 (.eqst g x y) T H φ = (eqstQ φ g (ev T x) (ev T y))) ∧
    (∀ (P : Program) (w0 : World) (T : List Value) (H : Heap) (K : Value → Heap → Prop) (x : Operand), mwp P w0 (.bstr x) T H K = (bstrQ w0 H (fun v => K v H) (ev T x))) ∧
    (∀ (P : Program) (w0 : World) (T : List Value) (H : Heap) (K : Value → Heap → Prop) (g : Bool) (x y : Operand), mwp P w0 (.eqst g x y) T H K = (eqstQ (fun v => K v H) g (ev T x) (ev T y))) ∧
    (∀ (φ : Value → Prop) (s t : ByteArray), eqstQ φ false (.string s) (.string t) = φ (.bool (s.toList == t.toList))) ∧
    (∀ (φ : Value → Prop) (s t : ByteArray), eqstQ φ true (.string s) (.string t) = φ (.bool (!(s.toList == t.toList)))) ∧
    (∀ (P : Program) (w0 : World) (T : List Value) (H : Heap) (φ : Value → Prop) (x y c : Operand), qv P w0 (.add64 x y c) T H φ = (add64Q φ (ev T x) (ev T y) (ev T c))) ∧
    (∀ (P : Program) (w0 : World) (T : List Value) (H : Heap) (K : Value → Heap → Prop) (x i : Operand), mwp P w0 (.ixs x i) T H K = (ixsQ (fun v => K v H) (ev T x) (ev T i))) ∧
    (∀ (P : Program) (w0 : World) (T : List Value) (H : Heap) (K : Value → Heap → Prop) (x : Operand), mwp P w0 (.lens x) T H K = (lensQ (fun v => K v H) (ev T x))) ∧
    (∀ (P : Program) (w0 : World) (T : List Value) (H : Heap) (K : Value → Heap → Prop) (x : Operand), mwp P w0 (.capo x) T H K = (capQ (fun v => K v H) (ev T x))) ∧
    (∀ (P : Program) (w0 : World) (T : List Value) (H : Heap) (K : Value → Heap → Prop) (x y c : Operand), mwp P w0 (.add64 x y c) T H K = (add64Q (fun v => K v H) (ev T x) (ev T y) (ev T c))) ∧
    (∀ (P : Program) (w0 : World) (T : List Value) (H : Heap) (K : Value → Heap → Prop) (e : TypeId) (a b : Nat) (z : List Value) (s x : Operand), mwp P w0 (.app e a b z s x) T H K = (appQ w0 H K e a b z (ev T s) (ev T x))) ∧
    (∀ (P : Program) (w0 : World) (T : List Value) (H : Heap) (K : Value → Heap → Prop) (e : TypeId) (a b : Nat) (z : List Value) (s x : Operand), mwp P w0 (.appz e a b z s x) T H K = (appzQ w0 H K e a b z (ev T s) (ev T x))) ∧
    (∀ (P : Program) (w0 : World) (T : List Value) (H : Heap) (K : Value → Heap → Prop) (e : TypeId) (b : Nat) (z : List Value) (s x : Operand), mwp P w0 (.mks e b z s x) T H K = (mksQ w0 H K e b z (ev T s) (ev T x))) ∧
    (∀ (P : Program) (w0 : World) (T : List Value) (H : Heap) (K : Value → Heap → Prop) (a : Nat) (s x : Operand), mwp P w0 (.cpy a s x) T H K = (cpyQ w0 H K a (ev T s) (ev T x))) ∧
    (∀ (P : Program) (w0 : World) (T : List Value) (H : Heap) (φ : Value → Prop) (x h m : Operand), qv P w0 (.slc3 x h m) T H φ = (slc3Q φ (ev T x) (ev T h) (ev T m))) ∧
    (∀ (P : Program) (w0 : World) (T : List Value) (H : Heap) (K : Value → Heap → Prop) (x h m : Operand), mwp P w0 (.slc3 x h m) T H K = (slc3Q (fun v => K v H) (ev T x) (ev T h) (ev T m))) ∧
    (∀ (P : Program) (w0 : World) (T : List Value) (H : Heap) (K : Value → Heap → Prop) (e : TypeId) (x : Operand), mwp P w0 (.mnz e x) T H K = (mnzQ w0 H K e (ev T x))) ∧
    (∀ (P : Program) (w0 : World) (T : List Value) (H : Heap) (K : Value → Heap → Prop) (z : List Value) (x : Operand), mwp P w0 (.clr z x) T H K = (clrQ H K z (ev T x))) ∧
    (∀ (φ : Value → Prop) (a : Option Addr) (n c : Nat) (k1 k2 : IntKind) (h m : Int), slc3Q φ (.slice a n c) (.int k1 h) (.int k2 m) = (0 ≤ h ∧ h ≤ m ∧ m ≤ c ∧ φ (.slice a h.toNat m.toNat))) ∧
    (∀ (φ : Value → Prop) (s : ByteArray) (k : IntKind) (i : Int), ixsQ φ (.string s) (.int k i) = (0 ≤ i ∧ optQ (s.data.toList[i.toNat]?) fun b => φ (.int .u8 b.toNat))) ∧
    (∀ (φ : Value → Prop) (s : ByteArray), lensQ φ (.string s) = φ (.int .i64 s.size)) ∧
    (∀ (φ : Value → Prop) (a : Option Addr) (n c : Nat), capQ φ (.slice a n c) = φ (.int .i64 c)) ∧
    (∀ (φ : Value → Prop) (k1 k2 k3 : IntKind) (x y c : Int), add64Q φ (.int k1 x) (.int k2 y) (.int k3 c) = (0 ≤ x ∧ 0 ≤ y ∧ 0 ≤ c ∧ c ≤ 1 ∧ φ (.tuple #[.int .u64 ((x + y + c) % 18446744073709551616), .int .u64 ((x + y + c) / 18446744073709551616)]))) ∧
    (∀ (w0 : World) (H : Heap) (a : Option Addr), srd w0 H a 0 = some []) ∧
    (∀ (w0 : World) (H : Heap) (b o k : Nat), srd w0 H (some ⟨b, o, none⟩) (k + 1) = rdn w0 H b o (k + 1)) ∧
    (∀ (H : Heap) (K : Heap → Prop) (a : Option Addr) (off : Nat), layQ H K a off [] = K H) ∧
    (∀ (H : Heap) (K : Heap → Prop) (b o off : Nat) (v : Value) (vs : List Value), layQ H K (some ⟨b, o, none⟩) off (v :: vs) = optQ (H b) fun y => (v :: vs).all Value.oneCell' = true ∧ o + off + (v :: vs).length ≤ y.cells.length ∧ K (H.set b ⟨y.ty, putAt y.cells (o + off) (v :: vs)⟩)) ∧
    (∀ (φ : Value → Prop) (z b o n c : Nat), slcQ φ z (.slice (some ⟨b, o, none⟩) n c) none none = φ (.slice (some ⟨b, o, none⟩) n c)) ∧
    (∀ (φ : Value → Prop) (z b o n c : Nat) (k : IntKind) (h : Int), slcQ φ z (.slice (some ⟨b, o, none⟩) n c) none (some (.int k h)) = (0 ≤ h ∧ h ≤ c ∧ φ (.slice (some ⟨b, o, none⟩) h.toNat c))) ∧
    (∀ (φ : Value → Prop) (z b o s n c : Nat) (k : IntKind) (h : Int), slcQ φ z (.slice (some ⟨b, o, some s⟩) n c) none (some (.int k h)) = (0 ≤ h ∧ h ≤ c ∧ φ (.slice (some ⟨b, o, some s⟩) h.toNat c))) ∧
    (∀ (φ : Value → Prop) (z b o n c : Nat) (k : IntKind) (l : Int), slcQ φ z (.slice (some ⟨b, o, none⟩) n c) (some (.int k l)) none = (0 ≤ l ∧ l ≤ n ∧ φ (.slice (some ⟨b, if c = l.toNat then o else o + l.toNat * z, none⟩) (n - l.toNat) (c - l.toNat)))) ∧
    (∀ (φ : Value → Prop) (z b o n c : Nat) (k k' : IntKind) (l h : Int), slcQ φ z (.slice (some ⟨b, o, none⟩) n c) (some (.int k l)) (some (.int k' h)) = (0 ≤ l ∧ l ≤ h ∧ h ≤ c ∧ φ (.slice (some ⟨b, if c = l.toNat then o else o + l.toNat * z, none⟩) (h.toNat - l.toNat) (c - l.toNat)))) ∧
    (∀ (φ : Value → Prop) (z n c : Nat), slcQ φ z (.slice none n c) none none = φ (.slice none n c)) ∧
    (∀ (φ : Value → Prop) (z n c : Nat) (k : IntKind) (h : Int), slcQ φ z (.slice none n c) none (some (.int k h)) = (0 ≤ h ∧ h ≤ c ∧ φ (.slice none h.toNat c))) ∧
    (∀ (φ : Value → Prop) (z n c : Nat) (k : IntKind) (l : Int), slcQ φ z (.slice none n c) (some (.int k l)) none = (0 ≤ l ∧ l ≤ n ∧ φ (.slice none (n - l.toNat) (c - l.toNat)))) ∧
    (∀ (φ : Value → Prop) (z n c : Nat) (k k' : IntKind) (l h : Int), slcQ φ z (.slice none n c) (some (.int k l)) (some (.int k' h)) = (0 ≤ l ∧ l ≤ h ∧ h ≤ c ∧ φ (.slice none (h.toNat - l.toNat) (c - l.toNat)))) ∧
    (∀ (φ : Value → Prop) (n z b o : Nat), slaQ φ n z (.pointer (some ⟨b, o, none⟩)) none none = φ (.slice (some ⟨b, o, none⟩) n n)) ∧
    (∀ (φ : Value → Prop) (n z b o : Nat) (k : IntKind) (h : Int), slaQ φ n z (.pointer (some ⟨b, o, none⟩)) none (some (.int k h)) = (0 ≤ h ∧ h ≤ n ∧ φ (.slice (some ⟨b, o, none⟩) h.toNat n))) ∧
    (∀ (φ : Value → Prop) (n z b o : Nat) (k : IntKind) (l : Int), slaQ φ n z (.pointer (some ⟨b, o, none⟩)) (some (.int k l)) none = (0 ≤ l ∧ l ≤ n ∧ φ (.slice (some ⟨b, if n = l.toNat then o else o + l.toNat * z, none⟩) (n - l.toNat) (n - l.toNat)))) ∧
    (∀ (φ : Value → Prop) (n z b o : Nat) (k k' : IntKind) (l h : Int), slaQ φ n z (.pointer (some ⟨b, o, none⟩)) (some (.int k l)) (some (.int k' h)) = (0 ≤ l ∧ l ≤ h ∧ h ≤ n ∧ φ (.slice (some ⟨b, if n = l.toNat then o else o + l.toNat * z, none⟩) (h.toNat - l.toNat) (n - l.toNat)))) := by
  repeat' apply And.intro
  all_goals (intros; first | rfl | simp [srd] | simp [layQ])

section
variable {P : Program} {w0 : World} {rec : List It → List Value → Heap → Prop} {ky kn k : List It} {T : List Value} {H H0 : Heap} {Hs : Nat → Heap} {i : Nat} {ds : List Nat} {o : MOp} {b : Bool} {fl : Bool} {d : Option Tmp} {v : Value}

theorem condS_t : condS rec (.bool true) ky kn T H = rec ky T H := by simp [condS]
theorem condS_f : condS rec (.bool false) ky kn T H = rec kn T H := by simp [condS]
theorem condS_i (hy : b = true → rec ky T H) (hn : b = false → rec kn T H) : condS rec (.bool b) ky kn T H := ⟨hy, hn⟩

theorem pick_t {φ : Value → Prop} {a c : Value} : PickQ (.bool true) φ a c = φ a := by simp [PickQ]
theorem pick_f {φ : Value → Prop} {a c : Value} : PickQ (.bool false) φ a c = φ c := by simp [PickQ]
theorem pick_i {φ : Value → Prop} {a c : Value} (hy : b = true → φ a) (hn : b = false → φ c) : PickQ (.bool b) φ a c := ⟨hy, hn⟩
theorem K_int {K : Value → Heap → Prop} {k : IntKind} {m n : Int} (h : K (.int k m) H) (e : n = m) : K (.int k n) H := e ▸ h
theorem K_bool {K : Value → Heap → Prop} {m n : Bool} (h : K (.bool m) H) (e : n = m) : K (.bool n) H := e ▸ h

theorem gS_tt : gS P w0 rec (.bool true) true o k T H = mwp P w0 o.op T H (KK rec k T o.dst) := by simp [gS]
theorem gS_ff : gS P w0 rec (.bool false) false o k T H = mwp P w0 o.op T H (KK rec k T o.dst) := by simp [gS]
theorem gS_tf : gS P w0 rec (.bool true) false o k T H = rec k (put T o.dst undef) H := by simp [gS]
theorem gS_ft : gS P w0 rec (.bool false) true o k T H = rec k (put T o.dst undef) H := by simp [gS]
theorem gS_u {w : Bool} : gS P w0 rec undef w o k T H = rec k (put T o.dst undef) H := rfl
theorem gS_it (hy : b = true → mwp P w0 o.op T H (KK rec k T o.dst)) (hn : b = false → rec k (put T o.dst undef) H) : gS P w0 rec (.bool b) true o k T H :=
  ⟨hy, fun h => hn (by simpa using h)⟩
theorem gS_if (hy : b = false → mwp P w0 o.op T H (KK rec k T o.dst)) (hn : b = true → rec k (put T o.dst undef) H) : gS P w0 rec (.bool b) false o k T H :=
  ⟨hy, fun h => hn (by simpa using h)⟩

theorem gP_tt : gP P w0 rec (.bool true) true fl i ds Hs o k T H = plQ P w0 rec fl i ds Hs o k T H := by simp [gP]
theorem gP_ff : gP P w0 rec (.bool false) false fl i ds Hs o k T H = plQ P w0 rec fl i ds Hs o k T H := by simp [gP]
theorem gP_tf : gP P w0 rec (.bool true) false fl i ds Hs o k T H = rec k (put T o.dst undef) H := by simp [gP]
theorem gP_ft : gP P w0 rec (.bool false) true fl i ds Hs o k T H = rec k (put T o.dst undef) H := by simp [gP]
theorem gP_u {w : Bool} : gP P w0 rec undef w fl i ds Hs o k T H = rec k (put T o.dst undef) H := rfl
theorem gP_it (hy : b = true → plQ P w0 rec fl i ds Hs o k T H) (hn : b = false → rec k (put T o.dst undef) H) : gP P w0 rec (.bool b) true fl i ds Hs o k T H :=
  ⟨hy, fun h => hn (by simpa using h)⟩
theorem gP_if (hy : b = false → plQ P w0 rec fl i ds Hs o k T H) (hn : b = true → rec k (put T o.dst undef) H) : gP P w0 rec (.bool b) false fl i ds Hs o k T H :=
  ⟨hy, fun h => hn (by simpa using h)⟩

theorem KK_eq : KK rec k T d v H = rec k (put T d v) H := rfl
theorem FK_eq : FK rec k T d H v = rec k (put T d v) H := rfl
/-- A drawn region, with all that is known; or with a part of it. -/
theorem any_h {f : (Nat → Heap) → It} (h : rec (f (fun _ => H) :: k) T H) : AnyQ rec f k T H := ⟨fun _ => H, fun _ => Heap.Le.refl _, h⟩
theorem any_sub {f : (Nat → Heap) → It} (H0 : Heap) (hl : Heap.Le H0 H) (h : rec (f (fun _ => H0) :: k) T H) : AnyQ rec f k T H := ⟨fun _ => H0, fun _ => hl, h⟩
theorem any_subs {f : (Nat → Heap) → It} (Hs : Nat → Heap) (hl : ∀ i, Heap.Le (Hs i) H) (h : rec (f Hs :: k) T H) : AnyQ rec f k T H := ⟨Hs, hl, h⟩
/-- A part of what is known. -/
abbrev noneH : Heap := fun _ => none
theorem Le_none : Heap.Le noneH H := fun c y e => by cases e
theorem Le_put {G : Heap} {b : Nat} {x : Blk} (h : Heap.Le G H) (e : H b = some x) : Heap.Le (G.set b x) H := fun c y hc => by
  by_cases hcb : c = b
  · subst hcb
    rw [Heap.set_same] at hc
    cases hc; exact e
  · rw [Heap.set_other _ _ hcb] at hc; exact h c y hc
theorem KP_same : KP rec k T d (fun _ => H) ds v H = rec k (put T d v) H := by simp [KP, Heap.Le.refl]
theorem KP_f : KP rec k T d Hs [] v H = rec k (put T d v) H := by simp [KP]
theorem KP_i (hl : Heap.Le H0 H) (h : rec k (put T d v) H) : KP rec k T d (fun _ => H0) ds v H := ⟨fun _ _ => hl, h⟩
theorem KP_c {f : Nat} (hl : Heap.Le (Hs f) H) (h : KP rec k T d Hs ds v H) : KP rec k T d Hs (f :: ds) v H := ⟨fun g hg => by
  rcases List.mem_cons.1 hg with rfl | hg
  · exact hl
  · exact h.1 g hg, h.2⟩

theorem AllocQ_i {K : Value → Heap → Prop} {v : Nat → Value} {ty : TypeId} {cs : List Value} (h : ∀ b, w0.heap.size ≤ b → H b = none → K (v b) (H.set b ⟨ty, cs⟩)) : AllocQ w0 H K v ty cs := h

theorem AllocO_i {K : Value → Heap → Prop} {v : Nat → Value} {o : Obj} (h : ∀ b, w0.heap.size ≤ b → H b = none → K (v b) (H.set b ⟨.o o, []⟩)) : AllocO w0 H K v o := h
theorem rd1_set (x : Blk) (b off : Nat) : rd1 w0 (H.set b x) b off = x.cells[off]? := by simp [rd1]
theorem rd1_ne (b c off : Nat) (x : Blk) (h : b ≠ c) : rd1 w0 (H.set b x) c off = rd1 w0 H c off := by simp [rd1, Heap.set_other _ _ (Ne.symm h)]
theorem rdn_set (x : Blk) (b off n : Nat) : rdn w0 (H.set b x) b off n = if off + n ≤ x.cells.length then some ((x.cells.drop off).take n) else none := by simp [rdn]
theorem rdn_ne (b c off n : Nat) (x : Blk) (h : b ≠ c) : rdn w0 (H.set b x) c off n = rdn w0 H c off n := by simp [rdn, Heap.set_other _ _ (Ne.symm h)]
theorem set_ne (b c : Nat) (x : Blk) (h : b ≠ c) : H.set b x c = H c := Heap.set_other _ _ (Ne.symm h)
theorem set_up (b c : Nat) (x y z : Blk) (h : b ≠ c) : ((H.set b x).set c y).set b z = (H.set b z).set c y := by
  rw [Heap.set_comm (H.set b x) y z (Ne.symm h), Heap.set_set]
theorem set_up2 (b c d : Nat) (x y u z : Blk) (h : b ≠ c) (h' : b ≠ d) : (((H.set b x).set c y).set d u).set b z = ((H.set b z).set c y).set d u := by
  rw [Heap.set_comm _ u z (Ne.symm h'), set_up _ _ _ _ _ h]
theorem set_up3 (b c d e : Nat) (x y u r z : Blk) (h : b ≠ c) (h' : b ≠ d) (h2 : b ≠ e) : ((((H.set b x).set c y).set d u).set e r).set b z = (((H.set b z).set c y).set d u).set e r := by
  rw [Heap.set_comm _ r z (Ne.symm h2), set_up2 _ _ _ _ _ _ _ h h']
theorem set_none' {b k : Nat} {x : Blk} : H.set b x k = none ↔ (k ≠ b ∧ b ≠ k) ∧ H k = none := by
  rw [Heap.set_none]
  exact ⟨fun ⟨h, h'⟩ => ⟨⟨h, Ne.symm h⟩, h'⟩, fun ⟨⟨h, _⟩, h'⟩ => ⟨h, h'⟩⟩
theorem Le_fresh {G : Heap} {b : Nat} {x : Blk} (hb : H b = none) (h : Heap.Le H G) : Heap.Le H (G.set b x) := fun c y e => by
  rw [Heap.set_other _ _ (fun hc => by subst hc; simp [hb] at e)]; exact h c y e
theorem Le_set {G : Heap} {b : Nat} {x : Blk} (h : Heap.Le H G) : Heap.Le (H.set b x) (G.set b x) := fun c y e => by
  by_cases hc : c = b
  · subst hc; rw [Heap.set_same] at e ⊢; exact e
  · rw [Heap.set_other _ _ hc] at e ⊢; exact h c y e

/-- The end of a call: of what is known some may be forgotten. -/
inductive Fin (K : Value → Heap → Prop) (v : Value) (H : Heap) : Prop
  | mk (G : Heap) (hl : Heap.Le G H) (hk : K v G)
theorem Fin_mk {K : Value → Heap → Prop} {G : Heap} (h : Heap.Le G H) (hk : K v G) : Fin K v H := ⟨G, h, hk⟩

theorem hc {f : FuncId} {m : MC} {rv : List RV} {nt : Nat} (hf : fnOk P f = some (m, rv, nt)) {args : List Value} {K : Value → Heap → Prop} (n : Nat)
    (h : run P w0 (finQ w0 rv (Fin K)) n [.code m] (args ++ List.replicate (nt - args.length) undef) H) : HCalls P w0 f args H K := by
  have := hcalls hf n h
  exact ⟨this.1, fun w ho => (this.2 w ho).mono fun _ _ ⟨v, H', he, ⟨G, hl, hk⟩, ho'⟩ => ⟨v, G, he, hk, ho'.mono hl⟩⟩

/-- Some of the cells of the register, set. -/
def sts (T : List Value) : List (Nat × Value) → List Value
  | [] => T
  | (n, v) :: l => sts (st T n v) l
theorem st_len : ∀ (T : List Value) (n : Nat) (v : Value), (st T n v).length = T.length
  | [], _, _ => by rfl
  | _ :: _, 0, _ => by rfl
  | _ :: l, n + 1, v => by show (st l n v).length + 1 = l.length + 1; rw [st_len l n v]
theorem lk_st_same : ∀ (T : List Value) (n : Nat) (v : Value), n < T.length → lk (st T n v) n = v
  | [], _, _, h => by simp at h
  | _ :: _, 0, _, _ => rfl
  | _ :: l, n + 1, v, h => lk_st_same l n v (by simpa using h)
theorem lk_st_ne : ∀ (T : List Value) (n m : Nat) (v : Value), n ≠ m → lk (st T n v) m = lk T m
  | [], _, _, _, _ => rfl
  | _ :: _, 0, 0, _, h => (h rfl).elim
  | _ :: _, 0, _ + 1, _, _ => rfl
  | _ :: _, _ + 1, 0, _, _ => rfl
  | _ :: l, n + 1, m + 1, v, h => lk_st_ne l n m v (by omega)
/-- A register of which the end is not known. -/
theorem Sh :
    (∀ (T : List Value) (n : Nat) (v : Value), (st T n v).length = T.length) ∧
    (∀ (T : List Value) (n : Nat) (v : Value), n < T.length → lk (st T n v) n = v) ∧
    (∀ (T : List Value) (n m : Nat) (v : Value), n ≠ m → lk (st T n v) m = lk T m) ∧
    (∀ T, sts T [] = T) ∧ (∀ (T : List Value) (n : Nat) (v : Value) (l : List (Nat × Value)), sts T ((n, v) :: l) = sts (st T n v) l) ∧
    (∀ l : List Value, l.take 0 = []) ∧ (∀ (v : Value) (l : List Value) (n : Nat), (v :: l).take (n + 1) = v :: l.take n) ∧
    (∀ (v : Value) (l : List Value) (n : Nat), (v :: l).drop (n + 1) = l.drop n) ∧ (∀ l : List Value, l.drop 0 = l) ∧ (∀ (v : Value) (l l' : List Value), (v :: l) ++ l' = v :: (l ++ l')) ∧ (∀ l : List Value, [] ++ l = l) ∧
    (∀ (u v : Value) (l l' : List Value), (u :: l = v :: l') = (u = v ∧ l = l')) :=
  ⟨st_len, lk_st_same, lk_st_ne, fun _ => rfl, fun _ _ _ _ => rfl, fun _ => rfl, fun _ _ _ => rfl, fun _ _ _ => rfl, fun _ => rfl, fun _ _ _ => rfl, fun _ => rfl, fun _ _ _ _ => by simp⟩

/-- What holds at a loop's head, of a state s: of the register the first p cells stay, but for those that w names; of what lies behind only the length is known. -/
def Head {S : Type} (T : List Value) (p : Nat) (w : S → List (Nat × Value)) (hp : S → Heap) (ok : S → Prop) (μ : S → Nat) (z : Nat) (T' : List Value) (H' : Heap) : Prop :=
  ∃ s, μ s = z ∧ T'.take p = (sts T (w s)).take p ∧ (T'.drop p).length = (T.drop p).length ∧ H' = hp s ∧ ok s
/-- What is asked at the end of a round. -/
def Round {S : Type} (T : List Value) (p : Nat) (w : S → List (Nat × Value)) (hp : S → Heap) (ok : S → Prop) (μ : S → Nat) (z : Nat) (T' : List Value) (H' : Heap) : Prop :=
  ∃ z' G, z' < z ∧ Heap.Le G H' ∧ Head T p w hp ok μ z' T' G
theorem Round_mk {S : Type} {p : Nat} {w : S → List (Nat × Value)} {hp : S → Heap} {ok : S → Prop} {μ : S → Nat} {z : Nat} {T' : List Value} {H' : Heap} (s' : S) (ok' : ok s') (lt : μ s' < z) (hl : Heap.Le (hp s') H')
    (e : T'.take p = (sts T (w s')).take p) (l : (T'.drop p).length = (T.drop p).length) : Round T p w hp ok μ z T' H' := ⟨μ s', hp s', lt, hl, s', rfl, e, l, rfl, ok'⟩
def mkT (f : Nat → Value) : Nat → Nat → List Value
  | 0, _ => []
  | n + 1, k => f k :: mkT f n (k + 1)
theorem Si : (∀ (f : Nat → Value) (k : Nat), mkT f 0 k = []) ∧ (∀ (f : Nat → Value) (n k : Nat), mkT f (n + 1) k = f k :: mkT f n (k + 1)) := ⟨fun _ _ => rfl, fun _ _ _ => rfl⟩
theorem mkT_ex : ∀ (l : List Value) (k : Nat), ∃ f, l = mkT f l.length k
  | [], _ => ⟨fun _ => undef, rfl⟩
  | v :: l, k => by
    obtain ⟨f, hf⟩ := mkT_ex l (k + 1)
    have same : ∀ (g : Nat → Value) (n m : Nat), k < m → (∀ j, k < j → g j = f j) → mkT g n m = mkT f n m := by
      intro g n
      induction n with
      | zero => intro m _ _; rfl
      | succ n ih => intro m hm hg; show g m :: mkT g n (m + 1) = f m :: mkT f n (m + 1); rw [hg m hm, ih (m + 1) (by omega) hg]
    refine ⟨fun j => if j = k then v else f j, ?_⟩
    show v :: l = (if k = k then v else f k) :: mkT (fun j => if j = k then v else f j) l.length (k + 1)
    rw [if_pos rfl, same _ _ (k + 1) (by omega) (fun j hj => if_neg (by omega)), ← hf]
theorem loop_g {m : MC} {S : Type} (p : Nat) (w : S → List (Nat × Value)) (hp : S → Heap) (ok : S → Prop) (μ : S → Nat) (s0 : S) (ok0 : ok s0) (h0 : Heap.Le (hp s0) H) (e0 : T.take p = (sts T (w s0)).take p)
    (body : ∀ s f, ok s → rec (.code m :: .chk (Round T p w hp ok μ (μ s)) :: k) ((sts T (w s)).take p ++ mkT f (T.drop p).length 0) (hp s)) :
    LoopQ rec m k T H := by
  refine .inl ⟨Head T p w hp ok μ, ⟨μ s0, hp s0, h0, s0, rfl, e0, rfl, rfl, ok0⟩, fun z T' H' ⟨s, hz, he, hl, hH, hok⟩ => ?_⟩
  subst hz hH
  obtain ⟨f, hf⟩ := mkT_ex (T'.drop p) 0
  have := body s f hok
  rw [← he, ← hl, ← hf, List.take_append_drop] at this
  exact this
/-- A loop, unrolled. -/
theorem loop_u {m : MC} (h : rec (.code m :: .lp m :: k) T H) : LoopQ rec m k T H := .inr h

end
end Go.HL
