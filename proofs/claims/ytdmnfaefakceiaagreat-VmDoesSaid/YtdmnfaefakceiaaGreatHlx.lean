/- The heap logic, part x: code whose inputs are all known, reckoned out: the values and the memory of a run, up to the names of blocks. -/
import Derived.Test.YtdmnfaefakceiaaGreatHll
set_option linter.unusedSimpArgs false
set_option linter.unusedVariables false
namespace Go.HL
open Go.RowKit

/-! ### Values up to the names of blocks: block r of the reckoning is block l[r] of the world; of a row that grew the capacity is told beside -/
abbrev Nm := List (Nat × Option Nat)
mutual
inductive VR (l : Nm) : Value → Value → Prop
  | int (k : IntKind) (n : Int) : VR l (.int k n) (.int k n)
  | bool (b : Bool) : VR l (.bool b) (.bool b)
  | str (s : ByteArray) : VR l (.string s) (.string s)
  | pnil : VR l (.pointer none) (.pointer none)
  | ptr {r b : Nat} {g : Option Nat} (o : Nat) (h : l[r]? = some (b, g)) : VR l (.pointer (some ⟨r, o, none⟩)) (.pointer (some ⟨b, o, none⟩))
  | snil (n c : Nat) : VR l (.slice none n c) (.slice none n c)
  | slc {r b : Nat} {g : Option Nat} (o n c c' : Nat) (h : l[r]? = some (b, g)) (hc : c ≤ c') (h0 : g = none → c' = c) (h1 : ∀ C, g = some C → o = 0 → c' = C) : VR l (.slice (some ⟨r, o, none⟩) n c) (.slice (some ⟨b, o, none⟩) n c')
  | mnil : VR l (.map none) (.map none)
  | fnil : VR l .nilFunc .nilFunc
  | inil : VR l .nilIface .nilIface
  | agg {xs ys : List Value} (h : VRs l xs ys) : VR l (.agg ⟨xs⟩) (.agg ⟨ys⟩)
  | tup {xs ys : List Value} (h : VRs l xs ys) : VR l (.tuple ⟨xs⟩) (.tuple ⟨ys⟩)
  | fn (f : FuncId) {xs ys us vs : List Value} (h : VRs l xs ys) (h' : VRs l us vs) : VR l (.func (.func f) ⟨xs⟩ ⟨us⟩) (.func (.func f) ⟨ys⟩ ⟨vs⟩)
inductive VRs (l : Nm) : List Value → List Value → Prop
  | nil : VRs l [] []
  | cons {x y : Value} {xs ys : List Value} (h : VR l x y) (t : VRs l xs ys) : VRs l (x :: xs) (y :: ys)
end

def Nm.Le (l l' : Nm) : Prop := ∀ (r : Nat) x, l[r]? = some x → l'[r]? = some x
mutual
theorem VR.up {l l' : Nm} (hl : Nm.Le l l') : ∀ {x y : Value}, VR l x y → VR l' x y
  | _, _, .int k n => .int k n
  | _, _, .bool b => .bool b
  | _, _, .str s => .str s
  | _, _, .pnil => .pnil
  | _, _, .ptr o h => .ptr o (hl _ _ h)
  | _, _, .snil n c => .snil n c
  | _, _, .slc o n c c' h hc h0 h1 => .slc o n c c' (hl _ _ h) hc h0 h1
  | _, _, .mnil => .mnil
  | _, _, .fnil => .fnil
  | _, _, .inil => .inil
  | _, _, .agg h => .agg (VRs.up hl h)
  | _, _, .tup h => .tup (VRs.up hl h)
  | _, _, .fn f h h' => .fn f (VRs.up hl h) (VRs.up hl h')
theorem VRs.up {l l' : Nm} (hl : Nm.Le l l') : ∀ {xs ys : List Value}, VRs l xs ys → VRs l' xs ys
  | _, _, .nil => .nil
  | _, _, .cons h t => .cons (VR.up hl h) (VRs.up hl t)
end

theorem VRs.length {l : Nm} : ∀ {xs ys : List Value}, VRs l xs ys → xs.length = ys.length
  | _, _, .nil => rfl
  | _, _, .cons _ t => by simp [t.length]
theorem VRs.append {l : Nm} : ∀ {xs ys us vs : List Value}, VRs l xs ys → VRs l us vs → VRs l (xs ++ us) (ys ++ vs)
  | _, _, _, _, .nil, h => h
  | _, _, _, _, .cons a t, h => .cons a (t.append h)
theorem VRs.get {l : Nm} : ∀ {xs ys : List Value}, VRs l xs ys → ∀ {i : Nat} {v : Value}, xs[i]? = some v → ∃ v', ys[i]? = some v' ∧ VR l v v'
  | _, _, .nil, i, v, h => by simp at h
  | _, _, .cons a t, 0, v, h => by simp at h; subst h; exact ⟨_, rfl, a⟩
  | _, _, .cons a t, i + 1, v, h => by simpa using t.get (i := i) (by simpa using h)
theorem VRs.drop {l : Nm} : ∀ {xs ys : List Value} (n : Nat), VRs l xs ys → VRs l (xs.drop n) (ys.drop n)
  | _, _, 0, h => by simpa using h
  | _, _, _ + 1, .nil => by simpa using VRs.nil
  | _, _, n + 1, .cons _ t => by simpa using t.drop n
theorem VRs.take {l : Nm} : ∀ {xs ys : List Value} (n : Nat), VRs l xs ys → VRs l (xs.take n) (ys.take n)
  | _, _, 0, h => by simpa using VRs.nil
  | _, _, _ + 1, .nil => by simpa using VRs.nil
  | _, _, n + 1, .cons a t => by simpa using VRs.cons a (t.take n)
theorem VRs.set {l : Nm} {v v' : Value} (hv : VR l v v') : ∀ {xs ys : List Value} (n : Nat), VRs l xs ys → VRs l (xs.set n v) (ys.set n v')
  | _, _, _, .nil => by simpa using VRs.nil
  | _, _, 0, .cons _ t => by simpa using VRs.cons hv t
  | _, _, n + 1, .cons a t => by simpa using VRs.cons a (t.set hv n)
theorem VRs.st {l : Nm} {v v' : Value} (hv : VR l v v') : ∀ {xs ys : List Value} (n : Nat), VRs l xs ys → VRs l (st xs n v) (st ys n v')
  | _, _, _, .nil => .nil
  | _, _, 0, .cons _ t => .cons hv t
  | _, _, n + 1, .cons a t => .cons a (t.st hv n)
theorem VRs.putAt {l : Nm} : ∀ {cs ds : List Value} (n : Nat) {us vs : List Value}, VRs l cs ds → VRs l us vs → VRs l (putAt cs n us) (putAt ds n vs)
  | _, _, n, _, _, h, .nil => by rw [putAt_nil, putAt_nil]; exact h
  | _, _, n, _, _, .nil, .cons _ _ => by cases n <;> exact .nil
  | _, _, 0, _, _, .cons _ t, .cons a t' => .cons a (t.putAt 0 t')
  | _, _, n + 1, _, _, .cons a t, .cons b t' => .cons a (t.putAt n (.cons b t'))
theorem VR.undef {l : Nm} : VR l undef undef := .tup .nil
theorem VRs.lk {l : Nm} : ∀ {xs ys : List Value} (n : Nat), VRs l xs ys → VR l (lk xs n) (lk ys n)
  | _, _, _, .nil => VR.undef
  | _, _, 0, .cons a _ => a
  | _, _, n + 1, .cons _ t => t.lk n
theorem VRs.rep {l : Nm} {v v' : Value} (h : VR l v v') : ∀ n : Nat, VRs l (List.replicate n v) (List.replicate n v')
  | 0 => .nil
  | n + 1 => .cons h (VRs.rep h n)

def simp0 : Value → Bool
  | .int .. | .bool _ | .string _ | .pointer none | .slice none _ _ | .map none | .nilFunc | .nilIface => true
  | _ => false
def simpV : Value → Bool
  | .agg cs => cs.toList.all simp0
  | v => simp0 v
theorem simp0_vr {l : Nm} {v : Value} (h : simp0 v = true) : VR l v v := by
  unfold simp0 at h
  split at h <;> first | (cases h; done) | constructor
theorem simps_vr {l : Nm} : ∀ {vs : List Value}, vs.all simp0 = true → VRs l vs vs
  | [], _ => .nil
  | v :: vs, h => by
    simp only [List.all_cons, Bool.and_eq_true] at h
    exact .cons (simp0_vr h.1) (simps_vr h.2)
theorem simpV_vr {l : Nm} {v : Value} (h : simpV v = true) : VR l v v := by
  unfold simpV at h
  split at h
  · rename_i cs
    obtain ⟨cs⟩ := cs
    exact .agg (simps_vr h)
  · exact simp0_vr h

def evx (T : List Value) : Operand → Option Value
  | .tmp t => some (lk T t)
  | .const v => if simpV v then some v else none
  | .func f => some (.func (.func f) ⟨[]⟩ ⟨[]⟩)
  | .global _ => none
theorem evx_vr {l : Nm} {T T' : List Value} (hT : VRs l T T') {x : Operand} {v : Value} (h : evx T x = some v) : VR l v (ev T' x) := by
  cases x <;> simp only [evx] at h
  · cases h; exact hT.lk _
  · split at h <;> cases h
    rename_i hs
    exact simpV_vr hs
  · cases h
  · cases h; exact .fn _ .nil .nil
def evxs (T : List Value) : List Operand → Option (List Value)
  | [] => some []
  | x :: xs => match evx T x, evxs T xs with
    | some v, some vs => some (v :: vs)
    | _, _ => none
theorem evxs_vr {l : Nm} {T T' : List Value} (hT : VRs l T T') : ∀ {xs : List Operand} {vs : List Value}, evxs T xs = some vs → VRs l vs (xs.map (ev T'))
  | [], vs, h => by simp [evxs] at h; subst h; exact .nil
  | x :: xs, vs, h => by
    unfold evxs at h
    split at h <;> cases h
    rename_i v vs hv hvs
    exact .cons (evx_vr hT hv) (evxs_vr hT hvs)

/-! ### Memory -/
structure RB where
  ty : TypeId
  cells : List Value
  grown : Option Nat
  ver : Nat
abbrev RH := List (Option RB)
def getB (h : RH) (r : Nat) : Option RB := match h[r]? with | some (some b) => some b | _ => none

/-- The reckoned memory stands for blocks of the world. -/
structure HB (w0 : World) (l : Nm) (h : RH) (H : Heap) : Prop where
  blk : ∀ r x, getB h r = some x → ∃ b g cs ex, l[r]? = some (b, g) ∧ w0.heap.size ≤ b ∧ H b = some ⟨x.ty, cs ++ ex⟩ ∧ VRs l x.cells cs ∧ (x.grown = none → g = none ∧ ex = []) ∧ (∀ sz, x.grown = some sz → ∃ C, g = some C ∧ (cs ++ ex).length = C * sz)
theorem HB.up {w0 : World} {l l' : Nm} {h : RH} {H : Heap} (hh : HB w0 l h H) (hl : Nm.Le l l') : HB w0 l' h H :=
  ⟨fun r x e => by
    obtain ⟨b, g, cs, ex, h1, h2, h3, h4, h5⟩ := hh.blk r x e
    exact ⟨b, g, cs, ex, hl _ _ h1, h2, h3, h4.up hl, h5⟩⟩
structure HR (w0 : World) (l : Nm) (h : RH) (H : Heap) : Prop extends HB w0 l h H where
  len : l.length = h.length
  apart : ∀ r r' x x' b g b' g', getB h r = some x → getB h r' = some x' → l[r]? = some (b, g) → l[r']? = some (b', g') → b = b' → r = r'

def rd1x (h : RH) (r o : Nat) : Option Value := match getB h r with | some x => x.cells[o]? | none => none
def rdnx (h : RH) (r o n : Nat) : Option (List Value) := match getB h r with | some x => if o + n ≤ x.cells.length then some ((x.cells.drop o).take n) else none | none => none

theorem rd1x_sound {w0 : World} {l : Nm} {h : RH} {H : Heap} (hh : HB w0 l h H) {r o : Nat} {v : Value} (e : rd1x h r o = some v) {b : Nat} {g : Option Nat} (hl : l[r]? = some (b, g)) : ∃ v', rd1 w0 H b o = some v' ∧ VR l v v' := by
  unfold rd1x at e
  split at e <;> (try (cases e; done))
  rename_i x hx
  obtain ⟨b', g', cs, ex, h1, h2, h3, h4, -, -⟩ := hh.blk r x hx
  rw [hl] at h1; cases h1
  obtain ⟨v', hv', hr⟩ := h4.get e
  refine ⟨v', ?_, hr⟩
  unfold rd1; rw [h3]
  simp only
  have : o < cs.length := (List.getElem?_eq_some_iff.1 hv').1
  rw [List.getElem?_append_left this]; exact hv'
theorem rdnx_sound {w0 : World} {l : Nm} {h : RH} {H : Heap} (hh : HB w0 l h H) {r o n : Nat} {vs : List Value} (e : rdnx h r o n = some vs) {b : Nat} {g : Option Nat} (hl : l[r]? = some (b, g)) : ∃ vs', rdn w0 H b o n = some vs' ∧ VRs l vs vs' := by
  unfold rdnx at e
  split at e <;> (try (cases e; done))
  rename_i x hx
  split at e <;> cases e
  rename_i hle
  obtain ⟨b', g', cs, ex, h1, h2, h3, h4, -, -⟩ := hh.blk r x hx
  rw [hl] at h1; cases h1
  have hlen := h4.length
  refine ⟨(cs.drop o).take n, ?_, (h4.drop o).take n⟩
  unfold rdn; rw [h3]
  simp only [List.length_append]
  rw [if_pos (by omega), List.drop_append_of_le_length (by omega), List.take_append_of_le_length (by simp; omega)]

/-! ### Quiet operations -/
theorem VR.cells {l : Nm} {v v' : Value} (h : VR l v v') : VRs l v.cells.toList v'.cells.toList := by
  cases h <;> first | exact .cons (by constructor <;> assumption) .nil | assumption
def partsX (T : List Value) : List (Nat × Nat × Operand) → Option (List (Nat × Nat × Value))
  | [] => some []
  | (o, n, x) :: ps => match evx T x, partsX T ps with
    | some v, some l => some ((o, n, v) :: l)
    | _, _ => none
theorem fill_vr {l : Nm} {T T' : List Value} (hT : VRs l T T') : ∀ {ps : List (Nat × Nat × Operand)} {qs : List (Nat × Nat × Value)} {z z' cs : List Value}, partsX T ps = some qs → VRs l z z' → fillL z qs = some cs →
    ∃ cs', fillL z' (partsV T' ps) = some cs' ∧ VRs l cs cs'
  | [], qs, z, z', cs, hp, hz, hf => by
    simp [partsX] at hp; subst hp
    simp [fillL] at hf; subst hf
    exact ⟨z', rfl, hz⟩
  | (o, n, x) :: ps, qs, z, z', cs, hp, hz, hf => by
    unfold partsX at hp
    split at hp <;> cases hp
    rename_i v l' hv hl'
    have hvr := evx_vr hT hv
    unfold fillL at hf
    split at hf <;> (try (cases hf; done))
    rename_i hc
    have hcl := hvr.cells.length
    have hzl := hz.length
    obtain ⟨cs', h1, h2⟩ := fill_vr hT hl' (hz.putAt o hvr.cells) hf
    refine ⟨cs', ?_, h2⟩
    show fillL z' ((o, n, ev T' x) :: partsV T' ps) = some cs'
    unfold fillL
    rw [if_pos ⟨by simp at hcl; omega, by omega⟩]
    exact h1
theorem ceq_vr {l : Nm} : ∀ {xs ys xs' ys' : List Value} {r : Bool}, VRs l xs xs' → VRs l ys ys' → ceq xs ys = some r → ceq xs' ys' = some r
  | _, _, _, _, r, .nil, .nil, h => h
  | _, _, _, _, r, .nil, .cons _ _, h => by simp [ceq] at h
  | _, _, _, _, r, .cons _ _, .nil, h => by simp [ceq] at h
  | _, _, _, _, r, .cons a t, .cons b t', h => by
    cases a <;> cases b <;> simp only [ceq] at h <;> (try (cases h; done))
    split at h <;> (try (cases h; done))
    rename_i hk
    simp only [Option.map_eq_some_iff] at h
    obtain ⟨r', h1, h2⟩ := h
    simp only [ceq]
    rw [if_pos hk, ceq_vr t t' h1]
    simp [h2]

def binX (op : BinOp) (x y : Value) : Option Value :=
  match x, y with
  | .int k a, .int k' b => match op with
    | .shl => if 0 ≤ b then some (.int k (k.wrap (a * 2 ^ (min b.toNat k.bits)))) else none
    | .shr => if 0 ≤ b then some (.int k (a.fdiv (2 ^ (min b.toNat k.bits)))) else none
    | .add => if k = k' then some (.int k (k.wrap (a + b))) else none
    | .sub => if k = k' then some (.int k (k.wrap (a - b))) else none
    | .mul => if k = k' then some (.int k (k.wrap (a * b))) else none
    | .quo => if k = k' ∧ b ≠ 0 then some (.int k (k.wrap (a.tdiv b))) else none
    | .rem => if k = k' ∧ b ≠ 0 then some (.int k (a.tmod b)) else none
    | .and => if k = k' then some (.int k (bitsI .and k a b)) else none
    | .or => if k = k' then some (.int k (bitsI .or k a b)) else none
    | .xor => if k = k' then some (.int k (bitsI .xor k a b)) else none
    | .andNot => if k = k' then some (.int k (bitsI .andNot k a b)) else none
    | .eql => if k = k' then some (.bool (a == b)) else none
    | .neq => if k = k' then some (.bool (a != b)) else none
    | .lss => if k = k' then some (.bool (decide (a < b))) else none
    | .leq => if k = k' then some (.bool (decide (a ≤ b))) else none
    | .gtr => if k = k' then some (.bool (decide (a > b))) else none
    | .geq => if k = k' then some (.bool (decide (a ≥ b))) else none
  | _, _ => none
theorem binX_sound {l : Nm} {op : BinOp} {x y x' y' v : Value} (h : binX op x y = some v) (hx : VR l x x') (hy : VR l y y') : VR l v v ∧ ∀ φ, φ v → binQ op x' y' φ := by
  unfold binX at h
  split at h <;> (try (cases h; done))
  cases hx
  cases hy
  cases op <;> simp only at h <;> split at h <;> cases h <;> rename_i hc <;> first
    | exact ⟨.int _ _, fun φ hφ => ⟨hc, hφ⟩⟩
    | exact ⟨.bool _, fun φ hφ => ⟨hc, hφ⟩⟩
    | exact ⟨.int _ _, fun φ hφ => ⟨hc.1, hc.2, hφ⟩⟩
def eqpX (g : Bool) : Value → Value → Option Value
  | .pointer none, .pointer b => some (.bool (if g then !b.isNone else b.isNone))
  | .pointer (some _), .pointer none => some (.bool (if g then !false else false))
  | _, _ => none
def eqsX (g : Bool) : Value → Value → Option Value
  | .slice none _ _, .slice b _ _ => some (.bool (if g then !b.isNone else b.isNone))
  | .slice (some _) _ _, .slice none _ _ => some (.bool (if g then !false else false))
  | _, _ => none
def unX (op : UnOp) (x : Value) : Option Value := match op, x with
  | .neg, .int k n => some (.int k (k.wrap (0 - n)))
  | .not, .bool b => some (.bool !b)
  | .xor, .int k n => some (.int k (bitsI .xor k (if k.signed then -1 else k.max) n))
  | _, _ => none
def slcX (size : Nat) (x : Value) (lo hi : Option Value) : Option Value := match x, lo, hi with
  | .slice (some ⟨b, o, none⟩) len cap, none, none => some (.slice (some ⟨b, o, none⟩) len cap)
  | .slice (some ⟨b, o, none⟩) _ cap, none, some (.int _ h) => if 0 ≤ h ∧ h ≤ cap then some (.slice (some ⟨b, o, none⟩) h.toNat cap) else none
  | .slice (some ⟨b, o, none⟩) len cap, some (.int _ l), none => if (0 ≤ l ∧ l ≤ len) ∧ (l < cap ∧ 0 < size) then some (.slice (some ⟨b, o + l.toNat * size, none⟩) (len - l.toNat) (cap - l.toNat)) else none
  | .slice (some ⟨b, o, none⟩) _ cap, some (.int _ l), some (.int _ h) => if (0 ≤ l ∧ l ≤ h ∧ h ≤ cap) ∧ (l < cap ∧ 0 < size) then some (.slice (some ⟨b, o + l.toNat * size, none⟩) (h.toNat - l.toNat) (cap - l.toNat)) else none
  | .slice none len cap, none, none => some (.slice none len cap)
  | .slice none _ cap, none, some (.int _ h) => if 0 ≤ h ∧ h ≤ cap then some (.slice none h.toNat cap) else none
  | .slice none len cap, some (.int _ l), none => if 0 ≤ l ∧ l ≤ len then some (.slice none (len - l.toNat) (cap - l.toNat)) else none
  | .slice none _ cap, some (.int _ l), some (.int _ h) => if 0 ≤ l ∧ l ≤ h ∧ h ≤ cap then some (.slice none (h.toNat - l.toNat) (cap - l.toNat)) else none
  | _, _, _ => none
def slaX (n size : Nat) (x : Value) (lo hi : Option Value) : Option Value := match x, lo, hi with
  | .pointer (some ⟨b, o, none⟩), none, none => some (.slice (some ⟨b, o, none⟩) n n)
  | .pointer (some ⟨b, o, none⟩), none, some (.int _ h) => if 0 ≤ h ∧ h ≤ n then some (.slice (some ⟨b, o, none⟩) h.toNat n) else none
  | .pointer (some ⟨b, o, none⟩), some (.int _ l), none => if 0 ≤ l ∧ l ≤ n then some (.slice (some ⟨b, if n = l.toNat then o else o + l.toNat * size, none⟩) (n - l.toNat) (n - l.toNat)) else none
  | .pointer (some ⟨b, o, none⟩), some (.int _ l), some (.int _ h) => if 0 ≤ l ∧ l ≤ h ∧ h ≤ n then some (.slice (some ⟨b, if n = l.toNat then o else o + l.toNat * size, none⟩) (h.toNat - l.toNat) (n - l.toNat)) else none
  | _, _, _ => none
def evo (T : List Value) : Option Operand → Option (Option Value)
  | none => some none
  | some x => match evx T x with | some v => some (some v) | none => none

def plainP (h : RH) : Value → Bool
  | .pointer (some ⟨r, _, _⟩) => match getB h r with | some x => x.grown.isNone | none => false
  | _ => false
/-- A quiet operation, reckoned. -/
def qx (mo : MO) (T : List Value) (h : RH) : Option Value :=
  match mo with
  | .mv x => evx T x
  | .pick c a b => match evx T c with | some (.bool true) => evx T a | some (.bool false) => evx T b | _ => none
  | .build z ps => match z.all simp0, partsX T ps with | true, some qs => (match fillL z qs with | some cs => some (.agg ⟨cs⟩) | none => none) | _, _ => none
  | .ld1 a => match evx T a with | some (.pointer (some ⟨r, o, none⟩)) => rd1x h r o | _ => none
  | .ldn n a => match evx T a with | some (.pointer (some ⟨r, o, none⟩)) => (match rdnx h r o n with | some cs => some (.agg ⟨cs⟩) | none => none) | _ => none
  | .nilc x => match evx T x with | some (.pointer (some a)) => some (.pointer (some a)) | some (.func (.func f) fs cs) => some (.func (.func f) fs cs) | _ => none
  | .bin op x y => match evx T x, evx T y with | some a, some b => binX op a b | _, _ => none
  | .eqb g x y => match evx T x, evx T y with | some (.bool a), some (.bool b) => some (.bool (if g then !(a == b) else a == b)) | _, _ => none
  | .eqp g x y => match evx T x, evx T y with | some a, some b => eqpX g a b | _, _ => none
  | .eqs g x y => match evx T x, evx T y with | some a, some b => eqsX g a b | _, _ => none
  | .eqa g n x y => match evx T x, evx T y with
    | some (.agg xs), some (.agg ys) => if xs.size = n ∧ ys.size = n then (match ceq xs.toList ys.toList with | some r => some (.bool (if g then !r else r)) | none => none) else none
    | _, _ => none
  | .un op x => match evx T x with | some a => unX op a | none => none
  | .conv k x => match evx T x with | some (.int _ n) => some (.int k (k.wrap n)) | _ => none
  | .fn f cs => match evxs T cs with | some vs => some (.func (.func f) ⟨[]⟩ ⟨vs⟩) | none => none
  | .fa off x => match evx T x with | some (.pointer (some ⟨b, o, none⟩)) => some (.pointer (some ⟨b, o + off, none⟩)) | _ => none
  | .f1 off x => match evx T x with | some (.agg cs) => cs.toList[off]? | _ => none
  | .fm off n x => match evx T x with | some (.agg cs) => some (.agg ⟨(cs.toList.drop off).take n⟩) | _ => none
  | .ia n s x i => match evx T x, evx T i with | some (.pointer (some ⟨b, o, none⟩)), some (.int _ i) => if 0 ≤ i ∧ i < n then some (.pointer (some ⟨b, o + i.toNat * s, none⟩)) else none | _, _ => none
  | .is s x i => match evx T x, evx T i with | some (.slice (some ⟨b, o, none⟩) len _), some (.int _ i) => if 0 ≤ i ∧ i < len then some (.pointer (some ⟨b, o + i.toNat * s, none⟩)) else none | _, _ => none
  | .ix n x i => match evx T x, evx T i with | some (.agg cs), some (.int _ i) => if 0 ≤ i ∧ i < n then cs.toList[i.toNat]? else none | _, _ => none
  | .ixm n s x i => match evx T x, evx T i with | some (.agg cs), some (.int _ i) => if 0 ≤ i ∧ i < n then some (.agg ⟨(cs.toList.drop (i.toNat * s)).take s⟩) else none | _, _ => none
  | .slc s x lo hi => match evx T x, evo T lo, evo T hi with | some v, some a, some b => slcX s v a b | _, _, _ => none
  | .sla n s x lo hi => match evx T x, evo T lo, evo T hi with | some v, some a, some b => if plainP h v then slaX n s v a b else none | _, _, _ => none
  | .ext i x => match evx T x with | some (.tuple vs) => vs.toList[i]? | _ => none
  | .len x => match evx T x with | some (.slice _ n _) => some (.int .i64 n) | _ => none
  | .lenc n => some (.int .i64 n)
  | .mn x y => match evx T x, evx T y with | some (.int k a), some (.int _ b) => some (.int k (if b < a then b else a)) | _, _ => none
  | .mx x y => match evx T x, evx T y with | some (.int k a), some (.int _ b) => some (.int k (if b > a then b else a)) | _, _ => none
  | .ixs x i => match evx T x, evx T i with | some (.string s), some (.int _ i) => if 0 ≤ i then (match s.data.toList[i.toNat]? with | some b => some (.int .u8 b.toNat) | none => none) else none | _, _ => none
  | .lens x => match evx T x with | some (.string s) => some (.int .i64 s.size) | _ => none
  | .add64 x y c => match evx T x, evx T y, evx T c with
    | some (.int _ x), some (.int _ y), some (.int _ c) => if 0 ≤ x ∧ 0 ≤ y ∧ 0 ≤ c ∧ c ≤ 1 then some (.tuple ⟨[.int .u64 ((x + y + c) % 18446744073709551616), .int .u64 ((x + y + c) / 18446744073709551616)]⟩) else none
    | _, _, _ => none
  | _ => none

section
variable {l : Nm} {T T' : List Value} {x : Operand}
theorem inv_int (hT : VRs l T T') {k : IntKind} {n : Int} (h : evx T x = some (.int k n)) : ev T' x = .int k n := by
  have := evx_vr hT h; cases hv : ev T' x <;> rw [hv] at this <;> cases this; rfl
theorem inv_bool (hT : VRs l T T') {b : Bool} (h : evx T x = some (.bool b)) : ev T' x = .bool b := by
  have := evx_vr hT h; cases hv : ev T' x <;> rw [hv] at this <;> cases this; rfl
theorem inv_str (hT : VRs l T T') {b : ByteArray} (h : evx T x = some (.string b)) : ev T' x = .string b := by
  have := evx_vr hT h; cases hv : ev T' x <;> rw [hv] at this <;> cases this; rfl
theorem inv_ptr (hT : VRs l T T') {r o : Nat} (h : evx T x = some (.pointer (some ⟨r, o, none⟩))) : ∃ b g, l[r]? = some (b, g) ∧ ev T' x = .pointer (some ⟨b, o, none⟩) := by
  have := evx_vr hT h; cases hv : ev T' x <;> rw [hv] at this <;> cases this; exact ⟨_, _, by assumption, rfl⟩
theorem inv_slc (hT : VRs l T T') {r o n c : Nat} (h : evx T x = some (.slice (some ⟨r, o, none⟩) n c)) : ∃ b g c', l[r]? = some (b, g) ∧ ev T' x = .slice (some ⟨b, o, none⟩) n c' ∧ c ≤ c' ∧ (g = none → c' = c) ∧ (∀ C, g = some C → o = 0 → c' = C) := by
  have := evx_vr hT h; cases hv : ev T' x <;> rw [hv] at this <;> cases this; exact ⟨_, _, _, by assumption, rfl, by assumption, by assumption, by assumption⟩
theorem inv_agg (hT : VRs l T T') {cs : Array Value} (h : evx T x = some (.agg cs)) : ∃ ds, ev T' x = .agg ⟨ds⟩ ∧ VRs l cs.toList ds := by
  have := evx_vr hT h; cases hv : ev T' x <;> rw [hv] at this <;> cases this; exact ⟨_, rfl, by assumption⟩
theorem inv_tup (hT : VRs l T T') {cs : Array Value} (h : evx T x = some (.tuple cs)) : ∃ ds, ev T' x = .tuple ⟨ds⟩ ∧ VRs l cs.toList ds := by
  have := evx_vr hT h; cases hv : ev T' x <;> rw [hv] at this <;> cases this; exact ⟨_, rfl, by assumption⟩
theorem inv_fn (hT : VRs l T T') {f : FuncId} {xs us : Array Value} (h : evx T x = some (.func (.func f) xs us)) : ∃ ys vs, ev T' x = .func (.func f) ⟨ys⟩ ⟨vs⟩ ∧ VRs l xs.toList ys ∧ VRs l us.toList vs := by
  have := evx_vr hT h; cases hv : ev T' x <;> rw [hv] at this <;> cases this; exact ⟨_, _, rfl, by assumption, by assumption⟩
theorem evo_some {lo : Option Operand} {a : Option Value} (hT : VRs l T T') (h : evo T lo = some a) : (a = none ∧ lo.map (ev T') = none) ∨ ∃ v v', a = some v ∧ lo.map (ev T') = some v' ∧ VR l v v' := by
  cases lo with
  | none => simp [evo] at h; subst h; exact .inl ⟨rfl, rfl⟩
  | some x =>
    unfold evo at h
    simp only at h
    split at h <;> cases h
    rename_i v hv
    exact .inr ⟨v, _, rfl, rfl, evx_vr hT hv⟩
end
theorem slcX_sound {l : Nm} {s : Nat} {x x' v : Value} {a b a' b' : Option Value} (e : slcX s x a b = some v) (hx : VR l x x') (ha : (a = none ∧ a' = none) ∨ ∃ u u', a = some u ∧ a' = some u' ∧ VR l u u') (hb : (b = none ∧ b' = none) ∨ ∃ u u', b = some u ∧ b' = some u' ∧ VR l u u') :
    ∃ v', VR l v v' ∧ ∀ φ, φ v' → slcQ φ s x' a' b' := by
  unfold slcX at e
  split at e <;> (try (cases e; done)) <;> (first | (split at e <;> cases e) | cases e)
  all_goals (cases hx)
  all_goals (rcases ha with ⟨h1, rfl⟩ | ⟨u, u', h1, rfl, hu⟩ <;> cases h1)
  all_goals (rcases hb with ⟨h2, rfl⟩ | ⟨w, w', h2, rfl, hw⟩ <;> cases h2)
  all_goals (try (cases hu))
  all_goals (try (cases hw))
  · rename_i c' h h1 hc h0
    exact ⟨_, .slc _ _ _ _ h hc h0 h1, fun φ hφ => hφ⟩
  · rename_i hcond _ _ c' h h1 hc h0
    exact ⟨_, .slc _ _ _ _ h hc h0 h1, fun φ hφ => ⟨hcond.1, by omega, hφ⟩⟩
  · rename_i L hcond _ _ c' h h1 hc h0
    refine ⟨_, .slc _ _ _ _ h (Nat.sub_le_sub_right hc _) (fun g => by rw [h0 g]) (fun C g e => ?_), fun φ hφ => ⟨hcond.1.1, hcond.1.2, by rw [if_neg (by omega)]; exact hφ⟩⟩
    have hz : L.toNat = 0 := by
      rcases Nat.eq_zero_or_pos L.toNat with h' | h'
      · exact h'
      · have := Nat.mul_pos h' hcond.2.2; omega
    rw [h1 C g (by omega), hz, Nat.sub_zero]
  · rename_i L _ hh hcond _ _ c' h h1 hc h0
    refine ⟨_, .slc _ _ _ _ h (Nat.sub_le_sub_right hc _) (fun g => by rw [h0 g]) (fun C g e => ?_), fun φ hφ => ⟨hcond.1.1, hcond.1.2.1, by omega, by rw [if_neg (by omega)]; exact hφ⟩⟩
    have hz : L.toNat = 0 := by
      rcases Nat.eq_zero_or_pos L.toNat with h' | h'
      · exact h'
      · have := Nat.mul_pos h' hcond.2.2; omega
    rw [h1 C g (by omega), hz, Nat.sub_zero]
  · exact ⟨_, .snil _ _, fun φ hφ => hφ⟩
  · rename_i hcond
    exact ⟨_, .snil _ _, fun φ hφ => ⟨hcond.1, hcond.2, hφ⟩⟩
  · rename_i hcond
    exact ⟨_, .snil _ _, fun φ hφ => ⟨hcond.1, hcond.2, hφ⟩⟩
  · rename_i hcond
    exact ⟨_, .snil _ _, fun φ hφ => ⟨hcond.1, hcond.2.1, hcond.2.2, hφ⟩⟩
theorem slaX_sound {l : Nm} {n s : Nat} {x x' v : Value} {a b a' b' : Option Value} (e : slaX n s x a b = some v) (hx : VR l x x') (ha : (a = none ∧ a' = none) ∨ ∃ u u', a = some u ∧ a' = some u' ∧ VR l u u') (hb : (b = none ∧ b' = none) ∨ ∃ u u', b = some u ∧ b' = some u' ∧ VR l u u')
    (plain : ∀ (r : Nat) b g, l[r]? = some (b, g) → (∃ o, x = .pointer (some ⟨r, o, none⟩)) → g = none) : ∃ v', VR l v v' ∧ ∀ φ, φ v' → slaQ φ n s x' a' b' := by
  unfold slaX at e
  split at e <;> (try (cases e; done)) <;> (first | (split at e <;> cases e) | cases e)
  all_goals (cases hx)
  all_goals (rcases ha with ⟨h1, rfl⟩ | ⟨u, u', h1, rfl, hu⟩ <;> cases h1)
  all_goals (rcases hb with ⟨h2, rfl⟩ | ⟨w, w', h2, rfl, hw⟩ <;> cases h2)
  all_goals (try (cases hu))
  all_goals (try (cases hw))
  · rename_i h
    have hg := plain _ _ _ h ⟨_, rfl⟩
    exact ⟨_, .slc _ _ _ _ h (Nat.le_refl _) (fun _ => rfl) (fun C e => by rw [hg] at e; cases e), fun φ hφ => hφ⟩
  · rename_i hcond _ _ h
    have hg := plain _ _ _ h ⟨_, rfl⟩
    exact ⟨_, .slc _ _ _ _ h (Nat.le_refl _) (fun _ => rfl) (fun C e => by rw [hg] at e; cases e), fun φ hφ => ⟨hcond.1, hcond.2, hφ⟩⟩
  · rename_i hcond _ _ h
    have hg := plain _ _ _ h ⟨_, rfl⟩
    refine ⟨_, .slc _ _ _ _ h (Nat.le_refl _) (fun _ => rfl) (fun C e => by rw [hg] at e; cases e), fun φ hφ => ⟨hcond.1, hcond.2, ?_⟩⟩
    split <;> simp_all
  · rename_i hcond _ _ h
    have hg := plain _ _ _ h ⟨_, rfl⟩
    refine ⟨_, .slc _ _ _ _ h (Nat.le_refl _) (fun _ => rfl) (fun C e => by rw [hg] at e; cases e), fun φ hφ => ⟨hcond.1, hcond.2.1, hcond.2.2, ?_⟩⟩
    split <;> simp_all

theorem qx_sound {P : Program} {w0 : World} {l : Nm} {h : RH} {H : Heap} {T T' : List Value} (hT : VRs l T T') (hh : HB w0 l h H) {mo : MO} {v : Value} (e : qx mo T h = some v) : ∃ v', VR l v v' ∧ ∀ φ, φ v' → qv P w0 mo T' H φ := by
  cases mo <;> simp only [qx] at e <;> (try (cases e; done))
  case mv x => exact ⟨_, evx_vr hT e, fun φ hφ => hφ⟩
  case pick c a b =>
    split at e <;> (try (cases e; done))
    · rename_i hc
      have := evx_vr hT hc
      cases hv : ev T' c <;> rw [hv] at this <;> cases this
      exact ⟨_, evx_vr hT e, fun φ hφ => by simp only [qv, hv, PickQ]; exact ⟨fun _ => hφ, fun h => (by cases h)⟩⟩
    · rename_i hc
      have := evx_vr hT hc
      cases hv : ev T' c <;> rw [hv] at this <;> cases this
      exact ⟨_, evx_vr hT e, fun φ hφ => by simp only [qv, hv, PickQ]; exact ⟨fun h => (by cases h), fun _ => hφ⟩⟩
  case build z ps =>
    split at e <;> (try (cases e; done))
    rename_i qs hz hq
    split at e <;> cases e
    rename_i cs hf
    obtain ⟨cs', h1, h2⟩ := fill_vr hT hq (simps_vr hz) hf
    exact ⟨_, .agg h2, fun φ hφ => by simp only [qv, h1, optQ]; exact hφ⟩
  case ld1 a =>
    split at e <;> (try (cases e; done))
    rename_i ha
    obtain ⟨b, g, hl, hv⟩ := inv_ptr hT ha
    obtain ⟨v', h1, h2⟩ := rd1x_sound hh e hl
    exact ⟨_, h2, fun φ hφ => by simp only [qv, hv, ld1Q, h1, optQ]; exact hφ⟩
  case ldn n a =>
    split at e <;> (try (cases e; done))
    rename_i ha
    split at e <;> cases e
    rename_i cs hcs
    obtain ⟨b, g, hl, hv⟩ := inv_ptr hT ha
    obtain ⟨cs', h1, h2⟩ := rdnx_sound hh hcs hl
    exact ⟨_, .agg h2, fun φ hφ => by simp only [qv, hv, ldnQ, h1, optQ]; exact hφ⟩
  case nilc x =>
    split at e <;> (try (cases e; done)) <;> cases e
    · rename_i a ha
      have := evx_vr hT ha
      cases hv : ev T' x <;> rw [hv] at this <;> cases this
      exact ⟨_, .ptr _ (by assumption), fun φ hφ => by simp only [qv, hv, nilQ]; exact hφ⟩
    · rename_i f fs cs ha
      obtain ⟨ys, vs, hv, h1, h2⟩ := inv_fn hT ha
      obtain ⟨fs⟩ := fs
      obtain ⟨cs⟩ := cs
      exact ⟨_, .fn f h1 h2, fun φ hφ => by simp only [qv, hv, nilQ]; exact hφ⟩
  case bin op x y =>
    split at e <;> (try (cases e; done))
    rename_i a b ha hb
    obtain ⟨h1, h2⟩ := binX_sound e (evx_vr hT ha) (evx_vr hT hb)
    exact ⟨v, h1, fun φ hφ => h2 φ hφ⟩
  case eqb g x y =>
    split at e <;> cases e
    rename_i a b ha hb
    exact ⟨_, .bool _, fun φ hφ => by simp only [qv, inv_bool hT ha, inv_bool hT hb, eqbQ]; exact hφ⟩
  case eqp g x y =>
    split at e <;> (try (cases e; done))
    rename_i a b ha hb
    have va := evx_vr hT ha
    have vb := evx_vr hT hb
    unfold eqpX at e
    split at e <;> cases e
    · rename_i bb
      cases hx : ev T' x <;> rw [hx] at va <;> cases va
      cases hy : ev T' y <;> rw [hy] at vb <;> cases vb <;> exact ⟨_, .bool _, fun φ hφ => by simp only [qv, hx, hy, eqpQ]; exact hφ⟩
    · cases hx : ev T' x <;> rw [hx] at va <;> cases va
      cases hy : ev T' y <;> rw [hy] at vb <;> cases vb
      exact ⟨_, .bool _, fun φ hφ => by simp only [qv, hx, hy, eqpQ]; exact hφ⟩
  case eqs g x y =>
    split at e <;> (try (cases e; done))
    rename_i a b ha hb
    have va := evx_vr hT ha
    have vb := evx_vr hT hb
    unfold eqsX at e
    split at e <;> cases e
    · rename_i bb
      cases hx : ev T' x <;> rw [hx] at va <;> cases va
      cases hy : ev T' y <;> rw [hy] at vb <;> cases vb <;> exact ⟨_, .bool _, fun φ hφ => by simp only [qv, hx, hy, eqsQ]; exact hφ⟩
    · cases hx : ev T' x <;> rw [hx] at va <;> cases va
      cases hy : ev T' y <;> rw [hy] at vb <;> cases vb
      exact ⟨_, .bool _, fun φ hφ => by simp only [qv, hx, hy, eqsQ]; exact hφ⟩
  case eqa g n x y =>
    split at e <;> (try (cases e; done))
    rename_i xs ys ha hb
    split at e <;> (try (cases e; done))
    rename_i hn
    split at e <;> cases e
    rename_i r hr
    obtain ⟨ds, h1, h2⟩ := inv_agg hT ha
    obtain ⟨es, h3, h4⟩ := inv_agg hT hb
    have l1 := h2.length
    have l2 := h4.length
    refine ⟨_, .bool _, fun φ hφ => ?_⟩
    simp only [qv, h1, h3, eqaQ]
    refine ⟨by simp at l1 ⊢; omega, by simp at l2 ⊢; omega, ?_⟩
    rw [ceq_vr h2 h4 hr]
    exact hφ
  case un op x =>
    split at e <;> (try (cases e; done))
    rename_i a ha
    unfold unX at e
    split at e <;> cases e
    · exact ⟨_, .int _ _, fun φ hφ => by simp only [qv, inv_int hT ha, unQ]; exact hφ⟩
    · exact ⟨_, .bool _, fun φ hφ => by simp only [qv, inv_bool hT ha, unQ]; exact hφ⟩
    · exact ⟨_, .int _ _, fun φ hφ => by simp only [qv, inv_int hT ha, unQ]; exact hφ⟩
  case conv k x =>
    split at e <;> cases e
    rename_i ha
    exact ⟨_, .int _ _, fun φ hφ => by simp only [qv, inv_int hT ha, convQ]; exact hφ⟩
  case fn f cs =>
    split at e <;> cases e
    rename_i vs hvs
    exact ⟨_, .fn f .nil (evxs_vr hT hvs), fun φ hφ => hφ⟩
  case fa off x =>
    split at e <;> cases e
    rename_i ha
    obtain ⟨b, g, hl, hv⟩ := inv_ptr hT ha
    exact ⟨_, .ptr _ hl, fun φ hφ => by simp only [qv, hv, faQ]; exact hφ⟩
  case f1 off x =>
    split at e <;> (try (cases e; done))
    rename_i cs ha
    obtain ⟨ds, h1, h2⟩ := inv_agg hT ha
    obtain ⟨v', h3, h4⟩ := h2.get e
    exact ⟨_, h4, fun φ hφ => by simp only [qv, h1, f1Q, h3, optQ]; exact hφ⟩
  case fm off n x =>
    split at e <;> cases e
    rename_i cs ha
    obtain ⟨ds, h1, h2⟩ := inv_agg hT ha
    exact ⟨_, .agg ((h2.drop off).take n), fun φ hφ => by simp only [qv, h1, fmQ]; exact hφ⟩
  case ia n s x i =>
    split at e <;> (try (cases e; done))
    rename_i ha hb
    split at e <;> cases e
    rename_i hc
    obtain ⟨b, g, hl, hv⟩ := inv_ptr hT ha
    exact ⟨_, .ptr _ hl, fun φ hφ => by simp only [qv, hv, inv_int hT hb, iaQ]; exact ⟨hc.1, hc.2, hφ⟩⟩
  case «is» s x i =>
    split at e <;> (try (cases e; done))
    rename_i ha hb
    split at e <;> cases e
    rename_i hc
    obtain ⟨b, g, c', hl, hv, -⟩ := inv_slc hT ha
    exact ⟨_, .ptr _ hl, fun φ hφ => by simp only [qv, hv, inv_int hT hb, isQ]; exact ⟨hc.1, hc.2, hφ⟩⟩
  case ix n x i =>
    split at e <;> (try (cases e; done))
    rename_i cs _ j ha hb
    split at e <;> (try (cases e; done))
    rename_i hc
    obtain ⟨ds, h1, h2⟩ := inv_agg hT ha
    obtain ⟨v', h3, h4⟩ := h2.get e
    exact ⟨_, h4, fun φ hφ => by simp only [qv, h1, inv_int hT hb, ixQ, h3, optQ]; exact ⟨hc.1, hc.2, hφ⟩⟩
  case ixm n s x i =>
    split at e <;> (try (cases e; done))
    rename_i cs _ j ha hb
    split at e <;> cases e
    rename_i hc
    obtain ⟨ds, h1, h2⟩ := inv_agg hT ha
    exact ⟨_, .agg ((h2.drop _).take _), fun φ hφ => by simp only [qv, h1, inv_int hT hb, ixmQ]; exact ⟨hc.1, hc.2, hφ⟩⟩
  case slc s x lo hi =>
    split at e <;> (try (cases e; done))
    rename_i u a b hu ha hb
    obtain ⟨v', h1, h2⟩ := slcX_sound e (evx_vr hT hu) (evo_some hT ha) (evo_some hT hb)
    exact ⟨v', h1, fun φ hφ => h2 φ hφ⟩
  case sla n s x lo hi =>
    split at e <;> (try (cases e; done))
    rename_i u a b hu ha hb
    split at e <;> (try (cases e; done))
    rename_i hp
    obtain ⟨v', h1, h2⟩ := slaX_sound e (evx_vr hT hu) (evo_some hT ha) (evo_some hT hb) (fun r b g hl ⟨o, ho⟩ => by
      subst ho
      unfold plainP at hp
      simp only at hp
      split at hp <;> (try (cases hp; done))
      rename_i x hx
      obtain ⟨b', g', cs, ex, k1, -, -, -, k2, -⟩ := hh.blk r x hx
      rw [hl] at k1; cases k1
      exact (k2 (by simpa using hp)).1)
    exact ⟨v', h1, fun φ hφ => h2 φ hφ⟩
  case ext i x =>
    split at e <;> (try (cases e; done))
    rename_i vs ha
    obtain ⟨ds, h1, h2⟩ := inv_tup hT ha
    obtain ⟨v', h3, h4⟩ := h2.get e
    exact ⟨_, h4, fun φ hφ => by simp only [qv, h1, extQ, h3, optQ]; exact hφ⟩
  case len x =>
    split at e <;> cases e
    rename_i a n c ha
    have := evx_vr hT ha
    cases hv : ev T' x <;> rw [hv] at this <;> cases this <;> exact ⟨_, .int _ _, fun φ hφ => by simp only [qv, hv, lenQ]; exact hφ⟩
  case lenc n => cases e; exact ⟨_, .int _ _, fun φ hφ => hφ⟩
  case mn x y =>
    split at e <;> cases e
    rename_i ha hb
    exact ⟨_, .int _ _, fun φ hφ => by simp only [qv, inv_int hT ha, inv_int hT hb, mnQ]; exact hφ⟩
  case mx x y =>
    split at e <;> cases e
    rename_i ha hb
    exact ⟨_, .int _ _, fun φ hφ => by simp only [qv, inv_int hT ha, inv_int hT hb, mxQ]; exact hφ⟩
  case ixs x i =>
    split at e <;> (try (cases e; done))
    rename_i s _ j ha hb
    split at e <;> (try (cases e; done))
    rename_i hc
    split at e <;> cases e
    rename_i b hb'
    exact ⟨_, .int _ _, fun φ hφ => by simp only [qv, inv_str hT ha, inv_int hT hb, ixsQ, hb', optQ]; exact ⟨hc, hφ⟩⟩
  case lens x =>
    split at e <;> cases e
    rename_i ha
    exact ⟨_, .int _ _, fun φ hφ => by simp only [qv, inv_str hT ha, lensQ]; exact hφ⟩
  case add64 x y c =>
    split at e <;> (try (cases e; done))
    rename_i ha hb hd
    split at e <;> cases e
    rename_i hc
    exact ⟨_, .tup (.cons (.int _ _) (.cons (.int _ _) .nil)), fun φ hφ => by simp only [qv, inv_int hT ha, inv_int hT hb, inv_int hT hd, add64Q]; exact ⟨hc.1, hc.2.1, hc.2.2.1, hc.2.2.2, hφ⟩⟩
end Go.HL
