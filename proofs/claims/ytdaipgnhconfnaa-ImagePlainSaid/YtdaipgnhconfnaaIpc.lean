/- The next level, pixel by pixel (layer 8): what half and Generate come to. -/
import Derived.Test.YtdaipgnhconfnaaIpb
set_option linter.unusedSimpArgs false
set_option linter.unusedVariables false
set_option maxRecDepth 100000
namespace Go.Proofs.Ytdaipgnhconfnaa
open Go Go.HL Go.RowKit Pb
variable {w0 : World} {H G : Heap} {K : Value → Heap → Prop}

theorem loopq_name {rec : List It → List Value → Heap → Prop} {m0 : MC} {k0 : List It} {T0 : List Value} {G : Heap} (h : ∀ m k T, m = m0 → k = k0 → T = T0 → LoopQ rec m k T G) : LoopQ rec m0 k0 T0 G := h _ _ _ rfl rfl rfl
theorem loopq_nameb {rec : List It → List Value → Heap → Prop} {m0 : MC} {id : Nat} {k0 : List It} {T0 : List Value} {G : Heap} (h : ∀ m k T, m = m0 → k = k0 → T = T0 → LoopQ rec m (.blk id :: k) T G) : LoopQ rec m0 (.blk id :: k0) T0 G := h _ _ _ rfl rfl rfl
theorem loop_a {A : Type} {rec : List It → List Value → Heap → Prop} {m : MC} {k : List It} {T : List Value} {G : Heap} (p : Nat) (w : A → List (Nat × Value)) (ok : A → Heap → Prop) (μ : A → Nat) (a0 : A) (ok0 : ok a0 G) (h0 : T.take p = (sts T (w a0)).take p)
    (body : ∀ a G f, ok a G → rec (.code m :: .chk (Round T p (fun s : A × Heap => w s.1) (fun s => s.2) (fun s => ok s.1 s.2) (fun s => μ s.1) (μ a)) :: k) ((sts T (w a)).take p ++ mkT f (T.drop p).length 0) G) : LoopQ rec m k T G :=
  loop_g p (fun s : A × Heap => w s.1) (fun s => s.2) (fun s => ok s.1 s.2) (fun s => μ s.1) (a0, G) ok0 (Heap.Le.refl _) h0 (fun ⟨a, G⟩ f hok => body a G f hok)
theorem Round_p {A : Type} {T : List Value} {p : Nat} {w : A × Heap → List (Nat × Value)} {ok : A × Heap → Prop} {μ : A × Heap → Nat} {z : Nat} {T' : List Value} {H' : Heap} (a : A) (ok' : ok (a, H')) (lt : μ (a, H') < z)
    (e : T'.take p = (sts T (w (a, H'))).take p) (l : (T'.drop p).length = (T.drop p).length) : Round T p w (fun s => s.2) ok μ z T' H' := Round_mk (a, H') ok' lt (Heap.Le.refl _) e l
theorem Round_k {A : Type} {T : List Value} {p : Nat} {w : A × Heap → List (Nat × Value)} {ok : A × Heap → Prop} {μ : A × Heap → Nat} {z : Nat} {T' : List Value} {H' : Heap} (i n : Nat) (f : List Value → A) (ok' : ok (f ((T'.drop i).take n), H')) (lt : μ (f ((T'.drop i).take n), H') < z)
    (e : T'.take p = (sts T (w (f ((T'.drop i).take n), H'))).take p) (l : (T'.drop p).length = (T.drop p).length) : Round T p w (fun s => s.2) ok μ z T' H' := Round_p _ ok' lt e l
theorem Meet_p {A : Type} {T : List Value} {p : Nat} {w : A × Heap → List (Nat × Value)} {ok : A × Heap → Prop} {T' : List Value} {H' : Heap} (a : A) (ok' : ok (a, H'))
    (e : T'.take p = (sts T (w (a, H'))).take p) (l : (T'.drop p).length = (T.drop p).length) : Meet T p w (fun s => s.2) ok T' H' := ⟨(a, H'), e, l, rfl, ok'⟩
/-- The number of a pixel of a level. -/
def pxN (l : List Int) (S k : Nat) : Int := num ((l.drop (k * S)).take S)
/-- The numbers of the pixels of which one is made. -/
def quad (l : List Int) (S W cw x y n : Nat) : List Int := (List.range n).map fun t => pxN l S ((2 * y + t / cw) * W + (2 * x + t % cw))
/-- The bytes of the first n pixels. -/
def outB (l : List Int) (f : Int) (S W cw q wd : Nat) (n : Nat) : List Int := ((List.range n).map fun i => meanB f (quad l S W cw (i % wd) (i / wd) q)).flatten
theorem quad_succ (l : List Int) (S W cw x y n : Nat) : quad l S W cw x y (n + 1) = quad l S W cw x y n ++ [pxN l S ((2 * y + n / cw) * W + (2 * x + n % cw))] := by
  unfold quad; rw [List.range_succ, List.map_append]; rfl
theorem quad_len (l : List Int) (S W cw x y n : Nat) : (quad l S W cw x y n).length = n := by unfold quad; simp
theorem outB_succ (l : List Int) (f : Int) (S W cw q wd n : Nat) : outB l f S W cw q wd (n + 1) = outB l f S W cw q wd n ++ meanB f (quad l S W cw (n % wd) (n / wd) q) := by
  unfold outB; rw [List.range_succ, List.map_append, List.flatten_append]; simp
theorem meanB_len (f : Int) (ns : List Int) : (meanB f ns).length = (sizeI f).toNat := digs_len _ _
theorem outB_len (l : List Int) (f : Int) (S W cw q wd : Nat) (hS : sizeI f = (S : Int)) : ∀ n, (outB l f S W cw q wd n).length = n * S
  | 0 => by simp [outB]
  | n + 1 => by rw [outB_succ, List.length_append, outB_len l f S W cw q wd hS n, meanB_len, hS, Nat.succ_mul]; rfl
theorem outB_b (l : List Int) (f : Int) (S W cw q wd n : Nat) : ∀ b ∈ outB l f S W cw q wd n, 0 ≤ b ∧ b ≤ 255 := fun b hb => by
  unfold outB at hb
  obtain ⟨r, hr, hb⟩ := List.mem_flatten.1 hb
  obtain ⟨i, -, rfl⟩ := List.mem_map.1 hr
  exact digs_b _ _ b hb
theorem pxN_b {l : List Int} (h : ∀ b ∈ l, 0 ≤ b ∧ b ≤ 255) {S : Nat} (hS : S ≤ 4) (k : Nat) : 0 ≤ pxN l S k ∧ pxN l S k < 4294967296 := by
  have hb := num_b ((l.drop (k * S)).take S) fun x hx => h x (List.mem_of_mem_drop (List.mem_of_mem_take hx))
  have hl : ((l.drop (k * S)).take S).length ≤ 4 := by rw [List.length_take]; omega
  have h2 : (256 : Int) ^ ((l.drop (k * S)).take S).length ≤ 256 ^ 4 := by
    clear hb
    generalize ((l.drop (k * S)).take S).length = n at hl
    rcases (show n = 0 ∨ n = 1 ∨ n = 2 ∨ n = 3 ∨ n = 4 by omega) with e | e | e | e | e <;> rw [e] <;> decide
  exact ⟨hb.1, Int.lt_of_lt_of_le hb.2 h2⟩
theorem quad_b {l : List Int} (h : ∀ b ∈ l, 0 ≤ b ∧ b ≤ 255) {S : Nat} (hS : S ≤ 4) (W cw x y n : Nat) : ∀ v ∈ quad l S W cw x y n, 0 ≤ v ∧ v < 4294967296 := fun v hv => by
  unfold quad at hv
  obtain ⟨t, -, rfl⟩ := List.mem_map.1 hv
  exact pxN_b h hS _
theorem p2_le {n : Nat} (h : n ≤ 32) : (2 : Int) ^ n ≤ 4294967296 := by
  have h1 := Nat.pow_le_pow_right (n := 2) (by decide) h
  have e : (2 : Int) ^ n = ((2 ^ n : Nat) : Int) := by simp
  rw [e]
  omega
/-- A sum that begins with s. -/
def sG (a k : Nat) (ns : List Int) (s : Int) : Nat → Int
  | 0 => s
  | i + 1 => sG a k ns s i + fld a k (ns.getD i 0)
theorem sG_eq (a k : Nat) (ns : List Int) (s : Int) : ∀ i, i ≤ ns.length → sG a k ns s i = s + sumF a k (ns.take i)
  | 0, _ => by simp [sG, sumF]
  | i + 1, h => by
    rw [sG, sG_eq a k ns s i (by omega), ← List.take_append_getElem (by omega : i < ns.length), sumF_snoc, Int.add_assoc]
    simp [List.getD, (by omega : i < ns.length)]
theorem sG_b (a k : Nat) (ns : List Int) (hk : k ≤ 8) (hn : ns.length ≤ 4) {s : Int} (hs : 0 ≤ s ∧ s ≤ 4) {i : Nat} (h : i ≤ ns.length) : 0 ≤ sG a k ns s i ∧ sG a k ns s i ≤ 2000 := by
  have h1 := sumF_b a k (ns.take i)
  have h2 : (2 : Int) ^ k ≤ 256 := by
    rcases (show k = 0 ∨ k = 1 ∨ k = 2 ∨ k = 3 ∨ k = 4 ∨ k = 5 ∨ k = 6 ∨ k = 7 ∨ k = 8 by omega) with rfl | rfl | rfl | rfl | rfl | rfl | rfl | rfl | rfl <;> decide
  have h3 : (((ns.take i).length : Nat) : Int) * (2 ^ k - 1) ≤ 4 * 255 := Int.mul_le_mul (by rw [List.length_take]; omega) (by omega) (by have := p2 k; omega) (by omega)
  rw [sG_eq a k ns s i h]
  omega
theorem sG_all (a k : Nat) (ns : List Int) : sG a k ns ((ns.length / 2 : Nat) : Int) ns.length / (ns.length : Int) = chM ns a k := by
  rw [sG_eq _ _ _ _ _ (Nat.le_refl _), List.take_length, chM, Int.add_comm]
  rfl
/-- The sides of a level and of the next. -/
structure Geo (z : LvR) (f : Int) (S W V cw rh wd ht : Nat) : Prop where
  w : z.w = (W : Int)
  h : z.h = (V : Int)
  s : sizeI f = (S : Int)
  s1 : 1 ≤ S ∧ S ≤ 4
  len : z.l.length = W * V * S
  wb : 1 ≤ W ∧ W ≤ 64
  vb : 1 ≤ V ∧ V ≤ 64
  c : (cw = 1 ∧ wd = 1 ∧ W = 1) ∨ (cw = 2 ∧ 1 ≤ wd ∧ W = 2 * wd)
  r : (rh = 1 ∧ ht = 1 ∧ V = 1) ∨ (rh = 2 ∧ 1 ≤ ht ∧ V = 2 * ht)
/-- What half keeps while it runs. -/
structure HSt (w0 : World) (H G : Heap) (b2 b4 b5 b6 : Nat) (z : LvR) (S wd ht : Nat) (out : List Int) (a : Option Addr) (cap : Nat) : Prop where
  k2 : G b2 = some ⟨.t 38, [.int .i64 z.w, .int .i64 z.h, .slice z.a z.l.length z.cap]⟩
  k4 : G b4 = some ⟨.t 38, [.int .i64 0, .int .i64 0, .slice none 0 0]⟩
  k5 : G b5 = some ⟨.t 3, [.int .i64 (S : Nat)]⟩
  k6 : G b6 = some ⟨.t 38, [.int .i64 (wd : Nat), .int .i64 (ht : Nat), .slice a out.length cap]⟩
  bld : Bld w0 H G a cap 1 5 (out.map (.int .u8))
  g : Grow w0 H G
theorem HSt.rds {b2 b4 b5 b6 : Nat} {z : LvR} {S wd ht cap : Nat} {out : List Int} {a : Option Addr} (h : HSt w0 H G b2 b4 b5 b6 z S wd ht out a cap) :
    rd1 w0 G b2 0 = some (.int .i64 z.w) ∧ rd1 w0 G b2 1 = some (.int .i64 z.h) ∧ rd1 w0 G b6 0 = some (.int .i64 (wd : Nat)) ∧ rd1 w0 G b6 1 = some (.int .i64 (ht : Nat)) :=
  ⟨by unfold rd1; rw [h.k2]; rfl, by unfold rd1; rw [h.k2]; rfl, by unfold rd1; rw [h.k6]; rfl, by unfold rd1; rw [h.k6]; rfl⟩
/-- What is not a slice of numbers stays. -/
theorem HSt.keep {b2 b4 b5 b6 : Nat} {z : LvR} {S wd hh cap : Nat} {out : List Int} {a : Option Addr} (h : HSt w0 H G b2 b4 b5 b6 z S wd hh out a cap) {F : Heap} {t : TypeId} (ht : t ≠ 38 ∧ t ≠ 3 ∧ t ≠ 5) (hk : ∀ c x, G c = some x → x.ty ≠ .t t → F c = some x) (hg : Grow w0 H F) : HSt w0 H F b2 b4 b5 b6 z S wd hh out a cap :=
  ⟨hk _ _ h.k2 (fun e => ht.1 (Kd.t_inj e).symm), hk _ _ h.k4 (fun e => ht.1 (Kd.t_inj e).symm), hk _ _ h.k5 (fun e => ht.2.1 (Kd.t_inj e).symm), hk _ _ h.k6 (fun e => ht.1 (Kd.t_inj e).symm), by
    rcases h.bld with ⟨b, zz, e, h1, h2, h3, h4⟩ | h'
    · exact .inl ⟨b, zz, e, h1, h2, hk b _ h3 (fun e => ht.2.2 (Kd.t_inj e).symm), h4⟩
    · exact .inr h', hg⟩
theorem HSt.grow {b2 b4 b5 b6 : Nat} {z : LvR} {S wd ht cap : Nat} {out : List Int} {a : Option Addr} (h : HSt w0 H G b2 b4 b5 b6 z S wd ht out a cap) {F : Heap} (g : Grow w0 G F) : HSt w0 H F b2 b4 b5 b6 z S wd ht out a cap :=
  ⟨g.some h.k2, g.some h.k4, g.some h.k5, g.some h.k6, h.bld.grow g, h.g.trans g⟩
theorem HSt.next {F F2 : Heap} {b2 b4 b5 b6 n : Nat} {z : LvR} {S wd ht cap c5 : Nat} {out out' : List Int} {a a5 : Option Addr} (h : HSt w0 H F b2 b4 b5 b6 z S wd ht out a cap) (h2 : b2 ≠ b6) (h4 : b4 ≠ b6) (h5 : b5 ≠ b6) (hs : w0.heap.size ≤ b6) (hn : H b6 = none)
    (hk : ∀ c x, F c = some x → x.ty ≠ .t 5 → F2 c = some x) (hB : Bld w0 H F2 a5 c5 1 5 (out'.map (.int .u8))) (hg : Grow w0 H F2) (hl : n = out'.length) :
    HSt w0 H (F2.set b6 ⟨.t 38, [.int .i64 (wd : Nat), .int .i64 (ht : Nat), .slice a5 n c5]⟩) b2 b4 b5 b6 z S wd ht out' a5 c5 := by
  have u1 : ∀ t : TypeId, t ≠ 5 → Kd.t t ≠ .t 5 := fun t h e => h (Kd.t_inj e)
  have k6 := hk _ _ h.k6 (u1 _ (by decide))
  subst hl
  exact ⟨by rw [Heap.set_other _ _ h2]; exact hk _ _ h.k2 (u1 _ (by decide)), by rw [Heap.set_other _ _ h4]; exact hk _ _ h.k4 (u1 _ (by decide)), by rw [Heap.set_other _ _ h5]; exact hk _ _ h.k5 (u1 _ (by decide)), Heap.set_same _ _ _, hB.turn k6 (by simp), hg.set hs hn⟩
end Go.Proofs.Ytdaipgnhconfnaa
