/- Levels of one colour: the plain law (layer 8). -/
import Derived.Test.YtdaipgnhconfnaaIpf
import Derived.Test.YtdaipgnhconfnaaImw
set_option linter.unusedSimpArgs false
set_option linter.unusedVariables false
set_option maxRecDepth 100000
set_option maxHeartbeats 4000000
namespace Go.Proofs.Ytdaipgnhconfnaa
open Go Go.HL Go.RowKit Pb

/-- A pixel, n times. -/
def repL (px : List Int) (n : Nat) : List Int := (List.replicate n px).flatten
theorem repL_succ (px : List Int) (n : Nat) : repL px (n + 1) = px ++ repL px n := by unfold repL; rw [List.replicate_succ, List.flatten_cons]
theorem repL_len (px : List Int) : ∀ n, (repL px n).length = n * px.length
  | 0 => by simp [repL]
  | n + 1 => by rw [repL_succ, List.length_append, repL_len px n, Nat.succ_mul]; omega
theorem repL_b {px : List Int} (h : ∀ b ∈ px, 0 ≤ b ∧ b ≤ 255) (n : Nat) : ∀ b ∈ repL px n, 0 ≤ b ∧ b ≤ 255 := fun b hb => by
  unfold repL at hb
  obtain ⟨r, hr, hb⟩ := List.mem_flatten.1 hb
  rw [(List.mem_replicate.1 hr).2] at hb
  exact h b hb
theorem repL_drop (px : List Int) : ∀ (k n : Nat), k ≤ n → (repL px n).drop (k * px.length) = repL px (n - k)
  | 0, n, _ => by simp
  | k + 1, 0, h => by omega
  | k + 1, n + 1, h => by
    rw [repL_succ, Nat.succ_mul, Nat.add_comm, ← List.drop_drop, List.drop_left, repL_drop px k n (by omega), Nat.add_sub_add_right]
theorem repL_take (px : List Int) : ∀ (k n : Nat), k ≤ n → (repL px n).take (k * px.length) = repL px k
  | 0, n, _ => by simp [repL]
  | k + 1, 0, h => by omega
  | k + 1, n + 1, h => by
    rw [repL_succ, repL_succ, Nat.succ_mul, Nat.add_comm, List.take_length_add_append, repL_take px k n (by omega)]
theorem repL_add (px : List Int) (a : Nat) : ∀ b, repL px (a + b) = repL px a ++ repL px b := fun b => by
  unfold repL; rw [← List.replicate_append_replicate, List.flatten_append]
theorem pxN_rep {px : List Int} {k n : Nat} (h : k < n) : pxN (repL px n) px.length k = num px := by
  unfold pxN
  rw [repL_drop px k n (by omega), show n - k = (n - k - 1) + 1 by omega, repL_succ, List.take_left]
theorem chM_rep (a k n : Nat) (v : Int) (hn : 0 < n) : chM (List.replicate n v) a k = fld a k v := by
  have hs : ∀ n, sumF a k (List.replicate n v) = (n : Int) * fld a k v := fun n => by
    induction n with
    | zero => simp [sumF]
    | succ n ih => rw [List.replicate_succ, sumF, ih, Int.natCast_add, Int.add_mul]; simp; omega
  unfold chM
  rw [hs, List.length_replicate, Int.add_comm, Int.add_mul_ediv_left _ _ (by omega : (n : Int) ≠ 0)]
  have : (n : Int) / 2 / (n : Int) = 0 := Int.ediv_eq_zero_of_lt (by omega) (by omega)
  omega
theorem mP_rep (ks : List Nat) (n : Nat) (v : Int) (hn : 0 < n) (hv : 0 ≤ v) : ∀ j, j ≤ ks.length → mP ks (List.replicate n v) j = v % 2 ^ (atP ks j)
  | 0, _ => by simp [mP, atP, Int.emod_one]
  | j + 1, h => by
    rw [mP, mP_rep ks n v hn hv j (by omega), chM_rep _ _ _ _ hn, atP_succ ks (by omega), fld]
    generalize atP ks j = a
    generalize ks.getD j 0 = k
    obtain ⟨m, rfl⟩ := Int.eq_ofNat_of_zero_le hv
    have e : ∀ b : Nat, (2 : Int) ^ b = ((2 ^ b : Nat) : Int) := fun b => by simp
    rw [e a, e k, e (a + k), Nat.pow_add]
    have := @Nat.mod_mul (2 ^ a) (2 ^ k) m
    have h2 : ((m % (2 ^ a * 2 ^ k) : Nat) : Int) = ((m % 2 ^ a + 2 ^ a * (m / 2 ^ a % 2 ^ k) : Nat) : Int) := by rw [this]
    simp only [Int.natCast_add, Int.natCast_mul, Int.natCast_emod, Int.natCast_ediv] at h2 ⊢
    rw [h2, Int.mul_comm ((2 ^ a : Nat) : Int) _]
theorem digs_num : ∀ (px : List Int), (∀ b ∈ px, 0 ≤ b ∧ b ≤ 255) → digs px.length (num px) = px
  | [], _ => rfl
  | b :: t, h => by
    have hb := h b (by simp)
    rw [List.length_cons, digs, num]
    have e1 : (b + 256 * num t) % 256 = b := by omega
    have e2 : (b + 256 * num t) / 256 = num t := by omega
    rw [e1, e2, digs_num t fun c hc => h c (by simp [hc])]
theorem meanB_rep {f : Int} (hs : sizeI f ≠ 0) {px : List Int} (hp : ∀ b ∈ px, 0 ≤ b ∧ b ≤ 255) (hl : px.length = (sizeI f).toNat) {n : Nat} (hn : 0 < n) : meanB f (List.replicate n (num px)) = px := by
  unfold meanB
  have hb := num_b px hp
  rw [mP_rep _ _ _ hn hb.1 _ (Nat.le_refl _), chs_size hs, ← hl]
  have e : (2 : Int) ^ (8 * px.length) = 256 ^ px.length := by rw [Int.pow_mul]; rfl
  rw [e, Int.emod_eq_of_lt hb.1 hb.2, digs_num px hp]
theorem quad_rep {px : List Int} {N W cw x y n : Nat} (h : ∀ t, t < n → (2 * y + t / cw) * W + (2 * x + t % cw) < N) : quad (repL px N) px.length W cw x y n = List.replicate n (num px) := by
  apply List.ext_getElem?
  intro i
  unfold quad
  rw [List.getElem?_map, List.getElem?_replicate]
  by_cases hi : i < n
  · rw [List.getElem?_range hi, if_pos hi, Option.map_some, pxN_rep (h i hi)]
  · rw [List.getElem?_eq_none (by rw [List.length_range]; omega), if_neg hi]; rfl
theorem outB_rep {f : Int} (hs : sizeI f ≠ 0) {px : List Int} (hp : ∀ b ∈ px, 0 ≤ b ∧ b ≤ 255) (hl : px.length = (sizeI f).toNat) {N W cw q wd : Nat} (hq : 0 < q) : ∀ n, (∀ i t, i < n → t < q → (2 * (i / wd) + t / cw) * W + (2 * (i % wd) + t % cw) < N) → outB (repL px N) f px.length W cw q wd n = repL px n
  | 0, _ => by simp [outB, repL]
  | n + 1, h => by
    rw [outB_succ, outB_rep hs hp hl hq n fun i t hi ht => h i t (by omega) ht, quad_rep fun t ht => h n t (by omega) ht, meanB_rep hs hp hl hq, repL_add]
    simp [repL]
theorem inner {wd ht cw ch W V i t : Nat} (h1 : (W = 1 ∧ wd = 1 ∧ cw = 1) ∨ (W = 2 * wd ∧ cw = 2 ∧ 1 ≤ wd)) (h2 : (V = 1 ∧ ht = 1 ∧ ch = 1) ∨ (V = 2 * ht ∧ ch = 2 ∧ 1 ≤ ht)) (hi : i < wd * ht) (ht' : t < cw * ch) : (2 * (i / wd) + t / cw) * W + (2 * (i % wd) + t % cw) < W * V := by
  have hw : 0 < wd := by omega
  have hc : 0 < cw := by omega
  have a1 : i / wd < ht := (Nat.div_lt_iff_lt_mul hw).2 (by rw [Nat.mul_comm]; exact hi)
  have a2 : i % wd < wd := Nat.mod_lt _ hw
  have a3 : t / cw < ch := (Nat.div_lt_iff_lt_mul hc).2 (by rw [Nat.mul_comm]; exact ht')
  have a4 : t % cw < cw := Nat.mod_lt _ hc
  have b1 : 2 * (i / wd) + t / cw + 1 ≤ V := by omega
  have b2 : 2 * (i % wd) + t % cw < W := by omega
  have := Nat.mul_le_mul_right W b1
  rw [Nat.add_mul, Nat.one_mul, Nat.mul_comm V W] at this
  omega
/-- A level of one colour. -/
def plainC (px : List Int) (c : Core) : Prop := c.2.2 = repL px (c.1.toNat * c.2.1.toNat)
theorem nxt_plain {f : Int} (hs : sizeI f ≠ 0) {px : List Int} (hp : ∀ b ∈ px, 0 ≤ b ∧ b ≤ 255) (hl : px.length = (sizeI f).toNat) {c : Core} (g : LvG f c) (h : plainC px c) : plainC px (nxt f c) := by
  have a := (wdO_pow g.w).2
  have b := (wdO_pow g.h).2
  unfold plainC nxt at *
  simp only [Int.toNat_natCast]
  rw [h, ← hl]
  have a' : (c.1.toNat = 1 ∧ wdO c.1 = 1 ∧ cwO c.1 = 1) ∨ (c.1.toNat = 2 * wdO c.1 ∧ cwO c.1 = 2 ∧ 1 ≤ wdO c.1) := by omega
  have b' : (c.2.1.toNat = 1 ∧ wdO c.2.1 = 1 ∧ cwO c.2.1 = 1) ∨ (c.2.1.toNat = 2 * wdO c.2.1 ∧ cwO c.2.1 = 2 ∧ 1 ≤ wdO c.2.1) := by omega
  have hq : 0 < cwO c.1 * cwO c.2.1 := Nat.mul_pos (by omega) (by omega)
  exact outB_rep hs hp hl hq _ fun i t hi ht => inner a' b' hi ht
theorem genL_plain {f : Int} (hs : sizeI f ≠ 0) {px : List Int} (hp : ∀ b ∈ px, 0 ≤ b ∧ b ≤ 255) (hl : px.length = (sizeI f).toNat) : ∀ (n : Nat) (c : Core), LvG f c → plainC px c → ∀ q ∈ genL f n c, plainC px q ∧ LvG f q
  | 0, c, g, h, q, hq => by rw [genL, List.mem_singleton] at hq; rw [hq]; exact ⟨h, g⟩
  | n + 1, c, g, h, q, hq => by
    rw [genL] at hq
    split at hq
    · rw [List.mem_singleton] at hq; rw [hq]; exact ⟨h, g⟩
    · rcases List.mem_cons.1 hq with rfl | hq
      · exact ⟨h, g⟩
      · exact genL_plain hs hp hl n _ (nxt_g hs g) (nxt_plain hs hp hl g h) q hq
def genN : Nat → Int → Int → Nat
  | 0, _, _ => 1
  | n + 1, w, h => if w = 1 ∧ h = 1 then 1 else genN n (wdO w : Nat) (wdO h : Nat) + 1
theorem genL_len (f : Int) : ∀ (n : Nat) (c : Core), (genL f n c).length = genN n c.1 c.2.1
  | 0, c => rfl
  | n + 1, c => by
    rw [genL, genN]
    split
    · rfl
    · rw [List.length_cons, genL_len f n (nxt f c)]; rfl
theorem genN_cnt {w h : Int} (pw : powP w) (ph : powP h) : ((genN 6 w h : Nat) : Int) = cntI w h ∧ genN 6 w h ≤ 7 := by
  unfold powP at pw ph
  rcases pw with rfl | rfl | rfl | rfl | rfl | rfl | rfl <;> rcases ph with rfl | rfl | rfl | rfl | rfl | rfl | rfl <;> decide
/-- What comes of a plain level. -/
theorem gen_plain {x y : Im} {z : LvR} {px : List Int} (hs : sizeI x.f ≠ 0) (hp : ∀ b ∈ px, 0 ≤ b ∧ b ≤ 255) (hl : px.length = (sizeI x.f).toNat) (ez : x.ls.map LvR.core = [z.core]) (pw : powP z.w) (ph : powP z.h) (hz : z.l = repL px (z.w.toNat * z.h.toNat)) (h : GenOk x y) :
    (y.ls.length : Int) = cntI z.w z.h ∧ y.ls.length ≤ 7 ∧ ∀ u ∈ y.ls, u.l = repL px (u.w.toNat * u.h.toNat) ∧ powP u.w ∧ powP u.h := by
  obtain ⟨z', e1, e2⟩ := h.ls
  have ec : z'.core = z.core := by
    have : (x.ls.map LvR.core)[0]? = some z'.core := by rw [List.getElem?_map, e1]; rfl
    rw [ez] at this
    exact (Option.some.inj this).symm
  rw [ec] at e2
  have g : LvG x.f z.core := by
    refine ⟨pw, ph, ?_⟩
    show ((z.l.length : Nat) : Int) = z.w * z.h * sizeI x.f
    have h1 := pow_b pw
    have h2 := pow_b ph
    rw [hz, repL_len, hl, Int.natCast_mul, Int.natCast_mul, Int.toNat_of_nonneg (by omega), Int.toNat_of_nonneg (by omega), Int.toNat_of_nonneg (sizeI_le _).1]
  have hlen : y.ls.length = genN 6 z.w z.h := by
    have := congrArg List.length e2
    rw [List.length_map, genL_len] at this
    exact this
  have hc := genN_cnt pw ph
  refine ⟨by rw [hlen]; exact hc.1, by rw [hlen]; exact hc.2, fun u hu => ?_⟩
  have hm : u.core ∈ genL x.f 6 z.core := by rw [← e2]; exact List.mem_map_of_mem hu
  obtain ⟨q1, q2⟩ := genL_plain hs hp hl 6 z.core g hz u.core hm
  exact ⟨q1, q2.w, q2.h⟩
end Go.Proofs.Ytdaipgnhconfnaa
