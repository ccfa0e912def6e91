/- Levels are made, by the reference (layer 8): what it keeps, and the pixels of which one is made. -/
import Derived.Test.YtdaipgnhconfnaaIpg
import Derived.Test.YtdaipgnhconfnaaIpe
import Derived.Test.YtdaipgnhconfnaaInc
import Derived.Test.YtdaipgnhconfnaaIna
set_option linter.unusedSimpArgs false
set_option linter.unusedVariables false
set_option maxRecDepth 100000
namespace Go.Proofs.Ytdaipgnhconfnaa
open Go Go.HL Go.RowKit Pb
variable {w0 : World} {H G : Heap} {K : Value → Heap → Prop}

/-- The numbers of the pixels that lie in the level, of the first k of four. -/
def fours (l : List Int) (S W V x y : Nat) (k : Nat) : List Int := (List.range k).filterMap fun t => if 2 * x + t % 2 < W ∧ 2 * y + t / 2 < V then some (pxN l S ((2 * y + t / 2) * W + (2 * x + t % 2))) else none
theorem fours_yes (l : List Int) {S W V x y k : Nat} (h : 2 * x + k % 2 < W ∧ 2 * y + k / 2 < V) : fours l S W V x y (k + 1) = fours l S W V x y k ++ [pxN l S ((2 * y + k / 2) * W + (2 * x + k % 2))] := by
  unfold fours
  rw [List.range_succ, List.filterMap_append]
  simp [h]
theorem fours_no (l : List Int) {S W V x y k : Nat} (h : ¬ (2 * x + k % 2 < W ∧ 2 * y + k / 2 < V)) : fours l S W V x y (k + 1) = fours l S W V x y k := by
  unfold fours
  rw [List.range_succ, List.filterMap_append]
  simp only [List.filterMap_cons, if_neg h, List.filterMap_nil, List.append_nil]
theorem fours_quad (l : List Int) {S W V x y cw rh wd ht : Nat} (hx : x < wd) (hy : y < ht) (c : (cw = 1 ∧ wd = 1 ∧ W = 1) ∨ (cw = 2 ∧ 1 ≤ wd ∧ W = 2 * wd)) (r : (rh = 1 ∧ ht = 1 ∧ V = 1) ∨ (rh = 2 ∧ 1 ≤ ht ∧ V = 2 * ht)) : fours l S W V x y 4 = quad l S W cw x y (cw * rh) := by
  have e4 : List.range 4 = [0, 1, 2, 3] := rfl
  have e2 : List.range 2 = [0, 1] := rfl
  have e1 : List.range 1 = [0] := rfl
  unfold fours quad
  rw [e4]
  rcases c with ⟨rfl, rfl, rfl⟩ | ⟨rfl, c1, rfl⟩ <;> rcases r with ⟨rfl, rfl, rfl⟩ | ⟨rfl, r1, rfl⟩
  · obtain rfl : x = 0 := by omega
    obtain rfl : y = 0 := by omega
    rfl
  · obtain rfl : x = 0 := by omega
    have h1 : 2 * y < 2 * ht := by omega
    have h2 : 2 * y + 1 < 2 * ht := by omega
    simp [e2, h1, h2]
  · obtain rfl : y = 0 := by omega
    have h1 : 2 * x < 2 * wd := by omega
    have h2 : 2 * x + 1 < 2 * wd := by omega
    simp [e2, h1, h2]
  · have h1 : 2 * y < 2 * ht := by omega
    have h2 : 2 * y + 1 < 2 * ht := by omega
    have h3 : 2 * x < 2 * wd := by omega
    have h4 : 2 * x + 1 < 2 * wd := by omega
    simp [e4, h1, h2, h3, h4]
/-- A new block that the builder does not know. -/
theorem LX.fresh {B F : Heap} {a : Option Addr} {cap bk : Nat} {ls : List LvR} {z z2 : Blk} (h : LX w0 B F a cap ls) (hn : F bk = none) (hb : ∀ c, B c = none → H c = none) : LX w0 (H.set bk z2) (F.set bk z) a cap ls := by
  have key : ∀ {a : Option Addr} {cap sz : Nat} {ty : TypeId} {cs : List Value}, Bld w0 B F a cap sz ty cs → Bld w0 (H.set bk z2) (F.set bk z) a cap sz ty cs := fun h => by
    rcases h with ⟨c, zz, rfl, h1, h2, h3, h4⟩ | h
    · have e : c ≠ bk := fun e => by subst e; rw [hn] at h3; cases h3
      exact .inl ⟨c, zz, rfl, h1, by rw [Heap.set_other _ _ e]; exact hb _ h2, by rw [Heap.set_other _ _ e]; exact h3, h4⟩
    · exact .inr h
  exact ⟨key h.bld, fun y hy => ⟨key (h.lv y hy).bld, (h.lv y hy).lm, (h.lv y hy).lr, (h.lv y hy).w, (h.lv y hy).h, (h.lv y hy).by_⟩⟩
/-- What the reference's Generate keeps while it runs. -/
structure RSt (w0 : World) (H F : Heap) (b1 b2 b5 : Nat) (x : Im) (C : List Core) (n : Nat) (pre : List LvR) (last cur : LvR) (a : Option Addr) (cap : Nat) : Prop where
  k1 : F b1 = some ⟨.t 24, [.int .i64 x.f, .slice a (pre.length + 1) cap, .int .i64 x.s, .int .i64 x.t, .int .i64 x.mn, .int .i64 x.mg]⟩
  k2 : F b2 = some ⟨.t 24, [.int .i64 0, .slice none 0 0, .int .i64 0, .int .i64 0, .int .i64 0, .int .i64 0]⟩
  k5 : F b5 = some ⟨.t 38, [.int .i64 cur.w, .int .i64 cur.h, .slice cur.a cur.l.length cur.cap]⟩
  s5 : w0.heap.size ≤ b5
  n5 : H b5 = none
  d15 : b1 ≠ b5
  d25 : b2 ≠ b5
  lx : LX w0 (H.set b5 ⟨.t 38, [.int .i64 0, .int .i64 0, .slice none 0 0]⟩) F a cap (pre ++ [last])
  g : Grow w0 H F
  cu : LvOk w0 F cur
  co : last.core = cur.core
  lg : LvG x.f cur.core
  bw : cur.w ≤ 2 ^ n
  bh : cur.h ≤ 2 ^ n
  eC : C = pre.map LvR.core ++ genL x.f n cur.core
  pl : pre.length + n ≤ 6
/-- What it keeps while one level is made. -/
structure RIn (w0 : World) (B F : Heap) (b6 wd ht : Nat) (out : List Int) (a : Option Addr) (cap : Nat) : Prop where
  k6 : F b6 = some ⟨.t 38, [.int .i64 (wd : Nat), .int .i64 (ht : Nat), .slice a out.length cap]⟩
  bld : Bld w0 B F a cap 1 5 (out.map (.int .u8))
  g : Grow w0 B F
theorem px_at {a : Option Addr} {l : List Int} {cb co lo S : Nat} (hA : IntsAt w0 G .u8 a l) (ea : a = some ⟨cb, co, none⟩) (h : lo + S ≤ l.length) (hS : 1 ≤ S) : IntsAt w0 G .u8 (some ⟨cb, co + lo, none⟩) ((l.drop lo).take S) := by
  obtain ⟨b, o, e, hr, -⟩ := ints_get hA (by omega)
  rw [ea] at e
  cases e
  refine SlAt.toInts fun _ => ⟨cb, co + lo, rfl, fun i hi => ?_⟩
  rw [List.length_map, List.length_take, List.length_drop] at hi
  have hi2 : lo + i < l.length := by omega
  have := hr (lo + i) l[lo + i] (List.getElem?_eq_getElem hi2)
  rw [Nat.add_assoc, this, List.getElem?_map, List.getElem?_take, if_pos (by omega), List.getElem?_drop, List.getElem?_eq_getElem hi2]
  rfl
theorem PROk.grow {F : Heap} {S : Nat} {p : PR} (h : PROk w0 G S p) (g : Grow w0 G F) : PROk w0 F S p := ⟨h.at_.grow g, h.len, h.by_⟩
theorem RIn.next {B F : Heap} {b6 wd ht n c5 : Nat} {out' : List Int} {a5 : Option Addr} {cs : List Value} (k6 : F b6 = some ⟨.t 38, cs⟩) (hB : Bld w0 B F a5 c5 1 5 (out'.map (.int .u8))) (hg : Grow w0 B F) (s6 : w0.heap.size ≤ b6) (n6 : B b6 = none) (hl : n = out'.length) :
    RIn w0 B (F.set b6 ⟨.t 38, [.int .i64 (wd : Nat), .int .i64 (ht : Nat), .slice a5 n c5]⟩) b6 wd ht out' a5 c5 := by
  subst hl
  exact ⟨Heap.set_same _ _ _, hB.turn k6 (by simp), hg.set s6 n6⟩
theorem RIn.grow {B F F2 : Heap} {b6 wd ht cap : Nat} {out : List Int} {a : Option Addr} (h : RIn w0 B F b6 wd ht out a cap) (g : Grow w0 F F2) : RIn w0 B F2 b6 wd ht out a cap := ⟨g.some h.k6, h.bld.grow g, h.g.trans g⟩
theorem RSt.next {F F' : Heap} {b1 b2 b5 bk m cap cap2 : Nat} {x : Im} {C : List Core} {pre : List LvR} {last cur z' : LvR} {a a2 : Option Addr} (st : RSt w0 H F b1 b2 b5 x C (m + 1) pre last cur a cap) (e' : z'.core = nxt x.f cur.core) (hsz : sizeI x.f ≠ 0) (one : ¬ (cur.w = 1 ∧ cur.h = 1))
    (k1 : F' b1 = some ⟨.t 24, [.int .i64 x.f, .slice a2 (pre.length + 1 + 1) cap2, .int .i64 x.s, .int .i64 x.t, .int .i64 x.mn, .int .i64 x.mg]⟩) (k2 : F' b2 = some ⟨.t 24, [.int .i64 0, .slice none 0 0, .int .i64 0, .int .i64 0, .int .i64 0, .int .i64 0]⟩)
    (k5 : F' bk = some ⟨.t 38, [.int .i64 z'.w, .int .i64 z'.h, .slice z'.a z'.l.length z'.cap]⟩) (s5 : w0.heap.size ≤ bk) (n5 : H bk = none) (d1 : b1 ≠ bk) (d2 : b2 ≠ bk) (lx : LX w0 (H.set bk ⟨.t 38, [.int .i64 0, .int .i64 0, .slice none 0 0]⟩) F' a2 cap2 ((pre ++ [last]) ++ [z'])) (g : Grow w0 H F') :
    RSt w0 H F' b1 b2 bk x C m (pre ++ [last]) z' z' a2 cap2 := by
  have hC := st.eC
  rw [genL, if_neg (show ¬ (cur.core.1 = 1 ∧ cur.core.2.1 = 1) from one)] at hC
  have pl := st.pl
  refine ⟨by rw [k1]; simp, k2, k5, s5, n5, d1, d2, lx, g, (lx.lv z' (by simp)).ok, rfl, ?_, ?_, ?_, ?_, by simp; omega⟩
  · rw [e']; exact nxt_g hsz st.lg
  · have := congrArg Prod.fst e'
    rw [show z'.w = _ from this]
    exact bound_next st.lg.w st.bw
  · have := congrArg (fun q : Core => q.2.1) e'
    rw [show z'.h = _ from this]
    exact bound_next st.lg.h st.bh
  · rw [hC, e', List.map_append, List.append_assoc, ← st.co]; rfl
end Go.Proofs.Ytdaipgnhconfnaa
