/- What putting a level comes to; levels that are appended (layer 8). -/
import Derived.Test.YtdaipgnhconfnaaIoa0
set_option linter.unusedSimpArgs false
set_option linter.unusedVariables false
set_option maxRecDepth 100000
set_option maxHeartbeats 4000000
namespace Go.Proofs.Ytdaipgnhconfnaa
open Go Go.HL Go.RowKit Pb
variable {w0 : World} {H G : Heap} {K : Value → Heap → Prop}

theorem kpi {p : Prop} (h : Keep p) : p := h
def zLv : LvR := ⟨0, 0, none, 0, []⟩
theorem zLv_ok (w0 : World) (H G : Heap) : LvC w0 H G zLv := ⟨Bld.none, Nat.zero_le _, Nat.zero_le _, by unfold I64 zLv; simp, by unfold I64 zLv; simp, fun b hb => by simp [zLv] at hb⟩
/-- The levels that stay when a level of a format is put. -/
def Im.keep (x : Im) (f : Int) : List LvR := if f = x.f then x.ls else []
/-- The bytes of a level that is put. -/
def putB (f : Int) (z : LvR) : List Int := z.l ++ List.replicate ((z.w * z.h * sizeI f).toNat - z.l.length) 0
structure PutOk (x : Im) (lv : Nat) (f : Int) (z : LvR) (y : Im) : Prop where
  pf : y.f = f
  ps : y.s = x.s
  pt : y.t = x.t
  pn : y.mn = x.mn
  pg : y.mg = x.mg
  pl : y.ls.map LvR.core = ((x.keep f).map LvR.core ++ List.replicate (lv + 1 - (x.keep f).length) (0, 0, [])).set lv (z.w, z.h, putB f z)
theorem PutOk_eqv {x w y y' : Im} {lv : Nat} {f : Int} {z z' : LvR} (hE : Im.Eqv x w) (hz : z'.core = z.core) (h1 : PutOk x lv f z y) (h2 : PutOk w lv f z' y') : Im.Eqv y y' := by
  obtain ⟨q1, q2, q3⟩ := core_eq hz
  have hk : (w.keep f).map LvR.core = (x.keep f).map LvR.core := by
    unfold Im.keep
    rw [hE.f]
    split
    · exact hE.ls
    · rfl
  have hl : (w.keep f).length = (x.keep f).length := by have := congrArg List.length hk; simpa using this
  have hb : putB f z' = putB f z := by unfold putB; rw [q1, q2, q3]
  exact ⟨h2.pf.trans h1.pf.symm, (h2.ps.trans hE.s).trans h1.ps.symm, (h2.pt.trans hE.t).trans h1.pt.symm, (h2.pn.trans hE.mn).trans h1.pn.symm, (h2.pg.trans hE.mg).trans h1.pg.symm, by rw [h2.pl, h1.pl, hk, hl, hb, q1, q2]⟩
/-- Levels in a builder. -/
structure LB (w0 : World) (H G : Heap) (a : Option Addr) (cap : Nat) (ls : List LvR) : Prop where
  bld : Bld w0 H G a cap 3 38 (ls.map LvR.row).flatten
  lv : ∀ z ∈ ls, LvC w0 H G z
theorem ImC.lb {y : Im} (h : ImC w0 H G y) : LB w0 H G y.a y.cap y.ls := ⟨h.bld, h.lv⟩
theorem LB.grow {F : Heap} {a : Option Addr} {cap : Nat} {ls : List LvR} (h : LB w0 H G a cap ls) (g : Grow w0 G F) : LB w0 H F a cap ls :=
  ⟨h.bld.grow g, fun y hy => ⟨(h.lv y hy).bld.grow g, (h.lv y hy).lm, (h.lv y hy).lr, (h.lv y hy).w, (h.lv y hy).h, (h.lv y hy).by_⟩⟩
theorem LB.turn {a : Option Addr} {cap : Nat} {ls : List LvR} (h : LB w0 H G a cap ls) {b : Nat} {z : Blk} {cs : List Value} (hb : G b = some ⟨.t 24, cs⟩) : LB w0 H (G.set b z) a cap ls :=
  ⟨h.bld.turn hb (by simp), fun y hy => (h.lv y hy).turn hb (by simp)⟩
theorem zeroL_zLv (n : Nat) : zeroL [Value.int .i64 0, .int .i64 0, .slice none 0 0] n = zeroL zLv.row n := rfl
theorem app_lv {a : Option Addr} {cap : Nat} {ls : List LvR} {r c1 : Nat} (hB : LB w0 H G a cap ls) (hg : Grow w0 H G) (hr : G r = some ⟨.t 38, zLv.row⟩) (hl : ls.length ≤ 1000)
    (h : ∀ a' cap' G', LB w0 H G' a' cap' (ls ++ [zLv]) → Grow w0 H G' → (∀ d x, G d = some x → (x.ty ≠ .t 38 ∨ H d ≠ none) → G' d = some x) → K (.slice a' (ls.length + 1) cap') G') :
    appQ w0 G K 38 3 40 [.int .i64 0, .int .i64 0, .slice none 0 0] (.slice a ls.length cap) (.slice (some ⟨r, 0, none⟩) 1 c1) := by
  have old : ∀ {G' : Heap} {a0 : Option Addr} (hk : ∀ c x, G c = some x → (x.ty = .t 38 → a0 ≠ some ⟨c, 0, none⟩) → G' c = some x), ∀ z ∈ ls ++ [zLv], LvC w0 H G' z := fun {G' a0} hk z hz => by
    rcases List.mem_append.1 hz with h' | h'
    · have hz := hB.lv z h'
      exact ⟨hz.bld.stay (by simp) hk, hz.lm, hz.lr, hz.w, hz.h, hz.by_⟩
    · rw [List.mem_singleton.1 h']; exact zLv_ok _ _ _
  have he : ((ls ++ [zLv]).map LvR.row).flatten = (ls.map LvR.row).flatten ++ zLv.row := by rw [List.map_append, List.flatten_append]; simp
  by_cases hcap : cap = 0
  · have hll : ls = [] := by
      rcases hB.bld with ⟨b, z, -, -, -, -, h4⟩ | ⟨-, h4⟩
      · rw [rows_len, hcap] at h4; exact List.length_eq_zero_iff.1 (by omega)
      · have := congrArg List.length h4; rw [rows_len] at this; have h0 : ls.length * 3 = 0 := this; exact List.length_eq_zero_iff.1 (by omega)
    subst hll
    subst hcap
    have q : appQ w0 G K 38 3 40 [.int .i64 0, .int .i64 0, .slice none 0 0] (.slice none 0 0) (.slice (some ⟨r, 0, none⟩) 1 c1) := by
      refine app_bld (H := H) (n := 0) (m := 1) (cs := []) (ns := zLv.row) (Bld.none (a := none)) rfl rfl (srd_blk (n := 3) hr rfl) rfl hg ⟨by omega, by omega⟩ rfl (fun a' cap' G' hB' hg' hk' _ => ?_)
      exact h a' cap' G' ⟨by rw [he]; simpa using hB', old hk'⟩ hg' (fun d x hd _ => hk' d x hd (fun _ e => by cases e))
    unfold appQ at q ⊢
    simp only [List.length_nil] at q ⊢
    obtain ⟨q1, q2, q3⟩ := q
    refine ⟨q1, q2, ?_⟩
    obtain ⟨ns, e1, e2, e3⟩ := optQ_some q3
    rw [e1]
    refine ⟨fun hle => by omega, fun hlt => ?_⟩
    have e0 : ∀ a0 : Option Addr, srd w0 G a0 (0 * 3) = some [] := fun a0 => by unfold srd; rfl
    have e4 := e3 hlt
    rw [e0] at e4 ⊢
    exact e4
  · refine app_bld (H := H) (n := ls.length) (m := 1) (cs := (ls.map LvR.row).flatten) (ns := zLv.row) hB.bld (rows_len ls) rfl (srd_blk (n := 3) hr rfl) rfl hg ⟨by omega, by omega⟩ rfl (fun a' cap' G' hB' hg' hk' _ => ?_)
    refine h a' cap' G' ⟨by rw [he]; exact hB', old hk'⟩ hg' (fun d x hd hx => hk' d x hd (fun e => ?_))
    rcases hx with hx | hx
    · exact (hx e).elim
    · rcases hB.bld with ⟨b, z, e1, -, h2, -, -⟩ | ⟨h1, -⟩
      · rw [e1]; intro e3; cases e3; exact hx h2
      · exact (hcap h1).elim
theorem bld_re {H1 G' : Heap} {a : Option Addr} {cap sz : Nat} {ty : TypeId} {cs : List Value} (h : Bld w0 H1 G' a cap sz ty cs) (hn : ∀ b, H1 b = none → H b = none) : Bld w0 H G' a cap sz ty cs := by
  rcases h with ⟨b, z, rfl, h1, h2, h3, h4⟩ | h
  · exact .inl ⟨b, z, rfl, h1, hn _ h2, h3, h4⟩
  · exact .inr h
theorem LvC.re {H1 : Heap} {z : LvR} (h : LvC w0 H1 G z) (hn : ∀ b, H1 b = none → H b = none) : LvC w0 H G z := ⟨bld_re h.bld hn, h.lm, h.lr, h.w, h.h, h.by_⟩
theorem LB.re {H1 : Heap} {a : Option Addr} {cap : Nat} {ls : List LvR} (h : LB w0 H1 G a cap ls) (hn : ∀ b, H1 b = none → H b = none) : LB w0 H G a cap ls := ⟨bld_re h.bld hn, fun z hz => (h.lv z hz).re hn⟩
theorem app_lvn {a : Option Addr} {cap n : Nat} {ls : List LvR} {r c1 : Nat} (hn : ls.length = n) (hB : LB w0 H G a cap ls) (hg : Grow w0 H G) (hr : G r = some ⟨.t 38, zLv.row⟩) (hl : n ≤ 1000)
    (h : ∀ a' cap' G', LB w0 H G' a' cap' (ls ++ [zLv]) → Grow w0 H G' → (∀ d x, G d = some x → (x.ty ≠ .t 38 ∨ H d ≠ none) → G' d = some x) → K (.slice a' (n + 1) cap') G') :
    appQ w0 G K 38 3 40 [.int .i64 0, .int .i64 0, .slice none 0 0] (.slice a n cap) (.slice (some ⟨r, 0, none⟩) 1 c1) := by
  subst hn
  exact app_lv hB hg hr hl h
theorem LvC.keepT {F : Heap} {z : LvR} (h : LvC w0 H G z) (hk : ∀ d x, G d = some x → x.ty = .t 5 → F d = some x) : LvC w0 H F z := by
  refine ⟨?_, h.lm, h.lr, h.w, h.h, h.by_⟩
  rcases h.bld with ⟨b, zz, e, h1, h2, h3, h4⟩ | h'
  · exact .inl ⟨b, zz, e, h1, h2, hk b _ h3 rfl, h4⟩
  · exact .inr h'
theorem putB_len {f : Int} {z : LvR} {n : Nat} (hn : z.w * z.h * sizeI f = (n : Int)) (hl : z.l.length ≤ n) : (putB f z).length = n := by
  unfold putB
  rw [hn, List.length_append, List.length_replicate, Int.toNat_natCast]; omega
theorem putB_by {f : Int} {z : LvR} (h : ∀ b ∈ z.l, 0 ≤ b ∧ b ≤ 255) : ∀ b ∈ putB f z, 0 ≤ b ∧ b ≤ 255 := fun b hb => by
  unfold putB at hb
  rcases List.mem_append.1 hb with hb | hb
  · exact h b hb
  · rw [(List.mem_replicate.1 hb).2]; omega
abbrev zP (f : Int) (z : LvR) (nb n : Nat) : LvR := ⟨z.w, z.h, some ⟨nb, 0, none⟩, n, putB f z⟩
abbrev imB (x : Im) : List Value := [.int .i64 x.f, .slice x.a x.ls.length x.cap, .int .i64 x.s, .int .i64 x.t, .int .i64 x.mn, .int .i64 x.mg]
/-- What stands behind a level that is put. -/
theorem put_done {x y : Im} {lv n j m b nb cap : Nat} {f : Int} {z : LvR} {Hz F : Heap} {zz : List Value} (hE : y.ls.map LvR.core = (x.keep f).map LvR.core) (es : y.s = x.s) (et : y.t = x.t) (en : y.mn = x.mn) (eg : y.mg = x.mg)
    (hC : I64 y.s ∧ I64 y.t ∧ I64 y.mn ∧ I64 y.mg) (hf : I64 f) (hm : y.ls.length = m) (hj : j = lv + 1 - m) (hlv : lv < 7) (hm7 : m ≤ 7) (hz : LvOk w0 H z) (hn : z.w * z.h * sizeI f = (n : Int)) (hl : z.l.length ≤ n) (hn2 : n ≤ 20000)
    (hB : LB w0 Hz G (some ⟨b, 0, none⟩) cap (y.ls ++ List.replicate j zLv)) (hre : ∀ c, Hz c = none → H c = none) (sb : w0.heap.size ≤ b) (hb : Hz b = none) (hzz : ((y.ls ++ List.replicate j zLv).map LvR.row).flatten.length + zz.length = cap * 3)
    (snb : w0.heap.size ≤ nb) (hnb : H nb = none) (fb : F b = some ⟨.t 38, (((y.ls ++ List.replicate j zLv).set lv (zP f z nb n)).map LvR.row).flatten ++ zz⟩) (fnb : F nb = some ⟨.t 5, (putB f z).map fun x => .int .u8 x⟩)
    (hk : ∀ d x, G d = some x → x.ty = .t 5 → F d = some x) (hgF : Grow w0 H F)
    (h : ∀ y H', PutOk x lv f z y → ImC w0 H H' y → Grow w0 H H' → K (.tuple #[y.v, .int .i64 0]) H') :
    K (.tuple #[.agg #[.int .i64 f, .slice (some ⟨b, 0, none⟩) (m + j) cap, .int .i64 y.s, .int .i64 y.t, .int .i64 y.mn, .int .i64 y.mg], .int .i64 0]) F := by
  have hlen : ((y.ls ++ List.replicate j zLv).set lv (zP f z nb n)).length = m + j := by rw [List.length_set, List.length_append, List.length_replicate, hm]
  have hpl := putB_len hn hl
  have hk2 : (x.keep f).length = m := by have := congrArg List.length hE; rw [List.length_map, List.length_map] at this; omega
  have hz' : LvC w0 H F (zP f z nb n) := ⟨.inl ⟨nb, [], rfl, snb, hnb, by rw [List.append_nil]; exact fnb, by rw [List.length_map, hpl]; simp⟩, by show (putB f z).length ≤ _; rw [hpl]; unfold maxLen; omega, by show (putB f z).length ≤ _; rw [hpl]; omega, hz.w, hz.h, putB_by hz.by_⟩
  have hfin := h ⟨f, some ⟨b, 0, none⟩, cap, (y.ls ++ List.replicate j zLv).set lv (zP f z nb n), y.s, y.t, y.mn, y.mg⟩ F ⟨rfl, es, et, en, eg, ?_⟩ ⟨.inl ⟨b, zz, rfl, sb, hre b hb, fb, ?_⟩, fun w hw => ?_, ?_, ?_, hf, hC.1, hC.2.1, hC.2.2.1, hC.2.2.2⟩ hgF
  · unfold Im.v at hfin
    simp only [hlen] at hfin
    exact hfin
  · show ((y.ls ++ List.replicate j zLv).set lv (zP f z nb n)).map LvR.core = _
    rw [List.map_set, List.map_append, hE, List.map_replicate, hk2, ← hj]
    rfl
  · rw [rows_len, hlen, ← hzz, rows_len, List.length_append, List.length_replicate, hm]
  · rcases List.mem_or_eq_of_mem_set hw with h' | h'
    · exact ((hB.lv w h').keepT hk).re hre
    · rw [h']; exact hz'
  · show ((y.ls ++ List.replicate j zLv).set lv (zP f z nb n)).length ≤ _
    rw [hlen]; unfold maxLen; omega
  · show ((y.ls ++ List.replicate j zLv).set lv (zP f z nb n)).length * 40 ≤ _
    rw [hlen]; omega
theorem mks_i {K : Value → Heap → Prop} {e : TypeId} {by_ : Nat} {z : List Value} {k k' : IntKind} {l c : Int} (h0 : 0 ≤ l) (h1 : l ≤ c) (h2 : c ≤ 9223372036854775807) (h3 : by_ * c.toNat ≤ 281474976710656)
    (h : AllocQ w0 G K (fun b => .slice (some ⟨b, 0, none⟩) l.toNat c.toNat) e (zeroL z c.toNat)) : mksQ w0 G K e by_ z (.int k l) (.int k' c) := ⟨h0, h1, h2, h3, h⟩
theorem put_row {ls : List LvR} {lv : Nat} (h : lv < ls.length) (z' : LvR) (zz : List Value) : putAt ((ls.map LvR.row).flatten ++ zz) (lv * 3) z'.row = ((ls.set lv z').map LvR.row).flatten ++ zz := by
  have e : ls = ls.take lv ++ ls[lv] :: ls.drop (lv + 1) := by rw [← List.drop_eq_getElem_cons h, List.take_append_drop]
  have hA : (((ls.take lv).map LvR.row).flatten).length = lv * 3 := by rw [rows_len, List.length_take, Nat.min_eq_left (by omega)]
  have e2 : ls.set lv z' = ls.take lv ++ z' :: ls.drop (lv + 1) := by rw [List.set_eq_take_append_cons_drop, if_pos h]
  have e3 : (ls.map LvR.row).flatten ++ zz = ((ls.take lv).map LvR.row).flatten ++ (ls[lv].row ++ (((ls.drop (lv + 1)).map LvR.row).flatten ++ zz)) := by
    have e4 : ls.map LvR.row = (ls.take lv).map LvR.row ++ ls[lv].row :: (ls.drop (lv + 1)).map LvR.row := by rw [← List.map_cons, ← List.map_append, ← e]
    rw [e4, List.flatten_append, List.flatten_cons, List.append_assoc, List.append_assoc]
  rw [e3, e2, ← hA, putAt_end _ _ _ (by simp [LvR.row])]
  simp [LvR.row]
theorem cpy_new {nb n c xc : Nat} {l : List Int} {xa : Option Addr} (hb : G nb = some ⟨.t 5, zeroL [.int .u8 0] n⟩) (hA : IntsAt w0 G .u8 xa l) (hle : l.length ≤ n)
    (h : K (.int .i64 (l.length : Nat)) (G.set nb ⟨.t 5, (l ++ List.replicate (n - l.length) 0).map fun x => .int .u8 x⟩)) : cpyQ w0 G K 1 (.slice (some ⟨nb, 0, none⟩) n c) (.slice xa l.length xc) := by
  have hs := (SlAt.ints hA).srd
  rw [List.length_map] at hs
  unfold cpyQ
  simp only
  rw [show Nat.min l.length n = l.length from Nat.min_eq_left hle, Nat.mul_one, hs]
  simp only [optQ]
  unfold layQ
  by_cases e : l = []
  · subst e
    rw [if_pos (by simp)]
    have hz : (([] : List Int) ++ List.replicate (n - ([] : List Int).length) 0).map (fun x => Value.int .u8 x) = zeroL [.int .u8 0] n := by rw [zeroL_one]; simp
    rw [hz, Heap.set_id G nb _ hb] at h
    exact h
  · rw [if_neg (by simpa using e)]
    simp only [hb, optQ]
    refine ⟨by simp [Value.oneCell'], by rw [List.length_map, zeroL_one, List.length_replicate]; omega, ?_⟩
    have hp : putAt (zeroL [Value.int .u8 0] n) (0 + 0) (l.map fun x => Value.int .u8 x) = (l ++ List.replicate (n - l.length) 0).map fun x => Value.int .u8 x := by
      have := putAt_end [] (l.map fun x => Value.int .u8 x) (zeroL [Value.int .u8 0] n) (by rw [zeroL_one]; simpa using hle)
      simp only [List.nil_append, List.length_nil] at this
      rw [this, zeroL_one]
      simp
    rw [hp]
    exact h
theorem LB.put {a : Option Addr} {cap lv : Nat} {ls : List LvR} {z' : LvR} (hB : LB w0 H G a cap ls) (hlv : lv < ls.length) (hz : LvC w0 H G z') :
    ∃ b zz, a = some ⟨b, 0, none⟩ ∧ G b = some ⟨.t 38, (ls.map LvR.row).flatten ++ zz⟩ ∧ w0.heap.size ≤ b ∧ H b = none ∧ LB w0 H (G.set b ⟨.t 38, ((ls.set lv z').map LvR.row).flatten ++ zz⟩) a cap (ls.set lv z') := by
  rcases hB.bld with ⟨b, zz, e, h1, h2, h3, h4⟩ | ⟨-, h⟩
  · refine ⟨b, zz, e, h3, h1, h2, .inl ⟨b, zz, e, h1, h2, Heap.set_same _ _ _, ?_⟩, fun z hz' => ?_⟩
    · rw [← h4, rows_len, rows_len, List.length_set]
    · rcases List.mem_or_eq_of_mem_set hz' with h' | h'
      · exact (hB.lv z h').turn h3 (by simp)
      · rw [h']; exact hz.turn h3 (by simp)
  · have := congrArg List.length h
    rw [rows_len] at this
    have h0 : ls.length * 3 = 0 := this
    omega
end Go.Proofs.Ytdaipgnhconfnaa
