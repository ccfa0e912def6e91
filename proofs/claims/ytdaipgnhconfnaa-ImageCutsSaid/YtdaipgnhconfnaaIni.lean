/- An image's memory is written over (layer 8). -/
import Derived.Test.YtdaipgnhconfnaaInd
set_option linter.unusedSimpArgs false
set_option linter.unusedVariables false
set_option maxRecDepth 100000
set_option maxHeartbeats 4000000
namespace Go.Proofs.Ytdaipgnhconfnaa
open Go Go.HL Go.RowKit Pb
variable {w0 : World} {H : Heap} {K : Value → Heap → Prop}

/-- Bytes that may be written over. -/
def Wk (w0 : World) (Hb G : Heap) (z : LvR) : Prop :=
  z.l.length = 0 ∨ ∃ bz cs, z.a = some ⟨bz, 0, none⟩ ∧ w0.heap.size ≤ bz ∧ Hb bz = none ∧ G bz = some ⟨.t 5, cs⟩ ∧ ∀ i, i < z.l.length → ∃ n, cs[i]? = some (.int .u8 n)
theorem LvC.wk {Hb G : Heap} {z : LvR} (h : LvC w0 Hb G z) : Wk w0 Hb G z := by
  rcases h.bld with ⟨b, zz, e, h1, h2, h3, h4⟩ | ⟨h1, h2⟩
  · refine .inr ⟨b, _, e, h1, h2, h3, fun i hi => ⟨z.l[i], ?_⟩⟩
    rw [List.getElem?_append_left (by simpa using hi), List.getElem?_map, List.getElem?_eq_getElem hi]
    rfl
  · left; simpa using h2
structure SpOk (w0 : World) (Hb : Heap) (y : Im) (bx b : Nat) (Y : List Value) (G : Heap) : Prop where
  g : Grow w0 Hb G
  box : G bx = some ⟨.t 24, Y⟩
  rows : ∃ cs, G b = some ⟨.t 38, cs⟩ ∧ ∀ i z, y.ls[i]? = some z → i * 3 + 2 < cs.length ∧ cs[i * 3 + 2]? = some (.slice z.a z.l.length z.cap)
  wk : ∀ z ∈ y.ls, Wk w0 Hb G z
theorem Wk.byte {Hb G : Heap} {z : LvR} (h : Wk w0 Hb G z) {c k : Nat} {cs : List Value} {v : Int} (hc : G c = some ⟨.t 5, cs⟩) : Wk w0 Hb (G.set c ⟨.t 5, cs.set k (.int .u8 v)⟩) z := by
  rcases h with h | ⟨bz, ds, e, h1, h2, h3, h4⟩
  · exact .inl h
  · by_cases hb : bz = c
    · subst hb
      rw [hc] at h3
      cases h3
      refine .inr ⟨bz, _, e, h1, h2, Heap.set_same _ _ _, fun i hi => ?_⟩
      obtain ⟨n, hn⟩ := h4 i hi
      rw [List.getElem?_set]
      split
      · split
        · exact ⟨v, rfl⟩
        · rename_i hik hl
          subst hik
          exact absurd (List.getElem?_eq_some_iff.1 hn).1 hl
      · exact ⟨n, hn⟩
    · exact .inr ⟨bz, ds, e, h1, h2, by rw [Heap.set_other _ _ hb]; exact h3, h4⟩
theorem Wk.other {Hb G : Heap} {z : LvR} (h : Wk w0 Hb G z) {c : Nat} {t : TypeId} {cs : List Value} {x : Blk} (hc : G c = some ⟨t, cs⟩) (ht : 5 ≠ t) : Wk w0 Hb (G.set c x) z := by
  rcases h with h | ⟨bz, ds, e, h1, h2, h3, h4⟩
  · exact .inl h
  · exact .inr ⟨bz, ds, e, h1, h2, by rw [Heap.set_other _ _ (fun hb => by subst hb; rw [h3] at hc; cases hc; exact ht rfl)]; exact h3, h4⟩
theorem SpOk.byte {Hb G : Heap} {y : Im} {bx b c k : Nat} {Y cs : List Value} {v : Int} (h : SpOk w0 Hb y bx b Y G) (hc : G c = some ⟨.t 5, cs⟩) (hn : Hb c = none) (hs : w0.heap.size ≤ c) : SpOk w0 Hb y bx b Y (G.set c ⟨.t 5, cs.set k (.int .u8 v)⟩) := by
  obtain ⟨ds, h1, h2⟩ := h.rows
  refine ⟨h.g.set hs hn, ?_, ⟨ds, ?_, h2⟩, fun z hz => (h.wk z hz).byte hc⟩
  · rw [Heap.set_other _ _ (fun e => by subst e; rw [h.box] at hc; cases hc)]; exact h.box
  · rw [Heap.set_other _ _ (fun e => by subst e; rw [h1] at hc; cases hc)]; exact h1
theorem SpOk.row {Hb G : Heap} {y : Im} {bx b k : Nat} {Y cs : List Value} {v : Value} (h : SpOk w0 Hb y bx b Y G) (hc : G b = some ⟨.t 38, cs⟩) (hn : Hb b = none) (hs : w0.heap.size ≤ b) : SpOk w0 Hb y bx b Y (G.set b ⟨.t 38, cs.set (k * 3) v⟩) := by
  obtain ⟨ds, h1, h2⟩ := h.rows
  rw [hc] at h1
  cases h1
  refine ⟨h.g.set hs hn, ?_, ⟨_, Heap.set_same _ _ _, fun i z hz => ?_⟩, fun z hz => (h.wk z hz).other hc (by simp)⟩
  · rw [Heap.set_other _ _ (fun e => by subst e; rw [h.box] at hc; cases hc)]; exact h.box
  · obtain ⟨q1, q2⟩ := h2 i z hz
    exact ⟨by rw [List.length_set]; exact q1, by rw [List.getElem?_set_ne (by omega)]; exact q2⟩
end Go.Proofs.Ytdaipgnhconfnaa
