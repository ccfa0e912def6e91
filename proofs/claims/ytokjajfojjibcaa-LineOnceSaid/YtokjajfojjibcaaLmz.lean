/- Maps of cells that were met (layer 23). -/
import Derived.WideKeyPair
import Derived.Maps.Keyed
import Derived.Test.YtokjajfojjibcaaHlt
import Derived.Test.YtokjajfojjibcaaProg
set_option linter.unusedSimpArgs false
set_option linter.unusedVariables false
set_option maxRecDepth 100000
set_option maxHeartbeats 1000000
namespace Go.Proofs.Ytokjajfojjibcaa
open Go Go.HL Go.RowKit
variable {w0 : World} {H G : Heap} {K : Value → Heap → Prop}

def cellK (k : Int × Int) : Value := .agg #[.int .i64 k.1, .int .i64 k.2]
theorem cellK_inj {a b : Int × Int} (h : cellK a = cellK b) : a = b := by
  unfold cellK at h
  simp at h
  exact Prod.ext h.1 h.2
def seenL (ks : List (Int × Int)) : List MapEntry := ks.mapIdx fun i k => ⟨cellK k, .bool true, i⟩
/-- The map of the cells that were met. -/
def seenB (ks : List (Int × Int)) : Blk := ⟨.o (.map (seenL ks).toArray ks.length), []⟩
def InK (k : Int × Int) : Prop := (Lit.int .i64 k.1).wf = true ∧ (Lit.int .i64 k.2).wf = true
theorem pair_ok : WideMaps.ArrKey Try.prog 47 3 2 := ⟨by kernel_rfl, by kernel_rfl, by kernel_rfl, by kernel_rfl⟩
theorem key_pair {k : Int × Int} (h : InK k) : ∃ l, Go.keyOf Try.prog 47 (cellK k) = some l :=
  ⟨_, WideMaps.keyOf_pair pair_ok (q := .i64) (by kernel_rfl) ⟨Try.prog.types.size - 1, by kernel_rfl⟩ h.1 h.2⟩
theorem seen_key {ks : List (Int × Int)} {e : MapEntry} (h : e ∈ seenL ks) : ∃ k ∈ ks, e.key = cellK k ∧ e.born < ks.length := by
  unfold seenL at h
  obtain ⟨i, hi, rfl⟩ := List.mem_mapIdx.1 h
  exact ⟨ks[i], List.getElem_mem _, rfl, hi⟩
theorem seen_stamped {ks : List (Int × Int)} (hn : ks.Nodup) : MapKept.Stamped (seenL ks).toArray ks.length := by
  refine ⟨fun x hx => ?_, ?_, ?_⟩
  · obtain ⟨k, -, -, h⟩ := seen_key (by simpa using hx)
    exact h
  · have : (seenL ks).map (·.born) = List.range ks.length := by
      unfold seenL
      apply List.ext_getElem (by simp)
      intro i h1 h2
      simp
    rw [show (seenL ks).toArray.toList = seenL ks from rfl, this]
    exact List.nodup_range
  · have : (seenL ks).map (·.key) = ks.map cellK := by
      unfold seenL
      apply List.ext_getElem (by simp)
      intro i h1 h2
      simp
    rw [show (seenL ks).toArray.toList = seenL ks from rfl, this]
    exact List.Pairwise.map cellK (fun a b h e => h (cellK_inj e)) hn
theorem seen_ok {ks : List (Int × Int)} {k : Int × Int} (hk : ∀ k ∈ ks, InK k) (hn : ks.Nodup) (h : InK k) : KeysOk Try.prog 47 (seenL ks).toArray ks.length (cellK k) :=
  ⟨Maps.Keyed.of_law pair_ok.law, key_pair h, fun e he => by obtain ⟨k, h1, h2, -⟩ := seen_key (by simpa using he); rw [h2]; exact key_pair (hk k h1), seen_stamped hn⟩
theorem lkp_new {φ : Value → Prop} {ok : Bool} {z : Value} {m : Nat} {ks : List (Int × Int)} {k : Int × Int} (hm : H m = some (seenB ks)) (hk : ∀ k ∈ ks, InK k) (hn : ks.Nodup) (h : InK k) (hx : k ∉ ks) (hφ : φ (okV ok z false)) :
    lkpQ Try.prog H φ 47 ok z (.map (some m)) (cellK k) := by
  unfold lkpQ
  simp only [mapAt, hm, seenB, optQ]
  refine ⟨seen_ok hk hn h, fun e he hek => ?_, fun _ => hφ⟩
  obtain ⟨k', h1, h2, -⟩ := seen_key (by simpa using he)
  rw [h2] at hek
  exact absurd (cellK_inj hek ▸ h1) hx
theorem mup_new {m : Nat} {ks : List (Int × Int)} {k : Int × Int} (hm : H m = some (seenB ks)) (hk : ∀ k ∈ ks, InK k) (hn : ks.Nodup) (h : InK k) (hx : k ∉ ks) (hK : K undef (H.set m (seenB (ks ++ [k])))) :
    mupQ Try.prog H K 47 (.map (some m)) (cellK k) (.bool true) := by
  unfold mupQ
  simp only [mapAt, hm, seenB, optQ]
  refine ⟨seen_ok hk hn h, fun j e he hek => ?_, fun _ => ?_⟩
  · obtain ⟨k', h1, h2, -⟩ := seen_key (List.mem_iff_getElem?.2 ⟨j, by simpa using he⟩)
    rw [h2] at hek
    exact absurd (cellK_inj hek ▸ h1) hx
  · have e : (seenL ks).toArray.push ⟨cellK k, .bool true, ks.length⟩ = (seenL (ks ++ [k])).toArray := by
      unfold seenL
      rw [List.mapIdx_concat]
      simp
    have e2 : ks.length + 1 = (ks ++ [k]).length := by simp
    rw [e, e2]
    exact hK
end Go.Proofs.Ytokjajfojjibcaa
