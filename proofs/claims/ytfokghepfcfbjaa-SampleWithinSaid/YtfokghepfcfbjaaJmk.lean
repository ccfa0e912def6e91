/- The statements on repeats and on middles, as calls (layer 9). -/
import Derived.Test.YtfokghepfcfbjaaJmj
set_option linter.unusedSimpArgs false
set_option linter.unusedVariables false
set_option maxRecDepth 100000
set_option maxHeartbeats 8000000
namespace Go.Proofs.Ytfokghepfcfbjaa
open Go.HL Go.RowKit Pb
variable {w0 : World} {H H' : Heap} {K : Value → Heap → Prop}

abbrev AtV (u v lod n i j : Int) : Value := .agg #[.int .i32 u, .int .i32 v, .int .i32 lod, .int .i64 n, .int .i64 i, .int .i64 j]
theorem c_Colours (x : Im) (hx : ImOk w0 H x) (n : Int) : ∃ (e : Int) (L N : Int → Int → Nat → Int),
    (∀ (G : Heap) (K : Value → Heap → Prop) (u v : Int), I32 u → I32 v → Grow w0 H G → K (.tuple #[V4 (L u v), .int .i64 e]) G → HCalls Try.prog w0 22 [x.v, .int .i64 n, .int .i32 u, .int .i32 v] G K) ∧
    (∀ (G : Heap) (K : Value → Heap → Prop) (u v : Int), I32 u → I32 v → Grow w0 H G → K (.tuple #[V4 (N u v), .int .i64 e]) G → HCalls Try.prog w0 21 [x.v, .int .i64 n, .int .i32 u, .int .i32 v] G K) ∧
    ((∀ u v, L u v = fun _ => 0) ∧ (∀ u v, N u v = fun _ => 0) ∧ e ≠ 0 ∨ e = 0 ∧ ∃ (k : Nat) (y : LvR), n = k ∧ x.ls[k]? = some y ∧ x.right ∧ 0 < y.w ∧ Lvl w0 H x y ∧ (∀ u v, L u v = linI x y u v) ∧ ∀ u v, N u v = colI x y (nearP y.w u) (nearP y.h v)) := by
  by_cases hr : x.right
  · by_cases hn : x.has n
    · obtain ⟨k, y, rfl, ek, hw⟩ := hn
      have hl := lvl_of hr hx ek hw
      exact ⟨0, fun u v => linI x y u v, fun u v => colI x y (nearP y.w u) (nearP y.h v), fun G K u v hu hv g hk => c_Linear_ok x (hx.grow g) k y u v hu hv hr ek hw hk,
        fun G K u v hu hv g hk => c_Nearest_ok x (hx.grow g) k y u v hu hv hr ek hw hk, .inr ⟨rfl, k, y, rfl, ek, hr, hw, hl, fun _ _ => rfl, fun _ _ => rfl⟩⟩
    · exact ⟨4, fun _ _ _ => 0, fun _ _ _ => 0, fun G K u v hu hv g hk => c_Linear_none x (hx.grow g) n u v hr hn hk, fun G K u v hu hv g hk => c_Nearest_none x (hx.grow g) n u v hr hn hk, .inl ⟨fun _ _ => rfl, fun _ _ => rfl, by decide⟩⟩
  · exact ⟨180, fun _ _ _ => 0, fun _ _ _ => 0, fun G K u v hu hv g hk => c_Linear_bad x (hx.grow g) n u v hr hk, fun G K u v hu hv g hk => c_Nearest_bad x (hx.grow g) n u v hr hk, .inl ⟨fun _ _ => rfl, fun _ _ => rfl, by decide⟩⟩
end Go.Proofs.Ytfokghepfcfbjaa
