/- A generated image is complete, and generated once more it is the same: the plain law (layer 8). -/
import Derived.Test.YtdaipgnhconfnaaIpka
import Derived.Test.YtdaipgnhconfnaaImx
set_option linter.unusedSimpArgs false
set_option linter.unusedVariables false
set_option maxRecDepth 100000
set_option maxHeartbeats 4000000
namespace Go.Proofs.Ytdaipgnhconfnaa
open Go Go.HL Go.RowKit Pb

def genS : Nat → Int → Int → List (Int × Int)
  | 0, w, h => [(w, h)]
  | n + 1, w, h => if w = 1 ∧ h = 1 then [(w, h)] else (w, h) :: genS n (wdO w : Nat) (wdO h : Nat)
theorem genL_S (f : Int) : ∀ (n : Nat) (c : Core), (genL f n c).map (fun q => (q.1, q.2.1)) = genS n c.1 c.2.1
  | 0, c => rfl
  | n + 1, c => by
    rw [genL, genS]
    split
    · rfl
    · rw [List.map_cons, genL_S f n (nxt f c)]; rfl
theorem genL_head (f : Int) (n : Nat) (c : Core) : (genL f n c)[0]? = some c := by
  cases n with
  | zero => rfl
  | succ n =>
    rw [genL]
    split <;> rfl
theorem genL_g {f : Int} (hs : sizeI f ≠ 0) : ∀ (n : Nat) (c : Core), LvG f c → ∀ q ∈ genL f n c, LvG f q
  | 0, c, g, q, hq => by rw [genL, List.mem_singleton] at hq; rw [hq]; exact g
  | n + 1, c, g, q, hq => by
    rw [genL] at hq
    split at hq
    · rw [List.mem_singleton] at hq; rw [hq]; exact g
    · rcases List.mem_cons.1 hq with rfl | hq
      · exact g
      · exact genL_g hs n _ (nxt_g hs g) q hq
theorem genS_at {w h : Int} (pw : powP w) (ph : powP h) : genS 6 w h = (List.range (cntI w h).toNat).map (fun k => (lvS w k, lvS h k)) ∧ 1 ≤ cntI w h ∧ cntI w h ≤ 7 := by
  unfold powP at pw ph
  rcases pw with rfl | rfl | rfl | rfl | rfl | rfl | rfl <;> rcases ph with rfl | rfl | rfl | rfl | rfl | rfl | rfl <;> decide
theorem map_at {ls : List LvR} {L : List Core} (h : ls.map LvR.core = L) {k : Nat} {u : LvR} (hu : ls[k]? = some u) : L[k]? = some u.core := by
  rw [← h, List.getElem?_map, hu]; rfl
structure GenF (x y : Im) (z y0 : LvR) : Prop where
  gz : x.ls[0]? = some z
  gy : y.ls[0]? = some y0
  co : y0.core = z.core
  sz : sizeI x.f ≠ 0
  lg : LvG x.f z.core
  all : ∀ u ∈ y.ls, LvG x.f u.core
  len : (y.ls.length : Int) = cntI y0.w y0.h
  l7 : y.ls.length ≤ 7
  at_ : ∀ k : Nat, (k : Int) < cntI y0.w y0.h → ∃ u, y.ls[k]? = some u ∧ u.w = lvS y0.w k ∧ u.h = lvS y0.h k
theorem gen_f {x y : Im} (hp : genP x) (h : GenOk x y) : ∃ z y0, GenF x y z y0 := by
  obtain ⟨hr, z, ez, hn, pw, ph⟩ := hp
  obtain ⟨z', ez', hl⟩ := h.ls
  rw [ez] at ez'
  cases ez'
  obtain ⟨s1, s2, s3⟩ := first_side hr ez hn
  have hpos := (List.getElem?_eq_some_iff.1 ez).1
  have hsz : sizeI x.f ≠ 0 := (hr.2.2.1 _ (List.getElem?_eq_getElem (by omega))).1
  have lg : LvG x.f z.core := ⟨pw, ph, s3⟩
  obtain ⟨y0, ey, co⟩ : ∃ y0, y.ls[0]? = some y0 ∧ y0.core = z.core := by
    have := genL_head x.f 6 z.core
    rw [← hl, List.getElem?_map] at this
    cases e : y.ls[0]? with
    | none => rw [e] at this; cases this
    | some u => rw [e] at this; exact ⟨u, rfl, by simpa using this⟩
  have hw : y0.w = z.w := congrArg Prod.fst co
  have hh : y0.h = z.h := congrArg (fun q : Core => q.2.1) co
  have hS : y.ls.map (fun u => (u.w, u.h)) = (List.range (cntI y0.w y0.h).toNat).map (fun k => (lvS y0.w k, lvS y0.h k)) := by
    rw [hw, hh, ← (genS_at pw ph).1]
    have := genL_S x.f 6 z.core
    rw [← hl, List.map_map] at this
    exact this
  have hb := (genS_at pw ph).2
  rw [← hw, ← hh] at hb
  have hlen : y.ls.length = (cntI y0.w y0.h).toNat := by
    have := congrArg List.length hS
    simpa using this
  refine ⟨z, y0, ez, ey, co, hsz, lg, fun u hu => ?_, by omega, by omega, fun k hk => ?_⟩
  · refine genL_g hsz 6 z.core lg u.core ?_
    rw [← hl]; exact List.mem_map_of_mem hu
  · obtain ⟨u, eu⟩ : ∃ u, y.ls[k]? = some u := ⟨_, List.getElem?_eq_getElem (by omega)⟩
    have := congrArg (fun l => l[k]?) hS
    simp only [List.getElem?_map, eu, Option.map_some] at this
    rw [List.getElem?_range (by omega)] at this
    simp only [Option.map_some, Option.some.injEq, Prod.mk.injEq] at this
    exact ⟨u, eu, this.1, this.2⟩
theorem lvg_good {f : Int} {u : LvR} (g : LvG f u.core) : sideP u.w ∧ sideP u.h ∧ (u.l.length : Int) = u.w * u.h * sizeI f ∧ ¬ u.nil := by
  have hw : 1 ≤ u.w ∧ u.w ≤ 64 := pow_b g.w
  have hh : 1 ≤ u.h ∧ u.h ≤ 64 := pow_b g.h
  exact ⟨hw, hh, g.len, fun hn => by unfold LvR.nil at hn; omega⟩
theorem gen_right {x y : Im} (hp : genP x) (h : GenOk x y) : y.right := by
  obtain ⟨z, y0, F⟩ := gen_f hp h
  have hr := hp.1
  have hpos := (List.getElem?_eq_some_iff.1 F.gy).1
  refine ⟨F.l7, fun e => by omega, fun u hu => ⟨by rw [h.f]; exact F.sz, (lvg_good (F.all u (List.mem_of_getElem? hu))).2.2.2⟩, fun u hu => ?_, by rw [h.s]; exact hr.2.2.2.2.1, by rw [h.t]; exact hr.2.2.2.2.2.1, by rw [h.mn]; exact hr.2.2.2.2.2.2.1, by rw [h.mg]; exact hr.2.2.2.2.2.2.2⟩
  have := lvg_good (F.all u hu)
  rw [h.f]
  exact .inr ⟨this.1, this.2.1, this.2.2.1⟩
theorem gen_genP {x y : Im} (hp : genP x) (h : GenOk x y) : genP y := by
  obtain ⟨z, y0, F⟩ := gen_f hp h
  have g := F.all y0 (List.mem_of_getElem? F.gy)
  exact ⟨gen_right hp h, y0, F.gy, (lvg_good g).2.2.2, g.w, g.h⟩
theorem gen_compl {x y : Im} (hp : genP x) (h : GenOk x y) : y.compl := by
  obtain ⟨z, y0, F⟩ := gen_f hp h
  have g := F.all y0 (List.mem_of_getElem? F.gy)
  exact ⟨gen_right hp h, y0, F.gy, (lvg_good g).2.2.2, .inl ⟨g.w, g.h, fun _ => F.at_⟩⟩
theorem gen_again {x y u : Im} (hp : genP x) (h : GenOk x y) (h2 : GenOk y u) : Im.Eqv y u := by
  obtain ⟨z, y0, F⟩ := gen_f hp h
  obtain ⟨z1, e1, l1⟩ := h.ls
  obtain ⟨z2, e2, l2⟩ := h2.ls
  rw [F.gz] at e1
  cases e1
  rw [F.gy] at e2
  cases e2
  exact ⟨h2.f, h2.s, h2.t, h2.mn, h2.mg, by rw [l2, l1, h.f, F.co]⟩
end Go.Proofs.Ytdaipgnhconfnaa
