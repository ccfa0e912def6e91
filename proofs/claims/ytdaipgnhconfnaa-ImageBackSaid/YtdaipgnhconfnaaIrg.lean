/- What a piece that is put changes, and what it does not: the plain law (layer 8). -/
import Derived.Test.YtdaipgnhconfnaaIrf
import Derived.Test.YtdaipgnhconfnaaInh
import Derived.Test.YtdaipgnhconfnaaImx
set_option linter.unusedSimpArgs false
set_option linter.unusedVariables false
set_option maxRecDepth 100000
namespace Go.Proofs.Ytdaipgnhconfnaa
open Go Go.HL Go.RowKit Pb

def shp (u : LvR) : Int × Int × Nat := (u.w, u.h, u.l.length)
structure Shape (x y : Im) : Prop where
  f : y.f = x.f
  s : y.s = x.s
  t : y.t = x.t
  mn : y.mn = x.mn
  mg : y.mg = x.mg
  ls : y.ls.map shp = x.ls.map shp
theorem Shape.symm {x y : Im} (h : Shape x y) : Shape y x := ⟨h.f.symm, h.s.symm, h.t.symm, h.mn.symm, h.mg.symm, h.ls.symm⟩
theorem Shape.len {x y : Im} (h : Shape x y) : y.ls.length = x.ls.length := by have := congrArg List.length h.ls; simpa using this
theorem shp_eq {u v : LvR} (h : shp u = shp v) : u.w = v.w ∧ u.h = v.h ∧ u.l.length = v.l.length := by
  unfold shp at h
  exact ⟨congrArg Prod.fst h, congrArg (fun q : Int × Int × Nat => q.2.1) h, congrArg (fun q : Int × Int × Nat => q.2.2) h⟩
theorem shp_get {x y : Im} (h : Shape x y) {k : Nat} {u : LvR} (hu : y.ls[k]? = some u) : ∃ v, x.ls[k]? = some v ∧ shp v = shp u := by
  have e := congrArg (fun l => l[k]?) h.ls
  simp only [List.getElem?_map, hu, Option.map_some] at e
  cases hv : x.ls[k]? with
  | none => rw [hv] at e; cases e
  | some v => rw [hv] at e; exact ⟨v, rfl, by simpa using e.symm⟩
theorem nil_shp {u v : LvR} (h : shp u = shp v) : u.nil ↔ v.nil := by
  obtain ⟨a, b, c⟩ := shp_eq h
  unfold LvR.nil; rw [a, b, c]
theorem good_shp {u v : LvR} {f : Int} (h : shp u = shp v) : u.good f ↔ v.good f := by
  obtain ⟨a, b, c⟩ := shp_eq h
  unfold LvR.good
  rw [nil_shp h, a, b, c]
theorem right_shp {x y : Im} (h : Shape x y) (r : x.right) : y.right := by
  obtain ⟨r1, r2, r3, r4, r5, r6, r7, r8⟩ := r
  have hl := h.len
  refine ⟨by omega, fun e => by rw [h.f]; exact r2 (by omega), fun u hu => ?_, fun u hu => ?_, by rw [h.s]; exact r5, by rw [h.t]; exact r6, by rw [h.mn]; exact r7, by rw [h.mg]; exact r8⟩
  · obtain ⟨v, hv, e⟩ := shp_get h hu
    rw [hl] at hv
    have := r3 v hv
    exact ⟨by rw [h.f]; exact this.1, fun q => this.2 ((nil_shp e).2 q)⟩
  · obtain ⟨k, hk⟩ := List.mem_iff_getElem?.1 hu
    obtain ⟨v, hv, e⟩ := shp_get h hk
    rw [h.f]
    exact (good_shp e).1 (r4 v (List.mem_of_getElem? hv))
theorem compl_shp {x y : Im} (h : Shape x y) (c : x.compl) : y.compl := by
  obtain ⟨hr, a, ea, hn, hcase⟩ := c
  obtain ⟨b, eb, hb⟩ := shp_get h.symm ea
  obtain ⟨h1, h2, h3⟩ := shp_eq hb
  refine ⟨right_shp h hr, b, eb, fun hh => hn ((nil_shp hb).1 hh), ?_⟩
  unfold Im.mip Im.lvls at *
  rw [h1, h2, h.s, h.t, h.mn]
  rcases hcase with ⟨p1, p2, hl⟩ | hc
  · refine .inl ⟨p1, p2, fun hm k hk => ?_⟩
    obtain ⟨z, ez, e1, e2⟩ := hl hm k hk
    obtain ⟨z', ez', hz'⟩ := shp_get h.symm ez
    obtain ⟨q1, q2, -⟩ := shp_eq hz'
    exact ⟨z', ez', by rw [q1, e1], by rw [q2, e2]⟩
  · exact .inr hc
theorem lenSum_shp : ∀ {a b : List LvR}, a.map shp = b.map shp → lenSum a = lenSum b
  | [], [], _ => rfl
  | [], _ :: _, h => by simp at h
  | _ :: _, [], h => by simp at h
  | x :: a, y :: b, h => by
    simp only [List.map_cons, List.cons.injEq] at h
    simp only [lenSum, lenSum_shp h.2, (shp_eq h.1).2.2]
theorem cost_shp {x y : Im} (h : Shape x y) : costI y = costI x := by
  unfold costI
  by_cases hr : x.right
  · rw [if_pos hr, if_pos (right_shp h hr), lenSum_shp h.ls]
  · rw [if_neg hr, if_neg (fun hh => hr (right_shp h.symm hh))]
theorem sub_shape {x y : Im} {lv : Int} {p : Pc} {k : Nat} {z : LvR} {b : List Int} {S W V X Y P Q : Nat} (f : FindOk x lv p k z) (g : PG z x.f p S W V X Y P Q) (hb : b.length = P * Q * S) (h : SubOk x k z b S W X Y P Q y) : Shape x y := by
  have hl := subB_len (l := z.l) (b := b) (S := S) (W := W) (X := X) (Y := Y) (P := P) (Q := Q) (by rw [hb, Nat.mul_comm P Q, Nat.mul_assoc]) (fun j hj => (seg_b g hj).1) Q (Nat.le_refl _)
  refine ⟨h.f, h.s, h.t, h.mn, h.mg, ?_⟩
  have e := congrArg (fun l : List (Int × Int × List Int) => l.map fun c => (c.1, c.2.1, c.2.2.length)) h.ls
  simp only [List.map_map, List.map_set] at e
  have e1 : y.ls.map shp = (x.ls.map shp).set k (z.w, z.h, (subB z.l b S W X Y P Q).length) := e
  rw [e1, hl]
  apply List.ext_getElem?
  intro i
  rw [List.getElem?_set]
  split
  · rename_i q; subst q
    rw [List.length_map, if_pos (List.getElem?_eq_some_iff.1 f.at_).1, List.getElem?_map, f.at_]; rfl
  · rfl
theorem sub_find {x y : Im} {lv : Int} {p : Pc} {k : Nat} {z : LvR} {b : List Int} {S W V X Y P Q : Nat} (f : FindOk x lv p k z) (g : PG z x.f p S W V X Y P Q) (hb : b.length = P * Q * S) (h : SubOk x k z b S W X Y P Q y) :
    ∃ u, FindOk y lv p k u ∧ PG u y.f p S W V X Y P Q ∧ u.core = (z.w, z.h, subB z.l b S W X Y P Q) := by
  have sh := sub_shape f g hb h
  have kl := (List.getElem?_eq_some_iff.1 f.at_).1
  have hl := subB_len (l := z.l) (b := b) (S := S) (W := W) (X := X) (Y := Y) (P := P) (Q := Q) (by rw [hb, Nat.mul_comm P Q, Nat.mul_assoc]) (fun j hj => (seg_b g hj).1) Q (Nat.le_refl _)
  obtain ⟨u, eu⟩ : ∃ u, y.ls[k]? = some u := ⟨_, List.getElem?_eq_getElem (by rw [sh.len]; exact kl)⟩
  have hc : u.core = (z.w, z.h, subB z.l b S W X Y P Q) := by
    have e := congrArg (fun l => l[k]?) h.ls
    simp only [List.getElem?_map, eu, Option.map_some] at e
    rw [List.getElem?_set, if_pos rfl, List.length_map, if_pos kl] at e
    simpa using e
  have uw : u.w = z.w := congrArg Prod.fst hc
  have uh : u.h = z.h := congrArg (fun q : Int × Int × List Int => q.2.1) hc
  have ul : u.l = subB z.l b S W X Y P Q := congrArg (fun q : Int × Int × List Int => q.2.2) hc
  have su : shp u = shp z := by unfold shp; rw [uw, uh, ul, hl]
  refine ⟨u, ⟨right_shp sh f.r, f.e, eu, fun q => f.nn ((nil_shp su).1 q), ?_⟩, ?_, hc⟩
  · have := f.pc
    unfold pcIn at this ⊢
    rw [uw, uh]; exact this
  · exact ⟨by rw [uw]; exact g.w, by rw [uh]; exact g.h, by rw [h.f]; exact g.s, g.s1, by rw [ul, hl]; exact g.len, g.wb, g.vb, g.px, g.py, g.pw, g.ph, g.xw, g.yh⟩
/-- What was there, put back. -/
theorem sub_again {x y w : Im} {lv : Int} {p : Pc} {k : Nat} {z u : LvR} {b : List Int} {S W V X Y P Q : Nat} (f : FindOk x lv p k z) (g : PG z x.f p S W V X Y P Q) (hb : b.length = P * Q * S) (h : SubOk x k z b S W X Y P Q y)
    (hc : u.core = (z.w, z.h, subB z.l b S W X Y P Q)) (h2 : SubOk y k u (pieceB z.l S W X Y P Q) S W X Y P Q w) : Im.Eqv w x := by
  have hbk := sub_back (l := z.l) (b := b) (S := S) (W := W) (X := X) (Y := Y) (P := P) (Q := Q) (by have := g.xw; omega) (by rw [hb, Nat.mul_comm P Q, Nat.mul_assoc]) (fun j hj => (seg_b g hj).1)
  have uw : u.w = z.w := congrArg Prod.fst hc
  have uh : u.h = z.h := congrArg (fun q : Int × Int × List Int => q.2.1) hc
  have ul : u.l = subB z.l b S W X Y P Q := congrArg (fun q : Int × Int × List Int => q.2.2) hc
  refine Im.Eqv.symm ⟨h2.f.trans h.f, h2.s.trans h.s, h2.t.trans h.t, h2.mn.trans h.mn, h2.mg.trans h.mg, ?_⟩
  rw [h2.ls, h.ls, ul, hbk, List.set_set, uw, uh]
  apply List.ext_getElem?
  intro i
  rw [List.getElem?_set]
  split
  · rename_i q; subst q
    rw [List.length_map, if_pos (List.getElem?_eq_some_iff.1 f.at_).1, List.getElem?_map, f.at_]; rfl
  · rfl
theorem find_cases (x : Im) (lv : Int) (p : Pc) : (∃ e, FindE x lv p e) ∨ ∃ k z, FindOk x lv p k z := by
  by_cases hr : x.right
  · by_cases h1 : lv < 0
    · exact .inl ⟨_, .low hr h1⟩
    · by_cases h2 : (x.ls.length : Int) ≤ lv
      · exact .inl ⟨_, .high hr (by omega) h2⟩
      · have hk : lv = (lv.toNat : Int) := by omega
        obtain ⟨z, ez⟩ : ∃ z, x.ls[lv.toNat]? = some z := ⟨_, List.getElem?_eq_getElem (by omega)⟩
        by_cases hn : z.nil
        · exact .inl ⟨_, .none _ z hr hk ez hn⟩
        · by_cases hp : pcIn z p
          · exact .inr ⟨_, z, hr, hk, ez, hn, hp⟩
          · exact .inl ⟨_, .arg _ z hr hk ez hn hp⟩
  · exact .inl ⟨_, .image hr⟩
end Go.Proofs.Ytdaipgnhconfnaa
