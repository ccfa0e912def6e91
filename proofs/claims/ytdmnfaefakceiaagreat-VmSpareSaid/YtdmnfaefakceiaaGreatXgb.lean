/- Vxd Vxe Vxi Vxj Vxf Vxk Vxg Vxl -/
import Derived.Test.YtdmnfaefakceiaaGreatXga
import Derived.Test.YtdmnfaefakceiaaGreatSgd
import Derived.Test.YtdmnfaefakceiaaGreatCeg
section
/- What an instruction writes: textures (layer 18). -/
set_option linter.unusedSimpArgs false
set_option linter.unusedVariables false
set_option maxRecDepth 100000
set_option maxHeartbeats 4000000
namespace Go.Proofs.YtdmnfaefakceiaaGreat
open Go.HL Go.RowKit Pb
variable {w0 : World} {H G : Heap} {K : Value → Heap → Prop}

def one4 : V4 := ⟨0, 0, 0, 65536⟩
open Classical in
/-- The colour of an image at a place. -/
noncomputable def atR (x : Sm.Im) (u v : Int) : V4 := if x.compl then (match x.ls[0]? with | some y => V4.of (Sm.atV x y y u v 0) | none => V4.z) else one4
open Classical in
/-- What a texture comes to. -/
noncomputable def texR (ims : List Sm.Im) (n u v : Int) : V4 := if 0 ≤ n ∧ n < (ims.length : Int) then (match ims[n.toNat]? with | some x => if x.right then atR x u v else one4 | none => one4) else one4
theorem c_AtR (x : Sm.Im) (hx : Sm.ImOk w0 H x) (u v : Int) (hu : I32 u) (hv : I32 v) (hr : x.right) (h : K (.tuple #[(atR x u v).v, .int .i64 0]) H) : HCalls Tryz.prog w0 127 [x.v, .int .i32 u, .int .i32 v, .int .i32 0] H K := by
  by_cases hc : x.compl
  · obtain ⟨y, z, n, F⟩ := Sm.at_of_compl hx hc 0
    have e : atR x u v = V4.of (Sm.atV x y z u v 0) := by
      unfold atR
      rw [if_pos hc, F.ey]
      simp [Sm.atV]
    rw [e] at h
    exact Sm.c_At_ok x hx y z n u v 0 hu hv (by unfold Sm.I32; omega) F h
  · have e : atR x u v = one4 := by unfold atR; rw [if_neg hc]
    rw [e] at h
    exact Sm.c_At_not x hx u v 0 hr hc h
def imRow (x : Sm.Im) : List Value := [.int .i64 x.f, .slice x.a x.ls.length x.cap, .int .i64 x.s, .int .i64 x.t, .int .i64 x.mn, .int .i64 x.mg]
structure ImgAt (w0 : World) (H : Heap) (e : Evr) (ims : List Sm.Im) : Prop where
  n : e.il = ims.length
  a : SlAt w0 H e.ia (ims.map imRow).flatten
  ok : ∀ x ∈ ims, Sm.ImOk w0 H x
theorem ImgAt.grow {e : Evr} {ims : List Sm.Im} (h : ImgAt w0 H e ims) (g : Grow w0 H G) : ImgAt w0 G e ims := ⟨h.n, h.a.grow g, fun x hx => (h.ok x hx).grow g⟩
section
variable {tm tr : Kd} {bm br : Nat} {e : Evr} {rs : Res} {rg : List V4} {ims : List Sm.Im}
def A147_1 : PT := (.one true 0 [] ⟨(some 26), .mv (.tmp 0), none⟩ (.one true 1 [] ⟨(some 27), .nilc (.tmp 26), none⟩ (.one true 2 [] ⟨(some 28), .fa 0 (.tmp 27), none⟩ (.one true 3 [] ⟨(some 29), .fa 12 (.tmp 28), none⟩ (.one true 4 [] ⟨(some 30), .ld1 (.tmp 29), none⟩ (.one true 5 [] ⟨(some 31), .mv (.tmp 7), none⟩ (.one true 6 [] ⟨(some 32), .is 6 (.tmp 30) (.tmp 31), none⟩ (.one true 7 [] ⟨(some 33), .ldn 6 (.tmp 32), none⟩ (.one true 8 [] ⟨(some 34), .ia 4 1 (.tmp 5) (.const (.int .i64 0)), none⟩ (.one true 9 [] ⟨(some 35), .ld1 (.tmp 34), none⟩ (.one true 10 [] ⟨(some 36), .ia 4 1 (.tmp 5) (.const (.int .i64 1)), none⟩ (.one true 11 [] ⟨(some 37), .ld1 (.tmp 36), none⟩ (.alt (.one false 12 [13, 14, 15, 14, 15] ⟨(some 38), .call 127 [(.tmp 33), (.tmp 35), (.tmp 37), (.const (.int .i32 0))], none⟩ (.one true 13 [] ⟨(some 25), .mv (.tmp 38), none⟩ (.one true 14 [] ⟨(some 39), .ext 0 (.tmp 25), none⟩ (.one true 15 [] ⟨(some 40), .ext 1 (.tmp 25), none⟩ (.one false 16 [13, 14, 15, 14, 15] ⟨(some 8), .alloc 28 [(.int .i32 0), (.int .i32 0), (.int .i32 0), (.int .i32 0)], none⟩ (.one false 17 [15, 15] ⟨none, .stn 4 (.tmp 8) (.tmp 39), none⟩ (.one false 18 [] ⟨(some 9), .mv (.tmp 40), none⟩ .nil)))))))
      (.one false 16 [0, 1, 2, 3, 4, 5, 6, 7, 8, 9, 10, 11, 13, 14, 15, 14, 15] ⟨(some 8), .alloc 28 [(.int .i32 0), (.int .i32 0), (.int .i32 0), (.int .i32 0)], none⟩ (.one false 12 [13, 14, 15, 14, 15] ⟨(some 38), .call 127 [(.tmp 33), (.tmp 35), (.tmp 37), (.const (.int .i32 0))], none⟩ (.one false 13 [13, 14, 15, 14, 15] ⟨(some 25), .mv (.tmp 38), none⟩ (.one true 14 [] ⟨(some 39), .ext 0 (.tmp 25), none⟩ (.one true 15 [] ⟨(some 40), .ext 1 (.tmp 25), none⟩ (.one false 17 [15, 15] ⟨none, .stn 4 (.tmp 8) (.tmp 39), none⟩ (.one false 18 [] ⟨(some 9), .mv (.tmp 40), none⟩ .nil))))))))))))))))))))
/- (*paintbox/vm machine) texture -/
def M147 : MC :=
  .seq (.reg [oX 4 (.box 28 (.tmp 1)),
 oX 5 (.box 28 (.tmp 2)),
 oX 6 (.alloc 28 [(.int .i32 0),(.int .i32 0),(.int .i32 0),(.int .i32 0)])])
 (.seq (.seq (.reg [oX 10 (.ia 4 1 (.tmp 4) (kX 0)),
 oX 11 (.ld1 (.tmp 10)),
 oX 12 (.conv .i64 (.tmp 11)),
 vX 7 12])
 (.seq (.reg [vX 13 7,
 oX 14 (bK .geq 13 0),
 vX 15 14,
 ⟨(some 16),.mv (.tmp 7),(some (15,true))⟩,
 ⟨(some 17),.mv (.tmp 0),(some (15,true))⟩,
 ⟨(some 18),.nilc (.tmp 17),(some (15,true))⟩,
 ⟨(some 19),.fa 0 (.tmp 18),(some (15,true))⟩,
 ⟨(some 20),.fa 12 (.tmp 19),(some (15,true))⟩,
 ⟨(some 21),.ld1 (.tmp 20),(some (15,true))⟩,
 ⟨(some 22),.len (.tmp 21),(some (15,true))⟩,
 ⟨(some 23),bX .lss 16 22,(some (15,true))⟩,
 oX 24 (.pick (.tmp 15) (.tmp 23) (.const (.bool false)))])
 (.cond (.tmp 24)
 (.seq (.alts A147_1)
 (.seq (.reg [vX 41 9,
 oX 42 (bK .eql 41 0)])
 (.cond (.tmp 42)
 (.seq (.reg [oX 43 (.ldn 4 (.tmp 8)),
 ⟨none,.stn 4 (.tmp 6) (.tmp 43),none⟩])
 (.ret))
 (.skip))))
 (.skip))))
 (.seq (.reg [oX 44 (.build [(.int .i32 0),(.int .i32 0),(.int .i32 0),(.int .i32 0)] [(3,1,(.const (.int .i32 65536)))]),
 ⟨none,.stn 4 (.tmp 6) (.tmp 44),none⟩])
 (.ret)))
theorem k147 : fnOk Tryz.prog 147 = some (M147, [.cn 4 6], 45) := by kernel_rfl

theorem c_texNo (M : MS w0 H tm tr bm br e rs rg) (a b : V4) (Ia : a.I) (hn : a.a < 0 ∨ (¬ a.a < 0 ∧ (e.il : Int) ≤ a.a)) (h : K one4.v H) : HCalls Tryz.prog w0 147 [.pointer (some ⟨bm, 0, none⟩), a.v, b.v] H K := by
  have wa : IntKind.i64.wrap a.a = a.a := Ia.1.w64
  have hr := rd_blk (w0 := w0) M.m
  unfold mRow Evr.row Res.row at hr
  simp only [List.cons_append, List.nil_append] at hr
  have f1 := blkn M.m
  have hq : ¬ 0 ≤ a.a ∨ (0 ≤ a.a ∧ ¬ a.a < (e.il : Int)) := by omega
  unfold one4 V4.v V4.row at h
  unfold V4.v V4.row
  replace h : Keep _ := h
  clear M Ia hn
  rcases hq with q1 | ⟨q1, q2⟩
  all_goals
    refine HL.hc k147 999 ?_; unfold M147
    (all_goals (try simp only [S0,putAt,List.replicate,Int.reduceAdd,Int.reduceSub,Int.reduceMul,Int.reduceTDiv,Int.reduceTMod,Int.reduceMod,Int.reduceDiv,Nat.reduceLT,Nat.reduceEqDiff,Int.reduceLE,Int.reduceLT,Int.reduceToNat,Int.reduceNeg,Int.reduceEq,Nat.reduceLeDiff,Nat.reducePow,Int.reducePow,reduceIte,Nat.reduceSub,Nat.reduceAdd,Nat.reduceMul, *])); repeat' ((first | (with_reducible refine fun _ : True => ?_) | (with_reducible refine any_h ?_) | ((first | refine AllocQ_i ?_ | refine AllocO_i ?_); intro bk hb0 hbk; (try simp only [set_none'] at hbk)) | ((first | refine condS_i ?_ ?_ | refine pick_i ?_ ?_ | refine gS_it ?_ ?_ | refine gS_if ?_ ?_ | refine gP_it ?_ ?_ | refine gP_if ?_ ?_) <;> (intro hc; try simp only [Int.reduceLE,Int.reduceLT,Int.reduceEq,Sn] at hc)) | (with_reducible refine KP_i ?_ ?_; · exact aL) | (with_reducible refine And.intro ?_ ?_)) <;> (try simp only [S0,putAt,List.replicate,Int.reduceAdd,Int.reduceSub,Int.reduceMul,Int.reduceTDiv,Int.reduceTMod,Int.reduceMod,Int.reduceDiv,Nat.reduceLT,Nat.reduceEqDiff,Int.reduceLE,Int.reduceLT,Int.reduceToNat,Int.reduceNeg,Int.reduceEq,Nat.reduceLeDiff,Nat.reducePow,Int.reducePow,reduceIte,Nat.reduceSub,Nat.reduceAdd,Nat.reduceMul, *]))
    exact Fin_mk aL h
theorem c_texYes (M : MS w0 H tm tr bm br e rs rg) (hi : ImgAt w0 H e ims) (a b : V4) (Ia : a.I) (Ib : b.I) {k : Nat} {x : Sm.Im} (ek : a.a = (k : Int)) (hx : ims[k]? = some x) (q : V4) (er : Int)
    (hcall : ∀ (G : Heap) (K' : Value → Heap → Prop), Grow w0 H G → K' (.tuple #[q.v, .int .i64 er]) G → HCalls Tryz.prog w0 127 [x.v, .int .i32 b.a, .int .i32 b.b, .int .i32 0] G K')
    (h : (er = 0 ∧ K q.v H) ∨ (¬ er = 0 ∧ K one4.v H)) : HCalls Tryz.prog w0 147 [.pointer (some ⟨bm, 0, none⟩), a.v, b.v] H K := by
  have wa : IntKind.i64.wrap (k : Int) = (k : Int) := by rw [← ek]; exact Ia.1.w64
  have hr := rd_blk (w0 := w0) M.m
  unfold mRow Evr.row Res.row at hr
  simp only [List.cons_append, List.nil_append] at hr
  have f1 := blkn M.m
  have hlt := (List.getElem?_eq_some_iff.1 hx).1
  rw [← hi.n] at hlt
  obtain ⟨bi, oi, ei, hri, f2⟩ := hi.a.row (rows := ims.map imRow) (sz := 6) (fun r hr => by obtain ⟨j, -, rfl⟩ := List.mem_map.1 hr; rfl) (by decide) (i := k) (r := imRow x) (by rw [List.getElem?_map, hx]; rfl)
  have t0 : (k : Int) < (e.il : Int) := by omega
  have t1 : (0 : Int) ≤ (k : Int) := by omega
  have t3 : ((k : Nat) : Int).toNat = k := rfl
  obtain ⟨q0, q1, q2, q3⟩ := q
  obtain ⟨a0, a1, a2, a3⟩ := a
  simp only at ek
  subst ek
  unfold one4 V4.v V4.row at h
  unfold V4.v V4.row at hcall
  unfold Sm.Im.v at hcall
  unfold imRow at hri
  simp only at h hcall
  unfold V4.v V4.row
  replace h : Keep _ := h
  replace hcall : Keep _ := hcall
  have hm := M.m
  clear M Ia Ib hi hx hlt
  refine HL.hc k147 3000 ?_; unfold M147
  (all_goals (try simp only [S0,putAt,List.replicate,Int.reduceAdd,Int.reduceSub,Int.reduceMul,Int.reduceTDiv,Int.reduceTMod,Int.reduceMod,Int.reduceDiv,Nat.reduceLT,Nat.reduceEqDiff,Int.reduceLE,Int.reduceLT,Int.reduceToNat,Int.reduceNeg,Int.reduceEq,Nat.reduceLeDiff,Nat.reducePow,Int.reducePow,reduceIte,Nat.reduceSub,Nat.reduceAdd,Nat.reduceMul, *])); repeat' ((first | (with_reducible refine fun _ : True => ?_) | ((first | refine AllocQ_i ?_ | refine AllocO_i ?_); intro bk hb0 hbk; (try simp only [set_none'] at hbk)) | ((first | refine condS_i ?_ ?_ | refine pick_i ?_ ?_ | refine gS_it ?_ ?_ | refine gS_if ?_ ?_ | refine gP_it ?_ ?_ | refine gP_if ?_ ?_) <;> (intro hc; try simp only [Int.reduceLE,Int.reduceLT,Int.reduceEq,Sn] at hc)) | (with_reducible refine KP_i ?_ ?_; · exact aL) | (with_reducible refine And.intro ?_ ?_)) <;> (try simp only [S0,putAt,List.replicate,Int.reduceAdd,Int.reduceSub,Int.reduceMul,Int.reduceTDiv,Int.reduceTMod,Int.reduceMod,Int.reduceDiv,Nat.reduceLT,Nat.reduceEqDiff,Int.reduceLE,Int.reduceLT,Int.reduceToNat,Int.reduceNeg,Int.reduceEq,Nat.reduceLeDiff,Nat.reducePow,Int.reducePow,reduceIte,Nat.reduceSub,Nat.reduceAdd,Nat.reduceMul, *]))
  refine any_name fun HH eH => ?_
  have g0 : Grow w0 H HH := by rw [eH]; exact aG
  rename_i b4 hb4 hn4 b5 hb5 hn5
  have k5 : HH b5 = some ⟨.t 28, [.int .i32 b.a, .int .i32 b.b, .int .i32 b.c, .int .i32 b.d]⟩ := by rw [eH]; exact aA
  have k6 : HH bk = some ⟨.t 28, [.int .i32 0, .int .i32 0, .int .i32 0, .int .i32 0]⟩ := by rw [eH]; exact aA
  have nH : H bk = none := hbk.2.2
  have sH : w0.heap.size ≤ bk := hb0
  clear eH hn4 hn5 hbk hr f1 f2
  replace hm := g0.some hm
  have hr := rd_blk (w0 := w0) hm
  unfold mRow Evr.row Res.row at hr
  simp only [List.cons_append, List.nil_append] at hr
  have f1 := blkn hm
  have r5 := rd_blk (w0 := w0) k5
  have n5 := blkn k5
  have n6 := blkn k6
  replace hri := g0.rdn hri (by decide)
  have f2 : ∀ c, w0.heap.size ≤ c → HH c = none → c ≠ bi := fun c h1 h2 => rdn_fresh hri (by decide) h1 h2
  have cT := fun (G : Heap) (K' : Value → Heap → Prop) (g : Grow w0 HH G) => (show ∀ (G : Heap) (K' : Value → Heap → Prop), _ → _ → _ from hcall) G K' (g0.trans g)
  replace cT : Keep _ := cT
  clear hcall k5 hm
  refine any_h ?_
  refine alts_g (S := Nat) 10 (fun s => [(8, .pointer (some ⟨s, 0, none⟩)), (9, .int .i64 er)]) (fun s => HH.set s ⟨.t 28, [.int .i32 q0, .int .i32 q1, .int .i32 q2, .int .i32 q3]⟩) (fun s => w0.heap.size ≤ s ∧ HH s = none) 400 1500 ?_ ?_ (by decide)
  · unfold A147_1
    (all_goals (try simp only [S0,putAt,List.replicate,Int.reduceAdd,Int.reduceSub,Int.reduceMul,Int.reduceTDiv,Int.reduceTMod,Int.reduceMod,Int.reduceDiv,Nat.reduceLT,Nat.reduceEqDiff,Int.reduceLE,Int.reduceLT,Int.reduceToNat,Int.reduceNeg,Int.reduceEq,Nat.reduceLeDiff,Nat.reducePow,Int.reducePow,reduceIte,Nat.reduceSub,Nat.reduceAdd,Nat.reduceMul, *])); repeat' ((first | (with_reducible refine fun _ : True => ?_) | refine cT _ _ aG ?_ | (with_reducible refine any_h ?_) | ((first | refine AllocQ_i ?_ | refine AllocO_i ?_); intro bk hb0 hbk; (try simp only [set_none'] at hbk)) | ((first | refine condS_i ?_ ?_ | refine pick_i ?_ ?_ | refine gS_it ?_ ?_ | refine gS_if ?_ ?_ | refine gP_it ?_ ?_ | refine gP_if ?_ ?_) <;> (intro hc; try simp only [Int.reduceLE,Int.reduceLT,Int.reduceEq,Sn] at hc)) | (with_reducible refine KP_i ?_ ?_; · exact aL) | (with_reducible refine And.intro ?_ ?_)) <;> (try simp only [S0,putAt,List.replicate,Int.reduceAdd,Int.reduceSub,Int.reduceMul,Int.reduceTDiv,Int.reduceTMod,Int.reduceMod,Int.reduceDiv,Nat.reduceLT,Nat.reduceEqDiff,Int.reduceLE,Int.reduceLT,Int.reduceToNat,Int.reduceNeg,Int.reduceEq,Nat.reduceLeDiff,Nat.reducePow,Int.reducePow,reduceIte,Nat.reduceSub,Nat.reduceAdd,Nat.reduceMul, *]))
    all_goals exact Meet_mk bk ⟨hb0, hbk⟩ rfl rfl rfl
  · intro s f ⟨hs, hn⟩
    have ne := n6 s hn
    have hE : _ ∨ _ := h
    clear h
    rcases hE with ⟨e0, h⟩ | ⟨e0, h⟩
    · subst e0
      replace h : Keep _ := h
      (all_goals (try simp only [S0,putAt,List.replicate,Int.reduceAdd,Int.reduceSub,Int.reduceMul,Int.reduceTDiv,Int.reduceTMod,Int.reduceMod,Int.reduceDiv,Nat.reduceLT,Nat.reduceEqDiff,Int.reduceLE,Int.reduceLT,Int.reduceToNat,Int.reduceNeg,Int.reduceEq,Nat.reduceLeDiff,Nat.reducePow,Int.reducePow,reduceIte,Nat.reduceSub,Nat.reduceAdd,Nat.reduceMul, *])); repeat' ((first | (with_reducible refine fun _ : True => ?_) | (with_reducible refine any_h ?_) | ((first | refine AllocQ_i ?_ | refine AllocO_i ?_); intro bk hb0 hbk; (try simp only [set_none'] at hbk)) | ((first | refine condS_i ?_ ?_ | refine pick_i ?_ ?_ | refine gS_it ?_ ?_ | refine gS_if ?_ ?_ | refine gP_it ?_ ?_ | refine gP_if ?_ ?_) <;> (intro hc; try simp only [Int.reduceLE,Int.reduceLT,Int.reduceEq,Sn] at hc)) | (with_reducible refine KP_i ?_ ?_; · exact aL) | (with_reducible refine And.intro ?_ ?_)) <;> (try simp only [S0,putAt,List.replicate,Int.reduceAdd,Int.reduceSub,Int.reduceMul,Int.reduceTDiv,Int.reduceTMod,Int.reduceMod,Int.reduceDiv,Nat.reduceLT,Nat.reduceEqDiff,Int.reduceLE,Int.reduceLT,Int.reduceToNat,Int.reduceNeg,Int.reduceEq,Nat.reduceLeDiff,Nat.reducePow,Int.reducePow,reduceIte,Nat.reduceSub,Nat.reduceAdd,Nat.reduceMul, *]))
      exact Fin_mk ((g0.set hs (g0.none hn)).set sH nH).le h
    · replace h : Keep _ := h
      (all_goals (try simp only [S0,putAt,List.replicate,Int.reduceAdd,Int.reduceSub,Int.reduceMul,Int.reduceTDiv,Int.reduceTMod,Int.reduceMod,Int.reduceDiv,Nat.reduceLT,Nat.reduceEqDiff,Int.reduceLE,Int.reduceLT,Int.reduceToNat,Int.reduceNeg,Int.reduceEq,Nat.reduceLeDiff,Nat.reducePow,Int.reducePow,reduceIte,Nat.reduceSub,Nat.reduceAdd,Nat.reduceMul, *])); repeat' ((first | (with_reducible refine fun _ : True => ?_) | (with_reducible refine any_h ?_) | ((first | refine AllocQ_i ?_ | refine AllocO_i ?_); intro bk hb0 hbk; (try simp only [set_none'] at hbk)) | ((first | refine condS_i ?_ ?_ | refine pick_i ?_ ?_ | refine gS_it ?_ ?_ | refine gS_if ?_ ?_ | refine gP_it ?_ ?_ | refine gP_if ?_ ?_) <;> (intro hc; try simp only [Int.reduceLE,Int.reduceLT,Int.reduceEq,Sn] at hc)) | (with_reducible refine KP_i ?_ ?_; · exact aL) | (with_reducible refine And.intro ?_ ?_)) <;> (try simp only [S0,putAt,List.replicate,Int.reduceAdd,Int.reduceSub,Int.reduceMul,Int.reduceTDiv,Int.reduceTMod,Int.reduceMod,Int.reduceDiv,Nat.reduceLT,Nat.reduceEqDiff,Int.reduceLE,Int.reduceLT,Int.reduceToNat,Int.reduceNeg,Int.reduceEq,Nat.reduceLeDiff,Nat.reducePow,Int.reducePow,reduceIte,Nat.reduceSub,Nat.reduceAdd,Nat.reduceMul, *]))
      exact Fin_mk ((g0.set hs (g0.none hn)).set sH nH).le h
theorem c_texture (M : MS w0 H tm tr bm br e rs rg) (hi : ImgAt w0 H e ims) (a b : V4) (Ia : a.I) (Ib : b.I) (h : K (texR ims a.a b.a b.b).v H) : HCalls Tryz.prog w0 147 [.pointer (some ⟨bm, 0, none⟩), a.v, b.v] H K := by
  unfold texR at h
  by_cases hc : 0 ≤ a.a ∧ a.a < (ims.length : Int)
  · rw [if_pos hc] at h
    obtain ⟨k, ek⟩ := Int.eq_ofNat_of_zero_le hc.1
    have hk : k < ims.length := by omega
    obtain ⟨x, ex⟩ : ∃ x, ims[k]? = some x := ⟨_, List.getElem?_eq_getElem hk⟩
    rw [ek, Int.toNat_natCast, ex] at h
    have hx := hi.ok x (List.mem_of_getElem? ex)
    by_cases hr : x.right
    · simp only [if_pos hr] at h
      exact c_texYes M hi a b Ia Ib ek ex (atR x b.a b.b) 0 (fun G K' g hk => c_AtR x (hx.grow g) b.a b.b Ib.1 Ib.2.1 hr hk) (.inl ⟨rfl, h⟩)
    · simp only [if_neg hr] at h
      exact c_texYes M hi a b Ia Ib ek ex V4.z 180 (fun G K' g hk => Sm.c_At_bad x (hx.grow g) b.a b.b 0 hr hk) (.inr ⟨by decide, h⟩)
  · rw [if_neg hc] at h
    exact c_texNo M a b Ia (by rw [hi.n]; omega) h
theorem c_write9 (M : MS w0 H tm tr bm br e rs rg) (hi : ImgAt w0 H e ims) (i : Ins) (ho : i.op = 9) {ka kb : Nat} {x y : V4} (ea : i.a = (ka : Int)) (eb : i.b = (kb : Int)) (hx : rg[ka]? = some x) (hy : rg[kb]? = some y) (Ix : x.I) (Iy : y.I)
    (h : K (texR ims x.a y.a y.b).v H) : HCalls Tryz.prog w0 101 [.pointer (some ⟨bm, 0, none⟩), i.v] H K := by
  have cA := c_regG M ea hx
  have cB := c_regG M eb hy
  have cT : ∀ (G : Heap) (K' : Value → Heap → Prop), Grow w0 H G → K' (texR ims x.a y.a y.b).v G → HCalls Tryz.prog w0 147 [.pointer (some ⟨bm, 0, none⟩), x.v, y.v] G K' := fun G K' g hk => c_texture (M.grow g) (hi.grow g) x y Ix Iy hk
  generalize texR ims x.a y.a y.b = q at h cT
  obtain ⟨q0, q1, q2, q3⟩ := q
  obtain ⟨x0, x1, x2, x3⟩ := x
  obtain ⟨y0, y1, y2, y3⟩ := y
  unfold V4.v V4.row at cA cB cT h
  simp only at cA cB cT h
  unfold Ins.v Ins.row
  replace h : Keep _ := h
  replace cA : Keep _ := cA
  replace cB : Keep _ := cB
  replace cT : Keep _ := cT
  clear M hi hx hy ea eb Ix Iy
  refine HL.hc k101 999 ?_; unfold M101
  (all_goals (try simp only [S0,putAt,List.replicate,Int.reduceAdd,Int.reduceSub,Int.reduceMul,Int.reduceTDiv,Int.reduceTMod,Int.reduceMod,Int.reduceDiv,Nat.reduceLT,Nat.reduceEqDiff,Int.reduceLE,Int.reduceLT,Int.reduceToNat,Int.reduceNeg,Int.reduceEq,Nat.reduceLeDiff,Nat.reducePow,Int.reducePow,reduceIte,Nat.reduceSub,Nat.reduceAdd,Nat.reduceMul, *])); repeat' ((first | (with_reducible refine fun _ : True => ?_) | refine cA _ _ _ (rd1_b aA) aG ?_ | refine cB _ _ _ (rd1_b aA) aG ?_ | refine cT _ _ aG ?_ | (with_reducible refine any_h ?_) | ((first | refine AllocQ_i ?_ | refine AllocO_i ?_); intro bk hb0 hbk; (try simp only [set_none'] at hbk)) | ((first | refine condS_i ?_ ?_ | refine pick_i ?_ ?_ | refine gS_it ?_ ?_ | refine gS_if ?_ ?_ | refine gP_it ?_ ?_ | refine gP_if ?_ ?_) <;> (intro hc; try simp only [Int.reduceLE,Int.reduceLT,Int.reduceEq,Sn] at hc)) | (with_reducible refine KP_i ?_ ?_; · exact aL) | (with_reducible refine And.intro ?_ ?_)) <;> (try simp only [S0,putAt,List.replicate,Int.reduceAdd,Int.reduceSub,Int.reduceMul,Int.reduceTDiv,Int.reduceTMod,Int.reduceMod,Int.reduceDiv,Nat.reduceLT,Nat.reduceEqDiff,Int.reduceLE,Int.reduceLT,Int.reduceToNat,Int.reduceNeg,Int.reduceEq,Nat.reduceLeDiff,Nat.reducePow,Int.reducePow,reduceIte,Nat.reduceSub,Nat.reduceAdd,Nat.reduceMul, *]))
  exact Fin_mk aL h
end
end Go.Proofs.YtdmnfaefakceiaaGreat
end
section
/- What an instruction writes: numbers picked and put (layer 18). -/
set_option linter.unusedSimpArgs false
set_option linter.unusedVariables false
set_option maxRecDepth 100000
set_option maxHeartbeats 4000000
namespace Go.Proofs.YtdmnfaefakceiaaGreat
open Go.HL Go.RowKit Pb
variable {w0 : World} {H G : Heap} {K : Value → Heap → Prop}

def pl (i : Ins) (k : Nat) : Int := if k = 0 then i.p0 else if k = 1 then i.p1 else if k = 2 then i.p2 else i.p3
theorem vcx_at (a : Nat → Int) {i : Nat} (hi : i < 4) : (VC a)[i]? = some (.int .i32 (a i)) := by
  rcases (by omega : i = 0 ∨ i = 1 ∨ i = 2 ∨ i = 3) with rfl | rfl | rfl | rfl <;> rfl
theorem vcx_set (g : Nat → Int) {i : Nat} (hi : i < 4) : (VC (fst (i : Nat) g)).set i (.int .i32 (g i)) = VC (fst ((i + 1 : Nat) : Int) g) := by
  rcases (by omega : i = 0 ∨ i = 1 ∨ i = 2 ∨ i = 3) with rfl | rfl | rfl | rfl <;> simp [VC, fst]
theorem row_pl (i : Ins) {k : Nat} (hk : k < 4) : i.row[12 + k]? = some (.int .i64 (pl i k)) := by
  rcases (by omega : k = 0 ∨ k = 1 ∨ k = 2 ∨ k = 3) with rfl | rfl | rfl | rfl <;> rfl
def upd (o : Nat → Int) (j : Nat) (v : Int) : Nat → Int := fun k => if k = j then v else o k
theorem vcx_upd (o : Nat → Int) {j : Nat} (v : Int) (hj : j < 4) : (VC o).set j (.int .i32 v) = VC (upd o j v) := by
  rcases (by omega : j = 0 ∨ j = 1 ∨ j = 2 ∨ j = 3) with rfl | rfl | rfl | rfl <;> simp [VC, upd]
def pickV (i : Ins) (a : Nat → Int) : Nat → Int := fst i.n fun k => a (pl i k).toNat
def putR (i : Ins) (a out : Nat → Int) : Nat → Nat → Int
  | 0 => out
  | k + 1 => upd (putR i a out k) (pl i k).toNat (a k)
section
variable {tm tr : Kd} {bm br : Nat} {e : Evr} {rs : Res} {rg : List V4}
theorem c_write6 (M : MS w0 H tm tr bm br e rs rg) (i : Ins) (ho : i.op = 6) {ka : Nat} {x : V4} (ea : i.a = (ka : Int)) (hx : rg[ka]? = some x)
    (hp : ∀ k, k < 4 → 0 ≤ pl i k ∧ pl i k < 4) (hn : 1 ≤ i.n ∧ i.n ≤ 4) (h : K (VV (pickV i x.f)) H) : HCalls Tryz.prog w0 101 [.pointer (some ⟨bm, 0, none⟩), i.v] H K := by
  have cA := c_regG M ea hx
  obtain ⟨N, eN⟩ := Int.eq_ofNat_of_zero_le (show 0 ≤ i.n by omega)
  unfold pickV at h
  rw [eN] at h
  have e1 : ((N : Nat) : Int).toNat = N := rfl
  have e2 : (0 : Int) ≤ (N : Int) := by omega
  have e3 : (N : Int) ≤ 4 := by omega
  obtain ⟨a, eA⟩ : ∃ a, a = x.f := ⟨_, rfl⟩
  have cA' : ∀ (b2 : Nat) (G : Heap) (K' : Value → Heap → Prop), HL.rd1 w0 G b2 0 = some (.pointer (some ⟨bm, 0, none⟩)) → Grow w0 H G → K' (VV a) G → HCalls Tryz.prog w0 145 [.int .i64 i.a, .pointer (some ⟨b2, 0, none⟩)] G K' := fun b2 G K' h2 g hk => cA b2 G K' h2 g (by rw [eA] at hk; exact hk)
  rw [← eA] at h
  have hrow := fun k hk => row_pl i (k := k) hk
  unfold Ins.v
  unfold Ins.row at hrow ⊢
  replace h : Keep _ := h
  replace cA : Keep _ := cA'
  replace hp : Keep _ := hp
  replace hrow : Keep _ := hrow
  clear M hx ea cA' eA
  refine HL.hc k101 3000 ?_; unfold M101
  (all_goals (try simp only [S0,putAt,List.replicate,Int.reduceAdd,Int.reduceSub,Int.reduceMul,Int.reduceTDiv,Int.reduceTMod,Int.reduceMod,Int.reduceDiv,Nat.reduceLT,Nat.reduceEqDiff,Int.reduceLE,Int.reduceLT,Int.reduceToNat,Int.reduceNeg,Int.reduceEq,Nat.reduceLeDiff,Nat.reducePow,Int.reducePow,reduceIte,Nat.reduceSub,Nat.reduceAdd,Nat.reduceMul, *])); repeat' ((first | (with_reducible refine fun _ : True => ?_) | refine cA _ _ _ (rd1_b aA) aG ?_ | (with_reducible refine any_h ?_) | ((first | refine AllocQ_i ?_ | refine AllocO_i ?_); intro bk hb0 hbk; (try simp only [set_none'] at hbk)) | ((first | refine condS_i ?_ ?_ | refine pick_i ?_ ?_ | refine gS_it ?_ ?_ | refine gS_if ?_ ?_ | refine gP_it ?_ ?_ | refine gP_if ?_ ?_) <;> (intro hc; try simp only [Int.reduceLE,Int.reduceLT,Int.reduceEq,Sn] at hc)) | (with_reducible refine KP_i ?_ ?_; · exact aL) | (with_reducible refine And.intro ?_ ?_)) <;> (try simp only [S0,putAt,List.replicate,Int.reduceAdd,Int.reduceSub,Int.reduceMul,Int.reduceTDiv,Int.reduceTMod,Int.reduceMod,Int.reduceDiv,Nat.reduceLT,Nat.reduceEqDiff,Int.reduceLE,Int.reduceLT,Int.reduceToNat,Int.reduceNeg,Int.reduceEq,Nat.reduceLeDiff,Nat.reducePow,Int.reducePow,reduceIte,Nat.reduceSub,Nat.reduceAdd,Nat.reduceMul, *]))
  rename_i b2 hb2 hn2 b3 hb3 hn3 b4 hb4 hn4 b10 hb10 hn10
  refine loopq_heap fun HH eH => ?_
  have k3 : HH b3 = some ⟨.t 46, i.row⟩ := by rw [eH]; unfold Ins.row; simp only [ho, eN]; exact aA
  have k4 : HH b4 = some ⟨.t 28, [.int .i32 0, .int .i32 0, .int .i32 0, .int .i32 0]⟩ := by rw [eH]; exact aA
  have k10 : HH b10 = some ⟨.t 28, VC a⟩ := by rw [eH]; exact aA
  have k11 : HH bk = some ⟨.t 28, VC (fst ((0 : Nat) : Int) fun k => a (pl i k).toNat)⟩ := by rw [eH]; exact aA
  have r3 : ∀ k, k < 4 → HL.rd1 w0 HH b3 (12 + k) = some (.int .i64 (pl i k)) := fun k hk => by rw [rd_blk k3]; exact row_pl i hk
  have r3o : HL.rd1 w0 HH b3 0 = some (.int .i64 6) := by rw [rd_blk k3, ← ho]; rfl
  have r10 := rd_blk (w0 := w0) k10
  have n3 := blkn k3
  have n10 := blkn k10
  have nk := blkn k11
  have gf : Grow w0 H HH := by rw [eH]; exact aG
  obtain ⟨bo, rfl⟩ : ∃ b, b = bk := ⟨_, rfl⟩
  obtain ⟨g, eg⟩ : ∃ g : Nat → Int, g = fun k => a (pl i k).toNat := ⟨_, rfl⟩
  rw [← eg] at h k11
  have hpN : ∀ k, k < 4 → (0 ≤ pl i k ∧ pl i k < 4) := hp
  clear eH k3 k10
  refine loop_g 104 (fun s : Nat × Value × Value => [(12, s.2.1), (13, s.2.2), (103, .int .i64 (s.1 : Nat))]) (fun s => HH.set bo ⟨.t 28, VC (fst (s.1 : Nat) g)⟩) (fun s => s.1 ≤ N) (fun s => N - s.1) (0, undef, undef) (Nat.zero_le _) (by rw [Heap.set_id _ _ _ k11]; exact Heap.Le.refl _) rfl ?_
  intro ⟨s, u12, u13⟩ f hs
  rcases Nat.lt_or_ge s N with t0 | t0
  · have hi : s < 4 := by omega
    have t1 : (0 : Int) ≤ (s : Int) := by omega
    have t2 : (s : Int) < (N : Int) := by omega
    have t2' : (s : Int) < 4 := by omega
    have t3 : ((s : Nat) : Int).toNat = s := rfl
    have t4 : s * 1 = s := Nat.mul_one s
    have t5 : IntKind.i64.wrap ((s : Int) + 1) = ((s + 1 : Nat) : Int) := by rw [Bw.1 _ (by omega) (by omega)]; simp
    obtain ⟨q, eq⟩ := Int.eq_ofNat_of_zero_le (hpN s hi).1
    have hq : q < 4 := by have := (hpN s hi).2; omega
    have p2 : (q : Int) < 4 := by omega
    have p1 : (0 : Int) ≤ (q : Int) := by omega
    have p3 : ((q : Nat) : Int).toNat = q := rfl
    have p4 : q * 1 = q := Nat.mul_one q
    have rp : HL.rd1 w0 HH b3 (12 + s) = some (.int .i64 (q : Int)) := by rw [r3 s hi, eq]
    have ra : ([.int .i32 (a 0), .int .i32 (a 1), .int .i32 (a 2), .int .i32 (a 3)] : List Value)[q]? = some (.int .i32 (g s)) := by rw [eg]; show _ = some (Value.int .i32 (a (pl i s).toNat)); rw [eq]; exact vcx_at a hq
    have hset : ([.int .i32 (fst (s : Nat) g 0), .int .i32 (fst (s : Nat) g 1), .int .i32 (fst (s : Nat) g 2), .int .i32 (fst (s : Nat) g 3)] : List Value).set s (.int .i32 (g s)) = VC (fst ((s + 1 : Nat) : Int) g) := vcx_set g hi
    have mu : N - (s + 1) < N - s ∧ (s + 1) ≤ N := by omega
    replace mu : Keep _ := mu
    clear r3 eq eg hpN hp hrow hs e3
    (all_goals (try simp only [S0,putAt,List.replicate,Int.reduceAdd,Int.reduceSub,Int.reduceMul,Int.reduceTDiv,Int.reduceTMod,Int.reduceMod,Int.reduceDiv,Nat.reduceLT,Nat.reduceEqDiff,Int.reduceLE,Int.reduceLT,Int.reduceToNat,Int.reduceNeg,Int.reduceEq,Nat.reduceLeDiff,Nat.reducePow,Int.reducePow,reduceIte,Nat.reduceSub,Nat.reduceAdd,Nat.reduceMul, *])); repeat' ((first | (with_reducible refine fun _ : True => ?_) | (with_reducible refine any_h ?_) | ((first | refine AllocQ_i ?_ | refine AllocO_i ?_); intro bk hb0 hbk; (try simp only [set_none'] at hbk)) | ((first | refine condS_i ?_ ?_ | refine pick_i ?_ ?_ | refine gS_it ?_ ?_ | refine gS_if ?_ ?_ | refine gP_it ?_ ?_ | refine gP_if ?_ ?_) <;> (intro hc; try simp only [Int.reduceLE,Int.reduceLT,Int.reduceEq,Sn] at hc)) | (with_reducible refine KP_i ?_ ?_; · exact aL) | (with_reducible refine And.intro ?_ ?_)) <;> (try simp only [S0,putAt,List.replicate,Int.reduceAdd,Int.reduceSub,Int.reduceMul,Int.reduceTDiv,Int.reduceTMod,Int.reduceMod,Int.reduceDiv,Nat.reduceLT,Nat.reduceEqDiff,Int.reduceLE,Int.reduceLT,Int.reduceToNat,Int.reduceNeg,Int.reduceEq,Nat.reduceLeDiff,Nat.reducePow,Int.reducePow,reduceIte,Nat.reduceSub,Nat.reduceAdd,Nat.reduceMul, *]))
    refine Round_mk (s + 1, Value.int .i64 (s : Nat), Value.int .i64 (q : Nat)) ?_ ?_ (Heap.Le.refl _) ?_ ?_
    · exact mu.2
    · exact mu.1
    · rfl
    · rfl
  · have es : s = N := Nat.le_antisymm hs t0
    subst es
    have t1 : ¬ (s : Int) < (s : Int) := by omega
    clear r3 eg hpN hp hrow hs t0
    (all_goals (try simp only [S0,putAt,List.replicate,Int.reduceAdd,Int.reduceSub,Int.reduceMul,Int.reduceTDiv,Int.reduceTMod,Int.reduceMod,Int.reduceDiv,Nat.reduceLT,Nat.reduceEqDiff,Int.reduceLE,Int.reduceLT,Int.reduceToNat,Int.reduceNeg,Int.reduceEq,Nat.reduceLeDiff,Nat.reducePow,Int.reducePow,reduceIte,Nat.reduceSub,Nat.reduceAdd,Nat.reduceMul, *])); repeat' ((first | (with_reducible refine fun _ : True => ?_) | (with_reducible refine any_h ?_) | ((first | refine AllocQ_i ?_ | refine AllocO_i ?_); intro bk hb0 hbk; (try simp only [set_none'] at hbk)) | ((first | refine condS_i ?_ ?_ | refine pick_i ?_ ?_ | refine gS_it ?_ ?_ | refine gS_if ?_ ?_ | refine gP_it ?_ ?_ | refine gP_if ?_ ?_) <;> (intro hc; try simp only [Int.reduceLE,Int.reduceLT,Int.reduceEq,Sn] at hc)) | (with_reducible refine KP_i ?_ ?_; · exact aL) | (with_reducible refine And.intro ?_ ?_)) <;> (try simp only [S0,putAt,List.replicate,Int.reduceAdd,Int.reduceSub,Int.reduceMul,Int.reduceTDiv,Int.reduceTMod,Int.reduceMod,Int.reduceDiv,Nat.reduceLT,Nat.reduceEqDiff,Int.reduceLE,Int.reduceLT,Int.reduceToNat,Int.reduceNeg,Int.reduceEq,Nat.reduceLeDiff,Nat.reducePow,Int.reducePow,reduceIte,Nat.reduceSub,Nat.reduceAdd,Nat.reduceMul, *]))
    exact Fin_mk aL h
theorem c_write7 (M : MS w0 H tm tr bm br e rs rg) (i : Ins) (ho : i.op = 7) {ka : Nat} {x : V4} (ea : i.a = (ka : Int)) (hx : rg[ka]? = some x)
    {kd : Nat} {y : V4} (ed : i.dst = (kd : Int)) (hy : rg[kd]? = some y) (hp : ∀ k, k < 4 → 0 ≤ pl i k ∧ pl i k < 4) (hn : 1 ≤ i.n ∧ i.n ≤ 4) (h : K (VV (putR i x.f y.f i.n.toNat)) H) : HCalls Tryz.prog w0 101 [.pointer (some ⟨bm, 0, none⟩), i.v] H K := by
  have cA := c_regG M ea hx
  obtain ⟨N, eN⟩ := Int.eq_ofNat_of_zero_le (show 0 ≤ i.n by omega)
  have cB := c_regG M ed hy
  rw [eN, Int.toNat_natCast] at h
  have e1 : ((N : Nat) : Int).toNat = N := rfl
  have e2 : (0 : Int) ≤ (N : Int) := by omega
  have e3 : (N : Int) ≤ 4 := by omega
  obtain ⟨a, eA⟩ : ∃ a, a = x.f := ⟨_, rfl⟩
  have cA' : ∀ (b2 : Nat) (G : Heap) (K' : Value → Heap → Prop), HL.rd1 w0 G b2 0 = some (.pointer (some ⟨bm, 0, none⟩)) → Grow w0 H G → K' (VV a) G → HCalls Tryz.prog w0 145 [.int .i64 i.a, .pointer (some ⟨b2, 0, none⟩)] G K' := fun b2 G K' h2 g hk => cA b2 G K' h2 g (by rw [eA] at hk; exact hk)
  rw [← eA] at h
  obtain ⟨o, eO⟩ : ∃ o, o = y.f := ⟨_, rfl⟩
  have cB' : ∀ (b2 : Nat) (G : Heap) (K' : Value → Heap → Prop), HL.rd1 w0 G b2 0 = some (.pointer (some ⟨bm, 0, none⟩)) → Grow w0 H G → K' (VV o) G → HCalls Tryz.prog w0 145 [.int .i64 i.dst, .pointer (some ⟨b2, 0, none⟩)] G K' := fun b2 G K' h2 g hk => cB b2 G K' h2 g (by rw [eO] at hk; exact hk)
  rw [← eO] at h
  have hrow := fun k hk => row_pl i (k := k) hk
  unfold Ins.v
  unfold Ins.row at hrow ⊢
  replace h : Keep _ := h
  replace cA : Keep _ := cA'
  replace cB : Keep _ := cB'
  replace hp : Keep _ := hp
  replace hrow : Keep _ := hrow
  clear M hx ea cA' eA hy ed cB' eO
  refine HL.hc k101 3000 ?_; unfold M101
  (all_goals (try simp only [S0,putAt,List.replicate,Int.reduceAdd,Int.reduceSub,Int.reduceMul,Int.reduceTDiv,Int.reduceTMod,Int.reduceMod,Int.reduceDiv,Nat.reduceLT,Nat.reduceEqDiff,Int.reduceLE,Int.reduceLT,Int.reduceToNat,Int.reduceNeg,Int.reduceEq,Nat.reduceLeDiff,Nat.reducePow,Int.reducePow,reduceIte,Nat.reduceSub,Nat.reduceAdd,Nat.reduceMul, *])); repeat' ((first | (with_reducible refine fun _ : True => ?_) | refine cA _ _ _ (rd1_b aA) aG ?_ | refine cB _ _ _ (rd1_b aA) aG ?_ | (with_reducible refine any_h ?_) | ((first | refine AllocQ_i ?_ | refine AllocO_i ?_); intro bk hb0 hbk; (try simp only [set_none'] at hbk)) | ((first | refine condS_i ?_ ?_ | refine pick_i ?_ ?_ | refine gS_it ?_ ?_ | refine gS_if ?_ ?_ | refine gP_it ?_ ?_ | refine gP_if ?_ ?_) <;> (intro hc; try simp only [Int.reduceLE,Int.reduceLT,Int.reduceEq,Sn] at hc)) | (with_reducible refine KP_i ?_ ?_; · exact aL) | (with_reducible refine And.intro ?_ ?_)) <;> (try simp only [S0,putAt,List.replicate,Int.reduceAdd,Int.reduceSub,Int.reduceMul,Int.reduceTDiv,Int.reduceTMod,Int.reduceMod,Int.reduceDiv,Nat.reduceLT,Nat.reduceEqDiff,Int.reduceLE,Int.reduceLT,Int.reduceToNat,Int.reduceNeg,Int.reduceEq,Nat.reduceLeDiff,Nat.reducePow,Int.reducePow,reduceIte,Nat.reduceSub,Nat.reduceAdd,Nat.reduceMul, *]))
  rename_i b2 hb2 hn2 b3 hb3 hn3 b4 hb4 hn4 b10 hb10 hn10
  refine loopq_heap fun HH eH => ?_
  have k3 : HH b3 = some ⟨.t 46, i.row⟩ := by rw [eH]; unfold Ins.row; simp only [ho, eN]; exact aA
  have k4 : HH b4 = some ⟨.t 28, [.int .i32 0, .int .i32 0, .int .i32 0, .int .i32 0]⟩ := by rw [eH]; exact aA
  have k10 : HH b10 = some ⟨.t 28, VC a⟩ := by rw [eH]; exact aA
  have k11 : HH bk = some ⟨.t 28, VC (putR i a o 0)⟩ := by rw [eH]; exact aA
  have r3 : ∀ k, k < 4 → HL.rd1 w0 HH b3 (12 + k) = some (.int .i64 (pl i k)) := fun k hk => by rw [rd_blk k3]; exact row_pl i hk
  have r3o : HL.rd1 w0 HH b3 0 = some (.int .i64 7) := by rw [rd_blk k3, ← ho]; rfl
  have r10 := rd_blk (w0 := w0) k10
  have n3 := blkn k3
  have n10 := blkn k10
  have nk := blkn k11
  have gf : Grow w0 H HH := by rw [eH]; exact aG
  obtain ⟨bo, rfl⟩ : ∃ b, b = bk := ⟨_, rfl⟩
  have hpN : ∀ k, k < 4 → (0 ≤ pl i k ∧ pl i k < 4) := hp
  clear eH k3 k10
  refine loop_g 104 (fun s : Nat × Value × Value => [(12, s.2.1), (13, s.2.2), (103, .int .i64 (s.1 : Nat))]) (fun s => HH.set bo ⟨.t 28, VC (putR i a o s.1)⟩) (fun s => s.1 ≤ N) (fun s => N - s.1) (0, undef, undef) (Nat.zero_le _) (by rw [Heap.set_id _ _ _ k11]; exact Heap.Le.refl _) rfl ?_
  intro ⟨s, u12, u13⟩ f hs
  rcases Nat.lt_or_ge s N with t0 | t0
  · have hi : s < 4 := by omega
    have t1 : (0 : Int) ≤ (s : Int) := by omega
    have t2 : (s : Int) < (N : Int) := by omega
    have t2' : (s : Int) < 4 := by omega
    have t3 : ((s : Nat) : Int).toNat = s := rfl
    have t4 : s * 1 = s := Nat.mul_one s
    have t5 : IntKind.i64.wrap ((s : Int) + 1) = ((s + 1 : Nat) : Int) := by rw [Bw.1 _ (by omega) (by omega)]; simp
    obtain ⟨q, eq⟩ := Int.eq_ofNat_of_zero_le (hpN s hi).1
    have hq : q < 4 := by have := (hpN s hi).2; omega
    have p2 : (q : Int) < 4 := by omega
    have p1 : (0 : Int) ≤ (q : Int) := by omega
    have p3 : ((q : Nat) : Int).toNat = q := rfl
    have p4 : q * 1 = q := Nat.mul_one q
    have rp : HL.rd1 w0 HH b3 (12 + s) = some (.int .i64 (q : Int)) := by rw [r3 s hi, eq]
    have ra : ([.int .i32 (a 0), .int .i32 (a 1), .int .i32 (a 2), .int .i32 (a 3)] : List Value)[s]? = some (.int .i32 (a s)) := vcx_at a hi
    have hset : ([.int .i32 (putR i a o s 0), .int .i32 (putR i a o s 1), .int .i32 (putR i a o s 2), .int .i32 (putR i a o s 3)] : List Value).set q (.int .i32 (a s)) = VC (putR i a o (s + 1)) := by rw [show putR i a o (s + 1) = upd (putR i a o s) (pl i s).toNat (a s) from rfl, eq]; exact vcx_upd (putR i a o s) (a s) hq
    have mu : N - (s + 1) < N - s ∧ (s + 1) ≤ N := by omega
    replace mu : Keep _ := mu
    clear r3 eq hpN hp hrow hs e3
    (all_goals (try simp only [S0,putAt,List.replicate,Int.reduceAdd,Int.reduceSub,Int.reduceMul,Int.reduceTDiv,Int.reduceTMod,Int.reduceMod,Int.reduceDiv,Nat.reduceLT,Nat.reduceEqDiff,Int.reduceLE,Int.reduceLT,Int.reduceToNat,Int.reduceNeg,Int.reduceEq,Nat.reduceLeDiff,Nat.reducePow,Int.reducePow,reduceIte,Nat.reduceSub,Nat.reduceAdd,Nat.reduceMul, *])); repeat' ((first | (with_reducible refine fun _ : True => ?_) | (with_reducible refine any_h ?_) | ((first | refine AllocQ_i ?_ | refine AllocO_i ?_); intro bk hb0 hbk; (try simp only [set_none'] at hbk)) | ((first | refine condS_i ?_ ?_ | refine pick_i ?_ ?_ | refine gS_it ?_ ?_ | refine gS_if ?_ ?_ | refine gP_it ?_ ?_ | refine gP_if ?_ ?_) <;> (intro hc; try simp only [Int.reduceLE,Int.reduceLT,Int.reduceEq,Sn] at hc)) | (with_reducible refine KP_i ?_ ?_; · exact aL) | (with_reducible refine And.intro ?_ ?_)) <;> (try simp only [S0,putAt,List.replicate,Int.reduceAdd,Int.reduceSub,Int.reduceMul,Int.reduceTDiv,Int.reduceTMod,Int.reduceMod,Int.reduceDiv,Nat.reduceLT,Nat.reduceEqDiff,Int.reduceLE,Int.reduceLT,Int.reduceToNat,Int.reduceNeg,Int.reduceEq,Nat.reduceLeDiff,Nat.reducePow,Int.reducePow,reduceIte,Nat.reduceSub,Nat.reduceAdd,Nat.reduceMul, *]))
    refine Round_mk (s + 1, Value.int .i64 (s : Nat), Value.int .i64 (q : Nat)) ?_ ?_ (Heap.Le.refl _) ?_ ?_
    · exact mu.2
    · exact mu.1
    · rfl
    · rfl
  · have es : s = N := Nat.le_antisymm hs t0
    subst es
    have t1 : ¬ (s : Int) < (s : Int) := by omega
    clear r3 hpN hp hrow hs t0
    (all_goals (try simp only [S0,putAt,List.replicate,Int.reduceAdd,Int.reduceSub,Int.reduceMul,Int.reduceTDiv,Int.reduceTMod,Int.reduceMod,Int.reduceDiv,Nat.reduceLT,Nat.reduceEqDiff,Int.reduceLE,Int.reduceLT,Int.reduceToNat,Int.reduceNeg,Int.reduceEq,Nat.reduceLeDiff,Nat.reducePow,Int.reducePow,reduceIte,Nat.reduceSub,Nat.reduceAdd,Nat.reduceMul, *])); repeat' ((first | (with_reducible refine fun _ : True => ?_) | (with_reducible refine any_h ?_) | ((first | refine AllocQ_i ?_ | refine AllocO_i ?_); intro bk hb0 hbk; (try simp only [set_none'] at hbk)) | ((first | refine condS_i ?_ ?_ | refine pick_i ?_ ?_ | refine gS_it ?_ ?_ | refine gS_if ?_ ?_ | refine gP_it ?_ ?_ | refine gP_if ?_ ?_) <;> (intro hc; try simp only [Int.reduceLE,Int.reduceLT,Int.reduceEq,Sn] at hc)) | (with_reducible refine KP_i ?_ ?_; · exact aL) | (with_reducible refine And.intro ?_ ?_)) <;> (try simp only [S0,putAt,List.replicate,Int.reduceAdd,Int.reduceSub,Int.reduceMul,Int.reduceTDiv,Int.reduceTMod,Int.reduceMod,Int.reduceDiv,Nat.reduceLT,Nat.reduceEqDiff,Int.reduceLE,Int.reduceLT,Int.reduceToNat,Int.reduceNeg,Int.reduceEq,Nat.reduceLeDiff,Nat.reducePow,Int.reducePow,reduceIte,Nat.reduceSub,Nat.reduceAdd,Nat.reduceMul, *]))
    exact Fin_mk aL h
end
end Go.Proofs.YtdmnfaefakceiaaGreat
end
section
/- What is written is a number of 32 bits (layer 18; plain). -/
set_option linter.unusedSimpArgs false
set_option linter.unusedVariables false
set_option maxRecDepth 100000
set_option maxHeartbeats 4000000
namespace Go.Proofs.YtdmnfaefakceiaaGreat
open Go.HL Go.RowKit Pb

theorem raw_I (n : Int) : I32 (raw n) := by unfold raw I32; (repeat' split) <;> omega
theorem w32_of {n : Int} (h : IntKind.i32.wrap n = n) : I32 n := by have := w32_I n; unfold w32 at this; rw [h] at this; exact this
theorem ffloor_I {a : Int} (h : I32 a) : I32 (ffloor a) := by unfold ffloor I32 at *; omega
theorem ffract_I (a : Int) : I32 (ffract a) := by unfold ffract I32 at *; omega
theorem fmin_I {a b : Int} (h : I32 a) (k : I32 b) : I32 (fmin a b) := by unfold fmin; split <;> assumption
theorem fmax_I {a b : Int} (h : I32 a) (k : I32 b) : I32 (fmax a b) := by unfold fmax; split <;> assumption
theorem fdiv_I (a b : Int) : I32 (fdiv a b) := by
  unfold fdiv
  (repeat' split)
  all_goals first | exact raw_I _ | (unfold I32; omega)
theorem vone_I (op : Int) {a : Int} (h : I32 a) : I32 (vone op a) := by
  unfold vone
  (repeat' split)
  · exact raw_I _
  · exact fmax_I h (raw_I _)
  · unfold fsign; (repeat' split) <;> (unfold I32; omega)
  · exact ffloor_I h
  · exact ffract_I a
  · unfold I32; omega
theorem vtwo_I (op : Int) {a b : Int} (h : I32 a) (k : I32 b) : I32 (vtwo op a b) := by
  unfold vtwo
  (repeat' split)
  · exact raw_I _
  · exact raw_I _
  · exact raw_I _
  · exact fdiv_I _ _
  · exact fmin_I h k
  · exact fmax_I h k
  · exact raw_I _
  all_goals (unfold I32; omega)
theorem fsqrt_I {x : Int} (h : I32 x) : I32 (fsqrt x) := by
  unfold fsqrt
  split
  · unfold I32; omega
  · unfold I32 at *
    have h1 := isq_lt (n := x * 65536) (k := 16777216) (by omega) (by omega) (by omega)
    have h2 := (isq_spec (n := x * 65536) (by omega)).1
    omega
theorem finv_I (x : Int) : I32 (finv x) := by
  unfold finv
  split
  · unfold I32; omega
  · exact raw_I _
theorem zero_I : I32 0 := by unfold I32; omega
theorem ite_I {p : Prop} [Decidable p] {a b : Int} (h : I32 a) (k : I32 b) : I32 (if p then a else b) := by split <;> assumption
theorem compV_I (fn : Int) {x y : Int} (h : I32 x) (k : I32 y) : I32 (compV fn x y) :=
  ite_I (vone_I _ h) <| ite_I (vone_I _ h) <| ite_I (fsqrt_I h) <| ite_I (finv_I x) <| ite_I (expo_I32 h) <| ite_I (flog_I32 h) <| ite_I (sinF_I32 _) <| ite_I (sinF_I32 _) <| ite_I (vtwo_I _ h k) <| ite_I (vtwo_I _ h k) <| ite_I (vtwo_I _ h k) <| ite_I (ite_I zero_I (expo_I32 (raw_I _))) (vtwo_I _ h k)
theorem t1V_I {x : Int} (h : I32 x) (i : Nat) : I32 (t1V x i) := by
  unfold t1V; split
  · exact h
  · exact zero_I
theorem floV_I (fn n : Int) {a b c : Nat → Int} (ha : ∀ i, I32 (a i)) (hb : ∀ i, I32 (b i)) (hc : ∀ i, I32 (c i)) (i : Nat) : I32 (floV fn n a b c i) := by
  unfold floV
  (repeat' split)
  · unfold fnorm; (repeat' split) <;> first | exact zero_I | exact fdiv_I _ _
  · exact fst_I32 (fun _ => raw_I _) i
  · exact fst_I32 (fun j => fmin_I (fmax_I (ha j) (hb j)) (hc j)) i
  · refine t1V_I ?_ i
    unfold vsum; (repeat' split) <;> exact raw_I _
  · exact t1V_I (flen_I32 ha n) i
  · unfold vcross vf; (repeat' split) <;> first | exact raw_I _ | exact zero_I
  · exact fst_I32 (fun j => compV_I fn (ha j) (hb j)) i
theorem wI_I (fn x y : Int) : I32 (wI fn x y) := by
  unfold wI; (repeat' split) <;> first | exact w32_I _ | exact zero_I
theorem doV_I (fn bs n : Int) {a b c : Nat → Int} (ha : ∀ i, I32 (a i)) (hb : ∀ i, I32 (b i)) (hc : ∀ i, I32 (c i)) (i : Nat) : I32 (doV fn bs n a b c i) := by
  unfold doV
  (repeat' split)
  · exact t1V_I (by unfold I32; omega) i
  · exact t1V_I zero_I i
  · exact fst_I32 (fun j => wI_I fn _ _) i
  · exact fst_I32 (fun j => vtwo_I _ (ha j) (hb j)) i
  · exact floV_I fn n ha hb hc i
theorem cvt_I (f t : Int) {x : Int} (h : I32 x) : I32 (cvt f t x) := by
  unfold cvt
  (repeat' split)
  all_goals first | exact h | exact tdiv_in h | exact raw_I _ | (unfold I32; omega)
theorem atV_I (x : Sm.Im) (y z : Sm.LvR) (u v lod : Int) (i : Nat) : I32 (Sm.atV x y z u v lod i) := by
  have n1 : ∀ y, I32 (Sm.nearV x y u v i) := fun y => by have := Sm.colI_le x y (Sm.nearP y.w u) (Sm.nearP y.h v) i; unfold Sm.nearV I32; omega
  have n2 : ∀ y, I32 (Sm.linI x y u v i) := fun y => w32_of ((Sm.linF (C := Sm.colI x y) (i := Sm.plcI y.w u) (j := Sm.plcI y.h v) (Sm.colI_le x y) (Sm.plcF_le y.w u) (Sm.plcF_le y.h v)).s6 i)
  unfold Sm.atV
  (repeat' split)
  all_goals first | exact n1 _ | exact n2 _
theorem of_I {g : Nat → Int} (h : ∀ i, I32 (g i)) : (V4.of g).I := ⟨h 0, h 1, h 2, h 3⟩
theorem one4_I : one4.I := ⟨zero_I, zero_I, zero_I, by show I32 65536; unfold I32; omega⟩
theorem z4_I : V4.z.I := ⟨zero_I, zero_I, zero_I, zero_I⟩
theorem texR_I (ims : List Sm.Im) (n u v : Int) : (texR ims n u v).I := by
  unfold texR
  (repeat' split)
  · unfold atR
    (repeat' split)
    · exact of_I fun i => atV_I _ _ _ _ _ _ _
    · exact z4_I
    · exact one4_I
  all_goals exact one4_I
theorem pickV_I (i : Ins) {a : Nat → Int} (h : ∀ k, I32 (a k)) (k : Nat) : I32 (pickV i a k) := fst_I32 (fun _ => h _) k
theorem putR_I (i : Ins) {a o : Nat → Int} (h : ∀ k, I32 (a k)) (ho : ∀ k, I32 (o k)) : ∀ n k, I32 (putR i a o n k)
  | 0, k => ho k
  | n + 1, k => by
    show I32 (upd (putR i a o n) (pl i n).toNat (a n) k)
    unfold upd; split
    · exact h n
    · exact putR_I i h ho n k
end Go.Proofs.YtdmnfaefakceiaaGreat
end
section
/- What an instruction writes, in one (layer 18). -/
set_option linter.unusedSimpArgs false
set_option linter.unusedVariables false
set_option maxRecDepth 100000
set_option maxHeartbeats 4000000
namespace Go.Proofs.YtdmnfaefakceiaaGreat
open Go.HL Go.RowKit Pb
variable {w0 : World} {H G : Heap} {K : Value → Heap → Prop}

/-- A register's numbers. -/
def rgv (rg : List V4) (x : Int) : V4 := rg.getD x.toNat V4.z
/-- What an instruction writes. -/
noncomputable def wrV (ims : List Sm.Im) (e : Evr) (i : Ins) (rg : List V4) : V4 :=
  if i.op = 1 then ⟨i.m0, i.m1, i.m2, i.m3⟩
  else if i.op = 2 then rgv rg i.a
  else if i.op = 3 then (loadR i e).getD V4.z
  else if i.op = 5 then V4.of (doV i.fn i.bs i.n (rgv rg i.a).f (rgv rg i.b).f (rgv rg i.c).f)
  else if i.op = 8 then V4.of (fst i.n fun j => cvt i.bs i.fn ((rgv rg i.a).f j))
  else if i.op = 9 then texR ims (rgv rg i.a).a (rgv rg i.b).a (rgv rg i.b).b
  else if i.op = 6 then V4.of (pickV i (rgv rg i.a).f)
  else V4.of (putR i (rgv rg i.a).f (rgv rg i.dst).f i.n.toNat)
/-- Does an instruction write? -/
def Wr (i : Ins) : Prop := i.op = 1 ∨ i.op = 2 ∨ i.op = 3 ∨ i.op = 5 ∨ i.op = 6 ∨ i.op = 7 ∨ i.op = 8 ∨ i.op = 9
def In (x : Int) (n : Nat) : Prop := 0 ≤ x ∧ x < n
/-- May it write, of n registers? -/
structure WrOk (e : Evr) (n : Nat) (i : Ins) : Prop where
  w : Wr i
  d : In i.dst n
  m : I32 i.m0 ∧ I32 i.m1 ∧ I32 i.m2 ∧ I32 i.m3
  a : ¬ i.op = 1 → ¬ i.op = 3 → In i.a n
  b : i.op = 5 ∨ i.op = 9 → In i.b n
  c : i.op = 5 → In i.c n
  ld : i.op = 3 → (∃ v, loadR i e = some v) ∧ (i.fn = 1 ∨ i.fn = 2 ∨ i.fn = 3 → 0 ≤ i.a)
  ar : i.op = 5 → ¬ args i.fn i.bs = 0
  nn : i.op = 5 ∨ i.op = 6 ∨ i.op = 7 → 1 ≤ i.n ∧ i.n ≤ 4
  cv : i.op = 8 → cvOk i.bs i.fn i.n
  pl : i.op = 6 ∨ i.op = 7 → ∀ k, k < 4 → 0 ≤ pl i k ∧ pl i k < 4
/-- Surroundings of numbers of 32 bits. -/
structure EvI (e : Evr) : Prop where
  a : ∀ v ∈ e.la, v.I
  u : ∀ v ∈ e.lu, v.I
  v : ∀ v ∈ e.lv, v.I
  c : e.co.I
  p : e.po.I
theorem load_I {i : Ins} {e : Evr} (h : EvI e) {v : V4} (hv : loadR i e = some v) : v.I := by
  unfold loadR at hv
  (repeat' split at hv)
  · exact h.a _ (List.mem_of_getElem? hv)
  · exact h.u _ (List.mem_of_getElem? hv)
  · exact h.v _ (List.mem_of_getElem? hv)
  · cases hv; exact h.c
  · cases hv; exact ⟨by show I32 1; unfold I32; omega, zero_I, zero_I, zero_I⟩
  · cases hv; exact z4_I
  · cases hv; exact ⟨h.p.1, h.p.2.1, zero_I, zero_I⟩
theorem rgv_I {rg : List V4} (h : ∀ v ∈ rg, v.I) (x : Int) : (rgv rg x).I := by
  unfold rgv
  rw [List.getD_eq_getElem?_getD]
  cases hx : rg[x.toNat]? with
  | none => exact z4_I
  | some v => exact h v (List.mem_of_getElem? hx)
theorem rgv_at {rg : List V4} {x : Int} (h : In x rg.length) : ∃ k : Nat, x = (k : Int) ∧ rg[k]? = some (rgv rg x) := by
  obtain ⟨k, rfl⟩ := Int.eq_ofNat_of_zero_le h.1
  have hk : k < rg.length := by have := h.2; omega
  refine ⟨k, rfl, ?_⟩
  unfold rgv
  rw [List.getD_eq_getElem?_getD, Int.toNat_natCast, List.getElem?_eq_getElem hk]; rfl
theorem wrV_I (ims : List Sm.Im) {e : Evr} (he : EvI e) {i : Ins} {n : Nat} (ho : WrOk e n i) {rg : List V4} (hr : ∀ v ∈ rg, v.I) : (wrV ims e i rg).I := by
  have ra := fun k => V4.f_I (rgv_I hr i.a) k
  have rb := fun k => V4.f_I (rgv_I hr i.b) k
  have rc := fun k => V4.f_I (rgv_I hr i.c) k
  have rd := fun k => V4.f_I (rgv_I hr i.dst) k
  unfold wrV
  (repeat' split)
  · exact ho.m
  · exact rgv_I hr _
  · cases hl : loadR i e with
    | none => exact z4_I
    | some v => exact load_I he hl
  · exact of_I fun k => doV_I _ _ _ ra rb rc k
  · exact of_I fun k => fst_I32 (fun j => cvt_I _ _ (ra j)) k
  · exact texR_I _ _ _ _
  · exact of_I fun k => pickV_I i ra k
  · exact of_I fun k => putR_I i ra rd _ k
section
variable {tm tr : Kd} {bm br : Nat} {e : Evr} {rs : Res} {rg : List V4} {ims : List Sm.Im}
theorem c_write (M : MS w0 H tm tr bm br e rs rg) (hi : ImgAt w0 H e ims) (i : Ins) (o : WrOk e rg.length i) (hr : ∀ v ∈ rg, v.I) (h : K (wrV ims e i rg).v H) : HCalls Tryz.prog w0 101 [.pointer (some ⟨bm, 0, none⟩), i.v] H K := by
  have Ia := rgv_I hr i.a
  have Ib := rgv_I hr i.b
  have Ic := rgv_I hr i.c
  rcases o.w with w | w | w | w | w | w | w | w
  all_goals simp only [wrV, w, Int.reduceEq, if_true, if_false, reduceIte] at h
  · exact c_write1 i w h
  · obtain ⟨k, ek, hk⟩ := rgv_at (o.a (by omega) (by omega))
    exact c_write2 M i w ek hk h
  · obtain ⟨⟨v, hv⟩, h0⟩ := o.ld w
    rw [hv] at h
    exact c_write3 M i w h0 hv h
  · obtain ⟨ka, ea, ha⟩ := rgv_at (o.a (by omega) (by omega))
    obtain ⟨kb, eb, hb⟩ := rgv_at (o.b (.inl w))
    obtain ⟨kc, ec, hc⟩ := rgv_at (o.c w)
    exact c_write5 M i w ea eb ec ha hb hc Ia Ib Ic (o.ar w) (o.nn (.inl w)) h
  · obtain ⟨ka, ea, ha⟩ := rgv_at (o.a (by omega) (by omega))
    exact c_write6 M i w ea ha (o.pl (.inl w)) (o.nn (.inr (.inl w))) h
  · obtain ⟨ka, ea, ha⟩ := rgv_at (o.a (by omega) (by omega))
    obtain ⟨kd, ed, hd⟩ := rgv_at o.d
    exact c_write7 M i w ea ha ed hd (o.pl (.inr w)) (o.nn (.inr (.inr w))) h
  · obtain ⟨ka, ea, ha⟩ := rgv_at (o.a (by omega) (by omega))
    exact c_write8 M i w ea ha Ia (o.cv w) h
  · obtain ⟨ka, ea, ha⟩ := rgv_at (o.a (by omega) (by omega))
    obtain ⟨kb, eb, hb⟩ := rgv_at (o.b (.inr w))
    exact c_write9 M hi i w ea eb ha hb Ia Ib h
end
end Go.Proofs.YtdmnfaefakceiaaGreat
end
section
/- Stores (layer 18). -/
set_option linter.unusedSimpArgs false
set_option linter.unusedVariables false
set_option maxRecDepth 100000
set_option maxHeartbeats 4000000
namespace Go.Proofs.YtdmnfaefakceiaaGreat
open Go.HL Go.RowKit Pb
variable {w0 : World} {H G : Heap} {K : Value → Heap → Prop}

section
variable {tm tr tv : Kd} {bm br : Nat} {e : Evr} {rs : Res} {rg : List V4}
theorem rows_len : ∀ l : List V4, ((l.map V4.row).flatten).length = l.length * 4
  | [] => rfl
  | x :: l => by rw [List.map_cons, List.flatten_cons, List.length_append, rows_len l, List.length_cons, show x.row.length = 4 from rfl]; omega
theorem rows_put : ∀ (l : List V4) {k : Nat} (v : V4), k < l.length → putAt ((l.map V4.row).flatten) (k * 4) v.row = ((l.set k v).map V4.row).flatten
  | [], k, v, h => by simp at h
  | x :: l, 0, v, h => by
    simp only [List.map_cons, List.flatten_cons, List.set_cons_zero, V4.row, List.cons_append, List.nil_append, Nat.zero_mul, putAt, putAt_nil]
  | x :: l, k + 1, v, h => by
    have ih := rows_put l (k := k) v (by simp at h; omega)
    rw [show (k + 1) * 4 = k * 4 + 1 + 1 + 1 + 1 by omega]
    simp only [List.map_cons, List.flatten_cons, List.set_cons_succ]
    rw [← ih]
    obtain ⟨w0, w1, w2, w3⟩ := v
    simp only [V4.row, List.cons_append, List.nil_append, putAt]
/- (*paintbox/vm machine) store -/
def M100 : MC :=
  .seq (.reg [oX 3 (.box 46 (.tmp 1))])
 (.seq (.any [(true,0,[],vX 5 0),
 (true,1,[],oX 6 (.nilc (.tmp 5))),
 (true,2,[],oX 7 (.fa 24 (.tmp 6))),
 (true,3,[],oX 8 (.ld1 (.tmp 7))),
 (true,4,[],oX 9 (.fa 6 (.tmp 3))),
 (true,5,[],oX 10 (.ld1 (.tmp 9))),
 (true,6,[],oX 11 (.is 4 (.tmp 8) (.tmp 10))),
 (true,7,[],oX 12 (.ldn 4 (.tmp 11))),
 (false,8,[0,1,2,3,4,5,6,7],oX 4 (.alloc 28 [(.int .i32 0),(.int .i32 0),(.int .i32 0),(.int .i32 0)])),
 (false,9,[],⟨none,.stn 4 (.tmp 4) (.tmp 12),none⟩)])
 (.seq (.reg [oX 13 (.fa 1 (.tmp 3)),
 oX 14 (.ld1 (.tmp 13))])
 (.block 0 (.seq (.reg [oX 16 (bK .eql 14 1),
 vX 15 16])
 (.cond (.tmp 15)
 (.reg [vX 17 0,
 oX 18 (.ldn 4 (.tmp 4)),
 oX 19 (.nilc (.tmp 17)),
 oX 20 (.fa 13 (.tmp 19)),
 oX 21 (.fa 0 (.tmp 20)),
 ⟨none,.stn 4 (.tmp 21) (.tmp 18),none⟩])
 (.seq (.reg [oX 23 (bK .eql 14 2),
 vX 22 23])
 (.cond (.tmp 22)
 (.reg [vX 24 0,
 oX 25 (.ia 4 1 (.tmp 4) (kX 0)),
 oX 26 (.ld1 (.tmp 25)),
 oX 27 (.nilc (.tmp 24)),
 oX 28 (.fa 13 (.tmp 27)),
 oX 29 (.fa 4 (.tmp 28)),
 ⟨none,.st1 (.tmp 29) (.tmp 26),none⟩])
 (.seq (.reg [oX 31 (bK .eql 14 3),
 vX 30 31])
 (.cond (.tmp 30)
 (.any [(true,0,[],vX 32 0),
 (true,1,[],oX 33 (.nilc (.tmp 32))),
 (true,2,[],oX 34 (.fa 13 (.tmp 33))),
 (true,3,[],oX 35 (.fa 5 (.tmp 34))),
 (true,4,[],oX 36 (.ld1 (.tmp 35))),
 (true,5,[],oX 37 (.fa 5 (.tmp 3))),
 (true,6,[],oX 38 (.ld1 (.tmp 37))),
 (false,7,[0,1,2,3,4,5,6],oX 39 (.ldn 4 (.tmp 4))),
 (false,8,[],oX 40 (.is 4 (.tmp 36) (.tmp 38))),
 (false,9,[],⟨none,.stn 4 (.tmp 40) (.tmp 39),none⟩)])
 (.seq (.reg [oX 42 (bK .eql 14 4),
 vX 41 42])
 (.cond (.tmp 41)
 (.reg [vX 43 0,
 oX 44 (.ldn 4 (.tmp 4)),
 oX 45 (.nilc (.tmp 43)),
 oX 46 (.fa 13 (.tmp 45)),
 oX 47 (.fa 6 (.tmp 46)),
 ⟨none,.stn 4 (.tmp 47) (.tmp 44),none⟩])
 (.skip))))))))))))
theorem k100 : fnOk Tryz.prog 100 = some (M100, [], 48) := by kernel_rfl

theorem c_store (M : MS w0 H tm tr bm br e rs rg) (sm : w0.heap.size ≤ bm) (i : Ins) {kb : Nat} {b : V4} (eb : i.b = (kb : Int)) (hb : rg[kb]? = some b)
    (h : (i.fn = 1 ∧ K (.tuple #[]) (H.set bm ⟨tm, mRow e { rs with p := b } br rg.length⟩)) ∨ (i.fn = 2 ∧ K (.tuple #[]) (H.set bm ⟨tm, mRow e { rs with sz := b.a } br rg.length⟩)) ∨ (i.fn = 4 ∧ K (.tuple #[]) (H.set bm ⟨tm, mRow e { rs with c := b } br rg.length⟩))) :
    HCalls Tryz.prog w0 100 [.pointer (some ⟨bm, 0, none⟩), i.v] H K := by
  have hr := rows_at (w0 := w0) M.r hb
  have rd := rd_blk (w0 := w0) M.m
  have hm := M.m
  have f1 := blkn M.m
  have f2 := blkn M.r
  have t0 : (kb : Int) < (rg.length : Int) := Int.ofNat_lt.2 (List.getElem?_eq_some_iff.1 hb).1
  have t1 : (0 : Int) ≤ (kb : Int) := by omega
  have t3 : ((kb : Nat) : Int).toNat = kb := rfl
  obtain ⟨b0, b1, b2, b3⟩ := b
  obtain ⟨⟨p0, p1, p2, p3⟩, sz, adr, cap, vs, ⟨c0, c1, c2, c3⟩, ds⟩ := rs
  unfold mRow Evr.row Res.row at rd hm h
  simp only [List.cons_append, List.nil_append] at rd hm h
  unfold V4.row at hr
  simp only at hr
  unfold Ins.v Ins.row
  rw [eb]
  clear M hb
  rcases h with ⟨ef, h⟩ | ⟨ef, h⟩ | ⟨ef, h⟩
  all_goals
    rw [ef]
    replace h : Keep _ := h
    refine HL.hc k100 999 ?_; unfold M100
    (all_goals (try simp only [S0,putAt,List.replicate,Int.reduceAdd,Int.reduceSub,Int.reduceMul,Int.reduceTDiv,Int.reduceTMod,Int.reduceMod,Int.reduceDiv,Nat.reduceLT,Nat.reduceEqDiff,Int.reduceLE,Int.reduceLT,Int.reduceToNat,Int.reduceNeg,Int.reduceEq,Nat.reduceLeDiff,Nat.reducePow,Int.reducePow,reduceIte,Nat.reduceSub,Nat.reduceAdd,Nat.reduceMul, *])); repeat' ((first | (with_reducible refine fun _ : True => ?_) | (with_reducible refine any_h ?_) | ((first | refine AllocQ_i ?_ | refine AllocO_i ?_); intro bk hb0 hbk; (try simp only [set_none'] at hbk)) | ((first | refine condS_i ?_ ?_ | refine pick_i ?_ ?_ | refine gS_it ?_ ?_ | refine gS_if ?_ ?_ | refine gP_it ?_ ?_ | refine gP_if ?_ ?_) <;> (intro hc; try simp only [Int.reduceLE,Int.reduceLT,Int.reduceEq,Sn] at hc)) | (with_reducible refine KP_i ?_ ?_; · exact aL) | (with_reducible refine And.intro ?_ ?_)) <;> (try simp only [S0,putAt,List.replicate,Int.reduceAdd,Int.reduceSub,Int.reduceMul,Int.reduceTDiv,Int.reduceTMod,Int.reduceMod,Int.reduceDiv,Nat.reduceLT,Nat.reduceEqDiff,Int.reduceLE,Int.reduceLT,Int.reduceToNat,Int.reduceNeg,Int.reduceEq,Nat.reduceLeDiff,Nat.reducePow,Int.reducePow,reduceIte,Nat.reduceSub,Nat.reduceAdd,Nat.reduceMul, *]))
    exact Fin_mk aL h
theorem c_store3 (M : MS w0 H tm tr bm br e rs rg) (i : Ins) (ef : i.fn = 3) {kb ka bv : Nat} {b : V4} (eb : i.b = (kb : Int)) (hb : rg[kb]? = some b) (ea : i.a = (ka : Int)) (hka : ka < rs.vs.length) (ev : rs.adr = some ⟨bv, 0, none⟩) (hv : H bv = some ⟨tv, (rs.vs.map V4.row).flatten⟩) (sv : w0.heap.size ≤ bv)
    (h : K (.tuple #[]) (H.set bv ⟨tv, ((rs.vs.set ka b).map V4.row).flatten⟩)) :
    HCalls Tryz.prog w0 100 [.pointer (some ⟨bm, 0, none⟩), i.v] H K := by
  have hr := rows_at (w0 := w0) M.r hb
  have rd := rd_blk (w0 := w0) M.m
  have f1 := blkn M.m
  have f2 := blkn M.r
  have f3 := blkn hv
  have t0 : (kb : Int) < (rg.length : Int) := Int.ofNat_lt.2 (List.getElem?_eq_some_iff.1 hb).1
  have t1 : (0 : Int) ≤ (kb : Int) := by omega
  have t3 : ((kb : Nat) : Int).toNat = kb := rfl
  have u0 : (ka : Int) < (rs.vs.length : Int) := by omega
  have u1 : (0 : Int) ≤ (ka : Int) := by omega
  have u3 : ((ka : Nat) : Int).toNat = ka := rfl
  have hl : ka * 4 + 4 ≤ ((rs.vs.map V4.row).flatten).length := by rw [rows_len]; omega
  have hq := rows_put rs.vs b hka
  obtain ⟨b0, b1, b2, b3⟩ := b
  obtain ⟨⟨p0, p1, p2, p3⟩, sz, adr, cap, vs, ⟨c0, c1, c2, c3⟩, ds⟩ := rs
  simp only at ev hv u0 hka hq hl h
  subst ev
  unfold mRow Evr.row Res.row at rd
  simp only [List.cons_append, List.nil_append] at rd
  unfold V4.row at hr
  simp only at hr
  replace hq : putAt ((vs.map V4.row).flatten) (ka * 4) [.int .i32 b0, .int .i32 b1, .int .i32 b2, .int .i32 b3] = ((vs.set ka ⟨b0, b1, b2, b3⟩).map V4.row).flatten := hq
  rw [← hq] at h
  clear hq
  unfold Ins.v Ins.row
  rw [eb, ea, ef]
  clear M hb
  replace h : Keep _ := h
  refine HL.hc k100 999 ?_; unfold M100
  (all_goals (try simp only [S0,putAt,List.replicate,Int.reduceAdd,Int.reduceSub,Int.reduceMul,Int.reduceTDiv,Int.reduceTMod,Int.reduceMod,Int.reduceDiv,Nat.reduceLT,Nat.reduceEqDiff,Int.reduceLE,Int.reduceLT,Int.reduceToNat,Int.reduceNeg,Int.reduceEq,Nat.reduceLeDiff,Nat.reducePow,Int.reducePow,reduceIte,Nat.reduceSub,Nat.reduceAdd,Nat.reduceMul, *])); repeat' ((first | (with_reducible refine fun _ : True => ?_) | (with_reducible refine any_h ?_) | ((first | refine AllocQ_i ?_ | refine AllocO_i ?_); intro bk hb0 hbk; (try simp only [set_none'] at hbk)) | ((first | refine condS_i ?_ ?_ | refine pick_i ?_ ?_ | refine gS_it ?_ ?_ | refine gS_if ?_ ?_ | refine gP_it ?_ ?_ | refine gP_if ?_ ?_) <;> (intro hc; try simp only [Int.reduceLE,Int.reduceLT,Int.reduceEq,Sn] at hc)) | (with_reducible refine KP_i ?_ ?_; · exact aL) | (with_reducible refine And.intro ?_ ?_)) <;> (try simp only [S0,putAt,List.replicate,Int.reduceAdd,Int.reduceSub,Int.reduceMul,Int.reduceTDiv,Int.reduceTMod,Int.reduceMod,Int.reduceDiv,Nat.reduceLT,Nat.reduceEqDiff,Int.reduceLE,Int.reduceLT,Int.reduceToNat,Int.reduceNeg,Int.reduceEq,Nat.reduceLeDiff,Nat.reducePow,Int.reducePow,reduceIte,Nat.reduceSub,Nat.reduceAdd,Nat.reduceMul, *]))
  exact Fin_mk aL h
end
end Go.Proofs.YtdmnfaefakceiaaGreat
end
section
/- The run of a code, plain, and the machine in memory (layer 18). -/
set_option linter.unusedSimpArgs false
set_option linter.unusedVariables false
set_option maxRecDepth 100000
set_option maxHeartbeats 4000000
namespace Go.Proofs.YtdmnfaefakceiaaGreat
open Go.HL Go.RowKit Pb
variable {w0 : World} {H G : Heap} {K : Value → Heap → Prop}

/-- A result, without where its varyings lie. -/
structure Rp where
  p : V4
  sz : Int
  vs : List V4
  c : V4
  ds : Bool
def Rp.res (x : Rp) (av : Option Nat) : Res := ⟨x.p, x.sz, av.map fun b => ⟨b, 0, none⟩, if av.isSome then x.vs.length else 0, x.vs, x.c, x.ds⟩
def Rp.dis : Rp := ⟨V4.z, 0, [], V4.z, true⟩
def Rp.new (n : Nat) : Rp := ⟨V4.z, 0, List.replicate n V4.z, V4.z, false⟩
theorem res_same (x y : Rp) (a b : Option Nat) : (x.res a).same (y.res b) = (decide (x.p = y.p) && decide (x.sz = y.sz) && decide (x.c = y.c) && (x.ds == y.ds) && decide (x.vs = y.vs)) := rfl
def stI (i : Ins) (x : Rp) (b : V4) : Rp := if i.fn = 1 then { x with p := b } else if i.fn = 2 then { x with sz := b.a } else if i.fn = 3 then { x with vs := x.vs.set i.a.toNat b } else { x with c := b }
instance (i : Ins) : Decidable (Wr i) := by unfold Wr; infer_instance
/-- Where it goes on. -/
def nxI (k : Nat) (i : Ins) (rg : List V4) : Nat := if i.op = 10 ∨ (i.op = 11 ∧ (rgv rg i.b).a = 0) then i.a.toNat else k + 1
noncomputable def rgI (ims : List Sm.Im) (e : Evr) (i : Ins) (rg : List V4) : List V4 := if Wr i then rg.set i.dst.toNat (wrV ims e i rg) else rg
def rsI (i : Ins) (rg : List V4) (x : Rp) : Rp := if i.op = 4 then stI i x (rgv rg i.b) else x
/-- A run from a place: the places that are done, and what comes of it. -/
inductive Rn (ims : List Sm.Im) (e : Evr) (l : List Ins) : Nat → List V4 → Rp → List Nat → Rp → Prop
  | fin {k : Nat} {rg : List V4} {x : Rp} (h : l.length ≤ k) : Rn ims e l k rg x [] x
  | dis {k : Nat} {rg : List V4} {x : Rp} {i : Ins} (h : l[k]? = some i) (ho : i.op = 12) : Rn ims e l k rg x [k] Rp.dis
  | step {k : Nat} {rg : List V4} {x y : Rp} {i : Ins} {ps : List Nat} (h : l[k]? = some i) (ho : ¬ i.op = 12) (hr : Rn ims e l (nxI k i rg) (rgI ims e i rg) (rsI i rg x) ps y) : Rn ims e l k rg x (k :: ps) y
theorem Rn.det {ims : List Sm.Im} {e : Evr} {l : List Ins} {k : Nat} {rg : List V4} {x y : Rp} {ps : List Nat} (h : Rn ims e l k rg x ps y) : ∀ {ps' : List Nat} {y' : Rp}, Rn ims e l k rg x ps' y' → ps = ps' ∧ y = y' := by
  induction h with
  | fin h =>
    intro ps' y' h'
    cases h' with
    | fin _ => exact ⟨rfl, rfl⟩
    | dis h2 _ => have := (List.getElem?_eq_some_iff.1 h2).1; omega
    | step h2 _ _ => have := (List.getElem?_eq_some_iff.1 h2).1; omega
  | dis h ho =>
    intro ps' y' h'
    cases h' with
    | fin h2 => have := (List.getElem?_eq_some_iff.1 h).1; omega
    | dis _ _ => exact ⟨rfl, rfl⟩
    | step h2 h3 _ => rw [h] at h2; cases h2; exact (h3 ho).elim
  | step h ho _ ih =>
    intro ps' y' h'
    cases h' with
    | fin h2 => have := (List.getElem?_eq_some_iff.1 h).1; omega
    | dis h2 h3 => rw [h] at h2; cases h2; exact (ho h3).elim
    | step h2 h3 h4 =>
      rw [h] at h2; cases h2
      obtain ⟨e1, e2⟩ := ih h4
      exact ⟨by rw [e1], e2⟩
/-- May an instruction stand at its place? (n registers, vn varyings of the result, len instructions) -/
structure InOk (e : Evr) (n vn len : Nat) (k : Nat) (i : Ins) : Prop where
  cs : Wr i ∨ i.op = 4 ∨ i.op = 10 ∨ i.op = 11 ∨ i.op = 12
  wr : Wr i → WrOk e n i
  b : i.op = 4 ∨ i.op = 11 → In i.b n
  st : i.op = 4 → (i.fn = 1 ∨ i.fn = 2 ∨ i.fn = 4) ∨ (i.fn = 3 ∧ In i.a vn)
  jp : i.op = 10 ∨ i.op = 11 → (k : Int) < i.a ∧ i.a ≤ len
def RunOk (e : Evr) (n vn : Nat) (l : List Ins) : Prop := ∀ k i, l[k]? = some i → InOk e n vn l.length k i
theorem nx_lt {e : Evr} {n vn : Nat} {l : List Ins} (h : RunOk e n vn l) {k : Nat} {i : Ins} (hi : l[k]? = some i) (rg : List V4) : k < nxI k i rg ∧ nxI k i rg ≤ l.length := by
  have hl := (List.getElem?_eq_some_iff.1 hi).1
  unfold nxI
  split
  · rename_i hc
    have := (h k i hi).jp (by rcases hc with h | h; exact .inl h; exact .inr h.1)
    omega
  · omega
/-- The machine in memory; the memory from before it is as it was. -/
structure RS (w0 : World) (H0 G : Heap) (bm br : Nat) (av : Option Nat) (e : Evr) (x : Rp) (rg : List V4) : Prop where
  M : MS w0 G (.t 73) (.t 28) bm br e (x.res av) rg
  g : Grow w0 H0 G
  e0 : EvAt w0 H0 e
  sm : w0.heap.size ≤ bm ∧ H0 bm = none
  sr : w0.heap.size ≤ br ∧ H0 br = none
  v : ∀ bv, av = some bv → G bv = some ⟨.t 28, (x.vs.map V4.row).flatten⟩ ∧ w0.heap.size ≤ bv ∧ H0 bv = none ∧ bv ≠ br
  n : av = none → x.vs = []
  I : ∀ r ∈ rg, r.I
theorem RS.nm {H0 : Heap} {bm br : Nat} {av : Option Nat} {e : Evr} {x : Rp} {rg : List V4} (h : RS w0 H0 G bm br av e x rg) : bm ≠ br := fun q => by
  have h1 := h.M.m; rw [q, h.M.r] at h1; have := (Blk.mk.inj (Option.some.inj h1)).1; exact absurd (Kd.t_inj this) (by decide)
theorem RS.nv {H0 : Heap} {bm br bv : Nat} {av : Option Nat} {e : Evr} {x : Rp} {rg : List V4} (h : RS w0 H0 G bm br av e x rg) (ev : av = some bv) : bm ≠ bv := fun q => by
  have h1 := h.M.m; rw [q, (h.v bv ev).1] at h1; have := (Blk.mk.inj (Option.some.inj h1)).1; exact absurd (Kd.t_inj this) (by decide)
section
variable {H0 G' : Heap} {bm br : Nat} {av : Option Nat} {e : Evr} {x : Rp} {rg : List V4}
/-- Blocks that aren't integers' stay. -/
theorem RS.keep (h : RS w0 H0 G bm br av e x rg) (g : Grow w0 H0 G') (hk : ∀ c y, G c = some y → y.ty ≠ .t 3 → G' c = some y) : RS w0 H0 G' bm br av e x rg where
  M := ⟨hk _ _ h.M.m (fun q => absurd (Kd.t_inj q) (by decide)), hk _ _ h.M.r (fun q => absurd (Kd.t_inj q) (by decide)), h.e0.grow g⟩
  g := g
  e0 := h.e0
  sm := h.sm
  sr := h.sr
  v := fun bv ev => ⟨hk _ _ (h.v bv ev).1 (fun q => absurd (Kd.t_inj q) (by decide)), (h.v bv ev).2⟩
  n := h.n
  I := h.I
theorem RS.grow (h : RS w0 H0 G bm br av e x rg) (g : Grow w0 G G') : RS w0 H0 G' bm br av e x rg := h.keep (h.g.trans g) fun c y hy _ => g.some hy
theorem RS.setM (h : RS w0 H0 G bm br av e x rg) {y : Rp} (ey : y.vs = x.vs) : RS w0 H0 (G.set bm ⟨.t 73, mRow e (y.res av) br rg.length⟩) bm br av e y rg where
  M := ⟨Heap.set_same _ _ _, by rw [Heap.set_other _ _ (Ne.symm h.nm)]; exact h.M.r, h.e0.grow (h.g.set h.sm.1 h.sm.2)⟩
  g := h.g.set h.sm.1 h.sm.2
  e0 := h.e0
  sm := h.sm
  sr := h.sr
  v := fun bv ev => by rw [Heap.set_other _ _ (Ne.symm (h.nv ev)), ey]; exact h.v bv ev
  n := fun q => by rw [ey]; exact h.n q
  I := h.I
theorem RS.setD (h : RS w0 H0 G bm br av e x rg) : RS w0 H0 (G.set bm ⟨.t 73, mRow e (Rp.dis.res none) br rg.length⟩) bm br none e Rp.dis rg where
  M := ⟨Heap.set_same _ _ _, by rw [Heap.set_other _ _ (Ne.symm h.nm)]; exact h.M.r, h.e0.grow (h.g.set h.sm.1 h.sm.2)⟩
  g := h.g.set h.sm.1 h.sm.2
  e0 := h.e0
  sm := h.sm
  sr := h.sr
  v := fun bv ev => by cases ev
  n := fun _ => rfl
  I := h.I
theorem RS.setR (h : RS w0 H0 G bm br av e x rg) (k : Nat) {v : V4} (hv : v.I) : RS w0 H0 (G.set br ⟨.t 28, ((rg.set k v).map V4.row).flatten⟩) bm br av e x (rg.set k v) where
  M := ⟨by rw [Heap.set_other _ _ h.nm, List.length_set]; exact h.M.m, Heap.set_same _ _ _, h.e0.grow (h.g.set h.sr.1 h.sr.2)⟩
  g := h.g.set h.sr.1 h.sr.2
  e0 := h.e0
  sm := h.sm
  sr := h.sr
  v := fun bv ev => by rw [Heap.set_other _ _ (h.v bv ev).2.2.2]; exact h.v bv ev
  n := h.n
  I := fun r hr => by
    rcases List.mem_or_eq_of_mem_set hr with h1 | h1
    · exact h.I r h1
    · rw [h1]; exact hv
theorem RS.setV (h : RS w0 H0 G bm br av e x rg) {bv : Nat} (ev : av = some bv) (k : Nat) (v : V4) : RS w0 H0 (G.set bv ⟨.t 28, ((x.vs.set k v).map V4.row).flatten⟩) bm br av e { x with vs := x.vs.set k v } rg := by
  obtain ⟨h1, h2, h3, h4⟩ := h.v bv ev
  refine ⟨⟨?_, ?_, h.e0.grow (h.g.set h2 h3)⟩, h.g.set h2 h3, h.e0, h.sm, h.sr, fun b' eb => ?_, fun q => ?_, h.I⟩
  · rw [Heap.set_other _ _ (h.nv ev)]
    have := h.M.m
    unfold Rp.res at this ⊢
    simp only [List.length_set] at this ⊢
    unfold mRow Res.row at this ⊢
    simp only [List.length_set] at this ⊢
    exact this
  · rw [Heap.set_other _ _ (Ne.symm h4)]; exact h.M.r
  · rw [ev] at eb; cases eb
    exact ⟨Heap.set_same _ _ _, h2, h3, h4⟩
  · rw [ev] at q; cases q
end
end Go.Proofs.YtdmnfaefakceiaaGreat
end
section
/- The run of a code, by the program (layer 18). -/
set_option linter.unusedSimpArgs false
set_option linter.unusedVariables false
set_option maxRecDepth 100000
set_option maxHeartbeats 4000000
namespace Go.Proofs.YtdmnfaefakceiaaGreat
open Go.HL Go.RowKit Pb
variable {w0 : World} {H G : Heap} {K : Value → Heap → Prop}

/-- Blocks of integers stay. -/
def Kp3 (H G : Heap) : Prop := ∀ c z, H c = some z → z.ty = .t 3 → G c = some z
theorem kp3_set {G : Heap} {b : Nat} {y z : Blk} (h : G b = some y) (hn : y.ty ≠ .t 3) : Kp3 G (G.set b z) := fun c u hc ht => by
  rw [Heap.set_other _ _ (fun q => by subst q; rw [h] at hc; cases hc; exact hn ht)]; exact hc
theorem Kp3.bld {H0 G G' : Heap} {a : Option Addr} {cap : Nat} {cs : List Value} (h : Bld w0 H0 G a cap 1 3 cs) (k : Kp3 G G') : Bld w0 H0 G' a cap 1 3 cs := by
  rcases h with ⟨b, z, rfl, h1, h2, h3, h4⟩ | h
  · exact .inl ⟨b, z, rfl, h1, h2, k b _ h3 rfl, h4⟩
  · exact .inr h
theorem ne3 {n : Nat} (h : n ≠ 3) : (Kd.t n) ≠ Kd.t 3 := fun q => h (Kd.t_inj q)
section
variable {H0 : Heap} {bm br : Nat} {av : Option Nat} {e : Evr} {x : Rp} {rg : List V4} {ims : List Sm.Im}
theorem c_stI (h : RS w0 H0 H bm br av e x rg) {i : Ins} {k len : Nat} (o : InOk e rg.length x.vs.length len k i) (ho : i.op = 4) (hk : ∀ G', RS w0 H0 G' bm br av e (rsI i rg x) rg → Kp3 H G' → K (.tuple #[]) G') :
    HCalls Tryz.prog w0 100 [.pointer (some ⟨bm, 0, none⟩), i.v] H K := by
  obtain ⟨kb, eb, hb⟩ := rgv_at (o.b (.inl ho))
  have k1 : ∀ z, Kp3 H (H.set bm z) := fun z => kp3_set h.M.m (ne3 (by decide))
  unfold rsI at hk
  rw [if_pos ho] at hk
  rcases o.st ho with (f | f | f) | ⟨f, ha⟩
  · refine c_store h.M h.sm.1 i eb hb (.inl ⟨f, hk _ ?_ (k1 _)⟩)
    unfold stI; rw [if_pos f]
    exact h.setM (y := { x with p := rgv rg i.b }) rfl
  · refine c_store h.M h.sm.1 i eb hb (.inr (.inl ⟨f, hk _ ?_ (k1 _)⟩))
    unfold stI; rw [if_neg (by omega), if_pos f]
    exact h.setM (y := { x with sz := (rgv rg i.b).a }) rfl
  · refine c_store h.M h.sm.1 i eb hb (.inr (.inr ⟨f, hk _ ?_ (k1 _)⟩))
    unfold stI; rw [if_neg (by omega), if_neg (by omega), if_neg (by omega)]
    exact h.setM (y := { x with c := rgv rg i.b }) rfl
  · obtain ⟨ka, ea⟩ := Int.eq_ofNat_of_zero_le ha.1
    have hka : ka < x.vs.length := by have := ha.2; omega
    cases ev : av with
    | none => rw [h.n ev] at hka; simp at hka
    | some bv =>
      obtain ⟨h1, h2, h3, h4⟩ := h.v bv ev
      refine c_store3 h.M i f eb hb ea hka (by unfold Rp.res; rw [ev]; rfl) h1 h2 (hk _ ?_ (kp3_set h1 (ne3 (by decide))))
      unfold stI; rw [if_neg (by omega), if_neg (by omega), if_pos f, ea, Int.toNat_natCast]
      exact h.setV ev ka (rgv rg i.b)
theorem rs_len (i : Ins) (rg : List V4) (x : Rp) : (rsI i rg x).vs.length = x.vs.length := by unfold rsI stI; (repeat' split) <;> simp
structure LS where
  G : Heap
  a : Option Addr
  cap : Nat
  m : Nat
  ps : List Nat
  k : Nat
  rg : List V4
  x : Rp
  v : Value
structure LOk (w0 : World) (H0 : Heap) (bm br : Nat) (av : Option Nat) (e : Evr) (ims : List Sm.Im) (l : List Ins) (n vn : Nat) (R : List Nat → Rp → Prop) (s : LS) : Prop where
  rs : RS w0 H0 s.G bm br av e s.x s.rg
  ln : s.rg.length = n
  lv : s.x.vs.length = vn
  b : Bld w0 H0 s.G s.a s.cap 1 3 (s.ps.map fun p => .int .i64 (p : Nat))
  m : s.m = s.ps.length
  c : s.ps.length ≤ s.cap
  k : s.k ≤ l.length
  p : s.ps.length ≤ s.k
  r : ∀ ps y, Rn ims e l s.k s.rg s.x ps y → R (s.ps ++ ps) y
/- (*paintbox/vm machine) run -/
def M49 : MC :=
  .seq (.reg [oX 4 (.mv (.const (.slice none 0 0)))])
 (.scope (.seq (.reg [oX 5 (.mv (.const (.slice none 0 0)))])
 (.seq (.reg [oX 6 (.mv (kX 0))])
 (.seq (.skip)
 (.seq (.block 0 (.loop (.seq (.seq (.reg [vX 8 6,
 vX 9 1,
 oX 10 (.len (.tmp 9)),
 oX 11 (bX .lss 8 10)])
 (.cond (.tmp 11)
 (.skip)
 (.exit 0)))
 (.block 1 (.seq (.reg [vX 12 1,
 vX 13 6,
 oX 14 (.is 16 (.tmp 12) (.tmp 13)),
 oX 15 (.ldn 16 (.tmp 14)),
 oX 7 (.alloc 46 [(.int .i64 0),(.int .i64 0),(.int .i64 0),(.int .i64 0),(.int .i64 0),(.int .i64 0),(.int .i64 0),(.int .i64 0),(.int .i32 0),(.int .i32 0),(.int .i32 0),(.int .i32 0),(.int .i64 0),(.int .i64 0),(.int .i64 0),(.int .i64 0)]),
 ⟨none,.stn 16 (.tmp 7) (.tmp 15),none⟩])
 (.seq (.reg [vX 16 5,
 vX 17 6,
 oX 18 (.bslice 3 1 [(.int .i64 0)] [(0,1,(.tmp 17))]),
 oX 19 (.app 3 1 8 [(.int .i64 0)] (.tmp 16) (.tmp 18)),
 vX 5 19])
 (.seq (.reg [vX 20 6,
 oX 21 (bK .add 20 1),
 vX 6 21])
 (.seq (.reg [oX 22 (.fa 0 (.tmp 7)),
 oX 23 (.ld1 (.tmp 22))])
 (.block 2 (.seq (.reg [oX 35 (bK .eql 23 12),
 vX 34 35])
 (.cond (.tmp 34)
 (.seq (.reg [vX 36 0,
 oX 37 (.build [(.int .i32 0),(.int .i32 0),(.int .i32 0),(.int .i32 0),(.int .i32 0),(.slice none 0 0),(.int .i32 0),(.int .i32 0),(.int .i32 0),(.int .i32 0),(.bool false)] [(10,1,(.const (.bool true)))]),
 oX 38 (.nilc (.tmp 36)),
 oX 39 (.fa 13 (.tmp 38)),
 ⟨none,.stn 11 (.tmp 39) (.tmp 37),none⟩])
 (.exit 0))
 (.seq (.reg [oX 41 (bK .eql 23 10),
 vX 40 41])
 (.cond (.tmp 40)
 (.reg [oX 42 (.fa 5 (.tmp 7)),
 oX 43 (.ld1 (.tmp 42)),
 vX 6 43])
 (.seq (.reg [oX 45 (bK .eql 23 11),
 vX 44 45])
 (.cond (.tmp 44)
 (.seq (.any [(true,0,[],vX 46 0),
 (true,1,[],oX 47 (.nilc (.tmp 46))),
 (true,2,[],oX 48 (.fa 24 (.tmp 47))),
 (true,3,[],oX 49 (.ld1 (.tmp 48))),
 (false,4,[0,1,2,3],oX 50 (.fa 6 (.tmp 7))),
 (false,5,[0,1,2,3],oX 51 (.ld1 (.tmp 50))),
 (false,6,[],oX 52 (.is 4 (.tmp 49) (.tmp 51))),
 (false,7,[],oX 53 (.ia 4 1 (.tmp 52) (kX 0))),
 (false,8,[],oX 54 (.ld1 (.tmp 53))),
 (false,9,[],oX 55 (.bin .eql (.tmp 54) (.const (.int .i32 0))))])
 (.cond (.tmp 55)
 (.reg [oX 56 (.fa 5 (.tmp 7)),
 oX 57 (.ld1 (.tmp 56)),
 vX 6 57])
 (.skip)))
 (.seq (.reg [oX 59 (bK .eql 23 4),
 vX 58 59])
 (.cond (.tmp 58)
 (.reg [vX 60 0,
 oX 61 (.ldn 16 (.tmp 7)),
 oX 62 (.call 100 [(.tmp 60),(.tmp 61)])])
 (.any [(true,0,[],vX 24 0),
 (true,1,[],oX 25 (.nilc (.tmp 24))),
 (true,2,[],oX 26 (.fa 24 (.tmp 25))),
 (true,3,[],oX 27 (.ld1 (.tmp 26))),
 (true,4,[],oX 28 (.fa 4 (.tmp 7))),
 (true,5,[],oX 29 (.ld1 (.tmp 28))),
 (true,6,[],vX 30 0),
 (false,7,[0,1,2,3,4,5,6],oX 31 (.ldn 16 (.tmp 7))),
 (false,8,[0,1,2,3,4,5],oX 32 (.call 101 [(.tmp 30),(.tmp 31)])),
 (false,9,[],oX 33 (.is 4 (.tmp 27) (.tmp 29))),
 (false,10,[],⟨none,.stn 4 (.tmp 33) (.tmp 32),none⟩)]))))))))))))))))))
 (.seq (.reg [vX 63 5,
 vX 4 63])
 (.ret)))))))
theorem k49 : fnOk Tryz.prog 49 = some (M49, [.t 4], 64) := by kernel_rfl

theorem c_run (h : RS w0 H0 H bm br av e x rg) (hi : ImgAt w0 H0 e ims) (he : EvI e) (l : List Ins) (la : Option Addr) (lc : Nat) (hl : SlAt w0 H0 la (l.map Ins.row).flatten) (hn : l.length ≤ 4096) (ok : RunOk e rg.length x.vs.length l)
    (hk : ∀ G' a cap ps av' y rg', Rn ims e l 0 rg x ps y → RS w0 H0 G' bm br av' e y rg' → Bld w0 H0 G' a cap 1 3 (ps.map fun p => .int .i64 (p : Nat)) → ps.length ≤ cap → K (.slice a ps.length cap) G') :
    HCalls Tryz.prog w0 49 [.pointer (some ⟨bm, 0, none⟩), .slice la l.length lc] H K := by
  obtain ⟨n, en⟩ : ∃ n, rg.length = n := ⟨_, rfl⟩
  obtain ⟨vn, ev⟩ : ∃ n, x.vs.length = n := ⟨_, rfl⟩
  rw [en, ev] at ok
  obtain ⟨R, eR⟩ : ∃ R, R = Rn ims e l 0 rg x := ⟨_, rfl⟩
  have ok0 : LOk w0 H0 bm br av e ims l n vn R ⟨H, none, 0, 0, [], 0, rg, x, undef⟩ := ⟨h, en, ev, .none, rfl, Nat.le_refl _, Nat.zero_le _, Nat.le_refl _, fun ps y hr => by rw [eR]; exact hr⟩
  rw [← eR] at hk
  clear eR h en ev
  replace hk : Keep _ := hk
  replace hi : Keep _ := hi
  replace he : Keep _ := he
  replace hl : Keep _ := hl
  replace ok : Keep _ := ok
  replace ok0 : Keep _ := ok0
  refine HL.hc k49 3000 ?_; unfold M49
  (all_goals (try simp only [S0,putAt,List.replicate,Int.reduceAdd,Int.reduceSub,Int.reduceMul,Int.reduceTDiv,Int.reduceTMod,Int.reduceMod,Int.reduceDiv,Nat.reduceLT,Nat.reduceEqDiff,Int.reduceLE,Int.reduceLT,Int.reduceToNat,Int.reduceNeg,Int.reduceEq,Nat.reduceLeDiff,Nat.reducePow,Int.reducePow,reduceIte,Nat.reduceSub,Nat.reduceAdd,Nat.reduceMul, *])); repeat' ((first | (with_reducible refine fun _ : True => ?_) | (with_reducible refine any_h ?_) | ((first | refine AllocQ_i ?_ | refine AllocO_i ?_); intro bk hb0 hbk; (try simp only [set_none'] at hbk)) | ((first | refine condS_i ?_ ?_ | refine pick_i ?_ ?_ | refine gS_it ?_ ?_ | refine gS_if ?_ ?_ | refine gP_it ?_ ?_ | refine gP_if ?_ ?_) <;> (intro hc; try simp only [Int.reduceLE,Int.reduceLT,Int.reduceEq,Sn] at hc)) | (with_reducible refine KP_i ?_ ?_; · exact aL) | (with_reducible refine And.intro ?_ ?_)) <;> (try simp only [S0,putAt,List.replicate,Int.reduceAdd,Int.reduceSub,Int.reduceMul,Int.reduceTDiv,Int.reduceTMod,Int.reduceMod,Int.reduceDiv,Nat.reduceLT,Nat.reduceEqDiff,Int.reduceLE,Int.reduceLT,Int.reduceToNat,Int.reduceNeg,Int.reduceEq,Nat.reduceLeDiff,Nat.reducePow,Int.reducePow,reduceIte,Nat.reduceSub,Nat.reduceAdd,Nat.reduceMul, *]))
  refine loop_g 8 (fun s : LS => [(5, .slice s.a s.m s.cap), (6, .int .i64 (s.k : Nat)), (7, s.v)]) (fun s => s.G) (fun s => LOk w0 H0 bm br av e ims l n vn R s) (fun s => l.length - s.k) ⟨H, none, 0, 0, [], 0, rg, x, undef⟩ ok0 (Heap.Le.refl _) rfl ?_
  intro ⟨G, a, cap, m, ps, k, rg, x, v⟩ f o
  obtain ⟨rs, ln, lv, B, em, cc, kl, pk, rr⟩ := o
  simp only at rs ln lv B em cc kl pk rr
  simp only
  have pm : m ≤ k := by omega
  have em' : ps.length = m := em.symm
  replace em : Keep _ := em
  replace em' : Keep _ := em'
  rcases Nat.lt_or_ge k l.length with hlt | hge
  · obtain ⟨i, ei⟩ : ∃ i, l[k]? = some i := ⟨_, List.getElem?_eq_getElem hlt⟩
    obtain ⟨bi, oi, rfl, hri, hfi⟩ := (SlAt.grow (show SlAt w0 H0 la (l.map Ins.row).flatten from hl) rs.g).row (sz := 16) (fun r hr => by obtain ⟨j, -, rfl⟩ := List.mem_map.1 hr; rfl) (by decide) (i := k) (r := i.row) (by rw [List.getElem?_map, ei]; rfl)
    have t0 : (k : Int) < (l.length : Int) := by omega
    have t1 : (0 : Int) ≤ (k : Int) := by omega
    have t3 : ((k : Nat) : Int).toNat = k := rfl
    have t6 : IntKind.i64.wrap ((k : Int) + 1) = ((k + 1 : Nat) : Int) := by rw [Bw.1 _ (by omega) (by omega)]; simp
    unfold Ins.row at hri
    replace rs : Keep _ := rs
    replace B : Keep _ := B
    replace rr : Keep _ := rr
    (all_goals (try simp only [S0,putAt,List.replicate,Int.reduceAdd,Int.reduceSub,Int.reduceMul,Int.reduceTDiv,Int.reduceTMod,Int.reduceMod,Int.reduceDiv,Nat.reduceLT,Nat.reduceEqDiff,Int.reduceLE,Int.reduceLT,Int.reduceToNat,Int.reduceNeg,Int.reduceEq,Nat.reduceLeDiff,Nat.reducePow,Int.reducePow,reduceIte,Nat.reduceSub,Nat.reduceAdd,Nat.reduceMul, *])); repeat' ((first | (with_reducible refine fun _ : True => ?_) | (with_reducible refine any_h ?_) | ((first | refine AllocQ_i ?_ | refine AllocO_i ?_); intro bk hb0 hbk; (try simp only [set_none'] at hbk)) | ((first | refine condS_i ?_ ?_ | refine pick_i ?_ ?_ | refine gS_it ?_ ?_ | refine gS_if ?_ ?_ | refine gP_it ?_ ?_ | refine gP_if ?_ ?_) <;> (intro hc; try simp only [Int.reduceLE,Int.reduceLT,Int.reduceEq,Sn] at hc)) | (with_reducible refine KP_i ?_ ?_; · exact aL) | (with_reducible refine And.intro ?_ ?_)) <;> (try simp only [S0,putAt,List.replicate,Int.reduceAdd,Int.reduceSub,Int.reduceMul,Int.reduceTDiv,Int.reduceTMod,Int.reduceMod,Int.reduceDiv,Nat.reduceLT,Nat.reduceEqDiff,Int.reduceLE,Int.reduceLT,Int.reduceToNat,Int.reduceNeg,Int.reduceEq,Nat.reduceLeDiff,Nat.reducePow,Int.reducePow,reduceIte,Nat.reduceSub,Nat.reduceAdd,Nat.reduceMul, *]))
    rename_i b7 hb7 hn7
    refine app_bld (H := H0) (n := m) (m := 1) (cs := ps.map fun p => .int .i64 (p : Nat)) (ns := [.int .i64 (k : Nat)]) (Bld.grow (show Bld w0 H0 G a cap 1 3 _ from B) aG) (by rw [List.length_map, show ps.length = m from em', Nat.mul_one]) rfl (srd_blk (t := 3) aA rfl) rfl ((show RS w0 H0 G bm br av e x rg from rs).g.trans aG) ⟨by omega, by omega⟩ rfl fun a' cap' G' hB hg hs hc => ?_
    have k7 : G' b7 = some ⟨.t 46, i.row⟩ := hs b7 _ (by unfold Ins.row; exact aA) (fun q => absurd (Kd.t_inj q) (by decide))
    have RS' := ((show RS w0 H0 G bm br av e x rg from rs).grow (G' := (G.set b7 ⟨.t 46, i.row⟩).set bk ⟨.t 3, [.int .i64 (k : Nat)]⟩) (by unfold Ins.row; exact aG)).keep hg fun c y hy hne => hs c y (by unfold Ins.row at hy; exact hy) (fun q => (hne q).elim)
    have gG := RS'.g
    have oi := (show RunOk e n vn l from ok) k i ei
    have mnx := nx_lt (show RunOk e n vn l from ok) ei rg
    have r7 := rd_blk (w0 := w0) k7
    have f7 := blkn k7
    have r16 : rdn w0 G' b7 0 16 = some i.row := by unfold rdn; rw [k7]; rfl
    unfold Ins.row at r16
    rw [← List.map_singleton (f := fun p : Nat => Value.int .i64 (p : Nat)) (a := k), ← List.map_append] at hB
    clear hri hfi hb7 hn7 hbk hs rs B
    replace gG : Keep _ := gG
    replace mnx : Keep _ := mnx
    replace hB : Keep _ := hB
    have nx : ∀ (G2 : Heap) (rg2 : List V4) (x2 : Rp), ¬ i.op = 12 → RS w0 H0 G2 bm br av e x2 rg2 → rg2 = rgI ims e i rg → x2 = rsI i rg x → rg2.length = n → x2.vs.length = vn → Kp3 G' G2 → LOk w0 H0 bm br av e ims l n vn R ⟨G2, a', cap', m + 1, ps ++ [k], nxI k i rg, rg2, x2, .pointer (some ⟨b7, 0, none⟩)⟩ := fun G2 rg2 x2 ho h1 h2 h3 h4 h5 h6 => by
      have m2 : k < nxI k i rg ∧ nxI k i rg ≤ l.length := mnx
      refine ⟨h1, h4, h5, h6.bld (show Bld w0 H0 G' a' cap' 1 3 _ from hB), by rw [List.length_append, List.length_singleton, show ps.length = m from em'], by rw [List.length_append, List.length_singleton, show ps.length = m from em']; exact hc, m2.2, by rw [List.length_append, List.length_singleton, show ps.length = m from em']; show m + 1 ≤ nxI k i rg; omega, fun qs y hq => ?_⟩
      rw [List.append_assoc]
      exact (show ∀ ps y, Rn ims e l k rg x ps y → R (_ ++ ps) y from rr) _ _ (.step ei ho (by rw [← h2, ← h3]; exact hq))
    replace nx : Keep _ := nx
    replace RS' : Keep _ := RS'
    rcases oi.cs with hw | ho | ho | ho | ho
    · have oW := oi.wr hw
      have o4 : ¬ i.op = 4 := by unfold Wr at hw; omega
      have o10 : ¬ i.op = 10 := by unfold Wr at hw; omega
      have o11 : ¬ i.op = 11 := by unfold Wr at hw; omega
      have o12 : ¬ i.op = 12 := by unfold Wr at hw; omega
      have e2 : nxI k i rg = k + 1 := by unfold nxI; rw [if_neg (by omega)]
      have m2 : k < nxI k i rg ∧ nxI k i rg ≤ l.length := mnx
      rw [e2] at m2
      have R2 := show RS w0 H0 G' bm br av e x rg from RS'
      rw [← ln] at oW
      have vI := wrV_I ims (show EvI e from he) oW R2.I
      have cW := fun (G : Heap) (K' : Value → Heap → Prop) (g : Grow w0 G' G) => c_write (K := K') (R2.M.grow g) ((show ImgAt w0 H0 e ims from hi).grow (R2.g.trans g)) i oW R2.I
      obtain ⟨kd, ed⟩ := Int.eq_ofNat_of_zero_le oW.d.1
      have hkd : kd < rg.length := by have := oW.d.2; omega
      have es : i.dst.toNat = kd := by rw [ed]; rfl
      have R3 := R2.setR kd vI
      have kR := kp3_set (z := ⟨.t 28, ((rg.set kd (wrV ims e i rg)).map V4.row).flatten⟩) R2.M.r (ne3 (by decide))
      have L := (show ∀ (G2 : Heap) (rg2 : List V4) (x2 : Rp), _ from nx) _ _ x o12 R3 (by unfold rgI; rw [if_pos hw, es]) (by unfold rsI; rw [if_neg o4]) (by rw [List.length_set]; exact ln) lv kR
      rw [e2] at L
      have hP := rows_put rg (wrV ims e i rg) hkd
      have hl4 : kd * 4 + 4 ≤ ((rg.map V4.row).flatten).length := by rw [rows_len]; omega
      have u0 : (kd : Int) < (rg.length : Int) := by omega
      have u1 : (0 : Int) ≤ (kd : Int) := by omega
      have u3 : ((kd : Nat) : Int).toNat = kd := rfl
      rw [← hP] at L
      have hm := rd_blk (w0 := w0) R2.M.m 24
      replace hm : HL.rd1 w0 G' bm 24 = some (.slice (some ⟨br, 0, none⟩) rg.length rg.length) := hm
      have hR := R2.M.r
      have fm := blkn R2.M.m
      have fR := blkn hR
      obtain ⟨q, eq⟩ : ∃ q, q = wrV ims e i rg := ⟨_, rfl⟩
      rw [← eq] at cW L
      unfold V4.v V4.row at cW
      replace L : LOk w0 H0 bm br av e ims l n vn R ⟨G'.set br ⟨.t 28, putAt ((rg.map V4.row).flatten) (kd * 4) [.int .i32 q.a, .int .i32 q.b, .int .i32 q.c, .int .i32 q.d]⟩, a', cap', m + 1, ps ++ [k], k + 1, rg.set kd q, x, .pointer (some ⟨b7, 0, none⟩)⟩ := L
      unfold Ins.v Ins.row at cW
      unfold Ins.row at r7
      rw [ed] at cW r7 r16
      clear oi nx mnx RS' R2 R3 vI hP eq kR oW ln
      replace L : Keep _ := L
      replace cW : Keep _ := cW
      (all_goals (try simp only [S0,putAt,List.replicate,Int.reduceAdd,Int.reduceSub,Int.reduceMul,Int.reduceTDiv,Int.reduceTMod,Int.reduceMod,Int.reduceDiv,Nat.reduceLT,Nat.reduceEqDiff,Int.reduceLE,Int.reduceLT,Int.reduceToNat,Int.reduceNeg,Int.reduceEq,Nat.reduceLeDiff,Nat.reducePow,Int.reducePow,reduceIte,Nat.reduceSub,Nat.reduceAdd,Nat.reduceMul, *])); repeat' ((first | (with_reducible refine fun _ : True => ?_) | refine cW _ _ aG ?_ | (with_reducible refine any_h ?_) | ((first | refine AllocQ_i ?_ | refine AllocO_i ?_); intro bk hb0 hbk; (try simp only [set_none'] at hbk)) | ((first | refine condS_i ?_ ?_ | refine pick_i ?_ ?_ | refine gS_it ?_ ?_ | refine gS_if ?_ ?_ | refine gP_it ?_ ?_ | refine gP_if ?_ ?_) <;> (intro hc; try simp only [Int.reduceLE,Int.reduceLT,Int.reduceEq,Sn] at hc)) | (with_reducible refine KP_i ?_ ?_; · exact aL) | (with_reducible refine And.intro ?_ ?_)) <;> (try simp only [S0,putAt,List.replicate,Int.reduceAdd,Int.reduceSub,Int.reduceMul,Int.reduceTDiv,Int.reduceTMod,Int.reduceMod,Int.reduceDiv,Nat.reduceLT,Nat.reduceEqDiff,Int.reduceLE,Int.reduceLT,Int.reduceToNat,Int.reduceNeg,Int.reduceEq,Nat.reduceLeDiff,Nat.reducePow,Int.reducePow,reduceIte,Nat.reduceSub,Nat.reduceAdd,Nat.reduceMul, *]))
      exact Round_mk ⟨_, a', cap', m + 1, ps ++ [k], k + 1, rg.set kd q, x, .pointer (some ⟨b7, 0, none⟩)⟩ L (by show l.length - (k + 1) < l.length - k; omega) (Heap.Le.refl _) rfl rfl
    · unfold Ins.row at r7
      rw [ho] at r7 r16
      have w : ¬ Wr i := by unfold Wr; omega
      have e2 : nxI k i rg = k + 1 := by unfold nxI; rw [if_neg (by omega)]
      have m2 : k < nxI k i rg ∧ nxI k i rg ≤ l.length := mnx
      rw [e2] at m2
      have L := fun G2 x2 => (show ∀ (G2 : Heap) (rg2 : List V4) (x2 : Rp), _ from nx) G2 rg x2 (by omega)
      rw [e2] at L
      have cS := fun (K' : Value → Heap → Prop) => c_stI (K := K') (show RS w0 H0 G' bm br av e x rg from RS') (by rw [ln, lv]; exact oi) ho
      unfold Ins.v Ins.row at cS
      rw [ho] at cS
      replace L : Keep _ := L
      replace cS : Keep _ := cS
      clear oi nx mnx RS'
      (all_goals (try simp only [S0,putAt,List.replicate,Int.reduceAdd,Int.reduceSub,Int.reduceMul,Int.reduceTDiv,Int.reduceTMod,Int.reduceMod,Int.reduceDiv,Nat.reduceLT,Nat.reduceEqDiff,Int.reduceLE,Int.reduceLT,Int.reduceToNat,Int.reduceNeg,Int.reduceEq,Nat.reduceLeDiff,Nat.reducePow,Int.reducePow,reduceIte,Nat.reduceSub,Nat.reduceAdd,Nat.reduceMul, *])); repeat' ((first | (with_reducible refine fun _ : True => ?_) | refine cS _ (fun G3 RS3 K3 => ?_)  | (with_reducible refine any_h ?_) | ((first | refine AllocQ_i ?_ | refine AllocO_i ?_); intro bk hb0 hbk; (try simp only [set_none'] at hbk)) | ((first | refine condS_i ?_ ?_ | refine pick_i ?_ ?_ | refine gS_it ?_ ?_ | refine gS_if ?_ ?_ | refine gP_it ?_ ?_ | refine gP_if ?_ ?_) <;> (intro hc; try simp only [Int.reduceLE,Int.reduceLT,Int.reduceEq,Sn] at hc)) | (with_reducible refine KP_i ?_ ?_; · exact aL) | (with_reducible refine And.intro ?_ ?_)) <;> (try simp only [S0,putAt,List.replicate,Int.reduceAdd,Int.reduceSub,Int.reduceMul,Int.reduceTDiv,Int.reduceTMod,Int.reduceMod,Int.reduceDiv,Nat.reduceLT,Nat.reduceEqDiff,Int.reduceLE,Int.reduceLT,Int.reduceToNat,Int.reduceNeg,Int.reduceEq,Nat.reduceLeDiff,Nat.reducePow,Int.reducePow,reduceIte,Nat.reduceSub,Nat.reduceAdd,Nat.reduceMul, *]))
      have L2 := (show ∀ (G2 : Heap) (x2 : Rp), _ from L) G3 (rsI i rg x) RS3 (by unfold rgI; rw [if_neg w]) rfl ln (by rw [rs_len]; exact lv) K3
      exact Round_mk ⟨G3, a', cap', m + 1, ps ++ [k], k + 1, rg, rsI i rg x, .pointer (some ⟨b7, 0, none⟩)⟩ L2 (by show l.length - (k + 1) < l.length - k; omega) (Heap.Le.refl _) rfl rfl
    · obtain ⟨ka, ea⟩ := Int.eq_ofNat_of_zero_le (show 0 ≤ i.a by have := oi.jp (.inl ho); omega)
      have m2 : k < nxI k i rg ∧ nxI k i rg ≤ l.length := mnx
      have e2 : nxI k i rg = ka := by unfold nxI; rw [if_pos (.inl ho), ea]; rfl
      have w : ¬ Wr i := by unfold Wr; omega
      have L := (show ∀ (G2 : Heap) (rg2 : List V4) (x2 : Rp), _ from nx) G' rg x (by omega) RS' (by unfold rgI; rw [if_neg w]) (by unfold rsI; rw [if_neg (by omega)]) ln lv (fun c z hcz _ => hcz)
      rw [e2] at L m2
      unfold Ins.row at r7
      rw [ho, ea] at r7 r16
      clear oi w nx mnx
      replace L : Keep _ := L
      (all_goals (try simp only [S0,putAt,List.replicate,Int.reduceAdd,Int.reduceSub,Int.reduceMul,Int.reduceTDiv,Int.reduceTMod,Int.reduceMod,Int.reduceDiv,Nat.reduceLT,Nat.reduceEqDiff,Int.reduceLE,Int.reduceLT,Int.reduceToNat,Int.reduceNeg,Int.reduceEq,Nat.reduceLeDiff,Nat.reducePow,Int.reducePow,reduceIte,Nat.reduceSub,Nat.reduceAdd,Nat.reduceMul, *])); repeat' ((first | (with_reducible refine fun _ : True => ?_) | (with_reducible refine any_h ?_) | ((first | refine AllocQ_i ?_ | refine AllocO_i ?_); intro bk hb0 hbk; (try simp only [set_none'] at hbk)) | ((first | refine condS_i ?_ ?_ | refine pick_i ?_ ?_ | refine gS_it ?_ ?_ | refine gS_if ?_ ?_ | refine gP_it ?_ ?_ | refine gP_if ?_ ?_) <;> (intro hc; try simp only [Int.reduceLE,Int.reduceLT,Int.reduceEq,Sn] at hc)) | (with_reducible refine KP_i ?_ ?_; · exact aL) | (with_reducible refine And.intro ?_ ?_)) <;> (try simp only [S0,putAt,List.replicate,Int.reduceAdd,Int.reduceSub,Int.reduceMul,Int.reduceTDiv,Int.reduceTMod,Int.reduceMod,Int.reduceDiv,Nat.reduceLT,Nat.reduceEqDiff,Int.reduceLE,Int.reduceLT,Int.reduceToNat,Int.reduceNeg,Int.reduceEq,Nat.reduceLeDiff,Nat.reducePow,Int.reducePow,reduceIte,Nat.reduceSub,Nat.reduceAdd,Nat.reduceMul, *]))
      refine Round_mk ⟨G', a', cap', m + 1, ps ++ [k], ka, rg, x, .pointer (some ⟨b7, 0, none⟩)⟩ L (by simp only; omega) (Heap.Le.refl _) rfl rfl
    · obtain ⟨kb, eb, hb⟩ := rgv_at (rg := rg) (by rw [ln]; exact oi.b (.inr ho))
      obtain ⟨ka, ea⟩ := Int.eq_ofNat_of_zero_le (show 0 ≤ i.a by have := oi.jp (.inr ho); omega)
      have m2 : k < nxI k i rg ∧ nxI k i rg ≤ l.length := mnx
      have w : ¬ Wr i := by unfold Wr; omega
      have R2 := show RS w0 H0 G' bm br av e x rg from RS'
      have L := (show ∀ (G2 : Heap) (rg2 : List V4) (x2 : Rp), _ from nx) G' rg x (by omega) RS' (by unfold rgI; rw [if_neg w]) (by unfold rsI; rw [if_neg (by omega)]) ln lv (fun c z hcz _ => hcz)
      have hm : HL.rd1 w0 G' bm 24 = some (.slice (some ⟨br, 0, none⟩) rg.length rg.length) := rd_blk (w0 := w0) R2.M.m 24
      have hq := rows_at (w0 := w0) R2.M.r hb
      have h1 : HL.rd1 w0 G' br (kb * 4) = some (.int .i32 (rgv rg i.b).a) := (rd1_of_rdn hq (i := 0) (by decide)).1
      have fm := blkn R2.M.m
      have fR := blkn R2.M.r
      have u0 : (kb : Int) < (rg.length : Int) := Int.ofNat_lt.2 (List.getElem?_eq_some_iff.1 hb).1
      have u1 : (0 : Int) ≤ (kb : Int) := by omega
      have u3 : ((kb : Nat) : Int).toNat = kb := rfl
      unfold Ins.row at r7
      have en : nxI k i rg = if (rgv rg i.b).a = 0 then ka else k + 1 := by
        unfold nxI
        by_cases z : (rgv rg i.b).a = 0
        · rw [if_pos (.inr ⟨ho, z⟩), if_pos z, ea]; rfl
        · rw [if_neg (by omega), if_neg z]
      rw [en] at L m2
      rw [ho, ea, eb] at r7 r16
      rw [eb] at h1 L m2
      generalize (rgv rg (kb : Int)).a = q at h1 L m2
      clear oi nx mnx RS' R2 w hq hb en ln
      by_cases z : q = 0
      · rw [if_pos z] at L m2
        subst z
        replace L : Keep _ := L
        (all_goals (try simp only [S0,putAt,List.replicate,Int.reduceAdd,Int.reduceSub,Int.reduceMul,Int.reduceTDiv,Int.reduceTMod,Int.reduceMod,Int.reduceDiv,Nat.reduceLT,Nat.reduceEqDiff,Int.reduceLE,Int.reduceLT,Int.reduceToNat,Int.reduceNeg,Int.reduceEq,Nat.reduceLeDiff,Nat.reducePow,Int.reducePow,reduceIte,Nat.reduceSub,Nat.reduceAdd,Nat.reduceMul, *])); repeat' ((first | (with_reducible refine fun _ : True => ?_) | (with_reducible refine any_h ?_) | ((first | refine AllocQ_i ?_ | refine AllocO_i ?_); intro bk hb0 hbk; (try simp only [set_none'] at hbk)) | ((first | refine condS_i ?_ ?_ | refine pick_i ?_ ?_ | refine gS_it ?_ ?_ | refine gS_if ?_ ?_ | refine gP_it ?_ ?_ | refine gP_if ?_ ?_) <;> (intro hc; try simp only [Int.reduceLE,Int.reduceLT,Int.reduceEq,Sn] at hc)) | (with_reducible refine KP_i ?_ ?_; · exact aL) | (with_reducible refine And.intro ?_ ?_)) <;> (try simp only [S0,putAt,List.replicate,Int.reduceAdd,Int.reduceSub,Int.reduceMul,Int.reduceTDiv,Int.reduceTMod,Int.reduceMod,Int.reduceDiv,Nat.reduceLT,Nat.reduceEqDiff,Int.reduceLE,Int.reduceLT,Int.reduceToNat,Int.reduceNeg,Int.reduceEq,Nat.reduceLeDiff,Nat.reducePow,Int.reducePow,reduceIte,Nat.reduceSub,Nat.reduceAdd,Nat.reduceMul, *]))
        exact Round_mk ⟨G', a', cap', m + 1, ps ++ [k], ka, rg, x, .pointer (some ⟨b7, 0, none⟩)⟩ L (by show l.length - ka < l.length - k; omega) (Heap.Le.refl _) rfl rfl
      · rw [if_neg z] at L m2
        replace L : Keep _ := L
        (all_goals (try simp only [S0,putAt,List.replicate,Int.reduceAdd,Int.reduceSub,Int.reduceMul,Int.reduceTDiv,Int.reduceTMod,Int.reduceMod,Int.reduceDiv,Nat.reduceLT,Nat.reduceEqDiff,Int.reduceLE,Int.reduceLT,Int.reduceToNat,Int.reduceNeg,Int.reduceEq,Nat.reduceLeDiff,Nat.reducePow,Int.reducePow,reduceIte,Nat.reduceSub,Nat.reduceAdd,Nat.reduceMul, *])); repeat' ((first | (with_reducible refine fun _ : True => ?_) | (with_reducible refine any_h ?_) | ((first | refine AllocQ_i ?_ | refine AllocO_i ?_); intro bk hb0 hbk; (try simp only [set_none'] at hbk)) | ((first | refine condS_i ?_ ?_ | refine pick_i ?_ ?_ | refine gS_it ?_ ?_ | refine gS_if ?_ ?_ | refine gP_it ?_ ?_ | refine gP_if ?_ ?_) <;> (intro hc; try simp only [Int.reduceLE,Int.reduceLT,Int.reduceEq,Sn] at hc)) | (with_reducible refine KP_i ?_ ?_; · exact aL) | (with_reducible refine And.intro ?_ ?_)) <;> (try simp only [S0,putAt,List.replicate,Int.reduceAdd,Int.reduceSub,Int.reduceMul,Int.reduceTDiv,Int.reduceTMod,Int.reduceMod,Int.reduceDiv,Nat.reduceLT,Nat.reduceEqDiff,Int.reduceLE,Int.reduceLT,Int.reduceToNat,Int.reduceNeg,Int.reduceEq,Nat.reduceLeDiff,Nat.reducePow,Int.reducePow,reduceIte,Nat.reduceSub,Nat.reduceAdd,Nat.reduceMul, *]))
        exact Round_mk ⟨G', a', cap', m + 1, ps ++ [k], k + 1, rg, x, .pointer (some ⟨b7, 0, none⟩)⟩ L (by show l.length - (k + 1) < l.length - k; omega) (Heap.Le.refl _) rfl rfl
    · unfold Ins.row at r7
      rw [ho] at r7 r16
      have hm := (show RS w0 H0 G' bm br av e x rg from RS').M.m
      unfold mRow Evr.row Rp.res Res.row at hm
      simp only [List.cons_append, List.nil_append] at hm
      have fm := blkn hm
      have D := (show RS w0 H0 G' bm br av e x rg from RS').setD
      unfold mRow Evr.row Rp.res Res.row Rp.dis V4.z at D
      simp only [List.cons_append, List.nil_append, Option.map_none, Option.isSome_none, List.length_nil, Bool.false_eq_true, if_false, reduceIte, ln] at D
      have F := (show ∀ (G' : Heap) (a : Option Addr) (cap : Nat) (ps : List Nat) (av' : Option Nat) (y : Rp) (rg' : List V4), _ from hk) _ _ _ (ps ++ [k]) none _ rg ((show ∀ ps y, Rn ims e l k rg x ps y → R (_ ++ ps) y from rr) _ _ (.dis ei ho)) (show RS w0 H0 _ bm br none e Rp.dis rg from D) (Kp3.bld (show Bld w0 H0 G' a' cap' 1 3 _ from hB) (kp3_set hm (ne3 (by decide)))) (by rw [List.length_append, List.length_singleton, show ps.length = m from em']; exact hc)
      rw [List.length_append, List.length_singleton, show ps.length = m from em'] at F
      clear oi nx mnx D RS'
      replace F : Keep _ := F
      (all_goals (try simp only [S0,putAt,List.replicate,Int.reduceAdd,Int.reduceSub,Int.reduceMul,Int.reduceTDiv,Int.reduceTMod,Int.reduceMod,Int.reduceDiv,Nat.reduceLT,Nat.reduceEqDiff,Int.reduceLE,Int.reduceLT,Int.reduceToNat,Int.reduceNeg,Int.reduceEq,Nat.reduceLeDiff,Nat.reducePow,Int.reducePow,reduceIte,Nat.reduceSub,Nat.reduceAdd,Nat.reduceMul, *])); repeat' ((first | (with_reducible refine fun _ : True => ?_) | (with_reducible refine any_h ?_) | ((first | refine AllocQ_i ?_ | refine AllocO_i ?_); intro bk hb0 hbk; (try simp only [set_none'] at hbk)) | ((first | refine condS_i ?_ ?_ | refine pick_i ?_ ?_ | refine gS_it ?_ ?_ | refine gS_if ?_ ?_ | refine gP_it ?_ ?_ | refine gP_if ?_ ?_) <;> (intro hc; try simp only [Int.reduceLE,Int.reduceLT,Int.reduceEq,Sn] at hc)) | (with_reducible refine KP_i ?_ ?_; · exact aL) | (with_reducible refine And.intro ?_ ?_)) <;> (try simp only [S0,putAt,List.replicate,Int.reduceAdd,Int.reduceSub,Int.reduceMul,Int.reduceTDiv,Int.reduceTMod,Int.reduceMod,Int.reduceDiv,Nat.reduceLT,Nat.reduceEqDiff,Int.reduceLE,Int.reduceLT,Int.reduceToNat,Int.reduceNeg,Int.reduceEq,Nat.reduceLeDiff,Nat.reducePow,Int.reducePow,reduceIte,Nat.reduceSub,Nat.reduceAdd,Nat.reduceMul, *]))
      exact Fin_mk aL F
  · have ek : k = l.length := by omega
    subst ek
    have F := (show ∀ (G' : Heap) (a : Option Addr) (cap : Nat) (ps : List Nat) (av' : Option Nat) (y : Rp) (rg' : List V4), _ from hk) _ _ _ (ps ++ []) av x rg (rr _ _ (.fin (Nat.le_refl _))) rs (by rw [List.append_nil]; exact B) (by rw [List.append_nil]; exact cc)
    rw [List.append_nil, show ps.length = m from em'] at F
    have t1 : ¬ (l.length : Int) < (l.length : Int) := by omega
    clear rs B rr ok0 hk hi he hl ok
    replace F : Keep _ := F
    (all_goals (try simp only [S0,putAt,List.replicate,Int.reduceAdd,Int.reduceSub,Int.reduceMul,Int.reduceTDiv,Int.reduceTMod,Int.reduceMod,Int.reduceDiv,Nat.reduceLT,Nat.reduceEqDiff,Int.reduceLE,Int.reduceLT,Int.reduceToNat,Int.reduceNeg,Int.reduceEq,Nat.reduceLeDiff,Nat.reducePow,Int.reducePow,reduceIte,Nat.reduceSub,Nat.reduceAdd,Nat.reduceMul, *])); repeat' ((first | (with_reducible refine fun _ : True => ?_) | (with_reducible refine any_h ?_) | ((first | refine AllocQ_i ?_ | refine AllocO_i ?_); intro bk hb0 hbk; (try simp only [set_none'] at hbk)) | ((first | refine condS_i ?_ ?_ | refine pick_i ?_ ?_ | refine gS_it ?_ ?_ | refine gS_if ?_ ?_ | refine gP_it ?_ ?_ | refine gP_if ?_ ?_) <;> (intro hc; try simp only [Int.reduceLE,Int.reduceLT,Int.reduceEq,Sn] at hc)) | (with_reducible refine KP_i ?_ ?_; · exact aL) | (with_reducible refine And.intro ?_ ?_)) <;> (try simp only [S0,putAt,List.replicate,Int.reduceAdd,Int.reduceSub,Int.reduceMul,Int.reduceTDiv,Int.reduceTMod,Int.reduceMod,Int.reduceDiv,Nat.reduceLT,Nat.reduceEqDiff,Int.reduceLE,Int.reduceLT,Int.reduceToNat,Int.reduceNeg,Int.reduceEq,Nat.reduceLeDiff,Nat.reducePow,Int.reducePow,reduceIte,Nat.reduceSub,Nat.reduceAdd,Nat.reduceMul, *]))
    exact Fin_mk aL F
end
end Go.Proofs.YtdmnfaefakceiaaGreat
end
section
/- What Check lets pass can run (layer 18; plain). -/
set_option linter.unusedSimpArgs false
set_option linter.unusedVariables false
set_option maxRecDepth 100000
set_option maxHeartbeats 4000000
namespace Go.Proofs.YtdmnfaefakceiaaGreat
open Go.HL Go.RowKit Pb

/-- Do surroundings fit a code? -/
def fitP (c : Cd) (e : Evr) : Prop := mayP c ∧ (e.la.length : Int) = c.ab ∧ (e.lu.length : Int) = c.un ∧ (e.lv.length : Int) = (if c.st = 1 then 0 else c.va)
/-- How many varyings the result has. -/
def nvs (c : Cd) : Nat := if c.st = 1 then c.va.toNat else 0
/-- Constants of 32 bits. -/
def CdI (c : Cd) : Prop := ∀ i ∈ c.is, I32 i.m0 ∧ I32 i.m1 ∧ I32 i.m2 ∧ I32 i.m3
theorem below_t {x n : Int} (h : below x n = true) : 0 ≤ x ∧ x < n := of_decide_eq_true h
theorem okK_t {u : Bool} {n : Int} {P : List Int} {k : Nat} (h : okK u n P k = true) : 0 ≤ P.getD k 0 ∧ P.getD k 0 < 4 := by
  unfold okK at h
  simp only [Bool.and_eq_true, decide_eq_true_eq] at h
  exact h.1.1
theorem run_ok {c : Cd} {e : Evr} (hf : fitP c e) (hI : CdI c) : RunOk e c.rg.toNat (nvs c) c.is := by
  obtain ⟨⟨hst, hlen, hrg, hab, hun, hva, hall⟩, ea, eu, ev⟩ := hf
  intro k i hi
  obtain ⟨hl, hk, hr⟩ := hall k i hi
  have hm := hI i (List.mem_of_getElem? hi)
  have rg0 := below_t hrg
  have rIn : ∀ r, r ∈ regsL i → In r c.rg.toNat := fun r h => by have := below_t (hr r h); exact ⟨this.1, by omega⟩
  have hd : Wr i → i.dst ∈ regsL i := fun w => by
    have : wrt i = true := by unfold wrt; exact decide_eq_true (by unfold Wr at w; omega)
    unfold regsL; rw [if_pos this]; exact List.mem_cons_self ..
  have hrd : ∀ r, r ∈ reads i → r ∈ regsL i := fun r h => by
    unfold regsL; split
    · exact List.mem_cons_of_mem _ h
    · exact h
  unfold legalB at hl
  have hcs : Wr i ∨ i.op = 4 ∨ i.op = 10 ∨ i.op = 11 ∨ i.op = 12 := by
    unfold Wr
    by_cases h1 : i.op = 1 ∨ i.op = 2 ∨ i.op = 9
    · omega
    rw [if_neg h1] at hl
    by_cases h3 : i.op = 3
    · omega
    rw [if_neg h3] at hl
    by_cases h4 : i.op = 4
    · omega
    rw [if_neg h4] at hl
    by_cases h5 : i.op = 5
    · omega
    rw [if_neg h5] at hl
    by_cases h6 : i.op = 6 ∨ i.op = 7
    · omega
    rw [if_neg h6] at hl
    by_cases h8 : i.op = 8
    · omega
    rw [if_neg h8] at hl
    by_cases h10 : i.op = 10 ∨ i.op = 11
    · omega
    rw [if_neg h10] at hl
    by_cases h12 : i.op = 12
    · omega
    rw [if_neg h12] at hl
    cases hl
  have i0 : Wr i → In 0 c.rg.toNat := fun w => by
    obtain ⟨d1, d2⟩ := rIn _ (hd w)
    exact ⟨Int.le_refl _, by omega⟩
  have l5 : i.op = 5 → 0 < args i.fn i.bs ∧ 1 ≤ i.n ∧ i.n ≤ 4 := fun h => by simpa [h, sized] using hl
  have l6 : i.op = 6 ∨ i.op = 7 → spreadB (decide (i.op = 7)) i = true := fun h => by
    rw [if_neg (by omega), if_neg (by omega), if_neg (by omega), if_neg (by omega), if_pos h] at hl; exact hl
  have k5 : i.op = 5 → (2 ≤ args i.fn i.bs ∨ i.b = 0) ∧ (3 ≤ args i.fn i.bs ∨ i.c = 0) := fun h => by
    unfold keepI at hk
    rw [if_neg (by omega), if_neg (by omega), if_neg (by omega), if_neg (by omega), if_neg (by omega), if_pos h] at hk
    have e1 := congrArg Ins.b hk
    have e2 := congrArg Ins.c hk
    simp only at e1 e2
    constructor
    · by_cases q : 2 ≤ args i.fn i.bs
      · exact .inl q
      · rw [if_neg q] at e1; exact .inr e1.symm
    · by_cases q : 3 ≤ args i.fn i.bs
      · exact .inl q
      · rw [if_neg q] at e2; exact .inr e2.symm
  have r5 : i.op = 5 → reads i = [i.a, i.b, i.c].take (args i.fn i.bs).toNat := fun h => by unfold reads; rw [if_neg (by omega), if_neg (by omega), if_pos h]
  have al := args_le i.fn i.bs
  have m5 : i.op = 5 → i.a ∈ reads i ∧ (2 ≤ args i.fn i.bs → i.b ∈ reads i) ∧ (3 ≤ args i.fn i.bs → i.c ∈ reads i) := fun h => by
    rw [r5 h]
    have h0 := (l5 h).1
    rcases (by omega : args i.fn i.bs = 1 ∨ args i.fn i.bs = 2 ∨ args i.fn i.bs = 3) with q | q | q <;> rw [q] <;> simp
  refine ⟨hcs, fun w => ⟨w, rIn _ (hd w), hm, fun n1 n3 => ?_, fun h => ?_, fun h => ?_, fun h => ?_, fun h => ?_, fun h => ?_, fun h => ?_, fun h => ?_⟩, fun h => ?_, fun h => ?_, fun h => ?_⟩
  · refine rIn _ (hrd _ ?_)
    by_cases h5 : i.op = 5
    · exact (m5 h5).1
    · unfold reads
      unfold Wr at w
      rcases (by omega : i.op = 2 ∨ i.op = 6 ∨ i.op = 7 ∨ i.op = 8 ∨ i.op = 9) with q | q | q | q | q <;> rw [q] <;> simp
  · by_cases h5 : i.op = 5
    · rcases (k5 h5).1 with q | q
      · exact rIn _ (hrd _ ((m5 h5).2.1 q))
      · rw [q]; exact i0 w
    · refine rIn _ (hrd _ ?_)
      unfold reads
      rw [show i.op = 9 by omega]; simp
  · rcases (k5 h).2 with q | q
    · exact rIn _ (hrd _ ((m5 h).2.2 q))
    · rw [q]; exact i0 w
  · rw [if_neg (by omega), if_pos h] at hl
    have get : ∀ (L : List V4) (n : Int), (L.length : Int) = n → below i.a n = true → (∃ v, L[i.a.toNat]? = some v) ∧ 0 ≤ i.a := fun L n e hb => by
      have := below_t hb
      exact ⟨⟨_, List.getElem?_eq_getElem (by omega)⟩, this.1⟩
    unfold loadR
    by_cases f1 : i.fn = 1
    · rw [if_pos f1, Bool.and_eq_true] at hl
      simp only [if_pos f1]
      have := get _ _ ea hl.2
      exact ⟨this.1, fun _ => this.2⟩
    rw [if_neg f1] at hl
    by_cases f2 : i.fn = 2
    · rw [if_pos f2] at hl
      simp only [if_neg f1, if_pos f2]
      have := get _ _ eu hl
      exact ⟨this.1, fun _ => this.2⟩
    rw [if_neg f2] at hl
    by_cases f3 : i.fn = 3
    · rw [if_pos f3, Bool.and_eq_true, decide_eq_true_eq] at hl
      simp only [if_neg f1, if_neg f2, if_pos f3]
      have := get _ _ (by rw [ev, if_neg hl.1]) hl.2
      exact ⟨this.1, fun _ => this.2⟩
    simp only [if_neg f1, if_neg f2, if_neg f3]
    refine ⟨?_, fun q => by omega⟩
    split
    · exact ⟨_, rfl⟩
    · split <;> exact ⟨_, rfl⟩
  · have := (l5 h).1; omega
  · rcases h with h | h
    · exact (l5 h).2
    · have := l6 h
      unfold spreadB sized at this
      simp only [Bool.and_eq_true, decide_eq_true_eq] at this
      exact this.1.1.1.1
  · rw [if_neg (by omega), if_neg (by omega), if_neg (by omega), if_neg (by omega), if_neg (by omega), if_pos h] at hl
    unfold sized isBase at hl
    simp only [Bool.and_eq_true, decide_eq_true_eq] at hl
    exact ⟨by omega, by omega, by omega⟩
  · intro k hk4
    have := l6 h
    unfold spreadB at this
    simp only [Bool.and_eq_true] at this
    have o0 := okK_t this.1.1.1.2
    have o1 := okK_t this.1.1.2
    have o2 := okK_t this.1.2
    have o3 := okK_t this.2
    rcases (by omega : k = 0 ∨ k = 1 ∨ k = 2 ∨ k = 3) with rfl | rfl | rfl | rfl
    · exact o0
    · exact o1
    · exact o2
    · exact o3
  · refine rIn _ (hrd _ ?_)
    unfold reads
    rcases h with q | q <;> rw [q] <;> simp
  · rw [if_neg (by omega), if_neg (by omega), if_pos h] at hl
    by_cases f1 : i.fn = 1 ∨ i.fn = 2
    · left; omega
    rw [if_neg f1] at hl
    by_cases f3 : i.fn = 3
    · rw [if_pos f3, Bool.and_eq_true, decide_eq_true_eq] at hl
      have := below_t hl.2
      refine .inr ⟨f3, this.1, ?_⟩
      unfold nvs; rw [if_pos hl.1]; omega
    rw [if_neg f3] at hl
    by_cases f4 : i.fn = 4
    · left; omega
    · rw [if_neg f4] at hl; cases hl
  · rw [if_neg (by omega), if_neg (by omega), if_neg (by omega), if_neg (by omega), if_neg (by omega), if_neg (by omega), if_pos h, Bool.and_eq_true, decide_eq_true_eq, decide_eq_true_eq] at hl
    exact hl
end Go.Proofs.YtdmnfaefakceiaaGreat
end
