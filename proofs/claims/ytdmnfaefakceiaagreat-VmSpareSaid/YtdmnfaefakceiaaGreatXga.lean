/- Vxa Vxb Vxc -/
import Derived.Test.YtdmnfaefakceiaaGreatVma
import Derived.Test.YtdmnfaefakceiaaGreatCea
import Derived.Test.YtdmnfaefakceiaaGreatVda
import Derived.Test.YtdmnfaefakceiaaGreatVdc
import Derived.Test.YtdmnfaefakceiaaGreatCva
section
/- The machine's surroundings and registers; loads (layer 18). -/
set_option linter.unusedSimpArgs false
set_option linter.unusedVariables false
set_option maxRecDepth 100000
set_option maxHeartbeats 4000000
namespace Go.Proofs.YtdmnfaefakceiaaGreat
open Go.HL Go.RowKit Pb
variable {w0 : World} {H G : Heap} {K : Value → Heap → Prop}

def V4.v (x : V4) : Value := .agg ⟨x.row⟩
def V4.I (x : V4) : Prop := I32 x.a ∧ I32 x.b ∧ I32 x.c ∧ I32 x.d
def V4.f (x : V4) : Nat → Int := fun i => if i = 0 then x.a else if i = 1 then x.b else if i = 2 then x.c else x.d
def V4.of (g : Nat → Int) : V4 := ⟨g 0, g 1, g 2, g 3⟩
def V4.z : V4 := ⟨0, 0, 0, 0⟩
theorem V4.f_I {x : V4} (h : x.I) (i : Nat) : I32 (x.f i) := by
  unfold V4.f
  (repeat' split)
  · exact h.1
  · exact h.2.1
  · exact h.2.2.1
  · exact h.2.2.2
/-- Surroundings; the images' rows are left open. -/
structure Evr where
  aa : Option Addr
  ac : Nat
  la : List V4
  ua : Option Addr
  uc : Nat
  lu : List V4
  va : Option Addr
  vc : Nat
  lv : List V4
  co : V4
  fr : Bool
  po : V4
  ia : Option Addr
  ic : Nat
  il : Nat
def Evr.row (x : Evr) : List Value := [.slice x.aa x.la.length x.ac, .slice x.ua x.lu.length x.uc, .slice x.va x.lv.length x.vc, .int .i32 x.co.a, .int .i32 x.co.b, .int .i32 x.co.c, .int .i32 x.co.d, .bool x.fr, .int .i32 x.po.a, .int .i32 x.po.b, .int .i32 x.po.c, .int .i32 x.po.d, .slice x.ia x.il x.ic]
structure EvAt (w0 : World) (H : Heap) (x : Evr) : Prop where
  a1 : SlAt w0 H x.aa (x.la.map V4.row).flatten
  u1 : SlAt w0 H x.ua (x.lu.map V4.row).flatten
  v1 : SlAt w0 H x.va (x.lv.map V4.row).flatten
theorem EvAt.grow {x : Evr} (h : EvAt w0 H x) (g : Grow w0 H G) : EvAt w0 G x := ⟨h.a1.grow g, h.u1.grow g, h.v1.grow g⟩
theorem blkn {G : Heap} {b : Nat} {x : Blk} (h : G b = some x) : ∀ c, G c = none → c ≠ b ∧ b ≠ c := fun c hc => ⟨fun e => (by subst e; rw [h] at hc; cases hc), fun e => (by subst e; rw [h] at hc; cases hc)⟩
theorem rd_blk {G : Heap} {b : Nat} {t : Kd} {l : List Value} (h : G b = some ⟨t, l⟩) (k : Nat) : HL.rd1 w0 G b k = l[k]? := by unfold HL.rd1; rw [h]
/-- What a load comes to. -/
def loadR (i : Ins) (e : Evr) : Option V4 :=
  if i.fn = 1 then e.la[i.a.toNat]? else if i.fn = 2 then e.lu[i.a.toNat]? else if i.fn = 3 then e.lv[i.a.toNat]? else if i.fn = 4 then some e.co else if i.fn = 5 then some ⟨if e.fr then 1 else 0, 0, 0, 0⟩ else some ⟨e.po.a, e.po.b, 0, 0⟩
/-- The cells of a machine. -/
def mRow (e : Evr) (rs : Res) (br n : Nat) : List Value := e.row ++ rs.row ++ [.slice (some ⟨br, 0, none⟩) n n]
/- (*paintbox/vm machine) load -/
def M146 : MC :=
  .seq (.reg [oX 3 (.box 46 (.tmp 1)),
 oX 4 (.alloc 28 [(.int .i32 0),(.int .i32 0),(.int .i32 0),(.int .i32 0)])])
 (.seq (.seq (.reg [oX 5 (.fa 1 (.tmp 3)),
 oX 6 (.ld1 (.tmp 5))])
 (.block 0 (.seq (.reg [oX 8 (bK .eql 6 1),
 vX 7 8])
 (.cond (.tmp 7)
 (.seq (.any [(true,0,[],vX 9 0),
 (true,1,[],oX 10 (.nilc (.tmp 9))),
 (true,2,[],oX 11 (.fa 0 (.tmp 10))),
 (true,3,[],oX 12 (.fa 0 (.tmp 11))),
 (true,4,[],oX 13 (.ld1 (.tmp 12))),
 (false,5,[0,1,2,3,4],oX 14 (.fa 5 (.tmp 3))),
 (false,6,[0,1,2,3,4],oX 15 (.ld1 (.tmp 14))),
 (false,7,[],oX 16 (.is 4 (.tmp 13) (.tmp 15))),
 (false,8,[],oX 17 (.ldn 4 (.tmp 16))),
 (false,9,[],⟨none,.stn 4 (.tmp 4) (.tmp 17),none⟩)])
 (.ret))
 (.seq (.reg [oX 19 (bK .eql 6 2),
 vX 18 19])
 (.cond (.tmp 18)
 (.seq (.any [(true,0,[],vX 20 0),
 (true,1,[],oX 21 (.nilc (.tmp 20))),
 (true,2,[],oX 22 (.fa 0 (.tmp 21))),
 (true,3,[],oX 23 (.fa 1 (.tmp 22))),
 (true,4,[],oX 24 (.ld1 (.tmp 23))),
 (false,5,[0,1,2,3,4],oX 25 (.fa 5 (.tmp 3))),
 (false,6,[0,1,2,3,4],oX 26 (.ld1 (.tmp 25))),
 (false,7,[],oX 27 (.is 4 (.tmp 24) (.tmp 26))),
 (false,8,[],oX 28 (.ldn 4 (.tmp 27))),
 (false,9,[],⟨none,.stn 4 (.tmp 4) (.tmp 28),none⟩)])
 (.ret))
 (.seq (.reg [oX 30 (bK .eql 6 3),
 vX 29 30])
 (.cond (.tmp 29)
 (.seq (.any [(true,0,[],vX 31 0),
 (true,1,[],oX 32 (.nilc (.tmp 31))),
 (true,2,[],oX 33 (.fa 0 (.tmp 32))),
 (true,3,[],oX 34 (.fa 2 (.tmp 33))),
 (true,4,[],oX 35 (.ld1 (.tmp 34))),
 (false,5,[0,1,2,3,4],oX 36 (.fa 5 (.tmp 3))),
 (false,6,[0,1,2,3,4],oX 37 (.ld1 (.tmp 36))),
 (false,7,[],oX 38 (.is 4 (.tmp 35) (.tmp 37))),
 (false,8,[],oX 39 (.ldn 4 (.tmp 38))),
 (false,9,[],⟨none,.stn 4 (.tmp 4) (.tmp 39),none⟩)])
 (.ret))
 (.seq (.reg [oX 41 (bK .eql 6 4),
 vX 40 41])
 (.cond (.tmp 40)
 (.seq (.reg [vX 42 0,
 oX 43 (.nilc (.tmp 42)),
 oX 44 (.fa 0 (.tmp 43)),
 oX 45 (.fa 3 (.tmp 44)),
 oX 46 (.ldn 4 (.tmp 45)),
 ⟨none,.stn 4 (.tmp 4) (.tmp 46),none⟩])
 (.ret))
 (.seq (.reg [oX 48 (bK .eql 6 5),
 vX 47 48])
 (.cond (.tmp 47)
 (.seq (.reg [vX 49 0,
 oX 50 (.nilc (.tmp 49)),
 oX 51 (.fa 0 (.tmp 50)),
 oX 52 (.fa 7 (.tmp 51)),
 oX 53 (.ld1 (.tmp 52)),
 oX 54 (.call 37 [(.tmp 53)]),
 oX 55 (.build [(.int .i32 0),(.int .i32 0),(.int .i32 0),(.int .i32 0)] [(0,1,(.tmp 54))]),
 ⟨none,.stn 4 (.tmp 4) (.tmp 55),none⟩])
 (.ret))
 (.skip)))))))))))))
 (.seq (.reg [vX 56 0,
 oX 57 (.nilc (.tmp 56)),
 oX 58 (.fa 0 (.tmp 57)),
 oX 59 (.fa 8 (.tmp 58)),
 oX 60 (.ldn 4 (.tmp 59)),
 oX 61 (.call 76 [(kX 2),(.tmp 60)]),
 ⟨none,.stn 4 (.tmp 4) (.tmp 61),none⟩])
 (.ret)))
theorem k146 : fnOk Tryz.prog 146 = some (M146, [.cn 4 4], 62) := by kernel_rfl

theorem c_load (i : Ins) (e : Evr) (rs : Res) (br n bm : Nat) {ty : Kd} (v : V4) (hm : H bm = some ⟨ty, mRow e rs br n⟩) (he : EvAt w0 H e) (ha : i.fn = 1 ∨ i.fn = 2 ∨ i.fn = 3 → 0 ≤ i.a) (hv : loadR i e = some v) (h : K v.v H) :
    HCalls Tryz.prog w0 146 [.pointer (some ⟨bm, 0, none⟩), i.v] H K := by
  have hne := blkn hm
  have hr := rd_blk (w0 := w0) hm
  unfold mRow Evr.row Res.row at hr
  simp only [List.cons_append, List.nil_append] at hr
  unfold Ins.v Ins.row
  unfold loadR at hv
  unfold V4.v V4.row at h
  obtain ⟨v0, v1, v2, v3⟩ := v
  simp only at h
  replace h : Keep _ := h
  have main : ∀ (S : List V4) (sa : Option Addr) (sc : Nat), SlAt w0 H sa (S.map V4.row).flatten → 0 ≤ i.a → S[i.a.toNat]? = some ⟨v0, v1, v2, v3⟩ → ∃ (k : Nat) (b o : Nat), i.a = (k : Int) ∧ k < S.length ∧ sa = some ⟨b, o, none⟩ ∧ rdn w0 H b (o + k * 4) 4 = some [.int .i32 v0, .int .i32 v1, .int .i32 v2, .int .i32 v3] ∧ ∀ c, w0.heap.size ≤ c → H c = none → c ≠ b := fun S sa sc hS h0 hk => by
    obtain ⟨k, ek⟩ := Int.eq_ofNat_of_zero_le h0
    rw [ek] at hk ⊢
    rw [Int.toNat_natCast] at hk
    obtain ⟨b, o, e1, e2, e3⟩ := v4_row hS hk
    exact ⟨k, b, o, rfl, (List.getElem?_eq_some_iff.1 hk).1, e1, e2, e3⟩
  have hc : (i.fn = 1 ∧ ∃ (k : Nat) (b o : Nat), i.a = (k : Int) ∧ k < e.la.length ∧ e.aa = some ⟨b, o, none⟩ ∧ rdn w0 H b (o + k * 4) 4 = some [.int .i32 v0, .int .i32 v1, .int .i32 v2, .int .i32 v3] ∧ ∀ c, w0.heap.size ≤ c → H c = none → c ≠ b)
      ∨ (i.fn = 2 ∧ ∃ (k : Nat) (b o : Nat), i.a = (k : Int) ∧ k < e.lu.length ∧ e.ua = some ⟨b, o, none⟩ ∧ rdn w0 H b (o + k * 4) 4 = some [.int .i32 v0, .int .i32 v1, .int .i32 v2, .int .i32 v3] ∧ ∀ c, w0.heap.size ≤ c → H c = none → c ≠ b)
      ∨ (i.fn = 3 ∧ ∃ (k : Nat) (b o : Nat), i.a = (k : Int) ∧ k < e.lv.length ∧ e.va = some ⟨b, o, none⟩ ∧ rdn w0 H b (o + k * 4) 4 = some [.int .i32 v0, .int .i32 v1, .int .i32 v2, .int .i32 v3] ∧ ∀ c, w0.heap.size ≤ c → H c = none → c ≠ b)
      ∨ (i.fn = 4 ∧ e.co = ⟨v0, v1, v2, v3⟩) ∨ (i.fn = 5 ∧ (⟨if e.fr then 1 else 0, 0, 0, 0⟩ : V4) = ⟨v0, v1, v2, v3⟩)
      ∨ ((¬ i.fn = 1 ∧ ¬ i.fn = 2 ∧ ¬ i.fn = 3 ∧ ¬ i.fn = 4 ∧ ¬ i.fn = 5) ∧ (⟨e.po.a, e.po.b, 0, 0⟩ : V4) = ⟨v0, v1, v2, v3⟩) := by
    by_cases f1 : i.fn = 1
    · rw [if_pos f1] at hv; exact .inl ⟨f1, main e.la e.aa e.ac he.a1 (ha (.inl f1)) hv⟩
    rw [if_neg f1] at hv
    by_cases f2 : i.fn = 2
    · rw [if_pos f2] at hv; exact .inr (.inl ⟨f2, main e.lu e.ua e.uc he.u1 (ha (.inr (.inl f2))) hv⟩)
    rw [if_neg f2] at hv
    by_cases f3 : i.fn = 3
    · rw [if_pos f3] at hv; exact .inr (.inr (.inl ⟨f3, main e.lv e.va e.vc he.v1 (ha (.inr (.inr f3))) hv⟩))
    rw [if_neg f3] at hv
    by_cases f4 : i.fn = 4
    · rw [if_pos f4] at hv; exact .inr (.inr (.inr (.inl ⟨f4, Option.some.inj hv⟩)))
    rw [if_neg f4] at hv
    by_cases f5 : i.fn = 5
    · rw [if_pos f5] at hv; exact .inr (.inr (.inr (.inr (.inl ⟨f5, Option.some.inj hv⟩))))
    rw [if_neg f5] at hv
    exact .inr (.inr (.inr (.inr (.inr ⟨⟨f1, f2, f3, f4, f5⟩, Option.some.inj hv⟩))))
  have rc : rdn w0 H bm 3 4 = some [.int .i32 e.co.a, .int .i32 e.co.b, .int .i32 e.co.c, .int .i32 e.co.d] := by unfold rdn; rw [hm]; rfl
  have rp : rdn w0 H bm 8 4 = some [.int .i32 e.po.a, .int .i32 e.po.b, .int .i32 e.po.c, .int .i32 e.po.d] := by unfold rdn; rw [hm]; rfl
  clear main hv ha he hm
  rcases hc with ⟨f1, k, b, o, ek, hlt, ea, er, hf⟩ | ⟨f1, k, b, o, ek, hlt, ea, er, hf⟩ | ⟨f1, k, b, o, ek, hlt, ea, er, hf⟩ | ⟨f1, ev⟩ | ⟨f1, ev⟩ | ⟨⟨f1, f2, f3, f4, f5⟩, ev⟩
  iterate 3
    (have t1 : (0 : Int) ≤ (k : Int) := by omega
     have t3 : ((k : Nat) : Int).toNat = k := rfl
     have t2 : (k : Int) < _ := Int.ofNat_lt.2 hlt
     clear hlt
     refine HL.hc k146 999 ?_; unfold M146
     (all_goals (try simp only [S0,putAt,List.replicate,Int.reduceAdd,Int.reduceSub,Int.reduceMul,Int.reduceTDiv,Int.reduceTMod,Int.reduceMod,Int.reduceDiv,Nat.reduceLT,Nat.reduceEqDiff,Int.reduceLE,Int.reduceLT,Int.reduceToNat,Int.reduceNeg,Int.reduceEq,Nat.reduceLeDiff,Nat.reducePow,Int.reducePow,reduceIte,Nat.reduceSub,Nat.reduceAdd,Nat.reduceMul, *])); repeat' ((first | (with_reducible refine fun _ : True => ?_) | (with_reducible refine any_h ?_) | ((first | refine AllocQ_i ?_ | refine AllocO_i ?_); intro bk hb0 hbk; (try simp only [set_none'] at hbk)) | ((first | refine condS_i ?_ ?_ | refine pick_i ?_ ?_ | refine gS_it ?_ ?_ | refine gS_if ?_ ?_ | refine gP_it ?_ ?_ | refine gP_if ?_ ?_) <;> (intro hc; try simp only [Int.reduceLE,Int.reduceLT,Int.reduceEq,Sn] at hc)) | (with_reducible refine KP_i ?_ ?_; · exact aL) | (with_reducible refine And.intro ?_ ?_)) <;> (try simp only [S0,putAt,List.replicate,Int.reduceAdd,Int.reduceSub,Int.reduceMul,Int.reduceTDiv,Int.reduceTMod,Int.reduceMod,Int.reduceDiv,Nat.reduceLT,Nat.reduceEqDiff,Int.reduceLE,Int.reduceLT,Int.reduceToNat,Int.reduceNeg,Int.reduceEq,Nat.reduceLeDiff,Nat.reducePow,Int.reducePow,reduceIte,Nat.reduceSub,Nat.reduceAdd,Nat.reduceMul, *]))
     exact Fin_mk aL h)
  · obtain ⟨ca, cb, cc, cd⟩ := V4.mk.inj ev
    subst ca cb cc cd
    clear ev
    refine HL.hc k146 999 ?_; unfold M146
    (all_goals (try simp only [S0,putAt,List.replicate,Int.reduceAdd,Int.reduceSub,Int.reduceMul,Int.reduceTDiv,Int.reduceTMod,Int.reduceMod,Int.reduceDiv,Nat.reduceLT,Nat.reduceEqDiff,Int.reduceLE,Int.reduceLT,Int.reduceToNat,Int.reduceNeg,Int.reduceEq,Nat.reduceLeDiff,Nat.reducePow,Int.reducePow,reduceIte,Nat.reduceSub,Nat.reduceAdd,Nat.reduceMul, *])); repeat' ((first | (with_reducible refine fun _ : True => ?_) | (with_reducible refine any_h ?_) | ((first | refine AllocQ_i ?_ | refine AllocO_i ?_); intro bk hb0 hbk; (try simp only [set_none'] at hbk)) | ((first | refine condS_i ?_ ?_ | refine pick_i ?_ ?_ | refine gS_it ?_ ?_ | refine gS_if ?_ ?_ | refine gP_it ?_ ?_ | refine gP_if ?_ ?_) <;> (intro hc; try simp only [Int.reduceLE,Int.reduceLT,Int.reduceEq,Sn] at hc)) | (with_reducible refine KP_i ?_ ?_; · exact aL) | (with_reducible refine And.intro ?_ ?_)) <;> (try simp only [S0,putAt,List.replicate,Int.reduceAdd,Int.reduceSub,Int.reduceMul,Int.reduceTDiv,Int.reduceTMod,Int.reduceMod,Int.reduceDiv,Nat.reduceLT,Nat.reduceEqDiff,Int.reduceLE,Int.reduceLT,Int.reduceToNat,Int.reduceNeg,Int.reduceEq,Nat.reduceLeDiff,Nat.reducePow,Int.reducePow,reduceIte,Nat.reduceSub,Nat.reduceAdd,Nat.reduceMul, *]))
    exact Fin_mk aL h
  · obtain ⟨ca, cb, cc, cd⟩ := V4.mk.inj ev
    subst ca cb cc cd
    clear ev
    refine HL.hc k146 999 ?_; unfold M146
    (all_goals (try simp only [S0,putAt,List.replicate,Int.reduceAdd,Int.reduceSub,Int.reduceMul,Int.reduceTDiv,Int.reduceTMod,Int.reduceMod,Int.reduceDiv,Nat.reduceLT,Nat.reduceEqDiff,Int.reduceLE,Int.reduceLT,Int.reduceToNat,Int.reduceNeg,Int.reduceEq,Nat.reduceLeDiff,Nat.reducePow,Int.reducePow,reduceIte,Nat.reduceSub,Nat.reduceAdd,Nat.reduceMul, *])); repeat' ((first | (with_reducible refine fun _ : True => ?_) | refine c_truth _ ?_ | (with_reducible refine any_h ?_) | ((first | refine AllocQ_i ?_ | refine AllocO_i ?_); intro bk hb0 hbk; (try simp only [set_none'] at hbk)) | ((first | refine condS_i ?_ ?_ | refine pick_i ?_ ?_ | refine gS_it ?_ ?_ | refine gS_if ?_ ?_ | refine gP_it ?_ ?_ | refine gP_if ?_ ?_) <;> (intro hc; try simp only [Int.reduceLE,Int.reduceLT,Int.reduceEq,Sn] at hc)) | (with_reducible refine KP_i ?_ ?_; · exact aL) | (with_reducible refine And.intro ?_ ?_)) <;> (try simp only [S0,putAt,List.replicate,Int.reduceAdd,Int.reduceSub,Int.reduceMul,Int.reduceTDiv,Int.reduceTMod,Int.reduceMod,Int.reduceDiv,Nat.reduceLT,Nat.reduceEqDiff,Int.reduceLE,Int.reduceLT,Int.reduceToNat,Int.reduceNeg,Int.reduceEq,Nat.reduceLeDiff,Nat.reducePow,Int.reducePow,reduceIte,Nat.reduceSub,Nat.reduceAdd,Nat.reduceMul, *]))
    exact Fin_mk aL h
  · obtain ⟨ca, cb, cc, cd⟩ := V4.mk.inj ev
    subst ca cb cc cd
    clear ev
    have cf : ∀ (G : Heap) (K' : Value → Heap → Prop), K' (.agg #[.int .i32 e.po.a, .int .i32 e.po.b, .int .i32 0, .int .i32 0]) G → HCalls Tryz.prog w0 76 [.int .i64 2, .agg #[.int .i32 e.po.a, .int .i32 e.po.b, .int .i32 e.po.c, .int .i32 e.po.d]] G K' := fun G K' hk => c_first 2 e.po.f (.inr (.inl rfl)) hk
    replace cf : Keep _ := cf
    refine HL.hc k146 999 ?_; unfold M146
    (all_goals (try simp only [S0,putAt,List.replicate,Int.reduceAdd,Int.reduceSub,Int.reduceMul,Int.reduceTDiv,Int.reduceTMod,Int.reduceMod,Int.reduceDiv,Nat.reduceLT,Nat.reduceEqDiff,Int.reduceLE,Int.reduceLT,Int.reduceToNat,Int.reduceNeg,Int.reduceEq,Nat.reduceLeDiff,Nat.reducePow,Int.reducePow,reduceIte,Nat.reduceSub,Nat.reduceAdd,Nat.reduceMul, *])); repeat' ((first | (with_reducible refine fun _ : True => ?_) | refine cf _ _ ?_ | (with_reducible refine any_h ?_) | ((first | refine AllocQ_i ?_ | refine AllocO_i ?_); intro bk hb0 hbk; (try simp only [set_none'] at hbk)) | ((first | refine condS_i ?_ ?_ | refine pick_i ?_ ?_ | refine gS_it ?_ ?_ | refine gS_if ?_ ?_ | refine gP_it ?_ ?_ | refine gP_if ?_ ?_) <;> (intro hc; try simp only [Int.reduceLE,Int.reduceLT,Int.reduceEq,Sn] at hc)) | (with_reducible refine KP_i ?_ ?_; · exact aL) | (with_reducible refine And.intro ?_ ?_)) <;> (try simp only [S0,putAt,List.replicate,Int.reduceAdd,Int.reduceSub,Int.reduceMul,Int.reduceTDiv,Int.reduceTMod,Int.reduceMod,Int.reduceDiv,Nat.reduceLT,Nat.reduceEqDiff,Int.reduceLE,Int.reduceLT,Int.reduceToNat,Int.reduceNeg,Int.reduceEq,Nat.reduceLeDiff,Nat.reducePow,Int.reducePow,reduceIte,Nat.reduceSub,Nat.reduceAdd,Nat.reduceMul, *]))
    exact Fin_mk aL h
end Go.Proofs.YtdmnfaefakceiaaGreat
end
section
/- What an instruction writes: constants, moves, loads, operations, conversions (layer 18). -/
set_option linter.unusedSimpArgs false
set_option linter.unusedVariables false
set_option maxRecDepth 100000
set_option maxHeartbeats 4000000
namespace Go.Proofs.YtdmnfaefakceiaaGreat
open Go.HL Go.RowKit Pb
variable {w0 : World} {H G : Heap} {K : Value → Heap → Prop}

/-- A machine in memory. -/
structure MS (w0 : World) (H : Heap) (tm tr : Kd) (bm br : Nat) (e : Evr) (rs : Res) (rg : List V4) : Prop where
  m : H bm = some ⟨tm, mRow e rs br rg.length⟩
  r : H br = some ⟨tr, (rg.map V4.row).flatten⟩
  e : EvAt w0 H e
theorem MS.grow {tm tr : Kd} {bm br : Nat} {e : Evr} {rs : Res} {rg : List V4} (h : MS w0 H tm tr bm br e rs rg) (g : Grow w0 H G) : MS w0 G tm tr bm br e rs rg := ⟨g.some h.m, g.some h.r, h.e.grow g⟩
theorem rows_at {b : Nat} {t : Kd} {l : List V4} {k : Nat} {v : V4} (h : H b = some ⟨t, (l.map V4.row).flatten⟩) (hk : l[k]? = some v) : rdn w0 H b (k * 4) 4 = some v.row := by
  have hs : SlAt w0 H (some ⟨b, 0, none⟩) (l.map V4.row).flatten := fun _ => ⟨b, 0, rfl, fun i hi => by unfold HL.rd1; rw [h]; simp only [Nat.zero_add]⟩
  obtain ⟨b', o, e, hr, -⟩ := v4_row hs hk
  cases e
  rw [Nat.zero_add] at hr
  exact hr
/- (*paintbox/vm machine) write 1 -/
def M145 : MC :=
  .seq (.reg [oX 3 (.alloc 28 [(.int .i32 0),(.int .i32 0),(.int .i32 0),(.int .i32 0)])])
 (.seq (.reg [oX 4 (.ld1 (.tmp 1)),
 oX 5 (.nilc (.tmp 4)),
 oX 6 (.fa 24 (.tmp 5)),
 oX 7 (.ld1 (.tmp 6)),
 vX 8 0,
 oX 9 (.is 4 (.tmp 7) (.tmp 8)),
 oX 10 (.ldn 4 (.tmp 9)),
 ⟨none,.stn 4 (.tmp 3) (.tmp 10),none⟩])
 (.ret))
theorem k145 : fnOk Tryz.prog 145 = some (M145, [.cn 4 3], 11) := by kernel_rfl

theorem c_reg {tm tr : Kd} {bm br b2 : Nat} {e : Evr} {rs : Res} {rg : List V4} (M : MS w0 H tm tr bm br e rs rg) {k : Nat} {v : V4} (hk : rg[k]? = some v) (h2 : HL.rd1 w0 H b2 0 = some (.pointer (some ⟨bm, 0, none⟩))) (h : K v.v H) :
    HCalls Tryz.prog w0 145 [.int .i64 (k : Nat), .pointer (some ⟨b2, 0, none⟩)] H K := by
  have hr := rows_at (w0 := w0) M.r hk
  have hm : HL.rd1 w0 H bm 24 = some (.slice (some ⟨br, 0, none⟩) rg.length rg.length) := by rw [rd_blk M.m]; rfl
  have f1 := blkn M.m
  have f2 := blkn M.r
  have f3 : ∀ c, w0.heap.size ≤ c → H c = none → c ≠ b2 ∧ b2 ≠ c := fun c hs hn => ⟨rd1_fresh h2 hs hn, Ne.symm (rd1_fresh h2 hs hn)⟩
  have t0 : (k : Int) < (rg.length : Int) := Int.ofNat_lt.2 (List.getElem?_eq_some_iff.1 hk).1
  have t1 : (0 : Int) ≤ (k : Int) := by omega
  have t3 : ((k : Nat) : Int).toNat = k := rfl
  obtain ⟨v0, v1, v2, v3⟩ := v
  unfold V4.v V4.row at h
  unfold V4.row at hr
  simp only at h hr
  replace h : Keep _ := h
  clear M hk
  refine HL.hc k145 999 ?_; unfold M145
  (all_goals (try simp only [S0,putAt,List.replicate,Int.reduceAdd,Int.reduceSub,Int.reduceMul,Int.reduceTDiv,Int.reduceTMod,Int.reduceMod,Int.reduceDiv,Nat.reduceLT,Nat.reduceEqDiff,Int.reduceLE,Int.reduceLT,Int.reduceToNat,Int.reduceNeg,Int.reduceEq,Nat.reduceLeDiff,Nat.reducePow,Int.reducePow,reduceIte,Nat.reduceSub,Nat.reduceAdd,Nat.reduceMul, *])); repeat' ((first | (with_reducible refine fun _ : True => ?_) | (with_reducible refine any_h ?_) | ((first | refine AllocQ_i ?_ | refine AllocO_i ?_); intro bk hb0 hbk; (try simp only [set_none'] at hbk)) | ((first | refine condS_i ?_ ?_ | refine pick_i ?_ ?_ | refine gS_it ?_ ?_ | refine gS_if ?_ ?_ | refine gP_it ?_ ?_ | refine gP_if ?_ ?_) <;> (intro hc; try simp only [Int.reduceLE,Int.reduceLT,Int.reduceEq,Sn] at hc)) | (with_reducible refine KP_i ?_ ?_; · exact aL) | (with_reducible refine And.intro ?_ ?_)) <;> (try simp only [S0,putAt,List.replicate,Int.reduceAdd,Int.reduceSub,Int.reduceMul,Int.reduceTDiv,Int.reduceTMod,Int.reduceMod,Int.reduceDiv,Nat.reduceLT,Nat.reduceEqDiff,Int.reduceLE,Int.reduceLT,Int.reduceToNat,Int.reduceNeg,Int.reduceEq,Nat.reduceLeDiff,Nat.reducePow,Int.reducePow,reduceIte,Nat.reduceSub,Nat.reduceAdd,Nat.reduceMul, *]))
  exact Fin_mk aL h
def A101_1 : PT := (.one true 0 [] ⟨(some 35), .fa 1 (.tmp 3), none⟩ (.one true 1 [] ⟨(some 36), .ld1 (.tmp 35), none⟩ (.one true 2 [] ⟨(some 37), .fa 2 (.tmp 3), none⟩ (.one true 3 [] ⟨(some 38), .ld1 (.tmp 37), none⟩ (.one true 4 [] ⟨(some 39), .fa 3 (.tmp 3), none⟩ (.one true 5 [] ⟨(some 40), .ld1 (.tmp 39), none⟩ (.one true 6 [] ⟨(some 41), .mv (.tmp 5), none⟩ (.one true 7 [] ⟨(some 42), .fa 5 (.tmp 3), none⟩ (.one true 8 [] ⟨(some 43), .ld1 (.tmp 42), none⟩ (.one true 10 [] ⟨(some 45), .mv (.tmp 5), none⟩ (.one true 11 [] ⟨(some 46), .fa 6 (.tmp 3), none⟩ (.one true 12 [] ⟨(some 47), .ld1 (.tmp 46), none⟩ (.one true 14 [] ⟨(some 49), .mv (.tmp 5), none⟩ (.one true 15 [] ⟨(some 50), .fa 7 (.tmp 3), none⟩ (.one true 16 [] ⟨(some 51), .ld1 (.tmp 50), none⟩ (.alt (.one false 9 [0, 1, 2, 3, 4, 5, 10, 11, 12, 14, 15, 16, 19, 20, 21, 20, 21, 20, 21, 20, 21, 20, 21] ⟨(some 44), .callv (.tmp 41) [(.tmp 43)], none⟩ (.alt (.one false 13 [0, 1, 2, 3, 4, 5, 14, 15, 16, 19, 20, 21, 20, 21, 20, 21, 20, 21, 20, 21] ⟨(some 48), .callv (.tmp 45) [(.tmp 47)], none⟩ (.alt (.one false 17 [0, 1, 2, 3, 4, 5, 19, 20, 21, 20, 21, 20, 21, 20, 21, 20, 21] ⟨(some 52), .callv (.tmp 49) [(.tmp 51)], none⟩ (.alt (.one false 18 [19, 20, 21, 20, 21, 20, 21, 20, 21, 20, 21] ⟨(some 53), .call 28 [(.tmp 36), (.tmp 38), (.tmp 40), (.tmp 44), (.tmp 48), (.tmp 52)], none⟩ (.one true 19 [] ⟨(some 34), .mv (.tmp 53), none⟩ (.one true 20 [] ⟨(some 54), .ext 0 (.tmp 34), none⟩ (.one true 21 [] ⟨(some 55), .ext 1 (.tmp 34), none⟩ (.one false 22 [19, 20, 21, 20, 21, 20, 21, 20, 21, 20, 21] ⟨(some 6), .alloc 28 [(.int .i32 0), (.int .i32 0), (.int .i32 0), (.int .i32 0)], none⟩ (.one false 23 [21, 21, 21, 21, 21] ⟨none, .stn 4 (.tmp 6) (.tmp 54), none⟩ (.one false 24 [] ⟨(some 7), .mv (.tmp 55), none⟩ .nil)))))))
      (.one false 22 [0, 1, 2, 3, 4, 5, 19, 20, 21, 20, 21, 20, 21, 20, 21, 20, 21] ⟨(some 6), .alloc 28 [(.int .i32 0), (.int .i32 0), (.int .i32 0), (.int .i32 0)], none⟩ (.one false 18 [19, 20, 21, 20, 21, 20, 21, 20, 21, 20, 21] ⟨(some 53), .call 28 [(.tmp 36), (.tmp 38), (.tmp 40), (.tmp 44), (.tmp 48), (.tmp 52)], none⟩ (.one false 19 [19, 20, 21, 20, 21, 20, 21, 20, 21, 20, 21] ⟨(some 34), .mv (.tmp 53), none⟩ (.one true 20 [] ⟨(some 54), .ext 0 (.tmp 34), none⟩ (.one true 21 [] ⟨(some 55), .ext 1 (.tmp 34), none⟩ (.one false 23 [21, 21, 21, 21, 21] ⟨none, .stn 4 (.tmp 6) (.tmp 54), none⟩ (.one false 24 [] ⟨(some 7), .mv (.tmp 55), none⟩ .nil)))))))))
      (.one false 22 [0, 1, 2, 3, 4, 5, 14, 15, 16, 19, 20, 21, 20, 21, 20, 21, 20, 21, 20, 21] ⟨(some 6), .alloc 28 [(.int .i32 0), (.int .i32 0), (.int .i32 0), (.int .i32 0)], none⟩ (.one false 17 [0, 1, 2, 3, 4, 5, 19, 20, 21, 20, 21, 20, 21, 20, 21, 20, 21] ⟨(some 52), .callv (.tmp 49) [(.tmp 51)], none⟩ (.one false 18 [19, 20, 21, 20, 21, 20, 21, 20, 21, 20, 21] ⟨(some 53), .call 28 [(.tmp 36), (.tmp 38), (.tmp 40), (.tmp 44), (.tmp 48), (.tmp 52)], none⟩ (.one false 19 [19, 20, 21, 20, 21, 20, 21, 20, 21, 20, 21] ⟨(some 34), .mv (.tmp 53), none⟩ (.one true 20 [] ⟨(some 54), .ext 0 (.tmp 34), none⟩ (.one true 21 [] ⟨(some 55), .ext 1 (.tmp 34), none⟩ (.one false 23 [21, 21, 21, 21, 21] ⟨none, .stn 4 (.tmp 6) (.tmp 54), none⟩ (.one false 24 [] ⟨(some 7), .mv (.tmp 55), none⟩ .nil))))))))))
      (.one false 22 [0, 1, 2, 3, 4, 5, 10, 11, 12, 14, 15, 16, 19, 20, 21, 20, 21, 20, 21, 20, 21, 20, 21] ⟨(some 6), .alloc 28 [(.int .i32 0), (.int .i32 0), (.int .i32 0), (.int .i32 0)], none⟩ (.one false 13 [0, 1, 2, 3, 4, 5, 14, 15, 16, 19, 20, 21, 20, 21, 20, 21, 20, 21, 20, 21] ⟨(some 48), .callv (.tmp 45) [(.tmp 47)], none⟩ (.one false 17 [0, 1, 2, 3, 4, 5, 19, 20, 21, 20, 21, 20, 21, 20, 21, 20, 21] ⟨(some 52), .callv (.tmp 49) [(.tmp 51)], none⟩ (.one false 18 [19, 20, 21, 20, 21, 20, 21, 20, 21, 20, 21] ⟨(some 53), .call 28 [(.tmp 36), (.tmp 38), (.tmp 40), (.tmp 44), (.tmp 48), (.tmp 52)], none⟩ (.one false 19 [19, 20, 21, 20, 21, 20, 21, 20, 21, 20, 21] ⟨(some 34), .mv (.tmp 53), none⟩ (.one true 20 [] ⟨(some 54), .ext 0 (.tmp 34), none⟩ (.one true 21 [] ⟨(some 55), .ext 1 (.tmp 34), none⟩ (.one false 23 [21, 21, 21, 21, 21] ⟨none, .stn 4 (.tmp 6) (.tmp 54), none⟩ (.one false 24 [] ⟨(some 7), .mv (.tmp 55), none⟩ .nil)))))))))))
      (.one false 22 [0, 1, 2, 3, 4, 5, 6, 7, 8, 10, 11, 12, 14, 15, 16, 19, 20, 21, 20, 21, 20, 21, 20, 21, 20, 21] ⟨(some 6), .alloc 28 [(.int .i32 0), (.int .i32 0), (.int .i32 0), (.int .i32 0)], none⟩ (.one false 9 [0, 1, 2, 3, 4, 5, 10, 11, 12, 14, 15, 16, 19, 20, 21, 20, 21, 20, 21, 20, 21, 20, 21] ⟨(some 44), .callv (.tmp 41) [(.tmp 43)], none⟩ (.one false 13 [0, 1, 2, 3, 4, 5, 14, 15, 16, 19, 20, 21, 20, 21, 20, 21, 20, 21, 20, 21] ⟨(some 48), .callv (.tmp 45) [(.tmp 47)], none⟩ (.one false 17 [0, 1, 2, 3, 4, 5, 19, 20, 21, 20, 21, 20, 21, 20, 21, 20, 21] ⟨(some 52), .callv (.tmp 49) [(.tmp 51)], none⟩ (.one false 18 [19, 20, 21, 20, 21, 20, 21, 20, 21, 20, 21] ⟨(some 53), .call 28 [(.tmp 36), (.tmp 38), (.tmp 40), (.tmp 44), (.tmp 48), (.tmp 52)], none⟩ (.one false 19 [19, 20, 21, 20, 21, 20, 21, 20, 21, 20, 21] ⟨(some 34), .mv (.tmp 53), none⟩ (.one true 20 [] ⟨(some 54), .ext 0 (.tmp 34), none⟩ (.one true 21 [] ⟨(some 55), .ext 1 (.tmp 34), none⟩ (.one false 23 [21, 21, 21, 21, 21] ⟨none, .stn 4 (.tmp 6) (.tmp 54), none⟩ (.one false 24 [] ⟨(some 7), .mv (.tmp 55), none⟩ .nil))))))))))))))))))))))))))
def A101_2 : PT := (.one true 0 [] ⟨(some 60), .fa 2 (.tmp 3), none⟩ (.one true 1 [] ⟨(some 61), .ld1 (.tmp 60), none⟩ (.one true 2 [] ⟨(some 62), .fa 1 (.tmp 3), none⟩ (.one true 3 [] ⟨(some 63), .ld1 (.tmp 62), none⟩ (.one true 4 [] ⟨(some 64), .fa 3 (.tmp 3), none⟩ (.one true 5 [] ⟨(some 65), .ld1 (.tmp 64), none⟩ (.one true 6 [] ⟨(some 66), .mv (.tmp 5), none⟩ (.one true 7 [] ⟨(some 67), .fa 5 (.tmp 3), none⟩ (.one true 8 [] ⟨(some 68), .ld1 (.tmp 67), none⟩ (.alt (.one false 9 [0, 1, 2, 3, 4, 5, 11, 12, 13, 12, 13, 12, 13] ⟨(some 69), .callv (.tmp 66) [(.tmp 68)], none⟩ (.alt (.one false 10 [11, 12, 13, 12, 13, 12, 13] ⟨(some 70), .call 20 [(.tmp 61), (.tmp 63), (.tmp 65), (.tmp 69)], none⟩ (.one true 11 [] ⟨(some 59), .mv (.tmp 70), none⟩ (.one true 12 [] ⟨(some 71), .ext 0 (.tmp 59), none⟩ (.one true 13 [] ⟨(some 72), .ext 1 (.tmp 59), none⟩ (.one false 14 [11, 12, 13, 12, 13, 12, 13] ⟨(some 8), .alloc 28 [(.int .i32 0), (.int .i32 0), (.int .i32 0), (.int .i32 0)], none⟩ (.one false 15 [13, 13, 13] ⟨none, .stn 4 (.tmp 8) (.tmp 71), none⟩ (.one false 16 [] ⟨(some 9), .mv (.tmp 72), none⟩ .nil)))))))
      (.one false 14 [0, 1, 2, 3, 4, 5, 11, 12, 13, 12, 13, 12, 13] ⟨(some 8), .alloc 28 [(.int .i32 0), (.int .i32 0), (.int .i32 0), (.int .i32 0)], none⟩ (.one false 10 [11, 12, 13, 12, 13, 12, 13] ⟨(some 70), .call 20 [(.tmp 61), (.tmp 63), (.tmp 65), (.tmp 69)], none⟩ (.one false 11 [11, 12, 13, 12, 13, 12, 13] ⟨(some 59), .mv (.tmp 70), none⟩ (.one true 12 [] ⟨(some 71), .ext 0 (.tmp 59), none⟩ (.one true 13 [] ⟨(some 72), .ext 1 (.tmp 59), none⟩ (.one false 15 [13, 13, 13] ⟨none, .stn 4 (.tmp 8) (.tmp 71), none⟩ (.one false 16 [] ⟨(some 9), .mv (.tmp 72), none⟩ .nil)))))))))
      (.one false 14 [0, 1, 2, 3, 4, 5, 6, 7, 8, 11, 12, 13, 12, 13, 12, 13] ⟨(some 8), .alloc 28 [(.int .i32 0), (.int .i32 0), (.int .i32 0), (.int .i32 0)], none⟩ (.one false 9 [0, 1, 2, 3, 4, 5, 11, 12, 13, 12, 13, 12, 13] ⟨(some 69), .callv (.tmp 66) [(.tmp 68)], none⟩ (.one false 10 [11, 12, 13, 12, 13, 12, 13] ⟨(some 70), .call 20 [(.tmp 61), (.tmp 63), (.tmp 65), (.tmp 69)], none⟩ (.one false 11 [11, 12, 13, 12, 13, 12, 13] ⟨(some 59), .mv (.tmp 70), none⟩ (.one true 12 [] ⟨(some 71), .ext 0 (.tmp 59), none⟩ (.one true 13 [] ⟨(some 72), .ext 1 (.tmp 59), none⟩ (.one false 15 [13, 13, 13] ⟨none, .stn 4 (.tmp 8) (.tmp 71), none⟩ (.one false 16 [] ⟨(some 9), .mv (.tmp 72), none⟩ .nil))))))))))))))))))
/- (*paintbox/vm machine) write -/
def M101 : MC :=
  .seq (.reg [oX 2 (.box 69 (.tmp 0)),
 oX 3 (.box 46 (.tmp 1)),
 oX 4 (.alloc 28 [(.int .i32 0),(.int .i32 0),(.int .i32 0),(.int .i32 0)])])
 (.seq (.reg [oX 14 (.fn 145 [(.tmp 2)]),
 vX 5 14])
 (.seq (.seq (.reg [oX 15 (.fa 0 (.tmp 3)),
 oX 16 (.ld1 (.tmp 15))])
 (.block 0 (.seq (.reg [oX 18 (bK .eql 16 1),
 vX 17 18])
 (.cond (.tmp 17)
 (.seq (.reg [oX 19 (.fa 8 (.tmp 3)),
 oX 20 (.ldn 4 (.tmp 19)),
 ⟨none,.stn 4 (.tmp 4) (.tmp 20),none⟩])
 (.ret))
 (.seq (.reg [oX 22 (bK .eql 16 2),
 vX 21 22])
 (.cond (.tmp 21)
 (.seq (.reg [vX 23 5,
 oX 24 (.fa 5 (.tmp 3)),
 oX 25 (.ld1 (.tmp 24)),
 oX 26 (.yv (.tmp 23) [(.tmp 25)]),
 ⟨none,.stn 4 (.tmp 4) (.tmp 26),none⟩])
 (.ret))
 (.seq (.reg [oX 28 (bK .eql 16 3),
 vX 27 28])
 (.cond (.tmp 27)
 (.seq (.reg [oX 29 (.ld1 (.tmp 2)),
 oX 30 (.ldn 16 (.tmp 3)),
 oX 31 (.call 146 [(.tmp 29),(.tmp 30)]),
 ⟨none,.stn 4 (.tmp 4) (.tmp 31),none⟩])
 (.ret))
 (.seq (.reg [oX 33 (bK .eql 16 5),
 vX 32 33])
 (.cond (.tmp 32)
 (.seq (.alts A101_1)
 (.seq (.reg [oX 56 (.ldn 4 (.tmp 6)),
 ⟨none,.stn 4 (.tmp 4) (.tmp 56),none⟩])
 (.ret)))
 (.seq (.reg [oX 58 (bK .eql 16 8),
 vX 57 58])
 (.cond (.tmp 57)
 (.seq (.alts A101_2)
 (.seq (.reg [oX 73 (.ldn 4 (.tmp 8)),
 ⟨none,.stn 4 (.tmp 4) (.tmp 73),none⟩])
 (.ret)))
 (.seq (.reg [oX 75 (bK .eql 16 9),
 vX 74 75])
 (.cond (.tmp 74)
 (.seq (.any [(true,0,[],oX 76 (.ld1 (.tmp 2))),
 (true,1,[],vX 77 5),
 (true,2,[],oX 78 (.fa 5 (.tmp 3))),
 (true,3,[],oX 79 (.ld1 (.tmp 78))),
 (true,5,[],vX 81 5),
 (true,6,[],oX 82 (.fa 6 (.tmp 3))),
 (true,7,[],oX 83 (.ld1 (.tmp 82))),
 (false,4,[0,5,6,7],oX 80 (.callv (.tmp 77) [(.tmp 79)])),
 (false,8,[0],oX 84 (.callv (.tmp 81) [(.tmp 83)])),
 (false,9,[],oX 85 (.call 147 [(.tmp 76),(.tmp 80),(.tmp 84)])),
 (false,10,[],⟨none,.stn 4 (.tmp 4) (.tmp 85),none⟩)])
 (.ret))
 (.skip)))))))))))))))
 (.seq (.reg [vX 86 5,
 oX 87 (.fa 5 (.tmp 3)),
 oX 88 (.ld1 (.tmp 87)),
 oX 89 (.yv (.tmp 86) [(.tmp 88)]),
 oX 90 (.build [(.int .i32 0),(.int .i32 0),(.int .i32 0),(.int .i32 0)] []),
 oX 10 (.alloc 28 [(.int .i32 0),(.int .i32 0),(.int .i32 0),(.int .i32 0)]),
 oX 11 (.alloc 28 [(.int .i32 0),(.int .i32 0),(.int .i32 0),(.int .i32 0)]),
 ⟨none,.stn 4 (.tmp 10) (.tmp 89),none⟩,
 ⟨none,.stn 4 (.tmp 11) (.tmp 90),none⟩])
 (.seq (.seq (.reg [oX 91 (.fa 0 (.tmp 3)),
 oX 92 (.ld1 (.tmp 91)),
 oX 93 (bK .eql 92 7)])
 (.cond (.tmp 93)
 (.reg [vX 94 5,
 oX 95 (.fa 4 (.tmp 3)),
 oX 96 (.ld1 (.tmp 95)),
 oX 97 (.yv (.tmp 94) [(.tmp 96)]),
 ⟨none,.stn 4 (.tmp 11) (.tmp 97),none⟩])
 (.skip)))
 (.seq (.seq (.reg [oX 98 (.fa 12 (.tmp 3)),
 oX 99 (.fa 3 (.tmp 3)),
 oX 100 (.ld1 (.tmp 99)),
 oX 101 (.sla 4 1 (.tmp 98) none (some (.tmp 100))),
 oX 102 (.len (.tmp 101)),
 oX 103 (.mv (kX 0))])
 (.block 1 (.loop (.seq (.reg [oX 104 (bX .lss 103 102)])
 (.seq (.cond (.tmp 104)
 (.skip)
 (.exit 1))
 (.seq (.block 2 (.seq (.reg [vX 105 103,
 oX 106 (.is 1 (.tmp 101) (.tmp 103)),
 oX 107 (.ld1 (.tmp 106)),
 vX 12 105,
 vX 13 107])
 (.seq (.reg [oX 108 (.fa 0 (.tmp 3)),
 oX 109 (.ld1 (.tmp 108)),
 oX 110 (bK .eql 109 7)])
 (.cond (.tmp 110)
 (.reg [vX 111 13,
 vX 112 12,
 oX 113 (.ia 4 1 (.tmp 10) (.tmp 112)),
 oX 114 (.ld1 (.tmp 113)),
 oX 115 (.ia 4 1 (.tmp 11) (.tmp 111)),
 ⟨none,.st1 (.tmp 115) (.tmp 114),none⟩])
 (.reg [vX 116 12,
 vX 117 13,
 oX 118 (.ia 4 1 (.tmp 10) (.tmp 117)),
 oX 119 (.ld1 (.tmp 118)),
 oX 120 (.ia 4 1 (.tmp 11) (.tmp 116)),
 ⟨none,.st1 (.tmp 120) (.tmp 119),none⟩])))))
 (.reg [oX 121 (bK .add 103 1),
 vX 103 121])))))))
 (.seq (.reg [oX 122 (.ldn 4 (.tmp 11)),
 ⟨none,.stn 4 (.tmp 4) (.tmp 122),none⟩])
 (.ret)))))))
theorem k101 : fnOk Tryz.prog 101 = some (M101, [.cn 4 4], 123) := by kernel_rfl

theorem c_write1 {bm : Nat} (i : Ins) (ho : i.op = 1) (h : K (.agg #[.int .i32 i.m0, .int .i32 i.m1, .int .i32 i.m2, .int .i32 i.m3]) H) : HCalls Tryz.prog w0 101 [.pointer (some ⟨bm, 0, none⟩), i.v] H K := by
  unfold Ins.v Ins.row
  replace h : Keep _ := h
  refine HL.hc k101 999 ?_; unfold M101
  (all_goals (try simp only [S0,putAt,List.replicate,Int.reduceAdd,Int.reduceSub,Int.reduceMul,Int.reduceTDiv,Int.reduceTMod,Int.reduceMod,Int.reduceDiv,Nat.reduceLT,Nat.reduceEqDiff,Int.reduceLE,Int.reduceLT,Int.reduceToNat,Int.reduceNeg,Int.reduceEq,Nat.reduceLeDiff,Nat.reducePow,Int.reducePow,reduceIte,Nat.reduceSub,Nat.reduceAdd,Nat.reduceMul, *])); repeat' ((first | (with_reducible refine fun _ : True => ?_) | (with_reducible refine any_h ?_) | ((first | refine AllocQ_i ?_ | refine AllocO_i ?_); intro bk hb0 hbk; (try simp only [set_none'] at hbk)) | ((first | refine condS_i ?_ ?_ | refine pick_i ?_ ?_ | refine gS_it ?_ ?_ | refine gS_if ?_ ?_ | refine gP_it ?_ ?_ | refine gP_if ?_ ?_) <;> (intro hc; try simp only [Int.reduceLE,Int.reduceLT,Int.reduceEq,Sn] at hc)) | (with_reducible refine KP_i ?_ ?_; · exact aL) | (with_reducible refine And.intro ?_ ?_)) <;> (try simp only [S0,putAt,List.replicate,Int.reduceAdd,Int.reduceSub,Int.reduceMul,Int.reduceTDiv,Int.reduceTMod,Int.reduceMod,Int.reduceDiv,Nat.reduceLT,Nat.reduceEqDiff,Int.reduceLE,Int.reduceLT,Int.reduceToNat,Int.reduceNeg,Int.reduceEq,Nat.reduceLeDiff,Nat.reducePow,Int.reducePow,reduceIte,Nat.reduceSub,Nat.reduceAdd,Nat.reduceMul, *]))
  exact Fin_mk aL h
section
variable {tm tr : Kd} {bm br : Nat} {e : Evr} {rs : Res} {rg : List V4}
theorem c_regG (M : MS w0 H tm tr bm br e rs rg) {x : Int} {k : Nat} {v : V4} (ex : x = (k : Int)) (hk : rg[k]? = some v) : ∀ (b2 : Nat) (G : Heap) (K' : Value → Heap → Prop), HL.rd1 w0 G b2 0 = some (.pointer (some ⟨bm, 0, none⟩)) → Grow w0 H G → K' v.v G →
    HCalls Tryz.prog w0 145 [.int .i64 x, .pointer (some ⟨b2, 0, none⟩)] G K' := fun b2 G K' h2 g hk' => by rw [ex]; exact c_reg (M.grow g) hk h2 hk'
theorem c_write2 (M : MS w0 H tm tr bm br e rs rg) (i : Ins) (ho : i.op = 2) {k : Nat} {v : V4} (ek : i.a = (k : Int)) (hk : rg[k]? = some v) (h : K v.v H) : HCalls Tryz.prog w0 101 [.pointer (some ⟨bm, 0, none⟩), i.v] H K := by
  have cA := c_regG M ek hk
  obtain ⟨v0, v1, v2, v3⟩ := v
  unfold V4.v V4.row at h cA
  simp only at h cA
  unfold Ins.v Ins.row
  replace h : Keep _ := h
  replace cA : Keep _ := cA
  clear M hk ek
  refine HL.hc k101 999 ?_; unfold M101
  (all_goals (try simp only [S0,putAt,List.replicate,Int.reduceAdd,Int.reduceSub,Int.reduceMul,Int.reduceTDiv,Int.reduceTMod,Int.reduceMod,Int.reduceDiv,Nat.reduceLT,Nat.reduceEqDiff,Int.reduceLE,Int.reduceLT,Int.reduceToNat,Int.reduceNeg,Int.reduceEq,Nat.reduceLeDiff,Nat.reducePow,Int.reducePow,reduceIte,Nat.reduceSub,Nat.reduceAdd,Nat.reduceMul, *])); repeat' ((first | (with_reducible refine fun _ : True => ?_) | refine cA _ _ _ (rd1_b aA) aG ?_ | (with_reducible refine any_h ?_) | ((first | refine AllocQ_i ?_ | refine AllocO_i ?_); intro bk hb0 hbk; (try simp only [set_none'] at hbk)) | ((first | refine condS_i ?_ ?_ | refine pick_i ?_ ?_ | refine gS_it ?_ ?_ | refine gS_if ?_ ?_ | refine gP_it ?_ ?_ | refine gP_if ?_ ?_) <;> (intro hc; try simp only [Int.reduceLE,Int.reduceLT,Int.reduceEq,Sn] at hc)) | (with_reducible refine KP_i ?_ ?_; · exact aL) | (with_reducible refine And.intro ?_ ?_)) <;> (try simp only [S0,putAt,List.replicate,Int.reduceAdd,Int.reduceSub,Int.reduceMul,Int.reduceTDiv,Int.reduceTMod,Int.reduceMod,Int.reduceDiv,Nat.reduceLT,Nat.reduceEqDiff,Int.reduceLE,Int.reduceLT,Int.reduceToNat,Int.reduceNeg,Int.reduceEq,Nat.reduceLeDiff,Nat.reducePow,Int.reducePow,reduceIte,Nat.reduceSub,Nat.reduceAdd,Nat.reduceMul, *]))
  exact Fin_mk aL h
theorem c_write3 (M : MS w0 H tm tr bm br e rs rg) (i : Ins) (ho : i.op = 3) {v : V4} (ha : i.fn = 1 ∨ i.fn = 2 ∨ i.fn = 3 → 0 ≤ i.a) (hv : loadR i e = some v) (h : K v.v H) : HCalls Tryz.prog w0 101 [.pointer (some ⟨bm, 0, none⟩), i.v] H K := by
  have cL : ∀ (G : Heap) (K' : Value → Heap → Prop), Grow w0 H G → K' v.v G → HCalls Tryz.prog w0 146 [.pointer (some ⟨bm, 0, none⟩), i.v] G K' := fun G K' g hk => c_load i e rs br rg.length bm v (M.grow g).m (M.grow g).e ha hv hk
  obtain ⟨v0, v1, v2, v3⟩ := v
  unfold V4.v V4.row at h cL
  simp only at h cL
  unfold Ins.v Ins.row at cL ⊢
  replace h : Keep _ := h
  rw [ho] at cL ⊢
  replace cL : Keep _ := cL
  clear M hv ha ho
  refine HL.hc k101 999 ?_; unfold M101
  (all_goals (try simp only [S0,putAt,List.replicate,Int.reduceAdd,Int.reduceSub,Int.reduceMul,Int.reduceTDiv,Int.reduceTMod,Int.reduceMod,Int.reduceDiv,Nat.reduceLT,Nat.reduceEqDiff,Int.reduceLE,Int.reduceLT,Int.reduceToNat,Int.reduceNeg,Int.reduceEq,Nat.reduceLeDiff,Nat.reducePow,Int.reducePow,reduceIte,Nat.reduceSub,Nat.reduceAdd,Nat.reduceMul, *])); repeat' ((first | (with_reducible refine fun _ : True => ?_) | refine cL _ _ aG ?_ | (with_reducible refine any_h ?_) | ((first | refine AllocQ_i ?_ | refine AllocO_i ?_); intro bk hb0 hbk; (try simp only [set_none'] at hbk)) | ((first | refine condS_i ?_ ?_ | refine pick_i ?_ ?_ | refine gS_it ?_ ?_ | refine gS_if ?_ ?_ | refine gP_it ?_ ?_ | refine gP_if ?_ ?_) <;> (intro hc; try simp only [Int.reduceLE,Int.reduceLT,Int.reduceEq,Sn] at hc)) | (with_reducible refine KP_i ?_ ?_; · exact aL) | (with_reducible refine And.intro ?_ ?_)) <;> (try simp only [S0,putAt,List.replicate,Int.reduceAdd,Int.reduceSub,Int.reduceMul,Int.reduceTDiv,Int.reduceTMod,Int.reduceMod,Int.reduceDiv,Nat.reduceLT,Nat.reduceEqDiff,Int.reduceLE,Int.reduceLT,Int.reduceToNat,Int.reduceNeg,Int.reduceEq,Nat.reduceLeDiff,Nat.reducePow,Int.reducePow,reduceIte,Nat.reduceSub,Nat.reduceAdd,Nat.reduceMul, *]))
  exact Fin_mk aL h
end
end Go.Proofs.YtdmnfaefakceiaaGreat
end
section
/- What an instruction writes: operations and conversions (layer 18). -/
set_option linter.unusedSimpArgs false
set_option linter.unusedVariables false
set_option maxRecDepth 100000
set_option maxHeartbeats 4000000
namespace Go.Proofs.YtdmnfaefakceiaaGreat
open Go.HL Go.RowKit Pb
variable {w0 : World} {H G : Heap} {K : Value → Heap → Prop}

theorem any_name {rec : List It → List Value → Heap → Prop} {f : (Nat → Heap) → It} {k : List It} {T : List Value} (h : ∀ HH, HH = H → AnyQ rec f k T HH) : AnyQ rec f k T H := h H rfl
section
variable {tm tr : Kd} {bm br : Nat} {e : Evr} {rs : Res} {rg : List V4}
theorem c_write5 (M : MS w0 H tm tr bm br e rs rg) (i : Ins) (ho : i.op = 5) {ka kb kc : Nat} {x y z : V4} (ea : i.a = (ka : Int)) (eb : i.b = (kb : Int)) (ec : i.c = (kc : Int)) (hx : rg[ka]? = some x) (hy : rg[kb]? = some y) (hz : rg[kc]? = some z) (Ix : x.I) (Iy : y.I) (Iz : z.I)
    (hok : ¬ args i.fn i.bs = 0) (hn : 1 ≤ i.n ∧ i.n ≤ 4) (h : K (VV (doV i.fn i.bs i.n x.f y.f z.f)) H) : HCalls Tryz.prog w0 101 [.pointer (some ⟨bm, 0, none⟩), i.v] H K := by
  have cA := c_regG M ea hx
  have cB := c_regG M eb hy
  have cC := c_regG M ec hz
  have cD : ∀ (G : Heap) (K' : Value → Heap → Prop), K' (.tuple #[VV (doV i.fn i.bs i.n x.f y.f z.f), .int .i64 0]) G → HCalls Tryz.prog w0 28 [.int .i64 i.fn, .int .i64 i.bs, .int .i64 i.n, x.v, y.v, z.v] G K' := fun G K' hk => c_Do i.fn i.bs i.n x.f y.f z.f (V4.f_I Ix) (V4.f_I Iy) (V4.f_I Iz) hok hn hk
  generalize doV i.fn i.bs i.n x.f y.f z.f = d at h cD
  obtain ⟨x0, x1, x2, x3⟩ := x
  obtain ⟨y0, y1, y2, y3⟩ := y
  obtain ⟨z0, z1, z2, z3⟩ := z
  unfold V4.v V4.row at cA cB cC cD
  simp only at cA cB cC cD
  unfold Ins.v Ins.row
  replace h : Keep _ := h
  replace cA : Keep _ := cA
  replace cB : Keep _ := cB
  replace cC : Keep _ := cC
  replace cD : Keep _ := cD
  clear M hx hy hz ea eb ec Ix Iy Iz hok hn
  refine HL.hc k101 3000 ?_; unfold M101
  (all_goals (try simp only [S0,putAt,List.replicate,Int.reduceAdd,Int.reduceSub,Int.reduceMul,Int.reduceTDiv,Int.reduceTMod,Int.reduceMod,Int.reduceDiv,Nat.reduceLT,Nat.reduceEqDiff,Int.reduceLE,Int.reduceLT,Int.reduceToNat,Int.reduceNeg,Int.reduceEq,Nat.reduceLeDiff,Nat.reducePow,Int.reducePow,reduceIte,Nat.reduceSub,Nat.reduceAdd,Nat.reduceMul, *])); repeat' ((first | (with_reducible refine fun _ : True => ?_) | ((first | refine AllocQ_i ?_ | refine AllocO_i ?_); intro bk hb0 hbk; (try simp only [set_none'] at hbk)) | ((first | refine condS_i ?_ ?_ | refine pick_i ?_ ?_ | refine gS_it ?_ ?_ | refine gS_if ?_ ?_ | refine gP_it ?_ ?_ | refine gP_if ?_ ?_) <;> (intro hc; try simp only [Int.reduceLE,Int.reduceLT,Int.reduceEq,Sn] at hc)) | (with_reducible refine KP_i ?_ ?_; · exact aL) | (with_reducible refine And.intro ?_ ?_)) <;> (try simp only [S0,putAt,List.replicate,Int.reduceAdd,Int.reduceSub,Int.reduceMul,Int.reduceTDiv,Int.reduceTMod,Int.reduceMod,Int.reduceDiv,Nat.reduceLT,Nat.reduceEqDiff,Int.reduceLE,Int.reduceLT,Int.reduceToNat,Int.reduceNeg,Int.reduceEq,Nat.reduceLeDiff,Nat.reducePow,Int.reducePow,reduceIte,Nat.reduceSub,Nat.reduceAdd,Nat.reduceMul, *]))
  rename_i b2 hb2 hn2 b3 hb3 hn3
  refine any_name fun HH eH => ?_
  have g0 : Grow w0 H HH := by rw [eH]; exact aG
  have k2 : HH b2 = some ⟨.t 69, [.pointer (some ⟨bm, 0, none⟩)]⟩ := by rw [eH]; exact aA
  have k3 : HH b3 = some ⟨.t 46, i.row⟩ := by rw [eH]; unfold Ins.row; simp only [ho]; exact aA
  have k4 : HH bk = some ⟨.t 28, [.int .i32 0, .int .i32 0, .int .i32 0, .int .i32 0]⟩ := by rw [eH]; exact aA
  have nH : H bk = none := hbk.2.2
  have sH : w0.heap.size ≤ bk := hb0
  clear eH hn2 hn3 hbk
  have r3 := rd_blk (w0 := w0) k3
  unfold Ins.row at r3
  have n2 := blkn k2
  have n3 := blkn k3
  have n4 := blkn k4
  have dA := fun (G : Heap) (K' : Value → Heap → Prop) (g : Grow w0 HH G) => (show ∀ (b2 : Nat) (G : Heap) (K' : Value → Heap → Prop), _ → _ → _ → _ from cA) b2 G K' (rd1_b (g.some k2)) (g0.trans g)
  have dB := fun (G : Heap) (K' : Value → Heap → Prop) (g : Grow w0 HH G) => (show ∀ (b2 : Nat) (G : Heap) (K' : Value → Heap → Prop), _ → _ → _ → _ from cB) b2 G K' (rd1_b (g.some k2)) (g0.trans g)
  have dC := fun (G : Heap) (K' : Value → Heap → Prop) (g : Grow w0 HH G) => (show ∀ (b2 : Nat) (G : Heap) (K' : Value → Heap → Prop), _ → _ → _ → _ from cC) b2 G K' (rd1_b (g.some k2)) (g0.trans g)
  replace dA : Keep _ := dA
  replace dB : Keep _ := dB
  replace dC : Keep _ := dC
  clear cA cB cC k2 k3
  refine any_h ?_
  refine alts_g (S := Nat) 7 (fun s => [(6, .pointer (some ⟨s, 0, none⟩))]) (fun s => HH.set s ⟨.t 28, VC d⟩) (fun s => w0.heap.size ≤ s ∧ HH s = none) 400 1500 ?_ ?_ (by decide)
  · unfold A101_1
    (all_goals (try simp only [S0,putAt,List.replicate,Int.reduceAdd,Int.reduceSub,Int.reduceMul,Int.reduceTDiv,Int.reduceTMod,Int.reduceMod,Int.reduceDiv,Nat.reduceLT,Nat.reduceEqDiff,Int.reduceLE,Int.reduceLT,Int.reduceToNat,Int.reduceNeg,Int.reduceEq,Nat.reduceLeDiff,Nat.reducePow,Int.reducePow,reduceIte,Nat.reduceSub,Nat.reduceAdd,Nat.reduceMul, *])); repeat' ((first | (with_reducible refine fun _ : True => ?_) | refine dA _ _ aG ?_ | refine dB _ _ aG ?_ | refine dC _ _ aG ?_ | refine cD _ _ ?_ | (with_reducible refine any_h ?_) | ((first | refine AllocQ_i ?_ | refine AllocO_i ?_); intro bk hb0 hbk; (try simp only [set_none'] at hbk)) | ((first | refine condS_i ?_ ?_ | refine pick_i ?_ ?_ | refine gS_it ?_ ?_ | refine gS_if ?_ ?_ | refine gP_it ?_ ?_ | refine gP_if ?_ ?_) <;> (intro hc; try simp only [Int.reduceLE,Int.reduceLT,Int.reduceEq,Sn] at hc)) | (with_reducible refine KP_i ?_ ?_; · exact aL) | (with_reducible refine And.intro ?_ ?_)) <;> (try simp only [S0,putAt,List.replicate,Int.reduceAdd,Int.reduceSub,Int.reduceMul,Int.reduceTDiv,Int.reduceTMod,Int.reduceMod,Int.reduceDiv,Nat.reduceLT,Nat.reduceEqDiff,Int.reduceLE,Int.reduceLT,Int.reduceToNat,Int.reduceNeg,Int.reduceEq,Nat.reduceLeDiff,Nat.reducePow,Int.reducePow,reduceIte,Nat.reduceSub,Nat.reduceAdd,Nat.reduceMul, *]))
    all_goals exact Meet_mk bk ⟨hb0, hbk⟩ rfl rfl rfl
  · intro s f ⟨hs, hn⟩
    have ne := n4 s hn
    (all_goals (try simp only [S0,putAt,List.replicate,Int.reduceAdd,Int.reduceSub,Int.reduceMul,Int.reduceTDiv,Int.reduceTMod,Int.reduceMod,Int.reduceDiv,Nat.reduceLT,Nat.reduceEqDiff,Int.reduceLE,Int.reduceLT,Int.reduceToNat,Int.reduceNeg,Int.reduceEq,Nat.reduceLeDiff,Nat.reducePow,Int.reducePow,reduceIte,Nat.reduceSub,Nat.reduceAdd,Nat.reduceMul, *])); repeat' ((first | (with_reducible refine fun _ : True => ?_) | (with_reducible refine any_h ?_) | ((first | refine AllocQ_i ?_ | refine AllocO_i ?_); intro bk hb0 hbk; (try simp only [set_none'] at hbk)) | ((first | refine condS_i ?_ ?_ | refine pick_i ?_ ?_ | refine gS_it ?_ ?_ | refine gS_if ?_ ?_ | refine gP_it ?_ ?_ | refine gP_if ?_ ?_) <;> (intro hc; try simp only [Int.reduceLE,Int.reduceLT,Int.reduceEq,Sn] at hc)) | (with_reducible refine KP_i ?_ ?_; · exact aL) | (with_reducible refine And.intro ?_ ?_)) <;> (try simp only [S0,putAt,List.replicate,Int.reduceAdd,Int.reduceSub,Int.reduceMul,Int.reduceTDiv,Int.reduceTMod,Int.reduceMod,Int.reduceDiv,Nat.reduceLT,Nat.reduceEqDiff,Int.reduceLE,Int.reduceLT,Int.reduceToNat,Int.reduceNeg,Int.reduceEq,Nat.reduceLeDiff,Nat.reducePow,Int.reducePow,reduceIte,Nat.reduceSub,Nat.reduceAdd,Nat.reduceMul, *]))
    exact Fin_mk ((g0.set hs (g0.none hn)).set sH nH).le h
theorem c_write8 (M : MS w0 H tm tr bm br e rs rg) (i : Ins) (ho : i.op = 8) {ka : Nat} {x : V4} (ea : i.a = (ka : Int)) (hx : rg[ka]? = some x) (Ix : x.I)
    (hok : cvOk i.bs i.fn i.n) (h : K (VV (fst i.n fun j => cvt i.bs i.fn (x.f j))) H) : HCalls Tryz.prog w0 101 [.pointer (some ⟨bm, 0, none⟩), i.v] H K := by
  have cA := c_regG M ea hx
  have cD : ∀ (G : Heap) (K' : Value → Heap → Prop), K' (.tuple #[VV (fst i.n fun j => cvt i.bs i.fn (x.f j)), .int .i64 0]) G → HCalls Tryz.prog w0 20 [.int .i64 i.bs, .int .i64 i.fn, .int .i64 i.n, x.v] G K' := fun G K' hk => c_Convert i.bs i.fn i.n x.f (V4.f_I Ix) hok hk
  generalize (fst i.n fun j => cvt i.bs i.fn (x.f j)) = d at h cD
  obtain ⟨x0, x1, x2, x3⟩ := x
  unfold V4.v V4.row at cA cD
  simp only at cA cD
  unfold Ins.v Ins.row
  replace h : Keep _ := h
  replace cA : Keep _ := cA
  replace cD : Keep _ := cD
  clear M hx ea Ix hok
  refine HL.hc k101 3000 ?_; unfold M101
  (all_goals (try simp only [S0,putAt,List.replicate,Int.reduceAdd,Int.reduceSub,Int.reduceMul,Int.reduceTDiv,Int.reduceTMod,Int.reduceMod,Int.reduceDiv,Nat.reduceLT,Nat.reduceEqDiff,Int.reduceLE,Int.reduceLT,Int.reduceToNat,Int.reduceNeg,Int.reduceEq,Nat.reduceLeDiff,Nat.reducePow,Int.reducePow,reduceIte,Nat.reduceSub,Nat.reduceAdd,Nat.reduceMul, *])); repeat' ((first | (with_reducible refine fun _ : True => ?_) | ((first | refine AllocQ_i ?_ | refine AllocO_i ?_); intro bk hb0 hbk; (try simp only [set_none'] at hbk)) | ((first | refine condS_i ?_ ?_ | refine pick_i ?_ ?_ | refine gS_it ?_ ?_ | refine gS_if ?_ ?_ | refine gP_it ?_ ?_ | refine gP_if ?_ ?_) <;> (intro hc; try simp only [Int.reduceLE,Int.reduceLT,Int.reduceEq,Sn] at hc)) | (with_reducible refine KP_i ?_ ?_; · exact aL) | (with_reducible refine And.intro ?_ ?_)) <;> (try simp only [S0,putAt,List.replicate,Int.reduceAdd,Int.reduceSub,Int.reduceMul,Int.reduceTDiv,Int.reduceTMod,Int.reduceMod,Int.reduceDiv,Nat.reduceLT,Nat.reduceEqDiff,Int.reduceLE,Int.reduceLT,Int.reduceToNat,Int.reduceNeg,Int.reduceEq,Nat.reduceLeDiff,Nat.reducePow,Int.reducePow,reduceIte,Nat.reduceSub,Nat.reduceAdd,Nat.reduceMul, *]))
  rename_i b2 hb2 hn2 b3 hb3 hn3
  refine any_name fun HH eH => ?_
  have g0 : Grow w0 H HH := by rw [eH]; exact aG
  have k2 : HH b2 = some ⟨.t 69, [.pointer (some ⟨bm, 0, none⟩)]⟩ := by rw [eH]; exact aA
  have k3 : HH b3 = some ⟨.t 46, i.row⟩ := by rw [eH]; unfold Ins.row; simp only [ho]; exact aA
  have k4 : HH bk = some ⟨.t 28, [.int .i32 0, .int .i32 0, .int .i32 0, .int .i32 0]⟩ := by rw [eH]; exact aA
  have nH : H bk = none := hbk.2.2
  have sH : w0.heap.size ≤ bk := hb0
  clear eH hn2 hn3 hbk
  have r3 := rd_blk (w0 := w0) k3
  unfold Ins.row at r3
  have n2 := blkn k2
  have n3 := blkn k3
  have n4 := blkn k4
  have dA := fun (G : Heap) (K' : Value → Heap → Prop) (g : Grow w0 HH G) => (show ∀ (b2 : Nat) (G : Heap) (K' : Value → Heap → Prop), _ → _ → _ → _ from cA) b2 G K' (rd1_b (g.some k2)) (g0.trans g)
  replace dA : Keep _ := dA
  clear cA k2 k3
  refine any_h ?_
  refine alts_g (S := Nat) 9 (fun s => [(8, .pointer (some ⟨s, 0, none⟩))]) (fun s => HH.set s ⟨.t 28, VC d⟩) (fun s => w0.heap.size ≤ s ∧ HH s = none) 400 1500 ?_ ?_ (by decide)
  · unfold A101_2
    (all_goals (try simp only [S0,putAt,List.replicate,Int.reduceAdd,Int.reduceSub,Int.reduceMul,Int.reduceTDiv,Int.reduceTMod,Int.reduceMod,Int.reduceDiv,Nat.reduceLT,Nat.reduceEqDiff,Int.reduceLE,Int.reduceLT,Int.reduceToNat,Int.reduceNeg,Int.reduceEq,Nat.reduceLeDiff,Nat.reducePow,Int.reducePow,reduceIte,Nat.reduceSub,Nat.reduceAdd,Nat.reduceMul, *])); repeat' ((first | (with_reducible refine fun _ : True => ?_) | refine dA _ _ aG ?_ | refine cD _ _ ?_ | (with_reducible refine any_h ?_) | ((first | refine AllocQ_i ?_ | refine AllocO_i ?_); intro bk hb0 hbk; (try simp only [set_none'] at hbk)) | ((first | refine condS_i ?_ ?_ | refine pick_i ?_ ?_ | refine gS_it ?_ ?_ | refine gS_if ?_ ?_ | refine gP_it ?_ ?_ | refine gP_if ?_ ?_) <;> (intro hc; try simp only [Int.reduceLE,Int.reduceLT,Int.reduceEq,Sn] at hc)) | (with_reducible refine KP_i ?_ ?_; · exact aL) | (with_reducible refine And.intro ?_ ?_)) <;> (try simp only [S0,putAt,List.replicate,Int.reduceAdd,Int.reduceSub,Int.reduceMul,Int.reduceTDiv,Int.reduceTMod,Int.reduceMod,Int.reduceDiv,Nat.reduceLT,Nat.reduceEqDiff,Int.reduceLE,Int.reduceLT,Int.reduceToNat,Int.reduceNeg,Int.reduceEq,Nat.reduceLeDiff,Nat.reducePow,Int.reducePow,reduceIte,Nat.reduceSub,Nat.reduceAdd,Nat.reduceMul, *]))
    all_goals exact Meet_mk bk ⟨hb0, hbk⟩ rfl rfl rfl
  · intro s f ⟨hs, hn⟩
    have ne := n4 s hn
    (all_goals (try simp only [S0,putAt,List.replicate,Int.reduceAdd,Int.reduceSub,Int.reduceMul,Int.reduceTDiv,Int.reduceTMod,Int.reduceMod,Int.reduceDiv,Nat.reduceLT,Nat.reduceEqDiff,Int.reduceLE,Int.reduceLT,Int.reduceToNat,Int.reduceNeg,Int.reduceEq,Nat.reduceLeDiff,Nat.reducePow,Int.reducePow,reduceIte,Nat.reduceSub,Nat.reduceAdd,Nat.reduceMul, *])); repeat' ((first | (with_reducible refine fun _ : True => ?_) | (with_reducible refine any_h ?_) | ((first | refine AllocQ_i ?_ | refine AllocO_i ?_); intro bk hb0 hbk; (try simp only [set_none'] at hbk)) | ((first | refine condS_i ?_ ?_ | refine pick_i ?_ ?_ | refine gS_it ?_ ?_ | refine gS_if ?_ ?_ | refine gP_it ?_ ?_ | refine gP_if ?_ ?_) <;> (intro hc; try simp only [Int.reduceLE,Int.reduceLT,Int.reduceEq,Sn] at hc)) | (with_reducible refine KP_i ?_ ?_; · exact aL) | (with_reducible refine And.intro ?_ ?_)) <;> (try simp only [S0,putAt,List.replicate,Int.reduceAdd,Int.reduceSub,Int.reduceMul,Int.reduceTDiv,Int.reduceTMod,Int.reduceMod,Int.reduceDiv,Nat.reduceLT,Nat.reduceEqDiff,Int.reduceLE,Int.reduceLT,Int.reduceToNat,Int.reduceNeg,Int.reduceEq,Nat.reduceLeDiff,Nat.reducePow,Int.reducePow,reduceIte,Nat.reduceSub,Nat.reduceAdd,Nat.reduceMul, *]))
    exact Fin_mk ((g0.set hs (g0.none hn)).set sH nH).le h
end
end Go.Proofs.YtdmnfaefakceiaaGreat
end
