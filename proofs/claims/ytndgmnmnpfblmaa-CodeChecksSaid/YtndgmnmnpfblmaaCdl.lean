/- The state in which a code is read, by the program (layer 16). -/
import Derived.Test.YtndgmnmnpfblmaaCdk
set_option linter.unusedSimpArgs false
set_option linter.unusedVariables false
set_option maxRecDepth 100000
set_option maxHeartbeats 4000000
namespace Go.Proofs.Ytndgmnmnpfblmaa
open Go.HL Go.RowKit Pb
variable {w0 : World} {H G : Heap} {K : Value → Heap → Prop}

/- octet Read -/
def M38 : MC :=
  .seq (.reg [⟨(some 2), .mv (.const (.pointer none)), none⟩])
  (.seq (.reg [⟨(some 3), .mv (.tmp 0), none⟩,
      ⟨(some 4), .call 53 [(.tmp 3)], none⟩,
      ⟨(some 5), .build [(.slice none 0 0), (.int .i64 0), (.int .i64 0)] [(0, 1, (.tmp 4))], none⟩,
      ⟨(some 6), .build [(.slice none 0 0), (.int .i64 0), (.int .i64 0)] [(0, 3, (.tmp 5))], none⟩,
      ⟨(some 7), .box 86 (.tmp 6), none⟩,
      ⟨(some 2), .mv (.tmp 7), none⟩])
   (.ret))
theorem k38 : fnOk Try.prog 38 = some (M38, [.t 2], 8) := by kernel_rfl

theorem c_Read (a : Option Addr) (cp : Nat) (l : List Int) (hA : IntsAt w0 H .u8 a l) (hlc : l.length ≤ cp) (hl : l.length ≤ 1000000000) (hw : ∀ x ∈ l, 0 ≤ x ∧ x < 256)
    (h : ∀ rb a' c' G, RdAt w0 G rb a' c' l 0 0 → H rb = none → w0.heap.size ≤ rb → Grow w0 H G → K (.pointer (some ⟨rb, 0, none⟩)) G) :
    HCalls Try.prog w0 38 [.slice a l.length cp] H K := by
  have hc := fun (K : Value → Heap → Prop) => c_cloneB (w0 := w0) (H := H) (K := K) a cp l hA (by omega)
  replace hc : Keep _ := hc
  replace h : Keep _ := h
  refine HL.hc k38 999 ?_; unfold M38
  (all_goals (try simp only [Sh,Si,Sl,Bu,Bb,Bd,Bc,Bw,Bn,Int.reduceAdd,Int.reduceSub,Int.reduceMul,Int.reduceTDiv,Int.reduceTMod,Int.reduceMod,Int.reduceDiv,Nat.reduceLT,Nat.reduceEqDiff,decide_true,decide_false,Sa,Sb,Sc,Sd,Se,Sf,Sg,true_and,and_true,and_self,eq_self,b_i64,b_i32,b_u64,b_u32,b_u8,Int.reduceLE,Int.reduceLT,Int.reduceToNat,Int.reduceNeg,Int.reduceEq,Nat.reduceLeDiff,Nat.reducePow,Int.reducePow,Nat.min_def,reduceIte,Nat.reduceSub,Nat.reduceAdd,Nat.reduceMul,KP_same,KP_f,condS_t,condS_f,pick_t,pick_f,gS_tt,gS_ff,gS_tf,gS_ft,gS_u,gP_tt,gP_ff,gP_tf,gP_ft,gP_u,ptrV_eq,slcV_eq,mapV_eq,cells_agg,cells_int,cells_bool,cells_ptr,cells_slice,oc_int,oc_bool,oc_slice,oc_ptr,rd1_set,rd1_ne,rdn_set,rdn_ne,Heap.set_same,set_ne,Heap.set_set,set_up,set_up2,set_up3,putAt,ceq,List.map_cons,List.map_nil,List.length_cons,List.length_nil,List.length_set,List.cons_append,List.nil_append,List.append_nil,List.replicate,List.size_toArray,List.all_cons,List.all_nil,Bool.and_self,Bool.and_true,List.drop_zero,List.drop_succ_cons,List.take_succ_cons,List.take_zero,List.set_cons_zero,List.set_cons_succ,List.getElem?_cons_zero,List.getElem?_cons_succ,Option.map_some,Option.map_none,ne_eq,not_false_eq_true,not_true_eq_false,gt_iff_lt,ge_iff_le,Int.one_mul,Nat.zero_add,Nat.zero_mul,Bool.not_true,Bool.not_false,Bool.false_eq_true,Bool.and_false,Bool.false_and,Bool.true_and, *])); repeat' ((first | (with_reducible refine fun _ : True => ?_) | refine hc _ (fun a' c' G hB hlc' hg => ?_)  | (with_reducible refine any_h ?_) | ((first | refine AllocQ_i ?_ | refine AllocO_i ?_); intro bk hb0 hbk; (try simp only [set_none'] at hbk); (try (first | have hbn := Grow.none (by assumption) hbk | have hbn := Grow.none (by assumption) hbk.2 | have hbn := Grow.none (by assumption) hbk.2.2 | have hbn := Grow.none (by assumption) hbk.2.2.2 | have hbn := Grow.none (by assumption) hbk.2.2.2.2 | have hbn := Grow.none (by assumption) hbk.2.2.2.2.2)); (try simp only [set_none'] at hbn); (try (first | have hbm := Grow.none (by assumption) hbn | have hbm := Grow.none (by assumption) hbn.2 | have hbm := Grow.none (by assumption) hbn.2.2 | have hbm := Grow.none (by assumption) hbn.2.2.2 | have hbm := Grow.none (by assumption) hbn.2.2.2.2 | have hbm := Grow.none (by assumption) hbn.2.2.2.2.2)); (try simp only [set_none'] at hbm)) | ((first | refine condS_i ?_ ?_ | refine pick_i ?_ ?_ | refine gS_it ?_ ?_ | refine gS_if ?_ ?_ | refine gP_it ?_ ?_ | refine gP_if ?_ ?_) <;> (intro hc; try simp only [Int.reduceLE,Int.reduceLT,Int.reduceEq,and_self,not_true_eq_false,not_false_eq_true,and_true,true_and,false_and,and_false,true_or,or_true,false_or,or_false,decide_eq_true_eq,decide_eq_false_iff_not,beq_iff_eq,beq_eq_false_iff_ne,bne_iff_ne,ne_eq,gt_iff_lt,ge_iff_le,Bool.not_eq_true,Bool.not_eq_false,Bool.not_eq_true',Bool.not_eq_false',Bool.not_eq_eq_eq_not,Bool.not_true,Bool.not_false] at hc)) | (refine KP_i (by (repeat' (first | exact Heap.Le.refl _ | (with_reducible refine Le_set2 ?_) | (refine Le_known (by first | (simp only [Heap.set_same, set_ne, ne_eq, not_false_eq_true, *] <;> rfl) | fail) ?_) | (refine Le_fresh (by first | (simp only [*] <;> done) | (simp [set_none', Heap.set_same, set_ne, noneH, *] <;> done) | fail) ?_) | (refine Heap.Le.trans ?_ (Grow.le (by assumption))) | exact Le_none | (refine Le_put ?_ (by first | (simp only [Heap.set_same, set_ne, ne_eq, not_false_eq_true, *] <;> rfl) | fail)) | fail))) ?_) | (with_reducible refine And.intro ?_ ?_)) <;> (try simp only [Sh,Si,Sl,Bu,Bb,Bd,Bc,Bw,Bn,Int.reduceAdd,Int.reduceSub,Int.reduceMul,Int.reduceTDiv,Int.reduceTMod,Int.reduceMod,Int.reduceDiv,Nat.reduceLT,Nat.reduceEqDiff,decide_true,decide_false,Sa,Sb,Sc,Sd,Se,Sf,Sg,true_and,and_true,and_self,eq_self,b_i64,b_i32,b_u64,b_u32,b_u8,Int.reduceLE,Int.reduceLT,Int.reduceToNat,Int.reduceNeg,Int.reduceEq,Nat.reduceLeDiff,Nat.reducePow,Int.reducePow,Nat.min_def,reduceIte,Nat.reduceSub,Nat.reduceAdd,Nat.reduceMul,KP_same,KP_f,condS_t,condS_f,pick_t,pick_f,gS_tt,gS_ff,gS_tf,gS_ft,gS_u,gP_tt,gP_ff,gP_tf,gP_ft,gP_u,ptrV_eq,slcV_eq,mapV_eq,cells_agg,cells_int,cells_bool,cells_ptr,cells_slice,oc_int,oc_bool,oc_slice,oc_ptr,rd1_set,rd1_ne,rdn_set,rdn_ne,Heap.set_same,set_ne,Heap.set_set,set_up,set_up2,set_up3,putAt,ceq,List.map_cons,List.map_nil,List.length_cons,List.length_nil,List.length_set,List.cons_append,List.nil_append,List.append_nil,List.replicate,List.size_toArray,List.all_cons,List.all_nil,Bool.and_self,Bool.and_true,List.drop_zero,List.drop_succ_cons,List.take_succ_cons,List.take_zero,List.set_cons_zero,List.set_cons_succ,List.getElem?_cons_zero,List.getElem?_cons_succ,Option.map_some,Option.map_none,ne_eq,not_false_eq_true,not_true_eq_false,gt_iff_lt,ge_iff_le,Int.one_mul,Nat.zero_add,Nat.zero_mul,Bool.not_true,Bool.not_false,Bool.false_eq_true,Bool.and_false,Bool.false_and,Bool.true_and, *]))
  exact Fin_mk (Heap.Le.refl _) ((show ∀ rb a' c' G, _ from h) _ a' c' _ ⟨Heap.set_same _ _ _, bld_re (hB.grow (Grow.set (Grow.refl _) hb0 hbk)) (fun _ _ => rfl), hlc', hl, Nat.zero_le _, hw⟩ (hg.none hbk) hb0 (hg.set hb0 (hg.none hbk)))
/-- The number at a place. -/
def numA (l : List Int) (p : Nat) : Int := numL ((l.drop p).take 4)
/-- While a code is read: j numbers are read, if there were so many. -/
structure DcSt (w0 : World) (H G : Heap) (rb pb : Nat) (a : Option Addr) (cp : Nat) (l : List Int) (j : Nat) : Prop where
  ex : ∃ (p : Nat) (e : Int), RdAt w0 G rb a cp l p e ∧ (4 * j ≤ l.length → p = 4 * j ∧ e = 0)
  at_ : G pb = some ⟨.t 68, [.pointer (some ⟨rb, 0, none⟩)]⟩
  g : Grow w0 H G
  n : H rb = none
  s : w0.heap.size ≤ rb
theorem DcSt.ne {rb pb : Nat} {a : Option Addr} {cp : Nat} {l : List Int} {j : Nat} (h : DcSt w0 H G rb pb a cp l j) : pb ≠ rb := by
  obtain ⟨⟨p, e, hR, -⟩, h1, -, -, -⟩ := h
  intro e
  subst e
  rw [hR.at_] at h1
  cases h1
theorem DcSt.grow {F : Heap} {rb pb : Nat} {a : Option Addr} {cp : Nat} {l : List Int} {j : Nat} (h : DcSt w0 H G rb pb a cp l j) (g : Grow w0 G F) : DcSt w0 H F rb pb a cp l j := by
  obtain ⟨⟨p, e, hR, hp⟩, h1, h2, h3, h4⟩ := h
  exact ⟨⟨p, e, hR.grow g, hp⟩, g.some h1, h2.trans g, h3, h4⟩
/-- Another block of the call's own is turned. -/
theorem DcSt.turn {rb pb d : Nat} {a : Option Addr} {cp : Nat} {l : List Int} {j : Nat} {x z : Blk} (h : DcSt w0 H G rb pb a cp l j) (hd : G d = some z) (hz : z.ty ≠ .t 5) (h1 : d ≠ rb) (h2 : d ≠ pb) (hn : H d = none) (hs : w0.heap.size ≤ d) : DcSt w0 H (G.set d x) rb pb a cp l j := by
  obtain ⟨⟨p, e, hR, hp⟩, k1, k2, k3, k4⟩ := h
  refine ⟨⟨p, e, ⟨?_, hR.iv.turn hd (fun e => hz e.symm), hR.lc, hR.lm, hR.lp, hR.wf⟩, hp⟩, ?_, k2.set hs hn, k3, k4⟩
  · rw [Heap.set_other _ _ (fun e => h1 e.symm)]; exact hR.at_
  · rw [Heap.set_other _ _ (fun e => h2 e.symm)]; exact k1
theorem c_getS {rb pb : Nat} {a : Option Addr} {cp : Nat} {l : List Int} {j : Nat} (hS : DcSt w0 H G rb pb a cp l j)
    (h : ∀ (x : Int) (G' : Heap), (4 * (j + 1) ≤ l.length → x = numA l (4 * j)) → DcSt w0 H G' rb pb a cp l (j + 1) → (∀ d z, G d = some z → d ≠ rb → G' d = some z) → K (.int .i64 x) G') :
    HCalls Try.prog w0 39 [.pointer (some ⟨pb, 0, none⟩)] G K := by
  have hne := hS.ne
  obtain ⟨⟨p, e, hR, hp⟩, h1, h2, h3, h4⟩ := hS
  refine c_get h1 hR ?_ ?_
  · intro ho G' hT
    refine h _ _ (fun hl => ?_) ⟨⟨p + 4, e, hT.rd, fun hl => ?_⟩, hT.kp _ _ h1 hne, hT.gr _ h2 h3 h4, h3, h4⟩ hT.kp
    · rw [(hp (by omega)).1]; rfl
    · obtain ⟨e1, e2⟩ := hp (by omega)
      exact ⟨by omega, e2⟩
  · intro ho e' G' he hT
    refine h _ _ (fun hl => ?_) ⟨⟨p, e', hT.rd, fun hl => ?_⟩, hT.kp _ _ h1 hne, hT.gr _ h2 h3 h4, h3, h4⟩ hT.kp
    · obtain ⟨e1, e2⟩ := hp (by omega)
      exact absurd ⟨e2, by omega⟩ ho
    · obtain ⟨e1, e2⟩ := hp (by omega)
      exact absurd ⟨e2, by omega⟩ ho
/-- The same where one block is set forth. -/
theorem c_getX {rb pb d : Nat} {z : Blk} {a : Option Addr} {cp : Nat} {l : List Int} {j : Nat} (hS : DcSt w0 H (G.set d z) rb pb a cp l j) (hd : d ≠ rb)
    (h : ∀ (x : Int) (G' : Heap), (4 * (j + 1) ≤ l.length → x = numA l (4 * j)) → DcSt w0 H (G'.set d z) rb pb a cp l (j + 1) → (∀ d' z', (G.set d z) d' = some z' → d' ≠ rb → (G'.set d z) d' = some z') → K (.int .i64 x) (G'.set d z)) :
    HCalls Try.prog w0 39 [.pointer (some ⟨pb, 0, none⟩)] (G.set d z) K :=
  c_getS hS fun x G' hx hS' hk => by
    have e := Heap.set_id G' d z (hk d z (Heap.set_same _ _ _) hd)
    have := h x G' hx (by rw [e]; exact hS') (by rw [e]; exact hk)
    rwa [e] at this
end Go.Proofs.Ytndgmnmnpfblmaa
