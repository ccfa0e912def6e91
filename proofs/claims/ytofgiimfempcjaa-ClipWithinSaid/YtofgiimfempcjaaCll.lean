/- Lines and points, by the program and by the document (layer 21). -/
import Derived.Test.YtofgiimfempcjaaCli
set_option linter.unusedSimpArgs false
set_option linter.unusedVariables false
set_option maxRecDepth 100000
set_option maxHeartbeats 16000000
namespace Go.Proofs.Ytofgiimfempcjaa
open Go Go.HL Go.RowKit Pb
variable {w0 : World} {H : Heap} {K : Value → Heap → Prop}

/-- A line, cut by a distance. -/
def lineC (n : Int) (p q : Vt) : Option (Vt × Vt) :=
  if 0 ≤ dist p.p n then (if 0 ≤ dist q.p n then some (p, q) else some (p, betw p q n)) else (if 0 ≤ dist q.p n then some (betw q p n, q) else none)
def lineN : Nat → Vt → Vt → Option (Vt × Vt)
  | 0, p, q => some (p, q)
  | k + 1, p, q => match lineN k p q with
    | none => none
    | some (p', q') => lineC k p' q'
theorem lineN_none {p q : Vt} {k : Nat} (h : lineN k p q = none) : ∀ d, lineN (k + d) p q = none
  | 0 => h
  | d + 1 => by rw [← Nat.add_assoc]; simp only [lineN, lineN_none h d]
/-- Both ends of a line. -/
def lineA (v : Vw) (p q : Vt) : List Wn := match lineN 7 p q with
  | none => []
  | some (p', q') => if dist p'.p 0 < 0 ∨ dist q'.p 0 < 0 then [] else [winA v p', winA v q']
def pointA (v : Vw) (p : Vt) : List Wn := if ∀ n : Nat, n < 7 → 0 ≤ dist p.p n then [winA v p] else []
theorem lineA_none {v : Vw} {p q : Vt} {k : Nat} (hk : k ≤ 7) (h : lineN k p q = none) : lineA v p q = [] := by
  have := lineN_none h (7 - k)
  rw [show k + (7 - k) = 7 by omega] at this
  unfold lineA; rw [this]
/-- A corner that was there already, or whose vectors are the call's own. -/
structure VtAt (w0 : World) (H G : Heap) (x : VtR) : Prop where
  vs : VsAt w0 H G x.a x.cap x.l
  p : V32 x.p
  s : I32 x.s
theorem VtAt.ok {G : Heap} {x : VtR} (h : VtAt w0 H G x) (g : Grow w0 H G) : VtOk w0 G x := ⟨h.vs.ok g, h.p, h.s⟩
theorem VtOk.old {G : Heap} {x : VtR} (h : VtOk w0 H x) : VtAt w0 H G x := ⟨h.vs.old, h.p, h.s⟩
theorem VtAt.keep {G G' : Heap} {x : VtR} (h : VtAt w0 H G x) (hk : KeepT 26 G G') : VtAt w0 H G' x := ⟨h.vs.keep hk, h.p, h.s⟩
theorem betw_at {G G' F : Heap} {p q : Vt} {n : Int} {a : Option Addr} {c : Nat} (h : VsNew w0 F G a c (betw p q n).l) (g : Grow w0 H F) (hk : KeepT 26 G G') : VtAt w0 H G' (VtR.mk (betw p q n) a c) := ⟨VsAt.base h g hk, bvec_V32 _ _ _, betw_s_I32 _ _ _⟩
theorem wins2 {G : Heap} {b : Nat} {x y : WnR} (e : G b = some ⟨winT.ty, x.row ++ y.row⟩) (hx : VsOk w0 G x.a x.cap x.l) (hy : VsOk w0 G y.a y.cap y.l) : RO winT w0 G (some ⟨b, 0, none⟩) 2 [x, y] :=
  ⟨.blk (z := []) (by rw [List.append_nil]; simpa using e), by simp, fun z hz v hv => by
    simp only [List.mem_cons, List.not_mem_nil, or_false] at hz
    rcases hz with rfl | rfl
    · simp only [List.mem_cons, List.not_mem_nil, or_false] at hv; subst hv; exact hx
    · simp only [List.mem_cons, List.not_mem_nil, or_false] at hv; subst hv; exact hy⟩
theorem wins1 {G : Heap} {b : Nat} {x : WnR} (e : G b = some ⟨winT.ty, x.row⟩) (hx : VsOk w0 G x.a x.cap x.l) : RO winT w0 G (some ⟨b, 0, none⟩) 1 [x] :=
  ⟨.blk (z := []) (by rw [List.append_nil]; simpa using e), by simp, fun z hz v hv => by
    simp only [List.mem_cons, List.not_mem_nil, or_false] at hz
    subst hz
    simp only [List.mem_cons, List.not_mem_nil, or_false] at hv; subst hv; exact hx⟩
/- clip Line -/
def M27 : MC :=
  .seq (.reg [⟨(some 3), .box 24 (.tmp 0), none⟩,
     ⟨(some 4), .box 29 (.tmp 1), none⟩,
     ⟨(some 5), .box 29 (.tmp 2), none⟩,
     ⟨(some 6), .mv (.const (.slice none 0 0)), none⟩,
     ⟨(some 7), .mv (.const (.int .i64 0)), none⟩])
  (.seq (.seq (.reg [⟨(some 11), .ldn 6 (.tmp 3), none⟩,
       ⟨(some 12), .call 19 [(.tmp 11)], none⟩,
       ⟨(some 13), .un .not (.tmp 12), none⟩,
       ⟨(some 14), .mv (.tmp 13), none⟩,
       ⟨(some 15), .ldn 6 (.tmp 4), (some (14, false))⟩,
       ⟨(some 16), .ldn 6 (.tmp 5), (some (14, false))⟩,
       ⟨(some 17), .bslice 29 2 [(.int .i32 0), (.int .i32 0), (.int .i32 0), (.int .i32 0), (.int .i32 0), (.slice none 0 0), (.int .i32 0), (.int .i32 0), (.int .i32 0), (.int .i32 0), (.int .i32 0), (.slice none 0 0)] [(0, 6, (.tmp 15)), (6, 6, (.tmp 16))], (some (14, false))⟩,
       ⟨(some 18), .call 32 [(.tmp 17)], (some (14, false))⟩,
       ⟨(some 19), .un .not (.tmp 18), (some (14, false))⟩,
       ⟨(some 20), .pick (.tmp 14) (.const (.bool true)) (.tmp 19), none⟩])
    (.cond (.tmp 20)
     (.seq (.reg [⟨(some 6), .mv (.const (.slice none 0 0)), none⟩,
         ⟨(some 7), .mv (.const (.int .i64 2)), none⟩])
      (.ret))
     (.skip)))
   (.seq (.seq (.reg [⟨(some 21), .mv (.const (.int .i64 0)), none⟩])
     (.block 0 (.loop (.seq (.reg [⟨(some 22), .bin .lss (.tmp 21) (.const (.int .i64 7)), none⟩])
        (.seq (.cond (.tmp 22)
          (.skip)
          (.exit 0))
         (.seq (.block 1 (.seq (.reg [⟨(some 23), .mv (.tmp 21), none⟩,
               ⟨(some 8), .mv (.tmp 23), none⟩])
            (.seq (.any [(true, true, ⟨(some 24), .ldn 6 (.tmp 4), none⟩),
                (true, true, ⟨(some 25), .mv (.tmp 8), none⟩),
                (true, true, ⟨(some 28), .ldn 6 (.tmp 5), none⟩),
                (true, true, ⟨(some 29), .mv (.tmp 8), none⟩),
                (false, true, ⟨(some 26), .call 34 [(.tmp 24), (.tmp 25)], none⟩),
                (true, true, ⟨(some 27), .bin .geq (.tmp 26) (.const (.int .i32 0)), none⟩),
                (false, true, ⟨(some 30), .call 34 [(.tmp 28), (.tmp 29)], none⟩),
                (true, true, ⟨(some 31), .bin .geq (.tmp 30) (.const (.int .i32 0)), none⟩),
                (false, true, ⟨(some 9), .mv (.tmp 27), none⟩),
                (false, false, ⟨(some 10), .mv (.tmp 31), none⟩)])
             (.block 2 (.seq (.reg [⟨(some 33), .mv (.tmp 9), none⟩,
                  ⟨(some 34), .un .not (.tmp 33), none⟩,
                  ⟨(some 35), .mv (.tmp 34), none⟩,
                  ⟨(some 36), .mv (.tmp 10), (some (35, true))⟩,
                  ⟨(some 37), .un .not (.tmp 36), (some (35, true))⟩,
                  ⟨(some 38), .pick (.tmp 35) (.tmp 37) (.const (.bool false)), none⟩,
                  ⟨(some 32), .mv (.tmp 38), none⟩])
               (.cond (.tmp 32)
                (.seq (.reg [⟨(some 6), .mv (.const (.slice none 0 0)), none⟩,
                    ⟨(some 7), .mv (.const (.int .i64 0)), none⟩])
                 (.ret))
                (.seq (.reg [⟨(some 40), .mv (.tmp 10), none⟩,
                    ⟨(some 41), .un .not (.tmp 40), none⟩,
                    ⟨(some 39), .mv (.tmp 41), none⟩])
                 (.cond (.tmp 39)
                  (.reg [⟨(some 42), .ldn 6 (.tmp 4), none⟩,
                     ⟨(some 43), .ldn 6 (.tmp 5), none⟩,
                     ⟨(some 44), .mv (.tmp 8), none⟩,
                     ⟨(some 45), .call 43 [(.tmp 42), (.tmp 43), (.tmp 44)], none⟩,
                     ⟨none, .stn 6 (.tmp 5) (.tmp 45), none⟩])
                  (.seq (.reg [⟨(some 47), .mv (.tmp 9), none⟩,
                      ⟨(some 48), .un .not (.tmp 47), none⟩,
                      ⟨(some 46), .mv (.tmp 48), none⟩])
                   (.cond (.tmp 46)
                    (.reg [⟨(some 49), .ldn 6 (.tmp 5), none⟩,
                       ⟨(some 50), .ldn 6 (.tmp 4), none⟩,
                       ⟨(some 51), .mv (.tmp 8), none⟩,
                       ⟨(some 52), .call 43 [(.tmp 49), (.tmp 50), (.tmp 51)], none⟩,
                       ⟨none, .stn 6 (.tmp 4) (.tmp 52), none⟩])
                    (.skip)))))))))))
          (.reg [⟨(some 53), .bin .add (.tmp 21) (.const (.int .i64 1)), none⟩,
             ⟨(some 21), .mv (.tmp 53), none⟩])))))))
    (.seq (.seq (.reg [⟨(some 54), .ldn 6 (.tmp 4), none⟩,
         ⟨(some 55), .call 34 [(.tmp 54), (.const (.int .i64 0))], none⟩,
         ⟨(some 56), .bin .lss (.tmp 55) (.const (.int .i32 0)), none⟩,
         ⟨(some 57), .mv (.tmp 56), none⟩,
         ⟨(some 58), .ldn 6 (.tmp 5), (some (57, false))⟩,
         ⟨(some 59), .call 34 [(.tmp 58), (.const (.int .i64 0))], (some (57, false))⟩,
         ⟨(some 60), .bin .lss (.tmp 59) (.const (.int .i32 0)), (some (57, false))⟩,
         ⟨(some 61), .pick (.tmp 57) (.const (.bool true)) (.tmp 60), none⟩])
      (.cond (.tmp 61)
       (.seq (.reg [⟨(some 6), .mv (.const (.slice none 0 0)), none⟩,
           ⟨(some 7), .mv (.const (.int .i64 0)), none⟩])
        (.ret))
       (.skip)))
     (.seq (.any [(true, true, ⟨(some 62), .ldn 6 (.tmp 3), none⟩),
         (true, true, ⟨(some 63), .ldn 6 (.tmp 4), none⟩),
         (true, true, ⟨(some 65), .ldn 6 (.tmp 3), none⟩),
         (true, true, ⟨(some 66), .ldn 6 (.tmp 5), none⟩),
         (false, true, ⟨(some 64), .call 35 [(.tmp 62), (.tmp 63)], none⟩),
         (false, false, ⟨(some 67), .call 35 [(.tmp 65), (.tmp 66)], none⟩),
         (false, false, ⟨(some 68), .bslice 44 2 [(.int .i64 0), (.int .i64 0), (.int .i32 0), (.int .i32 0), (.int .i32 0), (.slice none 0 0), (.int .i64 0), (.int .i64 0), (.int .i32 0), (.int .i32 0), (.int .i32 0), (.slice none 0 0)] [(0, 6, (.tmp 64)), (6, 6, (.tmp 67))], none⟩),
         (false, false, ⟨(some 6), .mv (.tmp 68), none⟩),
         (false, false, ⟨(some 7), .mv (.const (.int .i64 0)), none⟩)])
      (.ret)))))
theorem k27 : fnOk Try.prog 27 = some (M27, [.t 6, .t 7], 69) := by kernel_rfl

theorem c_Line (v : Vw) (A B : VtR) (hvi : I64 v.x ∧ I64 v.y ∧ I64 v.w ∧ I64 v.h) (hA : VtOk w0 H A) (hB : VtOk w0 H B)
    (h1 : v.right ∧ Al [A.toVt, B.toVt] → ∀ a' (ws : List WnR) H', ws.map WnR.toWn = lineA v A.toVt B.toVt → RO winT w0 H' a' ws.length ws → Grow w0 H H' → K (.tuple #[.slice a' ws.length ws.length, .int .i64 0]) H')
    (h2 : ¬ (v.right ∧ Al [A.toVt, B.toVt]) → K (.tuple #[.slice none 0 0, .int .i64 2]) H) : HCalls Try.prog w0 27 [v.v, A.v, B.v] H K := by
  have cR : ∀ (G : Heap) (K : Value → Heap → Prop), K (.bool (decide v.right)) G → HCalls Try.prog w0 19 [v.v] G K := fun G K hk => c_Right v hvi.1 hvi.2.1 hvi.2.2.1 hvi.2.2.2 hk
  have hall : ∀ (G : Heap) (b : Nat) (t : TypeId), Grow w0 H G → G b = some ⟨t, A.row ++ B.row⟩ → RowsOk w0 G (some ⟨b, 0, none⟩) 2 [A, B] := fun G b t g e => ⟨.blk (z := []) (by rw [List.append_nil]; simpa using e), by simp, by simp [maxLen], fun y hy => by
    simp only [List.mem_cons, List.not_mem_nil, or_false] at hy
    rcases hy with rfl | rfl
    · exact hA.grow g
    · exact hB.grow g⟩
  by_cases hv : v.right
  · by_cases hAl : Al [A.toVt, B.toVt]
    · have h1 := h1 ⟨hv, hAl⟩
      clear h2
      have hm4 : A.l.length ≤ 4 := (hAl A.toVt (by simp) A.toVt (by simp)).2
      have hBl : B.l.length = A.l.length := (hAl B.toVt (by simp) A.toVt (by simp)).1
      have ca : ∀ (b : Nat) (t : TypeId) (G : Heap) (K : Value → Heap → Prop), Grow w0 H G → G b = some ⟨t, A.row ++ B.row⟩ → K (.bool true) G → HCalls Try.prog w0 32 [.slice (some ⟨b, 0, none⟩) 2 2] G K := fun b t G K g e hk => c_alike (some ⟨b, 0, none⟩) 2 [A, B] (hall G b t g e) (fun _ => hk) (fun hh => (hh hAl).elim)
      clear hall
      replace hBl : Keep (B.l.length = A.l.length) := hBl
      unfold VtR.v Vw.v at *
      unfold VtR.row at ca
      refine HL.hc k27 2000 ?_; unfold M27
      (all_goals (refine (fun f : True → _ => f trivial) ?_)); repeat' ((first | (with_reducible refine fun _ : True => ?_) | refine cR _ _ ?_ | refine ca _ _ _ _ (by (repeat' (first | exact Grow.refl _ | assumption | (refine Grow_known (by first | (simp only [Heap.set_same, set_ne, ne_eq, not_false_eq_true, *] <;> rfl) | fail) ?_) | (refine Grow.set ?_ (by assumption) (by first | (simp only [*] <;> done) | (simp [set_none', Heap.set_same, set_ne, *] <;> done) | fail)) | (refine Grow.trans ?_ (by assumption))))) (by simp only [Heap.set_same, set_ne, ne_eq, not_false_eq_true, *] <;> rfl) ?_ | (refine AllocQ_i ?_; intro bk hb0 hbk; (try simp only [set_none'] at hbk); (try (first | have hbn := Grow.none (by assumption) hbk | have hbn := Grow.none (by assumption) hbk.2 | have hbn := Grow.none (by assumption) hbk.2.2 | have hbn := Grow.none (by assumption) hbk.2.2.2 | have hbn := Grow.none (by assumption) hbk.2.2.2.2 | have hbn := Grow.none (by assumption) hbk.2.2.2.2.2)); (try simp only [set_none'] at hbn); (try (first | have hbm := Grow.none (by assumption) hbn | have hbm := Grow.none (by assumption) hbn.2 | have hbm := Grow.none (by assumption) hbn.2.2 | have hbm := Grow.none (by assumption) hbn.2.2.2 | have hbm := Grow.none (by assumption) hbn.2.2.2.2 | have hbm := Grow.none (by assumption) hbn.2.2.2.2.2)); (try simp only [set_none'] at hbm)) | ((first | refine condS_i ?_ ?_ | refine pick_i ?_ ?_ | refine gS_it ?_ ?_ | refine gS_if ?_ ?_ | refine gP_it ?_ ?_ | refine gP_if ?_ ?_) <;> (intro hc; try simp only [Int.reduceLE,Int.reduceLT,Int.reduceEq,and_self,not_true_eq_false,not_false_eq_true,and_true,true_and,false_and,and_false,true_or,or_true,false_or,or_false,decide_eq_true_eq,decide_eq_false_iff_not,beq_iff_eq,beq_eq_false_iff_ne,bne_iff_ne,ne_eq,gt_iff_lt,ge_iff_le,Bool.not_eq_true,Bool.not_eq_false,Bool.not_eq_true',Bool.not_eq_false',Bool.not_eq_eq_eq_not,Bool.not_true,Bool.not_false] at hc)) | (refine KP_i (by (repeat' (first | exact Heap.Le.refl _ | (refine Le_known (by first | (simp only [Heap.set_same, set_ne, ne_eq, not_false_eq_true, *] <;> rfl) | fail) ?_) | (refine Le_fresh (by first | (simp only [*] <;> done) | (simp [set_none', Heap.set_same, set_ne, *] <;> done) | fail) ?_) | (refine Heap.Le.trans ?_ (Grow.le (by assumption)))))) ?_) | (with_reducible refine And.intro ?_ ?_)) <;> (try simp only [Sh,Si,Sl,Bu,Bb,Bd,Bc,Bw,Bn,Int.reduceAdd,Int.reduceSub,Int.reduceMul,Int.reduceTDiv,Int.reduceTMod,Int.reduceMod,Int.reduceDiv,Nat.reduceLT,Nat.reduceEqDiff,decide_true,decide_false,Sa,Sb,Sc,Sd,Se,Sf,Sg,true_and,and_true,and_self,eq_self,b_i64,b_i32,b_u64,b_u32,b_u8,Int.reduceLE,Int.reduceLT,Int.reduceToNat,Int.reduceNeg,Int.reduceEq,Nat.reduceLeDiff,Nat.reducePow,Int.reducePow,Nat.min_def,reduceIte,Nat.reduceSub,Nat.reduceAdd,Nat.reduceMul,KP_same,KP_f,condS_t,condS_f,pick_t,pick_f,gS_tt,gS_ff,gS_tf,gS_ft,gS_u,gP_tt,gP_ff,gP_tf,gP_ft,gP_u,ptrV_eq,slcV_eq,cells_agg,cells_int,cells_bool,cells_ptr,cells_slice,oc_int,oc_bool,oc_slice,oc_ptr,rd1_set,rd1_ne,rdn_set,rdn_ne,Heap.set_same,set_ne,Heap.set_set,set_up,set_up2,set_up3,putAt,ceq,List.map_cons,List.map_nil,List.length_cons,List.length_nil,List.length_set,List.cons_append,List.nil_append,List.append_nil,List.replicate,List.size_toArray,List.all_cons,List.all_nil,Bool.and_self,Bool.and_true,List.drop_zero,List.drop_succ_cons,List.take_succ_cons,List.take_zero,List.set_cons_zero,List.set_cons_succ,List.getElem?_cons_zero,List.getElem?_cons_succ,Option.map_some,Option.map_none,ne_eq,not_false_eq_true,not_true_eq_false,gt_iff_lt,ge_iff_le,Int.one_mul,Nat.zero_add,Nat.zero_mul,Bool.not_true,Bool.not_false,Bool.false_eq_true,Bool.and_false,Bool.false_and,Bool.true_and, *]))
      rename_i b3 p3 q3 b4 p4 q4 b5 p5 q5
      refine loopq_heap (fun G1 eG => ?_)
      have k3 := at_of eG (b := b3) (by simp only [Heap.set_same, set_ne, ne_eq, not_false_eq_true, *] <;> rfl)
      have k4 := at_of eG (b := b4) (by simp only [Heap.set_same, set_ne, ne_eq, not_false_eq_true, *] <;> rfl)
      have k5 := at_of eG (b := b5) (by simp only [Heap.set_same, set_ne, ne_eq, not_false_eq_true, *] <;> rfl)
      have g1 : Grow w0 H G1 := by rw [eG]; exact (by (repeat' (first | exact Grow.refl _ | assumption | (refine Grow_known (by first | (simp only [Heap.set_same, set_ne, ne_eq, not_false_eq_true, *] <;> rfl) | fail) ?_) | (refine Grow.set ?_ (by assumption) (by first | (simp only [*] <;> done) | (simp [set_none', Heap.set_same, set_ne, *] <;> done) | fail)) | (refine Grow.trans ?_ (by assumption)))))
      clear eG ca cR hbk hb0
      refine loop_g 22 (fun s : (Nat × Value × Value × Value × VtR × VtR) × Heap => [(8, s.1.2.1), (9, s.1.2.2.1), (10, s.1.2.2.2.1), (21, .int .i64 (s.1.1 : Nat))]) (fun s => s.2)
        (fun s => s.1.1 ≤ 7 ∧ Grow w0 H s.2 ∧ s.2 b3 = some ⟨24, [.int .i64 v.x, .int .i64 v.y, .int .i64 v.w, .int .i64 v.h, .int .i32 v.n, .int .i32 v.f]⟩ ∧ s.2 b4 = some ⟨29, s.1.2.2.2.2.1.row⟩ ∧ s.2 b5 = some ⟨29, s.1.2.2.2.2.2.row⟩ ∧ VtAt w0 H s.2 s.1.2.2.2.2.1 ∧ VtAt w0 H s.2 s.1.2.2.2.2.2 ∧ s.1.2.2.2.2.1.l.length = A.l.length ∧ s.1.2.2.2.2.2.l.length = A.l.length
          ∧ lineN s.1.1 A.toVt B.toVt = some (s.1.2.2.2.2.1.toVt, s.1.2.2.2.2.2.toVt)) (fun s => 7 - s.1.1)
        ((0, undef, undef, undef, A, B), G1) ⟨Nat.zero_le _, g1, k3, k4, k5, hA.old, hB.old, rfl, hBl, rfl⟩ (Heap.Le.refl _) rfl ?_
      clear k3 k4 k5 g1
      rintro ⟨⟨k, u8, u9, u10, x, y⟩, G⟩ f ⟨hk, hG, k3, k4, k5, hxA, hyA, hxl, hyl, hln⟩
      simp only at hk hG k3 k4 k5 hxA hyA hxl hyl hln
      have hx := hxA.ok hG
      have hy := hyA.ok hG
      show run _ _ _ _ _ _ G
      replace hxl : Keep (x.l.length = A.l.length) := hxl
      replace hyl : Keep (y.l.length = A.l.length) := hyl
      rcases Nat.lt_or_ge k 7 with hlt | hge
      · have t0 : (k : Int) < 7 := by omega
        have t6 : IntKind.i64.wrap ((k : Int) + 1) = (k : Int) + 1 := Bw.1 _ (by omega) (by omega)
        have hl1 : lineN (k + 1) A.toVt B.toVt = lineC k x.toVt y.toVt := by simp only [lineN, hln]
        have d1 : ∀ (G : Heap) (K : Value → Heap → Prop), K (.int .i32 (dist x.p (k : Nat))) G → HCalls Try.prog w0 34 [x.v, .int .i64 (k : Nat)] G K := fun G K hk => c_distance x _ hx.p hk
        have d2 : ∀ (G : Heap) (K : Value → Heap → Prop), K (.int .i32 (dist y.p (k : Nat))) G → HCalls Try.prog w0 34 [y.v, .int .i64 (k : Nat)] G K := fun G K hk => c_distance y _ hy.p hk
        have bt1 : ∀ (F : Heap) (K : Value → Heap → Prop), Grow w0 G F → (∀ a' cap' H', VsNew w0 F H' a' cap' (betw x.toVt y.toVt (k : Nat)).l → Grow w0 F H' → K (VtR.mk (betw x.toVt y.toVt (k : Nat)) a' cap').v H') → HCalls Try.prog w0 43 [x.v, y.v, .int .i64 (k : Nat)] F K := fun F K g hk =>
          c_between x y _ (hx.grow g) (hy.grow g) (Eq.trans hyl (Eq.symm hxl)) (by rw [show x.l.length = A.l.length from hxl]; exact hm4) fun a' cap' H' hn hg => by
            have := hk a' cap' H' hn hg
            unfold VtR.v at this
            rw [betw_len (m := x.l.length) rfl (Eq.trans hyl (Eq.symm hxl))] at this
            exact this
        have bt2 : ∀ (F : Heap) (K : Value → Heap → Prop), Grow w0 G F → (∀ a' cap' H', VsNew w0 F H' a' cap' (betw y.toVt x.toVt (k : Nat)).l → Grow w0 F H' → K (VtR.mk (betw y.toVt x.toVt (k : Nat)) a' cap').v H') → HCalls Try.prog w0 43 [y.v, x.v, .int .i64 (k : Nat)] F K := fun F K g hk =>
          c_between y x _ (hy.grow g) (hx.grow g) (Eq.trans hxl (Eq.symm hyl)) (by rw [show y.l.length = A.l.length from hyl]; exact hm4) fun a' cap' H' hn hg => by
            have := hk a' cap' H' hn hg
            unfold VtR.v at this
            rw [betw_len (m := y.l.length) rfl (Eq.trans hxl (Eq.symm hyl))] at this
            exact this
        unfold VtR.v at d1 d2 bt1 bt2
        unfold VtR.row at k4 k5
        rw [root3 k3 k4 k5]
        (all_goals (refine (fun f : True → _ => f trivial) ?_)); repeat' ((first | (with_reducible refine fun _ : True => ?_) | refine d1 _ _ ?_ | refine d2 _ _ ?_ | refine bt1 _ _ (by (repeat' (first | exact Grow.refl _ | assumption | (refine Grow_known (by first | (simp only [Heap.set_same, set_ne, ne_eq, not_false_eq_true, *] <;> rfl) | fail) ?_) | (refine Grow.set ?_ (by assumption) (by first | (simp only [*] <;> done) | (simp [set_none', Heap.set_same, set_ne, *] <;> done) | fail)) | (refine Grow.trans ?_ (by assumption))))) (fun a2 c2 G2 hn2 hg2 => ?_)  | refine bt2 _ _ (by (repeat' (first | exact Grow.refl _ | assumption | (refine Grow_known (by first | (simp only [Heap.set_same, set_ne, ne_eq, not_false_eq_true, *] <;> rfl) | fail) ?_) | (refine Grow.set ?_ (by assumption) (by first | (simp only [*] <;> done) | (simp [set_none', Heap.set_same, set_ne, *] <;> done) | fail)) | (refine Grow.trans ?_ (by assumption))))) (fun a2 c2 G2 hn2 hg2 => ?_)  | (refine AllocQ_i ?_; intro bk hb0 hbk; (try simp only [set_none'] at hbk); (try (first | have hbn := Grow.none (by assumption) hbk | have hbn := Grow.none (by assumption) hbk.2 | have hbn := Grow.none (by assumption) hbk.2.2 | have hbn := Grow.none (by assumption) hbk.2.2.2 | have hbn := Grow.none (by assumption) hbk.2.2.2.2 | have hbn := Grow.none (by assumption) hbk.2.2.2.2.2)); (try simp only [set_none'] at hbn); (try (first | have hbm := Grow.none (by assumption) hbn | have hbm := Grow.none (by assumption) hbn.2 | have hbm := Grow.none (by assumption) hbn.2.2 | have hbm := Grow.none (by assumption) hbn.2.2.2 | have hbm := Grow.none (by assumption) hbn.2.2.2.2 | have hbm := Grow.none (by assumption) hbn.2.2.2.2.2)); (try simp only [set_none'] at hbm)) | ((first | refine condS_i ?_ ?_ | refine pick_i ?_ ?_ | refine gS_it ?_ ?_ | refine gS_if ?_ ?_ | refine gP_it ?_ ?_ | refine gP_if ?_ ?_) <;> (intro hc; try simp only [Int.reduceLE,Int.reduceLT,Int.reduceEq,and_self,not_true_eq_false,not_false_eq_true,and_true,true_and,false_and,and_false,true_or,or_true,false_or,or_false,decide_eq_true_eq,decide_eq_false_iff_not,beq_iff_eq,beq_eq_false_iff_ne,bne_iff_ne,ne_eq,gt_iff_lt,ge_iff_le,Bool.not_eq_true,Bool.not_eq_false,Bool.not_eq_true',Bool.not_eq_false',Bool.not_eq_eq_eq_not,Bool.not_true,Bool.not_false] at hc)) | (refine KP_i (by (repeat' (first | exact Heap.Le.refl _ | (refine Le_known (by first | (simp only [Heap.set_same, set_ne, ne_eq, not_false_eq_true, *] <;> rfl) | fail) ?_) | (refine Le_fresh (by first | (simp only [*] <;> done) | (simp [set_none', Heap.set_same, set_ne, *] <;> done) | fail) ?_) | (refine Heap.Le.trans ?_ (Grow.le (by assumption)))))) ?_) | (with_reducible refine And.intro ?_ ?_)) <;> (try simp only [Sh,Si,Sl,Bu,Bb,Bd,Bc,Bw,Bn,Int.reduceAdd,Int.reduceSub,Int.reduceMul,Int.reduceTDiv,Int.reduceTMod,Int.reduceMod,Int.reduceDiv,Nat.reduceLT,Nat.reduceEqDiff,decide_true,decide_false,Sa,Sb,Sc,Sd,Se,Sf,Sg,true_and,and_true,and_self,eq_self,b_i64,b_i32,b_u64,b_u32,b_u8,Int.reduceLE,Int.reduceLT,Int.reduceToNat,Int.reduceNeg,Int.reduceEq,Nat.reduceLeDiff,Nat.reducePow,Int.reducePow,Nat.min_def,reduceIte,Nat.reduceSub,Nat.reduceAdd,Nat.reduceMul,KP_same,KP_f,condS_t,condS_f,pick_t,pick_f,gS_tt,gS_ff,gS_tf,gS_ft,gS_u,gP_tt,gP_ff,gP_tf,gP_ft,gP_u,ptrV_eq,slcV_eq,cells_agg,cells_int,cells_bool,cells_ptr,cells_slice,oc_int,oc_bool,oc_slice,oc_ptr,rd1_set,rd1_ne,rdn_set,rdn_ne,Heap.set_same,set_ne,Heap.set_set,set_up,set_up2,set_up3,putAt,ceq,List.map_cons,List.map_nil,List.length_cons,List.length_nil,List.length_set,List.cons_append,List.nil_append,List.append_nil,List.replicate,List.size_toArray,List.all_cons,List.all_nil,Bool.and_self,Bool.and_true,List.drop_zero,List.drop_succ_cons,List.take_succ_cons,List.take_zero,List.set_cons_zero,List.set_cons_succ,List.getElem?_cons_zero,List.getElem?_cons_succ,Option.map_some,Option.map_none,ne_eq,not_false_eq_true,not_true_eq_false,gt_iff_lt,ge_iff_le,Int.one_mul,Nat.zero_add,Nat.zero_mul,Bool.not_true,Bool.not_false,Bool.false_eq_true,Bool.and_false,Bool.false_and,Bool.true_and, *]))
        · rename_i hc1
          rw [← root3 k3 k4 k5]
          exact Fin_mk (Heap.Le.refl _) (h1 none [] G (by rw [lineA_none (k := k + 1) (by omega) (by rw [hl1]; simp [lineC, hc1, hc])]; rfl) RO.nil hG)
        · rename_i hc1
          have m3 := hg2.some (b := b3) (by simp only [Heap.set_same, set_ne, ne_eq, not_false_eq_true, *] <;> rfl)
          have m4 := hg2.some (b := b4) (by simp only [Heap.set_same, set_ne, ne_eq, not_false_eq_true, *] <;> rfl)
          have m5 := hg2.some (b := b5) (by simp only [Heap.set_same, set_ne, ne_eq, not_false_eq_true, *] <;> rfl)
          rw [← root3 k3 k4 k5] at hn2 hg2
          have gF := hG.trans hg2
          have hl2 : lineN (k + 1) A.toVt B.toVt = some (betw y.toVt x.toVt (k : Nat), y.toVt) := by rw [hl1]; simp [lineC, hc1, hc]
          have hlen : Keep ((betw y.toVt x.toVt (k : Nat)).l.length = A.l.length) := betw_len (m := A.l.length) hyl hxl
          clear bt1 bt2 d1 d2 hl1
          rw [root3 m3 m4 m5]
          (all_goals (refine (fun f : True → _ => f trivial) ?_)); repeat' ((first | (with_reducible refine fun _ : True => ?_) | (refine AllocQ_i ?_; intro bk hb0 hbk; (try simp only [set_none'] at hbk); (try (first | have hbn := Grow.none (by assumption) hbk | have hbn := Grow.none (by assumption) hbk.2 | have hbn := Grow.none (by assumption) hbk.2.2 | have hbn := Grow.none (by assumption) hbk.2.2.2 | have hbn := Grow.none (by assumption) hbk.2.2.2.2 | have hbn := Grow.none (by assumption) hbk.2.2.2.2.2)); (try simp only [set_none'] at hbn); (try (first | have hbm := Grow.none (by assumption) hbn | have hbm := Grow.none (by assumption) hbn.2 | have hbm := Grow.none (by assumption) hbn.2.2 | have hbm := Grow.none (by assumption) hbn.2.2.2 | have hbm := Grow.none (by assumption) hbn.2.2.2.2 | have hbm := Grow.none (by assumption) hbn.2.2.2.2.2)); (try simp only [set_none'] at hbm)) | ((first | refine condS_i ?_ ?_ | refine pick_i ?_ ?_ | refine gS_it ?_ ?_ | refine gS_if ?_ ?_ | refine gP_it ?_ ?_ | refine gP_if ?_ ?_) <;> (intro hc; try simp only [Int.reduceLE,Int.reduceLT,Int.reduceEq,and_self,not_true_eq_false,not_false_eq_true,and_true,true_and,false_and,and_false,true_or,or_true,false_or,or_false,decide_eq_true_eq,decide_eq_false_iff_not,beq_iff_eq,beq_eq_false_iff_ne,bne_iff_ne,ne_eq,gt_iff_lt,ge_iff_le,Bool.not_eq_true,Bool.not_eq_false,Bool.not_eq_true',Bool.not_eq_false',Bool.not_eq_eq_eq_not,Bool.not_true,Bool.not_false] at hc)) | (refine KP_i (by (repeat' (first | exact Heap.Le.refl _ | (refine Le_known (by first | (simp only [Heap.set_same, set_ne, ne_eq, not_false_eq_true, *] <;> rfl) | fail) ?_) | (refine Le_fresh (by first | (simp only [*] <;> done) | (simp [set_none', Heap.set_same, set_ne, *] <;> done) | fail) ?_) | (refine Heap.Le.trans ?_ (Grow.le (by assumption)))))) ?_) | (with_reducible refine And.intro ?_ ?_)) <;> (try simp only [Sh,Si,Sl,Bu,Bb,Bd,Bc,Bw,Bn,Int.reduceAdd,Int.reduceSub,Int.reduceMul,Int.reduceTDiv,Int.reduceTMod,Int.reduceMod,Int.reduceDiv,Nat.reduceLT,Nat.reduceEqDiff,decide_true,decide_false,Sa,Sb,Sc,Sd,Se,Sf,Sg,true_and,and_true,and_self,eq_self,b_i64,b_i32,b_u64,b_u32,b_u8,Int.reduceLE,Int.reduceLT,Int.reduceToNat,Int.reduceNeg,Int.reduceEq,Nat.reduceLeDiff,Nat.reducePow,Int.reducePow,Nat.min_def,reduceIte,Nat.reduceSub,Nat.reduceAdd,Nat.reduceMul,KP_same,KP_f,condS_t,condS_f,pick_t,pick_f,gS_tt,gS_ff,gS_tf,gS_ft,gS_u,gP_tt,gP_ff,gP_tf,gP_ft,gP_u,ptrV_eq,slcV_eq,cells_agg,cells_int,cells_bool,cells_ptr,cells_slice,oc_int,oc_bool,oc_slice,oc_ptr,rd1_set,rd1_ne,rdn_set,rdn_ne,Heap.set_same,set_ne,Heap.set_set,set_up,set_up2,set_up3,putAt,ceq,List.map_cons,List.map_nil,List.length_cons,List.length_nil,List.length_set,List.cons_append,List.nil_append,List.append_nil,List.replicate,List.size_toArray,List.all_cons,List.all_nil,Bool.and_self,Bool.and_true,List.drop_zero,List.drop_succ_cons,List.take_succ_cons,List.take_zero,List.set_cons_zero,List.set_cons_succ,List.getElem?_cons_zero,List.getElem?_cons_succ,Option.map_some,Option.map_none,ne_eq,not_false_eq_true,not_true_eq_false,gt_iff_lt,ge_iff_le,Int.one_mul,Nat.zero_add,Nat.zero_mul,Bool.not_true,Bool.not_false,Bool.false_eq_true,Bool.and_false,Bool.false_and,Bool.true_and, *]))
          exact Round_p (k + 1, _, _, _, VtR.mk (betw y.toVt x.toVt (k : Nat)) a2 c2, y) ⟨hlt, ((gF.set p3 q3).set p4 q4.2).set p5 q5.2.2, (by simp only [Heap.set_same, set_ne, ne_eq, not_false_eq_true, *] <;> rfl), (Heap.set_other _ _ q5.1.2).trans at1, at1, betw_at hn2 hG (by (repeat' (first | exact KeepT.refl | assumption | (refine KeepT.known (by first | (simp only [Heap.set_same, set_ne, ne_eq, not_false_eq_true, *] <;> rfl) | fail) ?_) | (refine KeepT.set ?_ (by simp only [Heap.set_same, set_ne, ne_eq, not_false_eq_true, *] <;> rfl) (Nat.ne_of_beq_eq_false rfl)) | (refine KeepT.fresh ?_ (by first | (simp only [*] <;> done) | (simp [set_none', Heap.set_same, set_ne, *] <;> done) | fail)) | (refine KeepT.trans ?_ (by assumption)) | (refine KeepT.of (w0 := w0) ?_; first | exact Grow.refl _ | assumption)))), hyA.keep ((KeepT.of hg2).trans (by (repeat' (first | exact KeepT.refl | assumption | (refine KeepT.known (by first | (simp only [Heap.set_same, set_ne, ne_eq, not_false_eq_true, *] <;> rfl) | fail) ?_) | (refine KeepT.set ?_ (by simp only [Heap.set_same, set_ne, ne_eq, not_false_eq_true, *] <;> rfl) (Nat.ne_of_beq_eq_false rfl)) | (refine KeepT.fresh ?_ (by first | (simp only [*] <;> done) | (simp [set_none', Heap.set_same, set_ne, *] <;> done) | fail)) | (refine KeepT.trans ?_ (by assumption)) | (refine KeepT.of (w0 := w0) ?_; first | exact Grow.refl _ | assumption))))), hlen, hyl, hl2⟩ (by simp only; omega) rfl rfl
        · rename_i hc1
          have m3 := hg2.some (b := b3) (by simp only [Heap.set_same, set_ne, ne_eq, not_false_eq_true, *] <;> rfl)
          have m4 := hg2.some (b := b4) (by simp only [Heap.set_same, set_ne, ne_eq, not_false_eq_true, *] <;> rfl)
          have m5 := hg2.some (b := b5) (by simp only [Heap.set_same, set_ne, ne_eq, not_false_eq_true, *] <;> rfl)
          rw [← root3 k3 k4 k5] at hn2 hg2
          have gF := hG.trans hg2
          have hl2 : lineN (k + 1) A.toVt B.toVt = some (x.toVt, betw x.toVt y.toVt (k : Nat)) := by rw [hl1]; simp [lineC, hc1, hc]
          have hlen : Keep ((betw x.toVt y.toVt (k : Nat)).l.length = A.l.length) := betw_len (m := A.l.length) hxl hyl
          clear bt1 bt2 d1 d2 hl1
          rw [root3 m3 m4 m5]
          (all_goals (refine (fun f : True → _ => f trivial) ?_)); repeat' ((first | (with_reducible refine fun _ : True => ?_) | (refine AllocQ_i ?_; intro bk hb0 hbk; (try simp only [set_none'] at hbk); (try (first | have hbn := Grow.none (by assumption) hbk | have hbn := Grow.none (by assumption) hbk.2 | have hbn := Grow.none (by assumption) hbk.2.2 | have hbn := Grow.none (by assumption) hbk.2.2.2 | have hbn := Grow.none (by assumption) hbk.2.2.2.2 | have hbn := Grow.none (by assumption) hbk.2.2.2.2.2)); (try simp only [set_none'] at hbn); (try (first | have hbm := Grow.none (by assumption) hbn | have hbm := Grow.none (by assumption) hbn.2 | have hbm := Grow.none (by assumption) hbn.2.2 | have hbm := Grow.none (by assumption) hbn.2.2.2 | have hbm := Grow.none (by assumption) hbn.2.2.2.2 | have hbm := Grow.none (by assumption) hbn.2.2.2.2.2)); (try simp only [set_none'] at hbm)) | ((first | refine condS_i ?_ ?_ | refine pick_i ?_ ?_ | refine gS_it ?_ ?_ | refine gS_if ?_ ?_ | refine gP_it ?_ ?_ | refine gP_if ?_ ?_) <;> (intro hc; try simp only [Int.reduceLE,Int.reduceLT,Int.reduceEq,and_self,not_true_eq_false,not_false_eq_true,and_true,true_and,false_and,and_false,true_or,or_true,false_or,or_false,decide_eq_true_eq,decide_eq_false_iff_not,beq_iff_eq,beq_eq_false_iff_ne,bne_iff_ne,ne_eq,gt_iff_lt,ge_iff_le,Bool.not_eq_true,Bool.not_eq_false,Bool.not_eq_true',Bool.not_eq_false',Bool.not_eq_eq_eq_not,Bool.not_true,Bool.not_false] at hc)) | (refine KP_i (by (repeat' (first | exact Heap.Le.refl _ | (refine Le_known (by first | (simp only [Heap.set_same, set_ne, ne_eq, not_false_eq_true, *] <;> rfl) | fail) ?_) | (refine Le_fresh (by first | (simp only [*] <;> done) | (simp [set_none', Heap.set_same, set_ne, *] <;> done) | fail) ?_) | (refine Heap.Le.trans ?_ (Grow.le (by assumption)))))) ?_) | (with_reducible refine And.intro ?_ ?_)) <;> (try simp only [Sh,Si,Sl,Bu,Bb,Bd,Bc,Bw,Bn,Int.reduceAdd,Int.reduceSub,Int.reduceMul,Int.reduceTDiv,Int.reduceTMod,Int.reduceMod,Int.reduceDiv,Nat.reduceLT,Nat.reduceEqDiff,decide_true,decide_false,Sa,Sb,Sc,Sd,Se,Sf,Sg,true_and,and_true,and_self,eq_self,b_i64,b_i32,b_u64,b_u32,b_u8,Int.reduceLE,Int.reduceLT,Int.reduceToNat,Int.reduceNeg,Int.reduceEq,Nat.reduceLeDiff,Nat.reducePow,Int.reducePow,Nat.min_def,reduceIte,Nat.reduceSub,Nat.reduceAdd,Nat.reduceMul,KP_same,KP_f,condS_t,condS_f,pick_t,pick_f,gS_tt,gS_ff,gS_tf,gS_ft,gS_u,gP_tt,gP_ff,gP_tf,gP_ft,gP_u,ptrV_eq,slcV_eq,cells_agg,cells_int,cells_bool,cells_ptr,cells_slice,oc_int,oc_bool,oc_slice,oc_ptr,rd1_set,rd1_ne,rdn_set,rdn_ne,Heap.set_same,set_ne,Heap.set_set,set_up,set_up2,set_up3,putAt,ceq,List.map_cons,List.map_nil,List.length_cons,List.length_nil,List.length_set,List.cons_append,List.nil_append,List.append_nil,List.replicate,List.size_toArray,List.all_cons,List.all_nil,Bool.and_self,Bool.and_true,List.drop_zero,List.drop_succ_cons,List.take_succ_cons,List.take_zero,List.set_cons_zero,List.set_cons_succ,List.getElem?_cons_zero,List.getElem?_cons_succ,Option.map_some,Option.map_none,ne_eq,not_false_eq_true,not_true_eq_false,gt_iff_lt,ge_iff_le,Int.one_mul,Nat.zero_add,Nat.zero_mul,Bool.not_true,Bool.not_false,Bool.false_eq_true,Bool.and_false,Bool.false_and,Bool.true_and, *]))
          exact Round_p (k + 1, _, _, _, x, VtR.mk (betw x.toVt y.toVt (k : Nat)) a2 c2) ⟨hlt, ((gF.set p3 q3).set p4 q4.2).set p5 q5.2.2, (by simp only [Heap.set_same, set_ne, ne_eq, not_false_eq_true, *] <;> rfl), (Heap.set_other _ _ q5.1.2).trans at1, at1, hxA.keep ((KeepT.of hg2).trans (by (repeat' (first | exact KeepT.refl | assumption | (refine KeepT.known (by first | (simp only [Heap.set_same, set_ne, ne_eq, not_false_eq_true, *] <;> rfl) | fail) ?_) | (refine KeepT.set ?_ (by simp only [Heap.set_same, set_ne, ne_eq, not_false_eq_true, *] <;> rfl) (Nat.ne_of_beq_eq_false rfl)) | (refine KeepT.fresh ?_ (by first | (simp only [*] <;> done) | (simp [set_none', Heap.set_same, set_ne, *] <;> done) | fail)) | (refine KeepT.trans ?_ (by assumption)) | (refine KeepT.of (w0 := w0) ?_; first | exact Grow.refl _ | assumption))))), betw_at hn2 hG (by (repeat' (first | exact KeepT.refl | assumption | (refine KeepT.known (by first | (simp only [Heap.set_same, set_ne, ne_eq, not_false_eq_true, *] <;> rfl) | fail) ?_) | (refine KeepT.set ?_ (by simp only [Heap.set_same, set_ne, ne_eq, not_false_eq_true, *] <;> rfl) (Nat.ne_of_beq_eq_false rfl)) | (refine KeepT.fresh ?_ (by first | (simp only [*] <;> done) | (simp [set_none', Heap.set_same, set_ne, *] <;> done) | fail)) | (refine KeepT.trans ?_ (by assumption)) | (refine KeepT.of (w0 := w0) ?_; first | exact Grow.refl _ | assumption)))), hxl, hlen, hl2⟩ (by simp only; omega) rfl rfl
        · rename_i hc1
          have hl2 : lineN (k + 1) A.toVt B.toVt = some (x.toVt, y.toVt) := by rw [hl1]; simp [lineC, hc1, hc]
          rw [← root3 k3 k4 k5]
          exact Round_p (k + 1, _, _, _, x, y) ⟨hlt, hG, k3, k4, k5, hxA, hyA, hxl, hyl, hl2⟩ (by simp only; omega) rfl rfl
      · obtain rfl : k = 7 := by omega
        have d1 : ∀ (G : Heap) (K : Value → Heap → Prop), K (.int .i32 (dist x.p 0)) G → HCalls Try.prog w0 34 [x.v, .int .i64 0] G K := fun G K hk => c_distance x _ hx.p hk
        have d2 : ∀ (G : Heap) (K : Value → Heap → Prop), K (.int .i32 (dist y.p 0)) G → HCalls Try.prog w0 34 [y.v, .int .i64 0] G K := fun G K hk => c_distance y _ hy.p hk
        have cW1 : ∀ (F : Heap) (K : Value → Heap → Prop), Grow w0 G F → (∀ a' cap' H', VsNew w0 F H' a' cap' x.l → Grow w0 F H' → K (WnR.mk (winA v x.toVt) a' cap').v H') → HCalls Try.prog w0 35 [v.v, x.v] F K := fun F K g hk => c_window v x hv (hx.grow g) hk
        have cW2 : ∀ (F : Heap) (K : Value → Heap → Prop), Grow w0 G F → (∀ a' cap' H', VsNew w0 F H' a' cap' y.l → Grow w0 F H' → K (WnR.mk (winA v y.toVt) a' cap').v H') → HCalls Try.prog w0 35 [v.v, y.v] F K := fun F K g hk => c_window v y hv (hy.grow g) hk
        have hla : lineA v A.toVt B.toVt = if dist x.p 0 < 0 ∨ dist y.p 0 < 0 then [] else [winA v x.toVt, winA v y.toVt] := by unfold lineA; rw [hln]
        rw [hla] at h1
        unfold VtR.v at d1 d2
        unfold VtR.v Vw.v WnR.v at cW1 cW2
        unfold VtR.row at k4 k5
        clear hln hla hyl hxl
        rw [root3 k3 k4 k5]
        (all_goals (refine (fun f : True → _ => f trivial) ?_)); repeat' ((first | (with_reducible refine fun _ : True => ?_) | refine d1 _ _ ?_ | refine d2 _ _ ?_ | refine cW1 _ _ (by (repeat' (first | exact Grow.refl _ | assumption | (refine Grow_known (by first | (simp only [Heap.set_same, set_ne, ne_eq, not_false_eq_true, *] <;> rfl) | fail) ?_) | (refine Grow.set ?_ (by assumption) (by first | (simp only [*] <;> done) | (simp [set_none', Heap.set_same, set_ne, *] <;> done) | fail)) | (refine Grow.trans ?_ (by assumption))))) (fun a2 c2 G2 hn2 hg2 => ?_)  | refine cW2 _ _ (Grow.trans (by (repeat' (first | exact Grow.refl _ | assumption | (refine Grow_known (by first | (simp only [Heap.set_same, set_ne, ne_eq, not_false_eq_true, *] <;> rfl) | fail) ?_) | (refine Grow.set ?_ (by assumption) (by first | (simp only [*] <;> done) | (simp [set_none', Heap.set_same, set_ne, *] <;> done) | fail)) | (refine Grow.trans ?_ (by assumption))))) hg2) (fun a3 c3 G3 hn3 hg3 => ?_)  | (refine AllocQ_i ?_; intro bk hb0 hbk; (try simp only [set_none'] at hbk); (try (first | have hbn := Grow.none (by assumption) hbk | have hbn := Grow.none (by assumption) hbk.2 | have hbn := Grow.none (by assumption) hbk.2.2 | have hbn := Grow.none (by assumption) hbk.2.2.2 | have hbn := Grow.none (by assumption) hbk.2.2.2.2 | have hbn := Grow.none (by assumption) hbk.2.2.2.2.2)); (try simp only [set_none'] at hbn); (try (first | have hbm := Grow.none (by assumption) hbn | have hbm := Grow.none (by assumption) hbn.2 | have hbm := Grow.none (by assumption) hbn.2.2 | have hbm := Grow.none (by assumption) hbn.2.2.2 | have hbm := Grow.none (by assumption) hbn.2.2.2.2 | have hbm := Grow.none (by assumption) hbn.2.2.2.2.2)); (try simp only [set_none'] at hbm)) | ((first | refine condS_i ?_ ?_ | refine pick_i ?_ ?_ | refine gS_it ?_ ?_ | refine gS_if ?_ ?_ | refine gP_it ?_ ?_ | refine gP_if ?_ ?_) <;> (intro hc; try simp only [Int.reduceLE,Int.reduceLT,Int.reduceEq,and_self,not_true_eq_false,not_false_eq_true,and_true,true_and,false_and,and_false,true_or,or_true,false_or,or_false,decide_eq_true_eq,decide_eq_false_iff_not,beq_iff_eq,beq_eq_false_iff_ne,bne_iff_ne,ne_eq,gt_iff_lt,ge_iff_le,Bool.not_eq_true,Bool.not_eq_false,Bool.not_eq_true',Bool.not_eq_false',Bool.not_eq_eq_eq_not,Bool.not_true,Bool.not_false] at hc)) | (refine KP_i (by (repeat' (first | exact Heap.Le.refl _ | (refine Le_known (by first | (simp only [Heap.set_same, set_ne, ne_eq, not_false_eq_true, *] <;> rfl) | fail) ?_) | (refine Le_fresh (by first | (simp only [*] <;> done) | (simp [set_none', Heap.set_same, set_ne, *] <;> done) | fail) ?_) | (refine Heap.Le.trans ?_ (Grow.le (by assumption)))))) ?_) | (with_reducible refine And.intro ?_ ?_)) <;> (try simp only [Sh,Si,Sl,Bu,Bb,Bd,Bc,Bw,Bn,Int.reduceAdd,Int.reduceSub,Int.reduceMul,Int.reduceTDiv,Int.reduceTMod,Int.reduceMod,Int.reduceDiv,Nat.reduceLT,Nat.reduceEqDiff,decide_true,decide_false,Sa,Sb,Sc,Sd,Se,Sf,Sg,true_and,and_true,and_self,eq_self,b_i64,b_i32,b_u64,b_u32,b_u8,Int.reduceLE,Int.reduceLT,Int.reduceToNat,Int.reduceNeg,Int.reduceEq,Nat.reduceLeDiff,Nat.reducePow,Int.reducePow,Nat.min_def,reduceIte,Nat.reduceSub,Nat.reduceAdd,Nat.reduceMul,KP_same,KP_f,condS_t,condS_f,pick_t,pick_f,gS_tt,gS_ff,gS_tf,gS_ft,gS_u,gP_tt,gP_ff,gP_tf,gP_ft,gP_u,ptrV_eq,slcV_eq,cells_agg,cells_int,cells_bool,cells_ptr,cells_slice,oc_int,oc_bool,oc_slice,oc_ptr,rd1_set,rd1_ne,rdn_set,rdn_ne,Heap.set_same,set_ne,Heap.set_set,set_up,set_up2,set_up3,putAt,ceq,List.map_cons,List.map_nil,List.length_cons,List.length_nil,List.length_set,List.cons_append,List.nil_append,List.append_nil,List.replicate,List.size_toArray,List.all_cons,List.all_nil,Bool.and_self,Bool.and_true,List.drop_zero,List.drop_succ_cons,List.take_succ_cons,List.take_zero,List.set_cons_zero,List.set_cons_succ,List.getElem?_cons_zero,List.getElem?_cons_succ,Option.map_some,Option.map_none,ne_eq,not_false_eq_true,not_true_eq_false,gt_iff_lt,ge_iff_le,Int.one_mul,Nat.zero_add,Nat.zero_mul,Bool.not_true,Bool.not_false,Bool.false_eq_true,Bool.and_false,Bool.false_and,Bool.true_and, *]))
        · rename_i hc1
          rw [← root3 k3 k4 k5]
          exact Fin_mk (Heap.Le.refl _) (h1 none [] G (by rw [if_pos (.inr hc)]; rfl) RO.nil hG)
        · rename_i hc1
          have nh : ¬ (dist x.p 0 < 0 ∨ dist y.p 0 < 0) := fun hh => hh.elim hc1 hc
          have gb := (Grow.refl (w0 := w0) G3).set (x := ⟨winT.ty, (WnR.mk (winA v x.toVt) a2 c2).row ++ (WnR.mk (winA v y.toVt) a3 c3).row⟩) hb0 hbk
          rw [← root3 k3 k4 k5] at hn2 hg2
          exact Fin_mk (Heap.Le.refl _) (h1 (some ⟨bk, 0, none⟩) [WnR.mk (winA v x.toVt) a2 c2, WnR.mk (winA v y.toVt) a3 c3] _ (by rw [if_neg nh]; rfl) (wins2 at1 (hn2.ok.grow (hg3.trans gb)) (hn3.ok.grow gb)) (hG.trans (hg2.trans (hg3.trans gb))))
        · rw [← root3 k3 k4 k5]
          exact Fin_mk (Heap.Le.refl _) (h1 none [] G (by rw [if_pos (.inl hc)]; rfl) RO.nil hG)
    · have h2 := h2 fun h' => hAl h'.2
      clear h1
      have ca : ∀ (b : Nat) (t : TypeId) (G : Heap) (K : Value → Heap → Prop), Grow w0 H G → G b = some ⟨t, A.row ++ B.row⟩ → K (.bool false) G → HCalls Try.prog w0 32 [.slice (some ⟨b, 0, none⟩) 2 2] G K := fun b t G K g e hk => c_alike (some ⟨b, 0, none⟩) 2 [A, B] (hall G b t g e) (fun hh => (hAl hh).elim) (fun _ => hk)
      unfold VtR.v Vw.v at *
      unfold VtR.row at ca
      refine HL.hc k27 2000 ?_; unfold M27
      (all_goals (refine (fun f : True → _ => f trivial) ?_)); repeat' ((first | (with_reducible refine fun _ : True => ?_) | refine cR _ _ ?_ | refine ca _ _ _ _ (by (repeat' (first | exact Grow.refl _ | assumption | (refine Grow_known (by first | (simp only [Heap.set_same, set_ne, ne_eq, not_false_eq_true, *] <;> rfl) | fail) ?_) | (refine Grow.set ?_ (by assumption) (by first | (simp only [*] <;> done) | (simp [set_none', Heap.set_same, set_ne, *] <;> done) | fail)) | (refine Grow.trans ?_ (by assumption))))) (by simp only [Heap.set_same, set_ne, ne_eq, not_false_eq_true, *] <;> rfl) ?_ | (refine AllocQ_i ?_; intro bk hb0 hbk; (try simp only [set_none'] at hbk); (try (first | have hbn := Grow.none (by assumption) hbk | have hbn := Grow.none (by assumption) hbk.2 | have hbn := Grow.none (by assumption) hbk.2.2 | have hbn := Grow.none (by assumption) hbk.2.2.2 | have hbn := Grow.none (by assumption) hbk.2.2.2.2 | have hbn := Grow.none (by assumption) hbk.2.2.2.2.2)); (try simp only [set_none'] at hbn); (try (first | have hbm := Grow.none (by assumption) hbn | have hbm := Grow.none (by assumption) hbn.2 | have hbm := Grow.none (by assumption) hbn.2.2 | have hbm := Grow.none (by assumption) hbn.2.2.2 | have hbm := Grow.none (by assumption) hbn.2.2.2.2 | have hbm := Grow.none (by assumption) hbn.2.2.2.2.2)); (try simp only [set_none'] at hbm)) | ((first | refine condS_i ?_ ?_ | refine pick_i ?_ ?_ | refine gS_it ?_ ?_ | refine gS_if ?_ ?_ | refine gP_it ?_ ?_ | refine gP_if ?_ ?_) <;> (intro hc; try simp only [Int.reduceLE,Int.reduceLT,Int.reduceEq,and_self,not_true_eq_false,not_false_eq_true,and_true,true_and,false_and,and_false,true_or,or_true,false_or,or_false,decide_eq_true_eq,decide_eq_false_iff_not,beq_iff_eq,beq_eq_false_iff_ne,bne_iff_ne,ne_eq,gt_iff_lt,ge_iff_le,Bool.not_eq_true,Bool.not_eq_false,Bool.not_eq_true',Bool.not_eq_false',Bool.not_eq_eq_eq_not,Bool.not_true,Bool.not_false] at hc)) | (refine KP_i (by (repeat' (first | exact Heap.Le.refl _ | (refine Le_known (by first | (simp only [Heap.set_same, set_ne, ne_eq, not_false_eq_true, *] <;> rfl) | fail) ?_) | (refine Le_fresh (by first | (simp only [*] <;> done) | (simp [set_none', Heap.set_same, set_ne, *] <;> done) | fail) ?_) | (refine Heap.Le.trans ?_ (Grow.le (by assumption)))))) ?_) | (with_reducible refine And.intro ?_ ?_)) <;> (try simp only [Sh,Si,Sl,Bu,Bb,Bd,Bc,Bw,Bn,Int.reduceAdd,Int.reduceSub,Int.reduceMul,Int.reduceTDiv,Int.reduceTMod,Int.reduceMod,Int.reduceDiv,Nat.reduceLT,Nat.reduceEqDiff,decide_true,decide_false,Sa,Sb,Sc,Sd,Se,Sf,Sg,true_and,and_true,and_self,eq_self,b_i64,b_i32,b_u64,b_u32,b_u8,Int.reduceLE,Int.reduceLT,Int.reduceToNat,Int.reduceNeg,Int.reduceEq,Nat.reduceLeDiff,Nat.reducePow,Int.reducePow,Nat.min_def,reduceIte,Nat.reduceSub,Nat.reduceAdd,Nat.reduceMul,KP_same,KP_f,condS_t,condS_f,pick_t,pick_f,gS_tt,gS_ff,gS_tf,gS_ft,gS_u,gP_tt,gP_ff,gP_tf,gP_ft,gP_u,ptrV_eq,slcV_eq,cells_agg,cells_int,cells_bool,cells_ptr,cells_slice,oc_int,oc_bool,oc_slice,oc_ptr,rd1_set,rd1_ne,rdn_set,rdn_ne,Heap.set_same,set_ne,Heap.set_set,set_up,set_up2,set_up3,putAt,ceq,List.map_cons,List.map_nil,List.length_cons,List.length_nil,List.length_set,List.cons_append,List.nil_append,List.append_nil,List.replicate,List.size_toArray,List.all_cons,List.all_nil,Bool.and_self,Bool.and_true,List.drop_zero,List.drop_succ_cons,List.take_succ_cons,List.take_zero,List.set_cons_zero,List.set_cons_succ,List.getElem?_cons_zero,List.getElem?_cons_succ,Option.map_some,Option.map_none,ne_eq,not_false_eq_true,not_true_eq_false,gt_iff_lt,ge_iff_le,Int.one_mul,Nat.zero_add,Nat.zero_mul,Bool.not_true,Bool.not_false,Bool.false_eq_true,Bool.and_false,Bool.false_and,Bool.true_and, *]))
      exact Fin_mk (by (repeat' (first | exact Heap.Le.refl _ | (refine Le_known (by first | (simp only [Heap.set_same, set_ne, ne_eq, not_false_eq_true, *] <;> rfl) | fail) ?_) | (refine Le_fresh (by first | (simp only [*] <;> done) | (simp [set_none', Heap.set_same, set_ne, *] <;> done) | fail) ?_) | (refine Heap.Le.trans ?_ (Grow.le (by assumption)))))) h2
  · have h2 := h2 fun h' => hv h'.1
    unfold VtR.v Vw.v at *
    clear h1
    refine HL.hc k27 2000 ?_; unfold M27
    (all_goals (refine (fun f : True → _ => f trivial) ?_)); repeat' ((first | (with_reducible refine fun _ : True => ?_) | refine cR _ _ ?_ | (refine AllocQ_i ?_; intro bk hb0 hbk; (try simp only [set_none'] at hbk); (try (first | have hbn := Grow.none (by assumption) hbk | have hbn := Grow.none (by assumption) hbk.2 | have hbn := Grow.none (by assumption) hbk.2.2 | have hbn := Grow.none (by assumption) hbk.2.2.2 | have hbn := Grow.none (by assumption) hbk.2.2.2.2 | have hbn := Grow.none (by assumption) hbk.2.2.2.2.2)); (try simp only [set_none'] at hbn); (try (first | have hbm := Grow.none (by assumption) hbn | have hbm := Grow.none (by assumption) hbn.2 | have hbm := Grow.none (by assumption) hbn.2.2 | have hbm := Grow.none (by assumption) hbn.2.2.2 | have hbm := Grow.none (by assumption) hbn.2.2.2.2 | have hbm := Grow.none (by assumption) hbn.2.2.2.2.2)); (try simp only [set_none'] at hbm)) | ((first | refine condS_i ?_ ?_ | refine pick_i ?_ ?_ | refine gS_it ?_ ?_ | refine gS_if ?_ ?_ | refine gP_it ?_ ?_ | refine gP_if ?_ ?_) <;> (intro hc; try simp only [Int.reduceLE,Int.reduceLT,Int.reduceEq,and_self,not_true_eq_false,not_false_eq_true,and_true,true_and,false_and,and_false,true_or,or_true,false_or,or_false,decide_eq_true_eq,decide_eq_false_iff_not,beq_iff_eq,beq_eq_false_iff_ne,bne_iff_ne,ne_eq,gt_iff_lt,ge_iff_le,Bool.not_eq_true,Bool.not_eq_false,Bool.not_eq_true',Bool.not_eq_false',Bool.not_eq_eq_eq_not,Bool.not_true,Bool.not_false] at hc)) | (refine KP_i (by (repeat' (first | exact Heap.Le.refl _ | (refine Le_known (by first | (simp only [Heap.set_same, set_ne, ne_eq, not_false_eq_true, *] <;> rfl) | fail) ?_) | (refine Le_fresh (by first | (simp only [*] <;> done) | (simp [set_none', Heap.set_same, set_ne, *] <;> done) | fail) ?_) | (refine Heap.Le.trans ?_ (Grow.le (by assumption)))))) ?_) | (with_reducible refine And.intro ?_ ?_)) <;> (try simp only [Sh,Si,Sl,Bu,Bb,Bd,Bc,Bw,Bn,Int.reduceAdd,Int.reduceSub,Int.reduceMul,Int.reduceTDiv,Int.reduceTMod,Int.reduceMod,Int.reduceDiv,Nat.reduceLT,Nat.reduceEqDiff,decide_true,decide_false,Sa,Sb,Sc,Sd,Se,Sf,Sg,true_and,and_true,and_self,eq_self,b_i64,b_i32,b_u64,b_u32,b_u8,Int.reduceLE,Int.reduceLT,Int.reduceToNat,Int.reduceNeg,Int.reduceEq,Nat.reduceLeDiff,Nat.reducePow,Int.reducePow,Nat.min_def,reduceIte,Nat.reduceSub,Nat.reduceAdd,Nat.reduceMul,KP_same,KP_f,condS_t,condS_f,pick_t,pick_f,gS_tt,gS_ff,gS_tf,gS_ft,gS_u,gP_tt,gP_ff,gP_tf,gP_ft,gP_u,ptrV_eq,slcV_eq,cells_agg,cells_int,cells_bool,cells_ptr,cells_slice,oc_int,oc_bool,oc_slice,oc_ptr,rd1_set,rd1_ne,rdn_set,rdn_ne,Heap.set_same,set_ne,Heap.set_set,set_up,set_up2,set_up3,putAt,ceq,List.map_cons,List.map_nil,List.length_cons,List.length_nil,List.length_set,List.cons_append,List.nil_append,List.append_nil,List.replicate,List.size_toArray,List.all_cons,List.all_nil,Bool.and_self,Bool.and_true,List.drop_zero,List.drop_succ_cons,List.take_succ_cons,List.take_zero,List.set_cons_zero,List.set_cons_succ,List.getElem?_cons_zero,List.getElem?_cons_succ,Option.map_some,Option.map_none,ne_eq,not_false_eq_true,not_true_eq_false,gt_iff_lt,ge_iff_le,Int.one_mul,Nat.zero_add,Nat.zero_mul,Bool.not_true,Bool.not_false,Bool.false_eq_true,Bool.and_false,Bool.false_and,Bool.true_and, *]))
    exact Fin_mk (by (repeat' (first | exact Heap.Le.refl _ | (refine Le_known (by first | (simp only [Heap.set_same, set_ne, ne_eq, not_false_eq_true, *] <;> rfl) | fail) ?_) | (refine Le_fresh (by first | (simp only [*] <;> done) | (simp [set_none', Heap.set_same, set_ne, *] <;> done) | fail) ?_) | (refine Heap.Le.trans ?_ (Grow.le (by assumption)))))) h2
end Go.Proofs.Ytofgiimfempcjaa
