/- The statement on what is cut lying in the window, as a call (layer 21). -/
import Derived.Test.YtofgiimfempcjaaClv
set_option linter.unusedSimpArgs false
set_option linter.unusedVariables false
set_option maxRecDepth 100000
set_option maxHeartbeats 8000000
namespace Go.Proofs.Ytofgiimfempcjaa
open Go Go.HL Go.RowKit Pb
variable {w0 : World} {H : Heap} {K : Value → Heap → Prop}

/-- A row that is full, or the call's own. -/
def Full (w0 : World) (H G : Heap) (a : Option Addr) (cap : Nat) (ws : List WnR) : Prop := RB winT w0 H G a cap ws ∨ (cap = ws.length ∧ RO winT w0 H a cap ws)
theorem Full.ro {G : Heap} {a : Option Addr} {cap : Nat} {ws : List WnR} (h : Full w0 H G a cap ws) (g : Grow w0 H G) : RO winT w0 G a cap ws := h.elim (fun h => h.ro g) (fun h => h.2.grow g)
theorem Full.grow {G G' : Heap} {a : Option Addr} {cap : Nat} {ws : List WnR} (h : Full w0 H G a cap ws) (g : Grow w0 G G') : Full w0 H G' a cap ws := h.elim (fun h => .inl (h.grow g)) .inr
theorem app_full {G : Heap} {a : Option Addr} {cap : Nat} {os ns : List WnR} {xa : Option Addr} {xc : Nat} {zero : List Value} (hB : Full w0 H G a cap os) (hz : zero.length = 6) (hx : srd w0 G xa (ns.length * 6) = some (ns.map WnR.row).flatten) (hn : 0 < ns.length)
    (hns : ∀ y ∈ ns, VsAt w0 H G y.a y.cap y.l) (hg : Grow w0 H G) (hm : os.length + ns.length ≤ 1000000)
    (h : ∀ a' cap' os' G', os' = os ++ ns → Full w0 H G' a' cap' os' → Grow w0 H G' → K (.slice a' os'.length cap') G') : appQ w0 G K 44 6 56 zero (.slice a os.length cap) (.slice xa ns.length xc) := by
  rcases hB with hB | ⟨hc, hO⟩
  · exact app_rb (R := winT) hB hz hx (fun y hy v hv => by rw [List.mem_singleton.1 hv]; exact hns y hy) hg hm (by decide) (fun a' c' os' G' e hB' hg' => h a' c' os' G' e (.inl hB') hg')
  · have hold : srd w0 G a (os.length * 6) = some (os.map WnR.row).flatten := by
      have := (hO.at_.grow hg).srd
      rw [winT.flat] at this
      exact this
    unfold appQ
    simp only [hx, optQ, hold]
    refine ⟨by omega, by omega, fun hle => by omega, fun _ => ?_⟩
    intro c hc' hc2 b hb hnb
    have gk : Grow w0 G (G.set b ⟨winT.ty, (os.map WnR.row).flatten ++ (ns.map WnR.row).flatten ++ zeroL zero (c - (os.length + ns.length))⟩) := (Grow.refl G).set hb hnb
    have h := h (some ⟨b, 0, none⟩) c (os ++ ns) _ rfl (.inl ⟨.inl ⟨b, zeroL zero (c - (os.length + ns.length)), rfl, hb, hg.none hnb, by rw [List.map_append, List.flatten_append]; exact Heap.set_same _ _ _, ?_⟩, by rw [List.length_append]; exact hc', fun y hy v hv => ?_⟩) (hg.trans gk)
    · rw [List.length_append] at h
      exact h
    · rw [winT.flat, zeroL_len, hz, List.length_append, ← Nat.add_mul]; congr 1; omega
    · rcases List.mem_append.1 hy with h' | h'
      · have := hO.ok y h' v hv
        exact ⟨.inl this.at_, this.lc, this.lm, this.lr, this.v⟩
      · rw [List.mem_singleton.1 hv]
        exact (hns y h').grow gk
/- paintboxlaw21 ClipWithin -/
def M8 : MC :=
  .seq (.reg [⟨(some 2), .box 24 (.tmp 0), none⟩,
     ⟨(some 3), .box 31 (.tmp 1), none⟩,
     ⟨(some 4), .mv (.const (.bool false)), none⟩])
  (.seq (.seq (.reg [⟨(some 14), .call 10 [], none⟩,
       ⟨(some 15), .un .not (.tmp 14), none⟩])
    (.cond (.tmp 15)
     (.seq (.reg [⟨(some 4), .mv (.const (.bool false)), none⟩])
      (.ret))
     (.skip)))
   (.seq (.reg [⟨(some 17), .ldn 6 (.tmp 2), none⟩,
       ⟨(some 18), .fa 0 (.tmp 3), none⟩,
       ⟨(some 19), .ldn 6 (.tmp 18), none⟩,
       ⟨(some 20), .fa 6 (.tmp 3), none⟩,
       ⟨(some 21), .ldn 6 (.tmp 20), none⟩,
       ⟨(some 22), .fa 12 (.tmp 3), none⟩,
       ⟨(some 23), .ldn 6 (.tmp 22), none⟩,
       ⟨(some 24), .call 11 [(.tmp 17), (.tmp 19), (.tmp 21), (.tmp 23)], none⟩,
       ⟨(some 16), .mv (.tmp 24), none⟩,
       ⟨(some 25), .ext 0 (.tmp 16), none⟩,
       ⟨(some 26), .ext 1 (.tmp 16), none⟩,
       ⟨(some 5), .mv (.tmp 25), none⟩,
       ⟨(some 6), .mv (.tmp 26), none⟩])
    (.seq (.reg [⟨(some 28), .ldn 6 (.tmp 2), none⟩,
        ⟨(some 29), .fa 0 (.tmp 3), none⟩,
        ⟨(some 30), .ldn 6 (.tmp 29), none⟩,
        ⟨(some 31), .fa 6 (.tmp 3), none⟩,
        ⟨(some 32), .ldn 6 (.tmp 31), none⟩,
        ⟨(some 33), .call 27 [(.tmp 28), (.tmp 30), (.tmp 32)], none⟩,
        ⟨(some 27), .mv (.tmp 33), none⟩,
        ⟨(some 34), .ext 0 (.tmp 27), none⟩,
        ⟨(some 35), .ext 1 (.tmp 27), none⟩,
        ⟨(some 7), .mv (.tmp 34), none⟩,
        ⟨(some 8), .mv (.tmp 35), none⟩])
     (.seq (.seq (.reg [⟨(some 36), .mv (.tmp 6), none⟩,
          ⟨(some 37), .bin .neq (.tmp 36) (.const (.int .i64 0)), none⟩,
          ⟨(some 38), .mv (.tmp 37), none⟩,
          ⟨(some 39), .mv (.tmp 8), (some (38, false))⟩,
          ⟨(some 40), .bin .neq (.tmp 39) (.const (.int .i64 0)), (some (38, false))⟩,
          ⟨(some 41), .pick (.tmp 38) (.const (.bool true)) (.tmp 40), none⟩])
       (.cond (.tmp 41)
        (.seq (.reg [⟨(some 42), .mv (.tmp 5), none⟩,
            ⟨(some 43), .len (.tmp 42), none⟩,
            ⟨(some 44), .bin .eql (.tmp 43) (.const (.int .i64 0)), none⟩,
            ⟨(some 45), .mv (.tmp 44), none⟩,
            ⟨(some 46), .mv (.tmp 6), (some (45, true))⟩,
            ⟨(some 47), .bin .neq (.tmp 46) (.const (.int .i64 0)), (some (45, true))⟩,
            ⟨(some 48), .mv (.tmp 47), (some (45, true))⟩,
            ⟨(some 49), .mv (.tmp 8), (some (48, false))⟩,
            ⟨(some 50), .bin .eql (.tmp 49) (.const (.int .i64 0)), (some (48, false))⟩,
            ⟨(some 51), .pick (.tmp 48) (.const (.bool true)) (.tmp 50), (some (45, true))⟩,
            ⟨(some 52), .pick (.tmp 45) (.tmp 51) (.const (.bool false)), none⟩,
            ⟨(some 4), .mv (.tmp 52), none⟩])
         (.ret))
        (.skip)))
      (.seq (.reg [⟨(some 53), .mv (.tmp 7), none⟩,
          ⟨(some 9), .mv (.tmp 53), none⟩])
       (.seq (.seq (.reg [⟨(some 54), .mv (.tmp 5), none⟩,
            ⟨(some 55), .len (.tmp 54), none⟩,
            ⟨(some 56), .mv (.const (.int .i64 0)), none⟩])
         (.block 0 (.loop (.seq (.reg [⟨(some 57), .bin .lss (.tmp 56) (.tmp 55), none⟩])
            (.seq (.cond (.tmp 57)
              (.skip)
              (.exit 0))
             (.seq (.block 1 (.seq (.reg [⟨(some 58), .is 18 (.tmp 54) (.tmp 56), none⟩,
                   ⟨(some 59), .ldn 18 (.tmp 58), none⟩,
                   ⟨(some 11), .alloc 45 [(.int .i64 0), (.int .i64 0), (.int .i32 0), (.int .i32 0), (.int .i32 0), (.slice none 0 0), (.int .i64 0), (.int .i64 0), (.int .i32 0), (.int .i32 0), (.int .i32 0), (.slice none 0 0), (.int .i64 0), (.int .i64 0), (.int .i32 0), (.int .i32 0), (.int .i32 0), (.slice none 0 0)], none⟩,
                   ⟨none, .stn 18 (.tmp 11) (.tmp 59), none⟩])
                (.reg [⟨(some 60), .mv (.tmp 9), none⟩,
                   ⟨(some 61), .sla 3 6 (.tmp 11) none none, none⟩,
                   ⟨(some 62), .app 44 6 56 [(.int .i64 0), (.int .i64 0), (.int .i32 0), (.int .i32 0), (.int .i32 0), (.slice none 0 0)] (.tmp 60) (.tmp 61), none⟩,
                   ⟨(some 9), .mv (.tmp 62), none⟩])))
              (.reg [⟨(some 63), .bin .add (.tmp 56) (.const (.int .i64 1)), none⟩,
                 ⟨(some 56), .mv (.tmp 63), none⟩])))))))
        (.seq (.seq (.reg [⟨(some 64), .mv (.tmp 9), none⟩,
             ⟨(some 65), .len (.tmp 64), none⟩,
             ⟨(some 66), .mv (.const (.int .i64 0)), none⟩])
          (.block 2 (.loop (.seq (.reg [⟨(some 67), .bin .lss (.tmp 66) (.tmp 65), none⟩])
             (.seq (.cond (.tmp 67)
               (.skip)
               (.exit 2))
              (.seq (.block 3 (.seq (.reg [⟨(some 68), .is 6 (.tmp 64) (.tmp 66), none⟩,
                    ⟨(some 69), .ldn 6 (.tmp 68), none⟩,
                    ⟨(some 13), .alloc 44 [(.int .i64 0), (.int .i64 0), (.int .i32 0), (.int .i32 0), (.int .i32 0), (.slice none 0 0)], none⟩,
                    ⟨none, .stn 6 (.tmp 13) (.tmp 69), none⟩])
                 (.seq (.reg [⟨(some 70), .fa 0 (.tmp 13), none⟩,
                     ⟨(some 71), .ld1 (.tmp 70), none⟩,
                     ⟨(some 72), .fa 0 (.tmp 2), none⟩,
                     ⟨(some 73), .ld1 (.tmp 72), none⟩,
                     ⟨(some 74), .bin .mul (.const (.int .i64 256)) (.tmp 73), none⟩,
                     ⟨(some 75), .bin .lss (.tmp 71) (.tmp 74), none⟩,
                     ⟨(some 76), .mv (.tmp 75), none⟩,
                     ⟨(some 77), .fa 0 (.tmp 13), (some (76, false))⟩,
                     ⟨(some 78), .ld1 (.tmp 77), (some (76, false))⟩,
                     ⟨(some 79), .fa 0 (.tmp 2), (some (76, false))⟩,
                     ⟨(some 80), .ld1 (.tmp 79), (some (76, false))⟩,
                     ⟨(some 81), .fa 2 (.tmp 2), (some (76, false))⟩,
                     ⟨(some 82), .ld1 (.tmp 81), (some (76, false))⟩,
                     ⟨(some 83), .bin .add (.tmp 80) (.tmp 82), (some (76, false))⟩,
                     ⟨(some 84), .bin .mul (.const (.int .i64 256)) (.tmp 83), (some (76, false))⟩,
                     ⟨(some 85), .bin .gtr (.tmp 78) (.tmp 84), (some (76, false))⟩,
                     ⟨(some 86), .pick (.tmp 76) (.const (.bool true)) (.tmp 85), none⟩,
                     ⟨(some 87), .mv (.tmp 86), none⟩,
                     ⟨(some 88), .fa 1 (.tmp 13), (some (87, false))⟩,
                     ⟨(some 89), .ld1 (.tmp 88), (some (87, false))⟩,
                     ⟨(some 90), .fa 1 (.tmp 2), (some (87, false))⟩,
                     ⟨(some 91), .ld1 (.tmp 90), (some (87, false))⟩,
                     ⟨(some 92), .bin .mul (.const (.int .i64 256)) (.tmp 91), (some (87, false))⟩,
                     ⟨(some 93), .bin .lss (.tmp 89) (.tmp 92), (some (87, false))⟩,
                     ⟨(some 94), .pick (.tmp 87) (.const (.bool true)) (.tmp 93), none⟩,
                     ⟨(some 95), .mv (.tmp 94), none⟩,
                     ⟨(some 96), .fa 1 (.tmp 13), (some (95, false))⟩,
                     ⟨(some 97), .ld1 (.tmp 96), (some (95, false))⟩,
                     ⟨(some 98), .fa 1 (.tmp 2), (some (95, false))⟩,
                     ⟨(some 99), .ld1 (.tmp 98), (some (95, false))⟩,
                     ⟨(some 100), .fa 3 (.tmp 2), (some (95, false))⟩,
                     ⟨(some 101), .ld1 (.tmp 100), (some (95, false))⟩,
                     ⟨(some 102), .bin .add (.tmp 99) (.tmp 101), (some (95, false))⟩,
                     ⟨(some 103), .bin .mul (.const (.int .i64 256)) (.tmp 102), (some (95, false))⟩,
                     ⟨(some 104), .bin .gtr (.tmp 97) (.tmp 103), (some (95, false))⟩,
                     ⟨(some 105), .pick (.tmp 95) (.const (.bool true)) (.tmp 104), none⟩,
                     ⟨(some 106), .mv (.tmp 105), none⟩,
                     ⟨(some 107), .fa 3 (.tmp 13), (some (106, false))⟩,
                     ⟨(some 108), .ld1 (.tmp 107), (some (106, false))⟩,
                     ⟨(some 109), .bin .lss (.tmp 108) (.const (.int .i32 1)), (some (106, false))⟩,
                     ⟨(some 110), .pick (.tmp 106) (.const (.bool true)) (.tmp 109), none⟩,
                     ⟨(some 111), .mv (.tmp 110), none⟩,
                     ⟨(some 112), .fa 2 (.tmp 13), (some (111, false))⟩,
                     ⟨(some 113), .ld1 (.tmp 112), (some (111, false))⟩,
                     ⟨(some 114), .fa 4 (.tmp 2), (some (111, false))⟩,
                     ⟨(some 115), .ld1 (.tmp 114), (some (111, false))⟩,
                     ⟨(some 116), .fa 5 (.tmp 2), (some (111, false))⟩,
                     ⟨(some 117), .ld1 (.tmp 116), (some (111, false))⟩,
                     ⟨(some 118), .mn (.tmp 115) (.tmp 117), (some (111, false))⟩,
                     ⟨(some 119), .bin .lss (.tmp 113) (.tmp 118), (some (111, false))⟩,
                     ⟨(some 120), .pick (.tmp 111) (.const (.bool true)) (.tmp 119), none⟩,
                     ⟨(some 121), .mv (.tmp 120), none⟩,
                     ⟨(some 122), .fa 2 (.tmp 13), (some (121, false))⟩,
                     ⟨(some 123), .ld1 (.tmp 122), (some (121, false))⟩,
                     ⟨(some 124), .fa 4 (.tmp 2), (some (121, false))⟩,
                     ⟨(some 125), .ld1 (.tmp 124), (some (121, false))⟩,
                     ⟨(some 126), .fa 5 (.tmp 2), (some (121, false))⟩,
                     ⟨(some 127), .ld1 (.tmp 126), (some (121, false))⟩,
                     ⟨(some 128), .mx (.tmp 125) (.tmp 127), (some (121, false))⟩,
                     ⟨(some 129), .bin .gtr (.tmp 123) (.tmp 128), (some (121, false))⟩,
                     ⟨(some 130), .pick (.tmp 121) (.const (.bool true)) (.tmp 129), none⟩])
                  (.cond (.tmp 130)
                   (.seq (.reg [⟨(some 4), .mv (.const (.bool false)), none⟩])
                    (.ret))
                   (.skip)))))
               (.reg [⟨(some 131), .bin .add (.tmp 66) (.const (.int .i64 1)), none⟩,
                  ⟨(some 66), .mv (.tmp 131), none⟩])))))))
         (.seq (.reg [⟨(some 132), .mv (.tmp 5), none⟩,
             ⟨(some 133), .len (.tmp 132), none⟩,
             ⟨(some 134), .bin .leq (.tmp 133) (.const (.int .i64 40)), none⟩,
             ⟨(some 135), .mv (.tmp 134), none⟩,
             ⟨(some 136), .mv (.tmp 7), (some (135, true))⟩,
             ⟨(some 137), .len (.tmp 136), (some (135, true))⟩,
             ⟨(some 138), .bin .eql (.tmp 137) (.const (.int .i64 0)), (some (135, true))⟩,
             ⟨(some 139), .mv (.tmp 138), (some (135, true))⟩,
             ⟨(some 140), .mv (.tmp 7), (some (139, false))⟩,
             ⟨(some 141), .len (.tmp 140), (some (139, false))⟩,
             ⟨(some 142), .bin .eql (.tmp 141) (.const (.int .i64 2)), (some (139, false))⟩,
             ⟨(some 143), .pick (.tmp 139) (.const (.bool true)) (.tmp 142), (some (135, true))⟩,
             ⟨(some 144), .pick (.tmp 135) (.tmp 143) (.const (.bool false)), none⟩,
             ⟨(some 4), .mv (.tmp 144), none⟩])
          (.ret)))))))))
theorem k8 : fnOk Try.prog 8 = some (M8, [.t 4], 145) := by kernel_rfl

theorem l_ClipWithin (v : Vw) (A B C : VtR) (hvi : I64 v.x ∧ I64 v.y ∧ I64 v.w ∧ I64 v.h) (hA : VtOk w0 H A) (hB : VtOk w0 H B) (hC : VtOk w0 H C) (h : K (.bool true) H) : HCalls Try.prog w0 8 [v.v, threeV A B C] H K := by
  have cA : ∀ (G : Heap) (K : Value → Heap → Prop), K (.bool true) G → HCalls Try.prog w0 10 [] G K := fun G K hk => l_wakes hk
  by_cases hg : v.right ∧ Al [A.toVt, B.toVt, C.toVt]
  · have hg2 : v.right ∧ Al [A.toVt, B.toVt] := ⟨hg.1, fun y hy z hz => hg.2 y (by simp at hy ⊢; rcases hy with h' | h' <;> simp [h']) z (by simpa using hz)⟩
    have cT : ∀ (G : Heap) (K : Value → Heap → Prop), Grow w0 H G → (∀ a' cap' (ts : List (WnR × WnR × WnR)) H', (ts.length ≤ 40 ∧ ∀ t ∈ ts, InW v t.1.toWn ∧ InW v t.2.1.toWn ∧ InW v t.2.2.toWn) → RO triT w0 H' a' cap' ts → Grow w0 G H' → K (.tuple #[.slice a' ts.length cap', .int .i64 0]) H') → HCalls Try.prog w0 11 [v.v, A.v, B.v, C.v] G K := fun G K g hk => c_Triangle v A B C hvi (hA.grow g) (hB.grow g) (hC.grow g) (fun _ a' cap' ts H' e hR hgr => hk a' cap' ts H' ⟨by rw [← List.length_map (f := triC), e]; exact tri_len v, fun t ht => tri_in hg.1 _ (triC t) (by rw [← e]; exact List.mem_map.2 ⟨t, ht, rfl⟩)⟩ hR hgr) (fun hh => (hh hg).elim)
    have cL : ∀ (G : Heap) (K : Value → Heap → Prop), Grow w0 H G → (∀ a' (ws : List WnR) H', ((ws.length = 0 ∨ ws.length = 2) ∧ ∀ w ∈ ws, InW v w.toWn) → RO winT w0 H' a' ws.length ws → Grow w0 G H' → K (.tuple #[.slice a' ws.length ws.length, .int .i64 0]) H') → HCalls Try.prog w0 27 [v.v, A.v, B.v] G K := fun G K g hk => c_Line v A B hvi (hA.grow g) (hB.grow g) (fun _ a' ws H' e hR hgr => hk a' ws H' ⟨by rw [← List.length_map (f := WnR.toWn), e]; exact line_len v _ _, fun w hw => line_in hg.1 _ _ w.toWn (by rw [← e]; exact List.mem_map.2 ⟨w, hw, rfl⟩)⟩ hR hgr) (fun hh => (hh hg2).elim)
    obtain ⟨v1, v2, v3, v4, v5, v6, v7, v8⟩ := hg.1
    clear hA hB hC hg hg2
    unfold threeV VtR.v Vw.v at *
    refine HL.hc k8 2000 ?_; unfold M8
    (all_goals (refine (fun f : True → _ => f trivial) ?_)); repeat' ((first | (with_reducible refine fun _ : True => ?_) | refine cA _ _ ?_ | refine cT _ _ (by (repeat' (first | exact Grow.refl _ | assumption | (refine Grow_known (by first | (simp only [Heap.set_same, set_ne, ne_eq, not_false_eq_true, *] <;> rfl) | fail) ?_) | (refine Grow.set ?_ (by assumption) (by first | (simp only [*] <;> done) | (simp [set_none', Heap.set_same, set_ne, *] <;> done) | fail)) | (refine Grow.trans ?_ (by assumption))))) (fun a2 c2 ts G2 ht hR hg => ?_)  | (refine AllocQ_i ?_; intro bk hb0 hbk; (try simp only [set_none'] at hbk); (try (first | have hbn := Grow.none (by assumption) hbk | have hbn := Grow.none (by assumption) hbk.2 | have hbn := Grow.none (by assumption) hbk.2.2 | have hbn := Grow.none (by assumption) hbk.2.2.2 | have hbn := Grow.none (by assumption) hbk.2.2.2.2 | have hbn := Grow.none (by assumption) hbk.2.2.2.2.2)); (try simp only [set_none'] at hbn); (try (first | have hbm := Grow.none (by assumption) hbn | have hbm := Grow.none (by assumption) hbn.2 | have hbm := Grow.none (by assumption) hbn.2.2 | have hbm := Grow.none (by assumption) hbn.2.2.2 | have hbm := Grow.none (by assumption) hbn.2.2.2.2 | have hbm := Grow.none (by assumption) hbn.2.2.2.2.2)); (try simp only [set_none'] at hbm)) | ((first | refine condS_i ?_ ?_ | refine pick_i ?_ ?_ | refine gS_it ?_ ?_ | refine gS_if ?_ ?_ | refine gP_it ?_ ?_ | refine gP_if ?_ ?_) <;> (intro hc; try simp only [Int.reduceLE,Int.reduceLT,Int.reduceEq,and_self,not_true_eq_false,not_false_eq_true,and_true,true_and,false_and,and_false,true_or,or_true,false_or,or_false,decide_eq_true_eq,decide_eq_false_iff_not,beq_iff_eq,beq_eq_false_iff_ne,bne_iff_ne,ne_eq,gt_iff_lt,ge_iff_le,Bool.not_eq_true,Bool.not_eq_false,Bool.not_eq_true',Bool.not_eq_false',Bool.not_eq_eq_eq_not,Bool.not_true,Bool.not_false] at hc)) | (refine KP_i (by (repeat' (first | exact Heap.Le.refl _ | (refine Le_known (by first | (simp only [Heap.set_same, set_ne, ne_eq, not_false_eq_true, *] <;> rfl) | fail) ?_) | (refine Le_fresh (by first | (simp only [*] <;> done) | (simp [set_none', Heap.set_same, set_ne, *] <;> done) | fail) ?_) | (refine Heap.Le.trans ?_ (Grow.le (by assumption)))))) ?_) | (with_reducible refine And.intro ?_ ?_)) <;> (try simp only [Sh,Si,Sl,Bu,Bb,Bd,Bc,Bw,Bn,Int.reduceAdd,Int.reduceSub,Int.reduceMul,Int.reduceTDiv,Int.reduceTMod,Int.reduceMod,Int.reduceDiv,Nat.reduceLT,Nat.reduceEqDiff,decide_true,decide_false,Sa,Sb,Sc,Sd,Se,Sf,Sg,true_and,and_true,and_self,eq_self,b_i64,b_i32,b_u64,b_u32,b_u8,Int.reduceLE,Int.reduceLT,Int.reduceToNat,Int.reduceNeg,Int.reduceEq,Nat.reduceLeDiff,Nat.reducePow,Int.reducePow,Nat.min_def,reduceIte,Nat.reduceSub,Nat.reduceAdd,Nat.reduceMul,KP_same,KP_f,condS_t,condS_f,pick_t,pick_f,gS_tt,gS_ff,gS_tf,gS_ft,gS_u,gP_tt,gP_ff,gP_tf,gP_ft,gP_u,ptrV_eq,slcV_eq,cells_agg,cells_int,cells_bool,cells_ptr,cells_slice,oc_int,oc_bool,oc_slice,oc_ptr,rd1_set,rd1_ne,rdn_set,rdn_ne,Heap.set_same,set_ne,Heap.set_set,set_up,set_up2,set_up3,putAt,ceq,List.map_cons,List.map_nil,List.length_cons,List.length_nil,List.length_set,List.cons_append,List.nil_append,List.append_nil,List.replicate,List.size_toArray,List.all_cons,List.all_nil,Bool.and_self,Bool.and_true,List.drop_zero,List.drop_succ_cons,List.take_succ_cons,List.take_zero,List.set_cons_zero,List.set_cons_succ,List.getElem?_cons_zero,List.getElem?_cons_succ,Option.map_some,Option.map_none,ne_eq,not_false_eq_true,not_true_eq_false,gt_iff_lt,ge_iff_le,Int.one_mul,Nat.zero_add,Nat.zero_mul,Bool.not_true,Bool.not_false,Bool.false_eq_true,Bool.and_false,Bool.false_and,Bool.true_and, *]))
    rename_i b2 p2 q2
    obtain ⟨b3, rfl⟩ : ∃ q, q = bk := ⟨bk, rfl⟩
    have q3 := hbk
    have m2 := hg.some (b := b2) (by simp only [Heap.set_same, set_ne, ne_eq, not_false_eq_true, *] <;> rfl)
    have m3 := hg.some (b := b3) (by simp only [Heap.set_same, set_ne, ne_eq, not_false_eq_true, *] <;> rfl)
    have gH : Grow w0 H G2 := Grow.trans (by (repeat' (first | exact Grow.refl _ | assumption | (refine Grow_known (by first | (simp only [Heap.set_same, set_ne, ne_eq, not_false_eq_true, *] <;> rfl) | fail) ?_) | (refine Grow.set ?_ (by assumption) (by first | (simp only [*] <;> done) | (simp [set_none', Heap.set_same, set_ne, *] <;> done) | fail)) | (refine Grow.trans ?_ (by assumption))))) hg
    clear hg cT cA
    rw [root2 q3.1.2 m2 m3]
    (all_goals (refine (fun f : True → _ => f trivial) ?_)); repeat' ((first | (with_reducible refine fun _ : True => ?_) | refine cL _ _ (by (repeat' (first | exact Grow.refl _ | assumption | (refine Grow_known (by first | (simp only [Heap.set_same, set_ne, ne_eq, not_false_eq_true, *] <;> rfl) | fail) ?_) | (refine Grow.set ?_ (by assumption) (by first | (simp only [*] <;> done) | (simp [set_none', Heap.set_same, set_ne, *] <;> done) | fail)) | (refine Grow.trans ?_ (by assumption))))) (fun a3 ws3 G3 hw hR3 hg => ?_)  | (refine AllocQ_i ?_; intro bk hb0 hbk; (try simp only [set_none'] at hbk); (try (first | have hbn := Grow.none (by assumption) hbk | have hbn := Grow.none (by assumption) hbk.2 | have hbn := Grow.none (by assumption) hbk.2.2 | have hbn := Grow.none (by assumption) hbk.2.2.2 | have hbn := Grow.none (by assumption) hbk.2.2.2.2 | have hbn := Grow.none (by assumption) hbk.2.2.2.2.2)); (try simp only [set_none'] at hbn); (try (first | have hbm := Grow.none (by assumption) hbn | have hbm := Grow.none (by assumption) hbn.2 | have hbm := Grow.none (by assumption) hbn.2.2 | have hbm := Grow.none (by assumption) hbn.2.2.2 | have hbm := Grow.none (by assumption) hbn.2.2.2.2 | have hbm := Grow.none (by assumption) hbn.2.2.2.2.2)); (try simp only [set_none'] at hbm)) | ((first | refine condS_i ?_ ?_ | refine pick_i ?_ ?_ | refine gS_it ?_ ?_ | refine gS_if ?_ ?_ | refine gP_it ?_ ?_ | refine gP_if ?_ ?_) <;> (intro hc; try simp only [Int.reduceLE,Int.reduceLT,Int.reduceEq,and_self,not_true_eq_false,not_false_eq_true,and_true,true_and,false_and,and_false,true_or,or_true,false_or,or_false,decide_eq_true_eq,decide_eq_false_iff_not,beq_iff_eq,beq_eq_false_iff_ne,bne_iff_ne,ne_eq,gt_iff_lt,ge_iff_le,Bool.not_eq_true,Bool.not_eq_false,Bool.not_eq_true',Bool.not_eq_false',Bool.not_eq_eq_eq_not,Bool.not_true,Bool.not_false] at hc)) | (refine KP_i (by (repeat' (first | exact Heap.Le.refl _ | (refine Le_known (by first | (simp only [Heap.set_same, set_ne, ne_eq, not_false_eq_true, *] <;> rfl) | fail) ?_) | (refine Le_fresh (by first | (simp only [*] <;> done) | (simp [set_none', Heap.set_same, set_ne, *] <;> done) | fail) ?_) | (refine Heap.Le.trans ?_ (Grow.le (by assumption)))))) ?_) | (with_reducible refine And.intro ?_ ?_)) <;> (try simp only [Sh,Si,Sl,Bu,Bb,Bd,Bc,Bw,Bn,Int.reduceAdd,Int.reduceSub,Int.reduceMul,Int.reduceTDiv,Int.reduceTMod,Int.reduceMod,Int.reduceDiv,Nat.reduceLT,Nat.reduceEqDiff,decide_true,decide_false,Sa,Sb,Sc,Sd,Se,Sf,Sg,true_and,and_true,and_self,eq_self,b_i64,b_i32,b_u64,b_u32,b_u8,Int.reduceLE,Int.reduceLT,Int.reduceToNat,Int.reduceNeg,Int.reduceEq,Nat.reduceLeDiff,Nat.reducePow,Int.reducePow,Nat.min_def,reduceIte,Nat.reduceSub,Nat.reduceAdd,Nat.reduceMul,KP_same,KP_f,condS_t,condS_f,pick_t,pick_f,gS_tt,gS_ff,gS_tf,gS_ft,gS_u,gP_tt,gP_ff,gP_tf,gP_ft,gP_u,ptrV_eq,slcV_eq,cells_agg,cells_int,cells_bool,cells_ptr,cells_slice,oc_int,oc_bool,oc_slice,oc_ptr,rd1_set,rd1_ne,rdn_set,rdn_ne,Heap.set_same,set_ne,Heap.set_set,set_up,set_up2,set_up3,putAt,ceq,List.map_cons,List.map_nil,List.length_cons,List.length_nil,List.length_set,List.cons_append,List.nil_append,List.append_nil,List.replicate,List.size_toArray,List.all_cons,List.all_nil,Bool.and_self,Bool.and_true,List.drop_zero,List.drop_succ_cons,List.take_succ_cons,List.take_zero,List.set_cons_zero,List.set_cons_succ,List.getElem?_cons_zero,List.getElem?_cons_succ,Option.map_some,Option.map_none,ne_eq,not_false_eq_true,not_true_eq_false,gt_iff_lt,ge_iff_le,Int.one_mul,Nat.zero_add,Nat.zero_mul,Bool.not_true,Bool.not_false,Bool.false_eq_true,Bool.and_false,Bool.false_and,Bool.true_and, *]))
    have gg := Grow.trans (H := G2) (by (repeat' (first | exact Grow.refl _ | assumption | (refine Grow_known (by first | (simp only [Heap.set_same, set_ne, ne_eq, not_false_eq_true, *] <;> rfl) | fail) ?_) | (refine Grow.set ?_ (by assumption) (by first | (simp only [*] <;> done) | (simp [set_none', Heap.set_same, set_ne, *] <;> done) | fail)) | (refine Grow.trans ?_ (by assumption))))) hg
    replace m2 := gg.some m2
    replace gH := gH.trans gg
    replace hR := hR.grow gg
    clear hg gg cL m3
    obtain ⟨htl, htin⟩ := ht
    obtain ⟨hwl, hwin⟩ := hw
    have hwl : Keep (ws3.length = 0 ∨ ws3.length = 2) := hwl
    have hwb : ws3.length ≤ 2 := by unfold Keep at hwl; omega
    obtain ⟨n, en⟩ : ∃ n, ts.length = n := ⟨_, rfl⟩
    rw [en] at htl ⊢
    refine loop_g 57 (fun s : (Nat × Value × Option Addr × Nat × List WnR) × Heap => [(9, .slice s.1.2.2.1 s.1.2.2.2.2.length s.1.2.2.2.1), (11, s.1.2.1), (56, .int .i64 (s.1.1 : Nat))]) (fun s => s.2)
      (fun s => s.1.1 ≤ n ∧ Grow w0 G3 s.2 ∧ Full w0 G3 s.2 s.1.2.2.1 s.1.2.2.2.1 s.1.2.2.2.2 ∧ s.1.2.2.2.2.length ≤ 2 + 3 * s.1.1 ∧ ∀ w ∈ s.1.2.2.2.2, InW v w.toWn) (fun s => n - s.1.1)
      ((0, undef, a3, ws3.length, ws3), G3) ⟨Nat.zero_le _, Grow.refl _, .inr ⟨rfl, hR3⟩, by simp only; omega, hwin⟩ (Heap.Le.refl _) rfl ?_
    rintro ⟨⟨k, u11, a9, c9, ws⟩, G⟩ f ⟨hk, hG, hF, hl, hin⟩
    simp only at hk hG hF hl hin
    show run _ _ _ _ _ _ G
    rcases Nat.lt_or_ge k n with hlt | hge
    · obtain ⟨⟨x, y, z⟩, ex⟩ : ∃ v, ts[k]? = some v := ⟨_, List.getElem?_eq_getElem (by omega)⟩
      obtain ⟨b, o, rfl, r1, hf⟩ := hR.row ex
      replace r1 : rdn w0 G b (o + k * 18) 18 = some (x.row ++ y.row ++ z.row) := hG.rdn r1 (by decide)
      have ok := hR.ok _ (List.mem_of_getElem? ex)
      have hi3 := htin _ (List.mem_of_getElem? ex)
      have t0 : (k : Int) < (n : Int) := by omega
      have t6 : IntKind.i64.wrap ((k : Int) + 1) = (k : Int) + 1 := Bw.1 _ (by omega) (by omega)
      unfold WnR.row at r1
      clear hR ex en m2 htin
      (all_goals (refine (fun f : True → _ => f trivial) ?_)); repeat' ((first | (with_reducible refine fun _ : True => ?_) | (refine AllocQ_i ?_; intro bk hb0 hbk; (try simp only [set_none'] at hbk); (try (first | have hbn := Grow.none (by assumption) hbk | have hbn := Grow.none (by assumption) hbk.2 | have hbn := Grow.none (by assumption) hbk.2.2 | have hbn := Grow.none (by assumption) hbk.2.2.2 | have hbn := Grow.none (by assumption) hbk.2.2.2.2 | have hbn := Grow.none (by assumption) hbk.2.2.2.2.2)); (try simp only [set_none'] at hbn); (try (first | have hbm := Grow.none (by assumption) hbn | have hbm := Grow.none (by assumption) hbn.2 | have hbm := Grow.none (by assumption) hbn.2.2 | have hbm := Grow.none (by assumption) hbn.2.2.2 | have hbm := Grow.none (by assumption) hbn.2.2.2.2 | have hbm := Grow.none (by assumption) hbn.2.2.2.2.2)); (try simp only [set_none'] at hbm)) | ((first | refine condS_i ?_ ?_ | refine pick_i ?_ ?_ | refine gS_it ?_ ?_ | refine gS_if ?_ ?_ | refine gP_it ?_ ?_ | refine gP_if ?_ ?_) <;> (intro hc; try simp only [Int.reduceLE,Int.reduceLT,Int.reduceEq,and_self,not_true_eq_false,not_false_eq_true,and_true,true_and,false_and,and_false,true_or,or_true,false_or,or_false,decide_eq_true_eq,decide_eq_false_iff_not,beq_iff_eq,beq_eq_false_iff_ne,bne_iff_ne,ne_eq,gt_iff_lt,ge_iff_le,Bool.not_eq_true,Bool.not_eq_false,Bool.not_eq_true',Bool.not_eq_false',Bool.not_eq_eq_eq_not,Bool.not_true,Bool.not_false] at hc)) | (refine KP_i (by (repeat' (first | exact Heap.Le.refl _ | (refine Le_known (by first | (simp only [Heap.set_same, set_ne, ne_eq, not_false_eq_true, *] <;> rfl) | fail) ?_) | (refine Le_fresh (by first | (simp only [*] <;> done) | (simp [set_none', Heap.set_same, set_ne, *] <;> done) | fail) ?_) | (refine Heap.Le.trans ?_ (Grow.le (by assumption)))))) ?_) | (with_reducible refine And.intro ?_ ?_)) <;> (try simp only [Sh,Si,Sl,Bu,Bb,Bd,Bc,Bw,Bn,Int.reduceAdd,Int.reduceSub,Int.reduceMul,Int.reduceTDiv,Int.reduceTMod,Int.reduceMod,Int.reduceDiv,Nat.reduceLT,Nat.reduceEqDiff,decide_true,decide_false,Sa,Sb,Sc,Sd,Se,Sf,Sg,true_and,and_true,and_self,eq_self,b_i64,b_i32,b_u64,b_u32,b_u8,Int.reduceLE,Int.reduceLT,Int.reduceToNat,Int.reduceNeg,Int.reduceEq,Nat.reduceLeDiff,Nat.reducePow,Int.reducePow,Nat.min_def,reduceIte,Nat.reduceSub,Nat.reduceAdd,Nat.reduceMul,KP_same,KP_f,condS_t,condS_f,pick_t,pick_f,gS_tt,gS_ff,gS_tf,gS_ft,gS_u,gP_tt,gP_ff,gP_tf,gP_ft,gP_u,ptrV_eq,slcV_eq,cells_agg,cells_int,cells_bool,cells_ptr,cells_slice,oc_int,oc_bool,oc_slice,oc_ptr,rd1_set,rd1_ne,rdn_set,rdn_ne,Heap.set_same,set_ne,Heap.set_set,set_up,set_up2,set_up3,putAt,ceq,List.map_cons,List.map_nil,List.length_cons,List.length_nil,List.length_set,List.cons_append,List.nil_append,List.append_nil,List.replicate,List.size_toArray,List.all_cons,List.all_nil,Bool.and_self,Bool.and_true,List.drop_zero,List.drop_succ_cons,List.take_succ_cons,List.take_zero,List.set_cons_zero,List.set_cons_succ,List.getElem?_cons_zero,List.getElem?_cons_succ,Option.map_some,Option.map_none,ne_eq,not_false_eq_true,not_true_eq_false,gt_iff_lt,ge_iff_le,Int.one_mul,Nat.zero_add,Nat.zero_mul,Bool.not_true,Bool.not_false,Bool.false_eq_true,Bool.and_false,Bool.false_and,Bool.true_and, *]))
      have gb := (Grow.refl (w0 := w0) G).set (x := ⟨triT.ty, x.row ++ y.row ++ z.row⟩) hb0 hbk
      refine app_full (ns := [x, y, z]) (hF.grow gb) rfl (srd_blk at1 rfl) (by simp) (fun w hw => ?_) (hG.trans gb) (by simp; omega) (fun a5 c5 os5 G5 e5 hF5 hG5 => ?_)
      · simp only [List.mem_cons, List.not_mem_nil, or_false] at hw
        rcases hw with rfl | rfl | rfl
        · exact VsOk.old (ok _ (List.mem_cons_self ..))
        · exact VsOk.old (ok _ (List.mem_cons_of_mem _ (List.mem_cons_self ..)))
        · exact VsOk.old (ok _ (List.mem_cons_of_mem _ (List.mem_cons_of_mem _ (List.mem_cons_self ..))))
      · have hl5 : os5.length ≤ 2 + 3 * (k + 1) := by rw [e5]; simp; omega
        have hin5 : ∀ w ∈ os5, InW v w.toWn := fun w hw => by
          rw [e5] at hw
          rcases List.mem_append.1 hw with h' | h'
          · exact hin w h'
          · simp only [List.mem_cons, List.not_mem_nil, or_false] at h'
            rcases h' with rfl | rfl | rfl
            · exact hi3.1
            · exact hi3.2.1
            · exact hi3.2.2
        clear hF hin hi3 ok e5 hf
        (all_goals (refine (fun f : True → _ => f trivial) ?_)); repeat' ((first | (with_reducible refine fun _ : True => ?_) | (refine AllocQ_i ?_; intro bk hb0 hbk; (try simp only [set_none'] at hbk); (try (first | have hbn := Grow.none (by assumption) hbk | have hbn := Grow.none (by assumption) hbk.2 | have hbn := Grow.none (by assumption) hbk.2.2 | have hbn := Grow.none (by assumption) hbk.2.2.2 | have hbn := Grow.none (by assumption) hbk.2.2.2.2 | have hbn := Grow.none (by assumption) hbk.2.2.2.2.2)); (try simp only [set_none'] at hbn); (try (first | have hbm := Grow.none (by assumption) hbn | have hbm := Grow.none (by assumption) hbn.2 | have hbm := Grow.none (by assumption) hbn.2.2 | have hbm := Grow.none (by assumption) hbn.2.2.2 | have hbm := Grow.none (by assumption) hbn.2.2.2.2 | have hbm := Grow.none (by assumption) hbn.2.2.2.2.2)); (try simp only [set_none'] at hbm)) | ((first | refine condS_i ?_ ?_ | refine pick_i ?_ ?_ | refine gS_it ?_ ?_ | refine gS_if ?_ ?_ | refine gP_it ?_ ?_ | refine gP_if ?_ ?_) <;> (intro hc; try simp only [Int.reduceLE,Int.reduceLT,Int.reduceEq,and_self,not_true_eq_false,not_false_eq_true,and_true,true_and,false_and,and_false,true_or,or_true,false_or,or_false,decide_eq_true_eq,decide_eq_false_iff_not,beq_iff_eq,beq_eq_false_iff_ne,bne_iff_ne,ne_eq,gt_iff_lt,ge_iff_le,Bool.not_eq_true,Bool.not_eq_false,Bool.not_eq_true',Bool.not_eq_false',Bool.not_eq_eq_eq_not,Bool.not_true,Bool.not_false] at hc)) | (refine KP_i (by (repeat' (first | exact Heap.Le.refl _ | (refine Le_known (by first | (simp only [Heap.set_same, set_ne, ne_eq, not_false_eq_true, *] <;> rfl) | fail) ?_) | (refine Le_fresh (by first | (simp only [*] <;> done) | (simp [set_none', Heap.set_same, set_ne, *] <;> done) | fail) ?_) | (refine Heap.Le.trans ?_ (Grow.le (by assumption)))))) ?_) | (with_reducible refine And.intro ?_ ?_)) <;> (try simp only [Sh,Si,Sl,Bu,Bb,Bd,Bc,Bw,Bn,Int.reduceAdd,Int.reduceSub,Int.reduceMul,Int.reduceTDiv,Int.reduceTMod,Int.reduceMod,Int.reduceDiv,Nat.reduceLT,Nat.reduceEqDiff,decide_true,decide_false,Sa,Sb,Sc,Sd,Se,Sf,Sg,true_and,and_true,and_self,eq_self,b_i64,b_i32,b_u64,b_u32,b_u8,Int.reduceLE,Int.reduceLT,Int.reduceToNat,Int.reduceNeg,Int.reduceEq,Nat.reduceLeDiff,Nat.reducePow,Int.reducePow,Nat.min_def,reduceIte,Nat.reduceSub,Nat.reduceAdd,Nat.reduceMul,KP_same,KP_f,condS_t,condS_f,pick_t,pick_f,gS_tt,gS_ff,gS_tf,gS_ft,gS_u,gP_tt,gP_ff,gP_tf,gP_ft,gP_u,ptrV_eq,slcV_eq,cells_agg,cells_int,cells_bool,cells_ptr,cells_slice,oc_int,oc_bool,oc_slice,oc_ptr,rd1_set,rd1_ne,rdn_set,rdn_ne,Heap.set_same,set_ne,Heap.set_set,set_up,set_up2,set_up3,putAt,ceq,List.map_cons,List.map_nil,List.length_cons,List.length_nil,List.length_set,List.cons_append,List.nil_append,List.append_nil,List.replicate,List.size_toArray,List.all_cons,List.all_nil,Bool.and_self,Bool.and_true,List.drop_zero,List.drop_succ_cons,List.take_succ_cons,List.take_zero,List.set_cons_zero,List.set_cons_succ,List.getElem?_cons_zero,List.getElem?_cons_succ,Option.map_some,Option.map_none,ne_eq,not_false_eq_true,not_true_eq_false,gt_iff_lt,ge_iff_le,Int.one_mul,Nat.zero_add,Nat.zero_mul,Bool.not_true,Bool.not_false,Bool.false_eq_true,Bool.and_false,Bool.false_and,Bool.true_and, *]))
        exact Round_p (k + 1, _, a5, c5, os5) ⟨hlt, hG5, hF5, hl5, hin5⟩ (by simp only; omega) rfl rfl
    · obtain rfl : n = k := by omega
      have t0 : ¬ ((n : Nat) : Int) < ((n : Nat) : Int) := by omega
      have hO := hF.ro hG
      replace m2 := hG.some m2
      replace gH := gH.trans hG
      clear hF hR hG hR3 hwin htin en
      obtain ⟨m, em⟩ : ∃ m, ws.length = m := ⟨_, rfl⟩
      rw [em] at hl ⊢
      (all_goals (refine (fun f : True → _ => f trivial) ?_)); repeat' ((first | (with_reducible refine fun _ : True => ?_) | (refine AllocQ_i ?_; intro bk hb0 hbk; (try simp only [set_none'] at hbk); (try (first | have hbn := Grow.none (by assumption) hbk | have hbn := Grow.none (by assumption) hbk.2 | have hbn := Grow.none (by assumption) hbk.2.2 | have hbn := Grow.none (by assumption) hbk.2.2.2 | have hbn := Grow.none (by assumption) hbk.2.2.2.2 | have hbn := Grow.none (by assumption) hbk.2.2.2.2.2)); (try simp only [set_none'] at hbn); (try (first | have hbm := Grow.none (by assumption) hbn | have hbm := Grow.none (by assumption) hbn.2 | have hbm := Grow.none (by assumption) hbn.2.2 | have hbm := Grow.none (by assumption) hbn.2.2.2 | have hbm := Grow.none (by assumption) hbn.2.2.2.2 | have hbm := Grow.none (by assumption) hbn.2.2.2.2.2)); (try simp only [set_none'] at hbm)) | ((first | refine condS_i ?_ ?_ | refine pick_i ?_ ?_ | refine gS_it ?_ ?_ | refine gS_if ?_ ?_ | refine gP_it ?_ ?_ | refine gP_if ?_ ?_) <;> (intro hc; try simp only [Int.reduceLE,Int.reduceLT,Int.reduceEq,and_self,not_true_eq_false,not_false_eq_true,and_true,true_and,false_and,and_false,true_or,or_true,false_or,or_false,decide_eq_true_eq,decide_eq_false_iff_not,beq_iff_eq,beq_eq_false_iff_ne,bne_iff_ne,ne_eq,gt_iff_lt,ge_iff_le,Bool.not_eq_true,Bool.not_eq_false,Bool.not_eq_true',Bool.not_eq_false',Bool.not_eq_eq_eq_not,Bool.not_true,Bool.not_false] at hc)) | (refine KP_i (by (repeat' (first | exact Heap.Le.refl _ | (refine Le_known (by first | (simp only [Heap.set_same, set_ne, ne_eq, not_false_eq_true, *] <;> rfl) | fail) ?_) | (refine Le_fresh (by first | (simp only [*] <;> done) | (simp [set_none', Heap.set_same, set_ne, *] <;> done) | fail) ?_) | (refine Heap.Le.trans ?_ (Grow.le (by assumption)))))) ?_) | (with_reducible refine And.intro ?_ ?_)) <;> (try simp only [Sh,Si,Sl,Bu,Bb,Bd,Bc,Bw,Bn,Int.reduceAdd,Int.reduceSub,Int.reduceMul,Int.reduceTDiv,Int.reduceTMod,Int.reduceMod,Int.reduceDiv,Nat.reduceLT,Nat.reduceEqDiff,decide_true,decide_false,Sa,Sb,Sc,Sd,Se,Sf,Sg,true_and,and_true,and_self,eq_self,b_i64,b_i32,b_u64,b_u32,b_u8,Int.reduceLE,Int.reduceLT,Int.reduceToNat,Int.reduceNeg,Int.reduceEq,Nat.reduceLeDiff,Nat.reducePow,Int.reducePow,Nat.min_def,reduceIte,Nat.reduceSub,Nat.reduceAdd,Nat.reduceMul,KP_same,KP_f,condS_t,condS_f,pick_t,pick_f,gS_tt,gS_ff,gS_tf,gS_ft,gS_u,gP_tt,gP_ff,gP_tf,gP_ft,gP_u,ptrV_eq,slcV_eq,cells_agg,cells_int,cells_bool,cells_ptr,cells_slice,oc_int,oc_bool,oc_slice,oc_ptr,rd1_set,rd1_ne,rdn_set,rdn_ne,Heap.set_same,set_ne,Heap.set_set,set_up,set_up2,set_up3,putAt,ceq,List.map_cons,List.map_nil,List.length_cons,List.length_nil,List.length_set,List.cons_append,List.nil_append,List.append_nil,List.replicate,List.size_toArray,List.all_cons,List.all_nil,Bool.and_self,Bool.and_true,List.drop_zero,List.drop_succ_cons,List.take_succ_cons,List.take_zero,List.set_cons_zero,List.set_cons_succ,List.getElem?_cons_zero,List.getElem?_cons_succ,Option.map_some,Option.map_none,ne_eq,not_false_eq_true,not_true_eq_false,gt_iff_lt,ge_iff_le,Int.one_mul,Nat.zero_add,Nat.zero_mul,Bool.not_true,Bool.not_false,Bool.false_eq_true,Bool.and_false,Bool.false_and,Bool.true_and, *]))
      have e1 : IntKind.i64.wrap (256 * v.x) = 256 * v.x := Bw.1 _ (by omega) (by omega)
      have e2 : IntKind.i64.wrap (256 * v.y) = 256 * v.y := Bw.1 _ (by omega) (by omega)
      have e3 : IntKind.i64.wrap (v.x + v.w) = v.x + v.w := Bw.1 _ (by omega) (by omega)
      have e4 : IntKind.i64.wrap (v.y + v.h) = v.y + v.h := Bw.1 _ (by omega) (by omega)
      have e5 : IntKind.i64.wrap (256 * (v.x + v.w)) = 256 * (v.x + v.w) := Bw.1 _ (by omega) (by omega)
      have e6 : IntKind.i64.wrap (256 * (v.y + v.h)) = 256 * (v.y + v.h) := Bw.1 _ (by omega) (by omega)
      have b0 : rd1 w0 G b2 0 = some (.int .i64 v.x) := by unfold rd1; rw [m2]; rfl
      have b1 : rd1 w0 G b2 1 = some (.int .i64 v.y) := by unfold rd1; rw [m2]; rfl
      have b2' : rd1 w0 G b2 2 = some (.int .i64 v.w) := by unfold rd1; rw [m2]; rfl
      have b3' : rd1 w0 G b2 3 = some (.int .i64 v.h) := by unfold rd1; rw [m2]; rfl
      have b4 : rd1 w0 G b2 4 = some (.int .i32 v.n) := by unfold rd1; rw [m2]; rfl
      have b5 : rd1 w0 G b2 5 = some (.int .i32 v.f) := by unfold rd1; rw [m2]; rfl
      have hb2 : ∀ c, G c = none → c ≠ b2 := fun c e1 e2 => by subst e2; rw [m2] at e1; cases e1
      clear m2
      refine loop_g 67 (fun s : Nat × Value => [(13, s.2), (66, .int .i64 (s.1 : Nat))]) (fun _ => G) (fun s => s.1 ≤ m) (fun s => m - s.1) (0, undef) (Nat.zero_le _) (Heap.Le.refl _) rfl ?_
      rintro ⟨k, u⟩ f2 hk
      simp only at hk
      rcases Nat.lt_or_ge k m with hlt | hge
      · obtain ⟨x, ex⟩ : ∃ v, ws[k]? = some v := ⟨_, List.getElem?_eq_getElem (by omega)⟩
        obtain ⟨b, o, rfl, r1, hf⟩ := hO.row ex
        replace r1 : rdn w0 G b (o + k * 6) 6 = some x.row := r1
        obtain ⟨⟨i1, i2⟩, ⟨i3, i4⟩, i5, i6, i7⟩ := hin x (List.mem_of_getElem? ex)
        have j1 : ¬ x.x < 256 * v.x := by omega
        have j2 : ¬ 256 * (v.x + v.w) < x.x := by omega
        have j3 : ¬ x.y < 256 * v.y := by omega
        have j4 : ¬ 256 * (v.y + v.h) < x.y := by omega
        have j5 : ¬ x.w < 1 := by omega
        have j6 : ¬ x.z < (if v.f < v.n then v.f else v.n) := by omega
        have j7 : ¬ (if v.f > v.n then v.f else v.n) < x.z := by omega
        have t0 : (k : Int) < (m : Int) := by omega
        have t6 : IntKind.i64.wrap ((k : Int) + 1) = (k : Int) + 1 := Bw.1 _ (by omega) (by omega)
        unfold WnR.row at r1
        clear hO ex hin em hf i1 i2 i3 i4 i5 i6 i7 v1 v2 v3 v4 v5 v6 v7 v8
        (all_goals (refine (fun f : True → _ => f trivial) ?_)); repeat' ((first | (with_reducible refine fun _ : True => ?_) | (refine AllocQ_i ?_; intro bk hb0 hbk; (try simp only [set_none'] at hbk); (try (first | have hbn := Grow.none (by assumption) hbk | have hbn := Grow.none (by assumption) hbk.2 | have hbn := Grow.none (by assumption) hbk.2.2 | have hbn := Grow.none (by assumption) hbk.2.2.2 | have hbn := Grow.none (by assumption) hbk.2.2.2.2 | have hbn := Grow.none (by assumption) hbk.2.2.2.2.2)); (try simp only [set_none'] at hbn); (try (first | have hbm := Grow.none (by assumption) hbn | have hbm := Grow.none (by assumption) hbn.2 | have hbm := Grow.none (by assumption) hbn.2.2 | have hbm := Grow.none (by assumption) hbn.2.2.2 | have hbm := Grow.none (by assumption) hbn.2.2.2.2 | have hbm := Grow.none (by assumption) hbn.2.2.2.2.2)); (try simp only [set_none'] at hbm)) | ((first | refine condS_i ?_ ?_ | refine pick_i ?_ ?_ | refine gS_it ?_ ?_ | refine gS_if ?_ ?_ | refine gP_it ?_ ?_ | refine gP_if ?_ ?_) <;> (intro hc; try simp only [Int.reduceLE,Int.reduceLT,Int.reduceEq,and_self,not_true_eq_false,not_false_eq_true,and_true,true_and,false_and,and_false,true_or,or_true,false_or,or_false,decide_eq_true_eq,decide_eq_false_iff_not,beq_iff_eq,beq_eq_false_iff_ne,bne_iff_ne,ne_eq,gt_iff_lt,ge_iff_le,Bool.not_eq_true,Bool.not_eq_false,Bool.not_eq_true',Bool.not_eq_false',Bool.not_eq_eq_eq_not,Bool.not_true,Bool.not_false] at hc)) | (refine KP_i (by (repeat' (first | exact Heap.Le.refl _ | (refine Le_known (by first | (simp only [Heap.set_same, set_ne, ne_eq, not_false_eq_true, *] <;> rfl) | fail) ?_) | (refine Le_fresh (by first | (simp only [*] <;> done) | (simp [set_none', Heap.set_same, set_ne, *] <;> done) | fail) ?_) | (refine Heap.Le.trans ?_ (Grow.le (by assumption)))))) ?_) | (with_reducible refine And.intro ?_ ?_)) <;> (try simp only [Sh,Si,Sl,Bu,Bb,Bd,Bc,Bw,Bn,Int.reduceAdd,Int.reduceSub,Int.reduceMul,Int.reduceTDiv,Int.reduceTMod,Int.reduceMod,Int.reduceDiv,Nat.reduceLT,Nat.reduceEqDiff,decide_true,decide_false,Sa,Sb,Sc,Sd,Se,Sf,Sg,true_and,and_true,and_self,eq_self,b_i64,b_i32,b_u64,b_u32,b_u8,Int.reduceLE,Int.reduceLT,Int.reduceToNat,Int.reduceNeg,Int.reduceEq,Nat.reduceLeDiff,Nat.reducePow,Int.reducePow,Nat.min_def,reduceIte,Nat.reduceSub,Nat.reduceAdd,Nat.reduceMul,KP_same,KP_f,condS_t,condS_f,pick_t,pick_f,gS_tt,gS_ff,gS_tf,gS_ft,gS_u,gP_tt,gP_ff,gP_tf,gP_ft,gP_u,ptrV_eq,slcV_eq,cells_agg,cells_int,cells_bool,cells_ptr,cells_slice,oc_int,oc_bool,oc_slice,oc_ptr,rd1_set,rd1_ne,rdn_set,rdn_ne,Heap.set_same,set_ne,Heap.set_set,set_up,set_up2,set_up3,putAt,ceq,List.map_cons,List.map_nil,List.length_cons,List.length_nil,List.length_set,List.cons_append,List.nil_append,List.append_nil,List.replicate,List.size_toArray,List.all_cons,List.all_nil,Bool.and_self,Bool.and_true,List.drop_zero,List.drop_succ_cons,List.take_succ_cons,List.take_zero,List.set_cons_zero,List.set_cons_succ,List.getElem?_cons_zero,List.getElem?_cons_succ,Option.map_some,Option.map_none,ne_eq,not_false_eq_true,not_true_eq_false,gt_iff_lt,ge_iff_le,Int.one_mul,Nat.zero_add,Nat.zero_mul,Bool.not_true,Bool.not_false,Bool.false_eq_true,Bool.and_false,Bool.false_and,Bool.true_and, *]))
        all_goals first
          | exact Round_mk (k + 1, _) hlt (by simp only; omega) (by (repeat' (first | exact Heap.Le.refl _ | (refine Le_known (by first | (simp only [Heap.set_same, set_ne, ne_eq, not_false_eq_true, *] <;> rfl) | fail) ?_) | (refine Le_fresh (by first | (simp only [*] <;> done) | (simp [set_none', Heap.set_same, set_ne, *] <;> done) | fail) ?_) | (refine Heap.Le.trans ?_ (Grow.le (by assumption)))))) rfl rfl
          | trace_state
      · obtain rfl : m = k := by omega
        have t0 : ¬ ((m : Nat) : Int) < ((m : Nat) : Int) := by omega
        have t1 : (n : Int) ≤ 40 := by omega
        clear hO hin em
        unfold Keep at hwl
        rcases hwl with e | e
        · rw [e]
          (all_goals (refine (fun f : True → _ => f trivial) ?_)); repeat' ((first | (with_reducible refine fun _ : True => ?_) | (refine AllocQ_i ?_; intro bk hb0 hbk; (try simp only [set_none'] at hbk); (try (first | have hbn := Grow.none (by assumption) hbk | have hbn := Grow.none (by assumption) hbk.2 | have hbn := Grow.none (by assumption) hbk.2.2 | have hbn := Grow.none (by assumption) hbk.2.2.2 | have hbn := Grow.none (by assumption) hbk.2.2.2.2 | have hbn := Grow.none (by assumption) hbk.2.2.2.2.2)); (try simp only [set_none'] at hbn); (try (first | have hbm := Grow.none (by assumption) hbn | have hbm := Grow.none (by assumption) hbn.2 | have hbm := Grow.none (by assumption) hbn.2.2 | have hbm := Grow.none (by assumption) hbn.2.2.2 | have hbm := Grow.none (by assumption) hbn.2.2.2.2 | have hbm := Grow.none (by assumption) hbn.2.2.2.2.2)); (try simp only [set_none'] at hbm)) | ((first | refine condS_i ?_ ?_ | refine pick_i ?_ ?_ | refine gS_it ?_ ?_ | refine gS_if ?_ ?_ | refine gP_it ?_ ?_ | refine gP_if ?_ ?_) <;> (intro hc; try simp only [Int.reduceLE,Int.reduceLT,Int.reduceEq,and_self,not_true_eq_false,not_false_eq_true,and_true,true_and,false_and,and_false,true_or,or_true,false_or,or_false,decide_eq_true_eq,decide_eq_false_iff_not,beq_iff_eq,beq_eq_false_iff_ne,bne_iff_ne,ne_eq,gt_iff_lt,ge_iff_le,Bool.not_eq_true,Bool.not_eq_false,Bool.not_eq_true',Bool.not_eq_false',Bool.not_eq_eq_eq_not,Bool.not_true,Bool.not_false] at hc)) | (refine KP_i (by (repeat' (first | exact Heap.Le.refl _ | (refine Le_known (by first | (simp only [Heap.set_same, set_ne, ne_eq, not_false_eq_true, *] <;> rfl) | fail) ?_) | (refine Le_fresh (by first | (simp only [*] <;> done) | (simp [set_none', Heap.set_same, set_ne, *] <;> done) | fail) ?_) | (refine Heap.Le.trans ?_ (Grow.le (by assumption)))))) ?_) | (with_reducible refine And.intro ?_ ?_)) <;> (try simp only [Sh,Si,Sl,Bu,Bb,Bd,Bc,Bw,Bn,Int.reduceAdd,Int.reduceSub,Int.reduceMul,Int.reduceTDiv,Int.reduceTMod,Int.reduceMod,Int.reduceDiv,Nat.reduceLT,Nat.reduceEqDiff,decide_true,decide_false,Sa,Sb,Sc,Sd,Se,Sf,Sg,true_and,and_true,and_self,eq_self,b_i64,b_i32,b_u64,b_u32,b_u8,Int.reduceLE,Int.reduceLT,Int.reduceToNat,Int.reduceNeg,Int.reduceEq,Nat.reduceLeDiff,Nat.reducePow,Int.reducePow,Nat.min_def,reduceIte,Nat.reduceSub,Nat.reduceAdd,Nat.reduceMul,KP_same,KP_f,condS_t,condS_f,pick_t,pick_f,gS_tt,gS_ff,gS_tf,gS_ft,gS_u,gP_tt,gP_ff,gP_tf,gP_ft,gP_u,ptrV_eq,slcV_eq,cells_agg,cells_int,cells_bool,cells_ptr,cells_slice,oc_int,oc_bool,oc_slice,oc_ptr,rd1_set,rd1_ne,rdn_set,rdn_ne,Heap.set_same,set_ne,Heap.set_set,set_up,set_up2,set_up3,putAt,ceq,List.map_cons,List.map_nil,List.length_cons,List.length_nil,List.length_set,List.cons_append,List.nil_append,List.append_nil,List.replicate,List.size_toArray,List.all_cons,List.all_nil,Bool.and_self,Bool.and_true,List.drop_zero,List.drop_succ_cons,List.take_succ_cons,List.take_zero,List.set_cons_zero,List.set_cons_succ,List.getElem?_cons_zero,List.getElem?_cons_succ,Option.map_some,Option.map_none,ne_eq,not_false_eq_true,not_true_eq_false,gt_iff_lt,ge_iff_le,Int.one_mul,Nat.zero_add,Nat.zero_mul,Bool.not_true,Bool.not_false,Bool.false_eq_true,Bool.and_false,Bool.false_and,Bool.true_and, *]))
          exact Fin_mk gH.le h
        · rw [e]
          (all_goals (refine (fun f : True → _ => f trivial) ?_)); repeat' ((first | (with_reducible refine fun _ : True => ?_) | (refine AllocQ_i ?_; intro bk hb0 hbk; (try simp only [set_none'] at hbk); (try (first | have hbn := Grow.none (by assumption) hbk | have hbn := Grow.none (by assumption) hbk.2 | have hbn := Grow.none (by assumption) hbk.2.2 | have hbn := Grow.none (by assumption) hbk.2.2.2 | have hbn := Grow.none (by assumption) hbk.2.2.2.2 | have hbn := Grow.none (by assumption) hbk.2.2.2.2.2)); (try simp only [set_none'] at hbn); (try (first | have hbm := Grow.none (by assumption) hbn | have hbm := Grow.none (by assumption) hbn.2 | have hbm := Grow.none (by assumption) hbn.2.2 | have hbm := Grow.none (by assumption) hbn.2.2.2 | have hbm := Grow.none (by assumption) hbn.2.2.2.2 | have hbm := Grow.none (by assumption) hbn.2.2.2.2.2)); (try simp only [set_none'] at hbm)) | ((first | refine condS_i ?_ ?_ | refine pick_i ?_ ?_ | refine gS_it ?_ ?_ | refine gS_if ?_ ?_ | refine gP_it ?_ ?_ | refine gP_if ?_ ?_) <;> (intro hc; try simp only [Int.reduceLE,Int.reduceLT,Int.reduceEq,and_self,not_true_eq_false,not_false_eq_true,and_true,true_and,false_and,and_false,true_or,or_true,false_or,or_false,decide_eq_true_eq,decide_eq_false_iff_not,beq_iff_eq,beq_eq_false_iff_ne,bne_iff_ne,ne_eq,gt_iff_lt,ge_iff_le,Bool.not_eq_true,Bool.not_eq_false,Bool.not_eq_true',Bool.not_eq_false',Bool.not_eq_eq_eq_not,Bool.not_true,Bool.not_false] at hc)) | (refine KP_i (by (repeat' (first | exact Heap.Le.refl _ | (refine Le_known (by first | (simp only [Heap.set_same, set_ne, ne_eq, not_false_eq_true, *] <;> rfl) | fail) ?_) | (refine Le_fresh (by first | (simp only [*] <;> done) | (simp [set_none', Heap.set_same, set_ne, *] <;> done) | fail) ?_) | (refine Heap.Le.trans ?_ (Grow.le (by assumption)))))) ?_) | (with_reducible refine And.intro ?_ ?_)) <;> (try simp only [Sh,Si,Sl,Bu,Bb,Bd,Bc,Bw,Bn,Int.reduceAdd,Int.reduceSub,Int.reduceMul,Int.reduceTDiv,Int.reduceTMod,Int.reduceMod,Int.reduceDiv,Nat.reduceLT,Nat.reduceEqDiff,decide_true,decide_false,Sa,Sb,Sc,Sd,Se,Sf,Sg,true_and,and_true,and_self,eq_self,b_i64,b_i32,b_u64,b_u32,b_u8,Int.reduceLE,Int.reduceLT,Int.reduceToNat,Int.reduceNeg,Int.reduceEq,Nat.reduceLeDiff,Nat.reducePow,Int.reducePow,Nat.min_def,reduceIte,Nat.reduceSub,Nat.reduceAdd,Nat.reduceMul,KP_same,KP_f,condS_t,condS_f,pick_t,pick_f,gS_tt,gS_ff,gS_tf,gS_ft,gS_u,gP_tt,gP_ff,gP_tf,gP_ft,gP_u,ptrV_eq,slcV_eq,cells_agg,cells_int,cells_bool,cells_ptr,cells_slice,oc_int,oc_bool,oc_slice,oc_ptr,rd1_set,rd1_ne,rdn_set,rdn_ne,Heap.set_same,set_ne,Heap.set_set,set_up,set_up2,set_up3,putAt,ceq,List.map_cons,List.map_nil,List.length_cons,List.length_nil,List.length_set,List.cons_append,List.nil_append,List.append_nil,List.replicate,List.size_toArray,List.all_cons,List.all_nil,Bool.and_self,Bool.and_true,List.drop_zero,List.drop_succ_cons,List.take_succ_cons,List.take_zero,List.set_cons_zero,List.set_cons_succ,List.getElem?_cons_zero,List.getElem?_cons_succ,Option.map_some,Option.map_none,ne_eq,not_false_eq_true,not_true_eq_false,gt_iff_lt,ge_iff_le,Int.one_mul,Nat.zero_add,Nat.zero_mul,Bool.not_true,Bool.not_false,Bool.false_eq_true,Bool.and_false,Bool.false_and,Bool.true_and, *]))
          exact Fin_mk gH.le h
  · have cT : ∀ (G : Heap) (K : Value → Heap → Prop), Grow w0 H G → K (.tuple #[.slice none 0 0, .int .i64 2]) G → HCalls Try.prog w0 11 [v.v, A.v, B.v, C.v] G K := fun G K g hk => c_Triangle v A B C hvi (hA.grow g) (hB.grow g) (hC.grow g) (fun hh => (hg hh).elim) (fun _ => hk)
    have cL : ∀ (G : Heap) (K : Value → Heap → Prop), Grow w0 H G → (∀ a' n c e H', Grow w0 G H' → K (.tuple #[.slice a' n c, .int .i64 e]) H') → HCalls Try.prog w0 27 [v.v, A.v, B.v] G K := fun G K g hk => c_Line v A B hvi (hA.grow g) (hB.grow g) (fun _ a' ws H' e hR hgr => hk a' ws.length ws.length 0 H' hgr) (fun _ => hk none 0 0 2 G (Grow.refl _))
    clear hA hB hC hg
    unfold threeV VtR.v Vw.v at *
    refine HL.hc k8 2000 ?_; unfold M8
    (all_goals (refine (fun f : True → _ => f trivial) ?_)); repeat' ((first | (with_reducible refine fun _ : True => ?_) | refine cA _ _ ?_ | refine cT _ _ (by (repeat' (first | exact Grow.refl _ | assumption | (refine Grow_known (by first | (simp only [Heap.set_same, set_ne, ne_eq, not_false_eq_true, *] <;> rfl) | fail) ?_) | (refine Grow.set ?_ (by assumption) (by first | (simp only [*] <;> done) | (simp [set_none', Heap.set_same, set_ne, *] <;> done) | fail)) | (refine Grow.trans ?_ (by assumption))))) ?_ | refine cL _ _ (by (repeat' (first | exact Grow.refl _ | assumption | (refine Grow_known (by first | (simp only [Heap.set_same, set_ne, ne_eq, not_false_eq_true, *] <;> rfl) | fail) ?_) | (refine Grow.set ?_ (by assumption) (by first | (simp only [*] <;> done) | (simp [set_none', Heap.set_same, set_ne, *] <;> done) | fail)) | (refine Grow.trans ?_ (by assumption))))) (fun a3 n3 c3 e3 G3 hg => ?_)  | (refine AllocQ_i ?_; intro bk hb0 hbk; (try simp only [set_none'] at hbk); (try (first | have hbn := Grow.none (by assumption) hbk | have hbn := Grow.none (by assumption) hbk.2 | have hbn := Grow.none (by assumption) hbk.2.2 | have hbn := Grow.none (by assumption) hbk.2.2.2 | have hbn := Grow.none (by assumption) hbk.2.2.2.2 | have hbn := Grow.none (by assumption) hbk.2.2.2.2.2)); (try simp only [set_none'] at hbn); (try (first | have hbm := Grow.none (by assumption) hbn | have hbm := Grow.none (by assumption) hbn.2 | have hbm := Grow.none (by assumption) hbn.2.2 | have hbm := Grow.none (by assumption) hbn.2.2.2 | have hbm := Grow.none (by assumption) hbn.2.2.2.2 | have hbm := Grow.none (by assumption) hbn.2.2.2.2.2)); (try simp only [set_none'] at hbm)) | ((first | refine condS_i ?_ ?_ | refine pick_i ?_ ?_ | refine gS_it ?_ ?_ | refine gS_if ?_ ?_ | refine gP_it ?_ ?_ | refine gP_if ?_ ?_) <;> (intro hc; try simp only [Int.reduceLE,Int.reduceLT,Int.reduceEq,and_self,not_true_eq_false,not_false_eq_true,and_true,true_and,false_and,and_false,true_or,or_true,false_or,or_false,decide_eq_true_eq,decide_eq_false_iff_not,beq_iff_eq,beq_eq_false_iff_ne,bne_iff_ne,ne_eq,gt_iff_lt,ge_iff_le,Bool.not_eq_true,Bool.not_eq_false,Bool.not_eq_true',Bool.not_eq_false',Bool.not_eq_eq_eq_not,Bool.not_true,Bool.not_false] at hc)) | (refine KP_i (by (repeat' (first | exact Heap.Le.refl _ | (refine Le_known (by first | (simp only [Heap.set_same, set_ne, ne_eq, not_false_eq_true, *] <;> rfl) | fail) ?_) | (refine Le_fresh (by first | (simp only [*] <;> done) | (simp [set_none', Heap.set_same, set_ne, *] <;> done) | fail) ?_) | (refine Heap.Le.trans ?_ (Grow.le (by assumption)))))) ?_) | (with_reducible refine And.intro ?_ ?_)) <;> (try simp only [Sh,Si,Sl,Bu,Bb,Bd,Bc,Bw,Bn,Int.reduceAdd,Int.reduceSub,Int.reduceMul,Int.reduceTDiv,Int.reduceTMod,Int.reduceMod,Int.reduceDiv,Nat.reduceLT,Nat.reduceEqDiff,decide_true,decide_false,Sa,Sb,Sc,Sd,Se,Sf,Sg,true_and,and_true,and_self,eq_self,b_i64,b_i32,b_u64,b_u32,b_u8,Int.reduceLE,Int.reduceLT,Int.reduceToNat,Int.reduceNeg,Int.reduceEq,Nat.reduceLeDiff,Nat.reducePow,Int.reducePow,Nat.min_def,reduceIte,Nat.reduceSub,Nat.reduceAdd,Nat.reduceMul,KP_same,KP_f,condS_t,condS_f,pick_t,pick_f,gS_tt,gS_ff,gS_tf,gS_ft,gS_u,gP_tt,gP_ff,gP_tf,gP_ft,gP_u,ptrV_eq,slcV_eq,cells_agg,cells_int,cells_bool,cells_ptr,cells_slice,oc_int,oc_bool,oc_slice,oc_ptr,rd1_set,rd1_ne,rdn_set,rdn_ne,Heap.set_same,set_ne,Heap.set_set,set_up,set_up2,set_up3,putAt,ceq,List.map_cons,List.map_nil,List.length_cons,List.length_nil,List.length_set,List.cons_append,List.nil_append,List.append_nil,List.replicate,List.size_toArray,List.all_cons,List.all_nil,Bool.and_self,Bool.and_true,List.drop_zero,List.drop_succ_cons,List.take_succ_cons,List.take_zero,List.set_cons_zero,List.set_cons_succ,List.getElem?_cons_zero,List.getElem?_cons_succ,Option.map_some,Option.map_none,ne_eq,not_false_eq_true,not_true_eq_false,gt_iff_lt,ge_iff_le,Int.one_mul,Nat.zero_add,Nat.zero_mul,Bool.not_true,Bool.not_false,Bool.false_eq_true,Bool.and_false,Bool.false_and,Bool.true_and, *]))
    have gH : Grow w0 H G3 := Grow.trans (by (repeat' (first | exact Grow.refl _ | assumption | (refine Grow_known (by first | (simp only [Heap.set_same, set_ne, ne_eq, not_false_eq_true, *] <;> rfl) | fail) ?_) | (refine Grow.set ?_ (by assumption) (by first | (simp only [*] <;> done) | (simp [set_none', Heap.set_same, set_ne, *] <;> done) | fail)) | (refine Grow.trans ?_ (by assumption))))) hg
    exact Fin_mk gH.le h
end Go.Proofs.Ytofgiimfempcjaa
