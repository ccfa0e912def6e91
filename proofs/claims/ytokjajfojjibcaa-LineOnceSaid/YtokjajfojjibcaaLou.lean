/- A line as fragments, in memory of its own: the parts joined (layer 23). -/
import Derived.Test.YtokjajfojjibcaaLoa
import Derived.Test.YtokjajfojjibcaaLob
import Derived.Test.YtokjajfojjibcaaLoc
import Derived.Test.YtokjajfojjibcaaLod
set_option linter.unusedSimpArgs false
set_option linter.unusedVariables false
set_option maxRecDepth 100000
set_option maxHeartbeats 4000000
namespace Go.Proofs.Ytokjajfojjibcaa
open Go Go.HL Go.RowKit Go.ChangeShapes Go.WideShapes Pb
variable {w0 : World} {H : Heap} {K : Value → Heap → Prop}

theorem c_Line_yes (x y : WnR) (hx : WnOk w0 H x) (hy : WnOk w0 H y) (hr : Tog [x.toWn, y.toWn])
    (h : ∀ a' cap' os H', os.map FrR.toFr = lineA x.toWn y.toWn → RO fragT w0 H' a' cap' os → Bld w0 H H' a' cap' 10 46 (os.map FrR.row).flatten → Grow w0 H H' → K (.tuple #[.slice a' os.length cap', .int .i64 0]) H') : HCalls Try.prog w0 10 [x.v, y.v] H K := by
  unfold lineA at h
  by_cases hw : wideA x.toWn y.toWn
  · rw [if_pos hw] at h
    rcases Int.lt_or_le y.x x.x with hq | hq
    · exact c_Line_wd x y hx hy hr hw hq h
    · exact c_Line_wu x y hx hy hr hw hq h
  · rw [if_neg hw] at h
    rcases Int.lt_or_le y.y x.y with hq | hq
    · exact c_Line_td x y hx hy hr hw hq h
    · exact c_Line_tu x y hx hy hr hw hq h
end Go.Proofs.Ytokjajfojjibcaa
