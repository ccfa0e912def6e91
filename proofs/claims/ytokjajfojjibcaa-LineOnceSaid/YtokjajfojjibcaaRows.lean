/-
  No cell of these rows narrows 'for every input' (looked for: loops, veiled, ifaces, maps, wideKeys, modest, calm, conditions, laid).
  DERIVED. THE GIVEN ROWS OF THIS SEAT. 6 by the template 'for every input the law returns true; each argument reads behind the call as it read before'; 0 by the template 'total and deterministic' (their statements: YtokjajfojjibcaaTotals.lean).
  GIVEN WITH THE SEED: the statements are not yours to turn. If you find one false, say at which input.
  Laid BY PROGRAM, IN A SANDBOX (cutbox-rows.mjs): the forced cells as the released guide's own fill.sh prints them over the translation 12f861caa96e1668… (all of the seat's roots in one cut). By AI agents, Wed Nov 11 2026. No macro, syntax, notation, axiom, sorry.
-/
import Derived.Test.YtokjajfojjibcaaChecked
import GoSem.Claim
import GoSem.ClaimJoined
import GoSem.ClaimMapViews
import Derived.JoinedTies
import Derived.KernelRfl
namespace Go.Proofs.Ytokjajfojjibcaa
/- THE CELL 'sum', in the pinned program and in every row, IS THE sha256 OF THE DUMP (.gsa) THAT YtokjajfojjibcaaProg.lean LOADS. Nothing in Lean hashes anything: it is a label: what it is worth is what the hold of that sum in a sandbox is worth. -/
noncomputable def Try.pinned : Pinned := { name := "ytokjajfojjibcaa", sum := "12f861caa96e16689fbeee7d11bbb9466d6dfcb3090111c41f1db9870e75c434", checked := Try.checked }
namespace Rows
def none {H : Type} : Left H := { results := [], args := [] }

/-- 'paintboxlaw23.LineLines': WHATEVER THE INPUT: true; the input reads as it did. -/
def lineLinesSpec : ChangeSpec := { name := "lineLines", fn := fun _ => fun
  | [d1, d2] => { results := [.lit (.bool true)], args := [d1, d2] }
  | _ => none }
def lineLinesRow : OpenClaim := { program := "ytokjajfojjibcaa", sum := "12f861caa96e16689fbeee7d11bbb9466d6dfcb3090111c41f1db9870e75c434", func := "paintbox/paintboxlaw23.LineLines", spec := "lineLines", unfollowed := true, recurses := true, named := ["math/bits.divideError", "math/bits.overflowError"], plainKeys := false, apart := false }
def LineLinesSaid : Prop := lineLinesRow.holds Try.pinned (OpenSpec.ofChange lineLinesSpec)

/-- ITS FALSE NEIGHBOUR: 'it returns false'. Refute it at one input. -/
def lineLinesWrong : ChangeSpec := { name := "lineLines", fn := fun _ => fun
  | [d1, d2] => { results := [.lit (.bool false)], args := [d1, d2] }
  | _ => none }
def LineLinesWrongFalsely : Prop := lineLinesRow.holds Try.pinned (OpenSpec.ofChange lineLinesWrong)

/-- 'paintboxlaw23.LinePoints': WHATEVER THE INPUT: true; the input reads as it did. -/
def linePointsSpec : ChangeSpec := { name := "linePoints", fn := fun _ => fun
  | [d] => { results := [.lit (.bool true)], args := [d] }
  | _ => none }
def linePointsRow : OpenClaim := { program := "ytokjajfojjibcaa", sum := "12f861caa96e16689fbeee7d11bbb9466d6dfcb3090111c41f1db9870e75c434", func := "paintbox/paintboxlaw23.LinePoints", spec := "linePoints", unfollowed := true, recurses := true, named := ["math/bits.divideError", "math/bits.overflowError"], plainKeys := false, apart := false }
def LinePointsSaid : Prop := linePointsRow.holds Try.pinned (OpenSpec.ofChange linePointsSpec)

/-- ITS FALSE NEIGHBOUR: 'it returns false'. Refute it at one input. -/
def linePointsWrong : ChangeSpec := { name := "linePoints", fn := fun _ => fun
  | [d] => { results := [.lit (.bool false)], args := [d] }
  | _ => none }
def LinePointsWrongFalsely : Prop := linePointsRow.holds Try.pinned (OpenSpec.ofChange linePointsWrong)

/-- 'paintboxlaw23.LineBetween': WHATEVER THE INPUT: true; the input reads as it did. -/
def lineBetweenSpec : ChangeSpec := { name := "lineBetween", fn := fun _ => fun
  | [d1, d2] => { results := [.lit (.bool true)], args := [d1, d2] }
  | _ => none }
def lineBetweenRow : OpenClaim := { program := "ytokjajfojjibcaa", sum := "12f861caa96e16689fbeee7d11bbb9466d6dfcb3090111c41f1db9870e75c434", func := "paintbox/paintboxlaw23.LineBetween", spec := "lineBetween", unfollowed := true, recurses := true, named := ["math/bits.divideError", "math/bits.overflowError"], plainKeys := false, apart := false }
def LineBetweenSaid : Prop := lineBetweenRow.holds Try.pinned (OpenSpec.ofChange lineBetweenSpec)

/-- ITS FALSE NEIGHBOUR: 'it returns false'. Refute it at one input. -/
def lineBetweenWrong : ChangeSpec := { name := "lineBetween", fn := fun _ => fun
  | [d1, d2] => { results := [.lit (.bool false)], args := [d1, d2] }
  | _ => none }
def LineBetweenWrongFalsely : Prop := lineBetweenRow.holds Try.pinned (OpenSpec.ofChange lineBetweenWrong)

/-- 'paintboxlaw23.LineOnce': WHATEVER THE INPUT: true; the input reads as it did. -/
def lineOnceSpec : ChangeSpec := { name := "lineOnce", fn := fun _ => fun
  | [d1, d2, d3] => { results := [.lit (.bool true)], args := [d1, d2, d3] }
  | _ => none }
def lineOnceRow : OpenClaim := { program := "ytokjajfojjibcaa", sum := "12f861caa96e16689fbeee7d11bbb9466d6dfcb3090111c41f1db9870e75c434", func := "paintbox/paintboxlaw23.LineOnce", spec := "lineOnce", unfollowed := true, recurses := true, named := ["math/bits.divideError", "math/bits.overflowError"], plainKeys := false, apart := false }
def LineOnceSaid : Prop := lineOnceRow.holds Try.pinned (OpenSpec.ofChange lineOnceSpec)

/-- ITS FALSE NEIGHBOUR: 'it returns false'. Refute it at one input. -/
def lineOnceWrong : ChangeSpec := { name := "lineOnce", fn := fun _ => fun
  | [d1, d2, d3] => { results := [.lit (.bool false)], args := [d1, d2, d3] }
  | _ => none }
def LineOnceWrongFalsely : Prop := lineOnceRow.holds Try.pinned (OpenSpec.ofChange lineOnceWrong)

/-- 'paintboxlaw23.LineWithin': WHATEVER THE INPUT: true; the input reads as it did. -/
def lineWithinSpec : ChangeSpec := { name := "lineWithin", fn := fun _ => fun
  | [d1, d2] => { results := [.lit (.bool true)], args := [d1, d2] }
  | _ => none }
def lineWithinRow : OpenClaim := { program := "ytokjajfojjibcaa", sum := "12f861caa96e16689fbeee7d11bbb9466d6dfcb3090111c41f1db9870e75c434", func := "paintbox/paintboxlaw23.LineWithin", spec := "lineWithin", unfollowed := true, recurses := true, named := ["math/bits.divideError", "math/bits.overflowError"], plainKeys := false, apart := false }
def LineWithinSaid : Prop := lineWithinRow.holds Try.pinned (OpenSpec.ofChange lineWithinSpec)

/-- ITS FALSE NEIGHBOUR: 'it returns false'. Refute it at one input. -/
def lineWithinWrong : ChangeSpec := { name := "lineWithin", fn := fun _ => fun
  | [d1, d2] => { results := [.lit (.bool false)], args := [d1, d2] }
  | _ => none }
def LineWithinWrongFalsely : Prop := lineWithinRow.holds Try.pinned (OpenSpec.ofChange lineWithinWrong)

/-- 'paintboxlaw23.LineSquares': WHATEVER THE INPUT: true; the input reads as it did. -/
def lineSquaresSpec : ChangeSpec := { name := "lineSquares", fn := fun _ => fun
  | [d1, d2, d3] => { results := [.lit (.bool true)], args := [d1, d2, d3] }
  | _ => none }
def lineSquaresRow : OpenClaim := { program := "ytokjajfojjibcaa", sum := "12f861caa96e16689fbeee7d11bbb9466d6dfcb3090111c41f1db9870e75c434", func := "paintbox/paintboxlaw23.LineSquares", spec := "lineSquares", unfollowed := true, recurses := true, named := ["math/bits.divideError", "math/bits.overflowError"], plainKeys := false, apart := false }
def LineSquaresSaid : Prop := lineSquaresRow.holds Try.pinned (OpenSpec.ofChange lineSquaresSpec)

/-- ITS FALSE NEIGHBOUR: 'it returns false'. Refute it at one input. -/
def lineSquaresWrong : ChangeSpec := { name := "lineSquares", fn := fun _ => fun
  | [d1, d2, d3] => { results := [.lit (.bool false)], args := [d1, d2, d3] }
  | _ => none }
def LineSquaresWrongFalsely : Prop := lineSquaresRow.holds Try.pinned (OpenSpec.ofChange lineSquaresWrong)

/- THE SECOND FORM. 'bulk': how many values and letters a reading holds, each counted each time it is reached (what is shared counts as often as it is met; a slice's spare places count too). A statement '..UptoSaid' is the law's where the arguments, and the package variables that the reading takes, are together of bulk at most 1048576: NARROWER than '..Said'. Prove '..Said' where nothing that the law and all that it calls make is longer than what came in: it says more and counts as full. Else prove '..UptoSaid'. A law counts once. -/
mutual
def uptoBulk {H : Type} : DataW H → Nat
  | .lit (.string bytes) => bytes.length + 1
  | .lit _ => 1
  | .nil => 1
  | .ptr d => uptoBulk d + 1
  | .slice elems spare => uptoBulkAll elems + uptoBulkAll spare + 1
  | .agg parts => uptoBulkAll parts + 1
  | .iface _ d => uptoBulk d + 1
  | .map entries => uptoBulkEntries entries + 1
  | .held _ => 1
def uptoBulkAll {H : Type} : List (DataW H) → Nat
  | [] => 0
  | d :: r => uptoBulk d + uptoBulkAll r
def uptoBulkEntries {H : Type} : List (Lit × DataW H) → Nat
  | [] => 0
  | x :: r => uptoBulkEntry x + uptoBulkEntries r
def uptoBulkEntry {H : Type} : Lit × DataW H → Nat
  | (.string bytes, d) => bytes.length + uptoBulk d + 1
  | (_, d) => uptoBulk d + 1
 end
def uptoSmall : (H : Type) → List (DataW H) → Bool := fun _ ds => decide (uptoBulkAll ds ≤ 1048576)
def OpenSpec.upto (s : _root_.Go.ChangeSpec) : _root_.Go.OpenSpec := { _root_.Go.OpenSpec.ofChange s with cond := some uptoSmall }

/-- 'paintboxlaw23.LineLines', WHERE WHAT IT READS IS OF BULK AT MOST 1048576: true; the input reads as it did. -/
def lineLinesUptoRow : OpenClaim := { program := "ytokjajfojjibcaa", sum := "12f861caa96e16689fbeee7d11bbb9466d6dfcb3090111c41f1db9870e75c434", func := "paintbox/paintboxlaw23.LineLines", spec := "lineLines", unfollowed := true, recurses := true, named := ["math/bits.divideError", "math/bits.overflowError"], plainKeys := false, apart := false, narrowed := true }
def LineLinesUptoSaid : Prop := lineLinesUptoRow.holds Try.pinned (OpenSpec.upto lineLinesSpec)

/-- 'paintboxlaw23.LinePoints', WHERE WHAT IT READS IS OF BULK AT MOST 1048576: true; the input reads as it did. -/
def linePointsUptoRow : OpenClaim := { program := "ytokjajfojjibcaa", sum := "12f861caa96e16689fbeee7d11bbb9466d6dfcb3090111c41f1db9870e75c434", func := "paintbox/paintboxlaw23.LinePoints", spec := "linePoints", unfollowed := true, recurses := true, named := ["math/bits.divideError", "math/bits.overflowError"], plainKeys := false, apart := false, narrowed := true }
def LinePointsUptoSaid : Prop := linePointsUptoRow.holds Try.pinned (OpenSpec.upto linePointsSpec)

/-- 'paintboxlaw23.LineBetween', WHERE WHAT IT READS IS OF BULK AT MOST 1048576: true; the input reads as it did. -/
def lineBetweenUptoRow : OpenClaim := { program := "ytokjajfojjibcaa", sum := "12f861caa96e16689fbeee7d11bbb9466d6dfcb3090111c41f1db9870e75c434", func := "paintbox/paintboxlaw23.LineBetween", spec := "lineBetween", unfollowed := true, recurses := true, named := ["math/bits.divideError", "math/bits.overflowError"], plainKeys := false, apart := false, narrowed := true }
def LineBetweenUptoSaid : Prop := lineBetweenUptoRow.holds Try.pinned (OpenSpec.upto lineBetweenSpec)

/-- 'paintboxlaw23.LineOnce', WHERE WHAT IT READS IS OF BULK AT MOST 1048576: true; the input reads as it did. -/
def lineOnceUptoRow : OpenClaim := { program := "ytokjajfojjibcaa", sum := "12f861caa96e16689fbeee7d11bbb9466d6dfcb3090111c41f1db9870e75c434", func := "paintbox/paintboxlaw23.LineOnce", spec := "lineOnce", unfollowed := true, recurses := true, named := ["math/bits.divideError", "math/bits.overflowError"], plainKeys := false, apart := false, narrowed := true }
def LineOnceUptoSaid : Prop := lineOnceUptoRow.holds Try.pinned (OpenSpec.upto lineOnceSpec)

/-- 'paintboxlaw23.LineWithin', WHERE WHAT IT READS IS OF BULK AT MOST 1048576: true; the input reads as it did. -/
def lineWithinUptoRow : OpenClaim := { program := "ytokjajfojjibcaa", sum := "12f861caa96e16689fbeee7d11bbb9466d6dfcb3090111c41f1db9870e75c434", func := "paintbox/paintboxlaw23.LineWithin", spec := "lineWithin", unfollowed := true, recurses := true, named := ["math/bits.divideError", "math/bits.overflowError"], plainKeys := false, apart := false, narrowed := true }
def LineWithinUptoSaid : Prop := lineWithinUptoRow.holds Try.pinned (OpenSpec.upto lineWithinSpec)

/-- 'paintboxlaw23.LineSquares', WHERE WHAT IT READS IS OF BULK AT MOST 1048576: true; the input reads as it did. -/
def lineSquaresUptoRow : OpenClaim := { program := "ytokjajfojjibcaa", sum := "12f861caa96e16689fbeee7d11bbb9466d6dfcb3090111c41f1db9870e75c434", func := "paintbox/paintboxlaw23.LineSquares", spec := "lineSquares", unfollowed := true, recurses := true, named := ["math/bits.divideError", "math/bits.overflowError"], plainKeys := false, apart := false, narrowed := true }
def LineSquaresUptoSaid : Prop := lineSquaresUptoRow.holds Try.pinned (OpenSpec.upto lineSquaresSpec)

end Rows
end Go.Proofs.Ytokjajfojjibcaa
