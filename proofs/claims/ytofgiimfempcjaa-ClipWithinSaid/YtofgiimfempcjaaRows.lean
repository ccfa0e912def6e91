/-
  No cell of these rows narrows 'for every input' (looked for: loops, veiled, ifaces, maps, wideKeys, modest, calm, conditions, laid).
  DERIVED. THE GIVEN ROWS OF THIS SEAT. 7 by the template 'for every input the law returns true; each argument reads behind the call as it read before'; 0 by the template 'total and deterministic' (their statements: YtofgiimfempcjaaTotals.lean).
  GIVEN WITH THE SEED: the statements are not yours to turn. If you find one false, say at which input.
  Laid BY PROGRAM, IN A SANDBOX (cutbox-rows.mjs): the forced cells as the released guide's own fill.sh prints them over the translation 3af480828e2243ee… (all of the seat's roots in one cut). By AI agents, Wed Nov 11 2026. No macro, syntax, notation, axiom, sorry.
-/
import Derived.Test.YtofgiimfempcjaaChecked
import GoSem.Claim
import GoSem.ClaimJoined
import GoSem.ClaimMapViews
import Derived.JoinedTies
import Derived.KernelRfl
namespace Go.Proofs.Ytofgiimfempcjaa
/- THE CELL 'sum', in the pinned program and in every row, IS THE sha256 OF THE DUMP (.gsa) THAT YtofgiimfempcjaaProg.lean LOADS. Nothing in Lean hashes anything: it is a label: what it is worth is what the hold of that sum in a sandbox is worth. -/
noncomputable def Try.pinned : Pinned := { name := "ytofgiimfempcjaa", sum := "3af480828e2243ee656a4f2d7502a81d2966f80553bcd06dc7011e04a6d2b900", checked := Try.checked }
namespace Rows
def none {H : Type} : Left H := { results := [], args := [] }

/-- 'paintboxlaw21.ClipTriangles': WHATEVER THE INPUT: true; the input reads as it did. -/
def clipTrianglesSpec : ChangeSpec := { name := "clipTriangles", fn := fun _ => fun
  | [d1, d2] => { results := [.lit (.bool true)], args := [d1, d2] }
  | _ => none }
def clipTrianglesRow : OpenClaim := { program := "ytofgiimfempcjaa", sum := "3af480828e2243ee656a4f2d7502a81d2966f80553bcd06dc7011e04a6d2b900", func := "paintbox/paintboxlaw21.ClipTriangles", spec := "clipTriangles", unfollowed := true, recurses := true, apart := false }
def ClipTrianglesSaid : Prop := clipTrianglesRow.holds Try.pinned (OpenSpec.ofChange clipTrianglesSpec)

/-- ITS FALSE NEIGHBOUR: 'it returns false'. Refute it at one input. -/
def clipTrianglesWrong : ChangeSpec := { name := "clipTriangles", fn := fun _ => fun
  | [d1, d2] => { results := [.lit (.bool false)], args := [d1, d2] }
  | _ => none }
def ClipTrianglesWrongFalsely : Prop := clipTrianglesRow.holds Try.pinned (OpenSpec.ofChange clipTrianglesWrong)

/-- 'paintboxlaw21.ClipAreas': WHATEVER THE INPUT: true; the input reads as it did. -/
def clipAreasSpec : ChangeSpec := { name := "clipAreas", fn := fun _ => fun
  | [d1, d2] => { results := [.lit (.bool true)], args := [d1, d2] }
  | _ => none }
def clipAreasRow : OpenClaim := { program := "ytofgiimfempcjaa", sum := "3af480828e2243ee656a4f2d7502a81d2966f80553bcd06dc7011e04a6d2b900", func := "paintbox/paintboxlaw21.ClipAreas", spec := "clipAreas", unfollowed := true, recurses := true, apart := false }
def ClipAreasSaid : Prop := clipAreasRow.holds Try.pinned (OpenSpec.ofChange clipAreasSpec)

/-- ITS FALSE NEIGHBOUR: 'it returns false'. Refute it at one input. -/
def clipAreasWrong : ChangeSpec := { name := "clipAreas", fn := fun _ => fun
  | [d1, d2] => { results := [.lit (.bool false)], args := [d1, d2] }
  | _ => none }
def ClipAreasWrongFalsely : Prop := clipAreasRow.holds Try.pinned (OpenSpec.ofChange clipAreasWrong)

/-- 'paintboxlaw21.ClipWindows': WHATEVER THE INPUT: true; the input reads as it did. -/
def clipWindowsSpec : ChangeSpec := { name := "clipWindows", fn := fun _ => fun
  | [d1, d2, d3] => { results := [.lit (.bool true)], args := [d1, d2, d3] }
  | _ => none }
def clipWindowsRow : OpenClaim := { program := "ytofgiimfempcjaa", sum := "3af480828e2243ee656a4f2d7502a81d2966f80553bcd06dc7011e04a6d2b900", func := "paintbox/paintboxlaw21.ClipWindows", spec := "clipWindows", unfollowed := true, recurses := true, apart := false }
def ClipWindowsSaid : Prop := clipWindowsRow.holds Try.pinned (OpenSpec.ofChange clipWindowsSpec)

/-- ITS FALSE NEIGHBOUR: 'it returns false'. Refute it at one input. -/
def clipWindowsWrong : ChangeSpec := { name := "clipWindows", fn := fun _ => fun
  | [d1, d2, d3] => { results := [.lit (.bool false)], args := [d1, d2, d3] }
  | _ => none }
def ClipWindowsWrongFalsely : Prop := clipWindowsRow.holds Try.pinned (OpenSpec.ofChange clipWindowsWrong)

/-- 'paintboxlaw21.ClipWhole': WHATEVER THE INPUT: true; the input reads as it did. -/
def clipWholeSpec : ChangeSpec := { name := "clipWhole", fn := fun _ => fun
  | [d1, d2] => { results := [.lit (.bool true)], args := [d1, d2] }
  | _ => none }
def clipWholeRow : OpenClaim := { program := "ytofgiimfempcjaa", sum := "3af480828e2243ee656a4f2d7502a81d2966f80553bcd06dc7011e04a6d2b900", func := "paintbox/paintboxlaw21.ClipWhole", spec := "clipWhole", unfollowed := true, recurses := true, apart := false }
def ClipWholeSaid : Prop := clipWholeRow.holds Try.pinned (OpenSpec.ofChange clipWholeSpec)

/-- ITS FALSE NEIGHBOUR: 'it returns false'. Refute it at one input. -/
def clipWholeWrong : ChangeSpec := { name := "clipWhole", fn := fun _ => fun
  | [d1, d2] => { results := [.lit (.bool false)], args := [d1, d2] }
  | _ => none }
def ClipWholeWrongFalsely : Prop := clipWholeRow.holds Try.pinned (OpenSpec.ofChange clipWholeWrong)

/-- 'paintboxlaw21.ClipCuts': WHATEVER THE INPUT: true; the input reads as it did. -/
def clipCutsSpec : ChangeSpec := { name := "clipCuts", fn := fun _ => fun
  | [d1, d2] => { results := [.lit (.bool true)], args := [d1, d2] }
  | _ => none }
def clipCutsRow : OpenClaim := { program := "ytofgiimfempcjaa", sum := "3af480828e2243ee656a4f2d7502a81d2966f80553bcd06dc7011e04a6d2b900", func := "paintbox/paintboxlaw21.ClipCuts", spec := "clipCuts", unfollowed := true, recurses := true, apart := false }
def ClipCutsSaid : Prop := clipCutsRow.holds Try.pinned (OpenSpec.ofChange clipCutsSpec)

/-- ITS FALSE NEIGHBOUR: 'it returns false'. Refute it at one input. -/
def clipCutsWrong : ChangeSpec := { name := "clipCuts", fn := fun _ => fun
  | [d1, d2] => { results := [.lit (.bool false)], args := [d1, d2] }
  | _ => none }
def ClipCutsWrongFalsely : Prop := clipCutsRow.holds Try.pinned (OpenSpec.ofChange clipCutsWrong)

/-- 'paintboxlaw21.ClipWithin': WHATEVER THE INPUT: true; the input reads as it did. -/
def clipWithinSpec : ChangeSpec := { name := "clipWithin", fn := fun _ => fun
  | [d1, d2] => { results := [.lit (.bool true)], args := [d1, d2] }
  | _ => none }
def clipWithinRow : OpenClaim := { program := "ytofgiimfempcjaa", sum := "3af480828e2243ee656a4f2d7502a81d2966f80553bcd06dc7011e04a6d2b900", func := "paintbox/paintboxlaw21.ClipWithin", spec := "clipWithin", unfollowed := true, recurses := true, apart := false }
def ClipWithinSaid : Prop := clipWithinRow.holds Try.pinned (OpenSpec.ofChange clipWithinSpec)

/-- ITS FALSE NEIGHBOUR: 'it returns false'. Refute it at one input. -/
def clipWithinWrong : ChangeSpec := { name := "clipWithin", fn := fun _ => fun
  | [d1, d2] => { results := [.lit (.bool false)], args := [d1, d2] }
  | _ => none }
def ClipWithinWrongFalsely : Prop := clipWithinRow.holds Try.pinned (OpenSpec.ofChange clipWithinWrong)

/-- 'paintboxlaw21.ClipLines': WHATEVER THE INPUT: true; the input reads as it did. -/
def clipLinesSpec : ChangeSpec := { name := "clipLines", fn := fun _ => fun
  | [d1, d2] => { results := [.lit (.bool true)], args := [d1, d2] }
  | _ => none }
def clipLinesRow : OpenClaim := { program := "ytofgiimfempcjaa", sum := "3af480828e2243ee656a4f2d7502a81d2966f80553bcd06dc7011e04a6d2b900", func := "paintbox/paintboxlaw21.ClipLines", spec := "clipLines", unfollowed := true, recurses := true, apart := false }
def ClipLinesSaid : Prop := clipLinesRow.holds Try.pinned (OpenSpec.ofChange clipLinesSpec)

/-- ITS FALSE NEIGHBOUR: 'it returns false'. Refute it at one input. -/
def clipLinesWrong : ChangeSpec := { name := "clipLines", fn := fun _ => fun
  | [d1, d2] => { results := [.lit (.bool false)], args := [d1, d2] }
  | _ => none }
def ClipLinesWrongFalsely : Prop := clipLinesRow.holds Try.pinned (OpenSpec.ofChange clipLinesWrong)

/- THE SECOND FORM. 'bulk': how many values and letters a reading holds, each counted each time it is reached (what is shared counts as often as it is met; a slice's spare places count too). A statement '..UptoSaid' is the law's where the arguments, and the package variables that the reading takes, are together of bulk at most 1048576: NARROWER than '..Said'. Prove '..Said' where nothing that the law and all that it calls make is longer than what came in: it says more and counts as full. Else prove '..UptoSaid'. A law counts once. -/
mutual
def uptoBulk {H : Type} : DataW H → Nat
  | .lit (.string bytes) => bytes.length + 1
  | .lit _ => 1
  | .nil => 1
  | .ptr d => uptoBulk d + 1
  | .slice elems spare => uptoBulkAll elems + uptoBulkAll spare + 1
  | .agg parts => uptoBulkAll parts + 1
  | .iface _ d => uptoBulk d + 1
  | .map entries => uptoBulkEntries entries + 1
  | .held _ => 1
def uptoBulkAll {H : Type} : List (DataW H) → Nat
  | [] => 0
  | d :: r => uptoBulk d + uptoBulkAll r
def uptoBulkEntries {H : Type} : List (Lit × DataW H) → Nat
  | [] => 0
  | x :: r => uptoBulkEntry x + uptoBulkEntries r
def uptoBulkEntry {H : Type} : Lit × DataW H → Nat
  | (.string bytes, d) => bytes.length + uptoBulk d + 1
  | (_, d) => uptoBulk d + 1
 end
def uptoSmall : (H : Type) → List (DataW H) → Bool := fun _ ds => decide (uptoBulkAll ds ≤ 1048576)
def OpenSpec.upto (s : _root_.Go.ChangeSpec) : _root_.Go.OpenSpec := { _root_.Go.OpenSpec.ofChange s with cond := some uptoSmall }

/-- 'paintboxlaw21.ClipTriangles', WHERE WHAT IT READS IS OF BULK AT MOST 1048576: true; the input reads as it did. -/
def clipTrianglesUptoRow : OpenClaim := { program := "ytofgiimfempcjaa", sum := "3af480828e2243ee656a4f2d7502a81d2966f80553bcd06dc7011e04a6d2b900", func := "paintbox/paintboxlaw21.ClipTriangles", spec := "clipTriangles", unfollowed := true, recurses := true, apart := false, narrowed := true }
def ClipTrianglesUptoSaid : Prop := clipTrianglesUptoRow.holds Try.pinned (OpenSpec.upto clipTrianglesSpec)

/-- 'paintboxlaw21.ClipAreas', WHERE WHAT IT READS IS OF BULK AT MOST 1048576: true; the input reads as it did. -/
def clipAreasUptoRow : OpenClaim := { program := "ytofgiimfempcjaa", sum := "3af480828e2243ee656a4f2d7502a81d2966f80553bcd06dc7011e04a6d2b900", func := "paintbox/paintboxlaw21.ClipAreas", spec := "clipAreas", unfollowed := true, recurses := true, apart := false, narrowed := true }
def ClipAreasUptoSaid : Prop := clipAreasUptoRow.holds Try.pinned (OpenSpec.upto clipAreasSpec)

/-- 'paintboxlaw21.ClipWindows', WHERE WHAT IT READS IS OF BULK AT MOST 1048576: true; the input reads as it did. -/
def clipWindowsUptoRow : OpenClaim := { program := "ytofgiimfempcjaa", sum := "3af480828e2243ee656a4f2d7502a81d2966f80553bcd06dc7011e04a6d2b900", func := "paintbox/paintboxlaw21.ClipWindows", spec := "clipWindows", unfollowed := true, recurses := true, apart := false, narrowed := true }
def ClipWindowsUptoSaid : Prop := clipWindowsUptoRow.holds Try.pinned (OpenSpec.upto clipWindowsSpec)

/-- 'paintboxlaw21.ClipWhole', WHERE WHAT IT READS IS OF BULK AT MOST 1048576: true; the input reads as it did. -/
def clipWholeUptoRow : OpenClaim := { program := "ytofgiimfempcjaa", sum := "3af480828e2243ee656a4f2d7502a81d2966f80553bcd06dc7011e04a6d2b900", func := "paintbox/paintboxlaw21.ClipWhole", spec := "clipWhole", unfollowed := true, recurses := true, apart := false, narrowed := true }
def ClipWholeUptoSaid : Prop := clipWholeUptoRow.holds Try.pinned (OpenSpec.upto clipWholeSpec)

/-- 'paintboxlaw21.ClipCuts', WHERE WHAT IT READS IS OF BULK AT MOST 1048576: true; the input reads as it did. -/
def clipCutsUptoRow : OpenClaim := { program := "ytofgiimfempcjaa", sum := "3af480828e2243ee656a4f2d7502a81d2966f80553bcd06dc7011e04a6d2b900", func := "paintbox/paintboxlaw21.ClipCuts", spec := "clipCuts", unfollowed := true, recurses := true, apart := false, narrowed := true }
def ClipCutsUptoSaid : Prop := clipCutsUptoRow.holds Try.pinned (OpenSpec.upto clipCutsSpec)

/-- 'paintboxlaw21.ClipWithin', WHERE WHAT IT READS IS OF BULK AT MOST 1048576: true; the input reads as it did. -/
def clipWithinUptoRow : OpenClaim := { program := "ytofgiimfempcjaa", sum := "3af480828e2243ee656a4f2d7502a81d2966f80553bcd06dc7011e04a6d2b900", func := "paintbox/paintboxlaw21.ClipWithin", spec := "clipWithin", unfollowed := true, recurses := true, apart := false, narrowed := true }
def ClipWithinUptoSaid : Prop := clipWithinUptoRow.holds Try.pinned (OpenSpec.upto clipWithinSpec)

/-- 'paintboxlaw21.ClipLines', WHERE WHAT IT READS IS OF BULK AT MOST 1048576: true; the input reads as it did. -/
def clipLinesUptoRow : OpenClaim := { program := "ytofgiimfempcjaa", sum := "3af480828e2243ee656a4f2d7502a81d2966f80553bcd06dc7011e04a6d2b900", func := "paintbox/paintboxlaw21.ClipLines", spec := "clipLines", unfollowed := true, recurses := true, apart := false, narrowed := true }
def ClipLinesUptoSaid : Prop := clipLinesUptoRow.holds Try.pinned (OpenSpec.upto clipLinesSpec)

end Rows
end Go.Proofs.Ytofgiimfempcjaa
