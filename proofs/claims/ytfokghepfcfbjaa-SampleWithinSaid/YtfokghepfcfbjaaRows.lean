/-
  No cell of these rows narrows 'for every input' (looked for: loops, veiled, ifaces, maps, wideKeys, modest, calm, conditions, laid).
  DERIVED. THE GIVEN ROWS OF THIS SEAT. 7 by the template 'for every input the law returns true; each argument reads behind the call as it read before'; 0 by the template 'total and deterministic' (their statements: YtfokghepfcfbjaaTotals.lean).
  GIVEN WITH THE SEED: the statements are not yours to turn. If you find one false, say at which input.
  Laid BY PROGRAM, IN A SANDBOX (cutbox-rows.mjs): the forced cells as the released guide's own fill.sh prints them over the translation f2b01e6181ba2a2c… (all of the seat's roots in one cut). By AI agents, Wed Nov 11 2026. No macro, syntax, notation, axiom, sorry.
-/
import Derived.Test.YtfokghepfcfbjaaChecked
import GoSem.Claim
import GoSem.ClaimJoined
import GoSem.ClaimMapViews
import Derived.JoinedTies
import Derived.KernelRfl
namespace Go.Proofs.Ytfokghepfcfbjaa
/- THE CELL 'sum', in the pinned program and in every row, IS THE sha256 OF THE DUMP (.gsa) THAT YtfokghepfcfbjaaProg.lean LOADS. Nothing in Lean hashes anything: it is a label: what it is worth is what the hold of that sum in a sandbox is worth. -/
noncomputable def Try.pinned : Pinned := { name := "ytfokghepfcfbjaa", sum := "f2b01e6181ba2a2cff489444ad0a8c6ddd8e38f901423fe29655869e612b1d27", checked := Try.checked }
namespace Rows
def none {H : Type} : Left H := { results := [], args := [] }

/-- 'paintboxlaw09.SampleWraps': WHATEVER THE INPUT: true; the input reads as it did. -/
def sampleWrapsSpec : ChangeSpec := { name := "sampleWraps", fn := fun _ => fun
  | [d1, d2, d3] => { results := [.lit (.bool true)], args := [d1, d2, d3] }
  | _ => none }
def sampleWrapsRow : OpenClaim := { program := "ytfokghepfcfbjaa", sum := "f2b01e6181ba2a2cff489444ad0a8c6ddd8e38f901423fe29655869e612b1d27", func := "paintbox/paintboxlaw09.SampleWraps", spec := "sampleWraps", unfollowed := true, recurses := true, apart := false }
def SampleWrapsSaid : Prop := sampleWrapsRow.holds Try.pinned (OpenSpec.ofChange sampleWrapsSpec)

/-- ITS FALSE NEIGHBOUR: 'it returns false'. Refute it at one input. -/
def sampleWrapsWrong : ChangeSpec := { name := "sampleWraps", fn := fun _ => fun
  | [d1, d2, d3] => { results := [.lit (.bool false)], args := [d1, d2, d3] }
  | _ => none }
def SampleWrapsWrongFalsely : Prop := sampleWrapsRow.holds Try.pinned (OpenSpec.ofChange sampleWrapsWrong)

/-- 'paintboxlaw09.SampleAts': WHATEVER THE INPUT: true; the input reads as it did. -/
def sampleAtsSpec : ChangeSpec := { name := "sampleAts", fn := fun _ => fun
  | [d1, d2] => { results := [.lit (.bool true)], args := [d1, d2] }
  | _ => none }
def sampleAtsRow : OpenClaim := { program := "ytfokghepfcfbjaa", sum := "f2b01e6181ba2a2cff489444ad0a8c6ddd8e38f901423fe29655869e612b1d27", func := "paintbox/paintboxlaw09.SampleAts", spec := "sampleAts", unfollowed := true, recurses := true, apart := false }
def SampleAtsSaid : Prop := sampleAtsRow.holds Try.pinned (OpenSpec.ofChange sampleAtsSpec)

/-- ITS FALSE NEIGHBOUR: 'it returns false'. Refute it at one input. -/
def sampleAtsWrong : ChangeSpec := { name := "sampleAts", fn := fun _ => fun
  | [d1, d2] => { results := [.lit (.bool false)], args := [d1, d2] }
  | _ => none }
def SampleAtsWrongFalsely : Prop := sampleAtsRow.holds Try.pinned (OpenSpec.ofChange sampleAtsWrong)

/-- 'paintboxlaw09.SampleTexels': WHATEVER THE INPUT: true; the input reads as it did. -/
def sampleTexelsSpec : ChangeSpec := { name := "sampleTexels", fn := fun _ => fun
  | [d1, d2] => { results := [.lit (.bool true)], args := [d1, d2] }
  | _ => none }
def sampleTexelsRow : OpenClaim := { program := "ytfokghepfcfbjaa", sum := "f2b01e6181ba2a2cff489444ad0a8c6ddd8e38f901423fe29655869e612b1d27", func := "paintbox/paintboxlaw09.SampleTexels", spec := "sampleTexels", unfollowed := true, recurses := true, apart := false }
def SampleTexelsSaid : Prop := sampleTexelsRow.holds Try.pinned (OpenSpec.ofChange sampleTexelsSpec)

/-- ITS FALSE NEIGHBOUR: 'it returns false'. Refute it at one input. -/
def sampleTexelsWrong : ChangeSpec := { name := "sampleTexels", fn := fun _ => fun
  | [d1, d2] => { results := [.lit (.bool false)], args := [d1, d2] }
  | _ => none }
def SampleTexelsWrongFalsely : Prop := sampleTexelsRow.holds Try.pinned (OpenSpec.ofChange sampleTexelsWrong)

/-- 'paintboxlaw09.SampleLevels': WHATEVER THE INPUT: true; the input reads as it did. -/
def sampleLevelsSpec : ChangeSpec := { name := "sampleLevels", fn := fun _ => fun
  | [d1, d2] => { results := [.lit (.bool true)], args := [d1, d2] }
  | _ => none }
def sampleLevelsRow : OpenClaim := { program := "ytfokghepfcfbjaa", sum := "f2b01e6181ba2a2cff489444ad0a8c6ddd8e38f901423fe29655869e612b1d27", func := "paintbox/paintboxlaw09.SampleLevels", spec := "sampleLevels", unfollowed := true, recurses := true, apart := false }
def SampleLevelsSaid : Prop := sampleLevelsRow.holds Try.pinned (OpenSpec.ofChange sampleLevelsSpec)

/-- ITS FALSE NEIGHBOUR: 'it returns false'. Refute it at one input. -/
def sampleLevelsWrong : ChangeSpec := { name := "sampleLevels", fn := fun _ => fun
  | [d1, d2] => { results := [.lit (.bool false)], args := [d1, d2] }
  | _ => none }
def SampleLevelsWrongFalsely : Prop := sampleLevelsRow.holds Try.pinned (OpenSpec.ofChange sampleLevelsWrong)

/-- 'paintboxlaw09.SampleRepeats': WHATEVER THE INPUT: true; the input reads as it did. -/
def sampleRepeatsSpec : ChangeSpec := { name := "sampleRepeats", fn := fun _ => fun
  | [d1, d2, d3] => { results := [.lit (.bool true)], args := [d1, d2, d3] }
  | _ => none }
def sampleRepeatsRow : OpenClaim := { program := "ytfokghepfcfbjaa", sum := "f2b01e6181ba2a2cff489444ad0a8c6ddd8e38f901423fe29655869e612b1d27", func := "paintbox/paintboxlaw09.SampleRepeats", spec := "sampleRepeats", unfollowed := true, recurses := true, apart := false }
def SampleRepeatsSaid : Prop := sampleRepeatsRow.holds Try.pinned (OpenSpec.ofChange sampleRepeatsSpec)

/-- ITS FALSE NEIGHBOUR: 'it returns false'. Refute it at one input. -/
def sampleRepeatsWrong : ChangeSpec := { name := "sampleRepeats", fn := fun _ => fun
  | [d1, d2, d3] => { results := [.lit (.bool false)], args := [d1, d2, d3] }
  | _ => none }
def SampleRepeatsWrongFalsely : Prop := sampleRepeatsRow.holds Try.pinned (OpenSpec.ofChange sampleRepeatsWrong)

/-- 'paintboxlaw09.SampleWithin': WHATEVER THE INPUT: true; the input reads as it did. -/
def sampleWithinSpec : ChangeSpec := { name := "sampleWithin", fn := fun _ => fun
  | [d1, d2] => { results := [.lit (.bool true)], args := [d1, d2] }
  | _ => none }
def sampleWithinRow : OpenClaim := { program := "ytfokghepfcfbjaa", sum := "f2b01e6181ba2a2cff489444ad0a8c6ddd8e38f901423fe29655869e612b1d27", func := "paintbox/paintboxlaw09.SampleWithin", spec := "sampleWithin", unfollowed := true, recurses := true, apart := false }
def SampleWithinSaid : Prop := sampleWithinRow.holds Try.pinned (OpenSpec.ofChange sampleWithinSpec)

/-- ITS FALSE NEIGHBOUR: 'it returns false'. Refute it at one input. -/
def sampleWithinWrong : ChangeSpec := { name := "sampleWithin", fn := fun _ => fun
  | [d1, d2] => { results := [.lit (.bool false)], args := [d1, d2] }
  | _ => none }
def SampleWithinWrongFalsely : Prop := sampleWithinRow.holds Try.pinned (OpenSpec.ofChange sampleWithinWrong)

/-- 'paintboxlaw09.SampleMiddles': WHATEVER THE INPUT: true; the input reads as it did. -/
def sampleMiddlesSpec : ChangeSpec := { name := "sampleMiddles", fn := fun _ => fun
  | [d1, d2] => { results := [.lit (.bool true)], args := [d1, d2] }
  | _ => none }
def sampleMiddlesRow : OpenClaim := { program := "ytfokghepfcfbjaa", sum := "f2b01e6181ba2a2cff489444ad0a8c6ddd8e38f901423fe29655869e612b1d27", func := "paintbox/paintboxlaw09.SampleMiddles", spec := "sampleMiddles", unfollowed := true, recurses := true, apart := false }
def SampleMiddlesSaid : Prop := sampleMiddlesRow.holds Try.pinned (OpenSpec.ofChange sampleMiddlesSpec)

/-- ITS FALSE NEIGHBOUR: 'it returns false'. Refute it at one input. -/
def sampleMiddlesWrong : ChangeSpec := { name := "sampleMiddles", fn := fun _ => fun
  | [d1, d2] => { results := [.lit (.bool false)], args := [d1, d2] }
  | _ => none }
def SampleMiddlesWrongFalsely : Prop := sampleMiddlesRow.holds Try.pinned (OpenSpec.ofChange sampleMiddlesWrong)

/- THE SECOND FORM. 'bulk': how many values and letters a reading holds, each counted each time it is reached (what is shared counts as often as it is met; a slice's spare places count too). A statement '..UptoSaid' is the law's where the arguments, and the package variables that the reading takes, are together of bulk at most 1048576: NARROWER than '..Said'. Prove '..Said' where nothing that the law and all that it calls make is longer than what came in: it says more and counts as full. Else prove '..UptoSaid'. A law counts once. -/
mutual
def uptoBulk {H : Type} : DataW H → Nat
  | .lit (.string bytes) => bytes.length + 1
  | .lit _ => 1
  | .nil => 1
  | .ptr d => uptoBulk d + 1
  | .slice elems spare => uptoBulkAll elems + uptoBulkAll spare + 1
  | .agg parts => uptoBulkAll parts + 1
  | .iface _ d => uptoBulk d + 1
  | .map entries => uptoBulkEntries entries + 1
  | .held _ => 1
def uptoBulkAll {H : Type} : List (DataW H) → Nat
  | [] => 0
  | d :: r => uptoBulk d + uptoBulkAll r
def uptoBulkEntries {H : Type} : List (Lit × DataW H) → Nat
  | [] => 0
  | x :: r => uptoBulkEntry x + uptoBulkEntries r
def uptoBulkEntry {H : Type} : Lit × DataW H → Nat
  | (.string bytes, d) => bytes.length + uptoBulk d + 1
  | (_, d) => uptoBulk d + 1
 end
def uptoSmall : (H : Type) → List (DataW H) → Bool := fun _ ds => decide (uptoBulkAll ds ≤ 1048576)
def OpenSpec.upto (s : _root_.Go.ChangeSpec) : _root_.Go.OpenSpec := { _root_.Go.OpenSpec.ofChange s with cond := some uptoSmall }

/-- 'paintboxlaw09.SampleWraps', WHERE WHAT IT READS IS OF BULK AT MOST 1048576: true; the input reads as it did. -/
def sampleWrapsUptoRow : OpenClaim := { program := "ytfokghepfcfbjaa", sum := "f2b01e6181ba2a2cff489444ad0a8c6ddd8e38f901423fe29655869e612b1d27", func := "paintbox/paintboxlaw09.SampleWraps", spec := "sampleWraps", unfollowed := true, recurses := true, apart := false, narrowed := true }
def SampleWrapsUptoSaid : Prop := sampleWrapsUptoRow.holds Try.pinned (OpenSpec.upto sampleWrapsSpec)

/-- 'paintboxlaw09.SampleAts', WHERE WHAT IT READS IS OF BULK AT MOST 1048576: true; the input reads as it did. -/
def sampleAtsUptoRow : OpenClaim := { program := "ytfokghepfcfbjaa", sum := "f2b01e6181ba2a2cff489444ad0a8c6ddd8e38f901423fe29655869e612b1d27", func := "paintbox/paintboxlaw09.SampleAts", spec := "sampleAts", unfollowed := true, recurses := true, apart := false, narrowed := true }
def SampleAtsUptoSaid : Prop := sampleAtsUptoRow.holds Try.pinned (OpenSpec.upto sampleAtsSpec)

/-- 'paintboxlaw09.SampleTexels', WHERE WHAT IT READS IS OF BULK AT MOST 1048576: true; the input reads as it did. -/
def sampleTexelsUptoRow : OpenClaim := { program := "ytfokghepfcfbjaa", sum := "f2b01e6181ba2a2cff489444ad0a8c6ddd8e38f901423fe29655869e612b1d27", func := "paintbox/paintboxlaw09.SampleTexels", spec := "sampleTexels", unfollowed := true, recurses := true, apart := false, narrowed := true }
def SampleTexelsUptoSaid : Prop := sampleTexelsUptoRow.holds Try.pinned (OpenSpec.upto sampleTexelsSpec)

/-- 'paintboxlaw09.SampleLevels', WHERE WHAT IT READS IS OF BULK AT MOST 1048576: true; the input reads as it did. -/
def sampleLevelsUptoRow : OpenClaim := { program := "ytfokghepfcfbjaa", sum := "f2b01e6181ba2a2cff489444ad0a8c6ddd8e38f901423fe29655869e612b1d27", func := "paintbox/paintboxlaw09.SampleLevels", spec := "sampleLevels", unfollowed := true, recurses := true, apart := false, narrowed := true }
def SampleLevelsUptoSaid : Prop := sampleLevelsUptoRow.holds Try.pinned (OpenSpec.upto sampleLevelsSpec)

/-- 'paintboxlaw09.SampleRepeats', WHERE WHAT IT READS IS OF BULK AT MOST 1048576: true; the input reads as it did. -/
def sampleRepeatsUptoRow : OpenClaim := { program := "ytfokghepfcfbjaa", sum := "f2b01e6181ba2a2cff489444ad0a8c6ddd8e38f901423fe29655869e612b1d27", func := "paintbox/paintboxlaw09.SampleRepeats", spec := "sampleRepeats", unfollowed := true, recurses := true, apart := false, narrowed := true }
def SampleRepeatsUptoSaid : Prop := sampleRepeatsUptoRow.holds Try.pinned (OpenSpec.upto sampleRepeatsSpec)

/-- 'paintboxlaw09.SampleWithin', WHERE WHAT IT READS IS OF BULK AT MOST 1048576: true; the input reads as it did. -/
def sampleWithinUptoRow : OpenClaim := { program := "ytfokghepfcfbjaa", sum := "f2b01e6181ba2a2cff489444ad0a8c6ddd8e38f901423fe29655869e612b1d27", func := "paintbox/paintboxlaw09.SampleWithin", spec := "sampleWithin", unfollowed := true, recurses := true, apart := false, narrowed := true }
def SampleWithinUptoSaid : Prop := sampleWithinUptoRow.holds Try.pinned (OpenSpec.upto sampleWithinSpec)

/-- 'paintboxlaw09.SampleMiddles', WHERE WHAT IT READS IS OF BULK AT MOST 1048576: true; the input reads as it did. -/
def sampleMiddlesUptoRow : OpenClaim := { program := "ytfokghepfcfbjaa", sum := "f2b01e6181ba2a2cff489444ad0a8c6ddd8e38f901423fe29655869e612b1d27", func := "paintbox/paintboxlaw09.SampleMiddles", spec := "sampleMiddles", unfollowed := true, recurses := true, apart := false, narrowed := true }
def SampleMiddlesUptoSaid : Prop := sampleMiddlesUptoRow.holds Try.pinned (OpenSpec.upto sampleMiddlesSpec)

end Rows
end Go.Proofs.Ytfokghepfcfbjaa
