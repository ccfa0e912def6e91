/-
  No cell of these rows narrows 'for every input' (looked for: loops, veiled, ifaces, maps, wideKeys, modest, calm, conditions, laid).
  DERIVED. THE GIVEN ROWS OF THIS SEAT. 9 by the template 'for every input the law returns true; each argument reads behind the call as it read before'; 0 by the template 'total and deterministic' (their statements: YtjjklckfbdaadaaTotals.lean).
  GIVEN WITH THE SEED: the statements are not yours to turn. If you find one false, say at which input.
  Laid BY PROGRAM, IN A SANDBOX (cutbox-rows.mjs): the forced cells as the released guide's own fill.sh prints them over the translation 46a06795bc523a27… (all of the seat's roots in one cut). By AI agents, Wed Nov 11 2026. No macro, syntax, notation, axiom, sorry.
-/
import Derived.Test.YtjjklckfbdaadaaChecked
import GoSem.Claim
import GoSem.ClaimJoined
import GoSem.ClaimMapViews
import Derived.JoinedTies
import Derived.KernelRfl
namespace Go.Proofs.Ytjjklckfbdaadaa
/- THE CELL 'sum', in the pinned program and in every row, IS THE sha256 OF THE DUMP (.gsa) THAT YtjjklckfbdaadaaProg.lean LOADS. Nothing in Lean hashes anything: it is a label: what it is worth is what the hold of that sum in a sandbox is worth. -/
noncomputable def Try.pinned : Pinned := { name := "ytjjklckfbdaadaa", sum := "46a06795bc523a2757d31db1f534da8bfa7542e0c25e6ac643d083d10bab8587", checked := Try.checked }
namespace Rows
def none {H : Type} : Left H := { results := [], args := [] }

/-- 'paintboxlaw04.MathsSquares': WHATEVER THE INPUT: true; the input reads as it did. -/
def mathsSquaresSpec : ChangeSpec := { name := "mathsSquares", fn := fun _ => fun
  | [d1, d2] => { results := [.lit (.bool true)], args := [d1, d2] }
  | _ => none }
def mathsSquaresRow : OpenClaim := { program := "ytjjklckfbdaadaa", sum := "46a06795bc523a2757d31db1f534da8bfa7542e0c25e6ac643d083d10bab8587", func := "paintbox/paintboxlaw04.MathsSquares", spec := "mathsSquares", inPlace := ["math/bits.Add64"], unfollowed := true, recurses := true, apart := false }
def MathsSquaresSaid : Prop := mathsSquaresRow.holds Try.pinned (OpenSpec.ofChange mathsSquaresSpec)

/-- ITS FALSE NEIGHBOUR: 'it returns false'. Refute it at one input. -/
def mathsSquaresWrong : ChangeSpec := { name := "mathsSquares", fn := fun _ => fun
  | [d1, d2] => { results := [.lit (.bool false)], args := [d1, d2] }
  | _ => none }
def MathsSquaresWrongFalsely : Prop := mathsSquaresRow.holds Try.pinned (OpenSpec.ofChange mathsSquaresWrong)

/-- 'paintboxlaw04.MathsWhole': WHATEVER THE INPUT: true; the input reads as it did. -/
def mathsWholeSpec : ChangeSpec := { name := "mathsWhole", fn := fun _ => fun
  | [d] => { results := [.lit (.bool true)], args := [d] }
  | _ => none }
def mathsWholeRow : OpenClaim := { program := "ytjjklckfbdaadaa", sum := "46a06795bc523a2757d31db1f534da8bfa7542e0c25e6ac643d083d10bab8587", func := "paintbox/paintboxlaw04.MathsWhole", spec := "mathsWhole", inPlace := ["math/bits.Add64"], unfollowed := true, recurses := true, apart := false }
def MathsWholeSaid : Prop := mathsWholeRow.holds Try.pinned (OpenSpec.ofChange mathsWholeSpec)

/-- ITS FALSE NEIGHBOUR: 'it returns false'. Refute it at one input. -/
def mathsWholeWrong : ChangeSpec := { name := "mathsWhole", fn := fun _ => fun
  | [d] => { results := [.lit (.bool false)], args := [d] }
  | _ => none }
def MathsWholeWrongFalsely : Prop := mathsWholeRow.holds Try.pinned (OpenSpec.ofChange mathsWholeWrong)

/-- 'paintboxlaw04.MathsSines': WHATEVER THE INPUT: true; the input reads as it did. -/
def mathsSinesSpec : ChangeSpec := { name := "mathsSines", fn := fun _ => fun
  | [d] => { results := [.lit (.bool true)], args := [d] }
  | _ => none }
def mathsSinesRow : OpenClaim := { program := "ytjjklckfbdaadaa", sum := "46a06795bc523a2757d31db1f534da8bfa7542e0c25e6ac643d083d10bab8587", func := "paintbox/paintboxlaw04.MathsSines", spec := "mathsSines", inPlace := ["math/bits.Add64"], unfollowed := true, recurses := true, apart := false }
def MathsSinesSaid : Prop := mathsSinesRow.holds Try.pinned (OpenSpec.ofChange mathsSinesSpec)

/-- ITS FALSE NEIGHBOUR: 'it returns false'. Refute it at one input. -/
def mathsSinesWrong : ChangeSpec := { name := "mathsSines", fn := fun _ => fun
  | [d] => { results := [.lit (.bool false)], args := [d] }
  | _ => none }
def MathsSinesWrongFalsely : Prop := mathsSinesRow.holds Try.pinned (OpenSpec.ofChange mathsSinesWrong)

/-- 'paintboxlaw04.MathsTurns': WHATEVER THE INPUT: true; the input reads as it did. -/
def mathsTurnsSpec : ChangeSpec := { name := "mathsTurns", fn := fun _ => fun
  | [d] => { results := [.lit (.bool true)], args := [d] }
  | _ => none }
def mathsTurnsRow : OpenClaim := { program := "ytjjklckfbdaadaa", sum := "46a06795bc523a2757d31db1f534da8bfa7542e0c25e6ac643d083d10bab8587", func := "paintbox/paintboxlaw04.MathsTurns", spec := "mathsTurns", inPlace := ["math/bits.Add64"], unfollowed := true, recurses := true, apart := false }
def MathsTurnsSaid : Prop := mathsTurnsRow.holds Try.pinned (OpenSpec.ofChange mathsTurnsSpec)

/-- ITS FALSE NEIGHBOUR: 'it returns false'. Refute it at one input. -/
def mathsTurnsWrong : ChangeSpec := { name := "mathsTurns", fn := fun _ => fun
  | [d] => { results := [.lit (.bool false)], args := [d] }
  | _ => none }
def MathsTurnsWrongFalsely : Prop := mathsTurnsRow.holds Try.pinned (OpenSpec.ofChange mathsTurnsWrong)

/-- 'paintboxlaw04.MathsRoots': WHATEVER THE INPUT: true; the input reads as it did. -/
def mathsRootsSpec : ChangeSpec := { name := "mathsRoots", fn := fun _ => fun
  | [d1, d2] => { results := [.lit (.bool true)], args := [d1, d2] }
  | _ => none }
def mathsRootsRow : OpenClaim := { program := "ytjjklckfbdaadaa", sum := "46a06795bc523a2757d31db1f534da8bfa7542e0c25e6ac643d083d10bab8587", func := "paintbox/paintboxlaw04.MathsRoots", spec := "mathsRoots", inPlace := ["math/bits.Add64"], unfollowed := true, recurses := true, apart := false }
def MathsRootsSaid : Prop := mathsRootsRow.holds Try.pinned (OpenSpec.ofChange mathsRootsSpec)

/-- ITS FALSE NEIGHBOUR: 'it returns false'. Refute it at one input. -/
def mathsRootsWrong : ChangeSpec := { name := "mathsRoots", fn := fun _ => fun
  | [d1, d2] => { results := [.lit (.bool false)], args := [d1, d2] }
  | _ => none }
def MathsRootsWrongFalsely : Prop := mathsRootsRow.holds Try.pinned (OpenSpec.ofChange mathsRootsWrong)

/-- 'paintboxlaw04.MathsRises': WHATEVER THE INPUT: true; the input reads as it did. -/
def mathsRisesSpec : ChangeSpec := { name := "mathsRises", fn := fun _ => fun
  | [d1, d2] => { results := [.lit (.bool true)], args := [d1, d2] }
  | _ => none }
def mathsRisesRow : OpenClaim := { program := "ytjjklckfbdaadaa", sum := "46a06795bc523a2757d31db1f534da8bfa7542e0c25e6ac643d083d10bab8587", func := "paintbox/paintboxlaw04.MathsRises", spec := "mathsRises", inPlace := ["math/bits.Add64"], unfollowed := true, recurses := true, apart := false }
def MathsRisesSaid : Prop := mathsRisesRow.holds Try.pinned (OpenSpec.ofChange mathsRisesSpec)

/-- ITS FALSE NEIGHBOUR: 'it returns false'. Refute it at one input. -/
def mathsRisesWrong : ChangeSpec := { name := "mathsRises", fn := fun _ => fun
  | [d1, d2] => { results := [.lit (.bool false)], args := [d1, d2] }
  | _ => none }
def MathsRisesWrongFalsely : Prop := mathsRisesRow.holds Try.pinned (OpenSpec.ofChange mathsRisesWrong)

/-- 'paintboxlaw04.MathsPowers': WHATEVER THE INPUT: true; the input reads as it did. -/
def mathsPowersSpec : ChangeSpec := { name := "mathsPowers", fn := fun _ => fun
  | [d1, d2] => { results := [.lit (.bool true)], args := [d1, d2] }
  | _ => none }
def mathsPowersRow : OpenClaim := { program := "ytjjklckfbdaadaa", sum := "46a06795bc523a2757d31db1f534da8bfa7542e0c25e6ac643d083d10bab8587", func := "paintbox/paintboxlaw04.MathsPowers", spec := "mathsPowers", inPlace := ["math/bits.Add64"], unfollowed := true, recurses := true, apart := false }
def MathsPowersSaid : Prop := mathsPowersRow.holds Try.pinned (OpenSpec.ofChange mathsPowersSpec)

/-- ITS FALSE NEIGHBOUR: 'it returns false'. Refute it at one input. -/
def mathsPowersWrong : ChangeSpec := { name := "mathsPowers", fn := fun _ => fun
  | [d1, d2] => { results := [.lit (.bool false)], args := [d1, d2] }
  | _ => none }
def MathsPowersWrongFalsely : Prop := mathsPowersRow.holds Try.pinned (OpenSpec.ofChange mathsPowersWrong)

/-- 'paintboxlaw04.MathsLengths': WHATEVER THE INPUT: true; the input reads as it did. -/
def mathsLengthsSpec : ChangeSpec := { name := "mathsLengths", fn := fun _ => fun
  | [d1, d2] => { results := [.lit (.bool true)], args := [d1, d2] }
  | _ => none }
def mathsLengthsRow : OpenClaim := { program := "ytjjklckfbdaadaa", sum := "46a06795bc523a2757d31db1f534da8bfa7542e0c25e6ac643d083d10bab8587", func := "paintbox/paintboxlaw04.MathsLengths", spec := "mathsLengths", inPlace := ["math/bits.Add64"], unfollowed := true, recurses := true, apart := false }
def MathsLengthsSaid : Prop := mathsLengthsRow.holds Try.pinned (OpenSpec.ofChange mathsLengthsSpec)

/-- ITS FALSE NEIGHBOUR: 'it returns false'. Refute it at one input. -/
def mathsLengthsWrong : ChangeSpec := { name := "mathsLengths", fn := fun _ => fun
  | [d1, d2] => { results := [.lit (.bool false)], args := [d1, d2] }
  | _ => none }
def MathsLengthsWrongFalsely : Prop := mathsLengthsRow.holds Try.pinned (OpenSpec.ofChange mathsLengthsWrong)

/-- 'paintboxlaw04.MathsUnits': WHATEVER THE INPUT: true; the input reads as it did. -/
def mathsUnitsSpec : ChangeSpec := { name := "mathsUnits", fn := fun _ => fun
  | [d1, d2] => { results := [.lit (.bool true)], args := [d1, d2] }
  | _ => none }
def mathsUnitsRow : OpenClaim := { program := "ytjjklckfbdaadaa", sum := "46a06795bc523a2757d31db1f534da8bfa7542e0c25e6ac643d083d10bab8587", func := "paintbox/paintboxlaw04.MathsUnits", spec := "mathsUnits", inPlace := ["math/bits.Add64"], unfollowed := true, recurses := true, apart := false }
def MathsUnitsSaid : Prop := mathsUnitsRow.holds Try.pinned (OpenSpec.ofChange mathsUnitsSpec)

/-- ITS FALSE NEIGHBOUR: 'it returns false'. Refute it at one input. -/
def mathsUnitsWrong : ChangeSpec := { name := "mathsUnits", fn := fun _ => fun
  | [d1, d2] => { results := [.lit (.bool false)], args := [d1, d2] }
  | _ => none }
def MathsUnitsWrongFalsely : Prop := mathsUnitsRow.holds Try.pinned (OpenSpec.ofChange mathsUnitsWrong)

/- THE SECOND FORM. 'bulk': how many values and letters a reading holds, each counted each time it is reached (what is shared counts as often as it is met; a slice's spare places count too). A statement '..UptoSaid' is the law's where the arguments, and the package variables that the reading takes, are together of bulk at most 1048576: NARROWER than '..Said'. Prove '..Said' where nothing that the law and all that it calls make is longer than what came in: it says more and counts as full. Else prove '..UptoSaid'. A law counts once. -/
mutual
def uptoBulk {H : Type} : DataW H → Nat
  | .lit (.string bytes) => bytes.length + 1
  | .lit _ => 1
  | .nil => 1
  | .ptr d => uptoBulk d + 1
  | .slice elems spare => uptoBulkAll elems + uptoBulkAll spare + 1
  | .agg parts => uptoBulkAll parts + 1
  | .iface _ d => uptoBulk d + 1
  | .map entries => uptoBulkEntries entries + 1
  | .held _ => 1
def uptoBulkAll {H : Type} : List (DataW H) → Nat
  | [] => 0
  | d :: r => uptoBulk d + uptoBulkAll r
def uptoBulkEntries {H : Type} : List (Lit × DataW H) → Nat
  | [] => 0
  | x :: r => uptoBulkEntry x + uptoBulkEntries r
def uptoBulkEntry {H : Type} : Lit × DataW H → Nat
  | (.string bytes, d) => bytes.length + uptoBulk d + 1
  | (_, d) => uptoBulk d + 1
 end
def uptoSmall : (H : Type) → List (DataW H) → Bool := fun _ ds => decide (uptoBulkAll ds ≤ 1048576)
def OpenSpec.upto (s : _root_.Go.ChangeSpec) : _root_.Go.OpenSpec := { _root_.Go.OpenSpec.ofChange s with cond := some uptoSmall }

/-- 'paintboxlaw04.MathsSquares', WHERE WHAT IT READS IS OF BULK AT MOST 1048576: true; the input reads as it did. -/
def mathsSquaresUptoRow : OpenClaim := { program := "ytjjklckfbdaadaa", sum := "46a06795bc523a2757d31db1f534da8bfa7542e0c25e6ac643d083d10bab8587", func := "paintbox/paintboxlaw04.MathsSquares", spec := "mathsSquares", inPlace := ["math/bits.Add64"], unfollowed := true, recurses := true, apart := false, narrowed := true }
def MathsSquaresUptoSaid : Prop := mathsSquaresUptoRow.holds Try.pinned (OpenSpec.upto mathsSquaresSpec)

/-- 'paintboxlaw04.MathsWhole', WHERE WHAT IT READS IS OF BULK AT MOST 1048576: true; the input reads as it did. -/
def mathsWholeUptoRow : OpenClaim := { program := "ytjjklckfbdaadaa", sum := "46a06795bc523a2757d31db1f534da8bfa7542e0c25e6ac643d083d10bab8587", func := "paintbox/paintboxlaw04.MathsWhole", spec := "mathsWhole", inPlace := ["math/bits.Add64"], unfollowed := true, recurses := true, apart := false, narrowed := true }
def MathsWholeUptoSaid : Prop := mathsWholeUptoRow.holds Try.pinned (OpenSpec.upto mathsWholeSpec)

/-- 'paintboxlaw04.MathsSines', WHERE WHAT IT READS IS OF BULK AT MOST 1048576: true; the input reads as it did. -/
def mathsSinesUptoRow : OpenClaim := { program := "ytjjklckfbdaadaa", sum := "46a06795bc523a2757d31db1f534da8bfa7542e0c25e6ac643d083d10bab8587", func := "paintbox/paintboxlaw04.MathsSines", spec := "mathsSines", inPlace := ["math/bits.Add64"], unfollowed := true, recurses := true, apart := false, narrowed := true }
def MathsSinesUptoSaid : Prop := mathsSinesUptoRow.holds Try.pinned (OpenSpec.upto mathsSinesSpec)

/-- 'paintboxlaw04.MathsTurns', WHERE WHAT IT READS IS OF BULK AT MOST 1048576: true; the input reads as it did. -/
def mathsTurnsUptoRow : OpenClaim := { program := "ytjjklckfbdaadaa", sum := "46a06795bc523a2757d31db1f534da8bfa7542e0c25e6ac643d083d10bab8587", func := "paintbox/paintboxlaw04.MathsTurns", spec := "mathsTurns", inPlace := ["math/bits.Add64"], unfollowed := true, recurses := true, apart := false, narrowed := true }
def MathsTurnsUptoSaid : Prop := mathsTurnsUptoRow.holds Try.pinned (OpenSpec.upto mathsTurnsSpec)

/-- 'paintboxlaw04.MathsRoots', WHERE WHAT IT READS IS OF BULK AT MOST 1048576: true; the input reads as it did. -/
def mathsRootsUptoRow : OpenClaim := { program := "ytjjklckfbdaadaa", sum := "46a06795bc523a2757d31db1f534da8bfa7542e0c25e6ac643d083d10bab8587", func := "paintbox/paintboxlaw04.MathsRoots", spec := "mathsRoots", inPlace := ["math/bits.Add64"], unfollowed := true, recurses := true, apart := false, narrowed := true }
def MathsRootsUptoSaid : Prop := mathsRootsUptoRow.holds Try.pinned (OpenSpec.upto mathsRootsSpec)

/-- 'paintboxlaw04.MathsRises', WHERE WHAT IT READS IS OF BULK AT MOST 1048576: true; the input reads as it did. -/
def mathsRisesUptoRow : OpenClaim := { program := "ytjjklckfbdaadaa", sum := "46a06795bc523a2757d31db1f534da8bfa7542e0c25e6ac643d083d10bab8587", func := "paintbox/paintboxlaw04.MathsRises", spec := "mathsRises", inPlace := ["math/bits.Add64"], unfollowed := true, recurses := true, apart := false, narrowed := true }
def MathsRisesUptoSaid : Prop := mathsRisesUptoRow.holds Try.pinned (OpenSpec.upto mathsRisesSpec)

/-- 'paintboxlaw04.MathsPowers', WHERE WHAT IT READS IS OF BULK AT MOST 1048576: true; the input reads as it did. -/
def mathsPowersUptoRow : OpenClaim := { program := "ytjjklckfbdaadaa", sum := "46a06795bc523a2757d31db1f534da8bfa7542e0c25e6ac643d083d10bab8587", func := "paintbox/paintboxlaw04.MathsPowers", spec := "mathsPowers", inPlace := ["math/bits.Add64"], unfollowed := true, recurses := true, apart := false, narrowed := true }
def MathsPowersUptoSaid : Prop := mathsPowersUptoRow.holds Try.pinned (OpenSpec.upto mathsPowersSpec)

/-- 'paintboxlaw04.MathsLengths', WHERE WHAT IT READS IS OF BULK AT MOST 1048576: true; the input reads as it did. -/
def mathsLengthsUptoRow : OpenClaim := { program := "ytjjklckfbdaadaa", sum := "46a06795bc523a2757d31db1f534da8bfa7542e0c25e6ac643d083d10bab8587", func := "paintbox/paintboxlaw04.MathsLengths", spec := "mathsLengths", inPlace := ["math/bits.Add64"], unfollowed := true, recurses := true, apart := false, narrowed := true }
def MathsLengthsUptoSaid : Prop := mathsLengthsUptoRow.holds Try.pinned (OpenSpec.upto mathsLengthsSpec)

/-- 'paintboxlaw04.MathsUnits', WHERE WHAT IT READS IS OF BULK AT MOST 1048576: true; the input reads as it did. -/
def mathsUnitsUptoRow : OpenClaim := { program := "ytjjklckfbdaadaa", sum := "46a06795bc523a2757d31db1f534da8bfa7542e0c25e6ac643d083d10bab8587", func := "paintbox/paintboxlaw04.MathsUnits", spec := "mathsUnits", inPlace := ["math/bits.Add64"], unfollowed := true, recurses := true, apart := false, narrowed := true }
def MathsUnitsUptoSaid : Prop := mathsUnitsUptoRow.holds Try.pinned (OpenSpec.upto mathsUnitsSpec)

end Rows
end Go.Proofs.Ytjjklckfbdaadaa
