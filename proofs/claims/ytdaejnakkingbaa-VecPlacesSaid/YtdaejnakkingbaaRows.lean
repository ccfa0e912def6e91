/-
  No cell of these rows narrows 'for every input' (looked for: loops, veiled, ifaces, maps, wideKeys, modest, calm, conditions, laid).
  DERIVED. THE GIVEN ROWS OF THIS SEAT. 7 by the template 'for every input the law returns true; each argument reads behind the call as it read before'; 0 by the template 'total and deterministic' (their statements: YtdaejnakkingbaaTotals.lean).
  GIVEN WITH THE SEED: the statements are not yours to turn. If you find one false, say at which input.
  Laid BY PROGRAM, IN A SANDBOX (cutbox-rows.mjs): the forced cells as the released guide's own fill.sh prints them over the translation 62c9e4d7ff184f69… (all of the seat's roots in one cut). By AI agents, Wed Nov 11 2026. No macro, syntax, notation, axiom, sorry.
-/
import Derived.Test.YtdaejnakkingbaaChecked
import GoSem.Claim
import GoSem.ClaimJoined
import GoSem.ClaimMapViews
import Derived.JoinedTies
import Derived.KernelRfl
namespace Go.Proofs.Ytdaejnakkingbaa
/- THE CELL 'sum', in the pinned program and in every row, IS THE sha256 OF THE DUMP (.gsa) THAT YtdaejnakkingbaaProg.lean LOADS. Nothing in Lean hashes anything: it is a label: what it is worth is what the hold of that sum in a sandbox is worth. -/
noncomputable def Try.pinned : Pinned := { name := "ytdaejnakkingbaa", sum := "62c9e4d7ff184f69bee91502311e9631f7c9af3879e6494d544172fa11a350c1", checked := Try.checked }
namespace Rows
def none {H : Type} : Left H := { results := [], args := [] }

/-- 'paintboxlaw03.VecTwos': WHATEVER THE INPUT: true; the input reads as it did. -/
def vecTwosSpec : ChangeSpec := { name := "vecTwos", fn := fun _ => fun
  | [d1, d2, d3] => { results := [.lit (.bool true)], args := [d1, d2, d3] }
  | _ => none }
def vecTwosRow : OpenClaim := { program := "ytdaejnakkingbaa", sum := "62c9e4d7ff184f69bee91502311e9631f7c9af3879e6494d544172fa11a350c1", func := "paintbox/paintboxlaw03.VecTwos", spec := "vecTwos", unfollowed := true, recurses := true, apart := false }
def VecTwosSaid : Prop := vecTwosRow.holds Try.pinned (OpenSpec.ofChange vecTwosSpec)

/-- ITS FALSE NEIGHBOUR: 'it returns false'. Refute it at one input. -/
def vecTwosWrong : ChangeSpec := { name := "vecTwos", fn := fun _ => fun
  | [d1, d2, d3] => { results := [.lit (.bool false)], args := [d1, d2, d3] }
  | _ => none }
def VecTwosWrongFalsely : Prop := vecTwosRow.holds Try.pinned (OpenSpec.ofChange vecTwosWrong)

/-- 'paintboxlaw03.VecProducts': WHATEVER THE INPUT: true; the input reads as it did. -/
def vecProductsSpec : ChangeSpec := { name := "vecProducts", fn := fun _ => fun
  | [d1, d2] => { results := [.lit (.bool true)], args := [d1, d2] }
  | _ => none }
def vecProductsRow : OpenClaim := { program := "ytdaejnakkingbaa", sum := "62c9e4d7ff184f69bee91502311e9631f7c9af3879e6494d544172fa11a350c1", func := "paintbox/paintboxlaw03.VecProducts", spec := "vecProducts", unfollowed := true, recurses := true, apart := false }
def VecProductsSaid : Prop := vecProductsRow.holds Try.pinned (OpenSpec.ofChange vecProductsSpec)

/-- ITS FALSE NEIGHBOUR: 'it returns false'. Refute it at one input. -/
def vecProductsWrong : ChangeSpec := { name := "vecProducts", fn := fun _ => fun
  | [d1, d2] => { results := [.lit (.bool false)], args := [d1, d2] }
  | _ => none }
def VecProductsWrongFalsely : Prop := vecProductsRow.holds Try.pinned (OpenSpec.ofChange vecProductsWrong)

/-- 'paintboxlaw03.VecBetween': WHATEVER THE INPUT: true; the input reads as it did. -/
def vecBetweenSpec : ChangeSpec := { name := "vecBetween", fn := fun _ => fun
  | [d1, d2, d3] => { results := [.lit (.bool true)], args := [d1, d2, d3] }
  | _ => none }
def vecBetweenRow : OpenClaim := { program := "ytdaejnakkingbaa", sum := "62c9e4d7ff184f69bee91502311e9631f7c9af3879e6494d544172fa11a350c1", func := "paintbox/paintboxlaw03.VecBetween", spec := "vecBetween", unfollowed := true, recurses := true, apart := false }
def VecBetweenSaid : Prop := vecBetweenRow.holds Try.pinned (OpenSpec.ofChange vecBetweenSpec)

/-- ITS FALSE NEIGHBOUR: 'it returns false'. Refute it at one input. -/
def vecBetweenWrong : ChangeSpec := { name := "vecBetween", fn := fun _ => fun
  | [d1, d2, d3] => { results := [.lit (.bool false)], args := [d1, d2, d3] }
  | _ => none }
def VecBetweenWrongFalsely : Prop := vecBetweenRow.holds Try.pinned (OpenSpec.ofChange vecBetweenWrong)

/-- 'paintboxlaw03.VecPlaces': WHATEVER THE INPUT: true; the input reads as it did. -/
def vecPlacesSpec : ChangeSpec := { name := "vecPlaces", fn := fun _ => fun
  | [d1, d2] => { results := [.lit (.bool true)], args := [d1, d2] }
  | _ => none }
def vecPlacesRow : OpenClaim := { program := "ytdaejnakkingbaa", sum := "62c9e4d7ff184f69bee91502311e9631f7c9af3879e6494d544172fa11a350c1", func := "paintbox/paintboxlaw03.VecPlaces", spec := "vecPlaces", unfollowed := true, recurses := true, apart := false }
def VecPlacesSaid : Prop := vecPlacesRow.holds Try.pinned (OpenSpec.ofChange vecPlacesSpec)

/-- ITS FALSE NEIGHBOUR: 'it returns false'. Refute it at one input. -/
def vecPlacesWrong : ChangeSpec := { name := "vecPlaces", fn := fun _ => fun
  | [d1, d2] => { results := [.lit (.bool false)], args := [d1, d2] }
  | _ => none }
def VecPlacesWrongFalsely : Prop := vecPlacesRow.holds Try.pinned (OpenSpec.ofChange vecPlacesWrong)

/-- 'paintboxlaw03.VecBack': WHATEVER THE INPUT: true; the input reads as it did. -/
def vecBackSpec : ChangeSpec := { name := "vecBack", fn := fun _ => fun
  | [d1, d2] => { results := [.lit (.bool true)], args := [d1, d2] }
  | _ => none }
def vecBackRow : OpenClaim := { program := "ytdaejnakkingbaa", sum := "62c9e4d7ff184f69bee91502311e9631f7c9af3879e6494d544172fa11a350c1", func := "paintbox/paintboxlaw03.VecBack", spec := "vecBack", unfollowed := true, recurses := true, apart := false }
def VecBackSaid : Prop := vecBackRow.holds Try.pinned (OpenSpec.ofChange vecBackSpec)

/-- ITS FALSE NEIGHBOUR: 'it returns false'. Refute it at one input. -/
def vecBackWrong : ChangeSpec := { name := "vecBack", fn := fun _ => fun
  | [d1, d2] => { results := [.lit (.bool false)], args := [d1, d2] }
  | _ => none }
def VecBackWrongFalsely : Prop := vecBackRow.holds Try.pinned (OpenSpec.ofChange vecBackWrong)

/-- 'paintboxlaw03.VecOnes': WHATEVER THE INPUT: true; the input reads as it did. -/
def vecOnesSpec : ChangeSpec := { name := "vecOnes", fn := fun _ => fun
  | [d1, d2, d3] => { results := [.lit (.bool true)], args := [d1, d2, d3] }
  | _ => none }
def vecOnesRow : OpenClaim := { program := "ytdaejnakkingbaa", sum := "62c9e4d7ff184f69bee91502311e9631f7c9af3879e6494d544172fa11a350c1", func := "paintbox/paintboxlaw03.VecOnes", spec := "vecOnes", unfollowed := true, recurses := true, apart := false }
def VecOnesSaid : Prop := vecOnesRow.holds Try.pinned (OpenSpec.ofChange vecOnesSpec)

/-- ITS FALSE NEIGHBOUR: 'it returns false'. Refute it at one input. -/
def vecOnesWrong : ChangeSpec := { name := "vecOnes", fn := fun _ => fun
  | [d1, d2, d3] => { results := [.lit (.bool false)], args := [d1, d2, d3] }
  | _ => none }
def VecOnesWrongFalsely : Prop := vecOnesRow.holds Try.pinned (OpenSpec.ofChange vecOnesWrong)

/-- 'paintboxlaw03.VecOrders': WHATEVER THE INPUT: true; the input reads as it did. -/
def vecOrdersSpec : ChangeSpec := { name := "vecOrders", fn := fun _ => fun
  | [d1, d2] => { results := [.lit (.bool true)], args := [d1, d2] }
  | _ => none }
def vecOrdersRow : OpenClaim := { program := "ytdaejnakkingbaa", sum := "62c9e4d7ff184f69bee91502311e9631f7c9af3879e6494d544172fa11a350c1", func := "paintbox/paintboxlaw03.VecOrders", spec := "vecOrders", unfollowed := true, recurses := true, apart := false }
def VecOrdersSaid : Prop := vecOrdersRow.holds Try.pinned (OpenSpec.ofChange vecOrdersSpec)

/-- ITS FALSE NEIGHBOUR: 'it returns false'. Refute it at one input. -/
def vecOrdersWrong : ChangeSpec := { name := "vecOrders", fn := fun _ => fun
  | [d1, d2] => { results := [.lit (.bool false)], args := [d1, d2] }
  | _ => none }
def VecOrdersWrongFalsely : Prop := vecOrdersRow.holds Try.pinned (OpenSpec.ofChange vecOrdersWrong)

/- THE SECOND FORM. 'bulk': how many values and letters a reading holds, each counted each time it is reached (what is shared counts as often as it is met; a slice's spare places count too). A statement '..UptoSaid' is the law's where the arguments, and the package variables that the reading takes, are together of bulk at most 1048576: NARROWER than '..Said'. Prove '..Said' where nothing that the law and all that it calls make is longer than what came in: it says more and counts as full. Else prove '..UptoSaid'. A law counts once. -/
mutual
def uptoBulk {H : Type} : DataW H → Nat
  | .lit (.string bytes) => bytes.length + 1
  | .lit _ => 1
  | .nil => 1
  | .ptr d => uptoBulk d + 1
  | .slice elems spare => uptoBulkAll elems + uptoBulkAll spare + 1
  | .agg parts => uptoBulkAll parts + 1
  | .iface _ d => uptoBulk d + 1
  | .map entries => uptoBulkEntries entries + 1
  | .held _ => 1
def uptoBulkAll {H : Type} : List (DataW H) → Nat
  | [] => 0
  | d :: r => uptoBulk d + uptoBulkAll r
def uptoBulkEntries {H : Type} : List (Lit × DataW H) → Nat
  | [] => 0
  | x :: r => uptoBulkEntry x + uptoBulkEntries r
def uptoBulkEntry {H : Type} : Lit × DataW H → Nat
  | (.string bytes, d) => bytes.length + uptoBulk d + 1
  | (_, d) => uptoBulk d + 1
 end
def uptoSmall : (H : Type) → List (DataW H) → Bool := fun _ ds => decide (uptoBulkAll ds ≤ 1048576)
def OpenSpec.upto (s : _root_.Go.ChangeSpec) : _root_.Go.OpenSpec := { _root_.Go.OpenSpec.ofChange s with cond := some uptoSmall }

/-- 'paintboxlaw03.VecTwos', WHERE WHAT IT READS IS OF BULK AT MOST 1048576: true; the input reads as it did. -/
def vecTwosUptoRow : OpenClaim := { program := "ytdaejnakkingbaa", sum := "62c9e4d7ff184f69bee91502311e9631f7c9af3879e6494d544172fa11a350c1", func := "paintbox/paintboxlaw03.VecTwos", spec := "vecTwos", unfollowed := true, recurses := true, apart := false, narrowed := true }
def VecTwosUptoSaid : Prop := vecTwosUptoRow.holds Try.pinned (OpenSpec.upto vecTwosSpec)

/-- 'paintboxlaw03.VecProducts', WHERE WHAT IT READS IS OF BULK AT MOST 1048576: true; the input reads as it did. -/
def vecProductsUptoRow : OpenClaim := { program := "ytdaejnakkingbaa", sum := "62c9e4d7ff184f69bee91502311e9631f7c9af3879e6494d544172fa11a350c1", func := "paintbox/paintboxlaw03.VecProducts", spec := "vecProducts", unfollowed := true, recurses := true, apart := false, narrowed := true }
def VecProductsUptoSaid : Prop := vecProductsUptoRow.holds Try.pinned (OpenSpec.upto vecProductsSpec)

/-- 'paintboxlaw03.VecBetween', WHERE WHAT IT READS IS OF BULK AT MOST 1048576: true; the input reads as it did. -/
def vecBetweenUptoRow : OpenClaim := { program := "ytdaejnakkingbaa", sum := "62c9e4d7ff184f69bee91502311e9631f7c9af3879e6494d544172fa11a350c1", func := "paintbox/paintboxlaw03.VecBetween", spec := "vecBetween", unfollowed := true, recurses := true, apart := false, narrowed := true }
def VecBetweenUptoSaid : Prop := vecBetweenUptoRow.holds Try.pinned (OpenSpec.upto vecBetweenSpec)

/-- 'paintboxlaw03.VecPlaces', WHERE WHAT IT READS IS OF BULK AT MOST 1048576: true; the input reads as it did. -/
def vecPlacesUptoRow : OpenClaim := { program := "ytdaejnakkingbaa", sum := "62c9e4d7ff184f69bee91502311e9631f7c9af3879e6494d544172fa11a350c1", func := "paintbox/paintboxlaw03.VecPlaces", spec := "vecPlaces", unfollowed := true, recurses := true, apart := false, narrowed := true }
def VecPlacesUptoSaid : Prop := vecPlacesUptoRow.holds Try.pinned (OpenSpec.upto vecPlacesSpec)

/-- 'paintboxlaw03.VecBack', WHERE WHAT IT READS IS OF BULK AT MOST 1048576: true; the input reads as it did. -/
def vecBackUptoRow : OpenClaim := { program := "ytdaejnakkingbaa", sum := "62c9e4d7ff184f69bee91502311e9631f7c9af3879e6494d544172fa11a350c1", func := "paintbox/paintboxlaw03.VecBack", spec := "vecBack", unfollowed := true, recurses := true, apart := false, narrowed := true }
def VecBackUptoSaid : Prop := vecBackUptoRow.holds Try.pinned (OpenSpec.upto vecBackSpec)

/-- 'paintboxlaw03.VecOnes', WHERE WHAT IT READS IS OF BULK AT MOST 1048576: true; the input reads as it did. -/
def vecOnesUptoRow : OpenClaim := { program := "ytdaejnakkingbaa", sum := "62c9e4d7ff184f69bee91502311e9631f7c9af3879e6494d544172fa11a350c1", func := "paintbox/paintboxlaw03.VecOnes", spec := "vecOnes", unfollowed := true, recurses := true, apart := false, narrowed := true }
def VecOnesUptoSaid : Prop := vecOnesUptoRow.holds Try.pinned (OpenSpec.upto vecOnesSpec)

/-- 'paintboxlaw03.VecOrders', WHERE WHAT IT READS IS OF BULK AT MOST 1048576: true; the input reads as it did. -/
def vecOrdersUptoRow : OpenClaim := { program := "ytdaejnakkingbaa", sum := "62c9e4d7ff184f69bee91502311e9631f7c9af3879e6494d544172fa11a350c1", func := "paintbox/paintboxlaw03.VecOrders", spec := "vecOrders", unfollowed := true, recurses := true, apart := false, narrowed := true }
def VecOrdersUptoSaid : Prop := vecOrdersUptoRow.holds Try.pinned (OpenSpec.upto vecOrdersSpec)

end Rows
end Go.Proofs.Ytdaejnakkingbaa
