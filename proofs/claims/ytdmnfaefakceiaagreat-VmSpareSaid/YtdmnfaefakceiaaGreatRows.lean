/-
  No cell of these rows narrows 'for every input' (looked for: loops, veiled, ifaces, maps, wideKeys, modest, calm, conditions, laid).
  DERIVED. THE GIVEN ROWS OF THIS SEAT. 7 by the template 'for every input the law returns true; each argument reads behind the call as it read before'; 0 by the template 'total and deterministic' (their statements: YtdmnfaefakceiaaGreatTotals.lean).
  GIVEN WITH THE SEED: the statements are not yours to turn. If you find one false, say at which input.
  Laid BY PROGRAM, IN A SANDBOX (cutbox-rows.mjs): the forced cells as the released guide's own fill.sh prints them over the translation 786e4fc892b714b5… (all of the seat's roots in one cut). By AI agents, Wed Nov 11 2026. No macro, syntax, notation, axiom, sorry.
-/
import Derived.Test.YtdmnfaefakceiaaGreatChecked
import GoSem.Claim
import GoSem.ClaimJoined
import GoSem.ClaimMapViews
import Derived.JoinedTies
import Derived.KernelRfl
namespace Go.Proofs.YtdmnfaefakceiaaGreat
/- THE CELL 'sum', in the pinned program and in every row, IS THE sha256 OF THE DUMP (.gsa) THAT YtdmnfaefakceiaaGreatProg.lean LOADS. Nothing in Lean hashes anything: it is a label: what it is worth is what the hold of that sum in a sandbox is worth. -/
noncomputable def Tryz.pinned : Pinned := { name := "ytdmnfaefakceiaagreat", sum := "786e4fc892b714b5b1e16c6997c8c3f999c98e97af4e03f34c008366fd4ab0fa", checked := Tryz.checked }
namespace Rows
def none {H : Type} : Left H := { results := [], args := [] }

/-- 'paintboxlaw18.VmHangs': WHATEVER THE INPUT: true; the input reads as it did. -/
def vmHangsSpec : ChangeSpec := { name := "vmHangs", fn := fun _ => fun
  | [d1, d2, d3] => { results := [.lit (.bool true)], args := [d1, d2, d3] }
  | _ => none }
def vmHangsRow : OpenClaim := { program := "ytdmnfaefakceiaagreat", sum := "786e4fc892b714b5b1e16c6997c8c3f999c98e97af4e03f34c008366fd4ab0fa", func := "paintbox/paintboxlaw18.VmHangs", spec := "vmHangs", inPlace := ["math/bits.Add64"], unfollowed := true, recurses := true, apart := false }
def VmHangsSaid : Prop := vmHangsRow.holds Tryz.pinned (OpenSpec.ofChange vmHangsSpec)

/-- ITS FALSE NEIGHBOUR: 'it returns false'. Refute it at one input. -/
def vmHangsWrong : ChangeSpec := { name := "vmHangs", fn := fun _ => fun
  | [d1, d2, d3] => { results := [.lit (.bool false)], args := [d1, d2, d3] }
  | _ => none }
def VmHangsWrongFalsely : Prop := vmHangsRow.holds Tryz.pinned (OpenSpec.ofChange vmHangsWrong)

/-- 'paintboxlaw18.VmEnds': WHATEVER THE INPUT: true; the input reads as it did. -/
def vmEndsSpec : ChangeSpec := { name := "vmEnds", fn := fun _ => fun
  | [d1, d2] => { results := [.lit (.bool true)], args := [d1, d2] }
  | _ => none }
def vmEndsRow : OpenClaim := { program := "ytdmnfaefakceiaagreat", sum := "786e4fc892b714b5b1e16c6997c8c3f999c98e97af4e03f34c008366fd4ab0fa", func := "paintbox/paintboxlaw18.VmEnds", spec := "vmEnds", inPlace := ["math/bits.Add64"], unfollowed := true, recurses := true, apart := false }
def VmEndsSaid : Prop := vmEndsRow.holds Tryz.pinned (OpenSpec.ofChange vmEndsSpec)

/-- ITS FALSE NEIGHBOUR: 'it returns false'. Refute it at one input. -/
def vmEndsWrong : ChangeSpec := { name := "vmEnds", fn := fun _ => fun
  | [d1, d2] => { results := [.lit (.bool false)], args := [d1, d2] }
  | _ => none }
def VmEndsWrongFalsely : Prop := vmEndsRow.holds Tryz.pinned (OpenSpec.ofChange vmEndsWrong)

/-- 'paintboxlaw18.VmDoes': WHATEVER THE INPUT: true; the input reads as it did. -/
def vmDoesSpec : ChangeSpec := { name := "vmDoes", fn := fun _ => fun
  | [d1, d2] => { results := [.lit (.bool true)], args := [d1, d2] }
  | _ => none }
def vmDoesRow : OpenClaim := { program := "ytdmnfaefakceiaagreat", sum := "786e4fc892b714b5b1e16c6997c8c3f999c98e97af4e03f34c008366fd4ab0fa", func := "paintbox/paintboxlaw18.VmDoes", spec := "vmDoes", inPlace := ["math/bits.Add64"], unfollowed := true, recurses := true, apart := false }
def VmDoesSaid : Prop := vmDoesRow.holds Tryz.pinned (OpenSpec.ofChange vmDoesSpec)

/-- ITS FALSE NEIGHBOUR: 'it returns false'. Refute it at one input. -/
def vmDoesWrong : ChangeSpec := { name := "vmDoes", fn := fun _ => fun
  | [d1, d2] => { results := [.lit (.bool false)], args := [d1, d2] }
  | _ => none }
def VmDoesWrongFalsely : Prop := vmDoesRow.holds Tryz.pinned (OpenSpec.ofChange vmDoesWrong)

/-- 'paintboxlaw18.VmConverts': WHATEVER THE INPUT: true; the input reads as it did. -/
def vmConvertsSpec : ChangeSpec := { name := "vmConverts", fn := fun _ => fun
  | [d1, d2, d3] => { results := [.lit (.bool true)], args := [d1, d2, d3] }
  | _ => none }
def vmConvertsRow : OpenClaim := { program := "ytdmnfaefakceiaagreat", sum := "786e4fc892b714b5b1e16c6997c8c3f999c98e97af4e03f34c008366fd4ab0fa", func := "paintbox/paintboxlaw18.VmConverts", spec := "vmConverts", inPlace := ["math/bits.Add64"], unfollowed := true, recurses := true, apart := false }
def VmConvertsSaid : Prop := vmConvertsRow.holds Tryz.pinned (OpenSpec.ofChange vmConvertsSpec)

/-- ITS FALSE NEIGHBOUR: 'it returns false'. Refute it at one input. -/
def vmConvertsWrong : ChangeSpec := { name := "vmConverts", fn := fun _ => fun
  | [d1, d2, d3] => { results := [.lit (.bool false)], args := [d1, d2, d3] }
  | _ => none }
def VmConvertsWrongFalsely : Prop := vmConvertsRow.holds Tryz.pinned (OpenSpec.ofChange vmConvertsWrong)

/-- 'paintboxlaw18.VmSame': WHATEVER THE INPUT: true; the input reads as it did. -/
def vmSameSpec : ChangeSpec := { name := "vmSame", fn := fun _ => fun
  | [d1, d2] => { results := [.lit (.bool true)], args := [d1, d2] }
  | _ => none }
def vmSameRow : OpenClaim := { program := "ytdmnfaefakceiaagreat", sum := "786e4fc892b714b5b1e16c6997c8c3f999c98e97af4e03f34c008366fd4ab0fa", func := "paintbox/paintboxlaw18.VmSame", spec := "vmSame", inPlace := ["math/bits.Add64"], unfollowed := true, recurses := true, apart := false }
def VmSameSaid : Prop := vmSameRow.holds Tryz.pinned (OpenSpec.ofChange vmSameSpec)

/-- ITS FALSE NEIGHBOUR: 'it returns false'. Refute it at one input. -/
def vmSameWrong : ChangeSpec := { name := "vmSame", fn := fun _ => fun
  | [d1, d2] => { results := [.lit (.bool false)], args := [d1, d2] }
  | _ => none }
def VmSameWrongFalsely : Prop := vmSameRow.holds Tryz.pinned (OpenSpec.ofChange vmSameWrong)

/-- 'paintboxlaw18.VmSpare': WHATEVER THE INPUT: true; the input reads as it did. -/
def vmSpareSpec : ChangeSpec := { name := "vmSpare", fn := fun _ => fun
  | [d1, d2] => { results := [.lit (.bool true)], args := [d1, d2] }
  | _ => none }
def vmSpareRow : OpenClaim := { program := "ytdmnfaefakceiaagreat", sum := "786e4fc892b714b5b1e16c6997c8c3f999c98e97af4e03f34c008366fd4ab0fa", func := "paintbox/paintboxlaw18.VmSpare", spec := "vmSpare", inPlace := ["math/bits.Add64"], unfollowed := true, recurses := true, apart := false }
def VmSpareSaid : Prop := vmSpareRow.holds Tryz.pinned (OpenSpec.ofChange vmSpareSpec)

/-- ITS FALSE NEIGHBOUR: 'it returns false'. Refute it at one input. -/
def vmSpareWrong : ChangeSpec := { name := "vmSpare", fn := fun _ => fun
  | [d1, d2] => { results := [.lit (.bool false)], args := [d1, d2] }
  | _ => none }
def VmSpareWrongFalsely : Prop := vmSpareRow.holds Tryz.pinned (OpenSpec.ofChange vmSpareWrong)

/-- 'paintboxlaw18.VmRuns': WHATEVER THE INPUT: true; the input reads as it did. -/
def vmRunsSpec : ChangeSpec := { name := "vmRuns", fn := fun _ => fun
  | [d1, d2] => { results := [.lit (.bool true)], args := [d1, d2] }
  | _ => none }
def vmRunsRow : OpenClaim := { program := "ytdmnfaefakceiaagreat", sum := "786e4fc892b714b5b1e16c6997c8c3f999c98e97af4e03f34c008366fd4ab0fa", func := "paintbox/paintboxlaw18.VmRuns", spec := "vmRuns", inPlace := ["math/bits.Add64"], unfollowed := true, recurses := true, apart := false }
def VmRunsSaid : Prop := vmRunsRow.holds Tryz.pinned (OpenSpec.ofChange vmRunsSpec)

/-- ITS FALSE NEIGHBOUR: 'it returns false'. Refute it at one input. -/
def vmRunsWrong : ChangeSpec := { name := "vmRuns", fn := fun _ => fun
  | [d1, d2] => { results := [.lit (.bool false)], args := [d1, d2] }
  | _ => none }
def VmRunsWrongFalsely : Prop := vmRunsRow.holds Tryz.pinned (OpenSpec.ofChange vmRunsWrong)

/- THE SECOND FORM. 'bulk': how many values and letters a reading holds, each counted each time it is reached (what is shared counts as often as it is met; a slice's spare places count too). A statement '..UptoSaid' is the law's where the arguments, and the package variables that the reading takes, are together of bulk at most 1048576: NARROWER than '..Said'. Prove '..Said' where nothing that the law and all that it calls make is longer than what came in: it says more and counts as full. Else prove '..UptoSaid'. A law counts once. -/
mutual
def uptoBulk {H : Type} : DataW H → Nat
  | .lit (.string bytes) => bytes.length + 1
  | .lit _ => 1
  | .nil => 1
  | .ptr d => uptoBulk d + 1
  | .slice elems spare => uptoBulkAll elems + uptoBulkAll spare + 1
  | .agg parts => uptoBulkAll parts + 1
  | .iface _ d => uptoBulk d + 1
  | .map entries => uptoBulkEntries entries + 1
  | .held _ => 1
def uptoBulkAll {H : Type} : List (DataW H) → Nat
  | [] => 0
  | d :: r => uptoBulk d + uptoBulkAll r
def uptoBulkEntries {H : Type} : List (Lit × DataW H) → Nat
  | [] => 0
  | x :: r => uptoBulkEntry x + uptoBulkEntries r
def uptoBulkEntry {H : Type} : Lit × DataW H → Nat
  | (.string bytes, d) => bytes.length + uptoBulk d + 1
  | (_, d) => uptoBulk d + 1
 end
def uptoSmall : (H : Type) → List (DataW H) → Bool := fun _ ds => decide (uptoBulkAll ds ≤ 1048576)
def OpenSpec.upto (s : _root_.Go.ChangeSpec) : _root_.Go.OpenSpec := { _root_.Go.OpenSpec.ofChange s with cond := some uptoSmall }

/-- 'paintboxlaw18.VmHangs', WHERE WHAT IT READS IS OF BULK AT MOST 1048576: true; the input reads as it did. -/
def vmHangsUptoRow : OpenClaim := { program := "ytdmnfaefakceiaagreat", sum := "786e4fc892b714b5b1e16c6997c8c3f999c98e97af4e03f34c008366fd4ab0fa", func := "paintbox/paintboxlaw18.VmHangs", spec := "vmHangs", inPlace := ["math/bits.Add64"], unfollowed := true, recurses := true, apart := false, narrowed := true }
def VmHangsUptoSaid : Prop := vmHangsUptoRow.holds Tryz.pinned (OpenSpec.upto vmHangsSpec)

/-- 'paintboxlaw18.VmEnds', WHERE WHAT IT READS IS OF BULK AT MOST 1048576: true; the input reads as it did. -/
def vmEndsUptoRow : OpenClaim := { program := "ytdmnfaefakceiaagreat", sum := "786e4fc892b714b5b1e16c6997c8c3f999c98e97af4e03f34c008366fd4ab0fa", func := "paintbox/paintboxlaw18.VmEnds", spec := "vmEnds", inPlace := ["math/bits.Add64"], unfollowed := true, recurses := true, apart := false, narrowed := true }
def VmEndsUptoSaid : Prop := vmEndsUptoRow.holds Tryz.pinned (OpenSpec.upto vmEndsSpec)

/-- 'paintboxlaw18.VmDoes', WHERE WHAT IT READS IS OF BULK AT MOST 1048576: true; the input reads as it did. -/
def vmDoesUptoRow : OpenClaim := { program := "ytdmnfaefakceiaagreat", sum := "786e4fc892b714b5b1e16c6997c8c3f999c98e97af4e03f34c008366fd4ab0fa", func := "paintbox/paintboxlaw18.VmDoes", spec := "vmDoes", inPlace := ["math/bits.Add64"], unfollowed := true, recurses := true, apart := false, narrowed := true }
def VmDoesUptoSaid : Prop := vmDoesUptoRow.holds Tryz.pinned (OpenSpec.upto vmDoesSpec)

/-- 'paintboxlaw18.VmConverts', WHERE WHAT IT READS IS OF BULK AT MOST 1048576: true; the input reads as it did. -/
def vmConvertsUptoRow : OpenClaim := { program := "ytdmnfaefakceiaagreat", sum := "786e4fc892b714b5b1e16c6997c8c3f999c98e97af4e03f34c008366fd4ab0fa", func := "paintbox/paintboxlaw18.VmConverts", spec := "vmConverts", inPlace := ["math/bits.Add64"], unfollowed := true, recurses := true, apart := false, narrowed := true }
def VmConvertsUptoSaid : Prop := vmConvertsUptoRow.holds Tryz.pinned (OpenSpec.upto vmConvertsSpec)

/-- 'paintboxlaw18.VmSame', WHERE WHAT IT READS IS OF BULK AT MOST 1048576: true; the input reads as it did. -/
def vmSameUptoRow : OpenClaim := { program := "ytdmnfaefakceiaagreat", sum := "786e4fc892b714b5b1e16c6997c8c3f999c98e97af4e03f34c008366fd4ab0fa", func := "paintbox/paintboxlaw18.VmSame", spec := "vmSame", inPlace := ["math/bits.Add64"], unfollowed := true, recurses := true, apart := false, narrowed := true }
def VmSameUptoSaid : Prop := vmSameUptoRow.holds Tryz.pinned (OpenSpec.upto vmSameSpec)

/-- 'paintboxlaw18.VmSpare', WHERE WHAT IT READS IS OF BULK AT MOST 1048576: true; the input reads as it did. -/
def vmSpareUptoRow : OpenClaim := { program := "ytdmnfaefakceiaagreat", sum := "786e4fc892b714b5b1e16c6997c8c3f999c98e97af4e03f34c008366fd4ab0fa", func := "paintbox/paintboxlaw18.VmSpare", spec := "vmSpare", inPlace := ["math/bits.Add64"], unfollowed := true, recurses := true, apart := false, narrowed := true }
def VmSpareUptoSaid : Prop := vmSpareUptoRow.holds Tryz.pinned (OpenSpec.upto vmSpareSpec)

/-- 'paintboxlaw18.VmRuns', WHERE WHAT IT READS IS OF BULK AT MOST 1048576: true; the input reads as it did. -/
def vmRunsUptoRow : OpenClaim := { program := "ytdmnfaefakceiaagreat", sum := "786e4fc892b714b5b1e16c6997c8c3f999c98e97af4e03f34c008366fd4ab0fa", func := "paintbox/paintboxlaw18.VmRuns", spec := "vmRuns", inPlace := ["math/bits.Add64"], unfollowed := true, recurses := true, apart := false, narrowed := true }
def VmRunsUptoSaid : Prop := vmRunsUptoRow.holds Tryz.pinned (OpenSpec.upto vmRunsSpec)

end Rows
end Go.Proofs.YtdmnfaefakceiaaGreat
