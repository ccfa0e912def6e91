/-
  No cell of these rows narrows 'for every input' (looked for: loops, veiled, ifaces, maps, wideKeys, modest, calm, conditions, laid).
  DERIVED. THE GIVEN ROWS OF THIS SEAT. 4 by the template 'for every input the law returns true; each argument reads behind the call as it read before'; 0 by the template 'total and deterministic' (their statements: YtgbcakebmpgghaaTotals.lean).
  GIVEN WITH THE SEED: the statements are not yours to turn. If you find one false, say at which input.
  Laid BY PROGRAM, IN A SANDBOX (cutbox-rows.mjs): the forced cells as the released guide's own fill.sh prints them over the translation 0b6d588a3c64b744… (all of the seat's roots in one cut). By AI agents, Wed Nov 11 2026. No macro, syntax, notation, axiom, sorry.
-/
import Derived.Test.YtgbcakebmpgghaaChecked
import GoSem.Claim
import GoSem.ClaimJoined
import GoSem.ClaimMapViews
import Derived.JoinedTies
import Derived.KernelRfl
namespace Go.Proofs.Ytgbcakebmpgghaa
/- THE CELL 'sum', in the pinned program and in every row, IS THE sha256 OF THE DUMP (.gsa) THAT YtgbcakebmpgghaaProg.lean LOADS. Nothing in Lean hashes anything: it is a label: what it is worth is what the hold of that sum in a sandbox is worth. -/
noncomputable def Try.pinned : Pinned := { name := "ytgbcakebmpgghaa", sum := "0b6d588a3c64b744f7391b22c8e99b1ef8e58dfaf9e87a08ed2f20b97261d814", checked := Try.checked }
namespace Rows
def none {H : Type} : Left H := { results := [], args := [] }

/-- 'paintboxlaw07.BufferBudget': WHATEVER THE INPUT: true; the input reads as it did. -/
def bufferBudgetSpec : ChangeSpec := { name := "bufferBudget", fn := fun _ => fun
  | [d1, d2] => { results := [.lit (.bool true)], args := [d1, d2] }
  | _ => none }
def bufferBudgetRow : OpenClaim := { program := "ytgbcakebmpgghaa", sum := "0b6d588a3c64b744f7391b22c8e99b1ef8e58dfaf9e87a08ed2f20b97261d814", func := "paintbox/paintboxlaw07.BufferBudget", spec := "bufferBudget", apart := false }
def BufferBudgetSaid : Prop := bufferBudgetRow.holds Try.pinned (OpenSpec.ofChange bufferBudgetSpec)

/-- ITS FALSE NEIGHBOUR: 'it returns false'. Refute it at one input. -/
def bufferBudgetWrong : ChangeSpec := { name := "bufferBudget", fn := fun _ => fun
  | [d1, d2] => { results := [.lit (.bool false)], args := [d1, d2] }
  | _ => none }
def BufferBudgetWrongFalsely : Prop := bufferBudgetRow.holds Try.pinned (OpenSpec.ofChange bufferBudgetWrong)

/-- 'paintboxlaw07.BufferDoes': WHATEVER THE INPUT: true; the input reads as it did. -/
def bufferDoesSpec : ChangeSpec := { name := "bufferDoes", fn := fun _ => fun
  | [d1, d2] => { results := [.lit (.bool true)], args := [d1, d2] }
  | _ => none }
def bufferDoesRow : OpenClaim := { program := "ytgbcakebmpgghaa", sum := "0b6d588a3c64b744f7391b22c8e99b1ef8e58dfaf9e87a08ed2f20b97261d814", func := "paintbox/paintboxlaw07.BufferDoes", spec := "bufferDoes", unfollowed := true, recurses := true, apart := false }
def BufferDoesSaid : Prop := bufferDoesRow.holds Try.pinned (OpenSpec.ofChange bufferDoesSpec)

/-- ITS FALSE NEIGHBOUR: 'it returns false'. Refute it at one input. -/
def bufferDoesWrong : ChangeSpec := { name := "bufferDoes", fn := fun _ => fun
  | [d1, d2] => { results := [.lit (.bool false)], args := [d1, d2] }
  | _ => none }
def BufferDoesWrongFalsely : Prop := bufferDoesRow.holds Try.pinned (OpenSpec.ofChange bufferDoesWrong)

/-- 'paintboxlaw07.BufferNone': WHATEVER THE INPUT: true; the input reads as it did. -/
def bufferNoneSpec : ChangeSpec := { name := "bufferNone", fn := fun _ => fun
  | [d1, d2] => { results := [.lit (.bool true)], args := [d1, d2] }
  | _ => none }
def bufferNoneRow : OpenClaim := { program := "ytgbcakebmpgghaa", sum := "0b6d588a3c64b744f7391b22c8e99b1ef8e58dfaf9e87a08ed2f20b97261d814", func := "paintbox/paintboxlaw07.BufferNone", spec := "bufferNone", unfollowed := true, recurses := true, apart := false }
def BufferNoneSaid : Prop := bufferNoneRow.holds Try.pinned (OpenSpec.ofChange bufferNoneSpec)

/-- ITS FALSE NEIGHBOUR: 'it returns false'. Refute it at one input. -/
def bufferNoneWrong : ChangeSpec := { name := "bufferNone", fn := fun _ => fun
  | [d1, d2] => { results := [.lit (.bool false)], args := [d1, d2] }
  | _ => none }
def BufferNoneWrongFalsely : Prop := bufferNoneRow.holds Try.pinned (OpenSpec.ofChange bufferNoneWrong)

/-- 'paintboxlaw07.BufferKeeps': WHATEVER THE INPUT: true; the input reads as it did. -/
def bufferKeepsSpec : ChangeSpec := { name := "bufferKeeps", fn := fun _ => fun
  | [d1, d2, d3] => { results := [.lit (.bool true)], args := [d1, d2, d3] }
  | _ => none }
def bufferKeepsRow : OpenClaim := { program := "ytgbcakebmpgghaa", sum := "0b6d588a3c64b744f7391b22c8e99b1ef8e58dfaf9e87a08ed2f20b97261d814", func := "paintbox/paintboxlaw07.BufferKeeps", spec := "bufferKeeps", unfollowed := true, recurses := true, apart := false }
def BufferKeepsSaid : Prop := bufferKeepsRow.holds Try.pinned (OpenSpec.ofChange bufferKeepsSpec)

/-- ITS FALSE NEIGHBOUR: 'it returns false'. Refute it at one input. -/
def bufferKeepsWrong : ChangeSpec := { name := "bufferKeeps", fn := fun _ => fun
  | [d1, d2, d3] => { results := [.lit (.bool false)], args := [d1, d2, d3] }
  | _ => none }
def BufferKeepsWrongFalsely : Prop := bufferKeepsRow.holds Try.pinned (OpenSpec.ofChange bufferKeepsWrong)

/- THE SECOND FORM. 'bulk': how many values and letters a reading holds, each counted each time it is reached (what is shared counts as often as it is met; a slice's spare places count too). A statement '..UptoSaid' is the law's where the arguments, and the package variables that the reading takes, are together of bulk at most 1048576: NARROWER than '..Said'. Prove '..Said' where nothing that the law and all that it calls make is longer than what came in: it says more and counts as full. Else prove '..UptoSaid'. A law counts once. -/
mutual
def uptoBulk {H : Type} : DataW H → Nat
  | .lit (.string bytes) => bytes.length + 1
  | .lit _ => 1
  | .nil => 1
  | .ptr d => uptoBulk d + 1
  | .slice elems spare => uptoBulkAll elems + uptoBulkAll spare + 1
  | .agg parts => uptoBulkAll parts + 1
  | .iface _ d => uptoBulk d + 1
  | .map entries => uptoBulkEntries entries + 1
  | .held _ => 1
def uptoBulkAll {H : Type} : List (DataW H) → Nat
  | [] => 0
  | d :: r => uptoBulk d + uptoBulkAll r
def uptoBulkEntries {H : Type} : List (Lit × DataW H) → Nat
  | [] => 0
  | x :: r => uptoBulkEntry x + uptoBulkEntries r
def uptoBulkEntry {H : Type} : Lit × DataW H → Nat
  | (.string bytes, d) => bytes.length + uptoBulk d + 1
  | (_, d) => uptoBulk d + 1
 end
def uptoSmall : (H : Type) → List (DataW H) → Bool := fun _ ds => decide (uptoBulkAll ds ≤ 1048576)
def OpenSpec.upto (s : _root_.Go.ChangeSpec) : _root_.Go.OpenSpec := { _root_.Go.OpenSpec.ofChange s with cond := some uptoSmall }

/-- 'paintboxlaw07.BufferBudget', WHERE WHAT IT READS IS OF BULK AT MOST 1048576: true; the input reads as it did. -/
def bufferBudgetUptoRow : OpenClaim := { program := "ytgbcakebmpgghaa", sum := "0b6d588a3c64b744f7391b22c8e99b1ef8e58dfaf9e87a08ed2f20b97261d814", func := "paintbox/paintboxlaw07.BufferBudget", spec := "bufferBudget", apart := false, narrowed := true }
def BufferBudgetUptoSaid : Prop := bufferBudgetUptoRow.holds Try.pinned (OpenSpec.upto bufferBudgetSpec)

/-- 'paintboxlaw07.BufferDoes', WHERE WHAT IT READS IS OF BULK AT MOST 1048576: true; the input reads as it did. -/
def bufferDoesUptoRow : OpenClaim := { program := "ytgbcakebmpgghaa", sum := "0b6d588a3c64b744f7391b22c8e99b1ef8e58dfaf9e87a08ed2f20b97261d814", func := "paintbox/paintboxlaw07.BufferDoes", spec := "bufferDoes", unfollowed := true, recurses := true, apart := false, narrowed := true }
def BufferDoesUptoSaid : Prop := bufferDoesUptoRow.holds Try.pinned (OpenSpec.upto bufferDoesSpec)

/-- 'paintboxlaw07.BufferNone', WHERE WHAT IT READS IS OF BULK AT MOST 1048576: true; the input reads as it did. -/
def bufferNoneUptoRow : OpenClaim := { program := "ytgbcakebmpgghaa", sum := "0b6d588a3c64b744f7391b22c8e99b1ef8e58dfaf9e87a08ed2f20b97261d814", func := "paintbox/paintboxlaw07.BufferNone", spec := "bufferNone", unfollowed := true, recurses := true, apart := false, narrowed := true }
def BufferNoneUptoSaid : Prop := bufferNoneUptoRow.holds Try.pinned (OpenSpec.upto bufferNoneSpec)

/-- 'paintboxlaw07.BufferKeeps', WHERE WHAT IT READS IS OF BULK AT MOST 1048576: true; the input reads as it did. -/
def bufferKeepsUptoRow : OpenClaim := { program := "ytgbcakebmpgghaa", sum := "0b6d588a3c64b744f7391b22c8e99b1ef8e58dfaf9e87a08ed2f20b97261d814", func := "paintbox/paintboxlaw07.BufferKeeps", spec := "bufferKeeps", unfollowed := true, recurses := true, apart := false, narrowed := true }
def BufferKeepsUptoSaid : Prop := bufferKeepsUptoRow.holds Try.pinned (OpenSpec.upto bufferKeepsSpec)

end Rows
end Go.Proofs.Ytgbcakebmpgghaa
