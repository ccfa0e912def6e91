/-
  No cell of these rows narrows 'for every input' (looked for: loops, veiled, ifaces, maps, wideKeys, modest, calm, conditions, laid).
  DERIVED. THE GIVEN ROWS OF THIS SEAT. 9 by the template 'for every input the law returns true; each argument reads behind the call as it read before'; 0 by the template 'total and deterministic' (their statements: YtdaipgnhconfnaaTotals.lean).
  GIVEN WITH THE SEED: the statements are not yours to turn. If you find one false, say at which input.
  Laid BY PROGRAM, IN A SANDBOX (cutbox-rows.mjs): the forced cells as the released guide's own fill.sh prints them over the translation 7379323b1e6fda17… (all of the seat's roots in one cut). By AI agents, Wed Nov 11 2026. No macro, syntax, notation, axiom, sorry.
-/
import Derived.Test.YtdaipgnhconfnaaChecked
import GoSem.Claim
import GoSem.ClaimJoined
import GoSem.ClaimMapViews
import Derived.JoinedTies
import Derived.KernelRfl
namespace Go.Proofs.Ytdaipgnhconfnaa
/- THE CELL 'sum', in the pinned program and in every row, IS THE sha256 OF THE DUMP (.gsa) THAT YtdaipgnhconfnaaProg.lean LOADS. Nothing in Lean hashes anything: it is a label: what it is worth is what the hold of that sum in a sandbox is worth. -/
noncomputable def Try.pinned : Pinned := { name := "ytdaipgnhconfnaa", sum := "7379323b1e6fda17bd63c8b24fb9867fa06f93f11c3b646505f77d23638b69ee", checked := Try.checked }
namespace Rows
def none {H : Type} : Left H := { results := [], args := [] }

/-- 'paintboxlaw08.ImageMakes': WHATEVER THE INPUT: true; the input reads as it did. -/
def imageMakesSpec : ChangeSpec := { name := "imageMakes", fn := fun _ => fun
  | [d] => { results := [.lit (.bool true)], args := [d] }
  | _ => none }
def imageMakesRow : OpenClaim := { program := "ytdaipgnhconfnaa", sum := "7379323b1e6fda17bd63c8b24fb9867fa06f93f11c3b646505f77d23638b69ee", func := "paintbox/paintboxlaw08.ImageMakes", spec := "imageMakes", unfollowed := true, recurses := true, apart := false }
def ImageMakesSaid : Prop := imageMakesRow.holds Try.pinned (OpenSpec.ofChange imageMakesSpec)

/-- ITS FALSE NEIGHBOUR: 'it returns false'. Refute it at one input. -/
def imageMakesWrong : ChangeSpec := { name := "imageMakes", fn := fun _ => fun
  | [d] => { results := [.lit (.bool false)], args := [d] }
  | _ => none }
def ImageMakesWrongFalsely : Prop := imageMakesRow.holds Try.pinned (OpenSpec.ofChange imageMakesWrong)

/-- 'paintboxlaw08.ImageCounts': WHATEVER THE INPUT: true; the input reads as it did. -/
def imageCountsSpec : ChangeSpec := { name := "imageCounts", fn := fun _ => fun
  | [d1, d2] => { results := [.lit (.bool true)], args := [d1, d2] }
  | _ => none }
def imageCountsRow : OpenClaim := { program := "ytdaipgnhconfnaa", sum := "7379323b1e6fda17bd63c8b24fb9867fa06f93f11c3b646505f77d23638b69ee", func := "paintbox/paintboxlaw08.ImageCounts", spec := "imageCounts", unfollowed := true, recurses := true, apart := false }
def ImageCountsSaid : Prop := imageCountsRow.holds Try.pinned (OpenSpec.ofChange imageCountsSpec)

/-- ITS FALSE NEIGHBOUR: 'it returns false'. Refute it at one input. -/
def imageCountsWrong : ChangeSpec := { name := "imageCounts", fn := fun _ => fun
  | [d1, d2] => { results := [.lit (.bool false)], args := [d1, d2] }
  | _ => none }
def ImageCountsWrongFalsely : Prop := imageCountsRow.holds Try.pinned (OpenSpec.ofChange imageCountsWrong)

/-- 'paintboxlaw08.ImagePuts': WHATEVER THE INPUT: true; the input reads as it did. -/
def imagePutsSpec : ChangeSpec := { name := "imagePuts", fn := fun _ => fun
  | [d1, d2] => { results := [.lit (.bool true)], args := [d1, d2] }
  | _ => none }
def imagePutsRow : OpenClaim := { program := "ytdaipgnhconfnaa", sum := "7379323b1e6fda17bd63c8b24fb9867fa06f93f11c3b646505f77d23638b69ee", func := "paintbox/paintboxlaw08.ImagePuts", spec := "imagePuts", unfollowed := true, recurses := true, apart := false }
def ImagePutsSaid : Prop := imagePutsRow.holds Try.pinned (OpenSpec.ofChange imagePutsSpec)

/-- ITS FALSE NEIGHBOUR: 'it returns false'. Refute it at one input. -/
def imagePutsWrong : ChangeSpec := { name := "imagePuts", fn := fun _ => fun
  | [d1, d2] => { results := [.lit (.bool false)], args := [d1, d2] }
  | _ => none }
def ImagePutsWrongFalsely : Prop := imagePutsRow.holds Try.pinned (OpenSpec.ofChange imagePutsWrong)

/-- 'paintboxlaw08.ImageSame': WHATEVER THE INPUT: true; the input reads as it did. -/
def imageSameSpec : ChangeSpec := { name := "imageSame", fn := fun _ => fun
  | [d1, d2] => { results := [.lit (.bool true)], args := [d1, d2] }
  | _ => none }
def imageSameRow : OpenClaim := { program := "ytdaipgnhconfnaa", sum := "7379323b1e6fda17bd63c8b24fb9867fa06f93f11c3b646505f77d23638b69ee", func := "paintbox/paintboxlaw08.ImageSame", spec := "imageSame", unfollowed := true, recurses := true, apart := false }
def ImageSameSaid : Prop := imageSameRow.holds Try.pinned (OpenSpec.ofChange imageSameSpec)

/-- ITS FALSE NEIGHBOUR: 'it returns false'. Refute it at one input. -/
def imageSameWrong : ChangeSpec := { name := "imageSame", fn := fun _ => fun
  | [d1, d2] => { results := [.lit (.bool false)], args := [d1, d2] }
  | _ => none }
def ImageSameWrongFalsely : Prop := imageSameRow.holds Try.pinned (OpenSpec.ofChange imageSameWrong)

/-- 'paintboxlaw08.ImageParams': WHATEVER THE INPUT: true; the input reads as it did. -/
def imageParamsSpec : ChangeSpec := { name := "imageParams", fn := fun _ => fun
  | [d1, d2, d3] => { results := [.lit (.bool true)], args := [d1, d2, d3] }
  | _ => none }
def imageParamsRow : OpenClaim := { program := "ytdaipgnhconfnaa", sum := "7379323b1e6fda17bd63c8b24fb9867fa06f93f11c3b646505f77d23638b69ee", func := "paintbox/paintboxlaw08.ImageParams", spec := "imageParams", unfollowed := true, recurses := true, apart := false }
def ImageParamsSaid : Prop := imageParamsRow.holds Try.pinned (OpenSpec.ofChange imageParamsSpec)

/-- ITS FALSE NEIGHBOUR: 'it returns false'. Refute it at one input. -/
def imageParamsWrong : ChangeSpec := { name := "imageParams", fn := fun _ => fun
  | [d1, d2, d3] => { results := [.lit (.bool false)], args := [d1, d2, d3] }
  | _ => none }
def ImageParamsWrongFalsely : Prop := imageParamsRow.holds Try.pinned (OpenSpec.ofChange imageParamsWrong)

/-- 'paintboxlaw08.ImageWhole': WHATEVER THE INPUT: true; the input reads as it did. -/
def imageWholeSpec : ChangeSpec := { name := "imageWhole", fn := fun _ => fun
  | [d] => { results := [.lit (.bool true)], args := [d] }
  | _ => none }
def imageWholeRow : OpenClaim := { program := "ytdaipgnhconfnaa", sum := "7379323b1e6fda17bd63c8b24fb9867fa06f93f11c3b646505f77d23638b69ee", func := "paintbox/paintboxlaw08.ImageWhole", spec := "imageWhole", unfollowed := true, recurses := true, apart := false }
def ImageWholeSaid : Prop := imageWholeRow.holds Try.pinned (OpenSpec.ofChange imageWholeSpec)

/-- ITS FALSE NEIGHBOUR: 'it returns false'. Refute it at one input. -/
def imageWholeWrong : ChangeSpec := { name := "imageWhole", fn := fun _ => fun
  | [d] => { results := [.lit (.bool false)], args := [d] }
  | _ => none }
def ImageWholeWrongFalsely : Prop := imageWholeRow.holds Try.pinned (OpenSpec.ofChange imageWholeWrong)

/-- 'paintboxlaw08.ImageCuts': WHATEVER THE INPUT: true; the input reads as it did. -/
def imageCutsSpec : ChangeSpec := { name := "imageCuts", fn := fun _ => fun
  | [d1, d2] => { results := [.lit (.bool true)], args := [d1, d2] }
  | _ => none }
def imageCutsRow : OpenClaim := { program := "ytdaipgnhconfnaa", sum := "7379323b1e6fda17bd63c8b24fb9867fa06f93f11c3b646505f77d23638b69ee", func := "paintbox/paintboxlaw08.ImageCuts", spec := "imageCuts", unfollowed := true, recurses := true, apart := false }
def ImageCutsSaid : Prop := imageCutsRow.holds Try.pinned (OpenSpec.ofChange imageCutsSpec)

/-- ITS FALSE NEIGHBOUR: 'it returns false'. Refute it at one input. -/
def imageCutsWrong : ChangeSpec := { name := "imageCuts", fn := fun _ => fun
  | [d1, d2] => { results := [.lit (.bool false)], args := [d1, d2] }
  | _ => none }
def ImageCutsWrongFalsely : Prop := imageCutsRow.holds Try.pinned (OpenSpec.ofChange imageCutsWrong)

/-- 'paintboxlaw08.ImagePlain': WHATEVER THE INPUT: true; the input reads as it did. -/
def imagePlainSpec : ChangeSpec := { name := "imagePlain", fn := fun _ => fun
  | [d1, d2, d3] => { results := [.lit (.bool true)], args := [d1, d2, d3] }
  | _ => none }
def imagePlainRow : OpenClaim := { program := "ytdaipgnhconfnaa", sum := "7379323b1e6fda17bd63c8b24fb9867fa06f93f11c3b646505f77d23638b69ee", func := "paintbox/paintboxlaw08.ImagePlain", spec := "imagePlain", inPlace := ["internal/bytealg.MakeNoZero"], unfollowed := true, recurses := true, apart := false }
def ImagePlainSaid : Prop := imagePlainRow.holds Try.pinned (OpenSpec.ofChange imagePlainSpec)

/-- ITS FALSE NEIGHBOUR: 'it returns false'. Refute it at one input. -/
def imagePlainWrong : ChangeSpec := { name := "imagePlain", fn := fun _ => fun
  | [d1, d2, d3] => { results := [.lit (.bool false)], args := [d1, d2, d3] }
  | _ => none }
def ImagePlainWrongFalsely : Prop := imagePlainRow.holds Try.pinned (OpenSpec.ofChange imagePlainWrong)

/-- 'paintboxlaw08.ImageBack': WHATEVER THE INPUT: true; the input reads as it did. -/
def imageBackSpec : ChangeSpec := { name := "imageBack", fn := fun _ => fun
  | [d1, d2] => { results := [.lit (.bool true)], args := [d1, d2] }
  | _ => none }
def imageBackRow : OpenClaim := { program := "ytdaipgnhconfnaa", sum := "7379323b1e6fda17bd63c8b24fb9867fa06f93f11c3b646505f77d23638b69ee", func := "paintbox/paintboxlaw08.ImageBack", spec := "imageBack", unfollowed := true, recurses := true, apart := false }
def ImageBackSaid : Prop := imageBackRow.holds Try.pinned (OpenSpec.ofChange imageBackSpec)

/-- ITS FALSE NEIGHBOUR: 'it returns false'. Refute it at one input. -/
def imageBackWrong : ChangeSpec := { name := "imageBack", fn := fun _ => fun
  | [d1, d2] => { results := [.lit (.bool false)], args := [d1, d2] }
  | _ => none }
def ImageBackWrongFalsely : Prop := imageBackRow.holds Try.pinned (OpenSpec.ofChange imageBackWrong)

/- THE SECOND FORM. 'bulk': how many values and letters a reading holds, each counted each time it is reached (what is shared counts as often as it is met; a slice's spare places count too). A statement '..UptoSaid' is the law's where the arguments, and the package variables that the reading takes, are together of bulk at most 1048576: NARROWER than '..Said'. Prove '..Said' where nothing that the law and all that it calls make is longer than what came in: it says more and counts as full. Else prove '..UptoSaid'. A law counts once. -/
mutual
def uptoBulk {H : Type} : DataW H → Nat
  | .lit (.string bytes) => bytes.length + 1
  | .lit _ => 1
  | .nil => 1
  | .ptr d => uptoBulk d + 1
  | .slice elems spare => uptoBulkAll elems + uptoBulkAll spare + 1
  | .agg parts => uptoBulkAll parts + 1
  | .iface _ d => uptoBulk d + 1
  | .map entries => uptoBulkEntries entries + 1
  | .held _ => 1
def uptoBulkAll {H : Type} : List (DataW H) → Nat
  | [] => 0
  | d :: r => uptoBulk d + uptoBulkAll r
def uptoBulkEntries {H : Type} : List (Lit × DataW H) → Nat
  | [] => 0
  | x :: r => uptoBulkEntry x + uptoBulkEntries r
def uptoBulkEntry {H : Type} : Lit × DataW H → Nat
  | (.string bytes, d) => bytes.length + uptoBulk d + 1
  | (_, d) => uptoBulk d + 1
 end
def uptoSmall : (H : Type) → List (DataW H) → Bool := fun _ ds => decide (uptoBulkAll ds ≤ 1048576)
def OpenSpec.upto (s : _root_.Go.ChangeSpec) : _root_.Go.OpenSpec := { _root_.Go.OpenSpec.ofChange s with cond := some uptoSmall }

/-- 'paintboxlaw08.ImageMakes', WHERE WHAT IT READS IS OF BULK AT MOST 1048576: true; the input reads as it did. -/
def imageMakesUptoRow : OpenClaim := { program := "ytdaipgnhconfnaa", sum := "7379323b1e6fda17bd63c8b24fb9867fa06f93f11c3b646505f77d23638b69ee", func := "paintbox/paintboxlaw08.ImageMakes", spec := "imageMakes", unfollowed := true, recurses := true, apart := false, narrowed := true }
def ImageMakesUptoSaid : Prop := imageMakesUptoRow.holds Try.pinned (OpenSpec.upto imageMakesSpec)

/-- 'paintboxlaw08.ImageCounts', WHERE WHAT IT READS IS OF BULK AT MOST 1048576: true; the input reads as it did. -/
def imageCountsUptoRow : OpenClaim := { program := "ytdaipgnhconfnaa", sum := "7379323b1e6fda17bd63c8b24fb9867fa06f93f11c3b646505f77d23638b69ee", func := "paintbox/paintboxlaw08.ImageCounts", spec := "imageCounts", unfollowed := true, recurses := true, apart := false, narrowed := true }
def ImageCountsUptoSaid : Prop := imageCountsUptoRow.holds Try.pinned (OpenSpec.upto imageCountsSpec)

/-- 'paintboxlaw08.ImagePuts', WHERE WHAT IT READS IS OF BULK AT MOST 1048576: true; the input reads as it did. -/
def imagePutsUptoRow : OpenClaim := { program := "ytdaipgnhconfnaa", sum := "7379323b1e6fda17bd63c8b24fb9867fa06f93f11c3b646505f77d23638b69ee", func := "paintbox/paintboxlaw08.ImagePuts", spec := "imagePuts", unfollowed := true, recurses := true, apart := false, narrowed := true }
def ImagePutsUptoSaid : Prop := imagePutsUptoRow.holds Try.pinned (OpenSpec.upto imagePutsSpec)

/-- 'paintboxlaw08.ImageSame', WHERE WHAT IT READS IS OF BULK AT MOST 1048576: true; the input reads as it did. -/
def imageSameUptoRow : OpenClaim := { program := "ytdaipgnhconfnaa", sum := "7379323b1e6fda17bd63c8b24fb9867fa06f93f11c3b646505f77d23638b69ee", func := "paintbox/paintboxlaw08.ImageSame", spec := "imageSame", unfollowed := true, recurses := true, apart := false, narrowed := true }
def ImageSameUptoSaid : Prop := imageSameUptoRow.holds Try.pinned (OpenSpec.upto imageSameSpec)

/-- 'paintboxlaw08.ImageParams', WHERE WHAT IT READS IS OF BULK AT MOST 1048576: true; the input reads as it did. -/
def imageParamsUptoRow : OpenClaim := { program := "ytdaipgnhconfnaa", sum := "7379323b1e6fda17bd63c8b24fb9867fa06f93f11c3b646505f77d23638b69ee", func := "paintbox/paintboxlaw08.ImageParams", spec := "imageParams", unfollowed := true, recurses := true, apart := false, narrowed := true }
def ImageParamsUptoSaid : Prop := imageParamsUptoRow.holds Try.pinned (OpenSpec.upto imageParamsSpec)

/-- 'paintboxlaw08.ImageWhole', WHERE WHAT IT READS IS OF BULK AT MOST 1048576: true; the input reads as it did. -/
def imageWholeUptoRow : OpenClaim := { program := "ytdaipgnhconfnaa", sum := "7379323b1e6fda17bd63c8b24fb9867fa06f93f11c3b646505f77d23638b69ee", func := "paintbox/paintboxlaw08.ImageWhole", spec := "imageWhole", unfollowed := true, recurses := true, apart := false, narrowed := true }
def ImageWholeUptoSaid : Prop := imageWholeUptoRow.holds Try.pinned (OpenSpec.upto imageWholeSpec)

/-- 'paintboxlaw08.ImageCuts', WHERE WHAT IT READS IS OF BULK AT MOST 1048576: true; the input reads as it did. -/
def imageCutsUptoRow : OpenClaim := { program := "ytdaipgnhconfnaa", sum := "7379323b1e6fda17bd63c8b24fb9867fa06f93f11c3b646505f77d23638b69ee", func := "paintbox/paintboxlaw08.ImageCuts", spec := "imageCuts", unfollowed := true, recurses := true, apart := false, narrowed := true }
def ImageCutsUptoSaid : Prop := imageCutsUptoRow.holds Try.pinned (OpenSpec.upto imageCutsSpec)

/-- 'paintboxlaw08.ImagePlain', WHERE WHAT IT READS IS OF BULK AT MOST 1048576: true; the input reads as it did. -/
def imagePlainUptoRow : OpenClaim := { program := "ytdaipgnhconfnaa", sum := "7379323b1e6fda17bd63c8b24fb9867fa06f93f11c3b646505f77d23638b69ee", func := "paintbox/paintboxlaw08.ImagePlain", spec := "imagePlain", inPlace := ["internal/bytealg.MakeNoZero"], unfollowed := true, recurses := true, apart := false, narrowed := true }
def ImagePlainUptoSaid : Prop := imagePlainUptoRow.holds Try.pinned (OpenSpec.upto imagePlainSpec)

/-- 'paintboxlaw08.ImageBack', WHERE WHAT IT READS IS OF BULK AT MOST 1048576: true; the input reads as it did. -/
def imageBackUptoRow : OpenClaim := { program := "ytdaipgnhconfnaa", sum := "7379323b1e6fda17bd63c8b24fb9867fa06f93f11c3b646505f77d23638b69ee", func := "paintbox/paintboxlaw08.ImageBack", spec := "imageBack", unfollowed := true, recurses := true, apart := false, narrowed := true }
def ImageBackUptoSaid : Prop := imageBackUptoRow.holds Try.pinned (OpenSpec.upto imageBackSpec)

end Rows
end Go.Proofs.Ytdaipgnhconfnaa
