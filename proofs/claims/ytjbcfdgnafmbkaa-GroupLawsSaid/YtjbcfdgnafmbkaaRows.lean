/-
  No cell of these rows narrows 'for every input' (looked for: loops, veiled, ifaces, maps, wideKeys, modest, calm, conditions, laid).
  DERIVED. THE GIVEN ROWS OF THIS SEAT. 12 by the template 'for every input the law returns true; each argument reads behind the call as it read before'; 0 by the template 'total and deterministic' (their statements: YtjbcfdgnafmbkaaTotals.lean).
  GIVEN WITH THE SEED: the statements are not yours to turn. If you find one false, say at which input.
  Laid BY PROGRAM, IN A SANDBOX (cutbox-rows.mjs): the forced cells as the released guide's own fill.sh prints them over the translation 3196fd46f95a47e6… (all of the seat's roots in one cut). By AI agents, Wed Nov 11 2026. No macro, syntax, notation, axiom, sorry.
-/
import Derived.Test.YtjbcfdgnafmbkaaChecked
import GoSem.Claim
import GoSem.ClaimJoined
import GoSem.ClaimMapViews
import Derived.JoinedTies
import Derived.KernelRfl
namespace Go.Proofs.Ytjbcfdgnafmbkaa
/- THE CELL 'sum', in the pinned program and in every row, IS THE sha256 OF THE DUMP (.gsa) THAT YtjbcfdgnafmbkaaProg.lean LOADS. Nothing in Lean hashes anything: it is a label: what it is worth is what the hold of that sum in a sandbox is worth. -/
noncomputable def Try.pinned : Pinned := { name := "ytjbcfdgnafmbkaa", sum := "3196fd46f95a47e68290efb8b00e2f432a932df910e6f719c00cb9e71fbf65ff", checked := Try.checked }
namespace Rows
def none {H : Type} : Left H := { results := [], args := [] }

/-- 'signatorylaw10.GroupSpec': WHATEVER THE INPUT: true; the input reads as it did. -/
def groupSpecSpec : ChangeSpec := { name := "groupSpec", fn := fun _ => fun
  | [d1, d2, d3] => { results := [.lit (.bool true)], args := [d1, d2, d3] }
  | _ => none }
def groupSpecRow : OpenClaim := { program := "ytjbcfdgnafmbkaa", sum := "3196fd46f95a47e68290efb8b00e2f432a932df910e6f719c00cb9e71fbf65ff", func := "signatory/signatorylaw10.GroupSpec", spec := "groupSpec", unfollowed := true, recurses := true, apart := false }
def GroupSpecSaid : Prop := groupSpecRow.holds Try.pinned (OpenSpec.ofChange groupSpecSpec)

/-- ITS FALSE NEIGHBOUR: 'it returns false'. Refute it at one input. -/
def groupSpecWrong : ChangeSpec := { name := "groupSpec", fn := fun _ => fun
  | [d1, d2, d3] => { results := [.lit (.bool false)], args := [d1, d2, d3] }
  | _ => none }
def GroupSpecWrongFalsely : Prop := groupSpecRow.holds Try.pinned (OpenSpec.ofChange groupSpecWrong)

/-- 'signatorylaw10.GroupLaws': WHATEVER THE INPUT: true; the input reads as it did. -/
def groupLawsSpec : ChangeSpec := { name := "groupLaws", fn := fun _ => fun
  | [d1, d2, d3] => { results := [.lit (.bool true)], args := [d1, d2, d3] }
  | _ => none }
def groupLawsRow : OpenClaim := { program := "ytjbcfdgnafmbkaa", sum := "3196fd46f95a47e68290efb8b00e2f432a932df910e6f719c00cb9e71fbf65ff", func := "signatory/signatorylaw10.GroupLaws", spec := "groupLaws", unfollowed := true, recurses := true, apart := false }
def GroupLawsSaid : Prop := groupLawsRow.holds Try.pinned (OpenSpec.ofChange groupLawsSpec)

/-- ITS FALSE NEIGHBOUR: 'it returns false'. Refute it at one input. -/
def groupLawsWrong : ChangeSpec := { name := "groupLaws", fn := fun _ => fun
  | [d1, d2, d3] => { results := [.lit (.bool false)], args := [d1, d2, d3] }
  | _ => none }
def GroupLawsWrongFalsely : Prop := groupLawsRow.holds Try.pinned (OpenSpec.ofChange groupLawsWrong)

/-- 'signatorylaw10.GroupPowers': WHATEVER THE INPUT: true; the input reads as it did. -/
def groupPowersSpec : ChangeSpec := { name := "groupPowers", fn := fun _ => fun
  | [d1, d2, d3, d4] => { results := [.lit (.bool true)], args := [d1, d2, d3, d4] }
  | _ => none }
def groupPowersRow : OpenClaim := { program := "ytjbcfdgnafmbkaa", sum := "3196fd46f95a47e68290efb8b00e2f432a932df910e6f719c00cb9e71fbf65ff", func := "signatory/signatorylaw10.GroupPowers", spec := "groupPowers", unfollowed := true, recurses := true, apart := false }
def GroupPowersSaid : Prop := groupPowersRow.holds Try.pinned (OpenSpec.ofChange groupPowersSpec)

/-- ITS FALSE NEIGHBOUR: 'it returns false'. Refute it at one input. -/
def groupPowersWrong : ChangeSpec := { name := "groupPowers", fn := fun _ => fun
  | [d1, d2, d3, d4] => { results := [.lit (.bool false)], args := [d1, d2, d3, d4] }
  | _ => none }
def GroupPowersWrongFalsely : Prop := groupPowersRow.holds Try.pinned (OpenSpec.ofChange groupPowersWrong)

/-- 'signatorylaw10.GroupSquares': WHATEVER THE INPUT: true; the input reads as it did. -/
def groupSquaresSpec : ChangeSpec := { name := "groupSquares", fn := fun _ => fun
  | [d] => { results := [.lit (.bool true)], args := [d] }
  | _ => none }
def groupSquaresRow : OpenClaim := { program := "ytjbcfdgnafmbkaa", sum := "3196fd46f95a47e68290efb8b00e2f432a932df910e6f719c00cb9e71fbf65ff", func := "signatory/signatorylaw10.GroupSquares", spec := "groupSquares", unfollowed := true, recurses := true, apart := false }
def GroupSquaresSaid : Prop := groupSquaresRow.holds Try.pinned (OpenSpec.ofChange groupSquaresSpec)

/-- ITS FALSE NEIGHBOUR: 'it returns false'. Refute it at one input. -/
def groupSquaresWrong : ChangeSpec := { name := "groupSquares", fn := fun _ => fun
  | [d] => { results := [.lit (.bool false)], args := [d] }
  | _ => none }
def GroupSquaresWrongFalsely : Prop := groupSquaresRow.holds Try.pinned (OpenSpec.ofChange groupSquaresWrong)

/-- 'signatorylaw10.GroupInverse': WHATEVER THE INPUT: true; the input reads as it did. -/
def groupInverseSpec : ChangeSpec := { name := "groupInverse", fn := fun _ => fun
  | [d1, d2] => { results := [.lit (.bool true)], args := [d1, d2] }
  | _ => none }
def groupInverseRow : OpenClaim := { program := "ytjbcfdgnafmbkaa", sum := "3196fd46f95a47e68290efb8b00e2f432a932df910e6f719c00cb9e71fbf65ff", func := "signatory/signatorylaw10.GroupInverse", spec := "groupInverse", unfollowed := true, recurses := true, apart := false }
def GroupInverseSaid : Prop := groupInverseRow.holds Try.pinned (OpenSpec.ofChange groupInverseSpec)

/-- ITS FALSE NEIGHBOUR: 'it returns false'. Refute it at one input. -/
def groupInverseWrong : ChangeSpec := { name := "groupInverse", fn := fun _ => fun
  | [d1, d2] => { results := [.lit (.bool false)], args := [d1, d2] }
  | _ => none }
def GroupInverseWrongFalsely : Prop := groupInverseRow.holds Try.pinned (OpenSpec.ofChange groupInverseWrong)

/-- 'signatorylaw17.DocumentsAdded': WHATEVER THE INPUT: true; the input reads as it did. -/
def documentsAddedSpec : ChangeSpec := { name := "documentsAdded", fn := fun _ => fun
  | [d1, d2, d3, d4, d5] => { results := [.lit (.bool true)], args := [d1, d2, d3, d4, d5] }
  | _ => none }
def documentsAddedRow : OpenClaim := { program := "ytjbcfdgnafmbkaa", sum := "3196fd46f95a47e68290efb8b00e2f432a932df910e6f719c00cb9e71fbf65ff", func := "signatory/signatorylaw17.DocumentsAdded", spec := "documentsAdded", inPlace := ["slices.overlaps[signatory/api.Document]"], unfollowed := true, recurses := true, apart := false }
def DocumentsAddedSaid : Prop := documentsAddedRow.holds Try.pinned (OpenSpec.ofChange documentsAddedSpec)

/-- ITS FALSE NEIGHBOUR: 'it returns false'. Refute it at one input. -/
def documentsAddedWrong : ChangeSpec := { name := "documentsAdded", fn := fun _ => fun
  | [d1, d2, d3, d4, d5] => { results := [.lit (.bool false)], args := [d1, d2, d3, d4, d5] }
  | _ => none }
def DocumentsAddedWrongFalsely : Prop := documentsAddedRow.holds Try.pinned (OpenSpec.ofChange documentsAddedWrong)

/-- 'signatorylaw17.DocumentsText': WHATEVER THE INPUT: true; the input reads as it did. -/
def documentsTextSpec : ChangeSpec := { name := "documentsText", fn := fun _ => fun
  | [d1, d2] => { results := [.lit (.bool true)], args := [d1, d2] }
  | _ => none }
def documentsTextRow : OpenClaim := { program := "ytjbcfdgnafmbkaa", sum := "3196fd46f95a47e68290efb8b00e2f432a932df910e6f719c00cb9e71fbf65ff", func := "signatory/signatorylaw17.DocumentsText", spec := "documentsText", inPlace := ["slices.overlaps[signatory/api.Document]"], unfollowed := true, recurses := true, apart := false }
def DocumentsTextSaid : Prop := documentsTextRow.holds Try.pinned (OpenSpec.ofChange documentsTextSpec)

/-- ITS FALSE NEIGHBOUR: 'it returns false'. Refute it at one input. -/
def documentsTextWrong : ChangeSpec := { name := "documentsText", fn := fun _ => fun
  | [d1, d2] => { results := [.lit (.bool false)], args := [d1, d2] }
  | _ => none }
def DocumentsTextWrongFalsely : Prop := documentsTextRow.holds Try.pinned (OpenSpec.ofChange documentsTextWrong)

/-- 'signatorylaw17.DocumentsSpec': WHATEVER THE INPUT: true; the input reads as it did. -/
def documentsSpecSpec : ChangeSpec := { name := "documentsSpec", fn := fun _ => fun
  | [d1, d2] => { results := [.lit (.bool true)], args := [d1, d2] }
  | _ => none }
def documentsSpecRow : OpenClaim := { program := "ytjbcfdgnafmbkaa", sum := "3196fd46f95a47e68290efb8b00e2f432a932df910e6f719c00cb9e71fbf65ff", func := "signatory/signatorylaw17.DocumentsSpec", spec := "documentsSpec", inPlace := ["slices.overlaps[signatory/api.Document]"], unfollowed := true, recurses := true, apart := false }
def DocumentsSpecSaid : Prop := documentsSpecRow.holds Try.pinned (OpenSpec.ofChange documentsSpecSpec)

/-- ITS FALSE NEIGHBOUR: 'it returns false'. Refute it at one input. -/
def documentsSpecWrong : ChangeSpec := { name := "documentsSpec", fn := fun _ => fun
  | [d1, d2] => { results := [.lit (.bool false)], args := [d1, d2] }
  | _ => none }
def DocumentsSpecWrongFalsely : Prop := documentsSpecRow.holds Try.pinned (OpenSpec.ofChange documentsSpecWrong)

/-- 'signatorylaw17.DocumentsWhySpec': WHATEVER THE INPUT: true; the input reads as it did. -/
def documentsWhySpecSpec : ChangeSpec := { name := "documentsWhySpec", fn := fun _ => fun
  | [d1, d2, d3, d4] => { results := [.lit (.bool true)], args := [d1, d2, d3, d4] }
  | _ => none }
def documentsWhySpecRow : OpenClaim := { program := "ytjbcfdgnafmbkaa", sum := "3196fd46f95a47e68290efb8b00e2f432a932df910e6f719c00cb9e71fbf65ff", func := "signatory/signatorylaw17.DocumentsWhySpec", spec := "documentsWhySpec", inPlace := ["slices.overlaps[signatory/api.Document]"], unfollowed := true, recurses := true, apart := false }
def DocumentsWhySpecSaid : Prop := documentsWhySpecRow.holds Try.pinned (OpenSpec.ofChange documentsWhySpecSpec)

/-- ITS FALSE NEIGHBOUR: 'it returns false'. Refute it at one input. -/
def documentsWhySpecWrong : ChangeSpec := { name := "documentsWhySpec", fn := fun _ => fun
  | [d1, d2, d3, d4] => { results := [.lit (.bool false)], args := [d1, d2, d3, d4] }
  | _ => none }
def DocumentsWhySpecWrongFalsely : Prop := documentsWhySpecRow.holds Try.pinned (OpenSpec.ofChange documentsWhySpecWrong)

/-- 'signatorylaw17.DocumentsForce': WHATEVER THE INPUT: true; the input reads as it did. -/
def documentsForceSpec : ChangeSpec := { name := "documentsForce", fn := fun _ => fun
  | [d1, d2, d3] => { results := [.lit (.bool true)], args := [d1, d2, d3] }
  | _ => none }
def documentsForceRow : OpenClaim := { program := "ytjbcfdgnafmbkaa", sum := "3196fd46f95a47e68290efb8b00e2f432a932df910e6f719c00cb9e71fbf65ff", func := "signatory/signatorylaw17.DocumentsForce", spec := "documentsForce", inPlace := ["slices.overlaps[signatory/api.Document]"], unfollowed := true, recurses := true, apart := false }
def DocumentsForceSaid : Prop := documentsForceRow.holds Try.pinned (OpenSpec.ofChange documentsForceSpec)

/-- ITS FALSE NEIGHBOUR: 'it returns false'. Refute it at one input. -/
def documentsForceWrong : ChangeSpec := { name := "documentsForce", fn := fun _ => fun
  | [d1, d2, d3] => { results := [.lit (.bool false)], args := [d1, d2, d3] }
  | _ => none }
def DocumentsForceWrongFalsely : Prop := documentsForceRow.holds Try.pinned (OpenSpec.ofChange documentsForceWrong)

/-- 'signatorylaw17.DocumentsWhy': WHATEVER THE INPUT: true; the input reads as it did. -/
def documentsWhySpec : ChangeSpec := { name := "documentsWhy", fn := fun _ => fun
  | [d1, d2, d3] => { results := [.lit (.bool true)], args := [d1, d2, d3] }
  | _ => none }
def documentsWhyRow : OpenClaim := { program := "ytjbcfdgnafmbkaa", sum := "3196fd46f95a47e68290efb8b00e2f432a932df910e6f719c00cb9e71fbf65ff", func := "signatory/signatorylaw17.DocumentsWhy", spec := "documentsWhy", inPlace := ["slices.overlaps[signatory/api.Document]"], unfollowed := true, recurses := true, apart := false }
def DocumentsWhySaid : Prop := documentsWhyRow.holds Try.pinned (OpenSpec.ofChange documentsWhySpec)

/-- ITS FALSE NEIGHBOUR: 'it returns false'. Refute it at one input. -/
def documentsWhyWrong : ChangeSpec := { name := "documentsWhy", fn := fun _ => fun
  | [d1, d2, d3] => { results := [.lit (.bool false)], args := [d1, d2, d3] }
  | _ => none }
def DocumentsWhyWrongFalsely : Prop := documentsWhyRow.holds Try.pinned (OpenSpec.ofChange documentsWhyWrong)

/-- 'signatorylaw17.DocumentsLater': WHATEVER THE INPUT: true; the input reads as it did. -/
def documentsLaterSpec : ChangeSpec := { name := "documentsLater", fn := fun _ => fun
  | [d1, d2, d3, d4] => { results := [.lit (.bool true)], args := [d1, d2, d3, d4] }
  | _ => none }
def documentsLaterRow : OpenClaim := { program := "ytjbcfdgnafmbkaa", sum := "3196fd46f95a47e68290efb8b00e2f432a932df910e6f719c00cb9e71fbf65ff", func := "signatory/signatorylaw17.DocumentsLater", spec := "documentsLater", inPlace := ["slices.overlaps[signatory/api.Document]"], unfollowed := true, recurses := true, apart := false }
def DocumentsLaterSaid : Prop := documentsLaterRow.holds Try.pinned (OpenSpec.ofChange documentsLaterSpec)

/-- ITS FALSE NEIGHBOUR: 'it returns false'. Refute it at one input. -/
def documentsLaterWrong : ChangeSpec := { name := "documentsLater", fn := fun _ => fun
  | [d1, d2, d3, d4] => { results := [.lit (.bool false)], args := [d1, d2, d3, d4] }
  | _ => none }
def DocumentsLaterWrongFalsely : Prop := documentsLaterRow.holds Try.pinned (OpenSpec.ofChange documentsLaterWrong)

/- THE SECOND FORM. 'bulk': how many values and letters a reading holds, each counted each time it is reached (what is shared counts as often as it is met; a slice's spare places count too). A statement '..UptoSaid' is the law's where the arguments, and the package variables that the reading takes, are together of bulk at most 1048576: NARROWER than '..Said'. Prove '..Said' where nothing that the law and all that it calls make is longer than what came in: it says more and counts as full. Else prove '..UptoSaid'. A law counts once. -/
mutual
def uptoBulk {H : Type} : DataW H → Nat
  | .lit (.string bytes) => bytes.length + 1
  | .lit _ => 1
  | .nil => 1
  | .ptr d => uptoBulk d + 1
  | .slice elems spare => uptoBulkAll elems + uptoBulkAll spare + 1
  | .agg parts => uptoBulkAll parts + 1
  | .iface _ d => uptoBulk d + 1
  | .map entries => uptoBulkEntries entries + 1
  | .held _ => 1
def uptoBulkAll {H : Type} : List (DataW H) → Nat
  | [] => 0
  | d :: r => uptoBulk d + uptoBulkAll r
def uptoBulkEntries {H : Type} : List (Lit × DataW H) → Nat
  | [] => 0
  | x :: r => uptoBulkEntry x + uptoBulkEntries r
def uptoBulkEntry {H : Type} : Lit × DataW H → Nat
  | (.string bytes, d) => bytes.length + uptoBulk d + 1
  | (_, d) => uptoBulk d + 1
 end
def uptoSmall : (H : Type) → List (DataW H) → Bool := fun _ ds => decide (uptoBulkAll ds ≤ 1048576)
def OpenSpec.upto (s : _root_.Go.ChangeSpec) : _root_.Go.OpenSpec := { _root_.Go.OpenSpec.ofChange s with cond := some uptoSmall }

/-- 'signatorylaw10.GroupSpec', WHERE WHAT IT READS IS OF BULK AT MOST 1048576: true; the input reads as it did. -/
def groupSpecUptoRow : OpenClaim := { program := "ytjbcfdgnafmbkaa", sum := "3196fd46f95a47e68290efb8b00e2f432a932df910e6f719c00cb9e71fbf65ff", func := "signatory/signatorylaw10.GroupSpec", spec := "groupSpec", unfollowed := true, recurses := true, apart := false, narrowed := true }
def GroupSpecUptoSaid : Prop := groupSpecUptoRow.holds Try.pinned (OpenSpec.upto groupSpecSpec)

/-- 'signatorylaw10.GroupLaws', WHERE WHAT IT READS IS OF BULK AT MOST 1048576: true; the input reads as it did. -/
def groupLawsUptoRow : OpenClaim := { program := "ytjbcfdgnafmbkaa", sum := "3196fd46f95a47e68290efb8b00e2f432a932df910e6f719c00cb9e71fbf65ff", func := "signatory/signatorylaw10.GroupLaws", spec := "groupLaws", unfollowed := true, recurses := true, apart := false, narrowed := true }
def GroupLawsUptoSaid : Prop := groupLawsUptoRow.holds Try.pinned (OpenSpec.upto groupLawsSpec)

/-- 'signatorylaw10.GroupPowers', WHERE WHAT IT READS IS OF BULK AT MOST 1048576: true; the input reads as it did. -/
def groupPowersUptoRow : OpenClaim := { program := "ytjbcfdgnafmbkaa", sum := "3196fd46f95a47e68290efb8b00e2f432a932df910e6f719c00cb9e71fbf65ff", func := "signatory/signatorylaw10.GroupPowers", spec := "groupPowers", unfollowed := true, recurses := true, apart := false, narrowed := true }
def GroupPowersUptoSaid : Prop := groupPowersUptoRow.holds Try.pinned (OpenSpec.upto groupPowersSpec)

/-- 'signatorylaw10.GroupSquares', WHERE WHAT IT READS IS OF BULK AT MOST 1048576: true; the input reads as it did. -/
def groupSquaresUptoRow : OpenClaim := { program := "ytjbcfdgnafmbkaa", sum := "3196fd46f95a47e68290efb8b00e2f432a932df910e6f719c00cb9e71fbf65ff", func := "signatory/signatorylaw10.GroupSquares", spec := "groupSquares", unfollowed := true, recurses := true, apart := false, narrowed := true }
def GroupSquaresUptoSaid : Prop := groupSquaresUptoRow.holds Try.pinned (OpenSpec.upto groupSquaresSpec)

/-- 'signatorylaw10.GroupInverse', WHERE WHAT IT READS IS OF BULK AT MOST 1048576: true; the input reads as it did. -/
def groupInverseUptoRow : OpenClaim := { program := "ytjbcfdgnafmbkaa", sum := "3196fd46f95a47e68290efb8b00e2f432a932df910e6f719c00cb9e71fbf65ff", func := "signatory/signatorylaw10.GroupInverse", spec := "groupInverse", unfollowed := true, recurses := true, apart := false, narrowed := true }
def GroupInverseUptoSaid : Prop := groupInverseUptoRow.holds Try.pinned (OpenSpec.upto groupInverseSpec)

/-- 'signatorylaw17.DocumentsAdded', WHERE WHAT IT READS IS OF BULK AT MOST 1048576: true; the input reads as it did. -/
def documentsAddedUptoRow : OpenClaim := { program := "ytjbcfdgnafmbkaa", sum := "3196fd46f95a47e68290efb8b00e2f432a932df910e6f719c00cb9e71fbf65ff", func := "signatory/signatorylaw17.DocumentsAdded", spec := "documentsAdded", inPlace := ["slices.overlaps[signatory/api.Document]"], unfollowed := true, recurses := true, apart := false, narrowed := true }
def DocumentsAddedUptoSaid : Prop := documentsAddedUptoRow.holds Try.pinned (OpenSpec.upto documentsAddedSpec)

/-- 'signatorylaw17.DocumentsText', WHERE WHAT IT READS IS OF BULK AT MOST 1048576: true; the input reads as it did. -/
def documentsTextUptoRow : OpenClaim := { program := "ytjbcfdgnafmbkaa", sum := "3196fd46f95a47e68290efb8b00e2f432a932df910e6f719c00cb9e71fbf65ff", func := "signatory/signatorylaw17.DocumentsText", spec := "documentsText", inPlace := ["slices.overlaps[signatory/api.Document]"], unfollowed := true, recurses := true, apart := false, narrowed := true }
def DocumentsTextUptoSaid : Prop := documentsTextUptoRow.holds Try.pinned (OpenSpec.upto documentsTextSpec)

/-- 'signatorylaw17.DocumentsSpec', WHERE WHAT IT READS IS OF BULK AT MOST 1048576: true; the input reads as it did. -/
def documentsSpecUptoRow : OpenClaim := { program := "ytjbcfdgnafmbkaa", sum := "3196fd46f95a47e68290efb8b00e2f432a932df910e6f719c00cb9e71fbf65ff", func := "signatory/signatorylaw17.DocumentsSpec", spec := "documentsSpec", inPlace := ["slices.overlaps[signatory/api.Document]"], unfollowed := true, recurses := true, apart := false, narrowed := true }
def DocumentsSpecUptoSaid : Prop := documentsSpecUptoRow.holds Try.pinned (OpenSpec.upto documentsSpecSpec)

/-- 'signatorylaw17.DocumentsWhySpec', WHERE WHAT IT READS IS OF BULK AT MOST 1048576: true; the input reads as it did. -/
def documentsWhySpecUptoRow : OpenClaim := { program := "ytjbcfdgnafmbkaa", sum := "3196fd46f95a47e68290efb8b00e2f432a932df910e6f719c00cb9e71fbf65ff", func := "signatory/signatorylaw17.DocumentsWhySpec", spec := "documentsWhySpec", inPlace := ["slices.overlaps[signatory/api.Document]"], unfollowed := true, recurses := true, apart := false, narrowed := true }
def DocumentsWhySpecUptoSaid : Prop := documentsWhySpecUptoRow.holds Try.pinned (OpenSpec.upto documentsWhySpecSpec)

/-- 'signatorylaw17.DocumentsForce', WHERE WHAT IT READS IS OF BULK AT MOST 1048576: true; the input reads as it did. -/
def documentsForceUptoRow : OpenClaim := { program := "ytjbcfdgnafmbkaa", sum := "3196fd46f95a47e68290efb8b00e2f432a932df910e6f719c00cb9e71fbf65ff", func := "signatory/signatorylaw17.DocumentsForce", spec := "documentsForce", inPlace := ["slices.overlaps[signatory/api.Document]"], unfollowed := true, recurses := true, apart := false, narrowed := true }
def DocumentsForceUptoSaid : Prop := documentsForceUptoRow.holds Try.pinned (OpenSpec.upto documentsForceSpec)

/-- 'signatorylaw17.DocumentsWhy', WHERE WHAT IT READS IS OF BULK AT MOST 1048576: true; the input reads as it did. -/
def documentsWhyUptoRow : OpenClaim := { program := "ytjbcfdgnafmbkaa", sum := "3196fd46f95a47e68290efb8b00e2f432a932df910e6f719c00cb9e71fbf65ff", func := "signatory/signatorylaw17.DocumentsWhy", spec := "documentsWhy", inPlace := ["slices.overlaps[signatory/api.Document]"], unfollowed := true, recurses := true, apart := false, narrowed := true }
def DocumentsWhyUptoSaid : Prop := documentsWhyUptoRow.holds Try.pinned (OpenSpec.upto documentsWhySpec)

/-- 'signatorylaw17.DocumentsLater', WHERE WHAT IT READS IS OF BULK AT MOST 1048576: true; the input reads as it did. -/
def documentsLaterUptoRow : OpenClaim := { program := "ytjbcfdgnafmbkaa", sum := "3196fd46f95a47e68290efb8b00e2f432a932df910e6f719c00cb9e71fbf65ff", func := "signatory/signatorylaw17.DocumentsLater", spec := "documentsLater", inPlace := ["slices.overlaps[signatory/api.Document]"], unfollowed := true, recurses := true, apart := false, narrowed := true }
def DocumentsLaterUptoSaid : Prop := documentsLaterUptoRow.holds Try.pinned (OpenSpec.upto documentsLaterSpec)

end Rows
end Go.Proofs.Ytjbcfdgnafmbkaa
