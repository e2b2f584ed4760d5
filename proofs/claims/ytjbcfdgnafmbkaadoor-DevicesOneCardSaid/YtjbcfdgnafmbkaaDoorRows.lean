/-
  NARROWER THAN 'FOR EVERY INPUT', by the rows' own cells (each row's printed sentence says how): GroupNumbersSpec: laid · GroupHash: laid · NoncesSpec: laid · NoncesTakeSpec: laid · NoncesOnce: laid · NoncesParts: laid · NoncesValid: laid · DevicesSpec: laid · DevicesCurrentSpec: laid · DevicesOne: laid · DevicesOld: laid · DevicesMatter: laid.
  DERIVED. THE GIVEN ROWS OF THIS SEAT. 12 by the template 'for every input the law returns true; each argument reads behind the call as it read before'; 0 by the template 'total and deterministic' (their statements: YtjbcfdgnafmbkaaDoorTotals.lean).
  GIVEN WITH THE SEED: the statements are not yours to turn. If you find one false, say at which input.
  Laid BY PROGRAM, IN A SANDBOX (cutbox-rows.mjs): the forced cells as the released guide's own fill.sh prints them over the translation 43d7abb5c4a0bfb0… (all of the seat's roots in one cut). By AI agents, Wed Nov 11 2026. No macro, syntax, notation, axiom, sorry.
-/
import Derived.Test.YtjbcfdgnafmbkaaDoorChecked
import GoSem.Claim
import GoSem.ClaimJoined
import GoSem.ClaimMapViews
import Derived.JoinedTies
import Derived.KernelRfl
namespace Go.Proofs.YtjbcfdgnafmbkaaDoor
/- THE CELL 'sum', in the pinned program and in every row, IS THE sha256 OF THE DUMP (.gsa) THAT YtjbcfdgnafmbkaaDoorProg.lean LOADS. Nothing in Lean hashes anything: it is a label: what it is worth is what the hold of that sum in a sandbox is worth. -/
noncomputable def Tryd.pinned : Pinned := { name := "ytjbcfdgnafmbkaadoor", sum := "43d7abb5c4a0bfb054dc70a573b47729170766f1136c7854647596d1be52f015", checked := Tryd.checked }
namespace Rows
def none {H : Type} : Left H := { results := [], args := [] }

/- WHAT THE LISTED PACKAGE-LEVEL VARIABLES READ AS WHEN THE CALL BEGINS. Each datum BY PROGRAM (the guide's laid-datum.mjs) off the statement by which the dump's own 'gosem.cut.vars' lays the variable. In a bare row this is a premise. The card (YtjbcfdgnafmbkaaDoorCards.lean) ties it to the program's text. -/
def laid_signatory_digest_start {H : Type} : DataW H := .agg [.lit (.int .u32 1779033703), .lit (.int .u32 3144134277), .lit (.int .u32 1013904242), .lit (.int .u32 2773480762), .lit (.int .u32 1359893119), .lit (.int .u32 2600822924), .lit (.int .u32 528734635), .lit (.int .u32 1541459225)]
def laid_signatory_digest_numbers {H : Type} : DataW H := .agg [.lit (.int .u32 1116352408), .lit (.int .u32 1899447441), .lit (.int .u32 3049323471), .lit (.int .u32 3921009573), .lit (.int .u32 961987163), .lit (.int .u32 1508970993), .lit (.int .u32 2453635748), .lit (.int .u32 2870763221), .lit (.int .u32 3624381080), .lit (.int .u32 310598401), .lit (.int .u32 607225278), .lit (.int .u32 1426881987), .lit (.int .u32 1925078388), .lit (.int .u32 2162078206), .lit (.int .u32 2614888103), .lit (.int .u32 3248222580), .lit (.int .u32 3835390401), .lit (.int .u32 4022224774), .lit (.int .u32 264347078), .lit (.int .u32 604807628), .lit (.int .u32 770255983), .lit (.int .u32 1249150122), .lit (.int .u32 1555081692), .lit (.int .u32 1996064986), .lit (.int .u32 2554220882), .lit (.int .u32 2821834349), .lit (.int .u32 2952996808), .lit (.int .u32 3210313671), .lit (.int .u32 3336571891), .lit (.int .u32 3584528711), .lit (.int .u32 113926993), .lit (.int .u32 338241895), .lit (.int .u32 666307205), .lit (.int .u32 773529912), .lit (.int .u32 1294757372), .lit (.int .u32 1396182291), .lit (.int .u32 1695183700), .lit (.int .u32 1986661051), .lit (.int .u32 2177026350), .lit (.int .u32 2456956037), .lit (.int .u32 2730485921), .lit (.int .u32 2820302411), .lit (.int .u32 3259730800), .lit (.int .u32 3345764771), .lit (.int .u32 3516065817), .lit (.int .u32 3600352804), .lit (.int .u32 4094571909), .lit (.int .u32 275423344), .lit (.int .u32 430227734), .lit (.int .u32 506948616), .lit (.int .u32 659060556), .lit (.int .u32 883997877), .lit (.int .u32 958139571), .lit (.int .u32 1322822218), .lit (.int .u32 1537002063), .lit (.int .u32 1747873779), .lit (.int .u32 1955562222), .lit (.int .u32 2024104815), .lit (.int .u32 2227730452), .lit (.int .u32 2361852424), .lit (.int .u32 2428436474), .lit (.int .u32 2756734187), .lit (.int .u32 3204031479), .lit (.int .u32 3329325298)]

/-- 'signatorylaw10.GroupNumbersSpec': WHATEVER THE INPUT: true; the input reads as it did. -/
def groupNumbersSpecSpec : ChangeSpec := { name := "groupNumbersSpec", fn := fun _ => fun
  | [d1, d2, d3] => { results := [.lit (.bool true)], args := [d1, d2, d3] }
  | _ => none }
def groupNumbersSpecRow : OpenClaim := { program := "ytjbcfdgnafmbkaadoor", sum := "43d7abb5c4a0bfb054dc70a573b47729170766f1136c7854647596d1be52f015", func := "signatory/signatorylaw10.GroupNumbersSpec", spec := "groupNumbersSpec", unfollowed := true, recurses := true, named := ["signatory/digest.start", "signatory/digest.numbers"], apart := false, laid := [("signatory/digest.start", laid_signatory_digest_start), ("signatory/digest.numbers", laid_signatory_digest_numbers)] }
def GroupNumbersSpecSaid : Prop := groupNumbersSpecRow.holds Tryd.pinned (OpenSpec.ofChange groupNumbersSpecSpec)

/-- ITS FALSE NEIGHBOUR: 'it returns false'. Refute it at one input. -/
def groupNumbersSpecWrong : ChangeSpec := { name := "groupNumbersSpec", fn := fun _ => fun
  | [d1, d2, d3] => { results := [.lit (.bool false)], args := [d1, d2, d3] }
  | _ => none }
def GroupNumbersSpecWrongFalsely : Prop := groupNumbersSpecRow.holds Tryd.pinned (OpenSpec.ofChange groupNumbersSpecWrong)

/-- 'signatorylaw10.GroupHash': WHATEVER THE INPUT: true; the input reads as it did. -/
def groupHashSpec : ChangeSpec := { name := "groupHash", fn := fun _ => fun
  | [d1, d2] => { results := [.lit (.bool true)], args := [d1, d2] }
  | _ => none }
def groupHashRow : OpenClaim := { program := "ytjbcfdgnafmbkaadoor", sum := "43d7abb5c4a0bfb054dc70a573b47729170766f1136c7854647596d1be52f015", func := "signatory/signatorylaw10.GroupHash", spec := "groupHash", unfollowed := true, recurses := true, named := ["signatory/digest.start", "signatory/digest.numbers"], apart := false, laid := [("signatory/digest.start", laid_signatory_digest_start), ("signatory/digest.numbers", laid_signatory_digest_numbers)] }
def GroupHashSaid : Prop := groupHashRow.holds Tryd.pinned (OpenSpec.ofChange groupHashSpec)

/-- ITS FALSE NEIGHBOUR: 'it returns false'. Refute it at one input. -/
def groupHashWrong : ChangeSpec := { name := "groupHash", fn := fun _ => fun
  | [d1, d2] => { results := [.lit (.bool false)], args := [d1, d2] }
  | _ => none }
def GroupHashWrongFalsely : Prop := groupHashRow.holds Tryd.pinned (OpenSpec.ofChange groupHashWrong)

/-- 'signatorylaw41.NoncesSpec': WHATEVER THE INPUT: true; the input reads as it did. -/
def noncesSpecSpec : ChangeSpec := { name := "noncesSpec", fn := fun _ => fun
  | [d1, d2, d3, d4] => { results := [.lit (.bool true)], args := [d1, d2, d3, d4] }
  | _ => none }
def noncesSpecRow : OpenClaim := { program := "ytjbcfdgnafmbkaadoor", sum := "43d7abb5c4a0bfb054dc70a573b47729170766f1136c7854647596d1be52f015", func := "signatory/signatorylaw41.NoncesSpec", spec := "noncesSpec", unfollowed := true, recurses := true, named := ["signatory/digest.start", "signatory/digest.numbers"], apart := false, laid := [("signatory/digest.start", laid_signatory_digest_start), ("signatory/digest.numbers", laid_signatory_digest_numbers)] }
def NoncesSpecSaid : Prop := noncesSpecRow.holds Tryd.pinned (OpenSpec.ofChange noncesSpecSpec)

/-- ITS FALSE NEIGHBOUR: 'it returns false'. Refute it at one input. -/
def noncesSpecWrong : ChangeSpec := { name := "noncesSpec", fn := fun _ => fun
  | [d1, d2, d3, d4] => { results := [.lit (.bool false)], args := [d1, d2, d3, d4] }
  | _ => none }
def NoncesSpecWrongFalsely : Prop := noncesSpecRow.holds Tryd.pinned (OpenSpec.ofChange noncesSpecWrong)

/-- 'signatorylaw41.NoncesTakeSpec': WHATEVER THE INPUT: true; the input reads as it did. -/
def noncesTakeSpecSpec : ChangeSpec := { name := "noncesTakeSpec", fn := fun _ => fun
  | [d1, d2, d3] => { results := [.lit (.bool true)], args := [d1, d2, d3] }
  | _ => none }
def noncesTakeSpecRow : OpenClaim := { program := "ytjbcfdgnafmbkaadoor", sum := "43d7abb5c4a0bfb054dc70a573b47729170766f1136c7854647596d1be52f015", func := "signatory/signatorylaw41.NoncesTakeSpec", spec := "noncesTakeSpec", unfollowed := true, recurses := true, named := ["signatory/digest.start", "signatory/digest.numbers"], apart := false, laid := [("signatory/digest.start", laid_signatory_digest_start), ("signatory/digest.numbers", laid_signatory_digest_numbers)] }
def NoncesTakeSpecSaid : Prop := noncesTakeSpecRow.holds Tryd.pinned (OpenSpec.ofChange noncesTakeSpecSpec)

/-- ITS FALSE NEIGHBOUR: 'it returns false'. Refute it at one input. -/
def noncesTakeSpecWrong : ChangeSpec := { name := "noncesTakeSpec", fn := fun _ => fun
  | [d1, d2, d3] => { results := [.lit (.bool false)], args := [d1, d2, d3] }
  | _ => none }
def NoncesTakeSpecWrongFalsely : Prop := noncesTakeSpecRow.holds Tryd.pinned (OpenSpec.ofChange noncesTakeSpecWrong)

/-- 'signatorylaw41.NoncesOnce': WHATEVER THE INPUT: true; the input reads as it did. -/
def noncesOnceSpec : ChangeSpec := { name := "noncesOnce", fn := fun _ => fun
  | [d1, d2, d3] => { results := [.lit (.bool true)], args := [d1, d2, d3] }
  | _ => none }
def noncesOnceRow : OpenClaim := { program := "ytjbcfdgnafmbkaadoor", sum := "43d7abb5c4a0bfb054dc70a573b47729170766f1136c7854647596d1be52f015", func := "signatory/signatorylaw41.NoncesOnce", spec := "noncesOnce", unfollowed := true, recurses := true, named := ["signatory/digest.start", "signatory/digest.numbers"], apart := false, laid := [("signatory/digest.start", laid_signatory_digest_start), ("signatory/digest.numbers", laid_signatory_digest_numbers)] }
def NoncesOnceSaid : Prop := noncesOnceRow.holds Tryd.pinned (OpenSpec.ofChange noncesOnceSpec)

/-- ITS FALSE NEIGHBOUR: 'it returns false'. Refute it at one input. -/
def noncesOnceWrong : ChangeSpec := { name := "noncesOnce", fn := fun _ => fun
  | [d1, d2, d3] => { results := [.lit (.bool false)], args := [d1, d2, d3] }
  | _ => none }
def NoncesOnceWrongFalsely : Prop := noncesOnceRow.holds Tryd.pinned (OpenSpec.ofChange noncesOnceWrong)

/-- 'signatorylaw41.NoncesParts': WHATEVER THE INPUT: true; the input reads as it did. -/
def noncesPartsSpec : ChangeSpec := { name := "noncesParts", fn := fun _ => fun
  | [d1, d2, d3] => { results := [.lit (.bool true)], args := [d1, d2, d3] }
  | _ => none }
def noncesPartsRow : OpenClaim := { program := "ytjbcfdgnafmbkaadoor", sum := "43d7abb5c4a0bfb054dc70a573b47729170766f1136c7854647596d1be52f015", func := "signatory/signatorylaw41.NoncesParts", spec := "noncesParts", unfollowed := true, recurses := true, named := ["signatory/digest.start", "signatory/digest.numbers"], apart := false, laid := [("signatory/digest.start", laid_signatory_digest_start), ("signatory/digest.numbers", laid_signatory_digest_numbers)] }
def NoncesPartsSaid : Prop := noncesPartsRow.holds Tryd.pinned (OpenSpec.ofChange noncesPartsSpec)

/-- ITS FALSE NEIGHBOUR: 'it returns false'. Refute it at one input. -/
def noncesPartsWrong : ChangeSpec := { name := "noncesParts", fn := fun _ => fun
  | [d1, d2, d3] => { results := [.lit (.bool false)], args := [d1, d2, d3] }
  | _ => none }
def NoncesPartsWrongFalsely : Prop := noncesPartsRow.holds Tryd.pinned (OpenSpec.ofChange noncesPartsWrong)

/-- 'signatorylaw41.NoncesValid': WHATEVER THE INPUT: true; the input reads as it did. -/
def noncesValidSpec : ChangeSpec := { name := "noncesValid", fn := fun _ => fun
  | [d1, d2] => { results := [.lit (.bool true)], args := [d1, d2] }
  | _ => none }
def noncesValidRow : OpenClaim := { program := "ytjbcfdgnafmbkaadoor", sum := "43d7abb5c4a0bfb054dc70a573b47729170766f1136c7854647596d1be52f015", func := "signatory/signatorylaw41.NoncesValid", spec := "noncesValid", unfollowed := true, recurses := true, named := ["signatory/digest.start", "signatory/digest.numbers"], apart := false, laid := [("signatory/digest.start", laid_signatory_digest_start), ("signatory/digest.numbers", laid_signatory_digest_numbers)] }
def NoncesValidSaid : Prop := noncesValidRow.holds Tryd.pinned (OpenSpec.ofChange noncesValidSpec)

/-- ITS FALSE NEIGHBOUR: 'it returns false'. Refute it at one input. -/
def noncesValidWrong : ChangeSpec := { name := "noncesValid", fn := fun _ => fun
  | [d1, d2] => { results := [.lit (.bool false)], args := [d1, d2] }
  | _ => none }
def NoncesValidWrongFalsely : Prop := noncesValidRow.holds Tryd.pinned (OpenSpec.ofChange noncesValidWrong)

/-- 'signatorylaw48.DevicesSpec': WHATEVER THE INPUT: true; the input reads as it did. -/
def devicesSpecSpec : ChangeSpec := { name := "devicesSpec", fn := fun _ => fun
  | [d1, d2] => { results := [.lit (.bool true)], args := [d1, d2] }
  | _ => none }
def devicesSpecRow : OpenClaim := { program := "ytjbcfdgnafmbkaadoor", sum := "43d7abb5c4a0bfb054dc70a573b47729170766f1136c7854647596d1be52f015", func := "signatory/signatorylaw48.DevicesSpec", spec := "devicesSpec", inPlace := ["slices.overlaps[signatory/api.Device]"], unfollowed := true, recurses := true, named := ["signatory/digest.start", "signatory/digest.numbers"], apart := false, laid := [("signatory/digest.start", laid_signatory_digest_start), ("signatory/digest.numbers", laid_signatory_digest_numbers)] }
def DevicesSpecSaid : Prop := devicesSpecRow.holds Tryd.pinned (OpenSpec.ofChange devicesSpecSpec)

/-- ITS FALSE NEIGHBOUR: 'it returns false'. Refute it at one input. -/
def devicesSpecWrong : ChangeSpec := { name := "devicesSpec", fn := fun _ => fun
  | [d1, d2] => { results := [.lit (.bool false)], args := [d1, d2] }
  | _ => none }
def DevicesSpecWrongFalsely : Prop := devicesSpecRow.holds Tryd.pinned (OpenSpec.ofChange devicesSpecWrong)

/-- 'signatorylaw48.DevicesCurrentSpec': WHATEVER THE INPUT: true; the input reads as it did. -/
def devicesCurrentSpecSpec : ChangeSpec := { name := "devicesCurrentSpec", fn := fun _ => fun
  | [d1, d2, d3, d4, d5, d6] => { results := [.lit (.bool true)], args := [d1, d2, d3, d4, d5, d6] }
  | _ => none }
def devicesCurrentSpecRow : OpenClaim := { program := "ytjbcfdgnafmbkaadoor", sum := "43d7abb5c4a0bfb054dc70a573b47729170766f1136c7854647596d1be52f015", func := "signatory/signatorylaw48.DevicesCurrentSpec", spec := "devicesCurrentSpec", inPlace := ["slices.overlaps[signatory/api.Device]"], unfollowed := true, recurses := true, named := ["signatory/digest.start", "signatory/digest.numbers"], apart := false, laid := [("signatory/digest.start", laid_signatory_digest_start), ("signatory/digest.numbers", laid_signatory_digest_numbers)] }
def DevicesCurrentSpecSaid : Prop := devicesCurrentSpecRow.holds Tryd.pinned (OpenSpec.ofChange devicesCurrentSpecSpec)

/-- ITS FALSE NEIGHBOUR: 'it returns false'. Refute it at one input. -/
def devicesCurrentSpecWrong : ChangeSpec := { name := "devicesCurrentSpec", fn := fun _ => fun
  | [d1, d2, d3, d4, d5, d6] => { results := [.lit (.bool false)], args := [d1, d2, d3, d4, d5, d6] }
  | _ => none }
def DevicesCurrentSpecWrongFalsely : Prop := devicesCurrentSpecRow.holds Tryd.pinned (OpenSpec.ofChange devicesCurrentSpecWrong)

/-- 'signatorylaw48.DevicesOne': WHATEVER THE INPUT: true; the input reads as it did. -/
def devicesOneSpec : ChangeSpec := { name := "devicesOne", fn := fun _ => fun
  | [d1, d2, d3, d4, d5, d6, d7] => { results := [.lit (.bool true)], args := [d1, d2, d3, d4, d5, d6, d7] }
  | _ => none }
def devicesOneRow : OpenClaim := { program := "ytjbcfdgnafmbkaadoor", sum := "43d7abb5c4a0bfb054dc70a573b47729170766f1136c7854647596d1be52f015", func := "signatory/signatorylaw48.DevicesOne", spec := "devicesOne", inPlace := ["slices.overlaps[signatory/api.Device]"], unfollowed := true, recurses := true, named := ["signatory/digest.start", "signatory/digest.numbers"], apart := false, laid := [("signatory/digest.start", laid_signatory_digest_start), ("signatory/digest.numbers", laid_signatory_digest_numbers)] }
def DevicesOneSaid : Prop := devicesOneRow.holds Tryd.pinned (OpenSpec.ofChange devicesOneSpec)

/-- ITS FALSE NEIGHBOUR: 'it returns false'. Refute it at one input. -/
def devicesOneWrong : ChangeSpec := { name := "devicesOne", fn := fun _ => fun
  | [d1, d2, d3, d4, d5, d6, d7] => { results := [.lit (.bool false)], args := [d1, d2, d3, d4, d5, d6, d7] }
  | _ => none }
def DevicesOneWrongFalsely : Prop := devicesOneRow.holds Tryd.pinned (OpenSpec.ofChange devicesOneWrong)

/-- 'signatorylaw48.DevicesOld': WHATEVER THE INPUT: true; the input reads as it did. -/
def devicesOldSpec : ChangeSpec := { name := "devicesOld", fn := fun _ => fun
  | [d1, d2, d3, d4, d5, d6, d7, d8] => { results := [.lit (.bool true)], args := [d1, d2, d3, d4, d5, d6, d7, d8] }
  | _ => none }
def devicesOldRow : OpenClaim := { program := "ytjbcfdgnafmbkaadoor", sum := "43d7abb5c4a0bfb054dc70a573b47729170766f1136c7854647596d1be52f015", func := "signatory/signatorylaw48.DevicesOld", spec := "devicesOld", inPlace := ["slices.overlaps[signatory/api.Device]"], unfollowed := true, recurses := true, named := ["signatory/digest.start", "signatory/digest.numbers"], apart := false, laid := [("signatory/digest.start", laid_signatory_digest_start), ("signatory/digest.numbers", laid_signatory_digest_numbers)] }
def DevicesOldSaid : Prop := devicesOldRow.holds Tryd.pinned (OpenSpec.ofChange devicesOldSpec)

/-- ITS FALSE NEIGHBOUR: 'it returns false'. Refute it at one input. -/
def devicesOldWrong : ChangeSpec := { name := "devicesOld", fn := fun _ => fun
  | [d1, d2, d3, d4, d5, d6, d7, d8] => { results := [.lit (.bool false)], args := [d1, d2, d3, d4, d5, d6, d7, d8] }
  | _ => none }
def DevicesOldWrongFalsely : Prop := devicesOldRow.holds Tryd.pinned (OpenSpec.ofChange devicesOldWrong)

/-- 'signatorylaw48.DevicesMatter': WHATEVER THE INPUT: true; the input reads as it did. -/
def devicesMatterSpec : ChangeSpec := { name := "devicesMatter", fn := fun _ => fun
  | [d1, d2, d3, d4] => { results := [.lit (.bool true)], args := [d1, d2, d3, d4] }
  | _ => none }
def devicesMatterRow : OpenClaim := { program := "ytjbcfdgnafmbkaadoor", sum := "43d7abb5c4a0bfb054dc70a573b47729170766f1136c7854647596d1be52f015", func := "signatory/signatorylaw48.DevicesMatter", spec := "devicesMatter", inPlace := ["slices.overlaps[signatory/api.Device]"], unfollowed := true, recurses := true, named := ["signatory/digest.start", "signatory/digest.numbers"], apart := false, laid := [("signatory/digest.start", laid_signatory_digest_start), ("signatory/digest.numbers", laid_signatory_digest_numbers)] }
def DevicesMatterSaid : Prop := devicesMatterRow.holds Tryd.pinned (OpenSpec.ofChange devicesMatterSpec)

/-- ITS FALSE NEIGHBOUR: 'it returns false'. Refute it at one input. -/
def devicesMatterWrong : ChangeSpec := { name := "devicesMatter", fn := fun _ => fun
  | [d1, d2, d3, d4] => { results := [.lit (.bool false)], args := [d1, d2, d3, d4] }
  | _ => none }
def DevicesMatterWrongFalsely : Prop := devicesMatterRow.holds Tryd.pinned (OpenSpec.ofChange devicesMatterWrong)

/- THE SECOND FORM. 'bulk': how many values and letters a reading holds, each counted each time it is reached (what is shared counts as often as it is met; a slice's spare places count too). A statement '..UptoSaid' is the law's where the arguments, and the package variables that the reading takes, are together of bulk at most 1048576: NARROWER than '..Said'. Prove '..Said' where nothing that the law and all that it calls make is longer than what came in: it says more and counts as full. Else prove '..UptoSaid'. A law counts once. -/
mutual
def uptoBulk {H : Type} : DataW H → Nat
  | .lit (.string bytes) => bytes.length + 1
  | .lit _ => 1
  | .nil => 1
  | .ptr d => uptoBulk d + 1
  | .slice elems spare => uptoBulkAll elems + uptoBulkAll spare + 1
  | .agg parts => uptoBulkAll parts + 1
  | .iface _ d => uptoBulk d + 1
  | .map entries => uptoBulkEntries entries + 1
  | .held _ => 1
def uptoBulkAll {H : Type} : List (DataW H) → Nat
  | [] => 0
  | d :: r => uptoBulk d + uptoBulkAll r
def uptoBulkEntries {H : Type} : List (Lit × DataW H) → Nat
  | [] => 0
  | x :: r => uptoBulkEntry x + uptoBulkEntries r
def uptoBulkEntry {H : Type} : Lit × DataW H → Nat
  | (.string bytes, d) => bytes.length + uptoBulk d + 1
  | (_, d) => uptoBulk d + 1
 end
def uptoSmall : (H : Type) → List (DataW H) → Bool := fun _ ds => decide (uptoBulkAll ds ≤ 1048576)
def OpenSpec.upto (s : _root_.Go.ChangeSpec) : _root_.Go.OpenSpec := { _root_.Go.OpenSpec.ofChange s with cond := some uptoSmall }

/-- 'signatorylaw10.GroupNumbersSpec', WHERE WHAT IT READS IS OF BULK AT MOST 1048576: true; the input reads as it did. -/
def groupNumbersSpecUptoRow : OpenClaim := { program := "ytjbcfdgnafmbkaadoor", sum := "43d7abb5c4a0bfb054dc70a573b47729170766f1136c7854647596d1be52f015", func := "signatory/signatorylaw10.GroupNumbersSpec", spec := "groupNumbersSpec", unfollowed := true, recurses := true, named := ["signatory/digest.start", "signatory/digest.numbers"], apart := false, laid := [("signatory/digest.start", laid_signatory_digest_start), ("signatory/digest.numbers", laid_signatory_digest_numbers)], narrowed := true }
def GroupNumbersSpecUptoSaid : Prop := groupNumbersSpecUptoRow.holds Tryd.pinned (OpenSpec.upto groupNumbersSpecSpec)

/-- 'signatorylaw10.GroupHash', WHERE WHAT IT READS IS OF BULK AT MOST 1048576: true; the input reads as it did. -/
def groupHashUptoRow : OpenClaim := { program := "ytjbcfdgnafmbkaadoor", sum := "43d7abb5c4a0bfb054dc70a573b47729170766f1136c7854647596d1be52f015", func := "signatory/signatorylaw10.GroupHash", spec := "groupHash", unfollowed := true, recurses := true, named := ["signatory/digest.start", "signatory/digest.numbers"], apart := false, laid := [("signatory/digest.start", laid_signatory_digest_start), ("signatory/digest.numbers", laid_signatory_digest_numbers)], narrowed := true }
def GroupHashUptoSaid : Prop := groupHashUptoRow.holds Tryd.pinned (OpenSpec.upto groupHashSpec)

/-- 'signatorylaw41.NoncesSpec', WHERE WHAT IT READS IS OF BULK AT MOST 1048576: true; the input reads as it did. -/
def noncesSpecUptoRow : OpenClaim := { program := "ytjbcfdgnafmbkaadoor", sum := "43d7abb5c4a0bfb054dc70a573b47729170766f1136c7854647596d1be52f015", func := "signatory/signatorylaw41.NoncesSpec", spec := "noncesSpec", unfollowed := true, recurses := true, named := ["signatory/digest.start", "signatory/digest.numbers"], apart := false, laid := [("signatory/digest.start", laid_signatory_digest_start), ("signatory/digest.numbers", laid_signatory_digest_numbers)], narrowed := true }
def NoncesSpecUptoSaid : Prop := noncesSpecUptoRow.holds Tryd.pinned (OpenSpec.upto noncesSpecSpec)

/-- 'signatorylaw41.NoncesTakeSpec', WHERE WHAT IT READS IS OF BULK AT MOST 1048576: true; the input reads as it did. -/
def noncesTakeSpecUptoRow : OpenClaim := { program := "ytjbcfdgnafmbkaadoor", sum := "43d7abb5c4a0bfb054dc70a573b47729170766f1136c7854647596d1be52f015", func := "signatory/signatorylaw41.NoncesTakeSpec", spec := "noncesTakeSpec", unfollowed := true, recurses := true, named := ["signatory/digest.start", "signatory/digest.numbers"], apart := false, laid := [("signatory/digest.start", laid_signatory_digest_start), ("signatory/digest.numbers", laid_signatory_digest_numbers)], narrowed := true }
def NoncesTakeSpecUptoSaid : Prop := noncesTakeSpecUptoRow.holds Tryd.pinned (OpenSpec.upto noncesTakeSpecSpec)

/-- 'signatorylaw41.NoncesOnce', WHERE WHAT IT READS IS OF BULK AT MOST 1048576: true; the input reads as it did. -/
def noncesOnceUptoRow : OpenClaim := { program := "ytjbcfdgnafmbkaadoor", sum := "43d7abb5c4a0bfb054dc70a573b47729170766f1136c7854647596d1be52f015", func := "signatory/signatorylaw41.NoncesOnce", spec := "noncesOnce", unfollowed := true, recurses := true, named := ["signatory/digest.start", "signatory/digest.numbers"], apart := false, laid := [("signatory/digest.start", laid_signatory_digest_start), ("signatory/digest.numbers", laid_signatory_digest_numbers)], narrowed := true }
def NoncesOnceUptoSaid : Prop := noncesOnceUptoRow.holds Tryd.pinned (OpenSpec.upto noncesOnceSpec)

/-- 'signatorylaw41.NoncesParts', WHERE WHAT IT READS IS OF BULK AT MOST 1048576: true; the input reads as it did. -/
def noncesPartsUptoRow : OpenClaim := { program := "ytjbcfdgnafmbkaadoor", sum := "43d7abb5c4a0bfb054dc70a573b47729170766f1136c7854647596d1be52f015", func := "signatory/signatorylaw41.NoncesParts", spec := "noncesParts", unfollowed := true, recurses := true, named := ["signatory/digest.start", "signatory/digest.numbers"], apart := false, laid := [("signatory/digest.start", laid_signatory_digest_start), ("signatory/digest.numbers", laid_signatory_digest_numbers)], narrowed := true }
def NoncesPartsUptoSaid : Prop := noncesPartsUptoRow.holds Tryd.pinned (OpenSpec.upto noncesPartsSpec)

/-- 'signatorylaw41.NoncesValid', WHERE WHAT IT READS IS OF BULK AT MOST 1048576: true; the input reads as it did. -/
def noncesValidUptoRow : OpenClaim := { program := "ytjbcfdgnafmbkaadoor", sum := "43d7abb5c4a0bfb054dc70a573b47729170766f1136c7854647596d1be52f015", func := "signatory/signatorylaw41.NoncesValid", spec := "noncesValid", unfollowed := true, recurses := true, named := ["signatory/digest.start", "signatory/digest.numbers"], apart := false, laid := [("signatory/digest.start", laid_signatory_digest_start), ("signatory/digest.numbers", laid_signatory_digest_numbers)], narrowed := true }
def NoncesValidUptoSaid : Prop := noncesValidUptoRow.holds Tryd.pinned (OpenSpec.upto noncesValidSpec)

/-- 'signatorylaw48.DevicesSpec', WHERE WHAT IT READS IS OF BULK AT MOST 1048576: true; the input reads as it did. -/
def devicesSpecUptoRow : OpenClaim := { program := "ytjbcfdgnafmbkaadoor", sum := "43d7abb5c4a0bfb054dc70a573b47729170766f1136c7854647596d1be52f015", func := "signatory/signatorylaw48.DevicesSpec", spec := "devicesSpec", inPlace := ["slices.overlaps[signatory/api.Device]"], unfollowed := true, recurses := true, named := ["signatory/digest.start", "signatory/digest.numbers"], apart := false, laid := [("signatory/digest.start", laid_signatory_digest_start), ("signatory/digest.numbers", laid_signatory_digest_numbers)], narrowed := true }
def DevicesSpecUptoSaid : Prop := devicesSpecUptoRow.holds Tryd.pinned (OpenSpec.upto devicesSpecSpec)

/-- 'signatorylaw48.DevicesCurrentSpec', WHERE WHAT IT READS IS OF BULK AT MOST 1048576: true; the input reads as it did. -/
def devicesCurrentSpecUptoRow : OpenClaim := { program := "ytjbcfdgnafmbkaadoor", sum := "43d7abb5c4a0bfb054dc70a573b47729170766f1136c7854647596d1be52f015", func := "signatory/signatorylaw48.DevicesCurrentSpec", spec := "devicesCurrentSpec", inPlace := ["slices.overlaps[signatory/api.Device]"], unfollowed := true, recurses := true, named := ["signatory/digest.start", "signatory/digest.numbers"], apart := false, laid := [("signatory/digest.start", laid_signatory_digest_start), ("signatory/digest.numbers", laid_signatory_digest_numbers)], narrowed := true }
def DevicesCurrentSpecUptoSaid : Prop := devicesCurrentSpecUptoRow.holds Tryd.pinned (OpenSpec.upto devicesCurrentSpecSpec)

/-- 'signatorylaw48.DevicesOne', WHERE WHAT IT READS IS OF BULK AT MOST 1048576: true; the input reads as it did. -/
def devicesOneUptoRow : OpenClaim := { program := "ytjbcfdgnafmbkaadoor", sum := "43d7abb5c4a0bfb054dc70a573b47729170766f1136c7854647596d1be52f015", func := "signatory/signatorylaw48.DevicesOne", spec := "devicesOne", inPlace := ["slices.overlaps[signatory/api.Device]"], unfollowed := true, recurses := true, named := ["signatory/digest.start", "signatory/digest.numbers"], apart := false, laid := [("signatory/digest.start", laid_signatory_digest_start), ("signatory/digest.numbers", laid_signatory_digest_numbers)], narrowed := true }
def DevicesOneUptoSaid : Prop := devicesOneUptoRow.holds Tryd.pinned (OpenSpec.upto devicesOneSpec)

/-- 'signatorylaw48.DevicesOld', WHERE WHAT IT READS IS OF BULK AT MOST 1048576: true; the input reads as it did. -/
def devicesOldUptoRow : OpenClaim := { program := "ytjbcfdgnafmbkaadoor", sum := "43d7abb5c4a0bfb054dc70a573b47729170766f1136c7854647596d1be52f015", func := "signatory/signatorylaw48.DevicesOld", spec := "devicesOld", inPlace := ["slices.overlaps[signatory/api.Device]"], unfollowed := true, recurses := true, named := ["signatory/digest.start", "signatory/digest.numbers"], apart := false, laid := [("signatory/digest.start", laid_signatory_digest_start), ("signatory/digest.numbers", laid_signatory_digest_numbers)], narrowed := true }
def DevicesOldUptoSaid : Prop := devicesOldUptoRow.holds Tryd.pinned (OpenSpec.upto devicesOldSpec)

/-- 'signatorylaw48.DevicesMatter', WHERE WHAT IT READS IS OF BULK AT MOST 1048576: true; the input reads as it did. -/
def devicesMatterUptoRow : OpenClaim := { program := "ytjbcfdgnafmbkaadoor", sum := "43d7abb5c4a0bfb054dc70a573b47729170766f1136c7854647596d1be52f015", func := "signatory/signatorylaw48.DevicesMatter", spec := "devicesMatter", inPlace := ["slices.overlaps[signatory/api.Device]"], unfollowed := true, recurses := true, named := ["signatory/digest.start", "signatory/digest.numbers"], apart := false, laid := [("signatory/digest.start", laid_signatory_digest_start), ("signatory/digest.numbers", laid_signatory_digest_numbers)], narrowed := true }
def DevicesMatterUptoSaid : Prop := devicesMatterUptoRow.holds Tryd.pinned (OpenSpec.upto devicesMatterSpec)

end Rows
end Go.Proofs.YtjbcfdgnafmbkaaDoor
