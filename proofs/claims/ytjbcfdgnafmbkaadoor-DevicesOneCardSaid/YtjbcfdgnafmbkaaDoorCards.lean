/-
  DERIVED. GIVEN WITH THE SEED: THE CARDS: each row of YtjbcfdgnafmbkaaDoorRows.lean that lists a variable, with what it lists TIED to the program's text (the seventh form; the later family's looks); each row that meets fmt, with fmt's text TOLD by the authors' own Lean function (tested against real Go, not proved from fmt's source: count such statements apart). THE CARD IS WHAT COUNTS. Prove the row's statement (the work); the ties are given (YtjbcfdgnafmbkaaDoorTie.lean); close each card by the builder's one call (the guide's Derived/Test/ToyasCard.lean, 'card_holds'). Laid BY PROGRAM, IN A SANDBOX (cutbox-door.mjs). By AI agents, Wed Nov 11 2026. No macro, syntax, notation, axiom, sorry.
-/
import Derived.Test.YtjbcfdgnafmbkaaDoorRows
import GoSem.ClaimSeven
namespace Go.Proofs.YtjbcfdgnafmbkaaDoor
namespace Rows

/-- THE TIED CARD OF 'signatorylaw10.GroupNumbersSpec'. -/
def groupNumbersSpecCard : Claim7 := { stood := { row := groupNumbersSpecRow, standIns := [], harness := (true, "272a4a4f56965669fa2da5f72e9ad5f2d791e88a91daacd2cc9ab73203ee095a"), looks := true }, kinds := [], alts := [], laidByText := true, laidKinds := [.data, .data], laidTests := true, laidLooks := .later }
def GroupNumbersSpecCardSaid : Prop := Claim7.holds Tryd.pinned (.plain (OpenSpec.ofChange groupNumbersSpecSpec)) groupNumbersSpecCard

/-- THE TIED CARD OF 'signatorylaw10.GroupHash'. -/
def groupHashCard : Claim7 := { stood := { row := groupHashRow, standIns := [], harness := (true, "272a4a4f56965669fa2da5f72e9ad5f2d791e88a91daacd2cc9ab73203ee095a"), looks := true }, kinds := [], alts := [], laidByText := true, laidKinds := [.data, .data], laidTests := true, laidLooks := .later }
def GroupHashCardSaid : Prop := Claim7.holds Tryd.pinned (.plain (OpenSpec.ofChange groupHashSpec)) groupHashCard

/-- THE TIED CARD OF 'signatorylaw41.NoncesSpec'. -/
def noncesSpecCard : Claim7 := { stood := { row := noncesSpecRow, standIns := [], harness := (true, "272a4a4f56965669fa2da5f72e9ad5f2d791e88a91daacd2cc9ab73203ee095a"), looks := true }, kinds := [], alts := [], laidByText := true, laidKinds := [.data, .data], laidTests := true, laidLooks := .later }
def NoncesSpecCardSaid : Prop := Claim7.holds Tryd.pinned (.plain (OpenSpec.ofChange noncesSpecSpec)) noncesSpecCard

/-- THE TIED CARD OF 'signatorylaw41.NoncesTakeSpec'. -/
def noncesTakeSpecCard : Claim7 := { stood := { row := noncesTakeSpecRow, standIns := [], harness := (true, "272a4a4f56965669fa2da5f72e9ad5f2d791e88a91daacd2cc9ab73203ee095a"), looks := true }, kinds := [], alts := [], laidByText := true, laidKinds := [.data, .data], laidTests := true, laidLooks := .later }
def NoncesTakeSpecCardSaid : Prop := Claim7.holds Tryd.pinned (.plain (OpenSpec.ofChange noncesTakeSpecSpec)) noncesTakeSpecCard

/-- THE TIED CARD OF 'signatorylaw41.NoncesOnce'. -/
def noncesOnceCard : Claim7 := { stood := { row := noncesOnceRow, standIns := [], harness := (true, "272a4a4f56965669fa2da5f72e9ad5f2d791e88a91daacd2cc9ab73203ee095a"), looks := true }, kinds := [], alts := [], laidByText := true, laidKinds := [.data, .data], laidTests := true, laidLooks := .later }
def NoncesOnceCardSaid : Prop := Claim7.holds Tryd.pinned (.plain (OpenSpec.ofChange noncesOnceSpec)) noncesOnceCard

/-- THE TIED CARD OF 'signatorylaw41.NoncesParts'. -/
def noncesPartsCard : Claim7 := { stood := { row := noncesPartsRow, standIns := [], harness := (true, "272a4a4f56965669fa2da5f72e9ad5f2d791e88a91daacd2cc9ab73203ee095a"), looks := true }, kinds := [], alts := [], laidByText := true, laidKinds := [.data, .data], laidTests := true, laidLooks := .later }
def NoncesPartsCardSaid : Prop := Claim7.holds Tryd.pinned (.plain (OpenSpec.ofChange noncesPartsSpec)) noncesPartsCard

/-- THE TIED CARD OF 'signatorylaw41.NoncesValid'. -/
def noncesValidCard : Claim7 := { stood := { row := noncesValidRow, standIns := [], harness := (true, "272a4a4f56965669fa2da5f72e9ad5f2d791e88a91daacd2cc9ab73203ee095a"), looks := true }, kinds := [], alts := [], laidByText := true, laidKinds := [.data, .data], laidTests := true, laidLooks := .later }
def NoncesValidCardSaid : Prop := Claim7.holds Tryd.pinned (.plain (OpenSpec.ofChange noncesValidSpec)) noncesValidCard

/-- THE TIED CARD OF 'signatorylaw48.DevicesSpec'. -/
def devicesSpecCard : Claim7 := { stood := { row := devicesSpecRow, standIns := [], harness := (true, "272a4a4f56965669fa2da5f72e9ad5f2d791e88a91daacd2cc9ab73203ee095a"), looks := true }, kinds := [], alts := [], laidByText := true, laidKinds := [.data, .data], laidTests := true, laidLooks := .later }
def DevicesSpecCardSaid : Prop := Claim7.holds Tryd.pinned (.plain (OpenSpec.ofChange devicesSpecSpec)) devicesSpecCard

/-- THE TIED CARD OF 'signatorylaw48.DevicesCurrentSpec'. -/
def devicesCurrentSpecCard : Claim7 := { stood := { row := devicesCurrentSpecRow, standIns := [], harness := (true, "272a4a4f56965669fa2da5f72e9ad5f2d791e88a91daacd2cc9ab73203ee095a"), looks := true }, kinds := [], alts := [], laidByText := true, laidKinds := [.data, .data], laidTests := true, laidLooks := .later }
def DevicesCurrentSpecCardSaid : Prop := Claim7.holds Tryd.pinned (.plain (OpenSpec.ofChange devicesCurrentSpecSpec)) devicesCurrentSpecCard

/-- THE TIED CARD OF 'signatorylaw48.DevicesOne'. -/
def devicesOneCard : Claim7 := { stood := { row := devicesOneRow, standIns := [], harness := (true, "272a4a4f56965669fa2da5f72e9ad5f2d791e88a91daacd2cc9ab73203ee095a"), looks := true }, kinds := [], alts := [], laidByText := true, laidKinds := [.data, .data], laidTests := true, laidLooks := .later }
def DevicesOneCardSaid : Prop := Claim7.holds Tryd.pinned (.plain (OpenSpec.ofChange devicesOneSpec)) devicesOneCard

/-- THE TIED CARD OF 'signatorylaw48.DevicesOld'. -/
def devicesOldCard : Claim7 := { stood := { row := devicesOldRow, standIns := [], harness := (true, "272a4a4f56965669fa2da5f72e9ad5f2d791e88a91daacd2cc9ab73203ee095a"), looks := true }, kinds := [], alts := [], laidByText := true, laidKinds := [.data, .data], laidTests := true, laidLooks := .later }
def DevicesOldCardSaid : Prop := Claim7.holds Tryd.pinned (.plain (OpenSpec.ofChange devicesOldSpec)) devicesOldCard

/-- THE TIED CARD OF 'signatorylaw48.DevicesMatter'. -/
def devicesMatterCard : Claim7 := { stood := { row := devicesMatterRow, standIns := [], harness := (true, "272a4a4f56965669fa2da5f72e9ad5f2d791e88a91daacd2cc9ab73203ee095a"), looks := true }, kinds := [], alts := [], laidByText := true, laidKinds := [.data, .data], laidTests := true, laidLooks := .later }
def DevicesMatterCardSaid : Prop := Claim7.holds Tryd.pinned (.plain (OpenSpec.ofChange devicesMatterSpec)) devicesMatterCard

/-- THE SECOND FORM's CARD OF 'signatorylaw10.GroupNumbersSpec'. -/
def groupNumbersSpecUptoCard : Claim7 := { stood := { row := groupNumbersSpecUptoRow, standIns := [], harness := (true, "272a4a4f56965669fa2da5f72e9ad5f2d791e88a91daacd2cc9ab73203ee095a"), looks := true }, kinds := [], alts := [], laidByText := true, laidKinds := [.data, .data], laidTests := true, laidLooks := .later }
def GroupNumbersSpecUptoCardSaid : Prop := Claim7.holds Tryd.pinned (.plain (OpenSpec.upto groupNumbersSpecSpec)) groupNumbersSpecUptoCard

/-- THE SECOND FORM's CARD OF 'signatorylaw10.GroupHash'. -/
def groupHashUptoCard : Claim7 := { stood := { row := groupHashUptoRow, standIns := [], harness := (true, "272a4a4f56965669fa2da5f72e9ad5f2d791e88a91daacd2cc9ab73203ee095a"), looks := true }, kinds := [], alts := [], laidByText := true, laidKinds := [.data, .data], laidTests := true, laidLooks := .later }
def GroupHashUptoCardSaid : Prop := Claim7.holds Tryd.pinned (.plain (OpenSpec.upto groupHashSpec)) groupHashUptoCard

/-- THE SECOND FORM's CARD OF 'signatorylaw41.NoncesSpec'. -/
def noncesSpecUptoCard : Claim7 := { stood := { row := noncesSpecUptoRow, standIns := [], harness := (true, "272a4a4f56965669fa2da5f72e9ad5f2d791e88a91daacd2cc9ab73203ee095a"), looks := true }, kinds := [], alts := [], laidByText := true, laidKinds := [.data, .data], laidTests := true, laidLooks := .later }
def NoncesSpecUptoCardSaid : Prop := Claim7.holds Tryd.pinned (.plain (OpenSpec.upto noncesSpecSpec)) noncesSpecUptoCard

/-- THE SECOND FORM's CARD OF 'signatorylaw41.NoncesTakeSpec'. -/
def noncesTakeSpecUptoCard : Claim7 := { stood := { row := noncesTakeSpecUptoRow, standIns := [], harness := (true, "272a4a4f56965669fa2da5f72e9ad5f2d791e88a91daacd2cc9ab73203ee095a"), looks := true }, kinds := [], alts := [], laidByText := true, laidKinds := [.data, .data], laidTests := true, laidLooks := .later }
def NoncesTakeSpecUptoCardSaid : Prop := Claim7.holds Tryd.pinned (.plain (OpenSpec.upto noncesTakeSpecSpec)) noncesTakeSpecUptoCard

/-- THE SECOND FORM's CARD OF 'signatorylaw41.NoncesOnce'. -/
def noncesOnceUptoCard : Claim7 := { stood := { row := noncesOnceUptoRow, standIns := [], harness := (true, "272a4a4f56965669fa2da5f72e9ad5f2d791e88a91daacd2cc9ab73203ee095a"), looks := true }, kinds := [], alts := [], laidByText := true, laidKinds := [.data, .data], laidTests := true, laidLooks := .later }
def NoncesOnceUptoCardSaid : Prop := Claim7.holds Tryd.pinned (.plain (OpenSpec.upto noncesOnceSpec)) noncesOnceUptoCard

/-- THE SECOND FORM's CARD OF 'signatorylaw41.NoncesParts'. -/
def noncesPartsUptoCard : Claim7 := { stood := { row := noncesPartsUptoRow, standIns := [], harness := (true, "272a4a4f56965669fa2da5f72e9ad5f2d791e88a91daacd2cc9ab73203ee095a"), looks := true }, kinds := [], alts := [], laidByText := true, laidKinds := [.data, .data], laidTests := true, laidLooks := .later }
def NoncesPartsUptoCardSaid : Prop := Claim7.holds Tryd.pinned (.plain (OpenSpec.upto noncesPartsSpec)) noncesPartsUptoCard

/-- THE SECOND FORM's CARD OF 'signatorylaw41.NoncesValid'. -/
def noncesValidUptoCard : Claim7 := { stood := { row := noncesValidUptoRow, standIns := [], harness := (true, "272a4a4f56965669fa2da5f72e9ad5f2d791e88a91daacd2cc9ab73203ee095a"), looks := true }, kinds := [], alts := [], laidByText := true, laidKinds := [.data, .data], laidTests := true, laidLooks := .later }
def NoncesValidUptoCardSaid : Prop := Claim7.holds Tryd.pinned (.plain (OpenSpec.upto noncesValidSpec)) noncesValidUptoCard

/-- THE SECOND FORM's CARD OF 'signatorylaw48.DevicesSpec'. -/
def devicesSpecUptoCard : Claim7 := { stood := { row := devicesSpecUptoRow, standIns := [], harness := (true, "272a4a4f56965669fa2da5f72e9ad5f2d791e88a91daacd2cc9ab73203ee095a"), looks := true }, kinds := [], alts := [], laidByText := true, laidKinds := [.data, .data], laidTests := true, laidLooks := .later }
def DevicesSpecUptoCardSaid : Prop := Claim7.holds Tryd.pinned (.plain (OpenSpec.upto devicesSpecSpec)) devicesSpecUptoCard

/-- THE SECOND FORM's CARD OF 'signatorylaw48.DevicesCurrentSpec'. -/
def devicesCurrentSpecUptoCard : Claim7 := { stood := { row := devicesCurrentSpecUptoRow, standIns := [], harness := (true, "272a4a4f56965669fa2da5f72e9ad5f2d791e88a91daacd2cc9ab73203ee095a"), looks := true }, kinds := [], alts := [], laidByText := true, laidKinds := [.data, .data], laidTests := true, laidLooks := .later }
def DevicesCurrentSpecUptoCardSaid : Prop := Claim7.holds Tryd.pinned (.plain (OpenSpec.upto devicesCurrentSpecSpec)) devicesCurrentSpecUptoCard

/-- THE SECOND FORM's CARD OF 'signatorylaw48.DevicesOne'. -/
def devicesOneUptoCard : Claim7 := { stood := { row := devicesOneUptoRow, standIns := [], harness := (true, "272a4a4f56965669fa2da5f72e9ad5f2d791e88a91daacd2cc9ab73203ee095a"), looks := true }, kinds := [], alts := [], laidByText := true, laidKinds := [.data, .data], laidTests := true, laidLooks := .later }
def DevicesOneUptoCardSaid : Prop := Claim7.holds Tryd.pinned (.plain (OpenSpec.upto devicesOneSpec)) devicesOneUptoCard

/-- THE SECOND FORM's CARD OF 'signatorylaw48.DevicesOld'. -/
def devicesOldUptoCard : Claim7 := { stood := { row := devicesOldUptoRow, standIns := [], harness := (true, "272a4a4f56965669fa2da5f72e9ad5f2d791e88a91daacd2cc9ab73203ee095a"), looks := true }, kinds := [], alts := [], laidByText := true, laidKinds := [.data, .data], laidTests := true, laidLooks := .later }
def DevicesOldUptoCardSaid : Prop := Claim7.holds Tryd.pinned (.plain (OpenSpec.upto devicesOldSpec)) devicesOldUptoCard

/-- THE SECOND FORM's CARD OF 'signatorylaw48.DevicesMatter'. -/
def devicesMatterUptoCard : Claim7 := { stood := { row := devicesMatterUptoRow, standIns := [], harness := (true, "272a4a4f56965669fa2da5f72e9ad5f2d791e88a91daacd2cc9ab73203ee095a"), looks := true }, kinds := [], alts := [], laidByText := true, laidKinds := [.data, .data], laidTests := true, laidLooks := .later }
def DevicesMatterUptoCardSaid : Prop := Claim7.holds Tryd.pinned (.plain (OpenSpec.upto devicesMatterSpec)) devicesMatterUptoCard
end Rows
end Go.Proofs.YtjbcfdgnafmbkaaDoor
