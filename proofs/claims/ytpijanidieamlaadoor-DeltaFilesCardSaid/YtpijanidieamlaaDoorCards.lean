/-
  DERIVED. GIVEN WITH THE SEED: THE CARDS: each row of YtpijanidieamlaaDoorRows.lean that lists a variable, with what it lists TIED to the program's text (the seventh form; the later family's looks); each row that meets fmt, with fmt's text TOLD by the authors' own Lean function (tested against real Go, not proved from fmt's source: count such statements apart). THE CARD IS WHAT COUNTS. Prove the row's statement (the work); the ties are given (YtpijanidieamlaaDoorTie.lean); close each card by the builder's one call (the guide's Derived/Test/ToyasCard.lean, 'card_holds'). Laid BY PROGRAM, IN A SANDBOX (cutbox-door.mjs). By AI agents, Wed Nov 11 2026. No macro, syntax, notation, axiom, sorry.
-/
import Derived.Test.YtpijanidieamlaaDoorRows
import GoSem.ClaimSeven
namespace Go.Proofs.YtpijanidieamlaaDoor
namespace Rows

/-- THE TIED CARD OF 'wordbooklaw37.DeltaEncodes'. -/
def deltaEncodesCard : Claim7 := { stood := { row := deltaEncodesRow, standIns := [], harness := (true, "bdc8f2eef0b7f6d27fabd144f4c41f71d10c7fa9006006bc2c491421905c6f9a"), looks := false }, kinds := [], alts := [], laidByText := true, laidKinds := [.data, .data], laidTests := true, laidLooks := .later }
def DeltaEncodesCardSaid : Prop := Claim7.holds Tryd.pinned (.plain (OpenSpec.ofChange deltaEncodesSpec)) deltaEncodesCard

/-- THE TIED CARD OF 'wordbooklaw37.DeltaFiles'. -/
def deltaFilesCard : Claim7 := { stood := { row := deltaFilesRow, standIns := [], harness := (true, "bdc8f2eef0b7f6d27fabd144f4c41f71d10c7fa9006006bc2c491421905c6f9a"), looks := false }, kinds := [], alts := [], laidByText := true, laidKinds := [.data], laidTests := true, laidLooks := .later }
def DeltaFilesCardSaid : Prop := Claim7.holds Tryd.pinned (.plain (OpenSpec.ofChange deltaFilesSpec)) deltaFilesCard

/-- THE SECOND FORM's CARD OF 'wordbooklaw37.DeltaEncodes'. -/
def deltaEncodesUptoCard : Claim7 := { stood := { row := deltaEncodesUptoRow, standIns := [], harness := (true, "bdc8f2eef0b7f6d27fabd144f4c41f71d10c7fa9006006bc2c491421905c6f9a"), looks := false }, kinds := [], alts := [], laidByText := true, laidKinds := [.data, .data], laidTests := true, laidLooks := .later }
def DeltaEncodesUptoCardSaid : Prop := Claim7.holds Tryd.pinned (.plain (OpenSpec.upto deltaEncodesSpec)) deltaEncodesUptoCard

/-- THE SECOND FORM's CARD OF 'wordbooklaw37.DeltaFiles'. -/
def deltaFilesUptoCard : Claim7 := { stood := { row := deltaFilesUptoRow, standIns := [], harness := (true, "bdc8f2eef0b7f6d27fabd144f4c41f71d10c7fa9006006bc2c491421905c6f9a"), looks := false }, kinds := [], alts := [], laidByText := true, laidKinds := [.data], laidTests := true, laidLooks := .later }
def DeltaFilesUptoCardSaid : Prop := Claim7.holds Tryd.pinned (.plain (OpenSpec.upto deltaFilesSpec)) deltaFilesUptoCard
end Rows
end Go.Proofs.YtpijanidieamlaaDoor
