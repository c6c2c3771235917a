/-
  DERIVED. GIVEN WITH THE SEED: THE CARDS: each row of YtoekafodjjeboaaDoorRows.lean that lists a variable, with what it lists TIED to the program's text (the seventh form; the later family's looks); each row that meets fmt, with fmt's text TOLD by the authors' own Lean function (tested against real Go, not proved from fmt's source: count such statements apart). THE CARD IS WHAT COUNTS. Prove the row's statement (the work); the ties are given (YtoekafodjjeboaaDoorTie.lean); close each card by the builder's one call (the guide's Derived/Test/ToyasCard.lean, 'card_holds'). Laid BY PROGRAM, IN A SANDBOX (cutbox-door.mjs). By AI agents, Wed Nov 11 2026. No macro, syntax, notation, axiom, sorry.
-/
import Derived.Test.YtoekafodjjeboaaDoorRows
import GoSem.ClaimSeven
namespace Go.Proofs.YtoekafodjjeboaaDoor
namespace Rows

/-- THE TIED CARD OF 'wordbooklaw02.HashSumMatchesSpec'. -/
def hashSumMatchesSpecCard : Claim7 := { stood := { row := hashSumMatchesSpecRow, standIns := [], harness := (true, "6fa3fdd116d3381a5e582ac1ee652fca5a46acc6e7226d526a164f01037ac487"), looks := false }, kinds := [], alts := [], laidByText := true, laidKinds := [.data, .data], laidTests := true, laidLooks := .later }
def HashSumMatchesSpecCardSaid : Prop := Claim7.holds Tryd.pinned (.plain (OpenSpec.ofChange hashSumMatchesSpecSpec)) hashSumMatchesSpecCard

/-- THE TIED CARD OF 'wordbooklaw02.HashStreamsAgree'. -/
def hashStreamsAgreeCard : Claim7 := { stood := { row := hashStreamsAgreeRow, standIns := [], harness := (true, "6fa3fdd116d3381a5e582ac1ee652fca5a46acc6e7226d526a164f01037ac487"), looks := false }, kinds := [], alts := [], laidByText := true, laidKinds := [.data, .data], laidTests := true, laidLooks := .later }
def HashStreamsAgreeCardSaid : Prop := Claim7.holds Tryd.pinned (.plain (OpenSpec.ofChange hashStreamsAgreeSpec)) hashStreamsAgreeCard

/-- THE TIED CARD OF 'wordbooklaw02.HashMacMatchesSpec'. -/
def hashMacMatchesSpecCard : Claim7 := { stood := { row := hashMacMatchesSpecRow, standIns := [], harness := (true, "6fa3fdd116d3381a5e582ac1ee652fca5a46acc6e7226d526a164f01037ac487"), looks := false }, kinds := [], alts := [], laidByText := true, laidKinds := [.data, .data], laidTests := true, laidLooks := .later }
def HashMacMatchesSpecCardSaid : Prop := Claim7.holds Tryd.pinned (.plain (OpenSpec.ofChange hashMacMatchesSpecSpec)) hashMacMatchesSpecCard

/-- THE TIED CARD OF 'wordbooklaw02.HashMacKeys'. -/
def hashMacKeysCard : Claim7 := { stood := { row := hashMacKeysRow, standIns := [], harness := (true, "6fa3fdd116d3381a5e582ac1ee652fca5a46acc6e7226d526a164f01037ac487"), looks := false }, kinds := [], alts := [], laidByText := true, laidKinds := [.data], laidTests := true, laidLooks := .later }
def HashMacKeysCardSaid : Prop := Claim7.holds Tryd.pinned (.plain (OpenSpec.ofChange hashMacKeysSpec)) hashMacKeysCard

/-- THE TIED CARD OF 'wordbooklaw02.HashOfMatchesSpec'. -/
def hashOfMatchesSpecCard : Claim7 := { stood := { row := hashOfMatchesSpecRow, standIns := [], harness := (true, "6fa3fdd116d3381a5e582ac1ee652fca5a46acc6e7226d526a164f01037ac487"), looks := false }, kinds := [], alts := [], laidByText := true, laidKinds := [.data, .data], laidTests := true, laidLooks := .later }
def HashOfMatchesSpecCardSaid : Prop := Claim7.holds Tryd.pinned (.plain (OpenSpec.ofChange hashOfMatchesSpecSpec)) hashOfMatchesSpecCard

/-- THE TIED CARD OF 'wordbooklaw02.HashOfSeparates'. -/
def hashOfSeparatesCard : Claim7 := { stood := { row := hashOfSeparatesRow, standIns := [], harness := (true, "6fa3fdd116d3381a5e582ac1ee652fca5a46acc6e7226d526a164f01037ac487"), looks := false }, kinds := [], alts := [], laidByText := true, laidKinds := [.data], laidTests := true, laidLooks := .later }
def HashOfSeparatesCardSaid : Prop := Claim7.holds Tryd.pinned (.plain (OpenSpec.ofChange hashOfSeparatesSpec)) hashOfSeparatesCard

/-- THE TIED CARD OF 'wordbooklaw02.HashEqualIsEquality'. -/
def hashEqualIsEqualityCard : Claim7 := { stood := { row := hashEqualIsEqualityRow, standIns := [], harness := (true, "6fa3fdd116d3381a5e582ac1ee652fca5a46acc6e7226d526a164f01037ac487"), looks := false }, kinds := [], alts := [], laidByText := true, laidKinds := [.data], laidTests := true, laidLooks := .later }
def HashEqualIsEqualityCardSaid : Prop := Claim7.holds Tryd.pinned (.plain (OpenSpec.ofChange hashEqualIsEqualitySpec)) hashEqualIsEqualityCard

/-- THE SECOND FORM's CARD OF 'wordbooklaw02.HashSumMatchesSpec'. -/
def hashSumMatchesSpecUptoCard : Claim7 := { stood := { row := hashSumMatchesSpecUptoRow, standIns := [], harness := (true, "6fa3fdd116d3381a5e582ac1ee652fca5a46acc6e7226d526a164f01037ac487"), looks := false }, kinds := [], alts := [], laidByText := true, laidKinds := [.data, .data], laidTests := true, laidLooks := .later }
def HashSumMatchesSpecUptoCardSaid : Prop := Claim7.holds Tryd.pinned (.plain (OpenSpec.upto hashSumMatchesSpecSpec)) hashSumMatchesSpecUptoCard

/-- THE SECOND FORM's CARD OF 'wordbooklaw02.HashStreamsAgree'. -/
def hashStreamsAgreeUptoCard : Claim7 := { stood := { row := hashStreamsAgreeUptoRow, standIns := [], harness := (true, "6fa3fdd116d3381a5e582ac1ee652fca5a46acc6e7226d526a164f01037ac487"), looks := false }, kinds := [], alts := [], laidByText := true, laidKinds := [.data, .data], laidTests := true, laidLooks := .later }
def HashStreamsAgreeUptoCardSaid : Prop := Claim7.holds Tryd.pinned (.plain (OpenSpec.upto hashStreamsAgreeSpec)) hashStreamsAgreeUptoCard

/-- THE SECOND FORM's CARD OF 'wordbooklaw02.HashMacMatchesSpec'. -/
def hashMacMatchesSpecUptoCard : Claim7 := { stood := { row := hashMacMatchesSpecUptoRow, standIns := [], harness := (true, "6fa3fdd116d3381a5e582ac1ee652fca5a46acc6e7226d526a164f01037ac487"), looks := false }, kinds := [], alts := [], laidByText := true, laidKinds := [.data, .data], laidTests := true, laidLooks := .later }
def HashMacMatchesSpecUptoCardSaid : Prop := Claim7.holds Tryd.pinned (.plain (OpenSpec.upto hashMacMatchesSpecSpec)) hashMacMatchesSpecUptoCard

/-- THE SECOND FORM's CARD OF 'wordbooklaw02.HashMacKeys'. -/
def hashMacKeysUptoCard : Claim7 := { stood := { row := hashMacKeysUptoRow, standIns := [], harness := (true, "6fa3fdd116d3381a5e582ac1ee652fca5a46acc6e7226d526a164f01037ac487"), looks := false }, kinds := [], alts := [], laidByText := true, laidKinds := [.data], laidTests := true, laidLooks := .later }
def HashMacKeysUptoCardSaid : Prop := Claim7.holds Tryd.pinned (.plain (OpenSpec.upto hashMacKeysSpec)) hashMacKeysUptoCard

/-- THE SECOND FORM's CARD OF 'wordbooklaw02.HashOfMatchesSpec'. -/
def hashOfMatchesSpecUptoCard : Claim7 := { stood := { row := hashOfMatchesSpecUptoRow, standIns := [], harness := (true, "6fa3fdd116d3381a5e582ac1ee652fca5a46acc6e7226d526a164f01037ac487"), looks := false }, kinds := [], alts := [], laidByText := true, laidKinds := [.data, .data], laidTests := true, laidLooks := .later }
def HashOfMatchesSpecUptoCardSaid : Prop := Claim7.holds Tryd.pinned (.plain (OpenSpec.upto hashOfMatchesSpecSpec)) hashOfMatchesSpecUptoCard

/-- THE SECOND FORM's CARD OF 'wordbooklaw02.HashOfSeparates'. -/
def hashOfSeparatesUptoCard : Claim7 := { stood := { row := hashOfSeparatesUptoRow, standIns := [], harness := (true, "6fa3fdd116d3381a5e582ac1ee652fca5a46acc6e7226d526a164f01037ac487"), looks := false }, kinds := [], alts := [], laidByText := true, laidKinds := [.data], laidTests := true, laidLooks := .later }
def HashOfSeparatesUptoCardSaid : Prop := Claim7.holds Tryd.pinned (.plain (OpenSpec.upto hashOfSeparatesSpec)) hashOfSeparatesUptoCard

/-- THE SECOND FORM's CARD OF 'wordbooklaw02.HashEqualIsEquality'. -/
def hashEqualIsEqualityUptoCard : Claim7 := { stood := { row := hashEqualIsEqualityUptoRow, standIns := [], harness := (true, "6fa3fdd116d3381a5e582ac1ee652fca5a46acc6e7226d526a164f01037ac487"), looks := false }, kinds := [], alts := [], laidByText := true, laidKinds := [.data], laidTests := true, laidLooks := .later }
def HashEqualIsEqualityUptoCardSaid : Prop := Claim7.holds Tryd.pinned (.plain (OpenSpec.upto hashEqualIsEqualitySpec)) hashEqualIsEqualityUptoCard
end Rows
end Go.Proofs.YtoekafodjjeboaaDoor
