/-
  DERIVED. GIVEN WITH THE SEED: THE CARDS: each row of YthgaoncndnkcmaaDoorRows.lean that lists a variable, with what it lists TIED to the program's text (the seventh form; the later family's looks); each row that meets fmt, with fmt's text TOLD by the authors' own Lean function (tested against real Go, not proved from fmt's source: count such statements apart). THE CARD IS WHAT COUNTS. Prove the row's statement (the work); the ties are given (YthgaoncndnkcmaaDoorTie.lean); close each card by the builder's one call (the guide's Derived/Test/ToyasCard.lean, 'card_holds'). Laid BY PROGRAM, IN A SANDBOX (cutbox-door.mjs). By AI agents, Wed Nov 11 2026. No macro, syntax, notation, axiom, sorry.
-/
import Derived.Test.YthgaoncndnkcmaaDoorRows
import GoSem.ClaimSeven
namespace Go.Proofs.YthgaoncndnkcmaaDoor
namespace Rows

/-- THE TIED CARD OF 'wordbooklaw05.AlphabetReads'. -/
def alphabetReadsCard : Claim7 := { stood := { row := alphabetReadsRow, standIns := [], harness := (true, "f606f5e8365aac77ec000695fbcaf87dc9c8330a52b05849e4860488f9214760"), looks := false }, kinds := [], alts := [], laidByText := true, laidKinds := [.data, .pinned], laidTests := true, laidLooks := .later }
def AlphabetReadsCardSaid : Prop := Claim7.holds Tryd.pinned (.plain (OpenSpec.ofChange alphabetReadsSpec)) alphabetReadsCard

/-- THE TIED CARD OF 'wordbooklaw05.AlphabetParses'. -/
def alphabetParsesCard : Claim7 := { stood := { row := alphabetParsesRow, standIns := [], harness := (true, "f606f5e8365aac77ec000695fbcaf87dc9c8330a52b05849e4860488f9214760"), looks := false }, kinds := [], alts := [], laidByText := true, laidKinds := [.data, .pinned], laidTests := true, laidLooks := .later }
def AlphabetParsesCardSaid : Prop := Claim7.holds Tryd.pinned (.plain (OpenSpec.ofChange alphabetParsesSpec)) alphabetParsesCard

/-- THE TIED CARD OF 'wordbooklaw05.AlphabetLongest'. -/
def alphabetLongestCard : Claim7 := { stood := { row := alphabetLongestRow, standIns := [], harness := (true, "f606f5e8365aac77ec000695fbcaf87dc9c8330a52b05849e4860488f9214760"), looks := false }, kinds := [], alts := [], laidByText := true, laidKinds := [.data, .pinned], laidTests := true, laidLooks := .later }
def AlphabetLongestCardSaid : Prop := Claim7.holds Tryd.pinned (.plain (OpenSpec.ofChange alphabetLongestSpec)) alphabetLongestCard

/-- THE TIED CARD OF 'wordbooklaw05.AlphabetWrites'. -/
def alphabetWritesCard : Claim7 := { stood := { row := alphabetWritesRow, standIns := [], harness := (true, "f606f5e8365aac77ec000695fbcaf87dc9c8330a52b05849e4860488f9214760"), looks := false }, kinds := [], alts := [], laidByText := true, laidKinds := [.data, .pinned], laidTests := true, laidLooks := .later }
def AlphabetWritesCardSaid : Prop := Claim7.holds Tryd.pinned (.plain (OpenSpec.ofChange alphabetWritesSpec)) alphabetWritesCard

/-- THE TIED CARD OF 'wordbooklaw05.AlphabetSafe'. -/
def alphabetSafeCard : Claim7 := { stood := { row := alphabetSafeRow, standIns := [], harness := (true, "f606f5e8365aac77ec000695fbcaf87dc9c8330a52b05849e4860488f9214760"), looks := false }, kinds := [], alts := [], laidByText := true, laidKinds := [.data, .pinned], laidTests := true, laidLooks := .later }
def AlphabetSafeCardSaid : Prop := Claim7.holds Tryd.pinned (.plain (OpenSpec.ofChange alphabetSafeSpec)) alphabetSafeCard

/-- THE TIED CARD OF 'wordbooklaw05.AlphabetRoundTrip'. -/
def alphabetRoundTripCard : Claim7 := { stood := { row := alphabetRoundTripRow, standIns := [], harness := (true, "f606f5e8365aac77ec000695fbcaf87dc9c8330a52b05849e4860488f9214760"), looks := false }, kinds := [], alts := [], laidByText := true, laidKinds := [.data, .data, .data, .data, .pinned], laidTests := true, laidLooks := .later }
def AlphabetRoundTripCardSaid : Prop := Claim7.holds Tryd.pinned (.plain (OpenSpec.ofChange alphabetRoundTripSpec)) alphabetRoundTripCard

/-- THE SECOND FORM's CARD OF 'wordbooklaw05.AlphabetReads'. -/
def alphabetReadsUptoCard : Claim7 := { stood := { row := alphabetReadsUptoRow, standIns := [], harness := (true, "f606f5e8365aac77ec000695fbcaf87dc9c8330a52b05849e4860488f9214760"), looks := false }, kinds := [], alts := [], laidByText := true, laidKinds := [.data, .pinned], laidTests := true, laidLooks := .later }
def AlphabetReadsUptoCardSaid : Prop := Claim7.holds Tryd.pinned (.plain (OpenSpec.upto alphabetReadsSpec)) alphabetReadsUptoCard

/-- THE SECOND FORM's CARD OF 'wordbooklaw05.AlphabetParses'. -/
def alphabetParsesUptoCard : Claim7 := { stood := { row := alphabetParsesUptoRow, standIns := [], harness := (true, "f606f5e8365aac77ec000695fbcaf87dc9c8330a52b05849e4860488f9214760"), looks := false }, kinds := [], alts := [], laidByText := true, laidKinds := [.data, .pinned], laidTests := true, laidLooks := .later }
def AlphabetParsesUptoCardSaid : Prop := Claim7.holds Tryd.pinned (.plain (OpenSpec.upto alphabetParsesSpec)) alphabetParsesUptoCard

/-- THE SECOND FORM's CARD OF 'wordbooklaw05.AlphabetLongest'. -/
def alphabetLongestUptoCard : Claim7 := { stood := { row := alphabetLongestUptoRow, standIns := [], harness := (true, "f606f5e8365aac77ec000695fbcaf87dc9c8330a52b05849e4860488f9214760"), looks := false }, kinds := [], alts := [], laidByText := true, laidKinds := [.data, .pinned], laidTests := true, laidLooks := .later }
def AlphabetLongestUptoCardSaid : Prop := Claim7.holds Tryd.pinned (.plain (OpenSpec.upto alphabetLongestSpec)) alphabetLongestUptoCard

/-- THE SECOND FORM's CARD OF 'wordbooklaw05.AlphabetWrites'. -/
def alphabetWritesUptoCard : Claim7 := { stood := { row := alphabetWritesUptoRow, standIns := [], harness := (true, "f606f5e8365aac77ec000695fbcaf87dc9c8330a52b05849e4860488f9214760"), looks := false }, kinds := [], alts := [], laidByText := true, laidKinds := [.data, .pinned], laidTests := true, laidLooks := .later }
def AlphabetWritesUptoCardSaid : Prop := Claim7.holds Tryd.pinned (.plain (OpenSpec.upto alphabetWritesSpec)) alphabetWritesUptoCard

/-- THE SECOND FORM's CARD OF 'wordbooklaw05.AlphabetSafe'. -/
def alphabetSafeUptoCard : Claim7 := { stood := { row := alphabetSafeUptoRow, standIns := [], harness := (true, "f606f5e8365aac77ec000695fbcaf87dc9c8330a52b05849e4860488f9214760"), looks := false }, kinds := [], alts := [], laidByText := true, laidKinds := [.data, .pinned], laidTests := true, laidLooks := .later }
def AlphabetSafeUptoCardSaid : Prop := Claim7.holds Tryd.pinned (.plain (OpenSpec.upto alphabetSafeSpec)) alphabetSafeUptoCard

/-- THE SECOND FORM's CARD OF 'wordbooklaw05.AlphabetRoundTrip'. -/
def alphabetRoundTripUptoCard : Claim7 := { stood := { row := alphabetRoundTripUptoRow, standIns := [], harness := (true, "f606f5e8365aac77ec000695fbcaf87dc9c8330a52b05849e4860488f9214760"), looks := false }, kinds := [], alts := [], laidByText := true, laidKinds := [.data, .data, .data, .data, .pinned], laidTests := true, laidLooks := .later }
def AlphabetRoundTripUptoCardSaid : Prop := Claim7.holds Tryd.pinned (.plain (OpenSpec.upto alphabetRoundTripSpec)) alphabetRoundTripUptoCard
end Rows
end Go.Proofs.YthgaoncndnkcmaaDoor
