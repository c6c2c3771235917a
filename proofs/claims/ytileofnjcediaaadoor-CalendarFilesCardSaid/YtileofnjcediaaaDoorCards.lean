/-
  DERIVED. GIVEN WITH THE SEED: THE CARDS: each row of YtileofnjcediaaaDoorRows.lean that lists a variable, with what it lists TIED to the program's text (the seventh form; the later family's looks); each row that meets fmt, with fmt's text TOLD by the authors' own Lean function (tested against real Go, not proved from fmt's source: count such statements apart). THE CARD IS WHAT COUNTS. Prove the row's statement (the work); the ties are given (YtileofnjcediaaaDoorTie.lean); close each card by the builder's one call (the guide's Derived/Test/ToyasCard.lean, 'card_holds'). Laid BY PROGRAM, IN A SANDBOX (cutbox-door.mjs). By AI agents, Wed Nov 11 2026. No macro, syntax, notation, axiom, sorry.
-/
import Derived.Test.YtileofnjcediaaaDoorRows
import GoSem.ClaimSeven
namespace Go.Proofs.YtileofnjcediaaaDoor
namespace Rows

/-- THE TIED CARD OF 'wordbooklaw04.CalendarCounts'. -/
def calendarCountsCard : Claim7 := { stood := { row := calendarCountsRow, standIns := [], harness := (true, "cadfabdd0eb38ca7a0b305edc15368bd54bf1c079f8ed2062915f3c46499014f"), looks := false }, kinds := [], alts := [], laidByText := true, laidKinds := [.data], laidTests := true, laidLooks := .later }
def CalendarCountsCardSaid : Prop := Claim7.holds Tryd.pinned (.plain (OpenSpec.ofChange calendarCountsSpec)) calendarCountsCard

/-- THE TIED CARD OF 'wordbooklaw04.CalendarReads'. -/
def calendarReadsCard : Claim7 := { stood := { row := calendarReadsRow, standIns := [], harness := (true, "cadfabdd0eb38ca7a0b305edc15368bd54bf1c079f8ed2062915f3c46499014f"), looks := false }, kinds := [], alts := [], laidByText := true, laidKinds := [.data], laidTests := true, laidLooks := .later }
def CalendarReadsCardSaid : Prop := Claim7.holds Tryd.pinned (.plain (OpenSpec.ofChange calendarReadsSpec)) calendarReadsCard

/-- THE TIED CARD OF 'wordbooklaw04.CalendarPrints'. -/
def calendarPrintsCard : Claim7 := { stood := { row := calendarPrintsRow, standIns := [], harness := (true, "cadfabdd0eb38ca7a0b305edc15368bd54bf1c079f8ed2062915f3c46499014f"), looks := false }, kinds := [], alts := [], laidByText := true, laidKinds := [.data], laidTests := true, laidLooks := .later }
def CalendarPrintsCardSaid : Prop := Claim7.holds Tryd.pinned (.plain (OpenSpec.ofChange calendarPrintsSpec)) calendarPrintsCard

/-- THE TIED CARD OF 'wordbooklaw04.CalendarDays'. -/
def calendarDaysCard : Claim7 := { stood := { row := calendarDaysRow, standIns := [], harness := (true, "cadfabdd0eb38ca7a0b305edc15368bd54bf1c079f8ed2062915f3c46499014f"), looks := false }, kinds := [], alts := [], laidByText := true, laidKinds := [.data], laidTests := true, laidLooks := .later }
def CalendarDaysCardSaid : Prop := Claim7.holds Tryd.pinned (.plain (OpenSpec.ofChange calendarDaysSpec)) calendarDaysCard

/-- THE TIED CARD OF 'wordbooklaw04.CalendarTexts'. -/
def calendarTextsCard : Claim7 := { stood := { row := calendarTextsRow, standIns := [], harness := (true, "cadfabdd0eb38ca7a0b305edc15368bd54bf1c079f8ed2062915f3c46499014f"), looks := false }, kinds := [], alts := [], laidByText := true, laidKinds := [.data], laidTests := true, laidLooks := .later }
def CalendarTextsCardSaid : Prop := Claim7.holds Tryd.pinned (.plain (OpenSpec.ofChange calendarTextsSpec)) calendarTextsCard

/-- THE TIED CARD OF 'wordbooklaw04.CalendarFirst'. -/
def calendarFirstCard : Claim7 := { stood := { row := calendarFirstRow, standIns := [], harness := (true, "cadfabdd0eb38ca7a0b305edc15368bd54bf1c079f8ed2062915f3c46499014f"), looks := false }, kinds := [], alts := [], laidByText := true, laidKinds := [.data], laidTests := true, laidLooks := .later }
def CalendarFirstCardSaid : Prop := Claim7.holds Tryd.pinned (.plain (OpenSpec.ofChange calendarFirstSpec)) calendarFirstCard

/-- THE TIED CARD OF 'wordbooklaw04.CalendarSpans'. -/
def calendarSpansCard : Claim7 := { stood := { row := calendarSpansRow, standIns := [], harness := (true, "cadfabdd0eb38ca7a0b305edc15368bd54bf1c079f8ed2062915f3c46499014f"), looks := false }, kinds := [], alts := [], laidByText := true, laidKinds := [.data], laidTests := true, laidLooks := .later }
def CalendarSpansCardSaid : Prop := Claim7.holds Tryd.pinned (.plain (OpenSpec.ofChange calendarSpansSpec)) calendarSpansCard

/-- THE TIED CARD OF 'wordbooklaw04.CalendarOrder'. -/
def calendarOrderCard : Claim7 := { stood := { row := calendarOrderRow, standIns := [], harness := (true, "cadfabdd0eb38ca7a0b305edc15368bd54bf1c079f8ed2062915f3c46499014f"), looks := false }, kinds := [], alts := [], laidByText := true, laidKinds := [.data], laidTests := true, laidLooks := .later }
def CalendarOrderCardSaid : Prop := Claim7.holds Tryd.pinned (.plain (OpenSpec.ofChange calendarOrderSpec)) calendarOrderCard

/-- THE TIED CARD OF 'wordbooklaw04.CalendarFiles'. -/
def calendarFilesCard : Claim7 := { stood := { row := calendarFilesRow, standIns := [], harness := (true, "cadfabdd0eb38ca7a0b305edc15368bd54bf1c079f8ed2062915f3c46499014f"), looks := false }, kinds := [], alts := [], laidByText := true, laidKinds := [.data, .data], laidTests := true, laidLooks := .later }
def CalendarFilesCardSaid : Prop := Claim7.holds Tryd.pinned (.plain (OpenSpec.ofChange calendarFilesSpec)) calendarFilesCard

/-- THE SECOND FORM's CARD OF 'wordbooklaw04.CalendarCounts'. -/
def calendarCountsUptoCard : Claim7 := { stood := { row := calendarCountsUptoRow, standIns := [], harness := (true, "cadfabdd0eb38ca7a0b305edc15368bd54bf1c079f8ed2062915f3c46499014f"), looks := false }, kinds := [], alts := [], laidByText := true, laidKinds := [.data], laidTests := true, laidLooks := .later }
def CalendarCountsUptoCardSaid : Prop := Claim7.holds Tryd.pinned (.plain (OpenSpec.upto calendarCountsSpec)) calendarCountsUptoCard

/-- THE SECOND FORM's CARD OF 'wordbooklaw04.CalendarReads'. -/
def calendarReadsUptoCard : Claim7 := { stood := { row := calendarReadsUptoRow, standIns := [], harness := (true, "cadfabdd0eb38ca7a0b305edc15368bd54bf1c079f8ed2062915f3c46499014f"), looks := false }, kinds := [], alts := [], laidByText := true, laidKinds := [.data], laidTests := true, laidLooks := .later }
def CalendarReadsUptoCardSaid : Prop := Claim7.holds Tryd.pinned (.plain (OpenSpec.upto calendarReadsSpec)) calendarReadsUptoCard

/-- THE SECOND FORM's CARD OF 'wordbooklaw04.CalendarPrints'. -/
def calendarPrintsUptoCard : Claim7 := { stood := { row := calendarPrintsUptoRow, standIns := [], harness := (true, "cadfabdd0eb38ca7a0b305edc15368bd54bf1c079f8ed2062915f3c46499014f"), looks := false }, kinds := [], alts := [], laidByText := true, laidKinds := [.data], laidTests := true, laidLooks := .later }
def CalendarPrintsUptoCardSaid : Prop := Claim7.holds Tryd.pinned (.plain (OpenSpec.upto calendarPrintsSpec)) calendarPrintsUptoCard

/-- THE SECOND FORM's CARD OF 'wordbooklaw04.CalendarDays'. -/
def calendarDaysUptoCard : Claim7 := { stood := { row := calendarDaysUptoRow, standIns := [], harness := (true, "cadfabdd0eb38ca7a0b305edc15368bd54bf1c079f8ed2062915f3c46499014f"), looks := false }, kinds := [], alts := [], laidByText := true, laidKinds := [.data], laidTests := true, laidLooks := .later }
def CalendarDaysUptoCardSaid : Prop := Claim7.holds Tryd.pinned (.plain (OpenSpec.upto calendarDaysSpec)) calendarDaysUptoCard

/-- THE SECOND FORM's CARD OF 'wordbooklaw04.CalendarTexts'. -/
def calendarTextsUptoCard : Claim7 := { stood := { row := calendarTextsUptoRow, standIns := [], harness := (true, "cadfabdd0eb38ca7a0b305edc15368bd54bf1c079f8ed2062915f3c46499014f"), looks := false }, kinds := [], alts := [], laidByText := true, laidKinds := [.data], laidTests := true, laidLooks := .later }
def CalendarTextsUptoCardSaid : Prop := Claim7.holds Tryd.pinned (.plain (OpenSpec.upto calendarTextsSpec)) calendarTextsUptoCard

/-- THE SECOND FORM's CARD OF 'wordbooklaw04.CalendarFirst'. -/
def calendarFirstUptoCard : Claim7 := { stood := { row := calendarFirstUptoRow, standIns := [], harness := (true, "cadfabdd0eb38ca7a0b305edc15368bd54bf1c079f8ed2062915f3c46499014f"), looks := false }, kinds := [], alts := [], laidByText := true, laidKinds := [.data], laidTests := true, laidLooks := .later }
def CalendarFirstUptoCardSaid : Prop := Claim7.holds Tryd.pinned (.plain (OpenSpec.upto calendarFirstSpec)) calendarFirstUptoCard

/-- THE SECOND FORM's CARD OF 'wordbooklaw04.CalendarSpans'. -/
def calendarSpansUptoCard : Claim7 := { stood := { row := calendarSpansUptoRow, standIns := [], harness := (true, "cadfabdd0eb38ca7a0b305edc15368bd54bf1c079f8ed2062915f3c46499014f"), looks := false }, kinds := [], alts := [], laidByText := true, laidKinds := [.data], laidTests := true, laidLooks := .later }
def CalendarSpansUptoCardSaid : Prop := Claim7.holds Tryd.pinned (.plain (OpenSpec.upto calendarSpansSpec)) calendarSpansUptoCard

/-- THE SECOND FORM's CARD OF 'wordbooklaw04.CalendarOrder'. -/
def calendarOrderUptoCard : Claim7 := { stood := { row := calendarOrderUptoRow, standIns := [], harness := (true, "cadfabdd0eb38ca7a0b305edc15368bd54bf1c079f8ed2062915f3c46499014f"), looks := false }, kinds := [], alts := [], laidByText := true, laidKinds := [.data], laidTests := true, laidLooks := .later }
def CalendarOrderUptoCardSaid : Prop := Claim7.holds Tryd.pinned (.plain (OpenSpec.upto calendarOrderSpec)) calendarOrderUptoCard

/-- THE SECOND FORM's CARD OF 'wordbooklaw04.CalendarFiles'. -/
def calendarFilesUptoCard : Claim7 := { stood := { row := calendarFilesUptoRow, standIns := [], harness := (true, "cadfabdd0eb38ca7a0b305edc15368bd54bf1c079f8ed2062915f3c46499014f"), looks := false }, kinds := [], alts := [], laidByText := true, laidKinds := [.data, .data], laidTests := true, laidLooks := .later }
def CalendarFilesUptoCardSaid : Prop := Claim7.holds Tryd.pinned (.plain (OpenSpec.upto calendarFilesSpec)) calendarFilesUptoCard
end Rows
end Go.Proofs.YtileofnjcediaaaDoor
