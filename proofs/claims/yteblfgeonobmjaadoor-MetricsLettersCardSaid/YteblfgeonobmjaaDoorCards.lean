/-
  DERIVED. GIVEN WITH THE SEED: THE CARDS: each row of YteblfgeonobmjaaDoorRows.lean that lists a variable, with what it lists TIED to the program's text (the seventh form; the later family's looks); each row that meets fmt, with fmt's text TOLD by the authors' own Lean function (tested against real Go, not proved from fmt's source: count such statements apart). THE CARD IS WHAT COUNTS. Prove the row's statement (the work); the ties are given (YteblfgeonobmjaaDoorTie.lean); close each card by the builder's one call (the guide's Derived/Test/ToyasCard.lean, 'card_holds'). Laid BY PROGRAM, IN A SANDBOX (cutbox-door.mjs). By AI agents, Wed Nov 11 2026. No macro, syntax, notation, axiom, sorry.
-/
import Derived.Test.YteblfgeonobmjaaDoorRows
import GoSem.ClaimSeven
namespace Go.Proofs.YteblfgeonobmjaaDoor
namespace Rows

/-- THE TIED CARD OF 'wordbooklaw30.MetricsWidths'. -/
def metricsWidthsCard : Claim7 := { stood := { row := metricsWidthsRow, standIns := [], harness := (true, "ef407fd7f1cf6807d110888decf503a949870edfdc25c9ebd96495038509cd1b"), looks := false }, kinds := [], alts := [], laidByText := true, laidKinds := [.data, .data, .data], laidTests := true, laidLooks := .later }
def MetricsWidthsCardSaid : Prop := Claim7.holds Tryd.pinned (.plain (OpenSpec.ofChange metricsWidthsSpec)) metricsWidthsCard

/-- THE TIED CARD OF 'wordbooklaw30.MetricsFits'. -/
def metricsFitsCard : Claim7 := { stood := { row := metricsFitsRow, standIns := [], harness := (true, "ef407fd7f1cf6807d110888decf503a949870edfdc25c9ebd96495038509cd1b"), looks := false }, kinds := [], alts := [], laidByText := true, laidKinds := [.data, .data, .data], laidTests := true, laidLooks := .later }
def MetricsFitsCardSaid : Prop := Claim7.holds Tryd.pinned (.plain (OpenSpec.ofChange metricsFitsSpec)) metricsFitsCard

/-- THE TIED CARD OF 'wordbooklaw30.MetricsNumbers'. -/
def metricsNumbersCard : Claim7 := { stood := { row := metricsNumbersRow, standIns := [], harness := (true, "ef407fd7f1cf6807d110888decf503a949870edfdc25c9ebd96495038509cd1b"), looks := false }, kinds := [], alts := [], laidByText := true, laidKinds := [.data, .data, .data], laidTests := true, laidLooks := .later }
def MetricsNumbersCardSaid : Prop := Claim7.holds Tryd.pinned (.plain (OpenSpec.ofChange metricsNumbersSpec)) metricsNumbersCard

/-- THE TIED CARD OF 'wordbooklaw30.MetricsParts'. -/
def metricsPartsCard : Claim7 := { stood := { row := metricsPartsRow, standIns := [], harness := (true, "ef407fd7f1cf6807d110888decf503a949870edfdc25c9ebd96495038509cd1b"), looks := false }, kinds := [], alts := [], laidByText := true, laidKinds := [.data, .data, .data], laidTests := true, laidLooks := .later }
def MetricsPartsCardSaid : Prop := Claim7.holds Tryd.pinned (.plain (OpenSpec.ofChange metricsPartsSpec)) metricsPartsCard

/-- THE TIED CARD OF 'wordbooklaw30.MetricsOrder'. -/
def metricsOrderCard : Claim7 := { stood := { row := metricsOrderRow, standIns := [], harness := (true, "ef407fd7f1cf6807d110888decf503a949870edfdc25c9ebd96495038509cd1b"), looks := false }, kinds := [], alts := [], laidByText := true, laidKinds := [.data, .data, .data], laidTests := true, laidLooks := .later }
def MetricsOrderCardSaid : Prop := Claim7.holds Tryd.pinned (.plain (OpenSpec.ofChange metricsOrderSpec)) metricsOrderCard

/-- THE TIED CARD OF 'wordbooklaw30.MetricsLetters'. -/
def metricsLettersCard : Claim7 := { stood := { row := metricsLettersRow, standIns := [], harness := (true, "ef407fd7f1cf6807d110888decf503a949870edfdc25c9ebd96495038509cd1b"), looks := false }, kinds := [], alts := [], laidByText := true, laidKinds := [.data, .data, .data], laidTests := true, laidLooks := .later }
def MetricsLettersCardSaid : Prop := Claim7.holds Tryd.pinned (.plain (OpenSpec.ofChange metricsLettersSpec)) metricsLettersCard

/-- THE TIED CARD OF 'wordbooklaw30.MetricsDates'. -/
def metricsDatesCard : Claim7 := { stood := { row := metricsDatesRow, standIns := [], harness := (true, "ef407fd7f1cf6807d110888decf503a949870edfdc25c9ebd96495038509cd1b"), looks := false }, kinds := [], alts := [], laidByText := true, laidKinds := [.data, .data, .data, .data], laidTests := true, laidLooks := .later }
def MetricsDatesCardSaid : Prop := Claim7.holds Tryd.pinned (.plain (OpenSpec.ofChange metricsDatesSpec)) metricsDatesCard

/-- THE SECOND FORM's CARD OF 'wordbooklaw30.MetricsWidths'. -/
def metricsWidthsUptoCard : Claim7 := { stood := { row := metricsWidthsUptoRow, standIns := [], harness := (true, "ef407fd7f1cf6807d110888decf503a949870edfdc25c9ebd96495038509cd1b"), looks := false }, kinds := [], alts := [], laidByText := true, laidKinds := [.data, .data, .data], laidTests := true, laidLooks := .later }
def MetricsWidthsUptoCardSaid : Prop := Claim7.holds Tryd.pinned (.plain (OpenSpec.upto metricsWidthsSpec)) metricsWidthsUptoCard

/-- THE SECOND FORM's CARD OF 'wordbooklaw30.MetricsFits'. -/
def metricsFitsUptoCard : Claim7 := { stood := { row := metricsFitsUptoRow, standIns := [], harness := (true, "ef407fd7f1cf6807d110888decf503a949870edfdc25c9ebd96495038509cd1b"), looks := false }, kinds := [], alts := [], laidByText := true, laidKinds := [.data, .data, .data], laidTests := true, laidLooks := .later }
def MetricsFitsUptoCardSaid : Prop := Claim7.holds Tryd.pinned (.plain (OpenSpec.upto metricsFitsSpec)) metricsFitsUptoCard

/-- THE SECOND FORM's CARD OF 'wordbooklaw30.MetricsNumbers'. -/
def metricsNumbersUptoCard : Claim7 := { stood := { row := metricsNumbersUptoRow, standIns := [], harness := (true, "ef407fd7f1cf6807d110888decf503a949870edfdc25c9ebd96495038509cd1b"), looks := false }, kinds := [], alts := [], laidByText := true, laidKinds := [.data, .data, .data], laidTests := true, laidLooks := .later }
def MetricsNumbersUptoCardSaid : Prop := Claim7.holds Tryd.pinned (.plain (OpenSpec.upto metricsNumbersSpec)) metricsNumbersUptoCard

/-- THE SECOND FORM's CARD OF 'wordbooklaw30.MetricsParts'. -/
def metricsPartsUptoCard : Claim7 := { stood := { row := metricsPartsUptoRow, standIns := [], harness := (true, "ef407fd7f1cf6807d110888decf503a949870edfdc25c9ebd96495038509cd1b"), looks := false }, kinds := [], alts := [], laidByText := true, laidKinds := [.data, .data, .data], laidTests := true, laidLooks := .later }
def MetricsPartsUptoCardSaid : Prop := Claim7.holds Tryd.pinned (.plain (OpenSpec.upto metricsPartsSpec)) metricsPartsUptoCard

/-- THE SECOND FORM's CARD OF 'wordbooklaw30.MetricsOrder'. -/
def metricsOrderUptoCard : Claim7 := { stood := { row := metricsOrderUptoRow, standIns := [], harness := (true, "ef407fd7f1cf6807d110888decf503a949870edfdc25c9ebd96495038509cd1b"), looks := false }, kinds := [], alts := [], laidByText := true, laidKinds := [.data, .data, .data], laidTests := true, laidLooks := .later }
def MetricsOrderUptoCardSaid : Prop := Claim7.holds Tryd.pinned (.plain (OpenSpec.upto metricsOrderSpec)) metricsOrderUptoCard

/-- THE SECOND FORM's CARD OF 'wordbooklaw30.MetricsLetters'. -/
def metricsLettersUptoCard : Claim7 := { stood := { row := metricsLettersUptoRow, standIns := [], harness := (true, "ef407fd7f1cf6807d110888decf503a949870edfdc25c9ebd96495038509cd1b"), looks := false }, kinds := [], alts := [], laidByText := true, laidKinds := [.data, .data, .data], laidTests := true, laidLooks := .later }
def MetricsLettersUptoCardSaid : Prop := Claim7.holds Tryd.pinned (.plain (OpenSpec.upto metricsLettersSpec)) metricsLettersUptoCard

/-- THE SECOND FORM's CARD OF 'wordbooklaw30.MetricsDates'. -/
def metricsDatesUptoCard : Claim7 := { stood := { row := metricsDatesUptoRow, standIns := [], harness := (true, "ef407fd7f1cf6807d110888decf503a949870edfdc25c9ebd96495038509cd1b"), looks := false }, kinds := [], alts := [], laidByText := true, laidKinds := [.data, .data, .data, .data], laidTests := true, laidLooks := .later }
def MetricsDatesUptoCardSaid : Prop := Claim7.holds Tryd.pinned (.plain (OpenSpec.upto metricsDatesSpec)) metricsDatesUptoCard
end Rows
end Go.Proofs.YteblfgeonobmjaaDoor
