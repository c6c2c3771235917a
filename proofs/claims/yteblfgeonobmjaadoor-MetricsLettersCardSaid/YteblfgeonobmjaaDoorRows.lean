/-
  NARROWER THAN 'FOR EVERY INPUT', by the rows' own cells (each row's printed sentence says how): MetricsWidths: laid · MetricsFits: laid · MetricsNumbers: laid · MetricsParts: laid · MetricsOrder: laid · MetricsLetters: laid · MetricsDates: laid.
  DERIVED. THE GIVEN ROWS OF THIS SEAT. 7 by the template 'for every input the law returns true; each argument reads behind the call as it read before'; 0 by the template 'total and deterministic' (their statements: YteblfgeonobmjaaDoorTotals.lean).
  GIVEN WITH THE SEED: the statements are not yours to turn. If you find one false, say at which input.
  Laid BY PROGRAM, IN A SANDBOX (cutbox-rows.mjs): the forced cells as the released guide's own fill.sh prints them over the translation 1adde82a5ba1de1c… (all of the seat's roots in one cut). By AI agents, Wed Nov 11 2026. No macro, syntax, notation, axiom, sorry.
-/
import Derived.Test.YteblfgeonobmjaaDoorChecked
import GoSem.Claim
import GoSem.ClaimJoined
import GoSem.ClaimMapViews
import Derived.JoinedTies
import Derived.KernelRfl
namespace Go.Proofs.YteblfgeonobmjaaDoor
/- THE CELL 'sum', in the pinned program and in every row, IS THE sha256 OF THE DUMP (.gsa) THAT YteblfgeonobmjaaDoorProg.lean LOADS. Nothing in Lean hashes anything: it is a label: what it is worth is what the hold of that sum in a sandbox is worth. -/
noncomputable def Tryd.pinned : Pinned := { name := "yteblfgeonobmjaadoor", sum := "1adde82a5ba1de1c3cc0fb9b231b495b23ed97bbc487112de8bde7b5b0fad1c6", checked := Tryd.checked }
namespace Rows
def none {H : Type} : Left H := { results := [], args := [] }

/- WHAT THE LISTED PACKAGE-LEVEL VARIABLES READ AS WHEN THE CALL BEGINS. Each datum BY PROGRAM (the guide's laid-datum.mjs) off the statement by which the dump's own 'gosem.cut.vars' lays the variable. In a bare row this is a premise. The card (YteblfgeonobmjaaDoorCards.lean) ties it to the program's text. -/
def laid_math_bits_deBruijn32tab {H : Type} : DataW H := .agg [.lit (.int .u8 0), .lit (.int .u8 1), .lit (.int .u8 28), .lit (.int .u8 2), .lit (.int .u8 29), .lit (.int .u8 14), .lit (.int .u8 24), .lit (.int .u8 3), .lit (.int .u8 30), .lit (.int .u8 22), .lit (.int .u8 20), .lit (.int .u8 15), .lit (.int .u8 25), .lit (.int .u8 17), .lit (.int .u8 4), .lit (.int .u8 8), .lit (.int .u8 31), .lit (.int .u8 27), .lit (.int .u8 13), .lit (.int .u8 23), .lit (.int .u8 21), .lit (.int .u8 19), .lit (.int .u8 16), .lit (.int .u8 7), .lit (.int .u8 26), .lit (.int .u8 12), .lit (.int .u8 18), .lit (.int .u8 6), .lit (.int .u8 11), .lit (.int .u8 5), .lit (.int .u8 10), .lit (.int .u8 9)]
def laid_math_bits_deBruijn64tab {H : Type} : DataW H := .agg [.lit (.int .u8 0), .lit (.int .u8 1), .lit (.int .u8 56), .lit (.int .u8 2), .lit (.int .u8 57), .lit (.int .u8 49), .lit (.int .u8 28), .lit (.int .u8 3), .lit (.int .u8 61), .lit (.int .u8 58), .lit (.int .u8 42), .lit (.int .u8 50), .lit (.int .u8 38), .lit (.int .u8 29), .lit (.int .u8 17), .lit (.int .u8 4), .lit (.int .u8 62), .lit (.int .u8 47), .lit (.int .u8 59), .lit (.int .u8 36), .lit (.int .u8 45), .lit (.int .u8 43), .lit (.int .u8 51), .lit (.int .u8 22), .lit (.int .u8 53), .lit (.int .u8 39), .lit (.int .u8 33), .lit (.int .u8 30), .lit (.int .u8 24), .lit (.int .u8 18), .lit (.int .u8 12), .lit (.int .u8 5), .lit (.int .u8 63), .lit (.int .u8 55), .lit (.int .u8 48), .lit (.int .u8 27), .lit (.int .u8 60), .lit (.int .u8 41), .lit (.int .u8 37), .lit (.int .u8 16), .lit (.int .u8 46), .lit (.int .u8 35), .lit (.int .u8 44), .lit (.int .u8 21), .lit (.int .u8 52), .lit (.int .u8 32), .lit (.int .u8 23), .lit (.int .u8 11), .lit (.int .u8 54), .lit (.int .u8 26), .lit (.int .u8 40), .lit (.int .u8 15), .lit (.int .u8 34), .lit (.int .u8 20), .lit (.int .u8 31), .lit (.int .u8 10), .lit (.int .u8 25), .lit (.int .u8 14), .lit (.int .u8 19), .lit (.int .u8 9), .lit (.int .u8 13), .lit (.int .u8 8), .lit (.int .u8 7), .lit (.int .u8 6)]
def laid_internal_strconv_uint64pow10 {H : Type} : DataW H := .agg [.lit (.int .u64 1), .lit (.int .u64 10), .lit (.int .u64 100), .lit (.int .u64 1000), .lit (.int .u64 10000), .lit (.int .u64 100000), .lit (.int .u64 1000000), .lit (.int .u64 10000000), .lit (.int .u64 100000000), .lit (.int .u64 1000000000), .lit (.int .u64 10000000000), .lit (.int .u64 100000000000), .lit (.int .u64 1000000000000), .lit (.int .u64 10000000000000), .lit (.int .u64 100000000000000), .lit (.int .u64 1000000000000000), .lit (.int .u64 10000000000000000), .lit (.int .u64 100000000000000000), .lit (.int .u64 1000000000000000000), .lit (.int .u64 10000000000000000000)]
def laid_wordbook_calendar_lengths {H : Type} : DataW H := .agg [.lit (.int .i64 31), .lit (.int .i64 28), .lit (.int .i64 31), .lit (.int .i64 30), .lit (.int .i64 31), .lit (.int .i64 30), .lit (.int .i64 31), .lit (.int .i64 31), .lit (.int .i64 30), .lit (.int .i64 31), .lit (.int .i64 30), .lit (.int .i64 31)]

/-- 'wordbooklaw30.MetricsWidths': WHATEVER THE INPUT: true; the input reads as it did. -/
def metricsWidthsSpec : ChangeSpec := { name := "metricsWidths", fn := fun _ => fun
  | [d1, d2, d3, d4, d5] => { results := [.lit (.bool true)], args := [d1, d2, d3, d4, d5] }
  | _ => none }
def metricsWidthsRow : OpenClaim := { program := "yteblfgeonobmjaadoor", sum := "1adde82a5ba1de1c3cc0fb9b231b495b23ed97bbc487112de8bde7b5b0fad1c6", func := "wordbook/wordbooklaw30.MetricsWidths", spec := "metricsWidths", inPlace := ["internal/bytealg.IndexByteString"], unfollowed := true, recurses := true, named := ["internal/strconv.uint64pow10", "math/bits.deBruijn32tab", "math/bits.deBruijn64tab"], plainKeys := false, apart := false, laid := [("math/bits.deBruijn32tab", laid_math_bits_deBruijn32tab), ("math/bits.deBruijn64tab", laid_math_bits_deBruijn64tab), ("internal/strconv.uint64pow10", laid_internal_strconv_uint64pow10)] }
def MetricsWidthsSaid : Prop := metricsWidthsRow.holds Tryd.pinned (OpenSpec.ofChange metricsWidthsSpec)

/-- ITS FALSE NEIGHBOUR: 'it returns false'. Refute it at one input. -/
def metricsWidthsWrong : ChangeSpec := { name := "metricsWidths", fn := fun _ => fun
  | [d1, d2, d3, d4, d5] => { results := [.lit (.bool false)], args := [d1, d2, d3, d4, d5] }
  | _ => none }
def MetricsWidthsWrongFalsely : Prop := metricsWidthsRow.holds Tryd.pinned (OpenSpec.ofChange metricsWidthsWrong)

/-- 'wordbooklaw30.MetricsFits': WHATEVER THE INPUT: true; the input reads as it did. -/
def metricsFitsSpec : ChangeSpec := { name := "metricsFits", fn := fun _ => fun
  | [d1, d2, d3, d4, d5] => { results := [.lit (.bool true)], args := [d1, d2, d3, d4, d5] }
  | _ => none }
def metricsFitsRow : OpenClaim := { program := "yteblfgeonobmjaadoor", sum := "1adde82a5ba1de1c3cc0fb9b231b495b23ed97bbc487112de8bde7b5b0fad1c6", func := "wordbook/wordbooklaw30.MetricsFits", spec := "metricsFits", inPlace := ["internal/bytealg.IndexByteString"], unfollowed := true, recurses := true, named := ["internal/strconv.uint64pow10", "math/bits.deBruijn32tab", "math/bits.deBruijn64tab"], plainKeys := false, apart := false, laid := [("math/bits.deBruijn32tab", laid_math_bits_deBruijn32tab), ("math/bits.deBruijn64tab", laid_math_bits_deBruijn64tab), ("internal/strconv.uint64pow10", laid_internal_strconv_uint64pow10)] }
def MetricsFitsSaid : Prop := metricsFitsRow.holds Tryd.pinned (OpenSpec.ofChange metricsFitsSpec)

/-- ITS FALSE NEIGHBOUR: 'it returns false'. Refute it at one input. -/
def metricsFitsWrong : ChangeSpec := { name := "metricsFits", fn := fun _ => fun
  | [d1, d2, d3, d4, d5] => { results := [.lit (.bool false)], args := [d1, d2, d3, d4, d5] }
  | _ => none }
def MetricsFitsWrongFalsely : Prop := metricsFitsRow.holds Tryd.pinned (OpenSpec.ofChange metricsFitsWrong)

/-- 'wordbooklaw30.MetricsNumbers': WHATEVER THE INPUT: true; the input reads as it did. -/
def metricsNumbersSpec : ChangeSpec := { name := "metricsNumbers", fn := fun _ => fun
  | [d1, d2, d3, d4] => { results := [.lit (.bool true)], args := [d1, d2, d3, d4] }
  | _ => none }
def metricsNumbersRow : OpenClaim := { program := "yteblfgeonobmjaadoor", sum := "1adde82a5ba1de1c3cc0fb9b231b495b23ed97bbc487112de8bde7b5b0fad1c6", func := "wordbook/wordbooklaw30.MetricsNumbers", spec := "metricsNumbers", inPlace := ["internal/bytealg.IndexByteString"], unfollowed := true, recurses := true, named := ["internal/strconv.uint64pow10", "math/bits.deBruijn32tab", "math/bits.deBruijn64tab"], plainKeys := false, apart := false, laid := [("math/bits.deBruijn32tab", laid_math_bits_deBruijn32tab), ("math/bits.deBruijn64tab", laid_math_bits_deBruijn64tab), ("internal/strconv.uint64pow10", laid_internal_strconv_uint64pow10)] }
def MetricsNumbersSaid : Prop := metricsNumbersRow.holds Tryd.pinned (OpenSpec.ofChange metricsNumbersSpec)

/-- ITS FALSE NEIGHBOUR: 'it returns false'. Refute it at one input. -/
def metricsNumbersWrong : ChangeSpec := { name := "metricsNumbers", fn := fun _ => fun
  | [d1, d2, d3, d4] => { results := [.lit (.bool false)], args := [d1, d2, d3, d4] }
  | _ => none }
def MetricsNumbersWrongFalsely : Prop := metricsNumbersRow.holds Tryd.pinned (OpenSpec.ofChange metricsNumbersWrong)

/-- 'wordbooklaw30.MetricsParts': WHATEVER THE INPUT: true; the input reads as it did. -/
def metricsPartsSpec : ChangeSpec := { name := "metricsParts", fn := fun _ => fun
  | [d1, d2, d3, d4, d5] => { results := [.lit (.bool true)], args := [d1, d2, d3, d4, d5] }
  | _ => none }
def metricsPartsRow : OpenClaim := { program := "yteblfgeonobmjaadoor", sum := "1adde82a5ba1de1c3cc0fb9b231b495b23ed97bbc487112de8bde7b5b0fad1c6", func := "wordbook/wordbooklaw30.MetricsParts", spec := "metricsParts", inPlace := ["internal/bytealg.IndexByteString"], unfollowed := true, recurses := true, named := ["internal/strconv.uint64pow10", "math/bits.deBruijn32tab", "math/bits.deBruijn64tab"], plainKeys := false, apart := false, laid := [("math/bits.deBruijn32tab", laid_math_bits_deBruijn32tab), ("math/bits.deBruijn64tab", laid_math_bits_deBruijn64tab), ("internal/strconv.uint64pow10", laid_internal_strconv_uint64pow10)] }
def MetricsPartsSaid : Prop := metricsPartsRow.holds Tryd.pinned (OpenSpec.ofChange metricsPartsSpec)

/-- ITS FALSE NEIGHBOUR: 'it returns false'. Refute it at one input. -/
def metricsPartsWrong : ChangeSpec := { name := "metricsParts", fn := fun _ => fun
  | [d1, d2, d3, d4, d5] => { results := [.lit (.bool false)], args := [d1, d2, d3, d4, d5] }
  | _ => none }
def MetricsPartsWrongFalsely : Prop := metricsPartsRow.holds Tryd.pinned (OpenSpec.ofChange metricsPartsWrong)

/-- 'wordbooklaw30.MetricsOrder': WHATEVER THE INPUT: true; the input reads as it did. -/
def metricsOrderSpec : ChangeSpec := { name := "metricsOrder", fn := fun _ => fun
  | [d1, d2, d3, d4, d5] => { results := [.lit (.bool true)], args := [d1, d2, d3, d4, d5] }
  | _ => none }
def metricsOrderRow : OpenClaim := { program := "yteblfgeonobmjaadoor", sum := "1adde82a5ba1de1c3cc0fb9b231b495b23ed97bbc487112de8bde7b5b0fad1c6", func := "wordbook/wordbooklaw30.MetricsOrder", spec := "metricsOrder", inPlace := ["internal/bytealg.IndexByteString"], unfollowed := true, recurses := true, named := ["internal/strconv.uint64pow10", "math/bits.deBruijn32tab", "math/bits.deBruijn64tab"], plainKeys := false, apart := false, laid := [("math/bits.deBruijn32tab", laid_math_bits_deBruijn32tab), ("math/bits.deBruijn64tab", laid_math_bits_deBruijn64tab), ("internal/strconv.uint64pow10", laid_internal_strconv_uint64pow10)] }
def MetricsOrderSaid : Prop := metricsOrderRow.holds Tryd.pinned (OpenSpec.ofChange metricsOrderSpec)

/-- ITS FALSE NEIGHBOUR: 'it returns false'. Refute it at one input. -/
def metricsOrderWrong : ChangeSpec := { name := "metricsOrder", fn := fun _ => fun
  | [d1, d2, d3, d4, d5] => { results := [.lit (.bool false)], args := [d1, d2, d3, d4, d5] }
  | _ => none }
def MetricsOrderWrongFalsely : Prop := metricsOrderRow.holds Tryd.pinned (OpenSpec.ofChange metricsOrderWrong)

/-- 'wordbooklaw30.MetricsLetters': WHATEVER THE INPUT: true; the input reads as it did. -/
def metricsLettersSpec : ChangeSpec := { name := "metricsLetters", fn := fun _ => fun
  | [d1, d2, d3] => { results := [.lit (.bool true)], args := [d1, d2, d3] }
  | _ => none }
def metricsLettersRow : OpenClaim := { program := "yteblfgeonobmjaadoor", sum := "1adde82a5ba1de1c3cc0fb9b231b495b23ed97bbc487112de8bde7b5b0fad1c6", func := "wordbook/wordbooklaw30.MetricsLetters", spec := "metricsLetters", inPlace := ["internal/bytealg.IndexByteString", "internal/abi.NoEscape"], unfollowed := true, recurses := true, named := ["internal/strconv.uint64pow10", "math/bits.deBruijn32tab", "math/bits.deBruijn64tab"], plainKeys := false, apart := false, laid := [("math/bits.deBruijn32tab", laid_math_bits_deBruijn32tab), ("math/bits.deBruijn64tab", laid_math_bits_deBruijn64tab), ("internal/strconv.uint64pow10", laid_internal_strconv_uint64pow10)] }
def MetricsLettersSaid : Prop := metricsLettersRow.holds Tryd.pinned (OpenSpec.ofChange metricsLettersSpec)

/-- ITS FALSE NEIGHBOUR: 'it returns false'. Refute it at one input. -/
def metricsLettersWrong : ChangeSpec := { name := "metricsLetters", fn := fun _ => fun
  | [d1, d2, d3] => { results := [.lit (.bool false)], args := [d1, d2, d3] }
  | _ => none }
def MetricsLettersWrongFalsely : Prop := metricsLettersRow.holds Tryd.pinned (OpenSpec.ofChange metricsLettersWrong)

/-- 'wordbooklaw30.MetricsDates': WHATEVER THE INPUT: true; the input reads as it did. -/
def metricsDatesSpec : ChangeSpec := { name := "metricsDates", fn := fun _ => fun
  | [d1, d2, d3, d4] => { results := [.lit (.bool true)], args := [d1, d2, d3, d4] }
  | _ => none }
def metricsDatesRow : OpenClaim := { program := "yteblfgeonobmjaadoor", sum := "1adde82a5ba1de1c3cc0fb9b231b495b23ed97bbc487112de8bde7b5b0fad1c6", func := "wordbook/wordbooklaw30.MetricsDates", spec := "metricsDates", inPlace := ["internal/bytealg.IndexByteString"], unfollowed := true, recurses := true, named := ["wordbook/calendar.lengths", "internal/strconv.uint64pow10", "math/bits.deBruijn32tab", "math/bits.deBruijn64tab"], plainKeys := false, apart := false, laid := [("math/bits.deBruijn32tab", laid_math_bits_deBruijn32tab), ("math/bits.deBruijn64tab", laid_math_bits_deBruijn64tab), ("internal/strconv.uint64pow10", laid_internal_strconv_uint64pow10), ("wordbook/calendar.lengths", laid_wordbook_calendar_lengths)] }
def MetricsDatesSaid : Prop := metricsDatesRow.holds Tryd.pinned (OpenSpec.ofChange metricsDatesSpec)

/-- ITS FALSE NEIGHBOUR: 'it returns false'. Refute it at one input. -/
def metricsDatesWrong : ChangeSpec := { name := "metricsDates", fn := fun _ => fun
  | [d1, d2, d3, d4] => { results := [.lit (.bool false)], args := [d1, d2, d3, d4] }
  | _ => none }
def MetricsDatesWrongFalsely : Prop := metricsDatesRow.holds Tryd.pinned (OpenSpec.ofChange metricsDatesWrong)

/- THE SECOND FORM. 'bulk': how many values and letters a reading holds, each counted each time it is reached (what is shared counts as often as it is met; a slice's spare places count too). A statement '..UptoSaid' is the law's where the arguments, and the package variables that the reading takes, are together of bulk at most 1048576: NARROWER than '..Said'. Prove '..Said' where nothing that the law and all that it calls make is longer than what came in: it says more and counts as full. Else prove '..UptoSaid'. A law counts once. -/
mutual
def uptoBulk {H : Type} : DataW H → Nat
  | .lit (.string bytes) => bytes.length + 1
  | .lit _ => 1
  | .nil => 1
  | .ptr d => uptoBulk d + 1
  | .slice elems spare => uptoBulkAll elems + uptoBulkAll spare + 1
  | .agg parts => uptoBulkAll parts + 1
  | .iface _ d => uptoBulk d + 1
  | .map entries => uptoBulkEntries entries + 1
  | .held _ => 1
def uptoBulkAll {H : Type} : List (DataW H) → Nat
  | [] => 0
  | d :: r => uptoBulk d + uptoBulkAll r
def uptoBulkEntries {H : Type} : List (Lit × DataW H) → Nat
  | [] => 0
  | x :: r => uptoBulkEntry x + uptoBulkEntries r
def uptoBulkEntry {H : Type} : Lit × DataW H → Nat
  | (.string bytes, d) => bytes.length + uptoBulk d + 1
  | (_, d) => uptoBulk d + 1
 end
def uptoSmall : (H : Type) → List (DataW H) → Bool := fun _ ds => decide (uptoBulkAll ds ≤ 1048576)
def OpenSpec.upto (s : _root_.Go.ChangeSpec) : _root_.Go.OpenSpec := { _root_.Go.OpenSpec.ofChange s with cond := some uptoSmall }

/-- 'wordbooklaw30.MetricsWidths', WHERE WHAT IT READS IS OF BULK AT MOST 1048576: true; the input reads as it did. -/
def metricsWidthsUptoRow : OpenClaim := { program := "yteblfgeonobmjaadoor", sum := "1adde82a5ba1de1c3cc0fb9b231b495b23ed97bbc487112de8bde7b5b0fad1c6", func := "wordbook/wordbooklaw30.MetricsWidths", spec := "metricsWidths", inPlace := ["internal/bytealg.IndexByteString"], unfollowed := true, recurses := true, named := ["internal/strconv.uint64pow10", "math/bits.deBruijn32tab", "math/bits.deBruijn64tab"], plainKeys := false, apart := false, laid := [("math/bits.deBruijn32tab", laid_math_bits_deBruijn32tab), ("math/bits.deBruijn64tab", laid_math_bits_deBruijn64tab), ("internal/strconv.uint64pow10", laid_internal_strconv_uint64pow10)], narrowed := true }
def MetricsWidthsUptoSaid : Prop := metricsWidthsUptoRow.holds Tryd.pinned (OpenSpec.upto metricsWidthsSpec)

/-- 'wordbooklaw30.MetricsFits', WHERE WHAT IT READS IS OF BULK AT MOST 1048576: true; the input reads as it did. -/
def metricsFitsUptoRow : OpenClaim := { program := "yteblfgeonobmjaadoor", sum := "1adde82a5ba1de1c3cc0fb9b231b495b23ed97bbc487112de8bde7b5b0fad1c6", func := "wordbook/wordbooklaw30.MetricsFits", spec := "metricsFits", inPlace := ["internal/bytealg.IndexByteString"], unfollowed := true, recurses := true, named := ["internal/strconv.uint64pow10", "math/bits.deBruijn32tab", "math/bits.deBruijn64tab"], plainKeys := false, apart := false, laid := [("math/bits.deBruijn32tab", laid_math_bits_deBruijn32tab), ("math/bits.deBruijn64tab", laid_math_bits_deBruijn64tab), ("internal/strconv.uint64pow10", laid_internal_strconv_uint64pow10)], narrowed := true }
def MetricsFitsUptoSaid : Prop := metricsFitsUptoRow.holds Tryd.pinned (OpenSpec.upto metricsFitsSpec)

/-- 'wordbooklaw30.MetricsNumbers', WHERE WHAT IT READS IS OF BULK AT MOST 1048576: true; the input reads as it did. -/
def metricsNumbersUptoRow : OpenClaim := { program := "yteblfgeonobmjaadoor", sum := "1adde82a5ba1de1c3cc0fb9b231b495b23ed97bbc487112de8bde7b5b0fad1c6", func := "wordbook/wordbooklaw30.MetricsNumbers", spec := "metricsNumbers", inPlace := ["internal/bytealg.IndexByteString"], unfollowed := true, recurses := true, named := ["internal/strconv.uint64pow10", "math/bits.deBruijn32tab", "math/bits.deBruijn64tab"], plainKeys := false, apart := false, laid := [("math/bits.deBruijn32tab", laid_math_bits_deBruijn32tab), ("math/bits.deBruijn64tab", laid_math_bits_deBruijn64tab), ("internal/strconv.uint64pow10", laid_internal_strconv_uint64pow10)], narrowed := true }
def MetricsNumbersUptoSaid : Prop := metricsNumbersUptoRow.holds Tryd.pinned (OpenSpec.upto metricsNumbersSpec)

/-- 'wordbooklaw30.MetricsParts', WHERE WHAT IT READS IS OF BULK AT MOST 1048576: true; the input reads as it did. -/
def metricsPartsUptoRow : OpenClaim := { program := "yteblfgeonobmjaadoor", sum := "1adde82a5ba1de1c3cc0fb9b231b495b23ed97bbc487112de8bde7b5b0fad1c6", func := "wordbook/wordbooklaw30.MetricsParts", spec := "metricsParts", inPlace := ["internal/bytealg.IndexByteString"], unfollowed := true, recurses := true, named := ["internal/strconv.uint64pow10", "math/bits.deBruijn32tab", "math/bits.deBruijn64tab"], plainKeys := false, apart := false, laid := [("math/bits.deBruijn32tab", laid_math_bits_deBruijn32tab), ("math/bits.deBruijn64tab", laid_math_bits_deBruijn64tab), ("internal/strconv.uint64pow10", laid_internal_strconv_uint64pow10)], narrowed := true }
def MetricsPartsUptoSaid : Prop := metricsPartsUptoRow.holds Tryd.pinned (OpenSpec.upto metricsPartsSpec)

/-- 'wordbooklaw30.MetricsOrder', WHERE WHAT IT READS IS OF BULK AT MOST 1048576: true; the input reads as it did. -/
def metricsOrderUptoRow : OpenClaim := { program := "yteblfgeonobmjaadoor", sum := "1adde82a5ba1de1c3cc0fb9b231b495b23ed97bbc487112de8bde7b5b0fad1c6", func := "wordbook/wordbooklaw30.MetricsOrder", spec := "metricsOrder", inPlace := ["internal/bytealg.IndexByteString"], unfollowed := true, recurses := true, named := ["internal/strconv.uint64pow10", "math/bits.deBruijn32tab", "math/bits.deBruijn64tab"], plainKeys := false, apart := false, laid := [("math/bits.deBruijn32tab", laid_math_bits_deBruijn32tab), ("math/bits.deBruijn64tab", laid_math_bits_deBruijn64tab), ("internal/strconv.uint64pow10", laid_internal_strconv_uint64pow10)], narrowed := true }
def MetricsOrderUptoSaid : Prop := metricsOrderUptoRow.holds Tryd.pinned (OpenSpec.upto metricsOrderSpec)

/-- 'wordbooklaw30.MetricsLetters', WHERE WHAT IT READS IS OF BULK AT MOST 1048576: true; the input reads as it did. -/
def metricsLettersUptoRow : OpenClaim := { program := "yteblfgeonobmjaadoor", sum := "1adde82a5ba1de1c3cc0fb9b231b495b23ed97bbc487112de8bde7b5b0fad1c6", func := "wordbook/wordbooklaw30.MetricsLetters", spec := "metricsLetters", inPlace := ["internal/bytealg.IndexByteString", "internal/abi.NoEscape"], unfollowed := true, recurses := true, named := ["internal/strconv.uint64pow10", "math/bits.deBruijn32tab", "math/bits.deBruijn64tab"], plainKeys := false, apart := false, laid := [("math/bits.deBruijn32tab", laid_math_bits_deBruijn32tab), ("math/bits.deBruijn64tab", laid_math_bits_deBruijn64tab), ("internal/strconv.uint64pow10", laid_internal_strconv_uint64pow10)], narrowed := true }
def MetricsLettersUptoSaid : Prop := metricsLettersUptoRow.holds Tryd.pinned (OpenSpec.upto metricsLettersSpec)

/-- 'wordbooklaw30.MetricsDates', WHERE WHAT IT READS IS OF BULK AT MOST 1048576: true; the input reads as it did. -/
def metricsDatesUptoRow : OpenClaim := { program := "yteblfgeonobmjaadoor", sum := "1adde82a5ba1de1c3cc0fb9b231b495b23ed97bbc487112de8bde7b5b0fad1c6", func := "wordbook/wordbooklaw30.MetricsDates", spec := "metricsDates", inPlace := ["internal/bytealg.IndexByteString"], unfollowed := true, recurses := true, named := ["wordbook/calendar.lengths", "internal/strconv.uint64pow10", "math/bits.deBruijn32tab", "math/bits.deBruijn64tab"], plainKeys := false, apart := false, laid := [("math/bits.deBruijn32tab", laid_math_bits_deBruijn32tab), ("math/bits.deBruijn64tab", laid_math_bits_deBruijn64tab), ("internal/strconv.uint64pow10", laid_internal_strconv_uint64pow10), ("wordbook/calendar.lengths", laid_wordbook_calendar_lengths)], narrowed := true }
def MetricsDatesUptoSaid : Prop := metricsDatesUptoRow.holds Tryd.pinned (OpenSpec.upto metricsDatesSpec)

end Rows
end Go.Proofs.YteblfgeonobmjaaDoor
