/-
  NARROWER THAN 'FOR EVERY INPUT', by the rows' own cells (each row's printed sentence says how): CalendarCounts: laid · CalendarReads: laid · CalendarPrints: laid · CalendarDays: laid · CalendarTexts: laid · CalendarFirst: laid · CalendarSpans: laid · CalendarOrder: laid · CalendarFiles: laid.
  DERIVED. THE GIVEN ROWS OF THIS SEAT. 9 by the template 'for every input the law returns true; each argument reads behind the call as it read before'; 0 by the template 'total and deterministic' (their statements: YtileofnjcediaaaDoorTotals.lean).
  GIVEN WITH THE SEED: the statements are not yours to turn. If you find one false, say at which input.
  Laid BY PROGRAM, IN A SANDBOX (cutbox-rows.mjs): the forced cells as the released guide's own fill.sh prints them over the translation c9bb995bb484235a… (all of the seat's roots in one cut). By AI agents, Wed Nov 11 2026. No macro, syntax, notation, axiom, sorry.
-/
import Derived.Test.YtileofnjcediaaaDoorChecked
import GoSem.Claim
import GoSem.ClaimJoined
import GoSem.ClaimMapViews
import Derived.JoinedTies
import Derived.KernelRfl
namespace Go.Proofs.YtileofnjcediaaaDoor
/- THE CELL 'sum', in the pinned program and in every row, IS THE sha256 OF THE DUMP (.gsa) THAT YtileofnjcediaaaDoorProg.lean LOADS. Nothing in Lean hashes anything: it is a label: what it is worth is what the hold of that sum in a sandbox is worth. -/
noncomputable def Tryd.pinned : Pinned := { name := "ytileofnjcediaaadoor", sum := "c9bb995bb484235a5807ef0d6a4034de16cc103dfcedfdea4a70887320762900", checked := Tryd.checked }
namespace Rows
def none {H : Type} : Left H := { results := [], args := [] }

/- WHAT THE LISTED PACKAGE-LEVEL VARIABLES READ AS WHEN THE CALL BEGINS. Each datum BY PROGRAM (the guide's laid-datum.mjs) off the statement by which the dump's own 'gosem.cut.vars' lays the variable. In a bare row this is a premise. The card (YtileofnjcediaaaDoorCards.lean) ties it to the program's text. -/
def laid_wordbook_calendar_lengths {H : Type} : DataW H := .agg [.lit (.int .i64 31), .lit (.int .i64 28), .lit (.int .i64 31), .lit (.int .i64 30), .lit (.int .i64 31), .lit (.int .i64 30), .lit (.int .i64 31), .lit (.int .i64 31), .lit (.int .i64 30), .lit (.int .i64 31), .lit (.int .i64 30), .lit (.int .i64 31)]
def laid_wordbook_hash_constants {H : Type} : DataW H := .agg [.lit (.int .u32 1116352408), .lit (.int .u32 1899447441), .lit (.int .u32 3049323471), .lit (.int .u32 3921009573), .lit (.int .u32 961987163), .lit (.int .u32 1508970993), .lit (.int .u32 2453635748), .lit (.int .u32 2870763221), .lit (.int .u32 3624381080), .lit (.int .u32 310598401), .lit (.int .u32 607225278), .lit (.int .u32 1426881987), .lit (.int .u32 1925078388), .lit (.int .u32 2162078206), .lit (.int .u32 2614888103), .lit (.int .u32 3248222580), .lit (.int .u32 3835390401), .lit (.int .u32 4022224774), .lit (.int .u32 264347078), .lit (.int .u32 604807628), .lit (.int .u32 770255983), .lit (.int .u32 1249150122), .lit (.int .u32 1555081692), .lit (.int .u32 1996064986), .lit (.int .u32 2554220882), .lit (.int .u32 2821834349), .lit (.int .u32 2952996808), .lit (.int .u32 3210313671), .lit (.int .u32 3336571891), .lit (.int .u32 3584528711), .lit (.int .u32 113926993), .lit (.int .u32 338241895), .lit (.int .u32 666307205), .lit (.int .u32 773529912), .lit (.int .u32 1294757372), .lit (.int .u32 1396182291), .lit (.int .u32 1695183700), .lit (.int .u32 1986661051), .lit (.int .u32 2177026350), .lit (.int .u32 2456956037), .lit (.int .u32 2730485921), .lit (.int .u32 2820302411), .lit (.int .u32 3259730800), .lit (.int .u32 3345764771), .lit (.int .u32 3516065817), .lit (.int .u32 3600352804), .lit (.int .u32 4094571909), .lit (.int .u32 275423344), .lit (.int .u32 430227734), .lit (.int .u32 506948616), .lit (.int .u32 659060556), .lit (.int .u32 883997877), .lit (.int .u32 958139571), .lit (.int .u32 1322822218), .lit (.int .u32 1537002063), .lit (.int .u32 1747873779), .lit (.int .u32 1955562222), .lit (.int .u32 2024104815), .lit (.int .u32 2227730452), .lit (.int .u32 2361852424), .lit (.int .u32 2428436474), .lit (.int .u32 2756734187), .lit (.int .u32 3204031479), .lit (.int .u32 3329325298)]

/-- 'wordbooklaw04.CalendarCounts': WHATEVER THE INPUT: true; the input reads as it did. -/
def calendarCountsSpec : ChangeSpec := { name := "calendarCounts", fn := fun _ => fun
  | [d1, d2, d3, d4] => { results := [.lit (.bool true)], args := [d1, d2, d3, d4] }
  | _ => none }
def calendarCountsRow : OpenClaim := { program := "ytileofnjcediaaadoor", sum := "c9bb995bb484235a5807ef0d6a4034de16cc103dfcedfdea4a70887320762900", func := "wordbook/wordbooklaw04.CalendarCounts", spec := "calendarCounts", inPlace := ["internal/bytealg.IndexByteString", "internal/bytealg.IndexString"], unfollowed := true, recurses := true, named := ["wordbook/calendar.lengths", "internal/bytealg.MaxLen"], apart := false, laid := [("wordbook/calendar.lengths", laid_wordbook_calendar_lengths)] }
def CalendarCountsSaid : Prop := calendarCountsRow.holds Tryd.pinned (OpenSpec.ofChange calendarCountsSpec)

/-- ITS FALSE NEIGHBOUR: 'it returns false'. Refute it at one input. -/
def calendarCountsWrong : ChangeSpec := { name := "calendarCounts", fn := fun _ => fun
  | [d1, d2, d3, d4] => { results := [.lit (.bool false)], args := [d1, d2, d3, d4] }
  | _ => none }
def CalendarCountsWrongFalsely : Prop := calendarCountsRow.holds Tryd.pinned (OpenSpec.ofChange calendarCountsWrong)

/-- 'wordbooklaw04.CalendarReads': WHATEVER THE INPUT: true; the input reads as it did. -/
def calendarReadsSpec : ChangeSpec := { name := "calendarReads", fn := fun _ => fun
  | [d] => { results := [.lit (.bool true)], args := [d] }
  | _ => none }
def calendarReadsRow : OpenClaim := { program := "ytileofnjcediaaadoor", sum := "c9bb995bb484235a5807ef0d6a4034de16cc103dfcedfdea4a70887320762900", func := "wordbook/wordbooklaw04.CalendarReads", spec := "calendarReads", inPlace := ["internal/bytealg.IndexByteString", "internal/bytealg.IndexString"], unfollowed := true, recurses := true, named := ["internal/bytealg.MaxLen", "wordbook/calendar.lengths"], apart := false, laid := [("wordbook/calendar.lengths", laid_wordbook_calendar_lengths)] }
def CalendarReadsSaid : Prop := calendarReadsRow.holds Tryd.pinned (OpenSpec.ofChange calendarReadsSpec)

/-- ITS FALSE NEIGHBOUR: 'it returns false'. Refute it at one input. -/
def calendarReadsWrong : ChangeSpec := { name := "calendarReads", fn := fun _ => fun
  | [d] => { results := [.lit (.bool false)], args := [d] }
  | _ => none }
def CalendarReadsWrongFalsely : Prop := calendarReadsRow.holds Tryd.pinned (OpenSpec.ofChange calendarReadsWrong)

/-- 'wordbooklaw04.CalendarPrints': WHATEVER THE INPUT: true; the input reads as it did. -/
def calendarPrintsSpec : ChangeSpec := { name := "calendarPrints", fn := fun _ => fun
  | [d1, d2, d3] => { results := [.lit (.bool true)], args := [d1, d2, d3] }
  | _ => none }
def calendarPrintsRow : OpenClaim := { program := "ytileofnjcediaaadoor", sum := "c9bb995bb484235a5807ef0d6a4034de16cc103dfcedfdea4a70887320762900", func := "wordbook/wordbooklaw04.CalendarPrints", spec := "calendarPrints", inPlace := ["internal/bytealg.IndexByteString", "internal/bytealg.IndexString"], unfollowed := true, recurses := true, named := ["wordbook/calendar.lengths", "internal/bytealg.MaxLen"], apart := false, laid := [("wordbook/calendar.lengths", laid_wordbook_calendar_lengths)] }
def CalendarPrintsSaid : Prop := calendarPrintsRow.holds Tryd.pinned (OpenSpec.ofChange calendarPrintsSpec)

/-- ITS FALSE NEIGHBOUR: 'it returns false'. Refute it at one input. -/
def calendarPrintsWrong : ChangeSpec := { name := "calendarPrints", fn := fun _ => fun
  | [d1, d2, d3] => { results := [.lit (.bool false)], args := [d1, d2, d3] }
  | _ => none }
def CalendarPrintsWrongFalsely : Prop := calendarPrintsRow.holds Tryd.pinned (OpenSpec.ofChange calendarPrintsWrong)

/-- 'wordbooklaw04.CalendarDays': WHATEVER THE INPUT: true; the input reads as it did. -/
def calendarDaysSpec : ChangeSpec := { name := "calendarDays", fn := fun _ => fun
  | [d] => { results := [.lit (.bool true)], args := [d] }
  | _ => none }
def calendarDaysRow : OpenClaim := { program := "ytileofnjcediaaadoor", sum := "c9bb995bb484235a5807ef0d6a4034de16cc103dfcedfdea4a70887320762900", func := "wordbook/wordbooklaw04.CalendarDays", spec := "calendarDays", inPlace := ["internal/bytealg.IndexByteString", "internal/bytealg.IndexString"], unfollowed := true, recurses := true, named := ["wordbook/calendar.lengths", "internal/bytealg.MaxLen"], apart := false, laid := [("wordbook/calendar.lengths", laid_wordbook_calendar_lengths)] }
def CalendarDaysSaid : Prop := calendarDaysRow.holds Tryd.pinned (OpenSpec.ofChange calendarDaysSpec)

/-- ITS FALSE NEIGHBOUR: 'it returns false'. Refute it at one input. -/
def calendarDaysWrong : ChangeSpec := { name := "calendarDays", fn := fun _ => fun
  | [d] => { results := [.lit (.bool false)], args := [d] }
  | _ => none }
def CalendarDaysWrongFalsely : Prop := calendarDaysRow.holds Tryd.pinned (OpenSpec.ofChange calendarDaysWrong)

/-- 'wordbooklaw04.CalendarTexts': WHATEVER THE INPUT: true; the input reads as it did. -/
def calendarTextsSpec : ChangeSpec := { name := "calendarTexts", fn := fun _ => fun
  | [d1, d2, d3] => { results := [.lit (.bool true)], args := [d1, d2, d3] }
  | _ => none }
def calendarTextsRow : OpenClaim := { program := "ytileofnjcediaaadoor", sum := "c9bb995bb484235a5807ef0d6a4034de16cc103dfcedfdea4a70887320762900", func := "wordbook/wordbooklaw04.CalendarTexts", spec := "calendarTexts", inPlace := ["internal/bytealg.IndexByteString", "internal/bytealg.IndexString"], unfollowed := true, recurses := true, named := ["wordbook/calendar.lengths", "internal/bytealg.MaxLen"], apart := false, laid := [("wordbook/calendar.lengths", laid_wordbook_calendar_lengths)] }
def CalendarTextsSaid : Prop := calendarTextsRow.holds Tryd.pinned (OpenSpec.ofChange calendarTextsSpec)

/-- ITS FALSE NEIGHBOUR: 'it returns false'. Refute it at one input. -/
def calendarTextsWrong : ChangeSpec := { name := "calendarTexts", fn := fun _ => fun
  | [d1, d2, d3] => { results := [.lit (.bool false)], args := [d1, d2, d3] }
  | _ => none }
def CalendarTextsWrongFalsely : Prop := calendarTextsRow.holds Tryd.pinned (OpenSpec.ofChange calendarTextsWrong)

/-- 'wordbooklaw04.CalendarFirst': WHATEVER THE INPUT: true; the input reads as it did. -/
def calendarFirstSpec : ChangeSpec := { name := "calendarFirst", fn := fun _ => fun
  | [d1, d2, d3] => { results := [.lit (.bool true)], args := [d1, d2, d3] }
  | _ => none }
def calendarFirstRow : OpenClaim := { program := "ytileofnjcediaaadoor", sum := "c9bb995bb484235a5807ef0d6a4034de16cc103dfcedfdea4a70887320762900", func := "wordbook/wordbooklaw04.CalendarFirst", spec := "calendarFirst", inPlace := ["internal/bytealg.IndexByteString", "internal/bytealg.IndexString"], unfollowed := true, recurses := true, named := ["wordbook/calendar.lengths", "internal/bytealg.MaxLen"], apart := false, laid := [("wordbook/calendar.lengths", laid_wordbook_calendar_lengths)] }
def CalendarFirstSaid : Prop := calendarFirstRow.holds Tryd.pinned (OpenSpec.ofChange calendarFirstSpec)

/-- ITS FALSE NEIGHBOUR: 'it returns false'. Refute it at one input. -/
def calendarFirstWrong : ChangeSpec := { name := "calendarFirst", fn := fun _ => fun
  | [d1, d2, d3] => { results := [.lit (.bool false)], args := [d1, d2, d3] }
  | _ => none }
def CalendarFirstWrongFalsely : Prop := calendarFirstRow.holds Tryd.pinned (OpenSpec.ofChange calendarFirstWrong)

/-- 'wordbooklaw04.CalendarSpans': WHATEVER THE INPUT: true; the input reads as it did. -/
def calendarSpansSpec : ChangeSpec := { name := "calendarSpans", fn := fun _ => fun
  | [d1, d2, d3] => { results := [.lit (.bool true)], args := [d1, d2, d3] }
  | _ => none }
def calendarSpansRow : OpenClaim := { program := "ytileofnjcediaaadoor", sum := "c9bb995bb484235a5807ef0d6a4034de16cc103dfcedfdea4a70887320762900", func := "wordbook/wordbooklaw04.CalendarSpans", spec := "calendarSpans", inPlace := ["internal/bytealg.IndexByteString", "internal/bytealg.IndexString"], unfollowed := true, recurses := true, named := ["wordbook/calendar.lengths", "internal/bytealg.MaxLen"], apart := false, laid := [("wordbook/calendar.lengths", laid_wordbook_calendar_lengths)] }
def CalendarSpansSaid : Prop := calendarSpansRow.holds Tryd.pinned (OpenSpec.ofChange calendarSpansSpec)

/-- ITS FALSE NEIGHBOUR: 'it returns false'. Refute it at one input. -/
def calendarSpansWrong : ChangeSpec := { name := "calendarSpans", fn := fun _ => fun
  | [d1, d2, d3] => { results := [.lit (.bool false)], args := [d1, d2, d3] }
  | _ => none }
def CalendarSpansWrongFalsely : Prop := calendarSpansRow.holds Tryd.pinned (OpenSpec.ofChange calendarSpansWrong)

/-- 'wordbooklaw04.CalendarOrder': WHATEVER THE INPUT: true; the input reads as it did. -/
def calendarOrderSpec : ChangeSpec := { name := "calendarOrder", fn := fun _ => fun
  | [d1, d2] => { results := [.lit (.bool true)], args := [d1, d2] }
  | _ => none }
def calendarOrderRow : OpenClaim := { program := "ytileofnjcediaaadoor", sum := "c9bb995bb484235a5807ef0d6a4034de16cc103dfcedfdea4a70887320762900", func := "wordbook/wordbooklaw04.CalendarOrder", spec := "calendarOrder", inPlace := ["internal/bytealg.IndexByteString", "internal/bytealg.IndexString"], unfollowed := true, recurses := true, named := ["wordbook/calendar.lengths", "internal/bytealg.MaxLen"], apart := false, laid := [("wordbook/calendar.lengths", laid_wordbook_calendar_lengths)] }
def CalendarOrderSaid : Prop := calendarOrderRow.holds Tryd.pinned (OpenSpec.ofChange calendarOrderSpec)

/-- ITS FALSE NEIGHBOUR: 'it returns false'. Refute it at one input. -/
def calendarOrderWrong : ChangeSpec := { name := "calendarOrder", fn := fun _ => fun
  | [d1, d2] => { results := [.lit (.bool false)], args := [d1, d2] }
  | _ => none }
def CalendarOrderWrongFalsely : Prop := calendarOrderRow.holds Tryd.pinned (OpenSpec.ofChange calendarOrderWrong)

/-- 'wordbooklaw04.CalendarFiles': WHATEVER THE INPUT: true; the input reads as it did. -/
def calendarFilesSpec : ChangeSpec := { name := "calendarFiles", fn := fun _ => fun
  | [d] => { results := [.lit (.bool true)], args := [d] }
  | _ => none }
def calendarFilesRow : OpenClaim := { program := "ytileofnjcediaaadoor", sum := "c9bb995bb484235a5807ef0d6a4034de16cc103dfcedfdea4a70887320762900", func := "wordbook/wordbooklaw04.CalendarFiles", spec := "calendarFiles", inPlace := ["internal/bytealg.IndexByteString", "internal/bytealg.IndexString"], unfollowed := true, recurses := true, named := ["wordbook/calendar.lengths", "internal/bytealg.MaxLen", "wordbook/hash.constants"], apart := false, laid := [("wordbook/hash.constants", laid_wordbook_hash_constants), ("wordbook/calendar.lengths", laid_wordbook_calendar_lengths)] }
def CalendarFilesSaid : Prop := calendarFilesRow.holds Tryd.pinned (OpenSpec.ofChange calendarFilesSpec)

/-- ITS FALSE NEIGHBOUR: 'it returns false'. Refute it at one input. -/
def calendarFilesWrong : ChangeSpec := { name := "calendarFiles", fn := fun _ => fun
  | [d] => { results := [.lit (.bool false)], args := [d] }
  | _ => none }
def CalendarFilesWrongFalsely : Prop := calendarFilesRow.holds Tryd.pinned (OpenSpec.ofChange calendarFilesWrong)

/- THE SECOND FORM. 'bulk': how many values and letters a reading holds, each counted each time it is reached (what is shared counts as often as it is met; a slice's spare places count too). A statement '..UptoSaid' is the law's where the arguments, and the package variables that the reading takes, are together of bulk at most 1048576: NARROWER than '..Said'. Prove '..Said' where nothing that the law and all that it calls make is longer than what came in: it says more and counts as full. Else prove '..UptoSaid'. A law counts once. -/
mutual
def uptoBulk {H : Type} : DataW H → Nat
  | .lit (.string bytes) => bytes.length + 1
  | .lit _ => 1
  | .nil => 1
  | .ptr d => uptoBulk d + 1
  | .slice elems spare => uptoBulkAll elems + uptoBulkAll spare + 1
  | .agg parts => uptoBulkAll parts + 1
  | .iface _ d => uptoBulk d + 1
  | .map entries => uptoBulkEntries entries + 1
  | .held _ => 1
def uptoBulkAll {H : Type} : List (DataW H) → Nat
  | [] => 0
  | d :: r => uptoBulk d + uptoBulkAll r
def uptoBulkEntries {H : Type} : List (Lit × DataW H) → Nat
  | [] => 0
  | x :: r => uptoBulkEntry x + uptoBulkEntries r
def uptoBulkEntry {H : Type} : Lit × DataW H → Nat
  | (.string bytes, d) => bytes.length + uptoBulk d + 1
  | (_, d) => uptoBulk d + 1
 end
def uptoSmall : (H : Type) → List (DataW H) → Bool := fun _ ds => decide (uptoBulkAll ds ≤ 1048576)
def OpenSpec.upto (s : _root_.Go.ChangeSpec) : _root_.Go.OpenSpec := { _root_.Go.OpenSpec.ofChange s with cond := some uptoSmall }

/-- 'wordbooklaw04.CalendarCounts', WHERE WHAT IT READS IS OF BULK AT MOST 1048576: true; the input reads as it did. -/
def calendarCountsUptoRow : OpenClaim := { program := "ytileofnjcediaaadoor", sum := "c9bb995bb484235a5807ef0d6a4034de16cc103dfcedfdea4a70887320762900", func := "wordbook/wordbooklaw04.CalendarCounts", spec := "calendarCounts", inPlace := ["internal/bytealg.IndexByteString", "internal/bytealg.IndexString"], unfollowed := true, recurses := true, named := ["wordbook/calendar.lengths", "internal/bytealg.MaxLen"], apart := false, laid := [("wordbook/calendar.lengths", laid_wordbook_calendar_lengths)], narrowed := true }
def CalendarCountsUptoSaid : Prop := calendarCountsUptoRow.holds Tryd.pinned (OpenSpec.upto calendarCountsSpec)

/-- 'wordbooklaw04.CalendarReads', WHERE WHAT IT READS IS OF BULK AT MOST 1048576: true; the input reads as it did. -/
def calendarReadsUptoRow : OpenClaim := { program := "ytileofnjcediaaadoor", sum := "c9bb995bb484235a5807ef0d6a4034de16cc103dfcedfdea4a70887320762900", func := "wordbook/wordbooklaw04.CalendarReads", spec := "calendarReads", inPlace := ["internal/bytealg.IndexByteString", "internal/bytealg.IndexString"], unfollowed := true, recurses := true, named := ["internal/bytealg.MaxLen", "wordbook/calendar.lengths"], apart := false, laid := [("wordbook/calendar.lengths", laid_wordbook_calendar_lengths)], narrowed := true }
def CalendarReadsUptoSaid : Prop := calendarReadsUptoRow.holds Tryd.pinned (OpenSpec.upto calendarReadsSpec)

/-- 'wordbooklaw04.CalendarPrints', WHERE WHAT IT READS IS OF BULK AT MOST 1048576: true; the input reads as it did. -/
def calendarPrintsUptoRow : OpenClaim := { program := "ytileofnjcediaaadoor", sum := "c9bb995bb484235a5807ef0d6a4034de16cc103dfcedfdea4a70887320762900", func := "wordbook/wordbooklaw04.CalendarPrints", spec := "calendarPrints", inPlace := ["internal/bytealg.IndexByteString", "internal/bytealg.IndexString"], unfollowed := true, recurses := true, named := ["wordbook/calendar.lengths", "internal/bytealg.MaxLen"], apart := false, laid := [("wordbook/calendar.lengths", laid_wordbook_calendar_lengths)], narrowed := true }
def CalendarPrintsUptoSaid : Prop := calendarPrintsUptoRow.holds Tryd.pinned (OpenSpec.upto calendarPrintsSpec)

/-- 'wordbooklaw04.CalendarDays', WHERE WHAT IT READS IS OF BULK AT MOST 1048576: true; the input reads as it did. -/
def calendarDaysUptoRow : OpenClaim := { program := "ytileofnjcediaaadoor", sum := "c9bb995bb484235a5807ef0d6a4034de16cc103dfcedfdea4a70887320762900", func := "wordbook/wordbooklaw04.CalendarDays", spec := "calendarDays", inPlace := ["internal/bytealg.IndexByteString", "internal/bytealg.IndexString"], unfollowed := true, recurses := true, named := ["wordbook/calendar.lengths", "internal/bytealg.MaxLen"], apart := false, laid := [("wordbook/calendar.lengths", laid_wordbook_calendar_lengths)], narrowed := true }
def CalendarDaysUptoSaid : Prop := calendarDaysUptoRow.holds Tryd.pinned (OpenSpec.upto calendarDaysSpec)

/-- 'wordbooklaw04.CalendarTexts', WHERE WHAT IT READS IS OF BULK AT MOST 1048576: true; the input reads as it did. -/
def calendarTextsUptoRow : OpenClaim := { program := "ytileofnjcediaaadoor", sum := "c9bb995bb484235a5807ef0d6a4034de16cc103dfcedfdea4a70887320762900", func := "wordbook/wordbooklaw04.CalendarTexts", spec := "calendarTexts", inPlace := ["internal/bytealg.IndexByteString", "internal/bytealg.IndexString"], unfollowed := true, recurses := true, named := ["wordbook/calendar.lengths", "internal/bytealg.MaxLen"], apart := false, laid := [("wordbook/calendar.lengths", laid_wordbook_calendar_lengths)], narrowed := true }
def CalendarTextsUptoSaid : Prop := calendarTextsUptoRow.holds Tryd.pinned (OpenSpec.upto calendarTextsSpec)

/-- 'wordbooklaw04.CalendarFirst', WHERE WHAT IT READS IS OF BULK AT MOST 1048576: true; the input reads as it did. -/
def calendarFirstUptoRow : OpenClaim := { program := "ytileofnjcediaaadoor", sum := "c9bb995bb484235a5807ef0d6a4034de16cc103dfcedfdea4a70887320762900", func := "wordbook/wordbooklaw04.CalendarFirst", spec := "calendarFirst", inPlace := ["internal/bytealg.IndexByteString", "internal/bytealg.IndexString"], unfollowed := true, recurses := true, named := ["wordbook/calendar.lengths", "internal/bytealg.MaxLen"], apart := false, laid := [("wordbook/calendar.lengths", laid_wordbook_calendar_lengths)], narrowed := true }
def CalendarFirstUptoSaid : Prop := calendarFirstUptoRow.holds Tryd.pinned (OpenSpec.upto calendarFirstSpec)

/-- 'wordbooklaw04.CalendarSpans', WHERE WHAT IT READS IS OF BULK AT MOST 1048576: true; the input reads as it did. -/
def calendarSpansUptoRow : OpenClaim := { program := "ytileofnjcediaaadoor", sum := "c9bb995bb484235a5807ef0d6a4034de16cc103dfcedfdea4a70887320762900", func := "wordbook/wordbooklaw04.CalendarSpans", spec := "calendarSpans", inPlace := ["internal/bytealg.IndexByteString", "internal/bytealg.IndexString"], unfollowed := true, recurses := true, named := ["wordbook/calendar.lengths", "internal/bytealg.MaxLen"], apart := false, laid := [("wordbook/calendar.lengths", laid_wordbook_calendar_lengths)], narrowed := true }
def CalendarSpansUptoSaid : Prop := calendarSpansUptoRow.holds Tryd.pinned (OpenSpec.upto calendarSpansSpec)

/-- 'wordbooklaw04.CalendarOrder', WHERE WHAT IT READS IS OF BULK AT MOST 1048576: true; the input reads as it did. -/
def calendarOrderUptoRow : OpenClaim := { program := "ytileofnjcediaaadoor", sum := "c9bb995bb484235a5807ef0d6a4034de16cc103dfcedfdea4a70887320762900", func := "wordbook/wordbooklaw04.CalendarOrder", spec := "calendarOrder", inPlace := ["internal/bytealg.IndexByteString", "internal/bytealg.IndexString"], unfollowed := true, recurses := true, named := ["wordbook/calendar.lengths", "internal/bytealg.MaxLen"], apart := false, laid := [("wordbook/calendar.lengths", laid_wordbook_calendar_lengths)], narrowed := true }
def CalendarOrderUptoSaid : Prop := calendarOrderUptoRow.holds Tryd.pinned (OpenSpec.upto calendarOrderSpec)

/-- 'wordbooklaw04.CalendarFiles', WHERE WHAT IT READS IS OF BULK AT MOST 1048576: true; the input reads as it did. -/
def calendarFilesUptoRow : OpenClaim := { program := "ytileofnjcediaaadoor", sum := "c9bb995bb484235a5807ef0d6a4034de16cc103dfcedfdea4a70887320762900", func := "wordbook/wordbooklaw04.CalendarFiles", spec := "calendarFiles", inPlace := ["internal/bytealg.IndexByteString", "internal/bytealg.IndexString"], unfollowed := true, recurses := true, named := ["wordbook/calendar.lengths", "internal/bytealg.MaxLen", "wordbook/hash.constants"], apart := false, laid := [("wordbook/hash.constants", laid_wordbook_hash_constants), ("wordbook/calendar.lengths", laid_wordbook_calendar_lengths)], narrowed := true }
def CalendarFilesUptoSaid : Prop := calendarFilesUptoRow.holds Tryd.pinned (OpenSpec.upto calendarFilesSpec)

end Rows
end Go.Proofs.YtileofnjcediaaaDoor
