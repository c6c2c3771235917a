/-
  No cell of these rows narrows 'for every input' (looked for: loops, veiled, ifaces, maps, wideKeys, modest, calm, conditions, laid).
  DERIVED. THE GIVEN ROWS OF THIS SEAT. 5 by the template 'for every input the law returns true; each argument reads behind the call as it read before'; 0 by the template 'total and deterministic' (their statements: YtfkhclhofdpacaaTotals.lean).
  GIVEN WITH THE SEED: the statements are not yours to turn. If you find one false, say at which input.
  Laid BY PROGRAM, IN A SANDBOX (cutbox-rows.mjs): the forced cells as the released guide's own fill.sh prints them over the translation 7fb0bb0742cd142a… (all of the seat's roots in one cut). By AI agents, Wed Nov 11 2026. No macro, syntax, notation, axiom, sorry.
-/
import Derived.Test.YtfkhclhofdpacaaChecked
import GoSem.Claim
import GoSem.ClaimJoined
import GoSem.ClaimMapViews
import Derived.JoinedTies
import Derived.KernelRfl
namespace Go.Proofs.Ytfkhclhofdpacaa
/- THE CELL 'sum', in the pinned program and in every row, IS THE sha256 OF THE DUMP (.gsa) THAT YtfkhclhofdpacaaProg.lean LOADS. Nothing in Lean hashes anything: it is a label: what it is worth is what the hold of that sum in a sandbox is worth. -/
noncomputable def Try.pinned : Pinned := { name := "ytfkhclhofdpacaa", sum := "7fb0bb0742cd142afe22515c3e08f18639003a4342669a147b1341f8ff20ef98", checked := Try.checked }
namespace Rows
def none {H : Type} : Left H := { results := [], args := [] }

/-- 'wordbooklaw37.DeltaDiffs': WHATEVER THE INPUT: true; the input reads as it did. -/
def deltaDiffsSpec : ChangeSpec := { name := "deltaDiffs", fn := fun _ => fun
  | [d1, d2, d3, d4] => { results := [.lit (.bool true)], args := [d1, d2, d3, d4] }
  | _ => none }
def deltaDiffsRow : OpenClaim := { program := "ytfkhclhofdpacaa", sum := "7fb0bb0742cd142afe22515c3e08f18639003a4342669a147b1341f8ff20ef98", func := "wordbook/wordbooklaw37.DeltaDiffs", spec := "deltaDiffs", apart := false }
def DeltaDiffsSaid : Prop := deltaDiffsRow.holds Try.pinned (OpenSpec.ofChange deltaDiffsSpec)

/-- ITS FALSE NEIGHBOUR: 'it returns false'. Refute it at one input. -/
def deltaDiffsWrong : ChangeSpec := { name := "deltaDiffs", fn := fun _ => fun
  | [d1, d2, d3, d4] => { results := [.lit (.bool false)], args := [d1, d2, d3, d4] }
  | _ => none }
def DeltaDiffsWrongFalsely : Prop := deltaDiffsRow.holds Try.pinned (OpenSpec.ofChange deltaDiffsWrong)

/-- 'wordbooklaw37.DeltaLeast': WHATEVER THE INPUT: true; the input reads as it did. -/
def deltaLeastSpec : ChangeSpec := { name := "deltaLeast", fn := fun _ => fun
  | [d1, d2, d3] => { results := [.lit (.bool true)], args := [d1, d2, d3] }
  | _ => none }
def deltaLeastRow : OpenClaim := { program := "ytfkhclhofdpacaa", sum := "7fb0bb0742cd142afe22515c3e08f18639003a4342669a147b1341f8ff20ef98", func := "wordbook/wordbooklaw37.DeltaLeast", spec := "deltaLeast", apart := false }
def DeltaLeastSaid : Prop := deltaLeastRow.holds Try.pinned (OpenSpec.ofChange deltaLeastSpec)

/-- ITS FALSE NEIGHBOUR: 'it returns false'. Refute it at one input. -/
def deltaLeastWrong : ChangeSpec := { name := "deltaLeast", fn := fun _ => fun
  | [d1, d2, d3] => { results := [.lit (.bool false)], args := [d1, d2, d3] }
  | _ => none }
def DeltaLeastWrongFalsely : Prop := deltaLeastRow.holds Try.pinned (OpenSpec.ofChange deltaLeastWrong)

/-- 'wordbooklaw37.DeltaMetric': WHATEVER THE INPUT: true; the input reads as it did. -/
def deltaMetricSpec : ChangeSpec := { name := "deltaMetric", fn := fun _ => fun
  | [d1, d2, d3] => { results := [.lit (.bool true)], args := [d1, d2, d3] }
  | _ => none }
def deltaMetricRow : OpenClaim := { program := "ytfkhclhofdpacaa", sum := "7fb0bb0742cd142afe22515c3e08f18639003a4342669a147b1341f8ff20ef98", func := "wordbook/wordbooklaw37.DeltaMetric", spec := "deltaMetric", apart := false }
def DeltaMetricSaid : Prop := deltaMetricRow.holds Try.pinned (OpenSpec.ofChange deltaMetricSpec)

/-- ITS FALSE NEIGHBOUR: 'it returns false'. Refute it at one input. -/
def deltaMetricWrong : ChangeSpec := { name := "deltaMetric", fn := fun _ => fun
  | [d1, d2, d3] => { results := [.lit (.bool false)], args := [d1, d2, d3] }
  | _ => none }
def DeltaMetricWrongFalsely : Prop := deltaMetricRow.holds Try.pinned (OpenSpec.ofChange deltaMetricWrong)

/-- 'wordbooklaw37.DeltaApplies': WHATEVER THE INPUT: true; the input reads as it did. -/
def deltaAppliesSpec : ChangeSpec := { name := "deltaApplies", fn := fun _ => fun
  | [d1, d2, d3] => { results := [.lit (.bool true)], args := [d1, d2, d3] }
  | _ => none }
def deltaAppliesRow : OpenClaim := { program := "ytfkhclhofdpacaa", sum := "7fb0bb0742cd142afe22515c3e08f18639003a4342669a147b1341f8ff20ef98", func := "wordbook/wordbooklaw37.DeltaApplies", spec := "deltaApplies", apart := false }
def DeltaAppliesSaid : Prop := deltaAppliesRow.holds Try.pinned (OpenSpec.ofChange deltaAppliesSpec)

/-- ITS FALSE NEIGHBOUR: 'it returns false'. Refute it at one input. -/
def deltaAppliesWrong : ChangeSpec := { name := "deltaApplies", fn := fun _ => fun
  | [d1, d2, d3] => { results := [.lit (.bool false)], args := [d1, d2, d3] }
  | _ => none }
def DeltaAppliesWrongFalsely : Prop := deltaAppliesRow.holds Try.pinned (OpenSpec.ofChange deltaAppliesWrong)

/-- 'wordbooklaw37.DeltaCombines': WHATEVER THE INPUT: true; the input reads as it did. -/
def deltaCombinesSpec : ChangeSpec := { name := "deltaCombines", fn := fun _ => fun
  | [d1, d2, d3] => { results := [.lit (.bool true)], args := [d1, d2, d3] }
  | _ => none }
def deltaCombinesRow : OpenClaim := { program := "ytfkhclhofdpacaa", sum := "7fb0bb0742cd142afe22515c3e08f18639003a4342669a147b1341f8ff20ef98", func := "wordbook/wordbooklaw37.DeltaCombines", spec := "deltaCombines", apart := false }
def DeltaCombinesSaid : Prop := deltaCombinesRow.holds Try.pinned (OpenSpec.ofChange deltaCombinesSpec)

/-- ITS FALSE NEIGHBOUR: 'it returns false'. Refute it at one input. -/
def deltaCombinesWrong : ChangeSpec := { name := "deltaCombines", fn := fun _ => fun
  | [d1, d2, d3] => { results := [.lit (.bool false)], args := [d1, d2, d3] }
  | _ => none }
def DeltaCombinesWrongFalsely : Prop := deltaCombinesRow.holds Try.pinned (OpenSpec.ofChange deltaCombinesWrong)

/- THE SECOND FORM. 'bulk': how many values and letters a reading holds, each counted each time it is reached (what is shared counts as often as it is met; a slice's spare places count too). A statement '..UptoSaid' is the law's where the arguments, and the package variables that the reading takes, are together of bulk at most 1048576: NARROWER than '..Said'. Prove '..Said' where nothing that the law and all that it calls make is longer than what came in: it says more and counts as full. Else prove '..UptoSaid'. A law counts once. -/
mutual
def uptoBulk {H : Type} : DataW H → Nat
  | .lit (.string bytes) => bytes.length + 1
  | .lit _ => 1
  | .nil => 1
  | .ptr d => uptoBulk d + 1
  | .slice elems spare => uptoBulkAll elems + uptoBulkAll spare + 1
  | .agg parts => uptoBulkAll parts + 1
  | .iface _ d => uptoBulk d + 1
  | .map entries => uptoBulkEntries entries + 1
  | .held _ => 1
def uptoBulkAll {H : Type} : List (DataW H) → Nat
  | [] => 0
  | d :: r => uptoBulk d + uptoBulkAll r
def uptoBulkEntries {H : Type} : List (Lit × DataW H) → Nat
  | [] => 0
  | x :: r => uptoBulkEntry x + uptoBulkEntries r
def uptoBulkEntry {H : Type} : Lit × DataW H → Nat
  | (.string bytes, d) => bytes.length + uptoBulk d + 1
  | (_, d) => uptoBulk d + 1
 end
def uptoSmall : (H : Type) → List (DataW H) → Bool := fun _ ds => decide (uptoBulkAll ds ≤ 1048576)
def OpenSpec.upto (s : _root_.Go.ChangeSpec) : _root_.Go.OpenSpec := { _root_.Go.OpenSpec.ofChange s with cond := some uptoSmall }

/-- 'wordbooklaw37.DeltaDiffs', WHERE WHAT IT READS IS OF BULK AT MOST 1048576: true; the input reads as it did. -/
def deltaDiffsUptoRow : OpenClaim := { program := "ytfkhclhofdpacaa", sum := "7fb0bb0742cd142afe22515c3e08f18639003a4342669a147b1341f8ff20ef98", func := "wordbook/wordbooklaw37.DeltaDiffs", spec := "deltaDiffs", apart := false, narrowed := true }
def DeltaDiffsUptoSaid : Prop := deltaDiffsUptoRow.holds Try.pinned (OpenSpec.upto deltaDiffsSpec)

/-- 'wordbooklaw37.DeltaLeast', WHERE WHAT IT READS IS OF BULK AT MOST 1048576: true; the input reads as it did. -/
def deltaLeastUptoRow : OpenClaim := { program := "ytfkhclhofdpacaa", sum := "7fb0bb0742cd142afe22515c3e08f18639003a4342669a147b1341f8ff20ef98", func := "wordbook/wordbooklaw37.DeltaLeast", spec := "deltaLeast", apart := false, narrowed := true }
def DeltaLeastUptoSaid : Prop := deltaLeastUptoRow.holds Try.pinned (OpenSpec.upto deltaLeastSpec)

/-- 'wordbooklaw37.DeltaMetric', WHERE WHAT IT READS IS OF BULK AT MOST 1048576: true; the input reads as it did. -/
def deltaMetricUptoRow : OpenClaim := { program := "ytfkhclhofdpacaa", sum := "7fb0bb0742cd142afe22515c3e08f18639003a4342669a147b1341f8ff20ef98", func := "wordbook/wordbooklaw37.DeltaMetric", spec := "deltaMetric", apart := false, narrowed := true }
def DeltaMetricUptoSaid : Prop := deltaMetricUptoRow.holds Try.pinned (OpenSpec.upto deltaMetricSpec)

/-- 'wordbooklaw37.DeltaApplies', WHERE WHAT IT READS IS OF BULK AT MOST 1048576: true; the input reads as it did. -/
def deltaAppliesUptoRow : OpenClaim := { program := "ytfkhclhofdpacaa", sum := "7fb0bb0742cd142afe22515c3e08f18639003a4342669a147b1341f8ff20ef98", func := "wordbook/wordbooklaw37.DeltaApplies", spec := "deltaApplies", apart := false, narrowed := true }
def DeltaAppliesUptoSaid : Prop := deltaAppliesUptoRow.holds Try.pinned (OpenSpec.upto deltaAppliesSpec)

/-- 'wordbooklaw37.DeltaCombines', WHERE WHAT IT READS IS OF BULK AT MOST 1048576: true; the input reads as it did. -/
def deltaCombinesUptoRow : OpenClaim := { program := "ytfkhclhofdpacaa", sum := "7fb0bb0742cd142afe22515c3e08f18639003a4342669a147b1341f8ff20ef98", func := "wordbook/wordbooklaw37.DeltaCombines", spec := "deltaCombines", apart := false, narrowed := true }
def DeltaCombinesUptoSaid : Prop := deltaCombinesUptoRow.holds Try.pinned (OpenSpec.upto deltaCombinesSpec)

end Rows
end Go.Proofs.Ytfkhclhofdpacaa
