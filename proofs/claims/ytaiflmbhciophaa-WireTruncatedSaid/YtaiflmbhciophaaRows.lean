/-
  No cell of these rows narrows 'for every input' (looked for: loops, veiled, ifaces, maps, wideKeys, modest, calm, conditions, laid).
  DERIVED. THE GIVEN ROWS OF THIS SEAT. 8 by the template 'for every input the law returns true; each argument reads behind the call as it read before'; 0 by the template 'total and deterministic' (their statements: YtaiflmbhciophaaTotals.lean).
  GIVEN WITH THE SEED: the statements are not yours to turn. If you find one false, say at which input.
  Laid BY PROGRAM, IN A SANDBOX (cutbox-rows.mjs): the forced cells as the released guide's own fill.sh prints them over the translation 223a04fd4875fb69… (all of the seat's roots in one cut). By AI agents, Wed Nov 11 2026. No macro, syntax, notation, axiom, sorry.
-/
import Derived.Test.YtaiflmbhciophaaChecked
import GoSem.Claim
import GoSem.ClaimJoined
import GoSem.ClaimMapViews
import Derived.JoinedTies
import Derived.KernelRfl
namespace Go.Proofs.Ytaiflmbhciophaa
/- THE CELL 'sum', in the pinned program and in every row, IS THE sha256 OF THE DUMP (.gsa) THAT YtaiflmbhciophaaProg.lean LOADS. Nothing in Lean hashes anything: it is a label: what it is worth is what the hold of that sum in a sandbox is worth. -/
noncomputable def Try.pinned : Pinned := { name := "ytaiflmbhciophaa", sum := "223a04fd4875fb69a02b2e6b9f088dbe82b6f7712adb5771dd9784e3b7174f70", checked := Try.checked }
namespace Rows
def none {H : Type} : Left H := { results := [], args := [] }

/-- 'wordbooklaw01.WireEncodeMatchesSpec': WHATEVER THE INPUT: true; the input reads as it did. -/
def wireEncodeMatchesSpecSpec : ChangeSpec := { name := "wireEncodeMatchesSpec", fn := fun _ => fun
  | [d1, d2, d3, d4, d5] => { results := [.lit (.bool true)], args := [d1, d2, d3, d4, d5] }
  | _ => none }
def wireEncodeMatchesSpecRow : OpenClaim := { program := "ytaiflmbhciophaa", sum := "223a04fd4875fb69a02b2e6b9f088dbe82b6f7712adb5771dd9784e3b7174f70", func := "wordbook/wordbooklaw01.WireEncodeMatchesSpec", spec := "wireEncodeMatchesSpec", unfollowed := true, recurses := true, apart := false }
def WireEncodeMatchesSpecSaid : Prop := wireEncodeMatchesSpecRow.holds Try.pinned (OpenSpec.ofChange wireEncodeMatchesSpecSpec)

/-- ITS FALSE NEIGHBOUR: 'it returns false'. Refute it at one input. -/
def wireEncodeMatchesSpecWrong : ChangeSpec := { name := "wireEncodeMatchesSpec", fn := fun _ => fun
  | [d1, d2, d3, d4, d5] => { results := [.lit (.bool false)], args := [d1, d2, d3, d4, d5] }
  | _ => none }
def WireEncodeMatchesSpecWrongFalsely : Prop := wireEncodeMatchesSpecRow.holds Try.pinned (OpenSpec.ofChange wireEncodeMatchesSpecWrong)

/-- 'wordbooklaw01.WireDecodeMatchesSpec': WHATEVER THE INPUT: true; the input reads as it did. -/
def wireDecodeMatchesSpecSpec : ChangeSpec := { name := "wireDecodeMatchesSpec", fn := fun _ => fun
  | [d] => { results := [.lit (.bool true)], args := [d] }
  | _ => none }
def wireDecodeMatchesSpecRow : OpenClaim := { program := "ytaiflmbhciophaa", sum := "223a04fd4875fb69a02b2e6b9f088dbe82b6f7712adb5771dd9784e3b7174f70", func := "wordbook/wordbooklaw01.WireDecodeMatchesSpec", spec := "wireDecodeMatchesSpec", unfollowed := true, recurses := true, apart := false }
def WireDecodeMatchesSpecSaid : Prop := wireDecodeMatchesSpecRow.holds Try.pinned (OpenSpec.ofChange wireDecodeMatchesSpecSpec)

/-- ITS FALSE NEIGHBOUR: 'it returns false'. Refute it at one input. -/
def wireDecodeMatchesSpecWrong : ChangeSpec := { name := "wireDecodeMatchesSpec", fn := fun _ => fun
  | [d] => { results := [.lit (.bool false)], args := [d] }
  | _ => none }
def WireDecodeMatchesSpecWrongFalsely : Prop := wireDecodeMatchesSpecRow.holds Try.pinned (OpenSpec.ofChange wireDecodeMatchesSpecWrong)

/-- 'wordbooklaw01.WireOrder': WHATEVER THE INPUT: true; the input reads as it did. -/
def wireOrderSpec : ChangeSpec := { name := "wireOrder", fn := fun _ => fun
  | [d1, d2] => { results := [.lit (.bool true)], args := [d1, d2] }
  | _ => none }
def wireOrderRow : OpenClaim := { program := "ytaiflmbhciophaa", sum := "223a04fd4875fb69a02b2e6b9f088dbe82b6f7712adb5771dd9784e3b7174f70", func := "wordbook/wordbooklaw01.WireOrder", spec := "wireOrder", unfollowed := true, recurses := true, apart := false }
def WireOrderSaid : Prop := wireOrderRow.holds Try.pinned (OpenSpec.ofChange wireOrderSpec)

/-- ITS FALSE NEIGHBOUR: 'it returns false'. Refute it at one input. -/
def wireOrderWrong : ChangeSpec := { name := "wireOrder", fn := fun _ => fun
  | [d1, d2] => { results := [.lit (.bool false)], args := [d1, d2] }
  | _ => none }
def WireOrderWrongFalsely : Prop := wireOrderRow.holds Try.pinned (OpenSpec.ofChange wireOrderWrong)

/-- 'wordbooklaw01.WireIntRoundTrip': WHATEVER THE INPUT: true; the input reads as it did. -/
def wireIntRoundTripSpec : ChangeSpec := { name := "wireIntRoundTrip", fn := fun _ => fun
  | [d1, d2] => { results := [.lit (.bool true)], args := [d1, d2] }
  | _ => none }
def wireIntRoundTripRow : OpenClaim := { program := "ytaiflmbhciophaa", sum := "223a04fd4875fb69a02b2e6b9f088dbe82b6f7712adb5771dd9784e3b7174f70", func := "wordbook/wordbooklaw01.WireIntRoundTrip", spec := "wireIntRoundTrip", unfollowed := true, recurses := true, apart := false }
def WireIntRoundTripSaid : Prop := wireIntRoundTripRow.holds Try.pinned (OpenSpec.ofChange wireIntRoundTripSpec)

/-- ITS FALSE NEIGHBOUR: 'it returns false'. Refute it at one input. -/
def wireIntRoundTripWrong : ChangeSpec := { name := "wireIntRoundTrip", fn := fun _ => fun
  | [d1, d2] => { results := [.lit (.bool false)], args := [d1, d2] }
  | _ => none }
def WireIntRoundTripWrongFalsely : Prop := wireIntRoundTripRow.holds Try.pinned (OpenSpec.ofChange wireIntRoundTripWrong)

/-- 'wordbooklaw01.WireCanonical': WHATEVER THE INPUT: true; the input reads as it did. -/
def wireCanonicalSpec : ChangeSpec := { name := "wireCanonical", fn := fun _ => fun
  | [d] => { results := [.lit (.bool true)], args := [d] }
  | _ => none }
def wireCanonicalRow : OpenClaim := { program := "ytaiflmbhciophaa", sum := "223a04fd4875fb69a02b2e6b9f088dbe82b6f7712adb5771dd9784e3b7174f70", func := "wordbook/wordbooklaw01.WireCanonical", spec := "wireCanonical", unfollowed := true, recurses := true, apart := false }
def WireCanonicalSaid : Prop := wireCanonicalRow.holds Try.pinned (OpenSpec.ofChange wireCanonicalSpec)

/-- ITS FALSE NEIGHBOUR: 'it returns false'. Refute it at one input. -/
def wireCanonicalWrong : ChangeSpec := { name := "wireCanonical", fn := fun _ => fun
  | [d] => { results := [.lit (.bool false)], args := [d] }
  | _ => none }
def WireCanonicalWrongFalsely : Prop := wireCanonicalRow.holds Try.pinned (OpenSpec.ofChange wireCanonicalWrong)

/-- 'wordbooklaw01.WireListRoundTrip': WHATEVER THE INPUT: true; the input reads as it did. -/
def wireListRoundTripSpec : ChangeSpec := { name := "wireListRoundTrip", fn := fun _ => fun
  | [d1, d2, d3, d4, d5] => { results := [.lit (.bool true)], args := [d1, d2, d3, d4, d5] }
  | _ => none }
def wireListRoundTripRow : OpenClaim := { program := "ytaiflmbhciophaa", sum := "223a04fd4875fb69a02b2e6b9f088dbe82b6f7712adb5771dd9784e3b7174f70", func := "wordbook/wordbooklaw01.WireListRoundTrip", spec := "wireListRoundTrip", unfollowed := true, recurses := true, apart := false }
def WireListRoundTripSaid : Prop := wireListRoundTripRow.holds Try.pinned (OpenSpec.ofChange wireListRoundTripSpec)

/-- ITS FALSE NEIGHBOUR: 'it returns false'. Refute it at one input. -/
def wireListRoundTripWrong : ChangeSpec := { name := "wireListRoundTrip", fn := fun _ => fun
  | [d1, d2, d3, d4, d5] => { results := [.lit (.bool false)], args := [d1, d2, d3, d4, d5] }
  | _ => none }
def WireListRoundTripWrongFalsely : Prop := wireListRoundTripRow.holds Try.pinned (OpenSpec.ofChange wireListRoundTripWrong)

/-- 'wordbooklaw01.WireTruncated': WHATEVER THE INPUT: true; the input reads as it did. -/
def wireTruncatedSpec : ChangeSpec := { name := "wireTruncated", fn := fun _ => fun
  | [d1, d2, d3, d4, d5] => { results := [.lit (.bool true)], args := [d1, d2, d3, d4, d5] }
  | _ => none }
def wireTruncatedRow : OpenClaim := { program := "ytaiflmbhciophaa", sum := "223a04fd4875fb69a02b2e6b9f088dbe82b6f7712adb5771dd9784e3b7174f70", func := "wordbook/wordbooklaw01.WireTruncated", spec := "wireTruncated", unfollowed := true, recurses := true, apart := false }
def WireTruncatedSaid : Prop := wireTruncatedRow.holds Try.pinned (OpenSpec.ofChange wireTruncatedSpec)

/-- ITS FALSE NEIGHBOUR: 'it returns false'. Refute it at one input. -/
def wireTruncatedWrong : ChangeSpec := { name := "wireTruncated", fn := fun _ => fun
  | [d1, d2, d3, d4, d5] => { results := [.lit (.bool false)], args := [d1, d2, d3, d4, d5] }
  | _ => none }
def WireTruncatedWrongFalsely : Prop := wireTruncatedRow.holds Try.pinned (OpenSpec.ofChange wireTruncatedWrong)

/-- 'wordbooklaw01.WireConcat': WHATEVER THE INPUT: true; the input reads as it did. -/
def wireConcatSpec : ChangeSpec := { name := "wireConcat", fn := fun _ => fun
  | [d1, d2] => { results := [.lit (.bool true)], args := [d1, d2] }
  | _ => none }
def wireConcatRow : OpenClaim := { program := "ytaiflmbhciophaa", sum := "223a04fd4875fb69a02b2e6b9f088dbe82b6f7712adb5771dd9784e3b7174f70", func := "wordbook/wordbooklaw01.WireConcat", spec := "wireConcat", unfollowed := true, recurses := true, apart := false }
def WireConcatSaid : Prop := wireConcatRow.holds Try.pinned (OpenSpec.ofChange wireConcatSpec)

/-- ITS FALSE NEIGHBOUR: 'it returns false'. Refute it at one input. -/
def wireConcatWrong : ChangeSpec := { name := "wireConcat", fn := fun _ => fun
  | [d1, d2] => { results := [.lit (.bool false)], args := [d1, d2] }
  | _ => none }
def WireConcatWrongFalsely : Prop := wireConcatRow.holds Try.pinned (OpenSpec.ofChange wireConcatWrong)

/- THE SECOND FORM. 'bulk': how many values and letters a reading holds, each counted each time it is reached (what is shared counts as often as it is met; a slice's spare places count too). A statement '..UptoSaid' is the law's where the arguments, and the package variables that the reading takes, are together of bulk at most 1048576: NARROWER than '..Said'. Prove '..Said' where nothing that the law and all that it calls make is longer than what came in: it says more and counts as full. Else prove '..UptoSaid'. A law counts once. -/
mutual
def uptoBulk {H : Type} : DataW H → Nat
  | .lit (.string bytes) => bytes.length + 1
  | .lit _ => 1
  | .nil => 1
  | .ptr d => uptoBulk d + 1
  | .slice elems spare => uptoBulkAll elems + uptoBulkAll spare + 1
  | .agg parts => uptoBulkAll parts + 1
  | .iface _ d => uptoBulk d + 1
  | .map entries => uptoBulkEntries entries + 1
  | .held _ => 1
def uptoBulkAll {H : Type} : List (DataW H) → Nat
  | [] => 0
  | d :: r => uptoBulk d + uptoBulkAll r
def uptoBulkEntries {H : Type} : List (Lit × DataW H) → Nat
  | [] => 0
  | x :: r => uptoBulkEntry x + uptoBulkEntries r
def uptoBulkEntry {H : Type} : Lit × DataW H → Nat
  | (.string bytes, d) => bytes.length + uptoBulk d + 1
  | (_, d) => uptoBulk d + 1
 end
def uptoSmall : (H : Type) → List (DataW H) → Bool := fun _ ds => decide (uptoBulkAll ds ≤ 1048576)
def OpenSpec.upto (s : _root_.Go.ChangeSpec) : _root_.Go.OpenSpec := { _root_.Go.OpenSpec.ofChange s with cond := some uptoSmall }

/-- 'wordbooklaw01.WireEncodeMatchesSpec', WHERE WHAT IT READS IS OF BULK AT MOST 1048576: true; the input reads as it did. -/
def wireEncodeMatchesSpecUptoRow : OpenClaim := { program := "ytaiflmbhciophaa", sum := "223a04fd4875fb69a02b2e6b9f088dbe82b6f7712adb5771dd9784e3b7174f70", func := "wordbook/wordbooklaw01.WireEncodeMatchesSpec", spec := "wireEncodeMatchesSpec", unfollowed := true, recurses := true, apart := false, narrowed := true }
def WireEncodeMatchesSpecUptoSaid : Prop := wireEncodeMatchesSpecUptoRow.holds Try.pinned (OpenSpec.upto wireEncodeMatchesSpecSpec)

/-- 'wordbooklaw01.WireDecodeMatchesSpec', WHERE WHAT IT READS IS OF BULK AT MOST 1048576: true; the input reads as it did. -/
def wireDecodeMatchesSpecUptoRow : OpenClaim := { program := "ytaiflmbhciophaa", sum := "223a04fd4875fb69a02b2e6b9f088dbe82b6f7712adb5771dd9784e3b7174f70", func := "wordbook/wordbooklaw01.WireDecodeMatchesSpec", spec := "wireDecodeMatchesSpec", unfollowed := true, recurses := true, apart := false, narrowed := true }
def WireDecodeMatchesSpecUptoSaid : Prop := wireDecodeMatchesSpecUptoRow.holds Try.pinned (OpenSpec.upto wireDecodeMatchesSpecSpec)

/-- 'wordbooklaw01.WireOrder', WHERE WHAT IT READS IS OF BULK AT MOST 1048576: true; the input reads as it did. -/
def wireOrderUptoRow : OpenClaim := { program := "ytaiflmbhciophaa", sum := "223a04fd4875fb69a02b2e6b9f088dbe82b6f7712adb5771dd9784e3b7174f70", func := "wordbook/wordbooklaw01.WireOrder", spec := "wireOrder", unfollowed := true, recurses := true, apart := false, narrowed := true }
def WireOrderUptoSaid : Prop := wireOrderUptoRow.holds Try.pinned (OpenSpec.upto wireOrderSpec)

/-- 'wordbooklaw01.WireIntRoundTrip', WHERE WHAT IT READS IS OF BULK AT MOST 1048576: true; the input reads as it did. -/
def wireIntRoundTripUptoRow : OpenClaim := { program := "ytaiflmbhciophaa", sum := "223a04fd4875fb69a02b2e6b9f088dbe82b6f7712adb5771dd9784e3b7174f70", func := "wordbook/wordbooklaw01.WireIntRoundTrip", spec := "wireIntRoundTrip", unfollowed := true, recurses := true, apart := false, narrowed := true }
def WireIntRoundTripUptoSaid : Prop := wireIntRoundTripUptoRow.holds Try.pinned (OpenSpec.upto wireIntRoundTripSpec)

/-- 'wordbooklaw01.WireCanonical', WHERE WHAT IT READS IS OF BULK AT MOST 1048576: true; the input reads as it did. -/
def wireCanonicalUptoRow : OpenClaim := { program := "ytaiflmbhciophaa", sum := "223a04fd4875fb69a02b2e6b9f088dbe82b6f7712adb5771dd9784e3b7174f70", func := "wordbook/wordbooklaw01.WireCanonical", spec := "wireCanonical", unfollowed := true, recurses := true, apart := false, narrowed := true }
def WireCanonicalUptoSaid : Prop := wireCanonicalUptoRow.holds Try.pinned (OpenSpec.upto wireCanonicalSpec)

/-- 'wordbooklaw01.WireListRoundTrip', WHERE WHAT IT READS IS OF BULK AT MOST 1048576: true; the input reads as it did. -/
def wireListRoundTripUptoRow : OpenClaim := { program := "ytaiflmbhciophaa", sum := "223a04fd4875fb69a02b2e6b9f088dbe82b6f7712adb5771dd9784e3b7174f70", func := "wordbook/wordbooklaw01.WireListRoundTrip", spec := "wireListRoundTrip", unfollowed := true, recurses := true, apart := false, narrowed := true }
def WireListRoundTripUptoSaid : Prop := wireListRoundTripUptoRow.holds Try.pinned (OpenSpec.upto wireListRoundTripSpec)

/-- 'wordbooklaw01.WireTruncated', WHERE WHAT IT READS IS OF BULK AT MOST 1048576: true; the input reads as it did. -/
def wireTruncatedUptoRow : OpenClaim := { program := "ytaiflmbhciophaa", sum := "223a04fd4875fb69a02b2e6b9f088dbe82b6f7712adb5771dd9784e3b7174f70", func := "wordbook/wordbooklaw01.WireTruncated", spec := "wireTruncated", unfollowed := true, recurses := true, apart := false, narrowed := true }
def WireTruncatedUptoSaid : Prop := wireTruncatedUptoRow.holds Try.pinned (OpenSpec.upto wireTruncatedSpec)

/-- 'wordbooklaw01.WireConcat', WHERE WHAT IT READS IS OF BULK AT MOST 1048576: true; the input reads as it did. -/
def wireConcatUptoRow : OpenClaim := { program := "ytaiflmbhciophaa", sum := "223a04fd4875fb69a02b2e6b9f088dbe82b6f7712adb5771dd9784e3b7174f70", func := "wordbook/wordbooklaw01.WireConcat", spec := "wireConcat", unfollowed := true, recurses := true, apart := false, narrowed := true }
def WireConcatUptoSaid : Prop := wireConcatUptoRow.holds Try.pinned (OpenSpec.upto wireConcatSpec)

end Rows
end Go.Proofs.Ytaiflmbhciophaa
