/-
  No cell of these rows narrows 'for every input' (looked for: loops, veiled, ifaces, maps, wideKeys, modest, calm, conditions, laid).
  DERIVED. THE GIVEN ROWS OF THIS SEAT. 11 by the template 'for every input the law returns true; each argument reads behind the call as it read before'; 0 by the template 'total and deterministic' (their statements: YtoaefflonebgkaaTotals.lean).
  GIVEN WITH THE SEED: the statements are not yours to turn. If you find one false, say at which input.
  Laid BY PROGRAM, IN A SANDBOX (cutbox-rows.mjs): the forced cells as the released guide's own fill.sh prints them over the translation 97a5cd13910fcb31… (all of the seat's roots in one cut). By AI agents, Wed Nov 11 2026. No macro, syntax, notation, axiom, sorry.
-/
import Derived.Test.YtoaefflonebgkaaChecked
import GoSem.Claim
import GoSem.ClaimJoined
import GoSem.ClaimMapViews
import Derived.JoinedTies
import Derived.KernelRfl
namespace Go.Proofs.Ytoaefflonebgkaa
/- THE CELL 'sum', in the pinned program and in every row, IS THE sha256 OF THE DUMP (.gsa) THAT YtoaefflonebgkaaProg.lean LOADS. Nothing in Lean hashes anything: it is a label: what it is worth is what the hold of that sum in a sandbox is worth. -/
noncomputable def Try.pinned : Pinned := { name := "ytoaefflonebgkaa", sum := "97a5cd13910fcb31f6cb268e4cfae5b8b2308ffd018111bcac941cae49e131dc", checked := Try.checked }
namespace Rows
def none {H : Type} : Left H := { results := [], args := [] }

/-- 'laws.FnExactDigestOf': WHATEVER THE INPUT: true; the input reads as it did. -/
def fnExactDigestOfSpec : ChangeSpec := { name := "fnExactDigestOf", fn := fun _ => fun
  | [d] => { results := [.lit (.bool true)], args := [d] }
  | _ => none }
def fnExactDigestOfRow : OpenClaim := { program := "ytoaefflonebgkaa", sum := "97a5cd13910fcb31f6cb268e4cfae5b8b2308ffd018111bcac941cae49e131dc", func := "loop.example/g00914/laws.FnExactDigestOf", spec := "fnExactDigestOf", apart := false }
def FnExactDigestOfSaid : Prop := fnExactDigestOfRow.holds Try.pinned (OpenSpec.ofChange fnExactDigestOfSpec)

/-- ITS FALSE NEIGHBOUR: 'it returns false'. Refute it at one input. -/
def fnExactDigestOfWrong : ChangeSpec := { name := "fnExactDigestOf", fn := fun _ => fun
  | [d] => { results := [.lit (.bool false)], args := [d] }
  | _ => none }
def FnExactDigestOfWrongFalsely : Prop := fnExactDigestOfRow.holds Try.pinned (OpenSpec.ofChange fnExactDigestOfWrong)

/-- 'laws.FnExactAreEdits': WHATEVER THE INPUT: true; the input reads as it did. -/
def fnExactAreEditsSpec : ChangeSpec := { name := "fnExactAreEdits", fn := fun _ => fun
  | [d1, d2] => { results := [.lit (.bool true)], args := [d1, d2] }
  | _ => none }
def fnExactAreEditsRow : OpenClaim := { program := "ytoaefflonebgkaa", sum := "97a5cd13910fcb31f6cb268e4cfae5b8b2308ffd018111bcac941cae49e131dc", func := "loop.example/g00914/laws.FnExactAreEdits", spec := "fnExactAreEdits", apart := false }
def FnExactAreEditsSaid : Prop := fnExactAreEditsRow.holds Try.pinned (OpenSpec.ofChange fnExactAreEditsSpec)

/-- ITS FALSE NEIGHBOUR: 'it returns false'. Refute it at one input. -/
def fnExactAreEditsWrong : ChangeSpec := { name := "fnExactAreEdits", fn := fun _ => fun
  | [d1, d2] => { results := [.lit (.bool false)], args := [d1, d2] }
  | _ => none }
def FnExactAreEditsWrongFalsely : Prop := fnExactAreEditsRow.holds Try.pinned (OpenSpec.ofChange fnExactAreEditsWrong)

/-- 'laws.FnExactEditsBetween': WHATEVER THE INPUT: true; the input reads as it did. -/
def fnExactEditsBetweenSpec : ChangeSpec := { name := "fnExactEditsBetween", fn := fun _ => fun
  | [d1, d2] => { results := [.lit (.bool true)], args := [d1, d2] }
  | _ => none }
def fnExactEditsBetweenRow : OpenClaim := { program := "ytoaefflonebgkaa", sum := "97a5cd13910fcb31f6cb268e4cfae5b8b2308ffd018111bcac941cae49e131dc", func := "loop.example/g00914/laws.FnExactEditsBetween", spec := "fnExactEditsBetween", apart := false }
def FnExactEditsBetweenSaid : Prop := fnExactEditsBetweenRow.holds Try.pinned (OpenSpec.ofChange fnExactEditsBetweenSpec)

/-- ITS FALSE NEIGHBOUR: 'it returns false'. Refute it at one input. -/
def fnExactEditsBetweenWrong : ChangeSpec := { name := "fnExactEditsBetween", fn := fun _ => fun
  | [d1, d2] => { results := [.lit (.bool false)], args := [d1, d2] }
  | _ => none }
def FnExactEditsBetweenWrongFalsely : Prop := fnExactEditsBetweenRow.holds Try.pinned (OpenSpec.ofChange fnExactEditsBetweenWrong)

/-- 'laws.FnExactUndoEdits': WHATEVER THE INPUT: true; the input reads as it did. -/
def fnExactUndoEditsSpec : ChangeSpec := { name := "fnExactUndoEdits", fn := fun _ => fun
  | [d1, d2] => { results := [.lit (.bool true)], args := [d1, d2] }
  | _ => none }
def fnExactUndoEditsRow : OpenClaim := { program := "ytoaefflonebgkaa", sum := "97a5cd13910fcb31f6cb268e4cfae5b8b2308ffd018111bcac941cae49e131dc", func := "loop.example/g00914/laws.FnExactUndoEdits", spec := "fnExactUndoEdits", apart := false }
def FnExactUndoEditsSaid : Prop := fnExactUndoEditsRow.holds Try.pinned (OpenSpec.ofChange fnExactUndoEditsSpec)

/-- ITS FALSE NEIGHBOUR: 'it returns false'. Refute it at one input. -/
def fnExactUndoEditsWrong : ChangeSpec := { name := "fnExactUndoEdits", fn := fun _ => fun
  | [d1, d2] => { results := [.lit (.bool false)], args := [d1, d2] }
  | _ => none }
def FnExactUndoEditsWrongFalsely : Prop := fnExactUndoEditsRow.holds Try.pinned (OpenSpec.ofChange fnExactUndoEditsWrong)

/-- 'laws.FnExactEditValues': WHATEVER THE INPUT: true; the input reads as it did. -/
def fnExactEditValuesSpec : ChangeSpec := { name := "fnExactEditValues", fn := fun _ => fun
  | [d1, d2] => { results := [.lit (.bool true)], args := [d1, d2] }
  | _ => none }
def fnExactEditValuesRow : OpenClaim := { program := "ytoaefflonebgkaa", sum := "97a5cd13910fcb31f6cb268e4cfae5b8b2308ffd018111bcac941cae49e131dc", func := "loop.example/g00914/laws.FnExactEditValues", spec := "fnExactEditValues", apart := false }
def FnExactEditValuesSaid : Prop := fnExactEditValuesRow.holds Try.pinned (OpenSpec.ofChange fnExactEditValuesSpec)

/-- ITS FALSE NEIGHBOUR: 'it returns false'. Refute it at one input. -/
def fnExactEditValuesWrong : ChangeSpec := { name := "fnExactEditValues", fn := fun _ => fun
  | [d1, d2] => { results := [.lit (.bool false)], args := [d1, d2] }
  | _ => none }
def FnExactEditValuesWrongFalsely : Prop := fnExactEditValuesRow.holds Try.pinned (OpenSpec.ofChange fnExactEditValuesWrong)

/-- 'laws.FnExactIsReport': WHATEVER THE INPUT: true; the input reads as it did. -/
def fnExactIsReportSpec : ChangeSpec := { name := "fnExactIsReport", fn := fun _ => fun
  | [d] => { results := [.lit (.bool true)], args := [d] }
  | _ => none }
def fnExactIsReportRow : OpenClaim := { program := "ytoaefflonebgkaa", sum := "97a5cd13910fcb31f6cb268e4cfae5b8b2308ffd018111bcac941cae49e131dc", func := "loop.example/g00914/laws.FnExactIsReport", spec := "fnExactIsReport", apart := false }
def FnExactIsReportSaid : Prop := fnExactIsReportRow.holds Try.pinned (OpenSpec.ofChange fnExactIsReportSpec)

/-- ITS FALSE NEIGHBOUR: 'it returns false'. Refute it at one input. -/
def fnExactIsReportWrong : ChangeSpec := { name := "fnExactIsReport", fn := fun _ => fun
  | [d] => { results := [.lit (.bool false)], args := [d] }
  | _ => none }
def FnExactIsReportWrongFalsely : Prop := fnExactIsReportRow.holds Try.pinned (OpenSpec.ofChange fnExactIsReportWrong)

/-- 'laws.FnExactColumnOf': WHATEVER THE INPUT: true; the input reads as it did. -/
def fnExactColumnOfSpec : ChangeSpec := { name := "fnExactColumnOf", fn := fun _ => fun
  | [d1, d2] => { results := [.lit (.bool true)], args := [d1, d2] }
  | _ => none }
def fnExactColumnOfRow : OpenClaim := { program := "ytoaefflonebgkaa", sum := "97a5cd13910fcb31f6cb268e4cfae5b8b2308ffd018111bcac941cae49e131dc", func := "loop.example/g00914/laws.FnExactColumnOf", spec := "fnExactColumnOf", apart := false }
def FnExactColumnOfSaid : Prop := fnExactColumnOfRow.holds Try.pinned (OpenSpec.ofChange fnExactColumnOfSpec)

/-- ITS FALSE NEIGHBOUR: 'it returns false'. Refute it at one input. -/
def fnExactColumnOfWrong : ChangeSpec := { name := "fnExactColumnOf", fn := fun _ => fun
  | [d1, d2] => { results := [.lit (.bool false)], args := [d1, d2] }
  | _ => none }
def FnExactColumnOfWrongFalsely : Prop := fnExactColumnOfRow.holds Try.pinned (OpenSpec.ofChange fnExactColumnOfWrong)

/-- 'laws.FnExactRowNamed': WHATEVER THE INPUT: true; the input reads as it did. -/
def fnExactRowNamedSpec : ChangeSpec := { name := "fnExactRowNamed", fn := fun _ => fun
  | [d1, d2] => { results := [.lit (.bool true)], args := [d1, d2] }
  | _ => none }
def fnExactRowNamedRow : OpenClaim := { program := "ytoaefflonebgkaa", sum := "97a5cd13910fcb31f6cb268e4cfae5b8b2308ffd018111bcac941cae49e131dc", func := "loop.example/g00914/laws.FnExactRowNamed", spec := "fnExactRowNamed", apart := false }
def FnExactRowNamedSaid : Prop := fnExactRowNamedRow.holds Try.pinned (OpenSpec.ofChange fnExactRowNamedSpec)

/-- ITS FALSE NEIGHBOUR: 'it returns false'. Refute it at one input. -/
def fnExactRowNamedWrong : ChangeSpec := { name := "fnExactRowNamed", fn := fun _ => fun
  | [d1, d2] => { results := [.lit (.bool false)], args := [d1, d2] }
  | _ => none }
def FnExactRowNamedWrongFalsely : Prop := fnExactRowNamedRow.holds Try.pinned (OpenSpec.ofChange fnExactRowNamedWrong)

/-- 'laws.FnExactSumRow': WHATEVER THE INPUT: true; the input reads as it did. -/
def fnExactSumRowSpec : ChangeSpec := { name := "fnExactSumRow", fn := fun _ => fun
  | [d] => { results := [.lit (.bool true)], args := [d] }
  | _ => none }
def fnExactSumRowRow : OpenClaim := { program := "ytoaefflonebgkaa", sum := "97a5cd13910fcb31f6cb268e4cfae5b8b2308ffd018111bcac941cae49e131dc", func := "loop.example/g00914/laws.FnExactSumRow", spec := "fnExactSumRow", apart := false }
def FnExactSumRowSaid : Prop := fnExactSumRowRow.holds Try.pinned (OpenSpec.ofChange fnExactSumRowSpec)

/-- ITS FALSE NEIGHBOUR: 'it returns false'. Refute it at one input. -/
def fnExactSumRowWrong : ChangeSpec := { name := "fnExactSumRow", fn := fun _ => fun
  | [d] => { results := [.lit (.bool false)], args := [d] }
  | _ => none }
def FnExactSumRowWrongFalsely : Prop := fnExactSumRowRow.holds Try.pinned (OpenSpec.ofChange fnExactSumRowWrong)

/-- 'laws.FnExactPlanDistance': WHATEVER THE INPUT: true; the input reads as it did. -/
def fnExactPlanDistanceSpec : ChangeSpec := { name := "fnExactPlanDistance", fn := fun _ => fun
  | [d1, d2, d3] => { results := [.lit (.bool true)], args := [d1, d2, d3] }
  | _ => none }
def fnExactPlanDistanceRow : OpenClaim := { program := "ytoaefflonebgkaa", sum := "97a5cd13910fcb31f6cb268e4cfae5b8b2308ffd018111bcac941cae49e131dc", func := "loop.example/g00914/laws.FnExactPlanDistance", spec := "fnExactPlanDistance", apart := false }
def FnExactPlanDistanceSaid : Prop := fnExactPlanDistanceRow.holds Try.pinned (OpenSpec.ofChange fnExactPlanDistanceSpec)

/-- ITS FALSE NEIGHBOUR: 'it returns false'. Refute it at one input. -/
def fnExactPlanDistanceWrong : ChangeSpec := { name := "fnExactPlanDistance", fn := fun _ => fun
  | [d1, d2, d3] => { results := [.lit (.bool false)], args := [d1, d2, d3] }
  | _ => none }
def FnExactPlanDistanceWrongFalsely : Prop := fnExactPlanDistanceRow.holds Try.pinned (OpenSpec.ofChange fnExactPlanDistanceWrong)

/-- 'laws.FnExactAddRow': WHATEVER THE INPUT: true; the input reads as it did. -/
def fnExactAddRowSpec : ChangeSpec := { name := "fnExactAddRow", fn := fun _ => fun
  | [d1, d2] => { results := [.lit (.bool true)], args := [d1, d2] }
  | _ => none }
def fnExactAddRowRow : OpenClaim := { program := "ytoaefflonebgkaa", sum := "97a5cd13910fcb31f6cb268e4cfae5b8b2308ffd018111bcac941cae49e131dc", func := "loop.example/g00914/laws.FnExactAddRow", spec := "fnExactAddRow", apart := false }
def FnExactAddRowSaid : Prop := fnExactAddRowRow.holds Try.pinned (OpenSpec.ofChange fnExactAddRowSpec)

/-- ITS FALSE NEIGHBOUR: 'it returns false'. Refute it at one input. -/
def fnExactAddRowWrong : ChangeSpec := { name := "fnExactAddRow", fn := fun _ => fun
  | [d1, d2] => { results := [.lit (.bool false)], args := [d1, d2] }
  | _ => none }
def FnExactAddRowWrongFalsely : Prop := fnExactAddRowRow.holds Try.pinned (OpenSpec.ofChange fnExactAddRowWrong)

/- THE SECOND FORM. 'bulk': how many values and letters a reading holds, each counted each time it is reached (what is shared counts as often as it is met; a slice's spare places count too). A statement '..UptoSaid' is the law's where the arguments, and the package variables that the reading takes, are together of bulk at most 1048576: NARROWER than '..Said'. Prove '..Said' where nothing that the law and all that it calls make is longer than what came in: it says more and counts as full. Else prove '..UptoSaid'. A law counts once. -/
mutual
def uptoBulk {H : Type} : DataW H → Nat
  | .lit (.string bytes) => bytes.length + 1
  | .lit _ => 1
  | .nil => 1
  | .ptr d => uptoBulk d + 1
  | .slice elems spare => uptoBulkAll elems + uptoBulkAll spare + 1
  | .agg parts => uptoBulkAll parts + 1
  | .iface _ d => uptoBulk d + 1
  | .map entries => uptoBulkEntries entries + 1
  | .held _ => 1
def uptoBulkAll {H : Type} : List (DataW H) → Nat
  | [] => 0
  | d :: r => uptoBulk d + uptoBulkAll r
def uptoBulkEntries {H : Type} : List (Lit × DataW H) → Nat
  | [] => 0
  | x :: r => uptoBulkEntry x + uptoBulkEntries r
def uptoBulkEntry {H : Type} : Lit × DataW H → Nat
  | (.string bytes, d) => bytes.length + uptoBulk d + 1
  | (_, d) => uptoBulk d + 1
 end
def uptoSmall : (H : Type) → List (DataW H) → Bool := fun _ ds => decide (uptoBulkAll ds ≤ 1048576)
def OpenSpec.upto (s : _root_.Go.ChangeSpec) : _root_.Go.OpenSpec := { _root_.Go.OpenSpec.ofChange s with cond := some uptoSmall }

/-- 'laws.FnExactDigestOf', WHERE WHAT IT READS IS OF BULK AT MOST 1048576: true; the input reads as it did. -/
def fnExactDigestOfUptoRow : OpenClaim := { program := "ytoaefflonebgkaa", sum := "97a5cd13910fcb31f6cb268e4cfae5b8b2308ffd018111bcac941cae49e131dc", func := "loop.example/g00914/laws.FnExactDigestOf", spec := "fnExactDigestOf", apart := false, narrowed := true }
def FnExactDigestOfUptoSaid : Prop := fnExactDigestOfUptoRow.holds Try.pinned (OpenSpec.upto fnExactDigestOfSpec)

/-- 'laws.FnExactAreEdits', WHERE WHAT IT READS IS OF BULK AT MOST 1048576: true; the input reads as it did. -/
def fnExactAreEditsUptoRow : OpenClaim := { program := "ytoaefflonebgkaa", sum := "97a5cd13910fcb31f6cb268e4cfae5b8b2308ffd018111bcac941cae49e131dc", func := "loop.example/g00914/laws.FnExactAreEdits", spec := "fnExactAreEdits", apart := false, narrowed := true }
def FnExactAreEditsUptoSaid : Prop := fnExactAreEditsUptoRow.holds Try.pinned (OpenSpec.upto fnExactAreEditsSpec)

/-- 'laws.FnExactEditsBetween', WHERE WHAT IT READS IS OF BULK AT MOST 1048576: true; the input reads as it did. -/
def fnExactEditsBetweenUptoRow : OpenClaim := { program := "ytoaefflonebgkaa", sum := "97a5cd13910fcb31f6cb268e4cfae5b8b2308ffd018111bcac941cae49e131dc", func := "loop.example/g00914/laws.FnExactEditsBetween", spec := "fnExactEditsBetween", apart := false, narrowed := true }
def FnExactEditsBetweenUptoSaid : Prop := fnExactEditsBetweenUptoRow.holds Try.pinned (OpenSpec.upto fnExactEditsBetweenSpec)

/-- 'laws.FnExactUndoEdits', WHERE WHAT IT READS IS OF BULK AT MOST 1048576: true; the input reads as it did. -/
def fnExactUndoEditsUptoRow : OpenClaim := { program := "ytoaefflonebgkaa", sum := "97a5cd13910fcb31f6cb268e4cfae5b8b2308ffd018111bcac941cae49e131dc", func := "loop.example/g00914/laws.FnExactUndoEdits", spec := "fnExactUndoEdits", apart := false, narrowed := true }
def FnExactUndoEditsUptoSaid : Prop := fnExactUndoEditsUptoRow.holds Try.pinned (OpenSpec.upto fnExactUndoEditsSpec)

/-- 'laws.FnExactEditValues', WHERE WHAT IT READS IS OF BULK AT MOST 1048576: true; the input reads as it did. -/
def fnExactEditValuesUptoRow : OpenClaim := { program := "ytoaefflonebgkaa", sum := "97a5cd13910fcb31f6cb268e4cfae5b8b2308ffd018111bcac941cae49e131dc", func := "loop.example/g00914/laws.FnExactEditValues", spec := "fnExactEditValues", apart := false, narrowed := true }
def FnExactEditValuesUptoSaid : Prop := fnExactEditValuesUptoRow.holds Try.pinned (OpenSpec.upto fnExactEditValuesSpec)

/-- 'laws.FnExactIsReport', WHERE WHAT IT READS IS OF BULK AT MOST 1048576: true; the input reads as it did. -/
def fnExactIsReportUptoRow : OpenClaim := { program := "ytoaefflonebgkaa", sum := "97a5cd13910fcb31f6cb268e4cfae5b8b2308ffd018111bcac941cae49e131dc", func := "loop.example/g00914/laws.FnExactIsReport", spec := "fnExactIsReport", apart := false, narrowed := true }
def FnExactIsReportUptoSaid : Prop := fnExactIsReportUptoRow.holds Try.pinned (OpenSpec.upto fnExactIsReportSpec)

/-- 'laws.FnExactColumnOf', WHERE WHAT IT READS IS OF BULK AT MOST 1048576: true; the input reads as it did. -/
def fnExactColumnOfUptoRow : OpenClaim := { program := "ytoaefflonebgkaa", sum := "97a5cd13910fcb31f6cb268e4cfae5b8b2308ffd018111bcac941cae49e131dc", func := "loop.example/g00914/laws.FnExactColumnOf", spec := "fnExactColumnOf", apart := false, narrowed := true }
def FnExactColumnOfUptoSaid : Prop := fnExactColumnOfUptoRow.holds Try.pinned (OpenSpec.upto fnExactColumnOfSpec)

/-- 'laws.FnExactRowNamed', WHERE WHAT IT READS IS OF BULK AT MOST 1048576: true; the input reads as it did. -/
def fnExactRowNamedUptoRow : OpenClaim := { program := "ytoaefflonebgkaa", sum := "97a5cd13910fcb31f6cb268e4cfae5b8b2308ffd018111bcac941cae49e131dc", func := "loop.example/g00914/laws.FnExactRowNamed", spec := "fnExactRowNamed", apart := false, narrowed := true }
def FnExactRowNamedUptoSaid : Prop := fnExactRowNamedUptoRow.holds Try.pinned (OpenSpec.upto fnExactRowNamedSpec)

/-- 'laws.FnExactSumRow', WHERE WHAT IT READS IS OF BULK AT MOST 1048576: true; the input reads as it did. -/
def fnExactSumRowUptoRow : OpenClaim := { program := "ytoaefflonebgkaa", sum := "97a5cd13910fcb31f6cb268e4cfae5b8b2308ffd018111bcac941cae49e131dc", func := "loop.example/g00914/laws.FnExactSumRow", spec := "fnExactSumRow", apart := false, narrowed := true }
def FnExactSumRowUptoSaid : Prop := fnExactSumRowUptoRow.holds Try.pinned (OpenSpec.upto fnExactSumRowSpec)

/-- 'laws.FnExactPlanDistance', WHERE WHAT IT READS IS OF BULK AT MOST 1048576: true; the input reads as it did. -/
def fnExactPlanDistanceUptoRow : OpenClaim := { program := "ytoaefflonebgkaa", sum := "97a5cd13910fcb31f6cb268e4cfae5b8b2308ffd018111bcac941cae49e131dc", func := "loop.example/g00914/laws.FnExactPlanDistance", spec := "fnExactPlanDistance", apart := false, narrowed := true }
def FnExactPlanDistanceUptoSaid : Prop := fnExactPlanDistanceUptoRow.holds Try.pinned (OpenSpec.upto fnExactPlanDistanceSpec)

/-- 'laws.FnExactAddRow', WHERE WHAT IT READS IS OF BULK AT MOST 1048576: true; the input reads as it did. -/
def fnExactAddRowUptoRow : OpenClaim := { program := "ytoaefflonebgkaa", sum := "97a5cd13910fcb31f6cb268e4cfae5b8b2308ffd018111bcac941cae49e131dc", func := "loop.example/g00914/laws.FnExactAddRow", spec := "fnExactAddRow", apart := false, narrowed := true }
def FnExactAddRowUptoSaid : Prop := fnExactAddRowUptoRow.holds Try.pinned (OpenSpec.upto fnExactAddRowSpec)

end Rows
end Go.Proofs.Ytoaefflonebgkaa
