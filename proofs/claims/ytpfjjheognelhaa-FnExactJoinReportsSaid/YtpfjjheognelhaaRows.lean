/-
  No cell of these rows narrows 'for every input' (looked for: loops, veiled, ifaces, maps, wideKeys, modest, calm, conditions, laid).
  DERIVED. THE GIVEN ROWS OF THIS SEAT. 11 by the template 'for every input the law returns true; each argument reads behind the call as it read before'; 0 by the template 'total and deterministic' (their statements: YtpfjjheognelhaaTotals.lean).
  GIVEN WITH THE SEED: the statements are not yours to turn. If you find one false, say at which input.
  Laid BY PROGRAM, IN A SANDBOX (cutbox-rows.mjs): the forced cells as the released guide's own fill.sh prints them over the translation 3de2e6fc566e8100… (all of the seat's roots in one cut). By AI agents, Wed Nov 11 2026. No macro, syntax, notation, axiom, sorry.
-/
import Derived.Test.YtpfjjheognelhaaChecked
import GoSem.Claim
import GoSem.ClaimJoined
import GoSem.ClaimMapViews
import Derived.JoinedTies
import Derived.KernelRfl
namespace Go.Proofs.Ytpfjjheognelhaa
/- THE CELL 'sum', in the pinned program and in every row, IS THE sha256 OF THE DUMP (.gsa) THAT YtpfjjheognelhaaProg.lean LOADS. Nothing in Lean hashes anything: it is a label: what it is worth is what the hold of that sum in a sandbox is worth. -/
noncomputable def Try.pinned : Pinned := { name := "ytpfjjheognelhaa", sum := "3de2e6fc566e81006778d79e587bd1d0ff680484736f8f2945be4da2ff2d232c", checked := Try.checked }
namespace Rows
def none {H : Type} : Left H := { results := [], args := [] }

/-- 'laws.FnExactFirstApart': WHATEVER THE INPUT: true; the input reads as it did. -/
def fnExactFirstApartSpec : ChangeSpec := { name := "fnExactFirstApart", fn := fun _ => fun
  | [d1, d2, d3] => { results := [.lit (.bool true)], args := [d1, d2, d3] }
  | _ => none }
def fnExactFirstApartRow : OpenClaim := { program := "ytpfjjheognelhaa", sum := "3de2e6fc566e81006778d79e587bd1d0ff680484736f8f2945be4da2ff2d232c", func := "loop.example/g00914/laws.FnExactFirstApart", spec := "fnExactFirstApart", apart := false }
def FnExactFirstApartSaid : Prop := fnExactFirstApartRow.holds Try.pinned (OpenSpec.ofChange fnExactFirstApartSpec)

/-- ITS FALSE NEIGHBOUR: 'it returns false'. Refute it at one input. -/
def fnExactFirstApartWrong : ChangeSpec := { name := "fnExactFirstApart", fn := fun _ => fun
  | [d1, d2, d3] => { results := [.lit (.bool false)], args := [d1, d2, d3] }
  | _ => none }
def FnExactFirstApartWrongFalsely : Prop := fnExactFirstApartRow.holds Try.pinned (OpenSpec.ofChange fnExactFirstApartWrong)

/-- 'laws.FnExactJoinReports': WHATEVER THE INPUT: true; the input reads as it did. -/
def fnExactJoinReportsSpec : ChangeSpec := { name := "fnExactJoinReports", fn := fun _ => fun
  | [d1, d2] => { results := [.lit (.bool true)], args := [d1, d2] }
  | _ => none }
def fnExactJoinReportsRow : OpenClaim := { program := "ytpfjjheognelhaa", sum := "3de2e6fc566e81006778d79e587bd1d0ff680484736f8f2945be4da2ff2d232c", func := "loop.example/g00914/laws.FnExactJoinReports", spec := "fnExactJoinReports", apart := false }
def FnExactJoinReportsSaid : Prop := fnExactJoinReportsRow.holds Try.pinned (OpenSpec.ofChange fnExactJoinReportsSpec)

/-- ITS FALSE NEIGHBOUR: 'it returns false'. Refute it at one input. -/
def fnExactJoinReportsWrong : ChangeSpec := { name := "fnExactJoinReports", fn := fun _ => fun
  | [d1, d2] => { results := [.lit (.bool false)], args := [d1, d2] }
  | _ => none }
def FnExactJoinReportsWrongFalsely : Prop := fnExactJoinReportsRow.holds Try.pinned (OpenSpec.ofChange fnExactJoinReportsWrong)

/-- 'laws.FnExactDifferRows': WHATEVER THE INPUT: true; the input reads as it did. -/
def fnExactDifferRowsSpec : ChangeSpec := { name := "fnExactDifferRows", fn := fun _ => fun
  | [d1, d2] => { results := [.lit (.bool true)], args := [d1, d2] }
  | _ => none }
def fnExactDifferRowsRow : OpenClaim := { program := "ytpfjjheognelhaa", sum := "3de2e6fc566e81006778d79e587bd1d0ff680484736f8f2945be4da2ff2d232c", func := "loop.example/g00914/laws.FnExactDifferRows", spec := "fnExactDifferRows", apart := false }
def FnExactDifferRowsSaid : Prop := fnExactDifferRowsRow.holds Try.pinned (OpenSpec.ofChange fnExactDifferRowsSpec)

/-- ITS FALSE NEIGHBOUR: 'it returns false'. Refute it at one input. -/
def fnExactDifferRowsWrong : ChangeSpec := { name := "fnExactDifferRows", fn := fun _ => fun
  | [d1, d2] => { results := [.lit (.bool false)], args := [d1, d2] }
  | _ => none }
def FnExactDifferRowsWrongFalsely : Prop := fnExactDifferRowsRow.holds Try.pinned (OpenSpec.ofChange fnExactDifferRowsWrong)

/-- 'laws.FnExactMovedBlocks': WHATEVER THE INPUT: true; the input reads as it did. -/
def fnExactMovedBlocksSpec : ChangeSpec := { name := "fnExactMovedBlocks", fn := fun _ => fun
  | [d1, d2, d3] => { results := [.lit (.bool true)], args := [d1, d2, d3] }
  | _ => none }
def fnExactMovedBlocksRow : OpenClaim := { program := "ytpfjjheognelhaa", sum := "3de2e6fc566e81006778d79e587bd1d0ff680484736f8f2945be4da2ff2d232c", func := "loop.example/g00914/laws.FnExactMovedBlocks", spec := "fnExactMovedBlocks", apart := false }
def FnExactMovedBlocksSaid : Prop := fnExactMovedBlocksRow.holds Try.pinned (OpenSpec.ofChange fnExactMovedBlocksSpec)

/-- ITS FALSE NEIGHBOUR: 'it returns false'. Refute it at one input. -/
def fnExactMovedBlocksWrong : ChangeSpec := { name := "fnExactMovedBlocks", fn := fun _ => fun
  | [d1, d2, d3] => { results := [.lit (.bool false)], args := [d1, d2, d3] }
  | _ => none }
def FnExactMovedBlocksWrongFalsely : Prop := fnExactMovedBlocksRow.holds Try.pinned (OpenSpec.ofChange fnExactMovedBlocksWrong)

/-- 'laws.FnExactMoveTable': WHATEVER THE INPUT: true; the input reads as it did. -/
def fnExactMoveTableSpec : ChangeSpec := { name := "fnExactMoveTable", fn := fun _ => fun
  | [d1, d2, d3] => { results := [.lit (.bool true)], args := [d1, d2, d3] }
  | _ => none }
def fnExactMoveTableRow : OpenClaim := { program := "ytpfjjheognelhaa", sum := "3de2e6fc566e81006778d79e587bd1d0ff680484736f8f2945be4da2ff2d232c", func := "loop.example/g00914/laws.FnExactMoveTable", spec := "fnExactMoveTable", apart := false }
def FnExactMoveTableSaid : Prop := fnExactMoveTableRow.holds Try.pinned (OpenSpec.ofChange fnExactMoveTableSpec)

/-- ITS FALSE NEIGHBOUR: 'it returns false'. Refute it at one input. -/
def fnExactMoveTableWrong : ChangeSpec := { name := "fnExactMoveTable", fn := fun _ => fun
  | [d1, d2, d3] => { results := [.lit (.bool false)], args := [d1, d2, d3] }
  | _ => none }
def FnExactMoveTableWrongFalsely : Prop := fnExactMoveTableRow.holds Try.pinned (OpenSpec.ofChange fnExactMoveTableWrong)

/-- 'laws.FnExactCommonPits': WHATEVER THE INPUT: true; the input reads as it did. -/
def fnExactCommonPitsSpec : ChangeSpec := { name := "fnExactCommonPits", fn := fun _ => fun
  | [d1, d2, d3] => { results := [.lit (.bool true)], args := [d1, d2, d3] }
  | _ => none }
def fnExactCommonPitsRow : OpenClaim := { program := "ytpfjjheognelhaa", sum := "3de2e6fc566e81006778d79e587bd1d0ff680484736f8f2945be4da2ff2d232c", func := "loop.example/g00914/laws.FnExactCommonPits", spec := "fnExactCommonPits", apart := false }
def FnExactCommonPitsSaid : Prop := fnExactCommonPitsRow.holds Try.pinned (OpenSpec.ofChange fnExactCommonPitsSpec)

/-- ITS FALSE NEIGHBOUR: 'it returns false'. Refute it at one input. -/
def fnExactCommonPitsWrong : ChangeSpec := { name := "fnExactCommonPits", fn := fun _ => fun
  | [d1, d2, d3] => { results := [.lit (.bool false)], args := [d1, d2, d3] }
  | _ => none }
def FnExactCommonPitsWrongFalsely : Prop := fnExactCommonPitsRow.holds Try.pinned (OpenSpec.ofChange fnExactCommonPitsWrong)

/-- 'laws.FnExactWorthBetween': WHATEVER THE INPUT: true; the input reads as it did. -/
def fnExactWorthBetweenSpec : ChangeSpec := { name := "fnExactWorthBetween", fn := fun _ => fun
  | [d1, d2, d3] => { results := [.lit (.bool true)], args := [d1, d2, d3] }
  | _ => none }
def fnExactWorthBetweenRow : OpenClaim := { program := "ytpfjjheognelhaa", sum := "3de2e6fc566e81006778d79e587bd1d0ff680484736f8f2945be4da2ff2d232c", func := "loop.example/g00914/laws.FnExactWorthBetween", spec := "fnExactWorthBetween", apart := false }
def FnExactWorthBetweenSaid : Prop := fnExactWorthBetweenRow.holds Try.pinned (OpenSpec.ofChange fnExactWorthBetweenSpec)

/-- ITS FALSE NEIGHBOUR: 'it returns false'. Refute it at one input. -/
def fnExactWorthBetweenWrong : ChangeSpec := { name := "fnExactWorthBetween", fn := fun _ => fun
  | [d1, d2, d3] => { results := [.lit (.bool false)], args := [d1, d2, d3] }
  | _ => none }
def FnExactWorthBetweenWrongFalsely : Prop := fnExactWorthBetweenRow.holds Try.pinned (OpenSpec.ofChange fnExactWorthBetweenWrong)

/-- 'laws.FnExactEarlierOf': WHATEVER THE INPUT: true; the input reads as it did. -/
def fnExactEarlierOfSpec : ChangeSpec := { name := "fnExactEarlierOf", fn := fun _ => fun
  | [d1, d2, d3] => { results := [.lit (.bool true)], args := [d1, d2, d3] }
  | _ => none }
def fnExactEarlierOfRow : OpenClaim := { program := "ytpfjjheognelhaa", sum := "3de2e6fc566e81006778d79e587bd1d0ff680484736f8f2945be4da2ff2d232c", func := "loop.example/g00914/laws.FnExactEarlierOf", spec := "fnExactEarlierOf", unfollowed := true, recurses := true, apart := false }
def FnExactEarlierOfSaid : Prop := fnExactEarlierOfRow.holds Try.pinned (OpenSpec.ofChange fnExactEarlierOfSpec)

/-- ITS FALSE NEIGHBOUR: 'it returns false'. Refute it at one input. -/
def fnExactEarlierOfWrong : ChangeSpec := { name := "fnExactEarlierOf", fn := fun _ => fun
  | [d1, d2, d3] => { results := [.lit (.bool false)], args := [d1, d2, d3] }
  | _ => none }
def FnExactEarlierOfWrongFalsely : Prop := fnExactEarlierOfRow.holds Try.pinned (OpenSpec.ofChange fnExactEarlierOfWrong)

/-- 'laws.FnExactLaterOf': WHATEVER THE INPUT: true; the input reads as it did. -/
def fnExactLaterOfSpec : ChangeSpec := { name := "fnExactLaterOf", fn := fun _ => fun
  | [d1, d2, d3] => { results := [.lit (.bool true)], args := [d1, d2, d3] }
  | _ => none }
def fnExactLaterOfRow : OpenClaim := { program := "ytpfjjheognelhaa", sum := "3de2e6fc566e81006778d79e587bd1d0ff680484736f8f2945be4da2ff2d232c", func := "loop.example/g00914/laws.FnExactLaterOf", spec := "fnExactLaterOf", unfollowed := true, recurses := true, apart := false }
def FnExactLaterOfSaid : Prop := fnExactLaterOfRow.holds Try.pinned (OpenSpec.ofChange fnExactLaterOfSpec)

/-- ITS FALSE NEIGHBOUR: 'it returns false'. Refute it at one input. -/
def fnExactLaterOfWrong : ChangeSpec := { name := "fnExactLaterOf", fn := fun _ => fun
  | [d1, d2, d3] => { results := [.lit (.bool false)], args := [d1, d2, d3] }
  | _ => none }
def FnExactLaterOfWrongFalsely : Prop := fnExactLaterOfRow.holds Try.pinned (OpenSpec.ofChange fnExactLaterOfWrong)

/-- 'laws.FnExactStepsTowards': WHATEVER THE INPUT: true; the input reads as it did. -/
def fnExactStepsTowardsSpec : ChangeSpec := { name := "fnExactStepsTowards", fn := fun _ => fun
  | [d1, d2, d3] => { results := [.lit (.bool true)], args := [d1, d2, d3] }
  | _ => none }
def fnExactStepsTowardsRow : OpenClaim := { program := "ytpfjjheognelhaa", sum := "3de2e6fc566e81006778d79e587bd1d0ff680484736f8f2945be4da2ff2d232c", func := "loop.example/g00914/laws.FnExactStepsTowards", spec := "fnExactStepsTowards", apart := false }
def FnExactStepsTowardsSaid : Prop := fnExactStepsTowardsRow.holds Try.pinned (OpenSpec.ofChange fnExactStepsTowardsSpec)

/-- ITS FALSE NEIGHBOUR: 'it returns false'. Refute it at one input. -/
def fnExactStepsTowardsWrong : ChangeSpec := { name := "fnExactStepsTowards", fn := fun _ => fun
  | [d1, d2, d3] => { results := [.lit (.bool false)], args := [d1, d2, d3] }
  | _ => none }
def FnExactStepsTowardsWrongFalsely : Prop := fnExactStepsTowardsRow.holds Try.pinned (OpenSpec.ofChange fnExactStepsTowardsWrong)

/-- 'laws.FnRows': WHATEVER THE INPUT: true; the input reads as it did. -/
def fnRowsSpec : ChangeSpec := { name := "fnRows", fn := fun _ => fun
  | [d1, d2] => { results := [.lit (.bool true)], args := [d1, d2] }
  | _ => none }
def fnRowsRow : OpenClaim := { program := "ytpfjjheognelhaa", sum := "3de2e6fc566e81006778d79e587bd1d0ff680484736f8f2945be4da2ff2d232c", func := "loop.example/g00914/laws.FnRows", spec := "fnRows", recurses := true, apart := false }
def FnRowsSaid : Prop := fnRowsRow.holds Try.pinned (OpenSpec.ofChange fnRowsSpec)

/-- ITS FALSE NEIGHBOUR: 'it returns false'. Refute it at one input. -/
def fnRowsWrong : ChangeSpec := { name := "fnRows", fn := fun _ => fun
  | [d1, d2] => { results := [.lit (.bool false)], args := [d1, d2] }
  | _ => none }
def FnRowsWrongFalsely : Prop := fnRowsRow.holds Try.pinned (OpenSpec.ofChange fnRowsWrong)

/- THE SECOND FORM. 'bulk': how many values and letters a reading holds, each counted each time it is reached (what is shared counts as often as it is met; a slice's spare places count too). A statement '..UptoSaid' is the law's where the arguments, and the package variables that the reading takes, are together of bulk at most 1048576: NARROWER than '..Said'. Prove '..Said' where nothing that the law and all that it calls make is longer than what came in: it says more and counts as full. Else prove '..UptoSaid'. A law counts once. -/
mutual
def uptoBulk {H : Type} : DataW H → Nat
  | .lit (.string bytes) => bytes.length + 1
  | .lit _ => 1
  | .nil => 1
  | .ptr d => uptoBulk d + 1
  | .slice elems spare => uptoBulkAll elems + uptoBulkAll spare + 1
  | .agg parts => uptoBulkAll parts + 1
  | .iface _ d => uptoBulk d + 1
  | .map entries => uptoBulkEntries entries + 1
  | .held _ => 1
def uptoBulkAll {H : Type} : List (DataW H) → Nat
  | [] => 0
  | d :: r => uptoBulk d + uptoBulkAll r
def uptoBulkEntries {H : Type} : List (Lit × DataW H) → Nat
  | [] => 0
  | x :: r => uptoBulkEntry x + uptoBulkEntries r
def uptoBulkEntry {H : Type} : Lit × DataW H → Nat
  | (.string bytes, d) => bytes.length + uptoBulk d + 1
  | (_, d) => uptoBulk d + 1
 end
def uptoSmall : (H : Type) → List (DataW H) → Bool := fun _ ds => decide (uptoBulkAll ds ≤ 1048576)
def OpenSpec.upto (s : _root_.Go.ChangeSpec) : _root_.Go.OpenSpec := { _root_.Go.OpenSpec.ofChange s with cond := some uptoSmall }

/-- 'laws.FnExactFirstApart', WHERE WHAT IT READS IS OF BULK AT MOST 1048576: true; the input reads as it did. -/
def fnExactFirstApartUptoRow : OpenClaim := { program := "ytpfjjheognelhaa", sum := "3de2e6fc566e81006778d79e587bd1d0ff680484736f8f2945be4da2ff2d232c", func := "loop.example/g00914/laws.FnExactFirstApart", spec := "fnExactFirstApart", apart := false, narrowed := true }
def FnExactFirstApartUptoSaid : Prop := fnExactFirstApartUptoRow.holds Try.pinned (OpenSpec.upto fnExactFirstApartSpec)

/-- 'laws.FnExactJoinReports', WHERE WHAT IT READS IS OF BULK AT MOST 1048576: true; the input reads as it did. -/
def fnExactJoinReportsUptoRow : OpenClaim := { program := "ytpfjjheognelhaa", sum := "3de2e6fc566e81006778d79e587bd1d0ff680484736f8f2945be4da2ff2d232c", func := "loop.example/g00914/laws.FnExactJoinReports", spec := "fnExactJoinReports", apart := false, narrowed := true }
def FnExactJoinReportsUptoSaid : Prop := fnExactJoinReportsUptoRow.holds Try.pinned (OpenSpec.upto fnExactJoinReportsSpec)

/-- 'laws.FnExactDifferRows', WHERE WHAT IT READS IS OF BULK AT MOST 1048576: true; the input reads as it did. -/
def fnExactDifferRowsUptoRow : OpenClaim := { program := "ytpfjjheognelhaa", sum := "3de2e6fc566e81006778d79e587bd1d0ff680484736f8f2945be4da2ff2d232c", func := "loop.example/g00914/laws.FnExactDifferRows", spec := "fnExactDifferRows", apart := false, narrowed := true }
def FnExactDifferRowsUptoSaid : Prop := fnExactDifferRowsUptoRow.holds Try.pinned (OpenSpec.upto fnExactDifferRowsSpec)

/-- 'laws.FnExactMovedBlocks', WHERE WHAT IT READS IS OF BULK AT MOST 1048576: true; the input reads as it did. -/
def fnExactMovedBlocksUptoRow : OpenClaim := { program := "ytpfjjheognelhaa", sum := "3de2e6fc566e81006778d79e587bd1d0ff680484736f8f2945be4da2ff2d232c", func := "loop.example/g00914/laws.FnExactMovedBlocks", spec := "fnExactMovedBlocks", apart := false, narrowed := true }
def FnExactMovedBlocksUptoSaid : Prop := fnExactMovedBlocksUptoRow.holds Try.pinned (OpenSpec.upto fnExactMovedBlocksSpec)

/-- 'laws.FnExactMoveTable', WHERE WHAT IT READS IS OF BULK AT MOST 1048576: true; the input reads as it did. -/
def fnExactMoveTableUptoRow : OpenClaim := { program := "ytpfjjheognelhaa", sum := "3de2e6fc566e81006778d79e587bd1d0ff680484736f8f2945be4da2ff2d232c", func := "loop.example/g00914/laws.FnExactMoveTable", spec := "fnExactMoveTable", apart := false, narrowed := true }
def FnExactMoveTableUptoSaid : Prop := fnExactMoveTableUptoRow.holds Try.pinned (OpenSpec.upto fnExactMoveTableSpec)

/-- 'laws.FnExactCommonPits', WHERE WHAT IT READS IS OF BULK AT MOST 1048576: true; the input reads as it did. -/
def fnExactCommonPitsUptoRow : OpenClaim := { program := "ytpfjjheognelhaa", sum := "3de2e6fc566e81006778d79e587bd1d0ff680484736f8f2945be4da2ff2d232c", func := "loop.example/g00914/laws.FnExactCommonPits", spec := "fnExactCommonPits", apart := false, narrowed := true }
def FnExactCommonPitsUptoSaid : Prop := fnExactCommonPitsUptoRow.holds Try.pinned (OpenSpec.upto fnExactCommonPitsSpec)

/-- 'laws.FnExactWorthBetween', WHERE WHAT IT READS IS OF BULK AT MOST 1048576: true; the input reads as it did. -/
def fnExactWorthBetweenUptoRow : OpenClaim := { program := "ytpfjjheognelhaa", sum := "3de2e6fc566e81006778d79e587bd1d0ff680484736f8f2945be4da2ff2d232c", func := "loop.example/g00914/laws.FnExactWorthBetween", spec := "fnExactWorthBetween", apart := false, narrowed := true }
def FnExactWorthBetweenUptoSaid : Prop := fnExactWorthBetweenUptoRow.holds Try.pinned (OpenSpec.upto fnExactWorthBetweenSpec)

/-- 'laws.FnExactEarlierOf', WHERE WHAT IT READS IS OF BULK AT MOST 1048576: true; the input reads as it did. -/
def fnExactEarlierOfUptoRow : OpenClaim := { program := "ytpfjjheognelhaa", sum := "3de2e6fc566e81006778d79e587bd1d0ff680484736f8f2945be4da2ff2d232c", func := "loop.example/g00914/laws.FnExactEarlierOf", spec := "fnExactEarlierOf", unfollowed := true, recurses := true, apart := false, narrowed := true }
def FnExactEarlierOfUptoSaid : Prop := fnExactEarlierOfUptoRow.holds Try.pinned (OpenSpec.upto fnExactEarlierOfSpec)

/-- 'laws.FnExactLaterOf', WHERE WHAT IT READS IS OF BULK AT MOST 1048576: true; the input reads as it did. -/
def fnExactLaterOfUptoRow : OpenClaim := { program := "ytpfjjheognelhaa", sum := "3de2e6fc566e81006778d79e587bd1d0ff680484736f8f2945be4da2ff2d232c", func := "loop.example/g00914/laws.FnExactLaterOf", spec := "fnExactLaterOf", unfollowed := true, recurses := true, apart := false, narrowed := true }
def FnExactLaterOfUptoSaid : Prop := fnExactLaterOfUptoRow.holds Try.pinned (OpenSpec.upto fnExactLaterOfSpec)

/-- 'laws.FnExactStepsTowards', WHERE WHAT IT READS IS OF BULK AT MOST 1048576: true; the input reads as it did. -/
def fnExactStepsTowardsUptoRow : OpenClaim := { program := "ytpfjjheognelhaa", sum := "3de2e6fc566e81006778d79e587bd1d0ff680484736f8f2945be4da2ff2d232c", func := "loop.example/g00914/laws.FnExactStepsTowards", spec := "fnExactStepsTowards", apart := false, narrowed := true }
def FnExactStepsTowardsUptoSaid : Prop := fnExactStepsTowardsUptoRow.holds Try.pinned (OpenSpec.upto fnExactStepsTowardsSpec)

/-- 'laws.FnRows', WHERE WHAT IT READS IS OF BULK AT MOST 1048576: true; the input reads as it did. -/
def fnRowsUptoRow : OpenClaim := { program := "ytpfjjheognelhaa", sum := "3de2e6fc566e81006778d79e587bd1d0ff680484736f8f2945be4da2ff2d232c", func := "loop.example/g00914/laws.FnRows", spec := "fnRows", recurses := true, apart := false, narrowed := true }
def FnRowsUptoSaid : Prop := fnRowsUptoRow.holds Try.pinned (OpenSpec.upto fnRowsSpec)

end Rows
end Go.Proofs.Ytpfjjheognelhaa
