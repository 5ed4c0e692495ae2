/-
  DERIVED. GIVEN WITH THE SEED: THE CARDS: each row of YtcobfgdbbcemkaaDoorRows.lean that lists a variable, with what it lists TIED to the program's text (the seventh form; the later family's looks); each row that meets fmt, with fmt's text TOLD by the authors' own Lean function (tested against real Go, not proved from fmt's source: count such statements apart). THE CARD IS WHAT COUNTS. Prove the row's statement (the work); the ties are given (YtcobfgdbbcemkaaDoorTie.lean); close each card by the builder's one call (the guide's Derived/Test/ToyasCard.lean, 'card_holds'). Laid BY PROGRAM, IN A SANDBOX (cutbox-door.mjs). By AI agents, Wed Nov 11 2026. No macro, syntax, notation, axiom, sorry.
-/
import Derived.Test.YtcobfgdbbcemkaaDoorRows
import GoSem.ClaimSeven
namespace Go.Proofs.YtcobfgdbbcemkaaDoor
namespace Rows

/-- THE TIED CARD OF 'laws.FnExactOpenReport'. -/
def fnExactOpenReportCard : Claim7 := { stood := { row := fnExactOpenReportRow, standIns := [], harness := (true, "55ee3e55ce230e219c80b2db83c2099419ef3a464f300eac26e17c86fc733bcc"), looks := false }, kinds := [], alts := [], laidByText := true, laidKinds := [.data, .data, .data, .data, .pinned], laidTests := true, laidLooks := .later }
def FnExactOpenReportCardSaid : Prop := Claim7.holds Tryd.pinned (.plain (OpenSpec.ofChange fnExactOpenReportSpec)) fnExactOpenReportCard

/-- THE SECOND FORM's CARD OF 'laws.FnExactOpenReport'. -/
def fnExactOpenReportUptoCard : Claim7 := { stood := { row := fnExactOpenReportUptoRow, standIns := [], harness := (true, "55ee3e55ce230e219c80b2db83c2099419ef3a464f300eac26e17c86fc733bcc"), looks := false }, kinds := [], alts := [], laidByText := true, laidKinds := [.data, .data, .data, .data, .pinned], laidTests := true, laidLooks := .later }
def FnExactOpenReportUptoCardSaid : Prop := Claim7.holds Tryd.pinned (.plain (OpenSpec.upto fnExactOpenReportSpec)) fnExactOpenReportUptoCard
end Rows
end Go.Proofs.YtcobfgdbbcemkaaDoor
