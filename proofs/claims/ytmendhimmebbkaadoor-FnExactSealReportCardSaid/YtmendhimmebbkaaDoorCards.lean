/-
  DERIVED. GIVEN WITH THE SEED: THE CARDS: each row of YtmendhimmebbkaaDoorRows.lean that lists a variable, with what it lists TIED to the program's text (the seventh form; the later family's looks); each row that meets fmt, with fmt's text TOLD by the authors' own Lean function (tested against real Go, not proved from fmt's source: count such statements apart). THE CARD IS WHAT COUNTS. Prove the row's statement (the work); the ties are given (YtmendhimmebbkaaDoorTie.lean); close each card by the builder's one call (the guide's Derived/Test/ToyasCard.lean, 'card_holds'). Laid BY PROGRAM, IN A SANDBOX (cutbox-door.mjs). By AI agents, Wed Nov 11 2026. No macro, syntax, notation, axiom, sorry.
-/
import Derived.Test.YtmendhimmebbkaaDoorRows
import GoSem.ClaimSeven
namespace Go.Proofs.YtmendhimmebbkaaDoor
namespace Rows

/-- THE TIED CARD OF 'laws.FnExactReportText'. -/
def fnExactReportTextCard : Claim7 := { stood := { row := fnExactReportTextRow, standIns := [], harness := (true, "4a2910407fe4d97d5c7c6a89025753927db8002ac148e800751353dc40c4d302"), looks := false }, kinds := [], alts := [], laidByText := true, laidKinds := [.data, .data, .data], laidTests := true, laidLooks := .later }
def FnExactReportTextCardSaid : Prop := Claim7.holds Tryd.pinned (.plain (OpenSpec.ofChange fnExactReportTextSpec)) fnExactReportTextCard

/-- THE TIED CARD OF 'laws.FnExactSealReport'. -/
def fnExactSealReportCard : Claim7 := { stood := { row := fnExactSealReportRow, standIns := [], harness := (true, "4a2910407fe4d97d5c7c6a89025753927db8002ac148e800751353dc40c4d302"), looks := false }, kinds := [], alts := [], laidByText := true, laidKinds := [.data, .data, .data], laidTests := true, laidLooks := .later }
def FnExactSealReportCardSaid : Prop := Claim7.holds Tryd.pinned (.plain (OpenSpec.ofChange fnExactSealReportSpec)) fnExactSealReportCard

/-- THE TIED CARD OF 'laws.FnExactParseReport'. -/
def fnExactParseReportCard : Claim7 := { stood := { row := fnExactParseReportRow, standIns := [], harness := (true, "4a2910407fe4d97d5c7c6a89025753927db8002ac148e800751353dc40c4d302"), looks := false }, kinds := [], alts := [], laidByText := true, laidKinds := [.data, .pinned], laidTests := true, laidLooks := .later }
def FnExactParseReportCardSaid : Prop := Claim7.holds Tryd.pinned (.plain (OpenSpec.ofChange fnExactParseReportSpec)) fnExactParseReportCard

/-- THE TIED CARD OF 'laws.FnExactOpenReport'. -/
def fnExactOpenReportCard : Claim7 := { stood := { row := fnExactOpenReportRow, standIns := [], harness := (true, "4a2910407fe4d97d5c7c6a89025753927db8002ac148e800751353dc40c4d302"), looks := false }, kinds := [], alts := [], laidByText := true, laidKinds := [.data, .data, .data, .data, .pinned], laidTests := true, laidLooks := .later }
def FnExactOpenReportCardSaid : Prop := Claim7.holds Tryd.pinned (.plain (OpenSpec.ofChange fnExactOpenReportSpec)) fnExactOpenReportCard

/-- THE SECOND FORM's CARD OF 'laws.FnExactReportText'. -/
def fnExactReportTextUptoCard : Claim7 := { stood := { row := fnExactReportTextUptoRow, standIns := [], harness := (true, "4a2910407fe4d97d5c7c6a89025753927db8002ac148e800751353dc40c4d302"), looks := false }, kinds := [], alts := [], laidByText := true, laidKinds := [.data, .data, .data], laidTests := true, laidLooks := .later }
def FnExactReportTextUptoCardSaid : Prop := Claim7.holds Tryd.pinned (.plain (OpenSpec.upto fnExactReportTextSpec)) fnExactReportTextUptoCard

/-- THE SECOND FORM's CARD OF 'laws.FnExactSealReport'. -/
def fnExactSealReportUptoCard : Claim7 := { stood := { row := fnExactSealReportUptoRow, standIns := [], harness := (true, "4a2910407fe4d97d5c7c6a89025753927db8002ac148e800751353dc40c4d302"), looks := false }, kinds := [], alts := [], laidByText := true, laidKinds := [.data, .data, .data], laidTests := true, laidLooks := .later }
def FnExactSealReportUptoCardSaid : Prop := Claim7.holds Tryd.pinned (.plain (OpenSpec.upto fnExactSealReportSpec)) fnExactSealReportUptoCard

/-- THE SECOND FORM's CARD OF 'laws.FnExactParseReport'. -/
def fnExactParseReportUptoCard : Claim7 := { stood := { row := fnExactParseReportUptoRow, standIns := [], harness := (true, "4a2910407fe4d97d5c7c6a89025753927db8002ac148e800751353dc40c4d302"), looks := false }, kinds := [], alts := [], laidByText := true, laidKinds := [.data, .pinned], laidTests := true, laidLooks := .later }
def FnExactParseReportUptoCardSaid : Prop := Claim7.holds Tryd.pinned (.plain (OpenSpec.upto fnExactParseReportSpec)) fnExactParseReportUptoCard

/-- THE SECOND FORM's CARD OF 'laws.FnExactOpenReport'. -/
def fnExactOpenReportUptoCard : Claim7 := { stood := { row := fnExactOpenReportUptoRow, standIns := [], harness := (true, "4a2910407fe4d97d5c7c6a89025753927db8002ac148e800751353dc40c4d302"), looks := false }, kinds := [], alts := [], laidByText := true, laidKinds := [.data, .data, .data, .data, .pinned], laidTests := true, laidLooks := .later }
def FnExactOpenReportUptoCardSaid : Prop := Claim7.holds Tryd.pinned (.plain (OpenSpec.upto fnExactOpenReportSpec)) fnExactOpenReportUptoCard
end Rows
end Go.Proofs.YtmendhimmebbkaaDoor
