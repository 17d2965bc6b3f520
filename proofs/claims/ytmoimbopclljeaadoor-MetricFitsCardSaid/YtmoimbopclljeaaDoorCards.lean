/-
  DERIVED. GIVEN WITH THE SEED: THE CARDS: each row of YtmoimbopclljeaaDoorRows.lean that lists a variable, with what it lists TIED to the program's text (the seventh form; the later family's looks); each row that meets fmt, with fmt's text TOLD by the authors' own Lean function (tested against real Go, not proved from fmt's source: count such statements apart). THE CARD IS WHAT COUNTS. Prove the row's statement (the work); the ties are given (YtmoimbopclljeaaDoorTie.lean); close each card by the builder's one call (the guide's Derived/Test/ToyasCard.lean, 'card_holds'). Laid BY PROGRAM, IN A SANDBOX (cutbox-door.mjs). By AI agents, Wed Nov 11 2026. No macro, syntax, notation, axiom, sorry.
-/
import Derived.Test.YtmoimbopclljeaaDoorRows
import GoSem.ClaimSeven
namespace Go.Proofs.YtmoimbopclljeaaDoor
namespace Rows

/-- THE TIED CARD OF 'chancerylaw3.MetricWidths'. -/
def metricWidthsCard : Claim7 := { stood := { row := metricWidthsRow, standIns := [], harness := (true, "35dfbe8efe867b77b346bb56e7fb81c55de22b8ec9044ba7687adb672aa8ff1f"), looks := false }, kinds := [], alts := [], laidByText := true, laidKinds := [.widerDeep, .widerDeep], laidTests := true, laidLooks := .later }
def MetricWidthsCardSaid : Prop := Claim7.holds Tryd.pinned (.plain (OpenSpec.ofChange metricWidthsSpec)) metricWidthsCard

/-- THE TIED CARD OF 'chancerylaw3.MetricFits'. -/
def metricFitsCard : Claim7 := { stood := { row := metricFitsRow, standIns := [], harness := (true, "35dfbe8efe867b77b346bb56e7fb81c55de22b8ec9044ba7687adb672aa8ff1f"), looks := false }, kinds := [], alts := [], laidByText := true, laidKinds := [.widerDeep, .widerDeep], laidTests := true, laidLooks := .later }
def MetricFitsCardSaid : Prop := Claim7.holds Tryd.pinned (.plain (OpenSpec.ofChange metricFitsSpec)) metricFitsCard

/-- THE SECOND FORM's CARD OF 'chancerylaw3.MetricWidths'. -/
def metricWidthsUptoCard : Claim7 := { stood := { row := metricWidthsUptoRow, standIns := [], harness := (true, "35dfbe8efe867b77b346bb56e7fb81c55de22b8ec9044ba7687adb672aa8ff1f"), looks := false }, kinds := [], alts := [], laidByText := true, laidKinds := [.widerDeep, .widerDeep], laidTests := true, laidLooks := .later }
def MetricWidthsUptoCardSaid : Prop := Claim7.holds Tryd.pinned (.plain (OpenSpec.upto metricWidthsSpec)) metricWidthsUptoCard

/-- THE SECOND FORM's CARD OF 'chancerylaw3.MetricFits'. -/
def metricFitsUptoCard : Claim7 := { stood := { row := metricFitsUptoRow, standIns := [], harness := (true, "35dfbe8efe867b77b346bb56e7fb81c55de22b8ec9044ba7687adb672aa8ff1f"), looks := false }, kinds := [], alts := [], laidByText := true, laidKinds := [.widerDeep, .widerDeep], laidTests := true, laidLooks := .later }
def MetricFitsUptoCardSaid : Prop := Claim7.holds Tryd.pinned (.plain (OpenSpec.upto metricFitsSpec)) metricFitsUptoCard
end Rows
end Go.Proofs.YtmoimbopclljeaaDoor
