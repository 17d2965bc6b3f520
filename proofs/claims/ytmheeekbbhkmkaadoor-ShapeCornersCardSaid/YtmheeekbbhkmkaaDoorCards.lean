/-
  DERIVED. GIVEN WITH THE SEED: THE CARDS: each row of YtmheeekbbhkmkaaDoorRows.lean that lists a variable, with what it lists TIED to the program's text (the seventh form; the later family's looks); each row that meets fmt, with fmt's text TOLD by the authors' own Lean function (tested against real Go, not proved from fmt's source: count such statements apart). THE CARD IS WHAT COUNTS. Prove the row's statement (the work); the ties are given (YtmheeekbbhkmkaaDoorTie.lean); close each card by the builder's one call (the guide's Derived/Test/ToyasCard.lean, 'card_holds'). Laid BY PROGRAM, IN A SANDBOX (cutbox-door.mjs). By AI agents, Wed Nov 11 2026. No macro, syntax, notation, axiom, sorry.
-/
import Derived.Test.YtmheeekbbhkmkaaDoorRows
import GoSem.ClaimSeven
namespace Go.Proofs.YtmheeekbbhkmkaaDoor
namespace Rows

/-- THE TIED CARD OF 'chancerylaw3.ShapeCorners'. -/
def shapeCornersCard : Claim7 := { stood := { row := shapeCornersRow, standIns := [], harness := (true, "f3706f7acc5673be0663e59bf3effe4baaa613722eef1b57f2ef94bac0064f6e"), looks := false }, kinds := [], alts := [], laidByText := true, laidKinds := [.data, .data], laidTests := true, laidLooks := .later }
def ShapeCornersCardSaid : Prop := Claim7.holds Tryd.pinned (.plain (OpenSpec.ofChange shapeCornersSpec)) shapeCornersCard

/-- THE TIED CARD OF 'chancerylaw3.ShapeHits'. -/
def shapeHitsCard : Claim7 := { stood := { row := shapeHitsRow, standIns := [], harness := (true, "f3706f7acc5673be0663e59bf3effe4baaa613722eef1b57f2ef94bac0064f6e"), looks := false }, kinds := [], alts := [], laidByText := true, laidKinds := [.data, .data], laidTests := true, laidLooks := .later }
def ShapeHitsCardSaid : Prop := Claim7.holds Tryd.pinned (.plain (OpenSpec.ofChange shapeHitsSpec)) shapeHitsCard

/-- THE SECOND FORM's CARD OF 'chancerylaw3.ShapeCorners'. -/
def shapeCornersUptoCard : Claim7 := { stood := { row := shapeCornersUptoRow, standIns := [], harness := (true, "f3706f7acc5673be0663e59bf3effe4baaa613722eef1b57f2ef94bac0064f6e"), looks := false }, kinds := [], alts := [], laidByText := true, laidKinds := [.data, .data], laidTests := true, laidLooks := .later }
def ShapeCornersUptoCardSaid : Prop := Claim7.holds Tryd.pinned (.plain (OpenSpec.upto shapeCornersSpec)) shapeCornersUptoCard

/-- THE SECOND FORM's CARD OF 'chancerylaw3.ShapeHits'. -/
def shapeHitsUptoCard : Claim7 := { stood := { row := shapeHitsUptoRow, standIns := [], harness := (true, "f3706f7acc5673be0663e59bf3effe4baaa613722eef1b57f2ef94bac0064f6e"), looks := false }, kinds := [], alts := [], laidByText := true, laidKinds := [.data, .data], laidTests := true, laidLooks := .later }
def ShapeHitsUptoCardSaid : Prop := Claim7.holds Tryd.pinned (.plain (OpenSpec.upto shapeHitsSpec)) shapeHitsUptoCard
end Rows
end Go.Proofs.YtmheeekbbhkmkaaDoor
