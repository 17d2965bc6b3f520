/-
  DERIVED. GIVEN WITH THE SEED: THE CARDS: each row of YtihmbddneapooaaDoorRows.lean that lists a variable, with what it lists TIED to the program's text (the seventh form; the later family's looks); each row that meets fmt, with fmt's text TOLD by the authors' own Lean function (tested against real Go, not proved from fmt's source: count such statements apart). THE CARD IS WHAT COUNTS. Prove the row's statement (the work); the ties are given (YtihmbddneapooaaDoorTie.lean); close each card by the builder's one call (the guide's Derived/Test/ToyasCard.lean, 'card_holds'). Laid BY PROGRAM, IN A SANDBOX (cutbox-door.mjs). By AI agents, Wed Nov 11 2026. No macro, syntax, notation, axiom, sorry.
-/
import Derived.Test.YtihmbddneapooaaDoorRows
import GoSem.ClaimSeven
namespace Go.Proofs.YtihmbddneapooaaDoor
namespace Rows

/-- THE TIED CARD OF 'chancerylaw3.PatternCharacters'. -/
def patternCharactersCard : Claim7 := { stood := { row := patternCharactersRow, standIns := [], harness := (true, "f0ae9b2e08f743ff25e75f4381144522cccf4e1562050b76da128a4941d635df"), looks := false }, kinds := [], alts := [], laidByText := true, laidKinds := [.data, .widerDeep], laidTests := true, laidLooks := .later }
def PatternCharactersCardSaid : Prop := Claim7.holds Tryd.pinned (.plain (OpenSpec.ofChange patternCharactersSpec)) patternCharactersCard

/-- THE TIED CARD OF 'chancerylaw3.BidiClasses'. -/
def bidiClassesCard : Claim7 := { stood := { row := bidiClassesRow, standIns := [], harness := (true, "f0ae9b2e08f743ff25e75f4381144522cccf4e1562050b76da128a4941d635df"), looks := false }, kinds := [], alts := [], laidByText := true, laidKinds := [.data, .widerDeep], laidTests := true, laidLooks := .later }
def BidiClassesCardSaid : Prop := Claim7.holds Tryd.pinned (.plain (OpenSpec.ofChange bidiClassesSpec)) bidiClassesCard

/-- THE TIED CARD OF 'chancerylaw3.MetricEms'. -/
def metricEmsCard : Claim7 := { stood := { row := metricEmsRow, standIns := [], harness := (true, "f0ae9b2e08f743ff25e75f4381144522cccf4e1562050b76da128a4941d635df"), looks := false }, kinds := [], alts := [], laidByText := true, laidKinds := [.widerDeep, .widerDeep], laidTests := true, laidLooks := .later }
def MetricEmsCardSaid : Prop := Claim7.holds Tryd.pinned (.plain (OpenSpec.ofChange metricEmsSpec)) metricEmsCard

/-- THE TIED CARD OF 'chancerylaw3.BreaksPlaces'. -/
def breaksPlacesCard : Claim7 := { stood := { row := breaksPlacesRow, standIns := [], harness := (true, "f0ae9b2e08f743ff25e75f4381144522cccf4e1562050b76da128a4941d635df"), looks := false }, kinds := [], alts := [], laidByText := true, laidKinds := [.widerDeep], laidTests := true, laidLooks := .later }
def BreaksPlacesCardSaid : Prop := Claim7.holds Tryd.pinned (.plain (OpenSpec.ofChange breaksPlacesSpec)) breaksPlacesCard

/-- THE SECOND FORM's CARD OF 'chancerylaw3.PatternCharacters'. -/
def patternCharactersUptoCard : Claim7 := { stood := { row := patternCharactersUptoRow, standIns := [], harness := (true, "f0ae9b2e08f743ff25e75f4381144522cccf4e1562050b76da128a4941d635df"), looks := false }, kinds := [], alts := [], laidByText := true, laidKinds := [.data, .widerDeep], laidTests := true, laidLooks := .later }
def PatternCharactersUptoCardSaid : Prop := Claim7.holds Tryd.pinned (.plain (OpenSpec.upto patternCharactersSpec)) patternCharactersUptoCard

/-- THE SECOND FORM's CARD OF 'chancerylaw3.BidiClasses'. -/
def bidiClassesUptoCard : Claim7 := { stood := { row := bidiClassesUptoRow, standIns := [], harness := (true, "f0ae9b2e08f743ff25e75f4381144522cccf4e1562050b76da128a4941d635df"), looks := false }, kinds := [], alts := [], laidByText := true, laidKinds := [.data, .widerDeep], laidTests := true, laidLooks := .later }
def BidiClassesUptoCardSaid : Prop := Claim7.holds Tryd.pinned (.plain (OpenSpec.upto bidiClassesSpec)) bidiClassesUptoCard

/-- THE SECOND FORM's CARD OF 'chancerylaw3.MetricEms'. -/
def metricEmsUptoCard : Claim7 := { stood := { row := metricEmsUptoRow, standIns := [], harness := (true, "f0ae9b2e08f743ff25e75f4381144522cccf4e1562050b76da128a4941d635df"), looks := false }, kinds := [], alts := [], laidByText := true, laidKinds := [.widerDeep, .widerDeep], laidTests := true, laidLooks := .later }
def MetricEmsUptoCardSaid : Prop := Claim7.holds Tryd.pinned (.plain (OpenSpec.upto metricEmsSpec)) metricEmsUptoCard

/-- THE SECOND FORM's CARD OF 'chancerylaw3.BreaksPlaces'. -/
def breaksPlacesUptoCard : Claim7 := { stood := { row := breaksPlacesUptoRow, standIns := [], harness := (true, "f0ae9b2e08f743ff25e75f4381144522cccf4e1562050b76da128a4941d635df"), looks := false }, kinds := [], alts := [], laidByText := true, laidKinds := [.widerDeep], laidTests := true, laidLooks := .later }
def BreaksPlacesUptoCardSaid : Prop := Claim7.holds Tryd.pinned (.plain (OpenSpec.upto breaksPlacesSpec)) breaksPlacesUptoCard
end Rows
end Go.Proofs.YtihmbddneapooaaDoor
