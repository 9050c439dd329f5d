/-
  DERIVED. GIVEN WITH THE SEED: THE CARDS: each row of YtloognjnfelgfaaGreatDoorRows.lean that lists a variable, with what it lists TIED to the program's text (the seventh form; the later family's looks); each row that meets fmt, with fmt's text TOLD by the authors' own Lean function (tested against real Go, not proved from fmt's source: count such statements apart). THE CARD IS WHAT COUNTS. Prove the row's statement (the work); the ties are given (YtloognjnfelgfaaGreatDoorTie.lean); close each card by the builder's one call (the guide's Derived/Test/ToyasCard.lean, 'card_holds'). Laid BY PROGRAM, IN A SANDBOX (cutbox-door.mjs). By AI agents, Wed Nov 11 2026. No macro, syntax, notation, axiom, sorry.
-/
import Derived.Test.YtloognjnfelgfaaGreatDoorRows
import GoSem.ClaimSeven
namespace Go.Proofs.YtloognjnfelgfaaGreatDoor
namespace Rows

/-- THE TIED CARD OF 'laws.FnExactDescribeExample'. -/
def fnExactDescribeExampleCard : Claim7 := { stood := { row := fnExactDescribeExampleRow, standIns := [], harness := (true, "790ab1d012ff8aaff52940540cfc08b5d71df4b919ff8e1b31a4acbe0f8dc260"), looks := false }, kinds := [], alts := [], laidByText := true, laidKinds := [.data, .data, .data], laidTests := true, laidLooks := .later }
def FnExactDescribeExampleCardSaid : Prop := Claim7.holds Tryz.pinned (.plain (OpenSpec.ofChange fnExactDescribeExampleSpec)) fnExactDescribeExampleCard

/-- THE TIED CARD OF 'laws.FnExamples'. -/
def fnExamplesCard : Claim7 := { stood := { row := fnExamplesRow, standIns := [], harness := (true, "790ab1d012ff8aaff52940540cfc08b5d71df4b919ff8e1b31a4acbe0f8dc260"), looks := false }, kinds := [], alts := [], laidByText := true, laidKinds := [.data, .data, .data], laidTests := true, laidLooks := .later }
def FnExamplesCardSaid : Prop := Claim7.holds Tryz.pinned (.plain (OpenSpec.ofChange fnExamplesSpec)) fnExamplesCard

/-- THE TIED CARD OF 'laws.FnExactStandardTableaux'. -/
def fnExactStandardTableauxCard : Claim7 := { stood := { row := fnExactStandardTableauxRow, standIns := [], harness := (true, "790ab1d012ff8aaff52940540cfc08b5d71df4b919ff8e1b31a4acbe0f8dc260"), looks := false }, kinds := [], alts := [], laidByText := true, laidKinds := [.data, .data, .data], laidTests := true, laidLooks := .later }
def FnExactStandardTableauxCardSaid : Prop := Claim7.holds Tryz.pinned (.plain (OpenSpec.ofChange fnExactStandardTableauxSpec)) fnExactStandardTableauxCard

/-- THE TIED CARD OF 'laws.FnExactTableauxOfWeight'. -/
def fnExactTableauxOfWeightCard : Claim7 := { stood := { row := fnExactTableauxOfWeightRow, standIns := [], harness := (true, "790ab1d012ff8aaff52940540cfc08b5d71df4b919ff8e1b31a4acbe0f8dc260"), looks := false }, kinds := [], alts := [], laidByText := true, laidKinds := [.data, .data, .data], laidTests := true, laidLooks := .later }
def FnExactTableauxOfWeightCardSaid : Prop := Claim7.holds Tryz.pinned (.plain (OpenSpec.ofChange fnExactTableauxOfWeightSpec)) fnExactTableauxOfWeightCard

/-- THE SECOND FORM's CARD OF 'laws.FnExactDescribeExample'. -/
def fnExactDescribeExampleUptoCard : Claim7 := { stood := { row := fnExactDescribeExampleUptoRow, standIns := [], harness := (true, "790ab1d012ff8aaff52940540cfc08b5d71df4b919ff8e1b31a4acbe0f8dc260"), looks := false }, kinds := [], alts := [], laidByText := true, laidKinds := [.data, .data, .data], laidTests := true, laidLooks := .later }
def FnExactDescribeExampleUptoCardSaid : Prop := Claim7.holds Tryz.pinned (.plain (OpenSpec.upto fnExactDescribeExampleSpec)) fnExactDescribeExampleUptoCard

/-- THE SECOND FORM's CARD OF 'laws.FnExamples'. -/
def fnExamplesUptoCard : Claim7 := { stood := { row := fnExamplesUptoRow, standIns := [], harness := (true, "790ab1d012ff8aaff52940540cfc08b5d71df4b919ff8e1b31a4acbe0f8dc260"), looks := false }, kinds := [], alts := [], laidByText := true, laidKinds := [.data, .data, .data], laidTests := true, laidLooks := .later }
def FnExamplesUptoCardSaid : Prop := Claim7.holds Tryz.pinned (.plain (OpenSpec.upto fnExamplesSpec)) fnExamplesUptoCard

/-- THE SECOND FORM's CARD OF 'laws.FnExactStandardTableaux'. -/
def fnExactStandardTableauxUptoCard : Claim7 := { stood := { row := fnExactStandardTableauxUptoRow, standIns := [], harness := (true, "790ab1d012ff8aaff52940540cfc08b5d71df4b919ff8e1b31a4acbe0f8dc260"), looks := false }, kinds := [], alts := [], laidByText := true, laidKinds := [.data, .data, .data], laidTests := true, laidLooks := .later }
def FnExactStandardTableauxUptoCardSaid : Prop := Claim7.holds Tryz.pinned (.plain (OpenSpec.upto fnExactStandardTableauxSpec)) fnExactStandardTableauxUptoCard

/-- THE SECOND FORM's CARD OF 'laws.FnExactTableauxOfWeight'. -/
def fnExactTableauxOfWeightUptoCard : Claim7 := { stood := { row := fnExactTableauxOfWeightUptoRow, standIns := [], harness := (true, "790ab1d012ff8aaff52940540cfc08b5d71df4b919ff8e1b31a4acbe0f8dc260"), looks := false }, kinds := [], alts := [], laidByText := true, laidKinds := [.data, .data, .data], laidTests := true, laidLooks := .later }
def FnExactTableauxOfWeightUptoCardSaid : Prop := Claim7.holds Tryz.pinned (.plain (OpenSpec.upto fnExactTableauxOfWeightSpec)) fnExactTableauxOfWeightUptoCard
end Rows
end Go.Proofs.YtloognjnfelgfaaGreatDoor
