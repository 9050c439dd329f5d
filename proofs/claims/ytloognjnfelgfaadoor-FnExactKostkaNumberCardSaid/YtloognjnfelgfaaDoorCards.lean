/-
  DERIVED. GIVEN WITH THE SEED: THE CARDS: each row of YtloognjnfelgfaaDoorRows.lean that lists a variable, with what it lists TIED to the program's text (the seventh form; the later family's looks); each row that meets fmt, with fmt's text TOLD by the authors' own Lean function (tested against real Go, not proved from fmt's source: count such statements apart). THE CARD IS WHAT COUNTS. Prove the row's statement (the work); the ties are given (YtloognjnfelgfaaDoorTie.lean); close each card by the builder's one call (the guide's Derived/Test/ToyasCard.lean, 'card_holds'). Laid BY PROGRAM, IN A SANDBOX (cutbox-door.mjs). By AI agents, Wed Nov 11 2026. No macro, syntax, notation, axiom, sorry.
-/
import Derived.Test.YtloognjnfelgfaaDoorRows
import GoSem.ClaimSeven
namespace Go.Proofs.YtloognjnfelgfaaDoor
namespace Rows

/-- THE TIED CARD OF 'laws.FnExactNewSession'. -/
def fnExactNewSessionCard : Claim7 := { stood := { row := fnExactNewSessionRow, standIns := [], harness := (true, "39a1f39b206c1ff0061bf7e8c4a023a5795e43bcb18c00d96afd10b565222a04"), looks := false }, kinds := [], alts := [], laidByText := true, laidKinds := [.data, .data, .data], laidTests := true, laidLooks := .later }
def FnExactNewSessionCardSaid : Prop := Claim7.holds Tryd.pinned (.plain (OpenSpec.ofChange fnExactNewSessionSpec)) fnExactNewSessionCard

/-- THE TIED CARD OF 'laws.FnExactDescribeWord'. -/
def fnExactDescribeWordCard : Claim7 := { stood := { row := fnExactDescribeWordRow, standIns := [], harness := (true, "39a1f39b206c1ff0061bf7e8c4a023a5795e43bcb18c00d96afd10b565222a04"), looks := false }, kinds := [], alts := [], laidByText := true, laidKinds := [.data, .data, .data], laidTests := true, laidLooks := .later }
def FnExactDescribeWordCardSaid : Prop := Claim7.holds Tryd.pinned (.plain (OpenSpec.ofChange fnExactDescribeWordSpec)) fnExactDescribeWordCard

/-- THE TIED CARD OF 'laws.FnExactCountStandard'. -/
def fnExactCountStandardCard : Claim7 := { stood := { row := fnExactCountStandardRow, standIns := [], harness := (true, "39a1f39b206c1ff0061bf7e8c4a023a5795e43bcb18c00d96afd10b565222a04"), looks := false }, kinds := [], alts := [], laidByText := true, laidKinds := [.data, .data, .data], laidTests := true, laidLooks := .later }
def FnExactCountStandardCardSaid : Prop := Claim7.holds Tryd.pinned (.plain (OpenSpec.ofChange fnExactCountStandardSpec)) fnExactCountStandardCard

/-- THE TIED CARD OF 'laws.FnExactKostkaNumber'. -/
def fnExactKostkaNumberCard : Claim7 := { stood := { row := fnExactKostkaNumberRow, standIns := [], harness := (true, "39a1f39b206c1ff0061bf7e8c4a023a5795e43bcb18c00d96afd10b565222a04"), looks := false }, kinds := [], alts := [], laidByText := true, laidKinds := [.data, .data, .data], laidTests := true, laidLooks := .later }
def FnExactKostkaNumberCardSaid : Prop := Claim7.holds Tryd.pinned (.plain (OpenSpec.ofChange fnExactKostkaNumberSpec)) fnExactKostkaNumberCard

/-- THE SECOND FORM's CARD OF 'laws.FnExactNewSession'. -/
def fnExactNewSessionUptoCard : Claim7 := { stood := { row := fnExactNewSessionUptoRow, standIns := [], harness := (true, "39a1f39b206c1ff0061bf7e8c4a023a5795e43bcb18c00d96afd10b565222a04"), looks := false }, kinds := [], alts := [], laidByText := true, laidKinds := [.data, .data, .data], laidTests := true, laidLooks := .later }
def FnExactNewSessionUptoCardSaid : Prop := Claim7.holds Tryd.pinned (.plain (OpenSpec.upto fnExactNewSessionSpec)) fnExactNewSessionUptoCard

/-- THE SECOND FORM's CARD OF 'laws.FnExactDescribeWord'. -/
def fnExactDescribeWordUptoCard : Claim7 := { stood := { row := fnExactDescribeWordUptoRow, standIns := [], harness := (true, "39a1f39b206c1ff0061bf7e8c4a023a5795e43bcb18c00d96afd10b565222a04"), looks := false }, kinds := [], alts := [], laidByText := true, laidKinds := [.data, .data, .data], laidTests := true, laidLooks := .later }
def FnExactDescribeWordUptoCardSaid : Prop := Claim7.holds Tryd.pinned (.plain (OpenSpec.upto fnExactDescribeWordSpec)) fnExactDescribeWordUptoCard

/-- THE SECOND FORM's CARD OF 'laws.FnExactCountStandard'. -/
def fnExactCountStandardUptoCard : Claim7 := { stood := { row := fnExactCountStandardUptoRow, standIns := [], harness := (true, "39a1f39b206c1ff0061bf7e8c4a023a5795e43bcb18c00d96afd10b565222a04"), looks := false }, kinds := [], alts := [], laidByText := true, laidKinds := [.data, .data, .data], laidTests := true, laidLooks := .later }
def FnExactCountStandardUptoCardSaid : Prop := Claim7.holds Tryd.pinned (.plain (OpenSpec.upto fnExactCountStandardSpec)) fnExactCountStandardUptoCard

/-- THE SECOND FORM's CARD OF 'laws.FnExactKostkaNumber'. -/
def fnExactKostkaNumberUptoCard : Claim7 := { stood := { row := fnExactKostkaNumberUptoRow, standIns := [], harness := (true, "39a1f39b206c1ff0061bf7e8c4a023a5795e43bcb18c00d96afd10b565222a04"), looks := false }, kinds := [], alts := [], laidByText := true, laidKinds := [.data, .data, .data], laidTests := true, laidLooks := .later }
def FnExactKostkaNumberUptoCardSaid : Prop := Claim7.holds Tryd.pinned (.plain (OpenSpec.upto fnExactKostkaNumberSpec)) fnExactKostkaNumberUptoCard
end Rows
end Go.Proofs.YtloognjnfelgfaaDoor
