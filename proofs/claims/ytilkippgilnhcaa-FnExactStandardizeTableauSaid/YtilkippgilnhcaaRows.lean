/-
  No cell of these rows narrows 'for every input' (looked for: loops, veiled, ifaces, maps, wideKeys, modest, calm, conditions, laid).
  DERIVED. THE GIVEN ROWS OF THIS SEAT. 5 by the template 'for every input the law returns true; each argument reads behind the call as it read before'; 0 by the template 'total and deterministic' (their statements: YtilkippgilnhcaaTotals.lean).
  GIVEN WITH THE SEED: the statements are not yours to turn. If you find one false, say at which input.
  Laid BY PROGRAM, IN A SANDBOX (cutbox-rows.mjs): the forced cells as the released guide's own fill.sh prints them over the translation d38687951e23c7c2… (all of the seat's roots in one cut). By AI agents, Wed Nov 11 2026. No macro, syntax, notation, axiom, sorry.
-/
import Derived.Test.YtilkippgilnhcaaChecked
import GoSem.Claim
import GoSem.ClaimJoined
import GoSem.ClaimMapViews
import Derived.JoinedTies
import Derived.KernelRfl
namespace Go.Proofs.Ytilkippgilnhcaa
/- THE CELL 'sum', in the pinned program and in every row, IS THE sha256 OF THE DUMP (.gsa) THAT YtilkippgilnhcaaProg.lean LOADS. Nothing in Lean hashes anything: it is a label: what it is worth is what the hold of that sum in a sandbox is worth. -/
noncomputable def Try.pinned : Pinned := { name := "ytilkippgilnhcaa", sum := "d38687951e23c7c20867582cf139712de63503808c27289745f96625a2ecd490", checked := Try.checked }
namespace Rows
def none {H : Type} : Left H := { results := [], args := [] }

/-- 'laws.FnExactCornerTableau': WHATEVER THE INPUT: true; the input reads as it did. -/
def fnExactCornerTableauSpec : ChangeSpec := { name := "fnExactCornerTableau", fn := fun _ => fun
  | [d1, d2] => { results := [.lit (.bool true)], args := [d1, d2] }
  | _ => none }
def fnExactCornerTableauRow : OpenClaim := { program := "ytilkippgilnhcaa", sum := "d38687951e23c7c20867582cf139712de63503808c27289745f96625a2ecd490", func := "loop.example/g00598/laws.FnExactCornerTableau", spec := "fnExactCornerTableau", apart := false }
def FnExactCornerTableauSaid : Prop := fnExactCornerTableauRow.holds Try.pinned (OpenSpec.ofChange fnExactCornerTableauSpec)

/-- ITS FALSE NEIGHBOUR: 'it returns false'. Refute it at one input. -/
def fnExactCornerTableauWrong : ChangeSpec := { name := "fnExactCornerTableau", fn := fun _ => fun
  | [d1, d2] => { results := [.lit (.bool false)], args := [d1, d2] }
  | _ => none }
def FnExactCornerTableauWrongFalsely : Prop := fnExactCornerTableauRow.holds Try.pinned (OpenSpec.ofChange fnExactCornerTableauWrong)

/-- 'laws.FnExactWordOfPair': WHATEVER THE INPUT: true; the input reads as it did. -/
def fnExactWordOfPairSpec : ChangeSpec := { name := "fnExactWordOfPair", fn := fun _ => fun
  | [d1, d2] => { results := [.lit (.bool true)], args := [d1, d2] }
  | _ => none }
def fnExactWordOfPairRow : OpenClaim := { program := "ytilkippgilnhcaa", sum := "d38687951e23c7c20867582cf139712de63503808c27289745f96625a2ecd490", func := "loop.example/g00598/laws.FnExactWordOfPair", spec := "fnExactWordOfPair", unfollowed := true, recurses := true, apart := false }
def FnExactWordOfPairSaid : Prop := fnExactWordOfPairRow.holds Try.pinned (OpenSpec.ofChange fnExactWordOfPairSpec)

/-- ITS FALSE NEIGHBOUR: 'it returns false'. Refute it at one input. -/
def fnExactWordOfPairWrong : ChangeSpec := { name := "fnExactWordOfPair", fn := fun _ => fun
  | [d1, d2] => { results := [.lit (.bool false)], args := [d1, d2] }
  | _ => none }
def FnExactWordOfPairWrongFalsely : Prop := fnExactWordOfPairRow.holds Try.pinned (OpenSpec.ofChange fnExactWordOfPairWrong)

/-- 'laws.FnExactMatrixOfPair': WHATEVER THE INPUT: true; the input reads as it did. -/
def fnExactMatrixOfPairSpec : ChangeSpec := { name := "fnExactMatrixOfPair", fn := fun _ => fun
  | [d1, d2, d3, d4] => { results := [.lit (.bool true)], args := [d1, d2, d3, d4] }
  | _ => none }
def fnExactMatrixOfPairRow : OpenClaim := { program := "ytilkippgilnhcaa", sum := "d38687951e23c7c20867582cf139712de63503808c27289745f96625a2ecd490", func := "loop.example/g00598/laws.FnExactMatrixOfPair", spec := "fnExactMatrixOfPair", unfollowed := true, recurses := true, apart := false }
def FnExactMatrixOfPairSaid : Prop := fnExactMatrixOfPairRow.holds Try.pinned (OpenSpec.ofChange fnExactMatrixOfPairSpec)

/-- ITS FALSE NEIGHBOUR: 'it returns false'. Refute it at one input. -/
def fnExactMatrixOfPairWrong : ChangeSpec := { name := "fnExactMatrixOfPair", fn := fun _ => fun
  | [d1, d2, d3, d4] => { results := [.lit (.bool false)], args := [d1, d2, d3, d4] }
  | _ => none }
def FnExactMatrixOfPairWrongFalsely : Prop := fnExactMatrixOfPairRow.holds Try.pinned (OpenSpec.ofChange fnExactMatrixOfPairWrong)

/-- 'laws.FnInserted': WHATEVER THE INPUT: true; the input reads as it did. -/
def fnInsertedSpec : ChangeSpec := { name := "fnInserted", fn := fun _ => fun
  | [d] => { results := [.lit (.bool true)], args := [d] }
  | _ => none }
def fnInsertedRow : OpenClaim := { program := "ytilkippgilnhcaa", sum := "d38687951e23c7c20867582cf139712de63503808c27289745f96625a2ecd490", func := "loop.example/g00598/laws.FnInserted", spec := "fnInserted", unfollowed := true, recurses := true, apart := false }
def FnInsertedSaid : Prop := fnInsertedRow.holds Try.pinned (OpenSpec.ofChange fnInsertedSpec)

/-- ITS FALSE NEIGHBOUR: 'it returns false'. Refute it at one input. -/
def fnInsertedWrong : ChangeSpec := { name := "fnInserted", fn := fun _ => fun
  | [d] => { results := [.lit (.bool false)], args := [d] }
  | _ => none }
def FnInsertedWrongFalsely : Prop := fnInsertedRow.holds Try.pinned (OpenSpec.ofChange fnInsertedWrong)

/-- 'laws.FnExactStandardizeTableau': WHATEVER THE INPUT: true; the input reads as it did. -/
def fnExactStandardizeTableauSpec : ChangeSpec := { name := "fnExactStandardizeTableau", fn := fun _ => fun
  | [d] => { results := [.lit (.bool true)], args := [d] }
  | _ => none }
def fnExactStandardizeTableauRow : OpenClaim := { program := "ytilkippgilnhcaa", sum := "d38687951e23c7c20867582cf139712de63503808c27289745f96625a2ecd490", func := "loop.example/g00598/laws.FnExactStandardizeTableau", spec := "fnExactStandardizeTableau", unfollowed := true, recurses := true, apart := false }
def FnExactStandardizeTableauSaid : Prop := fnExactStandardizeTableauRow.holds Try.pinned (OpenSpec.ofChange fnExactStandardizeTableauSpec)

/-- ITS FALSE NEIGHBOUR: 'it returns false'. Refute it at one input. -/
def fnExactStandardizeTableauWrong : ChangeSpec := { name := "fnExactStandardizeTableau", fn := fun _ => fun
  | [d] => { results := [.lit (.bool false)], args := [d] }
  | _ => none }
def FnExactStandardizeTableauWrongFalsely : Prop := fnExactStandardizeTableauRow.holds Try.pinned (OpenSpec.ofChange fnExactStandardizeTableauWrong)

/- THE SECOND FORM. 'bulk': how many values and letters a reading holds, each counted each time it is reached (what is shared counts as often as it is met; a slice's spare places count too). A statement '..UptoSaid' is the law's where the arguments, and the package variables that the reading takes, are together of bulk at most 1048576: NARROWER than '..Said'. Prove '..Said' where nothing that the law and all that it calls make is longer than what came in: it says more and counts as full. Else prove '..UptoSaid'. A law counts once. -/
mutual
def uptoBulk {H : Type} : DataW H → Nat
  | .lit (.string bytes) => bytes.length + 1
  | .lit _ => 1
  | .nil => 1
  | .ptr d => uptoBulk d + 1
  | .slice elems spare => uptoBulkAll elems + uptoBulkAll spare + 1
  | .agg parts => uptoBulkAll parts + 1
  | .iface _ d => uptoBulk d + 1
  | .map entries => uptoBulkEntries entries + 1
  | .held _ => 1
def uptoBulkAll {H : Type} : List (DataW H) → Nat
  | [] => 0
  | d :: r => uptoBulk d + uptoBulkAll r
def uptoBulkEntries {H : Type} : List (Lit × DataW H) → Nat
  | [] => 0
  | x :: r => uptoBulkEntry x + uptoBulkEntries r
def uptoBulkEntry {H : Type} : Lit × DataW H → Nat
  | (.string bytes, d) => bytes.length + uptoBulk d + 1
  | (_, d) => uptoBulk d + 1
 end
def uptoSmall : (H : Type) → List (DataW H) → Bool := fun _ ds => decide (uptoBulkAll ds ≤ 1048576)
def OpenSpec.upto (s : _root_.Go.ChangeSpec) : _root_.Go.OpenSpec := { _root_.Go.OpenSpec.ofChange s with cond := some uptoSmall }

/-- 'laws.FnExactCornerTableau', WHERE WHAT IT READS IS OF BULK AT MOST 1048576: true; the input reads as it did. -/
def fnExactCornerTableauUptoRow : OpenClaim := { program := "ytilkippgilnhcaa", sum := "d38687951e23c7c20867582cf139712de63503808c27289745f96625a2ecd490", func := "loop.example/g00598/laws.FnExactCornerTableau", spec := "fnExactCornerTableau", apart := false, narrowed := true }
def FnExactCornerTableauUptoSaid : Prop := fnExactCornerTableauUptoRow.holds Try.pinned (OpenSpec.upto fnExactCornerTableauSpec)

/-- 'laws.FnExactWordOfPair', WHERE WHAT IT READS IS OF BULK AT MOST 1048576: true; the input reads as it did. -/
def fnExactWordOfPairUptoRow : OpenClaim := { program := "ytilkippgilnhcaa", sum := "d38687951e23c7c20867582cf139712de63503808c27289745f96625a2ecd490", func := "loop.example/g00598/laws.FnExactWordOfPair", spec := "fnExactWordOfPair", unfollowed := true, recurses := true, apart := false, narrowed := true }
def FnExactWordOfPairUptoSaid : Prop := fnExactWordOfPairUptoRow.holds Try.pinned (OpenSpec.upto fnExactWordOfPairSpec)

/-- 'laws.FnExactMatrixOfPair', WHERE WHAT IT READS IS OF BULK AT MOST 1048576: true; the input reads as it did. -/
def fnExactMatrixOfPairUptoRow : OpenClaim := { program := "ytilkippgilnhcaa", sum := "d38687951e23c7c20867582cf139712de63503808c27289745f96625a2ecd490", func := "loop.example/g00598/laws.FnExactMatrixOfPair", spec := "fnExactMatrixOfPair", unfollowed := true, recurses := true, apart := false, narrowed := true }
def FnExactMatrixOfPairUptoSaid : Prop := fnExactMatrixOfPairUptoRow.holds Try.pinned (OpenSpec.upto fnExactMatrixOfPairSpec)

/-- 'laws.FnInserted', WHERE WHAT IT READS IS OF BULK AT MOST 1048576: true; the input reads as it did. -/
def fnInsertedUptoRow : OpenClaim := { program := "ytilkippgilnhcaa", sum := "d38687951e23c7c20867582cf139712de63503808c27289745f96625a2ecd490", func := "loop.example/g00598/laws.FnInserted", spec := "fnInserted", unfollowed := true, recurses := true, apart := false, narrowed := true }
def FnInsertedUptoSaid : Prop := fnInsertedUptoRow.holds Try.pinned (OpenSpec.upto fnInsertedSpec)

/-- 'laws.FnExactStandardizeTableau', WHERE WHAT IT READS IS OF BULK AT MOST 1048576: true; the input reads as it did. -/
def fnExactStandardizeTableauUptoRow : OpenClaim := { program := "ytilkippgilnhcaa", sum := "d38687951e23c7c20867582cf139712de63503808c27289745f96625a2ecd490", func := "loop.example/g00598/laws.FnExactStandardizeTableau", spec := "fnExactStandardizeTableau", unfollowed := true, recurses := true, apart := false, narrowed := true }
def FnExactStandardizeTableauUptoSaid : Prop := fnExactStandardizeTableauUptoRow.holds Try.pinned (OpenSpec.upto fnExactStandardizeTableauSpec)

end Rows
end Go.Proofs.Ytilkippgilnhcaa
