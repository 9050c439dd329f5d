/-
  No cell of these rows narrows 'for every input' (looked for: loops, veiled, ifaces, maps, wideKeys, modest, calm, conditions, laid).
  DERIVED. THE GIVEN ROWS OF THIS SEAT. 4 by the template 'for every input the law returns true; each argument reads behind the call as it read before'; 0 by the template 'total and deterministic' (their statements: YtlfpegcoaebmkaaTotals.lean).
  GIVEN WITH THE SEED: the statements are not yours to turn. If you find one false, say at which input.
  Laid BY PROGRAM, IN A SANDBOX (cutbox-rows.mjs): the forced cells as the released guide's own fill.sh prints them over the translation f5e99486ffdf69fa… (all of the seat's roots in one cut). By AI agents, Wed Nov 11 2026. No macro, syntax, notation, axiom, sorry.
-/
import Derived.Test.YtlfpegcoaebmkaaChecked
import GoSem.Claim
import GoSem.ClaimJoined
import GoSem.ClaimMapViews
import Derived.JoinedTies
import Derived.KernelRfl
namespace Go.Proofs.Ytlfpegcoaebmkaa
/- THE CELL 'sum', in the pinned program and in every row, IS THE sha256 OF THE DUMP (.gsa) THAT YtlfpegcoaebmkaaProg.lean LOADS. Nothing in Lean hashes anything: it is a label: what it is worth is what the hold of that sum in a sandbox is worth. -/
noncomputable def Try.pinned : Pinned := { name := "ytlfpegcoaebmkaa", sum := "f5e99486ffdf69fa7fe976223591369f9b2c2a1f91ba46367cbaf8d1caeec0c1", checked := Try.checked }
namespace Rows
def none {H : Type} : Left H := { results := [], args := [] }

/-- 'laws.FnExactCornerTableau': WHATEVER THE INPUT: true; the input reads as it did. -/
def fnExactCornerTableauSpec : ChangeSpec := { name := "fnExactCornerTableau", fn := fun _ => fun
  | [d1, d2] => { results := [.lit (.bool true)], args := [d1, d2] }
  | _ => none }
def fnExactCornerTableauRow : OpenClaim := { program := "ytlfpegcoaebmkaa", sum := "f5e99486ffdf69fa7fe976223591369f9b2c2a1f91ba46367cbaf8d1caeec0c1", func := "loop.example/g00598/laws.FnExactCornerTableau", spec := "fnExactCornerTableau", apart := false }
def FnExactCornerTableauSaid : Prop := fnExactCornerTableauRow.holds Try.pinned (OpenSpec.ofChange fnExactCornerTableauSpec)

/-- ITS FALSE NEIGHBOUR: 'it returns false'. Refute it at one input. -/
def fnExactCornerTableauWrong : ChangeSpec := { name := "fnExactCornerTableau", fn := fun _ => fun
  | [d1, d2] => { results := [.lit (.bool false)], args := [d1, d2] }
  | _ => none }
def FnExactCornerTableauWrongFalsely : Prop := fnExactCornerTableauRow.holds Try.pinned (OpenSpec.ofChange fnExactCornerTableauWrong)

/-- 'laws.FnSlides': WHATEVER THE INPUT: true; the input reads as it did. -/
def fnSlidesSpec : ChangeSpec := { name := "fnSlides", fn := fun _ => fun
  | [d] => { results := [.lit (.bool true)], args := [d] }
  | _ => none }
def fnSlidesRow : OpenClaim := { program := "ytlfpegcoaebmkaa", sum := "f5e99486ffdf69fa7fe976223591369f9b2c2a1f91ba46367cbaf8d1caeec0c1", func := "loop.example/g00598/laws.FnSlides", spec := "fnSlides", unfollowed := true, recurses := true, apart := false }
def FnSlidesSaid : Prop := fnSlidesRow.holds Try.pinned (OpenSpec.ofChange fnSlidesSpec)

/-- ITS FALSE NEIGHBOUR: 'it returns false'. Refute it at one input. -/
def fnSlidesWrong : ChangeSpec := { name := "fnSlides", fn := fun _ => fun
  | [d] => { results := [.lit (.bool false)], args := [d] }
  | _ => none }
def FnSlidesWrongFalsely : Prop := fnSlidesRow.holds Try.pinned (OpenSpec.ofChange fnSlidesWrong)

/-- 'laws.FnMatrices': WHATEVER THE INPUT: true; the input reads as it did. -/
def fnMatricesSpec : ChangeSpec := { name := "fnMatrices", fn := fun _ => fun
  | [d] => { results := [.lit (.bool true)], args := [d] }
  | _ => none }
def fnMatricesRow : OpenClaim := { program := "ytlfpegcoaebmkaa", sum := "f5e99486ffdf69fa7fe976223591369f9b2c2a1f91ba46367cbaf8d1caeec0c1", func := "loop.example/g00598/laws.FnMatrices", spec := "fnMatrices", unfollowed := true, recurses := true, apart := false }
def FnMatricesSaid : Prop := fnMatricesRow.holds Try.pinned (OpenSpec.ofChange fnMatricesSpec)

/-- ITS FALSE NEIGHBOUR: 'it returns false'. Refute it at one input. -/
def fnMatricesWrong : ChangeSpec := { name := "fnMatrices", fn := fun _ => fun
  | [d] => { results := [.lit (.bool false)], args := [d] }
  | _ => none }
def FnMatricesWrongFalsely : Prop := fnMatricesRow.holds Try.pinned (OpenSpec.ofChange fnMatricesWrong)

/-- 'laws.FnPromoted': WHATEVER THE INPUT: true; the input reads as it did. -/
def fnPromotedSpec : ChangeSpec := { name := "fnPromoted", fn := fun _ => fun
  | [d] => { results := [.lit (.bool true)], args := [d] }
  | _ => none }
def fnPromotedRow : OpenClaim := { program := "ytlfpegcoaebmkaa", sum := "f5e99486ffdf69fa7fe976223591369f9b2c2a1f91ba46367cbaf8d1caeec0c1", func := "loop.example/g00598/laws.FnPromoted", spec := "fnPromoted", unfollowed := true, recurses := true, apart := false }
def FnPromotedSaid : Prop := fnPromotedRow.holds Try.pinned (OpenSpec.ofChange fnPromotedSpec)

/-- ITS FALSE NEIGHBOUR: 'it returns false'. Refute it at one input. -/
def fnPromotedWrong : ChangeSpec := { name := "fnPromoted", fn := fun _ => fun
  | [d] => { results := [.lit (.bool false)], args := [d] }
  | _ => none }
def FnPromotedWrongFalsely : Prop := fnPromotedRow.holds Try.pinned (OpenSpec.ofChange fnPromotedWrong)

/- THE SECOND FORM. 'bulk': how many values and letters a reading holds, each counted each time it is reached (what is shared counts as often as it is met; a slice's spare places count too). A statement '..UptoSaid' is the law's where the arguments, and the package variables that the reading takes, are together of bulk at most 1048576: NARROWER than '..Said'. Prove '..Said' where nothing that the law and all that it calls make is longer than what came in: it says more and counts as full. Else prove '..UptoSaid'. A law counts once. -/
mutual
def uptoBulk {H : Type} : DataW H → Nat
  | .lit (.string bytes) => bytes.length + 1
  | .lit _ => 1
  | .nil => 1
  | .ptr d => uptoBulk d + 1
  | .slice elems spare => uptoBulkAll elems + uptoBulkAll spare + 1
  | .agg parts => uptoBulkAll parts + 1
  | .iface _ d => uptoBulk d + 1
  | .map entries => uptoBulkEntries entries + 1
  | .held _ => 1
def uptoBulkAll {H : Type} : List (DataW H) → Nat
  | [] => 0
  | d :: r => uptoBulk d + uptoBulkAll r
def uptoBulkEntries {H : Type} : List (Lit × DataW H) → Nat
  | [] => 0
  | x :: r => uptoBulkEntry x + uptoBulkEntries r
def uptoBulkEntry {H : Type} : Lit × DataW H → Nat
  | (.string bytes, d) => bytes.length + uptoBulk d + 1
  | (_, d) => uptoBulk d + 1
 end
def uptoSmall : (H : Type) → List (DataW H) → Bool := fun _ ds => decide (uptoBulkAll ds ≤ 1048576)
def OpenSpec.upto (s : _root_.Go.ChangeSpec) : _root_.Go.OpenSpec := { _root_.Go.OpenSpec.ofChange s with cond := some uptoSmall }

/-- 'laws.FnExactCornerTableau', WHERE WHAT IT READS IS OF BULK AT MOST 1048576: true; the input reads as it did. -/
def fnExactCornerTableauUptoRow : OpenClaim := { program := "ytlfpegcoaebmkaa", sum := "f5e99486ffdf69fa7fe976223591369f9b2c2a1f91ba46367cbaf8d1caeec0c1", func := "loop.example/g00598/laws.FnExactCornerTableau", spec := "fnExactCornerTableau", apart := false, narrowed := true }
def FnExactCornerTableauUptoSaid : Prop := fnExactCornerTableauUptoRow.holds Try.pinned (OpenSpec.upto fnExactCornerTableauSpec)

/-- 'laws.FnSlides', WHERE WHAT IT READS IS OF BULK AT MOST 1048576: true; the input reads as it did. -/
def fnSlidesUptoRow : OpenClaim := { program := "ytlfpegcoaebmkaa", sum := "f5e99486ffdf69fa7fe976223591369f9b2c2a1f91ba46367cbaf8d1caeec0c1", func := "loop.example/g00598/laws.FnSlides", spec := "fnSlides", unfollowed := true, recurses := true, apart := false, narrowed := true }
def FnSlidesUptoSaid : Prop := fnSlidesUptoRow.holds Try.pinned (OpenSpec.upto fnSlidesSpec)

/-- 'laws.FnMatrices', WHERE WHAT IT READS IS OF BULK AT MOST 1048576: true; the input reads as it did. -/
def fnMatricesUptoRow : OpenClaim := { program := "ytlfpegcoaebmkaa", sum := "f5e99486ffdf69fa7fe976223591369f9b2c2a1f91ba46367cbaf8d1caeec0c1", func := "loop.example/g00598/laws.FnMatrices", spec := "fnMatrices", unfollowed := true, recurses := true, apart := false, narrowed := true }
def FnMatricesUptoSaid : Prop := fnMatricesUptoRow.holds Try.pinned (OpenSpec.upto fnMatricesSpec)

/-- 'laws.FnPromoted', WHERE WHAT IT READS IS OF BULK AT MOST 1048576: true; the input reads as it did. -/
def fnPromotedUptoRow : OpenClaim := { program := "ytlfpegcoaebmkaa", sum := "f5e99486ffdf69fa7fe976223591369f9b2c2a1f91ba46367cbaf8d1caeec0c1", func := "loop.example/g00598/laws.FnPromoted", spec := "fnPromoted", unfollowed := true, recurses := true, apart := false, narrowed := true }
def FnPromotedUptoSaid : Prop := fnPromotedUptoRow.holds Try.pinned (OpenSpec.upto fnPromotedSpec)

end Rows
end Go.Proofs.Ytlfpegcoaebmkaa
