/-
  No cell of these rows narrows 'for every input' (looked for: loops, veiled, ifaces, maps, wideKeys, modest, calm, conditions, laid).
  DERIVED. THE GIVEN ROWS OF THIS SEAT. 6 by the template 'for every input the law returns true; each argument reads behind the call as it read before'; 0 by the template 'total and deterministic' (their statements: YtjembjngimmfmaaTotals.lean).
  GIVEN WITH THE SEED: the statements are not yours to turn. If you find one false, say at which input.
  Laid BY PROGRAM, IN A SANDBOX (cutbox-rows.mjs): the forced cells as the released guide's own fill.sh prints them over the translation a79f4a3e7109c365… (all of the seat's roots in one cut). By AI agents, Wed Nov 11 2026. No macro, syntax, notation, axiom, sorry.
-/
import Derived.Test.YtjembjngimmfmaaChecked
import GoSem.Claim
import GoSem.ClaimJoined
import GoSem.ClaimMapViews
import Derived.JoinedTies
import Derived.KernelRfl
namespace Go.Proofs.Ytjembjngimmfmaa
/- THE CELL 'sum', in the pinned program and in every row, IS THE sha256 OF THE DUMP (.gsa) THAT YtjembjngimmfmaaProg.lean LOADS. Nothing in Lean hashes anything: it is a label: what it is worth is what the hold of that sum in a sandbox is worth. -/
noncomputable def Try.pinned : Pinned := { name := "ytjembjngimmfmaa", sum := "a79f4a3e7109c365214bc8c339d9d304275b10a5285c7e2b7cdc19d74eb20f76", checked := Try.checked }
namespace Rows
def none {H : Type} : Left H := { results := [], args := [] }

/-- 'laws.FnExactEvacuateStandard': WHATEVER THE INPUT: true; the input reads as it did. -/
def fnExactEvacuateStandardSpec : ChangeSpec := { name := "fnExactEvacuateStandard", fn := fun _ => fun
  | [d] => { results := [.lit (.bool true)], args := [d] }
  | _ => none }
def fnExactEvacuateStandardRow : OpenClaim := { program := "ytjembjngimmfmaa", sum := "a79f4a3e7109c365214bc8c339d9d304275b10a5285c7e2b7cdc19d74eb20f76", func := "loop.example/g00598/laws.FnExactEvacuateStandard", spec := "fnExactEvacuateStandard", unfollowed := true, recurses := true, apart := false }
def FnExactEvacuateStandardSaid : Prop := fnExactEvacuateStandardRow.holds Try.pinned (OpenSpec.ofChange fnExactEvacuateStandardSpec)

/-- ITS FALSE NEIGHBOUR: 'it returns false'. Refute it at one input. -/
def fnExactEvacuateStandardWrong : ChangeSpec := { name := "fnExactEvacuateStandard", fn := fun _ => fun
  | [d] => { results := [.lit (.bool false)], args := [d] }
  | _ => none }
def FnExactEvacuateStandardWrongFalsely : Prop := fnExactEvacuateStandardRow.holds Try.pinned (OpenSpec.ofChange fnExactEvacuateStandardWrong)

/-- 'laws.FnExactIsSelfEvacuating': WHATEVER THE INPUT: true; the input reads as it did. -/
def fnExactIsSelfEvacuatingSpec : ChangeSpec := { name := "fnExactIsSelfEvacuating", fn := fun _ => fun
  | [d] => { results := [.lit (.bool true)], args := [d] }
  | _ => none }
def fnExactIsSelfEvacuatingRow : OpenClaim := { program := "ytjembjngimmfmaa", sum := "a79f4a3e7109c365214bc8c339d9d304275b10a5285c7e2b7cdc19d74eb20f76", func := "loop.example/g00598/laws.FnExactIsSelfEvacuating", spec := "fnExactIsSelfEvacuating", unfollowed := true, recurses := true, apart := false }
def FnExactIsSelfEvacuatingSaid : Prop := fnExactIsSelfEvacuatingRow.holds Try.pinned (OpenSpec.ofChange fnExactIsSelfEvacuatingSpec)

/-- ITS FALSE NEIGHBOUR: 'it returns false'. Refute it at one input. -/
def fnExactIsSelfEvacuatingWrong : ChangeSpec := { name := "fnExactIsSelfEvacuating", fn := fun _ => fun
  | [d] => { results := [.lit (.bool false)], args := [d] }
  | _ => none }
def FnExactIsSelfEvacuatingWrongFalsely : Prop := fnExactIsSelfEvacuatingRow.holds Try.pinned (OpenSpec.ofChange fnExactIsSelfEvacuatingWrong)

/-- 'laws.FnExactPromote': WHATEVER THE INPUT: true; the input reads as it did. -/
def fnExactPromoteSpec : ChangeSpec := { name := "fnExactPromote", fn := fun _ => fun
  | [d] => { results := [.lit (.bool true)], args := [d] }
  | _ => none }
def fnExactPromoteRow : OpenClaim := { program := "ytjembjngimmfmaa", sum := "a79f4a3e7109c365214bc8c339d9d304275b10a5285c7e2b7cdc19d74eb20f76", func := "loop.example/g00598/laws.FnExactPromote", spec := "fnExactPromote", unfollowed := true, recurses := true, apart := false }
def FnExactPromoteSaid : Prop := fnExactPromoteRow.holds Try.pinned (OpenSpec.ofChange fnExactPromoteSpec)

/-- ITS FALSE NEIGHBOUR: 'it returns false'. Refute it at one input. -/
def fnExactPromoteWrong : ChangeSpec := { name := "fnExactPromote", fn := fun _ => fun
  | [d] => { results := [.lit (.bool false)], args := [d] }
  | _ => none }
def FnExactPromoteWrongFalsely : Prop := fnExactPromoteRow.holds Try.pinned (OpenSpec.ofChange fnExactPromoteWrong)

/-- 'laws.FnExactPromotionOrder': WHATEVER THE INPUT: true; the input reads as it did. -/
def fnExactPromotionOrderSpec : ChangeSpec := { name := "fnExactPromotionOrder", fn := fun _ => fun
  | [d] => { results := [.lit (.bool true)], args := [d] }
  | _ => none }
def fnExactPromotionOrderRow : OpenClaim := { program := "ytjembjngimmfmaa", sum := "a79f4a3e7109c365214bc8c339d9d304275b10a5285c7e2b7cdc19d74eb20f76", func := "loop.example/g00598/laws.FnExactPromotionOrder", spec := "fnExactPromotionOrder", unfollowed := true, recurses := true, apart := false }
def FnExactPromotionOrderSaid : Prop := fnExactPromotionOrderRow.holds Try.pinned (OpenSpec.ofChange fnExactPromotionOrderSpec)

/-- ITS FALSE NEIGHBOUR: 'it returns false'. Refute it at one input. -/
def fnExactPromotionOrderWrong : ChangeSpec := { name := "fnExactPromotionOrder", fn := fun _ => fun
  | [d] => { results := [.lit (.bool false)], args := [d] }
  | _ => none }
def FnExactPromotionOrderWrongFalsely : Prop := fnExactPromotionOrderRow.holds Try.pinned (OpenSpec.ofChange fnExactPromotionOrderWrong)

/-- 'laws.FnExactDemote': WHATEVER THE INPUT: true; the input reads as it did. -/
def fnExactDemoteSpec : ChangeSpec := { name := "fnExactDemote", fn := fun _ => fun
  | [d] => { results := [.lit (.bool true)], args := [d] }
  | _ => none }
def fnExactDemoteRow : OpenClaim := { program := "ytjembjngimmfmaa", sum := "a79f4a3e7109c365214bc8c339d9d304275b10a5285c7e2b7cdc19d74eb20f76", func := "loop.example/g00598/laws.FnExactDemote", spec := "fnExactDemote", unfollowed := true, recurses := true, apart := false }
def FnExactDemoteSaid : Prop := fnExactDemoteRow.holds Try.pinned (OpenSpec.ofChange fnExactDemoteSpec)

/-- ITS FALSE NEIGHBOUR: 'it returns false'. Refute it at one input. -/
def fnExactDemoteWrong : ChangeSpec := { name := "fnExactDemote", fn := fun _ => fun
  | [d] => { results := [.lit (.bool false)], args := [d] }
  | _ => none }
def FnExactDemoteWrongFalsely : Prop := fnExactDemoteRow.holds Try.pinned (OpenSpec.ofChange fnExactDemoteWrong)

/-- 'laws.FnExactPromotionOrbit': WHATEVER THE INPUT: true; the input reads as it did. -/
def fnExactPromotionOrbitSpec : ChangeSpec := { name := "fnExactPromotionOrbit", fn := fun _ => fun
  | [d] => { results := [.lit (.bool true)], args := [d] }
  | _ => none }
def fnExactPromotionOrbitRow : OpenClaim := { program := "ytjembjngimmfmaa", sum := "a79f4a3e7109c365214bc8c339d9d304275b10a5285c7e2b7cdc19d74eb20f76", func := "loop.example/g00598/laws.FnExactPromotionOrbit", spec := "fnExactPromotionOrbit", unfollowed := true, recurses := true, apart := false }
def FnExactPromotionOrbitSaid : Prop := fnExactPromotionOrbitRow.holds Try.pinned (OpenSpec.ofChange fnExactPromotionOrbitSpec)

/-- ITS FALSE NEIGHBOUR: 'it returns false'. Refute it at one input. -/
def fnExactPromotionOrbitWrong : ChangeSpec := { name := "fnExactPromotionOrbit", fn := fun _ => fun
  | [d] => { results := [.lit (.bool false)], args := [d] }
  | _ => none }
def FnExactPromotionOrbitWrongFalsely : Prop := fnExactPromotionOrbitRow.holds Try.pinned (OpenSpec.ofChange fnExactPromotionOrbitWrong)

/- THE SECOND FORM. 'bulk': how many values and letters a reading holds, each counted each time it is reached (what is shared counts as often as it is met; a slice's spare places count too). A statement '..UptoSaid' is the law's where the arguments, and the package variables that the reading takes, are together of bulk at most 1048576: NARROWER than '..Said'. Prove '..Said' where nothing that the law and all that it calls make is longer than what came in: it says more and counts as full. Else prove '..UptoSaid'. A law counts once. -/
mutual
def uptoBulk {H : Type} : DataW H → Nat
  | .lit (.string bytes) => bytes.length + 1
  | .lit _ => 1
  | .nil => 1
  | .ptr d => uptoBulk d + 1
  | .slice elems spare => uptoBulkAll elems + uptoBulkAll spare + 1
  | .agg parts => uptoBulkAll parts + 1
  | .iface _ d => uptoBulk d + 1
  | .map entries => uptoBulkEntries entries + 1
  | .held _ => 1
def uptoBulkAll {H : Type} : List (DataW H) → Nat
  | [] => 0
  | d :: r => uptoBulk d + uptoBulkAll r
def uptoBulkEntries {H : Type} : List (Lit × DataW H) → Nat
  | [] => 0
  | x :: r => uptoBulkEntry x + uptoBulkEntries r
def uptoBulkEntry {H : Type} : Lit × DataW H → Nat
  | (.string bytes, d) => bytes.length + uptoBulk d + 1
  | (_, d) => uptoBulk d + 1
 end
def uptoSmall : (H : Type) → List (DataW H) → Bool := fun _ ds => decide (uptoBulkAll ds ≤ 1048576)
def OpenSpec.upto (s : _root_.Go.ChangeSpec) : _root_.Go.OpenSpec := { _root_.Go.OpenSpec.ofChange s with cond := some uptoSmall }

/-- 'laws.FnExactEvacuateStandard', WHERE WHAT IT READS IS OF BULK AT MOST 1048576: true; the input reads as it did. -/
def fnExactEvacuateStandardUptoRow : OpenClaim := { program := "ytjembjngimmfmaa", sum := "a79f4a3e7109c365214bc8c339d9d304275b10a5285c7e2b7cdc19d74eb20f76", func := "loop.example/g00598/laws.FnExactEvacuateStandard", spec := "fnExactEvacuateStandard", unfollowed := true, recurses := true, apart := false, narrowed := true }
def FnExactEvacuateStandardUptoSaid : Prop := fnExactEvacuateStandardUptoRow.holds Try.pinned (OpenSpec.upto fnExactEvacuateStandardSpec)

/-- 'laws.FnExactIsSelfEvacuating', WHERE WHAT IT READS IS OF BULK AT MOST 1048576: true; the input reads as it did. -/
def fnExactIsSelfEvacuatingUptoRow : OpenClaim := { program := "ytjembjngimmfmaa", sum := "a79f4a3e7109c365214bc8c339d9d304275b10a5285c7e2b7cdc19d74eb20f76", func := "loop.example/g00598/laws.FnExactIsSelfEvacuating", spec := "fnExactIsSelfEvacuating", unfollowed := true, recurses := true, apart := false, narrowed := true }
def FnExactIsSelfEvacuatingUptoSaid : Prop := fnExactIsSelfEvacuatingUptoRow.holds Try.pinned (OpenSpec.upto fnExactIsSelfEvacuatingSpec)

/-- 'laws.FnExactPromote', WHERE WHAT IT READS IS OF BULK AT MOST 1048576: true; the input reads as it did. -/
def fnExactPromoteUptoRow : OpenClaim := { program := "ytjembjngimmfmaa", sum := "a79f4a3e7109c365214bc8c339d9d304275b10a5285c7e2b7cdc19d74eb20f76", func := "loop.example/g00598/laws.FnExactPromote", spec := "fnExactPromote", unfollowed := true, recurses := true, apart := false, narrowed := true }
def FnExactPromoteUptoSaid : Prop := fnExactPromoteUptoRow.holds Try.pinned (OpenSpec.upto fnExactPromoteSpec)

/-- 'laws.FnExactPromotionOrder', WHERE WHAT IT READS IS OF BULK AT MOST 1048576: true; the input reads as it did. -/
def fnExactPromotionOrderUptoRow : OpenClaim := { program := "ytjembjngimmfmaa", sum := "a79f4a3e7109c365214bc8c339d9d304275b10a5285c7e2b7cdc19d74eb20f76", func := "loop.example/g00598/laws.FnExactPromotionOrder", spec := "fnExactPromotionOrder", unfollowed := true, recurses := true, apart := false, narrowed := true }
def FnExactPromotionOrderUptoSaid : Prop := fnExactPromotionOrderUptoRow.holds Try.pinned (OpenSpec.upto fnExactPromotionOrderSpec)

/-- 'laws.FnExactDemote', WHERE WHAT IT READS IS OF BULK AT MOST 1048576: true; the input reads as it did. -/
def fnExactDemoteUptoRow : OpenClaim := { program := "ytjembjngimmfmaa", sum := "a79f4a3e7109c365214bc8c339d9d304275b10a5285c7e2b7cdc19d74eb20f76", func := "loop.example/g00598/laws.FnExactDemote", spec := "fnExactDemote", unfollowed := true, recurses := true, apart := false, narrowed := true }
def FnExactDemoteUptoSaid : Prop := fnExactDemoteUptoRow.holds Try.pinned (OpenSpec.upto fnExactDemoteSpec)

/-- 'laws.FnExactPromotionOrbit', WHERE WHAT IT READS IS OF BULK AT MOST 1048576: true; the input reads as it did. -/
def fnExactPromotionOrbitUptoRow : OpenClaim := { program := "ytjembjngimmfmaa", sum := "a79f4a3e7109c365214bc8c339d9d304275b10a5285c7e2b7cdc19d74eb20f76", func := "loop.example/g00598/laws.FnExactPromotionOrbit", spec := "fnExactPromotionOrbit", unfollowed := true, recurses := true, apart := false, narrowed := true }
def FnExactPromotionOrbitUptoSaid : Prop := fnExactPromotionOrbitUptoRow.holds Try.pinned (OpenSpec.upto fnExactPromotionOrbitSpec)

end Rows
end Go.Proofs.Ytjembjngimmfmaa
