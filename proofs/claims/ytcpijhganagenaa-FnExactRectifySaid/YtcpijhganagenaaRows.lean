/-
  No cell of these rows narrows 'for every input' (looked for: loops, veiled, ifaces, maps, wideKeys, modest, calm, conditions, laid).
  DERIVED. THE GIVEN ROWS OF THIS SEAT. 6 by the template 'for every input the law returns true; each argument reads behind the call as it read before'; 0 by the template 'total and deterministic' (their statements: YtcpijhganagenaaTotals.lean).
  GIVEN WITH THE SEED: the statements are not yours to turn. If you find one false, say at which input.
  Laid BY PROGRAM, IN A SANDBOX (cutbox-rows.mjs): the forced cells as the released guide's own fill.sh prints them over the translation 60347cc3be539b93… (all of the seat's roots in one cut). By AI agents, Wed Nov 11 2026. No macro, syntax, notation, axiom, sorry.
-/
import Derived.Test.YtcpijhganagenaaChecked
import GoSem.Claim
import GoSem.ClaimJoined
import GoSem.ClaimMapViews
import Derived.JoinedTies
import Derived.KernelRfl
namespace Go.Proofs.Ytcpijhganagenaa
/- THE CELL 'sum', in the pinned program and in every row, IS THE sha256 OF THE DUMP (.gsa) THAT YtcpijhganagenaaProg.lean LOADS. Nothing in Lean hashes anything: it is a label: what it is worth is what the hold of that sum in a sandbox is worth. -/
noncomputable def Try.pinned : Pinned := { name := "ytcpijhganagenaa", sum := "60347cc3be539b936695cc7f66d6d495faaadfdebd7e60e60a51c87bcaea5425", checked := Try.checked }
namespace Rows
def none {H : Type} : Left H := { results := [], args := [] }

/-- 'laws.FnExactRemoveCell': WHATEVER THE INPUT: true; the input reads as it did. -/
def fnExactRemoveCellSpec : ChangeSpec := { name := "fnExactRemoveCell", fn := fun _ => fun
  | [d1, d2] => { results := [.lit (.bool true)], args := [d1, d2] }
  | _ => none }
def fnExactRemoveCellRow : OpenClaim := { program := "ytcpijhganagenaa", sum := "60347cc3be539b936695cc7f66d6d495faaadfdebd7e60e60a51c87bcaea5425", func := "loop.example/g00598/laws.FnExactRemoveCell", spec := "fnExactRemoveCell", unfollowed := true, recurses := true, apart := false }
def FnExactRemoveCellSaid : Prop := fnExactRemoveCellRow.holds Try.pinned (OpenSpec.ofChange fnExactRemoveCellSpec)

/-- ITS FALSE NEIGHBOUR: 'it returns false'. Refute it at one input. -/
def fnExactRemoveCellWrong : ChangeSpec := { name := "fnExactRemoveCell", fn := fun _ => fun
  | [d1, d2] => { results := [.lit (.bool false)], args := [d1, d2] }
  | _ => none }
def FnExactRemoveCellWrongFalsely : Prop := fnExactRemoveCellRow.holds Try.pinned (OpenSpec.ofChange fnExactRemoveCellWrong)

/-- 'laws.FnExactRectify': WHATEVER THE INPUT: true; the input reads as it did. -/
def fnExactRectifySpec : ChangeSpec := { name := "fnExactRectify", fn := fun _ => fun
  | [d] => { results := [.lit (.bool true)], args := [d] }
  | _ => none }
def fnExactRectifyRow : OpenClaim := { program := "ytcpijhganagenaa", sum := "60347cc3be539b936695cc7f66d6d495faaadfdebd7e60e60a51c87bcaea5425", func := "loop.example/g00598/laws.FnExactRectify", spec := "fnExactRectify", apart := false }
def FnExactRectifySaid : Prop := fnExactRectifyRow.holds Try.pinned (OpenSpec.ofChange fnExactRectifySpec)

/-- ITS FALSE NEIGHBOUR: 'it returns false'. Refute it at one input. -/
def fnExactRectifyWrong : ChangeSpec := { name := "fnExactRectify", fn := fun _ => fun
  | [d] => { results := [.lit (.bool false)], args := [d] }
  | _ => none }
def FnExactRectifyWrongFalsely : Prop := fnExactRectifyRow.holds Try.pinned (OpenSpec.ofChange fnExactRectifyWrong)

/-- 'laws.FnExactWordOfPair': WHATEVER THE INPUT: true; the input reads as it did. -/
def fnExactWordOfPairSpec : ChangeSpec := { name := "fnExactWordOfPair", fn := fun _ => fun
  | [d1, d2] => { results := [.lit (.bool true)], args := [d1, d2] }
  | _ => none }
def fnExactWordOfPairRow : OpenClaim := { program := "ytcpijhganagenaa", sum := "60347cc3be539b936695cc7f66d6d495faaadfdebd7e60e60a51c87bcaea5425", func := "loop.example/g00598/laws.FnExactWordOfPair", spec := "fnExactWordOfPair", unfollowed := true, recurses := true, apart := false }
def FnExactWordOfPairSaid : Prop := fnExactWordOfPairRow.holds Try.pinned (OpenSpec.ofChange fnExactWordOfPairSpec)

/-- ITS FALSE NEIGHBOUR: 'it returns false'. Refute it at one input. -/
def fnExactWordOfPairWrong : ChangeSpec := { name := "fnExactWordOfPair", fn := fun _ => fun
  | [d1, d2] => { results := [.lit (.bool false)], args := [d1, d2] }
  | _ => none }
def FnExactWordOfPairWrongFalsely : Prop := fnExactWordOfPairRow.holds Try.pinned (OpenSpec.ofChange fnExactWordOfPairWrong)

/-- 'laws.FnExactEvacuateStandard': WHATEVER THE INPUT: true; the input reads as it did. -/
def fnExactEvacuateStandardSpec : ChangeSpec := { name := "fnExactEvacuateStandard", fn := fun _ => fun
  | [d] => { results := [.lit (.bool true)], args := [d] }
  | _ => none }
def fnExactEvacuateStandardRow : OpenClaim := { program := "ytcpijhganagenaa", sum := "60347cc3be539b936695cc7f66d6d495faaadfdebd7e60e60a51c87bcaea5425", func := "loop.example/g00598/laws.FnExactEvacuateStandard", spec := "fnExactEvacuateStandard", unfollowed := true, recurses := true, apart := false }
def FnExactEvacuateStandardSaid : Prop := fnExactEvacuateStandardRow.holds Try.pinned (OpenSpec.ofChange fnExactEvacuateStandardSpec)

/-- ITS FALSE NEIGHBOUR: 'it returns false'. Refute it at one input. -/
def fnExactEvacuateStandardWrong : ChangeSpec := { name := "fnExactEvacuateStandard", fn := fun _ => fun
  | [d] => { results := [.lit (.bool false)], args := [d] }
  | _ => none }
def FnExactEvacuateStandardWrongFalsely : Prop := fnExactEvacuateStandardRow.holds Try.pinned (OpenSpec.ofChange fnExactEvacuateStandardWrong)

/-- 'laws.FnExactIsSelfEvacuating': WHATEVER THE INPUT: true; the input reads as it did. -/
def fnExactIsSelfEvacuatingSpec : ChangeSpec := { name := "fnExactIsSelfEvacuating", fn := fun _ => fun
  | [d] => { results := [.lit (.bool true)], args := [d] }
  | _ => none }
def fnExactIsSelfEvacuatingRow : OpenClaim := { program := "ytcpijhganagenaa", sum := "60347cc3be539b936695cc7f66d6d495faaadfdebd7e60e60a51c87bcaea5425", func := "loop.example/g00598/laws.FnExactIsSelfEvacuating", spec := "fnExactIsSelfEvacuating", unfollowed := true, recurses := true, apart := false }
def FnExactIsSelfEvacuatingSaid : Prop := fnExactIsSelfEvacuatingRow.holds Try.pinned (OpenSpec.ofChange fnExactIsSelfEvacuatingSpec)

/-- ITS FALSE NEIGHBOUR: 'it returns false'. Refute it at one input. -/
def fnExactIsSelfEvacuatingWrong : ChangeSpec := { name := "fnExactIsSelfEvacuating", fn := fun _ => fun
  | [d] => { results := [.lit (.bool false)], args := [d] }
  | _ => none }
def FnExactIsSelfEvacuatingWrongFalsely : Prop := fnExactIsSelfEvacuatingRow.holds Try.pinned (OpenSpec.ofChange fnExactIsSelfEvacuatingWrong)

/-- 'laws.FnExactPromote': WHATEVER THE INPUT: true; the input reads as it did. -/
def fnExactPromoteSpec : ChangeSpec := { name := "fnExactPromote", fn := fun _ => fun
  | [d] => { results := [.lit (.bool true)], args := [d] }
  | _ => none }
def fnExactPromoteRow : OpenClaim := { program := "ytcpijhganagenaa", sum := "60347cc3be539b936695cc7f66d6d495faaadfdebd7e60e60a51c87bcaea5425", func := "loop.example/g00598/laws.FnExactPromote", spec := "fnExactPromote", unfollowed := true, recurses := true, apart := false }
def FnExactPromoteSaid : Prop := fnExactPromoteRow.holds Try.pinned (OpenSpec.ofChange fnExactPromoteSpec)

/-- ITS FALSE NEIGHBOUR: 'it returns false'. Refute it at one input. -/
def fnExactPromoteWrong : ChangeSpec := { name := "fnExactPromote", fn := fun _ => fun
  | [d] => { results := [.lit (.bool false)], args := [d] }
  | _ => none }
def FnExactPromoteWrongFalsely : Prop := fnExactPromoteRow.holds Try.pinned (OpenSpec.ofChange fnExactPromoteWrong)

/- THE SECOND FORM. 'bulk': how many values and letters a reading holds, each counted each time it is reached (what is shared counts as often as it is met; a slice's spare places count too). A statement '..UptoSaid' is the law's where the arguments, and the package variables that the reading takes, are together of bulk at most 1048576: NARROWER than '..Said'. Prove '..Said' where nothing that the law and all that it calls make is longer than what came in: it says more and counts as full. Else prove '..UptoSaid'. A law counts once. -/
mutual
def uptoBulk {H : Type} : DataW H → Nat
  | .lit (.string bytes) => bytes.length + 1
  | .lit _ => 1
  | .nil => 1
  | .ptr d => uptoBulk d + 1
  | .slice elems spare => uptoBulkAll elems + uptoBulkAll spare + 1
  | .agg parts => uptoBulkAll parts + 1
  | .iface _ d => uptoBulk d + 1
  | .map entries => uptoBulkEntries entries + 1
  | .held _ => 1
def uptoBulkAll {H : Type} : List (DataW H) → Nat
  | [] => 0
  | d :: r => uptoBulk d + uptoBulkAll r
def uptoBulkEntries {H : Type} : List (Lit × DataW H) → Nat
  | [] => 0
  | x :: r => uptoBulkEntry x + uptoBulkEntries r
def uptoBulkEntry {H : Type} : Lit × DataW H → Nat
  | (.string bytes, d) => bytes.length + uptoBulk d + 1
  | (_, d) => uptoBulk d + 1
 end
def uptoSmall : (H : Type) → List (DataW H) → Bool := fun _ ds => decide (uptoBulkAll ds ≤ 1048576)
def OpenSpec.upto (s : _root_.Go.ChangeSpec) : _root_.Go.OpenSpec := { _root_.Go.OpenSpec.ofChange s with cond := some uptoSmall }

/-- 'laws.FnExactRemoveCell', WHERE WHAT IT READS IS OF BULK AT MOST 1048576: true; the input reads as it did. -/
def fnExactRemoveCellUptoRow : OpenClaim := { program := "ytcpijhganagenaa", sum := "60347cc3be539b936695cc7f66d6d495faaadfdebd7e60e60a51c87bcaea5425", func := "loop.example/g00598/laws.FnExactRemoveCell", spec := "fnExactRemoveCell", unfollowed := true, recurses := true, apart := false, narrowed := true }
def FnExactRemoveCellUptoSaid : Prop := fnExactRemoveCellUptoRow.holds Try.pinned (OpenSpec.upto fnExactRemoveCellSpec)

/-- 'laws.FnExactRectify', WHERE WHAT IT READS IS OF BULK AT MOST 1048576: true; the input reads as it did. -/
def fnExactRectifyUptoRow : OpenClaim := { program := "ytcpijhganagenaa", sum := "60347cc3be539b936695cc7f66d6d495faaadfdebd7e60e60a51c87bcaea5425", func := "loop.example/g00598/laws.FnExactRectify", spec := "fnExactRectify", apart := false, narrowed := true }
def FnExactRectifyUptoSaid : Prop := fnExactRectifyUptoRow.holds Try.pinned (OpenSpec.upto fnExactRectifySpec)

/-- 'laws.FnExactWordOfPair', WHERE WHAT IT READS IS OF BULK AT MOST 1048576: true; the input reads as it did. -/
def fnExactWordOfPairUptoRow : OpenClaim := { program := "ytcpijhganagenaa", sum := "60347cc3be539b936695cc7f66d6d495faaadfdebd7e60e60a51c87bcaea5425", func := "loop.example/g00598/laws.FnExactWordOfPair", spec := "fnExactWordOfPair", unfollowed := true, recurses := true, apart := false, narrowed := true }
def FnExactWordOfPairUptoSaid : Prop := fnExactWordOfPairUptoRow.holds Try.pinned (OpenSpec.upto fnExactWordOfPairSpec)

/-- 'laws.FnExactEvacuateStandard', WHERE WHAT IT READS IS OF BULK AT MOST 1048576: true; the input reads as it did. -/
def fnExactEvacuateStandardUptoRow : OpenClaim := { program := "ytcpijhganagenaa", sum := "60347cc3be539b936695cc7f66d6d495faaadfdebd7e60e60a51c87bcaea5425", func := "loop.example/g00598/laws.FnExactEvacuateStandard", spec := "fnExactEvacuateStandard", unfollowed := true, recurses := true, apart := false, narrowed := true }
def FnExactEvacuateStandardUptoSaid : Prop := fnExactEvacuateStandardUptoRow.holds Try.pinned (OpenSpec.upto fnExactEvacuateStandardSpec)

/-- 'laws.FnExactIsSelfEvacuating', WHERE WHAT IT READS IS OF BULK AT MOST 1048576: true; the input reads as it did. -/
def fnExactIsSelfEvacuatingUptoRow : OpenClaim := { program := "ytcpijhganagenaa", sum := "60347cc3be539b936695cc7f66d6d495faaadfdebd7e60e60a51c87bcaea5425", func := "loop.example/g00598/laws.FnExactIsSelfEvacuating", spec := "fnExactIsSelfEvacuating", unfollowed := true, recurses := true, apart := false, narrowed := true }
def FnExactIsSelfEvacuatingUptoSaid : Prop := fnExactIsSelfEvacuatingUptoRow.holds Try.pinned (OpenSpec.upto fnExactIsSelfEvacuatingSpec)

/-- 'laws.FnExactPromote', WHERE WHAT IT READS IS OF BULK AT MOST 1048576: true; the input reads as it did. -/
def fnExactPromoteUptoRow : OpenClaim := { program := "ytcpijhganagenaa", sum := "60347cc3be539b936695cc7f66d6d495faaadfdebd7e60e60a51c87bcaea5425", func := "loop.example/g00598/laws.FnExactPromote", spec := "fnExactPromote", unfollowed := true, recurses := true, apart := false, narrowed := true }
def FnExactPromoteUptoSaid : Prop := fnExactPromoteUptoRow.holds Try.pinned (OpenSpec.upto fnExactPromoteSpec)

end Rows
end Go.Proofs.Ytcpijhganagenaa
