/- The law FnExamples answers true whatever it is given, and the arguments read as they did; the listed tables of the library are tied to the program's text. -/
import Derived.Test.YtloognjnfelgfaaGreatDoorRows
import Derived.Test.YtloognjnfelgfaaGreatDoorCards
import Derived.Test.YtloognjnfelgfaaGreatDoorTie
import Derived.Test.YtloognjnfelgfaaGreatDoorPureFnExamples
import Derived.Test.YtloognjnfelgfaaGreatDoorLibFnExamples
import Derived.Test.YtloognjnfelgfaaGreatDoorAmW
import Derived.WalkKit
import Derived.ProofKit
import Derived.OpenShut
import Derived.LaidMore
import Derived.SizedLaws
import Derived.Stop.Joined
import Derived.SevenTiedAt
set_option linter.unusedSimpArgs false
set_option linter.unusedVariables false
set_option linter.unnecessarySimpa false
set_option linter.unusedSectionVars false
namespace Go.Proofs.YtloognjnfelgfaaGreatDoor.fnExamples
open Go.Am
attribute [local instance] D.real
set_option maxRecDepth 100000
theorem own:ownKnob Tryz.prog.godebug=none:=by kernel_rfl
theorem laid:laidOutB Tryz.prog=true:=by kernel_rfl
def Gt(P:Program):Bool:=P.funcs.toList.all fun fn=> !(fn.name== "runtime.NumGoroutine")
theorem DW:Gt Tryz.prog=true:=by kernel_rfl
theorem Du:Go.Am.Good Tryz.prog:=⟨fun f fn hf _=>by
 have h:=List.all_eq_true.1 DW fn (by
  have:=Array.mem_of_getElem? hf
  simpa using this)
 simpa using h,by kernel_rfl⟩
theorem pure: ∀x:den (gk Tryz.prog 4),WfD (gk Tryz.prog 4) x→ ∃k y,xz Tryz.prog Seat.cfg Seat.ext k 4 x=some y∧wH (resTy Tryz.prog 4) y:=by
 have key: ∀x:den (.sl (.int .u8)),WfD (.sl (.int .u8)) x→
   ∃k,∃y:den .bool,Seat.dL k x=some y∧wH .bool y:=fun x h=>
  let⟨k,hk⟩:=Seat.dL.is (b:=x) h.1
  ⟨k,true,hk,rfl⟩
 exact key
theorem FE:yK Tryz.prog Seat.ext:=DG (fun f k h=>by
 unfold Seat.Dj at h
 split at h
 ·cases h;exact SeatLib.EK
 ·cases h;exact SeatLib.F2
 ·cases h;exact SeatLib.EB
 ·cases h)
theorem Ef(os:Os)(args:Array Value):laidMetH Tryz.prog Rows.fnExamplesRow.laid ((World.doorLaid Tryz.prog 400 os).forCall (fun _ _=>0) ⟨#[],args,[]⟩).memory:=
 laidMetH_of_parts3 (fuel:=8) (laidMet_of_run' 8 (by kernel_rfl) (by kernel_rfl)) (by kernel_rfl) (by kernel_rfl)
theorem lifted(os:Os)(started:os.Started)(H:Type)(enc:TypeId×Value→H):
  ReturnsInHanded {} Tryz.checked os 4 .any (fun w args=>(Rows.fnExamplesSpec.pre enc Tryz.prog Tryz.f4 [] false w args∧laidMetH Tryz.prog Rows.fnExamplesRow.laid w)∧sizedMet enc Tryz.prog Tryz.f4 (OpenSpec.ofChange Rows.fnExamplesSpec) false w args)
   (Rows.fnExamplesSpec.post enc Tryz.prog Tryz.f4 false true false false):=by
 refine returnsInHanded_of_change_and (C:=Tryz.checked) (X:=fun w _=>laidMetH Tryz.prog Rows.fnExamplesRow.laid w) (fun _ _ _ hh h=>h.of_heap hh) own started (by kernel_rfl) Tryz.func4
  (ChangeSpec.witness_shaped (enc:=enc) (C:=Tryz.checked) (os:=os) (X:=fun w _=>laidMetH Tryz.prog Rows.fnExamplesRow.laid w) false (World.doorLaid Tryz.prog 400 os) #[.slice none 0 0] 8 rfl (World.shaped_of_RefB (by kernel_rfl) (by kernel_rfl)) (by kernel_rfl) (by kernel_rfl) (by kernel_rfl) (Ef os _)) ?_
 intro W base args ds gs before hval hW _ _ _ _
 exact yl Du FE laid Tryz.func4 rfl (fun ds h=>by match ds,h with| [_],_=>rfl) (by kernel_rfl) (by kernel_rfl) Tryz.underlying4 pure hval hW
theorem over:Rows.fnExamplesRow.holds Tryz.pinned (OpenSpec.ofChange Rows.fnExamplesSpec):=
 OpenClaim.holds_of_wide 4 Tryz.f4 rfl rfl rfl rfl rfl rfl rfl ⟨rfl,rfl,rfl,rfl,rfl⟩ rfl rfl rfl rfl rfl (by kernel_rfl) Tryz.func4 (by kernel_rfl)
  (of_decide_eq_true (by kernel_rfl)) (by unfold Func.isWrapper;first|(rw[if_pos (by decide+kernel)];kernel_rfl)|(rw[if_neg (by decide+kernel)];exact⟨rfl,rfl⟩))
  (fun os started H enc _=>lifted os started H enc)
theorem GS:Rows.FnExamplesCardSaid:=
 Claim7.holds_tied_plain_at .later [] [.data,.data,.data] true (true, "790ab1d012ff8aaff52940540cfc08b5d71df4b919ff8e1b31a4acbe0f8dc260") false
  over (fun _ h=>by cases h) (by kernel_rfl) (fun _ h=>by cases h) fnExamples_row_tie rfl ⟨rfl,rfl⟩ (by kernel_rfl) rfl
  (fun f fn hf hfn=>by
   obtain rfl:f=4:=Option.some.inj ((show Tryz.prog.funcNamed "loop.example/g00598/laws.FnExamples" =some 4 by kernel_rfl).symm.trans hf)|>.symm
   obtain rfl:fn=Tryz.f4:=(Option.some.inj (Tryz.func4.symm.trans hfn)).symm
   exact⟨by kernel_rfl,fun j t ht=>by
    have hall:(Tryz.f4.params.toList.all fun u=> !Tryz.prog.wantsStandIn u)=true:=by kernel_rfl
    have hm:t∈Tryz.f4.params.toList:=by simpa using Array.mem_of_getElem? ht
    exact(show Tryz.prog.wantsStandIn t=false by simpa using List.all_eq_true.1 hall t hm)⟩)
  (by kernel_rfl)
end Go.Proofs.YtloognjnfelgfaaGreatDoor.fnExamples
namespace Go.Proofs.YtloognjnfelgfaaGreatDoor
theorem fnExamples_holds:Rows.FnExamplesCardSaid:=fnExamples.GS
#print axioms fnExamples_holds
end Go.Proofs.YtloognjnfelgfaaGreatDoor
