/- The law FnExactDescribeExample answers true whatever it is given, and the arguments read as they did; the listed tables of the library are tied to the program's text. -/
import Derived.Test.YtloognjnfelgfaaGreatDoorRows
import Derived.Test.YtloognjnfelgfaaGreatDoorCards
import Derived.Test.YtloognjnfelgfaaGreatDoorTie
import Derived.Test.YtloognjnfelgfaaGreatDoorPureDescribeExample
import Derived.Test.YtloognjnfelgfaaGreatDoorLibDescribeExample
import Derived.Test.YtloognjnfelgfaaGreatDoorAmW
import Derived.WalkKit
import Derived.ProofKit
import Derived.OpenShut
import Derived.LaidMore
import Derived.SizedLaws
import Derived.Stop.Joined
import Derived.SevenTiedAt
set_option linter.unusedSimpArgs false
set_option linter.unusedVariables false
set_option linter.unnecessarySimpa false
set_option linter.unusedSectionVars false
namespace Go.Proofs.YtloognjnfelgfaaGreatDoor.fnExactDescribeExample
open Go.Am
attribute [local instance] D.real
set_option maxRecDepth 100000
theorem own:ownKnob Tryz.prog.godebug=none:=by kernel_rfl
theorem laid:laidOutB Tryz.prog=true:=by kernel_rfl
def FN(P:Program):Bool:=P.funcs.toList.all fun fn=> !(fn.name== "runtime.NumGoroutine")
theorem Dr:FN Tryz.prog=true:=by kernel_rfl
theorem Dw:Go.Am.Good Tryz.prog:=⟨fun f fn hf _=>by
 have h:=List.all_eq_true.1 Dr fn (by
  have:=Array.mem_of_getElem? hf
  simpa using this)
 simpa using h,by kernel_rfl⟩
theorem pure: ∀x:den (fM Tryz.prog 3),WfD (fM Tryz.prog 3) x→ ∃k y,xx Tryz.prog Seat.cfg Seat.ext k 3 x=some y∧wc (resTy Tryz.prog 3) y:=by
 have key: ∀x:den (.int .i64),WfD (.int .i64) x→
   ∃k,∃y:den .bool,Seat.bz k x=some y∧wc .bool y:=fun x h=>
  let⟨k,hk⟩:=Seat.bz.is (n:=x)
  ⟨k,true,hk,rfl⟩
 exact key
theorem Ff:yi Tryz.prog Seat.ext:=DG (fun f k h=>by
 unfold Seat.CZ at h
 split at h
 ·cases h;exact SeatLib.D2
 ·cases h;exact SeatLib.EZ
 ·cases h;exact SeatLib.Em
 ·cases h)
theorem C5(os:Os)(args:Array Value):laidMetH Tryz.prog Rows.fnExactDescribeExampleRow.laid ((World.doorLaid Tryz.prog 400 os).forCall (fun _ _=>0) ⟨#[],args,[]⟩).memory:=
 laidMetH_of_parts3 (fuel:=8) (laidMet_of_run' 8 (by kernel_rfl) (by kernel_rfl)) (by kernel_rfl) (by kernel_rfl)
theorem lifted(os:Os)(started:os.Started)(H:Type)(enc:TypeId×Value→H):
  ReturnsInHanded {} Tryz.checked os 3 .any (fun w args=>(Rows.fnExactDescribeExampleSpec.pre enc Tryz.prog Tryz.f3 [] false w args∧laidMetH Tryz.prog Rows.fnExactDescribeExampleRow.laid w)∧sizedMet enc Tryz.prog Tryz.f3 (OpenSpec.ofChange Rows.fnExactDescribeExampleSpec) false w args)
   (Rows.fnExactDescribeExampleSpec.post enc Tryz.prog Tryz.f3 false true false false):=by
 refine returnsInHanded_of_change_and (C:=Tryz.checked) (X:=fun w _=>laidMetH Tryz.prog Rows.fnExactDescribeExampleRow.laid w) (fun _ _ _ hh h=>h.of_heap hh) own started (by kernel_rfl) Tryz.func3
  (ChangeSpec.witness_shaped (enc:=enc) (C:=Tryz.checked) (os:=os) (X:=fun w _=>laidMetH Tryz.prog Rows.fnExactDescribeExampleRow.laid w) false (World.doorLaid Tryz.prog 400 os) #[.int .i64 0] 8 rfl (World.shaped_of_RefB (by kernel_rfl) (by kernel_rfl)) (by kernel_rfl) (by kernel_rfl) (by kernel_rfl) (C5 os _)) ?_
 intro W base args ds gs before hval hW _ _ _ _
 exact xo Dw Ff laid Tryz.func3 rfl (fun ds h=>by match ds,h with| [_],_=>rfl) (by kernel_rfl) (by kernel_rfl) Tryz.underlying4 pure hval hW
theorem over:Rows.fnExactDescribeExampleRow.holds Tryz.pinned (OpenSpec.ofChange Rows.fnExactDescribeExampleSpec):=
 OpenClaim.holds_of_wide 3 Tryz.f3 rfl rfl rfl rfl rfl rfl rfl ⟨rfl,rfl,rfl,rfl,rfl⟩ rfl rfl rfl rfl rfl (by kernel_rfl) Tryz.func3 (by kernel_rfl)
  (of_decide_eq_true (by kernel_rfl)) (by unfold Func.isWrapper;first|(rw[if_pos (by decide+kernel)];kernel_rfl)|(rw[if_neg (by decide+kernel)];exact⟨rfl,rfl⟩))
  (fun os started H enc _=>lifted os started H enc)
theorem FX:Rows.FnExactDescribeExampleCardSaid:=
 Claim7.holds_tied_plain_at .later [] [.data,.data,.data] true (true, "790ab1d012ff8aaff52940540cfc08b5d71df4b919ff8e1b31a4acbe0f8dc260") false
  over (fun _ h=>by cases h) (by kernel_rfl) (fun _ h=>by cases h) fnExactDescribeExample_row_tie rfl ⟨rfl,rfl⟩ (by kernel_rfl) rfl
  (fun f fn hf hfn=>by
   obtain rfl:f=3:=Option.some.inj ((show Tryz.prog.funcNamed "loop.example/g00598/laws.FnExactDescribeExample" =some 3 by kernel_rfl).symm.trans hf)|>.symm
   obtain rfl:fn=Tryz.f3:=(Option.some.inj (Tryz.func3.symm.trans hfn)).symm
   exact⟨by kernel_rfl,fun j t ht=>by
    have hall:(Tryz.f3.params.toList.all fun u=> !Tryz.prog.wantsStandIn u)=true:=by kernel_rfl
    have hm:t∈Tryz.f3.params.toList:=by simpa using Array.mem_of_getElem? ht
    exact(show Tryz.prog.wantsStandIn t=false by simpa using List.all_eq_true.1 hall t hm)⟩)
  (by kernel_rfl)
end Go.Proofs.YtloognjnfelgfaaGreatDoor.fnExactDescribeExample
namespace Go.Proofs.YtloognjnfelgfaaGreatDoor
theorem fnExactDescribeExample_holds:Rows.FnExactDescribeExampleCardSaid:=fnExactDescribeExample.FX
#print axioms fnExactDescribeExample_holds
end Go.Proofs.YtloognjnfelgfaaGreatDoor
