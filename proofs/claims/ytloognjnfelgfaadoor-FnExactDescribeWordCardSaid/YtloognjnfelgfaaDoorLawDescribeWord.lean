/- The law FnExactDescribeWord answers true whatever it is given, and the arguments read as they did; the listed tables of the library are tied to the program's text. -/
import Derived.Test.YtloognjnfelgfaaDoorRows
import Derived.Test.YtloognjnfelgfaaDoorCards
import Derived.Test.YtloognjnfelgfaaDoorTie
import Derived.Test.YtloognjnfelgfaaDoorPureDescribeWord
import Derived.Test.YtloognjnfelgfaaDoorLibDescribeWord
import Derived.Test.YtloognjnfelgfaaDoorAmW
import Derived.WalkKit
import Derived.ProofKit
import Derived.OpenShut
import Derived.LaidMore
import Derived.SizedLaws
import Derived.Stop.Joined
import Derived.SevenTiedAt
set_option linter.unusedSimpArgs false
set_option linter.unusedVariables false
set_option linter.unnecessarySimpa false
set_option linter.unusedSectionVars false
namespace Go.Proofs.YtloognjnfelgfaaDoor.fnExactDescribeWord
open Go.Am
attribute [local instance] D.real
set_option maxRecDepth 100000
theorem own:ownKnob Tryd.prog.godebug=none:=by kernel_rfl
theorem laid:laidOutB Tryd.prog=true:=by kernel_rfl
def Fa(P:Program):Bool:=P.funcs.toList.all fun fn=> !(fn.name== "runtime.NumGoroutine")
theorem Db:Fa Tryd.prog=true:=by kernel_rfl
theorem C0:Go.Am.Good Tryd.prog:=⟨fun f fn hf _=>by
 have h:=List.all_eq_true.1 Db fn (by
  have:=Array.mem_of_getElem? hf
  simpa using this)
 simpa using h,by kernel_rfl⟩
theorem pure: ∀x:den (fF Tryd.prog 4),WfD (fF Tryd.prog 4) x→ ∃k y,wW Tryd.prog Seat.cfg Seat.ext k 4 x=some y∧v7 (resTy Tryd.prog 4) y:=by
 have key: ∀x:den (.sl (.int .i64)),WfD (.sl (.int .i64)) x→
   ∃k,∃y:den .bool,Seat.bP k x=some y∧v7 .bool y:=fun x h=>
  let⟨k,hk⟩:=Seat.bP.is (w:=x) h.1
  ⟨k,true,hk,rfl⟩
 exact key
theorem E7:ya Tryd.prog Seat.ext:=CN (fun f k h=>by
 unfold Seat.Dl at h
 split at h
 ·cases h;exact SeatLib.En
 ·cases h;exact SeatLib.E0
 ·cases h;exact SeatLib.Eb
 ·cases h)
theorem CG(os:Os)(args:Array Value):laidMetH Tryd.prog Rows.fnExactDescribeWordRow.laid ((World.doorLaid Tryd.prog 400 os).forCall (fun _ _=>0) ⟨#[],args,[]⟩).memory:=
 laidMetH_of_parts3 (fuel:=8) (laidMet_of_run' 8 (by kernel_rfl) (by kernel_rfl)) (by kernel_rfl) (by kernel_rfl)
theorem lifted(os:Os)(started:os.Started)(H:Type)(enc:TypeId×Value→H):
  ReturnsInHanded {} Tryd.checked os 4 .any (fun w args=>(Rows.fnExactDescribeWordSpec.pre enc Tryd.prog Tryd.f4 [] false w args∧laidMetH Tryd.prog Rows.fnExactDescribeWordRow.laid w)∧sizedMet enc Tryd.prog Tryd.f4 (OpenSpec.ofChange Rows.fnExactDescribeWordSpec) false w args)
   (Rows.fnExactDescribeWordSpec.post enc Tryd.prog Tryd.f4 false true false false):=by
 refine returnsInHanded_of_change_and (C:=Tryd.checked) (X:=fun w _=>laidMetH Tryd.prog Rows.fnExactDescribeWordRow.laid w) (fun _ _ _ hh h=>h.of_heap hh) own started (by kernel_rfl) Tryd.func4
  (ChangeSpec.witness_shaped (enc:=enc) (C:=Tryd.checked) (os:=os) (X:=fun w _=>laidMetH Tryd.prog Rows.fnExactDescribeWordRow.laid w) false (World.doorLaid Tryd.prog 400 os) #[.slice none 0 0] 8 rfl (World.shaped_of_RefB (by kernel_rfl) (by kernel_rfl)) (by kernel_rfl) (by kernel_rfl) (by kernel_rfl) (CG os _)) ?_
 intro W base args ds gs before hval hW _ _ _ _
 exact xd C0 E7 laid Tryd.func4 rfl (fun ds h=>by match ds,h with| [_],_=>rfl) (by kernel_rfl) (by kernel_rfl) Tryd.underlying4 pure hval hW
theorem over:Rows.fnExactDescribeWordRow.holds Tryd.pinned (OpenSpec.ofChange Rows.fnExactDescribeWordSpec):=
 OpenClaim.holds_of_wide 4 Tryd.f4 rfl rfl rfl rfl rfl rfl rfl ⟨rfl,rfl,rfl,rfl,rfl⟩ rfl rfl rfl rfl rfl (by kernel_rfl) Tryd.func4 (by kernel_rfl)
  (of_decide_eq_true (by kernel_rfl)) (by unfold Func.isWrapper;first|(rw[if_pos (by decide+kernel)];kernel_rfl)|(rw[if_neg (by decide+kernel)];exact⟨rfl,rfl⟩))
  (fun os started H enc _=>lifted os started H enc)
theorem FD:Rows.FnExactDescribeWordCardSaid:=
 Claim7.holds_tied_plain_at .later [] [.data,.data,.data] true (true, "39a1f39b206c1ff0061bf7e8c4a023a5795e43bcb18c00d96afd10b565222a04") false
  over (fun _ h=>by cases h) (by kernel_rfl) (fun _ h=>by cases h) fnExactDescribeWord_row_tie rfl ⟨rfl,rfl⟩ (by kernel_rfl) rfl
  (fun f fn hf hfn=>by
   obtain rfl:f=4:=Option.some.inj ((show Tryd.prog.funcNamed "loop.example/g00598/laws.FnExactDescribeWord" =some 4 by kernel_rfl).symm.trans hf)|>.symm
   obtain rfl:fn=Tryd.f4:=(Option.some.inj (Tryd.func4.symm.trans hfn)).symm
   exact⟨by kernel_rfl,fun j t ht=>by
    have hall:(Tryd.f4.params.toList.all fun u=> !Tryd.prog.wantsStandIn u)=true:=by kernel_rfl
    have hm:t∈Tryd.f4.params.toList:=by simpa using Array.mem_of_getElem? ht
    exact(show Tryd.prog.wantsStandIn t=false by simpa using List.all_eq_true.1 hall t hm)⟩)
  (by kernel_rfl)
end Go.Proofs.YtloognjnfelgfaaDoor.fnExactDescribeWord
namespace Go.Proofs.YtloognjnfelgfaaDoor
theorem fnExactDescribeWord_holds:Rows.FnExactDescribeWordCardSaid:=fnExactDescribeWord.FD
#print axioms fnExactDescribeWord_holds
end Go.Proofs.YtloognjnfelgfaaDoor
