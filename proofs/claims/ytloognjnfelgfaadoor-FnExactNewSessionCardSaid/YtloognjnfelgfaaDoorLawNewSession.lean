/- The law FnExactNewSession answers true whatever it is given, and the arguments read as they did; the listed tables of the library are tied to the program's text. -/
import Derived.Test.YtloognjnfelgfaaDoorRows
import Derived.Test.YtloognjnfelgfaaDoorCards
import Derived.Test.YtloognjnfelgfaaDoorTie
import Derived.Test.YtloognjnfelgfaaDoorPureNewSession
import Derived.Test.YtloognjnfelgfaaDoorLibNewSession
import Derived.Test.YtloognjnfelgfaaDoorAmW
import Derived.WalkKit
import Derived.ProofKit
import Derived.OpenShut
import Derived.LaidMore
import Derived.SizedLaws
import Derived.Stop.Joined
import Derived.SevenTiedAt
set_option linter.unusedSimpArgs false
set_option linter.unusedVariables false
set_option linter.unnecessarySimpa false
set_option linter.unusedSectionVars false
namespace Go.Proofs.YtloognjnfelgfaaDoor.fnExactNewSession
open Go.Am
attribute [local instance] D.real
set_option maxRecDepth 100000
theorem own:ownKnob Tryd.prog.godebug=none:=by kernel_rfl
theorem laid:laidOutB Tryd.prog=true:=by kernel_rfl
def Db(P:Program):Bool:=P.funcs.toList.all fun fn=> !(fn.name== "runtime.NumGoroutine")
theorem BD:Db Tryd.prog=true:=by kernel_rfl
theorem Ds:Go.Am.Good Tryd.prog:=⟨fun f fn hf _=>by
 have h:=List.all_eq_true.1 BD fn (by
  have:=Array.mem_of_getElem? hf
  simpa using this)
 simpa using h,by kernel_rfl⟩
theorem pure: ∀x:den (dx Tryd.prog 3),WfD (dx Tryd.prog 3) x→ ∃k y,u3 Tryd.prog Seat.cfg Seat.ext k 3 x=some y∧uk (resTy Tryd.prog 3) y:=by
 have key: ∀x:den (.unit),WfD (.unit) x→
   ∃k,∃y:den .bool,Seat.aX k=some y∧uk .bool y:=fun x h=>
  let⟨k,hk⟩:=Seat.aX.is
  ⟨k,true,hk,rfl⟩
 exact key
theorem CQ:xi Tryd.prog Seat.ext:=BG (fun f k h=>by
 unfold Seat.Bb at h
 split at h
 ·cases h;exact SeatLib.CB
 ·cases h;exact SeatLib.Ck
 ·cases h)
theorem A6(os:Os)(args:Array Value):laidMetH Tryd.prog Rows.fnExactNewSessionRow.laid ((World.doorLaid Tryd.prog 400 os).forCall (fun _ _=>0) ⟨#[],args,[]⟩).memory:=
 laidMetH_of_parts3 (fuel:=8) (laidMet_of_run' 8 (by kernel_rfl) (by kernel_rfl)) (by kernel_rfl) (by kernel_rfl)
theorem lifted(os:Os)(started:os.Started)(H:Type)(enc:TypeId×Value→H):
  ReturnsInHanded {} Tryd.checked os 3 .any (fun w args=>(Rows.fnExactNewSessionSpec.pre enc Tryd.prog Tryd.f3 [] false w args∧laidMetH Tryd.prog Rows.fnExactNewSessionRow.laid w)∧sizedMet enc Tryd.prog Tryd.f3 (OpenSpec.ofChange Rows.fnExactNewSessionSpec) false w args)
   (Rows.fnExactNewSessionSpec.post enc Tryd.prog Tryd.f3 false true false false):=by
 refine returnsInHanded_of_change_and (C:=Tryd.checked) (X:=fun w _=>laidMetH Tryd.prog Rows.fnExactNewSessionRow.laid w) (fun _ _ _ hh h=>h.of_heap hh) own started (by kernel_rfl) Tryd.func3
  (ChangeSpec.witness_shaped (enc:=enc) (C:=Tryd.checked) (os:=os) (X:=fun w _=>laidMetH Tryd.prog Rows.fnExactNewSessionRow.laid w) false (World.doorLaid Tryd.prog 400 os) #[] 8 rfl (World.shaped_of_RefB (by kernel_rfl) (by kernel_rfl)) (by kernel_rfl) (by kernel_rfl) (by kernel_rfl) (A6 os _)) ?_
 intro W base args ds gs before hval hW _ _ _ _
 exact vi Ds CQ laid Tryd.func3 rfl (fun ds h=>by match ds,h with| [],_=>rfl) (by kernel_rfl) (by kernel_rfl) Tryd.underlying4 pure hval hW
theorem over:Rows.fnExactNewSessionRow.holds Tryd.pinned (OpenSpec.ofChange Rows.fnExactNewSessionSpec):=
 OpenClaim.holds_of_wide 3 Tryd.f3 rfl rfl rfl rfl rfl rfl rfl ⟨rfl,rfl,rfl,rfl,rfl⟩ rfl rfl rfl rfl rfl (by kernel_rfl) Tryd.func3 (by kernel_rfl)
  (of_decide_eq_true (by kernel_rfl)) (by unfold Func.isWrapper;first|(rw[if_pos (by decide+kernel)];kernel_rfl)|(rw[if_neg (by decide+kernel)];exact⟨rfl,rfl⟩))
  (fun os started H enc _=>lifted os started H enc)
theorem Dw:Rows.FnExactNewSessionCardSaid:=
 Claim7.holds_tied_plain_at .later [] [.data,.data,.data] true (true, "39a1f39b206c1ff0061bf7e8c4a023a5795e43bcb18c00d96afd10b565222a04") false
  over (fun _ h=>by cases h) (by kernel_rfl) (fun _ h=>by cases h) fnExactNewSession_row_tie rfl ⟨rfl,rfl⟩ (by kernel_rfl) rfl
  (fun f fn hf hfn=>by
   obtain rfl:f=3:=Option.some.inj ((show Tryd.prog.funcNamed "loop.example/g00598/laws.FnExactNewSession" =some 3 by kernel_rfl).symm.trans hf)|>.symm
   obtain rfl:fn=Tryd.f3:=(Option.some.inj (Tryd.func3.symm.trans hfn)).symm
   exact⟨by kernel_rfl,fun j t ht=>by
    have hall:(Tryd.f3.params.toList.all fun u=> !Tryd.prog.wantsStandIn u)=true:=by kernel_rfl
    have hm:t∈Tryd.f3.params.toList:=by simpa using Array.mem_of_getElem? ht
    exact(show Tryd.prog.wantsStandIn t=false by simpa using List.all_eq_true.1 hall t hm)⟩)
  (by kernel_rfl)
end Go.Proofs.YtloognjnfelgfaaDoor.fnExactNewSession
namespace Go.Proofs.YtloognjnfelgfaaDoor
theorem fnExactNewSession_holds:Rows.FnExactNewSessionCardSaid:=fnExactNewSession.Dw
#print axioms fnExactNewSession_holds
end Go.Proofs.YtloognjnfelgfaaDoor
