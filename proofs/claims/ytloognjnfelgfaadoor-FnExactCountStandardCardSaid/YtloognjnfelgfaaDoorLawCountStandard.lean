/- The law FnExactCountStandard answers true whatever it is given, and the arguments read as they did; the listed tables of the library are tied to the program's text. -/
import Derived.Test.YtloognjnfelgfaaDoorRows
import Derived.Test.YtloognjnfelgfaaDoorCards
import Derived.Test.YtloognjnfelgfaaDoorTie
import Derived.Test.YtloognjnfelgfaaDoorPureCountStandard
import Derived.Test.YtloognjnfelgfaaDoorLibCountStandard
import Derived.Test.YtloognjnfelgfaaDoorAmW
import Derived.WalkKit
import Derived.ProofKit
import Derived.OpenShut
import Derived.LaidMore
import Derived.SizedLaws
import Derived.Stop.Joined
import Derived.SevenTiedAt
set_option linter.unusedSimpArgs false
set_option linter.unusedVariables false
set_option linter.unnecessarySimpa false
set_option linter.unusedSectionVars false
namespace Go.Proofs.YtloognjnfelgfaaDoor.fnExactCountStandard
open Go.Am
attribute [local instance] D.real
set_option maxRecDepth 100000
theorem own:ownKnob Tryd.prog.godebug=none:=by kernel_rfl
theorem laid:laidOutB Tryd.prog=true:=by kernel_rfl
def Hk(P:Program):Bool:=P.funcs.toList.all fun fn=> !(fn.name== "runtime.NumGoroutine")
theorem Fm:Hk Tryd.prog=true:=by kernel_rfl
theorem Eo:Go.Am.Good Tryd.prog:=⟨fun f fn hf _=>by
 have h:=List.all_eq_true.1 Fm fn (by
  have:=Array.mem_of_getElem? hf
  simpa using this)
 simpa using h,by kernel_rfl⟩
theorem pure: ∀x:den (dG Tryd.prog 5),WfD (dG Tryd.prog 5) x→ ∃k y,yi Tryd.prog Seat.cfg Seat.ext k 5 x=some y∧wQ (resTy Tryd.prog 5) y:=by
 have key: ∀x:den (.pair (.sl (.int .i64)) (.sl (.int .i64))),WfD (.pair (.sl (.int .i64)) (.sl (.int .i64))) x→
   ∃k,∃y:den .bool,Seat.bH k x=some y∧wQ .bool y:=fun x h=>
  let⟨k,hk⟩:=Seat.bH.is (s:=x) h.1.1 h.2.1
  ⟨k,true,hk,rfl⟩
 exact key
theorem GV:z7 Tryd.prog Seat.ext:=Ef (fun f k h=>by
 unfold Seat.E8 at h
 split at h
 ·cases h;exact SeatLib.Gq
 ·cases h;exact SeatLib.GU
 ·cases h;exact SeatLib.FV
 ·cases h;exact SeatLib.GJ
 ·cases h) (fun f k h=>by
 unfold Seat.GA at h
 split at h
 ·cases h;exact SeatLib.F4
 ·cases h)
theorem EH(os:Os)(args:Array Value):laidMetH Tryd.prog Rows.fnExactCountStandardRow.laid ((World.doorLaid Tryd.prog 400 os).forCall (fun _ _=>0) ⟨#[],args,[]⟩).memory:=
 laidMetH_of_parts3 (fuel:=8) (laidMet_of_run' 8 (by kernel_rfl) (by kernel_rfl)) (by kernel_rfl) (by kernel_rfl)
theorem lifted(os:Os)(started:os.Started)(H:Type)(enc:TypeId×Value→H):
  ReturnsInHanded {} Tryd.checked os 5 .any (fun w args=>(Rows.fnExactCountStandardSpec.pre enc Tryd.prog Tryd.f5 [] false w args∧laidMetH Tryd.prog Rows.fnExactCountStandardRow.laid w)∧sizedMet enc Tryd.prog Tryd.f5 (OpenSpec.ofChange Rows.fnExactCountStandardSpec) false w args)
   (Rows.fnExactCountStandardSpec.post enc Tryd.prog Tryd.f5 false true false false):=by
 refine returnsInHanded_of_change_and (C:=Tryd.checked) (X:=fun w _=>laidMetH Tryd.prog Rows.fnExactCountStandardRow.laid w) (fun _ _ _ hh h=>h.of_heap hh) own started (by kernel_rfl) Tryd.func5
  (ChangeSpec.witness_shaped (enc:=enc) (C:=Tryd.checked) (os:=os) (X:=fun w _=>laidMetH Tryd.prog Rows.fnExactCountStandardRow.laid w) false (World.doorLaid Tryd.prog 400 os) #[.agg #[.slice none 0 0,.slice none 0 0]] 8 rfl (World.shaped_of_RefB (by kernel_rfl) (by kernel_rfl)) (by kernel_rfl) (by kernel_rfl) (by kernel_rfl) (EH os _)) ?_
 intro W base args ds gs before hval hW _ _ _ _
 exact xP Eo GV laid Tryd.func5 rfl (fun ds h=>by match ds,h with| [_],_=>rfl) (by kernel_rfl) (by kernel_rfl) Tryd.underlying4 pure hval hW
theorem over:Rows.fnExactCountStandardRow.holds Tryd.pinned (OpenSpec.ofChange Rows.fnExactCountStandardSpec):=
 OpenClaim.holds_of_wide 5 Tryd.f5 rfl rfl rfl rfl rfl rfl rfl ⟨rfl,rfl,rfl,rfl,rfl⟩ rfl rfl rfl rfl rfl (by kernel_rfl) Tryd.func5 (by kernel_rfl)
  (of_decide_eq_true (by kernel_rfl)) (by unfold Func.isWrapper;first|(rw[if_pos (by decide+kernel)];kernel_rfl)|(rw[if_neg (by decide+kernel)];exact⟨rfl,rfl⟩))
  (fun os started H enc _=>lifted os started H enc)
theorem Hn:Rows.FnExactCountStandardCardSaid:=
 Claim7.holds_tied_plain_at .later [] [.data,.data,.data] true (true, "39a1f39b206c1ff0061bf7e8c4a023a5795e43bcb18c00d96afd10b565222a04") false
  over (fun _ h=>by cases h) (by kernel_rfl) (fun _ h=>by cases h) fnExactCountStandard_row_tie rfl ⟨rfl,rfl⟩ (by kernel_rfl) rfl
  (fun f fn hf hfn=>by
   obtain rfl:f=5:=Option.some.inj ((show Tryd.prog.funcNamed "loop.example/g00598/laws.FnExactCountStandard" =some 5 by kernel_rfl).symm.trans hf)|>.symm
   obtain rfl:fn=Tryd.f5:=(Option.some.inj (Tryd.func5.symm.trans hfn)).symm
   exact⟨by kernel_rfl,fun j t ht=>by
    have hall:(Tryd.f5.params.toList.all fun u=> !Tryd.prog.wantsStandIn u)=true:=by kernel_rfl
    have hm:t∈Tryd.f5.params.toList:=by simpa using Array.mem_of_getElem? ht
    exact(show Tryd.prog.wantsStandIn t=false by simpa using List.all_eq_true.1 hall t hm)⟩)
  (by kernel_rfl)
end Go.Proofs.YtloognjnfelgfaaDoor.fnExactCountStandard
namespace Go.Proofs.YtloognjnfelgfaaDoor
theorem fnExactCountStandard_holds:Rows.FnExactCountStandardCardSaid:=fnExactCountStandard.Hn
#print axioms fnExactCountStandard_holds
end Go.Proofs.YtloognjnfelgfaaDoor
