/- The law FnExactKostkaNumber answers true whatever it is given, and the arguments read as they did; the listed tables of the library are tied to the program's text. -/
import Derived.Test.YtloognjnfelgfaaDoorRows
import Derived.Test.YtloognjnfelgfaaDoorCards
import Derived.Test.YtloognjnfelgfaaDoorTie
import Derived.Test.YtloognjnfelgfaaDoorPureKostkaNumber
import Derived.Test.YtloognjnfelgfaaDoorLibKostkaNumber
import Derived.Test.YtloognjnfelgfaaDoorAmW
import Derived.WalkKit
import Derived.ProofKit
import Derived.OpenShut
import Derived.LaidMore
import Derived.SizedLaws
import Derived.Stop.Joined
import Derived.SevenTiedAt
set_option linter.unusedSimpArgs false
set_option linter.unusedVariables false
set_option linter.unnecessarySimpa false
set_option linter.unusedSectionVars false
namespace Go.Proofs.YtloognjnfelgfaaDoor.fnExactKostkaNumber
open Go.Am
attribute [local instance] D.real
set_option maxRecDepth 100000
theorem own:ownKnob Tryd.prog.godebug=none:=by kernel_rfl
theorem laid:laidOutB Tryd.prog=true:=by kernel_rfl
def HL(P:Program):Bool:=P.funcs.toList.all fun fn=> !(fn.name== "runtime.NumGoroutine")
theorem Fl:HL Tryd.prog=true:=by kernel_rfl
theorem FU:Go.Am.Good Tryd.prog:=⟨fun f fn hf _=>by
 have h:=List.all_eq_true.1 Fl fn (by
  have:=Array.mem_of_getElem? hf
  simpa using this)
 simpa using h,by kernel_rfl⟩
theorem pure: ∀x:den (eH Tryd.prog 6),WfD (eH Tryd.prog 6) x→ ∃k y,yR Tryd.prog Seat.cfg Seat.ext k 6 x=some y∧xP (resTy Tryd.prog 6) y:=by
 have key: ∀x:den (.pair (.pair (.sl (.int .i64)) (.sl (.int .i64))) (.sl (.int .i64))),WfD (.pair (.pair (.sl (.int .i64)) (.sl (.int .i64))) (.sl (.int .i64))) x→
   ∃k,∃y:den .bool,Seat.bS k x.1 x.2=some y∧xP .bool y:=fun x h=>
  let⟨k,hk⟩:=Seat.bS.is (s:=x.1) (w:=x.2) h.1.1.1 h.1.2.1 h.2.1
  ⟨k,true,hk,rfl⟩
 exact key
theorem Hw:AA Tryd.prog Seat.ext:=FO (fun f k h=>by
 unfold Seat.EJ at h
 split at h
 ·cases h;exact SeatLib.F9
 ·cases h;exact SeatLib.Hu
 ·cases h;exact SeatLib.GM
 ·cases h;exact SeatLib.Hh
 ·cases h) (fun f k h=>by
 unfold Seat.GZ at h
 split at h
 ·cases h;exact SeatLib.GI
 ·cases h)
theorem E6(os:Os)(args:Array Value):laidMetH Tryd.prog Rows.fnExactKostkaNumberRow.laid ((World.doorLaid Tryd.prog 400 os).forCall (fun _ _=>0) ⟨#[],args,[]⟩).memory:=
 laidMetH_of_parts3 (fuel:=8) (laidMet_of_run' 8 (by kernel_rfl) (by kernel_rfl)) (by kernel_rfl) (by kernel_rfl)
theorem lifted(os:Os)(started:os.Started)(H:Type)(enc:TypeId×Value→H):
  ReturnsInHanded {} Tryd.checked os 6 .any (fun w args=>(Rows.fnExactKostkaNumberSpec.pre enc Tryd.prog Tryd.f6 [] false w args∧laidMetH Tryd.prog Rows.fnExactKostkaNumberRow.laid w)∧sizedMet enc Tryd.prog Tryd.f6 (OpenSpec.ofChange Rows.fnExactKostkaNumberSpec) false w args)
   (Rows.fnExactKostkaNumberSpec.post enc Tryd.prog Tryd.f6 false true false false):=by
 refine returnsInHanded_of_change_and (C:=Tryd.checked) (X:=fun w _=>laidMetH Tryd.prog Rows.fnExactKostkaNumberRow.laid w) (fun _ _ _ hh h=>h.of_heap hh) own started (by kernel_rfl) Tryd.func6
  (ChangeSpec.witness_shaped (enc:=enc) (C:=Tryd.checked) (os:=os) (X:=fun w _=>laidMetH Tryd.prog Rows.fnExactKostkaNumberRow.laid w) false (World.doorLaid Tryd.prog 400 os) #[.agg #[.slice none 0 0,.slice none 0 0],.slice none 0 0] 8 rfl (World.shaped_of_RefB (by kernel_rfl) (by kernel_rfl)) (by kernel_rfl) (by kernel_rfl) (by kernel_rfl) (E6 os _)) ?_
 intro W base args ds gs before hval hW _ _ _ _
 exact yU FU Hw laid Tryd.func6 rfl (fun ds h=>by match ds,h with| [_,_],_=>rfl) (by kernel_rfl) (by kernel_rfl) Tryd.underlying4 pure hval hW
theorem over:Rows.fnExactKostkaNumberRow.holds Tryd.pinned (OpenSpec.ofChange Rows.fnExactKostkaNumberSpec):=
 OpenClaim.holds_of_wide 6 Tryd.f6 rfl rfl rfl rfl rfl rfl rfl ⟨rfl,rfl,rfl,rfl,rfl⟩ rfl rfl rfl rfl rfl (by kernel_rfl) Tryd.func6 (by kernel_rfl)
  (of_decide_eq_true (by kernel_rfl)) (by unfold Func.isWrapper;first|(rw[if_pos (by decide+kernel)];kernel_rfl)|(rw[if_neg (by decide+kernel)];exact⟨rfl,rfl⟩))
  (fun os started H enc _=>lifted os started H enc)
theorem HR:Rows.FnExactKostkaNumberCardSaid:=
 Claim7.holds_tied_plain_at .later [] [.data,.data,.data] true (true, "39a1f39b206c1ff0061bf7e8c4a023a5795e43bcb18c00d96afd10b565222a04") false
  over (fun _ h=>by cases h) (by kernel_rfl) (fun _ h=>by cases h) fnExactKostkaNumber_row_tie rfl ⟨rfl,rfl⟩ (by kernel_rfl) rfl
  (fun f fn hf hfn=>by
   obtain rfl:f=6:=Option.some.inj ((show Tryd.prog.funcNamed "loop.example/g00598/laws.FnExactKostkaNumber" =some 6 by kernel_rfl).symm.trans hf)|>.symm
   obtain rfl:fn=Tryd.f6:=(Option.some.inj (Tryd.func6.symm.trans hfn)).symm
   exact⟨by kernel_rfl,fun j t ht=>by
    have hall:(Tryd.f6.params.toList.all fun u=> !Tryd.prog.wantsStandIn u)=true:=by kernel_rfl
    have hm:t∈Tryd.f6.params.toList:=by simpa using Array.mem_of_getElem? ht
    exact(show Tryd.prog.wantsStandIn t=false by simpa using List.all_eq_true.1 hall t hm)⟩)
  (by kernel_rfl)
end Go.Proofs.YtloognjnfelgfaaDoor.fnExactKostkaNumber
namespace Go.Proofs.YtloognjnfelgfaaDoor
theorem fnExactKostkaNumber_holds:Rows.FnExactKostkaNumberCardSaid:=fnExactKostkaNumber.HR
#print axioms fnExactKostkaNumber_holds
end Go.Proofs.YtloognjnfelgfaaDoor
