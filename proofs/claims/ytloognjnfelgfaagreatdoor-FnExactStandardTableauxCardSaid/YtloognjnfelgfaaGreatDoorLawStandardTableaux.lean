/- The law FnExactStandardTableaux answers true whatever it is given, and the arguments read as they did; the listed tables of the library are tied to the program's text. -/
import Derived.Test.YtloognjnfelgfaaGreatDoorRows
import Derived.Test.YtloognjnfelgfaaGreatDoorCards
import Derived.Test.YtloognjnfelgfaaGreatDoorTie
import Derived.Test.YtloognjnfelgfaaGreatDoorPureStandardTableaux
import Derived.Test.YtloognjnfelgfaaGreatDoorLibStandardTableaux
import Derived.Test.YtloognjnfelgfaaGreatDoorAmW
import Derived.WalkKit
import Derived.ProofKit
import Derived.OpenShut
import Derived.LaidMore
import Derived.SizedLaws
import Derived.Stop.Joined
import Derived.SevenTiedAt
set_option linter.unusedSimpArgs false
set_option linter.unusedVariables false
set_option linter.unnecessarySimpa false
set_option linter.unusedSectionVars false
namespace Go.Proofs.YtloognjnfelgfaaGreatDoor.fnExactStandardTableaux
open Go.Am
attribute [local instance] D.real
set_option maxRecDepth 100000
theorem own:ownKnob Tryz.prog.godebug=none:=by kernel_rfl
theorem laid:laidOutB Tryz.prog=true:=by kernel_rfl
def IP(P:Program):Bool:=P.funcs.toList.all fun fn=> !(fn.name== "runtime.NumGoroutine")
theorem GB:IP Tryz.prog=true:=by kernel_rfl
theorem Fm:Go.Am.Good Tryz.prog:=⟨fun f fn hf _=>by
 have h:=List.all_eq_true.1 GB fn (by
  have:=Array.mem_of_getElem? hf
  simpa using this)
 simpa using h,by kernel_rfl⟩
theorem pure: ∀x:den (fc Tryz.prog 5),WfD (fc Tryz.prog 5) x→ ∃k y,zj Tryz.prog Seat.cfg Seat.ext k 5 x=some y∧yy (resTy Tryz.prog 5) y:=by
 have key: ∀x:den (.pair (.sl (.int .i64)) (.sl (.int .i64))),WfD (.pair (.sl (.int .i64)) (.sl (.int .i64))) x→
   ∃k,∃y:den .bool,Seat.aQ k x=some y∧yy .bool y:=fun x h=>
  let⟨k,hk⟩:=Seat.aQ.is (s:=x) h.1.1 h.2.1
  ⟨k,true,hk,rfl⟩
 exact key
theorem Ir:AR Tryz.prog Seat.ext:=FR (fun f k h=>by
 unfold Seat.GL at h
 split at h
 ·cases h;exact SeatLib.Hi
 ·cases h;exact SeatLib.Ig
 ·cases h;exact SeatLib.He
 ·cases h;exact SeatLib.Is
 ·cases h) (fun f k h=>by
 unfold Seat.H4 at h
 split at h
 ·cases h;exact SeatLib.Hu
 ·cases h)
theorem F3(os:Os)(args:Array Value):laidMetH Tryz.prog Rows.fnExactStandardTableauxRow.laid ((World.doorLaid Tryz.prog 400 os).forCall (fun _ _=>0) ⟨#[],args,[]⟩).memory:=
 laidMetH_of_parts3 (fuel:=8) (laidMet_of_run' 8 (by kernel_rfl) (by kernel_rfl)) (by kernel_rfl) (by kernel_rfl)
theorem lifted(os:Os)(started:os.Started)(H:Type)(enc:TypeId×Value→H):
  ReturnsInHanded {} Tryz.checked os 5 .any (fun w args=>(Rows.fnExactStandardTableauxSpec.pre enc Tryz.prog Tryz.f5 [] false w args∧laidMetH Tryz.prog Rows.fnExactStandardTableauxRow.laid w)∧sizedMet enc Tryz.prog Tryz.f5 (OpenSpec.ofChange Rows.fnExactStandardTableauxSpec) false w args)
   (Rows.fnExactStandardTableauxSpec.post enc Tryz.prog Tryz.f5 false true false false):=by
 refine returnsInHanded_of_change_and (C:=Tryz.checked) (X:=fun w _=>laidMetH Tryz.prog Rows.fnExactStandardTableauxRow.laid w) (fun _ _ _ hh h=>h.of_heap hh) own started (by kernel_rfl) Tryz.func5
  (ChangeSpec.witness_shaped (enc:=enc) (C:=Tryz.checked) (os:=os) (X:=fun w _=>laidMetH Tryz.prog Rows.fnExactStandardTableauxRow.laid w) false (World.doorLaid Tryz.prog 400 os) #[.agg #[.slice none 0 0,.slice none 0 0]] 8 rfl (World.shaped_of_RefB (by kernel_rfl) (by kernel_rfl)) (by kernel_rfl) (by kernel_rfl) (by kernel_rfl) (F3 os _)) ?_
 intro W base args ds gs before hval hW _ _ _ _
 exact yV Fm Ir laid Tryz.func5 rfl (fun ds h=>by match ds,h with| [_],_=>rfl) (by kernel_rfl) (by kernel_rfl) Tryz.underlying4 pure hval hW
theorem over:Rows.fnExactStandardTableauxRow.holds Tryz.pinned (OpenSpec.ofChange Rows.fnExactStandardTableauxSpec):=
 OpenClaim.holds_of_wide 5 Tryz.f5 rfl rfl rfl rfl rfl rfl rfl ⟨rfl,rfl,rfl,rfl,rfl⟩ rfl rfl rfl rfl rfl (by kernel_rfl) Tryz.func5 (by kernel_rfl)
  (of_decide_eq_true (by kernel_rfl)) (by unfold Func.isWrapper;first|(rw[if_pos (by decide+kernel)];kernel_rfl)|(rw[if_neg (by decide+kernel)];exact⟨rfl,rfl⟩))
  (fun os started H enc _=>lifted os started H enc)
theorem I3:Rows.FnExactStandardTableauxCardSaid:=
 Claim7.holds_tied_plain_at .later [] [.data,.data,.data] true (true, "790ab1d012ff8aaff52940540cfc08b5d71df4b919ff8e1b31a4acbe0f8dc260") false
  over (fun _ h=>by cases h) (by kernel_rfl) (fun _ h=>by cases h) fnExactStandardTableaux_row_tie rfl ⟨rfl,rfl⟩ (by kernel_rfl) rfl
  (fun f fn hf hfn=>by
   obtain rfl:f=5:=Option.some.inj ((show Tryz.prog.funcNamed "loop.example/g00598/laws.FnExactStandardTableaux" =some 5 by kernel_rfl).symm.trans hf)|>.symm
   obtain rfl:fn=Tryz.f5:=(Option.some.inj (Tryz.func5.symm.trans hfn)).symm
   exact⟨by kernel_rfl,fun j t ht=>by
    have hall:(Tryz.f5.params.toList.all fun u=> !Tryz.prog.wantsStandIn u)=true:=by kernel_rfl
    have hm:t∈Tryz.f5.params.toList:=by simpa using Array.mem_of_getElem? ht
    exact(show Tryz.prog.wantsStandIn t=false by simpa using List.all_eq_true.1 hall t hm)⟩)
  (by kernel_rfl)
end Go.Proofs.YtloognjnfelgfaaGreatDoor.fnExactStandardTableaux
namespace Go.Proofs.YtloognjnfelgfaaGreatDoor
theorem fnExactStandardTableaux_holds:Rows.FnExactStandardTableauxCardSaid:=fnExactStandardTableaux.I3
#print axioms fnExactStandardTableaux_holds
end Go.Proofs.YtloognjnfelgfaaGreatDoor
