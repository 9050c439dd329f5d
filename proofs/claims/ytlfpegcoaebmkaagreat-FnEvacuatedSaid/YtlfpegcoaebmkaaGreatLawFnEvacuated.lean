/- The law FnEvacuated answers true whatever it is given, and the arguments read as they did. -/
import Derived.Test.YtlfpegcoaebmkaaGreatRows
import Derived.Test.YtlfpegcoaebmkaaGreatPureFnEvacuated
import Derived.Test.YtlfpegcoaebmkaaGreatAmW
import Derived.WalkKit
import Derived.ProofKit
import Derived.OpenShut
import Derived.SizedLaws
set_option linter.unusedSimpArgs false
set_option linter.unusedVariables false
set_option linter.unnecessarySimpa false
set_option linter.unusedSectionVars false
namespace Go.Proofs.YtlfpegcoaebmkaaGreat.fnEvacuated
open Go.Am
attribute [local instance] D.real
set_option maxRecDepth 100000
theorem own:ownKnob Tryz.prog.godebug=none:=by kernel_rfl
theorem laid:laidOutB Tryz.prog=true:=by kernel_rfl
def Jg(P:Program):Bool:=P.funcs.toList.all fun fn=> !(fn.name== "runtime.NumGoroutine")
theorem FN:Jg Tryz.prog=true:=by kernel_rfl
theorem GI:Go.Am.Good Tryz.prog:=⟨fun f fn hf _=>by
 have h:=List.all_eq_true.1 FN fn (by
  have:=Array.mem_of_getElem? hf
  simpa using this)
 simpa using h,by kernel_rfl⟩
theorem pure: ∀x:den (iw Tryz.prog 5),WfD (iw Tryz.prog 5) x→ ∃k y,AJ Tryz.prog Seat.cfg Seat.ext k 5 x=some y∧zx (resTy Tryz.prog 5) y:=by
 have key: ∀x:den (.sl (.int .u8)),WfD (.sl (.int .u8)) x→
   ∃k,∃y:den .bool,Seat.bt k x=some y∧zx .bool y:=fun x h=>
  let⟨k,hk⟩:=Seat.bt.is (p:=x) h.1
  ⟨k,true,hk,rfl⟩
 exact key
theorem IB:Ev Tryz.prog Seat.ext:=fun f gf x y h=>(by cases h)
theorem lifted(os:Os)(started:os.Started)(H:Type)(enc:TypeId×Value→H):
  ReturnsInHanded {} Tryz.checked os 5 .any (Rows.fnEvacuatedSpec.pre6 enc Tryz.prog Tryz.f5 Rows.fnEvacuatedRow.domain false) (Rows.fnEvacuatedSpec.post enc Tryz.prog Tryz.f5 false true false false):=by
 refine returnsInHanded_of_change_sized (C:=Tryz.checked) own started (by kernel_rfl) Tryz.func5
  (ChangeSpec.witness6 (enc:=enc) (C:=Tryz.checked) false ⟨#[],#[.slice none 0 0],[]⟩ 8 (by kernel_rfl) (by kernel_rfl) (by kernel_rfl) (by kernel_rfl)) ?_
 intro W base args ds gs before hval hW _ _ _
 exact AN GI IB laid Tryz.func5 rfl (fun ds h=>by match ds,h with| [_],_=>rfl) (by kernel_rfl) (by kernel_rfl) Tryz.underlying4 pure hval hW
theorem KY:Rows.fnEvacuatedRow.holds Tryz.pinned (OpenSpec.ofChange Rows.fnEvacuatedSpec):=
 OpenClaim.holds_of_wide 5 Tryz.f5 rfl rfl rfl rfl rfl rfl rfl ⟨rfl,rfl,rfl,rfl,rfl⟩ rfl rfl rfl rfl rfl (by kernel_rfl) Tryz.func5 (by kernel_rfl)
  (of_decide_eq_true (by kernel_rfl)) (by unfold Func.isWrapper;first|(rw[if_pos (by decide+kernel)];kernel_rfl)|(rw[if_neg (by decide+kernel)];exact⟨rfl,rfl⟩))
  (fun os started H enc _=>lifted os started H enc)
end Go.Proofs.YtlfpegcoaebmkaaGreat.fnEvacuated
namespace Go.Proofs.YtlfpegcoaebmkaaGreat
theorem fnEvacuated_holds:Rows.FnEvacuatedSaid:=fnEvacuated.KY
#print axioms fnEvacuated_holds
end Go.Proofs.YtlfpegcoaebmkaaGreat
