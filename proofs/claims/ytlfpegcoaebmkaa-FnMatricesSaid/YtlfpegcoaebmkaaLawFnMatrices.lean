/- The law FnMatrices answers true whatever it is given, and the arguments read as they did. -/
import Derived.Test.YtlfpegcoaebmkaaRows
import Derived.Test.YtlfpegcoaebmkaaPureFnMatrices
import Derived.Test.YtlfpegcoaebmkaaAmW
import Derived.WalkKit
import Derived.ProofKit
import Derived.OpenShut
import Derived.SizedLaws
set_option linter.unusedSimpArgs false
set_option linter.unusedVariables false
set_option linter.unnecessarySimpa false
set_option linter.unusedSectionVars false
namespace Go.Proofs.Ytlfpegcoaebmkaa.fnMatrices
open Go.Am
attribute [local instance] D.real
set_option maxRecDepth 100000
theorem own:ownKnob Try.prog.godebug=none:=by kernel_rfl
theorem laid:laidOutB Try.prog=true:=by kernel_rfl
def Ia(P:Program):Bool:=P.funcs.toList.all fun fn=> !(fn.name== "runtime.NumGoroutine")
theorem FM:Ia Try.prog=true:=by kernel_rfl
theorem FO:Go.Am.Good Try.prog:=⟨fun f fn hf _=>by
 have h:=List.all_eq_true.1 FM fn (by
  have:=Array.mem_of_getElem? hf
  simpa using this)
 simpa using h,by kernel_rfl⟩
theorem pure: ∀x:den (gH Try.prog 5),WfD (gH Try.prog 5) x→ ∃k y,zj Try.prog Seat.cfg Seat.ext k 5 x=some y∧yG (resTy Try.prog 5) y:=by
 have key: ∀x:den (.sl (.int .u8)),WfD (.sl (.int .u8)) x→
   ∃k,∃y:den .bool,Seat.bc k x=some y∧yG .bool y:=fun x h=>
  let⟨k,hk⟩:=Seat.bc.is (p:=x) h.1
  ⟨k,true,hk,rfl⟩
 exact key
theorem HU:Dp Try.prog Seat.ext:=fun f gf x y h=>(by cases h)
theorem lifted(os:Os)(started:os.Started)(H:Type)(enc:TypeId×Value→H):
  ReturnsInHanded {} Try.checked os 5 .any (Rows.fnMatricesSpec.pre6 enc Try.prog Try.f5 Rows.fnMatricesRow.domain false) (Rows.fnMatricesSpec.post enc Try.prog Try.f5 false true false false):=by
 refine returnsInHanded_of_change_sized (C:=Try.checked) own started (by kernel_rfl) Try.func5
  (ChangeSpec.witness6 (enc:=enc) (C:=Try.checked) false ⟨#[],#[.slice none 0 0],[]⟩ 8 (by kernel_rfl) (by kernel_rfl) (by kernel_rfl) (by kernel_rfl)) ?_
 intro W base args ds gs before hval hW _ _ _
 exact yV FO HU laid Try.func5 rfl (fun ds h=>by match ds,h with| [_],_=>rfl) (by kernel_rfl) (by kernel_rfl) Try.underlying4 pure hval hW
theorem JN:Rows.fnMatricesRow.holds Try.pinned (OpenSpec.ofChange Rows.fnMatricesSpec):=
 OpenClaim.holds_of_wide 5 Try.f5 rfl rfl rfl rfl rfl rfl rfl ⟨rfl,rfl,rfl,rfl,rfl⟩ rfl rfl rfl rfl rfl (by kernel_rfl) Try.func5 (by kernel_rfl)
  (of_decide_eq_true (by kernel_rfl)) (by unfold Func.isWrapper;first|(rw[if_pos (by decide+kernel)];kernel_rfl)|(rw[if_neg (by decide+kernel)];exact⟨rfl,rfl⟩))
  (fun os started H enc _=>lifted os started H enc)
end Go.Proofs.Ytlfpegcoaebmkaa.fnMatrices
namespace Go.Proofs.Ytlfpegcoaebmkaa
theorem fnMatrices_holds:Rows.FnMatricesSaid:=fnMatrices.JN
#print axioms fnMatrices_holds
end Go.Proofs.Ytlfpegcoaebmkaa
