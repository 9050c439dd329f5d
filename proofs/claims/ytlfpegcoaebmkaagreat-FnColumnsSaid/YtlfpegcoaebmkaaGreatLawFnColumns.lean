/- The law FnColumns answers true whatever it is given, and the arguments read as they did. -/
import Derived.Test.YtlfpegcoaebmkaaGreatRows
import Derived.Test.YtlfpegcoaebmkaaGreatPureFnColumns
import Derived.Test.YtlfpegcoaebmkaaGreatAmW
import Derived.WalkKit
import Derived.ProofKit
import Derived.OpenShut
import Derived.SizedLaws
set_option linter.unusedSimpArgs false
set_option linter.unusedVariables false
set_option linter.unnecessarySimpa false
set_option linter.unusedSectionVars false
namespace Go.Proofs.YtlfpegcoaebmkaaGreat.fnColumns
open Go.Am
attribute [local instance] D.real
set_option maxRecDepth 100000
theorem own:ownKnob Tryz.prog.godebug=none:=by kernel_rfl
theorem laid:laidOutB Tryz.prog=true:=by kernel_rfl
def Ih(P:Program):Bool:=P.funcs.toList.all fun fn=> !(fn.name== "runtime.NumGoroutine")
theorem E8:Ih Tryz.prog=true:=by kernel_rfl
theorem Ff:Go.Am.Good Tryz.prog:=⟨fun f fn hf _=>by
 have h:=List.all_eq_true.1 E8 fn (by
  have:=Array.mem_of_getElem? hf
  simpa using this)
 simpa using h,by kernel_rfl⟩
theorem pure: ∀x:den (gC Tryz.prog 3),WfD (gC Tryz.prog 3) x→ ∃k y,y8 Tryz.prog Seat.cfg Seat.ext k 3 x=some y∧yH (resTy Tryz.prog 3) y:=by
 have key: ∀x:den (.sl (.int .u8)),WfD (.sl (.int .u8)) x→
   ∃k,∃y:den .bool,Seat.bc k x=some y∧yH .bool y:=fun x h=>
  let⟨k,hk⟩:=Seat.bc.is (p:=x) h.1
  ⟨k,true,hk,rfl⟩
 exact key
theorem G4:CE Tryz.prog Seat.ext:=fun f gf x y h=>(by cases h)
theorem lifted(os:Os)(started:os.Started)(H:Type)(enc:TypeId×Value→H):
  ReturnsInHanded {} Tryz.checked os 3 .any (Rows.fnColumnsSpec.pre6 enc Tryz.prog Tryz.f3 Rows.fnColumnsRow.domain false) (Rows.fnColumnsSpec.post enc Tryz.prog Tryz.f3 false true false false):=by
 refine returnsInHanded_of_change_sized (C:=Tryz.checked) own started (by kernel_rfl) Tryz.func3
  (ChangeSpec.witness6 (enc:=enc) (C:=Tryz.checked) false ⟨#[],#[.slice none 0 0],[]⟩ 8 (by kernel_rfl) (by kernel_rfl) (by kernel_rfl) (by kernel_rfl)) ?_
 intro W base args ds gs before hval hW _ _ _
 exact za Ff G4 laid Tryz.func3 rfl (fun ds h=>by match ds,h with| [_],_=>rfl) (by kernel_rfl) (by kernel_rfl) Tryz.underlying4 pure hval hW
theorem IJ:Rows.fnColumnsRow.holds Tryz.pinned (OpenSpec.ofChange Rows.fnColumnsSpec):=
 OpenClaim.holds_of_wide 3 Tryz.f3 rfl rfl rfl rfl rfl rfl rfl ⟨rfl,rfl,rfl,rfl,rfl⟩ rfl rfl rfl rfl rfl (by kernel_rfl) Tryz.func3 (by kernel_rfl)
  (of_decide_eq_true (by kernel_rfl)) (by unfold Func.isWrapper;first|(rw[if_pos (by decide+kernel)];kernel_rfl)|(rw[if_neg (by decide+kernel)];exact⟨rfl,rfl⟩))
  (fun os started H enc _=>lifted os started H enc)
end Go.Proofs.YtlfpegcoaebmkaaGreat.fnColumns
namespace Go.Proofs.YtlfpegcoaebmkaaGreat
theorem fnColumns_holds:Rows.FnColumnsSaid:=fnColumns.IJ
#print axioms fnColumns_holds
end Go.Proofs.YtlfpegcoaebmkaaGreat
