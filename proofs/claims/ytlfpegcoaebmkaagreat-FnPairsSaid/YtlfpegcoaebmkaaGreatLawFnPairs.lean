/- The law FnPairs answers true whatever it is given, and the arguments read as they did. -/
import Derived.Test.YtlfpegcoaebmkaaGreatRows
import Derived.Test.YtlfpegcoaebmkaaGreatPureFnPairs
import Derived.Test.YtlfpegcoaebmkaaGreatAmW
import Derived.WalkKit
import Derived.ProofKit
import Derived.OpenShut
import Derived.SizedLaws
set_option linter.unusedSimpArgs false
set_option linter.unusedVariables false
set_option linter.unnecessarySimpa false
set_option linter.unusedSectionVars false
namespace Go.Proofs.YtlfpegcoaebmkaaGreat.fnPairs
open Go.Am
attribute [local instance] D.real
set_option maxRecDepth 100000
theorem own:ownKnob Tryz.prog.godebug=none:=by kernel_rfl
theorem laid:laidOutB Tryz.prog=true:=by kernel_rfl
def Hd(P:Program):Bool:=P.funcs.toList.all fun fn=> !(fn.name== "runtime.NumGoroutine")
theorem Ek:Hd Tryz.prog=true:=by kernel_rfl
theorem D7:Go.Am.Good Tryz.prog:=⟨fun f fn hf _=>by
 have h:=List.all_eq_true.1 Ek fn (by
  have:=Array.mem_of_getElem? hf
  simpa using this)
 simpa using h,by kernel_rfl⟩
theorem pure: ∀x:den (gM Tryz.prog 4),WfD (gM Tryz.prog 4) x→ ∃k y,yN Tryz.prog Seat.cfg Seat.ext k 4 x=some y∧xC (resTy Tryz.prog 4) y:=by
 have key: ∀x:den (.sl (.int .u8)),WfD (.sl (.int .u8)) x→
   ∃k,∃y:den .bool,Seat.bB k x=some y∧xC .bool y:=fun x h=>
  let⟨k,hk⟩:=Seat.bB.is (p:=x) h.1
  ⟨k,true,hk,rfl⟩
 exact key
theorem FC:Ci Tryz.prog Seat.ext:=fun f gf x y h=>(by cases h)
theorem lifted(os:Os)(started:os.Started)(H:Type)(enc:TypeId×Value→H):
  ReturnsInHanded {} Tryz.checked os 4 .any (Rows.fnPairsSpec.pre6 enc Tryz.prog Tryz.f4 Rows.fnPairsRow.domain false) (Rows.fnPairsSpec.post enc Tryz.prog Tryz.f4 false true false false):=by
 refine returnsInHanded_of_change_sized (C:=Tryz.checked) own started (by kernel_rfl) Tryz.func4
  (ChangeSpec.witness6 (enc:=enc) (C:=Tryz.checked) false ⟨#[],#[.slice none 0 0],[]⟩ 8 (by kernel_rfl) (by kernel_rfl) (by kernel_rfl) (by kernel_rfl)) ?_
 intro W base args ds gs before hval hW _ _ _
 exact yJ D7 FC laid Tryz.func4 rfl (fun ds h=>by match ds,h with| [_],_=>rfl) (by kernel_rfl) (by kernel_rfl) Tryz.underlying4 pure hval hW
theorem HZ:Rows.fnPairsRow.holds Tryz.pinned (OpenSpec.ofChange Rows.fnPairsSpec):=
 OpenClaim.holds_of_wide 4 Tryz.f4 rfl rfl rfl rfl rfl rfl rfl ⟨rfl,rfl,rfl,rfl,rfl⟩ rfl rfl rfl rfl rfl (by kernel_rfl) Tryz.func4 (by kernel_rfl)
  (of_decide_eq_true (by kernel_rfl)) (by unfold Func.isWrapper;first|(rw[if_pos (by decide+kernel)];kernel_rfl)|(rw[if_neg (by decide+kernel)];exact⟨rfl,rfl⟩))
  (fun os started H enc _=>lifted os started H enc)
end Go.Proofs.YtlfpegcoaebmkaaGreat.fnPairs
namespace Go.Proofs.YtlfpegcoaebmkaaGreat
theorem fnPairs_holds:Rows.FnPairsSaid:=fnPairs.HZ
#print axioms fnPairs_holds
end Go.Proofs.YtlfpegcoaebmkaaGreat
