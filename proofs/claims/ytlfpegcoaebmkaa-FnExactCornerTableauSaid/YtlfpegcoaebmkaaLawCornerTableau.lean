/- The law FnExactCornerTableau answers true whatever it is given, and the arguments read as they did. -/
import Derived.Test.YtlfpegcoaebmkaaRows
import Derived.Test.YtlfpegcoaebmkaaPureCornerTableau
import Derived.Test.YtlfpegcoaebmkaaAmW
import Derived.WalkKit
import Derived.ProofKit
import Derived.OpenShut
import Derived.SizedLaws
set_option linter.unusedSimpArgs false
set_option linter.unusedVariables false
set_option linter.unnecessarySimpa false
set_option linter.unusedSectionVars false
namespace Go.Proofs.Ytlfpegcoaebmkaa.fnExactCornerTableau
open Go.Am
attribute [local instance] D.real
set_option maxRecDepth 100000
theorem own:ownKnob Try.prog.godebug=none:=by kernel_rfl
theorem laid:laidOutB Try.prog=true:=by kernel_rfl
def AW(P:Program):Bool:=P.funcs.toList.all fun fn=> !(fn.name== "runtime.NumGoroutine")
theorem zh:AW Try.prog=true:=by kernel_rfl
theorem y0:Go.Am.Good Try.prog:=⟨fun f fn hf _=>by
 have h:=List.all_eq_true.1 zh fn (by
  have:=Array.mem_of_getElem? hf
  simpa using this)
 simpa using h,by kernel_rfl⟩
theorem pure: ∀x:den (fJ Try.prog 3),WfD (fJ Try.prog 3) x→ ∃k y,tF Try.prog Seat.cfg Seat.ext k 3 x=some y∧sx (resTy Try.prog 3) y:=by
 have key: ∀x:den (.pair (.pair (.sl (.int .i64)) (.sl (.sl (.int .i64)))) (.pair (.sl (.int .i64)) (.sl (.sl (.int .i64))))),WfD (.pair (.pair (.sl (.int .i64)) (.sl (.sl (.int .i64)))) (.pair (.sl (.int .i64)) (.sl (.sl (.int .i64))))) x→
   ∃k,∃y:den .bool,Seat.ao k x.1 x.2=some y∧sx .bool y:=fun x h=>
  let⟨k,hk⟩:=Seat.ao.is (p:=x.1) (q:=x.2) h.1.1.1 h.1.2.1 (fun r hr=>(h.1.2.2 r hr).1) h.2.1.1 h.2.2.1 (fun r hr=>(h.2.2.2 r hr).1)
  ⟨k,true,hk,rfl⟩
 exact key
theorem AE:xC Try.prog Seat.ext:=fun f gf x y h=>(by cases h)
theorem lifted(os:Os)(started:os.Started)(H:Type)(enc:TypeId×Value→H):
  ReturnsInHanded {} Try.checked os 3 .any (Rows.fnExactCornerTableauSpec.pre6 enc Try.prog Try.f3 Rows.fnExactCornerTableauRow.domain false) (Rows.fnExactCornerTableauSpec.post enc Try.prog Try.f3 false true false false):=by
 refine returnsInHanded_of_change_sized (C:=Try.checked) own started (by kernel_rfl) Try.func3
  (ChangeSpec.witness6 (enc:=enc) (C:=Try.checked) false ⟨#[],#[.agg #[.slice none 0 0,.slice none 0 0],.agg #[.slice none 0 0,.slice none 0 0]],[]⟩ 8 (by kernel_rfl) (by kernel_rfl) (by kernel_rfl) (by kernel_rfl)) ?_
 intro W base args ds gs before hval hW _ _ _
 exact tC y0 AE laid Try.func3 rfl (fun ds h=>by match ds,h with| [_,_],_=>rfl) (by kernel_rfl) (by kernel_rfl) Try.underlying4 pure hval hW
theorem A9:Rows.fnExactCornerTableauRow.holds Try.pinned (OpenSpec.ofChange Rows.fnExactCornerTableauSpec):=
 OpenClaim.holds_of_wide 3 Try.f3 rfl rfl rfl rfl rfl rfl rfl ⟨rfl,rfl,rfl,rfl,rfl⟩ rfl rfl rfl rfl rfl (by kernel_rfl) Try.func3 (by kernel_rfl)
  (of_decide_eq_true (by kernel_rfl)) (by unfold Func.isWrapper;first|(rw[if_pos (by decide+kernel)];kernel_rfl)|(rw[if_neg (by decide+kernel)];exact⟨rfl,rfl⟩))
  (fun os started H enc _=>lifted os started H enc)
end Go.Proofs.Ytlfpegcoaebmkaa.fnExactCornerTableau
namespace Go.Proofs.Ytlfpegcoaebmkaa
theorem fnExactCornerTableau_holds:Rows.FnExactCornerTableauSaid:=fnExactCornerTableau.A9
#print axioms fnExactCornerTableau_holds
end Go.Proofs.Ytlfpegcoaebmkaa
