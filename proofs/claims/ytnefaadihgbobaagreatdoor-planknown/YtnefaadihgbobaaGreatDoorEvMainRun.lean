/- All examples of the chapter together: the call of PlanKnown. -/
import Derived.Test.YtnefaadihgbobaaGreatDoorEvR0
set_option maxRecDepth 100000
namespace Go.Proofs.YtnefaadihgbobaaGreatDoor
open Go Go.Ev
noncomputable def memo1 : Tab := ⟨Nat.lor memoMask 128, orcAwake :: memo.l⟩
theorem memo1_ok : ∀ o ∈ memo1.l, OrcOk Tryz.prog gls o := by
  intro o ho
  rcases List.mem_cons.1 ho with rfl | ho
  · exact orcAwake_ok
  · exact memo_ok o ho
noncomputable def orcMain : Orc := ⟨4, [], .bool true⟩
theorem orcMain_run : ranTo Tryz.prog.globals.size orcMain.v ((ctxDO Tryz.prog gls memo1 60).call orcMain.g orcMain.args (glH gls Tryz.prog.globals.size)) = true := by kernel_rfl
theorem orcMain_ok : OrcOk Tryz.prog gls orcMain := orc_of_run (ctxDO_sound mixed prog_ok gl_ok memo1_ok 60) gl_lim gl_ok orcMain (by kernel_rfl) orcMain_run
end Go.Proofs.YtnefaadihgbobaaGreatDoor
