/- The examples of 'awake', run by the evaluator. -/
import Derived.Test.YtnefaadihgbobaaGreatDoorEvBT
set_option maxRecDepth 100000
namespace Go.Proofs.YtnefaadihgbobaaGreatDoor
open Go Go.Ev
noncomputable def orcAwake : Orc := ⟨7, [], .bool true⟩
theorem orcAwake_run : ranTo Tryz.prog.globals.size orcAwake.v ((ctxDO Tryz.prog gls memo 60).call orcAwake.g orcAwake.args (glH gls Tryz.prog.globals.size)) = true := by kernel_rfl
theorem orcAwake_ok : OrcOk Tryz.prog gls orcAwake := orc_of_run (ctxDO_sound mixed prog_ok gl_ok memo_ok 60) gl_lim gl_ok orcAwake (by kernel_rfl) orcAwake_run
end Go.Proofs.YtnefaadihgbobaaGreatDoor
