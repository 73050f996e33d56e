/- The first examples of the law, run by the evaluator. -/
import Derived.Test.YtmnldfiflbjkbaaGreatDoorEvBT
set_option maxRecDepth 100000
namespace Go.Proofs.YtmnldfiflbjkbaaGreatDoor
open Go Go.Ev
noncomputable def orcLives : Orc := ⟨4, [], .bool true⟩
theorem orcLives_run : ranTo Tryz.prog.globals.size orcLives.v ((ctxDOF Tryz.prog gls memo 60).call orcLives.g orcLives.args (glH gls Tryz.prog.globals.size)) = true := by kernel_rfl
theorem orcLives_ok : OrcOk Tryz.prog gls orcLives := orc_of_run (ctxDO_sound mixed prog_ok gl_ok memo_ok 60) gl_lim gl_ok orcLives (by kernel_rfl) (ran_fast orcLives_run)
noncomputable def memo1 : Tab := ⟨Nat.lor memoMask 16, orcLives :: memo.l⟩
theorem memo1_ok : ∀ o ∈ memo1.l, OrcOk Tryz.prog gls o := by
  intro o ho
  rcases List.mem_cons.1 ho with rfl | ho
  · exact orcLives_ok
  · exact memo_ok o ho
end Go.Proofs.YtmnldfiflbjkbaaGreatDoor
