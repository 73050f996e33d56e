/- The examples of 'awake', run by the evaluator. -/
import Derived.Test.YtnefaadihgbobaaGreatDoorEvBT
set_option maxRecDepth 100000
namespace Go.Proofs.YtnefaadihgbobaaGreatDoor
open Go Go.Ev
noncomputable def orcAwake : Orc := ⟨7, [], .bool true⟩
theorem orcAwake_run : ranTo Tryz.prog.globals.size orcAwake.v ((ctxDOF Tryz.prog gls memo 60).call orcAwake.g orcAwake.args (glH gls Tryz.prog.globals.size)) = true := by kernel_rfl
theorem orcAwake_ok : OrcOk Tryz.prog gls orcAwake := orc_of_run (ctxDO_sound mixed prog_ok gl_ok memo_ok 60) gl_lim gl_ok orcAwake (by kernel_rfl) (ran_fast orcAwake_run)
theorem awake_ok : ∀ o ∈ [orcAwake], OrcOk Tryz.prog gls o := fun o ho => by rw [List.mem_singleton] at ho; subst ho; exact orcAwake_ok
/-- the law at one number, run by the evaluator with 'awake' looked up -/
theorem at_of_run {n : Int} (hr : batchOkF Tryz.prog gls 128 60 [orcAwake] [⟨3, [.int .i64 n], .bool true⟩] = true) : OrcOk Tryz.prog gls ⟨3, [.int .i64 n], .bool true⟩ :=
  batch_ok mixed prog_ok gl_lim gl_ok _ _ awake_ok (batch_fast _ _ hr) _ (List.mem_singleton.2 rfl)
end Go.Proofs.YtnefaadihgbobaaGreatDoor
