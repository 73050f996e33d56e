/- One example of the chapter, run by the evaluator. -/
import Derived.Test.YtmbbakninakkcaaGreatDoorEvGl
set_option maxRecDepth 100000
namespace Go.Proofs.YtmbbakninakkcaaGreatDoor
open Go Go.Ev
noncomputable def orc3 : Orc := ⟨4, [.str [99, 111, 117, 110, 116, 32, 102, 114, 111, 109, 32, 116, 32, 119, 104, 101, 114, 101, 32, 110, 111, 116, 32, 110, 111, 116, 32, 99, 32, 33, 61, 32, 39, 120, 39, 32, 119, 105, 116, 104, 32, 102, 97, 99, 116, 111, 114, 32, 50, 32, 98, 105, 116, 115, 32, 56], .str [99, 111, 117, 110, 116, 32, 102, 114, 111, 109, 32, 116, 32, 119, 104, 101, 114, 101, 32, 99, 32, 33, 61, 32, 39, 120, 39, 32, 119, 105, 116, 104, 32, 102, 97, 99, 116, 111, 114, 32, 50, 32, 98, 105, 116, 115, 32, 56]], .bool true⟩
theorem orc3_run : ranTo Tryz.prog.globals.size orc3.v ((ctxDO Tryz.prog gls [] 60).call orc3.g orc3.args (glH gls Tryz.prog.globals.size)) = true := by kernel_rfl
theorem orc3_ok : OrcOk Tryz.prog gls orc3 := orc_of_run (ctxDO_sound mixed prog_ok gl_ok (fun _ h => (by cases h)) 60) gl_lim gl_ok orc3 (by kernel_rfl) orc3_run
end Go.Proofs.YtmbbakninakkcaaGreatDoor
