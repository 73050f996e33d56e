/- One example of the chapter, run by the evaluator. -/
import Derived.Test.YtmbbakninakkcaaGreatDoorEvGl
set_option maxRecDepth 100000
namespace Go.Proofs.YtmbbakninakkcaaGreatDoor
open Go Go.Ev
noncomputable def orc1 : Orc := ⟨4, [.str [115, 117, 109, 32, 40, 97, 32, 43, 32, 48, 41, 32, 42, 32, 49, 32, 45, 32, 40, 50, 32, 45, 32, 53, 41, 32, 98, 101, 116, 119, 101, 101, 110, 32, 45, 49, 32, 97, 110, 100, 32, 49, 32, 102, 114, 111, 109, 32, 116, 32, 119, 105, 116, 104, 32, 102, 97, 99, 116, 111, 114, 32, 50, 32, 98, 105, 116, 115, 32, 56], .str [115, 117, 109, 32, 97, 32, 45, 32, 45, 32, 51, 32, 98, 101, 116, 119, 101, 101, 110, 32, 45, 32, 49, 32, 97, 110, 100, 32, 49, 32, 102, 114, 111, 109, 32, 116, 32, 119, 105, 116, 104, 32, 102, 97, 99, 116, 111, 114, 32, 50, 32, 98, 105, 116, 115, 32, 56]], .bool true⟩
theorem orc1_run : ranTo Tryz.prog.globals.size orc1.v ((ctxDO Tryz.prog gls [] 60).call orc1.g orc1.args (glH gls Tryz.prog.globals.size)) = true := by kernel_rfl
theorem orc1_ok : OrcOk Tryz.prog gls orc1 := orc_of_run (ctxDO_sound mixed prog_ok gl_ok (fun _ h => (by cases h)) 60) gl_lim gl_ok orc1 (by kernel_rfl) orc1_run
end Go.Proofs.YtmbbakninakkcaaGreatDoor
