/- One example of the chapter, run by the evaluator. -/
import Derived.Test.YtmbbakninakkcaaGreatDoorEvGl
set_option maxRecDepth 100000
namespace Go.Proofs.YtmbbakninakkcaaGreatDoor
open Go Go.Ev
noncomputable def orc0 : Orc := ⟨4, [.str [99, 111, 117, 110, 116, 32, 102, 114, 111, 109, 32, 116, 32, 119, 104, 101, 114, 101, 32, 51, 32, 60, 32, 97, 32, 97, 110, 100, 32, 110, 111, 116, 32, 97, 32, 62, 61, 32, 49, 48, 32, 119, 105, 116, 104, 32, 102, 97, 99, 116, 111, 114, 32, 52, 47, 50, 32, 98, 105, 116, 115, 32, 56], .str [99, 111, 117, 110, 116, 32, 102, 114, 111, 109, 32, 116, 32, 119, 104, 101, 114, 101, 32, 51, 32, 60, 32, 97, 32, 97, 110, 100, 32, 97, 32, 60, 32, 49, 48, 32, 119, 105, 116, 104, 32, 102, 97, 99, 116, 111, 114, 32, 50, 32, 98, 105, 116, 115, 32, 56]], .bool true⟩
theorem orc0_run : ranTo Tryz.prog.globals.size orc0.v ((ctxDO Tryz.prog gls [] 60).call orc0.g orc0.args (glH gls Tryz.prog.globals.size)) = true := by kernel_rfl
theorem orc0_ok : OrcOk Tryz.prog gls orc0 := orc_of_run (ctxDO_sound mixed prog_ok gl_ok (fun _ h => (by cases h)) 60) gl_lim gl_ok orc0 (by kernel_rfl) orc0_run
end Go.Proofs.YtmbbakninakkcaaGreatDoor
