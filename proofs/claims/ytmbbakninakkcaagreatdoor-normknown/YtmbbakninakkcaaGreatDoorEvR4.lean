/- One example of the chapter, run by the evaluator. -/
import Derived.Test.YtmbbakninakkcaaGreatDoorEvGl
set_option maxRecDepth 100000
namespace Go.Proofs.YtmbbakninakkcaaGreatDoor
open Go Go.Ev
noncomputable def orc4 : Orc := ⟨4, [.str [99, 111, 117, 110, 116, 32, 102, 114, 111, 109, 32, 116, 32, 119, 104, 101, 114, 101, 32, 91, 97, 32, 61, 32, 49, 32, 111, 114, 32, 98, 32, 61, 32, 50, 93, 32, 97, 110, 100, 32, 98, 32, 61, 32, 51, 32, 119, 105, 116, 104, 32, 102, 97, 99, 116, 111, 114, 32, 50, 32, 98, 105, 116, 115, 32, 56], .str [99, 111, 117, 110, 116, 32, 102, 114, 111, 109, 32, 116, 32, 119, 104, 101, 114, 101, 32, 91, 49, 32, 61, 32, 97, 32, 111, 114, 32, 50, 32, 61, 32, 98, 93, 32, 97, 110, 100, 32, 51, 32, 61, 32, 98, 32, 119, 105, 116, 104, 32, 102, 97, 99, 116, 111, 114, 32, 50, 32, 98, 105, 116, 115, 32, 56]], .bool true⟩
theorem orc4_run : ranTo Tryz.prog.globals.size orc4.v ((ctxDO Tryz.prog gls [] 60).call orc4.g orc4.args (glH gls Tryz.prog.globals.size)) = true := by kernel_rfl
theorem orc4_ok : OrcOk Tryz.prog gls orc4 := orc_of_run (ctxDO_sound mixed prog_ok gl_ok (fun _ h => (by cases h)) 60) gl_lim gl_ok orc4 (by kernel_rfl) orc4_run
end Go.Proofs.YtmbbakninakkcaaGreatDoor
