/- All examples of the chapter together: the call of NormKnown. -/
import Derived.Test.YtmbbakninakkcaaGreatDoorEvR0
import Derived.Test.YtmbbakninakkcaaGreatDoorEvR1
import Derived.Test.YtmbbakninakkcaaGreatDoorEvR2
import Derived.Test.YtmbbakninakkcaaGreatDoorEvR3
import Derived.Test.YtmbbakninakkcaaGreatDoorEvR4
set_option maxRecDepth 100000
namespace Go.Proofs.YtmbbakninakkcaaGreatDoor
open Go Go.Ev
noncomputable def orcs : List Orc := [orc0, orc1, orc2, orc3, orc4]
theorem orcs_ok : ∀ o ∈ orcs, OrcOk Tryz.prog gls o := by
  intro o ho
  simp only [orcs, List.mem_cons, List.mem_nil_iff, or_false] at ho
  rcases ho with rfl | rfl | rfl | rfl | rfl
  · exact orc0_ok
  · exact orc1_ok
  · exact orc2_ok
  · exact orc3_ok
  · exact orc4_ok
noncomputable def orcMain : Orc := ⟨3, [], .bool true⟩
theorem orcMain_run : ranTo Tryz.prog.globals.size orcMain.v ((ctxDO Tryz.prog gls orcs 60).call orcMain.g orcMain.args (glH gls Tryz.prog.globals.size)) = true := by kernel_rfl
theorem orcMain_ok : OrcOk Tryz.prog gls orcMain := orc_of_run (ctxDO_sound mixed prog_ok gl_ok orcs_ok 60) gl_lim gl_ok orcMain (by kernel_rfl) orcMain_run
end Go.Proofs.YtmbbakninakkcaaGreatDoor
