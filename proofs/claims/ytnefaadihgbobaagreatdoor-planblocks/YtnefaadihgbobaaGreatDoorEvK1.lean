/- PlanBlocks at some numbers from 1 to 64, run by the evaluator. -/
import Derived.Test.YtnefaadihgbobaaGreatDoorEvR0
set_option maxRecDepth 100000
namespace Go.Proofs.YtnefaadihgbobaaGreatDoor
open Go Go.Ev
theorem at2 : OrcOk Tryz.prog gls ⟨3, [.int .i64 (.ofNat 2)], .bool true⟩ := at_of_run (by kernel_rfl)
theorem at15 : OrcOk Tryz.prog gls ⟨3, [.int .i64 (.ofNat 15)], .bool true⟩ := at_of_run (by kernel_rfl)
theorem at18 : OrcOk Tryz.prog gls ⟨3, [.int .i64 (.ofNat 18)], .bool true⟩ := at_of_run (by kernel_rfl)
theorem at31 : OrcOk Tryz.prog gls ⟨3, [.int .i64 (.ofNat 31)], .bool true⟩ := at_of_run (by kernel_rfl)
theorem at34 : OrcOk Tryz.prog gls ⟨3, [.int .i64 (.ofNat 34)], .bool true⟩ := at_of_run (by kernel_rfl)
theorem at47 : OrcOk Tryz.prog gls ⟨3, [.int .i64 (.ofNat 47)], .bool true⟩ := at_of_run (by kernel_rfl)
theorem at50 : OrcOk Tryz.prog gls ⟨3, [.int .i64 (.ofNat 50)], .bool true⟩ := at_of_run (by kernel_rfl)
theorem at63 : OrcOk Tryz.prog gls ⟨3, [.int .i64 (.ofNat 63)], .bool true⟩ := at_of_run (by kernel_rfl)
end Go.Proofs.YtnefaadihgbobaaGreatDoor
