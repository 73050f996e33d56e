/- PlanBlocks at some numbers from 1 to 64, run by the evaluator. -/
import Derived.Test.YtnefaadihgbobaaGreatDoorEvR0
set_option maxRecDepth 100000
namespace Go.Proofs.YtnefaadihgbobaaGreatDoor
open Go Go.Ev
theorem at5 : OrcOk Tryz.prog gls ⟨3, [.int .i64 (.ofNat 5)], .bool true⟩ := at_of_run (by kernel_rfl)
theorem at12 : OrcOk Tryz.prog gls ⟨3, [.int .i64 (.ofNat 12)], .bool true⟩ := at_of_run (by kernel_rfl)
theorem at21 : OrcOk Tryz.prog gls ⟨3, [.int .i64 (.ofNat 21)], .bool true⟩ := at_of_run (by kernel_rfl)
theorem at28 : OrcOk Tryz.prog gls ⟨3, [.int .i64 (.ofNat 28)], .bool true⟩ := at_of_run (by kernel_rfl)
theorem at37 : OrcOk Tryz.prog gls ⟨3, [.int .i64 (.ofNat 37)], .bool true⟩ := at_of_run (by kernel_rfl)
theorem at44 : OrcOk Tryz.prog gls ⟨3, [.int .i64 (.ofNat 44)], .bool true⟩ := at_of_run (by kernel_rfl)
theorem at53 : OrcOk Tryz.prog gls ⟨3, [.int .i64 (.ofNat 53)], .bool true⟩ := at_of_run (by kernel_rfl)
theorem at60 : OrcOk Tryz.prog gls ⟨3, [.int .i64 (.ofNat 60)], .bool true⟩ := at_of_run (by kernel_rfl)
end Go.Proofs.YtnefaadihgbobaaGreatDoor
