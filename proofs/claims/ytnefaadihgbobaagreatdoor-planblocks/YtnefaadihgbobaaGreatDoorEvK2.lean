/- PlanBlocks at some numbers from 1 to 64, run by the evaluator. -/
import Derived.Test.YtnefaadihgbobaaGreatDoorEvR0
set_option maxRecDepth 100000
namespace Go.Proofs.YtnefaadihgbobaaGreatDoor
open Go Go.Ev
theorem at3 : OrcOk Tryz.prog gls ⟨3, [.int .i64 (.ofNat 3)], .bool true⟩ := at_of_run (by kernel_rfl)
theorem at14 : OrcOk Tryz.prog gls ⟨3, [.int .i64 (.ofNat 14)], .bool true⟩ := at_of_run (by kernel_rfl)
theorem at19 : OrcOk Tryz.prog gls ⟨3, [.int .i64 (.ofNat 19)], .bool true⟩ := at_of_run (by kernel_rfl)
theorem at30 : OrcOk Tryz.prog gls ⟨3, [.int .i64 (.ofNat 30)], .bool true⟩ := at_of_run (by kernel_rfl)
theorem at35 : OrcOk Tryz.prog gls ⟨3, [.int .i64 (.ofNat 35)], .bool true⟩ := at_of_run (by kernel_rfl)
theorem at46 : OrcOk Tryz.prog gls ⟨3, [.int .i64 (.ofNat 46)], .bool true⟩ := at_of_run (by kernel_rfl)
theorem at51 : OrcOk Tryz.prog gls ⟨3, [.int .i64 (.ofNat 51)], .bool true⟩ := at_of_run (by kernel_rfl)
theorem at62 : OrcOk Tryz.prog gls ⟨3, [.int .i64 (.ofNat 62)], .bool true⟩ := at_of_run (by kernel_rfl)
end Go.Proofs.YtnefaadihgbobaaGreatDoor
