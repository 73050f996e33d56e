/- PlanBlocks at some numbers from 1 to 64, run by the evaluator. -/
import Derived.Test.YtnefaadihgbobaaGreatDoorEvR0
set_option maxRecDepth 100000
namespace Go.Proofs.YtnefaadihgbobaaGreatDoor
open Go Go.Ev
theorem at1 : OrcOk Tryz.prog gls ⟨3, [.int .i64 (.ofNat 1)], .bool true⟩ := at_of_run (by kernel_rfl)
theorem at16 : OrcOk Tryz.prog gls ⟨3, [.int .i64 (.ofNat 16)], .bool true⟩ := at_of_run (by kernel_rfl)
theorem at17 : OrcOk Tryz.prog gls ⟨3, [.int .i64 (.ofNat 17)], .bool true⟩ := at_of_run (by kernel_rfl)
theorem at32 : OrcOk Tryz.prog gls ⟨3, [.int .i64 (.ofNat 32)], .bool true⟩ := at_of_run (by kernel_rfl)
theorem at33 : OrcOk Tryz.prog gls ⟨3, [.int .i64 (.ofNat 33)], .bool true⟩ := at_of_run (by kernel_rfl)
theorem at48 : OrcOk Tryz.prog gls ⟨3, [.int .i64 (.ofNat 48)], .bool true⟩ := at_of_run (by kernel_rfl)
theorem at49 : OrcOk Tryz.prog gls ⟨3, [.int .i64 (.ofNat 49)], .bool true⟩ := at_of_run (by kernel_rfl)
theorem at64 : OrcOk Tryz.prog gls ⟨3, [.int .i64 (.ofNat 64)], .bool true⟩ := at_of_run (by kernel_rfl)
end Go.Proofs.YtnefaadihgbobaaGreatDoor
