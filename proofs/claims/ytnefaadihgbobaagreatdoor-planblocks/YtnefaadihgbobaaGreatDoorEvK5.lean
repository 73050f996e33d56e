/- PlanBlocks at some numbers from 1 to 64, run by the evaluator. -/
import Derived.Test.YtnefaadihgbobaaGreatDoorEvR0
set_option maxRecDepth 100000
namespace Go.Proofs.YtnefaadihgbobaaGreatDoor
open Go Go.Ev
theorem at6 : OrcOk Tryz.prog gls ⟨3, [.int .i64 (.ofNat 6)], .bool true⟩ := at_of_run (by kernel_rfl)
theorem at11 : OrcOk Tryz.prog gls ⟨3, [.int .i64 (.ofNat 11)], .bool true⟩ := at_of_run (by kernel_rfl)
theorem at22 : OrcOk Tryz.prog gls ⟨3, [.int .i64 (.ofNat 22)], .bool true⟩ := at_of_run (by kernel_rfl)
theorem at27 : OrcOk Tryz.prog gls ⟨3, [.int .i64 (.ofNat 27)], .bool true⟩ := at_of_run (by kernel_rfl)
theorem at38 : OrcOk Tryz.prog gls ⟨3, [.int .i64 (.ofNat 38)], .bool true⟩ := at_of_run (by kernel_rfl)
theorem at43 : OrcOk Tryz.prog gls ⟨3, [.int .i64 (.ofNat 43)], .bool true⟩ := at_of_run (by kernel_rfl)
theorem at54 : OrcOk Tryz.prog gls ⟨3, [.int .i64 (.ofNat 54)], .bool true⟩ := at_of_run (by kernel_rfl)
theorem at59 : OrcOk Tryz.prog gls ⟨3, [.int .i64 (.ofNat 59)], .bool true⟩ := at_of_run (by kernel_rfl)
end Go.Proofs.YtnefaadihgbobaaGreatDoor
