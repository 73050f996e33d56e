/- PlanBlocks at some numbers from 1 to 64, run by the evaluator. -/
import Derived.Test.YtnefaadihgbobaaGreatDoorEvR0
set_option maxRecDepth 100000
namespace Go.Proofs.YtnefaadihgbobaaGreatDoor
open Go Go.Ev
theorem at4 : OrcOk Tryz.prog gls ⟨3, [.int .i64 (.ofNat 4)], .bool true⟩ := at_of_run (by kernel_rfl)
theorem at13 : OrcOk Tryz.prog gls ⟨3, [.int .i64 (.ofNat 13)], .bool true⟩ := at_of_run (by kernel_rfl)
theorem at20 : OrcOk Tryz.prog gls ⟨3, [.int .i64 (.ofNat 20)], .bool true⟩ := at_of_run (by kernel_rfl)
theorem at29 : OrcOk Tryz.prog gls ⟨3, [.int .i64 (.ofNat 29)], .bool true⟩ := at_of_run (by kernel_rfl)
theorem at36 : OrcOk Tryz.prog gls ⟨3, [.int .i64 (.ofNat 36)], .bool true⟩ := at_of_run (by kernel_rfl)
theorem at45 : OrcOk Tryz.prog gls ⟨3, [.int .i64 (.ofNat 45)], .bool true⟩ := at_of_run (by kernel_rfl)
theorem at52 : OrcOk Tryz.prog gls ⟨3, [.int .i64 (.ofNat 52)], .bool true⟩ := at_of_run (by kernel_rfl)
theorem at61 : OrcOk Tryz.prog gls ⟨3, [.int .i64 (.ofNat 61)], .bool true⟩ := at_of_run (by kernel_rfl)
end Go.Proofs.YtnefaadihgbobaaGreatDoor
