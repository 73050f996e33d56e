/- PlanBlocks at some numbers from 1 to 64, run by the evaluator. -/
import Derived.Test.YtnefaadihgbobaaGreatDoorEvR0
set_option maxRecDepth 100000
namespace Go.Proofs.YtnefaadihgbobaaGreatDoor
open Go Go.Ev
theorem at7 : OrcOk Tryz.prog gls ⟨3, [.int .i64 (.ofNat 7)], .bool true⟩ := at_of_run (by kernel_rfl)
theorem at10 : OrcOk Tryz.prog gls ⟨3, [.int .i64 (.ofNat 10)], .bool true⟩ := at_of_run (by kernel_rfl)
theorem at23 : OrcOk Tryz.prog gls ⟨3, [.int .i64 (.ofNat 23)], .bool true⟩ := at_of_run (by kernel_rfl)
theorem at26 : OrcOk Tryz.prog gls ⟨3, [.int .i64 (.ofNat 26)], .bool true⟩ := at_of_run (by kernel_rfl)
theorem at39 : OrcOk Tryz.prog gls ⟨3, [.int .i64 (.ofNat 39)], .bool true⟩ := at_of_run (by kernel_rfl)
theorem at42 : OrcOk Tryz.prog gls ⟨3, [.int .i64 (.ofNat 42)], .bool true⟩ := at_of_run (by kernel_rfl)
theorem at55 : OrcOk Tryz.prog gls ⟨3, [.int .i64 (.ofNat 55)], .bool true⟩ := at_of_run (by kernel_rfl)
theorem at58 : OrcOk Tryz.prog gls ⟨3, [.int .i64 (.ofNat 58)], .bool true⟩ := at_of_run (by kernel_rfl)
end Go.Proofs.YtnefaadihgbobaaGreatDoor
