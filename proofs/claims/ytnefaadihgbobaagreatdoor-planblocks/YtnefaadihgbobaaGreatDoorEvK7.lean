/- PlanBlocks at some numbers from 1 to 64, run by the evaluator. -/
import Derived.Test.YtnefaadihgbobaaGreatDoorEvR0
set_option maxRecDepth 100000
namespace Go.Proofs.YtnefaadihgbobaaGreatDoor
open Go Go.Ev
theorem at8 : OrcOk Tryz.prog gls ⟨3, [.int .i64 (.ofNat 8)], .bool true⟩ := at_of_run (by kernel_rfl)
theorem at9 : OrcOk Tryz.prog gls ⟨3, [.int .i64 (.ofNat 9)], .bool true⟩ := at_of_run (by kernel_rfl)
theorem at24 : OrcOk Tryz.prog gls ⟨3, [.int .i64 (.ofNat 24)], .bool true⟩ := at_of_run (by kernel_rfl)
theorem at25 : OrcOk Tryz.prog gls ⟨3, [.int .i64 (.ofNat 25)], .bool true⟩ := at_of_run (by kernel_rfl)
theorem at40 : OrcOk Tryz.prog gls ⟨3, [.int .i64 (.ofNat 40)], .bool true⟩ := at_of_run (by kernel_rfl)
theorem at41 : OrcOk Tryz.prog gls ⟨3, [.int .i64 (.ofNat 41)], .bool true⟩ := at_of_run (by kernel_rfl)
theorem at56 : OrcOk Tryz.prog gls ⟨3, [.int .i64 (.ofNat 56)], .bool true⟩ := at_of_run (by kernel_rfl)
theorem at57 : OrcOk Tryz.prog gls ⟨3, [.int .i64 (.ofNat 57)], .bool true⟩ := at_of_run (by kernel_rfl)
end Go.Proofs.YtnefaadihgbobaaGreatDoor
