/- Calls with plain arguments, run by the evaluator: batch 0. -/
import Derived.Test.YtnefaadihgbobaaGreatDoorEvBD
set_option maxRecDepth 100000
namespace Go.Proofs.YtnefaadihgbobaaGreatDoor
open Go Go.Ev
theorem batch0_run : batchOkF Tryz.prog gls memoMask 60 tab0 batch0 = true := by kernel_rfl
end Go.Proofs.YtnefaadihgbobaaGreatDoor
