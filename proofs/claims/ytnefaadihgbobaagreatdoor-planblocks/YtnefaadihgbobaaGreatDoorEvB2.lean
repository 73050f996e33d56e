/- Calls with plain arguments, run by the evaluator: batch 2. -/
import Derived.Test.YtnefaadihgbobaaGreatDoorEvBD
set_option maxRecDepth 100000
namespace Go.Proofs.YtnefaadihgbobaaGreatDoor
open Go Go.Ev
theorem batch2_run : batchOkF Tryz.prog gls memoMask 60 tab2 batch2 = true := by kernel_rfl
end Go.Proofs.YtnefaadihgbobaaGreatDoor
