/- A piece of the law, run by the evaluator. -/
import Derived.Test.YtmnldfiflbjkbaaGreatDoorEvPD
set_option maxRecDepth 100000
namespace Go.Proofs.YtmnldfiflbjkbaaGreatDoor
open Go Go.Ev
theorem pc3_run : pieceTo Tryz.prog.globals.size (.nrm cut4) ((execLW Tryz.prog (cTake 1 (cDrop 9 lawBody))).go (ctxDOF Tryz.prog gls memo1 60) cut3 (glH gls Tryz.prog.globals.size)) = true := by kernel_rfl
end Go.Proofs.YtmnldfiflbjkbaaGreatDoor
