/- A piece of the law, run by the evaluator. -/
import Derived.Test.YtmnldfiflbjkbaaGreatDoorEvPD
set_option maxRecDepth 100000
namespace Go.Proofs.YtmnldfiflbjkbaaGreatDoor
open Go Go.Ev
theorem pc8_run : pieceTo Tryz.prog.globals.size (.ret cut9) ((compC Tryz.prog (cDrop 14 lawBody) nrmW).go (ctxDOF Tryz.prog gls memo1 60) cut8 (glH gls Tryz.prog.globals.size)) = true := by kernel_rfl
end Go.Proofs.YtmnldfiflbjkbaaGreatDoor
