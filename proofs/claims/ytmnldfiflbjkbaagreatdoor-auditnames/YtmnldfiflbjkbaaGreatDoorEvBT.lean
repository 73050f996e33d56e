/- All these calls come to what is told of them. -/
import Derived.Test.YtmnldfiflbjkbaaGreatDoorEvB0
import Derived.Test.YtmnldfiflbjkbaaGreatDoorEvB1
import Derived.Test.YtmnldfiflbjkbaaGreatDoorEvB2
set_option maxRecDepth 100000
namespace Go.Proofs.YtmnldfiflbjkbaaGreatDoor
open Go Go.Ev
theorem tab0_ok : ∀ o ∈ tab0, OrcOk Tryz.prog gls o := fun o h => (by cases h)
theorem tab1_ok : ∀ o ∈ tab1, OrcOk Tryz.prog gls o := all_app (batch_ok mixed prog_ok gl_lim gl_ok _ _ tab0_ok (batch_fast _ _ batch0_run)) tab0_ok
theorem tab2_ok : ∀ o ∈ tab2, OrcOk Tryz.prog gls o := all_app (batch_ok mixed prog_ok gl_lim gl_ok _ _ tab1_ok (batch_fast _ _ batch1_run)) tab1_ok
theorem tab3_ok : ∀ o ∈ tab3, OrcOk Tryz.prog gls o := all_app (batch_ok mixed prog_ok gl_lim gl_ok _ _ tab2_ok (batch_fast _ _ batch2_run)) tab2_ok
noncomputable def memo : Tab := ⟨memoMask, tab3⟩
theorem memo_ok : ∀ o ∈ memo.l, OrcOk Tryz.prog gls o := tab3_ok
end Go.Proofs.YtmnldfiflbjkbaaGreatDoor
