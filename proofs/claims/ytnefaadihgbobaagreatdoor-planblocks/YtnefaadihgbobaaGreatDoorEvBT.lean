/- All these calls come to what is told of them. -/
import Derived.Test.YtnefaadihgbobaaGreatDoorEvB0
import Derived.Test.YtnefaadihgbobaaGreatDoorEvB1
import Derived.Test.YtnefaadihgbobaaGreatDoorEvB2
import Derived.Test.YtnefaadihgbobaaGreatDoorEvB3
set_option maxRecDepth 100000
namespace Go.Proofs.YtnefaadihgbobaaGreatDoor
open Go Go.Ev
theorem tab0_ok : ∀ o ∈ tab0, OrcOk Tryz.prog gls o := fun o h => (by cases h)
theorem tab1_ok : ∀ o ∈ tab1, OrcOk Tryz.prog gls o := all_app (batch_ok mixed prog_ok gl_lim gl_ok _ _ tab0_ok (batch_fast _ _ batch0_run)) tab0_ok
theorem tab2_ok : ∀ o ∈ tab2, OrcOk Tryz.prog gls o := all_app (batch_ok mixed prog_ok gl_lim gl_ok _ _ tab1_ok (batch_fast _ _ batch1_run)) tab1_ok
theorem tab3_ok : ∀ o ∈ tab3, OrcOk Tryz.prog gls o := all_app (batch_ok mixed prog_ok gl_lim gl_ok _ _ tab2_ok (batch_fast _ _ batch2_run)) tab2_ok
theorem tab4_ok : ∀ o ∈ tab4, OrcOk Tryz.prog gls o := all_app (batch_ok mixed prog_ok gl_lim gl_ok _ _ tab3_ok (batch_fast _ _ batch3_run)) tab3_ok
noncomputable def memo : Tab := ⟨memoMask, tab4⟩
theorem memo_ok : ∀ o ∈ memo.l, OrcOk Tryz.prog gls o := tab4_ok
end Go.Proofs.YtnefaadihgbobaaGreatDoor
