/- Closed facts of the row of NormKeeps: the functions that it reaches. -/
import Derived.Test.YtecikbfimlolcaaGreatDoorRows
import Derived.Test.YtecikbfimlolcaaGreatDoorEvF
import Derived.JoinedOf
set_option maxRecDepth 100000
noncomputable section
namespace Go.Proofs.YtecikbfimlolcaaGreatDoor
open Go Go.Ev
theorem A90:Tryz.prog.inPlace 6=Rows.normKeepsRow.inPlace:=by kernel_rfl
theorem Awn:Tryz.prog.unfollowed 6=Rows.normKeepsRow.unfollowed:=by kernel_rfl
theorem AyX:Tryz.prog.varsNamed 6=Rows.normKeepsRow.named:=by kernel_rfl
end Go.Proofs.YtecikbfimlolcaaGreatDoor
