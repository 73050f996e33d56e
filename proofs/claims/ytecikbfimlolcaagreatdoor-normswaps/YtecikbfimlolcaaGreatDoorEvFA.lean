/- Closed facts of the row of NormSwaps: the functions that it reaches. -/
import Derived.Test.YtecikbfimlolcaaGreatDoorRows
import Derived.Test.YtecikbfimlolcaaGreatDoorEvF
import Derived.JoinedOf
set_option maxRecDepth 100000
noncomputable section
namespace Go.Proofs.YtecikbfimlolcaaGreatDoor
open Go Go.Ev
theorem A90:Tryz.prog.inPlace 5=Rows.normSwapsRow.inPlace:=by kernel_rfl
theorem Awn:Tryz.prog.unfollowed 5=Rows.normSwapsRow.unfollowed:=by kernel_rfl
theorem AyX:Tryz.prog.varsNamed 5=Rows.normSwapsRow.named:=by kernel_rfl
end Go.Proofs.YtecikbfimlolcaaGreatDoor
