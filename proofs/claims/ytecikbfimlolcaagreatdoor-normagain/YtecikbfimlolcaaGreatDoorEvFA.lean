/- Closed facts of the row of NormAgain: the functions that it reaches. -/
import Derived.Test.YtecikbfimlolcaaGreatDoorRows
import Derived.Test.YtecikbfimlolcaaGreatDoorEvF
import Derived.JoinedOf
set_option linter.all false
set_option maxRecDepth 100000
noncomputable section
namespace Go.Proofs.YtecikbfimlolcaaGreatDoor
open Go Go.Ev
def A90:Tryz.prog.inPlace 4=Rows.normAgainRow.inPlace:=by kernel_rfl
def Awn:Tryz.prog.unfollowed 4=Rows.normAgainRow.unfollowed:=by kernel_rfl
def AyX:Tryz.prog.varsNamed 4=Rows.normAgainRow.named:=by kernel_rfl
end Go.Proofs.YtecikbfimlolcaaGreatDoor
