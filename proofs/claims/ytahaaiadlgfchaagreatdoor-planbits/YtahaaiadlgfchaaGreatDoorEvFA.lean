/- Closed facts of the row -/
import Derived.Test.YtahaaiadlgfchaaGreatDoorRows
import Derived.Test.YtahaaiadlgfchaaGreatDoorEvF
import Derived.JoinedOf
set_option linter.all false
set_option maxRecDepth 100000
noncomputable section
namespace Go.Proofs.YtahaaiadlgfchaaGreatDoor
open Go Go.Ev
def A90:Tryz.prog.inPlace 4=Rows.planBitsRow.inPlace:=by kernel_rfl
def Awn:Tryz.prog.unfollowed 4=Rows.planBitsRow.unfollowed:=by kernel_rfl
def AyX:Tryz.prog.varsNamed 4=Rows.planBitsRow.named:=by kernel_rfl
end Go.Proofs.YtahaaiadlgfchaaGreatDoor
