/- Closed facts of the row of NormReads: the functions that it reaches. -/
import Derived.Test.YtmjmhajonaelcaaGreatDoorRows
import Derived.Test.YtmjmhajonaelcaaGreatDoorEvF
import Derived.JoinedOf
set_option linter.all false
set_option maxRecDepth 100000
noncomputable section
namespace Go.Proofs.YtmjmhajonaelcaaGreatDoor
open Go Go.Ev
def A90:Tryz.prog.inPlace 3=Rows.normReadsRow.inPlace:=by kernel_rfl
def Awn:Tryz.prog.unfollowed 3=Rows.normReadsRow.unfollowed:=by kernel_rfl
def AyX:Tryz.prog.varsNamed 3=Rows.normReadsRow.named:=by kernel_rfl
end Go.Proofs.YtmjmhajonaelcaaGreatDoor
