/- Names of the chapter's -/
import Derived.Test.YtahaaiadlgfchaaGreatDoorEvHg
set_option linter.all false
set_option maxRecDepth 100000
noncomputable section
namespace Go.Proofs.Anf
open Go Go.Ev Go.Nm
open Go.Proofs Go.Proofs.YtahaaiadlgfchaaGreatDoor
def Cnc:List uw:=[um,[97,103,101],ur,[114,101,100],bw,wx]
def CdX:Cnc.all (λs=>runs 179 [.str s] ux)=true:=by kernel_rfl
def Ci6:runs 16 [iI 65] (iI 0)=true:=by kernel_rfl
def Ci5:runs 16 [iI 64] (iI 127)=true:=by kernel_rfl
end Go.Proofs.Anf
