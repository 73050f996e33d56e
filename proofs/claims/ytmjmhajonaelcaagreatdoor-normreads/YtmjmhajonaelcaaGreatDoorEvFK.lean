/- Closed facts of the row of NormReads: what the program's text says. -/
import Derived.Test.YtmjmhajonaelcaaGreatDoorRows
import Derived.Test.YtmjmhajonaelcaaGreatDoorEvF
import Derived.JoinedOf
set_option linter.all false
set_option maxRecDepth 100000
noncomputable section
namespace Go.Proofs.YtmjmhajonaelcaaGreatDoor
open Go Go.Ev
def A43:laidOutB Tryz.prog=true:=by kernel_rfl
def A44:mapsRowed Tryz.prog=true:=by kernel_rfl
def A95:Tryz.prog.stops=[]:=by kernel_rfl
def A93:Tryz.prog.stopsHeard=true:=by kernel_rfl
def A92:Tryz.prog.mayEnter=true:=by kernel_rfl
def A91:Tryz.prog.liftsFinal=Rows.normReadsRow.lifted:=by kernel_rfl
def A94:((List.range Tryz.prog.types.size).all λt=>match Tryz.prog.underlying t with|some (.slice e)=>decide (0<Tryz.prog.cellsOf e)|_=>true)=true:=by kernel_rfl
def AxE:Tryz.prog.funcs.toList.all (λfn=>!fn.goes)=true:=by kernel_rfl
def Al0:Tryz.prog.funcNamed Rows.normReadsRow.func=some 3:=by kernel_rfl
def A70:Rows.normReadsRow.wfByText (OpenSpec.ofChange Rows.normReadsSpec)=true:=by kernel_rfl
def Atg:true=Tryz.prog.looks []:=by kernel_rfl
def AxF : Tryz.prog.mainIs = some (((true, "67c5c6ee0a3df85e4865d1496b1fd04fc9e89a1a11c99a94be9ccd754e69efd6") : Bool × String).1, ((true, "67c5c6ee0a3df85e4865d1496b1fd04fc9e89a1a11c99a94be9ccd754e69efd6") : Bool × String).2.toList) := by kernel_rfl
end Go.Proofs.YtmjmhajonaelcaaGreatDoor
