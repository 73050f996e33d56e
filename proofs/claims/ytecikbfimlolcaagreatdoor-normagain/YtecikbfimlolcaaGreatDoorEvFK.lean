/- Closed facts of the row of NormAgain: what the program's text says. -/
import Derived.Test.YtecikbfimlolcaaGreatDoorRows
import Derived.Test.YtecikbfimlolcaaGreatDoorEvF
import Derived.JoinedOf
set_option linter.all false
set_option maxRecDepth 100000
noncomputable section
namespace Go.Proofs.YtecikbfimlolcaaGreatDoor
open Go Go.Ev
def A43:laidOutB Tryz.prog=true:=by kernel_rfl
def A44:mapsRowed Tryz.prog=true:=by kernel_rfl
def A95:Tryz.prog.stops=[]:=by kernel_rfl
def A93:Tryz.prog.stopsHeard=true:=by kernel_rfl
def A92:Tryz.prog.mayEnter=true:=by kernel_rfl
def A91:Tryz.prog.liftsFinal=Rows.normAgainRow.lifted:=by kernel_rfl
def A94:((List.range Tryz.prog.types.size).all λt=>match Tryz.prog.underlying t with|some (.slice e)=>decide (0<Tryz.prog.cellsOf e)|_=>true)=true:=by kernel_rfl
def AxE:Tryz.prog.funcs.toList.all (λfn=>!fn.goes)=true:=by kernel_rfl
def Al0:Tryz.prog.funcNamed Rows.normAgainRow.func=some 4:=by kernel_rfl
def A70:Rows.normAgainRow.wfByText (OpenSpec.ofChange Rows.normAgainSpec)=true:=by kernel_rfl
def Atg:true=Tryz.prog.looks []:=by kernel_rfl
def AxF : Tryz.prog.mainIs = some (((true, "eaa63d36a4756ab171d9f41ac1cb8f127ae839051b7c6ec3a22ab476161f1177") : Bool × String).1, ((true, "eaa63d36a4756ab171d9f41ac1cb8f127ae839051b7c6ec3a22ab476161f1177") : Bool × String).2.toList) := by kernel_rfl
end Go.Proofs.YtecikbfimlolcaaGreatDoor
