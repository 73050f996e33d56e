/- Closed facts of the row -/
import Derived.Test.YtahaaiadlgfchaaGreatDoorRows
import Derived.Test.YtahaaiadlgfchaaGreatDoorEvF
import Derived.JoinedOf
set_option linter.all false
set_option maxRecDepth 100000
noncomputable section
namespace Go.Proofs.YtahaaiadlgfchaaGreatDoor
open Go Go.Ev
def A43:laidOutB Tryz.prog=true:=by kernel_rfl
def A44:mapsRowed Tryz.prog=true:=by kernel_rfl
def A95:Tryz.prog.stops=[]:=by kernel_rfl
def A93:Tryz.prog.stopsHeard=true:=by kernel_rfl
def A92:Tryz.prog.mayEnter=true:=by kernel_rfl
def A91:Tryz.prog.liftsFinal=Rows.planBitsRow.lifted:=by kernel_rfl
def A94:((List.range Tryz.prog.types.size).all λt=>match Tryz.prog.underlying t with|some (.slice e)=>decide (0<Tryz.prog.cellsOf e)|_=>true)=true:=by kernel_rfl
def AxE:Tryz.prog.funcs.toList.all (λfn=>!fn.goes)=true:=by kernel_rfl
def Al0:Tryz.prog.funcNamed Rows.planBitsRow.func=some 4:=by kernel_rfl
def A70:Rows.planBitsRow.wfByText (OpenSpec.ofChange Rows.planBitsSpec)=true:=by kernel_rfl
def Atg:true=Tryz.prog.looks []:=by kernel_rfl
def AxF : Tryz.prog.mainIs = some (((true, "a1f4ae0999a9daa4263d31fae4c7be58b1a559feead825257ab3aa4ec644e607") : Bool × String).1, ((true, "a1f4ae0999a9daa4263d31fae4c7be58b1a559feead825257ab3aa4ec644e607") : Bool × String).2.toList) := by kernel_rfl
end Go.Proofs.YtahaaiadlgfchaaGreatDoor
