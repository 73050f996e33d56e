/- Closed facts of the row of NormKeeps: what the program's text says. -/
import Derived.Test.YtecikbfimlolcaaGreatDoorRows
import Derived.Test.YtecikbfimlolcaaGreatDoorEvF
import Derived.JoinedOf
set_option maxRecDepth 100000
noncomputable section
namespace Go.Proofs.YtecikbfimlolcaaGreatDoor
open Go Go.Ev
theorem A43:laidOutB Tryz.prog=true:=by kernel_rfl
theorem A44:mapsRowed Tryz.prog=true:=by kernel_rfl
theorem A95:Tryz.prog.stops=[]:=by kernel_rfl
theorem A93:Tryz.prog.stopsHeard=true:=by kernel_rfl
theorem A92:Tryz.prog.mayEnter=true:=by kernel_rfl
theorem A91:Tryz.prog.liftsFinal=Rows.normKeepsRow.lifted:=by kernel_rfl
theorem A94:((List.range Tryz.prog.types.size).all λt=>match Tryz.prog.underlying t with|some (.slice e)=>decide (0<Tryz.prog.cellsOf e)|_=>true)=true:=by kernel_rfl
theorem AxE:Tryz.prog.funcs.toList.all (λfn=>!fn.goes)=true:=by kernel_rfl
theorem Al0:Tryz.prog.funcNamed Rows.normKeepsRow.func=some 6:=by kernel_rfl
theorem A70:Rows.normKeepsRow.wfByText (OpenSpec.ofChange Rows.normKeepsSpec)=true:=by kernel_rfl
theorem Atg:true=Tryz.prog.looks []:=by kernel_rfl
theorem AxF : Tryz.prog.mainIs = some (((true, "eaa63d36a4756ab171d9f41ac1cb8f127ae839051b7c6ec3a22ab476161f1177") : Bool × String).1, ((true, "eaa63d36a4756ab171d9f41ac1cb8f127ae839051b7c6ec3a22ab476161f1177") : Bool × String).2.toList) := by kernel_rfl
end Go.Proofs.YtecikbfimlolcaaGreatDoor
