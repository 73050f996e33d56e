/- Closed facts of the row of NormForms: what the program's text says of the functions that it reaches. -/
import Derived.Test.YtecikbfimlolcaaGreatDoorRows
import Derived.Test.YtecikbfimlolcaaGreatDoorEvF
import Derived.JoinedOf
set_option maxRecDepth 100000
namespace Go.Proofs.YtecikbfimlolcaaGreatDoor
open Go Go.Ev
theorem k_in:Tryz.prog.inPlace 3=Rows.normFormsUptoRow.inPlace:=by kernel_rfl
theorem k_unf:Tryz.prog.unfollowed 3=Rows.normFormsUptoRow.unfollowed:=by kernel_rfl
theorem k_rec:Tryz.prog.recurses 3=Rows.normFormsUptoRow.recurses:=by unfold Program.recurses;rw [k_unf];rfl
theorem k_vars:Tryz.prog.varsNamed 3=Rows.normFormsUptoRow.named:=by kernel_rfl
theorem k_lo:laidOutB Tryz.prog=true:=by kernel_rfl
theorem k_mr:mapsRowed Tryz.prog=true:=by kernel_rfl
theorem k_st:Tryz.prog.stops=[]:=by kernel_rfl
theorem k_sh:Tryz.prog.stopsHeard=true:=by kernel_rfl
theorem k_me:Tryz.prog.mayEnter=true:=by kernel_rfl
theorem k_li:Tryz.prog.liftsFinal=Rows.normFormsUptoRow.lifted:=by kernel_rfl
theorem k_sl:((List.range Tryz.prog.types.size).all fun t=>match Tryz.prog.underlying t with|some (.slice e)=>decide (0<Tryz.prog.cellsOf e)|_=>true)=true:=by kernel_rfl
theorem k_all:joinedFacts Tryz.prog 3 Tryz.f3 (Rows.OpenSpec.upto Rows.normFormsSpec).bare Rows.normFormsUptoRow=true:=by unfold joinedFacts;rw [k_in,k_unf,k_rec,k_vars,k_lo,k_mr,k_st,k_sh,k_me,k_li];kernel_rfl
theorem c_goes:Tryz.prog.funcs.toList.all (fun fn=>!fn.goes)=true:=by kernel_rfl
theorem c_named:Tryz.prog.funcNamed Rows.normFormsUptoRow.func=some 3:=by kernel_rfl
theorem c_wf:Rows.normFormsUptoRow.wfByText (Rows.OpenSpec.upto Rows.normFormsSpec)=true:=by kernel_rfl
theorem c_looks:true=Tryz.prog.looks []:=by kernel_rfl
theorem c_main : Tryz.prog.mainIs = some (((true, "eaa63d36a4756ab171d9f41ac1cb8f127ae839051b7c6ec3a22ab476161f1177") : Bool × String).1, ((true, "eaa63d36a4756ab171d9f41ac1cb8f127ae839051b7c6ec3a22ab476161f1177") : Bool × String).2.toList) := by kernel_rfl
end Go.Proofs.YtecikbfimlolcaaGreatDoor
