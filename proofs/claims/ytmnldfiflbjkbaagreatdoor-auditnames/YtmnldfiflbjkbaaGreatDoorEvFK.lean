/- Closed facts of the row of AuditNames: what the program's text says of the functions that it reaches. -/
import Derived.Test.YtmnldfiflbjkbaaGreatDoorEvGl
import Derived.Test.YtmnldfiflbjkbaaGreatDoorEvCard
import Derived.JoinedOf
set_option maxRecDepth 100000
namespace Go.Proofs.YtmnldfiflbjkbaaGreatDoor
open Go Go.Ev
theorem k_in : Tryz.prog.inPlace 3 = Rows.auditNamesRow.inPlace := by kernel_rfl
theorem k_unf : Tryz.prog.unfollowed 3 = Rows.auditNamesRow.unfollowed := by kernel_rfl
theorem k_rec : Tryz.prog.recurses 3 = Rows.auditNamesRow.recurses := by unfold Program.recurses; rw [k_unf]; rfl
theorem k_vars : Tryz.prog.varsNamed 3 = Rows.auditNamesRow.named := by kernel_rfl
theorem k_lo : laidOutB Tryz.prog = true := by kernel_rfl
theorem k_mr : mapsRowed Tryz.prog = true := by kernel_rfl
theorem k_st : Tryz.prog.stops = [] := by kernel_rfl
theorem k_sh : Tryz.prog.stopsHeard = true := by kernel_rfl
theorem k_me : Tryz.prog.mayEnter = true := by kernel_rfl
theorem k_li : Tryz.prog.liftsFinal = Rows.auditNamesRow.lifted := by kernel_rfl
theorem k_all : joinedFacts Tryz.prog 3 Tryz.f3 Rows.auditNamesSpec Rows.auditNamesRow = true := by unfold joinedFacts; rw [k_in, k_unf, k_rec, k_vars, k_lo, k_mr, k_st, k_sh, k_me, k_li]; kernel_rfl
theorem c_goes : Tryz.prog.funcs.toList.all (fun fn => !fn.goes) = true := by kernel_rfl
theorem c_named : Tryz.prog.funcNamed Rows.auditNamesRow.func = some 3 := by kernel_rfl
theorem c_wf : Rows.auditNamesRow.wfByText (OpenSpec.ofChange Rows.auditNamesSpec) = true := by kernel_rfl
theorem c_looks : true = Tryz.prog.looks [] := by kernel_rfl
theorem c_main : Tryz.prog.mainIs = some (((true, "7c4ab4daa7a4320f7f2bc297ae3f678e5cc0c4a6699a30b5cdf3fd86b5f5ca66") : Bool × String).1, ((true, "7c4ab4daa7a4320f7f2bc297ae3f678e5cc0c4a6699a30b5cdf3fd86b5f5ca66") : Bool × String).2.toList) := by kernel_rfl
end Go.Proofs.YtmnldfiflbjkbaaGreatDoor
