/- Closed facts of the row of PlanBlocks: what the program's text says of the functions that it reaches. -/
import Derived.Test.YtnefaadihgbobaaGreatDoorEvGl
import Derived.Test.YtnefaadihgbobaaGreatDoorEvCard
import Derived.JoinedOf
set_option maxRecDepth 100000
namespace Go.Proofs.YtnefaadihgbobaaGreatDoor
open Go Go.Ev
theorem k_in : Tryz.prog.inPlace 3 = Rows.planBlocksRow.inPlace := by kernel_rfl
theorem k_unf : Tryz.prog.unfollowed 3 = Rows.planBlocksRow.unfollowed := by kernel_rfl
theorem k_rec : Tryz.prog.recurses 3 = Rows.planBlocksRow.recurses := by unfold Program.recurses; rw [k_unf]; rfl
theorem k_vars : Tryz.prog.varsNamed 3 = Rows.planBlocksRow.named := by kernel_rfl
theorem k_lo : laidOutB Tryz.prog = true := by kernel_rfl
theorem k_mr : mapsRowed Tryz.prog = true := by kernel_rfl
theorem k_st : Tryz.prog.stops = [] := by kernel_rfl
theorem k_sh : Tryz.prog.stopsHeard = true := by kernel_rfl
theorem k_me : Tryz.prog.mayEnter = true := by kernel_rfl
theorem k_li : Tryz.prog.liftsFinal = Rows.planBlocksRow.lifted := by kernel_rfl
theorem k_all : joinedFacts Tryz.prog 3 Tryz.f3 Rows.planBlocksSpec Rows.planBlocksRow = true := by unfold joinedFacts; rw [k_in, k_unf, k_rec, k_vars, k_lo, k_mr, k_st, k_sh, k_me, k_li]; kernel_rfl
theorem c_goes : Tryz.prog.funcs.toList.all (fun fn => !fn.goes) = true := by kernel_rfl
theorem c_named : Tryz.prog.funcNamed Rows.planBlocksRow.func = some 3 := by kernel_rfl
theorem c_wf : Rows.planBlocksRow.wfByText (OpenSpec.ofChange Rows.planBlocksSpec) = true := by kernel_rfl
theorem c_looks : true = Tryz.prog.looks [] := by kernel_rfl
theorem c_main : Tryz.prog.mainIs = some (((true, "5f2b7aec5f31a837f89893e35f3817ad6beec80a65166a97eebd6674b0bee42c") : Bool × String).1, ((true, "5f2b7aec5f31a837f89893e35f3817ad6beec80a65166a97eebd6674b0bee42c") : Bool × String).2.toList) := by kernel_rfl
end Go.Proofs.YtnefaadihgbobaaGreatDoor
