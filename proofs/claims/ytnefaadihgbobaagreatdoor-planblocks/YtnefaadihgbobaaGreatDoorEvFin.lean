/- PlanBlocks is true at every integer, in every world in which the listed package-level variables hold what the program's text lays: plan.Blocks and the reference give the same number of blocks. No condition beside what the row itself lists. -/
import Derived.Test.YtnefaadihgbobaaGreatDoorEvFL
import Derived.Test.YtnefaadihgbobaaGreatDoorTie
import Derived.Test.YtnefaadihgbobaaGreatDoorCards
set_option maxRecDepth 100000
namespace Go.Proofs.YtnefaadihgbobaaGreatDoor
open Go Go.Ev
theorem c_stand : Tryz.prog.wantsStandIn 3 = false := by kernel_rfl
theorem law_holds : Rows.PlanBlocksSaid :=
  OpenClaim.holds_of_wide 3 Tryz.f3 rfl rfl rfl rfl rfl rfl rfl ⟨rfl, rfl, rfl, rfl, rfl⟩ rfl rfl rfl rfl rfl c_named Tryz.func3 k_all
    (of_decide_eq_true (by kernel_rfl)) (by unfold Func.isWrapper; first | (rw [if_pos (by decide +kernel)]; kernel_rfl) | (rw [if_neg (by decide +kernel)]; exact ⟨rfl, rfl⟩))
    (fun os started H enc _ => law_lifted os started H enc)
theorem law_card : Rows.PlanBlocksCardSaid :=
  Claim7.holds_tied_plain_at .later [] [.data, .data, .data, .data, .sentinel, .sentinel, .widerDeep, .pinned] true (true, "5f2b7aec5f31a837f89893e35f3817ad6beec80a65166a97eebd6674b0bee42c") true law_holds (fun _ h => by cases h) c_wf (fun _ h => by cases h) planBlocks_row_tie rfl ⟨rfl, rfl⟩ c_main rfl
    (fun f fn hf hfn => by
      obtain rfl : f = 3 := Option.some.inj (c_named.symm.trans hf) |>.symm
      obtain rfl : fn = Tryz.f3 := (Option.some.inj (Tryz.func3.symm.trans hfn)).symm
      exact ⟨c_looks, fun j t ht => by
        have hp : Tryz.f3.params = #[3] := by kernel_rfl
        rw [hp] at ht
        cases j with
        | zero =>
          have hq : t = 3 := by simpa using ht.symm
          rw [hq]
          exact c_stand
        | succ j => simp at ht⟩)
    (goesBy_none rfl c_goes)
#print axioms law_card
end Go.Proofs.YtnefaadihgbobaaGreatDoor
