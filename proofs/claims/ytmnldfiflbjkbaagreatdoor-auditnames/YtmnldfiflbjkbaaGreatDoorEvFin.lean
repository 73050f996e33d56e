/- AuditNames is true in every world in which the listed package-level variables hold what the program's text lays: the examples of chapter 37 have the results given there, and invalid schemas and configurations are rejected. No condition beside what the row itself lists. -/
import Derived.Test.YtmnldfiflbjkbaaGreatDoorEvFL
import Derived.Test.YtmnldfiflbjkbaaGreatDoorTie
import Derived.Test.YtmnldfiflbjkbaaGreatDoorCards
set_option maxRecDepth 100000
namespace Go.Proofs.YtmnldfiflbjkbaaGreatDoor
open Go Go.Ev
theorem law_holds : Rows.AuditNamesSaid :=
  OpenClaim.holds_of_wide 3 Tryz.f3 rfl rfl rfl rfl rfl rfl rfl ⟨rfl, rfl, rfl, rfl, rfl⟩ rfl rfl rfl rfl rfl c_named Tryz.func3 k_all
    (of_decide_eq_true (by kernel_rfl)) (by unfold Func.isWrapper; first | (rw [if_pos (by decide +kernel)]; kernel_rfl) | (rw [if_neg (by decide +kernel)]; exact ⟨rfl, rfl⟩))
    (fun os started H enc _ => law_lifted os started H enc)
theorem law_card : Rows.AuditNamesCardSaid :=
  Claim7.holds_tied_plain_at .later [] [.data, .data, .data, .data, .sentinel, .sentinel, .widerDeep, .pinned] true (true, "7c4ab4daa7a4320f7f2bc297ae3f678e5cc0c4a6699a30b5cdf3fd86b5f5ca66") true law_holds (fun _ h => by cases h) c_wf (fun _ h => by cases h) auditNames_row_tie rfl ⟨rfl, rfl⟩ c_main rfl
    (fun f fn hf hfn => by
      obtain rfl : f = 3 := Option.some.inj (c_named.symm.trans hf) |>.symm
      obtain rfl : fn = Tryz.f3 := (Option.some.inj (Tryz.func3.symm.trans hfn)).symm
      exact ⟨c_looks, fun j t ht => by
        have hp : Tryz.f3.params = #[] := by kernel_rfl
        rw [hp] at ht
        simp at ht⟩)
    (goesBy_none rfl c_goes)
#print axioms law_card
end Go.Proofs.YtmnldfiflbjkbaaGreatDoor
