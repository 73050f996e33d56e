/- PlanKnown is true in every world in which the listed package-level variables hold what the program's text lays: the examples of chapter 20 have the results given there. No condition beside what the row itself lists. -/
import Derived.Test.YtnefaadihgbobaaGreatDoorEvMainRun
import Derived.Test.YtnefaadihgbobaaGreatDoorEvCard
import Derived.Test.YtnefaadihgbobaaGreatDoorTie
import Derived.Test.YtnefaadihgbobaaGreatDoorCards
set_option maxRecDepth 100000
namespace Go.Proofs.YtnefaadihgbobaaGreatDoor
open Go Go.Ev
theorem own : ownKnob Tryz.prog.godebug = none := by kernel_rfl
theorem law_lifted (os : Os) (started : os.Started) (H : Type) (enc : TypeId × Value → H) :
    ReturnsInHanded {} Tryz.checked os 4 .any (fun w args => (Rows.planKnownSpec.pre enc Tryz.prog Tryz.f4 Rows.planKnownRow.domain false w args ∧ laidMetH Tryz.prog Rows.planKnownRow.laid w) ∧ sizedMet enc Tryz.prog Tryz.f4 (OpenSpec.ofChange Rows.planKnownSpec) false w args)
      (Rows.planKnownSpec.post enc Tryz.prog Tryz.f4 false true false false) :=
  returns_closed (C := Tryz.checked) (gl := gls) (bt := 4) own started (by kernel_rfl) Tryz.func4
    (ChangeSpec.witness_shaped (enc := enc) (C := Tryz.checked) (os := os) (X := fun w _ => laidMetH Tryz.prog Rows.planKnownRow.laid w) false (World.laidAll Tryz.prog os Rows.planKnownRow.laid) #[] 8 (World.laidAll_os _ _ _)
      (World.shaped_of_ZipB (by kernel_rfl) (by kernel_rfl)) (by kernel_rfl) (by kernel_rfl) (by kernel_rfl)
      (laidMetH_of_parts (laidMet_laidAll _ (by kernel_rfl) (by kernel_rfl)) (by kernel_rfl)))
    gl_rows (by kernel_rfl) gl_tie (by kernel_rfl) rfl (by kernel_rfl) (by kernel_rfl) rfl orcMain_ok
theorem law_holds : Rows.PlanKnownSaid :=
  OpenClaim.holds_of_wide 4 Tryz.f4 rfl rfl rfl rfl rfl rfl rfl ⟨rfl, rfl, rfl, rfl, rfl⟩ rfl rfl rfl rfl rfl (by kernel_rfl) Tryz.func4 (by kernel_rfl)
    (of_decide_eq_true (by kernel_rfl)) (by unfold Func.isWrapper; first | (rw [if_pos (by decide +kernel)]; kernel_rfl) | (rw [if_neg (by decide +kernel)]; exact ⟨rfl, rfl⟩))
    (fun os started H enc _ => law_lifted os started H enc)
theorem law_card : Rows.PlanKnownCardSaid :=
  Claim7.holds_tied_plain_at .later [] [.data, .data, .data, .data, .sentinel, .sentinel, .widerDeep, .pinned] true (true, "5f2b7aec5f31a837f89893e35f3817ad6beec80a65166a97eebd6674b0bee42c") true law_holds (fun _ h => by cases h) (by kernel_rfl) (fun _ h => by cases h) planKnown_row_tie rfl ⟨rfl, rfl⟩ (by kernel_rfl) rfl
    (fun f fn hf hfn => by
      obtain rfl : f = 4 := Option.some.inj ((show Tryz.prog.funcNamed Rows.planKnownRow.func = some 4 by kernel_rfl).symm.trans hf) |>.symm
      obtain rfl : fn = Tryz.f4 := (Option.some.inj (Tryz.func4.symm.trans hfn)).symm
      exact ⟨by kernel_rfl, fun j t ht => by
        have hp : Tryz.f4.params = #[] := by kernel_rfl
        rw [hp] at ht
        simp at ht⟩)
    (by kernel_rfl)
#print axioms law_card
end Go.Proofs.YtnefaadihgbobaaGreatDoor
