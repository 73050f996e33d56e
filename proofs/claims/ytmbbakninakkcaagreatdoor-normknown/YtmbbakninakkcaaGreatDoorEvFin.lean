/- NormKnown is true in every world in which the listed package-level variables hold what the program's text lays: the chapter's examples have the results given there. No condition beside what the row itself lists. -/
import Derived.Test.YtmbbakninakkcaaGreatDoorEvMain16
import Derived.Test.YtmbbakninakkcaaGreatDoorEvCard
import Derived.Test.YtmbbakninakkcaaGreatDoorTie
import Derived.Test.YtmbbakninakkcaaGreatDoorCards
set_option maxRecDepth 100000
namespace Go.Proofs.YtmbbakninakkcaaGreatDoor
open Go Go.Ev
theorem own : ownKnob Tryz.prog.godebug = none := by kernel_rfl
theorem nk_lifted (os : Os) (started : os.Started) (H : Type) (enc : TypeId × Value → H) :
    ReturnsInHanded {} Tryz.checked os 3 .any (fun w args => (Rows.normKnownSpec.pre enc Tryz.prog Tryz.f3 Rows.normKnownRow.domain false w args ∧ laidMetH Tryz.prog Rows.normKnownRow.laid w) ∧ sizedMet enc Tryz.prog Tryz.f3 (OpenSpec.ofChange Rows.normKnownSpec) false w args)
      (Rows.normKnownSpec.post enc Tryz.prog Tryz.f3 false true false false) :=
  returns_closed (C := Tryz.checked) (gl := gls) (bt := 4) own started (by kernel_rfl) Tryz.func3
    (ChangeSpec.witness_shaped (enc := enc) (C := Tryz.checked) (os := os) (X := fun w _ => laidMetH Tryz.prog Rows.normKnownRow.laid w) false (World.laidAll Tryz.prog os Rows.normKnownRow.laid) #[] 8 (World.laidAll_os _ _ _)
      (World.shaped_of_ZipB (by kernel_rfl) (by kernel_rfl)) (by kernel_rfl) (by kernel_rfl) (by kernel_rfl)
      (laidMetH_of_parts (laidMet_laidAll _ (by kernel_rfl) (by kernel_rfl)) (by kernel_rfl)))
    gl_rows (by kernel_rfl) gl_tie (by kernel_rfl) rfl (by kernel_rfl) (by kernel_rfl) rfl orcMain_ok
theorem nk_holds : Rows.NormKnownSaid :=
  OpenClaim.holds_of_wide 3 Tryz.f3 rfl rfl rfl rfl rfl rfl rfl ⟨rfl, rfl, rfl, rfl, rfl⟩ rfl rfl rfl rfl rfl (by kernel_rfl) Tryz.func3 (by kernel_rfl)
    (of_decide_eq_true (by kernel_rfl)) (by unfold Func.isWrapper; first | (rw [if_pos (by decide +kernel)]; kernel_rfl) | (rw [if_neg (by decide +kernel)]; exact ⟨rfl, rfl⟩))
    (fun os started H enc _ => nk_lifted os started H enc)

theorem nk_card : Rows.NormKnownCardSaid :=
  Claim7.holds_tied_plain_at .later [] [.data, .data, .data, .data, .sentinel, .sentinel, .widerDeep, .pinned] true (true, "201acf365eb28fcdaefa06d15f4d68a8f5399d5cb45cf171bd6974c4e214bbe6") true nk_holds (fun _ h => by cases h) (by kernel_rfl) (fun _ h => by cases h) normKnown_row_tie rfl ⟨rfl, rfl⟩ (by kernel_rfl) rfl
    (fun f fn hf hfn => by
      obtain rfl : f = 3 := Option.some.inj ((show Tryz.prog.funcNamed Rows.normKnownRow.func = some 3 by kernel_rfl).symm.trans hf) |>.symm
      obtain rfl : fn = Tryz.f3 := (Option.some.inj (Tryz.func3.symm.trans hfn)).symm
      exact ⟨by kernel_rfl, fun j t ht => by
        have hp : Tryz.f3.params = #[] := by kernel_rfl
        rw [hp] at ht
        simp at ht⟩)
    (by kernel_rfl)
#print axioms nk_card
end Go.Proofs.YtmbbakninakkcaaGreatDoor
