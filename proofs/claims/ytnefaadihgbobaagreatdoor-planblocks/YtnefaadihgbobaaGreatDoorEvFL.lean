/- The contract of the row of PlanBlocks. -/
import Derived.Test.YtnefaadihgbobaaGreatDoorEvMainRun
import Derived.Test.YtnefaadihgbobaaGreatDoorEvFK
set_option maxRecDepth 100000
namespace Go.Proofs.YtnefaadihgbobaaGreatDoor
open Go Go.Ev
theorem own : ownKnob Tryz.prog.godebug = none := by kernel_rfl
theorem law_lifted (os : Os) (started : os.Started) (H : Type) (enc : TypeId × Value → H) :
    ReturnsInHanded {} Tryz.checked os 3 .any (fun w args => (Rows.planBlocksSpec.pre enc Tryz.prog Tryz.f3 Rows.planBlocksRow.domain false w args ∧ laidMetH Tryz.prog Rows.planBlocksRow.laid w) ∧ sizedMet enc Tryz.prog Tryz.f3 (OpenSpec.ofChange Rows.planBlocksSpec) false w args)
      (Rows.planBlocksSpec.post enc Tryz.prog Tryz.f3 false true false false) :=
  returns_int (C := Tryz.checked) (gl := gls) (bt := 4) (t := 3) own started (by kernel_rfl) Tryz.func3
    (ChangeSpec.witness_shaped (enc := enc) (C := Tryz.checked) (os := os) (X := fun w _ => laidMetH Tryz.prog Rows.planBlocksRow.laid w) false (World.laidAll Tryz.prog os Rows.planBlocksRow.laid) #[.int .i64 0] 8 (World.laidAll_os _ _ _)
      (World.shaped_of_ZipB (by kernel_rfl) (by kernel_rfl)) (by kernel_rfl) (by kernel_rfl) (by kernel_rfl)
      (laidMetH_of_parts (laidMet_laidAll _ (by kernel_rfl) (by kernel_rfl)) (by kernel_rfl)))
    gl_rows (by kernel_rfl) gl_tie (by kernel_rfl) (by kernel_rfl) rfl (by kernel_rfl) (by kernel_rfl) (fun _ => rfl) orcMain_ok
end Go.Proofs.YtnefaadihgbobaaGreatDoor
