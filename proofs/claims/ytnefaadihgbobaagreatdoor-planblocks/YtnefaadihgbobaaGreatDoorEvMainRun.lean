/- PlanBlocks at every integer. -/
import Derived.Test.YtnefaadihgbobaaGreatDoorEvK0
import Derived.Test.YtnefaadihgbobaaGreatDoorEvK1
import Derived.Test.YtnefaadihgbobaaGreatDoorEvK2
import Derived.Test.YtnefaadihgbobaaGreatDoorEvK3
import Derived.Test.YtnefaadihgbobaaGreatDoorEvK4
import Derived.Test.YtnefaadihgbobaaGreatDoorEvK5
import Derived.Test.YtnefaadihgbobaaGreatDoorEvK6
import Derived.Test.YtnefaadihgbobaaGreatDoorEvK7
set_option maxRecDepth 100000
namespace Go.Proofs.YtnefaadihgbobaaGreatDoor
open Go Go.Ev
theorem at0 : OrcOk Tryz.prog gls ⟨3, [.int .i64 (.ofNat 0)], .bool true⟩ := at_of_run (by kernel_rfl)
theorem atNeg (k : Nat) : OrcOk Tryz.prog gls ⟨3, [.int .i64 (.negSucc k)], .bool true⟩ := at_of_run (by kernel_rfl)
theorem atBig (k : Nat) : OrcOk Tryz.prog gls ⟨3, [.int .i64 (.ofNat (k + 65))], .bool true⟩ := at_of_run (by kernel_rfl)
theorem atNat : ∀ m : Nat, OrcOk Tryz.prog gls ⟨3, [.int .i64 (.ofNat m)], .bool true⟩
  | 0 => at0
  | 1 => at1
  | 2 => at2
  | 3 => at3
  | 4 => at4
  | 5 => at5
  | 6 => at6
  | 7 => at7
  | 8 => at8
  | 9 => at9
  | 10 => at10
  | 11 => at11
  | 12 => at12
  | 13 => at13
  | 14 => at14
  | 15 => at15
  | 16 => at16
  | 17 => at17
  | 18 => at18
  | 19 => at19
  | 20 => at20
  | 21 => at21
  | 22 => at22
  | 23 => at23
  | 24 => at24
  | 25 => at25
  | 26 => at26
  | 27 => at27
  | 28 => at28
  | 29 => at29
  | 30 => at30
  | 31 => at31
  | 32 => at32
  | 33 => at33
  | 34 => at34
  | 35 => at35
  | 36 => at36
  | 37 => at37
  | 38 => at38
  | 39 => at39
  | 40 => at40
  | 41 => at41
  | 42 => at42
  | 43 => at43
  | 44 => at44
  | 45 => at45
  | 46 => at46
  | 47 => at47
  | 48 => at48
  | 49 => at49
  | 50 => at50
  | 51 => at51
  | 52 => at52
  | 53 => at53
  | 54 => at54
  | 55 => at55
  | 56 => at56
  | 57 => at57
  | 58 => at58
  | 59 => at59
  | 60 => at60
  | 61 => at61
  | 62 => at62
  | 63 => at63
  | 64 => at64
  | k + 65 => atBig k
theorem orcMain_ok : ∀ n : Int, OrcOk Tryz.prog gls ⟨3, [.int .i64 n], .bool true⟩
  | .ofNat m => atNat m
  | .negSucc k => atNeg k
end Go.Proofs.YtnefaadihgbobaaGreatDoor
