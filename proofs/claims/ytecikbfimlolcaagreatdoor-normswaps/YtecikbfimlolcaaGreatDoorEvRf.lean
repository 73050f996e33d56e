/- The reference's walks: types of operands, the form of a node. -/
import Derived.Test.YtecikbfimlolcaaGreatDoorEvRaa
import Derived.Test.YtecikbfimlolcaaGreatDoorEvNf
set_option maxRecDepth 100000
set_option linter.unusedSimpArgs false
set_option linter.unusedVariables false
noncomputable section
namespace Go.Proofs
open Go Go.Ev Go.Nm
attribute [local irreducible] Aa Al Af Ad
variable (ctx:Ac) (N:Nat)
def Pz (op:Int):List Nat:=if op=1\/op=2\/op=3 then [] else if op=4\/op=5\/op=6 then [110,110] else if op=7 then [110] else if op=8 then [116,110,110] else if op=15\/op=16 then [116,116] else if op=17 then [116] else [110,110]
end Go.Proofs
