/- The frames at the cuts of the law. -/
import Derived.Test.YtmnldfiflbjkbaaGreatDoorEvR0
set_option maxRecDepth 100000
namespace Go.Proofs.YtmnldfiflbjkbaaGreatDoor
open Go Go.Ev
noncomputable def lawBody : Code := bodyOf Tryz.prog 3
noncomputable def cut0 : L2 := putArgs [] 0 frame0
noncomputable def cut1 : L2 := frameOf []
noncomputable def cut2 : L2 := frameOf [(9, .bool true)]
noncomputable def cut3 : L2 := frameOf [(9, .bool true), (10, .bool true)]
noncomputable def cut4 : L2 := frameOf [(9, .bool true), (10, .bool true), (11, .bool true)]
noncomputable def cut5 : L2 := frameOf [(9, .bool true), (10, .bool true), (11, .bool true), (12, .bool true)]
noncomputable def cut6 : L2 := frameOf [(9, .bool true), (10, .bool true), (11, .bool true), (12, .bool true), (13, .bool true)]
noncomputable def cut7 : L2 := frameOf [(9, .bool true), (10, .bool true), (11, .bool true), (12, .bool true), (13, .bool true), (14, .bool true)]
noncomputable def cut8 : L2 := frameOf [(9, .bool true), (10, .bool true), (11, .bool true), (12, .bool true), (13, .bool true), (14, .bool true), (15, .bool true)]
noncomputable def cut9 : L2 := frameOf [(0, .bool true)]
end Go.Proofs.YtmnldfiflbjkbaaGreatDoor
