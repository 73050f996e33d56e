/- The pieces together: the call of the law. -/
import Derived.Test.YtmnldfiflbjkbaaGreatDoorEvP0
import Derived.Test.YtmnldfiflbjkbaaGreatDoorEvP1
import Derived.Test.YtmnldfiflbjkbaaGreatDoorEvP2
import Derived.Test.YtmnldfiflbjkbaaGreatDoorEvP3
import Derived.Test.YtmnldfiflbjkbaaGreatDoorEvP4
import Derived.Test.YtmnldfiflbjkbaaGreatDoorEvP5
import Derived.Test.YtmnldfiflbjkbaaGreatDoorEvP6
import Derived.Test.YtmnldfiflbjkbaaGreatDoorEvP7
import Derived.Test.YtmnldfiflbjkbaaGreatDoorEvP8
set_option maxRecDepth 100000
namespace Go.Proofs.YtmnldfiflbjkbaaGreatDoor
open Go Go.Ev
theorem piece_ctx : CtxSound Tryz.prog Tryz.prog.globals.size (ctxDO Tryz.prog gls memo1 60) := ctxDO_sound mixed prog_ok gl_ok memo1_ok 60
theorem pc8 : Piece Tryz.prog gls 141 3 (cDrop 14 lawBody) cut8 (.ret cut9) := piece_of_run piece_ctx mixed gl_lim gl_ok (by decide) (by kernel_rfl) (last_fast pc8_run)
theorem pc7 : Piece Tryz.prog gls 141 3 (cDrop 13 lawBody) cut7 (.ret cut9) := Piece.step (m := 1) (k := 14) piece_ctx mixed gl_lim gl_ok (by decide) rfl (by kernel_rfl) (by kernel_rfl) (piece_fast pc7_run) pc8
theorem pc6 : Piece Tryz.prog gls 141 3 (cDrop 12 lawBody) cut6 (.ret cut9) := Piece.step (m := 1) (k := 13) piece_ctx mixed gl_lim gl_ok (by decide) rfl (by kernel_rfl) (by kernel_rfl) (piece_fast pc6_run) pc7
theorem pc5 : Piece Tryz.prog gls 141 3 (cDrop 11 lawBody) cut5 (.ret cut9) := Piece.step (m := 1) (k := 12) piece_ctx mixed gl_lim gl_ok (by decide) rfl (by kernel_rfl) (by kernel_rfl) (piece_fast pc5_run) pc6
theorem pc4 : Piece Tryz.prog gls 141 3 (cDrop 10 lawBody) cut4 (.ret cut9) := Piece.step (m := 1) (k := 11) piece_ctx mixed gl_lim gl_ok (by decide) rfl (by kernel_rfl) (by kernel_rfl) (piece_fast pc4_run) pc5
theorem pc3 : Piece Tryz.prog gls 141 3 (cDrop 9 lawBody) cut3 (.ret cut9) := Piece.step (m := 1) (k := 10) piece_ctx mixed gl_lim gl_ok (by decide) rfl (by kernel_rfl) (by kernel_rfl) (piece_fast pc3_run) pc4
theorem pc2 : Piece Tryz.prog gls 141 3 (cDrop 8 lawBody) cut2 (.ret cut9) := Piece.step (m := 1) (k := 9) piece_ctx mixed gl_lim gl_ok (by decide) rfl (by kernel_rfl) (by kernel_rfl) (piece_fast pc2_run) pc3
theorem pc1 : Piece Tryz.prog gls 141 3 (cDrop 7 lawBody) cut1 (.ret cut9) := Piece.step (m := 1) (k := 8) piece_ctx mixed gl_lim gl_ok (by decide) rfl (by kernel_rfl) (by kernel_rfl) (piece_fast pc1_run) pc2
theorem pc0 : Piece Tryz.prog gls 141 3 (cDrop 0 lawBody) cut0 (.ret cut9) := Piece.step (m := 7) (k := 7) piece_ctx mixed gl_lim gl_ok (by decide) rfl (by kernel_rfl) (by kernel_rfl) (piece_fast pc0_run) pc1
noncomputable def orcMain : Orc := ⟨3, [], .bool true⟩
theorem lawBody_is : Tryz.f3.body = some (cDrop 0 lawBody) := by kernel_rfl
theorem orcMain_ok : OrcOk Tryz.prog gls orcMain := call_of_piece gl_lim gl_ok prog_ok Tryz.func3 lawBody_is (Nat.zero_le _) (show Piece Tryz.prog gls Tryz.f3.ntmps 3 (cDrop 0 lawBody) (putArgs [] 0 frame0) (.ret cut9) from pc0) (by kernel_rfl)
end Go.Proofs.YtmnldfiflbjkbaaGreatDoor
