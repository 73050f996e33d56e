/- One example of the chapter, run by the evaluator. -/
import Derived.Test.YtmjmhajonaelcaaGreatDoorEvGl
set_option linter.all false
set_option maxRecDepth 100000
noncomputable section
namespace Go.Proofs.YtmjmhajonaelcaaGreatDoor
open Go Go.Ev
def AnL:Orc:=⟨8,[.str [99,111,117,110,116,32,102,114,111,109,32,116,32,119,104,101,114,101,32,110,111,116,32,110,111,116,32,99,32,33,61,32,39,120,39,32,119,105,116,104,32,102,97,99,116,111,114,32,50,32,98,105,116,115,32,56],.str [99,111,117,110,116,32,102,114,111,109,32,116,32,119,104,101,114,101,32,99,32,33,61,32,39,120,39,32,119,105,116,104,32,102,97,99,116,111,114,32,50,32,98,105,116,115,32,56]],uz⟩
def Ar6:Yt Tryz.prog.globals.size AnL.v ((Acb Tryz.prog Um ⟨0,[]⟩ 60).call AnL.g AnL.args (glH Um Tryz.prog.globals.size))=true:=by kernel_rfl
def Au0:Nx Tryz.prog Um AnL:=Lv (Jp mixed Nk Jq (λ_ h=>(by cases h)) 60) Zw Jq AnL (by kernel_rfl) Ar6
end Go.Proofs.YtmjmhajonaelcaaGreatDoor
