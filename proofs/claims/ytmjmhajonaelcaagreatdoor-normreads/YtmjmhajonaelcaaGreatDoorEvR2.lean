/- One example of the chapter, run by the evaluator. -/
import Derived.Test.YtmjmhajonaelcaaGreatDoorEvGl
set_option linter.all false
set_option maxRecDepth 100000
noncomputable section
namespace Go.Proofs.YtmjmhajonaelcaaGreatDoor
open Go Go.Ev
def AnK:Orc:=⟨8,[.str [115,117,109,32,98,32,43,32,97,32,98,101,116,119,101,101,110,32,48,32,97,110,100,32,49,32,102,114,111,109,32,116,32,119,104,101,114,101,32,49,32,60,32,50,32,111,114,32,99,32,61,32,39,120,39,32,119,105,116,104,32,102,97,99,116,111,114,32,50,32,98,105,116,115,32,56],.str [115,117,109,32,97,32,43,32,98,32,98,101,116,119,101,101,110,32,48,32,97,110,100,32,49,32,102,114,111,109,32,116,32,119,105,116,104,32,102,97,99,116,111,114,32,50,32,98,105,116,115,32,56]],uz⟩
def Ar5:Yt Tryz.prog.globals.size AnK.v ((Acb Tryz.prog Um ⟨0,[]⟩ 60).call AnK.g AnK.args (glH Um Tryz.prog.globals.size))=true:=by kernel_rfl
def Auz:Nx Tryz.prog Um AnK:=Lv (Jp mixed Nk Jq (λ_ h=>(by cases h)) 60) Zw Jq AnK (by kernel_rfl) Ar5
end Go.Proofs.YtmjmhajonaelcaaGreatDoor
