/- One example of the chapter, run by the evaluator. -/
import Derived.Test.YtmjmhajonaelcaaGreatDoorEvGl
set_option linter.all false
set_option maxRecDepth 100000
noncomputable section
namespace Go.Proofs.YtmjmhajonaelcaaGreatDoor
open Go Go.Ev
def AnJ:Orc:=⟨8,[.str [115,117,109,32,40,97,32,43,32,48,41,32,42,32,49,32,45,32,40,50,32,45,32,53,41,32,98,101,116,119,101,101,110,32,45,49,32,97,110,100,32,49,32,102,114,111,109,32,116,32,119,105,116,104,32,102,97,99,116,111,114,32,50,32,98,105,116,115,32,56],.str [115,117,109,32,97,32,45,32,45,32,51,32,98,101,116,119,101,101,110,32,45,32,49,32,97,110,100,32,49,32,102,114,111,109,32,116,32,119,105,116,104,32,102,97,99,116,111,114,32,50,32,98,105,116,115,32,56]],uz⟩
def Ar4:Yt Tryz.prog.globals.size AnJ.v ((Acb Tryz.prog Um ⟨0,[]⟩ 60).call AnJ.g AnJ.args (glH Um Tryz.prog.globals.size))=true:=by kernel_rfl
def Auy:Nx Tryz.prog Um AnJ:=Lv (Jp mixed Nk Jq (λ_ h=>(by cases h)) 60) Zw Jq AnJ (by kernel_rfl) Ar4
end Go.Proofs.YtmjmhajonaelcaaGreatDoor
