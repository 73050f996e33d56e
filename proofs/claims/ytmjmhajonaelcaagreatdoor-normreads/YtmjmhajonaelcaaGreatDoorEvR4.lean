/- The examples of the chapter: the call of NormKnown. -/
import Derived.Test.YtmjmhajonaelcaaGreatDoorEvR0
import Derived.Test.YtmjmhajonaelcaaGreatDoorEvR1
import Derived.Test.YtmjmhajonaelcaaGreatDoorEvR2
import Derived.Test.YtmjmhajonaelcaaGreatDoorEvR3
set_option linter.all false
set_option maxRecDepth 100000
noncomputable section
namespace Go.Proofs.YtmjmhajonaelcaaGreatDoor
open Go Go.Ev
def AnM:Orc:=⟨8,[.str [99,111,117,110,116,32,102,114,111,109,32,116,32,119,104,101,114,101,32,91,97,32,61,32,49,32,111,114,32,98,32,61,32,50,93,32,97,110,100,32,98,32,61,32,51,32,119,105,116,104,32,102,97,99,116,111,114,32,50,32,98,105,116,115,32,56],.str [99,111,117,110,116,32,102,114,111,109,32,116,32,119,104,101,114,101,32,91,49,32,61,32,97,32,111,114,32,50,32,61,32,98,93,32,97,110,100,32,51,32,61,32,98,32,119,105,116,104,32,102,97,99,116,111,114,32,50,32,98,105,116,115,32,56]],uz⟩
def Ar7:Yt Tryz.prog.globals.size AnM.v ((Acb Tryz.prog Um ⟨0,[]⟩ 60).call AnM.g AnM.args (glH Um Tryz.prog.globals.size))=true:=by kernel_rfl
def Au1:Nx Tryz.prog Um AnM:=Lv (Jp mixed Nk Jq (λ_ h=>(by cases h)) 60) Zw Jq AnM (by kernel_rfl) Ar7
def Az6:Tab:=⟨256,[AnI,AnJ,AnK,AnL,AnM]⟩
def Au2:∀o∈Az6.l,Nx Tryz.prog Um o:=by
 intro o a;simp only[Az6,Tu,List.mem_nil_iff,Oq]at a;rcases a with rfl|rfl|rfl|rfl|rfl
 .exact Aux
 .exact Auy
 .exact Auz
 .exact Au0
 .exact Au1
def known:Orc:=⟨4,[],uz⟩
def Ann:Yt Tryz.prog.globals.size known.v ((Acb Tryz.prog Um Az6 60).call known.g known.args (glH Um Tryz.prog.globals.size))=true:=by kernel_rfl
def AhM:Nx Tryz.prog Um known:=Lv (Jp mixed Nk Jq Au2 60) Zw Jq known (by kernel_rfl) Ann
end Go.Proofs.YtmjmhajonaelcaaGreatDoor
