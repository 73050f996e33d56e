/- The examples of the chapter: the call of NormKnown. -/
import Derived.Test.YtecikbfimlolcaaGreatDoorEvR0
import Derived.Test.YtecikbfimlolcaaGreatDoorEvR1
import Derived.Test.YtecikbfimlolcaaGreatDoorEvR2
import Derived.Test.YtecikbfimlolcaaGreatDoorEvR3
import Derived.Test.YtecikbfimlolcaaGreatDoorEvR4
set_option maxRecDepth 100000
noncomputable section
namespace Go.Proofs.YtecikbfimlolcaaGreatDoor
open Go Go.Ev
def Az6:Tab:=⟨16777216,[AnI,AnJ,AnK,AnL,AnM]⟩
theorem Au2:∀o∈Az6.l,Nx Tryz.prog Um o:=by
 intro o ho
 simp only [Az6,List.mem_cons,List.mem_nil_iff,or_false] at ho
 rcases ho with rfl|rfl|rfl|rfl|rfl
 . exact Aux
 . exact Auy
 . exact Auz
 . exact Au0
 . exact Au1
def known:Orc:=⟨13,[],.bool true⟩
theorem Ann:Yt Tryz.prog.globals.size known.v ((Acb Tryz.prog Um Az6 60).call known.g known.args (glH Um Tryz.prog.globals.size))=true:=by kernel_rfl
theorem AhM:Nx Tryz.prog Um known:=Lv (Jp mixed Nk Jq Au2 60) Zw Jq known (by kernel_rfl) Ann
end Go.Proofs.YtecikbfimlolcaaGreatDoor
