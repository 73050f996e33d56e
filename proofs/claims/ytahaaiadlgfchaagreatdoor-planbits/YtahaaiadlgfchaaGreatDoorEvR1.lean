/- The chapter's examples -/
import Derived.Test.YtahaaiadlgfchaaGreatDoorEvJe
import Derived.Test.YtahaaiadlgfchaaGreatDoorEvR0
set_option linter.all false
set_option maxRecDepth 100000
noncomputable section
namespace Go.Proofs.Anf
open Go Go.Ev Go.Nm
open Go.Proofs Go.Proofs.YtahaaiadlgfchaaGreatDoor
def Ced:List Orc:=⟨16,[iI 64],iI 127⟩::⟨16,[iI 65],iI 0⟩::(Cil++Cnc.map λs=>⟨179,[.str s],ux⟩)
def ByJ:∀o∈Ced,Nx PP Um o:=by
 intro o a;rcases Wf.1 a with rfl|a
 .exact A9X (by kernel_rfl) Ci5
 .rcases Wf.1 a with rfl|a
  .exact A9X (by kernel_rfl) Ci6
  .rcases T2.1 a with a|a
   .exact CdP o a
   .obtain⟨s,b,rfl⟩:=dz.1 a;exact A9X (by kernel_rfl) (Od.1 CdX s b)
def CuY:Nat:=17638580460980478059233027986760802123352861354849396253724084782558396870513389981790612140132352
def CaO:Yt PP.globals.size ux ((Acb PP Um ⟨CuY,Ced⟩ 60).call 17 [] (glH Um PP.globals.size))=true:=by kernel_rfl
def CfV:Nx PP Um ⟨17,[],ux⟩:=Lv (Jp mixed Nk Jq ByJ 60) Zw Jq ⟨17,[],ux⟩ (by kernel_rfl) CaO
end Go.Proofs.Anf
