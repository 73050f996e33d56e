/- The chapter's examples -/
import Derived.Test.YtahaaiadlgfchaaGreatDoorEvR1
set_option linter.all false
set_option maxRecDepth 100000
noncomputable section
namespace Go.Proofs.Anf
open Go Go.Ev Go.Nm
open Go.Proofs Go.Proofs.YtahaaiadlgfchaaGreatDoor
def Cec:∀o∈(⟨17,[],ux⟩::Ced:List Orc),Nx PP Um o:=by
 intro o a;rcases Wf.1 a with rfl|a
 .exact CfV
 .exact ByJ o a
def known:Orc:=⟨5,[],ux⟩
def Ann:Yt PP.globals.size known.v ((Acb PP Um ⟨17638580460980478059233027986760802123352861354849396253724084782558396870513389981790612140263424,⟨17,[],ux⟩::Ced⟩ 60).call known.g known.args (glH Um PP.globals.size))=true:=by kernel_rfl
def AhM:Nx PP Um known:=Lv (Jp mixed Nk Jq Cec 60) Zw Jq known (by kernel_rfl) Ann
end Go.Proofs.Anf
