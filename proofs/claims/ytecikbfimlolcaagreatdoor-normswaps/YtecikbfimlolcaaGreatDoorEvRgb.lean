/- Queries: the reference's normal form. -/
import Derived.Test.YtecikbfimlolcaaGreatDoorEvRga
set_option maxRecDepth 100000
set_option linter.unusedSimpArgs false
set_option linter.unusedVariables false
noncomputable section
namespace Go.Proofs
open Go Go.Ev Go.Nm
attribute [local irreducible] Aa Al Af Ad
variable (ctx:Ac) (N:Nat)
def AlZ (l:List Nd) (c:Bool):List Nd:=match Je l c with|some t=>if l.length<=200 then (Pd t).nodes else l|none=>l
def R32:Prop:=∀(c:Bool) (l:List Nd) (v:AV) (h:H),Ue h v l->l.length<=3000->Sx.Ah h (λr h1=>FrN h.nx h1 r (AlZ l c)) (ctx.call 32 [v,.str (A46 c)] h)
def A9B (l:List Nd):List Nd:=if AlZ l true=(fixed true).nodes then [] else AlZ l true
def BbT (q:Qr):Qr:={ q with code:=AlZ q.code false,E9:=A9B q.E9 }
end Go.Proofs
