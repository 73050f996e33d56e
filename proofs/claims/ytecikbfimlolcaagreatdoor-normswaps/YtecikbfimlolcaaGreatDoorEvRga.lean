/- Queries: the large ones. -/
import Derived.Test.YtecikbfimlolcaaGreatDoorEvRg
set_option maxRecDepth 100000
set_option linter.unusedSimpArgs false
set_option linter.unusedVariables false
noncomputable section
namespace Go.Proofs
open Go Go.Ev Go.Nm
attribute [local irreducible] Aa Al Af Ad
variable (ctx:Ac) (N:Nat)
def A5r (q:Qr):Bool:=decide (300<q.code.length)||decide (300<q.E9.length)||decide (300<q.ord.length)
def R23:Prop:=∀(q:Qr) (vc vo vm:AV) (h:H),QV h q vc vo vm->Sx.Ah h (λr _=>r=.bool (A5r q)) (ctx.call 23 [.agg (qc q vc vo vm)] h)
def Bcx (q:Qr) (r:AV) (_:H):Prop:=∃b,r=.bool b/\(b=false->A5r q=false)
structure Txt (q:Qr):Prop where
 t18:(q.s18.length:Int)<=1000000000
 t11:(q.Uw.length:Int)<=1000000000
 t13:(q.s13.length:Int)<=1000000000
 t14:(q.s14.length:Int)<=1000000000
 t15:(q.s15.length:Int)<=1000000000
 t6:(q.s6.length:Int)<=1000000000
end Go.Proofs
