/- build: a list of nodes read as an expression. -/
import Derived.Test.YtecikbfimlolcaaGreatDoorEvNd
set_option linter.all false
set_option maxRecDepth 100000
noncomputable section
namespace Go.Proofs
open Go Go.Ev Go.Nm
attribute [local irreducible] Aa Al Af Ad
variable [Ii]
variable (Z:Ac)(N:Nat)
def AcU(l:List Nd)(j:Nat):Int:=match l[j]? with|some y=>y.op|none=>0
def Qt(x:Nd):Bool:=decide (x.op<1)||decide (17<x.op)||(!decide (x.n=0)&&!decide (x.op=1))||(!decide (x.Zn=[])&&!decide (x.op=2)&&!decide (x.op=3))
def Ou(l:List Nd)(i:Nat)(x:Nd):Bool:=decide (x.op=3)&&(decide (i=0)||!decide (AcU l (i-1)=2)||decide (l.length<=i+1)||(!decide (AcU l (i+1)=9)&&!decide (AcU l (i+1)=10)))
def Dm(l:List Nd):List Tr->Nat->List Nd->Option (List Tr)
|st,_,[]=>some st
|st,i,x::rest=>if Qt x||Ou l i x then none else match Fa st x with|some a=>Dm l a (i+1) rest|none=>none
def Je(l:List Nd)(c:Bool):Option Tr:=match Dm l [] 0 l with|some [t]=>if F4 t=c then some t else none|_=>none
def AbP{st e:List Tr}{x:Nd}(h:Fa st x=some e):e.length<=st.length+1:=by
 have d:∀(ts:List Bool) (r q:List Tr),Gf st ts=some (r,q)->r.length<=st.length:=by
  intro ts r q hq;unfold Gf at hq;split at hq
  .cases hq;simp[Cm]
  .cases hq
 unfold Fa at h;split at h
 .cases h;simp
 .split at h
  .split at h
   .rename_i r a hq;cases h;have:=d _ _ _ hq;simp;omega
   .cases h
  .split at h
   .split at h
    .rename_i r c a b hq;cases h;have:=d _ _ _ hq;simp;omega
    .cases h
   .split at h
    .rename_i r a b hq;cases h;have:=d _ _ _ hq;simp;omega
    .cases h
end Go.Proofs
