/- The reference's walks: lists of nodes, comparing. -/
import Derived.Test.YtecikbfimlolcaaGreatDoorEvRa
set_option maxRecDepth 100000
set_option linter.unusedSimpArgs false
set_option linter.unusedVariables false
noncomputable section
namespace Go.Proofs
open Go Go.Ev Go.Nm
attribute [local irreducible] Aa Al Af Ad
variable (ctx:Ac) (N:Nat)
abbrev Ue (h:H) (v:AV) (l:List Nd):Prop:=Sx.R0 3 Bw h v l
abbrev NdO (lo:Nat) (h:H) (v:AV) (l:List Nd):Prop:=Sx.Fm 3 lo 32 h v l.length (l.flatMap Bw)
theorem A9M (x:Nd):(Bw x).length=3:=rfl
abbrev R35 (t:Tr):Prop:=∀(w:AV) (h:H),TV h t w->Sx.Ah h (λr h1=>NdO h.nx h1 r t.nodes) (ctx.call 35 [.agg (rc t w)] h)
def kids:Tr->List Tr
 |.leaf _=>[]
 |.one _ a=>[a]
 |.two _ a b=>[a,b]
 |.three c a b=>[c,a,b]
theorem TV.kid {h:H} {t:Tr} {v:AV} (ht:TV h t v):(∀h1,Fo v h1=.ok (.int .i64 ((kids t).length:Int)) h1)/\∀(i:Nat) (a:Tr),(kids t)[i]?=some a->∃w b p,TV h a w/\El h v (i:Int) a w b p:=by
 cases t with
 |leaf x=>exact ⟨ht.leaf.1,λi a hi=>by simp [kids] at hi⟩
 |one o a=>
  obtain ⟨h1,_,w,b,p,h2,h3⟩:=ht.one
  refine ⟨h1,λi x hi=>?_⟩
  match i,hi with
  |0,hi=>simp [kids] at hi;subst hi;exact ⟨w,b,p,h2,h3⟩
  |i+1,hi=>simp [kids] at hi
 |two o a c=>
  obtain ⟨h1,_,w,b,p,w',b',p',h2,h3,h4,h5⟩:=ht.two
  refine ⟨h1,λi x hi=>?_⟩
  match i,hi with
  |0,hi=>simp [kids] at hi;subst hi;exact ⟨w,b,p,h2,h4⟩
  |1,hi=>simp [kids] at hi;subst hi;exact ⟨w',b',p',h3,h5⟩
  |i+2,hi=>simp [kids] at hi
 |three a c d=>
  obtain ⟨h1,w,b,p,w',b',p',w2,b2,p2,h2,h3,h4,h5,h6,h7⟩:=ht.three
  refine ⟨h1,λi x hi=>?_⟩
  match i,hi with
  |0,hi=>simp [kids] at hi;subst hi;exact ⟨w,b,p,h2,h5⟩
  |1,hi=>simp [kids] at hi;subst hi;exact ⟨w',b',p',h3,h6⟩
  |2,hi=>simp [kids] at hi;subst hi;exact ⟨w2,b2,p2,h4,h7⟩
  |i+3,hi=>simp [kids] at hi
def Bcz:Prop:=∀t,size t<=1000->R35 ctx t
theorem Aro {l:List Nd} {i:Nat} {x:Nd} {h:H} {v:AV} (hv:Ue h v l) (hi:l[i]?=some x):∃b p,(∀h1,Gc 3 v (.int .i64 (i:Int)) h1=.ok (.ptr b p) h1)/\(∀hh,Sx.Bi h hh->Ae (some (some 3)) (.ptr b p) hh=.ok (.agg (Bw x)) hh) /\
 (∀hh,Sx.Bi h hh->Ae (some none) (.ptr b p) hh=.ok (.int .i64 x.op) hh)/\(∀hh,Sx.Bi h hh->Ae (some none) (.ptr b (p+1)) hh=.ok (.int .i64 x.n) hh)/\(∀hh,Sx.Bi h hh->Ae (some none) (.ptr b (p+2)) hh=.ok (.str x.Zn) hh):=by
 obtain ⟨b,p,e⟩:=Sx.R0.elem A9M hv hi
 exact ⟨b,p,e.ia,e.all,e.part 0 _ rfl,e.part 1 _ rfl,e.part 2 _ rfl⟩
end Go.Proofs
