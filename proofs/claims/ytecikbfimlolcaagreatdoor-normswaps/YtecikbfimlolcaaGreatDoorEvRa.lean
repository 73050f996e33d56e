/- The reference's walks: numbers, truth, values. -/
import Derived.Test.YtecikbfimlolcaaGreatDoorEvNd
set_option maxRecDepth 100000
set_option linter.unusedSimpArgs false
set_option linter.unusedVariables false
noncomputable section
namespace Go.Proofs
open Go Go.Ev Go.Nm
abbrev rc (t:Tr) (w:AV):List AV:=[.int .i64 (hd t).op,.int .i64 (hd t).n,.str (hd t).Zn,w]
def RV (h:H):Tr->AV->Prop
 |.leaf _,v=>Sx.Sl 4 h v 0 []
 |.one _ a,v=>∃w,Sx.Sl 4 h v 1 (rc a w)/\RV h a w
 |.two _ a b,v=>∃w1 w2,Sx.Sl 4 h v 2 (rc a w1++rc b w2)/\RV h a w1/\RV h b w2
 |.three c a b,v=>∃w0 w1 w2,Sx.Sl 4 h v 3 (rc c w0++rc a w1++rc b w2)/\RV h c w0/\RV h a w1/\RV h b w2
theorem RV.By {h h1:H} (e:Sx.Bi h h1):∀{t:Tr} {v:AV},RV h t v->RV h1 t v
 |.leaf _,_,hr=>Sx.Sl.By hr e
 |.one _ _,_,⟨w,h1,h2⟩=>⟨w,h1.By e,RV.By e h2⟩
 |.two _ _ _,_,⟨w1,w2,h1,h2,h3⟩=>⟨w1,w2,h1.By e,RV.By e h2,RV.By e h3⟩
 |.three _ _ _,_,⟨w0,w1,w2,h1,h2,h3,h4⟩=>⟨w0,w1,w2,h1.By e,RV.By e h2,RV.By e h3,RV.By e h4⟩
structure TV (h:H) (t:Tr) (v:AV):Prop where
 rv:RV h t v
 reg:Kq t
theorem TV.By {h h1:H} {t:Tr} {v:AV} (hr:TV h t v) (e:Sx.Bi h h1):TV h1 t v:=⟨hr.rv.By e,hr.reg⟩
def Abc (t:Tr) (v:AV) (h:H):Prop:=∃w,v=.agg (rc t w)/\TV h t w
theorem Abc.of {t t':Tr} {v:AV} {h:H} (ht:t=t') (hr:Abc t v h):Abc t' v h:=ht ▸ hr
theorem Abc.one {h:H} {o:Int} {a:Tr} {wa:AV} {b:Nat} (hg:h.m.get b=.cells (rc a wa) 67 .exact) (hb:b<h.nx) (ha:TV h a wa) (ho:o=7\/o=17):Abc (.one o a) (.agg [.int .i64 o,.int .i64 0,.str [],.sl b 0 1 1 4 true]) h:=
 ⟨_,rfl,⟨wa,.inr ⟨b,0,1,true,rc a wa,rfl,Nat.le_refl _,⟨hb,67,.exact,hg,trivial⟩,by simp,rfl⟩,ha.rv⟩,ho,ha.reg⟩
theorem Abc.two {h:H} {o:Int} {a c:Tr} {wa wc:AV} {b:Nat} (hg:h.m.get b=.cells (rc a wa++rc c wc) 67 .exact) (hb:b<h.nx) (ha:TV h a wa) (hc:TV h c wc) (ho:4<=o/\o<=16/\o≠7/\o≠8):Abc (.two o a c) (.agg [.int .i64 o,.int .i64 0,.str [],.sl b 0 2 2 4 true]) h:=
 ⟨_,rfl,⟨wa,wc,.inr ⟨b,0,2,true,rc a wa++rc c wc,rfl,Nat.le_refl _,⟨hb,67,.exact,hg,trivial⟩,by simp,rfl⟩,ha.rv,hc.rv⟩,ho,ha.reg,hc.reg⟩
theorem Abc.three {h:H} {a c d:Tr} {wa wc wd:AV} {b:Nat} (hg:h.m.get b=.cells (rc a wa++rc c wc++rc d wd) 67 .exact) (hb:b<h.nx) (ha:TV h a wa) (hc:TV h c wc) (hd:TV h d wd):Abc (.three a c d) (.agg [.int .i64 8,.int .i64 0,.str [],.sl b 0 3 3 4 true]) h:=
 ⟨_,rfl,⟨wa,wc,wd,.inr ⟨b,0,3,true,rc a wa++rc c wc++rc d wd,rfl,Nat.le_refl _,⟨hb,67,.exact,hg,trivial⟩,by simp,rfl⟩,ha.rv,hc.rv,hd.rv⟩,ha.reg,hc.reg,hd.reg⟩
theorem Abc.here {h:H} {t:Tr} {w:AV} (ht:TV h t w):Abc t (.agg (rc t w)) h:=⟨w,rfl,ht⟩
structure El (h:H) (v:AV) (i:Int) (a:Tr) (w:AV) (b p:Nat):Prop where
 ia:∀h1,Gc 4 v (.int .i64 i) h1=.ok (.ptr b p) h1
 all:∀hh,Sx.Bi h hh->Ae (some (some 4)) (.ptr b p) hh=.ok (.agg (rc a w)) hh
 p0:∀hh,Sx.Bi h hh->Ae (some none) (.ptr b p) hh=.ok (.int .i64 (hd a).op) hh
 p1:∀hh,Sx.Bi h hh->Ae (some none) (.ptr b (p+1)) hh=.ok (.int .i64 (hd a).n) hh
 p2:∀hh,Sx.Bi h hh->Ae (some none) (.ptr b (p+2)) hh=.ok (.str (hd a).Zn) hh
 p3:∀hh,Sx.Bi h hh->Ae (some none) (.ptr b (p+3)) hh=.ok w hh
theorem El.of {h:H} {v w:AV} {i:Nat} {a:Tr} {b p:Nat} (e:Sx.AsU 4 h v i (rc a w) b p):El h v (i:Int) a w b p:=⟨e.ia,e.all,e.part 0 _ rfl,e.part 1 _ rfl,e.part 2 _ rfl,e.part 3 _ rfl⟩
theorem TV.leaf {h:H} {x:Nd} {v:AV} (ht:TV h (.leaf x) v):(∀h1,Fo v h1=.ok (.int .i64 0) h1)/\1<=x.op/\x.op<=3:=⟨λ_=>Sx.Sl.Gs ht.rv,ht.reg⟩
theorem TV.one {h:H} {o:Int} {a:Tr} {v:AV} (ht:TV h (.one o a) v):(∀h1,Fo v h1=.ok (.int .i64 1) h1)/\(o=7\/o=17)/\∃w b p,TV h a w/\El h v 0 a w b p:=by
 obtain ⟨w,h1,h2⟩:=ht.rv
 obtain ⟨b,p,e⟩:=h1.elem (i:=0) (by omega) (l:=rc a w) rfl
 exact ⟨λ_=>h1.Gs,ht.reg.1,w,b,p,⟨h2,ht.reg.2⟩,El.of e⟩
theorem TV.two {h:H} {o:Int} {a c:Tr} {v:AV} (ht:TV h (.two o a c) v):(∀h1,Fo v h1=.ok (.int .i64 2) h1)/\(4<=o/\o<=16/\o≠7/\o≠8)/\∃w b p w' b' p',TV h a w/\TV h c w'/\El h v 0 a w b p/\El h v 1 c w' b' p':=by
 obtain ⟨w,w',h1,h2,h3⟩:=ht.rv
 obtain ⟨b,p,e⟩:=h1.elem (i:=0) (by omega) (l:=rc a w) rfl
 obtain ⟨b',p',e'⟩:=h1.elem (i:=1) (by omega) (l:=rc c w') rfl
 exact ⟨λ_=>h1.Gs,ht.reg.1,w,b,p,w',b',p',⟨h2,ht.reg.2.1⟩,⟨h3,ht.reg.2.2⟩,El.of e,El.of e'⟩
theorem TV.three {h:H} {a c d:Tr} {v:AV} (ht:TV h (.three a c d) v):(∀h1,Fo v h1=.ok (.int .i64 3) h1)/\∃w b p w' b' p' w2 b2 p2,TV h a w/\TV h c w'/\TV h d w2/\El h v 0 a w b p/\El h v 1 c w' b' p'/\El h v 2 d w2 b2 p2:=by
 obtain ⟨w,w',w2,h1,h2,h3,h4⟩:=ht.rv
 obtain ⟨b,p,e⟩:=h1.elem (i:=0) (by omega) (l:=rc a w) rfl
 obtain ⟨b',p',e'⟩:=h1.elem (i:=1) (by omega) (l:=rc c w') rfl
 obtain ⟨b2,p2,e2⟩:=h1.elem (i:=2) (by omega) (l:=rc d w2) rfl
 exact ⟨λ_=>h1.Gs,w,b,p,w',b',p',w2,b2,p2,⟨h2,ht.reg.1⟩,⟨h3,ht.reg.2.1⟩,⟨h4,ht.reg.2.2⟩,El.of e,El.of e',El.of e2⟩
theorem B2 {s:Nat} {h:H} {v:AV} {len:Nat} {c:List AV} (hs:Sx.Sl s h v len c):Ge v=true/\cellsOf v=some [v]:=by
 rcases hs with ⟨_,_,rfl⟩|⟨b,off,cap,ex,cs,rfl,_⟩<;>exact ⟨rfl,rfl⟩
theorem TV.ob {h:H} {t:Tr} {w:AV} (ht:TV h t w):Ge w=true/\cellsOf w=some [w]:=by
 cases t with
 |leaf x=>exact B2 ht.rv
 |one o a=>obtain ⟨_,h1,_⟩:=ht.rv;exact B2 h1
 |two o a b=>obtain ⟨_,_,h1,_⟩:=ht.rv;exact B2 h1
 |three c a b=>obtain ⟨_,_,_,h1,_⟩:=ht.rv;exact B2 h1
theorem Ah0 {ctx:Ac} {q:Bool} {g:FuncId} {args:List AV} {h:H} {Q:AV->H->Prop} (hc:Sx.Ah h Q (Ay PP ctx 1048576 q g args h)):Sx.Ah h Q (Fy PP ctx g args h):=by
 obtain ⟨v,h1,h2,h3⟩:=hc
 exact ⟨v,h1,Jn (Nat.le_refl _) h2,h3⟩
section
variable (ctx:Ac)
def R34:Prop:=∀(b:Bool) (h:H),Sx.Ah h (Abc (fixed b)) (ctx.call 34 [.bool b] h)
end
theorem N4 {p:Prop} (q:p:=by first|(simp (disch:=first|omega|(simp only [C9];omega)) [AtB,Ay3,Ay4,Aqt, *];done)|fail):p:=q
theorem AeR {p:Prop} (q:p:=by first|rfl|(simp [*];done)|(simp [*];omega)|(simp_all [];done)|fail):p:=q
end Go.Proofs
namespace Go.Proofs
open Go Go.Ev Go.Nm
attribute [local irreducible] Aa Al Af Ad
variable (ctx:Ac) (N:Nat)
end Go.Proofs
