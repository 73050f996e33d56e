/- The reference's expressions in memory. The reference's walks: numbers, truth, values. -/
import Derived.Test.YtecikbfimlolcaaGreatDoorEvQa
import Derived.Test.YtecikbfimlolcaaGreatDoorEvQb
import Derived.Test.YtecikbfimlolcaaGreatDoorEvNd
set_option maxRecDepth 100000
set_option linter.unusedSimpArgs false
set_option linter.unusedVariables false
namespace Go.Proofs
open Go Go.Ev Go.Nm
abbrev rc (t:Tr) (w:AV):List AV:=[.int .i64 (hd t).op,.int .i64 (hd t).n,.str (hd t).col,w]
def RV (h:H):Tr->AV->Prop
 |.leaf _,v=>Sx.Sl 4 h v 0 []
 |.one _ a,v=>∃ w,Sx.Sl 4 h v 1 (rc a w)/\RV h a w
 |.two _ a b,v=>∃ w1 w2,Sx.Sl 4 h v 2 (rc a w1++rc b w2)/\RV h a w1/\RV h b w2
 |.three c a b,v=>∃ w0 w1 w2,Sx.Sl 4 h v 3 (rc c w0++rc a w1++rc b w2)/\RV h c w0/\RV h a w1/\RV h b w2
theorem RV.B2 {h h1:H} (e:Sx.A9 h h1):∀ {t:Tr} {v:AV},RV h t v->RV h1 t v
 |.leaf _,_,hr=>Sx.Sl.B2 hr e
 |.one _ _,_,⟨w,h1,h2⟩=>⟨w,h1.B2 e,RV.B2 e h2⟩
 |.two _ _ _,_,⟨w1,w2,h1,h2,h3⟩=>⟨w1,w2,h1.B2 e,RV.B2 e h2,RV.B2 e h3⟩
 |.three _ _ _,_,⟨w0,w1,w2,h1,h2,h3,h4⟩=>⟨w0,w1,w2,h1.B2 e,RV.B2 e h2,RV.B2 e h3,RV.B2 e h4⟩
structure TV (h:H) (t:Tr) (v:AV):Prop where
 rv:RV h t v
 reg:Reg t
theorem TV.B2 {h h1:H} {t:Tr} {v:AV} (hr:TV h t v) (e:Sx.A9 h h1):TV h1 t v:=⟨hr.rv.B2 e,hr.reg⟩
theorem TV.C6 (h:H) (n:Int):TV h (num n) .Cb:=⟨.inl ⟨rfl,rfl,rfl⟩,by simp [num,Reg]⟩
def Am (t:Tr) (v:AV) (h:H):Prop:=∃ w,v=.agg (rc t w)/\TV h t w
theorem Am.of {t t':Tr} {v:AV} {h:H} (ht:t=t') (hr:Am t v h):Am t' v h:=ht ▸ hr
theorem Am.one {h:H} {o:Int} {a:Tr} {wa:AV} {b:Nat} (hg:h.m.get b=.cells (rc a wa) 67 .exact) (hb:b<h.nx) (ha:TV h a wa) (ho:o=7\/o=17):Am (.one o a) (.agg [.int .i64 o,.int .i64 0,.str [],.sl b 0 1 1 4 true]) h:=
 ⟨_,rfl,⟨wa,.inr ⟨b,0,1,true,rc a wa,rfl,Nat.le_refl _,⟨hb,67,.exact,hg,trivial⟩,by simp,rfl⟩,ha.rv⟩,ho,ha.reg⟩
theorem Am.two {h:H} {o:Int} {a c:Tr} {wa wc:AV} {b:Nat} (hg:h.m.get b=.cells (rc a wa++rc c wc) 67 .exact) (hb:b<h.nx) (ha:TV h a wa) (hc:TV h c wc) (ho:4<=o/\o<=16/\o≠7/\o≠8):Am (.two o a c) (.agg [.int .i64 o,.int .i64 0,.str [],.sl b 0 2 2 4 true]) h:=
 ⟨_,rfl,⟨wa,wc,.inr ⟨b,0,2,true,rc a wa++rc c wc,rfl,Nat.le_refl _,⟨hb,67,.exact,hg,trivial⟩,by simp,rfl⟩,ha.rv,hc.rv⟩,ho,ha.reg,hc.reg⟩
theorem Am.three {h:H} {a c d:Tr} {wa wc wd:AV} {b:Nat} (hg:h.m.get b=.cells (rc a wa++rc c wc++rc d wd) 67 .exact) (hb:b<h.nx) (ha:TV h a wa) (hc:TV h c wc) (hd:TV h d wd):Am (.three a c d) (.agg [.int .i64 8,.int .i64 0,.str [],.sl b 0 3 3 4 true]) h:=
 ⟨_,rfl,⟨wa,wc,wd,.inr ⟨b,0,3,true,rc a wa++rc c wc++rc d wd,rfl,Nat.le_refl _,⟨hb,67,.exact,hg,trivial⟩,by simp,rfl⟩,ha.rv,hc.rv,hd.rv⟩,ha.reg,hc.reg,hd.reg⟩
theorem TV.mk1 {h:H} {o:Int} {a:Tr} {wa:AV} {b:Nat} (hg:h.m.get b=.cells (rc a wa) 67 .exact) (hb:b<h.nx) (ha:TV h a wa) (ho:o=7\/o=17):TV h (.one o a) (.sl b 0 1 1 4 true):=
 ⟨⟨wa,.inr ⟨b,0,1,true,rc a wa,rfl,Nat.le_refl _,⟨hb,67,.exact,hg,trivial⟩,by simp,rfl⟩,ha.rv⟩,ho,ha.reg⟩
theorem Sl.putBox {h:H} {c len:Nat} {v:AV} {l cs:List AV} (hs:Sx.Sl 4 h v len cs) (hg:h.m.get c=.cells [.int .i64 0,.int .i64 0,.str [],.Cb] 67 .exact) (hl:l.length=4) (hne:0<len->cs[0]?≠some (.int .i64 0)):Sx.Sl 4 (h.put c (.cells l 67 .exact)) v len cs:=by
 rcases hs with h1|⟨b,off,cap,ex,bs,rfl,q2,q3,q4,q5⟩
 . exact .inl h1
 . by_cases hb:b=c
   . subst hb
     obtain ⟨e,k,q6,q7⟩:=q3.cells
     rw [hg] at q6
     cases q6
     simp only [List.length_cons,List.length_nil] at q4
     rcases Nat.eq_zero_or_pos len with h0|h0
     . subst h0
       refine .inr ⟨b,off,cap,ex,l,rfl,q2,⟨q3.lt,67,.exact,Sx.Fw ..,trivial⟩,by omega,?_⟩
       rw [<- q5]
       simp
     . exfalso
       have h1:len=1:=by omega
       subst h1
       have h2:off=0:=by omega
       subst h2
       exact hne h0 (by rw [<- q5];rfl)
   . refine .inr ⟨b,off,cap,ex,bs,rfl,q2,⟨q3.lt,?_⟩,q4,q5⟩
     obtain ⟨e,k,q6,q7⟩:=q3.cells
     refine ⟨e,k,by rw [Sx.B0 _ _ _ hb];exact q6,?_⟩
     cases k with
     |old k st=>
      have hk:k≠c:=fun hh=>by have:=q7.2;rw [hh,hg] at this;cases this
      exact ⟨q7.1,by rw [Sx.B0 _ _ _ hk];exact q7.2⟩
     |_=>trivial
theorem hd_reg {t:Tr} (hr:Reg t):(hd t).op≠0:=by
 cases t with
 |leaf x=>have:=hr.1;simp [hd];omega
 |one o a=>have:=hr.1;simp [hd];omega
 |two o a b=>have:=hr.1;simp [hd];omega
 |three c a b=>simp [hd]
theorem RV.putBox {h:H} {c:Nat} {l:List AV} (hg:h.m.get c=.cells [.int .i64 0,.int .i64 0,.str [],.Cb] 67 .exact) (hl:l.length=4):∀ {t:Tr} {v:AV},Reg t->RV h t v->RV (h.put c (.cells l 67 .exact)) t v
 |.leaf _,_,_,hr=>Sl.putBox hr hg hl (fun h0=>absurd h0 (by omega))
 |.one _ a,_,hq,⟨w,h1,h2⟩=>⟨w,Sl.putBox h1 hg hl (fun _=>by simpa using hd_reg hq.2),RV.putBox hg hl hq.2 h2⟩
 |.two _ a b,_,hq,⟨w1,w2,h1,h2,h3⟩=>⟨w1,w2,Sl.putBox h1 hg hl (fun _=>by simpa using hd_reg hq.2.1),RV.putBox hg hl hq.2.1 h2,RV.putBox hg hl hq.2.2 h3⟩
 |.three c a b,_,hq,⟨w0,w1,w2,h1,h2,h3,h4⟩=>⟨w0,w1,w2,Sl.putBox h1 hg hl (fun _=>by simpa using hd_reg hq.1),RV.putBox hg hl hq.1 h2,RV.putBox hg hl hq.2.1 h3,RV.putBox hg hl hq.2.2 h4⟩
theorem TV.putBox {h:H} {c:Nat} {l:List AV} {t:Tr} {v:AV} (ht:TV h t v) (hg:h.m.get c=.cells [.int .i64 0,.int .i64 0,.str [],.Cb] 67 .exact) (hl:l.length=4):TV (h.put c (.cells l 67 .exact)) t v:=⟨ht.rv.putBox hg hl ht.reg,ht.reg⟩
theorem Am.here {h:H} {t:Tr} {w:AV} (ht:TV h t w):Am t (.agg (rc t w)) h:=⟨w,rfl,ht⟩
structure El (h:H) (v:AV) (i:Int) (a:Tr) (w:AV) (b p:Nat):Prop where
 ia:∀ h1,E3 4 v (.int .i64 i) h1=.ok (.ptr b p) h1
 all:∀ hh,Sx.A9 h hh->Ad (some (some 4)) (.ptr b p) hh=.ok (.agg (rc a w)) hh
 p0:∀ hh,Sx.A9 h hh->Ad (some none) (.ptr b p) hh=.ok (.int .i64 (hd a).op) hh
 p1:∀ hh,Sx.A9 h hh->Ad (some none) (.ptr b (p+1)) hh=.ok (.int .i64 (hd a).n) hh
 p2:∀ hh,Sx.A9 h hh->Ad (some none) (.ptr b (p+2)) hh=.ok (.str (hd a).col) hh
 p3:∀ hh,Sx.A9 h hh->Ad (some none) (.ptr b (p+3)) hh=.ok w hh
theorem El.of {h:H} {v w:AV} {i:Nat} {a:Tr} {b p:Nat} (e:Sx.Elem 4 h v i (rc a w) b p):El h v (i:Int) a w b p:=⟨e.ia,e.all,e.part 0 _ rfl,e.part 1 _ rfl,e.part 2 _ rfl,e.part 3 _ rfl⟩
theorem TV.leaf {h:H} {x:Nd} {v:AV} (ht:TV h (.leaf x) v):(∀ h1,Ft v h1=.ok (.int .i64 0) h1)/\1<=x.op/\x.op<=3:=⟨fun _=>Sx.Sl.lenL ht.rv,ht.reg⟩
theorem TV.one {h:H} {o:Int} {a:Tr} {v:AV} (ht:TV h (.one o a) v):(∀ h1,Ft v h1=.ok (.int .i64 1) h1)/\(o=7\/o=17)/\∃ w b p,TV h a w/\El h v 0 a w b p:=by
 obtain ⟨w,h1,h2⟩:=ht.rv
 obtain ⟨b,p,e⟩:=h1.elem (i:=0) (by omega) (l:=rc a w) rfl
 exact ⟨fun _=>h1.lenL,ht.reg.1,w,b,p,⟨h2,ht.reg.2⟩,El.of e⟩
theorem TV.two {h:H} {o:Int} {a c:Tr} {v:AV} (ht:TV h (.two o a c) v):(∀ h1,Ft v h1=.ok (.int .i64 2) h1)/\(4<=o/\o<=16/\o≠7/\o≠8)/\∃ w b p w' b' p',TV h a w/\TV h c w'/\El h v 0 a w b p/\El h v 1 c w' b' p':=by
 obtain ⟨w,w',h1,h2,h3⟩:=ht.rv
 obtain ⟨b,p,e⟩:=h1.elem (i:=0) (by omega) (l:=rc a w) rfl
 obtain ⟨b',p',e'⟩:=h1.elem (i:=1) (by omega) (l:=rc c w') rfl
 exact ⟨fun _=>h1.lenL,ht.reg.1,w,b,p,w',b',p',⟨h2,ht.reg.2.1⟩,⟨h3,ht.reg.2.2⟩,El.of e,El.of e'⟩
theorem TV.three {h:H} {a c d:Tr} {v:AV} (ht:TV h (.three a c d) v):(∀ h1,Ft v h1=.ok (.int .i64 3) h1)/\∃ w b p w' b' p' w2 b2 p2,TV h a w/\TV h c w'/\TV h d w2/\El h v 0 a w b p/\El h v 1 c w' b' p'/\El h v 2 d w2 b2 p2:=by
 obtain ⟨w,w',w2,h1,h2,h3,h4⟩:=ht.rv
 obtain ⟨b,p,e⟩:=h1.elem (i:=0) (by omega) (l:=rc a w) rfl
 obtain ⟨b',p',e'⟩:=h1.elem (i:=1) (by omega) (l:=rc c w') rfl
 obtain ⟨b2,p2,e2⟩:=h1.elem (i:=2) (by omega) (l:=rc d w2) rfl
 exact ⟨fun _=>h1.lenL,w,b,p,w',b',p',w2,b2,p2,⟨h2,ht.reg.1⟩,⟨h3,ht.reg.2.1⟩,⟨h4,ht.reg.2.2⟩,El.of e,El.of e',El.of e2⟩
theorem TV.reop {h:H} {o o':Int} {a b:Tr} {w:AV} (ht:TV h (.two o a b) w) (ho:4<=o'/\o'<=16/\o'≠7/\o'≠8):TV h (.two o' a b) w:=⟨ht.rv,ho,ht.reg.2⟩
theorem Bc {s:Nat} {h:H} {v:AV} {len:Nat} {c:List AV} (hs:Sx.Sl s h v len c):oneB v=true/\cellsOf v=some [v]:=by
 rcases hs with ⟨_,_,rfl⟩|⟨b,off,cap,ex,cs,rfl,_⟩<;>exact ⟨rfl,rfl⟩
theorem TV.ob {h:H} {t:Tr} {w:AV} (ht:TV h t w):oneB w=true/\cellsOf w=some [w]:=by
 cases t with
 |leaf x=>exact Bc ht.rv
 |one o a=>obtain ⟨_,h1,_⟩:=ht.rv;exact Bc h1
 |two o a b=>obtain ⟨_,_,h1,_⟩:=ht.rv;exact Bc h1
 |three c a b=>obtain ⟨_,_,_,h1,_⟩:=ht.rv;exact Bc h1
theorem gives_callF {ctx:Ae} {q:Bool} {g:FuncId} {args:List AV} {h:H} {Q:AV->H->Prop} (hc:Sx.Af h Q (An PP ctx 1048576 q g args h)):Sx.Af h Q (Fc PP ctx g args h):=by
 obtain ⟨v,h1,h2,h3⟩:=hc
 exact ⟨v,h1,callX_callF (Nat.le_refl _) h2,h3⟩
section
variable (ctx:Ae)
def R73:Prop:=∀ (n:Int) (h:H),Sx.Af h (fun r _=>r=.agg (rc (num n) .Cb)) (ctx.call 73 [.int .i64 n] h)
def R72:Prop:=∀ (n:Int) (v:AV) (h:H),oneB v=true->cellsOf v=some [v]->Sx.Af h (fun r _=>r=.agg [.int .i64 n,.int .i64 0,.str [],v]) (ctx.call 72 [.int .i64 n,v] h)
def R34:Prop:=∀ (b:Bool) (h:H),Sx.Af h (Am (fixed b)) (ctx.call 34 [.bool b] h)
def R230:Prop:=∀ (t:Tr) (w:AV) (h:H),TV h t w->Sx.Af h (fun r _=>r=.Bl [.int .i64 (A0 t).1,.bool (A0 t).2]) (ctx.call 230 [.agg (rc t w)] h)
def R231:Prop:=∀ (n:Int) (h:H),-9223372036854775808<n->n<=9223372036854775807->Sx.Af h (fun r h1=>(constant n=none/\r=.Bl [.agg [.int .i64 0,.int .i64 0,.str [],.Cb],.bool false])\/∃ t w,constant n=some t/\r=.Bl [.agg (rc t w),.bool true]/\TV h1 t w/\oneB w=true/\cellsOf w=some [w]) (ctx.call 231 [.int .i64 n] h)
def R232:Prop:=∀ (t:Tr) (w:AV) (n:Int) (h:H),TV h t w->Sx.Af h (fun r _=>r=.bool (isR t n)) (ctx.call 232 [.agg (rc t w),.int .i64 n] h)
def R233:Prop:=∀ (a b:Tr) (wa wb:AV) (h:H),TV h a wa->TV h b wb->size a<=1000->size b<=1000->Sx.Af h (fun r _=>r=.bool (equalR a b)) (ctx.call 233 [.agg (rc a wa),.agg (rc b wb)] h)
def R264:Prop:=∀ (a b:Tr) (wa wb:AV) (h:H),TV h a wa->TV h b wb->size a<=1000->size b<=1000->Sx.Af h (fun r _=>r=.bool (less a b)) (ctx.call 264 [.agg (rc a wa),.agg (rc b wb)] h)
def R234:Prop:=∀ (n:Int) (a b:Tr) (wa wb:AV) (h:H),4<=n/\n<=16/\n≠7/\n≠8->TV h a wa->TV h b wb->size a<=1000->size b<=1000->Sx.Af h (Am (En n a b)) (ctx.call 234 [.int .i64 n,.agg (rc a wa),.agg (rc b wb)] h)
def R179:Prop:=∀ (n:Int) (a b:Tr) (wa wb:AV) (h:H),n=4\/n=5\/n=6->TV h a wa->TV h b wb->size a<=1000->size b<=1000->Sx.Af h (Am (arithR n a b)) (ctx.call 179 [.int .i64 n,.agg (rc a wa),.agg (rc b wb)] h)
def R181:Prop:=∀ (c a b:Tr) (wc wa wb:AV) (h:H),TV h c wc->TV h a wa->TV h b wb->size c<=1000->size a<=1000->size b<=1000->Sx.Af h (Am (Cy c a b)) (ctx.call 181 [.agg (rc c wc),.agg (rc a wa),.agg (rc b wb)] h)
def R182:Prop:=∀ (n:Int) (B2:Bool) (a b:Tr) (wa wb:AV) (h:H),n=15\/n=16->TV h a wa->TV h b wb->size a<=1000->size b<=1000->Sx.Af h (Am (Ei n B2 a b)) (ctx.call 182 [.int .i64 n,.bool B2,.agg (rc a wa),.agg (rc b wb)] h)
def R183:Prop:=∀ (a:Tr) (wa:AV) (h:H),TV h a wa->size a<=1000->Sx.Af h (Am (Ck a)) (ctx.call 183 [.agg (rc a wa)] h)
def R184:Prop:=∀ (n:Int) (a b:Tr) (wa wb:AV) (h:H),9<=n/\n<=14->TV h a wa->TV h b wb->size a<=1000->size b<=1000->Sx.Af h (Am (F3 n a b)) (ctx.call 184 [.int .i64 n,.agg (rc a wa),.agg (rc b wb)] h)
def R121_1:Prop:=∀ (n:Int) (a:Tr) (v wa:AV) (b p:Nat) (h:H),n=7\/n=17->TV h a wa->size a<=1000->El h v 0 a wa b p->Sx.Af h (Am (if n=7 then Eu a else Ck a)) (ctx.call 121 [.int .i64 n,v] h)
def R121_2:Prop:=∀ (n:Int) (a c:Tr) (v wa wc:AV) (b p b2 p2:Nat) (h:H),4<=n/\n<=16/\n≠7/\n≠8->TV h a wa->TV h c wc->size a<=1000->size c<=1000->El h v 0 a wa b p->El h v 1 c wc b2 p2->Sx.Af h (Am (joinR2 n a c)) (ctx.call 121 [.int .i64 n,v] h)
def R121_3:Prop:=∀ (a c d:Tr) (v wa wc wd:AV) (b p b2 p2 b3 p3:Nat) (h:H),TV h a wa->TV h c wc->TV h d wd->size a<=1000->size c<=1000->size d<=1000->El h v 0 a wa b p->El h v 1 c wc b2 p2->El h v 2 d wd b3 p3->Sx.Af h (Am (Cy a c d)) (ctx.call 121 [.int .i64 8,v] h)
def R180:Prop:=∀ (a:Tr) (wa:AV) (h:H),TV h a wa->Sx.Af h (Am (Eu a)) (ctx.call 180 [.agg (rc a wa)] h)
end
theorem Ep {p:Prop} (q:p:=by first|(simp (disch:=first|omega|(simp only [Bp];omega)) [Df,E9,Eg,C0, *];done)|fail):p:=q
theorem Cd {h:H} {t:Tr} {v:AV} (q:TV h t v:=by (first|assumption|exact TV.C6 _ _|(refine TV.B2 (by assumption) ?_;(first|exact Sx.A9.refl _|assumption|(repeat' (first|assumption|exact Sx.A9.refl _|exact Sx.Ai.refl _|with_reducible apply Sx.A9.nl|with_reducible apply Sx.A9.Ap|with_reducible apply Sx.Ai.nl|with_reducible apply Sx.Ai.Ap|(with_reducible refine Sx.Ai.reC ?_ ?_)|(with_reducible refine Sx.A9.trans ?_ (Sx.Ai.keeps (by assumption)))|(with_reducible apply Sx.Ai.keeps)|with_reducible apply Sx.Ai.new|(with_reducible refine Sx.Ai.put ?_ _ _ ?_)|(with_reducible refine Sx.Ai.trans ?_ (by assumption))|omega|(simp only [Bp];omega))));done)|(exact TV.putBox (by first|assumption|exact TV.C6 _ _|(refine TV.B2 (by assumption) ?_;(first|exact Sx.A9.refl _|assumption|(repeat' (first|assumption|exact Sx.A9.refl _|exact Sx.Ai.refl _|with_reducible apply Sx.A9.nl|with_reducible apply Sx.A9.Ap|with_reducible apply Sx.Ai.nl|with_reducible apply Sx.Ai.Ap|(with_reducible refine Sx.Ai.reC ?_ ?_)|(with_reducible refine Sx.A9.trans ?_ (Sx.Ai.keeps (by assumption)))|(with_reducible apply Sx.Ai.keeps)|with_reducible apply Sx.Ai.new|(with_reducible refine Sx.Ai.put ?_ _ _ ?_)|(with_reducible refine Sx.Ai.trans ?_ (by assumption))|omega|(simp only [Bp];omega))));done)) (by (simp (disch:=first|omega|(simp only [Bp];omega)) [Df,E9,Eg,C0, *];done)) rfl)|(exact TV.B2 (TV.putBox (by first|assumption|exact TV.C6 _ _|(refine TV.B2 (by assumption) ?_;(first|exact Sx.A9.refl _|assumption|(repeat' (first|assumption|exact Sx.A9.refl _|exact Sx.Ai.refl _|with_reducible apply Sx.A9.nl|with_reducible apply Sx.A9.Ap|with_reducible apply Sx.Ai.nl|with_reducible apply Sx.Ai.Ap|(with_reducible refine Sx.Ai.reC ?_ ?_)|(with_reducible refine Sx.A9.trans ?_ (Sx.Ai.keeps (by assumption)))|(with_reducible apply Sx.Ai.keeps)|with_reducible apply Sx.Ai.new|(with_reducible refine Sx.Ai.put ?_ _ _ ?_)|(with_reducible refine Sx.Ai.trans ?_ (by assumption))|omega|(simp only [Bp];omega))));done)) (by (simp (disch:=first|omega|(simp only [Bp];omega)) [Df,E9,Eg,C0, *];done)) rfl) (Sx.A9.Ap (Sx.A9.refl _) _))|fail)):TV h t v:=q
theorem specA {p:Prop} (q:p:=by first|rfl|(simp [*];done)|(simp [*];omega)|(simp_all [];done)|fail):p:=q
end Go.Proofs
namespace Go.Proofs
open Go Go.Ev Go.Nm
attribute [local irreducible] Aa Aj Ah Ac
variable (ctx:Ae) (N:Nat)
theorem r72 (n:Int) (v:AV) (h:H) (hv:oneB v=true) (hc:cellsOf v=some [v]):Sx.Af h (fun r _=>r=.agg [.int .i64 n,.int .i64 0,.str [],v]) (An Tryz.prog ctx N true 72 [.int .i64 n,v] h):=by
 rw [e72]
 repeat' (first|with_reducible (first|apply A3|apply A4|apply A5|apply A6)|(with_reducible (first|apply Cq|apply Cr|apply Cs|apply Ct);(conv=>lhs;simp (disch:=first|exact dA|fail) [lw, *]);with_reducible (first|apply A3|apply A4|apply A5|apply A6|apply Cn|(refine Co (by simp) ?_)|(apply Cp<;>intro hc<;>(try simp only [Ar] at hc)<;>(try (exfalso;omega)))))|(with_reducible (first|apply Cu|apply Cv|apply Cw|apply Cx)<;>intro hc<;>(try simp only [Ar] at hc)<;>(try (exfalso;omega))))
 all_goals (refine zr ?_ ?_;exact Ak;exact specA)
theorem r73 (n:Int) (h:H):Sx.Af h (fun r _=>r=.agg (rc (num n) .Cb)) (An Tryz.prog ctx N true 73 [.int .i64 n] h):=by
 rw [e73]
 repeat' (first|with_reducible (first|apply A3|apply A4|apply A5|apply A6)|(with_reducible (first|apply Cq|apply Cr|apply Cs|apply Ct);(conv=>lhs;simp (disch:=first|exact dA|fail) [lw, *]);with_reducible (first|apply A3|apply A4|apply A5|apply A6|apply Cn|(refine Co (by simp) ?_)|(apply Cp<;>intro hc<;>(try simp only [Ar] at hc)<;>(try (exfalso;omega)))))|(with_reducible (first|apply Cu|apply Cv|apply Cw|apply Cx)<;>intro hc<;>(try simp only [Ar] at hc)<;>(try (exfalso;omega))))
 all_goals (refine zr ?_ ?_;exact Ak;exact specA)
theorem r34 (h72:R72 ctx) (h73:R73 ctx) (b:Bool) (h:H):Sx.Af h (Am (fixed b)) (An Tryz.prog ctx N true 34 [.bool b] h):=by
 rw [e34]
 cases b
 . repeat' (first|with_reducible (first|apply A3|apply A4|apply A5|apply A6)|((with_reducible (first|apply Db|apply Dc));exact h73 _ _;intro vv hh ee elo eold qq;(try simp only [Bp] at elo eold);subst qq)|((with_reducible (first|apply Db|apply Dc));exact h72 _ _ _ (by simp [*]) (by simp [*]);intro vv hh ee elo eold qq;(try simp only [Bp] at elo eold);subst qq)|(with_reducible (first|apply Cq|apply Cr|apply Cs|apply Ct);(conv=>lhs;simp (disch:=first|exact dA|fail) [lw, *]);with_reducible (first|apply A3|apply A4|apply A5|apply A6|apply Cn|(refine Co (by simp) ?_)|(apply Cp<;>intro hc<;>(try simp only [Ar] at hc)<;>(try (exfalso;omega)))))|(with_reducible (first|apply Cu|apply Cv|apply Cw|apply Cx)<;>intro hc<;>(try simp only [Ar] at hc)<;>(try (exfalso;omega))))
   all_goals first|(refine zr ?_ (Am.of ?_ (Am.two (a:=(num 0)) (c:=(num 0)) ?_ ?_ Cd Cd ?_));exact Ak;(focus (first|rfl|(simp [fixed, *];done)|(simp [fixed, *];omega)|(simp_all [fixed];done);done));exact Ep;exact Ch;omega)|(refine zr ?_ (Am.of ?_ (Am.here (TV.C6 _ _)));exact Ak;(focus (first|rfl|(simp [fixed, *];done)|(simp [fixed, *];omega)|(simp_all [fixed];done);done)))|(refine zr ?_ (Am.of ?_ (Am.here ?_));exact Ak;(focus (first|rfl|(simp [fixed, *];done)|(simp [fixed, *];omega)|(simp_all [fixed];done);done));exact Cd)
 . repeat' (first|with_reducible (first|apply A3|apply A4|apply A5|apply A6)|((with_reducible (first|apply Db|apply Dc));exact h73 _ _;intro vv hh ee elo eold qq;(try simp only [Bp] at elo eold);subst qq)|((with_reducible (first|apply Db|apply Dc));exact h72 _ _ _ (by simp [*]) (by simp [*]);intro vv hh ee elo eold qq;(try simp only [Bp] at elo eold);subst qq)|(with_reducible (first|apply Cq|apply Cr|apply Cs|apply Ct);(conv=>lhs;simp (disch:=first|exact dA|fail) [lw, *]);with_reducible (first|apply A3|apply A4|apply A5|apply A6|apply Cn|(refine Co (by simp) ?_)|(apply Cp<;>intro hc<;>(try simp only [Ar] at hc)<;>(try (exfalso;omega)))))|(with_reducible (first|apply Cu|apply Cv|apply Cw|apply Cx)<;>intro hc<;>(try simp only [Ar] at hc)<;>(try (exfalso;omega))))
   all_goals first|(refine zr ?_ (Am.of ?_ (Am.two (a:=(num 0)) (c:=(num 0)) ?_ ?_ Cd Cd ?_));exact Ak;(focus (first|rfl|(simp [fixed, *];done)|(simp [fixed, *];omega)|(simp_all [fixed];done);done));exact Ep;exact Ch;omega)|(refine zr ?_ (Am.of ?_ (Am.here (TV.C6 _ _)));exact Ak;(focus (first|rfl|(simp [fixed, *];done)|(simp [fixed, *];omega)|(simp_all [fixed];done);done)))|(refine zr ?_ (Am.of ?_ (Am.here ?_));exact Ak;(focus (first|rfl|(simp [fixed, *];done)|(simp [fixed, *];omega)|(simp_all [fixed];done);done));exact Cd)
theorem r230 (t:Tr) (w:AV) (h:H) (ht:TV h t w):Sx.Af h (fun r _=>r=.Bl [.int .i64 (A0 t).1,.bool (A0 t).2]) (An Tryz.prog ctx N true 230 [.agg (rc t w)] h):=by
 rw [e230]
 have ob:=ht.ob.1
 have cw:=ht.ob.2
 cases t with
 |leaf x=>
  obtain ⟨_,h1,h2⟩:=ht.leaf
  have h7:¬ x.op=7:=by omega
  repeat' (first|with_reducible (first|apply A3|apply A4|apply A5|apply A6)|(with_reducible (first|apply Cq|apply Cr|apply Cs|apply Ct);(conv=>lhs;simp (disch:=first|exact dA|fail) [lw, *,Df,E9,Eg,C0]);with_reducible (first|apply A3|apply A4|apply A5|apply A6|apply Cn|(refine Co (by simp) ?_)|(apply Cp<;>intro hc<;>(try simp only [Ar] at hc)<;>(try (exfalso;omega)))))|(with_reducible (first|apply Cu|apply Cv|apply Cw|apply Cx)<;>intro hc<;>(try simp only [Ar] at hc)<;>(try (exfalso;omega))))
  all_goals (refine zr ?_ ?_;exact Ak;(first|rfl|(simp [A0,Df, *];done)|(simp [A0,Df, *];omega)|(simp_all [A0,Df];done)))
 |one o a=>
  obtain ⟨_,ho,w',b,p,ha,q1,q2,q3,q4,q5,q6⟩:=ht.one
  have h1:¬ o=1:=by omega
  by_cases h7:o=7
  . repeat' (first|with_reducible (first|apply A3|apply A4|apply A5|apply A6)|(with_reducible (first|apply Cq|apply Cr|apply Cs|apply Ct);(conv=>lhs;simp (disch:=first|exact dA|fail) [lw, *,Df,E9,Eg,C0]);with_reducible (first|apply A3|apply A4|apply A5|apply A6|apply Cn|(refine Co (by simp) ?_)|(apply Cp<;>intro hc<;>(try simp only [Ar] at hc)<;>(try (exfalso;omega)))))|(with_reducible (first|apply Cu|apply Cv|apply Cw|apply Cx)<;>intro hc<;>(try simp only [Ar] at hc)<;>(try (exfalso;omega))))
    all_goals (refine zr ?_ ?_;exact Ak;(first|rfl|(simp [A0,Df,E9,Eg,C0,Fi,kidT_one,kidT_two,Et, *];done)|(simp [A0,Df,E9,Eg,C0,Fi,kidT_one,kidT_two,Et, *];omega)|(simp_all [A0,Df,E9,Eg,C0,Fi,kidT_one,kidT_two,Et];done)))
  . repeat' (first|with_reducible (first|apply A3|apply A4|apply A5|apply A6)|(with_reducible (first|apply Cq|apply Cr|apply Cs|apply Ct);(conv=>lhs;simp (disch:=first|exact dA|fail) [lw, *,Df,E9,Eg,C0]);with_reducible (first|apply A3|apply A4|apply A5|apply A6|apply Cn|(refine Co (by simp) ?_)|(apply Cp<;>intro hc<;>(try simp only [Ar] at hc)<;>(try (exfalso;omega)))))|(with_reducible (first|apply Cu|apply Cv|apply Cw|apply Cx)<;>intro hc<;>(try simp only [Ar] at hc)<;>(try (exfalso;omega))))
    all_goals (refine zr ?_ ?_;exact Ak;(first|rfl|(simp [A0,Df,E9,Eg,C0,Fi,kidT_one,kidT_two,Et, *];done)|(simp [A0,Df,E9,Eg,C0,Fi,kidT_one,kidT_two,Et, *];omega)|(simp_all [A0,Df,E9,Eg,C0,Fi,kidT_one,kidT_two,Et];done)))
 |two o a c=>
  obtain ⟨_,ho,_⟩:=ht.two
  have h1:¬ o=1:=by omega
  have h7:¬ o=7:=by omega
  repeat' (first|with_reducible (first|apply A3|apply A4|apply A5|apply A6)|(with_reducible (first|apply Cq|apply Cr|apply Cs|apply Ct);(conv=>lhs;simp (disch:=first|exact dA|fail) [lw, *,Df,E9,Eg,C0]);with_reducible (first|apply A3|apply A4|apply A5|apply A6|apply Cn|(refine Co (by simp) ?_)|(apply Cp<;>intro hc<;>(try simp only [Ar] at hc)<;>(try (exfalso;omega)))))|(with_reducible (first|apply Cu|apply Cv|apply Cw|apply Cx)<;>intro hc<;>(try simp only [Ar] at hc)<;>(try (exfalso;omega))))
  all_goals (refine zr ?_ ?_;exact Ak;(first|rfl|(simp [A0,Df,E9,Eg,C0,Fi,kidT_one,kidT_two,Et, *];done)|(simp [A0,Df,E9,Eg,C0,Fi,kidT_one,kidT_two,Et, *];omega)|(simp_all [A0,Df,E9,Eg,C0,Fi,kidT_one,kidT_two,Et];done)))
 |three a c d=>
  repeat' (first|with_reducible (first|apply A3|apply A4|apply A5|apply A6)|(with_reducible (first|apply Cq|apply Cr|apply Cs|apply Ct);(conv=>lhs;simp (disch:=first|exact dA|fail) [lw, *,Df,E9,Eg,C0]);with_reducible (first|apply A3|apply A4|apply A5|apply A6|apply Cn|(refine Co (by simp) ?_)|(apply Cp<;>intro hc<;>(try simp only [Ar] at hc)<;>(try (exfalso;omega)))))|(with_reducible (first|apply Cu|apply Cv|apply Cw|apply Cx)<;>intro hc<;>(try simp only [Ar] at hc)<;>(try (exfalso;omega))))
  all_goals (refine zr ?_ ?_;exact Ak;(first|rfl|(simp [A0,Df,E9,Eg,C0,Fi,kidT_one,kidT_two,Et, *];done)|(simp [A0,Df,E9,Eg,C0,Fi,kidT_one,kidT_two,Et, *];omega)|(simp_all [A0,Df,E9,Eg,C0,Fi,kidT_one,kidT_two,Et];done)))
theorem r231 (h72:R72 ctx) (h73:R73 ctx) (n:Int) (h:H) (h1:-9223372036854775808<n) (h2:n<=9223372036854775807):
 Sx.Af h (fun r h1=>(constant n=none/\r=.Bl [.agg [.int .i64 0,.int .i64 0,.str [],.Cb],.bool false])\/∃ t w,constant n=some t/\r=.Bl [.agg (rc t w),.bool true]/\TV h1 t w/\oneB w=true/\cellsOf w=some [w]) (An Tryz.prog ctx N true 231 [.int .i64 n] h):=by
 have hw:Ga .i64 (-n)=-n:=by rw [Sx.Cg]<;>omega
 rw [e231]
 repeat' (first|with_reducible (first|apply A3|apply A4|apply A5|apply A6)|((with_reducible (first|apply Db|apply Dc));exact h73 _ _;intro vv hh ee elo eold qq;(try simp only [Bp] at elo eold);subst qq)|((with_reducible (first|apply Db|apply Dc));exact h72 _ _ _ (by simp [*]) (by simp [*]);intro vv hh ee elo eold qq;(try simp only [Bp] at elo eold);subst qq)|(with_reducible (first|apply Cq|apply Cr|apply Cs|apply Ct);(conv=>lhs;simp (disch:=first|exact dA|fail) [lw, *]);with_reducible (first|apply A3|apply A4|apply A5|apply A6|apply Cn|(refine Co (by simp) ?_)|(apply Cp<;>intro hc<;>(try simp only [Ar] at hc)<;>(try (exfalso;omega)))))|(with_reducible (first|apply Cu|apply Cv|apply Cw|apply Cx)<;>intro hc<;>(try simp only [Ar] at hc)<;>(try (exfalso;omega))))
 . exact Sx.Cj Ak (.inl ⟨by simp [constant];omega,rfl⟩)
 . exact Sx.Cj Ak (.inl ⟨by simp [constant];omega,rfl⟩)
 . refine Sx.Cj Ak (.inr ⟨.one 7 (num (-n)),_,by simp [constant];omega,rfl,?_⟩)
   exact ⟨TV.mk1 Ep Ch (TV.C6 _ _) (.inl rfl),rfl,rfl⟩
 . exact Sx.Cj Ak (.inr ⟨num n,.Cb,by simp [constant];omega,rfl,TV.C6 _ _,rfl,rfl⟩)
theorem r232 (h230:R230 ctx) (t:Tr) (w:AV) (n:Int) (h:H) (ht:TV h t w):Sx.Af h (fun r _=>r=.bool (isR t n)) (An Tryz.prog ctx N true 232 [.agg (rc t w),.int .i64 n] h):=by
 rw [e232]
 have ob:=ht.ob.1
 have cw:=ht.ob.2
 repeat' (first|with_reducible (first|apply A3|apply A4|apply A5|apply A6)|((with_reducible (first|apply Db|apply Dc));exact h230 _ _ _ Cd;intro vv hh ee elo eold qq;(try simp only [Bp] at elo eold);subst qq)|(with_reducible (first|apply Cq|apply Cr|apply Cs|apply Ct);(conv=>lhs;simp (disch:=first|exact dA|fail) [lw, *]);with_reducible (first|apply A3|apply A4|apply A5|apply A6|apply Cn|(refine Co (by simp) ?_)|(apply Cp<;>intro hc<;>(try simp only [Ar] at hc)<;>(try (exfalso;omega)))))|(with_reducible (first|apply Cu|apply Cv|apply Cw|apply Cx)<;>intro hc<;>(try simp only [Ar] at hc)<;>(try (exfalso;omega))))
 all_goals (refine zr ?_ ?_;exact Ak;(first|rfl|(simp [isR, *];done)|(simp [isR, *];omega)|(simp_all [isR];done)))
end Go.Proofs
