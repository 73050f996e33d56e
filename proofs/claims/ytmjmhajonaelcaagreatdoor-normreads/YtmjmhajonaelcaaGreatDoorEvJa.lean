/- Joining: the builder's string. -/
import Derived.Test.YtmjmhajonaelcaaGreatDoorEvWa
set_option linter.all false
set_option maxRecDepth 100000
noncomputable section
namespace Go.Proofs
open Go Go.Ev Go.Nm Tryz Go.Ev.Sx
attribute [local irreducible] Aa Al Af Ad
variable (Z cx:Ac)(N:Nat)
variable {h h1 h2 h0 hd:H}{b:Nat}{s:uq}{a v:AV}
structure BdS(b:Nat)(s:List Nat)(h:H):Prop where
 lt:b<h.nx
 g:∃a v,(a=.Ob\/a=.ptr b 0)/\h.m.get b=.cells [a,v] 99 .exact/\Fm 1 (b+1) 5 h v s.length (s.flatMap AiS)
structure Adz(b:Nat)(s:List Nat)(h:H):Prop where
 lt:b<h.nx
 g:∃v,h.m.get b=.cells [.ptr b 0,v] 99 .exact/\Fm 1 (b+1) 5 h v s.length (s.flatMap AiS)
def Bpl:Prop:=∀(b:Nat) (s:uq) (h:H),BdS b s h->Ah H0 (λr h1=>r=.Bj []/\WG b h h1/\Adz b s h1) (Z.call 91 [.ptr b 0] h)
def By5 b:aeq prog 20 96 (.ptr b 0) (.ptr b 0)=some true:=by show @Bool.rec _ _ ..=_;simp
def B19 b hh:bo .neq 96 false (.ptr b 0) (.ptr b 0) hh=.ok ux hh:=by show @Bool.rec _ (.bad 39) (match aeq _ _ _ .. with|some b=>OR.ok ..|none=>.bad _) (Xm prog 96 false (O6 (.ptr b 0)) (O6 (.ptr b 0)))=_;rw[(rfl:Xm prog 96 false (O6 (.ptr b 0)) (O6 (.ptr b 0))=true),By5];rfl
def Bnm P(c:P=prog):Awp P 99 2 0 99=true:=by subst c;rfl
def B2W(k:BdS b s h):Ah H0 (λr h1=>r=.Bj []/\WG b h h1/\Adz b s h1) (mr Z N 91 [.ptr b 0] h):=by
 obtain⟨a,v,q,f,n⟩:=k.g;have j:=k.lt;have c0:Nv h b [a,v]:=⟨j,_,_,f,trivial⟩;have l:=c0.one (o:=0) rfl;rw[Bzz];refine Ey (v:=.ptr b 0) (h:=h) rfl (Ey (v:=.ptr b 0) (h:=h) rfl (Ey (l h (Bi.refl _)) ?_));rcases q with rfl|rfl
 .have u:∀d:H,bo .eql 96 true .Ob .Ob d=.ok uz d:=λd=>by rfl
  have t:BwJ (.ptr b 0) h=.ok (.ptr b 0) h:=by
   have h1:h.rd b=some [.Ob,v]:=by rw[AaS,f];rfl
   show(match h.rd b with|some c=>(@Bool.rec (λ_=>OR) (.bad 57) (.ok (.ptr b 0) h) (Nat.blt 0 (Q4 c)))|none=>.bad 58)=_;rw[h1];rfl
  have p:∀d:H,AgK (Uk prog 124) [.ptr b 0] d=.ok (.ptr b 0) d:=λd=>by kernel_rfl
  have w:BwH prog 99 (.ptr b 0) h=.ok (.ptr b 0) h:=by show(match h.m.get b with|.cells c e .exact=>(@Bool.rec (λ_=>OR) (.bad 60) (.ok (.ptr b 0) h) (Awp prog e (Q4 c) 0 99))|_=>.bad 61)=_;rw[f];simp only[];rw[show Q4 [AV.Ob,v]=2 from rfl,Bnm _ rfl]
  have x:A4 1 (.ptr b 0) (.ptr b 0) h=.ok (.Bj []) (h.put b (cz [.ptr b 0,v] 99)):=A9c (i:=0) f (by simp_all) ⟨rfl,rfl⟩;refine Ey (u _) (Zx (Ey t (Ey (p _) (Ey w (Ey (v:=.ptr b 0) (h:=h) rfl (Ey (v:=.ptr b 0) (h:=h) rfl (Ey x ?_)))))));exact Lo (gr0 _) ⟨rfl,(WG.refl j).put,j,v,A2 ..,Fm.To n (Up b) (by simp_all)⟩
 .exact Ey ((λd=>rfl:∀d,bo .eql 96 true (.ptr b 0) .Ob d=.ok ..) _) (Ae5 (Ey rfl (Ey rfl (Ey (l h (Bi.refl _)) (Ey ((B19 b) _) (Ae5 (Lo (gr0 _) ⟨rfl,WG.refl j,j,v,f,n⟩)))))))
def Bhj{v:AV}{t:uq}{y:AV}{Q:AV->H->Prop}{K:AV->AV->AV->AV->H->OR}(u:h.m.get b=cz [.ptr b 0,v] 99)(M:b<h.nx)(C:Fm 1 (b+1) 5 h v s.length (s.flatMap AiS))(D:Hd h 1 y=some (t.length,t.flatMap AiS))(J:s.length+t.length<=100000)
 (hk:∀h1 v',WG b h h1->Adz b (s++t) h1->Ah H0 Q (K v' (.ptr b 0) (.ptr b 1) (.Bj []) h1)):
 Ah H0 Q (Aa (Ds 5 1 1 v y h) λp h1=>Aa (Fu (.ptr b 0) h1) λr h2=>Aa (Bs r 1 h2) λn d=>Aa (A4 1 n p d) λE j=>K p r n E j):=by
 obtain⟨v',g,w,I,L,q,q5,o⟩:=Fm.BmA (bytes:=1) (lo:=b+1) C D (Aa9 (s:=1) (f:=AiS) (λ_=>rfl) t) om (by
  have:∀l:uq,Bm (l.flatMap AiS)=true:=λl=>by
   induction l with
   |nil=>rfl
   |cons a l F=>exact F
  exact this t) om
 have e:g.m.get b=cz [.ptr b 0,v] 99:=(q5 b (Up b)).trans u;obtain⟨B,A⟩:=B2 q.sl;have z:=I.lo;refine Ey w (Ey (v:=.ptr b 0) (h:=g) rfl (Ey (v:=.ptr b 1) (h:=g) (by rw[E3,Rx]) (Ey (A9c (i:=1) e (by show 1<2;decide) ⟨B,A⟩) ?_)))
 refine hk _ v' ⟨?_,?_,?_,?_⟩ ⟨by show b<g.nx;omega,v',A2 _ _,?_⟩
 .show h.nx<=g.nx;omega
 .intro c hc;rw[Aq _ _ _ om,q5 c om]
 .intro c hc hn G;rw[Aq _ _ _ hn,o.st c hc G]
 .intro x k;rcases Tu.1 k with rfl|k
  .exact .inr (.inl rfl)
  .rcases o.lg x k with d|⟨d,j⟩|d
   .exact .inl d
   .exact .inr (.inr (.inl ⟨d,j⟩))
   .exact .inr (.inr (.inr d))
 .have:=Fm.To (l:=[.ptr b 0,v']) (e1:=99) q (Up b) (by rw[e];rfl);rw[Yl,V5];exact this
def Adz.bd(k:Adz b s h):BdS b s h:=by have⟨v,d,c⟩:=k.g;exact⟨k.lt,_,v,.inr rfl,d,c⟩
def BdS.gr(k:BdS b s h)(g:Ai h h1):BdS b s h1:=by have⟨a,v,e,c,d⟩:=k.g;exact⟨Xq k.lt g.lo,a,v,e,(g.Cf b k.lt).trans c,d.gr g⟩
def Bpg:Prop:=∀(b c:Nat) (s:uq) (h:H),BdS b s h->s.length<=50000->Ah H0 (λr h1=>WG b h h1/\BdS b (s++[c]) h1) (Z.call 55 [.ptr b 0,cw (c:Int)] h)
def B26(e:Bpl Z){c:Nat}(k:BdS b s h)(m:s.length<=50000):Ah H0 (λr h1=>WG b h h1/\BdS b (s++[c]) h1) (mr Z N 55 [.ptr b 0,cw c] h):=by rw[ByX];refine zc0 (e b s h k) λn h1 ⟨_,g1,i⟩=>?_;have⟨v,j,l⟩:=i.g;have f:=i.lt;refine Ey rfl (Ey rfl (Ey ((⟨f,_,_,j,trivial⟩:Nv _ b _).one rfl _ (Bi.refl _)) ?_));apply Ey rfl;have d:Ai _ (h1.new (cz [cw c] 5)):=(Ai.refl _).new _;exact Bhj ((d.Cf b f).trans j) (Xq f d.lo) (l.gr d) (Sl.lit (Bf _) rfl rfl).src (by grind) λh2 v' g2 k2=>Lo (gr0 _) ⟨(g1.gr k.lt d).trans k.lt g2,k2.bd⟩
def Bm5:Prop:=∀(b:Nat) (s t:uq) (h:H),BdS b s h->s.length<=50000->t.length<=5000->Ah H0 (λr h1=>WG b h h1/\BdS b (s++t) h1) (Z.call 56 [.ptr b 0,.str t] h)
def B27(c:Bpl Z){t}(k:BdS b s h)(j:s.length<=50000)(m:t.length<=5000):Ah H0 (λr h1=>WG b h h1/\BdS b (s++t) h1) (mr Z N 56 [.ptr b 0,.str t] h):=by
 rw[ByY];refine zc0 (c b s h k) λl h1 ⟨_,g1,d⟩=>?_;have⟨v,f,i⟩:=d.g;have e:=d.lt;refine Ey rfl (Ey rfl (Ey ((⟨e,_,_,f,trivial⟩:Nv _ b _).one rfl _ (Bi.refl _)) (Bhj (t:=t) f e i ?_ om λh2 v' g2 k2=>?_)));. show @Bool.rec (λ_=>Option _) none (some _) (Nat.beq 1 1)=_;rw[Rf,Asj];rfl
 .exact Ey (A63 t) (Lo (gr0 _) ⟨g1.trans k.lt g2,k2.bd⟩)
def Bs3{q k st:Nat}(j:s≠[])(d:∀c∈s,c<256)(i:s.length<=100000)(g:h.m.get q=.cells (s.flatMap AiS) 5 (.Gt k))(f:h.m.get k=.Fb st):
 usV prog 154 (.ptr q 0) (iI s.length) h=.ok (.str s) ((h.put q (.cells (s.flatMap AiS) 5 (.fz k))).put k (.Fb st)):=by
 have⟨u1,u2,u3⟩:=Bs2 _ rfl;have⟨n,hn⟩:∃n,s.length=n+1:=by cases s with|nil=>grind|cons c l=>simp
 have e:(s.flatMap AiS).length=s.length:=by rw[Aa9 (s:=1) λ_=>rfl,ae]
 unfold usV;rw[show vP _=.yes q 0 from rfl,show Arm _=some _ by rw[hn];rfl];simp only[g,u1,u2,u3,f];rw[show Nf _ 0 _=some _ by rw[E5,Xo om,Cp,Qa om],show Aj3 _=some _ from rfl];simp only[Bhm,ArA s d];rw[show Gj _=true by rw[Fi];grind];rfl
def Bph:Prop:=∀(b:Nat) (s:uq) (h:H),BdS b s h->s≠[]->(∀c∈s,c<256)->s.length<=100000->Ah H0 (λr h1=>r=.str s/\WG b h h1) (Z.call 57 [.ptr b 0] h)
def B28(k:BdS b s h)(j:s≠[])(t:∀c∈s,c<256)(G:s.length<=100000):Ah H0 (λr h1=>r=.str s/\WG b h h1) (Ay prog Z N false 57 [.ptr b 0] h):=by
 obtain⟨a,v,S,B,E⟩:=k.g;have K:=k.lt;have c0:Nv h b [a,v]:=⟨K,_,_,B,trivial⟩;have z:=c0.one (o:=1) rfl;rcases E with⟨u,_⟩|⟨u,_⟩|⟨q,n,st,rfl,w,p,F,q5,R,P,T,O⟩
 .exact absurd (Vz.1 u) j
 .exact absurd (Vz.1 u) j
 have I:0<s.length:=by cases s with|nil=>exact absurd rfl j|cons c l=>exact en _
 have y:∀d:H,Bs (.ptr b 0) 1 d=.ok (.ptr b 1) d:=λd=>by rw[E3,Rx]
 have M:∀d:H,sdV (.sl q 0 s.length s.length 1 false) d=.ok (.ptr q 0) d:=λd=>by
  show(@Bool.rec (λ_=>OR) (.ok (.ptr q 0) d) (.bad 138) (Nat.beq s.length 0):OR)=_;rw[show Nat.beq s.length 0=false by cases A:Nat.beq s.length 0 with
   |false=>rfl
   |true=>exact absurd (ao A) om]
 have C:∀d:H,Fo (.sl q 0 s.length s.length 1 false) d=.ok (iI (s.length:Int)) d:=λd=>rfl;have Q:∀d:H,Bi h (Ab d) ↔ Bi h d:=λd=>⟨λe=>e.Be d.lg,λe=>e.nl⟩;rw[ByZ];refine Ey (v:=.ptr b 0) (h:=Ab h) rfl (Ey (y _) (Ey (z _ (Bi.refl h).nl.nl.nl) (Ey (M _) (Ey (v:=.ptr b 0) (h:=Ab (Ab (Ab (Ab (Ab h))))) rfl (Ey (y _) (Ey (z _ (Bi.refl h).nl.nl.nl) (Ey (C _) ?_)))))));have z1:=Bs3 (h:=Ab (Ab (Ab (Ab (Ab (Ab (Ab (Ab (Ab h)))))))) ) j t G w p;refine Ey z1 ?_;have J:∀x∈[n,q],x=b\/(b<x/\NEx (h.m.get x))\/h.nx<=x:=λx i=>by
  rcases Tu.1 i with rfl|i
  .exact .inr (.inl ⟨q5,λcs e f=>by rw[p]at f;cases f⟩)
  .rcases Tu.1 i with rfl|i
   .exact .inr (.inl ⟨F,λcs e f=>by rw[w]at f;cases f⟩)
   .cases i
 refine Axi (λx=>x=b\/(b<x/\NEx (h.m.get x))\/h.nx<=x) ?_ λL D=>?_
 .exact fI (.inl rfl) (fI (.inr ⟨λx i=>J x (D4 _ _ _ i).1,by (repeat (refine Tl.2 ⟨(by first|exact Ar ..|(refine Ax _ _ _ _ _ _ _ _ _ _ _ _ ?_;decide)|exact A4Q rfl),?_⟩));exact fN⟩) (fI (.inl rfl) (fI (.inl rfl) (fI (.inl rfl) (fI (.inl rfl) (fI (.inl rfl) (fI (.inl rfl) (fI (.inl rfl) (fI (.inl rfl) (fI (.inl rfl) (fI (.inl rfl) fN)))))))))))
 .refine Lo (gr0 _) ⟨rfl,Ye _,λc hc=>?_,λc hc hn f=>?_,D⟩
  .show((h.put q _).put n _).m.get c=_;rw[Aq _ _ _ om,Aq _ _ _ om]
  .show((h.put q _).put n _).m.get c=_;rw[Aq _ _ _ (λd=>by rw[d,p]at f;exact f.2 _ rfl),Aq _ _ _ (λd=>by rw[d,w]at f;cases f.1 _ _ _ rfl)]
end Go.Proofs
