/- Parse, whole: both ends. -/
import Derived.Test.YtmjmhajonaelcaaGreatDoorEvPb
set_option linter.all false
set_option maxRecDepth 100000
noncomputable section
namespace Go.Proofs
open Go Go.Ev Go.Nm Go.Ev.Sx
attribute [local irreducible] Aa Al Af Ad
variable (Z cx:Ac)(N:Nat)
variable {b:Nat}{v:AV}{l:List Tok}{i e o:Int}{q:uw}{h h1:H}{n d:Nat}{t:Tr}
def Bst{k}{x}(f:h.m.get b=Yg v i e o q)(hq:q.length=20)(a:k<20)(j:Ge x=true/\cellsOf x=some [x]):A4 1 (.ptr b (4+k)) x h=.ok (.Bj []) (h.put b (Yg v i e o (q.set k x))):=by have⟨c,g⟩:=j;simp[Adt,g,AiA,Auc,Awo,c,eh,Y7,Gx,Rx,Qg,Jr];simp[f,lw,hq,(by rw[Tz,Xo om]:q.set k x=q.take k++x::q.drop _),(rfl),(by omega:4+k=k+4),a];rw[Xo om];rfl
def BaM{k}{x}{Φ:OR->Prop}{K:AV->AV->AV->AV->H->OR}{g}(u:h.m.get b=Yg v i e o q)(hq:q.length=20)(j:k<20)(w:Ge x=true/\cellsOf x=some [x])(y:q.set k x=g)(next:Φ (K (.ptr b 0) (.ptr b 4) (.ptr b (4+k)) (.Bj []) (h.put b (Yg v i e o g)))):
 Φ (Aa (Fu (.ptr b 0) h) λf h1=>Aa (Bs f 4 h1) λc h2=>Aa (Bs c k h2) λa p=>Aa (A4 1 a x p) (K f c a)):=by apply Wb;apply Wb;rw[E3];apply Wb;rw[show 0+4+k=4+k by rfl,Bst u hq j w];simp_all
structure QL(b:Nat)(h:H)(Q:Qr)(ve vo vm:AV):Prop where
 c:(Q.code=[]/\ve=.Bv)\/(Q.code≠[]/\Oo (b+1) h ve Q.code)
 o:Fm 2 (b+1) 66 h vo Q.ord.length (Q.ord.flatMap Zd)
 m:(Q.E9=[]/\vm=.Bv)\/(Q.E9≠[]/\Oo (b+1) h vm Q.E9)
def Azb{s lo len}{et}{v}{c}{X}(p:Fm s lo et h v len c)(A:b<h.nx)(hn:∀st,h.m.get b≠.Fb st)(z:b<lo)(e:PG b X h h1)(y:len=0->v=.Bv):Fm s lo et h1 v len c:=by
 rcases p with g|⟨rfl,rfl,x,off,cs,rfl,h2,g⟩|⟨x,k,st,rfl,E,B,u,q5,a,f,w,j⟩;. exact .inl g
 .grind
 .exact .inr (.inr ⟨_,k,st,rfl,by rw[e.Cf _ a om];omega,by rw[e.Cf k f om];grind,u,q5,Xq a e.lo,Xq f e.lo,w,j⟩)
structure PQ(b:Nat)(v:AV)(l:List Tok)(i e:Int)(Q:Qr)(ve vo vm:AV)(h:H):Prop where
 p:PsR b v l i e 0 (qc Q ve vo vm) h
 q:QL b h Q ve vo vm
 z:Q.ord.length=0->vo=.Bv
def QL.pg{Q}{ve vo vm}{X}(k:QL b h Q ve vo vm)(a:b<h.nx)(hn:∀st,h.m.get b≠.Fb st)(f:Q.ord.length=0->vo=.Bv)(g:PG b X h h1):QL b h1 Q ve vo vm:=
 ⟨k.c.imp id λ⟨x,y⟩=>⟨x,y.pg x a hn (Up b) g⟩,Azb k.o a hn (Up b) g f,k.m.imp id λ⟨x,y⟩=>⟨x,y.pg x a hn (Up b) g⟩⟩
def PsR.Atm(p:PsR b v l i e o q h):∀st,h.m.get b≠.Fb st:=λst a=>by rw[p.get]at a;grind
def PQ.pg{Q}{ve vo vm}{j}(k:PQ b v l i e Q ve vo vm h)(g:PG b (Yg v j e 0 (qc Q ve vo vm)) h h1)(hj:0<=j):PQ b v l j e Q ve vo vm h1:=
 ⟨k.p.pg g hj rfl,k.q.pg k.p.lt k.p.Atm k.z g,k.z⟩
def PQ.gr{Q}{ve vo vm}(k:PQ b v l i e Q ve vo vm h)(g:Ai h h1):PQ b v l i e Q ve vo vm h1:=k.pg ((PG.refl k.p.get).gr g) k.p.i0
def A0W(b:Nat)(v:AV)(l:List Tok)(e:Int)(h:H)(j:Int)(Q:Qr)(R:AV->Prop)(a:AV)(h1:H):Prop:=PX b h h1/\(∃ve vo vm,PQ b v l j e Q ve vo vm h1)/\R a
def PQ.set{Q Q':Qr}{ve vo vm:AV}(k:PQ b v l i e Q ve vo vm h)(hc:Q'.code=Q.code:=by rfl)(a:Q'.ord=Q.ord:=by rfl)(hm:Q'.E9=Q.E9:=by rfl):PQ b v l i e Q' ve vo vm (h.put b (Yg v i e 0 (qc Q' ve vo vm))):=by have g:PG b (Yg v i e 0 (qc Q' ve vo vm)) h (h.put b (Yg v i e 0 (qc Q' ve vo vm))):=(PG.refl rfl).put _;refine⟨k.p.pg g k.p.i0 rfl,?_,by rw[a];exact k.z⟩;have:=k.q.pg k.p.lt k.p.Atm k.z g;exact⟨by rw[hc];exact this.c,by rw[a];exact this.o,by rw[hm];exact this.m⟩
def PX.trans{h2}(a:PX b h h1)(c:PX b h1 h2):PX b h h2:=c.elim λX=>PX.trX a
variable {α β:Type}{P:α->AV->H->Prop}{hm:H}{Q:Qr}{ve vo vm:AV}{K:AV->H->OR}
def Aus{f}(a:Ba0 Z)(g:PX b hm h)(k:PQ b v l n e Q ve vo vm h)
 (next:∀t h1,kAt l n 1=some t->PX b hm h1->PQ b v l (n+1:Nat) e Q ve vo vm h1->AdO P (λh1=>PX b hm h1) (f t) (K (.str t.t) h1)):AdO P (λh1=>PX b hm h1) ((kAt l n 1).bind f) (Aa (Z.call 39 [.ptr b 0] h) K):=by refine AdL (a b v l n e 0 _ h k.p) (λc w h1 u m=>Ac6 (by grind) u (PX.trans g m)) λt w h1 c j=>?_;obtain⟨e1,rfl⟩:=j;rw[c];exact next t _ c (PX.trans g (.of e1)) (k.pg e1 om)
def Ag5{s}{f}(c:AsR Z)(g:PX b hm h)(k:PQ b v l n e Q ve vo vm h)
 (next:∀h1,AfM l n s=true->PX b hm h1->PQ b v l (n+1:Nat) e Q ve vo vm h1->AdO P (λh1=>PX b hm h1) (f (n+1)) (K (.Bj []) h1)):AdO P (λh1=>PX b hm h1) ((Aax l n s).bind f) (Aa (Z.call 38 [.ptr b 0,.str s] h) K):=by
 refine AdL (c b v l n e 0 _ s h k.p) (λa y h1 x w=>Ac6 (by grind) x (PX.trans g w)) λj y h1 a u=>?_;obtain⟨e1,rfl⟩:=u;rw[a];unfold Aax at a;by_cases m:AfM l n s=true;. rw[Xo m]at a;cases a;exact next _ m (PX.trans g (.of e1)) (k.pg e1 om)
 grind
def Bew{f}(a:BfO Z)(w:AjO l)(g:PX b hm h)(k:PQ b v l n e Q ve vo vm h)
 (next:∀x h1,AqM l n=some x->PX b hm h1->PQ b v l x.2 e Q ve vo vm h1->AdO P (λh1=>PX b hm h1) (f x) (K (iI x.1) h1)):AdO P (λh1=>PX b hm h1) ((AqM l n).bind f) (Aa (Z.call 71 [.ptr b 0] h) K):=by refine AdL (a b v l n e 0 _ h k.p w) (λc y h1 u m=>Ac6 (by grind) u (PX.trans g m)) λx y h1 c j=>?_;obtain⟨e1,rfl⟩:=j;rw[c];exact next x _ c (PX.trans g (.of e1)) (k.pg e1 om)
def A9i{f}(a:BfN Z)(g:PX b hm h)(k:PQ b v l n e Q ve vo vm h)
 (next:∀t h1,kAt l n 3=some t->PX b hm h1->PQ b v l (n+1:Nat) e Q ve vo vm h1->AdO P (λh1=>PX b hm h1) (f t) (K (iI t.n) h1)):AdO P (λh1=>PX b hm h1) ((kAt l n 3).bind f) (Aa (Z.call 46 [.ptr b 0] h) K):=by refine AdL (a b v l n e 0 _ h k.p) (λc w h1 u m=>Ac6 (by grind) u (PX.trans g m)) λt w h1 c j=>?_;obtain⟨e1,rfl⟩:=j;rw[c];exact next t _ c (PX.trans g (.of e1)) (k.pg e1 om)
def Bex{f}(a:BcQ Z)(g:PX b hm h)(k:PQ b v l n e Q ve vo vm h)
 (next:∀t h1,AwC l n=some t->PX b hm h1->PQ b v l (n+1:Nat) e Q ve vo vm h1->AdO P (λh1=>PX b hm h1) (f t) (K (iI t.n) h1)):AdO P (λh1=>PX b hm h1) ((AwC l n).bind f) (Aa (Z.call 41 [.ptr b 0] h) K):=by refine AdL (a b v l n e 0 _ h k.p) (λc w h1 u m=>Ac6 (by grind) u (PX.trans g m)) λt w h1 c j=>?_;obtain⟨e1,rfl⟩:=j;rw[c];exact next t _ c (PX.trans g (.of e1)) (k.pg e1 om)
def AxT{s}{z1 m}(f:Al5 Z)(j:AlT Z)(g:PX b hm h)(k:PQ b v l n e Q ve vo vm h)
 (AqN:∀h1,AfM l n s=true->PX b hm h1->PQ b v l (n+1:Nat) e Q ve vo vm h1->AdO P (λh1=>PX b hm h1) z1 (K uz h1))
 (B5e:∀h1,AfM l n s=false->PX b hm h1->PQ b v l n e Q ve vo vm h1->AdO P (λh1=>PX b hm h1) m (K ux h1)):
 AdO P (λh1=>PX b hm h1) (if AfM l n s=true then z1 else m) (Aa (Z.call 40 [.ptr b 0,.str s] h) K):=by
 by_cases a:AfM l n s=true;. rw[Xo a];refine zw1 (f b v l n e 0 _ s h k.p a) λu h1 e1 c=>?_;subst c;exact AqN _ a (PX.trans g (.of e1)) (k.pg e1 om)
 .rw[X2 a];have a:AfM l n s=false:=by grind
  refine Fj (j b v l n e 0 _ s h k.p a) λu h1 e1 l1 w c=>?_;subst c;exact B5e _ a (g.gr e1) (k.gr e1)
def Ab4{k:Nat}{x:AV}{Q':Qr}{F:H->Prop}{z:Option α}{K:AV->AV->AV->AV->H->OR}(g:PX b hm h)(p:PQ b v l i e Q ve vo vm h)(next:∀h1,PX b hm h1->PQ b v l i e Q' ve vo vm h1->AdO P F z (K (.ptr b 0) (.ptr b 4) (.ptr b (4+k)) (.Bj []) h1))
 (Zb:(qc Q ve vo vm).set k x=qc Q' ve vo vm:=by rfl) (hk:k<20:=by decide) (hx:Ge x=true/\cellsOf x=some [x]:=by exact⟨rfl,rfl⟩) (hc:Q'.code=Q.code:=by rfl) (ho:Q'.ord=Q.ord:=by rfl) (hmm:Q'.E9=Q.E9:=by rfl):
 AdO P F z (Aa (Fu (.ptr b 0) h) λc h1=>Aa (Bs c 4 h1) λa h2=>Aa (Bs a k h2) λf j=>Aa (A4 1 f x j) (K c a f)):=
 BaM (Φ:=AdO P F z) p.p.get rfl hk hx Zb (next _ (g.put _) (p.set hc ho hmm))
abbrev SQ(b:Nat)(v:AV)(l:List Tok)(e:Int)(hm:H)(z:Option (Qr × Nat))(r:OR):Prop:=AdO (λ(x:Qr × Nat) rv h1=>A0W b v l e hm (x.2:Nat) x.1 (λr=>r=.Bj []) rv h1) (λh1=>PX b hm h1) z r
def Bey{z}{f}{r}(m:SQ b v l e h z r)(g:PX b hm h)
 (next:∀x h1 ve vo vm,z=some x->PX b hm h1->PQ b v l x.2 e x.1 ve vo vm h1->AdO P (λh1=>PX b hm h1) (f x) (K (.Bj []) h1)):AdO P (λh1=>PX b hm h1) (z.bind f) (Aa r K):=by refine AdL m (λc p h1 k j=>Ac6 (by grind) k (PX.trans g j)) λx p h1 c a=>?_;obtain⟨g1,⟨ve,vo,vm,a⟩,rfl⟩:=a;rw[c];exact next x _ _ _ _ c (PX.trans g g1) a
def sqE{z}{x}(a:z=some x)(g:PX b hm h)(p:PQ b v l x.2 e x.1 ve vo vm h):SQ b v l e hm z (.ok (.Bj []) h):=AdG a ⟨g,⟨_,_,_,p⟩,rfl⟩
def sq1{z}{r}(g:SQ b v l e h z r):SQ b v l e h z (Aa r λf h1=>.ok (.Bj []) h1):=by refine AdL g (λc f h1=>Ac6 c) λx f h1 c a=>?_;obtain⟨g1,⟨ve,vo,vm,a⟩,rfl⟩:=a;exact sqE c g1 a
open Tryz
def fu(l:List Tok):Nat:=12*l.length+12
def Bwl{s}:Enf l (fu l) s n:=by
 have:rk s<=11:=by cases s with
  |ch c k=>cases c<;>simp[rk]<;>omega
  |_=>simp[rk]
 unfold Enf fu;omega
def A5m(l:List Tok)(s:NS)(n:Nat):Option (Tr × Nat):=(sp l (fu l) s n 0).bind λx=>if 200<x.1.nodes.length then none else some x
def SL(run:Nat->H->OR)(s:NS):Prop:=∀(b:Nat) (v:AV) (l:List Tok) (n:Nat) (e:Int) (q:uw) (h:H),
 PsR b v l n e 0 q h->AiR b (λx:Tr × Nat=>Yg v (x.2:Nat) e 0 q) h (nd2 h) (A5m l s n) (run b h)
def B5E{g}{s}(G:Bg prog g=true)(u:Bm3 Z)(w:AsQ Z)(L:∀m,m<=24012->SR (λb h=>Z.call g [.ptr b 0] h) m s):SL (λb h=>mr Z N 42 [.ptr b 0,.fn (.func g) [.ptr b 0] []] h) s:=by
 intro b v l n e q h p;simp[];rw[Bzr];have W:=p.Mu;have y:∀k,cvV (.fn _ [.ptr b 0] []) [] _ Z k=Z.call g ..:=λk=>cvF _ _ _ _ G;refine Fj (u b v l n e 0 q h p) λI h2 A T M V=>?_;obtain⟨a,rfl⟩:=V;simp[mM,y];have E:=(PG.refl p.get).gr A;unfold A5m;refine AdL (L _ (by unfold fu;omega) b v l n e 0 q _ (p.gr A) Bwl (Int.le_refl _)) (λB I h1 S y=>Ac6 (by grind) S (PX.trans (.of E) y)) λx X h3 B J=>?_;have⟨t,j⟩:=x;have⟨O,z⟩:=J;have c:=E.trans O;have hl:∀k,Fo _ k=.ok ..:=λ_=>z.sl.Gs;rw[B];simp[Yr];by_cases f:200<t.nodes.length;. rw[Xo f];refine wk ?_;exact AmT Z w rfl (by grind) λY U=>.of (c.gr U)
 .rw[X2 f];refine wk ?_;exact AdG rfl ⟨c,z.Y5 T⟩
def Cc2(p:PQ b v l n e Q ve vo vm h):SQ b v l e h (some ({ Q with c0:=1 },n)) (mr Z N 28 [.ptr b 0] h):=by rw[Bze];exact Ab4 (.refl h) p λh1 g1 a=>sqE rfl g1 a
def AlC(l:List Tok)(n:Nat)(Q:Qr)(k:Int):Option (Qr × Nat):=(kAt l n 1).bind λt=>some ({ Q with c0:=k,s6:=t.t },n+1)
def BcW:Prop:=∀(b:Nat) (v:AV) (l:List Tok) (n:Nat) (e:Int) (Q:Qr) (ve vo vm:AV) (h:H) (k:Int),PQ b v l (n:Nat) e Q ve vo vm h->SQ b v l e h (AlC l n Q k) (Z.call 70 [.ptr b 0,iI k] h)
def CcN(a:Ba0 Z){k}(p:PQ b v l n e Q ve vo vm h):SQ b v l e h (AlC l n Q k) (mr Z N 70 [.ptr b 0,iI k] h):=by rw[Bz4];exact Aus Z a (.refl h) p λt h1 j g1 c=>Ab4 (Q':={ Q with c0:=k }) g1 c λh2 g2 f=>Ab4 g2 f λm g p3=>sqE rfl g p3
def Avi(l:List Tok)(n:Nat)(Q:Qr)(k:Int):Option (Qr × Nat):=(A5m l .ex n).bind λx=>(Aax l x.2 wv).bind λi=>(AqM l i).bind λlo=>(Aax l lo.2 bm).bind λj=>(AqM l j).bind λhi=>some ({ Q with c0:=k,code:=x.1.nodes,c2:=lo.1,c3:=hi.1 },hi.2)
def BlA:Prop:=∀(b:Nat) (v:AV) (l:List Tok) (n:Nat) (e:Int) (Q:Qr) (ve vo vm:AV) (h:H) (k:Int),PQ b v l (n:Nat) e Q ve vo vm h->AjO l->SQ b v l e h (Avi l n Q k) (Z.call 69 [.ptr b 0,iI k] h)
def CcM(f:AsR Z)(c:BfO Z)(u:SL (λb h=>Z.call 42 [.ptr b 0,.fn (.func 102) [.ptr b 0] []] h) .ex){k}(p:PQ b v l n e Q ve vo vm h)(E:AjO l):SQ b v l e h (Avi l n Q k) (mr Z N 69 [.ptr b 0,iI k] h):=by
 rw[Bz3];refine Ab4 (Q':={ Q with c0:=k }) (.refl h) p λh1 g1 w=>?_;unfold Avi;refine AdL (u b v l n e _ _ w.p) (λB v1 h1 hv X=>Ac6 (by grind) hv (PX.trans g1 X)) λx g h2 B V=>?_;have⟨t,j⟩:=x;have⟨A,G⟩:=V;have a:=w.pg A om;rw[B];have y:PG b (Yg v j e 0 (qc { Q with c0:=k,code:=t.nodes } g vo vm)) h2 _:=(PG.refl rfl).put _;apply BaM a.p.get rfl (by grind) G.one rfl;have p3:PQ b v l j e { Q with c0:=k,code:=t.nodes } g vo vm (h2.put b (Yg v j e 0 (qc { Q with c0:=k,code:=t.nodes } g vo vm))):=by have:=a.q.pg a.p.lt a.p.Atm a.z y;exact⟨a.p.pg y om rfl,⟨.inr ⟨Tf t,(G.Y5 w.p.lt).pg (Tf t) a.p.lt a.p.Atm (Up b) y⟩,this.o,this.m⟩,a.z⟩
 exact Ag5 Z f ((PX.trans g1 (.of A)).put (Yg v j e 0 (qc { Q with c0:=k,code:=t.nodes } g vo vm))) p3 λh4 _ W J=>Bew Z c E W J λlo h5 _ g5 I=>Ab4 (Q':={ Q with c0:=k,code:=t.nodes,c2:=lo.1 }) g5 I λh6 L p6=>Ag5 Z f L p6 λh7 _ T O=>Bew Z c E T O λhi h8 _ U S=>Ab4 U S λh9 M Y=>sqE rfl M Y
def Cc3(a:BlA Z)(p:PQ b v l n e Q ve vo vm h)(c:AjO l):SQ b v l e h (Avi l n Q 2) (mr Z N 29 [.ptr b 0] h):=by rw[Bzf];exact sq1 (a b v l n e Q _ _ _ h 2 p c)
def Cc4(a:BcW Z)(p:PQ b v l n e Q ve vo vm h):SQ b v l e h (AlC l n Q 3) (mr Z N 30 [.ptr b 0] h):=by rw[Bzg];exact sq1 (a b v l n e Q _ _ _ h 3 p)
def Cc7(a:BcW Z)(p:PQ b v l n e Q ve vo vm h):SQ b v l e h (AlC l n Q 6) (mr Z N 33 [.ptr b 0] h):=by rw[Bzj];exact sq1 (a b v l n e Q _ _ _ h 6 p)
def Cc9(a:BcW Z)(p:PQ b v l n e Q ve vo vm h):SQ b v l e h (AlC l n Q 8) (mr Z N 35 [.ptr b 0] h):=by rw[Bzl];exact sq1 (a b v l n e Q _ _ _ h 8 p)
def CcA(a:BcW Z)(p:PQ b v l n e Q ve vo vm h):SQ b v l e h (AlC l n Q 9) (mr Z N 36 [.ptr b 0] h):=by rw[Bzm];exact sq1 (a b v l n e Q _ _ _ h 9 p)
def BfP(l:List Tok)(n:Nat)(Q:Qr):Option (Qr × Nat):=(AqM l n).bind λx=>AlC l x.2 { Q with c7:=x.1 } 7
def A5K{α:Type}(z:Option α):z=z.bind λx=>some x:=by simp
def Cc8(c:BcW Z)(a:BfO Z)(p:PQ b v l n e Q ve vo vm h)(g:AjO l):SQ b v l e h (BfP l n Q) (mr Z N 34 [.ptr b 0] h):=by rw[Bzk];refine Bew Z a g (.refl h) p λx h1 _ g1 f=>Ab4 (Q':={ Q with c7:=x.1 }) g1 f λh2 g2 j=>?_;rw[A5K (AlC l _ _ 7)];exact Bey (c b v l _ e _ _ _ _ _ 7 j) g2 λy k ve vo vm _=>sqE rfl
def BgC(l:List Tok)(n:Nat)(Q:Qr):Option (Qr × Nat):=(Avi l n Q 4).bind λx=>(Aax l x.2 [98,121]).bind λi=>(kAt l i 1).bind λt=>some ({ x.1 with s6:=t.t },i+1)
def Cc5(f:AsR Z)(a:Ba0 Z)(c:BlA Z)(p:PQ b v l n e Q ve vo vm h)(m:AjO l):SQ b v l e h (BgC l n Q) (mr Z N 31 [.ptr b 0] h):=by rw[Bzh];exact Bey (c b v l n e Q _ _ _ h 4 p m) (.refl h) λx h1 ve vo vm _ g1 k=>Ag5 Z f g1 k λh2 _ g2 u=>Aus Z a g2 u λt z _ w p3=>Ab4 w p3 λy g j=>sqE rfl g j
def Bg4(l:List Tok)(n:Nat)(Q:Qr):Option (Qr × Nat):=(kAt l n 3).bind λa=>(Aax l (n+1) [47]).bind λi=>(kAt l i 3).bind λc=>(Aax l (i+1) [111,102]).bind λj=>Avi l j { Q with c4:=a.n,c5:=c.n } 5
def Cc6(g:AsR Z)(f:BfN Z)(j:BlA Z)(p:PQ b v l n e Q ve vo vm h)(A:AjO l):SQ b v l e h (Bg4 l n Q) (mr Z N 32 [.ptr b 0] h):=by rw[Bzi];refine A9i Z f (.refl h) p λa h1 _ g1 x=>Ab4 (Q':={ Q with c4:=a.n }) g1 x λh2 g2 B=>Ag5 Z g g2 B λE _ G p3=>A9i Z f G p3 λc J _ w m=>Ab4 (Q':={ Q with c4:=a.n,c5:=c.n }) w m λL z k=>Ag5 Z g z k λI _ u p6=>?_;rw[A5K (Avi l _ _ 5)];exact Bey (j b v l _ e _ _ _ _ _ 5 p6 A) u λy E ve vo vm _=>sqE rfl
def A2Q(l:List Tok)(n:Nat)(Q:Qr):Option (Qr × Nat):=if AfM l (n:Nat) bn=true then(A5m l .cd (n+1)).bind λx=>some ({ Q with E9:=x.1.nodes },x.2)else some (Q,n)
def BrU(u:Al5 Z)(m:AlT Z)(E:SL (λb h=>Z.call 42 [.ptr b 0,.fn (.func 43) [.ptr b 0] []] h) .cd){f0}(g:PX b hm h)(p:PQ b v l n e Q ve vo vm h):SQ b v l e hm (A2Q l n Q) (A3p Z N (.ptr b 0) f0 h):=by
 rw[Bmi];refine AxT Z u m g p (λh1 _ g1 f=>?_) λh1 _ g1 f=>?_
 .refine A9 (AdL (E b v l _ e _ _ f.p) (λB L h1 J I=>Ac6 (by grind) J (PX.trans g1 I)) λx w h2 B G=>?_);have⟨t,j⟩:=x;have⟨A,y⟩:=G;have a:=f.pg A om;rw[B];have k:PG b (Yg v j e 0 (qc { Q with E9:=t.nodes } ve vo w)) h2 _:=(PG.refl rfl).put _;apply BaM a.p.get rfl (by simp) y.one rfl;have p3:PQ b v l j e { Q with E9:=t.nodes } ve vo w (h2.put b (Yg v j e 0 (qc { Q with E9:=t.nodes } ve vo w))):=by have:=a.q.pg a.p.lt a.p.Atm a.z k;exact⟨a.p.pg k om rfl,⟨this.c,this.o,.inr ⟨Tf t,(y.Y5 f.p.lt).pg (Tf t) a.p.lt a.p.Atm (Up b) k⟩⟩,a.z⟩
  exact sqE rfl ((PX.trans g1 (.of A)).put _) p3
 .exact Ba (sqE rfl g1 f)
def A1t(l:List Tok)(n:Nat)(Q:Qr):Option (Qr × Nat):=if AfM l (n:Nat) tn=true then
 (kAt l (n+1) 1).bind λf=>(Aax l (n+1+1) [111,110]).bind λi=>(kAt l i 1).bind λa=>(Aax l (i+1) [61]).bind λj=>(kAt l j 1).bind λt3=>(Aax l (j+1) tz).bind λk=>(AwC l k).bind λc=>
  A2Q l (k+1) { Q with Wu:=f.t,s14:=a.t,s15:=t3.t,c16:=c.n }
 else A2Q l n Q
def BrO(f:Al5 Z)(c:AlT Z)(j:AsR Z)(a:Ba0 Z)(u:BcQ Z)(B:SL (λb h=>Z.call 42 [.ptr b 0,.fn (.func 43) [.ptr b 0] []] h) .cd){f0}(g:PX b hm h)(p:PQ b v l n e Q ve vo vm h):SQ b v l e hm (A1t l n Q) (A3o Z N (.ptr b 0) f0 h):=by
 rw[Bmh];refine AxT Z f c g p (λh1 _ g1 x=>?_) λh1 _ g1 x=>?_;. exact A9 (Aus Z a g1 x λy h2 _ g2 J=>Ab4 (Q':={ Q with Wu:=y.t }) g2 J λh3 X p3=>Ag5 Z j X p3 λh4 _ U G=>Aus Z a U G λA h5 _ W E=>Ab4 (Q':={ Q with Wu:=y.t,s14:=A.t }) W E λh6 I p6=>Ag5 Z j I p6 λh7 _ O M=>Aus Z a O M λt3 h8 _ S T=>Ab4 (Q':={ Q with Wu:=y.t,s14:=A.t,s15:=t3.t }) S T λh9 L V=>Ag5 Z j L V λFh _ z w=>Bex Z u z w λt4 Kc _ k m=>Ab4 k m λY=>BrU Z N f c B)
 .exact Ba (BrU Z N f c B g1 x)
def A80(l:List Tok)(n:Nat)(Q:Qr):Option (Qr × Nat):=if AfM l (n:Nat) tg=true then(AwC l (n+1)).bind λt=>A1t l (n+1+1) { Q with W0:=t.n }else A1t l n Q
def A0f(l:List Tok)(n:Nat)(Q:Qr):Option (Qr × Nat):=(Aax l n tf).bind λi=>(kAt l i 1).bind λt=>A80 l (i+1) { Q with Uw:=t.t }
def B0X:Prop:=∀(b:Nat) (v:AV) (l:List Tok) (n:Nat) (e:Int) (Q:Qr) (ve vo vm:AV) (h:H),PQ b v l (n:Nat) e Q ve vo vm h->SQ b v l e h (A0f l n Q) (Z.call 17 [.ptr b 0] h)
def Cc0(g:Al5 Z)(f:AlT Z)(j:AsR Z)(c:Ba0 Z)(a:BcQ Z)(u:SL (λb h=>Z.call 42 [.ptr b 0,.fn (.func 43) [.ptr b 0] []] h) .cd)(p:PQ b v l n e Q ve vo vm h):SQ b v l e h (A0f l n Q) (mr Z N 17 [.ptr b 0] h):=by
 rw[ByR];refine Ag5 Z j (.refl h) p λh1 _ g1 x=>Aus Z c g1 x λt h2 _ g2 A=>Ab4 (Q':={ Q with Uw:=t.t }) g2 A λJ B p3=>AxT Z g f B p3 (λz _ m k=>?_) λz _ m k=>?_;. exact A9 (Bex Z a m k λI G _ y w=>Ab4 y w λE=>BrO Z N g f j c a u)
 .exact Ba (BrO Z N g f j c a u m k)
end Go.Proofs
namespace Go.Nm
open Go.Ev
def Ao2:Nat->Nat->uq
|0,_=>[]
|D+1,n=>Ao2 D (n/10)++[48+n%10]
def nd(n:Nat):Nat:=if n<10 then 1 else if n<100 then 2 else if n<1000 then 3 else if n<10000 then 4 else if n<100000 then 5 else if n<1000000 then 6 else if n<10000000 then 7 else if n<100000000 then 8 else if n<1000000000 then 9 else 10
def V8(n:Int):uq:=Ao2 (nd n.toNat) n.toNat
def Bkd:List Int:=[1,10,100,1000,10000,100000,1000000,10000000,100000000,1000000000,10000000000,100000000000,1000000000000,10000000000000,100000000000000,1000000000000000,10000000000000000,100000000000000000,1000000000000000000,10000000000000000000]
def AnE(l:uq):Nat:=l.foldl (λa c=>a*10+(c-48)) 0
def A3l l c:AnE (l++[c])=AnE l*10+(c-48):=by simp[AnE]
def Bel l i:AnE (l.take i)<=AnE l:=by
 have h1:∀(b:List _) a,a<=b.foldl (λa c=>a*10+(c-48)) a:=by intro b;induction b with
  |nil=>simp
  |cons c b f=>grind
 have h2:AnE l=(l.drop i).foldl (λa c=>a*10+(c-48)) (AnE (l.take i)):=by unfold AnE;rw[<- List.foldl_append,Dt]
 grind
def Alh:∀D n,(Ao2 D n).length=D
|0,_=>rfl
|D+1,n=>by simp[Ao2,Alh D]
def A6O:∀D n,n<10^D->AnE (Ao2 D n)=n
|0,n,h=>by
 have:n=0:=by omega
 subst this;rfl
|D+1,n,h=>by show AnE (Ao2 D _++[48+n%10])=n;rw[A3l,A6O D _ (bz (by omega))];omega
def Axd:∀D n,∀c∈Ao2 D n,48<=c/\c<=57
|0,n,c,h=>by cases h
|D+1,n,c,h=>by
 rcases W7.1 h with h|h;. exact Axd D _ c h
 grind
def A2f:∀D n,10^D<=n->n<10^(D+1)->∃c r,Ao2 (D+1) n=c::r/\49<=c
|0,n,h1,h2=>⟨_,_,rfl,by omega⟩
|D+1,n,h1,h2=>by have⟨c,r,_,a⟩:=A2f D (n/10) ((Nat.le_div_iff_mul_le (by omega)).2 (by grind)) (bz (by omega));exact⟨c,r++[48+n%10],by show Ao2 ..++_=_;grind,a⟩
def Aqg(n:Nat)(h:n<=1000000000):(n<10/\nd n=1)\/∃D,nd n=D+1/\1<=D/\D<=9/\10^D<=n/\n<10^(D+1):=by
 unfold nd;split
 .exact .inl ⟨by assumption,rfl⟩
 .split
  .exact .inr ⟨1,rfl,by decide,by decide,by show 10<=n;omega,by show n<100;omega⟩
  .split
   .exact .inr ⟨2,rfl,by decide,by decide,by show 100<=n;omega,by show n<1000;omega⟩
   .split
    .exact .inr ⟨3,rfl,by decide,by decide,by show 1000<=n;omega,by show n<10000;omega⟩
    .split;. exact .inr ⟨4,rfl,by decide,by decide,by show 10000<=n;omega,by show n<100000;omega⟩
     .split;. exact .inr ⟨5,rfl,by decide,by decide,by show 100000<=n;omega,by show n<1000000;omega⟩
      .split;. exact .inr ⟨6,rfl,by decide,by decide,by show 1000000<=n;omega,by show n<10000000;omega⟩
       .split;. exact .inr ⟨7,rfl,by decide,by decide,by show 10000000<=n;omega,by show n<100000000;omega⟩
        .split;. exact .inr ⟨8,rfl,by decide,by decide,by show 100000000<=n;omega,by show n<1000000000;omega⟩
         .exact .inr ⟨9,rfl,by decide,by decide,by show 1000000000<=n;omega,by show n<10000000000;omega⟩
def Alj{n}(m:0<=n)(h1:n<=1000000000):(∀c∈V8 n,48<=c/\c<=57)/\AnE (V8 n)=n/\1<=(V8 n).length/\(V8 n).length<=10/\(1<(V8 n).length->∃c r,V8 n=c::r/\49<=c):=by
 unfold V8;refine⟨Axd _ _,?_,?_,?_,?_⟩
 .rw[A6O];. omega
  .rcases Aqg n.toNat om with⟨a,f⟩|⟨D,a,_,_,_,f⟩;. grind
   simp[*]
 .rw[Alh];rcases Aqg n.toNat om with⟨a,f⟩|⟨D,a,_,_,_,f⟩<;>omega
 .rw[Alh];rcases Aqg n.toNat om with⟨a,f⟩|⟨D,a,_,_,_,f⟩<;>omega
 .rw[Alh];intro k;rcases Aqg n.toNat om with⟨a,f⟩|⟨D,a,_,_,j,g⟩;. omega
  .rw[a];exact A2f D _ j g
end Go.Nm
namespace Go.Proofs
open Go Go.Ev Go.Nm Tryz Go.Ev.Sx
attribute [local irreducible] Aa Al Af Ad
variable (Z cx:Ac)(N:Nat)
variable {b:Nat}{v:AV}{l:List Tok}{i e o:Int}{q:uw}{h h1 hm:H}{n d:Nat}{t:Tr}{Q:Qr}{ve vo vm:AV}
structure AeZ(h:H):Prop where
 g:h.m.get 1=.cells (Bkd.map λx=>AV.int .u64 x) 225 .exact
 lt:2<h.nx
def AeZ.gr(p:AeZ h)(g:Ai h h1):AeZ h1:=⟨(g.Cf 1 (by have:=p.lt;omega)).trans p.g,Xq p.lt g.lo⟩
def AeZ.px(p:AeZ h)(a:2<b)(g:PX b h h1):AeZ h1:=by have⟨X,g⟩:=g;exact⟨(g.Cf 1 (by have:=p.lt;omega) om).trans p.g,Xq p.lt g.lo⟩
def Num(x:Int):Prop:=0<=x/\x<=1000000000
def Sml(x:Int):Prop:=-1000000000<=x/\x<=1000000000
def Bpk:Prop:=∀(n:Int) (h:H),Num n->AeZ h->Ah h (λr _=>r=.str (V8 n)) (Z.call 45 [iI n] h)
def Bpj:Prop:=∀(n:Int) (h:H),Num n->AeZ h->Ah h (λr _=>r=.str (V8 n)) (Z.call 44 [iI n] h)
def B2Q(a:Bpk Z){x}(hn:Num x)(c:AeZ h):Ah h (λr _=>r=.str (V8 x)) (mr Z N 44 [iI x] h):=by rw[Bzt];refine Fj (a x h hn c) λj h1 e1 l1 g f=>?_;subst f;exact zr e1 rfl
def Bdx x h:cvV (.fn (.func 44) [] []) [x] prog Z h=Z.call 44 [x] h:=cvF _ _ _ _ rfl
def rmk(a d:Int):uq:=if d/(Int.gcd a d:Nat)=1 then V8 (a/(Int.gcd a d:Nat))else V8 (a/(Int.gcd a d:Nat))++47::V8 (d/(Int.gcd a d:Nat))
def BsV:Prop:=∀(a d:Int) (h:H),Num a->Num d->d≠0->AeZ h->Ah h (λr _=>∃y,r=.Bj [.str (rmk a d),y]) (Z.call 47 [.str (V8 a),.str (V8 d)] h)
def A4b(l:List Tok)(n:Nat)(Q:Qr):Option (Qr × Nat):=if n<l.length then none else some (Q,n)
def Bji(f:Bm3 Z)(c:AsQ Z){f0:L2}(g:PX b hm h)(p:PQ b v l (n:Nat) e Q ve vo vm h):SQ b v l e hm (A4b l n Q) (A3s Z N (.ptr b 0) f0 h):=by
 rw[Bml];have G:=p.p.get;have B:=p.p.lt;have u:=p.p.Mu;have k:∀j,Fo v j=.ok (iI (l.length:Int)) j:=λ_=>p.p.AsD.Gs;unfold A4b;by_cases hn:n<l.length;. have w:decide ((n:Int)<(l.length:Int))=true:=dt;rw[Xo hn];refine wd ?_;refine Fj (f b v l n e 0 _ _ (p.p.gr Ex)) λE A y I m q5=>?_;obtain⟨a,rfl⟩:=q5;exact AmT Z c rfl (by simp) λx z=>g.gr Ex
 .exact wd (sqE rfl (g.gr Ex) (p.gr Ex))
def A0L(l:List Tok)(n:Nat)(Q:Qr):Option (Qr × Nat):=(Aax l n tv).bind λi=>(AwC l i).bind λt=>if Q.c0=3 then(if AfM l (i+1:Nat) uh=true then A4b l (i+1+1) { Q with Mg:=t.n,Wz:=true }else A4b l (i+1) { Q with Mg:=t.n,Wz:=false })else A4b l (i+1) { Q with Mg:=t.n }
def BrV(u:Al5 Z)(m:AlT Z)(w:AsR Z)(x:BcQ Z)(a:Bm3 Z)(c:AsQ Z){f0:L2}(g:PX b hm h)(p:PQ b v l (n:Nat) e Q ve vo vm h):SQ b v l e hm (A0L l n Q) (A3r Z N (.ptr b 0) f0 h):=by
 rw[Bmk];refine Ag5 Z w g p λh1 _ g1 J=>?_;refine Bex Z x g1 J λt h2 _ g2 E=>?_;refine Ab4 (Q':={ Q with Mg:=t.n }) g2 E λM A p3=>?_;have L:=p3.p.get;have O:=p3.p.lt;by_cases f:Q.c0=3
 .have B:decide (Q.c0=3)=true:=Ws f;rw[Xo f];refine wk ?_;refine AxT Z u m A p3 (λG _ y k=>?_) λG _ y k=>?_;. refine Ab4 (Q':={ Q with Mg:=t.n,Wz:=true }) y k λI z j=>?_;exact Bji Z N a c z j
  .refine Ab4 (Q':={ Q with Mg:=t.n,Wz:=false }) y k λI z j=>?_;exact Bji Z N a c z j
 .have B:decide (Q.c0=3)=false:=Yc f;rw[X2 f];refine wk ?_;exact Bji Z N a c A p3
def Brr{R}{r}(a:Ah h R r):Ah h R (AzK r):=by obtain⟨v,h1,rfl,e,q⟩:=a;exact⟨v,_,rfl,e,q⟩
def B4P(E:Bpj Z)(I:BsV Z)(G:Al5 Z)(A:AlT Z)(M:AsR Z)(O:BcQ Z)(B:Bm3 Z)(J:AsQ Z){f0:L2}{a c:Int}(ha:Num a)(hc:Num c)(x:c≠0)(m:AeZ h)(R1:Q.Oi=V8 a)(g:PX b hm h)(p:PQ b v l (n:Nat) e Q ve vo vm h):
 SQ b v l e hm (A0L l n { Q with Oi:=rmk a c }) (A3q Z N (.ptr b 0) (.fn (.func 44) [] []) (iI c) f0 h):=by
 rw[Bmj];have hg:=p.p.get;have B6:=p.p.lt;have cv:=@Bdx Z;refine wk ?_;rw[Bdx];refine Fj (Brr (E c _ hc (m.gr (Ai.refl h).nl))) λv5 X w l5 T q5=>?_;subst q5;refine Fj (Brr (I a c _ ha hc x ((m.gr (Ai.refl h).nl.nl).gr w.nl))) λv6 k W l6 U q6=>?_;obtain⟨y,rfl⟩:=q6;have w5:wrote h.nx X.lg=[]:=w.quiet;have Y:wrote X.nx k.lg=[]:=W.quiet;have V:Ai h k:=Ai.Rc (Ai.trans w (Ai.Rc W));have p6:=p.gr V;have hg6:=p6.p.get;have S:=p6.p.lt;clear T U;refine wk ?_;refine Acx (Φ:=AdO _ _ _) b b h.nx ?_ λL hL=>?_
 .simp only[Tl,Ww,Ju,G4,Jj];repeat' (refine And.intro ?_ ?_);all_goals first|exact .inl rfl|exact .inl w5|exact .inl Y|(left;simp;done)|skip;have u:∀z∈wrote (Ab k).nx (b::(Ab k).lg),z=b:=λz j=>by have j:=(D4 _ _ _ j).1;simpa using j
  refine .inr ⟨λz j=>.inl (u z j),?_⟩;repeat' (refine And.intro ?_ ?_)
  all_goals first|exact Ar ..|(refine Ax _ _ _ _ _ _ _ _ _ _ _ _ ?_;decide)|exact Dk (tk:=b) u S (.inl rfl)
 .have f:=p6.set (Q':={ Q with Oi:=rmk a c });have gL:PX b h (Be L ((Ab k).put b (Yg v n e 0 (qc { Q with Oi:=rmk a c } ve vo vm)))):=by refine⟨Yg v n e 0 (qc { Q with Oi:=rmk a c } ve vo vm),PG.reL (PG.refl (b:=b) (h:=h) rfl) ?_ λz j=>by rcases hL z j with h1|h1|h1|h1;exact .inl h1;exact .inr (.inl h1);exact .inr (.inl h1);exact .inr (.inr h1)⟩;exact((PG.refl (b:=b) (h:=h) rfl).gr (V.trans (Ai.refl k).nl)).put _
  have p8:PQ b v l n e { Q with Oi:=rmk a c } ve vo vm (Be L ((Ab k).put b (Yg v n e 0 (qc { Q with Oi:=rmk a c } ve vo vm)))):=⟨⟨f.p.get,f.p.lt,f.p.AsD.By ((Bi.refl _).Be L),f.p.av,f.p.one,f.p.i0,f.p.Mu,f.p.ql⟩,?_,f.z⟩;. exact BrV Z N G A M O B J (PX.trans g gL) p8
  .obtain⟨c1,c2,c3⟩:=f.q;have d1:=c1.imp id λz=>And.intro z.1 (z.2.rl (lg:=L));have d2:=Fm.rl (lg:=L) c2;have d3:=c3.imp id λz=>And.intro z.1 (z.2.rl (lg:=L));exact⟨d1,d2,d3⟩
def BlO(l:List Tok)(n:Nat)(Q:Qr)(a:Int):Option (Qr × Nat):=if AfM l (n:Nat) [47]=true then(kAt l (n+1) 3).bind λt=>if t.n=0 then none else A0L l (n+1+1) { Q with Oi:=rmk a t.n }else A0L l n Q
def AxY(l:List Tok)(n:Nat)(Q:Qr):Option (Qr × Nat):=(Aax l n wb).bind λi=>(Aax l i wq).bind λj=>(kAt l j 3).bind λt=>BlO l (j+1) { Q with Oi:=V8 t.n } t.n
def B0Y:Prop:=∀(b:Nat) (v:AV) (l:List Tok) (n:Nat) (e:Int) (Q:Qr) (ve vo vm:AV) (h:H),AeZ h->2<b->PQ b v l (n:Nat) e Q ve vo vm h->AjO l->SQ b v l e h (AxY l n Q) (Z.call 18 [.ptr b 0] h)
def Cc1(u:Bpj Z)(A:BsV Z)(j:Al5 Z)(f:AlT Z)(a:AsR Z)(x:BcQ Z)(w:BfN Z)(g:Bm3 Z)(k:AsQ Z)(m:AeZ h)(I:2<b)(p:PQ b v l (n:Nat) e Q ve vo vm h)(G:AjO l):SQ b v l e h (AxY l n Q) (Ay prog Z N false 18 [.ptr b 0] h):=by
 rw[ByS];refine Ag5 Z a (.refl h) p λh1 _ g1 W=>(Ag5 Z a g1 W λh2 _ g2 T=>A9i Z w g2 T λt h3 U M p3=>?_);have J:=G.at U;refine Fj (u _ _ J (m.px I M)) λv4 h4 L l4 A9W X=>?_;subst X;refine Ab4 (Q':={ Q with Oi:=V8 _ }) (M.gr L) (p3.gr L) λh5 g5 O=>(AxT Z j f g5 O (λY _ y p6=>?_) λY _ y p6=>?_)
 .refine A9 (Fj (g b v l _ e 0 _ _ p6.p) λv7 h7 E l7 AvU S=>?_);obtain⟨at',rfl⟩:=S;refine A9i Z w (y.gr E) (p6.gr E) λc h8 hc B V=>?_;by_cases z:c.n=0;. rw[Xo z];refine wk ?_;exact AmT Z k rfl (by simp) λh9=>B.gr
  .rw[X2 z];exact wk (B4P Z N u A j f a x g k J (G.at hc) z (m.px I B) rfl B V)
 .exact Ba (BrV Z N j f a x g k y p6)
variable {h2:H}
def Ala:List uq:=[ud,wj,tj]
def AkH(l:List Tok)(n:Nat)(Q:Qr):Nat->Nat->Option (Qr × Nat)
|0,_=>none
|k+1,i=>if AfM l (n:Nat) ((Ala[i]?).getD [])=true then some ({ Q with c9:=(i:Int) },n+1)else AkH l n Q k (i+1)
def Bw6(y:Al5 Z)(w:AlT Z)(x:Bm3 Z)(A:AsQ Z)(u:AV):
 ∀(k i m:Nat) (hd:H) (ve vo vm:AV) (f0:L2),i+k=3->k<m->PX b hm hd->PQ b v l (n:Nat) e Q ve vo vm hd->Ig hd u Ala->(∀O off n cap z ex,u=.sl O off n cap z ex->O≠b) ->
  SQ b v l e hm (AkH l n Q k i) (A4o Z N m (.ptr b 0) u (iI 3) (iI i) f0 hd)
 |0,i,m,hd,ve,vo,vm,f0,Y,B,g,p,hu,S=>by obtain⟨m1,rfl⟩:∃m1,m=m1+1:=⟨m-1,by omega⟩;rw[Bm1];have M:decide ((i:Int)<3)=false:=df;refine wk ?_;refine Fj (x b v l n e 0 _ hd p.p) λv5 V e5 l5 W q5=>?_;obtain⟨a,rfl⟩:=q5;exact AmT Z A rfl (by grind) λh6 e6=>g.gr Ex
 |k+1,i,m,hd,ve,vo,vm,f0,Y,B,g,p,hu,S=>by
  obtain⟨m1,rfl⟩:∃m1,m=m1+1:=⟨m-1,by omega⟩;rw[Bm1];have M:decide ((i:Int)<3)=true:=dt;obtain⟨w',j⟩:∃w',Ala[i]?=some w':=⟨_,Oh (show i<Ala.length by simp[Ala];omega)⟩;obtain⟨b1,o1,E⟩:=R0.elem (f:=Aeb) (s:=1) (λ_=>rfl) hu j;have x1:=E.ia;have T:=E.part 0 _ rfl;rw[Vw]at T;clear E;show SQ b v l e hm (if AfM l (n:Nat) ((Ala[i]?).getD [])=true then some ({ Q with c9:=(i:Int) },n+1)else AkH l n Q k (i+1)) _;rw[j,C8];refine wk ?_;by_cases J:AfM l (n:Nat) w'=true;. rw[Xo J];refine zw1 (y b v l n e 0 _ w' hd p.p J) λv1 G c I=>?_;subst I;refine A9 ?_;refine Ab4 (Q':={ Q with c9:=(i:Int) }) (PX.trans g (.of c)) (p.pg c om:PQ b v l ((n+1:Nat):Int) e Q ve vo vm G) λV X U=>?_;exact sqE rfl X U
  .rw[X2 J];refine Fj (w b v l n e 0 _ w' hd p.p (by grind)) λv4 G c l4 L I=>?_;subst I;refine Ba ?_;clear x1 T M L;refine wk ?_;rw[show(i:Int)+1=((i+1:Nat):Int)by rfl];exact Bw6 y w x A u k (i+1) m1 G ve vo vm _ om om (g.gr c) (p.gr c) (hu.gr c) S
def PX.Rc{c}(g:PX b (Ab h) c):PX b h c:=by have⟨X,g⟩:=g;have a:Ai ..:=g;exact⟨X,⟨a.lo,a.Cf,λx f=>(a.lg x f).imp λh1=>by simp_all id⟩⟩
def Bjh{s lo len}{et}{v}{c}(g:Fm s lo et h v len c)(j:b<h.nx)(hn:∀st,h.m.get b≠.Fb st)(a:b<lo)(e:PX b h h1)(f:len=0->v=.Bv):Fm s lo et h1 v len c:=
 e.elim λ_ e=>Azb g j hn a e f
def PX.Aw8(g:PX b hm h2)(c:PX b (Ab h2) h1):PX b hm (Be (Akm h1.lg h2.lg) h1):=by
 have⟨X,g⟩:=g;have⟨X',c⟩:=c;have c:Ai ..:=c;have g2:Ai (hm.put b X') _:=g.put _;refine⟨_,⟨Ol g2.lo c.lo,λx a=>(c.Cf x (Xq a g2.lo)).trans (g2.Cf x a),λx a=>?_⟩⟩;rw[Sx.AfT]at a;rcases W7.1 a with a|a
 .rcases c.lg x a with f|f;. simp_all
  .exact .inr (Ol g2.lo f)
 .rcases g.lg x a with f|f;. simp_all
  simp_all
def B9x{z}{r}(g:PX b hm h)(c:SQ b v l e h z r):SQ b v l e hm z r:=by cases z with
|some x=>obtain⟨f,h1,rfl,h2,a⟩:=c;exact⟨_,_,rfl,PX.trans g h2,a⟩
|none=>obtain⟨f,h1,rfl,h2,a⟩:=c;exact⟨_,_,rfl,h2,PX.trans g a⟩
def BgE(l:List Tok)(n:Nat)(Q:Qr):Option (Qr × Nat):=(Aax l n tq).bind λi=>AkH l i Q 3 0
def Asu(l:List Tok)(Q:Qr):Nat->Nat->List (Int × Int)->Option (Qr × Nat)
|0,_,_=>none
|m+1,n,acc=>if 64<=acc.length then none else(AqM l n).bind λlo=>(Aax l lo.2 [46,46]).bind λi=>(AqM l i).bind λhi=>if AfM l (hi.2:Nat) [44]=true then Asu l Q m (hi.2+1) (acc++[(lo.1,hi.1)])else BgE l hi.2 { Q with ord:=acc++[(lo.1,hi.1)] }
def Bhk(hN:10<N)(Y:BfO Z)(Aff:AsR Z)(Agm:Al5 Z)(Af9:AlT Z)(Bh9:Bm3 Z)(AeU:AsQ Z)(S:b<h.nx)(hcd:Q.code=[])(hmt:Q.E9=[])(hnl:AjO l):∀(m:Nat) (f:List (Int × Int)) (n:Nat) (hd:H) (ve vo vm:AV) (f0:L2) (M:Nat),m<M->65<=f.length+m->f.length<=64->PX b h hd->PQ b v l (n:Nat) e { Q with ord:=f } ve vo vm hd->Fm 2 h.nx 66 hd vo f.length (f.flatMap Zd) ->
 SQ b v l e h (Asu l Q m n f) (A4k Z N M (.ptr b 0) f0 hd):=by
 intro m;induction m with
 |zero=>intro f n hd ve vo vm f0 M hM h65 h64;omega
 |succ m ih=>
 intro f n hd ve vo vm f0 M hM h65 h64 g p hO;obtain⟨M,rfl⟩:∃M',M=M'+1:=⟨M-1,by omega⟩;rw[Bm0];have hg:=p.p.get;have B6:=p.p.lt;have W:∀G,Fo vo G=.ok (iI (f.length:Int)) G:=λ_=>p.q.o.sl.Gs;have hve:ve=.Bv:=by rcases p.q.c with⟨_,h1⟩|⟨h1,_⟩;exact h1;exact absurd hcd h1
 have hvm:vm=.Bv:=by rcases p.q.m with⟨_,h1⟩|⟨h1,_⟩;exact h1;exact absurd hmt h1
 have hz0:=p.z;subst hve;subst hvm;by_cases hac:64<=f.length
 .have k1:decide ((64:Int)<=(f.length:Int))=true:=dt;have k:Asu l Q (m+1) n f=none:=Xo hac;rw[k];refine wk ?_;refine Fj (Bh9 b v l n e 0 _ hd p.p) λv5 h5 e5 l5 Az4 q5=>?_;obtain⟨a,rfl⟩:=q5;exact AmT Z AeU rfl fe λh6 T=>g.gr Ex
 have k1:decide ((64:Int)<=(f.length:Int))=false:=df;have k:Asu l Q (m+1) n f=(AqM l n).bind λlo=>(Aax l lo.2 [46,46]).bind λi=>(AqM l i).bind λhi=>if AfM l (hi.2:Nat) [44]=true then Asu l Q m (hi.2+1) (f++[(lo.1,hi.1)])else BgE l hi.2 { Q with ord:=f++[(lo.1,hi.1)] }:=X2 hac;rw[k];refine wk ?_;rw[Bmo];clear W k1 hg;refine AdL (Y b v l n e 0 _ hd p.p hnl) (λk v1 h1 I hf=>Ac6 (by rw[k];rfl) I (PX.trans g hf)) λlo v2 h2 hz2 hp2=>?_;obtain⟨e2,rfl⟩:=hp2;have p2:PQ b v l (lo.2:Nat) e { Q with ord:=f } .Bv vo .Bv h2:=p.pg e2 om;have g2:PX b hd h2:=.of e2;rw[hz2];simp only[Yr];refine AdL (Aff b v l lo.2 e 0 _ _ h2 p2.p) (λk v1 h1 I hf=>Ac6 (by rw[k];rfl) I (PX.trans g (PX.trans g2 hf))) λi v3 w hz3 hp3=>?_;obtain⟨e3,rfl⟩:=hp3;have p3:PQ b v l (i:Nat) e { Q with ord:=f } .Bv vo .Bv w:=p2.pg e3 om;have O:PX b hd w:=PX.trans g2 (.of e3);rw[hz3];simp only[Yr];have E:=p3.p.get;have Bvt:=p3.p.lt;refine wk ?_;refine BsL (Y b v l i e 0 _ (Ab (Ab w)) (p3.p.gr (Ai.refl w).nl) hnl) (λk v1 h1 I hf=>Ac6 (by rw[k];rfl) I (PX.Aw8 (PX.trans g O) hf)) λhi v4 u hz4 hp4=>?_;obtain⟨y,j⟩:=hi;obtain⟨e4,rfl⟩:=hp4;have p4:PQ b v l (j:Nat) e { Q with ord:=f } .Bv vo .Bv u:=(p3.gr (Ai.refl w).nl).pg e4 om;have g4:PX b (Ab (Ab w)) u:=.of e4;have B:PX b hd u:=PX.trans O (PX.Rc (PX.Rc g4));rw[hz4];simp only[Yr];have J:=p4.p.get;have Bvu:=p4.p.lt;have B9i:=B.elim λ_ g=>g.lo;have hnh:=g.elim λ_ g=>g.lo;have o4:=Bjh hO p.p.lt p.p.Atm S B hz0;refine wk ?_;have V:Ai u (Ab ((Ab u).new (cz [iI lo.1,iI y] 66))):=((Ai.refl u).nl.new _).nl;have oN:=o4.gr V;have Z3:Sl 2 (Ab ((Ab u).new (cz [iI lo.1,iI y] 66))) (.sl u.nx 0 1 1 2 true) 1 [iI lo.1,iI y]:=(Sl.lit (h:=Ab u) (Bf _) rfl rfl).gr (Ai.refl _).nl;obtain⟨v',h',q1,q2,q3,q4,q5⟩:=Fm.AbQ (bytes:=16) (lo:=h.nx) oN Z3.src (by rfl) om (by rfl) (by show h.nx<=u.nx+1;omega)
 have gP:h'.m.get b=Yg v ((j:Nat):Int) e 0 (qc { Q with ord:=f } .Bv vo .Bv):=by rw[q5 b S,V.Cf b Bvu];exact J
 have wP:∀x∈h'.lg,h.nx<=x:=by
  have g0:Ai ⟨u.m,h.nx,[]⟩ (Ab ((Ab u).new (cz [iI lo.1,iI y] 66))):=(Ai.new (h:=⟨u.m,h.nx,[]⟩) (h1:=Ab u) ⟨by show h.nx<=u.nx;omega,λb S=>rfl,λx A=>by cases A⟩ _).nl
  intro x A;rcases(q3 ⟨u.m,h.nx,[]⟩ (Ye _) g0).lg x A with w|w
  .cases w
  .exact w
 have lP:u.nx+1<=h'.nx:=q2.lo;have w4:∀x∈wrote w.nx u.lg,x=b:=by obtain⟨X,gX⟩:=g4;exact PG.wrote (h:=Ab w) gX
 have gh':PX b h h':=by obtain⟨X,gX⟩:=PX.trans g B;exact⟨X,q3 (h.put b X) (Ye _) (Ai.trans gX V)⟩
 have p':PsR b v l ((j:Nat):Int) e 0 (qc { Q with ord:=f } .Bv vo .Bv) h':=(p4.p.gr V).kp q2 (gP.trans (by rw[V.Cf b Bvu];exact J.symm));obtain⟨r1,r2⟩:=B2 q4.sl;refine Ey q1 ?_;have A8G:=p'.lt;clear q1;refine wk ?_;refine Acx (Φ:=AdO _ _ _) b b h.nx ?_ λL hL=>?_
 .simp only[Tl,Ww,Ju,G4,Jj];repeat' (refine And.intro ?_ ?_)
  all_goals first|(left;rfl)|(left;simp;done)|(refine .inr ⟨λx A=>?_,?_⟩;(focus first|exact .inl (w4 x A)|(refine .inr (.inr ?_);exact wP _ (D4 _ _ _ A).1)|(refine .inr (.inl ?_);have k:=(D4 _ _ _ A).1;simp at k;exact k));(repeat' (refine And.intro ?_ ?_));all_goals first|(exact Ar ..)|(refine Ax _ _ _ _ _ _ _ _ _ _ _ _ ?_;decide)|exact Ci ..|exact Dk (tk:=b) w4 Ce (.inl rfl)|exact BmD (tk:=b) (v:=vo) w4 Ce (by show cellAt (w.m.get b) _ _=_;rw[E];rfl) (by show cellAt (w.m.get b) _ _=cellAt (u.m.get b) _ _;rw[E,J];rfl) (Jh B5 E))
 .generalize hE:Be L _=k;have pP:PQ b v l ((j:Nat):Int) e { Q with ord:=f++[(lo.1,y)] } .Bv v' .Bv k/\Fm 2 h.nx 66 k v' (f++[(lo.1,y)]).length ((f++[(lo.1,y)]).flatMap Zd)/\PX b h k:=by
   rw[<- hE];have f2:PG b (Yg v ((j:Nat):Int) e 0 (qc { Q with ord:=f++[(lo.1,y)] } .Bv v' .Bv)) (Ab h') ((Ab h').put b (Yg v ((j:Nat):Int) e 0 (qc { Q with ord:=f++[(lo.1,y)] } .Bv v' .Bv))):=(PG.refl rfl).put _;have pn:PsR b v l ((j:Nat):Int) e 0 (qc { Q with ord:=f } .Bv vo .Bv) (Ab h'):=p'.gr (Ai.refl h').nl;have pF:=(pn.pg f2 om rfl).reL L;have e1:(f++[(lo.1,y)]).length=f.length+1:=by simp
   have e2:(f++[(lo.1,y)]).flatMap Zd=f.flatMap Zd++[iI lo.1,iI y]:=by simp[V5]
   have oF:Fm 2 h.nx 66 (Be L ((Ab h').put b (Yg v ((j:Nat):Int) e 0 (qc { Q with ord:=f++[(lo.1,y)] } .Bv v' .Bv)))) v' (f++[(lo.1,y)]).length ((f++[(lo.1,y)]).flatMap Zd):=by rw[e1,e2];exact Fm.rl (Azb (q4.gr (Ai.refl h').nl) pn.lt pn.Atm S f2 (λG=>by omega))
   refine⟨⟨pF,⟨.inl ⟨hcd,rfl⟩,Yp oF S,.inl ⟨hmt,rfl⟩⟩,λG=>by rw[e1]at G;omega⟩,oF,?_⟩;obtain⟨X,gX⟩:=PX.trans g O;obtain⟨X',gX'⟩:=gh';refine⟨Yg v ((j:Nat):Int) e 0 (qc { Q with ord:=f++[(lo.1,y)] } .Bv v' .Bv),PG.reL gX ((gX'.gr (Ai.refl h').nl).put _) λz k=>?_⟩;rcases hL z k with h1|h1|h1|h1
   .exact .inl h1
   .exact .inr (.inl h1)
   .exact .inr (.inl h1)
   .exact .inr (.inr h1)
  obtain⟨U,oZ,gZ⟩:=pP;clear hE hL p' gh' wP gP q5 q3 q2 oN V Z3 w4 p4 p3 p2 p;by_cases hs:AfM l (j:Nat) [44]=true
  .rw[Xo hs];refine zw1 (Agm b v l j e 0 _ [44] k U.p hs) λv1 h6 T q6=>?_;subst q6;have g6:PX b k h6:=.of T;have p6:PQ b v l ((j+1:Nat):Int) e { Q with ord:=f++[(lo.1,y)] } .Bv v' .Bv h6:=U.pg T om;have oG:=Bjh oZ U.p.lt U.p.Atm S g6 (λG=>by simp at G);refine wk ?_;exact ih (f++[(lo.1,y)]) (j+1) h6 .Bv v' .Bv _ M om (by rw[Yl];show 65<=f.length+1+m;omega) (by rw[Yl];show f.length+1<=64;omega) (PX.trans gZ g6) p6 oG
  .rw[X2 hs];refine Fj (Af9 b v l j e 0 _ [44] k U.p (by simpa using hs)) λv6 h6 T l6 Axm q6=>?_;subst q6;have p6:=U.gr T;have g6:=gZ.gr T;clear Axm;refine wk ?_;refine Ag5 Z Aff g6 p6 λh7 _ g7 p7=>?_;have hl7:=p7.p.lt;refine wk ?_;have hx1:Ig (h7.new (cz [.str ud,.str wj,.str tj] 9)) (.sl h7.nx 0 3 3 1 true) Ala:=Sl.lit (h:=h7) (Bf _) rfl rfl;have hx2:∀b' off n' cap z ex,AV.sl h7.nx 0 3 3 1 true=.sl b' off n' cap z ex->b'≠b:=λb' off n' cap z ex I=>by cases I;omega
   exact Bw6 Z N Agm Af9 Bh9 AeU (.sl h7.nx 0 3 3 1 true) 3 0 N _ .Bv v' .Bv _ om om (g7.gr Ex) (p7.gr Ex) hx1 hx2
def BcZ(l:List Tok)(n:Nat)(Q:Qr):Option (Qr × Nat):=(AlC l n Q 10).bind λx=>Asu l x.1 65 x.2 []
def CcB(S:100<N)(j:BcW Z)(a:BfO Z)(m:AsR Z)(g:Al5 Z)(c:AlT Z)(f:Bm3 Z)(k:AsQ Z)(p:PQ b v l n e Q ve vo vm h)(E:Q.code=[])(y:Q.E9=[])(I:Q.ord=[])(B:AjO l):
 SQ b v l e h (BcZ l n Q) (Ay prog Z N false 37 [.ptr b 0] h):=by
 rw[Bzn];unfold BcZ;refine AdL (j b v l n e Q _ _ _ h _ p) (λw L h1=>Ac6 (by grind)) λx L h1 w M=>?_;obtain⟨g1,⟨ve,vo,vm,A⟩,rfl⟩:=M;rw[w];obtain⟨t,rfl⟩:∃t:Tok,x=({ Q with c0:=10,s6:=t.t },n+1):=by unfold AlC at w;cases O:kAt l n 1 with
  |none=>grind
  |some t=>grind
 have u:=A.z (by simp_all);subst u;have J:{ { Q with c0:=10,s6:=t.t }with ord:=[] }={ Q with c0:=10,s6:=t.t }:=by simp_all
 have G:=Bhk Z N om a m g c f k (Q:={ Q with c0:=10,s6:=t.t }) (e:=e) (v:=v) A.p.lt E y B 65 [] (n+1) _ ve .Bv vm (fz Az [5,6] [.ptr b 0,.Bj []]) N om (by grind) (by simp) (PX.refl _);rw[J]at G;refine B9x g1 (G A (Fm.nil ..))
def kdW:List (uq × FuncId):=[(uy,28),(ul,29),(uv,30),(ub,31),(uj,32),(um,33),(us,34),(wy,35),(uc,36),(wh,37)]
abbrev kdE(n:Nat):List (AV × AV):=(kdW.take n).map λp=>(.str p.1,.fn (.func p.2) [] [])
abbrev kS(k:uq)(g:FuncId)(es:List (AV × AV)):Option (List (AV × AV)):=Z7 (Gy prog 9 (.str k)) (.str k) (.fn (.func g) [] []) es
def ks0:kS uy 28 []=some [(.str uy,.fn (.func 28) [] [])]:=rfl
def ks1:kS ul 29 [(.str uy,.fn (.func 28) [] [])]=some [(.str uy,.fn (.func 28) [] []),(.str ul,.fn (.func 29) [] [])]:=rfl
def ks2:kS uv 30 [(.str uy,.fn (.func 28) [] []),(.str ul,.fn (.func 29) [] [])]=some [(.str uy,.fn (.func 28) [] []),(.str ul,.fn (.func 29) [] []),(.str uv,.fn (.func 30) [] [])]:=rfl
def ks3:kS ub 31 [(.str uy,.fn (.func 28) [] []),(.str ul,.fn (.func 29) [] []),(.str uv,.fn (.func 30) [] [])]=some [(.str uy,.fn (.func 28) [] []),(.str ul,.fn (.func 29) [] []),(.str uv,.fn (.func 30) [] []),(.str ub,.fn (.func 31) [] [])]:=rfl
def ks4:kS uj 32 [(.str uy,.fn (.func 28) [] []),(.str ul,.fn (.func 29) [] []),(.str uv,.fn (.func 30) [] []),(.str ub,.fn (.func 31) [] [])]=some [(.str uy,.fn (.func 28) [] []),(.str ul,.fn (.func 29) [] []),(.str uv,.fn (.func 30) [] []),(.str ub,.fn (.func 31) [] []),(.str uj,.fn (.func 32) [] [])]:=rfl
def ks5:kS um 33 [(.str uy,.fn (.func 28) [] []),(.str ul,.fn (.func 29) [] []),(.str uv,.fn (.func 30) [] []),(.str ub,.fn (.func 31) [] []),(.str uj,.fn (.func 32) [] [])]=some [(.str uy,.fn (.func 28) [] []),(.str ul,.fn (.func 29) [] []),(.str uv,.fn (.func 30) [] []),(.str ub,.fn (.func 31) [] []),(.str uj,.fn (.func 32) [] []),(.str um,.fn (.func 33) [] [])]:=rfl
def ks6:kS us 34 [(.str uy,.fn (.func 28) [] []),(.str ul,.fn (.func 29) [] []),(.str uv,.fn (.func 30) [] []),(.str ub,.fn (.func 31) [] []),(.str uj,.fn (.func 32) [] []),(.str um,.fn (.func 33) [] [])]=some [(.str uy,.fn (.func 28) [] []),(.str ul,.fn (.func 29) [] []),(.str uv,.fn (.func 30) [] []),(.str ub,.fn (.func 31) [] []),(.str uj,.fn (.func 32) [] []),(.str um,.fn (.func 33) [] []),(.str us,.fn (.func 34) [] [])]:=rfl
def ks7:kS wy 35 [(.str uy,.fn (.func 28) [] []),(.str ul,.fn (.func 29) [] []),(.str uv,.fn (.func 30) [] []),(.str ub,.fn (.func 31) [] []),(.str uj,.fn (.func 32) [] []),(.str um,.fn (.func 33) [] []),(.str us,.fn (.func 34) [] [])]=some [(.str uy,.fn (.func 28) [] []),(.str ul,.fn (.func 29) [] []),(.str uv,.fn (.func 30) [] []),(.str ub,.fn (.func 31) [] []),(.str uj,.fn (.func 32) [] []),(.str um,.fn (.func 33) [] []),(.str us,.fn (.func 34) [] []),(.str wy,.fn (.func 35) [] [])]:=rfl
def ks8:kS uc 36 [(.str uy,.fn (.func 28) [] []),(.str ul,.fn (.func 29) [] []),(.str uv,.fn (.func 30) [] []),(.str ub,.fn (.func 31) [] []),(.str uj,.fn (.func 32) [] []),(.str um,.fn (.func 33) [] []),(.str us,.fn (.func 34) [] []),(.str wy,.fn (.func 35) [] [])]=some [(.str uy,.fn (.func 28) [] []),(.str ul,.fn (.func 29) [] []),(.str uv,.fn (.func 30) [] []),(.str ub,.fn (.func 31) [] []),(.str uj,.fn (.func 32) [] []),(.str um,.fn (.func 33) [] []),(.str us,.fn (.func 34) [] []),(.str wy,.fn (.func 35) [] []),(.str uc,.fn (.func 36) [] [])]:=rfl
def ks9:kS wh 37 [(.str uy,.fn (.func 28) [] []),(.str ul,.fn (.func 29) [] []),(.str uv,.fn (.func 30) [] []),(.str ub,.fn (.func 31) [] []),(.str uj,.fn (.func 32) [] []),(.str um,.fn (.func 33) [] []),(.str us,.fn (.func 34) [] []),(.str wy,.fn (.func 35) [] []),(.str uc,.fn (.func 36) [] [])]=some [(.str uy,.fn (.func 28) [] []),(.str ul,.fn (.func 29) [] []),(.str uv,.fn (.func 30) [] []),(.str ub,.fn (.func 31) [] []),(.str uj,.fn (.func 32) [] []),(.str um,.fn (.func 33) [] []),(.str us,.fn (.func 34) [] []),(.str wy,.fn (.func 35) [] []),(.str uc,.fn (.func 36) [] []),(.str wh,.fn (.func 37) [] [])]:=rfl
def Bt6:Prop:=∀(h:H),Ah h (λr h1=>∃m,r=.map m/\h1.m.get m=.map (kdE 10)/\h.nx<=m/\m<h1.nx) (Z.call 14 [] h)
def B2y:Ah h (λr h1=>∃m,r=.map m/\h1.m.get m=.map (kdE 10)/\h.nx<=m/\m<h1.nx) (mr Z N 14 [] h):=by rw[ByP];have z0:=ks0;have z1:=ks1;have c:=ks2;have u:=ks3;have f:=ks4;have p:=ks5;have j:=ks6;have k:=ks7;have a:=ks8;have g:=ks9;refine wk ?_;refine zr Ex ⟨_,rfl,?_,Ye _,Ce⟩;simp(disch:=rfl) [kdE,kdW]
def kdF:List (uq × FuncId)->uq->Option FuncId
|[],_=>none
|p::r,t=>if t=p.1 then some p.2 else kdF r t
def Bbf t:∀r,M1 (Gy prog 9 (.str t)) (r.map λp=>(.str p.1,.fn (.func p.2) [] []))=some ((kdF r t).map λg=>.fn (.func g) [] [])
|[]=>rfl
|p::r=>by have a:=Bbf t r;unfold M1 kdF;simp[ke9];grind
def A8y{g}{t}:∀{r},kdF r t=some g->(t,g)∈r
|[],h=>by cases h
|p::r,h=>by
 unfold kdF at h;split at h;. grind
 .exact Vo _ (A8y h)
def bdk:∀p∈kdW,Bg prog p.2=true:=by decide +kernel
def z0:Qr:=⟨0,[],0,0,0,0,[],0,[],0,false,[],0,[],[],[],0,[],[],0⟩
def AzC(l:List Tok)(n:Nat)(g:FuncId):Option (Qr × Nat):=
 if g=28 then some ({ z0 with c0:=1 },n)else if g=29 then Avi l n z0 2 else if g=30 then AlC l n z0 3 else if g=31 then BgC l n z0 else if g=32 then Bg4 l n z0
 else if g=33 then AlC l n z0 6 else if g=34 then BfP l n z0 else if g=35 then AlC l n z0 8 else if g=36 then AlC l n z0 9 else BcZ l n z0
def B1l:Prop:=∀p∈kdW,∀(b:Nat) (v:AV) (l:List Tok) (n:Nat) (e:Int) (ve vo vm:AV) (h:H),PQ b v l (n:Nat) e z0 ve vo vm h->AjO l->SQ b v l e h (AzC l n p.2) (Z.call p.2 [.ptr b 0] h)
variable {C:Nat->Ac}{D:Nat}
def Bg3(U:Abu C)(hd:4<=D):BcW (C D):=by obtain⟨e,rfl,a⟩:=Wr hd;exact λb v l n c Q ve vo vm h k p=>upE U (CcN _ _ (BnF U a) p)
def Buj:Bg prog 102=true:=rfl
def Bui:Bg prog 43=true:=rfl
def B5r(U:Abu C)(hd:72060<=D):SL (λb h=>(C D).call 42 [.ptr b 0,.fn (.func 102) [.ptr b 0] []] h) .ex:=by obtain⟨e,rfl,a⟩:=Wr hd;exact λb v l n c q h p=>upE U (B5E _ _ Buj (Bnv U om) (A57 U om) (λm hm=>(Bqz U m e om).ex) b v l n _ q h p)
def B5q(U:Abu C)(hd:72060<=D):SL (λb h=>(C D).call 42 [.ptr b 0,.fn (.func 43) [.ptr b 0] []] h) .cd:=by obtain⟨e,rfl,a⟩:=Wr hd;exact λb v l n c q h p=>upE U (B5E _ _ Bui (Bnv U om) (A57 U om) (λm hm=>(Bqz U m e om).cd) b v l n _ q h p)
def BxD(U:Abu C)(hd:72061<=D):BlA (C D):=by obtain⟨e,rfl,a⟩:=Wr hd;exact λb v l n f Q ve vo vm h k p c=>upE U (CcM _ _ (A8T U om) (BxE U om) (B5r U a) p c)
def Cb8(U:Abu C)(hd:72061<=D):B0X (C D):=by obtain⟨e,rfl,a⟩:=Wr hd;exact λb v l n c Q ve vo vm h p=>upE U (Cc0 _ _ (A8D U om) (BdX U om) (A8T U om) (BnF U om) (B5p U om) (B5q U a) p)
def CbD(U:Abu C)(hd:72062<=D):B1l (C D):=by
 obtain⟨e,rfl,c⟩:=Wr hd;intro p f b v l n g ve vo vm h P a;simp only[kdW,Tu,Ww,Oq]at f;rcases f with rfl|rfl|rfl|rfl|rfl|rfl|rfl|rfl|rfl|rfl;. exact upE U (Cc2 _ _ P)
 .exact upE U (Cc3 _ _ (BxD U c) P a)
 .exact upE U (Cc4 _ _ (Bg3 U om) P)
 .exact upE U (Cc5 _ _ (A8T U om) (BnF U om) (BxD U c) P a)
 .exact upE U (Cc6 _ _ (A8T U om) (BnG U om) (BxD U c) P a)
 .exact upE U (Cc7 _ _ (Bg3 U om) P)
 .exact upE U (Cc8 _ _ (Bg3 U om) (BxE U om) P a)
 .exact upE U (Cc9 _ _ (Bg3 U om) P)
 .exact upE U (CcA _ _ (Bg3 U om) P)
 .exact upE U (CcB _ _ fe (Bg3 U om) (BxE U om) (A8T U om) (A8D U om) (BdX U om) (Bnv U om) (A57 U om) P rfl rfl rfl a)
end Go.Proofs
namespace Go.Proofs
open Go Go.Ev Go.Nm Tryz Go.Ev.Sx
section
variable {α:Type}{P:α->AV->H->Prop}{F:H->Prop}{z1:Option α}{r:OR}{kk ee:AV->H->OR}{h:H}{R:AV->H->Prop}
def BjU{Φ:OR->Prop}(a:AdO P F z1 r)(c:z1=none->∀v h1,Aoj v->F h1->Φ (ee v h1))(g:∀x v h1,z1=some x->P x v h1->Φ (kk v h1)):Φ (Ars r ee kk):=by cases z1 with
|some x=>obtain⟨v,h1,rfl,h2⟩:=a;exact g x v _ rfl h2
|none=>obtain⟨v,h1,rfl,h2,f⟩:=a;exact c rfl v _ h2 f
def BjS{Φ:OR->Prop}(c:Ah h R r)(a:∀v h1,Ai h h1->R v h1->Φ (kk v h1)):Φ (Ars r ee kk):=by obtain⟨v,h1,rfl,e,hq⟩:=c;exact a v _ e hq
def B6b{Φ:OR->Prop}(c:A3Y h R r)(a:∀v h1,Ai h h1->R v h1->Φ (ee v h1)):Φ (Ars r ee kk):=by obtain⟨v,h1,rfl,e,hq⟩:=c;exact a v _ e hq
end
attribute [local irreducible] Aa Al Af Ad Ars
variable (Z cx:Ac)(N:Nat)
variable {b:Nat}{v:AV}{l:List Tok}{i e o:Int}{q:uw}{h h1:H}{n d:Nat}{t:Tr}{Q:Qr}{ve vo vm:AV}
def BnC{h}{a b}{j tb}{ca cb}{na nb}(g:h.m.get a=cz ca j)(p:h.m.get b=cz cb tb)(k:na=ca.length)(lb:nb=cb.length):Vk [.c (some (some na)) (.ptr a 0),.c (some (some nb)) (.ptr b 0)] h=.ok (.Bj [.agg ca,.agg cb]) h:=by
 have f:∀{c} {t} {cs:List _} {m},h.m.get c=cz _ t->m=cs.length->AyY (some (some m)) (.ptr c 0) h=some _:=λ{c t cs m} hc hm=>by show(match h.rd c with|some c=>Tn _ c 0|none=>none)=some _;rw[(by rw[AaS,hc];rfl:h.rd c=some cs)];show(Nf _ 0 m).map _=_;rw[E5,Xo om,hm,Cp,cg];rfl
 show(match match AyY _ _ h,match AyY _ _ h,(some _:Option uw)with|some v,some l=>some _|_,_=>none with|some v,some l=>some (v::l)|_,_=>none with|some l=>OR.ok _ h|none=>.bad _)=_;rw[f g k,f p lb];rfl
def QL.pga{a}{X}(k:QL b h Q ve vo vm)(j:a<b+1)(f:a<h.nx)(hn:∀st,h.m.get a≠.Fb st)(p:Q.ord.length=0->vo=.Bv)(g:PG a X h h1):QL b h1 Q ve vo vm:=
 ⟨k.c.imp id λ⟨x,y⟩=>⟨x,y.pg x f hn j g⟩,Azb k.o f hn j g p,k.m.imp id λ⟨x,y⟩=>⟨x,y.pg x f hn j g⟩⟩
def QL.qv(k:QL b h Q ve vo vm):QV h Q ve vo vm:=by
 refine⟨?_,k.o.sl,?_⟩
 .rcases k.c with⟨hc,rfl⟩|⟨_,a⟩;. rw[hc];exact .inl ⟨rfl,rfl,rfl⟩
  .exact a.sl
 .rcases k.m with⟨hc,rfl⟩|⟨_,a⟩;. rw[hc];exact .inl ⟨rfl,rfl,rfl⟩
  .exact a.sl
def B5v{A B:Nat}{e a:Int}(y:h.m.get A=cz zq 27)(w:h.m.get B=cz [iI 0,iI 0] 30)(f:A≠B)(z:A<h.nx)(I:B<h.nx):
 Ah H0 (λr h1=>r=.Bj []/\Ai ((h.put A (cz zq 27)).put B (cz [iI e,iI a] 30)) h1) (A7u prog Z N false 12 [.ptr A 0,.ptr B 0] (.I6 42 (.agg [iI e,iI a])) h):=by
 rw[B5B];have z1:∀g:H,xTA (.agg [iI 0,iI 0]) 42 true (.I6 42 (.agg [iI e,iI a])) g=.ok (.Bj [.agg [iI e,iI a],uz]) g:=λg=>rfl;have k:B≠A:=λg=>f g.symm;refine wk ?_;refine Acx (Φ:=Ah _ _) A B h.nx ?_ λL E=>?_
 .have p:∀x∈wrote (h.nx+1) [A],x=A:=λx c=>by have j:=(D4 _ _ _ c).1;simpa using j
  have G:∀x∈wrote (h.nx+1) [B],x=B:=λx c=>by have j:=(D4 _ _ _ c).1;simpa using j
  have cl:B5 (((h.new (cz [iI 0,iI 0] 42)).put h.nx (cz [iI e,iI a] 42)).m.get h.nx)=none:=by rw[A2];rfl
  simp only[Tl,Ww,Ju,G4,Jj];refine⟨.inr ⟨λx c=>.inr (.inl (G x c)),?_⟩,.inr ⟨λx c=>.inl (p x c),?_⟩,.inl rfl,.inl trivial⟩;all_goals
   repeat' (refine And.intro ?_ ?_)
  all_goals first|exact Ar ..|(refine Ax _ _ _ _ _ _ _ _ _ _ _ _ ?_;decide)|exact Dk (tk:=A) p (Sa z) (.inr ⟨h.nx,_,_,rfl,by omega,cl⟩)|exact Ci ..
 .refine zr (Ed _) ⟨rfl,?_⟩;have u:Ai h ((h.new (cz [iI 0,iI 0] 42)).put h.nx (cz [iI e,iI a] 42)):=Ex;have e1:PG2 A (cz zq 27) B (cz [iI 0,iI 0] 30) h ((h.new (cz [iI 0,iI 0] 42)).put h.nx (cz [iI e,iI a] 42)):=(PG.refl ((Aq _ _ _ k).trans w)).gr ((PG.refl y).gr u);exact PG2.reL e1 (PG2.Bwz ((PG2.To (e1.gr (Ai.refl _).nl) f _).gr (Ai.refl _).nl)) E
def Bj0{A B}{u}(w:h.m.get A=cz zq 27)(k:h.m.get B=cz [iI 0,iI 0] 30)(c:A≠B)(f:A<h.nx)(g:B<h.nx)(p:Aoj u):
 ∃e a:Int,e≠0/\∃h1,A5B Z (.ptr A 0) (.ptr B 0) u h=.ok (.Bj [.agg zq,.agg [iI e,iI a]]) h1/\Ai ((h.put A (cz zq 27)).put B (cz [iI e,iI a] 30)) h1:=by obtain⟨e,a,rfl,j⟩:=p;obtain⟨r,h1,e1,_,rfl,g1⟩:=B5v Z 1 w k c f g;refine⟨e,a,j,_,?_,g1⟩;unfold A5B;rw[A7v (by simp) e1];show @Bool.rec (λ_=>OR) _ (@Bool.rec (λ_=>OR) _ ..) _=_;rw[(br g1.lo:Nat.ble h.nx _=true),br (Ye _),(by kernel_rfl:Gg _ _ ..=Vk ..)];exact BnC (by rw[g1.Cf A f,Aq _ _ _ c,A2]) (by rw[g1.Cf B g,A2]) rfl rfl
variable {s:uq}
def Bt5:Prop:=∀(a b:Nat) (h:H),Ah h (λr _=>r=.Bj []) (Z.call 12 [.ptr a 0,.ptr b 0] h)
def B2w a b:Ah h (λr _=>r=.Bj []) (mr Z N 12 [.ptr a 0,.ptr b 0] h):=by rw[ByN];have z1:∀c,xTA (.agg [iI 0,iI 0]) 42 true .B3 c=.ok ..:=λc=>rfl;have f:∀c,Aj prog .neq 20 true .B3 .B3 c=.ok ..:=λc=>rfl;refine wk ?_;exact zr Ex rfl
def A0b(l:List Tok):Option (Qr × Nat):=(kdF kdW ((kAt l 0 2).getD AiM).t).bind λg=>(AzC l 1 g).bind λx=>(A0f l x.2 x.1).bind λy=>AxY l y.2 y.1
def EG(h:H):Prop:=∃t v,h.m.get 4=cz [.I6 t v] 102/\4<h.nx
def EG.gr(k:EG h)(g:Ai h h1):EG h1:=by have⟨t,x,a,k2⟩:=k;exact⟨t,x,(g.Cf 4 k2).trans a,Xq k2 g.lo⟩
def B0W(s:uq)(Ky:Prop)(W:List Tok->Prop):Prop:=∀(h:H),S0 h->EG h->Ah h (λr h1=>(Ky/\∃e a:Int,e≠0/\r=.Bj [.Bv,.agg [iI e,iI a]]) \/
 ∃v l et,r=.Bj [v,.agg [iI 0,iI 0]]/\Fm 4 h.nx et h1 v l.length (l.flatMap Aez)/\(l.length=0->v=.Bv)/\W l) (Z.call 11 [.str s] h)
def Par(Ky:Prop)(W:List Tok->Prop)(r:AV)(h1:H):Prop:=((Ky\/∃l,W l/\A0b l=none)/\∃e a:Int,e≠0/\r=.Bj [.agg zq,.agg [iI e,iI a]]) \/
 ∃l Q n ve vo vm,W l/\A0b l=some (Q,n)/\r=.Bj [.agg (qc Q ve vo vm),.agg [iI 0,iI 0]]/\QV h1 Q ve vo vm
def s62{Ky:Prop}{W:List Tok->Prop}(hW:∀l,W l->AjO l/\l.length<=2000)(Bh8:B0W Z s Ky W)(B0q:Bt5 Z)(AiY:AsK Z)(B0r:Bt6 Z)(AeU:AsQ Z)(Bh9:Bm3 Z)(hK:B1l Z)(BuT:B0X Z)(BuU:B0Y Z)(hpg:AeZ h)(hG:S0 h)(hE:EG h):
 Ah h (Par Ky W) (A7x prog Z 5 [.str s] h):=by
 rw[Ccv];refine wk ?_;refine BjS (Bh8 _ (hG.By (Ai.keeps Ex)) (hE.gr Ex)) λv1 h2 e2 q2=>?_;have l2:=e2.lo;have Aae:=e2.Cf;simp only[C9]at l2;have kq2:h2.m.get h.nx=cz zq 27:=by rw[Aae h.nx ml];simp(disch:=first|exact Ce|fail)
 have kf2:h2.m.get (h.nx+1)=cz [iI 0,iI 0] 30:=by rw[Aae (h.nx+1) ml];simp(disch:=first|exact Ce|fail)
 have gx:Ai h h2:=Ai.trans Ex e2;rcases q2 with⟨hF,E,at',he,rfl⟩|⟨v,l,et,rfl,Z3,G,hw⟩
 .clear Aae;have k1:decide (E=0)=false:=Yc he;refine wk ?_;have gB:Ai h (h2.put (h.nx+1) (cz [iI E,iI at'] 30)):=gx.put _ _ om;refine Acx (Φ:=Ah _ _) h.nx (h.nx+1) h.nx ?_ λL hL=>?_
  .have wA:∀x∈wrote h2.nx [h.nx],x=h.nx:=λx A=>by have G:=(D4 _ _ _ A).1;simpa using G
   have wB:∀x∈wrote h2.nx [h.nx+1],x=h.nx+1:=λx A=>by have G:=(D4 _ _ _ A).1;simpa using G
   have cl:B5 ((h2.put (h.nx+1) (cz [iI E,iI at'] 30)).m.get (h.nx+1))=none:=by rw[A2];rfl
   simp only[Tl,Ww,Ju,G4,Jj];refine⟨.inr ⟨λx A=>.inr (.inl (wB x A)),?_⟩,.inr ⟨λx A=>.inl (wA x A),?_⟩,.inl rfl,.inl trivial⟩;all_goals
    repeat' (refine And.intro ?_ ?_)
   all_goals first|exact Ar ..|(refine Ax _ _ _ _ _ _ _ _ _ _ _ _ ?_;decide)|exact Dk (tk:=h.nx) wA (by show h.nx<h2.nx;omega) (.inr ⟨h.nx+1,_,_,rfl,by omega,cl⟩)|exact Ci ..
  .have gE:Ai h ((Ab ((Ab (h2.put (h.nx+1) (cz [iI E,iI at'] 30))).put h.nx (cz zq 27))).put (h.nx+1) (cz [iI E,iI at'] 30)):=((gB.nl.put _ _ (Ye _)).nl).put _ _ om;have gZ:Ai h (Be L ((Ab ((Ab (h2.put (h.nx+1) (cz [iI E,iI at'] 30))).put h.nx (cz zq 27))).put (h.nx+1) (cz [iI E,iI at'] 30))):=⟨gE.lo,gE.Cf,λx A=>by
    rcases hL x A with M|rfl|rfl|M
    .exact gB.lg x M
    .exact .inr (Ye _)
    .exact .inr (U3 _)
    .exact .inr M⟩
   have kA:(Be L ((Ab ((Ab (h2.put (h.nx+1) (cz [iI E,iI at'] 30))).put h.nx (cz zq 27))).put (h.nx+1) (cz [iI E,iI at'] 30))).m.get h.nx=cz zq 27:=(Aq _ _ _ om).trans (A2 _ _);have kB:(Be L ((Ab ((Ab (h2.put (h.nx+1) (cz [iI E,iI at'] 30))).put h.nx (cz zq 27))).put (h.nx+1) (cz [iI E,iI at'] 30))).m.get (h.nx+1)=cz [iI E,iI at'] 30:=A2 _ _;have A:=BnC (na:=20) (nb:=2) kA kB rfl rfl;rw[A];exact zr gZ (.inl ⟨.inl hF,E,at',he,rfl⟩)
 .obtain⟨B46,hlen⟩:=hW l hw;simp only[C9]at Z3;obtain⟨o1,o2⟩:=B2 Z3.sl;have hvb:∀b' off n cap z ex,v=.sl b' off n cap z ex->b'<h2.nx/\h.nx+2<=b':=λb' off n cap z ex hv=>by
   by_cases J:l.length=0
   .rw[G J]at hv;cases hv
   rcases Z3 with⟨M,_⟩|⟨M,_⟩|⟨b2,k,st,w,q2,q3,q4,q5,q6,q7,q8,q9⟩
   .omega
   .omega
   .rw[w]at hv;cases hv;exact⟨q6,by omega⟩
  clear Aae;refine wk ?_;have h3g:Ai h (((h2.put (h.nx+1) (cz [iI 0,iI 0] 30)).new (cz [v,iI 0,iI s.length,iI 0,iI 0,.Bv,iI 0,iI 0,iI 0,iI 0,.str [],iI 0,.Bv,iI 0,ux,.str [],iI 0,.str [],.str [],.str [],iI 0,.Bv,.str [],iI 0] 46)).new (cz [iI 2] 3)):=((gx.put (h.nx+1) _ om).new _).new _;have h3s:Fm 4 (h.nx+2) et (h2.put (h.nx+1) (cz [iI 0,iI 0] 30)) v l.length (l.flatMap Aez):=Azb Z3 om (λst a=>by rw[kf2]at a;cases a) (Up _) ((PG.refl rfl).put _) G;have h3o:=h3s.gr (((Ai.refl _).new (cz [v,iI 0,iI s.length,iI 0,iI 0,.Bv,iI 0,iI 0,iI 0,iI 0,.str [],iI 0,.Bv,iI 0,ux,.str [],iI 0,.str [],.str [],.str [],iI 0,.Bv,.str [],iI 0] 46)).new (cz [iI 2] 3));have h3l:(((h2.put (h.nx+1) (cz [iI 0,iI 0] 30)).new (cz [v,iI 0,iI s.length,iI 0,iI 0,.Bv,iI 0,iI 0,iI 0,iI 0,.str [],iI 0,.Bv,iI 0,ux,.str [],iI 0,.str [],.str [],.str [],iI 0,.Bv,.str [],iI 0] 46)).new (cz [iI 2] 3)).m.get (h2.nx+1)=cz [iI 2] 3:=Bf (h:=(h2.put (h.nx+1) _).new _) _;have h3b:(((h2.put (h.nx+1) (cz [iI 0,iI 0] 30)).new (cz [v,iI 0,iI s.length,iI 0,iI 0,.Bv,iI 0,iI 0,iI 0,iI 0,.str [],iI 0,.Bv,iI 0,ux,.str [],iI 0,.str [],.str [],.str [],iI 0,.Bv,.str [],iI 0] 46)).new (cz [iI 2] 3)).m.get h2.nx=Yg v 0 s.length 0 (qc z0 .Bv .Bv .Bv):=by
   rw[Cq (h:=(h2.put (h.nx+1) _).new _) _ h2.nx (by show h2.nx≠h2.nx+1;omega)]
   exact Bf (h:=h2.put (h.nx+1) _) _
  have h3q:∀c,c<h2.nx->c≠h.nx+1->(((h2.put (h.nx+1) (cz [iI 0,iI 0] 30)).new (cz [v,iI 0,iI s.length,iI 0,iI 0,.Bv,iI 0,iI 0,iI 0,iI 0,.str [],iI 0,.Bv,iI 0,ux,.str [],iI 0,.str [],.str [],.str [],iI 0,.Bv,.str [],iI 0] 46)).new (cz [iI 2] 3)).m.get c=h2.m.get c:=λc hc hn=>by rw[Cq (h:=(h2.put (h.nx+1) _).new _) _ c (by show c≠h2.nx+1;omega),Cq (h:=h2.put (h.nx+1) _) _ c (by show c≠h2.nx;omega),Aq _ _ _ hn]
  have h3f:(((h2.put (h.nx+1) (cz [iI 0,iI 0] 30)).new (cz [v,iI 0,iI s.length,iI 0,iI 0,.Bv,iI 0,iI 0,iI 0,iI 0,.str [],iI 0,.Bv,iI 0,ux,.str [],iI 0,.str [],.str [],.str [],iI 0,.Bv,.str [],iI 0] 46)).new (cz [iI 2] 3)).m.get (h.nx+1)=cz [iI 0,iI 0] 30:=by
   rw[Cq (h:=(h2.put (h.nx+1) _).new _) _ (h.nx+1) (by show h.nx+1≠h2.nx+1;omega),Cq (h:=h2.put (h.nx+1) _) _ (h.nx+1) (by show h.nx+1≠h2.nx;omega)]
   exact A2 _ _
  have h3n:(((h2.put (h.nx+1) (cz [iI 0,iI 0] 30)).new (cz [v,iI 0,iI s.length,iI 0,iI 0,.Bv,iI 0,iI 0,iI 0,iI 0,.str [],iI 0,.Bv,iI 0,ux,.str [],iI 0,.str [],.str [],.str [],iI 0,.Bv,.str [],iI 0] 46)).new (cz [iI 2] 3)).nx=h2.nx+2:=rfl;generalize (((h2.put (h.nx+1) (cz [iI 0,iI 0] 30)).new (cz [v,iI 0,iI s.length,iI 0,iI 0,.Bv,iI 0,iI 0,iI 0,iI 0,.str [],iI 0,.Bv,iI 0,ux,.str [],iI 0,.str [],.str [],.str [],iI 0,.Bv,.str [],iI 0] 46)).new (cz [iI 2] 3))=M at *
  have pq3:PQ h2.nx v l ((0:Nat):Int) s.length z0 .Bv .Bv .Bv M:=⟨⟨h3b,by omega,h3o.sl,λb' off n cap z ex hv=>by have:=(hvb b' off n cap z ex hv).1;omega,⟨o1,o2⟩,Int.le_refl _,by omega,rfl⟩,⟨.inl ⟨rfl,rfl⟩,Fm.nil ..,.inl ⟨rfl,rfl⟩⟩,λ_=>rfl⟩
  have hsk:R0 1 Ane M (.sl (h2.nx+1) 0 1 1 1 true) [2]:=.inr ⟨h2.nx+1,0,1,true,[iI 2],rfl,Ye _,⟨by omega,3,.exact,h3l,trivial⟩,by simp,rfl⟩;have hc1:=AiY h2.nx v l ((0:Nat):Int) _ 0 _ _ [2] M pq3.p hsk (by simp);rw[A1A]at hc1;refine BjS hc1 λv4 w e4 q4=>?_;have l4:=e4.lo;have A9W:=e4.Cf;rw[h3n]at l4 A9W;have f:A0b l=(kdF kdW ((kAt l 0 2).getD AiM).t).bind λg=>(AzC l 1 g).bind λx=>(A0f l x.2 x.1).bind λy=>AxY l y.2 y.1:=rfl;have J:∀g,kdF kdW ((kAt l 0 2).getD AiM).t=some g->0<l.length:=λg hg=>by
   cases hk:kAt l 0 2 with
   |none=>rw[hk]at hg;cases hg
   |some t=>exact AyA hk
  generalize (kAt l 0 2).getD AiM=tk at q4 f J;generalize (kAt l 0 2).isSome=fd at q4;subst q4;have kq4:w.m.get h.nx=cz zq 27:=by rw[A9W h.nx om,h3q h.nx om om];exact kq2
  have kf4:w.m.get (h.nx+1)=cz [iI 0,iI 0] 30:=by rw[A9W _ om];exact h3f
  have pq4:=pq3.gr e4;clear A9W hc1 hsk h3q h3b h3l h3f h3s h3o Z3 hvb kq2 kf2;have mf:=Bbf tk.t kdW;have key:∀a:H,True:=λ_=>trivial;refine wk ?_;refine Fj (B0r _) λv5 B e5 l5 Az4 q5=>?_;obtain⟨m,rfl,hm,hm1,hm2⟩:=q5;have w5:=e5.quiet;simp only[C9]at l5 Az4 hm1 w5;have O:Ai w B:=Ai.trans Ex (Ai.Rc e5);have kt5:B.m.get w.nx=cz (Aez tk) 48:=by rw[Az4 w.nx om];simp(disch:=first|exact Ce|fail)
  have I:=pq4.gr O;have kq5:B.m.get h.nx=cz zq 27:=by rw[O.Cf _ om];exact kq4
  have kf5:B.m.get (h.nx+1)=cz [iI 0,iI 0] 30:=by rw[O.Cf _ om];exact kf4
  clear Az4 e5 kq4 kf4 pq4 hm1;have g5:Ai h B:=Ai.trans h3g (Ai.trans e4 O);have hg5:=I.p.get;have B9a:=I.p.lt;have Bwk:∀(u:AV) (a:H),Aoj u->Ai h a->a.m.get h.nx=cz zq 27->a.m.get (h.nx+1)=cz [iI 0,iI 0] 30->h.nx+1<a.nx->A0b l=none->Ah h (Par Ky W) (A5B Z (.ptr h.nx 0) (.ptr (h.nx+1) 0) u a):=by intro u a hu gh ka kb B6 hpn;obtain⟨E,at',he,h9,hp,g9⟩:=Bj0 Z ka kb om om B6 hu;rw[hp];exact zr (((gh.put h.nx _ (Ye _)).put (h.nx+1) _ om).trans g9) (.inl ⟨.inr ⟨l,hw,hpn⟩,E,at',he,rfl⟩)
  cases Y:kdF kdW tk.t with
  |none=>
   rw[Y]at mf f;have S:M1 (Gy prog 9 (.str tk.t)) (kdE 10)=some none:=mf;generalize kdE 10=KE at hm S;clear mf;refine wd ?_;have gL:Ai h (Be (w.nx::w.lg) (Ab B)):=by
    refine⟨g5.lo,g5.Cf,λx A=>?_⟩;rcases Tu.1 A with rfl|A
    .exact .inr om
    .exact(Ai.trans h3g e4).lg x A
   refine BjS (Bh9 h2.nx v l _ _ 0 _ _ ((I.p.gr (Ai.refl B).nl).reL (w.nx::w.lg))) λv6 h6 e6 q6=>?_;obtain⟨a6,rfl⟩:=q6;refine B6b (AeU 11 a6 h6 fe) λv7 h7 e7 q7=>?_;have V:=e6.trans e7;refine Bwk v7 h7 q7 (gL.trans V) ((V.Cf _ (by show h.nx<B.nx;omega)).trans kq5) ((V.Cf _ (by show h.nx+1<B.nx;omega)).trans kf5) (Xq (by show h.nx+1<B.nx;omega) V.lo) f
  |some g=>
   have Chw:=J g Y;rw[Y]at mf f;have S:M1 (Gy prog 9 (.str tk.t)) (kdE 10)=some (some (.fn (.func g) [] [])):=mf;have Vc:=A8y Y;have hbd:=bdk _ Vc;have hKg:=hK _ Vc;generalize kdE 10=KE at hm S;clear mf;refine wd ?_;rw[BnI];clear S hm kt5;refine wk ?_;have gL:Ai h (Be (w.nx::w.lg) (Ab B)):=by
    refine⟨g5.lo,g5.Cf,λx A=>?_⟩;rcases Tu.1 A with rfl|A
    .exact .inr om
    .exact(Ai.trans h3g e4).lg x A
   have hcv:∀a:H,cvV (.fn (.func g) [] []) [.ptr h2.nx 0] prog Z a=Z.call g [.ptr h2.nx 0] a:=λa=>cvF _ _ _ _ hbd;simp only[hcv];have gZ:Ai h ((Be (w.nx::w.lg) (Ab B)).put h2.nx (Yg v 1 s.length 0 (qc z0 .Bv .Bv .Bv))):=gL.put _ _ om;have pZ:PQ h2.nx v l ((1:Nat):Int) s.length z0 .Bv .Bv .Bv ((Be (w.nx::w.lg) (Ab B)).put h2.nx (Yg v 1 s.length 0 (qc z0 .Bv .Bv .Bv))):=
    ⟨((I.p.gr (Ai.refl B).nl).reL (w.nx::w.lg)).pg ((PG.refl rfl).put _) fe rfl,⟨.inl ⟨rfl,rfl⟩,Fm.nil ..,.inl ⟨rfl,rfl⟩⟩,λ_=>rfl⟩
   have kqZ:((Be (w.nx::w.lg) (Ab B)).put h2.nx (Yg v 1 s.length 0 (qc z0 .Bv .Bv .Bv))).m.get h.nx=cz zq 27:=(Aq _ _ _ om).trans kq5;have kfZ:((Be (w.nx::w.lg) (Ab B)).put h2.nx (Yg v 1 s.length 0 (qc z0 .Bv .Bv .Bv))).m.get (h.nx+1)=cz [iI 0,iI 0] 30:=(Aq _ _ _ om).trans kf5;have hnZ:((Be (w.nx::w.lg) (Ab B)).put h2.nx (Yg v 1 s.length 0 (qc z0 .Bv .Bv .Bv))).nx=B.nx:=rfl;generalize (Be (w.nx::w.lg) (Ab B)).put h2.nx (Yg v 1 s.length 0 (qc z0 .Bv .Bv .Bv))=hZ at *
   have hgt:=hpg.lt;have BqU:∀(u:AV) (a:H),Aoj u->PX h2.nx hZ a->A0b l=none->Ah h (Par Ky W) (A5B Z (.ptr h.nx 0) (.ptr (h.nx+1) 0) u a):=by intro u a hu gp hpn;obtain⟨X,gp⟩:=gp;exact Bwk u a hu (PG.own gZ gp om) ((gp.Cf _ om om).trans kqZ) ((gp.Cf _ om om).trans kfZ) (by have:=gp.lo;omega) hpn
   refine BjU (hKg h2.nx v l 1 s.length _ _ _ hZ pZ B46) (λG u a hu hf=>BqU u a hu hf (by rw[f];show(AzC l 1 g).bind _=none;rw[G];rfl)) λx6 u6 h6 hz6 hp6=>?_;obtain⟨g6,⟨ve6,vo6,vm6,p6⟩,rfl⟩:=hp6;have f:A0b l=(A0f l x6.2 x6.1).bind λy=>AxY l y.2 y.1:=by rw[f];show(AzC l 1 g).bind _=_;rw[hz6];rfl
   refine BjU (BuT h2.nx v l x6.2 s.length _ _ _ _ h6 p6) (λG u a hu hf=>BqU u a hu (PX.trans g6 hf) (by rw[f,G];rfl)) λx7 u7 h7 hz7 hp7=>?_;obtain⟨g7,⟨ve7,vo7,vm7,p7⟩,rfl⟩:=hp7;have U:=PX.trans g6 g7;have f:A0b l=AxY l x7.2 x7.1:=by rw[f,hz7];rfl
   refine BjU (BuU h2.nx v l x7.2 s.length _ _ _ _ h7 ((hpg.gr gZ).px om U) om p7 B46) (λG u a hu hf=>BqU u a hu (PX.trans U hf) (by rw[f,G])) λx8 u8 h8 hz8 hp8=>?_;obtain⟨g8,⟨ve,vo,vm,T⟩,rfl⟩:=hp8;obtain⟨X,g68⟩:=PX.trans U g8;obtain⟨Q,j⟩:=x8;have T:PQ h2.nx v l (j:Nat) s.length Q ve vo vm h8:=T;have f:A0b l=some (Q,j):=by rw[f,hz8]
   have kq8:h8.m.get h.nx=cz zq 27:=(g68.Cf _ om om).trans kqZ;have kf8:h8.m.get (h.nx+1)=cz [iI 0,iI 0] 30:=(g68.Cf _ om om).trans kfZ;have hg8:=T.p.get;have B9b:=T.p.lt;have g08:Ai h h8:=PG.own gZ g68 om;have c1:Ge ve=true/\cellsOf ve=some [ve]:=by rcases T.q.c with⟨_,rfl⟩|⟨_,a⟩;exact⟨rfl,rfl⟩;exact a.one
   have c2:Ge vo=true/\cellsOf vo=some [vo]:=B2 T.q.o.sl;have c3:Ge vm=true/\cellsOf vm=some [vm]:=by rcases T.q.m with⟨_,rfl⟩|⟨_,a⟩;exact⟨rfl,rfl⟩;exact a.one
   have q8:=T.q;have z8:=T.z;have qv1:=c1.1;have qv2:=c1.2;have qv3:=c2.1;have qv4:=c2.2;have qv5:=c3.1;have qv6:=c3.2;clear hK hKg BuT BuU U g7 g6 g8 p7 p6 pZ kqZ kfZ I kq5 kf5 hcv hg5 c1 c2 c3 BqU Bwk;refine wk ?_;refine Fj (B0q _ _ _) λv9 h9 e9 l9 A0Q q9=>?_;simp only[C9]at l9 A0Q;rw[BnC (na:=20) (nb:=2) (ca:=qc Q ve vo vm) (cb:=[iI 0,iI 0]) ((A0Q h.nx om).trans ((Aq _ _ _ om).trans (A2 _ _))) ((A0Q (h.nx+1) om).trans (A2 _ _)) rfl rfl];have r1:QL h2.nx (h8.put h.nx (cz (qc Q ve vo vm) 27)) Q ve vo vm:=q8.pga om om (λst a=>by rw[kq8]at a;cases a) z8 ((PG.refl rfl).put _);have r2:QL h2.nx ((h8.put h.nx (cz (qc Q ve vo vm) 27)).put (h.nx+1) (cz [iI 0,iI 0] 30)) Q ve vo vm:=r1.pga om ml (λst a=>by rw[Aq _ _ _ om,kf8]at a;cases a) z8 ((PG.refl rfl).put _);exact Lo (((g08.put h.nx _ (Ye _)).put (h.nx+1) _ om).trans e9) (.inr ⟨l,Q,j,ve,vo,vm,hw,f,rfl,r2.qv.By e9.keeps⟩)
end Go.Proofs
