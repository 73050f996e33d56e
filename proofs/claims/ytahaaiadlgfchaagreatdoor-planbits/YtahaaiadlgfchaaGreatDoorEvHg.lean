/- The table of the -/
import Derived.Test.YtahaaiadlgfchaaGreatDoorEvHf
set_option linter.all false
set_option maxRecDepth 100000
noncomputable section
namespace Go.Proofs
open Go Go.Ev Tryz Go.Ev.Sx
open Go.Nm
attribute [local irreducible] Aa Al Af Ad
variable {j:Type}
variable (Z:Ac)(N:Nat)
variable {h h0:H}{v v2:AV}{n d n2 d2:Nat}{m:Bool}
def FrS h m n d(r:AV):=∃x y,r=.agg [.bool m,x,y]/\NtS h x (lbN n)/\NtS h y (lbN d)
def FrS.gr{h1}{r}(k:FrS h m n d r)(g:Ai h h1):FrS h1 m n d r:=by have⟨x,y,e,c,f⟩:=k;exact⟨x,y,e,c.gr g,f.gr g⟩
def zcq{R}{r}{k}{Φ:OR->Prop}(f:Ah (Ab h) R r)(c:∀v h1,Ai h h1->h.nx<=h1.nx->(∀b,b<h.nx->h1.m.get b=h.m.get b)->wrote h.nx h1.lg=[]->R v h1->Φ (k v h1)):Φ (Aa r k):=by obtain⟨v,h1,rfl,e,q⟩:=f;exact Wb (c v _ e.Rc e.lo e.Cf e.quiet q)
structure Agy(hA:H)(b:Nat)(m:Bool)(x y:AV):Prop where
 c:Nv hA b [.bool m,x,y]
 l0:∀hh,Bi hA hh->Ae (some none) (.ptr b 0) hh=.ok (.bool m) hh
 l1:∀hh,Bi hA hh->Ae (some none) (.ptr b 1) hh=.ok x hh
 l2:∀hh,Bi hA hh->Ae (some none) (.ptr b 2) hh=.ok y hh
 l3:∀hh,Bi hA hh->Ae (some (some 3)) (.ptr b 0) hh=.ok (.agg [.bool m,x,y]) hh
def Agy.of{hA}{b}{x y}(c:Nv hA b [.bool m,x,y]):Agy hA b m x y:=⟨c,c.one rfl,c.one rfl,c.one rfl,c.many (by simp) rfl⟩
def fa3 b:(∀c,Bs (.ptr b 0) 0 c=.ok (.ptr b 0) c)/\(∀c,Bs (.ptr b 0) 1 c=.ok (.ptr b 1) c)/\∀c,Bs (.ptr b 0) 2 c=.ok (.ptr b 2) c:=⟨λc=>rfl,λc=>rfl,λc=>rfl⟩
abbrev z3:uz:=[ct,.Bv,.Bv]
def fr3{Φ:OR->Prop}{m c}{x y e f}{k:AV->AV->AV->H->OR}(i:∀hA b,Ai h hA->h.nx<=b->b+3<=hA.nx->Agy hA b m x y->Agy hA (b+1) c e f->hA.m.get (b+2)=cd z3 95->Φ (k (.ptr b 0) (.ptr (b+1) 0) (.ptr (b+2) 0) hA)):
 Φ (Aa (Oy 95 (.agg [.bool m,x,y]) h) λv1 h1=>Aa (Oy 95 (.agg [.bool c,e,f]) h1) λv2 h2=>Aa (mk h2 (cd z3 95) (.ptr h2.nx 0)) λv3 j=>k v1 v2 v3 j):=by
 refine Ey rfl (Ey rfl (Ey rfl (i _ _ ((((Ai.refl h).new _).new _).new _) (Ye _) (Ye _) (.of ⟨by show h.nx<h.nx+3;simp,95,.exact,?_,trivial⟩) (.of ⟨by simp,95,.exact,?_,trivial⟩) ?_)));. rw[Cq _ _ (by show h.nx≠h.nx+2;omega),Cq _ _ (by simp)];simp[*]
 .rw[Cq _ _ (by simp)];exact Bf _
 .exact Bf _
def B06{hA e}{b}{p q}(G:Ai h e)(g:Ai h hA)(hb:h.nx<=b)(c:(Ab e).m.get b=cd z3 95)(j:NtS e p (lbN n))(k:NtS e q (lbN d)):Ah h (λr h1=>FrS h1 m n d r) (.ok (.agg [.bool m,p,q]) (Be (b::hA.lg) ((Ab e).put b (cd [.bool m,p,q] 95)))):=by
 have g1:=G.put b (cd [.bool m,p,q] 95) hb;have i:=(Bi.refl e).nl;refine Lo ⟨g1.lo,g1.Cf,λx f=>?_⟩ ⟨p,q,rfl,Sl.By (AtT (Sl.By j i) (.inl rfl) (.inl rfl) c) ((Bi.refl _).Be _),Sl.By (AtT (Sl.By k i) (.inl rfl) (.inl rfl) c) ((Bi.refl _).Be _)⟩;rcases Wf.1 f with rfl|f;. omega
 .exact g.lg x f
def Cka:=∀v w n d n2 d2 h,FrS h false n d v->FrS h false n2 d2 w->n<Adw.AdE->d<Adw.AdE->n2<Adw.AdE->d2<Adw.AdE->n*n2<Adw.AdE->d*d2<Adw.AdE->0<d*d2->Ah h (λr h1=>FrS h1 false (Adw.rd (n*n2) (d*d2)).1 (Adw.rd (n*n2) (d*d2)).2 r) (Z.call 111 [v,w] h)
def Cwz{w:AV}(f:CaG Z)(l:B0B Z)(k:FrS h false n d v)(k2:FrS h false n2 d2 w)(hn:n<Adw.AdE)(hd:d<Adw.AdE)(A:n2<Adw.AdE)(i:d2<Adw.AdE)(O:n*n2<Adw.AdE)(o:d*d2<Adw.AdE)(h0:0<d*d2):Ah h (λr h1=>FrS h1 false (Adw.rd (n*n2) (d*d2)).1 (Adw.rd (n*n2) (d*d2)).2 r) (Ay prog Z N false 111 [v,w] h):=by obtain⟨x,y,rfl,L,M⟩:=k;obtain⟨x2,y2,rfl,t,u⟩:=k2;rw[Csk];refine fr3 λhA b g eb nA E G cR=>?_;have nb:∀c:H,Aj prog .neq 4 false ct ct c=.ok ct c:=λc=>rfl;obtain⟨f0,f1,f2⟩:=fa3 b;obtain⟨f0',f1',f2'⟩:=fa3 (b+1);obtain⟨_,l0,l1,l2,_⟩:=E;obtain⟨_,Y,U,l2',_⟩:=G;have hN:=λc (e:Ai hA c)=>f x x2 n n2 c ((L.gr g).gr e) ((t.gr g).gr e) hn A;have F:=λc (e:Ai hA c)=>f y y2 d d2 c ((M.gr g).gr e) ((u.gr g).gr e) hd i;have C:=λ(p q:AV) c (j:NtS c p (lbN (n*n2))) (B:NtS c q (lbN (d*d2)))=>l p q (n*n2) (d*d2) c j B O o h0;clear L M t u f l hn hd A i O o h0;replace C:=(hU C);replace F:=(hU F);refine wd ?_;refine zcq (hN _ Ex) λv4 h4 e4 l4 K w4 q4=>?_;refine wd ?_;refine zcq ((gw F) _ Ex) λv5 h5 R V I w5 q5=>(zcq ((gw C) _ _ _ (q4.gr Ex:NtS (Ab h5) ..) (q5.gr Ex)) λv6 h6 X l6 J w6 W=>?_);obtain⟨p,q,rfl,j,B⟩:=W;have P:(Ab _).m.get _=.cells _ ..:=(J _ (by simp[C9]at *;omega)).trans ((I _ (by simp[C9]at *;omega)).trans ((K _ (by simp[C9]at *;omega)).trans cR));apply Ey (A2n (AiZ j) (AiZ B) P rfl);simp[C9]at l4 V l6 w4 w5 w6;exact wd (B06 (((g.trans e4.Rc).trans R.Rc).trans X) g om P j B)
variable {w:AV}
def fr2{Φ:OR->Prop}{m}{x y}{k:AV->AV->H->OR}(c:∀hA b,Ai h hA->h.nx<=b->b+2<=hA.nx->Agy hA b m x y->hA.m.get (b+1)=cd z3 95->Φ (k (.ptr b 0) (.ptr (b+1) 0) hA)):
 Φ (Aa (Oy 95 (.agg [.bool m,x,y]) h) λv1 h1=>Aa (mk h1 (cd z3 95) (.ptr h1.nx 0)) λv3 e=>k v1 v3 e):=by
 refine Ey rfl (Ey rfl (c _ _ (((Ai.refl h).new _).new _) (Ye _) (Ye _) (.of ⟨by show h.nx<h.nx+2;simp,95,.exact,?_,trivial⟩) ?_));. rw[Cq _ _ (by simp)];simp
 .exact Bf _
def Cku{x y} m(c:Shp x)(hy:Shp y) hh:B7 z3 [(0,1,.bool m),(1,1,x),(2,1,y)] hh=.ok (.agg [.bool m,x,y]) hh:=by rcases c with rfl|⟨_,_,_,_,_,_,rfl⟩<;>rcases hy with rfl|⟨_,_,_,_,_,_,rfl⟩<;>rfl
def st3{x y}{b} m(e:Shp x)(hy:Shp y)(c:h.m.get b=cd z3 95):A4 3 (.ptr b 0) (.agg [.bool m,x,y]) h=.ok (.Bj []) (h.put b (cd [.bool m,x,y] 95)):=by refine BjK c rfl rfl ?_ ?_<;>(rcases e with rfl|⟨_,_,_,_,_,_,rfl⟩<;>rcases hy with rfl|⟨_,_,_,_,_,_,rfl⟩<;>rfl)
def CjX:=∀v n d h,FrS h false n d v->Ah h (λr h1=>FrS h1 false d n r) (Z.call 81 [v] h)
def Cwv(k:FrS h false n d v):Ah h (λr h1=>FrS h1 false d n r) (ml Z N 81 [v] h):=by obtain⟨x,y,rfl,c,i⟩:=k;rw[Csd];refine fr2 λhA b g l j f e=>?_;have⟨_,_,_,_,_⟩:=f;refine wk (Ey (Cku _ (AiZ i) (AiZ c) _) (Ey (st3 _ (AiZ i) (AiZ c) e) ?_));rw[A0B (na:=3) (A2 ..) rfl];exact Lo (g.put _ _ om) ⟨_,_,rfl,AtT (i.gr g) (.inl rfl) (.inl rfl) e,AtT (c.gr g) (.inl rfl) (.inl rfl) e⟩
def CpK:=∀v w n d n2 d2 h,FrS h false n d v->FrS h false n2 d2 w->n<Adw.AdE->d<Adw.AdE->n2<Adw.AdE->d2<Adw.AdE->n*d2<Adw.AdE->d*n2<Adw.AdE->0<d*n2->Ah h (λr h1=>FrS h1 false (Adw.rd (n*d2) (d*n2)).1 (Adw.rd (n*d2) (d*n2)).2 r) (Z.call 290 [v,w] h)
def FrS.shp{r}(k:FrS h m n d r):∃x y,r=.agg [.bool m,x,y]/\Shp x/\Shp y/\NtS h x (lbN n)/\NtS h y (lbN d):=by have⟨x,y,e,c,f⟩:=k;exact⟨x,y,e,AiZ c,AiZ f,c,f⟩
def CwG(o:CjX Z)(i:Cka Z)(k:FrS h false n d v)(W:FrS h false n2 d2 w)(hn:n<Adw.AdE)(hd:d<Adw.AdE)(A:n2<Adw.AdE)(f:d2<Adw.AdE)(V:n*d2<Adw.AdE)(j:d*n2<Adw.AdE)(h0:0<d*n2):Ah h (λr h1=>FrS h1 false (Adw.rd (n*d2) (d*n2)).1 (Adw.rd (n*d2) (d*n2)).2 r) (Ay prog Z N false 290 [v,w] h):=by obtain⟨x,y,rfl,J,K⟩:=k;obtain⟨x2,y2,rfl,l,u⟩:=W;rw[CsM];refine fr3 λhA b g eb nA E t U=>?_;have⟨_,_,_,_,l3⟩:=E;have⟨_,_,_,_,R⟩:=t;refine wd ?_;refine zcq ((λc (e:Ai _ c)=>o _ _ _ _ ⟨_,_,rfl,(l.gr g).gr e,(u.gr g).gr e⟩) _ Ex) λv4 h4 Y l4 C w4 P=>?_;have g4:=Y.Rc;refine zcq ((show ∀r c e kr,_ from(λr c (e:Ai _ c) kr=>i _ r n d _ _ _ ⟨x,y,rfl,(J.gr g).gr e,(K.gr g).gr e⟩ kr hn hd f A V j h0)) _ _ g4.nl (P.gr Ex)) λv6 h6 M l6 B w6 L=>?_;obtain⟨p,q,rfl,I,O,G,X⟩:=L.shp;have F:(Ab _).m.get _=.cells _ ..:=(B _ (by simp[C9]at *;omega)).trans ((C _ (by simp[C9]at *;omega)).trans U);apply Ey (st3 _ I O F);simp[C9]at l4 l6 w4 w6;exact wd (B06 ((g.trans g4).trans M) g om F G X)
def Ckg:=∀v n d h,FrS h false n d v->0<n->Ah h (λr h1=>FrS h1 true n d r) (Z.call 304 [v] h)
def CwJ(i:B0E Z)(k:FrS h false n d v)(h0:0<n):Ah h (λr h1=>FrS h1 true n d r) (Ay prog Z N false 304 [v] h):=by obtain⟨x,y,rfl,f,o⟩:=k;rw[CsY];refine fr2 λhA b g G F l B=>?_;have⟨_,l0,l1,l2,_⟩:=l;have t:=λu (e:Ai _ u)=>i x _ _ ((f.gr g).gr e);rw[Yg λe=>by have:=Bna.1 e;omega]at t;refine wd ?_;refine zcq (t _ Ex) λv4 E A l4 j w4 C=>?_;have g4:=A.Rc;have p:=(j _ (by simp[C9]at *;omega)).trans B;have c:=(show F5 _ from(⟨f.gr g,o.gr g⟩:NtS _ x _/\NtS _ y _));simp[C9]at l4 w4;refine wd ?_;exact Ey ((Cku true (AiZ f) (AiZ o)) _) (Ey (st3 true (AiZ f) (AiZ o) p) (wd (B06 (m:=true) (g.trans g4) g (show h.nx<=b+1 by omega) p (c.1.gr g4) (c.2.gr g4))))
def BkJ m(a b:Nat):=bif m then a-b else a+b
def Ckb:=∀v w m n d n2 d2 h,FrS h false n d v->FrS h m n2 d2 w->n<Adw.AdE->d<Adw.AdE->n2<Adw.AdE->d2<Adw.AdE->n*d2<Adw.AdE->n2*d<Adw.AdE->d*d2<Adw.AdE->BkJ m (n*d2) (n2*d)<Adw.AdE->(m=true->n2*d<=n*d2)->0<d*d2->Ah h (λr h1=>FrS h1 false (Adw.rd (BkJ m (n*d2) (n2*d)) (d*d2)).1 (Adw.rd (BkJ m (n*d2) (n2*d)) (d*d2)).2 r) (Z.call 113 [v,w] h)
def Cw0(A:CaG Z)(P:Bl3 Z)(I:Ckc Z)(G:Ckd Z)(B9J:B0B Z)(k:FrS h false n d v)(k2:FrS h m n2 d2 w)(hn:n<Adw.AdE)(hd:d<Adw.AdE)(hn2:n2<Adw.AdE)(L:d2<Adw.AdE)(R:n*d2<Adw.AdE)(hy:n2*d<Adw.AdE)(hdm:d*d2<Adw.AdE)(hs:BkJ m (n*d2) (n2*d)<Adw.AdE)(K:m=true->n2*d<=n*d2)(h0:0<d*d2):Ah h (λr h1=>FrS h1 false (Adw.rd (BkJ m (n*d2) (n2*d)) (d*d2)).1 (Adw.rd (BkJ m (n*d2) (n2*d)) (d*d2)).2 r) (Ay prog Z N false 113 [v,w] h):=by
 obtain⟨x,y,rfl,kx,ky⟩:=k;obtain⟨x2,y2,rfl,kx2,J⟩:=k2;rw[Csm];refine fr3 λhA b g eb nA AdU Agz cR=>?_;obtain⟨f0,f1,f2⟩:=fa3 b;obtain⟨f0',f1',f2'⟩:=fa3 (b+1);obtain⟨_,l0,l1,l2,_⟩:=AdU;obtain⟨_,l0',l1',l2',_⟩:=Agz;have hX:=λc (e:Ai hA c)=>A x y2 n d2 c ((kx.gr g).gr e) ((J.gr g).gr e) hn L;have hY:=λc (e:Ai hA c)=>A x2 y n2 d c ((kx2.gr g).gr e) ((ky.gr g).gr e) hn2 hd;have hD:=λc (e:Ai hA c)=>A y y2 d d2 c ((ky.gr g).gr e) ((J.gr g).gr e) hd L;generalize n*d2=X at *
 generalize n2*d=Y at *
 generalize d*d2=D at *
 have hC:=λp q c (l:NtS c p (lbN X)) (j:NtS c q (lbN Y))=>P p q _ _ c l j (by have:=A83 (T8 R);omega)
 have hM:=λ(p q:AV) (s:Nat) c (e:s=BkJ m X Y) (l:NtS c p (lbN s)) (j:NtS c q (lbN D))=>B9J p q s D c l j (by grind) hdm h0;have W:=B4Y (T8 R) (T8 hy);clear kx ky kx2 J A P B9J hn hd hn2 L hdm h0;replace hM:=(hU hM)
 replace hD:=(hU hD)
 replace hY:=(hU hY)
 replace hC:=(hU hC)
 refine wd ?_;refine zcq (hX _ Ex) λv4 h4 e4 l4 A9W w4 q4=>?_;clear hX;refine wd ?_;refine zcq ((gw hY) _ Ex) λE i e5 l5 V w5 q5=>?_
 have g5:Ai hA i:=e4.Rc.trans e5.Rc;have o:=(show F5 _ from q4.gr e5.Rc)
 have t:=(hU q5)
 have c5:i.m.get (b+2)=cd z3 95:=(V _ (by simp only[C9]at *;omega)).trans ((A9W _ (by simp only[C9]at *;omega)).trans cR);simp only[C9]at l4 l5 w4 w5;clear A9W V q4 q5;refine wd ?_;have gB:Ai hA (Be hA.lg (Ab i)):=⟨g5.lo,g5.Cf,λx R=>.inl R⟩;have kB:Bi i (Be hA.lg (Ab i)):=(Bi.refl i).nl.Be _;have o:NtS (Be hA.lg (Ab i)) v4 (lbN X):=Sl.By (show NtS i v4 (lbN X)from o) kB
 have t:NtS (Be hA.lg (Ab i)) E (lbN Y):=Sl.By (show NtS i E (lbN Y)from t) kB
 have cB:(Be hA.lg (Ab i)).m.get (b+2)=cd z3 95:=c5;have nB:hA.nx<=(Be hA.lg (Ab i)).nx:=g5.lo;generalize Be hA.lg (Ab i)=hB at *
 clear e4 e5 g5 c5 kB w4 w5 l4 l5;refine Fj ((gw hD) _ gB) λv6 h6 M l6 Axm q6=>?_
 refine Fj ((gw hC) _ _ _ (o.gr M) (t.gr M)) λv7 f U l7 AvU q7=>?_
 subst q7;have O:Ai hA f:=(gB.trans M).trans U;have k4:NtS f v4 (lbN X):=(o.gr M).gr U;have k5:NtS f E (lbN Y):=(t.gr M).gr U;have k6:NtS f v6 (lbN D):=q6.gr U;have c7:f.m.get (b+2)=cd z3 95:=(AvU _ om).trans ((Axm _ om).trans cB);clear Axm AvU hC hD hY o t q6 cB gB M U;generalize hz:lcN (lbN X) (lbN Y)=z at *;have l7':hA.nx<=f.nx:=O.lo;have kk:=(show F5 _ from(⟨k4,k5,k6⟩:NtS f v4 (lbN X)/\NtS f E (lbN Y)/\NtS f v6 (lbN D)));cases m with
 |false=>have eb1:∀c:H,Aj prog .eql 4 false ct ct c=.ok ux c:=λc=>rfl;have hS:=λc (e:Ai f c)=>I v4 E X Y c (k4.gr e) (k5.gr e) hs;clear k4 k5 k6 W I G K hz;refine wd ?_;refine zcq (hS _ Ex) λv8 h8 e8 l8 C w8 q8=>?_;have g8:Ai f h8:=e8.Rc;have B:NtS f v4 (lbN X)/\NtS f E (lbN Y)/\NtS f v6 (lbN D):=kk;refine zcq ((gw hM) _ _ _ _ rfl (q8.gr Ex) ((B.2.2.gr g8).gr Ex)) λv9 h9 e9 l9 u w9 q9=>?_;obtain⟨p,q,rfl,l,j⟩:=q9;have c9:(Ab h9).m.get (b+2)=cd z3 95:=(u _ (by simp only[C9]at *;omega)).trans ((C _ (by simp only[C9]at *;omega)).trans c7);have st:=st3 (h:=Ab h9) false (AiZ l) (AiZ j) c9;have F:=B06 (m:=false) (((g.trans O).trans g8).trans e9) (g.trans O) (show h.nx<=b+2 by omega) c9 l j;replace F:=(hU F);simp only[C9]at l8 l9 w8 w9;clear C u hS hM kk B l0 l1 l2 l0' l1' l2' l j;refine wd ?_;exact F
 |true=>
  have eb1:∀c:H,Aj prog .eql 4 false ct ux c=.ok ct c:=λc=>rfl;have hS:=λc (e:Ai f c)=>G v4 E X Y c (k4.gr e) (k5.gr e) R (K rfl);have k0:decide (z<0)=false:=Yg λe=>by grind
  clear k4 k5 k6 W I G K hz;refine wd ?_;refine zcq (hS _ Ex) λv8 h8 e8 l8 C w8 q8=>?_;have g8:Ai f h8:=e8.Rc;have B:NtS f v4 (lbN X)/\NtS f E (lbN Y)/\NtS f v6 (lbN D):=kk;refine zcq ((gw hM) _ _ _ _ rfl (q8.gr Ex) ((B.2.2.gr g8).gr Ex)) λv9 h9 e9 l9 u w9 q9=>?_;obtain⟨p,q,rfl,l,j⟩:=q9;have c9:(Ab h9).m.get (b+2)=cd z3 95:=(u _ (by simp only[C9]at *;omega)).trans ((C _ (by simp only[C9]at *;omega)).trans c7);have st:=st3 (h:=Ab h9) false (AiZ l) (AiZ j) c9;have F:=B06 (m:=false) (((g.trans O).trans g8).trans e9) (g.trans O) (show h.nx<=b+2 by omega) c9 l j;simp[C9]at l8 l9 w8 w9;exact wd F
def CpL:=∀v w n d n2 d2 h,FrS h false n d v->FrS h false n2 d2 w->n<Adw.AdE->d<Adw.AdE->n2<Adw.AdE->d2<Adw.AdE->n*d2<Adw.AdE->n2*d<=n*d2->d*d2<Adw.AdE->0<n2->0<d*d2->Ah h (λr h1=>FrS h1 false (Adw.rd (n*d2-n2*d) (d*d2)).1 (Adw.rd (n*d2-n2*d) (d*d2)).2 r) (Z.call 292 [v,w] h)
def CwH(B:Ckg Z)(o:Ckb Z)(k:FrS h false n d v)(X:FrS h false n2 d2 w)(hn:n<Adw.AdE)(hd:d<Adw.AdE)(A:n2<Adw.AdE)(i:d2<Adw.AdE)(E:n*d2<Adw.AdE)(c:n2*d<=n*d2)(j:d*d2<Adw.AdE)(h0:0<n2)(h1:0<d*d2):Ah h (λr h1=>FrS h1 false (Adw.rd (n*d2-n2*d) (d*d2)).1 (Adw.rd (n*d2-n2*d) (d*d2)).2 r) (Ay prog Z N false 292 [v,w] h):=by obtain⟨x,y,rfl,L,M⟩:=k;obtain⟨x2,y2,rfl,l,u⟩:=X;rw[CsO];refine fr3 λhA b g eb nA G t W=>?_;have⟨_,_,_,_,l3⟩:=G;have⟨_,_,_,_,V⟩:=t;refine wd ?_;refine zcq ((λf (e:Ai _ f)=>B _ _ _ _ ⟨_,_,rfl,(l.gr g).gr e,(u.gr g).gr e⟩ h0) _ Ex) λv4 h4 e4 l4 F w4 U=>?_;have g4:=e4.Rc;refine zcq ((show ∀r f e kr,_ from(λr f (e:Ai _ f) (kr:FrS _ true _ _ r)=>o _ r _ n d _ _ _ ⟨x,y,rfl,(L.gr g).gr e,(M.gr g).gr e⟩ kr hn hd A i E (Ql c E) j (Ql (Ee ..) E) (λ_=>c) h1)) _ _ g4.nl (U.gr Ex)) λv6 h6 P l6 C w6 O=>?_;obtain⟨p,q,rfl,K,R,J,Y⟩:=O.shp;have I:(Ab _).m.get _=.cells _ ..:=(C _ (by simp[C9]at *;omega)).trans ((F _ (by simp[C9]at *;omega)).trans W);apply Ey (st3 _ K R I);simp[C9]at l4 l6 w4 w6;exact wd (B06 ((g.trans g4).trans P) g om I J Y)
def Cf0:=∀v n d h,FrS h false n d v->Ah h (λr _=>r=iI (if n=0 then 0 else 1)) (Z.call 80 [v] h)
def CvQ(c:B0E Z)(k:FrS h false n d v):Ah h (λr _=>r=iI (if n=0 then 0 else 1)) (ml Z N 80 [v] h):=by
 obtain⟨x,y,rfl,l,u⟩:=k;rw[Crw];have g:Ai h (h.new (cd [ct,x,y] 95)):=(Ai.refl h).new _;have i:=λo (e:Ai _ o)=>c x _ _ ((l.gr g).gr e);rw[show decide _=decide _ from cj.2 Bna]at i;refine wk (Fj (i _ Ex) λv4 t f l4 p j=>?_);subst j;by_cases h0:n=0;. rw[Xo h0,Ws h0];exact wk (zr (g.trans f) rfl)
 .rw[X2 h0,Yg h0];exact wk (zr (g.trans f) rfl)
def CmH(h:1000000000<=n):lbN n=[n%1000000000,n/1000000000]:=by unfold lbN;grind
def B7c{a b:Nat}:lcN (lbN a) (lbN b)=Aoq a b:=by
 have l0:∀n,(lbN n).length=if n=0 then 0 else if n<1000000000 then 1 else 2:=λn=>by unfold lbN;split<;>(try split)<;>rfl
 by_cases c:(lbN a).length=(lbN b).length
 .unfold lcN;rw[X2 (not_not_intro c)];rw[l0,l0]at c;by_cases ha:a=0
  .subst ha;by_cases hb:b=0
   .subst hb;rfl
   .rw[Xo rfl,X2 hb]at c;split at c<;>cases c
  .by_cases hb:b=0
   .subst hb;rw[Xo rfl,X2 ha]at c;split at c<;>cases c
   .rw[X2 ha,X2 hb]at c;by_cases f:a<1000000000
    .by_cases i:b<1000000000;. rw[A5g om f,A5g om i];show(if lcE [] []≠0 then lcE [] []else Aoq (a:Int) (b:Int))=_;rw[X2 (by simp[lcE])]
     .rw[Xo f,X2 i]at c;cases c
    .by_cases i:b<1000000000;. rw[X2 f,Xo i]at c;cases c
     .rw[CmH om,CmH om];show(if lcE [a/1000000000] [b/1000000000]≠0 then lcE [a/1000000000] [b/1000000000]else Aoq ((a%1000000000:Nat):Int) ((b%1000000000:Nat):Int))=_;have e:lcE [a/1000000000] [b/1000000000]=Aoq ((a/1000000000:Nat):Int) ((b/1000000000:Nat):Int):=by show(if lcE [] []≠0 then lcE [] []else Aoq _ _)=_;rw[X2 (by simp[lcE])]
      rw[e];unfold Aoq;split<;>rename_i h1;. (repeat' split)<;>first|rfl|omega
      . (repeat' split)<;>first|rfl|omega
 .unfold lcN;rw[Xo c];rw[l0,l0]at c ⊢;unfold Aoq;(repeat' split)<;>first|rfl|omega|(exfalso;apply c;simp[*])
def Cp7:=∀v w n d n2 d2 h,FrS h false n d v->FrS h false n2 d2 w->n<Adw.AdE->d<Adw.AdE->n2<Adw.AdE->d2<Adw.AdE->0<d->0<d2->Ah h (λr _=>r=iI (Aoq (n*d2:Nat) (n2*d:Nat))) (Z.call 38 [v,w] h)
def CvJ(A:Cf0 Z)(l:CaG Z)(M:Bl3 Z)(k:FrS h false n d v)(k2:FrS h false n2 d2 w)(hn:n<Adw.AdE)(hd:d<Adw.AdE)(R:n2<Adw.AdE)(E:d2<Adw.AdE)(h0:0<d)(h1:0<d2):Ah h (λr _=>r=iI (Aoq (n*d2:Nat) (n2*d:Nat))) (ml Z N 38 [v,w] h):=by
 obtain⟨x,y,rfl,kx,ky⟩:=k;obtain⟨i,j,rfl,u,B⟩:=k2;rw[Cro];refine Ey (v:=.ptr h.nx 0) (h:=h.new (cd [ct,x,y] 95)) rfl (Ey (v:=.ptr (h.nx+1) 0) (h:=(h.new (cd [ct,x,y] 95)).new (cd [ct,i,j] 95)) rfl ?_);have g:Ai h ((h.new (cd [ct,x,y] 95)).new (cd [ct,i,j] 95)):=((Ai.refl h).new _).new _;have AdU:Agy ((h.new (cd [ct,x,y] 95)).new (cd [ct,i,j] 95)) h.nx false x y:=.of ⟨by show h.nx<h.nx+2;omega,95,.exact,(Cq (h:=h.new _) _ _ (by simp_all)).trans (Bf _),trivial⟩
 have Agz:Agy ((h.new (cd [ct,x,y] 95)).new (cd [ct,i,j] 95)) (h.nx+1) false i j:=.of ⟨by simp,95,.exact,Bf (h:=h.new _) _,trivial⟩;generalize (h.new (cd [ct,x,y] 95)).new (cd [ct,i,j] 95)=hA at *
 generalize h.nx=b at *
 obtain⟨f0,f1,f2⟩:=fa3 b;obtain⟨f0',f1',f2'⟩:=fa3 (b+1);obtain⟨_,l0,l1,l2,l3⟩:=AdU;obtain⟨_,l0',l1',l2',l3'⟩:=Agz;have hS:=λc (e:Ai hA c)=>A _ n d c ⟨x,y,rfl,(kx.gr g).gr e,(ky.gr g).gr e⟩;have hT:=λc (e:Ai hA c)=>A _ n2 d2 c ⟨i,j,rfl,(u.gr g).gr e,(B.gr g).gr e⟩;have hX:=λc (e:Ai hA c)=>l x j n d2 c ((kx.gr g).gr e) ((B.gr g).gr e) hn E;have hY:=λc (e:Ai hA c)=>l i y n2 d c ((u.gr g).gr e) ((ky.gr g).gr e) R hd;have K:(lbN (n*d2)).length<=10:=by rw[show(lbN (n*d2)).length=_ from rfl];unfold lbN;grind
 have G:=λp q c (kp:NtS c p (lbN (n*d2))) (kq:NtS c q (lbN (n2*d)))=>M p q _ _ c kp kq K;have U:n*d2=0 ↔ n=0:=by rw[Nat.mul_eq_zero];omega
 have O:n2*d=0 ↔ n2=0:=by rw[Nat.mul_eq_zero];omega
 simp only[B7c]at G;generalize n*d2=X at *;generalize n2*d=Y at *;clear kx ky u B A l M hn hd R E h0 h1 K;replace G:=(hU G);replace hX:=(hU hX);replace hY:=(hU hY);replace hT:=(hU hT);replace U:=(hU U);replace O:=(hU O);generalize P:(if n=0 then(0:Int)else 1)=s at *;generalize I:(if n2=0 then(0:Int)else 1)=t at *;replace P:=(hU P);replace I:=(hU I);refine wk ?_;refine zc2 (hS _ Ex) λv4 h4 e4 l4 A9W q4=>?_;subst q4;clear A9W hS;refine wk ?_;refine zc2 ((gw hT) _ Ex) λv6 h6 e6 l6 Axm q6=>?_;subst q6;clear Axm;have g6:Ai hA h6:=e4.Rc.trans e6.Rc;have C:Ai hA (Be hA.lg (Ab h6)):=⟨g6.lo,g6.Cf,λx hx=>.inl hx⟩;generalize Be hA.lg (Ab h6)=hB at *;clear e4 e6 l4 l6 g6 hT;by_cases e:s=t;. have k1:decide (s=t)=true:=Ws e;clear e U O P I;refine wk ?_;refine zc2 ((gw hX) _ Ex) λv9 h9 e9 l9 A0Q q9=>?_;have W:Ai hB h9:=e9.Rc;have J:=(hU q9);clear q9 A0Q;refine wk ?_;refine zc2 ((gw hY) _ (Ai.nl (Ai.nl (C.trans W)))) λv10 Fh L l10 Arw V=>?_;have f:Ai h9 Fh:=Ai.Rc L;clear Arw;refine zc2 ((gw G) _ _ _ ((NtS.gr (show NtS h9 v9 (lbN X)from J) f).gr (Ai.refl _).nl) (V.gr (Ai.refl _).nl)) λv11 Kc F l11 A0e q11=>?_;subst q11;have o:Ai Fh Kc:=F;clear A0e V J;have gF:Ai hA (Be hB.lg (Ab Kc)):=⟨(((C.trans W).trans f).trans o).lo,(((C.trans W).trans f).trans o).Cf,C.lg⟩;generalize Be hB.lg (Ab Kc)=hF at *;clear e9 L F l9 l10 l11 W f o C;refine wk ?_;exact zr (g.trans gF) rfl
 .have k1:decide (s=t)=false:=Yg e;have Vt:(s=0/\t=1/\Aoq X Y=s-t)\/(s=1/\t=0/\Aoq X Y=s-t):=by have hs':(if n=0 then(0:Int)else 1)=s:=P;have ht':(if n2=0 then(0:Int)else 1)=t:=I;have eX':X=0 ↔ n=0:=U;have eY':Y=0 ↔ n2=0:=O;subst hs' ht';unfold Aoq;omega
  clear e U O P I hX hY G;rcases Vt with⟨rfl,rfl,hz⟩|⟨rfl,rfl,hz⟩<;>rw[hz]<;>clear hz<;>refine wk ?_<;>exact zr (g.trans C) rfl
open Go.Proofs.YtahaaiadlgfchaaGreatDoor
abbrev N0x:=1048576
noncomputable abbrev PP:Program:=prog
noncomputable abbrev CT(T:Df)(d:Nat):Ac:=cQ PP Um T d
noncomputable abbrev CA(d:Nat):Ac:=CT (λ_ _=>none) d
variable {D:Nat}{T:Df}{h1:H}{Q:AV->H->Prop}{q:Bool}{g:FuncId}{args:uz}
def upT(c:T g args=none)(f:Ah h0 Q (Ay PP (CT T d) N0x q g args h)):Ah h0 Q ((CT T (d+1)).call g args h):=by have⟨v,_,h2,e⟩:=f;refine⟨v,_,?_,e⟩;rw[Cbe h c];exact Jn (Ye _) h2
def upA(c:Ah h0 Q (Ay PP (CA d) N0x q g args h)):Ah h0 Q ((CA (d+1)).call g args h):=upT rfl c
def Ci0{l}(e:Ah h0 Q (Aze PP (CT T d) N0x false l args h)):Ah h0 Q ((CT T (d+1)).round l args h):=by have⟨v,_,h2,c⟩:=e;exact⟨v,_,A1W (Ye _) h2,c⟩
def B2s:BsQ (CA (D+1)):=λs e h hb h1 h2 c=>upA (Ccj _ _ (by grind) hb h1 h2 c)
def CqE:BtN (CA (D+1)):=λv h h0 c=>upA (B3w _ _ h0 c)
def CqD:BtM (CA (D+1)):=λk h c=>upA (B3v _ _ c)
def CqF:BtO (CA (D+1)):=λb h=>upA (B3x _ _ b)
def Ck8:BtJ (CA (D+2)):=λv h h0 e c=>upA (B3s _ _ CqE CqD CqF h0 e c)
def Ck7:BtI (CA (D+1)):=λv h c=>upA (B3r _ _ c)
def B6h:BtK (CA (D+1)):=λb n v cap ex e pr mid c h i hb f hn j=>upA (B3t _ _ (by grind) i hb f hn j)
def Cq7:BtF (CA (D+3)):=λv h c e=>upA (B3n _ _ Ck7 Ck8 B6h c e)
def Cq3:BtD (CA (D+4)):=λv h c e=>upA (B3g _ _ Cq7 c e)
def Bpk(Z:Ac):=∀n h,Num n->AeZ h->Ah h (λr _=>r=.str (V8 n)) (Z.call 241 [iI n] h)
def Cqt:Bpk (CA (D+5)):=λn h hn c=>upA (B2R _ _ Cq3 hn c)
def B8t:BsS (CA (D+3)):=by unfold BsS;intros;refine upA (Ccs _ _ Ck7 Ck8 B6h ?_ ?_)<;>assumption
def B8q:Btd (CA (D+1)):=λb c h h1 h2=>upA (Cdh _ _ h1 h2)
def B8i:Btc (CA (D+2)):=by unfold Btc;intros;refine upA (Cdd _ _ (by grind) B8q ?_ ?_ ?_)<;>assumption
def B8h:B1f (CA (D+1)):=λv h=>upA (Cdc _ _ (by grind) v)
def B8g:B1e (CA (D+1)):=λh=>upA (Cdb _ _ (by grind))
def B7T:B1c (CA (D+3)):=λs h h1 h2 c=>upA (CcU _ _ B8g B8i B8h h1 h2 c)
def Btt:Bl8 (CA (D+4)):=λn h hn=>upA (CcI _ _ B7T hn)
def B7O:B1a (CA (D+5)):=λn h hn=>upA (CcS _ _ Btt hn)
def B8p:B1j (CA (D+1)):=λs h h1 h2=>upA (Cdg _ _ h1 h2)
def B8f:B1d (CA (D+2)):=λs h h1 h2=>upA (Cda _ _ B8p h1 h2)
def B7S:B1b (CA (D+3)):=λs h h1 h2=>upA (CcT _ _ B8f h1 h2)
def c196:BsW (CA (D+5)):=λn h hn=>upA (CcH _ _ B7S Btt hn)
def BlI:BcD (CA (D+1)):=λv ls h k h1 h2=>upA (CbX _ _ (by grind) k h1 h2)
def B7U:BsP (CA (D+2)):=λs h h1 h2 c=>upA (CbW _ _ B2s h1 h2 c)
def c198:Bl0 (CA (D+3)):=λn h hn=>upA (CbL _ _ (by grind) B7U BlI hn)
def Bt0:Bh2 (CA (D+1)):=λv ls h k=>upA (CbN _ _ k)
def B7V:B0E (CA (D+1)):=λv ls h k=>upA (CbZ _ _ k)
def BlL d:BfM (CA (d+1)) (CA d):=λls v c l f e h h1 h2 k i j=>upA (Ccn _ _ (by grind) _ v c l _ _ h h1 h2 k i j)
def BlJ:BfL (CA (D+1)):=λv ls h k=>upA (Cca _ _ k)
def B7K:B0A (CA (D+1)):=λa h=>upA (CbI _ _ a)
def B7F:B07 (CA (D+2)):=λa b h=>upA (CbF _ _ B7K a b)
def B8l:B0M (CA (D+1)):=λa h=>upA (Cco _ _ a)
def B7W:B0F (CA (D+2)):=λa b h=>upA (Cce _ _ B8l a b)
def B2u:BsR (CA (D+1)):=λn h hn=>upA (Ccm _ _ (by grind) hn)
def d279 d:BhJ (CA (d+1)):=by intro v ls l h X P W U p O K u I R V bO bQ Y e r x i k Q a1 a2 C F E L o j G t M f J A B c;exact Ci0 (BxL _ _ a1 a2 C F E L o j G t M f J A B c)
def B2t:Bl4 (CA (D+3)):=λv ls d h k h1 h2 e c=>upA (Ccl _ _ _ BlJ (BlL _) (d279 _) BlI k h1 h2 e c)
def d206 d:BhH (CA (d+3)):=by intro v v2 ls l2 l h M F J E I L f B k t G O K x y i a1 a2 o u p C e c A j;exact Ci0 (BxI _ _ (z:=t) B7W a1 a2 o u p C e c A j)
def B1C:Bl3 (CA (D+5)):=by unfold Bl3;intros;refine upA (CbS _ _ _ B7F BlJ (BlL _) (d206 _) ?_ ?_ ?_)<;>assumption
def B2q:Bh5 (CA (D+7)):=λv v2 n d h k c h1 h2 e=>upA (CbY _ _ B1C B2t B2u k c h1 h2 e)
def B1B:Bl1 (CA (D+8)):=λv v2 n d h k c h1 h2=>upA (CbM _ _ (by grind) B2q k c h1 h2)
def BvB:Bl5 (CA (D+4)):=λv h c e=>upA (Ccp _ _ B8t c e)
def B8c:B0H (CA (D+5)):=λv n h k hn c=>upA (Ccg _ _ BvB k hn c)
def B10:Bpl (CA (D+1)):=λb s h k=>upA (B2W _ _ k)
def Btr:Bm5 (CA (D+2)):=λb s t h k c e=>upA (B27 _ _ B10 k c e)
def B1y:Bph (CA (D+1)):=λb s h k h1 h2 c=>upA (B28 _ _ k h1 h2 c)
def d263 d:BhI (CA (d+5)):=by intro U V M O R f L I i F k G p t E B j K o P b l x s h a1 a2 u C A J e c;exact Ci0 (BxK _ _ BvB Btr a1 a2 u C A J e c)
def B8d:B0I (CA (D+7)):=λv n h k hn c=>upA (Cch _ _ _ BvB Btr B1y BlJ (BlL _) (d263 _) k hn c)
def B8b:B0G (CA (D+2)):=λh=>upA (Ccf _ _ B2u)
def B7P:B0B (CA (D+9)):=λv v2 n d h k c h1 h2 e=>upA (CbT _ _ B7V B8b Bt0 B1B B2q k c h1 h2 e)
def B7Q:B0C (CA (D+8)):=λx y n d h k e h1 h2 c=>upA (CbU _ _ B8c B8d Bt0 k e h1 h2 c)
def Bm6(Z:Ac):=∀(n d:Nat) h,n<1000000000->d<1000000000->0<d->AeZ h->Ah h (λr _=>r=.Bj [.str (fTx (n/Nat.gcd n d) (d/Nat.gcd n d)),iI 0]) (Z.call 287 [.str (V8 n),.str (V8 d)] h)
def B08(Z:Ac):=∀(n d:Nat) h,n<1000000000->d<1000000000->0<d->Nat.gcd n d=1->Ah h (λr _=>r=.Bj [.str (V8 n),.str (V8 d),iI 0]) (Z.call 293 [.str (fTx n d)] h)
def B7J:Bm6 (CA (D+10)):=λn d h h1 h2 e c=>upA (CbH _ _ c196 B7O c198 B7P B7Q h1 h2 e c)
def B8o:B0Q (CA (D+1)):=λs h=>upA (Ccq ..)
def B8e:B0J (CA (D+2)):=λs h=>upA (Cci _ _ B8o)
def B7R:B0D (CA (D+3)):=λs a b f h h1 h2=>upA (CbV _ _ B8e h1 h2)
def B1z:BsO (CA (D+4)):=λs a b f h h1 h2=>upA (CbK _ _ B7R h1 h2)
def B7H:B09 (CA (D+9)):=λn d h h1 h2 e c=>upA (CbG _ _ B1z c196 Btt c198 B1B Bt0 h1 h2 e c)
def c92:Ckj (CA (D+10)):=λn d h h1 h2 e c=>upA (CwU _ _ B7H h1 h2 e c)
def B1x:B08 (CA (D+11)):=λn d h h1 h2 e c=>upA (B5w _ _ c92 B1z h1 h2 e c)
def CaM:CaG (CA (D+2)):=λv v2 a b h k c ha hb=>upA (CvR _ _ (by grind) BlI k c ha hb)
def Ckq:Ckc (CA (D+1)):=λv v2 a b h k e c=>upA (Cw7 _ _ (by grind) k e c)
def Ckr:Ckd (CA (D+2)):=λv v2 a b h k e c hb=>upA (Cw8 _ _ (by grind) BlI k e c hb)
def Cko:Cka (CA (D+10)):=λv w n d n2 d2 h k j a b c e f g i=>upA (Cwz _ _ CaM B7P k j a b c e f g i)
def Cqc:CjX (CA (D+1)):=λv n d h k=>upA (Cwv _ _ k)
def Cqd:CpK (CA (D+11)):=λv w n d n2 d2 h k j a b c e f g i=>upA (CwG _ _ Cqc Cko k j a b c e f g i)
def Cqf:Ckg (CA (D+2)):=λv n d h k h0=>upA (CwJ _ _ B7V k h0)
def Ckp:Ckb (CA (D+10)):=λv w m n d n2 d2 h k p a b c e f g i j l o=>upA (Cw0 _ _ CaM B1C Ckq Ckr B7P k p a b c e f g i j l o)
def Cqe:CpL (CA (D+11)):=λv w n d n2 d2 h k o a b c e f g i j l=>upA (CwH _ _ Cqf Ckp k o a b c e f g i j l)
def Ckn:Cf0 (CA (D+2)):=λv n d h k=>upA (CvQ _ _ B7V k)
def Cqb:Cp7 (CA (D+6)):=λv w n d n2 d2 h k i a b c e f g=>upA (CvJ _ _ Ckn CaM B1C k i a b c e f g)
def GP.pow(p:GP h):AeZ h:=⟨(AjB p.g ⟨2,gl2,_⟩ (by unfold Um;simp)).trans rfl,by have:=p.lt;omega⟩
def GP.init:GP (glH Um PP.globals.size):=⟨rfl,by decide⟩
def A5E{v}(e:AsH PP Um T)(hb:Bg PP g=true)(c:Plain v)(f:∀h,GP h->Ah h (λr _=>r=v) ((CT T d).call g args h)):Nx PP Um ⟨g,args,v⟩:=B4k (λ{_}=>Bll mixed Nk Jq e d) Jq hb c (f _ GP.init)
def A9y{v}(hb:Bg PP g=true)(c:Plain v)(e:∀h,GP h->Ah h (λr _=>r=v) ((CA d).call g args h)):Nx PP Um ⟨g,args,v⟩:=A5E .none hb c e
def wN{x}(e:Adw.Fr x){f A B}(i:B09 Z)(l:∀r c,Ai h c->FrS c false x.1 x.2 r->Ah c (λu _=>u=.Bj [A,B]) (cvV f [r] PP Z c)):Ah h (λu _=>u=.Bj [A,B]) (Ay PP Z N true 78 [.str (fTx x.1 x.2),f] h):=by rw[Csc];refine Fj (i _ _ h e.n e.d e.p e.g) λv1 h1 e1 l1 G E=>?_;obtain⟨a,b,j,k,rfl⟩:=E;refine Ey rfl (Ey rfl ?_);apply Ey rfl;apply Ey (st3 _ (AiZ j) (AiZ k) (Bf _));have g2:=((Ai.refl _).new _:Ai _ (h1.new (cd z3 95))).put _ (cd [ct,a,b] 95) (Ye _);refine Ey ((λc=>rfl) _) (Ae5 (Ey ((Agy.of (hA:=(h1.new _).put _ (cd _ _)) ⟨Y3 _,_,_,A2 ..,trivial⟩).l3 _ (Bi.refl _)) (Fj (l _ _ (e1.trans g2) ⟨a,b,rfl,j.gr g2,k.gr g2⟩) λv3 I o t C F=>?_)));subst F;exact Ey rfl (Ey rfl (Lo ((e1.trans g2).trans o) rfl))
def yN{F}{s}{x y}{c bx}{A B}(hb:Bg PP F=true)(l:c<h.nx)(i:h.m.get c=cd [.fn (.func F) [] []] 178)(e:bx<h.nx)(t:h.m.get bx=cd [ct,x,y] 95)(p:∃n d,FrS h false n d s)(E:∀hh,Ai h hh->Ah hh (λu _=>u=.Bj [A,B]) (Z.call F [.agg [ct,x,y],s] hh)):Ah h (λu _=>u=.Bj [A,B]) (Ay PP Z N true 151 [s,.ptr c 0,.ptr bx 0] h):=by obtain⟨_,_,a,b,rfl,_,_⟩:=p;rw[Csu];apply Ey rfl;have g1:Ai h (h.new (cd [ct,a,b] 95)):=(Ai.refl h).new _;refine Ey ((⟨l,_,_,i,trivial⟩:Nv h ..).one rfl _ g1.keeps) (Ey ((Agy.of ⟨e,_,_,t,trivial⟩).l3 _ g1.keeps) (Ey ((Agy.of (hA:=h.new (cd _ _)) ⟨Y3 _,_,_,Bf _,trivial⟩).l3 _ (Bi.refl _)) (Fj (by simp_all:Ah (h.new (cd [ct,a,b] 95)) (λu _=>u=.Bj [A,B]) _) λv3 C f j k o=>?_)));subst o;exact Ey rfl (Ey rfl (Lo (g1.trans f) rfl))
def xN{F}{x y:Adw.Ad2}{r A B}{bb i}(hb:Bg PP F=true)(hy:Adw.Fr y)(J:bb<h.nx)(E:h.m.get bb=cd [.str (fTx y.1 y.2)] 28)(j:i<h.nx)(o:h.m.get i=cd [.fn (.func F) [] []] 178)(kr:FrS h false x.1 x.2 r)(K:∀r s c,Ai h c->FrS c false x.1 x.2 r->FrS c false y.1 y.2 s->Ah c (λu _=>u=.Bj [A,B]) ((CA (D+20)).call F [r,s] c)):Ah h (λu _=>u=.Bj [A,B]) (Ay PP (CA (D+22)) N true 150 [r,.ptr bb 0,.ptr i 0] h):=by
 obtain⟨a,b,rfl,l,I⟩:=kr;rw[Cst];apply Ey rfl;have g1:Ai h (h.new (cd [ct,a,b] 95)):=(Ai.refl h).new _;refine Ey ((⟨J,_,_,E,trivial⟩:Nv h ..).one rfl _ g1.keeps) (Fj (show Ah _ (λu _=>u=.Bj [A,B]) _ from upA (wN _ _ hy B7H λs c e k=>?_)) λv3 L C p t G=>?_);. exact upA (yN _ _ hb (Yy j (g1.trans e).lo) (((g1.trans e).Cf _ j).trans o) (Yy (Y3 _) e.lo) ((e.Cf _ (Y3 _)).trans (Bf _)) ⟨_,_,k⟩ λhz f=>K _ _ _ ((g1.trans e).trans f) ⟨a,b,rfl,l.gr ((g1.trans e).trans f),I.gr ((g1.trans e).trans f)⟩ (k.gr f))
 .subst G;exact Ey rfl (Ey rfl (Lo (g1.trans C) rfl))
def bN{F:FuncId}{x y:Adw.Ad2}{A B:AV}(hb:Bg PP F=true)(o:Adw.Fr x)(hy:Adw.Fr y)(p:∀r s c,Ai h c->FrS c false x.1 x.2 r->FrS c false y.1 y.2 s->Ah c (λu _=>u=.Bj [A,B]) ((CA (D+20)).call F [r,s] c)):Ah h (λu _=>u=.Bj [A,B]) ((CA (D+25)).call 109 [.str (fTx x.1 x.2),.str (fTx y.1 y.2),.fn (.func F) [] []] h):=by
 apply upA (q:=true);rw[Csi];refine Ey rfl (Ey (v:=.ptr (h.nx+1) 0) rfl ?_);have g1:Ai h ((h.new (cd [.str (fTx y.1 y.2)] 28)).new (cd [.fn (.func F) [] []] 178)):=((Ai.refl h).new _).new _;have n1:((h.new (cd [.str (fTx y.1 y.2)] 28)).new (cd [.fn (.func F) [] []] 178)).nx=h.nx+2:=rfl;refine Fj (show Ah _ (λu _=>u=.Bj [A,B]) _ from upA (wN _ _ o B7H λr c e kr=>?_)) λv3 t j i k l=>?_;. have el:=e.lo;exact upA (xN _ hb hy om ((e.Cf _ om).trans ((Cq _ _ (by simp)).trans (Bf _))) om ((e.Cf _ om).trans (Bf _)) kr λr s hz f=>p r s _ ((g1.trans e).trans f))
 .subst l;exact Ey rfl (Ey rfl (Lo (g1.trans j) rfl))
def wI{x}(e:Adw.Fr x){f A B}(i:B09 Z)(l:∀r c,Ai h c->FrS c false x.1 x.2 r->Ah c (λu _=>u=.Bj [A,B]) (cvV f [r] PP Z c)):Ah h (λu _=>u=.Bj [A,B]) (Ay PP Z N true 84 [.str (fTx x.1 x.2),f] h):=by rw[Crt];refine Fj (i _ _ h e.n e.d e.p e.g) λv1 h1 e1 l1 G E=>?_;obtain⟨a,b,j,k,rfl⟩:=E;refine Ey rfl (Ey rfl ?_);apply Ey rfl;apply Ey (st3 _ (AiZ j) (AiZ k) (Bf _));have g2:=((Ai.refl _).new _:Ai _ (h1.new (cd z3 95))).put _ (cd [ct,a,b] 95) (Ye _);refine Ey ((λc=>rfl) _) (Ae5 (Ey ((Agy.of (hA:=(h1.new _).put _ (cd _ _)) ⟨Y3 _,_,_,A2 ..,trivial⟩).l3 _ (Bi.refl _)) (Fj (l _ _ (e1.trans g2) ⟨a,b,rfl,j.gr g2,k.gr g2⟩) λv3 I o t C F=>?_)));subst F;exact Ey rfl (Ey rfl (Lo ((e1.trans g2).trans o) rfl))
def yI{F}{s}{x y}{c bx}{A B}(hb:Bg PP F=true)(l:c<h.nx)(i:h.m.get c=cd [.fn (.func F) [] []] 97)(e:bx<h.nx)(t:h.m.get bx=cd [ct,x,y] 95)(p:∃n d,FrS h false n d s)(E:∀hh,Ai h hh->Ah hh (λu _=>u=.Bj [A,B]) (Z.call F [.agg [ct,x,y],s] hh)):Ah h (λu _=>u=.Bj [A,B]) (Ay PP Z N true 86 [s,.ptr c 0,.ptr bx 0] h):=by obtain⟨_,_,a,b,rfl,_,_⟩:=p;rw[Crv];apply Ey rfl;have g1:Ai h (h.new (cd [ct,a,b] 95)):=(Ai.refl h).new _;refine Ey ((⟨l,_,_,i,trivial⟩:Nv h ..).one rfl _ g1.keeps) (Ey ((Agy.of ⟨e,_,_,t,trivial⟩).l3 _ g1.keeps) (Ey ((Agy.of (hA:=h.new (cd _ _)) ⟨Y3 _,_,_,Bf _,trivial⟩).l3 _ (Bi.refl _)) (Fj (by simp_all:Ah (h.new (cd [ct,a,b] 95)) (λu _=>u=.Bj [A,B]) _) λv3 C f j k o=>?_)));subst o;exact Ey rfl (Ey rfl (Lo (g1.trans f) rfl))
def xI{F}{x y:Adw.Ad2}{r A B}{bb i}(hb:Bg PP F=true)(hy:Adw.Fr y)(J:bb<h.nx)(E:h.m.get bb=cd [.str (fTx y.1 y.2)] 28)(j:i<h.nx)(o:h.m.get i=cd [.fn (.func F) [] []] 97)(kr:FrS h false x.1 x.2 r)(K:∀r s c,Ai h c->FrS c false x.1 x.2 r->FrS c false y.1 y.2 s->Ah c (λu _=>u=.Bj [A,B]) ((CA (D+20)).call F [r,s] c)):Ah h (λu _=>u=.Bj [A,B]) (Ay PP (CA (D+22)) N true 85 [r,.ptr bb 0,.ptr i 0] h):=by
 obtain⟨a,b,rfl,l,I⟩:=kr;rw[Cru];apply Ey rfl;have g1:Ai h (h.new (cd [ct,a,b] 95)):=(Ai.refl h).new _;refine Ey ((⟨J,_,_,E,trivial⟩:Nv h ..).one rfl _ g1.keeps) (Fj (show Ah _ (λu _=>u=.Bj [A,B]) _ from upA (wI _ _ hy B7H λs c e k=>?_)) λv3 L C p t G=>?_);. exact upA (yI _ _ hb (Yy j (g1.trans e).lo) (((g1.trans e).Cf _ j).trans o) (Yy (Y3 _) e.lo) ((e.Cf _ (Y3 _)).trans (Bf _)) ⟨_,_,k⟩ λhz f=>K _ _ _ ((g1.trans e).trans f) ⟨a,b,rfl,l.gr ((g1.trans e).trans f),I.gr ((g1.trans e).trans f)⟩ (k.gr f))
 .subst G;exact Ey rfl (Ey rfl (Lo (g1.trans C) rfl))
def bI{F:FuncId}{x y:Adw.Ad2}{A B:AV}(hb:Bg PP F=true)(o:Adw.Fr x)(hy:Adw.Fr y)(p:∀r s c,Ai h c->FrS c false x.1 x.2 r->FrS c false y.1 y.2 s->Ah c (λu _=>u=.Bj [A,B]) ((CA (D+20)).call F [r,s] c)):Ah h (λu _=>u=.Bj [A,B]) ((CA (D+25)).call 36 [.str (fTx x.1 x.2),.str (fTx y.1 y.2),.fn (.func F) [] []] h):=by
 apply upA (q:=true);rw[Crm];refine Ey rfl (Ey (v:=.ptr (h.nx+1) 0) rfl ?_);have g1:Ai h ((h.new (cd [.str (fTx y.1 y.2)] 28)).new (cd [.fn (.func F) [] []] 97)):=((Ai.refl h).new _).new _;have n1:((h.new (cd [.str (fTx y.1 y.2)] 28)).new (cd [.fn (.func F) [] []] 97)).nx=h.nx+2:=rfl;refine Fj (show Ah _ (λu _=>u=.Bj [A,B]) _ from upA (wI _ _ o B7H λr c e kr=>?_)) λv3 t j i k l=>?_;. have el:=e.lo;exact upA (xI _ hb hy om ((e.Cf _ om).trans ((Cq _ _ (by simp)).trans (Bf _))) om ((e.Cf _ om).trans (Bf _)) kr λr s hz f=>p r s _ ((g1.trans e).trans f))
 .subst l;exact Ey rfl (Ey rfl (Lo (g1.trans j) rfl))
variable {r s:AV}{x y z:Adw.Ad2}
abbrev ftx(x:Adw.Ad2):=fTx x.1 x.2
abbrev okN(z:Adw.Ad2):AV:=.Bj [.str (ftx z),iI 0]
def B63{Φ:OR->Prop}{m c}{x y f e}{k:AV->AV->H->OR}(i:∀hA b,Ai h hA->Agy hA b m x y->Agy hA (b+1) c f e->Φ (k (.ptr b 0) (.ptr (b+1) 0) hA)):
 Φ (Aa (Oy 95 (.agg [.bool m,x,y]) h) λv1 h1=>Aa (Oy 95 (.agg [.bool c,f,e]) h1) λv2 h2=>k v1 v2 h2):=by
 refine Ey rfl (Ey rfl (i _ _ (((Ai.refl h).new _).new _) (.of ⟨by show h.nx<h.nx+2;simp,95,.exact,?_,trivial⟩) (.of ⟨by simp,95,.exact,?_,trivial⟩)));. rw[Cq _ _ (by simp)];simp
 .exact Bf _
def By7{h0 h1}{v}(c:B0C Z)(hz:Adw.Fr z)(f:AeZ h1)(k:FrS h1 false z.1 z.2 v)(g:Ai h0 h1):Ah h0 (λu _=>u=okN z) (Aa (Z.call 83 [v] h1) λe j=>Aa (L9 e 0 j) λF B=>Aa (L9 e 1 B) λl o=>.ok (.Bj [F,l]) o):=by obtain⟨a,b,rfl,i,C⟩:=k;refine Fj (c a b _ _ _ i C (T8 hz.n) (T8 hz.d) f) λv3 G t p A E=>?_;subst E;exact Ey rfl (Ey rfl (Lo (g.trans t) rfl))
def Cv2{m p}{n d n2 d2}(c:B0C Z)(hz:Adw.Fr z)(j:AeZ h)(k:FrS h m n d r)(o:FrS h p n2 d2 s)(B:∀hh,Ai h hh->Ah hh (λu h1=>FrS h1 false z.1 z.2 u) (Z.call 111 [r,s] hh)):Ah h (λu _=>u=okN z) (Ay PP Z N true 110 [r,s] h):=by obtain⟨a,b,rfl,F,I⟩:=k;obtain⟨a2,b2,rfl,l,E⟩:=o;rw[Csj];exact B63 λhA b g f e=>Ey (f.l3 _ (Bi.refl _)) (Ey (e.l3 _ (Bi.refl _)) (Fj (B _ g) λv3 G i t A C=>By7 Z c hz (j.gr (g.trans i)) C (g.trans i)))
def Cv3{m p}{n d n2 d2}(c:B0C Z)(hz:Adw.Fr z)(j:AeZ h)(k:FrS h m n d r)(o:FrS h p n2 d2 s)(B:∀hh,Ai h hh->Ah hh (λu h1=>FrS h1 false z.1 z.2 u) (Z.call 113 [r,s] hh)):Ah h (λu _=>u=okN z) (Ay PP Z N true 112 [r,s] h):=by obtain⟨a,b,rfl,F,I⟩:=k;obtain⟨a2,b2,rfl,l,E⟩:=o;rw[Csl];exact B63 λhA b g f e=>Ey (f.l3 _ (Bi.refl _)) (Ey (e.l3 _ (Bi.refl _)) (Fj (B _ g) λv3 G i t A C=>By7 Z c hz (j.gr (g.trans i)) C (g.trans i)))
def Cv5{m p}{n d n2 d2}(c:B0C Z)(hz:Adw.Fr z)(j:AeZ h)(k:FrS h m n d r)(o:FrS h p n2 d2 s)(B:∀hh,Ai h hh->Ah hh (λu h1=>FrS h1 false z.1 z.2 u) (Z.call 292 [r,s] hh)):Ah h (λu _=>u=okN z) (Ay PP Z N true 291 [r,s] h):=by obtain⟨a,b,rfl,F,I⟩:=k;obtain⟨a2,b2,rfl,l,E⟩:=o;rw[CsN];exact B63 λhA b g f e=>Ey (f.l3 _ (Bi.refl _)) (Ey (e.l3 _ (Bi.refl _)) (Fj (B _ g) λv3 G i t A C=>By7 Z c hz (j.gr (g.trans i)) C (g.trans i)))
def Cv4{n d n2 d2}(j:Cf0 Z)(f:B0C Z)(hz:Adw.Fr z)(B:AeZ h)(k:FrS h false n d r)(F:FrS h false n2 d2 s)(h0:n2≠0)(G:∀hh,Ai h hh->Ah hh (λu h1=>FrS h1 false z.1 z.2 u) (Z.call 290 [r,s] hh)):Ah h (λu _=>u=okN z) (Ay PP Z N true 289 [r,s] h):=by obtain⟨a,b,rfl,J,M⟩:=k;obtain⟨a2,b2,rfl,i,l⟩:=F;rw[CsL];refine B63 λhA b g o c=>Ey (c.l3 _ (Bi.refl _)) (Fj (j _ _ _ _ ⟨_,_,rfl,i.gr g,l.gr g⟩) λv3 L e E t A=>?_);subst A;rw[X2 h0];exact Ey rfl (Ae5 (Ey (o.l3 _ e.keeps) (Ey (c.l3 _ e.keeps) (Fj (G _ (g.trans e)) λv4 K p l4 I C=>By7 Z f hz (B.gr ((g.trans e).trans p)) C ((g.trans e).trans p)))))
def Cv0{n d n2 d2}{c}(j:c=-1\/c=0\/c=1)(k:FrS h false n d r)(o:FrS h false n2 d2 s)(A:∀e,Ai h e->Ah e (λu h1=>u=iI c) (Z.call 38 [r,s] e)):Ah h (λu _=>u=.Bj [iI c,iI 0]) (Ay PP Z N true 37 [r,s] h):=by obtain⟨a,b,rfl,F,I⟩:=k;obtain⟨a2,b2,rfl,l,E⟩:=o;rw[Crn];refine B63 λhA b g i f=>Ey (i.l3 _ (Bi.refl _)) (Ey (f.l3 _ (Bi.refl _)) (Fj (A _ g) λv3 G p t B C=>?_));subst C;exact Ey ((λe=>by rcases j with rfl|rfl|rfl<;>rfl:∀e,mm _ _ e=.ok (iI c) e) _) (Ey ((λe=>by rcases j with rfl|rfl|rfl<;>rfl:∀e,mm _ _ e=.ok _ e) _) (Lo (g.trans p) rfl))
def BxS a b:Aoq a b=-1\/Aoq a b=0\/Aoq a b=1:=by unfold Aoq;omega
def Bkv{n d}(h:Adw.rdO n d=some z):n<Adw.AdE/\d<Adw.AdE/\0<d/\z=Adw.rd n d:=by have⟨_,_,_⟩:=Adw.AtP h;grind
def CuP(c:Adw.Fr x)(hy:Adw.Fr y)(hz:Adw.Bcb x y=some z)(j:GP h):Ah h (λu _=>u=okN z) ((CA (D+26)).call 73 [.str (ftx x),.str (ftx y)] h):=by obtain⟨b1,b2,t,rfl⟩:=Bkv hz;apply upA;rw[CrZ];refine Fj (bN rfl c hy λr s A e kr i=>upA (Cv2 _ _ B7Q (Adw.AtP hz).1 (j.gr e).pow kr i λhz f=>Cko _ _ _ _ _ _ _ (kr.gr f) (i.gr f) c.n c.d hy.n hy.d b1 b2 t)) λv3 B l k o p=>?_;subst p;exact Ey rfl (Ey rfl (Lo l rfl))
def CuQ(c:Adw.Fr x)(hy:Adw.Fr y)(hz:Adw.A7s x y=some z)(j:GP h):Ah h (λu _=>u=okN z) ((CA (D+26)).call 74 [.str (ftx x),.str (ftx y)] h):=by obtain⟨b1,b2,t,rfl⟩:=Bkv hz;apply upA (q:=true);rw[Csa];refine Fj (bN rfl c hy λr s A e kr i=>upA (Cv3 _ _ B7Q ((Adw.AtP hz).1) (j.gr e).pow kr i λhz f=>Ckp r s _ _ _ _ _ _ (kr.gr f) (i.gr f) c.n c.d hy.n hy.d om om b2 b1 λh=>by grind t)) λv3 B l k o p=>?_;subst p;exact Ey rfl (Ey rfl (Lo l rfl))
def CuS(f:Adw.Fr x)(hy:Adw.Fr y)(hz:Adw.BmU x y=some z)(k:GP h):Ah h (λu _=>u=okN z) ((CA (D+26)).call 279 [.str (ftx x),.str (ftx y)] h):=by
 unfold Adw.BmU at hz;split at hz;. rename_i c;obtain⟨b1,b2,A,rfl⟩:=Bkv hz;apply upA (q:=true);rw[CsA];refine Fj (bN rfl f hy λr s B e kr j=>upA (Cv5 _ _ B7Q (Adw.AtP hz).1 (k.gr e).pow kr j λhz i=>Cqe r s _ _ _ _ _ (kr.gr i) (j.gr i) f.n f.d hy.n hy.d c.2.2 c.2.1 b2 c.1 A)) λv3 C o l p t=>?_;subst t;exact Ey rfl (Ey rfl (Lo o rfl))
 grind
def CuR(c:Adw.Fr x)(hy:Adw.Fr y)(hz:Adw.A0N x y=some z)(j:GP h):Ah h (λu _=>u=okN z) ((CA (D+26)).call 278 [.str (ftx x),.str (ftx y)] h):=by
 unfold Adw.A0N at hz;split at hz;. grind
 .rename_i A;obtain⟨b1,b2,t,rfl⟩:=Bkv hz;apply upA;rw[Cs9];refine Fj (bN rfl c hy λr s B e kr i=>upA (Cv4 _ _ Ckn B7Q (Adw.AtP hz).1 (j.gr e).pow kr i A λhz f=>Cqd r s _ _ _ _ _ (kr.gr f) (i.gr f) c.n c.d hy.n hy.d b1 b2 t)) λv3 C l k o p=>?_;subst p;exact Ey rfl (Ey rfl (Lo l rfl))
def AsG(x y:Adw.Ad2):=Aoq (x.1*y.2:Nat) (y.1*x.2:Nat)
def m93(c:Adw.Fr x)(hy:Adw.Fr y):Ah h (λu _=>u=.Bj [iI (AsG x y),iI 0]) ((CA (D+26)).call 11 [.str (ftx x),.str (ftx y)] h):=by apply upA;rw[e93];refine Fj (bI rfl c hy λr s t e kr i=>upA (Cv0 _ _ (BxS ..) kr i λhz f=>Cqb r s _ _ _ _ _ (kr.gr f) (i.gr f) c.n c.d hy.n hy.d c.p hy.p)) λv3 A j k l o=>?_;subst o;exact Ey rfl (Ey rfl (Lo j rfl))
variable {a b:Nat}
abbrev dgn(n:Nat):uw:=V8 n
abbrev okD(n:Nat):AV:=.Bj [.str (dgn n),iI 0]
def AoK(h:a<Adw.AdE):Num a:=⟨by simp,by grind⟩
def CfA:=∀b h,b<h.nx->h.m.get b=cd [iI 0,iI 0] 35->Ah h (λu _=>u=iI 0) (Z.call 305 [.sl b 0 2 2 1 true] h)
def CwK(i:3<N){b}(hb:b<h.nx)(e:h.m.get b=cd [iI 0,iI 0] 35):Ah h (λu _=>u=iI 0) (Ay PP Z N true 305 [.sl b 0 2 2 1 true] h):=by obtain⟨f,rfl⟩:∃m,N=m+3:=⟨N-3,by omega⟩;have w0:∀c,Gc 1 (.sl b 0 2 2 1 true) (iI 0) c=.ok ..:=λc=>A6n (by simp) _;have w1:∀c,Gc 1 (.sl b 0 2 2 1 true) (iI 1) c=.ok ..:=λc=>A6n (by simp) _;rw[CsZ];refine wk ?_;rw[BiM];refine wk ?_;rw[BiM];refine wk ?_;rw[BiM];exact wk (zr (Ai.refl h) rfl)
def CpM:=∀v n h,NtS h v (lbN n)->n<Adw.AdE->AeZ h->Ah h (λu _=>u=okD n) (Z.call 302 [v] h)
def CwI(f:B0H Z)(e:B0I Z){n}(k:NtS h v (lbN n))(hn:n<Adw.AdE)(i:AeZ h):Ah h (λu _=>u=okD n) (Ay PP Z N true 302 [v] h):=by
 rw[CsX];refine Fj (f v n h k (T8 hn) i) λv1 h1 e1 l1 t p=>?_;obtain⟨c,rfl,c0,c1⟩:=p;have o:∀j,Aj prog .gtr 3 true (iI c) (iI 4000) j=.ok ..:=λj=>by show OR.ok (.bool (ilt _ c)) _=_;rw[Il,Yg om]
 refine Ey (o _) (Ae5 (Fj (e v n _ (k.gr e1) (T8 hn) (i.gr e1)) λv2 h2 B l2 l A=>?_));subst A;exact Lo (e1.trans B) rfl
def Clg{Φ:OR->Prop}{k:AV->AV->H->OR}(c:B1a Z)(f:CfA Z)(ha:a<Adw.AdE)(hb:b<Adw.AdE)(j:∀e,Ai h e->Φ (k (iI 0) ct e)):Φ (Aa (Z.call 303 [.str (dgn a)] h) λv1 h1=>Aa (Z.call 303 [.str (dgn b)] h1) λv2 h2=>Aa (Bh 35 1 2 [iI 0,iI 0] [(0,1,v1),(1,1,v2)] h2) λv3 A=>Aa (Z.call 305 [v3] A) λv4 i=>Aa (Aj prog .neq 35 true v4 (iI 0) i) λB e=>k v4 B e):=by refine Fj (c _ h (AoK ha)) λv1 h1 e1 l1 C t=>?_;subst t;refine Fj (c _ _ (AoK hb)) λv2 h2 F l2 l E=>?_;subst E;refine Ey rfl (Fj (f _ _ (Y3 _) (Bf _)) λv4 i u l4 p o=>?_);subst o;refine Ey rfl (j _ (((e1.trans F).trans ((Ai.refl _).new _)).trans u))
def Ciz(i:B1a Z)(e:CfA Z)(c:Bl0 Z){F}{A B}(J:Bg PP F=true)(ha:a<Adw.AdE)(hb:b<Adw.AdE)(E:∀x y hh,Ai h hh->NtS hh x (lbN a)->NtS hh y (lbN b)->Ah hh (λu _=>u=.Bj [A,B]) (Z.call F [x,y] hh)):Ah h (λu _=>u=.Bj [A,B]) (Ay PP Z N true 300 [.str (dgn a),.str (dgn b),.fn (.func F) [] []] h):=by
 rw[CsU];apply Clg Z i e ha hb;intro O g5;refine Ae5 (Fj (c _ _ (AoK ha)) λp V k W I t=>Fj (c _ _ (AoK hb)) λC l f U L o=>?_);have j:Ah l (λu _=>u=.Bj [A,B]) (cvV (.fn (.func F) [] []) [p,C] PP Z l):=by rw[AeY,Xo J];exact E _ _ _ ((g5.trans k).trans f) (t.gr f) o
 refine Fj j λX R G P M K=>?_;subst K;exact Ey rfl (Ey rfl (Lo (((g5.trans k).trans f).trans G) rfl))
def CdR:CfA (CA (D+1)):=λb h hb c=>upA (CwK _ _ (by grind) hb c)
def Cvs:CpM (CA (D+8)):=λv n h k hn c=>upA (CwI _ _ B8c B8d k hn c)
def Btk{c}(l:c<Adw.AdE)(e:AeZ h){h1}(k:NtS h1 v (lbN c))(g:Ai h h1):Ah h (λu _=>u=okD c) (Aa ((CA (D+8)).call 302 [v] h1) λv2 h2=>Aa (L9 v2 0 h2) λv3 j=>Aa (L9 v2 1 j) λv4 i=>.ok (.Bj [v3,v4]) i):=by refine Fj (Cvs v c _ k l (e.gr g)) λv2 h2 o l2 f p=>?_;subst p;exact Ey rfl (Ey rfl (Lo (g.trans o) rfl))
def CmO(c:a+b<Adw.AdE)(f:GP h):Ah h (λu _=>u=okD (a+b)) ((CA (D+11)).call 297 [.str (dgn a),.str (dgn b)] h):=by
 apply upA (q:=true);rw[CsS];refine Fj (show Ah h (λu _=>u=okD (a+b)) _ from upA (Ciz _ _ B7O CdR c198 rfl (Ql (J1 ..) c) (Ql (Nat.le_add_left ..) c) λx y A e k t=>upA (q:=true) ?_)) λv3 B i l3 j o=>?_;. rw[Cta];exact Fj (Ckq x y a b _ k t c) λv1 h1 e1 l1 p l=>Btk c (f.gr e).pow l e1
 .subst o;exact Ey rfl (Ey rfl (Lo i rfl))
def CmP(ha:a<Adw.AdE)(hb:b<Adw.AdE)(p:a*b<Adw.AdE)(c:GP h):Ah h (λu _=>u=okD (a*b)) ((CA (D+11)).call 298 [.str (dgn a),.str (dgn b)] h):=by
 apply upA (q:=true);rw[CsT];refine Fj (show Ah h (λu _=>u=okD (a*b)) _ from upA (Ciz _ _ B7O CdR c198 rfl ha hb λx y A e j t=>upA (q:=true) ?_)) λv3 B f l3 i l=>?_;. rw[Ctb];exact Fj (CaM x y a b _ j t ha hb) λv1 h1 e1 l1 o k=>Btk p (c.gr e).pow k e1
 .subst l;exact Ey rfl (Ey rfl (Lo f rfl))
def CuV(ha:a<Adw.AdE)(c:b<=a)(k:GP h):Ah h (λu _=>u=okD (a-b)) ((CA (D+11)).call 286 [.str (dgn a),.str (dgn b)] h):=by
 have hb:=Ql c ha;apply upA (q:=true);rw[CsI];refine Fj (show Ah h (λu _=>u=okD (a-b)) _ from upA (Ciz _ _ B7O CdR c198 rfl ha hb λx y f e i j=>upA (q:=true) ?_)) λv3 G p l3 t B=>?_;. rw[CsV];refine Fj (B1C x y _ _ _ i j (by have:=A83 (T8 ha);omega)) λv1 h1 e1 l1 C A=>?_;have l:=B4Y (T8 ha) (T8 hb);subst A;exact Ey ((λf=>by simp_all:∀f,Aj prog .lss 3 true (iI (lcN (lbN a) (lbN b))) (iI 0) f=.ok ct f) _) (Ae5 (Fj (Ckr x y a b _ (i.gr e1) (j.gr e1) ha c) λv2 h2 F l2 o E=>(Btk (Ql (Ee ..) ha) (k.gr e).pow E (e1.trans F))))
 .subst B;exact Ey rfl (Ey rfl (Lo p rfl))
def CuW(ha:a<Adw.AdE)(hb:b<Adw.AdE):Ah h (λu _=>u=iI (Aoq a b)) ((CA (D+11)).call 294 [.str (dgn a),.str (dgn b)] h):=by apply upA;rw[CsP];apply Clg _ B7O CdR ha hb;intro B g5;refine Ae5 (Fj (c198 _ _ (AoK ha)) λt I i J k f=>Fj (c198 _ _ (AoK hb)) λE A e G o c=>?_);rw[Lm]at f c;refine Fj (B1C _ _ _ _ _ (f.gr e) c (by have:=A83 (T8 ha);omega)) λK F j C p l=>?_;subst l;rw[B7c];exact Lo (((g5.trans i).trans e).trans j) rfl
variable {m:Nat}{S:uz->Option AV}
def BaU(h:n<Adw.AdE):AnE (dgn n)=n:=by have h':n<1000000000:=h;have:=(Alj (n:=n) om om).2.1;grind
def Cnd(h:n<Adw.AdE):∀c∈dgn n,(c != 47)=true:=λc e=>by have h':n<1000000000:=h;have:=(Alj om om).1 c e;grind
def unF(s:uw):Adw.Ad2:=(AnE (s.takeWhile (· != 47)),if s.dropWhile (· != 47)=[]then 1 else AnE ((s.dropWhile (· != 47)).drop 1))
def B8w{p:j->Bool}:∀{l:List _},(∀c∈l,p c=true)->l.takeWhile p=l/\l.dropWhile p=[]
|[],_=>⟨rfl,rfl⟩
|a::l,h=>by have:=B8w λc e=>h c (Wr _ e);simp_all
def A9j{p:j->Bool}{a}{t}(ha:p a=false):∀{l},(∀c∈l,p c=true)->(l++a::t).takeWhile p=l/\(l++a::t).dropWhile p=a::t
|[],_=>by simp_all
|b::l,h=>by simp_all
def Bz0(c:Adw.Fr x):unF (ftx x)=x:=by
 unfold unF ftx fTx;by_cases h1:x.2=1;. rw[Xo h1];have⟨e,t2⟩:=B8w (Cnd c.n);rw[e,t2,Xo rfl,BaU c.n,<- h1]
 .rw[X2 h1];obtain⟨e,t2⟩:=A9j (a:=47) rfl (Cnd c.n);rw[e,t2,X2 (by simp),BaU c.n,List.drop_succ_cons,Cp,BaU c.d]
def Avd(c:Adw.Fr x)(hy:Adw.Fr y)(h:ftx x=ftx y):x=y:=by rw[<- Bz0 c,h,Bz0 hy]
def A9O(c:n<Adw.AdE)(hy:m<Adw.AdE)(h:dgn n=dgn m):n=m:=by rw[<- BaU c,h,BaU hy]
def Awf{a b}(h:AV.str a=AV.str b):a=b:=by grind
def opS(f:Adw.Ad2->Adw.Ad2->Option _):=gra (α:=Adw.Ad2 × Adw.Ad2) (λp=>[.str (ftx p.1),.str (ftx p.2)]) (λp=>okN ((f p.1 p.2).getD (0,1))) λp=>Adw.Fr p.1/\Adw.Fr p.2/\∃z,f p.1 p.2=some z
def AtI{f}(o:Adw.Fr x)(hy:Adw.Fr y)(hz:f x y=some z):opS f [.str (ftx x),.str (ftx y)]=some (okN z):=by refine(Awk (a:=(x,y)) ?_ ⟨o,hy,z,hz⟩).trans (by grind);rintro ⟨a,b⟩ ⟨c,e⟩ ⟨h1,h2,_⟩ ⟨l,k,_⟩ j;injection j with e1 i;injection i with i _;rw[Avd h1 l (Awf e1),Avd h2 k (Awf i)]
def cpS(o:Adw.Ad2->Adw.Ad2->AV):=gra (α:=Adw.Ad2 × Adw.Ad2) (λp=>[.str (ftx p.1),.str (ftx p.2)]) (λp=>o p.1 p.2) λp=>Adw.Fr p.1/\Adw.Fr p.2
def Awh{o}(l:Adw.Fr x)(hy:Adw.Fr y):cpS o [.str (ftx x),.str (ftx y)]=some (o x y):=by refine Awk (a:=(x,y)) ?_ ⟨l,hy⟩;rintro ⟨a,b⟩ ⟨c,e⟩ ⟨h1,h2⟩ ⟨k,j⟩ i;injection i with e1 f;injection f with f _;rw[Avd h1 k (Awf e1),Avd h2 j (Awf f)]
def fnS o:=gra (λp=>[.str (ftx p)]) o Adw.Fr
def A5d{o}(e:Adw.Fr x):fnS o [.str (ftx x)]=some (o x):=by refine Awk ?_ e;intro a b h1 h2 c;injection c with e1 _;rw[Avd h1 h2 (Awf e1)]
def ntS(dom:Nat->Nat->Prop)(o:Nat->Nat->AV):=gra (α:=Nat × Nat) (λp=>[.str (dgn p.1),.str (dgn p.2)]) (λp=>o p.1 p.2) λp=>p.1<Adw.AdE/\p.2<Adw.AdE/\dom p.1 p.2
def A0S{dom}{o}(hn:n<Adw.AdE)(i:m<Adw.AdE)(hd:dom n m):ntS dom o [.str (dgn n),.str (dgn m)]=some (o n m):=by refine Awk (a:=(n,m)) ?_ ⟨hn,i,hd⟩;rintro ⟨a,b⟩ ⟨c,e⟩ ⟨h1,h2,_⟩ ⟨l,k,_⟩ j;injection j with e1 f;injection f with f _;rw[A9O h1 l (Awf e1),A9O h2 k (Awf f)]
def inS pre k(b:Nat) o:=gra (λn=>pre++[.int k n]) o λn=>n<b
theorem Ay7{pre}{k}{b}{o}(hn:n<b):inS pre k b o (pre++[.int k n])=some (o n):=by refine Awk ?_ hn;intro a b h1 h2 c;have:=List.append_cancel_left c;grind
def look(f:T g=S)(e:S args=some v)(c:GP h):(CT T (d+1)).call g args h=.ok v h:=Cbf c.g (by grind)
def Ayq:Plain (okN z):=.Bj λy hy=>by
 simp[Wf,Ww,fb]at hy;rcases hy with rfl|rfl;. exact .str _
 .exact .int _ _
def BwR:Plain (okD n):=.Bj λy hy=>by
 simp[Wf,Ww,fb]at hy;rcases hy with rfl|rfl;. exact .str _
 .exact .int _ _
def pl2{a b}(ha:Plain a)(hb:Plain b):I7 [a,b]:=.cons ha (.cons hb .nil)
def BiT(e:AsH PP Um T){f}(j:∀x y z,Adw.Fr x->Adw.Fr y->f x y=some z->Nx PP Um ⟨g,[.str (ftx x),.str (ftx y)],okN z⟩):AsH PP Um (T.ext g (opS f)):=e.ext λargs v c=>by obtain⟨⟨x,y⟩,⟨h1,h2,z,i⟩,rfl,rfl⟩:=AsI c;refine⟨?_,pl2 (.str _) (.str _)⟩;grind
def BiP(e:AsH PP Um T){o}(f:∀x y,Adw.Fr x->Adw.Fr y->Nx PP Um ⟨g,[.str (ftx x),.str (ftx y)],o x y⟩):AsH PP Um (T.ext g (cpS o)):=e.ext λargs v c=>by obtain⟨⟨x,y⟩,⟨h1,h2⟩,rfl,rfl⟩:=AsI c;exact⟨f x y h1 h2,pl2 (.str _) (.str _)⟩
def Eo(e:AsH PP Um T){o}(f:∀x,Adw.Fr x->Nx PP Um ⟨g,[.str (ftx x)],o x⟩):AsH PP Um (T.ext g (fnS o)):=e.ext λargs v c=>by obtain⟨x,h1,rfl,rfl⟩:=AsI c;exact⟨f x h1,.cons (.str _) .nil⟩
def A8s(e:AsH PP Um T){dom}{o}(i:∀n m,n<Adw.AdE->m<Adw.AdE->dom n m->Nx PP Um ⟨g,[.str (dgn n),.str (dgn m)],o n m⟩):AsH PP Um (T.ext g (ntS dom o)):=e.ext λargs v c=>by obtain⟨⟨x,y⟩,⟨h1,h2,f⟩,rfl,rfl⟩:=AsI c;exact⟨i x y h1 h2 f,pl2 (.str _) (.str _)⟩
def A4L(f:AsH PP Um T){pre}{k}{b}{o}(e:I7 pre)(i:∀n,n<b->Nx PP Um ⟨g,pre++[.int k n],o n⟩):AsH PP Um (T.ext g (inS pre k b o)):=f.ext λargs v c=>by
 obtain⟨n,h1,rfl,rfl⟩:=AsI c;refine⟨i n h1,λy hy=>?_⟩;rcases T2.1 hy with hy|hy;. exact e y hy
 .rw[T0.1 hy];exact .int _ _
def runs g args v:=Yt PP.globals.size v ((Acb PP Um ⟨0,[]⟩ 60).call g args (glH Um PP.globals.size))
def A9X{g}{args}{v}(hb:Bg PP g=true)(c:runs g args v=true):Nx PP Um ⟨g,args,v⟩:=Lv (Jp mixed Nk Jq λ_ h=>by grind _) Zw Jq _ hb c
def A5P{g}{b}{a:Nat->List _}{o:Nat->AV}(hb:Bg PP g=true)(c:((List.range b).all λn=>runs g (a n) (o n))=true):∀n,n<b->Nx PP Um ⟨g,a n,o n⟩:=λn hn=>A9X hb (Od.1 c n (ec.2 hn))
def Ci4:((List.range 21).all λn=>runs 299 [.str [50],iI (n:Int)] (okD (2^n)))=true:=by kernel_rfl
def Ci2:((List.range 21).all λn=>runs 285 [iI (n:Int)] (.str (dgn (2^n))))=true:=by kernel_rfl
def Cn1:((List.range 21).all λn=>runs 35 [.str [50],iI (n:Int)] (okN (2^n,1)))=true:=by kernel_rfl
def Ci3:((List.range 22).all λn=>runs 296 [cm 1,cm n] (.Bj [cm 0,cm n]))=true:=by kernel_rfl
def blk(n:Nat):Int:=if n=0 then 0 else 2*n-1
def Cn0:((List.range 9).all λn=>runs 16 [iI (n:Int)] (iI (blk n)))=true:=by kernel_rfl
def lvl(n:Nat):Int:=if n=0 then 0 else if n<=1 then 1 else if n<=2 then 2 else if n<=4 then 3 else 4
def Cn2:((List.range 9).all λn=>runs 64 [iI (n:Int)] (iI (lvl n)))=true:=by kernel_rfl
abbrev cpO(x y:Adw.Ad2):AV:=.Bj [iI (AsG x y),iI 0]
abbrev ptO(x:Adw.Ad2):AV:=.Bj [.str (dgn x.1),.str (dgn x.2),iI 0]
def Ag8:Df:=λ_ _=>none
def AgI:Df:=Ag8.ext 73 (opS Adw.Bcb)
def AhD:Df:=AgI.ext 74 (opS Adw.A7s)
def Ad1:Df:=AhD.ext 279 (opS Adw.BmU)
def Ad3:Df:=Ad1.ext 278 (opS Adw.A0N)
def AhG:Df:=Ad3.ext 11 (cpS cpO)
def Aij:Df:=AhG.ext 70 (fnS λ_=>iI 0)
def Ai2:Df:=Aij.ext 293 (fnS ptO)
def Ai3:Df:=Ai2.ext 287 (ntS (λ_ m=>0<m) λn m=>okN (Adw.rd n m))
def AiH:Df:=Ai3.ext 297 (ntS (λn m=>n+m<Adw.AdE) λn m=>okD (n+m))
def W10:Df:=AiH.ext 298 (ntS (λn m=>n*m<Adw.AdE) λn m=>okD (n*m))
def W11:Df:=W10.ext 286 (ntS (λn m=>m<=n) λn m=>okD (n-m))
def W12:Df:=W11.ext 294 (ntS (λ_ _=>True) λn m=>iI (Aoq n m))
def W13:Df:=W12.ext 241 (inS [] .i64 Adw.AdE λn=>.str (dgn n))
def W14:Df:=W13.ext 299 (inS [.str [50]] .i64 21 λn=>okD (2^n))
def W15:Df:=W14.ext 35 (inS [.str [50]] .i64 21 λn=>okN (2^n,1))
def W16:Df:=W15.ext 296 (inS [cm 1] .u64 22 λn=>.Bj [cm 0,cm (n:Int)])
def W17:Df:=W16.ext 16 (inS [] .i64 9 λn=>iI (blk n))
def W18:Df:=W17.ext 64 (inS [] .i64 9 λn=>iI (lvl n))
def CdS{a b:AV}(ha:Plain a)(hb:Plain b):Plain (.Bj [a,b]):=.Bj λy hy=>by simp only[Wf,Ww,fb]at hy;rcases hy with rfl|rfl<;>assumption
def w1:AsH PP Um AgI:=BiT .none λx y z e hy hz=>A9y (by kernel_rfl) Ayq λh c=>CuP (D:=0) e hy hz c
def w2:AsH PP Um AhD:=BiT w1 λx y z e hy hz=>A9y (by kernel_rfl) Ayq λh c=>CuQ (D:=0) e hy hz c
def w3:AsH PP Um Ad1:=BiT w2 λx y z e hy hz=>A9y (by kernel_rfl) Ayq λh c=>CuS (D:=0) e hy hz c
def w4:AsH PP Um Ad3:=BiT w3 λx y z e hy hz=>A9y (by kernel_rfl) Ayq λh c=>CuR (D:=0) e hy hz c
def w5:AsH PP Um AhG:=BiP w4 λx y c hy=>A9y (by kernel_rfl) (CdS (.int _ _) (.int _ _)) λh e=>m93 (D:=0) c hy
def w6:AsH PP Um Aij:=Eo w5 λx c=>A9y (by kernel_rfl) (.int _ _) λh e=>c92 (D:=0) x.1 x.2 h c.n c.d c.p c.g
def w7:AsH PP Um Ai2:=Eo w6 λx c=>A9y (by kernel_rfl) (.Bj λy hy=>by
 simp only[Wf,Ww,fb]at hy;rcases hy with rfl|rfl|rfl
 .exact .str _
 .exact .str _
 .exact .int _ _) λh e=>B1x (D:=0) x.1 x.2 h c.n c.d c.p c.g
def w8:AsH PP Um Ai3:=A8s w7 λn m hn e hd=>A9y (by kernel_rfl) (Ayq) λh c=>B7J (D:=0) n m h hn e hd c.pow
def w9:AsH PP Um AiH:=A8s w8 λn m hn e hd=>A9y (by kernel_rfl) (BwR) λh c=>CmO (D:=0) hd c
def w10:AsH PP Um W10:=A8s w9 λn m hn e hd=>A9y (by kernel_rfl) (BwR) λh c=>CmP (D:=0) hn e hd c
def w11:AsH PP Um W11:=A8s w10 λn m hn e hd=>A9y (by kernel_rfl) (BwR) λh c=>CuV (D:=0) hn hd c
def w12:AsH PP Um W12:=A8s w11 λn m hn c hd=>A9y (by kernel_rfl) (.int _ _) λh e=>CuW (D:=0) hn c
def w13:AsH PP Um W13:=A4L w12 .nil λn hn=>A9y (by kernel_rfl) (.str _) λh c=>Cqt (D:=0) n h (AoK hn) c.pow
def w14:AsH PP Um W14:=A4L w13 (.cons (.str _) .nil) (A5P (by kernel_rfl) Ci4)
def w15:AsH PP Um W15:=A4L w14 (.cons (.str _) .nil) (A5P (by kernel_rfl) Cn1)
def w16:AsH PP Um W16:=A4L w15 (.cons (.int _ _) .nil) (A5P (by kernel_rfl) Ci3)
def w17:AsH PP Um W17:=A4L w16 .nil (A5P (by kernel_rfl) Cn0)
def w18:AsH PP Um W18:=A4L w17 .nil (A5P (by kernel_rfl) Cn2)
def CuT{a b:Nat}(c:a+b<Adw.AdE)(e:GP h):Ah h (λu _=>u=.str (dgn (a+b))) ((CA (D+12)).call 283 [.str (dgn a),.str (dgn b)] h):=by refine upA (q:=true) ?_;rw[CsG];refine Fj (CmO (D:=D) c e) λv1 h1 e1 l1 f i=>?_;subst i;exact Ey rfl (Ey rfl (Lo e1 rfl))
def CuU{a b:Nat}(ha:a<Adw.AdE)(hb:b<Adw.AdE)(c:a*b<Adw.AdE)(e:GP h):Ah h (λu _=>u=.str (dgn (a*b))) ((CA (D+12)).call 284 [.str (dgn a),.str (dgn b)] h):=by refine upA (q:=true) ?_;rw[CsH];refine Fj (CmP (D:=D) ha hb c e) λv1 h1 e1 l1 f i=>?_;subst i;exact Ey rfl (Ey rfl (Lo e1 rfl))
def W19:Df:=W18.ext 283 (ntS (λn m=>n+m<Adw.AdE) λn m=>.str (dgn (n+m)))
def W20:Df:=W19.ext 284 (ntS (λn m=>n*m<Adw.AdE) λn m=>.str (dgn (n*m)))
def w19:AsH PP Um W19:=A8s w18 λn m hn e hd=>A9y (by kernel_rfl) (.str _) λh c=>CuT (D:=0) hd c
def w20:AsH PP Um W20:=A8s w19 λn m hn e hd=>A9y (by kernel_rfl) (.str _) λh c=>CuU (D:=0) hn e hd c
def Wt:Df:=W20.ext 285 (inS [] .i64 21 λn=>.str (dgn (2^n)))
def wOk:AsH PP Um Wt:=A4L w20 .nil (A5P (by kernel_rfl) Ci2)
def wS{g:FuncId}{S:uz->Option AV}(q:Wt g=S:=by simp[Wt,AgI,AhD,Ad1,Ad3,AhG,Aij,Ai2,Ai3,AiH,W10,W11,W12,W13,W14,W15,W16,W17,W18,W19,W20,Bb]):Wt g=S:=q
def wNo{g:FuncId}(q:Wt g=λ_=>none:=by(simp[Wt,AgI,AhD,Ad1,Ad3,AhG,Aij,Ai2,Ai3,AiH,W10,W11,W12,W13,W14,W15,W16,W17,W18,W19,W20,Bb];rfl)):Wt g=λ_=>none:=q
def t73:Wt 73=opS Adw.Bcb:=wS
def t74:Wt 74=opS Adw.A7s:=wS
def t279:Wt 279=opS Adw.BmU:=wS
def t278:Wt 278=opS Adw.A0N:=wS
def t11:Wt 11=cpS cpO:=wS
def t70:Wt 70=fnS λ_=>iI 0:=wS
def t293:Wt 293=fnS ptO:=wS
def t287:Wt 287=ntS (λ_ m=>0<m) λn m=>okN (Adw.rd n m):=wS
def t286:Wt 286=ntS (λn m=>m<=n) λn m=>okD (n-m):=wS
def t294:Wt 294=ntS (λ_ _=>True) λn m=>iI (Aoq n m):=wS
def t241:Wt 241=inS [] .i64 Adw.AdE λn=>.str (dgn n):=wS
def t296:Wt 296=inS [cm 1] .u64 22 λn=>.Bj [cm 0,cm (n:Int)]:=wS
def t283:Wt 283=ntS (λn m=>n+m<Adw.AdE) λn m=>.str (dgn (n+m)):=wS
def t284:Wt 284=ntS (λn m=>n*m<Adw.AdE) λn m=>.str (dgn (n*m)):=wS
def t285:Wt 285=inS [] .i64 21 λn=>.str (dgn (2^n)):=wS
abbrev CW(d:Nat):Ac:=CT Wt d
def upW{q:Bool}{g:FuncId}{args:uz}{h0:H}{Q:AV->H->Prop}(c:Ah h0 Q (Ay PP (CW d) N0x q g args h))(k:Wt g=λ_=>none:=by exact wNo):Ah h0 Q ((CW (d+1)).call g args h):=upT (by rw[k]) c
def CuG{x y z:Adw.Ad2}(e:Adw.Fr x)(hy:Adw.Fr y)(hz:Adw.A0N x y=some z)(c:GP h):(CW (d+1)).call 278 [.str (ftx x),.str (ftx y)] h=.ok (okN z) h:=look t278 (AtI e hy hz) c
def k11{x y:Adw.Ad2}(e:Adw.Fr x)(hy:Adw.Fr y)(c:GP h):(CW (d+1)).call 11 [.str (ftx x),.str (ftx y)] h=.ok (cpO x y) h:=look t11 (Awh e hy) c
def CuH{x:Adw.Ad2}(e:Adw.Fr x)(c:GP h):(CW (d+1)).call 293 [.str (ftx x)] h=.ok (ptO x) h:=look t293 (A5d e) c
def CuI{n m:Nat}(hn:n<Adw.AdE)(e:m<Adw.AdE)(c:GP h):(CW (d+1)).call 294 [.str (dgn n),.str (dgn m)] h=.ok (iI (Aoq n m)) h:=look t294 (A0S hn e trivial) c
end Go.Proofs
