/- Valid schemas are -/
import Derived.Test.YtahaaiadlgfchaaGreatDoorEvHh
set_option linter.all false
set_option maxRecDepth 100000
noncomputable section
namespace Go.Adw
open Go.Ev
variable (a b:Nat)
def t2:Nat->Nat->Nat
|0,_=>0
|i+1,k=>t2 i k+(if i<=k then ttl a b i*ttl a b (k-i)else 0)
def t2j(i j k:Nat):Nat:=t2 a b i k+(if i<=k/\k<i+j then ttl a b i*ttl a b (k-i)else 0)
def Cfi{k:Nat}:∀{i:Nat},i<=k+1->t2 a b i k=sm (λi=>ttl a b i*ttl a b (k-i)) i
|0,_=>rfl
|i+1,h=>by show t2 a b i k+_=sm _ i+_;rw[Cfi om,Xo om]
def BkK{k:Nat}:∀d:Nat,t2 a b (k+1+d) k=A5L a b k
|0=>Cfi a b (Ye _)
|d+1=>by show t2 a b (k+1+d) k+(if k+1+d<=k then _ else 0)=_;rw[X2 om,BkK d];rfl
def Cfh{k i:Nat}:∀d:Nat,t2 a b i k<=t2 a b (i+d) k
|0=>Ye _
|d+1=>Xy (Cfh d) (J1 _ _)
def Cee{n k:Nat}(h:k<=n):A5L a b k<=2^n:=by have h1:=B7b a b n;have h2:=Ba2 (f:=λk=>A5L a b k*2^(n-k)) (n:=n+1) (j:=k) om;have c:A5L a b k*1<=A5L a b k*2^(n-k):=cq _ (Kg);omega
def B7E{n k:Nat}(h:k<=n):ttl a b k<=2^n:=Cfb a b om h
def Cn7{n i k:Nat}(c:k<=n)(hi:i<=k):t2 a b i k+ttl a b i*ttl a b (k-i)<=2^n:=by
 have h1:t2 a b (i+1) k=t2 a b i k+ttl a b i*ttl a b (k-i):=by show t2 a b i k+(if i<=k then _ else 0)=_;rw[Xo hi]
 have h2:=Cfh a b (k:=k) (i:=i+1) (k-i);rw[show i+1+(k-i)=k+1+0 by omega,BkK]at h2
 have:=Cee a b c;omega
def CiC{i j:Nat}:t2j a b i j (i+j)=t2 a b i (i+j):=by unfold t2j;rw[X2 om];rfl
def B7B{i k:Nat}:t2j a b i 0 k=t2 a b i k:=by unfold t2j;rw[X2 om];rfl
def Ceb{i j k:Nat}(h:k<i+j):t2j a b i j k=t2 a b (i+1) k:=by
 show _=t2 a b i k+_;unfold t2j;by_cases e:i<=k
 .rw[Xo ⟨e,h⟩,Xo e]
 .rw[X2 (λh=>e h.1),X2 e]
def B7C{i j k:Nat}:t2j a b i (j+1) k=if k=i+j then t2 a b i k+ttl a b i*ttl a b j else t2j a b i j k:=by
 unfold t2j;by_cases e:k=i+j
 .rw[Xo e];subst e;rw[Xo om,My]
 .rw[X2 e];by_cases c:i<=k/\k<i+j
  .rw[Xo c,Xo om]
  .rw[X2 c,X2 om]
end Go.Adw
namespace Go.Proofs
open Go Go.Ev Go.Nm Tryz Go.Ev.Sx
open Go.Proofs.YtahaaiadlgfchaaGreatDoor
attribute [local irreducible] Aa Al Af Ad
variable {o:FuncId}{p:TypeId}
variable {h h0:H}{d D n m i j bT bS a b:Nat}{hd:H}{C:Ac}{N n1:Nat}{Q:AV->H->Prop}
structure S2(h:H)(bT bS a b n i j:Nat)(hd:H):Prop where
 g:Ai h hd
 lT:h.nx<=bT/\bT<hd.nx
 lS:h.nx<=bS/\bS<hd.nx
 ne:bT≠bS
 cT:hd.m.get bT=.cells (sc (Adw.ttl a b) (n+1)) 28 .exact
 cS:hd.m.get bS=.cells (sc (Adw.t2j a b i j) (n+1)) 28 .exact
def Cm8(hn:n<=20)(hi:i<=n)(t:GP h)(c1:∀x y,x<=1048576->y<=1048576->x*y<=1048576->∀h,GP h->C.call 284 [.str (dgn x),.str (dgn y)] h=.ok (.str (dgn (x*y))) h)(c2:∀x y,x<=1048576->y<=1048576->∀h,GP h->C.call 283 [.str (dgn x),.str (dgn y)] h=.ok (.str (dgn (x+y))) h)
 (go:∀(hd:H) (f0:L2),S2 h bT bS a b n (i+1) 0 hd->Ah h Q (A4u C N n1 (iI (n:Int)) (.sl bT 0 (n+1) (n+1) 1 true) (.sl bS 0 (n+1) (n+1) 1 true) (iI ((n+1:Nat):Int)) (iI ((i+1:Nat):Int)) f0 hd)):
 ∀(u j m:Nat) (hd:H) (f0:L2),n+1-i-j=u->i+j<=n+1->u<m->S2 h bT bS a b n i j hd ->
 Ah h Q (A48 C N n1 m (iI (n:Int)) (.sl bT 0 (n+1) (n+1) 1 true) (.sl bS 0 (n+1) (n+1) 1 true) (iI (i:Int)) (iI (j:Int)) (iI ((n+1:Nat):Int)) (iI (i:Int)) f0 hd):=by
 have p2:2^n<=1048576:=aq fe hn;intro u;induction u with
 |zero=>
  intro j m hd f0 E hj v s;obtain⟨l,rfl⟩:=mg m;have e:i+j=n+1:=by omega
  have o:S2 h bT bS a b n (i+1) 0 hd:={ s with cS:=s.cS.trans (Jh (λx=>cd x 28) (Awa λk w=>by rw[Adw.Ceb a b om,Adw.B7B])) };exact Cn8 C N n1 l (n+1) (k:=((n+1:Nat):Int)) (λc=>adB e om c) df (λc=>adI om c) (λf0=>go hd f0 o) f0
 |succ u B=>
  intro j m hd f0 E hj v s;obtain⟨l,rfl⟩:=mg m;have p:i+j<=n:=by omega
  have b1:=Adw.B7E a b (n:=n) (k:=i) hi;have b2:=Adw.B7E a b (n:=n) (k:=j) om;have F:=Adw.Cn7 a b (n:=n) (k:=i+j) (i:=i) p om;rw[My]at F;have r:=(AsC s.lT.2 s.cT).one (A5F (show i<n+1 by omega))
  have A:=(AsC s.lT.2 s.cT).one (A5F (show j<n+1 by omega))
  have q:=(AsC s.lS.2 s.cS).one (A5F (show i+j<n+1 by omega))
  rw[Adw.CiC]at q;refine CnA C N n1 l (n+1) (t.gr s.g) s.lS.2 (λb c=>ix1 om b c) (λb c=>ix1 om b c) (λb c=>ix1 (show i+j<n+1 by omega) b c) r A q (λc=>adB rfl om c) dt (λc=>adI om c) (c1 _ _ om om om) (c2 _ _ om om) (BwS s.cS (by rw[A99];omega)) (λf0=>B (j+1) l _ f0 om om om ?_) f0
  refine{ g:=s.g.put _ _ s.lS.1,lT:=s.lT,lS:=s.lS,ne:=s.ne,cT:=(Aq _ _ _ s.ne).trans s.cT,cS:=(A2 _ _).trans ?_ };rw[Bkw];refine Jh (λx=>cd x 28) (Awa λk w=>?_);rw[Adw.B7C];by_cases e:k=i+j
  .subst e;rw[Xo rfl]
  .rw[X2 e,X2 e]
def Cio(hn:n<=20)(e:GP h)(c1:∀x y,x<=1048576->y<=1048576->x*y<=1048576->∀h,GP h->C.call 284 [.str (dgn x),.str (dgn y)] h=.ok (.str (dgn (x*y))) h)(c2:∀x y,x<=1048576->y<=1048576->∀h,GP h->C.call 283 [.str (dgn x),.str (dgn y)] h=.ok (.str (dgn (x+y))) h)(r:30<N)
 (go:∀(hd:H) (f0:L2),Ai h hd->h.nx<=bS->bS<hd.nx->hd.m.get bS=cd (sc (Adw.A5L a b) (n+1)) 28->Ah h Q (A6Z C N (iI (n:Int)) (.sl bS 0 (n+1) (n+1) 1 true) f0 hd)):
 ∀(u i m:Nat) (hd:H) (f0:L2),n+1-i=u->i<=n+1->u<m->S2 h bT bS a b n i 0 hd ->
 Ah h Q (A4u C N m (iI (n:Int)) (.sl bT 0 (n+1) (n+1) 1 true) (.sl bS 0 (n+1) (n+1) 1 true) (iI ((n+1:Nat):Int)) (iI (i:Int)) f0 hd):=by
 intro u;induction u with
 |zero=>
  intro i m hd f0 p hi l s;obtain⟨c,rfl⟩:=mg m;obtain rfl:i=n+1:=by omega
  refine Cn9 C N c df (λf0=>go hd f0 s.g s.lS.1 s.lS.2 (s.cS.trans (Jh (λx=>cd x 28) (Awa λk q=>?_)))) f0;rw[Adw.B7B];have:=Adw.BkK a b (k:=k) (n-k);rw[show k+1+(n-k)=n+1 by omega]at this
  exact this
 |succ u o=>intro i m hd f0 p hi l s;obtain⟨c,rfl⟩:=mg m;exact CnC C N c dt (λf0=>Cm8 (a:=a) (b:=b) (i:=i) hn om e c1 c2 (λhd f0 s=>o (i+1) c hd f0 om om om s) _ 0 N hd f0 rfl om om s) f0
def Cnz{f:Nat->Nat}(hn:n<=20)(v:GP h)(kr:Adw.sm (λk=>f k*2^(n-k)) (n+1)<=2^n)(o:∀c,GP c->∀e:Nat,e<=20->C.call 285 [iI (e:Int)] c=.ok (.str (dgn (2^e))) c)
 (c1:∀x y,x<=1048576->y<=1048576->x*y<=1048576->∀h,GP h->C.call 284 [.str (dgn x),.str (dgn y)] h=.ok (.str (dgn (x*y))) h) (c3:∀x y,x<=1048576->y<=x->∀h,GP h->C.call 286 [.str (dgn x),.str (dgn y)] h=.ok (.Bj [.str (dgn (x-y)),iI 0]) h) (c4:∀x y,x<=1048576->y<=1048576->0<y->∀h,GP h->C.call 287 [.str (dgn x),.str (dgn y)] h=.ok (okN (Adw.rd x y)) h):
 ∀(u i m:Nat) (hd:H) (f0:L2),n+1-i=u->i<=n+1->u<m->Ai h hd->bS<hd.nx->hd.m.get bS=cd (sc f (n+1)) 28 ->
 Ah h (λr _=>r=okN (Adw.At7 f n)) (A4D C N m (iI (n:Int)) (.str (dgn (2^n-Adw.sm (λk=>f k*2^(n-k)) i))) (.sl bS 0 (n+1) (n+1) 1 true) (iI ((n+1:Nat):Int)) (iI (i:Int)) f0 hd):=by
 have p2:2^n<=1048576:=aq fe hn;have p3:0<2^n:=O1 n;intro u;induction u with
 |zero=>
  intro i m hd f0 I hi B g l cs;obtain⟨t,rfl⟩:=mg m;obtain rfl:i=n+1:=by omega
  have q:=c4 (2^n-Adw.sm (λk=>f k*2^(n-k)) (n+1)) (2^n) om p2 p3;exact ClC C N t (v.gr g) df g (λh p=>o h p n hn) q rfl f0
 |succ u F=>
  intro i m hd f0 I hi B g l cs;obtain⟨t,rfl⟩:=mg m;have b1:=Adw.Ba2 (f:=λk=>f k*2^(n-k)) (n:=n+1) (j:=i) om;have b2:f i*1<=f i*2^(n-i):=cq _ (Kg);have L:2^(n-i)<=1048576:=aq fe (show n-i<=20 by omega)
  have M:Adw.sm (λk=>f k*2^(n-k)) (i+1)<=Adw.sm (λk=>f k*2^(n-k)) (n+1):=by
   have:=Adw.Bk2 (f:=λk=>f k*2^(n-k)) (i+1) (n-i);rw[show i+1+(n-i)=n+1 by omega]at this
   omega
  have E:Adw.sm (λk=>f k*2^(n-k)) (i+1)=Adw.sm (λk=>f k*2^(n-k)) i+f i*2^(n-i):=rfl;have A:=(AsC l cs).one (A5F (show i<n+1 by omega))
  have J:∀c:H,Aj prog .sub 3 false (iI (n:Int)) (iI (i:Int)) c=.ok (iI ((n-i:Nat):Int)) c:=λc=>by show OR.ok (iI (E1 .i64 ((n:Int)-(i:Int)))) c=_;rw[lw.2.2 _ om om,Int.ofNat_sub om]
  have w:=F (i+1) t hd;rw[E,Nat.sub_add_eq (2^n)]at w;have G:=c1 (f i) (2^(n-i)) om L om;have K:=c3 (2^n-Adw.sm (λk=>f k*2^(n-k)) i) (f i*2^(n-i)) om om;have q0:=λh p=>o h p (n-i) om;generalize f i*2^(n-i)=y1 at *
  generalize 2^n-Adw.sm (λk=>f k*2^(n-k)) i=y2 at *
  exact Cn6 C N t (n+1) (v.gr g) dt (λb c=>ix1 om b c) A J (λc=>adI om c) q0 G K (λf0=>w f0 om om om g l cs) f0
variable {k:Nat}{x:Adw.Ad2}
def ClI{e:Nat}(g:e<=20):∀c,GP c->(CX (D+1)).call 285 [iI (e:Int)] c=.ok (.str (dgn (2^e))) c:=lkX (xW t285) (Ay7 (pre:=[]) (show e<21 by omega))
def ClH{a b:Nat}(ha:a<=1048576)(hb:b<=1048576)(c:a*b<=1048576):∀h,GP h->(CX (D+1)).call 284 [.str (dgn a),.str (dgn b)] h=.ok (.str (dgn (a*b))) h:=lkX (xW t284) (A0S (n:=a) (m:=b) (show a<1000000000 by omega) (show b<1000000000 by omega) (show a*b<1000000000 by omega))
def Cty{a b:Nat}(ha:a<=1048576)(hb:b<=1048576):∀h,GP h->(CX (D+1)).call 283 [.str (dgn a),.str (dgn b)] h=.ok (.str (dgn (a+b))) h:=lkX (xW t283) (A0S (n:=a) (m:=b) (show a<1000000000 by omega) (show b<1000000000 by omega) (show a+b<1000000000 by omega))
def Ctz{a b:Nat}(ha:a<=1048576)(hb:b<=a):∀h,GP h->(CX (D+1)).call 286 [.str (dgn a),.str (dgn b)] h=.ok (.Bj [.str (dgn (a-b)),iI 0]) h:=lkX (xW t286) (A0S (n:=a) (m:=b) (show a<1000000000 by omega) (show b<1000000000 by omega) hb)
def Ct0{a b:Nat}(ha:a<=1048576)(hb:b<=1048576)(h0:0<b):∀h,GP h->(CX (D+1)).call 287 [.str (dgn a),.str (dgn b)] h=.ok (okN (Adw.rd a b)) h:=lkX (xW t287) (A0S (n:=a) (m:=b) (show a<1000000000 by omega) (show b<1000000000 by omega) h0)
def CeO{f:Nat->Nat}{bS:Nat}{hd:H}(hn:n<=20)(o:GP h)(kr:Adw.sm (λk=>f k*2^(n-k)) (n+1)<=2^n)(g:Ai h hd)(l:bS<hd.nx)(cs:hd.m.get bS=cd (sc f (n+1)) 28)(f0:L2):
 Ah h (λr _=>r=okN (Adw.At7 f n)) (A6Z (CX (D+1)) N0x (iI (n:Int)) (.sl bS 0 (n+1) (n+1) 1 true) f0 hd):=
 CnB _ N0x (n+1) (o.gr g) (ClI hn) (λf0=>by have w:=Cnz (C:=CX (D+1)) (N:=N0x) (bS:=bS) hn o kr (λt p e q=>ClI q t p) (λx y a b c=>ClH a b c) (λx y a b=>Ctz a b) (λx y a b c=>Ct0 a b c) (n+1) 0 N0x hd f0 rfl om (Ql (J2 hn) fe) g l cs;exact w) f0
def Cni(two:Bool)(K:Adw.Fr x)(I:x.1<x.2)(h0:0<x.1)(R:x.2<500000000)(hn:n<=20)(t:GP h):Ah h (λr _=>r=okN (Adw.At7 (cond two (Adw.A5L x.1 x.2) (Adw.ttl x.1 x.2)) n)) ((CX (D+4)).call 273 [.str (ftx x),iI (n:Int),.bool two] h):=upX (q:=false) (by
 rw[Cs4];have B2u:=lkX (d:=D+2) t280 (B74 K I);change ∀h,GP h->(CX (D+3)).call 280 [.str (ftx x)] h=.ok (.Bj [.str (dgn x.1),.str (dgn x.2),iI 0]) h at B2u;have o:=λe p=>Cvp (D:=D) (h:=e) K I h0 R hn p;have BlL:=λb0 e (p:GP e) l g=>Cnk (D:=D+1) (h:=e) (b0:=b0) (k:=n+1) l g om om p;have Y:∀e:H,Aj prog .add 3 true (iI (n:Int)) (iI 1) e=.ok (iI ((n+1:Nat):Int)) e:=λe=>adI om e;have W:decide ((n:Int)<0)=false:=df;have k2:decide ((256:Int)<(n:Int))=false:=df;have A:=λbT bS hd f0=>Cio (h:=h) (Q:=λr _=>r=okN (Adw.At7 (Adw.A5L x.1 x.2) n)) (a:=x.1) (b:=x.2) (bT:=bT) (bS:=bS) (C:=CX (D+3)) (N:=N0x) hn t (λx y a b c=>ClH a b c) (λx y a b=>Cty a b) fe (λhd f0 g _ l cs=>CeO hn t (Adw.B7b _ _ n) g l cs f0) (n+1) 0 N0x hd f0 rfl om (Ql (J2 hn) fe);have F:=λbS hd g l cs f0=>CeO (D:=D+2) (f:=Adw.ttl x.1 x.2) (bS:=bS) (h:=h) (hd:=hd) hn t (Adw.B7a _ _ n) g l cs f0;replace A:=(hU A)
 replace F:=(hU F)
 replace o:=(hU o)
 replace BlL:=(hU BlL)
 generalize CX (D+3)=C at *
 generalize hz:((n+1:Nat):Int)=zi at *
 have fl:∀hA,Ai h hA->GP hA:=λhA g=>t.gr g;cases two with
 |false=>
  show Ah h (λr _=>r=okN (Adw.At7 (Adw.ttl x.1 x.2) n)) _;refine we ?_;refine Fj ((gw o) _ (by first|exact t|exact t.gr Ex)) λv1 h1 e1 l1 v w=>?_
  obtain⟨b1,rfl,P,L,E⟩:=w;refine we ?_;exact(gw F) b1 h1 Ex L E _
 |true=>
  show Ah h (λr _=>r=okN (Adw.At7 (Adw.A5L x.1 x.2) n)) _;refine we ?_;refine Fj ((gw o) _ (by first|exact t|exact t.gr Ex)) λv1 h1 e1 l1 v w=>?_
  obtain⟨b1,rfl,P,L,E⟩:=w;refine we ?_;have B:Ai h (h1.new (cd [.str [48]] 28)):=Ex;refine Fj ((gw BlL) _ _ (t.gr B) (Y3 _) (Bf _)) λv3 J V l3 u S=>?_
  obtain⟨T,rfl,U,M,G⟩:=S;have g3:Ai h J:=B.trans V;simp only[C9]at l3 U;have O:J.m.get b1=cd (sc (Adw.ttl x.1 x.2) (n+1)) 28:=(u _ mh).trans ((Cq _ _ om).trans E);have ln:∀e:H,Fo (.sl b1 0 (n+1) (n+1) 1 true) e=.ok (iI ((n+1:Nat):Int)) e:=λe=>rfl;rw[hz]at ln;rw[B70]at G;clear u v B;refine we ?_;refine(gw A) b1 T _ _ ?_
  exact{ g:=g3,lT:=⟨by omega,by omega⟩,lS:=⟨by omega,M⟩,ne:=by omega,cT:=O,cS:=G.trans (Jh (λx=>cd x 28) (Awa λk X=>by rw[Adw.B7B];rfl)) })
def Cvv(p:Adw.Fr x)(e:x.1<x.2)(h0:0<x.1)(l:x.2<500000000)(hn:n<=20)(c:GP h):Ah h (λr _=>r=okN (Adw.At7 (Adw.ttl x.1 x.2) n)) ((CX (D+5)).call 323 [.str (ftx x),iI (n:Int)] h):=upX (q:=true) (by rw[Ctp];refine Fj (Cni (D:=D) false p e h0 l hn c) λv1 h1 e1 l1 o g=>?_;subst g;refine we ?_;exact zr Ex rfl)
def Cvm(p:Adw.Fr x)(e:x.1<x.2)(h0:0<x.1)(l:x.2<500000000)(hn:n<=20)(c:GP h):Ah h (λr _=>r=okN (Adw.At7 (Adw.A5L x.1 x.2) n)) ((CX (D+5)).call 269 [.str (ftx x),iI (n:Int)] h):=upX (q:=true) (by rw[Cs0];refine Fj (Cni (D:=D) true p e h0 l hn c) λv1 h1 e1 l1 o g=>?_;subst g;refine we ?_;exact zr Ex rfl)
variable {y z:Adw.Ad2}
def Cvq{n:Nat}(hn:n<Adw.AdE)(c:GP h):Ah h (λu _=>u=.str (dgn n)) ((CV (D+2)).call 288 [iI (n:Int)] h):=upV (q:=true) (by rw[CsJ];exact Ey (lkV (d:=D) (vW t241) (Ay7 (pre:=[]) hn) h c) (Lo (Ai.refl h) rfl))
def lsS:uz->Option AV:=gra (α:=Adw.Ad2 × Adw.Ad2) (λp=>[lsA p.1 p.2]) (λ_=>iI 0) (λp=>B0d p.1 p.2)
def Cif{f δ:Adw.Ad2}(k:B0d f δ):lsS [lsA f δ]=some (iI 0):=Awk (a:=(f,δ)) (λ_ _ _ _ _=>rfl) k
def ByB{f δ:Adw.Ad2}:Plain (lsA f δ):=.agg λy hy=>by simp only[Wf,Ww,fb]at hy;rcases hy with rfl|rfl<;>exact .str _
def Kz:Df:=V.ext 75 (cpS λf δ=>lsA f (Adw.AtS δ f1))
def La:Df:=Kz.ext 107 lsS
def U:Df:=La.ext 288 (inS [] .i64 Adw.AdE λn=>.str (dgn n))
def u1:AsH PP Um Kz:=BiP vOk λx y e hy=>A5E vOk (d:=2) (by kernel_rfl) ByB λh c=>Cvj (D:=0) e hy c
def u2:AsH PP Um La:=u1.ext λargs v c=>by obtain⟨x,h1,rfl,rfl⟩:=AsI c;exact⟨A5E vOk (d:=2) (by kernel_rfl) (.int _ _) λh e=>Cvk (D:=0) h1 e,.cons ByB .nil⟩
def uOk:AsH PP Um U:=A4L u2 .nil λn hn=>A5E vOk (d:=2) (by kernel_rfl) (.str _) λh c=>Cvq (D:=0) hn c
abbrev uL(g:FuncId):Prop:=g≠75/\g≠107/\g≠288
def uV{S:uz->Option AV}(c:V o=S)(q:uL o:=by decide):U o=S:=by obtain⟨e,g,l⟩:=q;simp[U,Kz,La,Bb,e,g,l,c]
def t75:U 75=cpS λf δ=>lsA f (Adw.AtS δ f1):=by simp[U,Kz,La,Bb]
def t107:U 107=lsS:=by simp[U,Kz,La,Bb]
def t288:U 288=inS [] .i64 Adw.AdE λn=>.str (dgn n):=by simp[U,Kz,La,Bb]
abbrev CU(d:Nat):Ac:=CT U d
def uNo(k:Wt o=λ_=>none:=by exact wNo)(e:vL o:=by decide)(c:uL o:=by decide):U o=λ_=>none:=uV (vW k e) c
def upU{q:Bool}{args:uz}{h0:H}{Q:AV->H->Prop}(c:Ah h0 Q (Ay PP (CU d) N0x q o args h))(k:U o=λ_=>none:=by exact uNo):Ah h0 Q ((CU (d+1)).call o args h):=upT (by rw[k]) c
def lkU{S:uz->Option AV}{args:uz}{v:AV}(l:U o=S)(c:S args=some v):∀h,GP h->(CU (d+1)).call o args h=.ok v h:=λh e=>look l c e
def Cep{b:Nat}(c:H):Gc 2 (.sl b 0 1 1 2 true) (iI 0) c=.ok (.ptr b 0) c:=Agr 2 b 0 1 1 2 true 0 fe
def Cvi{f δ:Adw.Ad2}(k:B0d f δ)(t:GP h){b:Nat}(hb:b<h.nx)(g:h.m.get b=cd [.str (ftx f),.str (ftx δ)] 32):Ah h (λu _=>u=.Bj []) ((CU (D+2)).call 68 [.sl b 0 1 1 2 true] h):=upU (q:=true) (by
 rw[CrV];have c:Nv h b [.str (ftx f),.str (ftx δ)]:=⟨hb,32,.exact,g,trivial⟩;have l2:=c.many (o:=0) (n:=2) (by show 0+2<=2;decide) (l:=[.str (ftx f),.str (ftx δ)]) rfl
 have w0:∀e:H,Gc 2 (.sl b 0 1 1 2 true) (iI 0) e=.ok (.ptr b 0) e:=λe=>Cep e;have p:=lkU (d:=D) t107 (Cif k);have r:=lkU (d:=D) (uV t69) (A9U (n:=0));generalize CU (D+1)=C at *
 clear c g;refine wq ?_;rw[Bxs];refine wq ?_;rw[Bxs];refine wq ?_;exact zr Ex rfl)
def BnC{a c n:Nat}{t:TypeId}{e:uz}{x:AV}(ha:h.m.get a=cd e p)(q:n=e.length)(r:h.m.get c=cd [x] t):Vk [.c (some (some n)) (.ptr a 0),.c (some none) (.ptr c 0)] h=.ok (.Bj [.agg e,x]) h:=by
 have h1:h.rd a=some e:=by rw[AaS,ha];rfl
 have h2:h.rd c=some [x]:=by rw[AaS,r];rfl
 have g:AyY (some (some n)) (.ptr a 0) h=some (.agg e):=by show(match h.rd a with|some c=>Tn (some (some n)) c 0|none=>none)=_;rw[h1];show(Nf e 0 n).map AV.agg=_;rw[E5,Xo om,q,Cp,cg];rfl
 have o:AyY (some none) (.ptr c 0) h=some x:=by show(match h.rd c with|some c=>Tn (some none) c 0|none=>none)=_;rw[h2];rfl
 show(match (match AyY (some (some n)) (.ptr a 0) h,(match AyY (some none) (.ptr c 0) h,(some []:Option uz)with|some v,some l=>some (v::l)|_,_=>none)with|some v,some l=>some (v::l)|_,_=>none)with|some l=>OR.ok (single l) h|none=>.bad 197)=_;rw[g,o];rfl
def Cvh{f u g m:Adw.Ad2}(k:B0d f f0)(A:Adw.Fr u)(h1:0<=AsG u f0)(h2:AsG u f1<=0)(J:Adw.A7s f f1=some g)(R:Adw.Bcb g u=some m)(ha:Adw.A7s f0 m=some m)(T:GP h):Ah h (λr _=>r=.Bj [lsA f (Adw.AtS m f1),iI 0]) ((CU (D+3)).call 29 [lsA f f0,.str (ftx u)] h):=upU (q:=false) (by
 rw[CrK];have U:=(Adw.AtP J).1;have O:=(Adw.AtP R).1;have t:=λb c (p:GP c) (l:b<c.nx) e=>Cvi (D:=D) (h:=c) (b:=b) k p l e;have c69:=lkU (d:=D+1) (uV t69) (A9U (n:=0));have c70:=lkU (d:=D+1) (uV (vW t70)) (A5d A);have I:=lkU (d:=D+1) (uV t71) (Awh A fr0);have L:=lkU (d:=D+1) (uV t71) (Awh A fr1);have F:=lkU (d:=D+1) (uV (vW t74)) (AtI k.a fr1 J);have c72:=λs=>lkU (d:=D+1) (uV t72) (A5D (n:=s));have c73:=lkU (d:=D+1) (uV (vW t73)) (AtI U A R);have K:=lkU (d:=D+1) (uV (vW t74)) (AtI fr0 O ha);have c75:=lkU (d:=D+1) t75 (Awh k.a O);have M:∀v c,Ah c (λu _=>u=.Bj []) ((CU (D+2)).call 67 [v] c):=λv c=>p67 uNo v c;rw[show ftx f1=[49]from rfl]at L F
 rw[show ftx f0=[48]from rfl]at I K
 change ∀b c (p:GP c) (l:b<c.nx) (e:c.m.get b=cd [.str (ftx f),.str [48]] 32),Ah c (λu _=>u=.Bj []) ((CU (D+2)).call 68 [.sl b 0 1 1 2 true] c)at t;generalize CU (D+2)=C at *
 have b1:decide (AsG u f0<0)=false:=df;have b2:decide (0<AsG u f1)=false:=df;generalize AsG u f0=i1 at *
 generalize AsG u f1=i2 at *
 clear h1 h2 J R ha U O A k;show Ah h (λr _=>r=.Bj [.agg [.str (ftx f),.str (ftx (Adw.AtS m f1))],iI 0]) _;generalize Adw.AtS m f1=mm at *
 replace t:=(hU t)
 refine we ?_;refine Fj ((gw t) _ _ gpA Ce (Bf (h:=((h.new _).new _).new _) _)) λv1 h1 e1 l1 w q1=>?_
 subst q1;have P:Ai h h1:=Ai.trans Ex e1;simp only[C9]at l1;have S:h1.m.get h.nx=cd [.str (ftx f),.str [48]] 32:=(w _ mh).trans ((Cq _ _ mh).trans ((Cq _ _ mh).trans ((Cq _ _ mh).trans (Bf _))));have r1:h1.m.get (h.nx+1)=cd [.str [],.str []] 32:=(w _ mh).trans ((Cq _ _ mh).trans ((Cq _ _ mh).trans (Bf (h:=h.new _) _)));have r2:h1.m.get (h.nx+1+1)=cd [iI 0] 35:=(w _ mh).trans ((Cq _ _ mh).trans (Bf (h:=(h.new _).new _) _));have W:=T.gr P;have G:Nv h1 h.nx [.str (ftx f),.str [48]]:=⟨by omega,32,.exact,S,trivial⟩;have ld0:=G.one (o:=0) rfl;have Y:=G.one (o:=1) rfl;clear w e1 t S G T;have hb:h.nx+1<h.nx+1+1:=by omega
 have Sz:h.nx+1+1<h1.nx:=by omega
 have Qy:h.nx<=h.nx:=Ye _;generalize hbb:h.nx=b at *
 have X:∀c:H,Bs (.ptr b 0) 0 c=.ok (.ptr b 0) c:=λc=>by rw[E3]
 have V:∀c:H,Bs (.ptr b 0) 1 c=.ok (.ptr b 1) c:=λc=>by rw[E3,Rx]
 refine we ?_;refine Ey (v:=.agg [.str (ftx f),.str (ftx mm)]) (h:=Ab h1) rfl ?_;refine we ?_;have hbe:h.nx<=b:=by omega
 have gR:Ai h (Be ((b+1+1)::(b+1)::h1.lg) ((Ab ((Ab h1).put (b+1) (cd [.str (ftx f),.str (ftx mm)] 32))).put (b+1+1) (cd [iI 0] 35))):=by
  have g1:=(((P.nl).put (b+1) (cd [.str (ftx f),.str (ftx mm)] 32) om).nl).put (b+1+1) (cd [iI 0] 35) om;refine⟨g1.lo,g1.Cf,λx B=>?_⟩;rcases Wf.1 B with rfl|B
  .exact .inr om
  .rcases Wf.1 B with rfl|B
   .exact .inr om
   .exact P.lg x B
 refine Fj (M _ _) λv2 h2 e2 l2 E q2=>?_;have o1:h2.m.get (b+1)=cd [.str (ftx f),.str (ftx mm)] 32:=(E _ mh).trans ((Aq _ _ _ om).trans (A2 (h:=Ab h1) _ _));have o2:h2.m.get (b+1+1)=cd [iI 0] 35:=(E _ mh).trans (A2 (h:=Ab _) _ _);rw[BnC (n:=2) o1 rfl o2];exact Lo (gR.trans e2) rfl)
variable {f:Adw.Ad2}{s:Nat}
def B64(h:s<1000000000):Adw.Fr (s,1):=⟨h,by show 1<1000000000;decide,by show 0<1;decide,Jf s⟩
def B7A{a b c:Adw.Ad2}(h:Adw.BmU a b=some c):Adw.Fr c:=by
 unfold Adw.BmU at h;split at h
 .exact(Adw.AtP h).1
 .cases h
def Cha{a b c:Adw.Ad2}(h:Adw.A0N a b=some c):Adw.Fr c:=by
 unfold Adw.A0N at h;split at h
 .cases h
 .exact(Adw.AtP h).1
def Cer{c:Nat}{x v:AV}(e:h.m.get c=cd [x] p):Vk [.v v,.c (some none) (.ptr c 0)] h=.ok (.Bj [v,x]) h:=by
 have h2:h.rd c=some [x]:=by rw[AaS,e];rfl
 have g:AyY (some none) (.ptr c 0) h=some x:=by show(match h.rd c with|some c=>Tn (some none) c 0|none=>none)=_;rw[h2];rfl
 show(match (match (match AyY (some none) (.ptr c 0) h,(some []:Option uz)with|some v,some l=>some (v::l)|_,_=>none)with|some l=>some (v::l)|none=>none)with|some l=>OR.ok (single l) h|none=>.bad 197)=_;rw[g];rfl
def Cvn{l:AV}{r:uw}(K:1<=s)(A:s<=1000000)(w:Adw.Fr f)(h1:0<AsG f f1)(E:∀c,GP c->Ai h c->Ah c (λu _=>u=.str r) (cvV l [.str (dgn s)] PP (CU (D+1)) c))(P:GP h):Ah h (λu _=>u=.Bj [.str r,iI 0]) ((CU (D+2)).call 275 [iI (s:Int),.str (ftx f),l] h):=upU (q:=true) (by
 rw[Cs6];have e:∀c,GP c->Ai h c->Ah c (λu _=>u=.str r) (cvV l [.str (dgn s)] prog (CU (D+1)) c):=E;have M:=lkU (d:=D) (uV t69) (A9U (n:=0));have L:=lkU (d:=D) (uV (vW t70)) (A5d w);have t:=lkU (d:=D) (uV t71) (Awh w fr1);have o:=lkU (d:=D) t288 (Ay7 (pre:=[]) (k:=.i64) (n:=s) (show s<Adw.AdE by show s<1000000000;omega))
 have p:∀v c,Ah c (λu _=>u=.Bj []) ((CU (D+1)).call 67 [v] c):=λv c=>p67 uNo v c;rw[show ftx f1=[49]from rfl]at t
 rw[T3]at o;generalize CU (D+1)=C at *
 have b1:decide (AsG f f1<=0)=false:=df;have b2:decide ((s:Int)<1)=false:=df;have O:decide ((1000000:Int)<(s:Int))=false:=df;generalize AsG f f1=i1 at *
 generalize (s:Int)=si at *
 generalize dgn s=ds at *
 replace e:=(hU e)
 clear E w h1 K A;refine wq ?_;refine Fj ((show ∀c,GP c->Ai h c->Ah c (λu _=>u=.str r) (cvV l [.str ds] prog C c)from e) _ gpA Ex) λv1 h1 e1 l1 g G=>?_
 subst G;have g1:h1.m.get h.nx=cd [iI 0] 35:=(g _ (Y3 _)).trans (Bf _);have J:Ai h h1:=Ai.trans Ex e1;have F:h.nx<h1.nx:=Yy (Y3 _) l1;clear g l1 e1 e;refine wq ?_;refine Fj (p _ _) λv2 h2 I l2 B R=>?_;rw[Cer ((B _ mh).trans (A2 _ _))];exact Lo ((J.put _ _ (Ye _)).trans I) rfl)
def Cvo(L:1<=s)(I:s<=1000000)(g:Adw.Fr f)(hz:Adw.Aw4 s f=some z)(K:GP h){b:Nat}(hb:b<h.nx)(l:h.m.get b=cd [.str (ftx f)] 28):Ah h (λu _=>u=.str (ftx z)) ((CU (D+2)).call 276 [.str (dgn s),.ptr b 0] h):=upU (q:=true) (by
 rw[Cs7];have c:Nv h b [.str (ftx f)]:=⟨hb,28,.exact,l,trivial⟩;have l0:=c.one (o:=0) rfl;have E:=λs=>lkU (d:=D) (uV t72) (A5D (n:=s));have J:Adw.Fr (s,1):=B64 om;unfold Adw.Aw4 at hz;by_cases h1:s=1
 .rw[Xo h1]at hz;have B2s:=lkU (d:=D) (uV t277) (Cim g hz);have w:decide (dgn s=[49])=true:=by subst h1;decide
  generalize CU (D+1)=C at *
  generalize dgn s=ds at *
  clear c l;refine wq ?_;exact zr Ex rfl
 .rw[X2 h1]at hz;obtain⟨top,v,hz⟩:=Uh.1 hz;obtain⟨a,t,hz⟩:=Uh.1 hz;obtain⟨bb,z3,hz⟩:=Uh.1 hz;have r:=(Adw.AtP v).1;have B:=(Adw.AtP t).1;have F:=B7A z3;have p:=lkU (d:=D) (uV (vW t73)) (AtI J g v);have A:=lkU (d:=D) (uV (vW t74)) (AtI r g t);have B2t:=lkU (d:=D) (uV (vW t279)) (AtI B fr1 z3);have G:=lkU (d:=D) (uV (vW t278)) (AtI r F hz);have w:decide (dgn s=[49])=false:=Yg λe=>h1 (A9O (show s<Adw.AdE by show s<1000000000;omega) fe (e.trans fe))
  rw[show ftx f1=[49]from rfl]at B2t
  rw[show ftx (s,1)=dgn s from rfl]at p
  generalize CU (D+1)=C at *
  generalize dgn s=ds at *
  clear c l;refine wq ?_;exact zr Ex rfl)
def Cvt(L:1<=s)(I:s<=1000000)(l:Adw.Fr f)(hz:Adw.A4M s f=some z)(K:GP h){b:Nat}(hb:b<h.nx)(A:h.m.get b=cd [.str (ftx f)] 28):Ah h (λu _=>u=.str (ftx z)) ((CU (D+2)).call 314 [.str (dgn s),.ptr b 0] h):=upU (q:=true) (by
 rw[Ctg];have c:Nv h b [.str (ftx f)]:=⟨hb,28,.exact,A,trivial⟩;have l0:=c.one (o:=0) rfl;have E:=λs=>lkU (d:=D) (uV t72) (A5D (n:=s));have w:Adw.Fr (s,1):=B64 om;unfold Adw.A4M at hz;obtain⟨t,v,hz⟩:=Uh.1 hz;obtain⟨M,p,hz⟩:=Uh.1 hz;obtain⟨a,z3,hz⟩:=Uh.1 hz;obtain⟨q,r,hz⟩:=Uh.1 hz;have B:=(Adw.AtP v).1;have F:=(Adw.AtP p).1;have e:=lkU (d:=D) (uV (vW t74)) (AtI w w v);have J:=lkU (d:=D) (uV (vW t73)) (AtI B l p);have B2t:=lkU (d:=D) (uV (vW t279)) (AtI l fr1 z3);have G:=lkU (d:=D) (uV (vW t278)) (AtI (B7A z3) F r);have g:=lkU (d:=D) (uV (vW t74)) (AtI fr1 (Cha r) hz);rw[show ftx f1=[49]from rfl]at B2t g
 rw[show ftx (s,1)=dgn s from rfl]at e
 generalize CU (D+1)=C at *
 generalize dgn s=ds at *
 clear c A;refine wq ?_;exact zr Ex rfl)
def Cvu{v:AV}(l:Adw.Fr f)(hz:Adw.A0r f=some z)(G:GP h){b:Nat}(hb:b<h.nx)(w:h.m.get b=cd [.str (ftx f)] 28):Ah h (λu _=>u=.str (ftx z)) ((CU (D+2)).call 319 [v,.ptr b 0] h):=upU (q:=true) (by
 rw[Ctl];have c:Nv h b [.str (ftx f)]:=⟨hb,28,.exact,w,trivial⟩;have l0:=c.one (o:=0) rfl;have B:=λs=>lkU (d:=D) (uV t72) (A5D (n:=s));unfold Adw.A0r at hz;obtain⟨t,r,hz⟩:=Uh.1 hz;obtain⟨I,p,hz⟩:=Uh.1 hz;have A:=(Adw.AtP r).1;have F:=(Adw.AtP p).1;have g:=lkU (d:=D) (uV (vW t73)) (AtI Bgu l r);have e:=lkU (d:=D) (uV (vW t74)) (AtI l fr1 p);have E:=lkU (d:=D) (uV (vW t278)) (AtI A F hz);rw[show ftx f1=[49]from rfl]at e
 rw[show ftx f2=[50]from rfl]at g
 generalize CU (D+1)=C at *
 clear c w;refine wq ?_;exact zr Ex rfl)
def Ci8{r:uw}(K:1<=s)(l:s<=1000000)(w:Adw.Fr f)(h1:0<AsG f f1)(hb:Bg PP o=true)(L:∀g b,GP g->b<g.nx->g.m.get b=cd [.str (ftx f)] 28->Ah g (λu _=>u=.str r) ((CU (D+2)).call o [.str (dgn s),.ptr b 0] g))(t:GP h):
 Ah h (λu _=>u=.Bj [.str r,iI 0]) (Aa (Oy 28 (.str (ftx f)) h) λv1 h1=>Aa (Ae (some none) v1 h1) λv2 h2=>Aa ((CU (D+3)).call 275 [iI (s:Int),v2,.fn (.func o) [] [v1]] h2) λv3 q=>Aa (L9 v3 0 q) λv4 E=>Aa (L9 v3 1 E) λI G=>.ok (.Bj [v4,I]) G):=by
 refine Ey (v:=.ptr h.nx 0) (h:=h.new (cd [.str (ftx f)] 28)) rfl ?_;have g1:Ai h (h.new (cd [.str (ftx f)] 28)):=(Ai.refl h).new _;have c:Nv (h.new (cd [.str (ftx f)] 28)) h.nx [.str (ftx f)]:=⟨Y3 _,28,.exact,Bf _,trivial⟩;refine Ey (c.one (o:=0) rfl _ (Bi.refl _)) ?_;refine Fj (Cvn (D:=D+1) (r:=r) K l w h1 (λg p e=>?_) (t.gr g1)) λv3 q A l3 B J=>?_
 .rw[AeY,Xo hb];exact L g h.nx p (Yy (Y3 _) e.lo) ((e.Cf _ (Y3 _)).trans (Bf _))
 .subst J;exact Ey rfl (Ey rfl (Lo (g1.trans A) rfl))
def Cvd(o:1<=s)(c:s<=1000000)(g:Adw.Fr f)(h1:0<AsG f f1)(hz:Adw.Aw4 s f=some z)(r:GP h):Ah h (λu _=>u=okN z) ((CU (D+4)).call 272 [iI (s:Int),.str (ftx f)] h):=upU (q:=true) (by rw[Cs3];exact Ci8 (D:=D) o c g h1 (by kernel_rfl) (λt b p l e=>Cvo (D:=D) o c g hz p l e) r)
def Cvf(o:1<=s)(c:s<=1000000)(g:Adw.Fr f)(h1:0<AsG f f1)(hz:Adw.A4M s f=some z)(r:GP h):Ah h (λu _=>u=okN z) ((CU (D+4)).call 313 [iI (s:Int),.str (ftx f)] h):=upU (q:=true) (by rw[Ctf];exact Ci8 (D:=D) o c g h1 (by kernel_rfl) (λt b p l e=>Cvt (D:=D) o c g hz p l e) r)
def Cvg(c:Adw.Fr f)(h1:0<AsG f f1)(hz:Adw.A0r f=some z)(g:GP h):Ah h (λu _=>u=okN z) ((CU (D+4)).call 318 [.str (ftx f)] h):=upU (q:=true) (by rw[Ctk];exact Ci8 (D:=D) (s:=1) fe fe c h1 (by kernel_rfl) (λo b p l e=>Cvu (D:=D) c hz p l e) g)
end Go.Proofs
namespace Go.Proofs
open Go Go.Ev Go.Nm Go.Ev.Sx
open Go.Proofs.YtahaaiadlgfchaaGreatDoor
variable {j:FuncId}{o:uz->Option AV}{p:AV}{I:List Aaw}{J:uw}{R:Aaw}
variable {h:H}{d D n s:Nat}{x y z f:Adw.Ad2}
structure LtD(x:Adw.Ad2)(n:Nat):Prop where
 fr:Adw.Fr x
 lt:x.1<x.2
 ps:0<x.1
 sm:x.2<500000000
 n:n<=20
def ltS(g:Adw.Ad2->Nat->Nat):uz->Option AV:=gra (α:=Adw.Ad2 × Nat) (λp=>[.str (ftx p.1),iI (p.2:Int)]) (λp=>okN (Adw.At7 (g p.1) p.2)) (λp=>LtD p.1 p.2)
def B7p{g:Adw.Ad2->Nat->Nat}(k:LtD x n):ltS g [.str (ftx x),iI (n:Int)]=some (okN (Adw.At7 (g x) n)):=by
 refine Awk (a:=(x,n)) ?_ k;rintro ⟨a,i⟩ ⟨b,j⟩ h1 h2 e;injection e with e1 c;injection c with c _;injection c with _ c;obtain rfl:=Avd h1.fr h2.fr (Awf e1);obtain rfl:i=j:=by simp only at c;omega
 rfl
def g1F(x:Adw.Ad2):Nat->Nat:=Adw.ttl x.1 x.2
def g2F(x:Adw.Ad2):Nat->Nat:=Adw.A5L x.1 x.2
structure SfD(o:Nat->Adw.Ad2->Option Adw.Ad2)(s:Nat)(f:Adw.Ad2):Prop where
 s1:1<=s
 s2:s<=1000000
 fr:Adw.Fr f
 gt:0<AsG f f1
 ex:∃z,o s f=some z
def sfS(o:Nat->Adw.Ad2->Option Adw.Ad2):uz->Option AV:=gra (α:=Nat × Adw.Ad2) (λp=>[iI (p.1:Int),.str (ftx p.2)]) (λp=>okN ((o p.1 p.2).getD (0,1))) (λp=>SfD o p.1 p.2)
def B78{o:Nat->Adw.Ad2->Option Adw.Ad2}(k:SfD o s f)(e:o s f=some z):sfS o [iI (s:Int),.str (ftx f)]=some (okN z):=by
 have:sfS o [iI (s:Int),.str (ftx f)]=some (okN ((o s f).getD (0,1))):=by
  refine Awk (a:=(s,f)) ?_ k;rintro ⟨i,a⟩ ⟨j,b⟩ h1 h2 g;injection g with e1 c;injection c with c _;injection e1 with _ e1;obtain rfl:=Avd h1.fr h2.fr (Awf c);obtain rfl:i=j:=by simp only at e1;omega
  rfl
 rw[this,e];rfl
structure HfD(f:Adw.Ad2):Prop where
 fr:Adw.Fr f
 gt:0<AsG f f1
 ex:∃z,Adw.A0r f=some z
def hfS:uz->Option AV:=gra (α:=Adw.Ad2) (λp=>[.str (ftx p)]) (λp=>okN ((Adw.A0r p).getD (0,1))) HfD
def ChD(k:HfD f)(e:Adw.A0r f=some z):hfS [.str (ftx f)]=some (okN z):=by
 have:hfS [.str (ftx f)]=some (okN ((Adw.A0r f).getD (0,1))):=by refine Awk (a:=f) ?_ k;intro a b h1 h2 c;injection c with e1 _;rw[Avd h1.fr h2.fr (Awf e1)]
 rw[this,e];rfl
def ltM(f u:Adw.Ad2):Option Adw.Ad2:=match Adw.A7s f f1 with
|some g=>Adw.Bcb g u
|none=>none
structure LvD(f u:Adw.Ad2):Prop where
 k:B0d f f0
 fu:Adw.Fr u
 lo:0<=AsG u f0
 hi:AsG u f1<=0
 ex:∃m,ltM f u=some m/\Adw.A7s f0 m=some m
def lvS:uz->Option AV:=gra (α:=Adw.Ad2 × Adw.Ad2) (λp=>[lsA p.1 f0,.str (ftx p.2)]) (λp=>.Bj [lsA p.1 (Adw.AtS ((ltM p.1 p.2).getD (0,1)) f1),iI 0]) (λp=>LvD p.1 p.2)
def B7q{u m:Adw.Ad2}(k:LvD f u)(e:ltM f u=some m):lvS [lsA f f0,.str (ftx u)]=some (.Bj [lsA f (Adw.AtS m f1),iI 0]):=by
 have:lvS [lsA f f0,.str (ftx u)]=some (.Bj [lsA f (Adw.AtS ((ltM f u).getD (0,1)) f1),iI 0]):=by refine Awk (a:=(f,u)) ?_ k;rintro ⟨a,i⟩ ⟨b,j⟩ h1 h2 g;injection g with e1 c;injection c with c _;injection e1 with e1;injection e1 with e1 _;obtain rfl:=Avd h1.k.a h2.k.a (Awf e1);obtain rfl:=Avd h1.fu h2.fu (Awf c);rfl
 rw[this,e];rfl
def AjS:Df:=U.ext 280 rtS
def AkO:Df:=AjS.ext 269 (ltS g2F)
def Sd:Df:=AkO.ext 323 (ltS g1F)
def Alr:Df:=Sd.ext 272 (sfS Adw.Aw4)
def Alt:Df:=Alr.ext 313 (sfS Adw.A4M)
def AmP:Df:=Alt.ext 318 hfS
def ArK:Df:=AmP.ext 29 lvS
def Cxx:AsH PP Um AjS:=uOk.ext λargs v c=>by
 obtain⟨x,h1,rfl,rfl⟩:=AsI c;exact⟨A5E wOk (d:=2) (by kernel_rfl) (.Bj λy hy=>by
  simp only[Wf,Ww,fb]at hy;rcases hy with rfl|rfl|rfl
  .exact .str _
  .exact .str _
  .exact .int _ _) λh e=>Cnj (D:=0) h1.1 h1.2 e,.cons (.str _) .nil⟩
def Cxy:AsH PP Um AkO:=Cxx.ext λargs v c=>by obtain⟨x,h1,rfl,rfl⟩:=AsI c;exact⟨A5E xOk (d:=5) (by kernel_rfl) Ayq λh e=>Cvm (D:=0) h1.fr h1.lt h1.ps h1.sm h1.n e,.cons (.str _) (.cons (.int _ _) .nil)⟩
def Cxz:AsH PP Um Sd:=Cxy.ext λargs v c=>by obtain⟨x,h1,rfl,rfl⟩:=AsI c;exact⟨A5E xOk (d:=5) (by kernel_rfl) Ayq λh e=>Cvv (D:=0) h1.fr h1.lt h1.ps h1.sm h1.n e,.cons (.str _) (.cons (.int _ _) .nil)⟩
def Cx0:AsH PP Um Alr:=Cxz.ext λargs v c=>by obtain⟨x,h1,rfl,rfl⟩:=AsI c;obtain⟨z,hz⟩:=h1.ex;exact⟨A5E uOk (d:=4) (by kernel_rfl) Ayq λh e=>by rw[hz];exact Cvd (D:=0) h1.s1 h1.s2 h1.fr h1.gt hz e,.cons (.int _ _) (.cons (.str _) .nil)⟩
def Cx1:AsH PP Um Alt:=Cx0.ext λargs v c=>by obtain⟨x,h1,rfl,rfl⟩:=AsI c;obtain⟨z,hz⟩:=h1.ex;exact⟨A5E uOk (d:=4) (by kernel_rfl) Ayq λh e=>by rw[hz];exact Cvf (D:=0) h1.s1 h1.s2 h1.fr h1.gt hz e,.cons (.int _ _) (.cons (.str _) .nil)⟩
def Cx2:AsH PP Um AmP:=Cx1.ext λargs v c=>by obtain⟨x,h1,rfl,rfl⟩:=AsI c;obtain⟨z,hz⟩:=h1.ex;exact⟨A5E uOk (d:=4) (by kernel_rfl) Ayq λh e=>by rw[hz];exact Cvg (D:=0) h1.fr h1.gt hz e,.cons (.str _) .nil⟩
def B7o{f u m:Adw.Ad2}(h:ltM f u=some m):∃g,Adw.A7s f f1=some g/\Adw.Bcb g u=some m:=by
 unfold ltM at h;split at h
 .exact⟨_,by assumption,h⟩
 .cases h
def zOk:AsH PP Um ArK:=Cx2.ext λargs v o=>by
 obtain⟨x,h1,rfl,rfl⟩:=AsI o;obtain⟨m,e,ha⟩:=h1.ex;obtain⟨g,p,c⟩:=B7o e;refine⟨A5E uOk (d:=3) (by kernel_rfl) (.Bj λy hy=>?_) λh l=>?_,.cons ByB (.cons (.str _) .nil)⟩
 .simp only[Wf,Ww,fb]at hy;rcases hy with rfl|rfl
  .exact ByB
  .exact .int _ _
 .rw[e];exact Cvh (D:=0) h1.k h1.fu h1.lo h1.hi p c ha l
abbrev zL(g:FuncId):Prop:=g≠280/\g≠269/\g≠323/\g≠272/\g≠313/\g≠318/\g≠29
def zU(p:U j=o)(q:zL j:=by decide):ArK j=o:=by obtain⟨g,t,r,e,u,c,l⟩:=q;simp[ArK,AjS,AkO,Sd,Alr,Alt,AmP,Bb,g,t,r,e,u,c,l,p]
def Cxq:ArK 269=ltS g2F:=by simp[ArK,AjS,AkO,Sd,Alr,Alt,AmP,Bb]
def Cxu:ArK 323=ltS g1F:=by simp[ArK,AjS,AkO,Sd,Alr,Alt,AmP,Bb]
def Cxr:ArK 272=sfS Adw.Aw4:=by simp[ArK,AjS,AkO,Sd,Alr,Alt,AmP,Bb]
def Cxs:ArK 313=sfS Adw.A4M:=by simp[ArK,AjS,AkO,Sd,Alr,Alt,AmP,Bb]
def Cxt:ArK 318=hfS:=by simp[ArK,AjS,AkO,Sd,Alr,Alt,AmP,Bb]
def y29:ArK 29=lvS:=by simp[ArK,Bb]
abbrev CZ(d:Nat):Ac:=CT ArK d
def zNo(k:U j=λ_=>none:=by exact uNo)(c:zL j:=by decide):ArK j=λ_=>none:=zU k c
def upZ{q:Bool}{args:uz}{h0:H}{Q:AV->H->Prop}(c:Ah h0 Q (Ay PP (CZ d) N0x q j args h))(k:ArK j=λ_=>none:=by exact zNo):Ah h0 Q ((CZ (d+1)).call j args h):=upT (by rw[k]) c
def lkZ{args:uz}(l:ArK j=o)(c:o args=some p):∀h,GP h->(CZ (d+1)).call j args h=.ok p h:=λh e=>look l c e
open Tryz
attribute [local irreducible] Aa Al Af Ad
variable (Z:Ac)(N:Nat)
def Cf3:Prop:=∀(s:uw) (h:H),S0 h->s∈R2++N1++R9->Ah h (λr _=>r=ct) (Z.call 210 [.str s] h)
def Cwd(c:A7Y Z)(s:uw)(h:H)(e:S0 h)(p:s∈R2++N1++R9):Ah h (λr _=>r=ct) (ml Z N 210 [.str s] h):=by rw[Cr8];(repeat' (first|refine wk ?_|((with_reducible (first|apply Fj|apply zc2));exact c _ _ (e.By M0) p;intro q t u o l g;(try simp only[C9]at o l);subst g)));exact zr Ex rfl
def Clm(x:AV)(h:H):cvV (.fn (.func 210) [] []) [x] prog Z h=Z.call 210 [x] h:=by rw[AeY,Xo (by kernel_rfl)];rfl
def Byz(c:Cf3 Z)(v:AV)(l:List uw)(h:H)(q:S0 h)(g:Ig h v l)(w:∀s∈l,s∈R2++N1++R9)(G:l.length<=1000):
 ∀(k:Nat) (i:Int) (n:Nat) (hd:H) (f0:L2),i+(k:Int)=(l.length:Int)->0<=i->k<n->Ai h hd->Ah h (λr _=>r=iI (-1)) (BiI Z N n v (.fn (.func 210) [] []) (iI (l.length:Int)) (iI i) f0 hd)
 |0,i,n,hd,f0,J,t,hn,e=>by obtain⟨n1,rfl⟩:=mg n;have A:decide (i<(l.length:Int))=false:=df;rw[Bxl];refine wk ?_;exact zr e rfl
 |k+1,i,n,hd,f0,J,t,hn,e=>by obtain⟨n1,rfl⟩:=mg n;have K:=Byz c v l h q g w G k (i+1) n1;have A:decide (i<(l.length:Int))=true:=dt;have u:((i.toNat:Nat):Int)=i:=Tb t;obtain⟨x,o⟩:∃x,l[i.toNat]?=some x:=⟨_,Yq om⟩;obtain⟨b1,O,el⟩:=R0.elem (f:=Aeb) (s:=1) (λ_=>rfl) (Sl.By g e.keeps) o;have p:=w x (Vl o);have L:=el.ia;rw[u]at L;have I:=el.part 0 _ rfl;rw[Vw]at I;clear el u o g;rw[Bxl];simp only[Pj,Qw,ga,Dv,Dc,mM,mL,mC,Clm];(repeat' (first|refine wk ?_|((with_reducible (first|apply Fj|apply zc2));exact c _ _ (q.By M0) p;intro R P M E B F;(try simp only[C9]at E B);subst F)));exact K _ _ om om om Ex
def CjP:Prop:=∀(v:AV) (l:List uw) (h:H),S0 h->Ig h v l->(∀s∈l,s∈R2++N1++R9)->l.length<=5->Ah h (λr _=>r=ct) (Z.call 209 [v,.fn (.func 210) [] []] h)
def CjR:Prop:=∀(v:AV) (l:List uw) (h:H),S0 h->Ig h v l->(∀s∈l,s∈R2++N1++R9)->l.length<=5->Ah h (λr _=>r=iI (-1)) (Z.call 233 [v,.fn (.func 210) [] []] h)
def Cwf(q:100<N)(c:Cf3 Z)(v:AV)(l:List uw)(h:H)(o:S0 h)(e:Ig h v l)(g:∀s∈l,s∈R2++N1++R9)(p:l.length<=5):Ah h (λr _=>r=iI (-1)) (ml Z N 233 [v,.fn (.func 210) [] []] h):=by rw[CrB];refine Ey e.Gs ?_;exact Byz Z N c v l h o e g om l.length 0 N h _ om om om (Ai.refl h)
def Cwc(c:CjR Z)(v:AV)(l:List uw)(h:H)(g:S0 h)(u:Ig h v l)(e:∀s∈l,s∈R2++N1++R9)(q:l.length<=5):Ah h (λr _=>r=ct) (ml Z N 209 [v,.fn (.func 210) [] []] h):=by rw[Cr7];(repeat' (first|refine wk ?_|((with_reducible (first|apply Fj|apply zc2));exact c _ _ _ (g.By M0) u e q;intro w A B t p o;(try simp only[C9]at t p);subst o)));exact zr Ex rfl
def Cf2:Prop:=∀(c d:Aaw) (b:Nat) (h:H),Ge c.w=true->cellsOf c.w=some [c.w]->h.m.get b=cd (Hx d) 100->b<h.nx->Ah h (λr _=>r=.bool (decide (c.name=d.name))) (Z.call 186 [.agg (Hx c),.ptr b 0] h)
def Cwa(c d:Aaw)(b:Nat)(h:H)(h1:Ge c.w=true)(h2:cellsOf c.w=some [c.w])(e:h.m.get b=cd (Hx d) 100)(hb:b<h.nx):Ah h (λr _=>r=.bool (decide (c.name=d.name))) (ml Z N 186 [.agg (Hx c),.ptr b 0] h):=by
 rw[Cr5];have g:b≠h.nx:=by omega
 refine wk ?_;exact zr Ex rfl
def Cll(x w:AV)(h:H):cvV (.fn (.func 186) [] [w]) [x] prog Z h=Z.call 186 [x,w] h:=by rw[AeY,Xo (by kernel_rfl)];rfl
def Bmc(e:Cf2 Z)(d:Aaw)(b:Nat)(v:AV)(l:List Aaw)(h:H)(o:CsR h v l)(hn:∀c∈l,c.name≠d.name)(p:h.m.get b=cd (Hx d) 100)(hb:b<h.nx):
 ∀(k:Nat) (i:Int) (n:Nat) (hd:H) (f0:L2),i+(k:Int)=(l.length:Int)->0<=i->k<n->Ai h hd->Ah h (λr _=>r=iI (-1)) (Be6 Z N n v (.fn (.func 186) [] [.ptr b 0]) (iI (l.length:Int)) (iI i) f0 hd)
 |0,i,n,hd,f0,J,w,F,g=>by obtain⟨n1,rfl⟩:=mg n;have B:decide (i<(l.length:Int))=false:=df;rw[Bcl];refine wk ?_;exact zr g rfl
 |k+1,i,n,hd,f0,J,w,F,g=>by obtain⟨n1,rfl⟩:=mg n;have K:=Bmc e d b v l h o hn p hb k (i+1) n1;have S:=o.Mu;have B:decide (i<(l.length:Int))=true:=dt;have A:((i.toNat:Nat):Int)=i:=Tb w;obtain⟨x,u⟩:∃x,l[i.toNat]?=some x:=⟨_,Yq om⟩;obtain⟨b1,P,el⟩:=R0.elem (f:=Hx) (s:=4) (λ_=>rfl) (Sl.By o.sl g.keeps) u;have q:=Vl u;obtain⟨w1,w2⟩:=o.one x q;have I:=Yg (hn x q);have L:=el.ia;rw[A]at L;have U:=el.all;have t:=(g.Cf b hb).trans p;have E:=Yy hb g.lo;clear el A u o hn;rw[Bcl];simp only[Pj,Qw,gj,Dv,Dc,mM,mL,mC,Cll];(repeat' (first|refine wk ?_|(refine Pd (e _ _ _ _ w1 w2 t E) ?_;intro V T R O M G;subst G)|fail));exact K _ _ om om om Ex
def CjN:Prop:=∀(d:Aaw) (b:Nat) (v:AV) (l:List Aaw) (h:H),CsR h v l->(∀c∈l,c.name≠d.name)->h.m.get b=cd (Hx d) 100->b<h.nx->Ah h (λr _=>r=ct) (Z.call 185 [v,.fn (.func 186) [] [.ptr b 0]] h)
def Ceu:Prop:=∀(d:Aaw) (b:Nat) (v:AV) (l:List Aaw) (h:H),CsR h v l->(∀c∈l,c.name≠d.name)->h.m.get b=cd (Hx d) 100->b<h.nx->Ah h (λr _=>r=iI (-1)) (Z.call 141 [v,.fn (.func 186) [] [.ptr b 0]] h)
def Cno(p:100<N)(g:Cf2 Z)(d:Aaw)(b:Nat)(v:AV)(l:List Aaw)(h:H)(e:CsR h v l)(hn:∀c∈l,c.name≠d.name)(o:h.m.get b=cd (Hx d) 100)(hb:b<h.nx):Ah h (λr _=>r=iI (-1)) (ml Z N 141 [v,.fn (.func 186) [] [.ptr b 0]] h):=by rw[Clo];refine Ey e.sl.Gs ?_;have:=e.Mu;exact Bmc Z N g d b v l h e hn o hb l.length 0 N h _ om om om (Ai.refl h)
def CvZ(e:Ceu Z)(d:Aaw)(b:Nat)(v:AV)(l:List Aaw)(h:H)(o:CsR h v l)(hn:∀c∈l,c.name≠d.name)(p:h.m.get b=cd (Hx d) 100)(hb:b<h.nx):Ah h (λr _=>r=ct) (ml Z N 185 [v,.fn (.func 186) [] [.ptr b 0]] h):=by rw[Cr4];(repeat' (first|refine wk ?_|(refine Pd (e _ _ _ _ _ o hn p hb) ?_;intro q u A w t g;subst g)|fail));exact zr Ex rfl
def A5r(w:uw):AV:=.agg [.str w,ct]
def BlF(w:uw):AV × AV:=(A5r w,.agg [])
def CmB(a b:uw):Bool:=match Gy prog 289 (A5r a) (A5r b)with|some false=>true|_=>false
def Bmb:(R9.all λa=>Fe prog 289 (A5r a)&&R9.all λb=>decide (a=b)||CmB a b)=true:=by kernel_rfl
def Cdy(h:J∈R9):Fe prog 289 (A5r J)=true:=by have:=Od.1 Bmb J h;rw[Sc]at this;exact this.1
def ChY{b:uw}(h:J∈R9)(h2:b∈R9)(hn:J≠b):Gy prog 289 (A5r J) (A5r b)=some false:=by
 have:=Od.1 Bmb J h;rw[Sc]at this;have:=Od.1 this.2 b h2;rw[Yg hn]at this;unfold CmB at this;cases e:Gy prog 289 (A5r J) (A5r b)with
 |none=>rw[e]at this;cases this
 |some c=>
  rw[e]at this;cases c
  .rfl
  .cases this
def Bmf(g:J∈R9):∀{l:List uw},(∀a∈l,a∈R9)->J ∉ l->Z7 (Gy prog 289 (A5r J)) (A5r J) (.agg []) (l.map BlF)=some ((l++[J]).map BlF)
|[],_,_=>rfl
|a::l,o,hn=>by
 have p:=Bmf g (l:=l) (λx c=>o x (Wr _ c)) λc=>hn (Wr _ c);have h1:=ChY g (o a (Wm ..)) λe=>hn (e ▸ Wm ..);show(match Gy prog 289 (A5r J) (A5r a)with
  |some true=>some ((A5r J,AV.agg [])::l.map BlF)
  |some false=>match Z7 (Gy prog 289 (A5r J)) (A5r J) (.agg []) (l.map BlF)with|some r=>some (BlF a::r)|none=>none
  |none=>none)=_
 rw[h1];simp only;rw[p];rfl
def Byy(v:AV)(l:List uw)(h:H)(q:Ig h v l)(B:∀w∈l,w∈R9)(o:l.Nodup)(O:l.length<=5):
 ∀(k:Nat) (i:Int) (n:Nat) (hd:H) (f0:L2),i+(k:Int)=(l.length:Int)->0<=i->k<n->Ai h hd->h.nx<hd.nx->hd.m.get h.nx=.map ((l.take i.toNat).map BlF)->Ah h (λr _=>r=ct) (BiD Z N n v (.map h.nx) v (iI (l.length:Int)) (iI i) f0 hd)
 |0,i,n,hd,f0,S,E,K,p,I,c=>by
  obtain⟨n1,rfl⟩:=mg n;have J:decide (i<(l.length:Int))=false:=df;have F:∀e,Fo v e=.ok (iI (l.length:Int)) e:=λ_=>q.Gs;have P:lnM (.map h.nx) hd=.ok (iI (l.length:Int)) hd:=by show(match (match hd.m.get h.nx with|.map es=>some es|_=>none)with|some es=>OR.ok (iI (.ofNat es.length)) hd|none=>.bad 127)=_;rw[c];show OR.ok (iI (.ofNat (((l.take i.toNat).map BlF).length))) hd=_;rw[ez,R4 om];rfl
  rw[Bxk];refine wk ?_;exact zr p (by simp)
 |k+1,i,n,hd,f0,S,E,K,p,I,c=>by
  obtain⟨n1,rfl⟩:=mg n;have T:=Byy v l h q B o O k (i+1) n1;have J:decide (i<(l.length:Int))=true:=dt;have G:((i.toNat:Nat):Int)=i:=Tb E;obtain⟨x,t⟩:∃x,l[i.toNat]?=some x:=⟨_,Yq om⟩;obtain⟨b1,X,el⟩:=R0.elem (f:=Aeb) (s:=1) (λ_=>rfl) (Sl.By q p.keeps) t;have g:=B x (Vl t);have V:=el.ia;rw[G]at V;have R:=el.part 0 _ rfl;rw[Vw]at R;have M:x ∉ l.take i.toNat:=by
   intro W;obtain⟨j,hj⟩:=Oh W;have u:j<i.toNat:=by have:=(Xh.1 hj).1;rw[Cm]at this;omega
   rw[Mx u]at hj;have h1:=(Xh.1 hj);have h2:=(Xh.1 t);have:=(Kq o).1 (h1.2.trans h2.2.symm);omega
  have A:∀e:H,e.m.get h.nx=hd.m.get h.nx->As5 prog 289 (.agg []) (.map h.nx) (.agg [.str x,ct]) (.agg []) e=.ok (.Bj []) (e.put h.nx (.map ((l.take (i+1).toNat).map BlF))):=by
   intro e U;rw[A53,U,c,AqR,show(AV.agg [.str x,ct])=A5r x from rfl,Xo (Cdy g)]
   rw[Bmf g (λa ha=>B a (ax ha)) M,A0x];rw[show(i+1).toNat=i.toNat+1 by omega,Ga,t]
   rfl
  clear el G q;rw[Bxk];have L:=A hd rfl;refine wk ?_;exact T _ _ om om om (p.put _ _ (Ye _)) I (by rw[Kv];exact A2 ..)
def CjQ:Prop:=∀(v:AV) (l:List uw) (h:H),Ig h v l->(∀w∈l,w∈R9)->l.Nodup->l.length<=5->Ah h (λr _=>r=ct) (Z.call 211 [v] h)
def Cwe(p:100<N)(v:AV)(l:List uw)(h:H)(e:Ig h v l)(g:∀w∈l,w∈R9)(c:l.Nodup)(o:l.length<=5):Ah h (λr _=>r=ct) (Ay prog Z N false 211 [v] h):=by rw[Cr9];refine Ey (v:=.map h.nx) (h:=h.new (.map [])) rfl ?_;refine Ey e.Gs ?_;exact Byy Z N v l h e g c o l.length 0 N _ _ om om om ((Ai.refl h).new _) (Y3 _) (Bf _)
structure WsW(h:H)(c:Aaw):Prop where
 len:∀hh,Fo c.w hh=.ok (iI (c.ws.length:Int)) hh
 ws:c.ws≠[]->Ig h c.w c.ws
def WsW.of{h:H}(e:Ig h R.w R.ws):WsW h R:=⟨λ_=>e.Gs,λ_=>e⟩
def WsW.By{h h1:H}(g:WsW h R)(e:Bi h h1):WsW h1 R:=⟨g.len,λn=>Sl.By (g.ws n) e⟩
structure Cfr(h:H)(v:AV)(l:List Aaw):Prop where
 r:CsR h v l
 w:∀c∈l,WsW h c
 ok:∀c∈l,c.name∈N1/\AdD c.a c.b c.ws
 gk:S0 h
structure CsD(h:H)(v:AV)(l:List Aaw):Prop where
 r:CsR h v l
 w:∀c∈l,Ig h c.w c.ws
 ok:∀c∈l,c.name∈N1/\AdD c.a c.b c.ws
 gk:S0 h
def CsD.By{h h1:H}(g:CsD h p I)(e:Bi h h1):CsD h1 p I:=⟨g.r.By e,λc o=>Sl.By (g.w c o) e,g.ok,g.gk.By e⟩
def CsD.Y5{h:H}(e:CsD h p I):Cfr h p I:=⟨e.r,λc g=>WsW.of (e.w c g),e.ok,e.gk⟩
def Cii{u:Nat}(h:J∈R9.take u):J∈R9:=ax h
def Cna(u:Nat):(R9.take u).Nodup:=List.Sublist.nodup (Jg u R9) fe
def CjO:Prop:=∀(c:Aaw) (h:H),S0 h->Ig h c.w c.ws->c.ws≠[]->AdD c.a c.b c.ws->Ah h (λr _=>r=iI 0) (Z.call 187 [.agg (Hx c)] h)
def Cwb(B:CjP Z)(I:CjQ Z)(c:Aaw)(h:H)(M:S0 h)(l:Ig h c.w c.ws)(J:c.ws≠[])(L:AdD c.a c.b c.ws):Ah h (λr _=>r=iI 0) (ml Z N 187 [.agg (Hx c)] h):=by
 rw[Cr6];obtain⟨nm,a,b,w,ws⟩:=c;simp only at l J L;rcases L with⟨h0,_⟩|⟨u,u1,u5,p,ha,hb⟩
 .exact absurd h0 J
 .have G:ws.length=u:=by rw[p,Cm];show min u 5=u;omega
  subst ha;have K:∀o,Fo w o=.ok (iI (u:Int)) o:=λo=>by rw[<- G];exact l.Gs
  have R:decide ((64:Int)<(u:Int))=false:=df;have q:∀s∈ws,s∈R9:=λs F=>Cii (u:=u) (p ▸ F);have e:∀s∈ws,s∈R2++N1++R9:=λs F=>Gw _ (q s F);have E:ws.Nodup:=p ▸ Cna u;have g:ws.length<=5:=by omega
  obtain⟨T,S⟩:=B2 l;replace e:=(hU e)
  replace q:=(hU q)
  clear p;(repeat' (first|refine wk ?_|((with_reducible (first|apply Fj|apply zc2));exact B _ ws _ (M.By M0) (Sl.By l M0) e g;intro P o O v t A;(try simp only[C9]at v t);subst A)|((with_reducible (first|apply Fj|apply zc2));exact I _ ws _ (Sl.By l M0) q E g;intro P o O v t A;(try simp only[C9]at v t);subst A)));exact zr Ex rfl
def CaF:Prop:=∀(v:AV) (l:List Aaw) (i:Int) (h:H),Cfr h v l->(l.map Aaw.name).Nodup->0<=i->i<(l.length:Int)->Ah h (λr _=>r=iI 0) (Z.call 164 [v,iI i] h)
def CvP(A5n:A7Y Z)(M:CjN Z)(ClT:CjO Z)(v:AV)(l:List Aaw)(i:Int)(h:H)(A:Cfr h v l)(J:(l.map Aaw.name).Nodup)(H4:0<=i)(hi:i<(l.length:Int)):Ah h (λr _=>r=iI 0) (ml Z N 164 [v,iI i] h):=by
 rw[Crs];have X4:((i.toNat:Nat):Int)=i:=Tb H4;obtain⟨c,Y⟩:∃x,l[i.toNat]?=some x:=⟨_,Yq om⟩;have B:=Vl Y;obtain⟨b1,o1,el⟩:=R0.elem (f:=Hx) (s:=4) (λ_=>rfl) A.r.sl Y;have x1:=el.ia;rw[X4]at x1;have x2:=el.all;obtain⟨w1,w2⟩:=A.r.one c B;obtain⟨S,o⟩:=A.ok c B;have q:=A.w c B;have hnm:c.name∈R2++N1++R9:=aw _ (Gw _ S);have p:∀d∈l.take i.toNat,d.name≠c.name:=by
  intro d hd he;obtain⟨j,hj⟩:=Oh hd;have R:j<i.toNat:=by have:=(Xh.1 hj).1;rw[Cm]at this;omega
  rw[Mx R]at hj;have h1:(l.map Aaw.name)[j]?=some d.name:=by rw[Cn,hj];rfl
  have h2:(l.map Aaw.name)[i.toNat]?=some d.name:=by rw[Cn,Y,he];rfl
  have h3:=Xh.1 h1;have h4:=Xh.1 h2;have:=(Kq J).1 (h3.2.trans h4.2.symm);omega
 have G:∀g,Fo c.w g=.ok (iI (c.ws.length:Int)) g:=q.len;have Z3:=A.r;have hk:=A.gk;clear el A J;(repeat' (first|refine wk ?_|((with_reducible (first|apply Fj|apply zc2));exact A5n _ _ (hk.By M0) hnm;intro vv g ee V K X;(try simp only[C9]at V K);subst X)));have g1:=K h.nx om;have g2:g.m.get h.nx=cd (Hx c) 100:=g1.trans (A2 ..);have Z0:Bi h g:=M0;have L:=Z3.By Z0;have I:h.nx<g.nx:=by omega
 obtain⟨v',T,q2⟩:=Sl.hiS (P:=prog) (t:=80) (e:=100) (bytes:=56) (u:=i.toNat) (by kernel_rfl) L.sl om;rw[X4]at T;have hq:CsR g v' (l.take i.toNat):=by
  have P4:(l.take i.toNat).length=i.toNat:=by rw[Cm];omega
  refine⟨?_,λd hd=>L.one d (ax hd),by have:=L.Mu;omega⟩
  show Sl 4 g v' (l.take i.toNat).length ((l.take i.toNat).flatMap Hx);rw[P4];have h5:∀(l:List Aaw) (u:Nat),(l.flatMap Hx).take (u*4)=(l.take u).flatMap Hx:=by
   intro l;induction l with
   |nil=>intro u;simp
   |cons a l ih=>
    intro u;cases u with
    |zero=>simp
    |succ u=>
     rw[show(u+1)*4=u*4+4 by omega]
     simp[ih]
  rw[<- h5];exact q2
 obtain⟨nm,a,b,w,ws⟩:=c;simp only at g2 q G o w1 w2 p;refine Ey (T _) ?_;have E:=λh1 e1=>M ⟨nm,a,b,w,ws⟩ h.nx v' _ h1 (hq.By e1) p;replace E:=(hU E)
 clear hq T q2 L Z3 p;have h2:=(gw E) g (Bi.refl g) g2 I
 refine Fj h2 λv1 h1 e1 l1 W r1=>?_;subst r1;have g3:=(W h.nx I).trans g2;rcases T7 ws with F|F
 .subst F;obtain⟨_,va,vb,vc⟩:([]:List uw)=[]/\-3<=a/\a<=b/\b<=20:=by
   rcases o with o|⟨u,u1,u5,hu,_⟩
   .exact⟨o.1,o.2.1,o.2.2.1,o.2.2.2.1⟩
   .have:=Jh List.length hu;rw[Cm]at this;simp at this;have h5:R9.length=5:=rfl;omega
  have k1:decide (a < -1000000)=false:=df;have k2:decide ((1000000:Int)<b)=false:=df;have k3:decide (b<a)=false:=df;refine wk ?_;exact zr Ex rfl
 .have U:ws≠[]:=by obtain⟨l',b',hb'⟩:=F;rw[hb'];simp
  have AhE:=Kd.2 U;have k1:decide ((0:Int)<(ws.length:Int))=true:=dt;have Cu4:Ig h1 w ws:=Sl.By (q.ws U) (Z0.trans e1.keeps);have O:=ClT ⟨nm,a,b,w,ws⟩;(repeat' (first|refine wk ?_|((with_reducible (first|apply Fj|apply zc2));exact O _ ((hk.By (Z0.trans e1.keeps)).By M0) (Sl.By Cu4 M0) U o;intro vv g ee V K X;(try simp only[C9]at V K);subst X)));exact zr Ex rfl
structure ScD(h:H)(s:Abn):Prop where
 nm:s.name∈R2
 pm:(s.pub=false/\1<=s.many/\s.many<=4)\/(s.pub=true/\s.many=0)
 ne:s.A1≠[]
 Mu:s.A1.length<=5
 nd:(s.A1.map Aaw.name).Nodup
 cs:CsD h s.cv s.A1
 one:Ge s.cv=true/\cellsOf s.cv=some [s.cv]
def ScD.By{h h1:H}{s:Abn}(c:ScD h s)(e:Bi h h1):ScD h1 s:=⟨c.nm,c.pm,c.ne,c.Mu,c.nd,c.cs.By e,c.one⟩
abbrev okS(r:AV):Prop:=r=.Bj [iI 0,iI (-1)]
def Cp8:Prop:=∀(s:Abn) (h:H),ScD h s->Ah h (λr _=>r=ct) (Z.call 178 [.agg (Ze s)] h)
def Cp9:Prop:=∀(s:Abn) (h:H),ScD h s->Ah h (λr _=>r=ct) (Z.call 180 [.agg (Ze s)] h)
def CpA:Prop:=∀(s:Abn) (h:H),ScD h s->Ah h (λr _=>r=ct) (Z.call 181 [.agg (Ze s)] h)
def CpC:Prop:=∀(s:Abn) (h:H),ScD h s->Ah h (λr _=>r=ct) (Z.call 182 [.agg (Ze s)] h)
def CvU(e:A7Y Z)(s:Abn)(h:H)(c:ScD h s):Ah h (λr _=>r=ct) (ml Z N 178 [.agg (Ze s)] h):=by rw[Crz];have g:s.name∈R2++N1++R9:=aw _ (aw _ c.nm);obtain⟨v,w⟩:=c.one;have l:=c.cs.gk;clear c;(repeat' (first|refine wk ?_|((with_reducible (first|apply Fj|apply zc2));exact e _ _ (l.By M0) g;intro t u A q p o;(try simp only[C9]at q p);subst o)));exact zr Ex rfl
def CvV(s:Abn)(h:H)(c:ScD h s):Ah h (λr _=>r=ct) (ml Z N 180 [.agg (Ze s)] h):=by
 rw[Cr0];obtain⟨l,g⟩:=c.one;have e:=c.pm;obtain⟨nm,p,m,cv,A1⟩:=s;simp only at l g e;clear c;rcases e with⟨rfl,h1,h2⟩|⟨rfl,rfl⟩
 .have o:decide (m<1)=false:=df;have q:decide ((50:Int)<m)=false:=df;refine wk ?_;exact zr Ex rfl
 .repeat' (first|with_reducible (first|apply A7|apply A8|apply A9|apply Ba)|(with_reducible (first|apply Cy|apply Cz|apply C0|apply C1);(conv=>lhs;simp(disch:=first|exact dA|fail) [lw, *]);with_reducible (first|apply A7|apply A8|apply A9|apply Ba|apply Cu|(refine Cv (by simp) ?_)|apply Cx))|(with_reducible (first|apply Kl);(conv=>lhs;simp only[zw,Jx]))|(refine zqq ?_ ?_<;>intro t<;>(try (exfalso;omega)))|fail)
  exact zr Ex rfl
def CvW(s:Abn)(h:H)(c:ScD h s):Ah h (λr _=>r=ct) (ml Z N 181 [.agg (Ze s)] h):=by rw[Cr1];obtain⟨p,o⟩:=c.one;have g:∀e,Fo s.cv e=.ok (iI (s.A1.length:Int)) e:=λ_=>c.cs.r.sl.Gs;have l:=c.ne;clear c;refine wk ?_;exact zr Ex (by simp[l])
def CvX(s:Abn)(h:H)(c:ScD h s):Ah h (λr _=>r=ct) (ml Z N 182 [.agg (Ze s)] h):=by rw[Cr2];obtain⟨q,p⟩:=c.one;have g:∀e,Fo s.cv e=.ok (iI (s.A1.length:Int)) e:=λ_=>c.cs.r.sl.Gs;have o:=c.Mu;have l:decide ((16:Int)<(s.A1.length:Int))=false:=df;clear c;refine wk ?_;exact zr Ex rfl
def Byx(e:CaF Z)(s:Abn)(b:Nat)(h:H)(c:ScD h s)(hb:b<h.nx)(g:h.m.get b=cd (Ze s) 82):
 ∀(k:Nat) (i:Int) (n:Nat) (hd:H) (f0:L2),i+(k:Int)=(s.A1.length:Int)->0<=i->k<n->Ai h hd->Ah h (λr _=>okS r) (BiC Z N n (.ptr b 0) (iI (s.A1.length:Int)) (iI i) f0 hd)
 |0,i,n,hd,f0,B,q,u,l=>by obtain⟨n1,rfl⟩:=mg n;have t:decide (i<(s.A1.length:Int))=false:=df;rw[Bxj];refine wk ?_;exact zr l rfl
 |k+1,i,n,hd,f0,B,q,u,l=>by
  obtain⟨n1,rfl⟩:=mg n;have E:=Byx e s b h c hb g k (i+1) n1;have L:=c.Mu;have t:decide (i<(s.A1.length:Int))=true:=dt;have v:=(l.Cf b hb).trans g;have w:=c.cs.By l.keeps;have o:=c.nd;have p:i<(s.A1.length:Int):=by omega
  obtain⟨K,I⟩:=c.one;clear c;rw[Bxj];(repeat' (first|refine wk ?_|(refine Pd (e _ _ _ _ w.Y5 o q p) ?_;intro O M J G F A;subst A)|fail));exact E _ _ om om om Ex
def CjM:Prop:=∀(s:Abn) (h:H),ScD h s->Ah h (λr _=>okS r) (Z.call 183 [.agg (Ze s)] h)
def CvY(g:CaF Z)(t:100<N)(s:Abn)(h:H)(c:ScD h s):Ah h (λr _=>okS r) (ml Z N 183 [.agg (Ze s)] h):=by
 rw[Cr3];obtain⟨u,q⟩:=c.one;have o:∀l,Fo s.cv l=.ok (iI (s.A1.length:Int)) l:=λ_=>c.cs.r.sl.Gs;have p:=c.Mu;have g1:Ai h (h.new (cd (Ze s) 82)):=(Ai.refl h).new _;have e:=Byx Z N g s h.nx (h.new (cd (Ze s) 82)) (c.By g1.keeps) (Y3 _) (Bf _) s.A1.length 0 N (h.new (cd (Ze s) 82));replace e:=(hU e)
 clear c;refine wk ?_;exact Ah.of g1 ((gw e) _ om om om (Ai.refl _))
def cv0(g:FuncId)(hb:Bg prog g=true)(x:AV)(h:H):cvV (.fn (.func g) [] []) [x] prog Z h=Z.call g [x] h:=by rw[AeY,Xo hb];rfl
def Clj(x y:AV)(h:H):cvV (.fn (.func 176) [] []) [x,y] prog Z h=Z.call 176 [x,y] h:=by rw[AeY,Xo (by kernel_rfl)];rfl
def Clk(x y z:AV)(h:H):cvV (.fn (.func 177) [] [y,z]) [x] prog Z h=Z.call 177 [x,y,z] h:=by rw[AeY,Xo (by kernel_rfl)];rfl
def CjL:Prop:=∀(g:FuncId) (e:Int) (h:H),Ah h (λr h1=>∃b1 b2,r=.fn (.func 177) [] [.ptr b1 0,.ptr b2 0]/\b1<h1.nx/\b2<h1.nx/\h1.m.get b1=cd [.fn (.func g) [] []] 187/\h1.m.get b2=cd [iI e] 35) (Z.call 176 [.fn (.func g) [] [],iI e] h)
def CvS(g:FuncId)(e:Int)(h:H):Ah h (λr h1=>∃b1 b2,r=.fn (.func 177) [] [.ptr b1 0,.ptr b2 0]/\b1<h1.nx/\b2<h1.nx/\h1.m.get b1=cd [.fn (.func g) [] []] 187/\h1.m.get b2=cd [iI e] 35) (ml Z N 176 [.fn (.func g) [] [],iI e] h):=by
 rw[Crx];(have l:=@Ceo;have c:=@BjO;refine wk ?_)
 refine zr Ex ⟨_,_,rfl,Ce,Ce,?_,Bf (h:=h.new _) _⟩;rw[Cq (h:=h.new _) _ h.nx (by show h.nx≠h.nx+1;omega)]
 exact Bf _
def RG4:Prop:=∀g,(g=178\/g=180\/g=181\/g=182)->∀(s:Abn) (h:H),ScD h s->Ah h (λr _=>r=ct) (Z.call g [.agg (Ze s)] h)
def bd4(c:j=178\/j=180\/j=181\/j=182):Bg prog j=true:=by rcases c with rfl|rfl|rfl|rfl<;>kernel_rfl
def Cf1:Prop:=∀(g:FuncId) (b1 b2:Nat) (s:Abn) (h:H),(g=178\/g=180\/g=181\/g=182)->ScD h s->b1<h.nx->h.m.get b1=cd [.fn (.func g) [] []] 187->Ah h (λr _=>okS r) (Z.call 177 [.agg (Ze s),.ptr b1 0,.ptr b2 0] h)
def CvT(p:RG4 Z)(g:FuncId)(b1 b2:Nat)(s:Abn)(h:H)(e:g=178\/g=180\/g=181\/g=182)(o:ScD h s)(w:b1<h.nx)(q:h.m.get b1=cd [.fn (.func g) [] []] 187):Ah h (λr _=>okS r) (ml Z N 177 [.agg (Ze s),.ptr b1 0,.ptr b2 0] h):=by
 rw[Cry];obtain⟨B,A⟩:=o.one;have v:b1≠h.nx:=by omega
 have c:=cv0 Z g (bd4 e) (.agg (Ze s));have l:=p g e s (h.new (cd (Ze s) 82)) (o.By ((Ai.refl h).new _).keeps);replace c:=(hU c)
 replace l:=(hU l)
 clear o e p;refine wk ?_;refine gvR ?_;rw[show cvV (.fn (.func g) [] []) [.agg (Ze s)] prog Z (h.new (cd (Ze s) 82))=Z.call g [.agg (Ze s)] (h.new (cd (Ze s) 82))from(gw c) _]
 refine Fj (show Ah (h.new (cd (Ze s) 82)) (λr _=>r=ct) _ from l) λv1 h1 e1 l1 u t=>?_
 subst t;refine wk ?_;exact zr Ex rfl
def Cax(h1:H)(f:AV):Prop:=f=.fn (.func 183) [] []\/∃g p1 p2,f=.fn (.func 177) [] [.ptr p1 0,.ptr p2 0]/\(g=178\/g=180\/g=181\/g=182)/\p1<h1.nx/\h1.m.get p1=cd [.fn (.func g) [] []] 187
def Cax.run{h1:H}{f:AV}(p:Cax h1 f)(c:Cf1 Z)(e:∀(s:Abn) (h:H),ScD h s->Ah h (λr _=>okS r) (Z.call 183 [.agg (Ze s)] h))(s:Abn)(hd:H)(l:ScD hd s)(g:Ai h1 hd):Ah hd (λr _=>okS r) (cvV f [.agg (Ze s)] prog Z hd):=by
 rcases p with rfl|⟨g4,p1,p2,rfl,q,o,t⟩
 .rw[cv0 Z 183 (by kernel_rfl)];exact e s hd l
 .rw[Clk];exact c g4 p1 p2 s hd q l (Yy o g.lo) ((g.Cf p1 o).trans t)
def B4T(r:AV)(h1:H):Prop:=∃F:uz,F.length=5/\R0 1 (λx:AV=>[x]) h1 r F/\∀f∈F,Cax h1 f
def CjH:Prop:=∀(h:H),Ah h B4T (Z.call 161 [] h)
def CvK(e:CjL Z)(h:H):Ah h B4T (Ay prog Z N false 161 [] h):=by
 rw[Crp];simp only[Dv,fx,mM,mL,mC,Clj];refine Fj (e 178 19 h) λv1 h1 e1 l1 M K=>?_;obtain⟨a1,a2,rfl,U,x2,E,W⟩:=K;refine Fj (e 180 2 h1) λv2 h2 u l2 S V=>?_;obtain⟨b1,b2,rfl,G,y2,I,y4⟩:=V;refine Fj (e 181 3 h2) λv3 R r l3 A L=>?_;obtain⟨c1,c2,rfl,J,X,z3,Y⟩:=L;refine Fj (e 182 4 R) λv4 p q l4 T P=>?_;obtain⟨d1,d2,rfl,w1,w2,w3,w4⟩:=P;have g:=((e1.trans u).trans r).trans q;have w:=(u.trans r).trans q;have B:=r.trans q;clear e;refine wk ?_;have l:∀(c:FuncId) (p1 p2:Nat),(c=178\/c=180\/c=181\/c=182)->p1<p.nx->p.m.get p1=cd [.fn (.func c) [] []] 187->∀(o:AO),Cax (p.new o) (.fn (.func 177) [] [.ptr p1 0,.ptr p2 0]):=by intro c p1 p2 F O t o;exact .inr ⟨c,p1,p2,rfl,F,Sa O,(Cq _ _ om).trans t⟩
 refine zr (g.new _) ⟨[_,_,_,_,_],rfl,Sl.lit (h:=p) (Bf _) rfl rfl,?_⟩;intro f v;simp only[Wf,Ww,fb]at v;rcases v with rfl|rfl|rfl|rfl|rfl
 .exact l 178 a1 a2 (.inl rfl) om ((w.Cf a1 U).trans E) _
 .exact l 180 b1 b2 (.inr (.inl rfl)) om ((B.Cf b1 G).trans I) _
 .exact l 181 c1 c2 (.inr (.inr (.inl rfl))) om ((q.Cf c1 J).trans z3) _
 .exact l 182 d1 d2 (.inr (.inr (.inr rfl))) om w3 _
 .exact .inl rfl
def B7n(s:Abn)(b:Nat)(v:AV)(F:uz)(h:H)(g:ScD h s)(hb:b<h.nx)(e:h.m.get b=cd (Ze s) 82)(J:F.length=5)(p:R0 1 (λx:AV=>[x]) h v F)(l:∀f∈F,∀(s:Abn) (hd:H),ScD hd s->Ai h hd->Ah hd (λr _=>okS r) (cvV f [.agg (Ze s)] prog Z hd)):
 ∀(k:Nat) (i:Int) (n:Nat) (hd:H) (f0:L2),i+(k:Int)=5->0<=i->k<n->Ai h hd->Ah h (λr _=>okS r) (BxB Z N n (.ptr b 0) v (iI 5) (iI i) f0 hd)
 |0,i,n,hd,f0,L,u,B,c=>by obtain⟨n1,rfl⟩:=mg n;have A:decide (i<(5:Int))=false:=df;rw[B5S];refine wk ?_;exact zr c rfl
 |k+1,i,n,hd,f0,L,u,B,c=>by
  obtain⟨n1,rfl⟩:=mg n;have q:=B7n s b v F h g hb e J p l k (i+1) n1;have A:decide (i<(5:Int))=true:=dt;have w:((i.toNat:Nat):Int)=i:=Tb u;obtain⟨x,o⟩:∃x,F[i.toNat]?=some x:=⟨_,Yq om⟩;obtain⟨b1,O,el⟩:=R0.elem (f:=λx:AV=>[x]) (s:=1) (λ_=>rfl) (Sl.By p c.keeps) o;have M:=el.ia;rw[w]at M;have K:=el.part 0 _ rfl;rw[Vw]at K;have I:=(c.Cf b hb).trans e;have t:=l x (Vl o) s hd (g.By c.keeps) c;obtain⟨w1,w2⟩:=g.one;replace q:=(hU q)
  replace t:=(hU t)
  clear el w o g l p;rw[B5S];refine wk ?_;refine Fj (show Ah hd (λr _=>okS r) (cvV x [.agg (Ze s)] prog Z hd)from t) λv1 h1 e1 l1 G E=>?_
  obtain rfl:v1=.Bj [iI 0,iI (-1)]:=E;refine wk ?_;exact(gw q) _ _ om om om Ex
def R94:Prop:=∀(s:Abn) (h:H),ScD h s->Ah h (λr _=>okS r) (Z.call 126 [.agg (Ze s)] h)
def r94(e:CjH Z)(l:Cf1 Z)(o:CjM Z)(A:100<N)(s:Abn)(h:H)(c:ScD h s):Ah h (λr _=>okS r) (Ay prog Z N false 126 [.agg (Ze s)] h):=by rw[e94];obtain⟨B,w⟩:=c.one;have g1:Ai h (h.new (cd (Ze s) 82)):=(Ai.refl h).new _;refine Ey (v:=.ptr h.nx 0) (h:=h.new (cd (Ze s) 82)) rfl ?_;refine Fj (e (h.new (cd (Ze s) 82))) λv1 h1 e1 l1 p u=>?_;obtain⟨F,f1,f2,t⟩:=u;refine Ey (f2.Gs) ?_;rw[f1];exact Ah.of (g1.trans e1) (B7n Z N s h.nx v1 F h1 (c.By (g1.trans e1).keeps) (Yy (Y3 _) e1.lo) ((p h.nx (Y3 _)).trans (Bf _)) f1 f2 (λf q s hd c g=>(t f q).run Z l o s hd c g) 5 0 N h1 _ om om om (Ai.refl _))
structure SsD(h:H)(v:AV)(l:List Abn):Prop where
 r:SsR h v l
 d:∀s∈l,ScD h s
 nd:(l.map Abn.name).Nodup
def SsD.By{h h1:H}{l:List Abn}(c:SsD h p l)(e:Bi h h1):SsD h1 p l:=⟨c.r.By e,λs h2=>(c.d s h2).By e,c.nd⟩
abbrev okA(r:AV):Prop:=r=.Bj [iI 0,iI (-1),iI (-1)]
def ByK:∀(l:List Abn) (u:Nat),(l.flatMap Ze).take (u*4)=(l.take u).flatMap Ze
|[],u=>by simp
|a::l,0=>by simp
|a::l,u+1=>by
 have c:=ByK l u;rw[show(u+1)*4=u*4+4 by omega]
 simp[c]
def B7k(B:R94 Z)(q:R84 Z)(v:AV)(l:List Abn)(h:H)(J:SsD h v l)(hl:l.length<=5):
 ∀(k:Nat) (i:Int) (n:Nat) (hd:H) (f0:L2),i+(k:Int)=(l.length:Int)->0<=i->k<n->Ai h hd->Ah h (λr _=>okA r) (Bxu Z N n v v (iI (l.length:Int)) (iI i) f0 hd)
 |0,i,n,hd,f0,Qd,T,Y,I=>by obtain⟨n1,rfl⟩:=mg n;have V:decide (i<(l.length:Int))=false:=df;rw[B5N];refine wk ?_;exact zr I rfl
 |k+1,i,n,hd,f0,Qd,T,Y,I=>by
  obtain⟨n1,rfl⟩:=mg n;have R:=B7k B q v l h J hl k (i+1) n1;have V:decide (i<(l.length:Int))=true:=dt;have L:((i.toNat:Nat):Int)=i:=Tb T;obtain⟨s,c⟩:∃x,l[i.toNat]?=some x:=⟨_,Yq om⟩;have M:=Vl c;have g:=J.By I.keeps;obtain⟨b1,o1,el⟩:=R0.elem (f:=Ze) (s:=4) (λ_=>rfl) g.r.sl c;have x1:=el.ia;rw[L]at x1;have x2:=el.all;have A:=g.d s M;obtain⟨w1,w2⟩:=A.one;have Kf:=I.lo;have F:∀d∈l.take i.toNat,d.name≠s.name:=by
   intro d o he;obtain⟨j,hj⟩:=Oh o;have K:j<i.toNat:=by have:=(Xh.1 hj).1;rw[Cm]at this;omega
   rw[Mx K]at hj;have h1:(l.map Abn.name)[j]?=some d.name:=by rw[Cn,hj];rfl
   have h2:(l.map Abn.name)[i.toNat]?=some d.name:=by rw[Cn,c,he];rfl
   have h3:=Xh.1 h1;have h4:=Xh.1 h2;have:=(Kq J.nd).1 (h3.2.trans h4.2.symm);omega
  obtain⟨v',q1,U⟩:=Sl.hiS (P:=prog) (t:=24) (e:=82) (bytes:=56) (u:=i.toNat) (by kernel_rfl) g.r.sl om;rw[L]at q1;have hq:SsR hd v' (l.take i.toNat):=by
   have X:(l.take i.toNat).length=i.toNat:=by rw[Cm];omega
   refine⟨?_,λd o=>g.r.one d (ax o),by omega⟩;show Sl 4 hd v' (l.take i.toNat).length ((l.take i.toNat).flatMap Ze);rw[X,<- ByK];exact U
  have E:=λc e=>q v' (l.take i.toNat) s.name c (hq.By e);have w:=λc e=>B s c (A.By e);replace E:=(hU E)
  replace w:=(hU w)
  replace R:=(hU R)
  clear el L c J g A U hq q B;obtain⟨nm,p,m,cv,A1⟩:=s;simp only at w1 w2 F;rw[B5N];refine wd ?_;refine Fj ((gw w) _ M0) λv1 h1 e1 l1 G W=>?_
  obtain rfl:v1=.Bj [iI 0,iI (-1)]:=W;simp only[C9]at l1 G;have g4:=(G hd.nx om).trans (A2 ..);refine wd ?_;refine Fj ((gw E) _ M0) λv2 h2 e2 l2 O r2=>?_
  obtain rfl:v2=.Bj [iI 0,ct]:=r2.1 F;simp only[C9]at l2 O;have S:=Ai.quiet e2;try simp only[C9]at S
  refine wd ?_;exact(gw R) _ _ om om om Ex
end Go.Proofs
