/- The writer: kinds. -/
import Derived.Test.YtmjmhajonaelcaaGreatDoorEvXa
set_option linter.all false
set_option maxRecDepth 100000
noncomputable section
namespace Go.Proofs
open Go Go.Ev Go.Nm Tryz Go.Ev.Sx
attribute [local irreducible] Aa Al Af Ad
variable (Z cx:Ac)(N:Nat)
variable {h h1 h2 h0 hd:H}{w:Nat}{ts:List Tok}{t:Tr}{ws:List uq}{v:AV}{b:Nat}{cs:uw}{ty:TypeId}{Q:Qr}{ve vo vm:AV}
def Ajj{x}(a:Sml x):(nwd x).map wt1=(ilx x).map Ae7:=by
 have⟨_,_⟩:=a;unfold nwd ilx;by_cases h0:x<0;. rw[Xo h0,Xo h0];show[wt1 _,wt1 _]=[Ae7 _,Ae7 _];rw[AzN fe,Au3 ⟨by omega,by omega⟩]
 .rw[X2 h0,X2 h0];show[wt1 _]=[Ae7 _];rw[Au3 ⟨by omega,by omega⟩]
def Agv x:(ilx x).length<=2:=by unfold ilx;grind
def AbI.rl{L}(c:WG w h0 h)(S:AbI w ts b cs ty h0 h1)(d:∀z∈L,z∈h.lg\/PW w h0 z):AbI w ts b cs ty h0 (Be L h1):=by
 refine⟨S.k.rl,⟨S.r.g,S.r.lt,S.r.ne⟩,⟨S.p.g,S.p.lt⟩,S.w2,S.l0,S.g.reL λx e=>?_⟩;rcases d x e with a|a;. exact c.lg x a
 .exact .inr a
def A5w{d}{f}{R}{k}(c:WG w h0 h)(S:AbI w ts b cs ty h0 f)(i:∀e∈d,e.w=[]\/(∀x∈e.w,PW w h0 x)/\∀a∈d,Jo e a=true)(g:∀h',AbI w ts b cs ty h0 h'->Ah H0 R (k h')):Ah H0 R (Ff h.lg d f k):=
 Axi _ i λL j=>g _ (S.rl c j)
structure QF(w:Nat)(h:H)(Q:Qr)(ve vo vm:AV):Prop where
 q:∃hq,hq.nx<=w/\Ai hq h/\QV hq Q ve vo vm
def QF.gr(k:QF w h Q ve vo vm)(g:Ai h h1):QF w h1 Q ve vo vm:=by have⟨_,d,a,c⟩:=k.q;exact⟨_,d,a.trans g,c⟩
def QF.wg(k:QF w h Q ve vo vm)(g:WG w h h1):QF w h1 Q ve vo vm:=by have⟨_,a,c,d⟩:=k.q;exact⟨_,a,WG.own c g a,d⟩
def QF.code(k:QF w h Q ve vo vm):Ue h ve Q.code:=by have⟨_,_,a,d⟩:=k.q;exact d.c.By a.keeps
def QF.E9(k:QF w h Q ve vo vm):Ue h vm Q.E9:=by have⟨_,_,a,c⟩:=k.q;exact c.m.By a.keeps
def QF.ord(k:QF w h Q ve vo vm):Sl 2 h vo Q.ord.length (Q.ord.flatMap Zd):=by have⟨_,_,a,c⟩:=k.q;exact c.o.By a.keeps
def Ag9{e:EF}{c:List EF}(q:∀a∈c,Jo e a=true:=by (repeat (refine Tl.2 ⟨(by first|exact Ar ..|(refine Ax _ _ _ _ _ _ _ _ _ _ _ _ ?_;decide)|exact A4Q rfl|exact Bq9 (by assumption) rfl (by assumption)|exact Bq8 (by assumption) rfl (by assumption)),?_⟩));exact λ_ h=>nomatch h):∀a∈c,Jo e a=true:=q
def Bpe:Prop:=∀(w:Nat) (ts:List Tok) (Q:Qr) (ve vo vm:AV) (t:Tr) (h:H),WrS w ts h->AeZ h->2<w->QF w h Q ve vo vm->Je Q.code false=some t->Q.code.length<=3000->AwU t->size t<=200->Sml Q.c2->Sml Q.c3->ts.length+2*(wr t).length<=2400 ->
 Wrt w (ts++(vlx (wr t) Q.c2 Q.c3).map Ae7) h uz (Z.call 49 [.ptr w 0,.agg (qc Q ve vo vm)] h)
def B23(e:AkX Z)(d:AsL Z)(K:N28 Z)(I:RW Z t)(k:WrS w ts h)(C:AeZ h)(q:2<w)(hq:QF w h Q ve vo vm)(A:Je Q.code false=some t)(R:Q.code.length<=3000)(s2:Sml Q.c2)(s3:Sml Q.c3)(T:ts.length+2*(wr t).length<=2400):
 Wrt w (ts++(vlx (wr t) Q.c2 Q.c3).map Ae7) h uz (Ay prog Z N false 49 [.ptr w 0,.agg (qc Q ve vo vm)] h):=by
 have x:=k.lt;have a:=hq.code;have y:=λi (g:Ai h i)=>K false Q.code ve i (.inr ⟨t,A⟩) (Sl.By a g.keeps) R;rw[A,show Yy (some t)=.Bj [A3 t,uz]from rfl]at y
 obtain⟨cs,D⟩:∃cs,cs=qc Q ve vo vm:=⟨_,rfl⟩;have c1:cs[1]?=some ve:=by simp_all
 have c2:cs[2]?=some (iI Q.c2):=by simp[*]
 have c3:cs[3]?=some (iI Q.c3):=by grind
 rw[<- D];clear D hq a;unfold Wrt;rw[ByU];refine wk ?_;have F:Ai h (h.new (cz cs 27)):=(Ai.refl h).new _;refine Fj (y _ F) λv1 h1 e1 l1 p M=>?_;subst M;have f:=F.trans e1;have r1:Rd0 w h.nx cs 27 h1:=(⟨Bf _,Up _,by omega⟩:Rd0 w h.nx cs 27 (h.new (cz cs 27))).gr e1;clear p y;refine wk ?_;refine zc0 (I w ts h1 (k.gr f) (C.gr f) q om) λv2 h2 ⟨V,g2,k2⟩=>?_;subst V;have B:AbI w (ts++(wr t).map Ae7) h.nx cs 27 h h2:=⟨k2,r1.wg g2,(C.gr f).wg g2 q,q,x,(WG.of x f).trans x g2⟩;have J:(ts++(wr t).map Ae7).length<=2400:=by simp;omega
 have i2:=Agv Q.c2;have i3:=Agv Q.c3;refine Auw Z e [wv] B (λi=>rfl) fe om λh3 h4 S l3 O o c4=>?_;refine A84 Z d o c2 s2 (by simp;omega) λm u AcA c5=>?_;rw[Ajj s2]at AcA;refine Auw Z e [bm] AcA (λi=>rfl) fe (by simp;omega) λh6 h7 E l6 P s c7=>?_;refine A84 Z d s c3 s3 (by simp;omega) λh8 j c z=>?_;rw[Ajj s3]at c;refine A5w B.g c ?_ λh' G=>?_;. have n4:=c4.n;have W:=c5.n;have n7:=c7.n;have n8:=z.n;have U:=c4.tt (n:=m.nx) (Ol c4.le c5.le);have L:=c5.tt (n:=m.nx) c5.le;have y6:=E m.nx;have X:=u.r;have Y:=j.r;exact fI (.inr ⟨z.l,Ag9⟩) (fI (.inl rfl) (fI (.inl rfl) (fI (.inr ⟨c7.l,Ag9⟩) (fI (.inl (E _)) (fI (.inr ⟨c5.l,Ag9⟩) (fI (.inl rfl) (fI (.inl rfl) (fI (.inr ⟨c4.l,Ag9⟩) (fI (.inl (S _)) (fI (.inl rfl) fN))))))))))
 .refine Lo (gr0 _) ⟨rfl,G.g,?_⟩;have:=G.k;rw[show[wv].map wt1=[Ae7 A2p]from rfl,show[bm].map wt1=[Ae7 Bo2]from rfl]at this;simpa[vlx]using this
def Baa(p q:uq)(xf:List L3):Prop:=(∃x,Num x/\p=V8 x/\q=[49]/\xf=[.nu x])\/(∃x y,Num x/\Num y/\p=V8 x/\q=V8 y/\q≠[49]/\xf=[.nu x,A1X,.nu y])
def Bm4(Z:Ac)(s:uq)(xf:List L3):Prop:=∀(h:H),Ah h (λr _=>∃p q,r=.Bj [.str p,.str q,iI 0]/\Baa p q xf) (Z.call 53 [.str s] h)
structure WQ(w:Nat)(ts:List Tok)(Q:Qr)(ve vo vm:AV)(b:Nat)(h0 h:H):Prop where
 s:AbI w ts b (qc Q ve vo vm) 27 h0 h
 q:QF w h0 Q ve vo vm
def WrR(w:Nat)(ts:List Tok)(h:H):AV->H->Prop:=λr h'=>r=uz/\WG w h h'/\WrS w ts h'
def Ato{x}(h:Num x):Sml x:=⟨by have:=h.1;omega,h.2⟩
def AsT{x}(h:Num x):ilx x=[.nu x]:=by unfold ilx;rw[X2 (by have:=h.1;omega)]
def BvJ(i:AkX Z)(m:AsL Z){f0:L2}(c:AbI w ts b (qc Q ve vo vm) 27 h0 h)(s:Num Q.Mg)(I:ts.length<=2480):
 Ah H0 (WrR w (ts++(elx Q).map Ae7) h0) (BcN Z N (.ptr w 0) (.ptr b 0) f0 h):=by
 rw[BoY];have u:=Ato s;refine Auw Z i [tv] c (λP=>rfl) (by simp_all) (by omega) λB y d z D q f=>?_;refine A84 Z m q rfl u (by grind) λC p j e=>?_;rw[Ajj u]at j;refine A5w c.g j ?_ λh' a=>?_;. have E:=f.n;have J:=e.n;have F:=p.r;have M:=d h.nx;exact fI (.inr ⟨e.l,Ag9⟩) (fI (.inl rfl) (fI (.inl rfl) (fI (.inr ⟨f.l,Ag9⟩) (fI (.inl (d _)) (fI (.inl rfl) (fN))))))
 have K:=a.r.one (o:=10) (x:=.bool Q.Wz) rfl;have A:(ts++[tv].map wt1++(ilx Q.Mg).map Ae7)=ts++[Ae7 Bih,Ae7 (.nu Q.Mg)]:=by rw[AsT s,Wq];rfl
 rw[A]at a;refine Ey (v:=.ptr b 10) (h:=h') (by simp_all) (Ey K ?_);unfold elx;cases Q.Wz with
 |false=>refine Ae5 (Lo (gr0 _) ⟨rfl,a.g,?_⟩);exact a.k
 |true=>
  refine Zx ?_;refine Bkp Z i uh a.k (by grind) λO G L=>?_;refine Lo (gr0 _) ⟨rfl,a.g.trans a.l0 G,?_⟩;rw[show wt1 uh=Ae7 Bik from rfl]at L
  simp_all
def Auv(d:AkX Z)(ws:List _){j}{e}{n}{R}{K:AV->AV->H->OR}(S:AbI w ts b cs ty h0 h)(u:∀hh,Bh 9 1 n j e hh=.ok (.sl hh.nx 0 ws.length ws.length 1 true) (hh.new (cz (ws.flatMap Aeb) 9)))(m:ws.length<=7)(l:ts.length<=2490)
 (hk:∀h1,WG w h h1->AbI w (ts++ws.map wt1) b cs ty h0 h1->Ah H0 R (K (.sl h.nx 0 ws.length ws.length 1 true) (.ptr w 0) h1)):
 Ah H0 R (Aa (Bh 9 1 n j e h) λi h1=>Aa (Z.call 48 [.ptr w 0,i] h1) λq h2=>K i q h2):=by apply Ey (u _);have f:Ai h (h.new (cz (ws.flatMap Aeb) 9)):=(Ai.refl h).new _;have a:=S.gr f;refine zc0 (d w _ _ _ _ a.k (AlA S.k.lt _) m om) λx y ⟨o,c,s⟩=>?_;subst o;exact hk _ ((WG.of S.k.lt f).trans S.k.lt c) ⟨s,a.r.wg c,a.p.wg c S.w2,S.w2,S.l0,a.g.trans S.l0 c⟩
def BvI(c:AkX Z)(g:AsL Z){xf:List L3}(m:Bm4 Z Q.Oi xf){f0:L2}(d:AbI w ts b (qc Q ve vo vm) 27 h0 h)(s:Num Q.Mg)(C:ts.length<=2460):
 Ah H0 (WrR w (ts++(wlx Q xf).map Ae7) h0) (BcK Z N (.ptr w 0) (.ptr b 0) f0 h):=by
 rw[BoX];have z:=d.r.one (o:=18) (x:=.str Q.Oi) rfl;refine Ey (v:=.ptr b 18) (h:=h) (by rfl) (Ey z ?_);refine Fj (m h) λF h1 e1 l1 k e=>?_;obtain⟨p,q,rfl,B⟩:=e;have D:=d.gr e1;clear k z;have z1:∀a:H,bo .neq 28 true (iI 0) (iI 0) a=.ok ux a:=λa=>rfl;refine Ey (v:=.str p) (h:=h1) rfl (Ey (v:=.str q) (h:=h1) rfl (Ey (v:=iI 0) (h:=h1) rfl (Ey (z1 _) (Ae5 ?_))));refine Auv Z c [wb,wq,p] D (λa=>rfl) (by simp) om λh2 g2 l=>?_;have A:∀a:H,bo .neq 25 true (.str q) (.str [49]) a=.ok (.bool (!decide (q=[49]))) a:=λa=>A1a ..;refine Ey (A _) ?_;rcases B with⟨x,n1,rfl,rfl,rfl⟩|⟨x,y,n1,E,rfl,rfl,hq,rfl⟩
 .rw[Ws rfl];refine Ae5 ?_;have i:ts++[wb,wq,V8 x].map wt1=ts++[Ae7 AlF,Ae7 AyL,Ae7 (.nu x)]:=by show ts++[wt1 _,wt1 _,wt1 (V8 x)]=_;rw[Au3 n1];rfl
  rw[i]at l;refine(BvJ Z N c g l s (by simp;omega)).mono λr u _ ⟨e,n,j⟩=>⟨e,n,?_⟩;simpa[wlx]using j
 .rw[Yc hq];refine Zx ?_;refine Auv Z c [[47],V8 y] l (λa=>rfl) (by grind) (by grind) λu G f=>?_;have i:ts++[wb,wq,V8 x].map wt1++[[47],V8 y].map wt1=ts++[Ae7 AlF,Ae7 AyL,Ae7 (.nu x),Ae7 A1X,Ae7 (.nu y)]:=by show ts++[wt1 _,wt1 _,wt1 _]++[wt1 _,wt1 _]=_;rw[Au3 n1,Au3 E,Wq];rfl
  rw[i]at f;refine(BvJ Z N c g f s (by simp;omega)).mono λr u _ ⟨e,n,j⟩=>⟨e,n,?_⟩;simpa[wlx]using j
variable {xw xf:List L3}
def WhW(Z:Ac)(ms:List Nd)(xw:List L3):Prop:=(ms=[]/\xw=[])\/∃t,Je ms true=some t/\ms≠[]/\ms.length<=3000/\RW Z t/\xw=Al7::wr t
structure Bm9(Z:Ac)(Q:Qr)(xw xf:List L3):Prop where
 E9:WhW Z Q.E9 xw
 f:Bm4 Z Q.Oi xf
 bits:Num Q.Mg
 Uw:Q.Uw ∉ Sgs
 By:Num Q.W0
 join:Q.Wu≠[]->Q.Wu ∉ Sgs/\Q.s14 ∉ Sgs/\Q.s15 ∉ Sgs/\Num Q.c16
def BvH(e:AkX Z)(j:AsL Z)(C:N28 Z)(P:Bm9 Z Q xw xf){f0:L2}(a:WQ w ts Q ve vo vm b h0 h)(m:ts.length+2*xw.length<=2440):
 Ah H0 (WrR w (ts++(xw++wlx Q xf).map Ae7) h0) (BcJ Z N (.ptr w 0) (.ptr b 0) f0 h):=by
 rw[BoW];have A:=a.s.r.one (o:=17) (x:=vm) rfl;have y:∀d:H,Bs (.ptr b 0) 17 d=.ok (.ptr b 17) d:=λd=>by rfl
 have i:=(a.q.wg a.s.g).E9;refine Ey (y h) (Ey A (Ey (i.Gs) ?_));rcases P.E9 with⟨z,rfl⟩|⟨t,u,z,F,B,rfl⟩;. rw[z];refine Ey (v:=ux) (h:=h) rfl (Ae5 ?_);exact BvI Z N e j P.f a.s P.bits om
 .have G:0<Q.E9.length:=by grind
  have z1:∀d:H,bo .gtr 3 true (iI (Q.E9.length:Int)) (iI 0) d=.ok uz d:=λd=>by simp_all
  refine Ey (z1 _) (Zx (Ey (y h) (Ey A ?_)));refine Fj (C true Q.E9 vm h (.inr ⟨t,u⟩) i F) λM h1 e1 l1 E l=>?_;rw[u]at l;subst l;refine Ey (v:=A3 t) (h:=h1) rfl (Ey rfl (Ey rfl (Ae5 ?_)));simp[Y7]at m;refine Auv Z e [bn] (a.s.gr e1) (λd=>rfl) (by simp) om λh2 g2 c=>zc0 (B w _ _ c.k c.p c.w2 (by grind)) λJ O ⟨_,n,D⟩=>?_;have K:ts++[bn].map wt1++(wr t).map Ae7=ts++(Al7::wr t).map Ae7:=by rw[Wq];rfl
  refine(BvI Z N e j P.f (⟨D,c.r.wg n,c.p.wg n c.w2,c.w2,c.l0,c.g.trans c.l0 n⟩:AbI w _ b _ _ ..) P.bits (by simp;omega)).mono λr L _ ⟨l,I,_⟩=>⟨l,I,?_⟩;simp_all
def BvG(d:AkX Z)(c:AsL Z)(E:N28 Z)(P:Bm9 Z Q xw xf){f0:L2}(a:WQ w ts Q ve vo vm b h0 h)(hts:ts.length+2*xw.length<=2420):
 Ah H0 (WrR w (ts++(jlx Q++(xw++wlx Q xf)).map Ae7) h0) (BcI Z N (.ptr w 0) (.ptr b 0) f0 h):=by
 rw[BoV];have x1:=a.s.r.one (o:=13) (x:=.str Q.Wu) rfl;have U:∀y:H,Bs (.ptr b 0) 13 y=.ok (.ptr b 13) y:=λy=>by rw[E3,Rx]
 refine Ey (U h) (Ey x1 (Ey (A1a ..) ?_));unfold jlx;by_cases f:Q.Wu=[];. rw[Xo f,Ws f];exact Ae5 (BvH Z N d c E P a om)
 .rw[X2 f,Yc f];obtain⟨m1,K,L,I⟩:=P.join f;refine Zx ?_;have S:=a.s;have F:=Ato I;refine ldR S (x:=.str Q.Wu) rfl λe=>?_;have D:=e.nl;refine ldR D (x:=.str Q.s14) rfl λm=>?_;have C:=m.nl;refine ldR C (x:=.str Q.s15) rfl λk=>?_;have z:=k.nl;refine Auw Z d [tn,Q.Wu,[111,110],Q.s14,[61],Q.s15,tz] z (λy=>rfl) (by first|decide|simp) (by first|omega|(simp;omega)) λR bx3 j O T A p=>?_;refine A84 Z c A rfl F (by first|omega|(simp;omega)) λJ B i u=>?_;rw[Ajj F]at i;refine A5w S.g i ?_ λh' G=>?_;. have W:=p.n;have B14:=u.n;have Bcs:=e.r;have Bso:=m.r;have B32:=k.r;have Y:=B.r;have B4l:=j (Ab (Ab (Ab (Ab (Ab (Ab h)))))).nx;exact fI (.inr ⟨u.l,Ag9⟩) (fI (.inl rfl) (fI (.inl rfl) (fI (.inr ⟨p.l,Ag9⟩) (fI (.inl (j _)) (fI (.inl rfl) (fI (.inl rfl) (fI (.inl rfl) (fI (.inl rfl) (fI (.inl rfl) (fI (.inl rfl) (fI (.inl rfl) (fN))))))))))))
  have M:(ts++[tn,Q.Wu,[111,110],Q.s14,[61],Q.s15,tz].map wt1++(ilx Q.c16).map Ae7)=ts++[Bil,.nm Q.Wu,BvS,.nm Q.s14,.sg [61],.nm Q.s15,BdJ,.nu Q.c16].map Ae7:=by rw[AsT I,Wq];show ts++([wt1 _,wt1 Q.Wu,wt1 _,wt1 Q.s14,wt1 _,wt1 Q.s15,wt1 _]++_)=_;rw[AjQ m1,AjQ K,AjQ L];rfl
  rw[M]at G;refine(BvH Z N d c E P ⟨G,a.q⟩ (by simp;omega)).mono λr h4 _ ⟨V,q2,X⟩=>⟨V,q2,?_⟩;simpa using X
def R75(Z:Ac)(Q:Qr)(xw xf:List L3):Prop:=∀(w:Nat) (ts:List Tok) (ve vo vm:AV) (h:H),WrS w ts h->AeZ h->2<w->QF w h Q ve vo vm->ts.length+2*xw.length<=2400->Wrt w (ts++(slx Q xw++wlx Q xf).map Ae7) h uz (Z.call 20 [.ptr w 0,.agg (qc Q ve vo vm)] h)
def r75(c:AkX Z)(d:AsL Z)(D:N28 Z)(P:Bm9 Z Q xw xf)(k:WrS w ts h)(U:AeZ h)(V:2<w)(hq:QF w h Q ve vo vm)(Y:ts.length+2*xw.length<=2400):
 Wrt w (ts++(slx Q xw++wlx Q xf).map Ae7) h uz (Ay prog Z N false 20 [.ptr w 0,.agg (qc Q ve vo vm)] h):=by
 have G:=k.lt;unfold Wrt;rw[e75];have z:Ai h (h.new (cz (qc Q ve vo vm) 27)):=(Ai.refl h).new _;have e:AbI w ts h.nx (qc Q ve vo vm) 27 h (h.new (cz (qc Q ve vo vm) 27)):=⟨k.gr z,⟨Bf _,Up _,by omega⟩,U.gr z,V,G,WG.of G z⟩;have x1:=e.r.one (o:=11) (x:=.str Q.Uw) rfl;have L:∀a:H,Bs (.ptr h.nx 0) 11 a=.ok (.ptr h.nx 11) a:=λa=>by rfl
 have W:∀a:H,Bs (.ptr h.nx 0) 12 a=.ok (.ptr h.nx 12) a:=λa=>by simp[*]
 refine Ey (Hg ..) (Ey (L _) (Ey x1 ?_));refine Auv Z c [tf,Q.Uw] e (λa=>rfl) (by show 2<=7;decide) om λh1 g1 m=>?_;have s:ts++[tf,Q.Uw].map wt1=ts++[A5H,.nm Q.Uw].map Ae7:=by show ts++[wt1 _,wt1 Q.Uw]=_;rw[AjQ P.Uw];rfl
 rw[s]at m;have X:=m.r.one (o:=12) (x:=iI Q.W0) rfl;refine Ey (W _) (Ey X (Ey (Y6 ..) ?_));have E:=Ato P.By;unfold slx klx;by_cases q:Q.W0=0;. rw[Xo q,Ws q];refine Ae5 ((BvG Z N c d D P ⟨m,hq⟩ (by simp;omega)).mono λr O _ ⟨u,C,y⟩=>⟨u,C,?_⟩);simpa using y
 .rw[X2 q,Yc q];refine Zx ?_;refine Auw Z c [tg] m (λa=>rfl) (by simp_all) (by grind) λK I f J R B j=>?_;refine A84 Z d B rfl E (by first|omega|(simp;omega)) λM A p i=>?_;rw[Ajj E]at p;refine A5w m.g p ?_ λh' F=>?_;. have S:=j.n;have BfV:=i.n;have T:=A.r;have BkH:=f h.nx;exact fI (.inr ⟨i.l,Ag9⟩) (fI (.inl rfl) (fI (.inl rfl) (fI (.inr ⟨j.l,Ag9⟩) (fI (.inl (f _)) (fI (.inl rfl) (fN))))))
  have s:(ts++[A5H,.nm Q.Uw].map Ae7++[tg].map wt1++(ilx Q.W0).map Ae7)=ts++[A5H,.nm Q.Uw,Bim,.nu Q.W0].map Ae7:=by rw[AsT P.By,Wq,Wq];rfl
  rw[s]at F;refine(BvG Z N c d D P ⟨F,hq⟩ (by simp;omega)).mono λr O _ ⟨u,C,y⟩=>⟨u,C,?_⟩;simpa using y
structure BtZ(Z:Ac)(Q:Qr)(t:Tr):Prop where
 b:Je Q.code false=some t
 l:Q.code.length<=3000
 w:AwU t/\size t<=200
 s2:Sml Q.c2
 s3:Sml Q.c3
def Bp5(c:Bpe Z){R}{K:AV->H->AV->H->OR}(S:AbI w ts b (qc Q ve vo vm) 27 h0 h)(hq:QF w h0 Q ve vo vm)(V:BtZ Z Q t)(a:ts.length+2*(wr t).length<=2400)
 (hk:∀h2,AbI w (ts++(vlx (wr t) Q.c2 Q.c3).map Ae7) b (qc Q ve vo vm) 27 h0 h2->AbJ w b h0 (Ab h) h2->Ah H0 R (K (.agg (qc Q ve vo vm)) (Ab h) uz h2)):
 Ah H0 R (Aa (lS 20 (.ptr b 0) (Ab h)) λd h1=>Aa (Z.call 49 [.ptr w 0,d] (Ab h1)) λi h2=>K d h1 i h2):=by have j:lS 20 (.ptr b 0) _=.ok (.agg (qc Q _ ..)) _:=(⟨S.nl.r.lt,_,_,S.nl.r.g,trivial⟩:Nv _ b _).many (by simp) rfl _ (Bi.refl _);apply Ey j;obtain⟨n,o,e,_,rfl,m,f⟩:=c w _ Q _ _ _ t _ S.nl.nl.k S.nl.nl.p S.w2 (hq.wg S.nl.nl.g) V.b V.l V.w.1 V.w.2 V.s2 V.s3 a;apply Ey e;have⟨_,_⟩:=S.nl.call m f;grind
def Bwd(c:AsL Z){R}{K:AV->H->AV->H->AV->H->OR}{o}{x}(u:o<2)(S:AbI w ts b cs ty h0 h)(s:cs[o]?=some (iI x))(m:Sml x)(i:ts.length<=2490)
 (hk:∀a,AbI w ts b cs ty h0 (Ab h)->AbI w (ts++(nwd x).map wt1) b cs ty h0 a->AbJ w b h0 (Ab h) a->Ah H0 R (K (.ptr b o) (Ab h) (iI x) (Ab (Ab h)) (.ptr w 0) a)):
 Ah H0 R (Aa (AxM 2 1 (.ptr b 0) (iI o) (Ab h)) λf h1=>Aa (lN f (Ab h1)) λe h2=>Aa (Z.call 50 [.ptr w 0,e] (Ab h2)) λd a=>K f h1 e h2 d a):=by
 have n:AxM 2 1 (.ptr b 0) (iI o) (Ab h)=.ok (.ptr b o) (Ab h):=by show @Bool.rec (λ_=>OR) _ (.ok (.ptr b (0+o*1)) _) _=_;rw[show Nat.blt o 2=true by simp[*],ae,Rx]
 refine Ey n (Ey (S.nl.nl.r.one s) ?_);obtain⟨d,a,j,_,rfl,q,l⟩:=c w _ x _ S.nl.nl.nl.k m om S.nl.nl.nl.p S.w2;apply Ey j;have⟨g,c2⟩:=S.nl.nl.call q l;exact hk _ S.nl g c2
def A8Z:∀l r,rsx (l++[r])=rsx l++((if l=[]then[]else[An9])++rlx r)
|[],r=>rfl
|[a],r=>rfl
|a::c::l,r=>by have d:=A8Z (c::l) r;show rlx a++An9::rsx (c::l++[r])=rlx a++An9::rsx _++_;grind
def BvF(y:AkX Z)(k:AsL Z){n1 s:Nat}{t3 t9 i m:AV}{f0:L2}{r:Int × Int}{R:AV->H->Prop}(e:AbI w ts s [iI r.1,iI r.2] 66 h0 h)(A:Sml r.1)(s2:Sml r.2)(K:ts.length<=2450)
 (go:∀h' f0,AbI w (ts++(rlx r).map Ae7) s [iI r.1,iI r.2] 66 h0 h'->Ah H0 R (BgW Z N n1 (.ptr w 0) t3 t9 i m f0 h')):
 Ah H0 R (BcH Z N n1 (.ptr w 0) t3 (.ptr s 0) t9 i m f0 h):=by
 rw[BoU];have i1:=Agv r.1;have i2:=Agv r.2;refine Bwd Z k (o:=0) (by simp) e rfl A (by omega) λd u q a=>?_;rw[Ajj A]at q;refine Auw Z y [[46,46]] q (λT=>rfl) (by simp) (by grind) λD F f E J z j=>?_;refine Bwd Z k (o:=1) (by simp) z rfl s2 (by grind) λB x c p=>?_;rw[Ajj s2]at c;refine A5w e.g c ?_ λh' U=>?_;. have G:=a.n;have O:=j.n;have L:=p.n;have I:=u.r;have M:=x.r;have P:=f d.nx;have C:=a.tt (n:=d.nx) (a.le);exact fI (.inr ⟨p.l,Ag9⟩) (fI (.inl rfl) (fI (.inl rfl) (fI (.inr ⟨j.l,Ag9⟩) (fI (.inl (f _)) (fI (.inr ⟨a.l,Ag9⟩) (fI (.inl rfl) (fI (.inl rfl) (fI (.inl rfl) fN))))))))
 have S:ts++(ilx r.1).map Ae7++[[46,46]].map wt1++(ilx r.2).map Ae7=ts++(rlx r).map Ae7:=by rw[Wq,Wq,rlx,ah];rfl
 grind
def A6g:∀l,(rsx l).length<=6*l.length
|[]=>Wy _
|[r]=>by have:=Agv r.1;have:=Agv r.2;simp[rsx,rlx];omega
|r::a::l=>by have:=Agv r.1;have:=Agv r.2;have c:=A6g (a::l);simp[rsx,rlx]at c ⊢;omega
def BuL(f:AkX Z){ts:List Tok}{h0 h:H}(S:AbI w ts b (qc Q ve vo vm) 27 h0 h)(B:0<=Q.c9/\Q.c9<=2)(x:ts.length<=2480){K:H->OR}(o:∀h1,K h1=(mL (.ptr b 0) 9 λv11 v12=>mM (bo .lss 3 true v12 (iI 0)) λE0=>mV E0 false (.ptr b 0) 9 λEr D5=>mW E0 false (bo .gtr 3 true D5 (iI 2)) λF9=>mM (Bo E0 uz F9) λGq=>mC Gq (.ok ux) (mM (Bh 9 1 3 [.str [],.str [],.str []] [(0,1,.str ud),(1,1,.str wj),(2,1,.str tj)]) λHt=>mL (.ptr b 0) 9 λH7 v20=>mM (Gc 1 Ht v20) λv21=>mM (lN v21) λJw=>mM (Bh 9 1 1 [.str []] [(0,1,Jw)]) λJm=>mM (Z.call 48 [.ptr w 0,Jm]) λl=>.ok uz)) h1):
 Ah H0 (WrR w (ts++[AjV,.kw (Ala.getD Q.c9.toNat [])].map Ae7) h0) (Aa (Bh 9 1 1 [.str []] [(0,1,.str tq)] h) λq h1=>Aa (Z.call 48 [.ptr w 0,q] h1) λp h2=>K h2):=by
 refine Auv Z f [tq] S (λc=>rfl) fe om λh1 g1 d=>?_;rw[o];obtain⟨cs,j⟩:∃cs,cs=qc Q ve vo vm:=⟨_,rfl⟩;have c9:cs[9]?=some (iI Q.c9):=by rw[j];rfl
 rw[<- j]at d;have g:=d.r.g;have lb:=d.r.lt;have z:=d.k.lt;clear j S o;have hc:Q.c9=0\/Q.c9=1\/Q.c9=2:=by omega
 have a:∀s:uq,∀h2,Ai h1 h2->wt1 s=Ae7 (.kw (Ala.getD Q.c9.toNat []))->Ah H0 (WrR w (ts++[AjV,.kw (Ala.getD Q.c9.toNat [])].map Ae7) h0) (Aa (Z.call 48 [.ptr w 0,.sl h2.nx 0 1 1 1 true] (h2.new (cz [.str s] 9))) λl=>OR.ok uz):=λs h2 e u=>by have i:=d.gr e;refine Bnz Z f s i.k (by simp;omega) λA y n=>?_;refine Lo (gr0 _) ⟨rfl,i.g.trans i.l0 y,?_⟩;rw[u,Wq]at n;exact n
 replace a:=(show F5 _ from a)
 clear d;rcases hc with hc|hc|hc
 .rw[hc]at c9 a ⊢;have m:∀c:H,Gc 1 (.sl h1.nx 0 3 3 1 true) (iI 0) c=.ok (.ptr h1.nx 0) c:=λc=>rfl;refine wk ?_;refine(show ∀s h2,_ from a) _ (h1.new (cz [.str ud,.str wj,.str tj] 9)) Ex ?_
  rfl
 .rw[hc]at c9 a ⊢;have m:∀c:H,Gc 1 (.sl h1.nx 0 3 3 1 true) (iI 1) c=.ok (.ptr h1.nx 1) c:=λc=>rfl;refine wk ?_;refine(show ∀s h2,_ from a) _ (h1.new (cz [.str ud,.str wj,.str tj] 9)) Ex ?_
  rfl
 .rw[hc]at c9 a ⊢;have m:∀c:H,Gc 1 (.sl h1.nx 0 3 3 1 true) (iI 2) c=.ok (.ptr h1.nx 2) c:=λc=>rfl;refine wk ?_;refine(show ∀s h2,_ from a) _ (h1.new (cz [.str ud,.str wj,.str tj] 9)) Ex ?_
  rfl
def Biu(d:AkX Z)(e:AsL Z)(hq:QF w h0 Q ve vo vm)(r0:Rd0 w b (qc Q ve vo vm) 27 h0)(G:∀x∈Q.ord,Sml x.1/\Sml x.2)(o:Q.ord.length<=64)(F:0<=Q.c9/\Q.c9<=2)(z:ts.length<=2000):
 ∀(u i n:Nat) (hd:H) (f0:L2),i+u=Q.ord.length->u<n->AbI w (ts++(rsx (Q.ord.take i)).map Ae7) b (qc Q ve vo vm) 27 h0 hd ->
  Ah H0 (WrR w (ts++(rsx Q.ord++[AjV,.kw (Ala.getD Q.c9.toNat [])]).map Ae7) h0) (Bdo Z N n (.ptr w 0) (.ptr b 0) vo (iI Q.ord.length) (iI i) f0 hd)
 |0,i,n,hd,f0,hi,hn,S=>by obtain⟨n1,rfl⟩:∃n1,n=n1+1:=⟨n-1,by omega⟩;rw[Qa om]at S;have P:=A6g Q.ord;rw[BgY];refine Ey (Hf ..) ?_;rw[Yc om];refine Ae5 ?_;refine(BuL Z d S F (by simp;omega) (λh1=>rfl)).mono λr h1 _ ⟨M,W,O⟩=>⟨M,W,?_⟩;simpa using O
 |u+1,i,n,hd,f0,hi,hn,S=>by
  obtain⟨n1,rfl⟩:∃n1,n=n1+1:=⟨n-1,by omega⟩;have l:=Biu d e hq r0 G o F z u (i+1) n1;have I:decide ((i:Int)<(Q.ord.length:Int))=true:=dt;have Y:decide (i<Q.ord.length)=true:=dt;obtain⟨r,y⟩:∃r,Q.ord[i]?=some r:=⟨_,Oh om⟩;obtain⟨E,s2⟩:=G r (Vl y);have q:=(hq.wg S.g).ord;have P:=A6g (Q.ord.take i);have B:(Q.ord.take i).length=i:=by rw[Cm];omega
  obtain⟨X,o1,C⟩:=R0.elem (f:=Zd) (s:=2) (λ_=>rfl) q y;have V:=C.ia;have T:=C.all;have hw:=S.k.lt;have A:=S.r.lt;have e1:(Q.ord.take (i+1))=Q.ord.take i++[r]:=by rw[Y9,y];rfl
  rw[e1,A8Z]at l;replace l:=(show F5 _ from l)
  have J:A4 2 (.ptr hd.nx 0) (.agg (Zd r)) (hd.new (cz [iI 0,iI 0] 66))=.ok (.Bj []) ((hd.new (cz [iI 0,iI 0] 66)).put hd.nx (cz (Zd r) 66)):=by simp[lw]
  rw[BgY];refine Ey (Hf ..) ?_;rw[I];refine Zx (Ey (V _) (Ey (T hd (Bi.refl _)) ?_));refine Ey (v:=.ptr hd.nx 0) (h:=hd.new (cz [iI 0,iI 0] 66)) rfl (Ey J ?_);have R:Ai hd ((hd.new (cz [iI 0,iI 0] 66)).put hd.nx (cz (Zd r) 66)):=((Ai.refl hd).new _).put _ _ (Ye _);have gb:((hd.new (cz [iI 0,iI 0] 66)).put hd.nx (cz (Zd r) 66)).m.get hd.nx=cz (Zd r) 66:=A2 _ _;have nb:((hd.new (cz [iI 0,iI 0] 66)).put hd.nx (cz (Zd r) 66)).nx=hd.nx+1:=rfl;generalize ((hd.new (cz [iI 0,iI 0] 66)).put hd.nx (cz (Zd r) 66))=A at *
  have c:=S.gr R;have j:AbI w (ts++(rsx (Q.ord.take i)).map Ae7) hd.nx (Zd r) 66 h0 A:=⟨c.k,⟨gb,by omega,by omega⟩,c.p,c.w2,c.l0,c.g⟩;refine Ey (A5z ..) ?_;by_cases K:i=0
  .rw[Yc om];refine Ae5 ?_;refine BvF Z N d e j E s2 (by simp;omega) λh' L a=>?_;rw[BgX];refine Ey (Am1 (k:=.i64) i 1 fe (by show((i+1:Nat):Int)<=9223372036854775807;omega) _) ?_
   refine(show ∀(hd:H) (f0:L2),_ from l) h' _ om om ⟨?_,r0.wg a.g,a.p,a.w2,a.l0,a.g⟩
   have:=a.k;rw[Xo (by rw[K];rfl)];simpa using this
  .rw[Ws om];refine Zx ?_;refine Auv Z d [[44]] j (λD=>rfl) fe (by simp;omega) λh1 g1 U=>?_;refine BvF Z N d e U E s2 (by simp;omega) λh' L a=>?_;rw[BgX];refine Ey (Am1 (k:=.i64) i 1 fe (by show((i+1:Nat):Int)<=9223372036854775807;omega) _) ?_
   refine(show ∀(hd:H) (f0:L2),_ from l) h' _ om om ⟨?_,r0.wg a.g,a.p,a.w2,a.l0,a.g⟩
   have:=a.k;rw[X2 (λD=>by rw[D]at B;simp at B;omega)];rw[show[[44]].map wt1=[Ae7 An9]from rfl]at this
   simpa using this
variable {xe:List L3}
structure Bt3(Z:Ac)(Q:Qr)(xe:List L3):Prop where
 k:1<=Q.c0/\Q.c0<=10
 v:Q.c0=2\/Q.c0=4\/Q.c0=5->∃t,BtZ Z Q t/\xe=wr t
 nm:Q.c0≠1->Q.c0≠2->Q.c0≠5->Q.s6 ∉ Sgs
 q5:Q.c0=5->Num Q.c4/\Num Q.c5
 b7:Sml Q.c7
 o10:Q.c0=10->(∀x∈Q.ord,Sml x.1/\Sml x.2)/\Q.ord.length<=64/\0<=Q.c9/\Q.c9<=2
def R74(Z:Ac)(Q:Qr)(xe:List L3):Prop:=∀(w:Nat) (ts:List Tok) (ve vo vm:AV) (h:H),WrS w ts h->AeZ h->2<w->QF w h Q ve vo vm->ts.length+2*xe.length<=1990 ->
 Wrt w (ts++(.kw (kdW.getD (kno Q) ([],0)).1::kbx Q xe).map Ae7) h uz (Z.call 19 [.ptr w 0,.agg (qc Q ve vo vm)] h)
def eqK(a c:Int)(d:H):bo .eql 3 true (iI a) (iI c) d=.ok (.bool (decide (a=c))) d:=by show Aj prog .eql 3 true (iI a) (iI c) d=_;rw[A5y]
def kF{a c:Int}{e d:H}{k:AV->H->OR}{R:AV->H->Prop}(hc:¬ a=c)(f:Ah d R (k ux e)):Ah d R (Aa (bo .eql 3 true (iI a) (iI c) e) k):=by refine Ey (eqK _ _ _) ?_;rw[Yc hc];exact f
def kT{a c:Int}{e d:H}{k:AV->H->OR}{R:AV->H->Prop}(hc:a=c)(f:Ah d R (k uz e)):Ah d R (Aa (bo .eql 3 true (iI a) (iI c) e) k):=by refine Ey (eqK _ _ _) ?_;rw[Ws hc];exact f
def r74(e:AkX Z)(O:Bpe Z)(G:AsL Z)(hN:100<N)(P:Bt3 Z Q xe)(k:WrS w ts h)(hp:AeZ h)(hw:2<w)(Zb:QF w h Q ve vo vm)(hts:ts.length+2*xe.length<=1990):
 Wrt w (ts++(.kw (kdW.getD (kno Q) ([],0)).1::kbx Q xe).map Ae7) h uz (Ay prog Z N false 19 [.ptr w 0,.agg (qc Q ve vo vm)] h):=by
 have B6:=k.lt;have E:∀k:Nat,Q.c0=(k:Int)+1->kno Q=k:=λk f=>by show(Q.c0-1).toNat=k;omega
 unfold Wrt;rw[e74];have gA:Ai h (h.new (cz (qc Q ve vo vm) 27)):=(Ai.refl h).new _;refine Ey (Hg ..) ?_;have gb:(h.new (cz (qc Q ve vo vm) 27)).m.get h.nx=cz (qc Q ve vo vm) 27:=Bf _;have nb:(h.new (cz (qc Q ve vo vm) 27)).nx=h.nx+1:=rfl;generalize h.new (cz (qc Q ve vo vm) 27)=hb at *
 have r0:Rd0 w h.nx (qc Q ve vo vm) 27 hb:=⟨gb,by omega,by omega⟩;have d:AbI w ts h.nx (qc Q ve vo vm) 27 hb hb:=⟨k.gr gA,r0,hp.gr gA,hw,by omega,WG.refl om⟩;have hq:=Zb.gr gA;have fin:∀{ts':List Tok} {r:OR},Ah H0 (WrR w ts' hb) r->Ah H0 (λr h'=>r=uz/\WG w h h'/\WrS w ts' h') r:=λhr=>hr.mono λr h1 _ ⟨q1,q2,q3⟩=>⟨q1,(WG.of B6 gA).trans B6 q2,q3⟩;refine fin ?_;clear fin k hp Zb gb;have f0:∀f:H,Bs (.ptr h.nx 0) 0 f=.ok (.ptr h.nx 0) f:=λf=>rfl;have Y:∀f:H,Bs (.ptr h.nx 0) 6 f=.ok (.ptr h.nx 6) f:=λf=>by rw[E3,Rx]
 have f8:∀f:H,Bs (.ptr h.nx 0) 8 f=.ok (.ptr h.nx 8) f:=λf=>by rw[E3,Rx]
 have x0:=d.r.one (o:=0) (x:=iI Q.c0) rfl;have x6:=d.r.one (o:=6) (x:=.str Q.s6) rfl;have x8:=d.r.one (o:=8) (x:=vo) rfl;refine Ey (f0 _) (Ey x0 ?_);obtain⟨k1,k2⟩:=P.k;have BcE:Q.c0=1\/Q.c0=2\/Q.c0=3\/Q.c0=4\/Q.c0=5\/Q.c0=6\/Q.c0=7\/Q.c0=8\/Q.c0=9\/Q.c0=10:=by omega
 rcases BcE with hc|hc|hc|hc|hc|hc|hc|hc|hc|hc
 .have y:kno Q=0:=E 0 om;refine kT hc (Zx ?_);refine Auv Z e [uy] d (λf=>rfl) fe om λh1 g1 j=>?_;refine Lo (gr0 _) ⟨rfl,j.g,?_⟩;have u:kbx Q xe=[]:=by unfold kbx;rw[Xo hc]
  rw[y,u];exact j.k
 .have y:kno Q=1:=E 1 om;refine kF om (Ae5 ?_);refine kT hc (Zx ?_);obtain⟨t,V,rfl⟩:=P.v om;have vl:=AwB (wr t) Q.c2 Q.c3;have i2:=Agv Q.c2;have i3:=Agv Q.c3;refine Auw Z e [ul] d (λf=>rfl) (by first|decide|simp) (by first|omega|(simp;omega)) λJ R i I T s c=>?_;refine Bp5 Z O s hq V (by first|omega|(simp;omega)) λp z a=>?_;refine A5w d.g z.nl ?_ λh' D=>?_
  .have U:=c.n;have K:=a.n;have S:=s.r;have L:=i h.nx;exact fI (.inl rfl) (fI (.inr ⟨a.l,Ag9⟩) (fI (.inl rfl) (fI (.inr ⟨c.l,Ag9⟩) (fI (.inl (i _)) (fI (.inl rfl) (fN))))))
  refine Lo (gr0 _) ⟨rfl,D.g,?_⟩;have u:kbx Q (wr t)=vlx (wr t) Q.c2 Q.c3:=by simp[kbx,hc]
  rw[y,u];have:=D.k;rw[Wq]at this;exact this
 .have y:kno Q=2:=E 2 om;refine kF om (Ae5 ?_);refine kF om (Ae5 ?_);refine kF om (Ae5 ?_);refine kF om (Ae5 ?_);refine kF om (Ae5 ?_);refine kT hc (Zx ?_);have C:=P.nm om om om;refine Ey (Y _) (Ey x6 ?_);refine Auv Z e [uv,Q.s6] d (λf=>rfl) (by show 2<=7;decide) om λh1 g1 j=>?_
  refine Lo (gr0 _) ⟨rfl,j.g,?_⟩;have u:kbx Q xe=[.nm Q.s6]:=by simp[kbx,hc]
  rw[y,u];have:=j.k;rw[show[uv,Q.s6].map wt1=[wt1 uv,wt1 Q.s6]from rfl,AjQ C]at this
  exact this
 .have y:kno Q=3:=E 3 om;refine kF om (Ae5 ?_);refine kF om (Ae5 ?_);refine kT hc (Zx ?_);obtain⟨t,V,rfl⟩:=P.v om;have vl:=AwB (wr t) Q.c2 Q.c3;have i2:=Agv Q.c2;have i3:=Agv Q.c3;refine Auw Z e [ub] d (λf=>rfl) (by first|decide|simp) (by first|omega|(simp;omega)) λJ R i I T s c=>?_;refine Bp5 Z O s hq V (by first|omega|(simp;omega)) λp z a=>?_;refine Ey (v:=ux) (h:=Ab p) rfl ?_;refine A5w d.g z.nl ?_ λh' D=>?_
  .have U:=c.n;have K:=a.n;have S:=s.r;have L:=i h.nx;exact fI (.inl rfl) (fI (.inr ⟨a.l,Ag9⟩) (fI (.inl rfl) (fI (.inr ⟨c.l,Ag9⟩) (fI (.inl (i _)) (fI (.inl rfl) (fN))))))
  have C:=P.nm om om om;refine Ae5 ?_;have x6':=D.r.one (o:=6) (x:=.str Q.s6) rfl;refine Ey (Y _) (Ey x6' ?_);refine Auv Z e [[98,121],Q.s6] D (λf=>rfl) (by show 2<=7;decide) (by simp;omega) λh1 g1 j=>?_
  refine Lo (gr0 _) ⟨rfl,j.g,?_⟩;have u:kbx Q (wr t)=vlx (wr t) Q.c2 Q.c3++[Bij,.nm Q.s6]:=by simp[kbx,hc]
  rw[y,u];have:=j.k;rw[show[[98,121],Q.s6].map wt1=[wt1 [98,121],wt1 Q.s6]from rfl,AjQ C,Wq,Wq]at this
  rw[Co,ah];exact this
 .have y:kno Q=4:=E 4 om;refine kF om (Ae5 ?_);refine kF om (Ae5 ?_);refine kF om (Ae5 ?_);refine kT hc (Zx ?_);obtain⟨t,V,rfl⟩:=P.v om;have vl:=AwB (wr t) Q.c2 Q.c3;have i2:=Agv Q.c2;have i3:=Agv Q.c3;obtain⟨m4,m5⟩:=P.q5 hc;have s4:=Ato m4;have s5:=Ato m5;have i4:=Agv Q.c4;have i5:=Agv Q.c5;refine Auw Z e [uj] d (λf=>rfl) (by first|decide|simp) (by first|omega|(simp;omega)) λJ R i I T s c=>?_;refine A84 Z G s rfl s4 (by first|omega|(simp;omega)) λp X z a=>?_;rw[Ajj s4]at z;refine Auw Z e [[47]] z (λf=>rfl) (by first|decide|simp) (by first|omega|(simp;omega)) λax2 bx2 zx2 lx2 W M A=>?_;refine A84 Z G M rfl s5 (by first|omega|(simp;omega)) λB Tx3 F q=>?_;rw[Ajj s5]at F;refine Auw Z e [[111,102]] F (λf=>rfl) (by first|decide|simp) (by first|omega|(simp;omega)) λax4 bx4 zx4 lx4 Tx4 Sx4 cx4=>?_;refine Bp5 Z O Sx4 hq V (by first|omega|(simp;omega)) λbx5 Sx5 cx5=>?_;refine A5w d.g Sx5.nl ?_ λh' D=>?_
  .have U:=c.n;have K:=a.n;have B13:=A.n;have BvZ:=q.n;have B14:=cx4.n;have CaQ:=cx5.n;have S:=X.r;have Bso:=Tx3.r;have B32:=Sx4.r;have L:=i h.nx;have Ccc:=zx2 p.nx;have Bya:=c.tt (n:=p.nx) (Ol (c.le) a.le);have Byd:=a.tt (n:=p.nx) (a.le);have Ccd:=zx4 B.nx;have Byc:=c.tt (n:=B.nx) (Ol (Ol (Ol (Ol (c.le) a.le) lx2) A.le) q.le);have Byf:=a.tt (n:=B.nx) (Ol (Ol (Ol (a.le) lx2) A.le) q.le);have Byg:=A.tt (n:=B.nx) (Ol (A.le) q.le);have Byh:=q.tt (n:=B.nx) (q.le);exact fI (.inl rfl) (fI (.inr ⟨cx5.l,Ag9⟩) (fI (.inl rfl) (fI (.inr ⟨cx4.l,Ag9⟩) (fI (.inl (zx4 _)) (fI (.inr ⟨q.l,Ag9⟩) (fI (.inl rfl) (fI (.inl rfl) (fI (.inr ⟨A.l,Ag9⟩) (fI (.inl (zx2 _)) (fI (.inr ⟨a.l,Ag9⟩) (fI (.inl rfl) (fI (.inl rfl) (fI (.inr ⟨c.l,Ag9⟩) (fI (.inl (i _)) (fI (.inl rfl) (fN))))))))))))))))
  refine Lo (gr0 _) ⟨rfl,D.g,?_⟩;have u:kbx Q (wr t)=[.nu Q.c4,A1X,.nu Q.c5,Bin]++vlx (wr t) Q.c2 Q.c3:=by simp[kbx,hc]
  rw[y,u];have:=D.k;rw[AsT m4,AsT m5]at this;simp only[Wq]at this;exact this
 .have y:kno Q=5:=E 5 om;refine kF om (Ae5 ?_);refine kF om (Ae5 ?_);refine kF om (Ae5 ?_);refine kF om (Ae5 ?_);refine kF om (Ae5 ?_);refine kF om (Ae5 ?_);refine kT hc (Zx ?_);have C:=P.nm om om om;refine Ey (Y _) (Ey x6 ?_);refine Auv Z e [um,Q.s6] d (λf=>rfl) (by show 2<=7;decide) om λh1 g1 j=>?_
  refine Lo (gr0 _) ⟨rfl,j.g,?_⟩;have u:kbx Q xe=[.nm Q.s6]:=by simp[kbx,hc]
  rw[y,u];have:=j.k;rw[show[um,Q.s6].map wt1=[wt1 um,wt1 Q.s6]from rfl,AjQ C]at this
  exact this
 .have y:kno Q=6:=E 6 om;refine kF om (Ae5 ?_);refine kF om (Ae5 ?_);refine kF om (Ae5 ?_);refine kF om (Ae5 ?_);refine kT hc (Zx ?_);have C:=P.nm om om om;have s7:=P.b7;have i7:=Agv Q.c7;refine Auw Z e [us] d (λf=>rfl) (by first|decide|simp) (by first|omega|(simp;omega)) λJ R i I T s c=>?_;refine A84 Z G s rfl s7 (by first|omega|(simp;omega)) λp X z a=>?_;rw[Ajj s7]at z;refine ldR z (x:=.str Q.s6) rfl λW=>?_;have M:=W.nl;refine Auw Z e [Q.s6] M (λf=>rfl) (by first|decide|simp) (by first|omega|(simp;omega)) λax3 B zx3 lx3 Tx3 F q=>?_;refine A5w d.g F ?_ λh' D=>?_
  .have U:=c.n;have K:=a.n;have BvZ:=q.n;have S:=X.r;have Bso:=W.r;have L:=i h.nx;have B4l:=zx3 (Ab (Ab p)).nx;have Byb:=c.tt (n:=(Ab (Ab p)).nx) (Ol (c.le) a.le);have Bye:=a.tt (n:=(Ab (Ab p)).nx) (a.le);exact fI (.inr ⟨q.l,Ag9⟩) (fI (.inl (zx3 _)) (fI (.inl rfl) (fI (.inl rfl) (fI (.inr ⟨a.l,Ag9⟩) (fI (.inl rfl) (fI (.inl rfl) (fI (.inr ⟨c.l,Ag9⟩) (fI (.inl (i _)) (fI (.inl rfl) (fN))))))))))
  refine Lo (gr0 _) ⟨rfl,D.g,?_⟩;have u:kbx Q xe=ilx Q.c7++[.nm Q.s6]:=by simp[kbx,hc]
  rw[y,u];have:=D.k;rw[show[Q.s6].map wt1=[wt1 Q.s6]from rfl,AjQ C,Wq,Wq]at this
  rw[Co,ah];exact this
 .have y:kno Q=7:=E 7 om;refine kF om (Ae5 ?_);refine kF om (Ae5 ?_);refine kF om (Ae5 ?_);refine kF om (Ae5 ?_);refine kF om (Ae5 ?_);refine kF om (Ae5 ?_);refine kF om (Ae5 ?_);refine kT hc (Zx ?_);have C:=P.nm om om om;refine Ey (Y _) (Ey x6 ?_);refine Auv Z e [wy,Q.s6] d (λf=>rfl) (by show 2<=7;decide) om λh1 g1 j=>?_
  refine Lo (gr0 _) ⟨rfl,j.g,?_⟩;have u:kbx Q xe=[.nm Q.s6]:=by simp[kbx,hc]
  rw[y,u];have:=j.k;rw[show[wy,Q.s6].map wt1=[wt1 wy,wt1 Q.s6]from rfl,AjQ C]at this
  exact this
 .have y:kno Q=8:=E 8 om;refine kF om (Ae5 ?_);refine kF om (Ae5 ?_);refine kF om (Ae5 ?_);refine kF om (Ae5 ?_);refine kF om (Ae5 ?_);refine kF om (Ae5 ?_);refine kF om (Ae5 ?_);refine kF om (Ae5 ?_);refine kT hc (Zx ?_);have C:=P.nm om om om;refine Ey (Y _) (Ey x6 ?_);refine Auv Z e [uc,Q.s6] d (λf=>rfl) (by show 2<=7;decide) om λh1 g1 j=>?_
  refine Lo (gr0 _) ⟨rfl,j.g,?_⟩;have u:kbx Q xe=[.nm Q.s6]:=by simp[kbx,hc]
  rw[y,u];have:=j.k;rw[show[uc,Q.s6].map wt1=[wt1 uc,wt1 Q.s6]from rfl,AjQ C]at this
  exact this
 .have y:kno Q=9:=E 9 om;refine kF om (Ae5 ?_);refine kF om (Ae5 ?_);refine kF om (Ae5 ?_);refine kF om (Ae5 ?_);refine kF om (Ae5 ?_);refine kF om (Ae5 ?_);refine kF om (Ae5 ?_);refine kF om (Ae5 ?_);refine kF om (Ae5 ?_);refine kT hc (Zx ?_);have C:=P.nm om om om;obtain⟨o1,o2,o3,o4⟩:=P.o10 hc;refine Ey (Y _) (Ey x6 ?_);refine Auv Z e [wh,Q.s6] d (λf=>rfl) (by show 2<=7;decide) om λh1 g1 j=>?_
  have x8':=j.r.one (o:=8) (x:=vo) rfl;refine Ey (f8 _) (Ey x8' ?_);have Anh:=(hq.wg j.g).ord;refine Ey Anh.Gs ?_;rw[show[wh,Q.s6].map wt1=[wt1 wh,wt1 Q.s6]from rfl,AjQ C]at j
  refine(Biu Z N (ts:=ts++[wt1 wh,Ae7 (.nm Q.s6)]) e G hq r0 o1 o2 ⟨o3,o4⟩ (by simp;omega) Q.ord.length 0 N h1 _ om om (by simpa[rsx]using j)).mono λr h2 _ ⟨q1,q2,q3⟩=>⟨q1,q2,?_⟩;have u:kbx Q xe=blx Q.s6 Q.ord (Ala.getD Q.c9.toNat []):=by simp[kbx,hc]
  rw[y,u,blx];rw[Wq]at q3;exact q3
end Go.Proofs
