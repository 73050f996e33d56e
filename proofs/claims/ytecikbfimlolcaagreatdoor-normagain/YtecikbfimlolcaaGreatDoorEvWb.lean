/- The writer: kinds. -/
import Derived.Test.YtecikbfimlolcaaGreatDoorEvWa
set_option linter.all false
set_option maxRecDepth 100000
noncomputable section
namespace Go.Proofs
open Go Go.Ev Go.Nm Go.Ev.Sx
attribute [local irreducible] Aa Al Af Ad
variable {j:Int}{o:EF}
variable (Z cx:Ac)(N:Nat)
variable {h h1 h2 h0 hd:H}{w:Nat}{ts:List Tok}{t:Tr}{ws:List (List Nat)}{v:AV}{b:Nat}{cs:List AV}{ty:TypeId}
structure Rd0(w b:Nat)(cs:List AV)(ty:TypeId)(h:H):Prop where
 g:h.m.get b=.cells cs ty .exact
 lt:b<h.nx
 ne:b≠w
def Rd0.gr(k:Rd0 w b cs ty h)(g:Ai h h1):Rd0 w b cs ty h1:=⟨(g.Cf b k.lt).trans k.g,Xq k.lt g.lo,k.ne⟩
def Rd0.wg(k:Rd0 w b cs ty h)(g:WG w h h1):Rd0 w b cs ty h1:=⟨(g.ex b cs ty k.lt k.ne k.g).trans k.g,Xq k.lt g.nx,k.ne⟩
def Rd0.wn(k:Rd0 w b cs ty h)(g:WG w (Ab h) h1):Rd0 w b cs ty h1:=k.wg g.Bnq
def Rd0.one(k:Rd0 w b cs ty h){o:Nat}{x:AV}(a:cs[o]?=some x):lN (.ptr b o) h=.ok x h:=(⟨k.lt,_,_,k.g,trivial⟩:Nv h b cs).one a h (Bi.refl h)
def B4e(k:Rd0 w b cs ty h)(a:WG w (Ab h) h1):b ∉ wrote h.nx h1.lg:=λd=>by
 rcases a.lg b (D4 _ _ _ d).1 with c|c|⟨c,e⟩|c
 .cases c
 .exact k.ne c
 .exact e _ _ k.g
 .exact absurd k.lt (Nat.not_lt.2 c)
def Bq9{c f off:Nat}{i:Option (Option Nat)}{a d:H}(k:b ∉ o.w)(hn:d.nx=a.nx)(l:Rd0 w b cs ty a):Jo o ⟨c,f,[],.blk b off i,a,d⟩=true:=by
 unfold Jo;have h1:Ahl o.w []=true:=Zq _;have h2:outside o.w a.nx d.nx=true:=by rw[hn];exact Ash _ _
 have e:clear (.blk b off i) o.w a o.h o.h1=true:=by show(@Bool.rec (λ_=>Bool) (AbY o.w (B5 (a.m.get b))) (Beb b off i a o.h o.h1) (Ve b o.w):Bool)=true;rw[Bi0 b o.w λx n j=>k (j ▸ n),l.g];rfl
 rw[h1,h2,e];cases M4 (Nat.lor (Nat.land o.pr c) (Nat.land f o.bit))<;>cases Nat.beq o.bit c<;>rfl
def Bq8{a:EF}(g:a.w=[])(i:a.r=.none)(c:∀x∈o.w,x<a.h.nx):Jo o a=true:=by
 unfold Jo;have h1:Ahl o.w a.w=true:=by rw[g];exact Zq _
 have h2:outside o.w a.h.nx a.h1.nx=true:=by
  revert c;induction o.w with
  |nil=>exact λ_=>rfl
  |cons x l d=>
   intro c;show(@Bool.rec (λ_=>Bool) (outside l a.h.nx a.h1.nx) false (@Bool.rec (λ_=>Bool) false (Nat.blt x a.h1.nx) (Nat.ble a.h.nx x)):Bool)=true;rw[d λy hy=>c y (Vo _ hy),show Nat.ble a.h.nx x=false by
    cases f:Nat.ble a.h.nx x with
    |false=>rfl
    |true=>exact absurd (Ew f) (by have:=c x (Uq ..);omega)]
 have j:clear a.r o.w a.h o.h o.h1=true:=by rw[i];rfl
 rw[h1,h2,j];cases M4 (Nat.lor (Nat.land o.pr a.bit) (Nat.land a.pr o.bit))<;>cases Nat.beq o.bit a.bit<;>rfl
structure AbI(w:Nat)(ts:List Tok)(b:Nat)(cs:List AV)(ty:TypeId)(h0 h:H):Prop where
 k:WrS w ts h
 r:Rd0 w b cs ty h
 p:AeZ h
 w2:2<w
 l0:w<h0.nx
 g:WG w h0 h
def AbI.nl(k:AbI w ts b cs ty h0 h):AbI w ts b cs ty h0 (Ab h):=⟨k.k.nl,k.r.gr (Ai.refl h).nl,k.p.gr (Ai.refl h).nl,k.w2,k.l0,k.g.nl⟩
def AbI.gr(k:AbI w ts b cs ty h0 h)(g:Ai h h1):AbI w ts b cs ty h0 h1:=⟨k.k.gr g,k.r.gr g,k.p.gr g,k.w2,k.l0,k.g.gr k.l0 g⟩
def PW(w:Nat)(h:H)(x:Nat):Prop:=x=w\/(w<x/\NEx (h.m.get x))\/h.nx<=x
structure AbJ(w b:Nat)(h0 h h1:H):Prop where
 l:∀x∈wrote h.nx h1.lg,PW w h0 x
 n:b ∉ wrote h.nx h1.lg
 le:h.nx<=h1.nx
def AbJ.tt(k:AbJ w b h0 h h1){n:Nat}(hn:h.nx<=n):∀x∈wrote h.nx h1.lg,x<n:=λx a=>Xq (D4 _ _ _ a).2 hn
def AbI.call{a:List Tok}(k:AbI w ts b cs ty h0 h)(g:WG w (Ab h) h1)(c:WrS w a h1):AbI w a b cs ty h0 h1/\AbJ w b h0 h h1:=
 ⟨⟨c,k.r.wn g,k.p.wg g.Bnq k.w2,k.w2,k.l0,k.g.trans k.l0 g.Bnq⟩,⟨WG.log k.l0 k.g g,B4e k.r g,g.nx⟩⟩
variable {Q:AV->H->Prop}
def Auw(a:AkX Z)(ws:List (List Nat)){f:List AV}{d:List (Nat × Nat × AV)}{n:Nat}{K:AV->H->AV->H->OR}(S:AbI w ts b cs ty h0 h)(m:∀hh:H,Bh 9 1 n f d hh=.ok (.sl hh.nx 0 ws.length ws.length 1 true) (hh.new (.cells (ws.flatMap Aeb) 9 .exact)))(r:ws.length<=7)(q:ts.length<=2490)
 (hk:∀h1 h2,(∀n,wrote n h1.lg=[])->h.nx<=h1.nx->AbI w ts b cs ty h0 h1->AbI w (ts++ws.map wt1) b cs ty h0 h2->AbJ w b h0 h1 h2->Ah H0 Q (K (.sl h.nx 0 ws.length ws.length 1 true) h1 (.ptr w 0) h2)):
 Ah H0 Q (Aa (Bh 9 1 n f d (Ab h)) λe h1=>Aa (Z.call 122 [.ptr w 0,e] (Ab h1)) λj h2=>K e h1 j h2):=by
 refine Ey (m _) ?_;have i:Ai h ((Ab h).new (.cells (ws.flatMap Aeb) 9 .exact)):=(Ai.refl h).nl.new _;have c:=S.gr i;obtain⟨s,u,o,_,rfl,g,p⟩:=a w ts ws _ (Ab ((Ab h).new (.cells (ws.flatMap Aeb) 9 .exact))) c.k.nl (AlA (h:=Ab h) S.k.lt ws) r om;refine Ey o ?_;obtain⟨l,c2⟩:=c.call g p;exact hk _ _ (λn=>rfl) (Et _) c l c2
def ldR{K:AV->H->AV->H->OR}{o:Nat}{x:AV}(S:AbI w ts b cs ty h0 h)(e:cs[o]?=some x)(d:AbI w ts b cs ty h0 (Ab h)->Ah H0 Q (K (.ptr b o) (Ab h) x (Ab (Ab h)))):
 Ah H0 Q (Aa (Bs (.ptr b 0) o (Ab h)) λa h1=>Aa (lN a (Ab h1)) λc h2=>K a h1 c h2):=by
 refine Ey (v:=.ptr b o) (h:=Ab h) (by rw[E3,Rx]) (Ey (S.nl.nl.r.one e) (d S.nl))
def A84(d:AsL Z){K:AV->H->AV->H->AV->H->OR}{o:Nat}(S:AbI w ts b cs ty h0 h)(l:cs[o]?=some (iI j))(q:Sml j)(n:ts.length<=2490)
 (hk:∀a,AbI w ts b cs ty h0 (Ab h)->AbI w (ts++(nwd j).map wt1) b cs ty h0 a->AbJ w b h0 (Ab h) a->Ah H0 Q (K (.ptr b o) (Ab h) (iI j) (Ab (Ab h)) (.ptr w 0) a)):
 Ah H0 Q (Aa (Bs (.ptr b 0) o (Ab h)) λf h1=>Aa (lN f (Ab h1)) λg h2=>Aa (Z.call 124 [.ptr w 0,g] (Ab h2)) λe a=>K f h1 g h2 e a):=by
 refine ldR S l λc=>?_;obtain⟨e,a,r,_,rfl,i,m⟩:=d w ts j (Ab (Ab (Ab h))) c.nl.nl.k q om c.nl.nl.p S.w2;refine Ey r ?_;obtain⟨x,c2⟩:=c.nl.call (h1:=a) i m;exact hk _ c x c2
open Tryz
variable {Q:Qr}{ve vo vm:AV}
def Ajj(a:Sml j):(nwd j).map wt1=(ilx j).map Ae7:=by
 obtain⟨h1,h2⟩:=a;unfold nwd ilx;by_cases h0:j<0
 .rw[W5 h0,W5 h0];show[wt1 [45],wt1 (V8 (-j))]=[Ae7 (.sg [45]),Ae7 (.nu (-j))];rw[AzN fe,Au3 ⟨by omega,by omega⟩]
 .rw[X2 h0,X2 h0];show[wt1 (V8 j)]=[Ae7 (.nu j)];rw[Au3 ⟨by omega,by omega⟩]
def Agv(x:Int):(ilx x).length<=2:=by unfold ilx;split<;>simp
def AbI.rl{L:List Nat}(a:WG w h0 h)(S:AbI w ts b cs ty h0 h1)(d:∀z∈L,z∈h.lg\/PW w h0 z):AbI w ts b cs ty h0 (Be L h1):=by
 refine⟨S.k.rl,⟨S.r.g,S.r.lt,S.r.ne⟩,⟨S.p.g,S.p.lt⟩,S.w2,S.l0,S.g.reL λx e=>?_⟩;rcases d x e with c|c
 .exact a.lg x c
 .exact .inr c
def A5w{c:List EF}{f:H}{R:AV->H->Prop}{k:H->OR}(d:WG w h0 h)(S:AbI w ts b cs ty h0 f)(j:∀e∈c,e.w=[]\/((∀x∈e.w,PW w h0 x)/\∀a∈c,Jo e a=true))(i:∀h',AbI w ts b cs ty h0 h'->Ah H0 R (k h')):Ah H0 R (Ff h.lg c f k):=
 Axi (PW w h0) j λL g=>i _ (S.rl d g)
structure QF(w:Nat)(h:H)(Q:Qr)(ve vo vm:AV):Prop where
 q:∃hq lo,hq.nx<=w/\Ai hq h/\FrN lo hq ve Q.code/\FrN lo hq vm Q.E9/\Sl 2 hq vo Q.ord.length (Q.ord.flatMap Zd)
def QF.gr(k:QF w h Q ve vo vm)(g:Ai h h1):QF w h1 Q ve vo vm:=by obtain⟨hq,lo,d,a,c⟩:=k.q;exact⟨hq,lo,d,a.trans g,c⟩
def QF.wg(k:QF w h Q ve vo vm)(g:WG w h h1):QF w h1 Q ve vo vm:=by obtain⟨hq,lo,a,c,d⟩:=k.q;exact⟨hq,lo,a,WG.own c g a,d⟩
def QF.code(k:QF w h Q ve vo vm):∃lo,FrN lo h ve Q.code:=by obtain⟨hq,lo,d,a,c,e,q5⟩:=k.q;exact⟨lo,c.base a⟩
def QF.E9(k:QF w h Q ve vo vm):∃lo,FrN lo h vm Q.E9:=by obtain⟨hq,lo,e,a,d,c,q5⟩:=k.q;exact⟨lo,c.base a⟩
def QF.ord(k:QF w h Q ve vo vm):Sl 2 h vo Q.ord.length (Q.ord.flatMap Zd):=by obtain⟨hq,lo,d,a,c,e,q5⟩:=k.q;exact q5.By a.keeps
def fI{P:EF->Prop}{l:List EF}(a:P o)(b:∀x∈l,P x):∀x∈o::l,P x:=Tl.2 ⟨a,b⟩
def fN{P:EF->Prop}:∀x∈([]:List EF),P x:=λ_ h=>nomatch h
def Ag9{c:List EF}(q:∀a∈c,Jo o a=true:=by (repeat (refine Tl.2 ⟨(by first|exact Ar ..|(refine Ax _ _ _ _ _ _ _ _ _ _ _ _ ?_;decide)|exact A4Q rfl|exact Bq9 (by assumption) rfl (by assumption)|exact Bq8 (by assumption) rfl (by assumption)),?_⟩));exact λ_ h=>nomatch h):∀a∈c,Jo o a=true:=q
def Bpe:Prop:=∀(w:Nat) (ts:List Tok) (Q:Qr) (ve vo vm:AV) (t:Tr) (h:H),WrS w ts h->AeZ h->2<w->QF w h Q ve vo vm->Je Q.code false=some t->Q.code.length<=3000->AwU t->size t<=200->Sml Q.c2->Sml Q.c3->ts.length+2*(wr t).length<=2400 ->
 Wrt w (ts++(vlx (wr t) Q.c2 Q.c3).map Ae7) h (.bool true) (Z.call 123 [.ptr w 0,.agg (qc Q ve vo vm)] h)
def B23(d:AkX Z)(c:AsL Z)(U:N28 Z)(M:RW Z t)(k:WrS w ts h)(C:AeZ h)(z:2<w)(hq:QF w h Q ve vo vm)(D:Je Q.code false=some t)(R:Q.code.length<=3000)(s2:Sml Q.c2)(s3:Sml Q.c3)(W:ts.length+2*(wr t).length<=2400):
 Wrt w (ts++(vlx (wr t) Q.c2 Q.c3).map Ae7) h (.bool true) (Ay prog Z N false 123 [.ptr w 0,.agg (qc Q ve vo vm)] h):=by
 have q:=k.lt;obtain⟨lo,e⟩:=hq.code;have A:=λm (g:Ai h m)=>U false Q.code ve m lo (.inr ⟨t,D⟩) (e.base g) R;rw[D,show Yy (some t)=.Bj [A3 t,.bool true]from rfl]at A
 obtain⟨cs,f⟩:∃cs,cs=qc Q ve vo vm:=⟨_,rfl⟩;have c1:cs[1]?=some ve:=by rw[f];rfl
 have c2:cs[2]?=some (iI Q.c2):=by rw[f];rfl
 have c3:cs[3]?=some (iI Q.c3):=by rw[f];rfl
 rw[<- f];clear f hq e;unfold Wrt;rw[ByU];refine wk ?_;have F:Ai h (h.new (.cells cs 26 .exact)):=(Ai.refl h).new _;refine Fj (A _ F) λv1 h1 e1 l1 p V=>?_;subst V;have j:=F.trans e1;have r1:Rd0 w h.nx cs 26 h1:=(⟨Bf _,Up _,by omega⟩:Rd0 w h.nx cs 26 (h.new (.cells cs 26 .exact))).gr e1;clear p A;refine wk ?_;refine zc0 (M w ts h1 (k.gr j) (C.gr j) z om) λv2 h2 ⟨K,s,X⟩=>?_;subst K;have I:AbI w (ts++(wr t).map Ae7) h.nx cs 26 h h2:=⟨X,r1.wg s,(C.gr j).wg s z,z,q,(WG.of q j).trans q s⟩;have Y:(ts++(wr t).map Ae7).length<=2400:=by simp;omega
 have i2:=Agv Q.c2;have i3:=Agv Q.c3;refine Auw Z d [[98,101,116,119,101,101,110]] I (λm=>rfl) fe om λh3 h4 P l3 O o c4=>?_;refine A84 Z c o c2 s2 (by simp;omega) λx y a c5=>?_;rw[Ajj s2]at a;refine Auw Z d [[97,110,100]] a (λm=>rfl) fe (by simp;omega) λh6 h7 E l6 L B c7=>?_;refine A84 Z c B c3 s3 (by simp;omega) λh8 u i G=>?_;rw[Ajj s3]at i;refine A5w I.g i ?_ λh' J=>?_
 .have n4:=c4.n;have n5:=c5.n;have n7:=c7.n;have n8:=G.n;have T:=c4.tt (n:=x.nx) (Vr c4.le c5.le);have S:=c5.tt (n:=x.nx) c5.le;have y6:=E x.nx;have r4:=y.r;have r7:=u.r;exact fI (.inr ⟨G.l,Ag9⟩) (fI (.inl rfl) (fI (.inl rfl) (fI (.inr ⟨c7.l,Ag9⟩) (fI (.inl (E _)) (fI (.inr ⟨c5.l,Ag9⟩) (fI (.inl rfl) (fI (.inl rfl) (fI (.inr ⟨c4.l,Ag9⟩) (fI (.inl (P _)) (fI (.inl rfl) fN))))))))))
 .refine Lo (gr0 _) ⟨rfl,J.g,?_⟩;have:=J.k;rw[show[[98,101,116,119,101,101,110]].map wt1=[Ae7 A2p]from rfl,show[[97,110,100]].map wt1=[Ae7 Bo2]from rfl]at this
  simpa[vlx]using this
def Baa(p q:List Nat)(xf:List L3):Prop:=(∃x,Num x/\p=V8 x/\q=[49]/\xf=[.nu x])\/(∃x y,Num x/\Num y/\p=V8 x/\q=V8 y/\q≠[49]/\xf=[.nu x,A1X,.nu y])
def Bm4(Z:Ac)(s:List Nat)(xf:List L3):Prop:=∀(h:H),Ah h (λr _=>∃p q,r=.Bj [.str p,.str q,iI 0]/\Baa p q xf) (Z.call 126 [.str s] h)
structure WQ(w:Nat)(ts:List Tok)(Q:Qr)(ve vo vm:AV)(b:Nat)(h0 h:H):Prop where
 s:AbI w ts b (qc Q ve vo vm) 26 h0 h
 q:QF w h0 Q ve vo vm
def WrR(w:Nat)(ts:List Tok)(h:H):AV->H->Prop:=λr h'=>r=.bool true/\WG w h h'/\WrS w ts h'
def Ato(h:Num j):Sml j:=⟨by have:=h.1;omega,h.2⟩
def AsT(h:Num j):ilx j=[.nu j]:=by unfold ilx;rw[X2 (by have:=h.1;omega)]
def BvJ(c:AkX Z)(m:AsL Z){f0:L2}(d:AbI w ts b (qc Q ve vo vm) 26 h0 h)(s:Num Q.Mg)(L:ts.length<=2480):
 Ah H0 (WrR w (ts++(elx Q).map Ae7) h0) (BcN Z N (.ptr w 0) (.ptr b 0) f0 h):=by
 rw[BoY];have u:=Ato s;refine Auw Z c [[98,105,116,115]] d (λO=>rfl) (by first|decide|simp) (by first|omega|(simp;omega)) λK G e D A p i=>?_;refine A84 Z m p rfl u (by first|omega|(simp;omega)) λI q f j=>?_;rw[Ajj u]at f;refine A5w d.g f ?_ λh' a=>?_
 .have J:=i.n;have C:=j.n;have E:=q.r;have F:=e h.nx;exact fI (.inr ⟨j.l,Ag9⟩) (fI (.inl rfl) (fI (.inl rfl) (fI (.inr ⟨i.l,Ag9⟩) (fI (.inl (e _)) (fI (.inl rfl) (fN))))))
 have z:=a.r.one (o:=10) (x:=.bool Q.Wz) rfl;have B:(ts++[[98,105,116,115]].map wt1++(ilx Q.Mg).map Ae7)=ts++[Ae7 Bih,Ae7 (.nu Q.Mg)]:=by rw[AsT s,Rq];rfl
 rw[B]at a;refine Ey (v:=.ptr b 10) (h:=h') (by rw[E3,Rx]) (Ey z ?_);unfold elx;cases Q.Wz with
 |false=>refine Ae5 (Lo (gr0 _) ⟨rfl,a.g,?_⟩);exact a.k
 |true=>
  refine Zx ?_;refine Bkp Z c [99,111,110,115,105,115,116,101,110,116] a.k (by simp;omega) λP M y=>?_;refine Lo (gr0 _) ⟨rfl,a.g.trans a.l0 M,?_⟩;rw[show wt1 [99,111,110,115,105,115,116,101,110,116]=Ae7 Bik from rfl]at y
  simpa using y
def Auv(d:AkX Z)(ws:List (List Nat)){j:List AV}{f:List (Nat × Nat × AV)}{n:Nat}{R:AV->H->Prop}{K:AV->AV->H->OR}(S:AbI w ts b cs ty h0 h)(q:∀hh:H,Bh 9 1 n j f hh=.ok (.sl hh.nx 0 ws.length ws.length 1 true) (hh.new (.cells (ws.flatMap Aeb) 9 .exact)))(x:ws.length<=7)(s:ts.length<=2490)
 (hk:∀h1,WG w h h1->AbI w (ts++ws.map wt1) b cs ty h0 h1->Ah H0 R (K (.sl h.nx 0 ws.length ws.length 1 true) (.ptr w 0) h1)):
 Ah H0 R (Aa (Bh 9 1 n j f h) λi h1=>Aa (Z.call 122 [.ptr w 0,i] h1) λo h2=>K i o h2):=by
 refine Ey (q _) ?_;have e:Ai h (h.new (.cells (ws.flatMap Aeb) 9 .exact)):=(Ai.refl h).new _;have c:=S.gr e;refine zc0 (d w ts ws _ _ c.k (AlA (h:=h) S.k.lt ws) x om) λy u ⟨m,a,l⟩=>?_;subst m;exact hk u ((WG.of S.k.lt e).trans S.k.lt a) ⟨l,c.r.wg a,c.p.wg a S.w2,S.w2,S.l0,c.g.trans S.l0 a⟩
def BvI(c:AkX Z)(d:AsL Z){xf:List L3}(l:Bm4 Z Q.Oi xf){f0:L2}(f:AbI w ts b (qc Q ve vo vm) 26 h0 h)(z:Num Q.Mg)(F:ts.length<=2460):
 Ah H0 (WrR w (ts++(wlx Q xf).map Ae7) h0) (BcK Z N (.ptr w 0) (.ptr b 0) f0 h):=by
 rw[BoX];have u:=f.r.one (o:=18) (x:=.str Q.Oi) rfl;refine Ey (v:=.ptr b 18) (h:=h) (by rw[E3,Rx]) (Ey u ?_);refine Fj (l h) λK h1 e1 l1 m g=>?_;obtain⟨p,q,rfl,G⟩:=g;have D:=f.gr e1;clear m u;have C:∀a:H,bo .neq 45 true (iI 0) (iI 0) a=.ok (.bool false) a:=λa=>rfl;refine Ey (v:=.str p) (h:=h1) rfl (Ey (v:=.str q) (h:=h1) rfl (Ey (v:=iI 0) (h:=h1) rfl (Ey (C _) (Ae5 ?_))));refine Auv Z c [[119,105,116,104],[102,97,99,116,111,114],p] D (λa=>rfl) (by show 3<=7;decide) om λh2 J s=>?_
 have E:∀a:H,bo .neq 24 true (.str q) (.str [49]) a=.ok (.bool (!decide (q=[49]))) a:=λa=>A1a ..;refine Ey (E _) ?_;rcases G with⟨x,k,rfl,rfl,rfl⟩|⟨x,y,k,B,rfl,rfl,hq,rfl⟩
 .rw[Ws rfl];refine Ae5 ?_;have i:ts++[[119,105,116,104],[102,97,99,116,111,114],V8 x].map wt1=ts++[Ae7 AlF,Ae7 AyL,Ae7 (.nu x)]:=by show ts++[wt1 _,wt1 _,wt1 (V8 x)]=_;rw[Au3 k];rfl
  rw[i]at s;refine(BvJ Z N c d s z (by simp;omega)).mono λr A _ ⟨g,j,n⟩=>⟨g,j,?_⟩;simpa[wlx]using n
 .rw[Xn hq];refine Zx ?_;refine Auv Z c [[47],V8 y] s (λa=>rfl) (by show 2<=7;decide) (by simp;omega) λA I e=>?_
  have i:ts++[[119,105,116,104],[102,97,99,116,111,114],V8 x].map wt1++[[47],V8 y].map wt1=ts++[Ae7 AlF,Ae7 AyL,Ae7 (.nu x),Ae7 A1X,Ae7 (.nu y)]:=by show ts++[wt1 _,wt1 _,wt1 (V8 x)]++[wt1 [47],wt1 (V8 y)]=_;rw[Au3 k,Au3 B,Rq];rfl
  rw[i]at e;refine(BvJ Z N c d e z (by simp;omega)).mono λr A _ ⟨g,j,n⟩=>⟨g,j,?_⟩;simpa[wlx]using n
variable {xw xf:List L3}
def WhW(Z:Ac)(ms:List Nd)(xw:List L3):Prop:=(ms=[]/\xw=[])\/∃t,Je ms true=some t/\ms≠[]/\ms.length<=3000/\RW Z t/\xw=Al7::wr t
structure Bm9(Z:Ac)(Q:Qr)(xw xf:List L3):Prop where
 E9:WhW Z Q.E9 xw
 f:Bm4 Z Q.Oi xf
 bits:Num Q.Mg
 Uw:Q.Uw∈R2++N1
 By:Num Q.W0
 join:Q.Wu≠[]->Q.Wu∈R2++N1/\Q.s14∈R2++N1/\Q.s15∈R2++N1/\Num Q.c16
def BvH(i:AkX Z)(j:AsL Z)(R:N28 Z)(P:Bm9 Z Q xw xf){f0:L2}(c:WQ w ts Q ve vo vm b h0 h)(B:ts.length+2*xw.length<=2440):
 Ah H0 (WrR w (ts++(xw++wlx Q xf).map Ae7) h0) (BcJ Z N (.ptr w 0) (.ptr b 0) f0 h):=by
 rw[BoW];have C:=c.s.r.one (o:=17) (x:=vm) rfl;have E:∀e:H,Bs (.ptr b 0) 17 e=.ok (.ptr b 17) e:=λe=>by rw[E3,Rx]
 obtain⟨lo,n⟩:=(c.q.wg c.s.g).E9;refine Ey (E h) (Ey C (Ey (n.sl.Gs) ?_));rcases P.E9 with⟨z,rfl⟩|⟨t,D,z,O,K,rfl⟩
 .rw[z];refine Ey (v:=.bool false) (h:=h) rfl (Ae5 ?_);exact BvI Z N i j P.f c.s P.bits om
 .have G:0<Q.E9.length:=by cases hq:Q.E9 with|nil=>exact absurd hq z|cons a l=>exact en _
  have F:∀e:H,bo .gtr 3 true (iI (Q.E9.length:Int)) (iI 0) e=.ok (.bool true) e:=λe=>by show Aj prog .gtr 3 true (iI (Q.E9.length:Int)) (iI 0) e=_;rw[A5z,Ws om]
  refine Ey (F _) (Zx (Ey (E h) (Ey C ?_)));refine Fj (R true Q.E9 vm h lo (.inr ⟨t,D⟩) n O) λV h1 e1 l1 M u=>?_;rw[D]at u;subst u;refine Ey (v:=A3 t) (h:=h1) rfl (Ey (v:=.bool true) (h:=h1) rfl (Ey (v:=.bool false) (h:=h1) rfl (Ae5 ?_)));have L:=c.s.gr e1;simp only[R6]at B;refine Auv Z i [[119,104,101,114,101]] L (λe=>rfl) fe om λh2 U d=>?_;refine zc0 (K w _ h2 d.k d.p d.w2 (by simp;omega)) λX T ⟨A,y,S⟩=>?_;subst A;have m:AbI w ((ts++[[119,104,101,114,101]].map wt1)++(wr t).map Ae7) b (qc Q ve vo vm) 26 h0 T:=⟨S,d.r.wg y,d.p.wg y d.w2,d.w2,d.l0,d.g.trans d.l0 y⟩;have I:(ts++[[119,104,101,114,101]].map wt1)++(wr t).map Ae7=ts++(Al7::wr t).map Ae7:=by rw[Rq];rfl
  rw[I]at m;refine(BvI Z N i j P.f m P.bits (by simp;omega)).mono λr W _ ⟨u,J,A⟩=>⟨u,J,?_⟩;simpa using A
def BvG(d:AkX Z)(c:AsL Z)(G:N28 Z)(P:Bm9 Z Q xw xf){f0:L2}(a:WQ w ts Q ve vo vm b h0 h)(hts:ts.length+2*xw.length<=2420):
 Ah H0 (WrR w (ts++(jlx Q++(xw++wlx Q xf)).map Ae7) h0) (BcI Z N (.ptr w 0) (.ptr b 0) f0 h):=by
 rw[BoV];have J:=a.s.r.one (o:=13) (x:=.str Q.Wu) rfl;have W:∀y:H,Bs (.ptr b 0) 13 y=.ok (.ptr b 13) y:=λy=>by rw[E3,Rx]
 refine Ey (W h) (Ey J (Ey (A1a ..) ?_));unfold jlx;by_cases f:Q.Wu=[]
 .rw[W5 f,Ws f];exact Ae5 (BvH Z N d c G P a om)
 .rw[X2 f,Xn f];obtain⟨m1,Y,U,F⟩:=P.join f;refine Zx ?_;have S:=a.s;have E:=Ato F;refine ldR S (x:=.str Q.Wu) rfl λe=>?_;have z:=e.nl;refine ldR z (x:=.str Q.s14) rfl λi=>?_;have C:=i.nl;refine ldR C (x:=.str Q.s15) rfl λp=>?_;have D:=p.nl;refine Auw Z d [[106,111,105,110],Q.Wu,[111,110],Q.s14,[61],Q.s15,[108,105,109,105,116]] D (λy=>rfl) (by first|decide|simp) (by first|omega|(simp;omega)) λax3 V j L Tx3 A k=>?_;refine A84 Z c A rfl E (by first|omega|(simp;omega)) λbx4 B u m=>?_;rw[Ajj E]at u;refine A5w S.g u ?_ λh' I=>?_
  .have R:=k.n;have B14:=m.n;have T:=e.r;have Bso:=i.r;have K:=p.r;have CbC:=B.r;have B4l:=j (Ab (Ab (Ab (Ab (Ab (Ab h)))))).nx;exact fI (.inr ⟨m.l,Ag9⟩) (fI (.inl rfl) (fI (.inl rfl) (fI (.inr ⟨k.l,Ag9⟩) (fI (.inl (j _)) (fI (.inl rfl) (fI (.inl rfl) (fI (.inl rfl) (fI (.inl rfl) (fI (.inl rfl) (fI (.inl rfl) (fI (.inl rfl) (fN))))))))))))
  have M:(ts++[[106,111,105,110],Q.Wu,[111,110],Q.s14,[61],Q.s15,[108,105,109,105,116]].map wt1++(ilx Q.c16).map Ae7)=ts++[Bil,.nm Q.Wu,BvS,.nm Q.s14,.sg [61],.nm Q.s15,BdJ,.nu Q.c16].map Ae7:=by rw[AsT F,Rq];show ts++([wt1 _,wt1 Q.Wu,wt1 _,wt1 Q.s14,wt1 _,wt1 Q.s15,wt1 _]++_)=_;rw[AjQ m1,AjQ Y,AjQ U];rfl
  rw[M]at I;refine(BvH Z N d c G P ⟨I,a.q⟩ (by simp;omega)).mono λr h4 _ ⟨q1,O,X⟩=>⟨q1,O,?_⟩;simpa using X
def R75(Z:Ac)(Q:Qr)(xw xf:List L3):Prop:=∀(w:Nat) (ts:List Tok) (ve vo vm:AV) (h:H),WrS w ts h->AeZ h->2<w->QF w h Q ve vo vm->ts.length+2*xw.length<=2400->Wrt w (ts++(slx Q xw++wlx Q xf).map Ae7) h (.bool true) (Z.call 75 [.ptr w 0,.agg (qc Q ve vo vm)] h)
def r75(c:AkX Z)(d:AsL Z)(F:N28 Z)(P:Bm9 Z Q xw xf)(k:WrS w ts h)(K:AeZ h)(hw:2<w)(hq:QF w h Q ve vo vm)(hts:ts.length+2*xw.length<=2400):
 Wrt w (ts++(slx Q xw++wlx Q xf).map Ae7) h (.bool true) (Ay prog Z N false 75 [.ptr w 0,.agg (qc Q ve vo vm)] h):=by
 have D:=k.lt;unfold Wrt;rw[e75];have A:Ai h (h.new (.cells (qc Q ve vo vm) 26 .exact)):=(Ai.refl h).new _;have f:AbI w ts h.nx (qc Q ve vo vm) 26 h (h.new (.cells (qc Q ve vo vm) 26 .exact)):=⟨k.gr A,⟨Bf _,Up _,by omega⟩,K.gr A,hw,D,WG.of D A⟩;have I:=f.r.one (o:=11) (x:=.str Q.Uw) rfl;have V:∀a:H,Bs (.ptr h.nx 0) 11 a=.ok (.ptr h.nx 11) a:=λa=>by rw[E3,Rx]
 have U:∀a:H,Bs (.ptr h.nx 0) 12 a=.ok (.ptr h.nx 12) a:=λa=>by rw[E3,Rx]
 refine Ey (Hg ..) (Ey (V _) (Ey I ?_));refine Auv Z c [[102,114,111,109],Q.Uw] f (λa=>rfl) (by show 2<=7;decide) om λh1 g1 e=>?_
 have u:ts++[[102,114,111,109],Q.Uw].map wt1=ts++[A5H,.nm Q.Uw].map Ae7:=by show ts++[wt1 _,wt1 Q.Uw]=_;rw[AjQ P.Uw];rfl
 rw[u]at e;have M:=e.r.one (o:=12) (x:=iI Q.W0) rfl;refine Ey (U _) (Ey M (Ey (Y6 ..) ?_));have E:=Ato P.By;unfold slx klx;by_cases q:Q.W0=0
 .rw[W5 q,Ws q];refine Ae5 ((BvG Z N c d F P ⟨e,hq⟩ (by simp;omega)).mono λr W _ ⟨C,y,B⟩=>⟨C,y,?_⟩);simpa using B
 .rw[X2 q,Xn q];refine Zx ?_;refine Auw Z c [[107,101,101,112]] e (λa=>rfl) (by first|decide|simp) (by first|omega|(simp;omega)) λax0 T i O J s m=>?_;refine A84 Z d s rfl E (by first|omega|(simp;omega)) λX z j p=>?_;rw[Ajj E]at j;refine A5w e.g j ?_ λh' G=>?_
  .have Y:=m.n;have L:=p.n;have R:=z.r;have S:=i h.nx;exact fI (.inr ⟨p.l,Ag9⟩) (fI (.inl rfl) (fI (.inl rfl) (fI (.inr ⟨m.l,Ag9⟩) (fI (.inl (i _)) (fI (.inl rfl) (fN))))))
  have u:(ts++[A5H,.nm Q.Uw].map Ae7++[[107,101,101,112]].map wt1++(ilx Q.W0).map Ae7)=ts++[A5H,.nm Q.Uw,Bim,.nu Q.W0].map Ae7:=by rw[AsT P.By,Rq,Rq];rfl
  rw[u]at G;refine(BvG Z N c d F P ⟨G,hq⟩ (by simp;omega)).mono λr W _ ⟨C,y,B⟩=>⟨C,y,?_⟩;simpa using B
structure BtZ(Z:Ac)(Q:Qr)(t:Tr):Prop where
 b:Je Q.code false=some t
 l:Q.code.length<=3000
 w:AwU t/\size t<=200
 s2:Sml Q.c2
 s3:Sml Q.c3
def Bp5(c:Bpe Z){R:AV->H->Prop}{K:AV->H->AV->H->OR}(S:AbI w ts b (qc Q ve vo vm) 26 h0 h)(hq:QF w h0 Q ve vo vm)(V:BtZ Z Q t)(a:ts.length+2*(wr t).length<=2400)
 (hk:∀h2,AbI w (ts++(vlx (wr t) Q.c2 Q.c3).map Ae7) b (qc Q ve vo vm) 26 h0 h2->AbJ w b h0 (Ab h) h2->Ah H0 R (K (.agg (qc Q ve vo vm)) (Ab h) (.bool true) h2)):
 Ah H0 R (Aa (lS 20 (.ptr b 0) (Ab h)) λd h1=>Aa (Z.call 123 [.ptr w 0,d] (Ab h1)) λf h2=>K d h1 f h2):=by
 have j:lS 20 (.ptr b 0) (Ab h)=.ok (.agg (qc Q ve vo vm)) (Ab h):=(⟨S.nl.r.lt,_,_,S.nl.r.g,trivial⟩:Nv (Ab h) b (qc Q ve vo vm)).many (o:=0) (n:=20) (by show 0+20<=20;omega) rfl (Ab h) (Bi.refl _)
 refine Ey j ?_;obtain⟨u,s,m,_,rfl,e,q⟩:=c w ts Q ve vo vm t (Ab (Ab h)) S.nl.nl.k S.nl.nl.p S.w2 (hq.wg S.nl.nl.g) V.b V.l V.w.1 V.w.2 V.s2 V.s3 a;refine Ey m ?_;obtain⟨i,c2⟩:=S.nl.call (h1:=s) e q;exact hk _ i c2
def Bwd(c:AsL Z){R:AV->H->Prop}{K:AV->H->AV->H->AV->H->OR}{o:Nat}(q:o<2)(S:AbI w ts b cs ty h0 h)(l:cs[o]?=some (iI j))(s:Sml j)(n:ts.length<=2490)
 (hk:∀a,AbI w ts b cs ty h0 (Ab h)->AbI w (ts++(nwd j).map wt1) b cs ty h0 a->AbJ w b h0 (Ab h) a->Ah H0 R (K (.ptr b o) (Ab h) (iI j) (Ab (Ab h)) (.ptr w 0) a)):
 Ah H0 R (Aa (AxM 2 1 (.ptr b 0) (iI (o:Int)) (Ab h)) λe h1=>Aa (lN e (Ab h1)) λf h2=>Aa (Z.call 124 [.ptr w 0,f] (Ab h2)) λd a=>K e h1 f h2 d a):=by
 have i:AxM 2 1 (.ptr b 0) (iI (o:Int)) (Ab h)=.ok (.ptr b o) (Ab h):=by show iaA (.ptr b 0) 2 o 1 (Ab h)=_;show(@Bool.rec (λ_=>OR) (.bad 90) (.ok (.ptr b (0+o*1)) (Ab h)) (Nat.blt o 2):OR)=_;rw[show Nat.blt o 2=true by simpa using q,ae,Rx]
 refine Ey i (Ey (S.nl.nl.r.one l) ?_);obtain⟨d,a,u,_,rfl,g,m⟩:=c w ts j (Ab (Ab (Ab h))) S.nl.nl.nl.k s om S.nl.nl.nl.p S.w2;refine Ey u ?_;obtain⟨x,c2⟩:=S.nl.nl.call (h1:=a) g m;exact hk _ S.nl x c2
def A8Z:∀(l:List (Int × Int)) (r:Int × Int),rsx (l++[r])=rsx l++((if l=[]then[]else[An9])++rlx r)
|[],r=>by simp[rsx]
|[a],r=>by simp[rsx]
|a::c::l,r=>by have d:=A8Z (c::l) r;show rlx a++An9::rsx ((c::l)++[r])=(rlx a++An9::rsx (c::l))++_;rw[d];simp
def BvF(q:AkX Z)(c:AsL Z){y x:Nat}{t3 t9 t10 t11:AV}{f0:L2}{r:Int × Int}{R:AV->H->Prop}(e:AbI w ts x [iI r.1,iI r.2] 33 h0 h)(z:Sml r.1)(s2:Sml r.2)(P:ts.length<=2450)
 (go:∀h' f0,AbI w (ts++(rlx r).map Ae7) x [iI r.1,iI r.2] 33 h0 h'->Ah H0 R (BgW Z N y (.ptr w 0) t3 t9 t10 t11 f0 h')):
 Ah H0 R (BcH Z N y (.ptr w 0) t3 (.ptr x 0) t9 t10 t11 f0 h):=by
 rw[BoU];have i1:=Agv r.1;have i2:=Agv r.2;refine Bwd Z c (o:=0) fe e rfl z (by first|omega|(simp;omega)) λf p d a=>?_;rw[Ajj z]at d;refine Auw Z q [[46,46]] d (λT=>rfl) (by first|decide|simp) (by first|omega|(simp;omega)) λO J k E F s j=>?_;refine Bwd Z c (o:=1) fe s rfl s2 (by first|omega|(simp;omega)) λS u m i=>?_;rw[Ajj s2]at m;refine A5w e.g m ?_ λh' A=>?_
 .have K:=a.n;have D:=j.n;have L:=i.n;have G:=p.r;have M:=u.r;have C:=k f.nx;have I:=a.tt (n:=f.nx) (a.le);exact fI (.inr ⟨i.l,Ag9⟩) (fI (.inl rfl) (fI (.inl rfl) (fI (.inr ⟨j.l,Ag9⟩) (fI (.inl (k _)) (fI (.inr ⟨a.l,Ag9⟩) (fI (.inl rfl) (fI (.inl rfl) (fI (.inl rfl) (fN)))))))))
 refine go h' _ ?_;have B:ts++(ilx r.1).map Ae7++[[46,46]].map wt1++(ilx r.2).map Ae7=ts++(rlx r).map Ae7:=by rw[Rq,Rq,rlx,ah];rfl
 rw[B]at A;exact A
def A6g:∀l:List (Int × Int),(rsx l).length<=6*l.length
|[]=>Jv _
|[r]=>by have:=Agv r.1;have:=Agv r.2;simp[rsx,rlx];omega
|r::a::l=>by have:=Agv r.1;have:=Agv r.2;have c:=A6g (a::l);simp[rsx,rlx]at c ⊢;omega
def BuL(f:AkX Z){ts:List Tok}{h0 h:H}(S:AbI w ts b (qc Q ve vo vm) 26 h0 h)(z:0<=Q.c9/\Q.c9<=2)(y:ts.length<=2480){K:H->OR}(n:∀h1,K h1=(mL (.ptr b 0) 9 λv11 v12=>mM (bo .lss 3 true v12 (iI 0)) λE0=>mV E0 false (.ptr b 0) 9 λEr D5=>mW E0 false (bo .gtr 3 true D5 (iI 2)) λF9=>mM (Bo E0 (.bool true) F9) λGq=>mC Gq (.ok (.bool false)) (mM (Bh 9 1 3 [(.str []),(.str []),(.str [])] [(0,1,(.str [105,100,101,110,116,105,116,121])),(1,1,(.str [112,114,101,102,105,120])),(2,1,(.str [116,114,101,101]))]) λHt=>mL (.ptr b 0) 9 λH7 v20=>mM (Gc 1 Ht v20) λv21=>mM (lN v21) λJw=>mM (Bh 9 1 1 [(.str [])] [(0,1,Jw)]) λJm=>mM (Z.call 122 [(.ptr w 0),Jm]) λi=>.ok (.bool true))) h1):
 Ah H0 (WrR w (ts++[AjV,.kw (Ala.getD Q.c9.toNat [])].map Ae7) h0) (Aa (Bh 9 1 1 [(.str [])] [(0,1,(.str [117,115,105,110,103]))] h) λq h1=>Aa (Z.call 122 [.ptr w 0,q] h1) λx h2=>K h2):=by
 refine Auv Z f [[117,115,105,110,103]] S (λc=>rfl) fe om λh1 A d=>?_;rw[n];obtain⟨cs,l⟩:∃cs,cs=qc Q ve vo vm:=⟨_,rfl⟩;have c9:cs[9]?=some (iI Q.c9):=by rw[l];rfl
 rw[<- l]at d;have g:=d.r.g;have lb:=d.r.lt;have B:=d.k.lt;clear l S n;have hc:Q.c9=0\/Q.c9=1\/Q.c9=2:=by omega
 have a:∀s:List Nat,∀h2,Ai h1 h2->wt1 s=Ae7 (.kw (Ala.getD Q.c9.toNat []))->Ah H0 (WrR w (ts++[AjV,.kw (Ala.getD Q.c9.toNat [])].map Ae7) h0) (Aa (Z.call 122 [.ptr w 0,.sl h2.nx 0 1 1 1 true] (h2.new (.cells [.str s] 9 .exact))) λi=>OR.ok (.bool true)):=λs h2 e u=>by have j:=d.gr e;refine Bnz Z f s j.k (by simp;omega) λC p o=>?_;refine Lo (gr0 _) ⟨rfl,j.g.trans j.l0 p,?_⟩;rw[u,Rq]at o;exact o
 replace a:=(show F5 _ from a)
 clear d;rcases hc with hc|hc|hc
 .rw[hc]at c9 a ⊢;have m:∀c:H,Gc 1 (.sl h1.nx 0 3 3 1 true) (iI 0) c=.ok (.ptr h1.nx 0) c:=λc=>rfl;refine wk ?_;refine(show ∀s h2,_ from a) _ (h1.new (.cells [.str [105,100,101,110,116,105,116,121],.str [112,114,101,102,105,120],.str [116,114,101,101]] 9 .exact)) Ex ?_
  rfl
 .rw[hc]at c9 a ⊢;have m:∀c:H,Gc 1 (.sl h1.nx 0 3 3 1 true) (iI 1) c=.ok (.ptr h1.nx 1) c:=λc=>rfl;refine wk ?_;refine(show ∀s h2,_ from a) _ (h1.new (.cells [.str [105,100,101,110,116,105,116,121],.str [112,114,101,102,105,120],.str [116,114,101,101]] 9 .exact)) Ex ?_
  rfl
 .rw[hc]at c9 a ⊢;have m:∀c:H,Gc 1 (.sl h1.nx 0 3 3 1 true) (iI 2) c=.ok (.ptr h1.nx 2) c:=λc=>rfl;refine wk ?_;refine(show ∀s h2,_ from a) _ (h1.new (.cells [.str [105,100,101,110,116,105,116,121],.str [112,114,101,102,105,120],.str [116,114,101,101]] 9 .exact)) Ex ?_
  rfl
def Biu(c:AkX Z)(e:AsL Z)(hq:QF w h0 Q ve vo vm)(r0:Rd0 w b (qc Q ve vo vm) 26 h0)(B:∀x∈Q.ord,Sml x.1/\Sml x.2)(z:Q.ord.length<=4)(E:0<=Q.c9/\Q.c9<=2)(A:ts.length<=2400):
 ∀(u i n:Nat) (hd:H) (f0:L2),i+u=Q.ord.length->u<n->AbI w (ts++(rsx (Q.ord.take i)).map Ae7) b (qc Q ve vo vm) 26 h0 hd ->
  Ah H0 (WrR w (ts++(rsx Q.ord++[AjV,.kw (Ala.getD Q.c9.toNat [])]).map Ae7) h0) (Bdo Z N n (.ptr w 0) (.ptr b 0) vo (iI Q.ord.length) (iI i) f0 hd)
 |0,i,n,hd,f0,hi,hn,S=>by obtain⟨j,rfl⟩:∃j,n=j+1:=⟨n-1,by omega⟩;rw[Qa om]at S;have R:=A6g Q.ord;rw[BgY];refine Ey (Hf ..) ?_;rw[Xn om];refine Ae5 ?_;refine(BuL Z c S E (by simp;omega) (λh1=>rfl)).mono λr h1 _ ⟨W,L,U⟩=>⟨W,L,?_⟩;simpa using U
 |u+1,i,n,hd,f0,hi,hn,S=>by
  obtain⟨j,rfl⟩:∃j,n=j+1:=⟨n-1,by omega⟩;have l:=Biu c e hq r0 B z E A u (i+1) j;have M:decide ((i:Int)<(Q.ord.length:Int))=true:=dt;have k3:decide (i<Q.ord.length)=true:=dt;obtain⟨r,q⟩:∃r,Q.ord[i]?=some r:=⟨_,Xs om⟩;obtain⟨G,s2⟩:=B r (Vl q);have y:=(hq.wg S.g).ord;have R:=A6g (Q.ord.take i);have F:(Q.ord.take i).length=i:=by rw[Cm];omega
  obtain⟨b1,Y,I⟩:=R0.elem (f:=Zd) (s:=2) (λ_=>rfl) y q;have J:=I.ia;have P:=I.all;have hw:=S.k.lt;have D:=S.r.lt;have e1:(Q.ord.take (i+1))=Q.ord.take i++[r]:=by rw[Ga,q];rfl
  rw[e1,A8Z]at l;replace l:=(show F5 _ from l)
  have V:A4 2 (.ptr hd.nx 0) (.agg (Zd r)) (hd.new (.cells [iI 0,iI 0] 33 .exact))=.ok (.Bj []) ((hd.new (.cells [iI 0,iI 0] 33 .exact)).put hd.nx (.cells (Zd r) 33 .exact)):=by simp[lw]
  rw[BgY];refine Ey (Hf ..) ?_;rw[M];refine Zx (Ey (J _) (Ey (P hd (Bi.refl _)) ?_));refine Ey (v:=.ptr hd.nx 0) (h:=hd.new (.cells [iI 0,iI 0] 33 .exact)) rfl (Ey V ?_);have T:Ai hd ((hd.new (.cells [iI 0,iI 0] 33 .exact)).put hd.nx (.cells (Zd r) 33 .exact)):=((Ai.refl hd).new _).put _ _ (Yw _);have gb:((hd.new (.cells [iI 0,iI 0] 33 .exact)).put hd.nx (.cells (Zd r) 33 .exact)).m.get hd.nx=.cells (Zd r) 33 .exact:=A2 _ _;have nb:((hd.new (.cells [iI 0,iI 0] 33 .exact)).put hd.nx (.cells (Zd r) 33 .exact)).nx=hd.nx+1:=rfl;generalize ((hd.new (.cells [iI 0,iI 0] 33 .exact)).put hd.nx (.cells (Zd r) 33 .exact))=D at *
  have d:=S.gr T;have o:AbI w (ts++(rsx (Q.ord.take i)).map Ae7) hd.nx (Zd r) 33 h0 D:=⟨d.k,⟨gb,by omega,by omega⟩,d.p,d.w2,d.l0,d.g⟩;refine Ey (A5z ..) ?_;by_cases X:i=0
  .rw[Xn om];refine Ae5 ?_;refine BvF Z N c e o G s2 (by simp;omega) λh' K a=>?_;rw[BgX];refine Ey (Am1 (k:=.i64) i 1 fe (by show((i+1:Nat):Int)<=9223372036854775807;omega) _) ?_
   refine(show ∀(hd:H) (f0:L2),_ from l) h' _ om om ⟨?_,r0.wg a.g,a.p,a.w2,a.l0,a.g⟩
   have:=a.k;rw[W5 (by rw[X];rfl)];simpa using this
  .rw[Ws om];refine Zx ?_;refine Auv Z c [[44]] o (λC=>rfl) fe (by simp;omega) λh1 g1 O=>?_;refine BvF Z N c e O G s2 (by simp;omega) λh' K a=>?_;rw[BgX];refine Ey (Am1 (k:=.i64) i 1 fe (by show((i+1:Nat):Int)<=9223372036854775807;omega) _) ?_
   refine(show ∀(hd:H) (f0:L2),_ from l) h' _ om om ⟨?_,r0.wg a.g,a.p,a.w2,a.l0,a.g⟩
   have:=a.k;rw[X2 (λC=>by rw[C]at F;simp at F;omega)];rw[show[[44]].map wt1=[Ae7 An9]from rfl]at this
   simpa using this
variable {xe:List L3}
structure Bt3(Z:Ac)(Q:Qr)(xe:List L3):Prop where
 k:1<=Q.c0/\Q.c0<=10
 v:Q.c0=2\/Q.c0=4\/Q.c0=5->∃t,BtZ Z Q t/\xe=wr t
 nm:Q.c0≠1->Q.c0≠2->Q.c0≠5->Q.s6∈R2++N1
 q5:Q.c0=5->Num Q.c4/\Num Q.c5
 b7:Sml Q.c7
 o10:Q.c0=10->(∀x∈Q.ord,Sml x.1/\Sml x.2)/\Q.ord.length<=4/\0<=Q.c9/\Q.c9<=2
def R74(Z:Ac)(Q:Qr)(xe:List L3):Prop:=∀(w:Nat) (ts:List Tok) (ve vo vm:AV) (h:H),WrS w ts h->AeZ h->2<w->QF w h Q ve vo vm->ts.length+2*xe.length<=2350 ->
 Wrt w (ts++(.kw (kdW.getD (kno Q) ([],0)).1::kbx Q xe).map Ae7) h (.bool true) (Z.call 74 [.ptr w 0,.agg (qc Q ve vo vm)] h)
def eqK(a c:Int)(d:H):bo .eql 3 true (iI a) (iI c) d=.ok (.bool (decide (a=c))) d:=by show Aj prog .eql 3 true (iI a) (iI c) d=_;rw[A5y]
def kF{c:Int}{d e:H}{k:AV->H->OR}{R:AV->H->Prop}(hc:¬ j=c)(f:Ah e R (k (.bool false) d)):Ah e R (Aa (bo .eql 3 true (iI j) (iI c) d) k):=by refine Ey (eqK _ _ _) ?_;rw[Xn hc];exact f
def kT{c:Int}{d e:H}{k:AV->H->OR}{R:AV->H->Prop}(hc:j=c)(f:Ah e R (k (.bool true) d)):Ah e R (Aa (bo .eql 3 true (iI j) (iI c) d) k):=by refine Ey (eqK _ _ _) ?_;rw[Ws hc];exact f
def r74(e:AkX Z)(K:Bpe Z)(G:AsL Z)(hN:10<N)(P:Bt3 Z Q xe)(k:WrS w ts h)(hp:AeZ h)(hw:2<w)(Zb:QF w h Q ve vo vm)(hts:ts.length+2*xe.length<=2350):
 Wrt w (ts++(.kw (kdW.getD (kno Q) ([],0)).1::kbx Q xe).map Ae7) h (.bool true) (Ay prog Z N false 74 [.ptr w 0,.agg (qc Q ve vo vm)] h):=by
 have B6:=k.lt;have E:∀k:Nat,Q.c0=(k:Int)+1->kno Q=k:=λk f=>by show(Q.c0-1).toNat=k;omega
 unfold Wrt;rw[e74];have gA:Ai h (h.new (.cells (qc Q ve vo vm) 26 .exact)):=(Ai.refl h).new _;refine Ey (Hg ..) ?_;have gb:(h.new (.cells (qc Q ve vo vm) 26 .exact)).m.get h.nx=.cells (qc Q ve vo vm) 26 .exact:=Bf _;have nb:(h.new (.cells (qc Q ve vo vm) 26 .exact)).nx=h.nx+1:=rfl;generalize h.new (.cells (qc Q ve vo vm) 26 .exact)=hb at *
 have r0:Rd0 w h.nx (qc Q ve vo vm) 26 hb:=⟨gb,by omega,by omega⟩;have c:AbI w ts h.nx (qc Q ve vo vm) 26 hb hb:=⟨k.gr gA,r0,hp.gr gA,hw,by omega,WG.refl om⟩;have hq:=Zb.gr gA;have fin:∀{ts':List Tok} {r:OR},Ah H0 (WrR w ts' hb) r->Ah H0 (λr h'=>r=.bool true/\WG w h h'/\WrS w ts' h') r:=λhr=>hr.mono λr h1 _ ⟨q1,q2,q3⟩=>⟨q1,(WG.of B6 gA).trans B6 q2,q3⟩;refine fin ?_;clear fin k hp Zb gb;have f0:∀f:H,Bs (.ptr h.nx 0) 0 f=.ok (.ptr h.nx 0) f:=λf=>rfl;have Y:∀f:H,Bs (.ptr h.nx 0) 6 f=.ok (.ptr h.nx 6) f:=λf=>by rw[E3,Rx]
 have f8:∀f:H,Bs (.ptr h.nx 0) 8 f=.ok (.ptr h.nx 8) f:=λf=>by rw[E3,Rx]
 have x0:=c.r.one (o:=0) (x:=iI Q.c0) rfl;have x6:=c.r.one (o:=6) (x:=.str Q.s6) rfl;have x8:=c.r.one (o:=8) (x:=vo) rfl;refine Ey (f0 _) (Ey x0 ?_);obtain⟨k1,k2⟩:=P.k;have BcE:Q.c0=1\/Q.c0=2\/Q.c0=3\/Q.c0=4\/Q.c0=5\/Q.c0=6\/Q.c0=7\/Q.c0=8\/Q.c0=9\/Q.c0=10:=by omega
 rcases BcE with hc|hc|hc|hc|hc|hc|hc|hc|hc|hc
 .have z:kno Q=0:=E 0 om;refine kT hc (Zx ?_);refine Auv Z e [[99,111,117,110,116]] c (λf=>rfl) fe om λh1 g1 j=>?_;refine Lo (gr0 _) ⟨rfl,j.g,?_⟩;have u:kbx Q xe=[]:=by unfold kbx;rw[W5 hc]
  rw[z,u];exact j.k
 .have z:kno Q=1:=E 1 om;refine kF om (Ae5 ?_);refine kT hc (Zx ?_);obtain⟨t,V,rfl⟩:=P.v om;have vl:=AwB (wr t) Q.c2 Q.c3;have i2:=Agv Q.c2;have i3:=Agv Q.c3;refine Auw Z e [[115,117,109]] c (λf=>rfl) (by first|decide|simp) (by first|omega|(simp;omega)) λJ O i R T y d=>?_;refine Bp5 Z K y hq V (by first|omega|(simp;omega)) λp s a=>?_;refine A5w c.g s.nl ?_ λh' D=>?_
  .have X:=d.n;have U:=a.n;have W:=y.r;have M:=i h.nx;exact fI (.inl rfl) (fI (.inr ⟨a.l,Ag9⟩) (fI (.inl rfl) (fI (.inr ⟨d.l,Ag9⟩) (fI (.inl (i _)) (fI (.inl rfl) (fN))))))
  refine Lo (gr0 _) ⟨rfl,D.g,?_⟩;have u:kbx Q (wr t)=vlx (wr t) Q.c2 Q.c3:=by simp[kbx,hc]
  rw[z,u];have:=D.k;rw[Rq]at this;exact this
 .have z:kno Q=2:=E 2 om;refine kF om (Ae5 ?_);refine kF om (Ae5 ?_);refine kF om (Ae5 ?_);refine kF om (Ae5 ?_);refine kF om (Ae5 ?_);refine kT hc (Zx ?_);have A:=P.nm om om om;refine Ey (Y _) (Ey x6 ?_);refine Auv Z e [[104,105,115,116,111,103,114,97,109],Q.s6] c (λf=>rfl) (by show 2<=7;decide) om λh1 g1 j=>?_
  refine Lo (gr0 _) ⟨rfl,j.g,?_⟩;have u:kbx Q xe=[.nm Q.s6]:=by simp[kbx,hc]
  rw[z,u];have:=j.k;rw[show[[104,105,115,116,111,103,114,97,109],Q.s6].map wt1=[wt1 [104,105,115,116,111,103,114,97,109],wt1 Q.s6]from rfl,AjQ A]at this
  exact this
 .have z:kno Q=3:=E 3 om;refine kF om (Ae5 ?_);refine kF om (Ae5 ?_);refine kT hc (Zx ?_);obtain⟨t,V,rfl⟩:=P.v om;have vl:=AwB (wr t) Q.c2 Q.c3;have i2:=Agv Q.c2;have i3:=Agv Q.c3;refine Auw Z e [[116,111,116,97,108]] c (λf=>rfl) (by first|decide|simp) (by first|omega|(simp;omega)) λJ O i R T y d=>?_;refine Bp5 Z K y hq V (by first|omega|(simp;omega)) λp s a=>?_;refine Ey (v:=.bool false) (h:=Ab p) rfl ?_;refine A5w c.g s.nl ?_ λh' D=>?_
  .have X:=d.n;have U:=a.n;have W:=y.r;have M:=i h.nx;exact fI (.inl rfl) (fI (.inr ⟨a.l,Ag9⟩) (fI (.inl rfl) (fI (.inr ⟨d.l,Ag9⟩) (fI (.inl (i _)) (fI (.inl rfl) (fN))))))
  have A:=P.nm om om om;refine Ae5 ?_;have x6':=D.r.one (o:=6) (x:=.str Q.s6) rfl;refine Ey (Y _) (Ey x6' ?_);refine Auv Z e [[98,121],Q.s6] D (λf=>rfl) (by show 2<=7;decide) (by simp;omega) λh1 g1 j=>?_
  refine Lo (gr0 _) ⟨rfl,j.g,?_⟩;have u:kbx Q (wr t)=vlx (wr t) Q.c2 Q.c3++[Bij,.nm Q.s6]:=by simp[kbx,hc]
  rw[z,u];have:=j.k;rw[show[[98,121],Q.s6].map wt1=[wt1 [98,121],wt1 Q.s6]from rfl,AjQ A,Rq,Rq]at this
  rw[Co,ah];exact this
 .have z:kno Q=4:=E 4 om;refine kF om (Ae5 ?_);refine kF om (Ae5 ?_);refine kF om (Ae5 ?_);refine kT hc (Zx ?_);obtain⟨t,V,rfl⟩:=P.v om;have vl:=AwB (wr t) Q.c2 Q.c3;have i2:=Agv Q.c2;have i3:=Agv Q.c3;obtain⟨m4,m5⟩:=P.q5 hc;have s4:=Ato m4;have s5:=Ato m5;have i4:=Agv Q.c4;have i5:=Agv Q.c5;refine Auw Z e [[113,117,97,110,116,105,108,101]] c (λf=>rfl) (by first|decide|simp) (by first|omega|(simp;omega)) λJ O i R T y d=>?_;refine A84 Z G y rfl s4 (by first|omega|(simp;omega)) λp I s a=>?_;rw[Ajj s4]at s;refine Auw Z e [[47]] s (λf=>rfl) (by first|decide|simp) (by first|omega|(simp;omega)) λax2 bx2 zx2 lx2 S L C=>?_;refine A84 Z G L rfl s5 (by first|omega|(simp;omega)) λB Tx3 F q=>?_;rw[Ajj s5]at F;refine Auw Z e [[111,102]] F (λf=>rfl) (by first|decide|simp) (by first|omega|(simp;omega)) λax4 bx4 zx4 lx4 Tx4 Sx4 cx4=>?_;refine Bp5 Z K Sx4 hq V (by first|omega|(simp;omega)) λbx5 Sx5 cx5=>?_;refine A5w c.g Sx5.nl ?_ λh' D=>?_
  .have X:=d.n;have U:=a.n;have B13:=C.n;have BvZ:=q.n;have B14:=cx4.n;have CaQ:=cx5.n;have W:=I.r;have Bso:=Tx3.r;have B32:=Sx4.r;have M:=i h.nx;have Ccc:=zx2 p.nx;have Bya:=d.tt (n:=p.nx) (Vr (d.le) a.le);have Byd:=a.tt (n:=p.nx) (a.le);have Ccd:=zx4 B.nx;have Byc:=d.tt (n:=B.nx) (Vr (Vr (Vr (Vr (d.le) a.le) lx2) C.le) q.le);have Byf:=a.tt (n:=B.nx) (Vr (Vr (Vr (a.le) lx2) C.le) q.le);have Byg:=C.tt (n:=B.nx) (Vr (C.le) q.le);have Byh:=q.tt (n:=B.nx) (q.le);exact fI (.inl rfl) (fI (.inr ⟨cx5.l,Ag9⟩) (fI (.inl rfl) (fI (.inr ⟨cx4.l,Ag9⟩) (fI (.inl (zx4 _)) (fI (.inr ⟨q.l,Ag9⟩) (fI (.inl rfl) (fI (.inl rfl) (fI (.inr ⟨C.l,Ag9⟩) (fI (.inl (zx2 _)) (fI (.inr ⟨a.l,Ag9⟩) (fI (.inl rfl) (fI (.inl rfl) (fI (.inr ⟨d.l,Ag9⟩) (fI (.inl (i _)) (fI (.inl rfl) (fN))))))))))))))))
  refine Lo (gr0 _) ⟨rfl,D.g,?_⟩;have u:kbx Q (wr t)=[.nu Q.c4,A1X,.nu Q.c5,Bin]++vlx (wr t) Q.c2 Q.c3:=by simp[kbx,hc]
  rw[z,u];have:=D.k;rw[AsT m4,AsT m5]at this;simp only[Rq]at this;exact this
 .have z:kno Q=5:=E 5 om;refine kF om (Ae5 ?_);refine kF om (Ae5 ?_);refine kF om (Ae5 ?_);refine kF om (Ae5 ?_);refine kF om (Ae5 ?_);refine kF om (Ae5 ?_);refine kT hc (Zx ?_);have A:=P.nm om om om;refine Ey (Y _) (Ey x6 ?_);refine Auv Z e [[109,111,100,101],Q.s6] c (λf=>rfl) (by show 2<=7;decide) om λh1 g1 j=>?_
  refine Lo (gr0 _) ⟨rfl,j.g,?_⟩;have u:kbx Q xe=[.nm Q.s6]:=by simp[kbx,hc]
  rw[z,u];have:=j.k;rw[show[[109,111,100,101],Q.s6].map wt1=[wt1 [109,111,100,101],wt1 Q.s6]from rfl,AjQ A]at this
  exact this
 .have z:kno Q=6:=E 6 om;refine kF om (Ae5 ?_);refine kF om (Ae5 ?_);refine kF om (Ae5 ?_);refine kF om (Ae5 ?_);refine kT hc (Zx ?_);have A:=P.nm om om om;have s7:=P.b7;have i7:=Agv Q.c7;refine Auw Z e [[97,98,111,118,101]] c (λf=>rfl) (by first|decide|simp) (by first|omega|(simp;omega)) λJ O i R T y d=>?_;refine A84 Z G y rfl s7 (by first|omega|(simp;omega)) λp I s a=>?_;rw[Ajj s7]at s;refine ldR s (x:=.str Q.s6) rfl λS=>?_;have L:=S.nl;refine Auw Z e [Q.s6] L (λf=>rfl) (by first|decide|simp) (by first|omega|(simp;omega)) λax3 B zx3 lx3 Tx3 F q=>?_;refine A5w c.g F ?_ λh' D=>?_
  .have X:=d.n;have U:=a.n;have BvZ:=q.n;have W:=I.r;have Bso:=S.r;have M:=i h.nx;have B4l:=zx3 (Ab (Ab p)).nx;have Byb:=d.tt (n:=(Ab (Ab p)).nx) (Vr (d.le) a.le);have Bye:=a.tt (n:=(Ab (Ab p)).nx) (a.le);exact fI (.inr ⟨q.l,Ag9⟩) (fI (.inl (zx3 _)) (fI (.inl rfl) (fI (.inl rfl) (fI (.inr ⟨a.l,Ag9⟩) (fI (.inl rfl) (fI (.inl rfl) (fI (.inr ⟨d.l,Ag9⟩) (fI (.inl (i _)) (fI (.inl rfl) (fN))))))))))
  refine Lo (gr0 _) ⟨rfl,D.g,?_⟩;have u:kbx Q xe=ilx Q.c7++[.nm Q.s6]:=by simp[kbx,hc]
  rw[z,u];have:=D.k;rw[show[Q.s6].map wt1=[wt1 Q.s6]from rfl,AjQ A,Rq,Rq]at this
  rw[Co,ah];exact this
 .have z:kno Q=7:=E 7 om;refine kF om (Ae5 ?_);refine kF om (Ae5 ?_);refine kF om (Ae5 ?_);refine kF om (Ae5 ?_);refine kF om (Ae5 ?_);refine kF om (Ae5 ?_);refine kF om (Ae5 ?_);refine kT hc (Zx ?_);have A:=P.nm om om om;refine Ey (Y _) (Ey x6 ?_);refine Auv Z e [[112,101,97,107],Q.s6] c (λf=>rfl) (by show 2<=7;decide) om λh1 g1 j=>?_
  refine Lo (gr0 _) ⟨rfl,j.g,?_⟩;have u:kbx Q xe=[.nm Q.s6]:=by simp[kbx,hc]
  rw[z,u];have:=j.k;rw[show[[112,101,97,107],Q.s6].map wt1=[wt1 [112,101,97,107],wt1 Q.s6]from rfl,AjQ A]at this
  exact this
 .have z:kno Q=8:=E 8 om;refine kF om (Ae5 ?_);refine kF om (Ae5 ?_);refine kF om (Ae5 ?_);refine kF om (Ae5 ?_);refine kF om (Ae5 ?_);refine kF om (Ae5 ?_);refine kF om (Ae5 ?_);refine kF om (Ae5 ?_);refine kT hc (Zx ?_);have A:=P.nm om om om;refine Ey (Y _) (Ey x6 ?_);refine Auv Z e [[114,117,110,110,105,110,103],Q.s6] c (λf=>rfl) (by show 2<=7;decide) om λh1 g1 j=>?_
  refine Lo (gr0 _) ⟨rfl,j.g,?_⟩;have u:kbx Q xe=[.nm Q.s6]:=by simp[kbx,hc]
  rw[z,u];have:=j.k;rw[show[[114,117,110,110,105,110,103],Q.s6].map wt1=[wt1 [114,117,110,110,105,110,103],wt1 Q.s6]from rfl,AjQ A]at this
  exact this
 .have z:kno Q=9:=E 9 om;refine kF om (Ae5 ?_);refine kF om (Ae5 ?_);refine kF om (Ae5 ?_);refine kF om (Ae5 ?_);refine kF om (Ae5 ?_);refine kF om (Ae5 ?_);refine kF om (Ae5 ?_);refine kF om (Ae5 ?_);refine kF om (Ae5 ?_);refine kT hc (Zx ?_);have A:=P.nm om om om;obtain⟨o1,o2,o3,o4⟩:=P.o10 hc;refine Ey (Y _) (Ey x6 ?_);refine Auv Z e [[98,97,116,99,104],Q.s6] c (λf=>rfl) (by show 2<=7;decide) om λh1 g1 j=>?_
  have x8':=j.r.one (o:=8) (x:=vo) rfl;refine Ey (f8 _) (Ey x8' ?_);have Anh:=(hq.wg j.g).ord;refine Ey Anh.Gs ?_;rw[show[[98,97,116,99,104],Q.s6].map wt1=[wt1 [98,97,116,99,104],wt1 Q.s6]from rfl,AjQ A]at j
  refine(Biu Z N (ts:=ts++[wt1 [98,97,116,99,104],Ae7 (.nm Q.s6)]) e G hq r0 o1 o2 ⟨o3,o4⟩ (by simp;omega) Q.ord.length 0 N h1 _ om om (by simpa[rsx]using j)).mono λr h2 _ ⟨q1,q2,q3⟩=>⟨q1,q2,?_⟩;have u:kbx Q xe=blx Q.s6 Q.ord (Ala.getD Q.c9.toNat []):=by simp[kbx,hc]
  rw[z,u,blx];rw[Rq]at q3;exact q3
end Go.Proofs
