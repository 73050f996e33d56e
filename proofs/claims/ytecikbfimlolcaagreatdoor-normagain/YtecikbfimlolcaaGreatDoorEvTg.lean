/- Queries that numbers select: Query, whole. -/
import Derived.Test.YtecikbfimlolcaaGreatDoorEvTd
set_option linter.all false
set_option maxRecDepth 100000
noncomputable section
namespace Go.Proofs
open Go Go.Ev Go.Nm Go.Ev.Sx
attribute [local irreducible] Aa Al Af Ad
variable {o:List Sc}{j:H}{U p:AV}{C:List Int}{I:List Cl}{J:List Nd}{R:Dom}
variable (Z:Ac)(N:Nat)
def TQ.trans{tk a}{b}{h h1 h2}(e:TQ tk b a h h1)(c:TQ tk b a h1 h2)(hn:a≠tk):TQ tk b a h h2:=by have⟨o,d,g⟩:=c;exact(e.put o d hn).tg g
def Fm.To{s lo c len:Nat}{et e1}{h}{v}{cs l}(i:Fm s lo et h v len cs)(hc:c<lo)(a:Vu l.length (h.m.get c)=true):Fm s lo et (h.put c (.cells l e1 .exact)) v len cs:=by
 rcases i with e|⟨rfl,rfl,b,off,D7,rfl,h2,e⟩|⟨b,k,st,rfl,j,d,f,q5,q,r,t,p⟩;. exact .inl e
 .have⟨l0,w,a,o⟩:=Pb a;rcases Sl.AnO (.inr ⟨b,_,0,_,_,rfl,Yw _,h2,by omega,by simp⟩:Sl s h (.sl b off 0 0 s true) 0 []) a o λh0=>absurd h0 om with⟨_,_,g⟩|⟨u,x,cap,ex,n,g,j,d,f,q5⟩;. grind
  .cases g;exact .inr (.inl ⟨rfl,rfl,b,_,_,rfl,d,by omega⟩)
 .exact .inr (.inr ⟨b,k,st,rfl,by rw[Aq _ _ _ om];omega,by rw[Aq _ _ _ om];grind,f,q5,q,r,t,p⟩)
def Oo.To{lo c}{e1}{h}{v}{m}{l}(d:Oo lo h v m)(hc:c<lo)(a:Vu l.length (h.m.get c)=true):Oo lo (h.put c (.cells l e1 .exact)) v m:=by
 rcases d with d|⟨b,off,cs,rfl,g,k,f,j⟩;. exact .inl (Fm.To d hc a)
 .have⟨_,_,a,p⟩:=Pb a;rcases Sl.AnO (.inr ⟨b,_,_,_,_,rfl,Yw _,g,k,f⟩:Sl 3 h (.sl b _ _ _ 3 true) ..) a p λh0 b off len cap z ex d=>by grind with⟨_,_,e⟩|⟨q,r,cap,ex,D7,e,q5,o,i,n⟩;. grind
  .cases e;exact .inr ⟨b,_,_,rfl,o,i,n,j⟩
def Oo.tq{lo tk a}{b v}{h h1}{m}(j:Oo lo h v m)(c:H8 h tk b)(hq:Vu 20 (h.m.get a)=true)(hn:a≠tk)(h2:tk<lo)(i:a<lo)(e:TQ tk b a h h1):Oo lo h1 v m:=by have⟨o,g,e⟩:=e;obtain⟨l1,e1,rfl,k⟩:=Pb g;refine(j.To i (k ▸ hq)).tg ?_ h2 e;have⟨m,f,_⟩:=c.cell;exact⟨c.lt,m,f,by rw[Aq _ _ _ λd=>hn d.symm];omega⟩
def Fm.tq{s lo tk a len}{et}{b v}{h h1}{cs}(j:Fm s lo et h v len cs)(c:H8 h tk b)(hq:Vu 20 (h.m.get a)=true)(hn:a≠tk)(h2:tk<lo)(i:a<lo)(e:TQ tk b a h h1):Fm s lo et h1 v len cs:=by have⟨o,g,e⟩:=e;obtain⟨l1,e1,rfl,k⟩:=Pb g;refine Fm.tg (Fm.To j i (k ▸ hq)) ?_ h2 e;have⟨m,f,_⟩:=c.cell;exact⟨c.lt,m,f,by rw[Aq _ _ _ λd=>hn d.symm];omega⟩
structure QIn(tk:Nat)(vl:AV)(L:List Int)(bq:Nat)(h:H):Prop where
 hi:H9 tk vl L h
 av:Av bq vl
 hn:bq≠tk
 lt:bq<h.nx
 hq:Vu 20 (h.m.get bq)=true
def TQ.isc{tk a}{b}{h h1}(e:TQ tk b a h h1)(hn:a≠tk)(c:a<h.nx):Vu 20 (h1.m.get a)=true:=by have⟨o,_,e⟩:=e;rw[e.Cf _ c hn,A2];omega
def QIn.tq{tk}{a}{L}{b}{h h1}(K:QIn tk a L b h)(e:TQ tk a b h h1):QIn tk a L b h1:=
 ⟨K.hi.tq K.av K.hq K.hn e,K.av,K.hn,Xq K.lt e.lo,e.isc K.hn K.lt⟩
def QIn.Adl{tk}{b}{L}{c}{h}(K:QIn tk b L c h)(d:R38 Z):∀k a,TQ tk b c h a->k<=9223372036854775807->D6 tk b a (Below k) (Z.call 38 [.ptr tk 0,iI k] a):=λk a e=>d _ _ L k _ (K.tq e).hi.at' (K.tq e).hi.ints K.hi.av K.hi.len
def PQV(q:Qr)(c4 c5:Int):Prop:=(q.c0=5->1<=c4/\c4<c5/\c5<=100)/\(q.c0≠5->c4=q.c4/\c5=q.c5)
def KQ(d:Nat)(q:Qr)(c b a:AV)(h1:H):Prop:=∃c4 c5:Int,PQV q c4 c5/\h1.m.get d=.cells (qc { q with c4:=c4,c5:=c5 } c b a) 26 .exact
def A9w(l:R38 Z)(tk:Nat)(b:AV)(L:List Int)(a:Nat)(h:H)(q:Qr)(e d g:AV)(f0:L2)(K:QIn tk b L a h)(f:h.m.get a=.cells (qc q e d g) 26 .exact):
 Ah H0 (λ_ h1=>TQ tk b a h h1/\KQ a q e d g h1) (AgA Z N (.ptr tk 0) (.ptr a 0) f0 h):=by
 have z:=K.hi.at'.lt;have A:=K.lt;have hn:=K.hn;have k:=K.Adl Z l;have p:TQ tk b a h h:=TQ.refl K.hi.at' K.hq hn;clear K;obtain⟨c0,code,c2,c3,c4,c5,s6,c7,ord,c9,Wz,Uw,W0,F,B,w,C,E9,Oi,Mg⟩:=q;try simp only at f
 rw[AwR];(repeat' (first|refine wd ?_|((with_reducible apply M5);exact k _ _ tqA om;intro u v y r o s;(try simp only[C9]at r o);obtain⟨E,rfl,j0,D⟩:=s)|(refine zqq ?_ ?_<;>intro hc<;>(try (exfalso;omega)))|fail))
 .have t:B5 ((h.put a (.cells [] 0 .exact)).m.get a)=none:=by rw[A2];rfl
  refine Acx tk a h.nx ?_ λG n=>?_
  .simp only[Tl,Pl,Ju,G4,Jj];repeat' (refine And.intro ?_ ?_)
   all_goals first|(left;simp;done)|(left;rfl)|(refine .inr ⟨λx i=>?_,?_⟩;(focus first|exact .inl (TG.wrote (by assumption) x i)|(refine .inr (.inl ?_);have j:=(D4 _ _ _ i).1;simp at j;exact j));(repeat' (refine And.intro ?_ ?_));all_goals first|(exact Ar ..)|(refine Ax _ _ _ _ _ _ _ _ _ _ _ _ ?_;decide)|exact Ci ..|exact Dk (tk:=tk) (TG.wrote (by assumption)) Ce (.inl rfl)|exact Dk (tk:=tk) (TG.wrote (by assumption)) Ce (.inr ⟨_,_,_,rfl,hn,by simp[B5]⟩))
  .repeat' (first|refine wk ?_|(refine zqq ?_ ?_<;>intro hc<;>(try (exfalso;omega)))|fail)
   obtain rfl:c0=5:=by assumption
   refine zr (Ed _) ⟨TQ.reL tqA tqA n,_,_,⟨λ_=>?_,λc=>absurd rfl c⟩,A2 ..⟩;omega
 .exact zr (Ed _) ⟨p,c4,c5,⟨λc=>absurd c (by assumption),λ_=>⟨rfl,rfl⟩⟩,f⟩
def Fm.rl{s lo len}{et}{h}{v}{cs}{lg}(e:Fm s lo et h v len cs):Fm s lo et (Be lg h) v len cs:=by
 rcases e with a|⟨h1,h2,b,off,cs,f,d,c⟩|a;. exact .inl a
 .exact .inr (.inl ⟨h1,h2,b,_,_,f,((Bi.refl h).Be _).cont b _ d,c⟩)
 .exact .inr (.inr a)
set_option maxHeartbeats 2000000 in
def AlP(Fg:R38 Z)(tk:Nat)(j:AV)(L:List Int)(d:Nat)(h:H)(K:QIn tk j L d h)(b7:Nat)(c:Cl)(h7:h.m.get b7=.cells (Hx c) 96 .exact)(l7:b7<h.nx)(I:b7≠tk)(m7:b7≠d)(J W:AV)(q0:Qr)(P:-3<=c.a)(B:c.a<=c.b)(Q:c.b<=20)(many:Int)(hm:many<=4):
 ∀(k:Nat) (i:Int) (n:Nat) (hd:H) (f0:L2) (ord:List (Int × Int)) (l:AV),i+(k:Int)=many->0<=i->k<n->TQ tk j d h hd->hd.m.get d=.cells (qc { q0 with ord:=ord } J l W) 26 .exact->(ord.length:Int)=i->(∀r∈ord,c.a<=r.1/\r.1<=r.2/\r.2<=c.b)->Fm 2 h.nx 33 hd l ord.length (ord.flatMap Zd) ->
 Ah H0 (λ_ h1=>TQ tk j d h h1/\∃(ord:List (Int × Int)) (c9:Int) (l:AV),h1.m.get d=.cells (qc { q0 with ord:=ord,c9:=c9 } J l W) 26 .exact/\(ord.length:Int)=many/\(∀r∈ord,c.a<=r.1/\r.1<=r.2/\r.2<=c.b)/\0<=c9/\c9<=2/\Fm 2 h.nx 33 h1 l ord.length (ord.flatMap Zd)) (Aln Z N n (.ptr tk 0) (.ptr d 0) (.ptr b7 0) (iI many) (iI i) f0 hd)
 |0,i,n,hd,f0,ord,l,Qd,H4,S3,e,s,hl,hR,A=>by
  obtain⟨z,rfl⟩:∃z,n=z+1:=⟨n-1,by omega⟩;obtain⟨c0,T,c2,c3,c4,c5,s6,c7,O,c9,Wz,Uw,W0,X,Sk,Uo,U3,D,Oi,Mg⟩:=q0;replace s:hd.m.get d=.cells [iI c0,J,iI c2,iI c3,iI c4,iI c5,.str s6,iI c7,l,iI c9,.bool Wz,.str Uw,iI W0,.str X,.str Sk,.str Uo,iI U3,W,.str Oi,iI Mg] 26 .exact:=s;have k1:decide (i<many)=false:=df;have hT:=K.Adl Z Fg;have u:=K.hi.at'.lt;have p:=K.lt;have hn:=K.hn;have Kf:=e.lo;rw[Aph];have k3:(3:Int)<=9223372036854775807:=by omega
  (repeat' (first|refine wk ?_|((with_reducible apply M5);exact hT _ _ tqA k3;intro vv f S E q F;(try simp only[C9]at E q);obtain⟨jj,rfl,j0,j1⟩:=F)));have hq2:=(q d om hn).trans s;have ho2:=Fm.tq A (e.at u) (e.isc hn p) hn u p ((TQ.refl (e.at u) (e.isc hn p) hn).tg S);repeat' (first|refine wk ?_|(refine zqq ?_ ?_<;>intro hc<;>(try (exfalso;omega)))|fail)
  refine zr (Ed _) ⟨tqA,ord,_,l,A2 ..,by omega,hR,by omega,by omega,?_⟩;exact Fm.To ho2 p (by rw[hq2];rfl)
 |k+1,i,n,hd,f0,ord,l,Qd,H4,S3,e,s,hl,hR,A=>by
  obtain⟨z,rfl⟩:∃z,n=z+1:=⟨n-1,by omega⟩;obtain⟨c0,T,c2,c3,c4,c5,s6,c7,O,c9,Wz,Uw,W0,X,Sk,Uo,U3,D,Oi,Mg⟩:=q0;replace s:hd.m.get d=.cells [iI c0,J,iI c2,iI c3,iI c4,iI c5,.str s6,iI c7,l,iI c9,.bool Wz,.str Uw,iI W0,.str X,.str Sk,.str Uo,iI U3,W,.str Oi,iI Mg] 26 .exact:=s;have ih:=AlP Fg tk j L d h K b7 c h7 l7 I m7 J W ⟨c0,T,c2,c3,c4,c5,s6,c7,O,c9,Wz,Uw,W0,X,Sk,Uo,U3,D,Oi,Mg⟩ P B Q many hm k (i+1) z;have k1:decide (i<many)=true:=dt;have hT:=K.Adl Z Fg;have u:=K.hi.at'.lt;have p:=K.lt;have hn:=K.hn;have Kf:=e.lo;have g7:hd.m.get b7=.cells (Hx c) 96 .exact:=(e.Cf b7 l7 I m7).trans h7;have t0:TQ tk j d hd hd:=TQ.refl (e.at u) (e.isc hn p) hn;have C:=e.at u;have V:=e.isc hn p;obtain⟨cn,ca,cb,cw,cws⟩:=c;try simp only at h7 g7 P B Q hR
  rw[Aph];replace ih:=(show F5 _ from ih)
  (repeat' (first|refine wd ?_|((with_reducible apply M5);exact hT _ _ tqA om;intro vv f S E q F;(try simp only[C9]at E q);obtain⟨jj,rfl,j0,j1⟩:=F)));refine Acx tk d hd.nx ?_ λLz Wp=>?_
  .simp only[Tl,Pl,Ju,G4,Jj];repeat' (refine And.intro ?_ ?_)
   all_goals first|(left;simp;done)|(left;rfl)|(refine .inr ⟨λx t=>?_,?_⟩;(focus first|exact .inl (TG.wrote (by assumption) x t)|(refine .inr (.inl ?_);have g:=(D4 _ _ _ t).1;simp at g;exact g));(repeat' (refine And.intro ?_ ?_));all_goals first|(exact Ar ..)|(refine Ax _ _ _ _ _ _ _ _ _ _ _ _ ?_;decide)|exact Ci ..|exact Dk (tk:=tk) (TG.wrote (by assumption)) Ce (.inl rfl)|exact Dk (tk:=tk) (TG.wrote (by assumption)) Ce (.inr ⟨_,_,_,rfl,I,Jh B5 g7⟩))
  .generalize U:Be Lz _=g;have R:TQ tk j d hd g:=by rw[<- U];exact TQ.reL t0 tqA (by assumption)
   have gB:g.m.get d=hd.m.get d:=by rw[<- U];exact q d om hn
   have gC:g.m.get b7=hd.m.get b7:=by rw[<- U];exact q b7 om I
   have xB:g.nx=f.nx:=by rw[<- U];rfl
   rw[s]at gB;rw[g7]at gC;have tA:TQ tk j d h g:=e.trans R hn;have oB:=Fm.tq A C V hn u p R;have w:=R.at (h:=hd) om;have v:=R.isc hn om;have t1:TQ tk j d g g:=TQ.refl w v hn;have A3W:=tA.lo;clear Wp q S g7 s A R t0 C V U;obtain⟨o1,o2⟩:=B2 oB.sl;generalize hA:ca+_=lo1;have y:ca<=lo1/\lo1<=cb:=by omega
   clear hA j0 j1;obtain⟨y,A3W⟩:=y;(repeat' (first|refine wd ?_|((with_reducible apply M5);exact hT _ _ tqA om;intro vv f S E q F;(try simp only[C9]at E q);obtain⟨jj,rfl,j0,j1⟩:=F)));generalize hA:lo1+_=hi1;have M:lo1<=hi1/\hi1<=cb:=by omega
   clear hA;have tF:TQ tk j d g f:=tqA;have gF:f.m.get d=g.m.get d:=q d om hn;rw[gB]at gF;have oF:=Fm.tq oB w v hn u p tF;have tN:TQ tk j d h ((Ab f).new (.cells [iI lo1,iI hi1] 33 .exact)):=(tA.trans tF hn).nl.new _;have oN:Fm 2 h.nx 33 ((Ab f).new (.cells [iI lo1,iI hi1] 33 .exact)) l ord.length (ord.flatMap Zd):=Fm.gr oF ((Ai.refl f).nl.new _);have hs:Sl 2 ((Ab f).new (.cells [iI lo1,iI hi1] 33 .exact)) (.sl f.nx 0 1 1 2 true) 1 [iI lo1,iI hi1]:=Sl.lit (h:=Ab f) (Bf _) rfl rfl;have hl5:ord.length<=4:=by omega
   obtain⟨v',h',p1,p2,p3,p4,p5⟩:=Fm.AbQ (bytes:=16) (lo:=h.nx) oN hs.src (by rfl) om (by rfl) tN.lo;have tP:TQ tk j d h h':=by obtain⟨o,A,m,hm,s⟩:=tN;exact⟨o,A,m,hm,p3 _ (Yw _) s⟩
   have gP:h'.m.get d=f.m.get d:=by rw[p5 d p];exact Cq (h:=Ab f) _ d (by show d≠f.nx;omega)
   rw[gF]at gP;have wP:∀x∈h'.lg,h.nx<=x:=by
    have g0:Ai ⟨f.m,h.nx,[]⟩ ((Ab f).new (.cells [iI lo1,iI hi1] 33 .exact)):=Ai.new (h:=⟨f.m,h.nx,[]⟩) (h1:=Ab f) ⟨by show h.nx<=f.nx;omega,λb hb=>rfl,λx t=>by cases t⟩ _
    intro x t;rcases(p3 ⟨f.m,h.nx,[]⟩ (Yw _) g0).lg x t with h3|h3
    .cases h3
    .exact h3
   have lP:f.nx+1<=h'.nx:=p2.lo;obtain⟨r1,r2⟩:=B2 p4.sl;refine Ey p1 ?_;clear p1 p2 p3 p5 oN oF oB hs w v;have Y:=TG.wrote (show TG tk j (Ab (Ab g)) f from S)
   refine wd ?_;refine Acx tk d h.nx ?_ λLz Wp=>?_
   .simp only[Tl,Pl,Ju,G4,Jj];repeat' (refine And.intro ?_ ?_)
    all_goals first|(left;simp;done)|(left;rfl)|(refine .inr ⟨λx t=>?_,?_⟩;(focus first|exact .inl (Y x t)|(refine .inr (.inr ?_);exact wP _ (D4 _ _ _ t).1)|(refine .inr (.inl ?_);have g:=(D4 _ _ _ t).1;simp at g;exact g));(repeat' (refine And.intro ?_ ?_));all_goals first|(exact Ar ..)|(refine Ax _ _ _ _ _ _ _ _ _ _ _ _ ?_;decide)|exact Ci ..|exact Dk (tk:=tk) Y Ce (.inl rfl)|exact Dk (tk:=tk) Y Ce (.inr ⟨_,_,_,rfl,I,Jh B5 gC⟩)|exact Dk (tk:=tk) Y Ce (.inr ⟨_,_,_,rfl,hn,Jh B5 gB⟩))
   .refine wk ?_;refine(show ∀(hd:H) (f0:L2) (ord:List (Int × Int)) (l:AV),_ from ih) _ _ (ord++[(lo1,hi1)]) v' om om om ?_ (A2 ..) ?_ ?_ ?_
    .exact TQ.reL tA tqA (by assumption)
    .simp only[X8,R6,Gx];omega
    .intro r G;rcases U0.1 G with G|G;. exact hR r G
     .rw[Qv.1 G];exact⟨y,M.1,M.2⟩
    .simp only[X8,Qm];exact Fm.rl (Fm.To (h:=Ab h') (show Fm 2 h.nx 33 (Ab h') v' _ _ from Fm.rl (lg:=[]) p4) p ((Jh (Vu 20) gP).trans rfl))
def AoM(D:Dom)(lo:Nat)(h:H)(a:AV)(l:List Nd):Prop:=(l=[]/\a=.Bv)\/∃t,E7 D false t/\wt t<=Sd 3/\l=t.nodes/\Oo lo h a t.nodes
structure QZ(q:Qr):Prop where
 code:q.code=[]
 c2:q.c2=0
 c3:q.c3=0
 c4:q.c4=0
 c5:q.c5=0
 c7:q.c7=0
 ord:q.ord=[]
 c9:q.c9=0
 Wz:q.Wz=false
structure KV(A1:List Cl)(q0 q:Qr):Prop where
 same:q={ q0 with code:=q.code,c2:=q.c2,c3:=q.c3,c4:=q.c4,c5:=q.c5,s6:=q.s6,c7:=q.c7,ord:=q.ord,c9:=q.c9,Wz:=q.Wz }
 A47:q.c0≠2->q.c0≠4->q.c0≠5->q.code=[]/\q.c2=0/\q.c3=0
 AyG:q.c0=2\/q.c0=4\/q.c0=5->q.code≠[]/\-3<=q.c2/\q.c2<=q.c3/\q.c3<=20
 pq1:q.c0≠5->q.c4=0/\q.c5=0
 pq2:q.c0=5->1<=q.c4/\q.c4<q.c5/\q.c5<=100
 Bcp:q.c0=1\/q.c0=2\/q.c0=5->q.s6=[]
 Bcq:q.c0≠1->q.c0≠2->q.c0≠5->∃c∈A1,c.name=q.s6
 bd1:q.c0≠7->q.c7=0
 bd2:-3<=q.c7/\q.c7<=20
 Bdd:q.c0≠10->q.ord=[]/\q.c9=0
 Bde:q.c0=10->q.ord≠[]/\q.ord.length<=4/\0<=q.c9/\q.c9<=2/\∃c∈A1,c.name=q.s6/\∀r∈q.ord,c.a<=r.1/\r.1<=r.2/\r.2<=c.b
 con:q.c0≠3->q.Wz=false
def Afg(d lo:Nat)(A1:List Cl)(q0:Qr)(c:AV)(h1:H):Prop:=∃(q:Qr) (b a:AV),h1.m.get d=.cells (qc q b a c) 26 .exact/\KV A1 q0 q/\AoM (AaR A1) lo h1 b q.code/\q.ord.length<=4/\Fm 2 lo 33 h1 a q.ord.length (q.ord.flatMap Zd)
def Afg.mono{b lo c}{A1}{q0}{d}{h1}(f:Afg b lo A1 q0 d h1)(e:c<=lo):Afg b c A1 q0 d h1:=by
 have⟨q,_,_,a1,a2,a,g,j⟩:=f;refine⟨q,_,_,a1,a2,?_,g,Yp j e⟩;rcases a with a|⟨t,b1,b2,h,i⟩;. exact .inl a
 .exact .inr ⟨t,b1,b2,h,i.Y5 e⟩
set_option maxHeartbeats 2000000 in
def A9v(Fg:R38 Z)(hN:100<N)(tk:Nat)(i:AV)(L:List Int)(g:Nat)(h:H)(K:QIn tk i L g h)(cv:AV)(b7:Nat)(c:Cl)(h7:h.m.get b7=.cells (Hx c) 96 .exact)(l7:b7<h.nx)(n7:b7≠tk)(m7:b7≠g)(o:AV)(q:Qr)(A:h.m.get g=.cells (qc q .Bv .Bv o) 26 .exact)(j:QZ q)(A1:List Cl)(Hq:c∈A1)(l:c.name=q.s6)(hv:AdD c.a c.b c.ws)(hc1:q.c0≠1)
 (hO:D6 tk i h (Se (AaR A1) false (Sd 3) h.nx) (Z.call 80 [.ptr tk 0,cv,iI 3] h)) (T:Bool) (htb:T=true ↔ q.c0=2\/q.c0=4\/q.c0=5) (f0:L2):
 Ah H0 (λ_ h1=>TQ tk i g h h1/\Afg g h.nx A1 q o h1) (Aee Z N (.ptr tk 0) (.ptr g 0) cv (.ptr b7 0) (iI q.c0) (.bool T) f0 h):=by
 have y:=K.hi.at'.lt;have p:=K.lt;have hn:=K.hn;have hT:=K.Adl Z Fg;have U:=K.hi.at';have hic:=K.hq;have t0:TQ tk i g h h:=TQ.refl U hic hn;obtain⟨c0,code,c2,c3,c4,c5,s6,c7,ord,c9,Wz,Uw,W0,D,J,I,O,E9,Oi,Mg⟩:=q;obtain⟨z1,z2,z3,z4,z5,z6,z7,z8,z9⟩:=j;simp only at z1 z2 z3 z4 z5 z6 z7 z8 z9 l hc1 htb;subst z1;subst z2;subst z3;subst z4;subst z5;subst z6;subst z7;subst z8;subst z9;replace A:h.m.get g=.cells [iI c0,.Bv,iI 0,iI 0,iI 0,iI 0,.str s6,iI 0,.Bv,iI 0,.bool false,.str Uw,iI W0,.str D,.str J,.str I,iI O,o,.str Oi,iI Mg] 26 .exact:=A;rw[AwQ];cases T
 .have nb:c0≠2/\c0≠4/\c0≠5:=by refine⟨λd=>?_,λd=>?_,λd=>?_⟩<;>(have:=htb.2 om;cases this)
  obtain⟨n2,n4,n5⟩:=nb;have w:-3<=c.a/\c.a<=c.b/\c.b<=20:=by
   rcases hv with⟨_,h1,h2,h3⟩|⟨u,h1,h2,_,h3,h4⟩
   .exact⟨h1,h2,h3⟩
   .omega
  have Y:=λmany f=>AlP Z N Fg tk i L g h K b7 c h7 l7 n7 m7 .Bv o ⟨c0,[],0,0,0,0,s6,0,[],0,false,Uw,W0,D,J,I,O,E9,Oi,Mg⟩ w.1 w.2.1 w.2.2 many f;have Zn:∃c∈A1,c.name=s6:=⟨c,Hq,l⟩;replace Y:=(show F5 _ from Y)
  replace K:=(show F5 _ from K)
  clear htb hv;(repeat' (first|refine wk ?_|((with_reducible apply M5);exact hT _ _ tqA om;intro vv d ee V R X;(try simp only[C9]at V R);obtain⟨jj,rfl,j0,j1⟩:=X)|(refine zqq ?_ ?_<;>intro hc<;>(try (exfalso;omega)))|fail))
  .obtain rfl:c0=3:=by assumption
   exact zr (Ed _) ⟨tqA,⟨_,[],_,_,_,_,_,_,[],_,_,_,_,_,_,_,_,E9,_,_⟩,.Bv,.Bv,A2 ..,⟨rfl,λ_ _ _=>⟨rfl,rfl,rfl⟩,λd=>by simp at d,λ_=>⟨rfl,rfl⟩,λd=>by simp at d,λd=>by simp at d,λ_ _ _=>Zn,λ_=>rfl,by simp,λ_=>⟨rfl,rfl⟩,λd=>by simp at d,λd=>by simp at d⟩,.inl ⟨rfl,rfl⟩,by simp,Fm.nil ..⟩
  .obtain rfl:c0=7:=by assumption
   exact zr (Ed _) ⟨tqA,⟨_,[],_,_,_,_,_,_,[],_,_,_,_,_,_,_,_,E9,_,_⟩,.Bv,.Bv,A2 ..,⟨rfl,λ_ _ _=>⟨rfl,rfl,rfl⟩,λd=>by simp at d,λ_=>⟨rfl,rfl⟩,λd=>by simp at d,λd=>by simp at d,λ_ _ _=>Zn,λd=>by simp at d,by simp;omega,λ_=>⟨rfl,rfl⟩,λd=>by simp at d,λ_=>rfl⟩,.inl ⟨rfl,rfl⟩,by simp,Fm.nil ..⟩
  .obtain rfl:c0=10:=by assumption
   have B:TQ tk i g h d:=tqA;have gA:=(R g om hn).trans A;refine Ah.mono ((show ∀(many:Int) (f:many<=4),_ from Y) (1+jj) om (1+jj).toNat 0 N d _ [] .Bv om om om B gA rfl (λr hr=>by cases hr) (Fm.nil ..)) λv h1 _ W=>?_
   obtain⟨p1,ord,c9,vo,p2,p3,p4,p5,p7,p6⟩:=W;refine⟨p1,_,.Bv,vo,p2,⟨rfl,λ_ _ _=>⟨rfl,rfl,rfl⟩,λd=>by simp at d,λ_=>⟨rfl,rfl⟩,λd=>by simp at d,λd=>by simp at d,λ_ _ _=>Zn,λ_=>rfl,by simp,λd=>by simp at d,λ_=>⟨λd=>?_,?_,p5,p7,c,Hq,l,p4⟩,λ_=>rfl⟩,.inl ⟨rfl,rfl⟩,?_,p6⟩
   .replace d:ord=[]:=d;rw[d]at p3;simp at p3;omega
   .show ord.length<=4;omega
   .show ord.length<=4;omega
  .have x3:c0≠3:=by assumption
   have x7:c0≠7:=by assumption
   have x10:c0≠10:=by assumption
   exact zr (Ed _) ⟨tqA,⟨c0,[],_,_,_,_,_,_,[],_,_,_,_,_,_,_,_,E9,_,_⟩,.Bv,.Bv,A,⟨rfl,λ_ _ _=>⟨rfl,rfl,rfl⟩,λd=>by(replace d:c0=2\/c0=4\/c0=5:=d);omega,λ_=>⟨rfl,rfl⟩,λd=>absurd d n5,λd=>by(replace d:c0=1\/c0=2\/c0=5:=d);omega,λ_ _ _=>Zn,λ_=>rfl,by simp,λ_=>⟨rfl,rfl⟩,λd=>absurd d x10,λ_=>rfl⟩,.inl ⟨rfl,rfl⟩,by simp,Fm.nil ..⟩
 .have nb:c0=2\/c0=4\/c0=5:=htb.1 rfl;clear htb hv;refine Zx ?_;refine M5 hO λz h1 e1 l1 M W=>?_;obtain⟨t,y1,s1,n1⟩:=W;obtain⟨o1,o2⟩:=n1.one;have g1:=(M g p hn).trans A;have t1:TQ tk i g h h1:=t0.tg e1;have F:=e1.at y;have C:=t1.isc hn p;have T:TQ tk i g h1 h1:=TQ.refl F C hn;have hJ:=λk q f0=>A9w Z N Fg tk i L g k q z .Bv o f0;have hK:∀k,TQ tk i g h k->QIn tk i L g k:=λk e=>K.tq e;replace hJ:=(show F5 _ from hJ)
  replace hK:=(show F5 _ from hK)
  clear K hO;(repeat' (first|refine wd ?_|((with_reducible apply M5);exact hT _ _ tqA om;intro vv d ee V R X;(try simp only[C9]at V R);obtain⟨jj,rfl,j0,j1⟩:=X)));refine Acx tk g h1.nx ?_ λLz Wp=>?_
  .simp only[Tl,Pl,Ju,G4,Jj];repeat' (refine And.intro ?_ ?_)
   all_goals first|(left;simp;done)|(left;rfl)|(refine .inr ⟨λx k=>?_,?_⟩;(focus first|exact .inl (TG.wrote (by assumption) x k)|(refine .inr (.inl ?_);have j:=(D4 _ _ _ k).1;simp at j;exact j));(repeat' (refine And.intro ?_ ?_));all_goals first|(exact Ar ..)|(refine Ax _ _ _ _ _ _ _ _ _ _ _ _ ?_;decide)|exact Ci ..|exact Dk (tk:=tk) (TG.wrote (by assumption)) Ce (.inl rfl)|exact Dk (tk:=tk) (TG.wrote (by assumption)) Ce (.inr ⟨_,_,_,rfl,hn,by simp[B5]⟩))
  .generalize hE:Be Lz _=j;have tB:TQ tk i g h1 j:=by rw[<- hE];refine TQ.reL ?_ ?_ Wp<;>exact tqA
   have gB:∃d2 d3:Int,(-3<=d2/\d2<=d3/\d3<=20)/\j.m.get g=.cells [iI c0,z,iI d2,iI d3,iI 0,iI 0,.str s6,iI 0,.Bv,iI 0,.bool false,.str Uw,iI W0,.str D,.str J,.str I,iI O,o,.str Oi,iI Mg] 26 .exact:=by rw[<- hE];refine⟨_,_,?_,A2 ..⟩;omega
   have B:TQ tk i g h j:=t1.trans tB hn;have nB:Oo h.nx j z t.nodes:=n1.tq F C hn y p tB;clear hE Wp g1 A M;obtain⟨d2,d3,dv,gq⟩:=gB;have G:=B.at y;have E:=B.isc hn p;have hlz:=B.lo;have n:∀(hy:H) (s:List Nat) (f:L2),TQ tk i g j hy->hy.m.get g=.cells (qc ⟨c0,t.nodes,d2,d3,0,0,s,0,[],0,false,Uw,W0,D,J,I,O,E9,Oi,Mg⟩ z .Bv o) 26 .exact->(c0≠4->s=[])->(c0=4->s=s6)->Ah H0 (λ_ h1=>TQ tk i g h h1/\Afg g h.nx A1 ⟨c0,[],0,0,0,0,s6,0,[],0,false,Uw,W0,D,J,I,O,E9,Oi,Mg⟩ o h1) (AgA Z N (.ptr tk 0) (.ptr g 0) f hy):=by
    intro hy s f ty gy b1 b2;have P:TQ tk i g h hy:=B.trans ty hn;have ny:Oo h.nx hy z t.nodes:=nB.tq G E hn y p ty;refine Ah.mono ((show ∀(k:H) (q:Qr) (f0:L2),_ from hJ) hy _ f ((show ∀k,TQ tk i g h k->QIn tk i L g k from hK) hy P) gy) λv h2 _ r=>?_;obtain⟨te,p4,p5,pv,g4⟩:=r;refine⟨P.trans te hn,_,z,.Bv,g4,⟨rfl,λS x4 Q=>?_,λ_=>⟨Tf t,dv⟩,pv.2,pv.1,λd=>b1 ?_,λx1 S Q=>⟨c,Hq,?_⟩,λ_=>rfl,by simp,λ_=>⟨rfl,rfl⟩,λd=>?_,λ_=>rfl⟩,.inr ⟨t,y1,s1,rfl,ny.tq (P.at y) (P.isc hn p) hn y p te⟩,by simp,Fm.nil ..⟩
    .rcases nb with d|d|d;. exact absurd d S
     .exact absurd d x4
     .exact absurd d Q
    .replace d:c0=1\/c0=2\/c0=5:=d;omega
    .replace S:c0≠2:=S;replace Q:c0≠5:=Q;rw[l];exact(b2 om).symm
    .replace d:c0=10:=d;omega
   replace n:=(show F5 _ from n);have tz:TQ tk i g j j:=TQ.refl G E hn;repeat' (first|refine wk ?_|(refine zqq ?_ ?_<;>intro hc<;>(try (exfalso;omega)))|fail)
   .have x4:c0≠4:=by assumption
    exact(show ∀(hy:H) (s:List Nat) (f:L2),_ from n) _ [] _ tqA (A2 ..) (λ_=>rfl) (λd=>absurd d x4)
   .obtain rfl:c0=4:=by assumption
    exact(show ∀(hy:H) (s:List Nat) (f:L2),_ from n) _ s6 _ tz gq (λd=>absurd rfl d) (λ_=>rfl)
open Tryz
def Hu.tq2{tk b}{f v}{h h1}{l}(hc:Hu b h v l)(d:Hu tk h v l)(g:H8 h tk f)(hq:Vu 20 (h.m.get b)=true)(hn:b≠tk)(e:TQ tk f b h h1):Hu b h1 v l:=
 ⟨Sl.tq hc.sl g d.av hc.av hq hn e,hc.av,λc a=>⟨(hc.ok c a).Mu,Sl.tq (hc.ok c a).words g (d.ok c a).av (hc.ok c a).av hq hn e,(hc.ok c a).av,(hc.ok c a).one,(hc.ok c a).cell⟩⟩
structure KIn(tk:Nat)(vl:AV)(L:List Int)(bq:Nat)(h:H)(cv:AV)(A1:List Cl):Prop where
 Q:QIn tk vl L bq h
 c1:Hu tk h cv A1
 c2:Hu bq h cv A1
 ne:A1≠[]
 Mu:A1.length<=30
 val:∀c∈A1,AdD c.a c.b c.ws
def KIn.tq{tk}{a}{L}{b}{h h1}{cv}{A1}(K:KIn tk a L b h cv A1)(e:TQ tk a b h h1):KIn tk a L b h1 cv A1:=
 ⟨K.Q.tq e,K.c1.tq K.c2 K.Q.hi.at' K.Q.hq K.Q.hn e,K.c2.tq2 K.c1 K.Q.hi.at' K.Q.hq K.Q.hn e,K.ne,K.Mu,K.val⟩
def Afg.s6{b lo}{A1}{q0}{s}{a}{h1}(c:Afg b lo A1 { q0 with s6:=s } a h1):Afg b lo A1 q0 a h1:=by have⟨q,_,_,a1,a2,d⟩:=c;exact⟨q,_,_,a1,⟨a2.same,a2.A47,a2.AyG,a2.pq1,a2.pq2,a2.Bcp,a2.Bcq,a2.bd1,a2.bd2,a2.Bdd,a2.Bde,a2.con⟩,d⟩
def R42:Prop:=∀(tk:Nat) (b:AV) (L:List Int) (a:Nat) (h:H) (cv:AV) (A1:List Cl) (q:Qr) (c:AV),KIn tk b L a h cv A1->h.m.get a=.cells (qc q .Bv .Bv c) 26 .exact->QZ q ->
 Ah H0 (λ_ h1=>TQ tk b a h h1/\Afg a h.nx A1 q c h1) (Z.call 42 [.ptr tk 0,.ptr a 0,cv] h)
set_option maxHeartbeats 2000000 in
def Auk(Fg:R38 Z)(A:R79 Z)(w:R80 Z 3)(hN:100<N)(tk:Nat)(j:AV)(L:List Int)(a:Nat)(h:H)(cv:AV)(A1:List Cl)(q:Qr)(p:AV)(K:KIn tk j L a h cv A1)(hz:QZ q):
 ∀(k:Nat) (i:Int) (n:Nat) (hd:H) (f0:L2),(k:Int)=i->i<(A1.length:Int)->k<n->TQ tk j a h hd->hd.m.get a=.cells (qc q .Bv .Bv p) 26 .exact->Ah H0 (λ_ h1=>TQ tk j a h h1/\Afg a h.nx A1 q p h1) (Alm Z N n (.ptr tk 0) (.ptr a 0) cv (iI i) f0 hd):=by
 have B6:=K.Q.hi.at'.lt;have G8:=K.Q.lt;have hn:=K.Q.hn;have A82:=K.Mu;obtain⟨c0,code,c2,c3,c4,c5,s6,c7,ord,c9,Wz,Uw,W0,B,x,t,z,E9,Oi,Mg⟩:=q;obtain⟨T,z2,X,V,z5,Y,W,z8,U⟩:=hz;simp only at T z2 X V z5 Y W z8 U;subst T;subst z2;subst X;subst V;subst z5;subst Y;subst W;subst z8;subst U;intro k;induction k using Nat.strongRecOn with
 |ind k D=>
  intro i n hd f0 hk hi S3 e O;obtain⟨G,rfl⟩:∃G,n=G+1:=⟨n-1,by omega⟩;replace O:hd.m.get a=.cells [iI c0,.Bv,iI 0,iI 0,iI 0,iI 0,.str s6,iI 0,.Bv,iI 0,.bool false,.str Uw,iI W0,.str B,.str x,.str t,iI z,p,.str Oi,iI Mg] 26 .exact:=O;have C:=K.tq e;have X4:((i.toNat:Nat):Int)=i:=Qy om;obtain⟨c,d⟩:∃c,A1[i.toNat]?=some c:=⟨_,Xs om⟩;obtain⟨b,o,S⟩:=R0.elem (f:=Hx) (s:=4) (λ_=>rfl) C.c1.sl d;have E:=C.c1.ok c (Vl d);have x1:=S.ia;rw[X4]at x1;have x2:=S.all;have w1:=E.one;have w2:=E.cell;have F:∀(hy:H) (s:List Nat) (y:Bool) (b7:Nat) (f:L2),s=c.name->c0≠1->(y=true ↔ c0=2\/c0=4\/c0=5)->TQ tk j a h hy->hy.m.get b7=.cells (Hx c) 96 .exact->b7<hy.nx->b7≠tk->b7≠a->hy.m.get a=.cells (qc ⟨c0,[],0,0,0,0,s,0,[],0,false,Uw,W0,B,x,t,z,E9,Oi,Mg⟩ .Bv .Bv p) 26 .exact->Ah H0 (λ_ h1=>TQ tk j a h h1/\Afg a h.nx A1 ⟨c0,[],0,0,0,0,s6,0,[],0,false,Uw,W0,B,x,t,z,E9,Oi,Mg⟩ p h1) (Aee Z N (.ptr tk 0) (.ptr a 0) cv (.ptr b7 0) (iI c0) (.bool y) f hy):=by intro hy s y b7 f hs M R ty g7 l7 n7 m7 gy;have l:=K.tq ty;have P:=ty.lo;exact Ah.mono (A9v Z N Fg hN tk j L a hy l.Q cv b7 c g7 l7 n7 m7 p ⟨c0,[],0,0,0,0,s,0,[],0,false,Uw,W0,B,x,t,z,E9,Oi,Mg⟩ gy ⟨rfl,rfl,rfl,rfl,rfl,rfl,rfl,rfl,rfl⟩ A1 (Vl d) hs.symm (l.val c (Vl d)) M (w tk j L cv A1 3 hy rfl l.Q.hi l.c1 l.ne l.Mu) y R f) λv h1 _ r=>⟨ty.trans r.1 hn,(Afg.s6 (q0:=⟨c0,[],0,0,0,0,s6,0,[],0,false,Uw,W0,B,x,t,z,E9,Oi,Mg⟩) r.2).mono P⟩
  have u:Ah hd (λr _=>∃b:Bool,r=.bool b/\(i=0->b=true)) (Z.call 79 [cv,iI i] hd):=A tk A1 cv i hd C.c1 C.Mu om hi;have Kf:=e.lo;clear S X4 d E K C w A;replace F:=(show F5 _ from F)
  replace D:=(show F5 _ from D)
  rw[AwZ];refine Fj u λv1 h1 e1 l1 I q1=>?_;clear u;obtain⟨bb,rfl,J⟩:=q1;have t1:TQ tk j a h h1:=e.gr e1;have g1:=(I a om).trans O;cases bb
  .have H4:i≠0:=λg=>by have:=J g;cases this
   refine wk ?_;exact(show ∀m,m<k->∀(i:Int) (n:Nat) (hd:H) (f0:L2),_ from D) (k-1) om (i-1) G h1 _ om om om t1 g1
  .repeat' (first|refine wk ?_|(refine zqq ?_ ?_<;>intro hc<;>(try (exfalso;omega)))|fail)
   .obtain rfl:c0=1:=by assumption
    exact zr (Ed _) ⟨tqA,⟨_,[],_,_,_,_,_,_,[],_,_,_,_,_,_,_,_,E9,_,_⟩,.Bv,.Bv,A2 ..,⟨rfl,λ_ _ _=>⟨rfl,rfl,rfl⟩,λg=>by simp at g,λ_=>⟨rfl,rfl⟩,λg=>by simp at g,λ_=>rfl,λg=>absurd rfl g,λ_=>rfl,by simp,λ_=>⟨rfl,rfl⟩,λg=>by simp at g,λ_=>rfl⟩,.inl ⟨rfl,rfl⟩,by simp,Fm.nil ..⟩
   all_goals
    refine(show ∀(hy:H) (s:List Nat) (y:Bool) (b7:Nat) (f:L2),_ from F) _ c.name _ h1.nx _ rfl om (by simp;omega) tqA ?_ Ce om om (A2 ..)
    show(H.put _ _ _).m.get _=_;rw[Aq _ _ _ (show h1.nx≠a by omega)]
    exact A2 ..
def r42(k:R38 Z)(d:R79 Z)(g:R80 Z 3)(p:100<N)(tk:Nat)(c:AV)(L:List Int)(a:Nat)(h:H)(cv:AV)(A1:List Cl)(q:Qr)(f:AV)(K:KIn tk c L a h cv A1)(r:h.m.get a=.cells (qc q .Bv .Bv f) 26 .exact)(s:QZ q):
 Ah H0 (λ_ h1=>TQ tk c a h h1/\Afg a h.nx A1 q f h1) (Ay prog Z N false 42 [.ptr tk 0,.ptr a 0,cv] h):=by
 rw[e42];have b:∀j,Fo cv j=.ok (iI (A1.length:Int)) j:=λ_=>K.c1.sl.Gs;have n:=K.Mu;have l:0<A1.length:=Kd.2 K.ne;refine Ey (b _) ?_;refine M5 (K.Q.Adl Z k _ h (TQ.refl K.Q.hi.at' K.Q.hq K.Q.hn) om) λt h1 e1 l1 e o=>?_;obtain⟨i,rfl,i0,i1⟩:=o;exact Auk Z N k d g p tk c L a h cv A1 q f K s i.toNat i N h1 _ om om om ((TQ.refl K.Q.hi.at' K.Q.hq K.Q.hn).tg e1) ((e a K.Q.lt K.Q.hn).trans r)
def Hu.tg2{tk k:Nat}{h1:H}(b:Hu k j p I)(hc:Hu tk j p I)(f:H8 j tk U)(e:TG tk U j h1):Hu k h1 p I:=
 ⟨Sl.tg hc.sl f hc.av e,b.av,λc a=>⟨(b.ok c a).Mu,Sl.tg (hc.ok c a).words f (hc.ok c a).av e,(b.ok c a).av,(b.ok c a).one,(b.ok c a).cell⟩⟩
def Hu.tq3{tk d k:Nat}{h1:H}(b:Hu k j p I)(hc:Hu tk j p I)(f:Hu d j p I)(i:H8 j tk U)(hq:Vu 20 (j.m.get d)=true)(hn:d≠tk)(e:TQ tk U d j h1):Hu k h1 p I:=
 ⟨Sl.tq hc.sl i hc.av f.av hq hn e,b.av,λc a=>⟨(b.ok c a).Mu,Sl.tq (hc.ok c a).words i (hc.ok c a).av (f.ok c a).av hq hn e,(b.ok c a).av,(b.ok c a).one,(b.ok c a).cell⟩⟩
structure SIn(tk:Nat)(vl:AV)(L:List Int)(sv:AV)(ss:List Sc)(lo:Nat)(h:H):Prop where
 hi:H9 tk vl L h
 lt:lo<=tk
 av:∀k,lo<=k->Av k vl
 all:∀k,lo<=k->W9 k h sv ss
 cz:∀s∈ss,∀b off len cap z ex,s.cv=.sl b off len cap z ex->0<len->b<lo/\∀k,B5 (h.m.get b)=some k->k<lo
def SIn.tg{tk lo:Nat}{sv:AV}{h1:H}(S:SIn tk p C sv o lo j)(e:TG tk p j h1):SIn tk p C sv o lo h1:=by
 have l:=S.hi.at';have f:∀s∈o,∀b off len cap z ex,s.cv=.sl b off len cap z ex->0<len->b<lo/\∀k,B5 (h1.m.get b)=some k->k<lo:=by intro s i b off len cap z ex L h0;obtain⟨q,n⟩:=S.cz s i b off len cap z ex L h0;have:=S.lt;have:=l.lt;refine⟨q,λk g=>n k ?_⟩;rw[<- g,e.Cf b om om]
 refine⟨S.hi.tg e,S.lt,S.av,λk g=>?_,f⟩;have a:=S.all k g;have c:=S.all tk S.lt;refine⟨a.ne,a.Mu,Sl.tg a.sl l c.av e,a.av,λs i=>?_⟩;have d:=a.ok s i;have cs:=c.ok s i;refine⟨d.nn,d.ne,d.Mu,d.A1.tg2 cs.A1 l e,d.one,d.cell,λb off len cap z ex L h0=>?_⟩;obtain⟨q,n⟩:=f s i b off len cap z ex L h0;exact⟨by omega,λk g=>by have:=n k g;omega⟩
def SIn.gr{tk lo:Nat}{sv:AV}{h1:H}(S:SIn tk p C sv o lo j)(e:Ai j h1):SIn tk p C sv o lo h1:=S.tg ((TG.refl S.hi.at').gr e)
def SIn.tq{tk lo f:Nat}{sv:AV}{h1:H}(S:SIn tk p C sv o lo j)(t:lo<=f)(hq:Vu 20 (j.m.get f)=true)(hn:f≠tk)(e:TQ tk p f j h1):SIn tk p C sv o lo h1:=by
 have n:=S.hi.at';have L:∀s∈o,∀b off len cap z ex,s.cv=.sl b off len cap z ex->0<len->b<lo/\∀k,B5 (h1.m.get b)=some k->k<lo:=by intro s g b off len cap z ex r h0;obtain⟨u,q⟩:=S.cz s g b off len cap z ex r h0;have:=S.lt;have:=n.lt;refine⟨u,λk l=>q k ?_⟩;rw[<- l,e.Cf b om om om]
 refine⟨S.hi.tq (S.av f t) hq hn e,S.lt,S.av,λk l=>?_,L⟩;have a:=S.all k l;have c:=S.all tk S.lt;have d:=S.all f t;refine⟨a.ne,a.Mu,Sl.tq a.sl n c.av d.av hq hn e,a.av,λs g=>?_⟩;have i:=a.ok s g;refine⟨i.nn,i.ne,i.Mu,i.A1.tq3 (c.ok s g).A1 (d.ok s g).A1 n hq hn e,i.one,i.cell,λb off len cap z ex r h0=>?_⟩;obtain⟨u,q⟩:=L s g b off len cap z ex r h0;exact⟨by omega,λk l=>by have:=q k l;omega⟩
def SIn.q{tk lo a:Nat}{sv:AV}(S:SIn tk p C sv o lo j)(c:lo<=a)(hq:Vu 20 (j.m.get a)=true)(hn:a≠tk)(e:a<j.nx):QIn tk p C a j:=⟨S.hi,S.av a c,hn,e,hq⟩
def TQ.ApZ{tk a:Nat}{h0 h1:H}(e:TQ tk p a j h1)(g:Ai h0 j)(d:h0.nx<=tk)(b:h0.nx<=a):Ai h0 h1:=by obtain⟨o,i,m,f,e⟩:=e;exact((g.put a o b).put tk _ d).trans e
def Sb{tk:Nat}{h0 h1:H}(e:TG tk p j h1)(g:Ai h0 j)(a:h0.nx<=tk):Ai h0 h1:=by obtain⟨m,c,e⟩:=e;exact(g.put tk _ a).trans e
def AvI{k:Nat}{cv sv:AV}{h1:H}(e:∀c∈I,∃s∈o,c∈s.A1)(d:Fm 4 j.nx 96 h1 cv I.length (I.flatMap Hx))(f:W9 k j sv o)(a:k<j.nx)(g:Ai j h1):Hu k h1 cv I:=by
 refine⟨d.sl,λb off len cap z ex i h0=>?_,λc hc=>?_⟩
 .have:=W7.own d b off len cap z ex i h0;omega
 .obtain⟨s,h1,h2⟩:=e c hc;exact((f.ok s h1).A1.ok c h2).By g.keeps
def Sw:List (List Nat):=[[50],[51,47,50],[49,49,47,49,48],[51],[49,48,49,47,49,48,48]]
structure Aqh(ss:List Sc)(q:Qr):Prop where
 tbl:∃a∈ss,a.name=q.Uw/\(q.W0=0\/a.pub=false/\1<=q.W0/\q.W0<=4)/\(q.Wu=[]/\q.s14=[]/\q.s15=[]/\q.c16=0\/∃b∈ss,b.name=q.Wu/\(a.pub=true->b.pub=true)/\(∃c∈a.A1,c.name=q.s14)/\(∃c∈b.A1,c.name=q.s15)/\q.s14=q.s15/\1<=q.c16/\q.c16<=3)
 kind:1<=q.c0/\q.c0<=10
 fac:q.Oi∈Sw
 bits:1<=q.Mg/\q.Mg<=12
def AaF(a:List Sc)(q:Qr):List Cl:=Ab1 a q.Uw++Ab1 a q.Wu
structure QOk(ss:List Sc)(q:Qr):Prop where
 pre:Aqh ss q
 kv:∃q0,KV (AaF ss q) q0 q
 code:q.code=[]\/∃t,E7 (AaR (AaF ss q)) false t/\wt t<=Sd 3/\q.code=t.nodes
 E9:q.E9=[]\/∃t,E7 (AaR (AaF ss q)) true t/\wt t<=Sd 3/\q.E9=t.nodes
 ord:q.ord.length<=4
def Aqh.kv{q q':Qr}{A1:List Cl}(h:Aqh o q)(k:KV A1 q q'):Aqh o q':=by
 have e:=k.same;have d:q'.c0=q.c0:=by rw[e]
 have e1:q'.Uw=q.Uw:=by rw[e]
 have i:q'.W0=q.W0:=by rw[e]
 have g:q'.Wu=q.Wu:=by rw[e]
 have e4:q'.s14=q.s14:=by rw[e]
 have j:q'.s15=q.s15:=by rw[e]
 have f:q'.c16=q.c16:=by rw[e]
 have c:q'.Oi=q.Oi:=by rw[e]
 have m:q'.Mg=q.Mg:=by rw[e]
 obtain⟨h1,h2,b,l⟩:=h;exact⟨by rw[e1,i,g,e4,j,f];exact h1,by rw[d];exact h2,by rw[c];exact b,by rw[m];exact l⟩
def AgH(d:List Sc)(r:AV)(h1:H):Prop:=∃(q:Qr) (b a c:AV),r=.agg (qc q b a c)/\QV h1 q b a c/\QOk d q
def Ag3(D:Dom)(lo:Nat)(h:H)(a:AV)(l:List Nd):Prop:=(l=[]/\a=.Bv)\/∃t,E7 D true t/\wt t<=Sd 3/\l=t.nodes/\Oo lo h a t.nodes
def A3a{h0:H}(g:Ai h0 j)(k d lo:Nat)(q:Qr)(e h f:AV)(E:j.m.get k=.cells (qc q e h f) 26 .exact)(u:j.m.get d=.cells zq 26 .exact)(x:h0.nx<=d)(i:d<lo)(z:d≠k)(hc:AoM R lo j e q.code)(p:Ag3 R lo j f q.E9)(w:QOk o q)(r:Fm 2 lo 33 j h q.ord.length (q.ord.flatMap Zd)):
 Ah h0 (AgH o) (Aa (Ae (some (some 20)) (.ptr k 0) j) λn v=>Aa (A4 20 (.ptr d 0) n v) λB s=>Vk [.c (some (some 20)) (.ptr d 0)] s):=by
 obtain⟨A,y⟩:=B2 r.sl;have W0:Ge e=true/\cellsOf e=some [e]:=by
  rcases hc with⟨_,rfl⟩|⟨t,_,_,_,b⟩
  .exact⟨rfl,rfl⟩
  .exact b.one
 have l:Ge f=true/\cellsOf f=some [f]:=by
  rcases p with⟨_,rfl⟩|⟨t,_,_,_,b⟩
  .exact⟨rfl,rfl⟩
  .exact b.one
 obtain⟨c1,c2⟩:=W0;obtain⟨m1,C⟩:=l;have a:Vu (qc q e h f).length (j.m.get d)=true:=by rw[u];rfl
 refine wk ?_;refine zr Ex ⟨q,e,h,f,rfl,⟨?_,?_,?_⟩,w⟩
 .rcases hc with⟨h1,rfl⟩|⟨t,_,_,h1,b⟩
  .rw[h1];exact .inl ⟨rfl,rfl,rfl⟩
  .rw[h1];exact(b.To i a).sl
 .exact(Fm.To r i a).sl
 .rcases p with⟨h1,rfl⟩|⟨t,_,_,h1,b⟩
  .rw[h1];exact .inl ⟨rfl,rfl,rfl⟩
  .rw[h1];exact(b.To i a).sl
def AoM.Y5{lo a:Nat}(hc:AoM R lo j p J)(c:a<=lo):AoM R a j p J:=by
 rcases hc with h1|⟨t,a1,a2,d,b⟩
 .exact .inl h1
 .exact .inr ⟨t,a1,a2,d,b.Y5 c⟩
def Ag3.tq{lo tk a:Nat}{h1:H}(i:Ag3 R lo j U J)(f:H8 j tk p)(hq:Vu 20 (j.m.get a)=true)(hn:a≠tk)(h2:tk<lo)(g:a<lo)(e:TQ tk p a j h1):Ag3 R lo h1 U J:=by
 rcases i with h1|⟨t,a1,a2,c,d⟩
 .exact .inl h1
 .exact .inr ⟨t,a1,a2,c,d.tq f hq hn h2 g e⟩
def Asm(F:R42 Z){h0:H}(tk:Nat)(n:AV)(L:List Int)(a b lo:Nat)(cv:AV)(A1:List Cl)(K:KIn tk n L a j cv A1)(q:Qr)(d:AV)(J:j.m.get a=.cells (qc q .Bv .Bv d) 26 .exact)(S:QZ q)(P:∀q',KV A1 q q'->(q'.code=[]\/∃t,E7 (AaR A1) false t/\wt t<=Sd 3/\q'.code=t.nodes)->q'.ord.length<=4->QOk o q')(z:Ai h0 j)(e:h0.nx<=tk)(O:h0.nx<=a)(x:j.m.get b=.cells zq 26 .exact)(l:h0.nx<=b)(h:b<lo)(p:b≠a)(i:b≠tk)(s:lo<=j.nx)(A:tk<lo)(f:a<lo)(D:Ag3 (AaR A1) lo j d q.E9):
 Ah h0 (AgH o) (Aa (Z.call 42 [.ptr tk 0,.ptr a 0,cv] j) λB G=>Aa (Ae (some (some 20)) (.ptr a 0) G) λg C=>Aa (A4 20 (.ptr b 0) g C) λT w=>Vk [.c (some (some 20)) (.ptr b 0)] w):=by
 obtain⟨v,h1,e1,_,tq,q',E,y,M,r,p3,u,R⟩:=F tk n L a j cv A1 q d K J S;rw[e1];refine Wb ?_;have k:q'.E9=q.E9:=by rw[r.same]
 refine A3a (tq.ApZ z e O) a b lo q' E y d M ?_ l h p (p3.Y5 s) (k ▸ D.tq K.Q.hi.at' K.Q.hq K.Q.hn A f tq) (P q' r ?_ u) (Yp R s)
 .exact(tq.Cf b om i p).trans x
 .rcases p3 with⟨h1,_⟩|⟨t,b1,b2,I,_⟩
  .exact .inl h1
  .exact .inr ⟨t,b1,b2,I⟩
set_option maxHeartbeats 2000000 in
def Bai(h:SsV o){s:Sc}(e:s∈o){c:Cl}(hc:c∈s.A1):AdD c.a c.b c.ws:=by obtain⟨all,_,h2,_,p⟩:=h;obtain⟨_,sub,i,j⟩:=p s e;have m:Px c∈sub.map Px:=j ▸ cr hc;obtain⟨d,g,f⟩:=dz.1 m;have l:=h2 d (ax (i.subset g));simp only[Px,Prod.mk.injEq]at f;obtain⟨_,e1,n,k⟩:=f;rw[<- e1,<- n,<- k];exact l
def A9t(Fg:R38 Z)(Va:R40 Z)(We:R41 Z 3)(Nj:R42 Z){h0:H}(tk:Nat)(g sv:AV)(L:List Int)(k:List Sc)(d f:Nat)(h:H)(g0:Ai h0 h)(S:SIn tk g L sv k h0.nx h)(q:Qr)(hg:h.m.get d=.cells (qc q .Bv .Bv .Bv) 26 .exact)(o:h0.nx<=d)(I:d<h.nx)(hn:d≠tk)(hr:h.m.get f=.cells zq 26 .exact)(G:h0.nx<=f)(T:f<h.nx)(P:f≠d)(i:f≠tk)(hz:QZ q)(u:q.E9=[])(hV:SsV k)(w:Aqh k q)(f0:L2):
 Ah h0 (AgH k) (Ag7 Z N sv (.ptr f 0) (.ptr tk 0) (.ptr d 0) f0 h):=by
 have B6:=S.hi.at'.lt;have e:=S.lt;have ic:Vu 20 (h.m.get d)=true:=by rw[hg];rfl
 have t0:TQ tk g d h h:=TQ.refl S.hi.at' ic hn;have hT:=(S.q o ic hn I).Adl Z Fg;obtain⟨c0,code,c2,c3,c4,c5,s6,c7,ord,c9,Wz,Uw,W0,n,A,z,E,E9,Oi,Mg⟩:=q;have V:∃s∈k,s.name=Uw:=by obtain⟨a,h1,h2,_⟩:=w.tbl;exact⟨a,h1,h2⟩
 obtain⟨v,x,X,y4,y5,y6,y7,y8,y9⟩:=hz;simp only at v x X y4 y5 y6 y7 y8 y9 u;subst v;subst x;subst X;subst y4;subst y5;subst y6;subst y7;subst y8;subst y9;subst u;rw[AwI];refine wk ?_;refine Fj (Va tk k sv Uw n h (S.all tk e) V) λcv h1 e1 l1 D q1=>?_;obtain⟨l,O,a1,a2,a4,R⟩:=q1;have S7:∀c∈l,AdD c.a c.b c.ws:=λc hc=>by obtain⟨s,b1,b2⟩:=R c hc;exact Bai hV b1 b2
 have J:∀(mm:List Nd),(mm=[]\/∃t,E7 (AaR l) true t/\wt t<=Sd 3/\mm=t.nodes)->∀q',KV l ⟨c0,[],0,0,0,0,s6,0,[],0,false,Uw,W0,n,A,z,E,mm,Oi,Mg⟩ q'->(q'.code=[]\/∃t,E7 (AaR l) false t/\wt t<=Sd 3/\q'.code=t.nodes)->q'.ord.length<=4->QOk k q':=by
  intro mm W q' C k2 k3;have e1:q'.Uw=Uw:=by rw[C.same]
  have K:q'.Wu=n:=by rw[C.same]
  have p:AaF k q'=l:=by rw[AaF,e1,K,O]
  have e4:q'.E9=mm:=by rw[C.same]
  exact⟨Aqh.kv (q:=⟨c0,[],0,0,0,0,s6,0,[],0,false,Uw,W0,n,A,z,E,mm,Oi,Mg⟩) ⟨w.tbl,w.kind,w.fac,w.bits⟩ C,⟨_,p.symm ▸ C⟩,by rw[p];exact k2,by rw[p,e4];exact W,k3⟩
 replace J:=(show F5 _ from J)
 have M:=AvI R a4 (S.all tk e) B6 e1;have U:=AvI R a4 (S.all d o) I e1;have t1:TQ tk g d h h1:=t0.gr e1;have g1:=(D d I).trans hg;have r1:=(D f T).trans hr;have Y:=S.gr e1;have F:=t1.isc hn I;have K1:KIn tk g L d h1 cv l:=⟨Y.q o F hn om,M,U,a1,a2,S7⟩;refine M5 (hT 2 h1 t1 om) λv2 h2 K l2 r q2=>?_;obtain⟨j,rfl,j0,j1⟩:=q2;have t2:TQ tk g d h1 h2:=(TQ.refl Y.hi.at' F hn).tg K;have K2:=K1.tq t2;have g2:=(r d om hn).trans g1;have r2:=(r f om i).trans r1;have y:Ai h0 h2:=Sb K (g0.trans e1) e;repeat' (first|refine wk ?_|(refine zqq ?_ ?_<;>intro hc<;>(try (exfalso;omega)))|fail)
 .refine M5 (We tk g L cv l 3 h2 rfl K2.Q.hi K2.c1 K2.ne K2.Mu) λv3 h3 p l3 B q3=>?_;obtain⟨t,v,x,nf⟩:=q3;obtain⟨n1,n2⟩:=nf.one;have g3:=(B d om hn).trans g2;have r3:=(B f om i).trans r2;have t3:TQ tk g d h2 h3:=(TQ.refl K2.Q.hi.at' K2.Q.hq hn).tg p;refine wk ?_;have t4:TQ tk g d h2 (h3.put d (.cells [iI c0,.Bv,iI 0,iI 0,iI 0,iI 0,.str s6,iI 0,.Bv,iI 0,.bool false,.str Uw,iI W0,.str n,.str A,.str z,iI E,v3,.str Oi,iI Mg] 26 .exact)):=t3.put _ rfl hn;refine Asm Z Nj tk g L d f h2.nx cv l (K2.tq t4) ⟨c0,[],0,0,0,0,s6,0,[],0,false,Uw,W0,n,A,z,E,t.nodes,Oi,Mg⟩ v3 (A2 ..) ⟨rfl,rfl,rfl,rfl,rfl,rfl,rfl,rfl,rfl⟩ ((show ∀(mm:List Nd),_ from J) t.nodes (.inr ⟨t,v,x,rfl⟩)) (t4.ApZ y e o) e o ?_ G om P i l3 om om ?_
  .exact(Aq _ _ _ P).trans r3
  .exact .inr ⟨t,v,x,rfl,nf.To om (by rw[g3];rfl)⟩
 .exact Asm Z Nj tk g L d f h2.nx cv l K2 ⟨c0,[],0,0,0,0,s6,0,[],0,false,Uw,W0,n,A,z,E,[],Oi,Mg⟩ .Bv g2 ⟨rfl,rfl,rfl,rfl,rfl,rfl,rfl,rfl,rfl⟩ ((show ∀(mm:List Nd),_ from J) [] (.inl rfl)) y e o r2 G om P i (Yw _) om om (.inl ⟨rfl,rfl⟩)
def Ai6{tk:Nat}{sv:AV}{d:Int}(k:W9 tk j sv o)(j0:0<=d)(l:d<(o.length:Int)):∃s b h,s∈o/\(∀a,Gc 4 sv (iI d) a=.ok (.ptr b h) a)/\∀a,Bi j a->Ae (some (some 4)) (.ptr b h) a=.ok (.agg (Ze s)) a:=by have i:((d.toNat:Nat):Int)=d:=Qy j0;obtain⟨s,c⟩:∃s,o[d.toNat]?=some s:=⟨_,Xs om⟩;obtain⟨b,h,g⟩:=R0.elem (f:=Ze) (s:=4) (λ_=>rfl) k.sl c;have e:=g.ia;rw[i]at e;exact⟨s,b,h,Vl c,e,g.all⟩
set_option maxHeartbeats 2000000 in
def A9s(Fg:R38 Z)(U9:R39 Z)(Va:R40 Z)(We:R41 Z 3)(Nj:R42 Z){h0:H}(tk:Nat)(l sv:AV)(L:List Int)(s:List Sc)(c p G:Nat)(h:H)(g0:Ai h0 h)(S:SIn tk l L sv s h0.nx h)(q:Qr)(hg:h.m.get c=.cells (qc q .Bv .Bv .Bv) 26 .exact)(u:h0.nx<=c)(G8:c<h.nx)(hn:c≠tk)(hr:h.m.get p=.cells zq 26 .exact)(hr0:h0.nx<=p)(hrl:p<h.nx)(Hr:p≠c)(T:p≠tk)(e:QZ q)(x:q.E9=[])(hV:SsV s)(g:q.Wu=[]/\q.s14=[]/\q.s15=[]/\q.c16=0)(A:1<=q.c0/\q.c0<=10)(y:q.Oi∈Sw)(C:1<=q.Mg/\q.Mg<=12)(a:Sc)(w:a∈s)(V:a.name=q.Uw)(t:q.W0=0\/a.pub=false/\1<=q.W0/\q.W0<=4)(g8:h.m.get G=.cells (Ze a) 73 .exact)(l8:G<h.nx)(n8:G≠tk)(m8:G≠c)(f0:L2):
 Ah h0 (AgH s) (Ag6 Z N sv (.ptr p 0) (.ptr tk 0) (.ptr G 0) (.ptr c 0) f0 h):=by
 have B6:=S.hi.at'.lt;have d:=S.lt;have Y:Vu 20 (h.m.get c)=true:=by rw[hg];rfl
 have t0:TQ tk l c h h:=TQ.refl S.hi.at' Y hn;have hT:=(S.q u Y hn G8).Adl Z Fg;have U:∀n,Fo sv n=.ok (iI (s.length:Int)) n:=λ_=>(S.all tk d).sl.Gs;have hss:=(S.all tk d).Mu;have hsp:0<s.length:=Kd.2 (S.all tk d).ne;have P:∀(hy:H) (q':Qr) (f:L2),TQ tk l c h hy->hy.m.get c=.cells (qc q' .Bv .Bv .Bv) 26 .exact->QZ q'->q'.E9=[]->Aqh s q'->Ah h0 (AgH s) (Ag7 Z N sv (.ptr p 0) (.ptr tk 0) (.ptr c 0) f hy):=by intro hy q' f ty gy z1 z3 z4;have hl:=ty.lo;exact A9t Z N Fg Va We Nj tk l sv L s c p hy (ty.ApZ g0 d u) (S.tq u Y hn ty) q' gy u om hn ((ty.Cf p hrl T Hr).trans hr) hr0 om Hr T z1 z3 hV z4 f
 replace P:=(show F5 _ from P)
 rw[AwH];refine Ey (U _) ?_;refine M5 (hT _ h t0 om) λv2 h2 e2 l2 I q2=>?_;obtain⟨j,rfl,j0,r⟩:=q2;have F:=S.tg e2;obtain⟨b,b',o,E,x1,x2⟩:=Ai6 (F.all tk d) j0 om;have t2:TQ tk l c h h2:=t0.tg e2;have g2:=(I c om hn).trans hg;have k2:=(I G om n8).trans g8;have w1:=((F.all tk d).ok b E).one;have w2:=((F.all tk d).ok b E).cell;have w3:=((F.all tk d).ok a w).one;have w4:=((F.all tk d).ok a w).cell;obtain⟨bn,bp,bm,K,Q⟩:=b;obtain⟨an,W,am,M,J⟩:=a;simp only at w1 w2 w3 w4 V t;subst V;have X:∀i,TQ tk l c h i->i.m.get c=.cells (qc q .Bv .Bv .Bv) 26 .exact->Ah H0 (λ_ h1=>TQ tk l c i h1/\JQ ⟨q.Uw,W,am,M,J⟩ ⟨bn,bp,bm,K,Q⟩ q .Bv .Bv .Bv c h1) (Z.call 39 [.ptr tk 0,.ptr c 0,.agg (Ze ⟨q.Uw,W,am,M,J⟩),.agg (Ze ⟨bn,bp,bm,K,Q⟩)] i):=by intro i ex gx;have k:=S.tq u Y hn ex;have X6:=ex.lo;exact U9 tk l L c i q .Bv .Bv .Bv _ _ ⟨k.hi,k.av c u,hn,by omega,⟨rfl,rfl⟩,⟨rfl,rfl⟩,⟨rfl,rfl⟩,ex.isc hn G8,(k.all tk d).ok _ w,(k.all c u).ok _ w,(k.all tk d).ok _ E,(k.all c u).ok _ E⟩ gx
 replace X:=(show F5 _ from X)
 clear S F U9 Va We Nj Fg;repeat' (first|with_reducible (first|apply A7|apply A8|apply A9|apply Ba)|((with_reducible apply M5);exact hT _ _ tqA om;intro vv n ee E8 Bu qq;(try simp only[C9]at E8 Bu);obtain⟨jj,rfl,j0,r⟩:=qq)|(with_reducible (first|apply Cy|apply Cz|apply C0|apply C1);(conv=>lhs;simp(disch:=first|exact dA|fail) [lw, *,x1,x2,k2]);with_reducible (first|apply A7|apply A8|apply A9|apply Ba|apply Cu|(refine Cv (by simp) ?_)|(apply Cw<;>intro hc<;>(try simp only[Bt]at hc)<;>(try (exfalso;omega)))))|(with_reducible (first|apply C2|apply C3|apply C4|apply C5)<;>intro hc<;>(try simp only[Bt]at hc)<;>(try (exfalso;omega))))
 .obtain rfl:W=false:=by assumption
  have R:TQ tk l c h n:=tqA;have O:n.m.get c=.cells (qc q .Bv .Bv .Bv) 26 .exact:=N4;obtain⟨v,h1,e1,_,tq,Wu,s14,s15,c16,jv,gq⟩:=(show ∀i,TQ tk l c h i->i.m.get c=.cells (qc q .Bv .Bv .Bv) 26 .exact->_ from X) n R O
  refine Ey e1 ?_;refine(show ∀(hy:H) (q':Qr) (f:L2),_ from P) h1 _ _ (R.trans tq hn) gq ⟨e.code,e.c2,e.c3,e.c4,e.c5,e.c7,e.ord,e.c9,e.Wz⟩ x ⟨⟨_,w,rfl,t,?_⟩,A,y,C⟩
  rcases jv with⟨r,B,z,D⟩|⟨r,B,z,D,j5,j6⟩
  .exact .inl ⟨r.trans g.1,B.trans g.2.1,z.trans g.2.2.1,D.trans g.2.2.2⟩
  .exact .inr ⟨_,E,r.symm,λi=>(by cases i),B,z,D,j5,j6⟩
 .obtain rfl:W=true:=by assumption
  obtain rfl:bp=true:=by assumption
  have R:TQ tk l c h n:=tqA;have O:n.m.get c=.cells (qc q .Bv .Bv .Bv) 26 .exact:=N4;obtain⟨v,h1,e1,_,tq,Wu,s14,s15,c16,jv,gq⟩:=(show ∀i,TQ tk l c h i->i.m.get c=.cells (qc q .Bv .Bv .Bv) 26 .exact->_ from X) n R O
  refine Ey e1 ?_;refine(show ∀(hy:H) (q':Qr) (f:L2),_ from P) h1 _ _ (R.trans tq hn) gq ⟨e.code,e.c2,e.c3,e.c4,e.c5,e.c7,e.ord,e.c9,e.Wz⟩ x ⟨⟨_,w,rfl,t,?_⟩,A,y,C⟩
  rcases jv with⟨r,B,z,D⟩|⟨r,B,z,D,j5,j6⟩
  .exact .inl ⟨r.trans g.1,B.trans g.2.1,z.trans g.2.2.1,D.trans g.2.2.2⟩
  .exact .inr ⟨_,E,r.symm,λ_=>rfl,B,z,D,j5,j6⟩
 all_goals
  have O:n.m.get c=.cells (qc q .Bv .Bv .Bv) 26 .exact:=N4;exact(show ∀(hy:H) (q':Qr) (f:L2),_ from P) n q _ tqA O e x ⟨⟨_,w,rfl,t,.inl g⟩,A,y,C⟩
def AuP{sv:AV}(L:AO)(d:Lf j p C)(t:(C.length:Int)<=9223372036854775807)(r:∀k,j.nx<=k->W9 k j sv o):SIn (j.nx+1) p C sv o j.nx ((j.new L).new (tkC p 0)):=by
 have g:Ai j (j.new L):=(Ai.refl j).new L;have n:Ai j ((j.new L).new (tkC p 0)):=g.new _;have i:∀s∈o,∀b off len cap z ex,s.cv=.sl b off len cap z ex->0<len->b<j.nx/\∀k,B5 (((j.new L).new (tkC p 0)).m.get b)=some k->k<j.nx:=by intro s f b off len cap z ex d h0;obtain⟨l,q⟩:=((r j.nx (Yw _)).ok s f).cz b off len cap z ex d h0;refine⟨l,λk c=>q k ?_⟩;rw[<- c,n.Cf b l]
 refine⟨AkJ (h:=j.new L) (Sl.By d g.keeps) t,Et _,λk c=>Sl.av d c,λk c=>?_,i⟩;have a:=r k c;refine⟨a.ne,a.Mu,Sl.By a.sl n.keeps,a.av,λs f=>?_⟩;have e:=a.ok s f;refine⟨e.nn,e.ne,e.Mu,e.A1.By n.keeps,e.one,e.cell,λb off len cap z ex d h0=>?_⟩;obtain⟨l,q⟩:=i s f b off len cap z ex d h0;exact⟨by omega,λk c=>by have:=q k c;omega⟩
def R14:Prop:=∀(b sv:AV) (L:List Int) (a:List Sc) (h:H),Lf h b L->(L.length:Int)<=9223372036854775807->(∀k,h.nx<=k->W9 k h sv a)->SsV a->Ah h (AgH a) (Z.call 14 [b,sv] h)
set_option maxHeartbeats 2000000 in
def r14(Fg:R38 Z)(U9:R39 Z)(Va:R40 Z)(We:R41 Z 3)(Nj:R42 Z)(c sv:AV)(L:List Int)(C:List Sc)(h:H)(R:Lf h c L)(hl:(L.length:Int)<=9223372036854775807)(U:∀k,h.nx<=k->W9 k h sv C)(hV:SsV C):Ah h (AgH C) (Ay prog Z N false 14 [c,sv] h):=by
 rw[e14];obtain⟨o1,o2⟩:=B2 R;have hss:=(U _ (Yw _)).Mu;have hsp:0<C.length:=Kd.2 (U _ (Yw _)).ne;have hlen:∀t,Fo sv t=.ok (iI (C.length:Int)) t:=λ_=>(U _ (Yw _)).sl.Gs;have S:=AuP (.cells zq 26 .exact) R hl U;have gB:Ai h ((h.new (.cells zq 26 .exact)).new (tkC c 0)):=((Ai.refl h).new _).new _;have rB:((h.new (.cells zq 26 .exact)).new (tkC c 0)).m.get h.nx=.cells zq 26 .exact:=by
  rw[Cq (h:=h.new _) _ h.nx (by show h.nx≠h.nx+1;omega)]
  exact Bf _
 have xB:((h.new (.cells zq 26 .exact)).new (tkC c 0)).nx=h.nx+2:=rfl;refine wk ?_;generalize (h.new (.cells zq 26 .exact)).new (tkC c 0)=hB at *
 have G:∀(k:Int) (v:H),TG (h.nx+1) c hB v->k<=9223372036854775807->D6 (h.nx+1) c v (Below k) (Z.call 38 [.ptr (h.nx+1) 0,iI k] v):=λk v e hk=>Fg (h.nx+1) c L k v (S.hi.tg e).at' (S.hi.tg e).ints S.hi.av S.hi.len hk;have B6:=S.hi.at'.lt;refine M5 (G _ hB (TG.refl S.hi.at') om) λv2 h2 e2 l2 J q2=>?_;obtain⟨j,rfl,j0,j1⟩:=q2;have I:=S.tg e2;obtain⟨a,b',o,ha,x1,x2⟩:=Ai6 (I.all (h.nx+1) (Et _)) j0 om;have w1:=((I.all (h.nx+1) (Et _)).ok a ha).one;have w2:=((I.all (h.nx+1) (Et _)).ok a ha).cell;obtain⟨F,P,M,p,l⟩:=a;simp only at w1 w2;have r2:=(J h.nx om om).trans rB;have Q:∀(hy:H) (q':Qr) (g d:Nat) (f:L2),TG (h.nx+1) c h2 hy->h2.nx<=g->g<hy.nx->hy.m.get g=.cells (qc q' .Bv .Bv .Bv) 26 .exact->QZ q'->q'.E9=[]->q'.Uw=F->(q'.Wu=[]/\q'.s14=[]/\q'.s15=[]/\q'.c16=0)->(1<=q'.c0/\q'.c0<=10)->q'.Oi∈Sw->(1<=q'.Mg/\q'.Mg<=12)->(q'.W0=0\/P=false/\1<=q'.W0/\q'.W0<=4)->hy.m.get d=.cells (Ze ⟨F,P,M,p,l⟩) 73 .exact->d<hy.nx->h2.nx<=d->d≠g->Ah h (AgH C) (Ag6 Z N sv (.ptr h.nx 0) (.ptr (h.nx+1) 0) (.ptr d 0) (.ptr g 0) f hy):=by intro hy q' g d f ty z0 z1 gy z2 z4 z5 y1 y2 y3 y4 y5 g8 z6 z7 z8;have tl:=ty.lo;exact A9s Z N Fg U9 Va We Nj (h.nx+1) c sv L C g h.nx d hy (Sb ty (Sb e2 gB (Et _)) (Et _)) (I.tg ty) q' gy om z1 om ((ty.Cf h.nx om om).trans r2) (Yw _) om om om z2 z4 hV y1 y2 y3 y4 _ ha z5.symm y5 g8 z6 om z8 f
 replace Q:=(show F5 _ from Q)
 have t2:TG (h.nx+1) c hB h2:=e2;have u2:TG (h.nx+1) c h2 h2:=TG.refl I.hi.at';clear S I U9 Va We Nj Fg U hV R hl r2 rB gB J e2;refine wd ?_;refine M5 (G 10 _ L5 om) λv10 r e10 l10 B q10=>?_;obtain⟨k10,rfl,k11,k12⟩:=q10;simp only[C9]at l10 B;refine wd ?_;have O:TG (h.nx+1) c hB r:=L5;have k8:r.m.get h2.nx=.cells (Ze ⟨F,P,M,p,l⟩) 73 .exact:=(B h2.nx om om).trans (A2 ..);refine M5 (G 5 _ L5 om) λD5 Mt e15 l15 u q15=>?_;obtain⟨E,rfl,k16,k17⟩:=q15;have K:R0 1 (λs:List Nat=>[AV.str s]) ((Ab r).new (.cells [.str [50],.str [51,47,50],.str [49,49,47,49,48],.str [51],.str [49,48,49,47,49,48,48]] 24 .exact)) (.sl r.nx 0 5 5 1 true) [[50],[51,47,50],[49,49,47,49,48],[51],[49,48,49,47,49,48,48]]:=Sl.lit (h:=Ab r) (Bf _) rfl rfl;have A:=Sl.tg K ((O.nl.new _).at B6) (λb off len cap z ex R h0=>by cases R;omega) e15;have X4:((E.toNat:Nat):Int)=E:=Qy k16;obtain⟨fs,hn⟩:∃n,[[50],[51,47,50],[49,49,47,49,48],[51],[49,48,49,47,49,48,48]][E.toNat]?=some n:=⟨_,Xs (by simp;omega)⟩;obtain⟨b5,o5,X⟩:=R0.elem (f:=λs:List Nat=>[AV.str s]) (s:=1) (λ_=>rfl) A hn;obtain⟨_,_,_,V⟩:=Acg A (by simp;omega) X;obtain rfl:r.nx=b5:=by cases V;rfl
 have x3:=X.ia;rw[X4]at x3;have x4:=X.part 0 _ rfl;rw[Mz]at x4;have D:fs∈Sw:=Vl hn;have c5:B5 (Mt.m.get r.nx)=none:=by simp only[C9]at u;rw[u r.nx om om];exact Jh B5 (Bf (h:=Ab r) _)
 clear X K A hn V;simp only[C9]at l15 u;refine wd ?_;refine M5 (G 12 _ L5 om) λHt y e18 l18 w q18=>?_;obtain⟨i,rfl,k19,k20⟩:=q18;simp only[C9]at l18 w;refine wd ?_;refine Pu (h.nx+1) h2.nx ?_ λLz Wp=>?_
 .simp only[Tl,Pl,Ju,G4,Jj];repeat' (refine And.intro ?_ ?_)
  all_goals first|(left;simp;done)|(left;rfl)|(refine .inr ⟨λx v=>?_,?_⟩;(focus first|exact .inl (TG.wrote (by assumption) x v)|(refine .inr ?_;have q:=(D4 _ _ _ v).1;simp at q;omega));(repeat' (refine And.intro ?_ ?_));all_goals first|(exact Ar ..)|(refine Ax _ _ _ _ _ _ _ _ _ _ _ _ ?_;decide)|exact Ci ..|exact Dk (tk:=h.nx+1) (TG.wrote (by assumption)) Ce (.inl rfl)|exact Dk (tk:=h.nx+1) (TG.wrote (by assumption)) Ce (.inr ⟨_,_,_,rfl,by omega,Jh B5 k8⟩)|exact Dk (tk:=h.nx+1) (TG.wrote (by assumption)) Ce (.inr ⟨_,_,_,rfl,by omega,c5⟩))
 .clear O;generalize T:Be Lz _=q;have W:TG (h.nx+1) c h2 q:=by rw[<- T];refine TG.reL ?_ ?_ Wp<;>exact L5
  have gq:q.m.get y.nx=.cells [iI (1+k10),.Bv,iI 0,iI 0,iI 0,iI 0,.str [],iI 0,.Bv,iI 0,.bool false,.str F,iI 0,.str [],.str [],.str [],iI 0,.Bv,.str fs,iI (1+i)] 26 .exact:=by rw[<- T];exact A2 ..
  have g8:q.m.get h2.nx=.cells (Ze ⟨F,P,M,p,l⟩) 73 .exact:=by
   rw[<- T];show(H.put _ _ _).m.get _=_;rw[Aq _ _ _ om];show(H.new _ _).m.get _=_;rw[Cq (h:=Ab y) _ _ (by show h2.nx≠y.nx;omega)]
   show y.m.get _=_;rw[w h2.nx om om];show Mt.m.get _=_;rw[u h2.nx om om];show(H.new _ _).m.get _=_;rw[Cq (h:=Ab r) _ _ (by show h2.nx≠r.nx;omega)]
   exact k8
  have xz:q.nx=y.nx+1:=by rw[<- T];rfl
  have tB:=t2.trans W;have gt:h2.nx<y.nx:=by omega
  generalize y.nx=g at *
  generalize hb8:h2.nx=d at *
  clear T Wp w u B e10 e15 e18 x3 x4 c5 k8 x1 x2 u2;have tz0:TG (h.nx+1) c q q:=TG.refl (tB.at B6);cases P
  . (repeat' (first|refine wk ?_|((with_reducible apply M5);exact G _ _ L5 om;intro vv t ee E8 Y qq;(try simp only[C9]at E8 Y);obtain⟨jj,rfl,j0,j1⟩:=qq)|(refine zqq ?_ ?_<;>intro hc<;>(try (exfalso;omega)))|fail))
    .have te:TG (h.nx+1) c q t:=by rename_i hh0 e0 _ _ _ _ _;exact TG.trans e0 ee
     have ge:t.m.get d=.cells (Ze ⟨F,false,M,p,l⟩) 73 .exact:=N4;refine(show ∀(hy:H) (q':Qr) (g d:Nat) (f:L2),_ from Q) _ ⟨_,[],_,_,_,_,_,_,[],_,_,_,_,_,_,_,_,[],_,_⟩ g d _ ((W.trans te).Aiq g _ om) om (show g<t.nx by omega) (A2 ..) ⟨rfl,rfl,rfl,rfl,rfl,rfl,rfl,rfl,rfl⟩ rfl rfl ⟨rfl,rfl,rfl,rfl⟩ ⟨by show 1<=1+k10;omega,by show 1+k10<=10;omega⟩ D ⟨by show 1<=1+i;omega,by show 1+i<=12;omega⟩ (.inr ⟨rfl,by show(1:Int)<=1+_;omega,by show 1+_<=(4:Int);omega⟩) ?_ (show d<t.nx by omega) (Yw _) om
     exact(Aq _ _ _ om).trans ge
    .have te:TG (h.nx+1) c q t:=L5;have ge:t.m.get d=.cells (Ze ⟨F,false,M,p,l⟩) 73 .exact:=N4;exact(show ∀(hy:H) (q':Qr) (g d:Nat) (f:L2),_ from Q) t ⟨_,[],_,_,_,_,_,_,[],_,_,_,_,_,_,_,_,[],_,_⟩ g d _ (W.trans te) om om ((Y g om om).trans gq) ⟨rfl,rfl,rfl,rfl,rfl,rfl,rfl,rfl,rfl⟩ rfl rfl ⟨rfl,rfl,rfl,rfl⟩ ⟨by show 1<=1+k10;omega,by show 1+k10<=10;omega⟩ D ⟨by show 1<=1+i;omega,by show 1+i<=12;omega⟩ (.inl rfl) ge om (Yw _) om
  . (repeat' (first|refine wk ?_|((with_reducible apply M5);exact G _ _ L5 om;intro vv t ee E8 Y qq;(try simp only[C9]at E8 Y);obtain⟨jj,rfl,j0,j1⟩:=qq)));exact(show ∀(hy:H) (q':Qr) (g d:Nat) (f:L2),_ from Q) q ⟨_,[],_,_,_,_,_,_,[],_,_,_,_,_,_,_,_,[],_,_⟩ g d _ W om om gq ⟨rfl,rfl,rfl,rfl,rfl,rfl,rfl,rfl,rfl⟩ rfl rfl ⟨rfl,rfl,rfl,rfl⟩ ⟨by show 1<=1+k10;omega,by show 1+k10<=10;omega⟩ D ⟨by show 1<=1+i;omega,by show 1+i<=12;omega⟩ (.inl rfl) g8 om (Yw _) om
end Go.Proofs
