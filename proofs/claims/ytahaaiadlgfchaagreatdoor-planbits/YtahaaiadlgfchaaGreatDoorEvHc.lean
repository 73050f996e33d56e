/- The lexer -/
import Derived.Test.YtahaaiadlgfchaaGreatDoorEvHb
import Derived.Test.YtahaaiadlgfchaaGreatDoorEvQd
set_option linter.all false
set_option maxRecDepth 100000
noncomputable section
namespace Go.Proofs
open Go Go.Ev
open Go.Nm
attribute [local irreducible] Aa Al Af Ad
variable {j:List Abn}{o:H}{p:Type}{I:AV}{J:List Nd}{R:Dom}
variable (Z:Ac)(N:Nat)
def AoM.Y5{lo a:Nat}(j:AoM R lo o I J)(f:a<=lo):AoM R a o I J:=by
 rcases j with h1|⟨t,a1,a2,g,c⟩
 .exact .inl h1
 .exact .inr ⟨t,a1,a2,g,c.Y5 f⟩
def Ag3.tq{lo tk a:Nat}{v:AV}{h1:H}(g:Ag3 R lo o v J)(j:Sx.H8 o tk I)(hq:Vu 20 (o.m.get a)=true)(hn:a≠tk)(h2:tk<lo)(k:a<lo)(e:TQ tk I a o h1):Ag3 R lo h1 v J:=by
 rcases g with h1|⟨t,a1,a2,l,f⟩
 .exact .inl h1
 .exact .inr ⟨t,a1,a2,l,f.tq j hq hn h2 k e⟩
def Asm(O:R42 Z){h0:H}(tk:Nat)(C:AV)(L:List Int)(f g lo:Nat)(cv:AV)(A1:List Aaw)(K:KIn tk C L f o cv A1)(q:Qr)(vm:AV)(I:o.m.get f=cd (qc q .Bv .Bv vm) 30)(hz:QZ q)(E:∀a,KV A1 q a->(a.code=[]\/∃t,E7 (AaR A1) false t/\wt t<=Abo 3/\a.code=t.nodes)->a.ord.length<=4->QOk j a)(J:Sx.Ai h0 o)(y:h0.nx<=tk)(S:h0.nx<=f)(P:o.m.get g=cd zq 30)(r:h0.nx<=g)(u:g<lo)(B:g≠f)(l:g≠tk)(Kf:lo<=o.nx)(T:tk<lo)(z:f<lo)(hm:Ag3 (AaR A1) lo o vm q.E9)(p:q.Mg<=12):
 Sx.Ah h0 (AgH j) (Aa (Z.call 34 [.ptr tk 0,.ptr f 0,cv] o) λR U=>Aa (Ae (some (some 20)) (.ptr f 0) U) λh F=>Aa (A4 20 (.ptr g 0) h F) λV M=>Vk [.c (some (some 20)) (.ptr g 0)] M):=by
 obtain⟨v,h1,e1,_,tq,a,vc,vo,p1,p2,p3,p4,D⟩:=O tk C L f o cv A1 q vm K I hz;rw[e1];refine Sx.Wb ?_;have k:a.E9=q.E9:=by rw[p2.same]
 refine A3a (tq.ApZ J y S) f g lo a vc vo vm p1 ?_ r u B (p3.Y5 Kf) (k ▸ hm.tq K.Q.hi.at' K.Q.hq K.Q.hn T z tq) (E a p2 ?_ p4) (Yp D Kf) (by rw[show a.Mg=q.Mg by rw[p2.same]];exact p)
 .exact(tq.Cf g om l B).trans P
 .rcases p3 with⟨h1,_⟩|⟨t,b1,b2,G,_⟩
  .exact .inl h1
  .exact .inr ⟨t,b1,b2,G⟩
set_option maxHeartbeats 2000000 in
def Bai(h:SsV j){s:Abn}(u:s∈j){c:Aaw}(y:c∈s.A1):AdD c.a c.b c.ws:=by obtain⟨all,_,h2,_,m⟩:=h;obtain⟨_,sub,p,A⟩:=m s u;have r:Px c∈sub.map Px:=A ▸ Of y;obtain⟨d,f,g⟩:=dz.1 r;have k:=h2 d (ax (p.subset f));simp only[Px,Prod.mk.injEq]at g;obtain⟨_,e1,z,l⟩:=g;rw[<- e1,<- z,<- l];exact k
def A9t(Fg:R38 Z)(Va:R40 Z)(We:R41 Z 3)(Nj:R42 Z){h0:H}(tk:Nat)(p sv:AV)(L:List Int)(y:List Abn)(f k:Nat)(h:H)(g0:Sx.Ai h0 h)(S:SIn tk p L sv y h0.nx h)(q:Qr)(hg:h.m.get f=cd (qc q .Bv .Bv .Bv) 30)(B:h0.nx<=f)(X:f<h.nx)(hn:f≠tk)(hr:h.m.get k=cd zq 30)(K:h0.nx<=k)(hrl:k<h.nx)(Hr:k≠f)(u:k≠tk)(hz:QZ q)(T:q.E9=[])(hV:SsV y)(P:Aqh y q)(z:q.Mg<=12)(f0:L2):
 Sx.Ah h0 (AgH y) (Ag7 Z N sv (.ptr k 0) (.ptr tk 0) (.ptr f 0) f0 h):=by
 have B6:=S.hi.at'.lt;have g:=S.lt;have ic:Vu 20 (h.m.get f)=true:=by rw[hg];rfl
 have t0:TQ tk p f h h:=TQ.refl S.hi.at' ic hn;have hT:=(S.q B ic hn X).Adl Z Fg;obtain⟨c0,code,c2,c3,c4,c5,s6,c7,ord,c9,Wz,Uw,W0,A,E,I,U3,E9,Oi,Mg⟩:=q;have hnm:∃s∈y,s.name=Uw:=by obtain⟨a,h1,h2,_⟩:=P.tbl;exact⟨a,h1,h2⟩
 obtain⟨G,U,y3,y4,y5,y6,y7,y8,y9⟩:=hz;simp only at G U y3 y4 y5 y6 y7 y8 y9 T z;subst G;subst U;subst y3;subst y4;subst y5;subst y6;subst y7;subst y8;subst y9;subst T;rw[AwI];refine wk ?_;refine Fj (Va tk y sv Uw A h (S.all tk g) hnm) λcv h1 e1 l1 J q1=>?_;obtain⟨l,hle,a1,a2,a4,a3⟩:=q1;have S7:∀c∈l,AdD c.a c.b c.ws:=λc hc=>by obtain⟨s,b1,b2⟩:=a3 c hc;exact Bai hV b1 b2
 have V:∀(mm:List Nd),(mm=[]\/∃t,E7 (AaR l) true t/\wt t<=Abo 3/\mm=t.nodes)->∀r,KV l ⟨c0,[],0,0,0,0,s6,0,[],0,false,Uw,W0,A,E,I,U3,mm,Oi,Mg⟩ r->(r.code=[]\/∃t,E7 (AaR l) false t/\wt t<=Abo 3/\r.code=t.nodes)->r.ord.length<=4->QOk y r:=by
  intro mm hmm r C k2 k3;have e1:r.Uw=Uw:=by rw[C.same]
  have W:r.Wu=A:=by rw[C.same]
  have O:AaF y r=l:=by rw[AaF,e1,W,hle]
  have e4:r.E9=mm:=by rw[C.same]
  exact⟨Aqh.kv (q:=⟨c0,[],0,0,0,0,s6,0,[],0,false,Uw,W0,A,E,I,U3,mm,Oi,Mg⟩) ⟨P.tbl,P.kind,P.fac,P.bits⟩ C,⟨_,O.symm ▸ C⟩,by rw[O];exact k2,by rw[O,e4];exact hmm,k3⟩
 replace V:=(hU V)
 have Y:=AvI a3 a4 (S.all tk g) B6 e1;have cb1:=AvI a3 a4 (S.all f B) X e1;have t1:TQ tk p f h h1:=t0.gr e1;have g1:=(J f X).trans hg;have r1:=(J k hrl).trans hr;have S1:=S.gr e1;have D:=t1.isc hn X;have K1:KIn tk p L f h1 cv l:=⟨S1.q B D hn om,Y,cb1,a1,a2,S7⟩;refine Sx.M5 (hT 2 h1 t1 om) λv2 h2 W l2 M q2=>?_;obtain⟨j,rfl,j0,j1⟩:=q2;have t2:TQ tk p f h1 h2:=(TQ.refl S1.hi.at' D hn).tg W;have K2:=K1.tq t2;have g2:=(M f om hn).trans g1;have r2:=(M k om u).trans r1;have R:Sx.Ai h0 h2:=Sb W (g0.trans e1) g;repeat' (first|refine wk ?_|(refine zqq ?_ ?_<;>intro hc<;>(try (exfalso;omega)))|fail)
 .refine Sx.M5 (We tk p L cv l 3 h2 rfl K2.Q.hi K2.c1 K2.ne K2.Mu) λv3 h3 O l3 F q3=>?_;obtain⟨t,G,U,nf⟩:=q3;obtain⟨n1,n2⟩:=nf.one;have g3:=(F f om hn).trans g2;have r3:=(F k om u).trans r2;have t3:TQ tk p f h2 h3:=(TQ.refl K2.Q.hi.at' K2.Q.hq hn).tg O;refine wk ?_;have t4:TQ tk p f h2 (h3.put f (cd [iI c0,.Bv,iI 0,iI 0,iI 0,iI 0,.str s6,iI 0,.Bv,iI 0,ct,.str Uw,iI W0,.str A,.str E,.str I,iI U3,v3,.str Oi,iI Mg] 30)):=t3.put _ rfl hn;refine Asm Z Nj tk p L f k h2.nx cv l (K2.tq t4) ⟨c0,[],0,0,0,0,s6,0,[],0,false,Uw,W0,A,E,I,U3,t.nodes,Oi,Mg⟩ v3 (Sx.A2 ..) ⟨rfl,rfl,rfl,rfl,rfl,rfl,rfl,rfl,rfl⟩ ((gw V) t.nodes (.inr ⟨t,G,U,rfl⟩)) (t4.ApZ R g B) g B ?_ K om Hr u l3 om om ?_ z
  .exact(Sx.Aq _ _ _ Hr).trans r3
  .exact .inr ⟨t,G,U,rfl,nf.To om (by rw[g3];rfl)⟩
 .exact Asm Z Nj tk p L f k h2.nx cv l K2 ⟨c0,[],0,0,0,0,s6,0,[],0,false,Uw,W0,A,E,I,U3,[],Oi,Mg⟩ .Bv g2 ⟨rfl,rfl,rfl,rfl,rfl,rfl,rfl,rfl,rfl⟩ ((gw V) [] (.inl rfl)) R g B r2 K om Hr u (Ye _) om om (.inl ⟨rfl,rfl⟩) z
def Ai6{tk:Nat}{sv:AV}{h:Int}(m:W9 tk o sv j)(j0:0<=h)(p:h<(j.length:Int)):∃s b g,s∈j/\(∀a,Gc 4 sv (iI h) a=.ok (.ptr b g) a)/\∀a,Sx.Bi o a->Ae (some (some 4)) (.ptr b g) a=.ok (.agg (Ze s)) a:=by have l:((h.toNat:Nat):Int)=h:=Tb j0;obtain⟨s,c⟩:∃s,j[h.toNat]?=some s:=⟨_,Yq om⟩;obtain⟨b,g,el⟩:=Sx.R0.elem (f:=Ze) (s:=4) (λ_=>rfl) m.sl c;have k:=el.ia;rw[l]at k;exact⟨s,b,g,Vl c,k,el.all⟩
set_option maxHeartbeats 2000000 in
def A9s(Fg:R38 Z)(U9:R39 Z)(Va:R40 Z)(We:R41 Z 3)(Nj:R42 Z){h0:H}(tk:Nat)(u sv:AV)(L:List Int)(B:List Abn)(c D O:Nat)(h:H)(g0:Sx.Ai h0 h)(S:SIn tk u L sv B h0.nx h)(q:Qr)(hg:h.m.get c=cd (qc q .Bv .Bv .Bv) 30)(E:h0.nx<=c)(G8:c<h.nx)(hn:c≠tk)(hr:h.m.get D=cd zq 30)(hr0:h0.nx<=D)(hrl:D<h.nx)(Hr:D≠c)(P:D≠tk)(hz:QZ q)(J:q.E9=[])(hV:SsV B)(l:q.Wu=[]/\q.s14=[]/\q.s15=[]/\q.c16=0)(M:1<=q.c0/\q.c0<=10)(I:q.Oi∈Sw)(k:1<=q.Mg/\q.Mg<=12)(a:Abn)(ha:a∈B)(U:a.name=q.Uw)(C:q.W0=0\/a.pub=false/\1<=q.W0/\q.W0<=4)(g8:h.m.get O=cd (Ze a) 82)(l8:O<h.nx)(n8:O≠tk)(m8:O≠c)(f0:L2):
 Sx.Ah h0 (AgH B) (Ag6 Z N sv (.ptr D 0) (.ptr tk 0) (.ptr O 0) (.ptr c 0) f0 h):=by
 have B6:=S.hi.at'.lt;have g:=S.lt;have ic:Vu 20 (h.m.get c)=true:=by rw[hg];rfl
 have t0:TQ tk u c h h:=TQ.refl S.hi.at' ic hn;have hT:=(S.q E ic hn G8).Adl Z Fg;have T:∀y,Fo sv y=.ok (iI (B.length:Int)) y:=λ_=>(S.all tk g).sl.Gs;have hss:=(S.all tk g).Mu;have hsp:0<B.length:=Kd.2 (S.all tk g).ne;have Cg:∀(hy:H) (z:Qr) (f:L2),TQ tk u c h hy->hy.m.get c=cd (qc z .Bv .Bv .Bv) 30->QZ z->z.E9=[]->Aqh B z->z.Mg<=12->Sx.Ah h0 (AgH B) (Ag7 Z N sv (.ptr D 0) (.ptr tk 0) (.ptr c 0) f hy):=by intro hy z f ty gy z1 z3 z4 z5;have hl:=ty.lo;exact A9t Z N Fg Va We Nj tk u sv L B c D hy (ty.ApZ g0 g E) (S.tq E ic hn ty) z gy E om hn ((ty.Cf D hrl P Hr).trans hr) hr0 om Hr P z1 z3 hV z4 z5 f
 replace Cg:=(hU Cg)
 rw[AwH];refine Sx.Ey (T _) ?_;refine Sx.M5 (hT _ h t0 om) λv2 h2 e2 l2 Aae q2=>?_;obtain⟨j,rfl,j0,A⟩:=q2;have S2:=S.tg e2;obtain⟨b,b',o,hb,x1,x2⟩:=Ai6 (S2.all tk g) j0 om;have t2:TQ tk u c h h2:=t0.tg e2;have g2:=(Aae c om hn).trans hg;have k2:=(Aae O om n8).trans g8;have w1:=((S2.all tk g).ok b hb).one;have w2:=((S2.all tk g).ok b hb).cell;have w3:=((S2.all tk g).ok a ha).one;have w4:=((S2.all tk g).ok a ha).cell;obtain⟨bn,bp,bm,V,X⟩:=b;obtain⟨an,ap,am,acv,Y⟩:=a;simp only at w1 w2 w3 w4 U C;subst U;have hJ:∀p,TQ tk u c h p->p.m.get c=cd (qc q .Bv .Bv .Bv) 30->Sx.Ah Sx.H0 (λ_ h1=>TQ tk u c p h1/\JQ ⟨q.Uw,ap,am,acv,Y⟩ ⟨bn,bp,bm,V,X⟩ q .Bv .Bv .Bv c h1) (Z.call 31 [.ptr tk 0,.ptr c 0,.agg (Ze ⟨q.Uw,ap,am,acv,Y⟩),.agg (Ze ⟨bn,bp,bm,V,X⟩)] p):=by intro p ex gx;have r:=S.tq E ic hn ex;have X6:=ex.lo;exact U9 tk u L c p q .Bv .Bv .Bv _ _ ⟨r.hi,r.av c E,hn,by omega,⟨rfl,rfl⟩,⟨rfl,rfl⟩,⟨rfl,rfl⟩,ex.isc hn G8,(r.all tk g).ok _ ha,(r.all c E).ok _ ha,(r.all tk g).ok _ hb,(r.all c E).ok _ hb⟩ gx
 replace hJ:=(hU hJ)
 clear S S2 U9 Va We Nj Fg;repeat' (first|with_reducible (first|apply A7|apply A8|apply A9|apply Ba)|((with_reducible apply Sx.M5);exact hT _ _ tqA om;intro vv y ee E8 Bu qq;(try simp only[C9]at E8 Bu);obtain⟨jj,rfl,j0,A⟩:=qq)|(with_reducible (first|apply Cy|apply Cz|apply C0|apply C1);(conv=>lhs;simp(disch:=first|exact dA|fail) [lw, *,x1,x2,k2]);with_reducible (first|apply A7|apply A8|apply A9|apply Ba|apply Cu|(refine Cv (by simp) ?_)|(apply Cw<;>intro hc<;>(try simp only[Bt]at hc)<;>(try (exfalso;omega)))))|(with_reducible (first|apply C2|apply C3)<;>intro hc<;>(try simp only[Bt]at hc)<;>(try (exfalso;omega))))
 .obtain rfl:ap=false:=by assumption
  have R:TQ tk u c h y:=tqA;have W:y.m.get c=cd (qc q .Bv .Bv .Bv) 30:=N4;obtain⟨v,h1,e1,_,tq,Wu,s14,s15,c16,jv,gq⟩:=(gw hJ) y R W
  refine Sx.Ey e1 ?_;refine(gw Cg) h1 _ _ (R.trans tq hn) gq ⟨hz.code,hz.c2,hz.c3,hz.c4,hz.c5,hz.c7,hz.ord,hz.c9,hz.Wz⟩ J ⟨⟨_,ha,rfl,C,?_⟩,M,I,⟨k.1,eu k.2 fe⟩⟩ k.2
  rcases jv with⟨A,K,F,G⟩|⟨A,K,F,G,j5,j6⟩
  .exact .inl ⟨A.trans l.1,K.trans l.2.1,F.trans l.2.2.1,G.trans l.2.2.2⟩
  .exact .inr ⟨_,hb,A.symm,λp=>(by cases p),K,F,G,j5,j6⟩
 .obtain rfl:ap=true:=by assumption
  obtain rfl:bp=true:=by assumption
  have R:TQ tk u c h y:=tqA;have W:y.m.get c=cd (qc q .Bv .Bv .Bv) 30:=N4;obtain⟨v,h1,e1,_,tq,Wu,s14,s15,c16,jv,gq⟩:=(gw hJ) y R W
  refine Sx.Ey e1 ?_;refine(gw Cg) h1 _ _ (R.trans tq hn) gq ⟨hz.code,hz.c2,hz.c3,hz.c4,hz.c5,hz.c7,hz.ord,hz.c9,hz.Wz⟩ J ⟨⟨_,ha,rfl,C,?_⟩,M,I,⟨k.1,eu k.2 fe⟩⟩ k.2
  rcases jv with⟨A,K,F,G⟩|⟨A,K,F,G,j5,j6⟩
  .exact .inl ⟨A.trans l.1,K.trans l.2.1,F.trans l.2.2.1,G.trans l.2.2.2⟩
  .exact .inr ⟨_,hb,A.symm,λ_=>rfl,K,F,G,j5,j6⟩
 all_goals
  have W:y.m.get c=cd (qc q .Bv .Bv .Bv) 30:=N4;exact(gw Cg) y q _ tqA W hz J ⟨⟨_,ha,rfl,C,.inl l⟩,M,I,⟨k.1,eu k.2 fe⟩⟩ k.2
open Tryz
def AuP{sv:AV}{L:List Int}(l:AO)(f:Lf o I L)(C:(L.length:Int)<=9223372036854775807)(B:∀k,o.nx<=k->W9 k o sv j):SIn (o.nx+1) I L sv j o.nx ((o.new l).new (Sx.tkC I 0)):=by
 have g:Sx.Ai o (o.new l):=(Sx.Ai.refl o).new l;have g2:Sx.Ai o ((o.new l).new (Sx.tkC I 0)):=g.new _;have p:∀s∈j,∀b off len cap z ex,s.cv=.sl b off len cap z ex->0<len->b<o.nx/\∀k,B5 (((o.new l).new (Sx.tkC I 0)).m.get b)=some k->k<o.nx:=by intro s r b off len cap z ex f h0;obtain⟨y,A⟩:=((B o.nx (Ye _)).ok s r).cz b off len cap z ex f h0;refine⟨y,λk c=>A k ?_⟩;rw[<- c,g2.Cf b y]
 refine⟨AkJ (h:=o.new l) (Sx.Sl.By f g.keeps) C,Pc _,λk c=>Sl.av f c,λk c=>?_,p⟩;have a:=B k c;refine⟨a.ne,a.Mu,Sx.Sl.By a.sl g2.keeps,a.av,λs r=>?_⟩;have u:=a.ok s r;refine⟨u.nn,u.ne,u.Mu,u.A1.By g2.keeps,u.one,u.cell,λb off len cap z ex f h0=>?_⟩;obtain⟨y,A⟩:=p s r b off len cap z ex f h0;exact⟨by omega,λk c=>by have:=A k c;omega⟩
def R14:Prop:=∀(c sv:AV) (L:List Int) (a:List Abn) (h:H),Lf h c L->(L.length:Int)<=9223372036854775807->(∀k,h.nx<=k->W9 k h sv a)->SsV a->Sx.Ah h (AgH a) (Z.call 8 [c,sv] h)
set_option maxHeartbeats 2000000 in
def r14(Fg:R38 Z)(U9:R39 Z)(Va:R40 Z)(We:R41 Z 3)(Nj:R42 Z)(g sv:AV)(L:List Int)(F:List Abn)(h:H)(Y:Lf h g L)(hl:(L.length:Int)<=9223372036854775807)(hS:∀k,h.nx<=k->W9 k h sv F)(hV:SsV F):Sx.Ah h (AgH F) (Ay prog Z N false 8 [g,sv] h):=by
 rw[e14];obtain⟨o1,o2⟩:=B2 Y;have hss:=(hS _ (Ye _)).Mu;have hsp:0<F.length:=Kd.2 (hS _ (Ye _)).ne;have hlen:∀y,Fo sv y=.ok (iI (F.length:Int)) y:=λ_=>(hS _ (Ye _)).sl.Gs;have S:=AuP (cd zq 30) Y hl hS;have gB:Sx.Ai h ((h.new (cd zq 30)).new (Sx.tkC g 0)):=((Sx.Ai.refl h).new _).new _;have rB:((h.new (cd zq 30)).new (Sx.tkC g 0)).m.get h.nx=cd zq 30:=by
  rw[Sx.Cq (h:=h.new _) _ h.nx (by show h.nx≠h.nx+1;omega)]
  exact Sx.Bf _
 have xB:((h.new (cd zq 30)).new (Sx.tkC g 0)).nx=h.nx+2:=rfl;refine wk ?_;generalize (h.new (cd zq 30)).new (Sx.tkC g 0)=hB at *
 have R:∀(k:Int) (E:H),Sx.TG (h.nx+1) g hB E->k<=9223372036854775807->Sx.D6 (h.nx+1) g E (Below k) (Z.call 30 [.ptr (h.nx+1) 0,iI k] E):=λk E e hk=>Fg (h.nx+1) g L k E (S.hi.tg e).at' (S.hi.tg e).ints S.hi.av S.hi.len hk;have B6:=S.hi.at'.lt;refine Sx.M5 (R _ hB (Sx.TG.refl S.hi.at') om) λv2 h2 e2 l2 Aae q2=>?_;obtain⟨j,rfl,j0,j1⟩:=q2;have S2:=S.tg e2;obtain⟨a,b',o,ha,x1,x2⟩:=Ai6 (S2.all (h.nx+1) (Pc _)) j0 om;have w1:=((S2.all (h.nx+1) (Pc _)).ok a ha).one;have w2:=((S2.all (h.nx+1) (Pc _)).ok a ha).cell;obtain⟨P,ap,T,D,B⟩:=a;simp only at w1 w2;have r2:=(Aae h.nx om om).trans rB;have X:∀(hy:H) (c:Qr) (l p:Nat) (f:L2),Sx.TG (h.nx+1) g h2 hy->h2.nx<=l->l<hy.nx->hy.m.get l=cd (qc c .Bv .Bv .Bv) 30->QZ c->c.E9=[]->c.Uw=P->(c.Wu=[]/\c.s14=[]/\c.s15=[]/\c.c16=0)->(1<=c.c0/\c.c0<=10)->c.Oi∈Sw->(1<=c.Mg/\c.Mg<=12)->(c.W0=0\/ap=false/\1<=c.W0/\c.W0<=4)->hy.m.get p=cd (Ze ⟨P,ap,T,D,B⟩) 82->p<hy.nx->h2.nx<=p->p≠l->Sx.Ah h (AgH F) (Ag6 Z N sv (.ptr h.nx 0) (.ptr (h.nx+1) 0) (.ptr p 0) (.ptr l 0) f hy):=by intro hy c l p f ty z0 z1 gy z2 z4 z5 y1 y2 y3 y4 y5 g8 z6 z7 z8;have tl:=ty.lo;exact A9s Z N Fg U9 Va We Nj (h.nx+1) g sv L F l h.nx p hy (Sb ty (Sb e2 gB (Pc _)) (Pc _)) (S2.tg ty) c gy om z1 om ((ty.Cf h.nx om om).trans r2) (Ye _) om om om z2 z4 hV y1 y2 y3 y4 _ ha z5.symm y5 g8 z6 om z8 f
 replace X:=(hU X)
 have t2:Sx.TG (h.nx+1) g hB h2:=e2;have u2:Sx.TG (h.nx+1) g h2 h2:=Sx.TG.refl S2.hi.at';clear S S2 U9 Va We Nj Fg hS hV Y hl r2 rB gB Aae e2;refine wd ?_;refine Sx.M5 (R 10 _ Sx.L5 om) λv10 C e10 l10 O q10=>?_;obtain⟨r,rfl,k11,k12⟩:=q10;simp only[C9]at l10 O;refine wd ?_;have U:Sx.TG (h.nx+1) g hB C:=Sx.L5;have k8:C.m.get h2.nx=cd (Ze ⟨P,ap,T,D,B⟩) 82:=(O h2.nx om om).trans (Sx.A2 ..);refine Sx.M5 (R 5 _ Sx.L5 om) λD5 Mt e15 l15 A q15=>?_;obtain⟨M,rfl,k16,k17⟩:=q15;have Aq5:Sx.R0 1 (λs:uw=>[AV.str s]) ((Ab C).new (cd [.str [50],.str tx,.str uy,.str [51],.str uj] 28)) (.sl C.nx 0 5 5 1 true) [[50],tx,uy,[51],uj]:=Sx.Sl.lit (h:=Ab C) (Sx.Bf _) rfl rfl;have K:=Sx.Sl.tg Aq5 ((U.nl.new _).at B6) (λb off len cap z ex Y h0=>by cases Y;omega) e15;have X4:((M.toNat:Nat):Int)=M:=Tb k16;obtain⟨fs,hn⟩:∃n,[[50],tx,uy,[51],uj][M.toNat]?=some n:=⟨_,Yq (by simp;omega)⟩;obtain⟨b5,o5,el⟩:=Sx.R0.elem (f:=λs:uw=>[AV.str s]) (s:=1) (λ_=>rfl) K hn;obtain⟨_,_,_,W⟩:=Acg K (by simp;omega) el;obtain rfl:C.nx=b5:=by cases W;rfl
 have x3:=el.ia;rw[X4]at x3;have x4:=el.part 0 _ rfl;rw[Vw]at x4;have G:fs∈Sw:=Vl hn;have c5:B5 (Mt.m.get C.nx)=none:=by simp only[C9]at A;rw[A C.nx om om];exact Jh B5 (Sx.Bf (h:=Ab C) _)
 clear el Aq5 K hn W;simp only[C9]at l15 A;refine wd ?_;refine Sx.M5 (R 12 _ Sx.L5 om) λHt J e18 l18 I q18=>?_;obtain⟨u,rfl,k19,k20⟩:=q18;simp only[C9]at l18 I;refine wd ?_;refine Sx.Pu (h.nx+1) h2.nx ?_ λAal Wp=>?_
 .simp only[Tl,Ww,Pl,G4,Jj];repeat' (refine And.intro ?_ ?_)
  all_goals first|(left;simp;done)|(left;rfl)|(refine .inr ⟨λx E=>?_,?_⟩;(focus first|exact .inl (Sx.TG.wrote (by assumption) x E)|(refine .inr ?_;have hz:=(Sx.D4 _ _ _ E).1;simp at hz;omega));(repeat' (refine And.intro ?_ ?_));all_goals first|(exact Sx.Ar ..)|(refine Sx.Ax _ _ _ _ _ _ _ _ _ _ _ _ ?_;decide)|exact Sx.Ci ..|exact Sx.Dk (tk:=h.nx+1) (Sx.TG.wrote (by assumption)) Ce (.inl rfl)|exact Sx.Dk (tk:=h.nx+1) (Sx.TG.wrote (by assumption)) Ce (.inr ⟨_,_,_,rfl,by omega,Jh B5 k8⟩)|exact Sx.Dk (tk:=h.nx+1) (Sx.TG.wrote (by assumption)) Ce (.inr ⟨_,_,_,rfl,by omega,c5⟩))
 .clear U;generalize V:Be Aal _=hz;have tz:Sx.TG (h.nx+1) g h2 hz:=by rw[<- V];refine Sx.TG.reL ?_ ?_ Wp<;>exact Sx.L5
  have gq:hz.m.get J.nx=cd [iI (1+r),.Bv,iI 0,iI 0,iI 0,iI 0,.str [],iI 0,.Bv,iI 0,ct,.str P,iI 0,.str [],.str [],.str [],iI 0,.Bv,.str fs,iI (1+u)] 30:=by rw[<- V];exact Sx.A2 ..
  have g8:hz.m.get h2.nx=cd (Ze ⟨P,ap,T,D,B⟩) 82:=by
   rw[<- V];show(H.put _ _ _).m.get _=_;rw[Sx.Aq _ _ _ om];show(H.new _ _).m.get _=_;rw[Sx.Cq (h:=Ab J) _ _ (by show h2.nx≠J.nx;omega)]
   show J.m.get _=_;rw[I h2.nx om om];show Mt.m.get _=_;rw[A h2.nx om om];show(H.new _ _).m.get _=_;rw[Sx.Cq (h:=Ab C) _ _ (by show h2.nx≠C.nx;omega)]
   exact k8
  have xz:hz.nx=J.nx+1:=by rw[<- V];rfl
  have tB:=t2.trans tz;have gt:h2.nx<J.nx:=by omega
  generalize J.nx=l at *
  generalize hb8:h2.nx=p at *
  clear V Wp I A O e10 e15 e18 x3 x4 c5 k8 x1 x2 u2;have tz0:Sx.TG (h.nx+1) g hz hz:=Sx.TG.refl (tB.at B6);cases ap
  . (repeat' (first|refine wk ?_|((with_reducible apply Sx.M5);exact R _ _ Sx.L5 om;intro vv y ee E8 Bu qq;(try simp only[C9]at E8 Bu);obtain⟨jj,rfl,j0,j1⟩:=qq)|(refine zqq ?_ ?_<;>intro hc<;>(try (exfalso;omega)))|fail))
    .have te:Sx.TG (h.nx+1) g hz y:=by rename_i hh0 e0 _ _ _ _ _;exact Sx.TG.trans e0 ee
     have ge:y.m.get p=cd (Ze ⟨P,false,T,D,B⟩) 82:=N4;refine(gw X) _ ⟨_,[],_,_,_,_,_,_,[],_,_,_,_,_,_,_,_,[],_,_⟩ l p _ ((tz.trans te).Aiq l _ om) om (show l<y.nx by omega) (Sx.A2 ..) ⟨rfl,rfl,rfl,rfl,rfl,rfl,rfl,rfl,rfl⟩ rfl rfl ⟨rfl,rfl,rfl,rfl⟩ ⟨by show 1<=1+r;omega,by show 1+r<=10;omega⟩ G ⟨by show 1<=1+u;omega,by show 1+u<=12;omega⟩ (.inr ⟨rfl,by show(1:Int)<=1+_;omega,by show 1+_<=(4:Int);omega⟩) ?_ (show p<y.nx by omega) (Ye _) om
     exact(Sx.Aq _ _ _ om).trans ge
    .have te:Sx.TG (h.nx+1) g hz y:=Sx.L5;have ge:y.m.get p=cd (Ze ⟨P,false,T,D,B⟩) 82:=N4;exact(gw X) y ⟨_,[],_,_,_,_,_,_,[],_,_,_,_,_,_,_,_,[],_,_⟩ l p _ (tz.trans te) om om ((Bu l om om).trans gq) ⟨rfl,rfl,rfl,rfl,rfl,rfl,rfl,rfl,rfl⟩ rfl rfl ⟨rfl,rfl,rfl,rfl⟩ ⟨by show 1<=1+r;omega,by show 1+r<=10;omega⟩ G ⟨by show 1<=1+u;omega,by show 1+u<=12;omega⟩ (.inl rfl) ge om (Ye _) om
  . (repeat' (first|refine wk ?_|((with_reducible apply Sx.M5);exact R _ _ Sx.L5 om;intro vv y ee E8 Bu qq;(try simp only[C9]at E8 Bu);obtain⟨jj,rfl,j0,j1⟩:=qq)));exact(gw X) hz ⟨_,[],_,_,_,_,_,_,[],_,_,_,_,_,_,_,_,[],_,_⟩ l p _ tz om om gq ⟨rfl,rfl,rfl,rfl,rfl,rfl,rfl,rfl,rfl⟩ rfl rfl ⟨rfl,rfl,rfl,rfl⟩ ⟨by show 1<=1+r;omega,by show 1+r<=10;omega⟩ G ⟨by show 1<=1+u;omega,by show 1+u<=12;omega⟩ (.inl rfl) g8 om (Ye _) om
def Abs{α:Type}(p:α->Bool):List α->Int->Int
|[],_=>-1
|x::l,i=>if p x=true then i else Abs p l (i+1)
def Amt{l:List p}{i:Int}{x:p}(h0:0<=i)(h:l[i.toNat]?=some x):l.drop i.toNat=x::l.drop (i+1).toNat:=by
 rw[show(i+1).toNat=i.toNat+1 by omega]
 obtain⟨h1,h2⟩:=Xh.1 h;rw[Pr h1,h2]
def AjH{α:Type}{p:α->Bool}:∀{l:List α} {i:Int},(∀x∈l,p x=false)->Abs p l i=-1
|[],i,h=>rfl
|x::l,i,h=>by unfold Abs;rw[X2 (by rw[h x (Wm ..)];decide)];exact AjH λy hy=>h y (Wr _ hy)
def Agx{α:Type}{p:α->Bool}:∀{l:List α} {i:Int},(∃x∈l,p x=true)->∃(m:Nat) (x:α),Abs p l i=i+m/\l[m]?=some x/\p x=true
|[],i,h=>by obtain⟨x,a,_⟩:=h;cases a
|y::l,i,h=>by
 unfold Abs;by_cases hy:p y=true
 .rw[Xo hy];exact⟨0,y,by omega,rfl,hy⟩
 .rw[X2 hy];obtain⟨x,a,c⟩:=h;rcases Wf.1 a with rfl|a
  .exact absurd c hy
  .obtain⟨m,z,h1,h2,f⟩:=Agx (l:=l) (i:=i+1) ⟨x,a,c⟩;exact⟨m+1,z,by omega,h2,f⟩
def Cfx:Prop:=∀(s:Abn) (nm:uw) (b:Nat) (h:H),Ge s.cv=true->cellsOf s.cv=some [s.cv]->h.m.get b=cd [.str nm] 9->b<h.nx->Sx.Ah h (λr _=>r=.bool (decide (s.name=nm))) (Z.call 125 [.agg (Ze s),.ptr b 0] h)
def Cv9(s:Abn)(nm:uw)(b:Nat)(h:H)(h1:Ge s.cv=true)(h2:cellsOf s.cv=some [s.cv])(a:h.m.get b=cd [.str nm] 9)(hb:b<h.nx):Sx.Ah h (λr _=>r=.bool (decide (s.name=nm))) (ml Z N 125 [.agg (Ze s),.ptr b 0] h):=by
 rw[Crd];have c:b≠h.nx:=by omega
 refine wk ?_;exact zr Ex rfl
def Cfz:Prop:=∀(c:Aaw) (nm:uw) (b:Nat) (h:H),Ge c.w=true->cellsOf c.w=some [c.w]->h.m.get b=cd [.str nm] 9->b<h.nx->Sx.Ah h (λr _=>r=.bool (decide (c.name=nm))) (Z.call 142 [.agg (Hx c),.ptr b 0] h)
def CvN(c:Aaw)(nm:uw)(b:Nat)(h:H)(h1:Ge c.w=true)(h2:cellsOf c.w=some [c.w])(a:h.m.get b=cd [.str nm] 9)(hb:b<h.nx):Sx.Ah h (λr _=>r=.bool (decide (c.name=nm))) (ml Z N 142 [.agg (Hx c),.ptr b 0] h):=by
 rw[Crr];have f:b≠h.nx:=by omega
 refine wk ?_;exact zr Ex rfl
def AeY{P:Program}{Z:Ac}(g:FuncId)(a c args:uz):cvV (.fn (.func g) a c) args P Z o=if Bg P g=true then Z.call g ((a++args)++c) o else AgK (Uk P g) ((a++args)++c) o:=by show(@Bool.rec (λ_=>OR) (AgK (Uk P g) (J0 (J0 a args) c) o) (Z.call g (J0 (J0 a args) c) o) (Bg P g):OR)=_;rw[Dl,Dl];cases Bg P g<;>rfl
def Cij{h:H}{k c:IntKind}(a b:Int):mm false [.int k a,.int c b] h=.ok (.int k (if a<b then b else a)) h:=by
 show(.ok (.int k (@Bool.rec (λ_=>Int) a b (ilt a b))) h:OR)=_;rw[Il];by_cases hb:a<b
 .rw[Xo hb,Ws hb]
 .rw[X2 hb,Yg hb]
def Clh(x w:AV)(h:H):cvV (.fn (.func 125) [] [w]) [x] prog Z h=Z.call 125 [x,w] h:=by rw[AeY,Xo (by kernel_rfl)];rfl
def Cli(x w:AV)(h:H):cvV (.fn (.func 142) [] [w]) [x] prog Z h=Z.call 142 [x,w] h:=by rw[AeY,Xo (by kernel_rfl)];rfl
def Byt(c:Cfx Z)(nm:uw)(b:Nat)(v:AV)(l:List Abn)(h:H)(y:Sx.R0 4 Ze h v l)(B:∀s∈l,Ge s.cv=true/\cellsOf s.cv=some [s.cv])(g:h.m.get b=cd [.str nm] 9)(hb:b<h.nx)(G:l.length<=1000000000):
 ∀(k:Nat) (i:Int) (n:Nat) (hd:H) (f0:L2),i+(k:Int)=(l.length:Int)->0<=i->k<n->Sx.Ai h hd->Sx.Ah h (λr _=>r=iI (Abs (λs:Abn=>decide (s.name=nm)) (l.drop i.toNat) i)) (Bis Z N n v (.fn (.func 125) [] [.ptr b 0]) (iI (l.length:Int)) (iI i) f0 hd)
 |0,i,n,hd,f0,I,p,hn,a=>by obtain⟨n1,rfl⟩:=mg n;have D:decide (i<(l.length:Int))=false:=df;rw[Bxg];refine wk ?_;exact zr a (by rw[Ts om];rfl)
 |k+1,i,n,hd,f0,I,p,hn,a=>by
  obtain⟨n1,rfl⟩:=mg n;have J:=Byt c nm b v l h y B g hb G k (i+1) n1;have D:decide (i<(l.length:Int))=true:=dt;have C:((i.toNat:Nat):Int)=i:=Tb p;obtain⟨x,j⟩:∃x,l[i.toNat]?=some x:=⟨_,Yq om⟩;obtain⟨b1,P,el⟩:=Sx.R0.elem (f:=Ze) (s:=4) (λ_=>rfl) (Sx.Sl.By y a.keeps) j;have z:=Vl j;have A:=Amt p j;have K:=el.ia;rw[C]at K;have S:=el.all;have u:=(a.Cf b hb).trans g;have E:=Yy hb a.lo;obtain⟨w1,w2⟩:=B x z;clear el C j y;rw[Bxg,A,Abs];simp only[Pj,Qw,gj,Dv,Dc,mM,mL,mC,Clh];(repeat' (first|refine wk ?_|(refine Pd (c x nm b _ w1 w2 u E) ?_;intro T R O M L F;subst F)|(refine zqq ?_ ?_<;>intro U<;>(try (exfalso;omega)))|fail))
  .refine zr Ex ?_;rw[Xo (by simp[*])]
  .rw[X2 (by simp[*])];exact J _ _ om om om Ex
def CjD:Prop:=∀(nm:uw) (b:Nat) (v:AV) (l:List Abn) (h:H),Sx.R0 4 Ze h v l->(∀s∈l,Ge s.cv=true/\cellsOf s.cv=some [s.cv])->h.m.get b=cd [.str nm] 9->b<h.nx->l.length<=50->Sx.Ah h (λr _=>r=iI (Abs (λs:Abn=>decide (s.name=nm)) l 0)) (Z.call 124 [v,.fn (.func 125) [] [.ptr b 0]] h)
def Cv8(k:100<N)(a:Cfx Z)(nm:uw)(b:Nat)(v:AV)(l:List Abn)(h:H)(c:Sx.R0 4 Ze h v l)(f:∀s∈l,Ge s.cv=true/\cellsOf s.cv=some [s.cv])(g:h.m.get b=cd [.str nm] 9)(hb:b<h.nx)(j:l.length<=50):Sx.Ah h (λr _=>r=iI (Abs (λs:Abn=>decide (s.name=nm)) l 0)) (ml Z N 124 [v,.fn (.func 125) [] [.ptr b 0]] h):=by rw[Crc];refine Sx.Ey (c.Gs) ?_;exact Byt Z N a nm b v l h c f g hb om l.length 0 N h _ om om om (Sx.Ai.refl h)
def Byw(c:Cfz Z)(nm:uw)(b:Nat)(v:AV)(l:List Aaw)(h:H)(y:Sx.R0 4 Hx h v l)(B:∀s∈l,Ge s.w=true/\cellsOf s.w=some [s.w])(g:h.m.get b=cd [.str nm] 9)(hb:b<h.nx)(G:l.length<=1000000000):
 ∀(k:Nat) (i:Int) (n:Nat) (hd:H) (f0:L2),i+(k:Int)=(l.length:Int)->0<=i->k<n->Sx.Ai h hd->Sx.Ah h (λr _=>r=iI (Abs (λs:Aaw=>decide (s.name=nm)) (l.drop i.toNat) i)) (Be6 Z N n v (.fn (.func 142) [] [.ptr b 0]) (iI (l.length:Int)) (iI i) f0 hd)
 |0,i,n,hd,f0,I,p,hn,a=>by obtain⟨n1,rfl⟩:=mg n;have D:decide (i<(l.length:Int))=false:=df;rw[Bcl];refine wk ?_;exact zr a (by rw[Ts om];rfl)
 |k+1,i,n,hd,f0,I,p,hn,a=>by
  obtain⟨n1,rfl⟩:=mg n;have J:=Byw c nm b v l h y B g hb G k (i+1) n1;have D:decide (i<(l.length:Int))=true:=dt;have C:((i.toNat:Nat):Int)=i:=Tb p;obtain⟨x,j⟩:∃x,l[i.toNat]?=some x:=⟨_,Yq om⟩;obtain⟨b1,P,el⟩:=Sx.R0.elem (f:=Hx) (s:=4) (λ_=>rfl) (Sx.Sl.By y a.keeps) j;have z:=Vl j;have A:=Amt p j;have K:=el.ia;rw[C]at K;have S:=el.all;have u:=(a.Cf b hb).trans g;have E:=Yy hb a.lo;obtain⟨w1,w2⟩:=B x z;clear el C j y;rw[Bcl,A,Abs];simp only[Pj,Qw,gj,Dv,Dc,mM,mL,mC,Cli];(repeat' (first|refine wk ?_|(refine Pd (c x nm b _ w1 w2 u E) ?_;intro T R O M L F;subst F)|(refine zqq ?_ ?_<;>intro U<;>(try (exfalso;omega)))|fail))
  .refine zr Ex ?_;rw[Xo (by simp[*])]
  .rw[X2 (by simp[*])];exact J _ _ om om om Ex
def CjJ:Prop:=∀(nm:uw) (b:Nat) (v:AV) (l:List Aaw) (h:H),Sx.R0 4 Hx h v l->(∀s∈l,Ge s.w=true/\cellsOf s.w=some [s.w])->h.m.get b=cd [.str nm] 9->b<h.nx->l.length<=50->Sx.Ah h (λr _=>r=iI (Abs (λs:Aaw=>decide (s.name=nm)) l 0)) (Z.call 141 [v,.fn (.func 142) [] [.ptr b 0]] h)
def CvM(k:100<N)(a:Cfz Z)(nm:uw)(b:Nat)(v:AV)(l:List Aaw)(h:H)(c:Sx.R0 4 Hx h v l)(f:∀s∈l,Ge s.w=true/\cellsOf s.w=some [s.w])(g:h.m.get b=cd [.str nm] 9)(hb:b<h.nx)(j:l.length<=50):Sx.Ah h (λr _=>r=iI (Abs (λs:Aaw=>decide (s.name=nm)) l 0)) (ml Z N 141 [v,.fn (.func 142) [] [.ptr b 0]] h):=by rw[Clo];refine Sx.Ey (c.Gs) ?_;exact Byw Z N a nm b v l h c f g hb om l.length 0 N h _ om om om (Sx.Ai.refl h)
def Byv(y:Int)(v:AV)(l:List Int)(h:H)(j:Sx.R0 1 (λn:Int=>[AV.int .i64 n]) h v l)(B:l.length<=1000000000):
 ∀(k:Nat) (i:Int) (n:Nat) (hd:H) (f0:L2),i+(k:Int)=(l.length:Int)->0<=i->k<n->Sx.Ai h hd->Sx.Ah h (λr _=>r=iI (Abs (λx:Int=>decide (y=x)) (l.drop i.toNat) i)) (BiB Z N n v (iI y) (iI (l.length:Int)) (iI i) f0 hd)
 |0,i,n,hd,f0,A,g,hn,m=>by obtain⟨n1,rfl⟩:=mg n;have u:decide (i<(l.length:Int))=false:=df;rw[Bxi];refine wk ?_;exact zr m (by rw[Ts om];rfl)
 |k+1,i,n,hd,f0,A,g,hn,m=>by
  obtain⟨n1,rfl⟩:=mg n;have C:=Byv y v l h j B k (i+1) n1;have u:decide (i<(l.length:Int))=true:=dt;have p:((i.toNat:Nat):Int)=i:=Tb g;obtain⟨x,a⟩:∃x,l[i.toNat]?=some x:=⟨_,Yq om⟩;obtain⟨b1,G,el⟩:=Sx.R0.elem (f:=λn:Int=>[AV.int .i64 n]) (s:=1) (λ_=>rfl) (Sx.Sl.By j m.keeps) a;have z:=Vl a;have c:=Amt g a;have D:=el.ia;rw[p]at D;have E:=el.part 0 _ rfl;rw[Vw]at E;clear el p a j;rw[Bxi,c,Abs];repeat' (first|refine wk ?_|(refine zqq ?_ ?_<;>intro F<;>(try (exfalso;omega)))|fail)
  .refine zr Ex ?_;rw[Xo (by simp[*])]
  .rw[X2 (by simp[*])];exact C _ _ om om om Ex
def CjE:Prop:=∀(y:Int) (v:AV) (l:List Int) (h:H),Sx.R0 1 (λn:Int=>[AV.int .i64 n]) h v l->l.length<=50->Sx.Ah h (λr _=>r=.bool (decide (y∈l))) (Z.call 127 [v,iI y] h)
def CjI:Prop:=∀(y:Int) (v:AV) (l:List Int) (h:H),Sx.R0 1 (λn:Int=>[AV.int .i64 n]) h v l->l.length<=50->Sx.Ah h (λr _=>r=iI (Abs (λx:Int=>decide (y=x)) l 0)) (Z.call 162 [v,iI y] h)
def CvL(c:100<N)(y:Int)(v:AV)(l:List Int)(h:H)(a:Sx.R0 1 (λn:Int=>[AV.int .i64 n]) h v l)(f:l.length<=50):Sx.Ah h (λr _=>r=iI (Abs (λx:Int=>decide (y=x)) l 0)) (ml Z N 162 [v,iI y] h):=by rw[Crq];refine Sx.Ey (a.Gs) ?_;exact Byv Z N y v l h a om l.length 0 N h _ om om om (Sx.Ai.refl h)
def AuZ{α:p->Bool}{l:List p}:decide (0<=Abs α l 0)=decide (∃x∈l,α x=true):=by
 rw[cj];constructor
 .intro h;apply Classical.byContradiction;intro hn;have:=AjH (p:=α) (l:=l) (i:=0) λx c=>by
   cases a:α x with
   |false=>rfl
   |true=>exact absurd ⟨x,c,a⟩ hn
  omega
 .intro h;obtain⟨m,x,h1,_⟩:=Agx (i:=0) h;omega
def CvA(a:CjI Z)(y:Int)(v:AV)(l:List Int)(h:H)(g:Sx.R0 1 (λn:Int=>[AV.int .i64 n]) h v l)(f:l.length<=50):Sx.Ah h (λr _=>r=.bool (decide (y∈l))) (ml Z N 127 [v,iI y] h):=by rw[Cre];(repeat' (first|refine wk ?_|(refine Pd (a y v l _ g f) ?_;intro j m u p k c;subst c)|fail));refine zr Ex ?_;rw[AuZ];congr 1;rw[cj];simp
def AzY(y:uw)(v:AV)(l:List uw)(h:H)(j:Ig h v l)(B:l.length<=1000000000):
 ∀(k:Nat) (i:Int) (n:Nat) (hd:H) (f0:L2),i+(k:Int)=(l.length:Int)->0<=i->k<n->Sx.Ai h hd->Sx.Ah h (λr _=>r=iI (Abs (λx:uw=>decide (y=x)) (l.drop i.toNat) i)) (Asv Z N n v (.str y) (iI (l.length:Int)) (iI i) f0 hd)
 |0,i,n,hd,f0,A,g,hn,m=>by obtain⟨n1,rfl⟩:=mg n;have u:decide (i<(l.length:Int))=false:=df;rw[Ays];refine wk ?_;exact zr m (by rw[Ts om];rfl)
 |k+1,i,n,hd,f0,A,g,hn,m=>by
  obtain⟨n1,rfl⟩:=mg n;have C:=AzY y v l h j B k (i+1) n1;have u:decide (i<(l.length:Int))=true:=dt;have p:((i.toNat:Nat):Int)=i:=Tb g;obtain⟨x,a⟩:∃x,l[i.toNat]?=some x:=⟨_,Yq om⟩;obtain⟨b1,G,el⟩:=Sx.R0.elem (f:=Aeb) (s:=1) (λ_=>rfl) (Sx.Sl.By j m.keeps) a;have z:=Vl a;have c:=Amt g a;have D:=el.ia;rw[p]at D;have E:=el.part 0 _ rfl;rw[Vw]at E;clear el p a j;rw[Ays,c,Abs];repeat' (first|refine wk ?_|(refine zqq ?_ ?_<;>intro F<;>(try (exfalso;omega)))|fail)
  .refine zr Ex ?_;rw[Xo (by simp[*])]
  .rw[X2 (by simp[*])];exact C _ _ om om om Ex
def Be2:Prop:=∀(y:uw) (v:AV) (l:List uw) (h:H),Ig h v l->l.length<=50->Sx.Ah h (λr _=>r=.bool (decide (y∈l))) (Z.call 184 [v,.str y] h)
def BeF:Prop:=∀(y:uw) (v:AV) (l:List uw) (h:H),Ig h v l->l.length<=50->Sx.Ah h (λr _=>r=iI (Abs (λx:uw=>decide (y=x)) l 0)) (Z.call 208 [v,.str y] h)
def Bly(c:100<N)(y:uw)(v:AV)(l:List uw)(h:H)(a:Ig h v l)(f:l.length<=50):Sx.Ah h (λr _=>r=iI (Abs (λx:uw=>decide (y=x)) l 0)) (ml Z N 208 [v,.str y] h):=by rw[Bj7];refine Sx.Ey (a.Gs) ?_;exact AzY Z N y v l h a om l.length 0 N h _ om om om (Sx.Ai.refl h)
def Blk(a:BeF Z)(y:uw)(v:AV)(l:List uw)(h:H)(g:Ig h v l)(f:l.length<=50):Sx.Ah h (λr _=>r=.bool (decide (y∈l))) (ml Z N 184 [v,.str y] h):=by rw[Bjv];(repeat' (first|refine wk ?_|(refine Pd (a y v l _ g f) ?_;intro j m u p k c;subst c)|fail));refine zr Ex ?_;rw[AuZ];congr 1;rw[cj];simp
def Cfw:Prop:=∀(i:Int) (h:H),Sx.Ah h (λr _=>r=.Bj [iI (if i<0 then 0 else i),.bool (decide (0<=i))]) (Z.call 123 [iI i] h)
def Cv7(i:Int)(h:H):Sx.Ah h (λr _=>r=.Bj [iI (if i<0 then 0 else i),.bool (decide (0<=i))]) (ml Z N 123 [iI i] h):=by
 rw[Crb];(have a:=@Cij;refine wk ?_)
 refine zr Ex ?_;rfl
def BnE{h:H}(e:TypeId)(s:uw):Oy e (.str s) h=.ok (.ptr h.nx 0) (h.new (cd [.str s] e)):=rfl
def BjO{h:H}(e:TypeId)(k:IntKind)(n:Int):Oy e (.int k n) h=.ok (.ptr h.nx 0) (h.new (cd [.int k n] e)):=rfl
def Ceo{h:H}(e:TypeId)(f:Fn)(a c:uz):Oy e (.fn f a c) h=.ok (.ptr h.nx 0) (h.new (cd [.fn f a c] e)):=rfl
structure SsR(h:H)(v:AV)(l:List Abn):Prop where
 sl:Sx.R0 4 Ze h v l
 one:∀s∈l,Ge s.cv=true/\cellsOf s.cv=some [s.cv]
 Mu:l.length<=50
structure CsR(h:H)(v:AV)(l:List Aaw):Prop where
 sl:Sx.R0 4 Hx h v l
 one:∀c∈l,Ge c.w=true/\cellsOf c.w=some [c.w]
 Mu:l.length<=50
def SsR.By{h1:H}(a:SsR o I j)(e:Sx.Bi o h1):SsR h1 I j:=⟨Sx.Sl.By a.sl e,a.one,a.Mu⟩
def CsR.By{h1:H}{l:List Aaw}(a:CsR o I l)(e:Sx.Bi o h1):CsR h1 I l:=⟨Sx.Sl.By a.sl e,a.one,a.Mu⟩
def Brp(l:List Abn)(nm:uw)(r:AV):Prop:=((∀s∈l,s.name≠nm)->r=.Bj [iI 0,ct])/\((∃s∈l,s.name=nm)->∃(i:Nat) (s:Abn),l[i]?=some s/\s.name=nm/\r=.Bj [iI i,ux])
def Cbx(l:List Abn)(nm:uw):Brp l nm (.Bj [iI (if Abs (λs:Abn=>decide (s.name=nm)) l 0<0 then 0 else Abs (λs:Abn=>decide (s.name=nm)) l 0),.bool (decide (0<=Abs (λs:Abn=>decide (s.name=nm)) l 0))]):=by
 constructor
 .intro hn;rw[AjH λs a=>Yg (hn s a)];rfl
 .rintro ⟨s,a,hn⟩;obtain⟨m,x,h1,h2,c⟩:=Agx (p:=λs:Abn=>decide (s.name=nm)) (l:=l) (i:=0) ⟨s,a,Ws hn⟩;refine⟨m,x,h2,az c,?_⟩;rw[h1,X2 om,Ws om,Iq]
def R84:Prop:=∀(v:AV) (l:List Abn) (nm:uw) (h:H),SsR h v l->Sx.Ah h (λr _=>Brp l nm r) (Z.call 92 [v,.str nm] h)
def r84(c:CjD Z)(a:Cfw Z)(v:AV)(l:List Abn)(nm:uw)(h:H)(f:SsR h v l):Sx.Ah h (λr _=>Brp l nm r) (ml Z N 92 [v,.str nm] h):=by
 rw[e84];have h1:=c nm h.nx v l _ (Sx.Sl.By f.sl ((Sx.Ai.refl h).new (cd [.str nm] 9)).keeps) f.one (Sx.Bf _) (Y3 _) f.Mu;(have k:=@BnE;refine wk ?_)
 refine Fj h1 λv1 h2 A l2 g m=>?_;subst m;(repeat' (first|refine wk ?_|(refine Pd (a _ _) ?_;intro p y B z u j;subst j)|fail));exact zr Ex (Cbx l nm)
def Cfy:Prop:=∀(s:Abn) (nm:uw) (h:H),CsR h s.cv s.A1->Ge s.cv=true->cellsOf s.cv=some [s.cv]->Sx.Ah h (λr _=>r=.Bj [iI (if Abs (λs:Aaw=>decide (s.name=nm)) s.A1 0<0 then 0 else Abs (λs:Aaw=>decide (s.name=nm)) s.A1 0),.bool (decide (0<=Abs (λs:Aaw=>decide (s.name=nm)) s.A1 0))]) (Z.call 105 [.agg (Ze s),.str nm] h)
def CvB(f:CjJ Z)(c:Cfw Z)(s:Abn)(nm:uw)(h:H)(a:CsR h s.cv s.A1)(y:Ge s.cv=true)(p:cellsOf s.cv=some [s.cv]):Sx.Ah h (λr _=>r=.Bj [iI (if Abs (λs:Aaw=>decide (s.name=nm)) s.A1 0<0 then 0 else Abs (λs:Aaw=>decide (s.name=nm)) s.A1 0),.bool (decide (0<=Abs (λs:Aaw=>decide (s.name=nm)) s.A1 0))]) (ml Z N 105 [.agg (Ze s),.str nm] h):=by
 rw[Crf];obtain⟨j,k,sm,cv,A1⟩:=s;simp only at a y p ⊢;(have m:=@BnE;refine wk ?_)
 have g1:Sx.Ai h ((h.new (cd [.str j,.bool k,iI sm,cv] 82)).new (cd [.str nm] 9)):=((Sx.Ai.refl h).new _).new _;have h1:=f nm (h.nx+1) cv A1 _ (Sx.Sl.By a.sl g1.keeps) a.one (Sx.Bf (h:=h.new _) _) (Y3 _) a.Mu;refine Fj h1 λv1 h2 E l2 g u=>?_;subst u;(repeat' (first|refine wk ?_|(refine Pd (c _ _) ?_;intro A B C D z l;subst l)|fail));exact zr Ex rfl
def Ces(l:List Aaw)(nm:uw)(r:AV):Prop:=∃c∈l,c.name=nm/\r=.Bj [.agg (Hx c),ux]
def R87:Prop:=∀(v:AV) (l:List Aaw) (nm:uw) (h:H),CsR h v l->(∃c∈l,c.name=nm)->Sx.Ah h (λr _=>Ces l nm r) (Z.call 96 [v,.str nm] h)
def r87(y:Cfy Z)(v:AV)(l:List Aaw)(nm:uw)(h:H)(j:CsR h v l)(E:∃c∈l,c.name=nm):Sx.Ah h (λr _=>Ces l nm r) (ml Z N 96 [v,.str nm] h):=by
 rw[e87];obtain⟨I,F⟩:=B2 j.sl;obtain⟨c,u,k⟩:=E;obtain⟨m,x,B,z,A⟩:=Agx (p:=λs:Aaw=>decide (s.name=nm)) (l:=l) (i:=0) ⟨c,u,Ws k⟩;have C:=az A;have a:=Vl z;obtain⟨w1,w2⟩:=j.one x a;have h1:=λD e=>y ⟨[],false,0,v,l⟩ nm D (j.By e) I F;simp only[B,Iq]at h1;obtain⟨b1,p1,el⟩:=Sx.R0.elem (f:=Hx) (s:=4) (λ_=>rfl) j.sl z;have K:=el.ia;have J:=el.all;have n1:¬ ((m:Int)<0):=by omega
 have n2:(0:Int)<=(m:Int):=by omega
 simp only[X2 n1,Ws n2]at h1;clear el B z A;refine wk ?_;refine Fj (h1 _ ((Sx.Ai.refl h).new _).keeps) λv1 h2 L l2 g G=>?_;subst G;simp only[C9]at l2 g;have g2:=(g h.nx om).trans (Sx.Bf _);clear h1;refine wk ?_;exact zr Ex ⟨x,a,C,by simp[C]⟩
def r90(n:Int)(h:H):Sx.Ah h (λr _=>r=.bool (decide (n < -1000000)||decide (1000000<n))) (ml Z N 99 [iI n] h):=by
 rw[e90];cases a:decide (n < -1000000)
 .refine wk ?_;exact zr Ex rfl
 .refine wk ?_;exact zr Ex rfl
def W35:List uw:=[[97,98,111,118,101],[97,110,100],[98,97,116,99,104],[98,101,116,119,101,101,110],wy,[98,121],ul,[99,111,117,110,116],[101,108,115,101],uc,[102,114,111,109],us,[105,100,101,110,116,105,116,121],[105,102],wj,wv,[108,97,116,101],[108,105,109,105,116],[109,111,100,101],[110,111,110,101],[110,111,116],[111,102],[111,110],[111,114],[112,101,97,107],[112,114,101,102,105,120],[113,117,97,110,116,105,108,101],[114,117,110,110,105,110,103],[115,117,109],[116,104,101,110],[116,111,116,97,108],[116,114,101,101],[117,115,105,110,103],ug,[119,105,116,104]]
def S0(h:H):Prop:=Sx.Nv h 0 (W35.flatMap Aeb)
def S0.By{h1:H}(g:S0 o)(e:Sx.Bi o h1):S0 h1:=e.cont 0 _ g
def S0.ws(g:S0 o):Ig o (.sl 0 0 35 35 1 true) W35:=.inr ⟨0,0,35,true,_,rfl,by decide,g,by decide,rfl⟩
def Be1:Prop:=∀(s:uw) (h:H),Sx.Ah h (λr _=>r=ct) (Z.call 244 [.str s] h)
def Bbx:Prop:=∀(s:uw) (h:H),Sx.Ah h (λr _=>r=ct) (Z.call 232 [.str s] h)
def Bl7(s:uw)(h:H):Sx.Ah h (λr _=>r=ct) (ml Z N 232 [.str s] h):=by rw[BjG];refine wk ?_;exact zr Ex (by simp)
def Bbw:Prop:=∀(s t:uw) (h:H),Sx.Ah h (λr _=>∃b,r=.bool b) (Z.call 231 [.str s,.str t] h)
def Bl6(a:Be1 Z)(s t:uw)(h:H):Sx.Ah h (λr _=>∃b,r=.bool b) (ml Z N 231 [.str s,.str t] h):=by rw[BjF];refine Fj (a s h) λv1 h1 e1 l1 c f=>?_;subst f;refine wk ?_;exact zr Ex ⟨_,rfl⟩
def Awb(k a:IntKind)(n:Int):A6r k (.int a n) o=.ok (.int k (E1 k n)) o:=rfl
def A1c(n:Int)(h1:0<=n)(h2:n<=1000):E1 .u64 n=n:=by
 unfold E1 fits;rw[Il,Il];have e1:¬ (n<IntKind.min .u64):=by show ¬ (n<0);omega
 have a:¬ (IntKind.max .u64<n):=by show ¬ ((18446744073709551615:Int)<n);omega
 rw[Yg e1,Yg a]
def BlC(m:Nat):Aj prog .shr 169 true (cm (m:Int)) (cm 1) o=.ok (cm ((m/2:Nat):Int)) o:=by kernel_rfl
abbrev Bbo(r:AV)(_:H):Prop:=∃i,r=.Bj [iI i,ct]
def Bbu:Prop:=∀(v:AV) (ws:List uw) (s:uw) (h:H),Ig h v ws->ws.length<=50->s ∉ ws->Sx.Ah h Bbo (Z.call 207 [v,.str s] h)
def A9A(K:Bbw Z)(F:Bbx Z)(v:AV)(ws:List uw)(s:uw)(h:H)(C:Ig h v ws)(hl:ws.length<=50)(R:s ∉ ws):
 ∀(u:Nat) (a b:Nat) (n:Nat) (hd:H) (f0:L2),b=a+u->b<=ws.length->u<n->Sx.Ai h hd->Sx.Ah h Bbo (Anb Z N n v (.str s) (iI (ws.length:Int)) (iI (a:Int)) (iI (b:Int)) f0 hd):=by
 intro u;induction u using Nat.strongRecOn with
 |_ u D=>
 intro a b n hd f0 l hb hn E;obtain⟨n1,rfl⟩:=mg n;have Kf:=E.lo;obtain⟨x,A⟩:∃x:Int,x=(a:Int):=⟨_,rfl⟩;obtain⟨y,hy⟩:∃x:Int,x=(b:Int):=⟨_,rfl⟩;obtain⟨z,hz⟩:∃x:Int,x=(ws.length:Int):=⟨_,rfl⟩;rw[<- A,<- hy,<- hz];cases u with
 |zero=>
  have O:decide (x<y)=false:=df;rw[Ayt];by_cases L:a<ws.length
  .have S:decide (x<z)=true:=dt;obtain⟨w,p⟩:∃w,ws[a]?=some w:=⟨_,Yq L⟩;obtain⟨b1,P,el⟩:=Sx.R0.elem (f:=Aeb) (s:=1) (λ_=>rfl) (Sx.Sl.By C E.keeps) p;have M:=el.ia;rw[<- A]at M;have J:=el.part 0 _ rfl;rw[Vw]at J;have X:decide (w=s)=false:=Yg λc=>R (c ▸ Vl p);clear el p C D A hy hz l;refine wk ?_;refine Fj (F w _) λv1 h1 e1 l1 I G=>?_;subst G;refine wk ?_;exact zr Ex ⟨_,rfl⟩
  .have S:decide (x<z)=false:=df;have xt:∀(w:Bool) (r:OR) (c:H),Ad (.Bj []) w r c=.ok (.Bj []) c:=λ_ _ _=>by kernel_rfl
   clear C D A hy hz l;refine wk ?_;exact zr Ex ⟨_,rfl⟩
 |succ u=>
  have O:decide (x<y)=true:=dt;obtain⟨m,hm⟩:∃m:Nat,m=(a+b)/2:=⟨_,rfl⟩;obtain⟨B,j⟩:∃x:Int,x=(m:Int):=⟨_,rfl⟩;obtain⟨w,p⟩:∃w,ws[m]?=some w:=⟨_,Yq om⟩;obtain⟨b1,P,el⟩:=Sx.R0.elem (f:=Aeb) (s:=1) (λ_=>rfl) (Sx.Sl.By C E.keeps) p;have M:=el.ia;rw[<- j]at M;have J:=el.part 0 _ rfl;rw[Vw]at J;have V:∀c:H,A6r .u64 (iI (x+y)) c=.ok (cm (x+y)) c:=λc=>by rw[Awb,A1c _ om om]
  have y2:∀c:H,Aj prog .shr 169 true (cm (x+y)) (cm 1) c=.ok (cm B) c:=λc=>by rw[show x+y=((a+b:Nat):Int)by omega,BlC,<- hm,<- j]
  have Y:∀c:H,A6r .i64 (cm B) c=.ok (iI B) c:=λc=>by rw[Awb,lw.2.2 _ om om]
  have U:0<=x:=by omega
  have r2:x<y:=by omega
  have T:y<=50:=by omega
  have W:0<=B:=by omega
  have r5:B<=50:=by omega
  have g:=λhd f0=>D (b-(m+1)) om (m+1) b n1 hd f0 om hb om;have k:=λhd f0=>D (m-a) om a m n1 hd f0 om om om;rw[show((m+1:Nat):Int)=B+1 by omega,<- hy,<- hz]at g
  rw[<- A,<- j,<- hz]at k;replace g:=(hU g)
  replace k:=(hU k)
  clear el p C D A hy hz l hm j;rw[Ayt];refine wk ?_;refine Fj (K w s _) λv1 h1 e1 l1 I G=>?_;obtain⟨bb,rfl⟩:=G;cases bb
  .refine wk ?_;exact(gw k) _ _ Ex
  .refine wk ?_;exact(gw g) _ _ Ex
def Bl2(k:100<N)(c:Bbw Z)(a:Bbx Z)(v:AV)(ws:List uw)(s:uw)(h:H)(f:Ig h v ws)(g:ws.length<=50)(j:s ∉ ws):Sx.Ah h Bbo (ml Z N 207 [v,.str s] h):=by rw[BjB];refine Sx.Ey f.Gs ?_;exact A9A Z N c a v ws s h f g j ws.length 0 ws.length N h _ om (Ye _) om (Sx.Ai.refl h)
def A0l{s:uw}{i:Nat}{c:Nat}(a:s[i]?=some c):xIx prog .str (.str s) (iI (i:Int)) o=.ok (ch (c:Int)) o:=by show Uv (AuN s i) o=_;rw[AuO,a];rfl
def BlD(h:H):xSl prog 268 (.ptr 0 0) none none h=.ok (.sl 0 0 35 35 1 true) h:=by kernel_rfl
def A7Y:Prop:=∀(s:uw) (h:H),S0 h->s∈R2++N1++R9->Sx.Ah h (λr _=>r=ux) (Z.call 179 [.str s] h)
def AzS(k:Bbu Z)(s:uw)(h:H)(z:S0 h)(y:∀c∈s,97<=c/\c<=122)(G:s.length<=20)(A:s ∉ W35):
 ∀(u i:Nat) (f:Int) (n:Nat) (f0:L2),i+u=s.length->f=(i:Int)->u<n->Sx.Ah h (λr _=>r=ux) (ArU Z N n (.str s) (iI (s.length:Int)) (iI f) f0 h)
 |0,i,f,n,f0,hu,g,hn=>by obtain⟨n1,rfl⟩:=mg n;have D:decide (f<(s.length:Int))=false:=df;have C:=BlD h;clear hu g;rw[Ayn];refine wk ?_;refine Fj (k _ W35 s h z.ws fe A) λv1 h1 e1 l1 F E=>?_;obtain⟨j,rfl⟩:=E;refine wk ?_;exact zr Ex rfl
 |u+1,i,f,n,f0,hu,g,hn=>by
  obtain⟨n1,rfl⟩:=mg n;have B:=AzS k s h z y G A u (i+1) (f+1) n1;have D:decide (f<(s.length:Int))=true:=dt;obtain⟨c,p⟩:∃c,s[i]?=some c:=⟨_,Yq om⟩;obtain⟨c1,c2⟩:=y c (Vl p);have C:∀a:H,xIx prog .str (.str s) (iI f) a=.ok (ch (c:Int)) a:=λa=>by rw[g];exact A0l p
  obtain⟨m,l⟩:∃x:Int,x=(c:Int):=⟨_,rfl⟩;rw[<- l]at C;have J:∀a:H,Aj prog .lss 5 true (ch m) (ch 97) a=.ok ct a:=λa=>by show OR.ok (.bool (ilt m 97)) a=_;rw[Il,Yg om]
  have M:∀a:H,Aj prog .gtr 5 true (ch m) (ch 122) a=.ok ct a:=λa=>by show OR.ok (.bool (ilt 122 m)) a=_;rw[Il,Yg om]
  have K:∀(w:Bool) (r:OR) (a:H),Ad (.Bj []) w r a=.ok (.Bj []) a:=λ_ _ _=>by kernel_rfl
  have I:0<=f:=by omega
  have L:f<=20:=by omega
  have go:=λf0=>B f0 om om om;replace go:=(hU go)
  clear hu g p l B y;rw[Ayn];refine wk ?_;exact(gw go) _
def Bg7:∀s∈R2++N1++R9,(∀c∈s,97<=c/\c<=122)/\s.length<=20/\s ∉ W35/\s≠[]:=by decide
def Blt(J:100<N)(j:Bbu Z)(s:uw)(h:H)(u:S0 h)(C:s∈R2++N1++R9):Sx.Ah h (λr _=>r=ux) (ml Z N 179 [.str s] h):=by
 obtain⟨m,B,z,y⟩:=Bg7 s C;have p:=AzS Z N j s h u m B z s.length 0 0 N;have A:0<s.length:=Kd.2 y;obtain⟨c,k⟩:∃c,s[0]?=some c:=⟨_,Yq A⟩;obtain⟨c1,c2⟩:=m c (Vl k);have D:∀a:H,xIx prog .str (.str s) (iI 0) a=.ok (ch (c:Int)) a:=λa=>A0l k;obtain⟨g,f⟩:∃x:Int,x=(c:Int):=⟨_,rfl⟩;rw[<- f]at D;have F:∀a:H,Aj prog .lss 5 true (ch g) (ch 97) a=.ok ct a:=λa=>by show OR.ok (.bool (ilt g 97)) a=_;rw[Il,Yg om]
 have K:∀a:H,Aj prog .gtr 5 true (ch g) (ch 122) a=.ok ct a:=λa=>by show OR.ok (.bool (ilt 122 g)) a=_;rw[Il,Yg om]
 obtain⟨sl,l⟩:∃x:Int,x=(s.length:Int):=⟨_,rfl⟩;have G:∀a:H,lnS (.str s) a=.ok (iI sl) a:=λa=>by rw[l];exact Sx.A63 s
 have E:decide (sl<1)=false:=df;have I:decide (20<sl)=false:=df;have go:=λf0=>p f0 om rfl om;rw[<- l]at go;replace go:=(hU go)
 clear m k f p l;rw[Bj2];refine wk ?_;exact(gw go) _
end Go.Proofs
namespace Go.Nm
open Go.Ev
def Ao2:Nat->Nat->uw
|0,_=>[]
|D+1,n=>Ao2 D (n/10)++[48+n%10]
def nd(n:Nat):Nat:=if n<10 then 1 else if n<100 then 2 else if n<1000 then 3 else if n<10000 then 4 else if n<100000 then 5 else if n<1000000 then 6 else if n<10000000 then 7 else if n<100000000 then 8 else if n<1000000000 then 9 else 10
def V8(n:Int):uw:=Ao2 (nd n.toNat) n.toNat
def Bkd:List Int:=[1,10,100,1000,10000,100000,1000000,10000000,100000000,1000000000,10000000000,100000000000,1000000000000,10000000000000,100000000000000,1000000000000000,10000000000000000,100000000000000000,1000000000000000000,10000000000000000000]
def AnE(l:uw):Nat:=l.foldl (λa c=>a*10+(c-48)) 0
def A3l l c:AnE (l++[c])=AnE l*10+(c-48):=by simp[AnE]
def Bel l i:AnE (l.take i)<=AnE l:=by
 have h1:∀(b:List _) a,a<=b.foldl (λa c=>a*10+(c-48)) a:=by intro b;induction b with
  |nil=>simp
  |cons c b f=>grind
 have h2:AnE l=(l.drop i).foldl (λa c=>a*10+(c-48)) (AnE (l.take i)):=by unfold AnE;rw[<- List.foldl_append,Dt]
 grind
def Alh:∀D n,(Ao2 D n).length=D
|0,_=>rfl
|D+1,n=>by simp[Ao2,Alh D]
def A6O:∀D n,n<10^D->AnE (Ao2 D n)=n
|0,n,h=>by
 have:n=0:=by omega
 subst this;rfl
|D+1,n,h=>by show AnE (Ao2 D _++[48+n%10])=n;rw[A3l,A6O D _ (bz (by omega))];omega
def Axd:∀D n,∀c∈Ao2 D n,48<=c/\c<=57
|0,n,c,h=>by cases h
|D+1,n,c,h=>by
 rcases T2.1 h with h|h;. exact Axd D _ c h
 grind
def A2f:∀D n,10^D<=n->n<10^(D+1)->∃c r,Ao2 (D+1) n=c::r/\49<=c
|0,n,h1,h2=>⟨_,_,rfl,by omega⟩
|D+1,n,h1,h2=>by have⟨c,r,_,a⟩:=A2f D (n/10) ((Nat.le_div_iff_mul_le (by omega)).2 (by grind)) (bz (by omega));exact⟨c,r++[48+n%10],by show Ao2 ..++_=_;grind,a⟩
def Aqg(n:Nat)(h:n<=1000000000):(n<10/\nd n=1)\/∃D,nd n=D+1/\1<=D/\D<=9/\10^D<=n/\n<10^(D+1):=by
 unfold nd;split
 .exact .inl ⟨by assumption,rfl⟩
 .split
  .exact .inr ⟨1,rfl,by decide,by decide,by show 10<=n;omega,by show n<100;omega⟩
  .split
   .exact .inr ⟨2,rfl,by decide,by decide,by show 100<=n;omega,by show n<1000;omega⟩
   .split
    .exact .inr ⟨3,rfl,by decide,by decide,by show 1000<=n;omega,by show n<10000;omega⟩
    .split;. exact .inr ⟨4,rfl,by decide,by decide,by show 10000<=n;omega,by show n<100000;omega⟩
     .split;. exact .inr ⟨5,rfl,by decide,by decide,by show 100000<=n;omega,by show n<1000000;omega⟩
      .split;. exact .inr ⟨6,rfl,by decide,by decide,by show 1000000<=n;omega,by show n<10000000;omega⟩
       .split;. exact .inr ⟨7,rfl,by decide,by decide,by show 10000000<=n;omega,by show n<100000000;omega⟩
        .split;. exact .inr ⟨8,rfl,by decide,by decide,by show 100000000<=n;omega,by show n<1000000000;omega⟩
         .exact .inr ⟨9,rfl,by decide,by decide,by show 1000000000<=n;omega,by show n<10000000000;omega⟩
def Alj{n}(h0:0<=n)(h1:n<=1000000000):(∀c∈V8 n,48<=c/\c<=57)/\AnE (V8 n)=n/\1<=(V8 n).length/\(V8 n).length<=10/\(1<(V8 n).length->∃c r,V8 n=c::r/\49<=c):=by
 unfold V8;refine⟨Axd _ _,?_,?_,?_,?_⟩
 .rw[A6O];. omega
  .rcases Aqg n.toNat om with⟨a,f⟩|⟨D,a,_,_,_,f⟩;. grind
   simp[*]
 .rw[Alh];rcases Aqg n.toNat om with⟨a,f⟩|⟨D,a,_,_,_,f⟩<;>omega
 .rw[Alh];rcases Aqg n.toNat om with⟨a,f⟩|⟨D,a,_,_,_,f⟩<;>omega
 .rw[Alh];intro k;rcases Aqg n.toNat om with⟨a,f⟩|⟨D,a,_,_,j,g⟩;. omega
  .rw[a];exact A2f D _ j g
end Go.Nm
namespace Go.Proofs
open Go Go.Ev
open Go.Nm
attribute [local irreducible] Aa Al Af Ad
variable (Z cx:Ac)(N:Nat)
variable {b:Nat}{v:AV}{i e o:Int}{q:uz}{h h1 hm:H}{n d:Nat}{t:Tr}{Q:Qr}{ve vo vm:AV}
structure AeZ(h:H):Prop where
 g:h.m.get 2=.cells (Bkd.map λx=>AV.int .u64 x) 284 .exact
 lt:2<h.nx
def AeZ.gr(p:AeZ h)(g:Sx.Ai h h1):AeZ h1:=⟨(g.Cf 2 p.lt).trans p.g,Yy p.lt g.lo⟩
def Num(x:Int):Prop:=0<=x/\x<=1000000000
open Tryz
variable {s:uw}{w:AV}{pre x rest:uw}
def ne8(a b:Int)(c:H):Aj prog .neq 5 true (ch a) (ch b) c=.ok (.bool (!decide (a=b))) c:=by show OR.ok (.bool (Ib (ieq a b))) c=_;rw[Sx.X7];cases decide (a=b)<;>rfl
def eq8(a b:Int)(c:H):Aj prog .eql 5 true (ch a) (ch b) c=.ok (.bool (decide (a=b))) c:=by show OR.ok (.bool (ieq a b)) c=_;rw[Sx.X7]
abbrev Dgs(s:List _):=∀c∈s,48<=c/\c<=57
def AxX:∀n s,s.length=n->Dgs s->AnE s<10^n
|0,s,h,_=>by rw[T5.1 h];decide
|n+1,s,h,hd=>by
 rcases T7 s with rfl|⟨l,c,e⟩;. grind
 .rw[T9]at e;subst e;have f:=AxX n l (by grind) λc a=>hd c (aw _ a);have a:=hd c (by simp);rw[A3l,Ov];omega
def xi9:Hp prog 9=.str:=by kernel_rfl
def AoG(i:Nat):uz:=(List.range 256).map λc=>.bool (decide (48<=c/\c<48+i))
def A3S b(h:H):=b<h.nx/\h.m.get b=cd (AoG 10) 250
def A3S.gr(k:A3S b h)(g:Sx.Ai h h1):A3S b h1:=⟨Yy k.1 g.lo,(g.Cf b k.1).trans k.2⟩
def B4N{b c:Nat}(a:c<256) hh:AxM 256 1 (.ptr b 0) (ch c) hh=.ok (.ptr b c) hh:=by show @Bool.rec (λ_=>OR) _ (.ok (.ptr b (0+c*1)) _) _=_;rw[show Nat.blt c _=true by simp[*],ae,Rx]
def Btd:=∀(b c:Nat) h,A3S b h->c<256->Sx.Ah h (λr _=>r=.bool (decide (48<=c/\c<48+10))) (Z.call 217 [.ptr b 0,ch c] h)
def Cdh{c:Nat}(k:A3S b h)(a:c<256):Sx.Ah h (λr _=>r=.bool (decide (48<=c/\c<48+10))) (ml Z N 217 [.ptr b 0,ch c] h):=by have g:=B4N (b:=b) a;have f:=(⟨k.1,_,_,k.2,trivial⟩:Sx.Nv h b _).one (o:=c) (x:=.bool (decide (48<=c/\c<48+10))) (by unfold AoG;grind);generalize decide (48<=c/\c<48+10)=B at *;rw[B9m];refine wk ?_;exact zr Ex rfl
def Bfz(l:Btd Z)(k:A3S b h):∀(i n:Nat) (s:uw) (hd:H) (f0:L2),Sx.Ai h hd->Dgs s->s.length=i->i<n->i<=2000->Sx.Ah h (λr _=>r=.str []) (A0D Z N n (.str s) (.ptr b 0) f0 hd)
|0,n,s,hd,f0,g,m,p,hn,hi=>by obtain⟨n1,rfl⟩:=mg n;obtain rfl:=T5.1 p;rw[BeM];refine wk ?_;exact zr Ex rfl
|i+1,n,s,hd,f0,g,m,p,hn,hi=>by
 obtain⟨n1,rfl⟩:=mg n;have f:s[i]?=some (s[i]' om):=Yq om;generalize s[i]' om=c at f;have G:=m c (Vl f);have y:=λhd f0 g=>Bfz l k i n1 (s.take i) hd f0 g (λc C=>m c (ax C)) (by simp_all) om om;have A:∀a:H,xIx prog .str (.str s) (iI ((i:Int))) a=.ok (ch (c:Int)) a:=λa=>A0l f;have D:∀a:H,xSl prog 9 (.str s) none (some (iI (i:Int))) a=.ok (.str (s.take i)) a:=λa=>Sx.Awe xi9 om;have u:=λa g=>l b c a (k.gr g) om;rw[Ws (show 48<=c/\c<48+10 by omega)]at u;obtain⟨sl,z⟩:∃x:Int,x=(s.length:Int):=⟨_,rfl⟩;have K:∀a:H,lnS (.str s) a=.ok (iI sl) a:=λa=>by simp_all
 have E:decide (0<sl)=true:=dt;obtain⟨j,hj⟩:∃j:Int,j=(i:Int):=⟨_,rfl⟩;rw[<- hj]at A D;have e1:sl=j+1:=by omega
 have I:0<=j:=by omega
 have F:j<=2000:=by omega
 clear m p z hj f;rw[BeM];refine wk ?_;exact Fj (u _ g) λv1 h1 e1 l1 B J=>wk ((gw y) _ _ (g.trans e1))
def Btc:=∀b s h,A3S b h->Dgs s->s.length<=2000->Sx.Ah h (λr _=>r=.str []) (Z.call 194 [.str s,.ptr b 0] h)
def Cdd(g:2001<N)(a:Btd Z)(k:A3S b h)(c:Dgs s)(f:s.length<=2000):Sx.Ah h (λr _=>r=.str []) (ml Z N 194 [.str s,.ptr b 0] h):=by rw[B8V];exact Bfz Z N a k _ _ s _ _ (Sx.Ai.refl h) c rfl om f
def B1f:=∀v h,Sx.Ah h (λr _=>r=.str []) (Z.call 193 [.str [],v] h)
def Cdc(a:2001<N) v:Sx.Ah h (λr _=>r=.str []) (ml Z N 193 [.str [],v] h):=by obtain⟨n1,rfl⟩:=mg N;rw[B8U,Blv];refine wk ?_;exact zr Ex rfl
abbrev dgT:=[48,49,50,51,52,53,54,55,56,57]
def Bth:∀i,i<10->Ng (AoG i) [ux] (48+i)=some (AoG (i+1))
|0,_=>by rfl
|1,_=>by kernel_rfl
|2,_=>by kernel_rfl
|3,_=>by kernel_rfl
|4,_=>by kernel_rfl
|5,_=>by kernel_rfl
|6,_=>by kernel_rfl
|7,_=>by kernel_rfl
|8,_=>rfl
|9,_=>rfl
|i+10,h=>absurd h om
def BvU:∀i,i<10->dgT[i]?=some (48+i):=by decide
def Bii{h}{a}{g}{f}{na}{v}(ha:h.m.get a=cd f g)(j:na=f.length):Vk [.c (some (some na)) (.ptr a 0),.v v] h=.ok (.Bj [.agg f,v]) h:=by simp_all
def BjK{A C}{ty}{n}(a:h.m.get b=cd C ty)(c:A.length=C.length)(hn:n=A.length)(h1:Bm A=true)(f:cellsOf (.agg A)=some A):A4 n (.ptr b 0) (.agg A) h=.ok (.Bj []) (h.put b (cd A ty)):=by simp[a,f,h1,hn,lw,c]
def Bfy:∀(u i n:Nat) (hd:H) (f0:L2),i+u=10->u<n->Sx.Ai h hd->hd.m.get h.nx=cd (AoG i) 250->h.nx<hd.nx->Sx.Ah h (λr _=>r=.Bj [.agg (AoG 10),ux]) (A6H Z N n (.str dgT) (.ptr h.nx 0) (iI (i:Int)) f0 hd)
|0,i,n,hd,f0,hu,hn,g,f,j=>by
 obtain⟨n1,rfl⟩:=mg n;obtain rfl:i=10:=by omega
 have c0:Sx.Nv hd h.nx (AoG 10):=⟨j,_,_,f,trivial⟩;have k:(AoG 10).length=256:=by rfl
 have y:∀a:H,lnS (.str dgT) a=.ok (iI 10) a:=λa=>rfl;have l:=BjK (n:=256) f rfl k.symm (by rfl) (by rfl);rw[BeK];generalize AoG 10=A at *;refine wk ?_;rw[R4 om];refine Sx.Ey l ?_;rw[Bii (Sx.A2 _ _) k.symm];exact zr (g.put _ _ (Ye _)) rfl
|u+1,i,n,hd,f0,hu,hn,g,f,j=>by
 obtain⟨n1,rfl⟩:=mg n;have p:=Bfy u (i+1) n1;have z:decide ((i:Int)<10)=true:=dt;have y:∀a:H,lnS (.str dgT) a=.ok (iI 10) a:=λa=>rfl;have D:∀a:H,xIx prog .str (.str dgT) (iI (i:Int)) a=.ok (ch ((48+i:Nat):Int)) a:=λa=>A0l (BvU i om);have C:=λa=>B4N (b:=h.nx) (c:=48+i) om a;have B:∀a:H,Aj prog .geq 5 true (ch ((48+i:Nat):Int)) (ch 128) a=.ok ct a:=λa=>by show OR.ok (.bool (Ib (ilt ((48+i:Nat):Int) 128))) a=_;rw[Il,Ws om];rfl
 have l:A4 1 (.ptr h.nx (48+i)) ux hd=.ok (.Bj []) (hd.put h.nx (cd (AoG (i+1)) 250)):=by simp[f,Bth i om]
 rw[BeK];generalize 48+i=ci at *;exact wk (p _ _ om om (g.put _ _ (Ye _)) (Sx.A2 ..) j)
def B1e:=∀h,Sx.Ah h (λr _=>r=.Bj [.agg (AoG 10),ux]) (Z.call 192 [.str dgT] h)
def Cdb(a:11<N):Sx.Ah h (λr _=>r=.Bj [.agg (AoG 10),ux]) (ml Z N 192 [.str dgT] h):=by rw[B8T];exact Sx.Ey rfl ((λf0=>Bfy Z N 10 0 N _ _ rfl om ((Sx.Ai.refl h).new _) (Sx.Bf _) (Y3 _)) _)
def B1c:=∀s h,s≠[]->Dgs s->s.length<=2000->Sx.Ah h (λr _=>r=.str []) (Z.call 170 [.str s,.str dgT] h)
def CcU(j:B1e Z)(f:Btc Z)(g:B1f Z)(p:s≠[])(C:Dgs s)(B:s.length<=2000):Sx.Ah h (λr _=>r=.str []) (ml Z N 170 [.str s,.str dgT] h):=by
 have I:decide (s=[])=false:=Yg p;have M:∀a:H,lnS (.str dgT) a=.ok (iI 10) a:=λa=>rfl;have wt:∀(w:Bool) (r:OR) (a:H),Ad (.Bj []) w r a=.ok (.Bj []) a:=λw r a=>Sx.A0V [] w r a;have c1:(AoG 10).length=256:=by rfl
 have c2:Bm (AoG 10)=true:=by rfl
 have c3:cellsOf (.agg (AoG 10))=some (AoG 10):=by rfl
 have c:=λb a (k:A3S b a)=>f b s a k C B;unfold A3S at c;have l:=λa=>j a;rw[B8I];generalize AoG 10=A at *;have L:decide (dgT=[])=false:=rfl;refine wk ?_;refine Fj (l _) λv1 h2 y l2 D O=>(wk (Fj (c _ _ ⟨Y3 _,Sx.A2 ..⟩) λv3 K E l3 m u=>?_));subst u;refine Fj (g ..) λv4 J G l4 F z=>?_;subst z;exact zr ((((y.new _).put _ _ l2).trans E).trans G) rfl
def AlG{n}(hn:Num n):V8 n≠[]/\Dgs (V8 n)/\(V8 n).length<=10/\((V8 n)[0]?=some 48->V8 n=[48]):=by
 have⟨h1,_,_,a,_⟩:=Alj hn.1 hn.2;refine⟨λh=>by grind,h1,a,λh0=>?_⟩;by_cases f:1<(V8 n).length;. grind
 .have⟨c,_⟩:=List.length_eq_one_iff.1 (show(V8 n).length=1 by omega);simp_all
def Bl8:=∀n h,Num n->Sx.Ah h (λr _=>r=ux) (Z.call 147 [.str (V8 n)] h)
def CcI(l:B1c Z){n:Int}(hn:Num n):Sx.Ah h (λr _=>r=ux) (ml Z N 147 [.str (V8 n)] h):=by
 have⟨d1,d2,d3,d4⟩:=AlG hn;have m:=λa=>l _ a d1 d2 om;generalize V8 n=s at *;have A:=Yg d1;have⟨c,j⟩:∃c,s[0]?=some c:=⟨_,Yq (Kd.2 d1)⟩;have p:∀a,xIx _ _ _ (iI 0) a=.ok ..:=λa=>A0l j;have⟨z,f⟩:∃x:Int,x=c:=⟨_,rfl⟩;rw[<- f]at p;rw[B88];by_cases k:s=[48];. have u:=Ws k;clear k d1 d2 d3 d4 j;refine wk ?_;exact Fj (m _) λv1 h1 e1 l1 g y=>(wk (zr Ex rfl))
 .have u:=Yg k;have B:∀a,Aj _ _ 5 _ (.int _ z) (.int _ 48) a=.ok ux _:=λa=>by rw[ne8,Yg λh=>k (d4 (by grind))];rfl
  clear k d1 d2 d3 d4 j f;refine wk ?_;exact Fj (m _) λv1 h1 e1 l1 g y=>(wk (zr Ex rfl))
def B1a:=∀n h,Num n->Sx.Ah h (λr _=>r=iI 0) (Z.call 303 [.str (V8 n)] h)
def CcS(a:Bl8 Z){n}(hn:Num n):Sx.Ah h (λr _=>r=iI 0) (ml Z N 303 [.str (V8 n)] h):=by have⟨_,_,_,_⟩:=AlG hn;rw[B8D];exact Fj ((λf=>a n f hn) _) λv1 h1 e1 l1 c g=>wk (zr Ex rfl)
def B1j:=∀s h,s≠[]->s[0]?≠some 45->Sx.Ah h (λr _=>r=ct) (Z.call 216 [.str s,.str [45]] h)
def Cdg(h1:s≠[])(h2:s[0]?≠some 45):Sx.Ah h (λr _=>r=ct) (ml Z N 216 [.str s,.str [45]] h):=by
 have l0:=Kd.2 h1;have f:decide ((1:Int)<=s.length)=true:=dt;have j:∀c,xSl _ 9 (.str s) _ (some (iI 1)) c=.ok ..:=λc=>Sx.Awe (k:=1) xi9 om;have g:decide (s.take 1=[45])=false:=Yg λe=>h2 (by cases s with
  |nil=>grind
  |cons a l=>simp_all);rw[B9l];refine wk ?_;exact zr Ex rfl
def B1d:=∀s h,s≠[]->s[0]?≠some 45->Sx.Ah h (λr _=>r=.Bj [.str s,ct]) (Z.call 189 [.str s,.str [45]] h)
def Cda(a:B1j Z)(h1:s≠[])(h2:s[0]?≠some 45):Sx.Ah h (λr _=>r=.Bj [.str s,ct]) (ml Z N 189 [.str s,.str [45]] h):=by rw[B8S];exact Fj (a s h h1 h2) λv1 h1 e1 l1 c f=>wk (zr Ex rfl)
def B1b:=∀s h,s≠[]->s[0]?≠some 45->Sx.Ah h (λr _=>r=.Bj [.str s,ct]) (Z.call 169 [.str s,.str [45]] h)
def CcT(a:B1d Z)(h1:s≠[])(h2:s[0]?≠some 45):Sx.Ah h (λr _=>r=.Bj [.str s,ct]) (ml Z N 169 [.str s,.str [45]] h):=by rw[B8H];exact Fj (a s h h1 h2) λv1 h1 e1 l1 c f=>wk (zr Ex rfl)
def BsW:=∀n h,Num n->Sx.Ah h (λr _=>r=.Bj [ct,.str (V8 n),ux]) (Z.call 146 [.str (V8 n)] h)
def CcH(f:B1b Z)(a:Bl8 Z){n}(hn:Num n):Sx.Ah h (λr _=>r=.Bj [ct,.str (V8 n),ux]) (ml Z N 146 [.str (V8 n)] h):=by have⟨d1,d2,d3,d4⟩:=AlG hn;rw[B87];refine Fj ((λc=>f _ c d1 λe=>by have:=d2 _ (Vl e);omega) _) λv1 h1 e1 l1 j k=>(wk ?_);refine Fj ((λc=>a n c hn) _) λv2 h2 m l2 g l=>wk ?_;exact zr Ex rfl
variable {ls:uw}
abbrev Abb(x:Nat):uz:=[cm x]
abbrev NtS h v ls:=Sx.R0 1 Abb h v ls
def NtS.gr(k:NtS h v ls)(g:Sx.Ai h h1):NtS h1 v ls:=Sx.Sl.gr k g
def Bd5(ls:List _):(ls.flatMap Abb).length=ls.length:=by rw[Sx.Aa9 (f:=Abb) λ_=>rfl,ae]
def Bfb:∀(ls:List _) u,(ls.flatMap Abb).take u=(ls.take u).flatMap Abb
|[],u=>by simp
|x::ls,0=>rfl
|x::ls,u+1=>by show AV.int _ x::(ls.flatMap _).take u=_;rw[Bfb _ u];rfl
def B5W P(a:P=prog):Hp P 93=.sl ⟨134,1,8⟩:=by subst a;rfl
def Bjw{u}(k:NtS h v ls)(h0:0<ls.length)(c:u<=ls.length):∃v',(∀a,xSl prog 93 v none (some (iI u)) a=.ok v' a)/\NtS h v' (ls.take u)/\∀b off n cap ex,v=.sl b off n cap 1 ex->v'=.sl b off u cap 1 ex:=by
 rcases k with⟨e,_,_⟩|⟨b,off,cap,ex,cs,rfl,f,g,l,j⟩;. omega
 .refine⟨.sl b off u cap 1 ex,λa=>?_,?_,λ_ _ _ _ _ e=>by grind⟩;. rw[Sx.Aau (B5W _ rfl)];unfold AkE;rw[show Nat.ble 0 u=true by simp,show Nat.ble u _=true by simpa using Xy c f,show Nat.blt 0 _=true by simpa using Yy h0 f];rfl
  .show Sx.Sl 1 h ..;rw[(by simp_all:(ls.take u).length=u)];refine .inr ⟨b,_,_,_,_,rfl,Xy c f,g,by omega,?_⟩;rw[<- Bfb,<- j,de,ae,ae,dw c]
def AxU:Nat->uw->uw
|0,ls=>ls
|n+1,ls=>if ls.getLast?=some 0 then AxU n ls.dropLast else ls
def AxV ls:=AxU ls.length ls
def TrR h1(v r:AV) ls:=NtS h1 r ls/\∀b off n cap ex,v=.sl b off n cap 1 ex->r=.sl b off ls.length cap 1 ex
def BcD:=∀v ls h,NtS h v ls->ls.length<=10->(∀x∈ls,x<1000000000000000000)->Sx.Ah h (λr h1=>TrR h1 v r (AxV ls)) (Z.call 119 [v] h)
def Bfx(h:H):∀(i n:Nat) (v:AV) (ls:uw) (f0:L2),NtS h v ls->ls.length=i->ls.length<=10->(∀x∈ls,x<1000000000000000000)->i<n->Sx.Ah h (λr h1=>TrR h1 v r (AxU i ls)) (A0C Z N n v f0 h)
|0,n,v,ls,f0,k,hi,E,y,hn=>by
 obtain⟨n1,rfl⟩:=mg n;have I:∀a:H,Fo v a=.ok (iI 0) a:=λa=>by rw[Sx.Sl.Gs (h:=h) k,hi];rfl
 have wt:∀(w:Bool) (r:OR) (a:H),Ad (.Bj []) w r a=.ok (.Bj []) a:=λw r a=>Sx.A0V [] w r a;rw[BeJ];have l:TrR h v v (AxU 0 ls):=⟨k,λb off m cap ex e=>by
  subst e;have D:Sx.Sl 1 h _ ls.length (ls.flatMap Abb):=k;rcases D with⟨_,_,e⟩|⟨_,_,_,_,_,e,_⟩;. cases e
  .injection e with _ _ e _ _ _;rw[e];rfl⟩;generalize AxU 0 ls=T at *;clear k;refine wk ?_;exact zr Ex l
|i+1,n,v,ls,f0,k,hi,E,y,hn=>by
 obtain⟨n1,rfl⟩:=mg n;have g:ls[i]?=some (ls[i]' om):=Yq om;generalize ls[i]' om=c at g;have C:=y c (Vl g);have j:ls.getLast?=some c:=by rw[List.getLast?_eq_getElem?,hi];exact g
 have I:∀a:H,Fo v a=.ok (iI ((i:Int)+1)) a:=λa=>by rw[Sx.Sl.Gs (h:=h) k,hi];rfl
 obtain⟨b1,P,el⟩:=Sx.R0.elem (f:=Abb) (s:=1) (λ_=>rfl) k g;have R:=el.ia;have F:=el.part 0 _ rfl;rw[Vw]at F;obtain⟨v',M,J,p⟩:=Bjw (u:=i) k om om;have S:∀a:H,Aj prog .eql 134 true (cm (c:Int)) (cm 0) a=.ok (.bool (decide ((c:Int)=0))) a:=λa=>by show OR.ok (.bool (ieq (c:Int) 0)) a=_;rw[Sx.X7]
 have z:=λf0=>Bfx h i n1 v' (ls.take i) f0 J (by rw[Cm];omega) (by rw[Cm];omega) (λx B=>y x (ax B)) om;have L:decide ((0:Int)<(i:Int)+1)=true:=dt;have O:(0:Int)<=i:=by omega
 have U:(i:Int)<=10:=by omega
 have V:∀a:H,Aj prog .sub 3 true (iI ((i:Int)+1)) (iI 1) a=.ok (iI (i:Int)) a:=λa=>by show OR.ok (iI (E1 .i64 ((i:Int)+1-1))) a=_;rw[show(i:Int)+1-1=i by omega,lw.2.2 _ om om]
 have e1:AxU (i+1) ls=if c=0 then AxU i (ls.take i)else ls:=by show(if ls.getLast?=some 0 then AxU i ls.dropLast else ls)=_;rw[j,List.dropLast_eq_take,hi,Ki];simp
 rw[e1,BeJ];clear hi E y C j g e1;by_cases A:c=0;. rw[Xo A];have l:decide ((c:Int)=0)=true:=dt;replace z:=(hU z);replace p:=(hU p);clear A;refine wk ?_;refine((show ∀f0,Sx.Ah h (λr h1=>TrR h1 v' r (AxU i (ls.take i))) (A0C Z N n1 v' f0 h)from z) _).mono ?_;rintro r h1 _ ⟨G,K⟩;exact⟨G,λb off m cap ex e=>K b off i cap ex ((gw p) b off m cap ex e)⟩
 .rw[X2 A];have l:decide ((c:Int)=0)=false:=df;have l:TrR h v v ls:=⟨k,λb off m cap ex e=>by
   subst e;have D:Sx.Sl 1 h _ ls.length (ls.flatMap Abb):=k;rcases D with⟨_,_,e⟩|⟨_,_,_,_,_,e,_⟩;. cases e
   simp_all⟩;clear A z p;refine wk ?_;exact zr Ex l
def CbX(f:11<N)(k:NtS h v ls)(a:ls.length<=10)(c:∀x∈ls,x<1000000000000000000):Sx.Ah h (λr h1=>TrR h1 v r (AxV ls)) (ml Z N 119 [v] h):=by rw[B8K];exact Bfx Z N h _ _ _ _ _ k rfl a c om
variable {ks:List Int}
def Aji{P}{t}{a:List _}{i j}(k:Hp P t=.str)(f:i<=j)(l:j<=a.length) h:xSl P t (.str a) (some (iI i)) (some (iI j)) h=.ok (.str ((a.drop i).take (j-i))) h:=by
 have c:vS (Go.Ev.ev (.tmp 0) (fr Az [(0,.str a),(1,iI i),(2,iI j)]))=.yes a:=by kernel_rfl
 have e1:bnd (fr Az [(0,.str a),(1,iI i),(2,iI j)]) (some (.tmp 1)) 0=some i:=by kernel_rfl
 have g:bnd (fr Az [(0,.str a),(1,iI i),(2,iI j)]) (some (.tmp 2)) (Y2 a)=some j:=by kernel_rfl
 show G5 t _ (some _) (some _) _ 0 P Q7 (fr _ [(0,.str a),(1,iI i),(2,iI _)]) h=_;unfold G5;rw[k];simp[c,e1,g];show @Bool.rec _ _ ..=_;rw[Rf,show Nat.ble j _=true by simp_all,show Nat.ble i j=true by simp[*],Asg,Asc];rfl
end Go.Proofs
