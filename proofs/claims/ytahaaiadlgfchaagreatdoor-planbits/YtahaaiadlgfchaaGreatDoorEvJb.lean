/- A stack machine over -/
import Derived.Test.YtahaaiadlgfchaaGreatDoorEvJa
set_option linter.all false
set_option maxRecDepth 100000
noncomputable section
namespace Go.Proofs
open Go Go.Ev Tryz Go.Ev.Sx
open Go.Nm
attribute [local irreducible] Aa Al Af Ad
variable (Z:Ac)(N:Nat)
def R59:=∀v l h,SsD h v l->l.length<=3->Ah h (λr _=>okA r) (Z.call 93 [v] h)
def r59(d:R94 Z)(c:R84 Z)(j:100<N) v l h(e:SsD h v l)(i:l.length<=3):Ah h (λr _=>okA r) (Ay prog Z N false 93 [v] h):=by rw[e59];have f:∀g,Fo v g=.ok ..:=λ_=>e.r.sl.Gs;exact wk ((show ∀f0,_ from B7k Z N d c v l h e om l.length 0 N h) _ om om om (Ai.refl h))
abbrev qsC(q:Qr) vc vo vm sv(a b:Abn) cv:=[iI q.c0,vc,iI q.c2,iI q.c3,iI q.c4,iI q.c5,.str q.s6,iI q.c7,vo,iI q.c9,.bool q.Wz,.str q.Uw,iI q.W0,.str q.Wu,.str q.s14,.str q.s15,iI q.c16,vm,.str q.Oi,iI q.Mg,sv,.str a.name,.bool a.pub,iI a.many,a.cv,.str b.name,.bool b.pub,iI b.many,b.cv,cv]
def scZ:Abn:=⟨[],false,0,.Bv,[]⟩
def CjC(ss:List _)(q:Qr) b:=q.Wu=[]/\b=scZ\/q.Wu≠[]/\b∈ss/\b.name=q.Wu
def A0z ss q vc vo vm sv lo(r:AV) h1:=∃(x:Nat) (a b:Abn) (cv:AV),r=.Bj [.ptr x 0,ux]/\lo<=x/\x<h1.nx/\h1.m.get x=cd (qsC q vc vo vm sv a b cv) 148/\a∈ss/\a.name=q.Uw/\CjC ss q b/\CsR h1 cv (a.A1++b.A1)
def R46:=∀ss q vc vo vm sv h,SsD h sv ss->ss.length<=3->Ge vc=true/\cellsOf vc=some [vc]->Ge vo=true/\cellsOf vo=some [vo]->Ge vm=true/\cellsOf vm=some [vm]->(∃a∈ss,a.name=q.Uw)->(q.Wu=[]\/∃b∈ss,b.name=q.Wu)->Ah h (A0z ss q vc vo vm sv h.nx) (Z.call 43 [.agg (qc q vc vo vm),sv] h)
def BbH:∀{l:List _},(∀c∈l,Ge c.w=true/\cellsOf c.w=some [c.w])->Bm (l.flatMap Hx)=true
|[],_=>rfl
|c::l,d=>by have f:=BbH λx e=>d x (Wr _ e);simp_all
def Ayw{h h1 hA}{L}{tk lo}(e1:Ai h hA)(d:Ai h h1)(e:∀z∈L,z∈hA.lg\/z=tk\/lo<=z)(f:h.nx<=tk)(Kf:h.nx<=lo):Ai h (Be L h1):=
 ⟨d.lo,d.Cf,λz hz=>by
  rcases e z hz with c|rfl|c;. exact e1.lg z c
  .omega
  grind⟩
def Blx{lo}{h}{v w}{l m}(g:Fm 4 lo 100 h v l.length (l.flatMap Hx))(c:CsR h w m)(n:l.length+m.length<=50)(Kf:lo<=h.nx)(j:h.lg=[]):
 ∃v' h',Ds 100 4 56 v w h=.ok v' h'/\Fm 4 lo 100 h' v' (l++m).length ((l++m).flatMap Hx)/\Bi h h'/\h.nx<=h'.nx/\(∀b,b<lo->h'.m.get b=h.m.get b)/\(∀x∈h'.lg,lo<=x)/\∀h0,h0.nx<=lo->Ai h0 h->Ai h0 h':=by
 have⟨_,_,i,e,d,_,k⟩:=Fm.AbQ (bytes:=56) g c.sl.src c.sl.Rv om (BbH c.one) Kf;refine⟨_,_,i,?_,e,e.lo,k,?_,d⟩;. grind
 .intro x f;rcases(d ⟨_,_,[]⟩ (Ye _) ⟨Kf,λb hb=>rfl,λx f=>by grind⟩).lg x f with h1|h1;. grind
  omega
set_option maxHeartbeats 2000000 in
def r46(h84:R84 Z)(ss:List Abn)(q:Qr)(vc vo vm sv:AV)(h:H)(R:SsD h sv ss)(hl3:ss.length<=3)(p1:Ge vc=true/\cellsOf vc=some [vc])(p2:Ge vo=true/\cellsOf vo=some [vo])(p3:Ge vm=true/\cellsOf vm=some [vm])(ht:∃a∈ss,a.name=q.Uw)(ho:q.Wu=[]\/∃b∈ss,b.name=q.Wu):Ah h (A0z ss q vc vo vm sv h.nx) (Ay prog Z N false 43 [.agg (qc q vc vo vm),sv] h):=by
 rw[e46];obtain⟨c1,c2⟩:=p1;obtain⟨o1,o2⟩:=p2;obtain⟨m1,m2⟩:=p3;obtain⟨s1,s2⟩:=B2 R.r.sl;have E:=λnm j e=>h84 sv ss nm j (R.r.By e);have v:∀(i:Nat) (s:Abn),ss[i]?=some s->∃b o,(∀u,Gc 4 sv (iI (i:Int)) u=.ok (.ptr b o) u)/\b<h.nx/\(∀u,Bi h u->Ae (some (some 4)) (.ptr b o) u=.ok (.agg (Ze s)) u)/\∀u,Bi h u->Ae (some none) (.ptr b (o+3)) u=.ok s.cv u:=by
  intro i s hi;have B6:=(Xh.1 hi).1;obtain⟨b1,o1,el⟩:=R0.elem (f:=Ze) (s:=4) (λ_=>rfl) R.r.sl hi;obtain⟨off,cap,ex,hv⟩:=Acg R.r.sl B6 el;refine⟨b1,o1,el.ia,?_,el.all,el.part 3 _ rfl⟩;rcases R.r.sl with⟨_,_,h1⟩|⟨T,Yk,Ll,ex',cs,h1,q2,q3,_⟩
  .rw[h1]at hv;cases hv
  .rw[h1]at hv;cases hv;exact q3.lt
 have z:=R.d;replace E:=(hU E)
 replace v:=(hU v)
 clear h84 R;obtain⟨c0,code,d2,d3,c4,c5,s6,c7,ord,c9,Wz,Uw,W0,Yc,M,O,U3,E9,Oi,Mg⟩:=q;simp only at ht ho;refine wk ?_;refine Fj ((gw E) Uw _ M0) λv7 h7 e7 l7 F q7=>?_
 obtain⟨i,a,hi,W,rfl⟩:=q7.2 ht;have gr7:Ai h h7:=Ex;simp only[C9]at l7 F;have g7:=(F (h.nx+1) om).trans (Bf (h:=h.new _) _);have g7q:=(F h.nx om).trans ((Cq (h:=h.new _) _ h.nx (by show h.nx≠h.nx+1;omega)).trans (Bf _))
 obtain⟨b1,p1,x1,Wx,x2,x3⟩:=(gw v) i a hi
 have ha:=Vl hi;obtain⟨w1,w2⟩:=(z a ha).one;have I:=λj e=>((z a ha).By (h1:=j) e).cs.r;have haf:=(z a ha).Mu;replace I:=(hU I)
 obtain⟨n,P,K,k,g⟩:=a;simp only at W w1 w2 I haf x3;subst W;clear e7 q7 F;refine wd ?_;have U:Ai h (Ab (h7.put (h.nx+1) (cd (qsC ⟨c0,code,d2,d3,c4,c5,s6,c7,ord,c9,Wz,n,W0,Yc,M,O,U3,E9,Oi,Mg⟩ vc vo vm sv ⟨n,P,K,k,g⟩ scZ .Bv) 148))):=Ex;obtain⟨cv,h8,y1,S,y3,y4,V,y6,y7⟩:=Blx (lo:=h.nx+2) (l:=[]) (m:=g) (w:=k) (Fm.nil 4 (h.nx+2) 100 _) ((gw I) _ U.keeps) (by simp;omega) (by show h.nx+2<=h7.nx;omega) rfl
 simp only[T3]at S;have g8:=(V (h.nx+1) om).trans (A2 ..);have g8q:=(V h.nx om).trans ((Aq _ _ _ om).trans g7q);have gr8:Ai h h8:=y7 h om U;simp only[C9]at y4;obtain⟨o3,o4⟩:=B2 S.sl;refine Ey y1 ?_;clear y1 y7 g7 g7q x1 x2 x3 V;refine wd ?_;refine Pu (h.nx+1) h.nx ?_ λC Wp=>?_
 .simp only[Tl,Ww,Pl,G4,Jj];repeat' (refine And.intro ?_ ?_)
  all_goals first|(left;simp;done)|(refine .inr ⟨λx j=>.inr ?_,?_⟩;(focus first|(have hz:=y6 x (D4 _ _ _ j).1;omega)|(have hz:=(D4 _ _ _ j).1;simp at hz;omega));(repeat' (refine And.intro ?_ ?_));all_goals first|(exact Ar ..)|(refine Ax _ _ _ _ _ _ _ _ _ _ _ _ ?_;decide)|exact Ci ..)
 .generalize v:Be C _=hz;have B:Ai h hz:=by rw[<- v];exact Ayw (hA:=h7.put (h.nx+1) _) Ex Ex Wp (Pc _) (Ye _)
  have gz:hz.m.get (h.nx+1)=cd (qsC ⟨c0,code,d2,d3,c4,c5,s6,c7,ord,c9,Wz,n,W0,Yc,M,O,U3,E9,Oi,Mg⟩ vc vo vm sv ⟨n,P,K,k,g⟩ scZ cv) 148:=by rw[<- v];exact A2 ..
  have gzq:hz.m.get h.nx=cd (qc ⟨c0,code,d2,d3,c4,c5,s6,c7,ord,c9,Wz,n,W0,Yc,M,O,U3,E9,Oi,Mg⟩ vc vo vm) 30:=by rw[<- v];exact(Aq _ _ _ om).trans g8q
  have oz:Fm 4 (h.nx+2) 100 hz cv g.length (g.flatMap Hx):=by rw[<- v];exact Fm.rl (Fm.To (h:=Ab h8) (Fm.rl (lg:=[]) S) om ((Jh (Vu 30) g8).trans rfl))
  have xz:hz.nx=h8.nx:=by rw[<- v];rfl
  clear v Wp S y3 y6 gr8 g8 g8q gr7 U o3 o4;obtain⟨o3,o4⟩:=B2 oz.sl;have Cmo:A0z ss ⟨c0,code,d2,d3,c4,c5,s6,c7,ord,c9,Wz,n,W0,[],M,O,U3,E9,Oi,Mg⟩ vc vo vm sv h.nx (.Bj [.ptr (h.nx+1) 0,ux]) hz->True:=λ_=>trivial;rcases ho with rfl|⟨b,hb,rfl⟩
  .refine wk ?_;refine zr B ⟨h.nx+1,⟨n,P,K,k,g⟩,scZ,cv,rfl,Pc _,by omega,gz,ha,rfl,.inl ⟨rfl,rfl⟩,?_⟩;rw[show g++scZ.A1=g from F0 _]
   exact⟨oz.sl,λc L=>(((z _ ha).cs).r).one c L,by omega⟩
  .have J:b.name≠[]:=by have:=(z b hb).nm;intro u;rw[u]at this;revert this;decide
   have k1:decide (b.name=[])=false:=Yg J;refine wk ?_;refine Fj ((gw E) b.name _ B.keeps) λv9 h9 e9 l9 A0Q q9=>?_
   obtain⟨i2,T,Y,A8q,rfl⟩:=q9.2 ⟨b,hb,rfl⟩;have gr9:Ai h h9:=B.trans e9;have g9:=(A0Q (h.nx+1) om).trans gz;have o9:=oz.gr e9;obtain⟨b2,p2,x1,Vz,x2,x3⟩:=(gw v) i2 T Y
   have Wg:=Vl Y;obtain⟨w3,w4⟩:=(z T Wg).one;have A:=λj e=>((z T Wg).By (h1:=j) e).cs.r;have hbf:=(z T Wg).Mu;replace A:=(hU A)
   rw[<- A8q]at J k1 gzq gz g9;simp only[<- A8q];obtain⟨bn,X,bm,t,p⟩:=T;simp only at J k1 w3 w4 A hbf x3 g9;clear e9 q9 A0Q gz gzq oz B Cmo;refine wd ?_;have U:Ai h (Ab (h9.put (h.nx+1) (cd (qsC ⟨c0,code,d2,d3,c4,c5,s6,c7,ord,c9,Wz,n,W0,bn,M,O,U3,E9,Oi,Mg⟩ vc vo vm sv ⟨n,P,K,k,g⟩ ⟨bn,X,bm,t,p⟩ cv) 148))):=Ex;have oP:Fm 4 (h.nx+2) 100 (Ab (h9.put (h.nx+1) (cd (qsC ⟨c0,code,d2,d3,c4,c5,s6,c7,ord,c9,Wz,n,W0,bn,M,O,U3,E9,Oi,Mg⟩ vc vo vm sv ⟨n,P,K,k,g⟩ ⟨bn,X,bm,t,p⟩ cv) 148))) cv g.length (g.flatMap Hx):=Fm.rl (lg:=[]) (Fm.To o9 om ((Jh (Vu 30) g9).trans rfl));obtain⟨Q,Fh,y1,S,y3,y4,V,y6,y7⟩:=Blx (lo:=h.nx+2) (l:=g) (m:=p) (w:=t) oP ((gw A) _ U.keeps) om (by show h.nx+2<=h9.nx;omega) rfl
   have g10:=(V (h.nx+1) om).trans (A2 ..);have C1A:Ai h Fh:=y7 h om U;simp only[C9]at y4;obtain⟨o5,o6⟩:=B2 S.sl;refine Ey y1 ?_;clear y1 y7 g9 x1 x2 x3 V oP o9;refine wd ?_;refine Pu (h.nx+1) h.nx ?_ λC Wp=>?_
   .simp only[Tl,Ww,Pl,G4,Jj];repeat' (refine And.intro ?_ ?_)
    all_goals first|(left;simp;done)|(refine .inr ⟨λx j=>.inr ?_,?_⟩;(focus first|(have hz:=y6 x (D4 _ _ _ j).1;omega)|(have hz:=(D4 _ _ _ j).1;simp at hz;omega));(repeat' (refine And.intro ?_ ?_));all_goals first|(exact Ar ..)|(refine Ax _ _ _ _ _ _ _ _ _ _ _ _ ?_;decide)|exact Ci ..)
   .have grf:Ai h (Be C (Ab ((Ab Fh).put (h.nx+1) (cd (qsC ⟨c0,code,d2,d3,c4,c5,s6,c7,ord,c9,Wz,n,W0,bn,M,O,U3,E9,Oi,Mg⟩ vc vo vm sv ⟨n,P,K,k,g⟩ ⟨bn,X,bm,t,p⟩ Q) 148)))):=Ayw (hA:=h9.put (h.nx+1) _) Ex Ex Wp (Pc _) (Ye _);repeat' (first|refine wk ?_|(refine zqq ?_ ?_<;>intro L<;>(try (exfalso;omega)))|fail)
    refine zr grf ⟨h.nx+1,⟨n,P,K,k,g⟩,⟨bn,X,bm,t,p⟩,Q,rfl,Pc _,?_,A2 ..,ha,rfl,.inr ⟨J,Wg,rfl⟩,?_⟩
    .show h.nx+1<Fh.nx;omega
    .refine⟨?_,λc L=>?_,by rw[Xi];show g.length+p.length<=50;omega⟩
     .exact(Fm.rl (lg:=C) (Fm.To (e1:=148) (l:=qsC ⟨c0,code,d2,d3,c4,c5,s6,c7,ord,c9,Wz,n,W0,bn,M,O,U3,E9,Oi,Mg⟩ vc vo vm sv ⟨n,P,K,k,g⟩ ⟨bn,X,bm,t,p⟩ Q) (h:=Ab Fh) (Fm.rl (lg:=[]) S) (show h.nx+1<h.nx+2 by omega) ((Jh (Vu 30) g10).trans rfl))).sl
     .rcases T2.1 L with L|L
      .exact(((z _ ha).cs).r).one c L
      .exact(((z _ Wg).cs).r).one c L
structure Qst(ss:List Abn)(q:Qr)(vc vo vm sv:AV)(x:Nat)(a b:Abn)(cv:AV)(h:H):Prop where
 lt:x<h.nx
 get:h.m.get x=.cells (qsC q vc vo vm sv a b cv) 148 .exact
 ha:a∈ss
 hn:a.name=q.Uw
 hb:CjC ss q b
 cs:CsR h cv (a.A1++b.A1)
 sd:SsD h sv ss
 l3:ss.length<=3
 c:Ue h vc q.code
 o:OkS h vo q.ord
 m:Ue h vm q.E9
def Qst.gr{ss}{q}{vc vo vm sv}{x}{a b}{cv}{h h1}(K:Qst ss q vc vo vm sv x a b cv h)(e:Ai h h1):Qst ss q vc vo vm sv x a b cv h1:=
 ⟨Yy K.lt e.lo,(e.Cf x K.lt).trans K.get,K.ha,K.hn,K.hb,K.cs.By e.keeps,K.sd.By e.keeps,K.l3,Sl.By K.c e.keeps,Sl.By K.o e.keeps,Sl.By K.m e.keeps⟩
abbrev ok0 r(_:H):=r=iI 0
variable {ss:List Abn}{q:Qr}{vc vo vm sv:AV}{x:Nat}{a b:Abn}{cv:AV}{h:H}
def r47(c:R59 Z)(K:Qst ss q vc vo vm sv x a b cv h):Ah h ok0 (ml Z N 44 [.ptr x 0] h):=by rw[e47];have m:=K.get;have n:=K.lt;have f:=K.sd;have d:=K.l3;clear K;(repeat' (first|refine wk ?_|(refine Pd (c _ _ _ f d) ?_;intro g j o k i e;subst e)|fail));exact zr Ex rfl
def R86:=∀(ss:List Abn) q vc vo vm sv x a b cv v l h,h.m.get x=cd (qsC q vc vo vm sv a b cv) 148->x<h.nx->R0 1 (λn=>[AV.int .i64 n]) h v l->l.length<=50->Ah h (λr _=>r=.bool (decide (q.c0∈l))) (Z.call 95 [.ptr x 0,v] h)
def r86(c:CjE Z)(o:h.m.get x=cd (qsC q vc vo vm sv a b cv) 148)(p:x<h.nx)(v:AV)(l:List Int)(e:R0 1 (λn:Int=>[AV.int .i64 n]) h v l)(f:l.length<=50):Ah h (λr _=>r=.bool (decide (q.c0∈l))) (ml Z N 95 [.ptr x 0,v] h):=by rw[e86];(repeat' (first|refine wk ?_|(refine Pd (c _ v l _ e f) ?_;intro g j s k i d;subst d)|rfl));exact zr Ex rfl
def R85:=∀(ss:List Abn) q vc vo vm sv x a b cv h,h.m.get x=cd (qsC q vc vo vm sv a b cv) 148->x<h.nx->Ah h (λr _=>r=.bool (decide (q.c0∈[2,4,5]))) (Z.call 94 [.ptr x 0] h)
def r85(c:R86 Z)(f:h.m.get x=cd (qsC q vc vo vm sv a b cv) 148)(d:x<h.nx):Ah h (λr _=>r=.bool (decide (q.c0∈[2,4,5]))) (ml Z N 94 [.ptr x 0] h):=by rw[e85];refine wk (Fj (show Ah .. from c [] q _ _ _ _ x a b _ _ [2,4,5] _ ((((Ai.refl h).new _).Cf x d).trans f) (Sa d) (Sl.lit (Bf _) rfl rfl) (by simp)) λv1 h2 i l2 e g=>?_);subst g;exact zr Ex rfl
def r49(c:R84 Z)(K:Qst ss q vc vo vm sv x a b cv h):Ah h ok0 (ml Z N 46 [.ptr x 0] h):=by rw[e49];have j:=K.get;have k:=K.lt;have f:=K.sd.r;have d:∃s∈ss,s.name=q.Uw:=⟨a,K.ha,K.hn⟩;clear K;refine wk ?_;refine zc2 (c sv ss q.Uw _ (f.By M0)) λv1 h1 e1 l1 g e=>?_;obtain⟨i,s,_,_,rfl⟩:=e.2 d;refine wk ?_;exact zr Ex rfl
def r50(K:Qst ss q vc vo vm sv x a b cv h)(hq:q.W0=0\/a.pub=false/\1<=q.W0/\q.W0<=4):Ah h ok0 (ml Z N 47 [.ptr x 0] h):=by
 rw[e50];have p:=K.get;have r:=K.lt;obtain⟨c0,code,d2,d3,c4,c5,s6,c7,ord,c9,Wz,Uw,W0,k,n,i,U3,E9,Oi,Mg⟩:=q;obtain⟨g,o,f,c,d⟩:=a;simp only at hq;clear K;rcases hq with rfl|⟨rfl,h1,h2⟩;. refine wk ?_;exact zr Ex rfl
 .have e:decide (W0<0)=false:=df;have j:decide ((50:Int)<W0)=false:=df;have m:decide (W0=0)=false:=df;refine wk ?_;exact zr Ex rfl
def is1(c:R86 Z)(f:h.m.get x=cd (qsC q vc vo vm sv a b cv) 148)(d:x<h.nx) n hy(e:Ai h hy):Ah (hy.new (cd [iI n] 3)) (λr _=>r=.bool (decide (q.c0=n))) (Z.call 95 [.ptr x 0,.sl hy.nx 0 1 1 1 true] (hy.new (cd [iI n] 3))):=by have g1:Ai h (hy.new (cd [iI n] 3)):=e.new _;have:=c [] q _ _ _ _ x a b _ _ [n] _ ((g1.Cf x d).trans f) (Yy d g1.lo) (Sl.lit (Bf _) rfl rfl) (by simp);grind
def is3(c:R86 Z)(f:h.m.get x=cd (qsC q vc vo vm sv a b cv) 148)(d:x<h.nx) n m k hy(e:Ai h hy):Ah (hy.new (cd [iI n,iI m,iI k] 3)) (λr _=>r=.bool (decide (q.c0=n\/q.c0=m\/q.c0=k))) (Z.call 95 [.ptr x 0,.sl hy.nx 0 3 3 1 true] (hy.new (cd [iI n,iI m,iI k] 3))):=by have g1:Ai h (hy.new (cd [iI n,iI m,iI k] 3)):=e.new _;have:=c [] q _ _ _ _ x a b _ _ [n,m,k] _ ((g1.Cf x d).trans f) (Yy d g1.lo) (Sl.lit (Bf _) rfl rfl) (by simp);grind
def B81(c:R85 Z)(f:h.m.get x=cd (qsC q vc vo vm sv a b cv) 148)(d:x<h.nx) hy(e:Ai h hy):Ah hy (λr _=>r=.bool (decide (q.c0=2\/q.c0=4\/q.c0=5))) (Z.call 94 [.ptr x 0] hy):=by have:=c [] q _ _ _ _ x a b _ _ ((e.Cf x d).trans f) (Yy d e.lo);grind
def r58(K:Qst ss q vc vo vm sv x a b cv h)(hq:1<=q.Mg/\q.Mg<=20):Ah h ok0 (ml Z N 55 [.ptr x 0] h):=by rw[e58];have d:=K.get;have e:=K.lt;clear K;have c:decide (q.Mg<1)=false:=df;refine wk ?_;exact zr Ex rfl
def R92:=∀s h,GP h->s∈Sw->Ah h ok0 (Z.call 70 [.str s] h)
def CfB:=∀s h,GP h->s∈Sw->Ah h (λr _=>r=.Bj [iI 1,iI 0]) (Z.call 11 [.str s,.str [49]] h)
def CfC:=∀s h,GP h->s∈Sw->Ah h (λr _=>r=.Bj [iI (-1),iI 0]) (Z.call 11 [.str s,.str uf] h)
def r57(f:GP h)(j:R92 Z)(g:CfB Z)(i:CfC Z)(K:Qst ss q vc vo vm sv x a b cv h)(hq:q.Oi∈Sw):Ah h ok0 (Ay prog Z N false 54 [.ptr x 0] h):=by
 rw[e57];have r:=K.get;have u:=K.lt;clear K;have p:q.Oi.length<=7:=by
  have:∀s∈Sw,s.length<=7:=by decide
  exact this _ hq
 have o:decide ((40:Int)<(q.Oi.length:Int))=false:=df;(repeat' (first|refine wk ?_|((with_reducible (first|apply Fj|apply zc2));exact j _ _ (f.gr Ex) hq;intro k m n e d c;(try simp only[C9]at e d);subst c)|((with_reducible (first|apply Fj|apply zc2));exact g _ _ (f.gr Ex) hq;intro k m n e d c;(try simp only[C9]at e d);subst c)|((with_reducible (first|apply Fj|apply zc2));exact i _ _ (f.gr Ex) hq;intro k m n e d c;(try simp only[C9]at e d);subst c)));repeat' (first|refine wk ?_|(refine zqq ?_ ?_<;>intro t<;>(try (exfalso;omega)))|fail)
 exact zr Ex rfl
def Bek{n:Int}(h:1<=n/\n<=10):n=1\/n=2\/n=3\/n=4\/n=5\/n=6\/n=7\/n=8\/n=9\/n=10:=by omega
def R90:=∀n h,Ah h (λr _=>r=.bool (decide (n < -1000000)||decide (1000000<n))) (Z.call 99 [iI n] h)
def Che(c:R90 Z) n h(h1:-3<=n)(h2:n<=100):Ah h (λr _=>r=ct) (Z.call 99 [iI n] h):=by have:=c n h;grind
set_option maxHeartbeats 1000000 in
def r54(B:R85 Z)(C:R86 Z)(E:R90 Z)(K:Qst ss q vc vo vm sv x a b cv h)(J:1<=q.c0/\q.c0<=10){A1:List Aaw}{q0:Qr}(kv:KV A1 q0 q):Ah h ok0 (ml Z N 51 [.ptr x 0] h):=by
 rw[e54];have v:=K.get;have P:=K.lt;obtain⟨o1,Y⟩:=B2 K.c;obtain⟨o3,o4⟩:=B2 K.o;obtain⟨X,T⟩:=B2 K.m;have s:=is1 Z (q:=q) C v P;have u:=B81 Z (q:=q) B v P;have A:=Che Z E;have p1:=kv.AyG;have p2:=kv.pq2;have p3:=kv.bd2;clear K kv B C E;obtain⟨c0,code,d2,d3,c4,c5,s6,c7,ord,c9,Wz,Uw,W0,Yc,S,V,U3,E9,Oi,Mg⟩:=q;simp only at J p1 p2 p3 s u;obtain⟨p3,p4⟩:=p3;have R:∀hy,Ai h hy->Ah h ok0 (.ok (iI 0) hy):=λhy e=>zr e rfl;by_cases w:c0=2\/c0=4\/c0=5
 .obtain⟨_,U,y2,W⟩:=p1 w;have z:decide (c0=2\/c0=4\/c0=5)=true:=Ws w;have F:decide (d3<d2)=false:=df;have f1:=λi=>A d2 i om om;have f2:=λi=>A d3 i om om;rw[z]at u;clear p1 A z;by_cases L:c0=5
  .subst L;obtain⟨w1,w2,w3⟩:=p2 rfl;have r:decide ((64:Int)<=d3-d2)=false:=df;have t:decide (c4<1)=false:=df;have M:decide (c5<=c4)=false:=df;have O:decide ((100:Int)<c5)=false:=df;repeat' (first|with_reducible (first|apply A7|apply A8|apply A9|apply Ba)|((with_reducible (first|apply Fj|apply zc2));exact u _ Ex;intro k i j g f d;(try simp only[C9]at g f);subst d)|((with_reducible (first|apply Fj|apply zc2));exact s _ _ Ex;intro k i j g f d;(try simp only[C9]at g f);subst d)|(refine Pd (f1 _) ?_;intro k i j g f d;subst d)|(refine Pd (f2 _) ?_;intro k i j g f d;subst d)|(with_reducible (first|apply Cy|apply Cz|apply C0|apply C1);(conv=>lhs;simp(disch:=first|exact dA|fail) [lw, *,v,F,r,t,M,O]);with_reducible (first|apply A7|apply A8|apply A9|apply Ba|apply Cu|(refine Cv (by simp) ?_)|apply Cx))|(with_reducible (first|apply Kl);(conv=>lhs;simp only[zw,F,r,t,M,O,Int.reduceEq,Ea,decide_false]))|(refine zqq ?_ ?_<;>intro I<;>(try (exfalso;omega)))|fail)
   exact zr Ex rfl
  .have r:decide (c0=5)=false:=Yg L;have t:decide (c0=7)=false:=df;have p:=s 5;have n:=s 7;rw[r]at p;rw[t]at n;clear s p2 w J;repeat' (first|with_reducible (first|apply A7|apply A8|apply A9|apply Ba)|((with_reducible (first|apply Fj|apply zc2));exact u _ Ex;intro k i j g f d;(try simp only[C9]at g f);subst d)|((with_reducible (first|apply Fj|apply zc2));exact p _ Ex;intro k i j g f d;(try simp only[C9]at g f);subst d)|((with_reducible (first|apply Fj|apply zc2));exact n _ Ex;intro k i j g f d;(try simp only[C9]at g f);subst d)|(refine Pd (f1 _) ?_;intro k i j g f d;subst d)|(refine Pd (f2 _) ?_;intro k i j g f d;subst d)|(with_reducible (first|apply Cy|apply Cz|apply C0|apply C1);(conv=>lhs;simp(disch:=first|exact dA|fail) [lw, *,v,F]);with_reducible (first|apply A7|apply A8|apply A9|apply Ba|apply Cu|(refine Cv (by simp) ?_)|apply Cx))|(with_reducible (first|apply Kl);(conv=>lhs;simp only[zw,F,r,t]))|(refine zqq ?_ ?_<;>intro I<;>(try (exfalso;omega)))|fail)
   exact zr Ex rfl
 .have z:decide (c0=2\/c0=4\/c0=5)=false:=Yg w;have r:decide (c0=5)=false:=df;have p:=s 5;have n:=s 7;rw[z]at u;rw[r]at p;have Q:=λi=>A c7 i om om;clear s p1 p2 A z;cases t:decide (c0=7)
  .rw[t]at n;clear w;repeat' (first|with_reducible (first|apply A7|apply A8|apply A9|apply Ba)|((with_reducible (first|apply Fj|apply zc2));exact u _ Ex;intro k i j g f d;(try simp only[C9]at g f);subst d)|((with_reducible (first|apply Fj|apply zc2));exact p _ Ex;intro k i j g f d;(try simp only[C9]at g f);subst d)|((with_reducible (first|apply Fj|apply zc2));exact n _ Ex;intro k i j g f d;(try simp only[C9]at g f);subst d)|(refine Pd (Q _) ?_;intro k i j g f d;subst d)|(with_reducible (first|apply Cy|apply Cz|apply C0|apply C1);(conv=>lhs;simp(disch:=first|exact dA|fail) [lw, *,v]);with_reducible (first|apply A7|apply A8|apply A9|apply Ba|apply Cu|(refine Cv (by simp) ?_)|apply Cx))|(with_reducible (first|apply Kl);(conv=>lhs;simp only[zw,r]))|(refine zqq ?_ ?_<;>intro I<;>(try (exfalso;omega)))|fail)
   exact zr Ex rfl
  .rw[t]at n;clear w;repeat' (first|with_reducible (first|apply A7|apply A8|apply A9|apply Ba)|((with_reducible (first|apply Fj|apply zc2));exact u _ Ex;intro k i j g f d;(try simp only[C9]at g f);subst d)|((with_reducible (first|apply Fj|apply zc2));exact p _ Ex;intro k i j g f d;(try simp only[C9]at g f);subst d)|((with_reducible (first|apply Fj|apply zc2));exact n _ Ex;intro k i j g f d;(try simp only[C9]at g f);subst d)|(refine Pd (Q _) ?_;intro k i j g f d;subst d)|(with_reducible (first|apply Cy|apply Cz|apply C0|apply C1);(conv=>lhs;simp(disch:=first|exact dA|fail) [lw, *,v]);with_reducible (first|apply A7|apply A8|apply A9|apply Ba|apply Cu|(refine Cv (by simp) ?_)|apply Cx))|(with_reducible (first|apply Kl);(conv=>lhs;simp only[zw,r]))|(refine zqq ?_ ?_<;>intro I<;>(try (exfalso;omega)))|fail)
   exact zr Ex rfl
def BaR{ss:List Abn}(z:SsV ss){s t:Abn}(n:s∈ss)(w:t∈ss){c d:Aaw}(o:c∈s.A1)(hd:d∈t.A1)(hn:c.name=d.name):Px c=Px d:=by
 obtain⟨all,h1,_,_,v⟩:=z;have m:(all.map Aaw.name).Nodup:=by rw[h1];decide
 have g:∀(s:Abn) (c:Aaw),s∈ss->c∈s.A1->∃e∈all,Px e=Px c:=by intro s c n o;obtain⟨_,sub,E,B⟩:=v s n;have F:Px c∈sub.map Px:=B ▸ Of o;grind
 obtain⟨e,u,r⟩:=g s c n o;obtain⟨f,p,k⟩:=g t d w hd;have A:e.name=f.name:=by have a1:=Jh Prod.fst r;have a2:=Jh Prod.fst k;simp only[Px]at a1 a2;simp[*]
 have:e=f:=by
  obtain⟨i,hi⟩:=Oh u;obtain⟨j,hj⟩:=Oh p;have b2:(all.map Aaw.name)[j]?=some e.name:=by grind
  have C:=(Kq m).1 ((Xh.1 (by grind:(all.map Aaw.name)[i]?=some e.name)).2.trans (Xh.1 b2).2.symm);grind
 grind
def A0R{α β:Type}{f:α->β}:∀{l:List _},(l.map f).Nodup->∀{x y},x∈l->y∈l->f x=f y->x=y
|[],_,x,y,c,_,_=>by grind
|z::l,hn,x,y,c,hy,he=>by
 rw[Co,List.nodup_cons]at hn;rcases Wf.1 c with h1|h1;. grind
 .rcases Wf.1 hy with h2|h2;. grind
  .exact A0R hn.2 h1 h2 he
def Bb5:∀{ss},(ss.map Abn.name).Nodup->∀{a},a∈ss->Ab1 ss a.name=a.A1
|[],_,a,h=>by grind
|s::ss,hn,a,h=>by
 rw[Co,List.nodup_cons]at hn;rcases Wf.1 h with rfl|h
 .have:(ss.filter λt=>decide (t.name=a.name))=[]:=List.filter_eq_nil_iff.2 λt d=>by grind
  simp[Ab1,this]
 .have c:=Bb5 hn.2 h;simp[Ab1]at c ⊢;grind
def Qst.A1(K:Qst ss q vc vo vm sv x a b cv h):a.A1++b.A1=AaF ss q:=by
 rw[AaF,<- K.hn,Bb5 K.sd.nd K.ha];rcases K.hb with⟨h1,rfl⟩|⟨_,h2,f⟩;. rw[h1,Ajm λs c e=>by have:=(K.sd.d s c).nm;rw[e]at this;revert this;decide];rfl
 .rw[<- f,Bb5 K.sd.nd h2]
def Qst.Zn(K:Qst ss q vc vo vm sv x a b cv h){c}(d:c∈a.A1++b.A1):∃s∈ss,c∈s.A1:=by
 rcases T2.1 d with d|d;. exact⟨a,K.ha,d⟩
 .rcases K.hb with⟨_,rfl⟩|⟨_,h2,_⟩;. cases d
  grind
def CjG:=∀c h,S0 h->WsW h c->Ge c.w=true/\cellsOf c.w=some [c.w]->c.name∈N1/\AdD c.a c.b c.ws->Ah h (λr _=>r=ux) (Z.call 133 [.agg (Hx c)] h)
def CvI(e:CaF Z) c h(g:S0 h)(f:WsW h c)(j:Ge c.w=true/\cellsOf c.w=some [c.w])(k:c.name∈N1/\AdD c.a c.b c.ws):Ah h (λr _=>r=ux) (ml Z N 133 [.agg (Hx c)] h):=by
 rw[Crl];have g1:=((Ai.refl h).new _:Ai h (h.new (cd (Hx c) 100))).new (cd (Hx c) 100);have h1:=by
  refine e _ [c] 0 _ ⟨⟨Sl.lit (Bf _) rfl rfl,λd hd=>?_,by simp⟩,λd hd=>?_,λd hd=>?_,g.By g1.keeps⟩ (by simp) om (by simp);. grind
  .rw[T0.1 hd];exact f.By g1.keeps
  simp_all
 refine wk ?_;refine Fj (show Ah _ .. from h1) λv1 h2 n l2 i m=>wk ?_;exact zr Ex rfl
def R91:=∀c h,S0 h->WsW h c->Ge c.w=true/\cellsOf c.w=some [c.w]->c.name∈N1/\AdD c.a c.b c.ws->Ah h (λr _=>r=iI (c.b-c.a+1)) (Z.call 100 [.agg (Hx c)] h)
def BxT{a b}{ws}(h:AdD a b ws):-3<=a/\a<=b/\b<=20:=by
 rcases h with⟨_,h⟩|⟨u,h1,h2,_,d,c⟩;. grind
 omega
def B6x{a b}{ws}(h:AdD a b ws):a<=b/\b<=a+7:=by
 rcases h with⟨_,h⟩|⟨u,h1,h2,_,d,c⟩;. grind
 omega
def r91(d:CjG Z) c h(j:S0 h)(i:WsW h c)(m:Ge c.w=true/\cellsOf c.w=some [c.w])(f:c.name∈N1/\AdD c.a c.b c.ws):Ah h (λr _=>r=iI (c.b-c.a+1)) (ml Z N 100 [.agg (Hx c)] h):=by rw[e91];have⟨o,n⟩:=m;have⟨_,_,_⟩:=BxT f.2;refine wk ?_;refine Fj ((show ∀g e,_ from λg e=>d c g (j.By e) (i.By e) ⟨o,n⟩ f) _ M0) λv1 h2 p l2 k s=>wk ?_;exact zr Ex rfl
def r55(A:R86 Z)(v:R87 Z)(p:R91 Z)(K:Qst ss q vc vo vm sv x a b cv h){q0:Qr}(kv:KV (AaF ss q) q0 q):Ah h ok0 (Ay prog Z N false 52 [.ptr x 0] h):=by
 rw[e55];have V:=K.get;have g:=K.lt;have r:=is3 Z (q:=q) A V g 1 2 5;by_cases n:q.c0=1\/q.c0=2\/q.c0=5
 .rw[Ws n]at r;clear K kv;(repeat' (first|refine wk ?_|((with_reducible (first|apply Fj|apply zc2));exact r _ Ex;intro vv u Q E C P;(try simp only[C9]at E C);subst P)));exact zr Ex rfl
 .rw[Yg n]at r;have k:=kv.Bcq om om om;rw[<- K.A1]at k;have j:=λg e=>v cv _ q.s6 g (K.cs.By e) k;replace j:=(hU j);have f:=λc k=>K.Zn (c:=c) k;have t:=K.sd;replace f:=(hU f);clear K kv k n;(repeat' (first|refine wd ?_|((with_reducible (first|apply Fj|apply zc2));exact r _ Ex;intro vv u Q E C P;(first|(have o:=Ai.quiet Q;try simp only[C9]at E C o)|(try simp only[C9]at E C));subst P)));refine Fj ((gw j) _ M0) λv1 h1 e1 l1 M W=>?_;obtain⟨c,k,I,rfl⟩:=W;obtain⟨s,Y,R⟩:=(gw f) c k;have i:=((t.d s Y).cs);have F:=i.w c R;have n:=i.ok c R;have U:=BxT n.2;obtain⟨o1,o2⟩:=B2 F;have k1:decide ((64:Int)<c.b-c.a+1)=false:=df;have o:=Ai.quiet e1;try simp only[C9]at l1 M o;have h2:=λg e=>p c g (i.gk.By e) (WsW.of (Sl.By F e)) (B2 F) n;replace h2:=(hU h2);clear i f t j F n p r A v I;have J:Ai h h1:=Ex;refine wd ?_;have S:∀z∈h1.nx::u.lg,z∈u.lg\/z=h.nx\/h.nx<=z:=λz hz=>(Wf.1 hz).elim (λe=>.inr (.inr (e ▸ J.lo))) .inl;generalize O:Be (h1.nx::u.lg) _=hz;have B:Ai h hz:=by rw[<- O];exact Ayw (hA:=u) Ex Ex S (Ye _) (Ye _)
  have gz:hz.m.get h1.nx=cd (Hx c) 100:=by rw[<- O];exact A2 ..
  clear O S;refine Fj ((gw h2) _ B.keeps) λv2 h3 e3 l3 T X=>?_;subst X;have L:=B.trans e3;refine wk ?_;exact zr L rfl
def CiF{h}{b} i(h0:0<=i)(h1:i<2):AxM 2 1 (.ptr b 0) (iI i) h=.ok (.ptr b i.toNat) h:=by
 have:i=0\/i=1:=by omega
 rcases this with rfl|rfl<;>rfl
def B7j(j:Nat)(c:Aaw)(hq:0<=q.c9/\q.c9<=2)(o:h.m.get x=cd (qsC q vc vo vm sv a b cv) 148)(B:x<h.nx)(e:h.m.get j=cd (Hx c) 100)(g:j<h.nx)(v:AV)(l:List (Int × Int))(p:OkS h v l)(I:l.length<=4)(w:∀r∈l,c.a<=r.1/\r.1<=r.2/\r.2<=c.b):
 ∀(k:Nat) (i:Int) (n:Nat) (hd:H) (f0:L2),i+(k:Int)=(l.length:Int)->0<=i->k<n->Ai h hd->Ah h ok0 (Bxt Z N n (.ptr x 0) (.ptr j 0) v (iI (l.length:Int)) (iI i) f0 hd)
 |0,i,n,hd,f0,L,z,E,d=>by obtain⟨n1,rfl⟩:=mg n;have C:decide (i<(l.length:Int))=false:=df;have g1:=(d.Cf x B).trans o;have K:decide (q.c9<0)=false:=df;have F:decide ((2:Int)<q.c9)=false:=df;clear o p;rw[B5o];refine wk ?_;exact zr d rfl
 |k+1,i,n,hd,f0,L,z,E,d=>by
  obtain⟨n1,rfl⟩:=mg n;have u:=B7j j c hq o B e g v l p I w k (i+1) n1;have C:decide (i<(l.length:Int))=true:=dt;have A:((i.toNat:Nat):Int)=i:=Tb z;obtain⟨r,t⟩:∃x,l[i.toNat]?=some x:=⟨_,Yq om⟩;obtain⟨b1,T,el⟩:=R0.elem (f:=Zd) (s:=2) (λ_=>rfl) (Sl.By p d.keeps) t;have M:=el.ia;rw[A]at M;have V:=el.all;obtain⟨P,U,Q⟩:=w r (Vl t);have S:=(d.Cf j g).trans e;have Kf:=d.lo;have J:=Yy g Kf;have R:j≠hd.nx:=by omega
  have K:decide (r.1<c.a)=false:=df;have F:decide (c.b<r.2)=false:=df;have W:decide (r.2<r.1)=false:=df;replace u:=(hU u);clear el A t o p w e;rw[B5o];(have O:=@CiF;refine wk ?_);exact(gw u) _ _ om om om Ex
def r56(hN:100<N)(S:R86 Z)(R:R87 Z)(K:Qst ss q vc vo vm sv x a b cv h)(hV:SsV ss){q0:Qr}(kv:KV (AaF ss q) q0 q):Ah h ok0 (Ay prog Z N false 53 [.ptr x 0] h):=by
 rw[e56];have V:=K.get;have n:=K.lt;have F:=is1 Z (q:=q) S V n 10;have X:∀j,Fo vo j=.ok (iI (q.ord.length:Int)) j:=λ_=>K.o.Gs;by_cases I:q.c0=10
 .rw[Ws I]at F;obtain⟨W,z2,z3,z4,U,M,A,hR⟩:=kv.Bde I;rw[<- K.A1]at M;have i:=λn e=>R cv _ q.s6 n (K.cs.By e) ⟨U,M,A⟩;replace i:=(hU i)
  have AhE:=Kd.2 W;have k1:decide ((q.ord.length:Int)=0)=false:=df;have k2:decide ((64:Int)<(q.ord.length:Int))=false:=df;have k:=λc v=>K.Zn (c:=c) v;have P:=K.sd;have ho:=K.o;have hz:∀c∈a.A1++b.A1,c.name=q.s6->∀r∈q.ord,c.a<=r.1/\r.1<=r.2/\r.2<=c.b:=by intro c v d r hr;obtain⟨s,hs,X3⟩:=k c v;obtain⟨t,ht,L⟩:=k U M;have T:=BaR hV hs ht X3 L (d.trans A.symm);simp only[Px,Prod.mk.injEq]at T;rw[T.2.1,T.2.2.1];exact hR r hr
  have f:∀c∈a.A1++b.A1,Ge c.w=true/\cellsOf c.w=some [c.w]:=K.cs.one;replace hz:=(hU hz)
  replace f:=(hU f)
  clear K kv I hR k P;have Hr:decide (q.ord=[])=false:=Yg W;(repeat' (first|refine wd ?_|((with_reducible (first|apply Fj|apply zc2));exact F _ Ex;intro vv j Y C B Q;(first|(have p:=Ai.quiet Y;try simp only[C9]at C B p)|(try simp only[C9]at C B));subst Q)));refine Fj ((gw i) _ M0) λv1 h1 e1 l1 O q1=>?_;obtain⟨c,v,d,rfl⟩:=q1;have u:=(gw hz) c v d;obtain⟨o1,o2⟩:=(show ∀c∈a.A1++b.A1,Ge c.w=true/\cellsOf c.w=some [c.w]from f) c v;have p:=Ai.quiet e1;have J:Ai h h1:=Ex;try simp only[C9]at l1 O p;clear i hz f d v;replace u:=(hU u);refine wd ?_;have Wp:∀z∈h1.nx::j.lg,z∈j.lg\/z=h.nx\/h.nx<=z:=λz hz=>(Wf.1 hz).elim (λe=>.inr (.inr (e ▸ J.lo))) .inl;generalize E:Be (h1.nx::j.lg) _=hz;have g:Ai h hz:=by rw[<- E];exact Ayw (hA:=j) Ex Ex Wp (Ye _) (Ye _)
  have gz:hz.m.get h1.nx=cd (Hx c) 100:=by rw[<- E];exact A2 ..
  have xz:hz.nx=h1.nx+1:=by rw[<- E];rfl
  clear E Wp;try (refine wk ?_)
  refine Ah.of g (B7j Z N h1.nx c ⟨z3,z4⟩ ((g.Cf x n).trans V) (Yy n g.lo) gz om vo q.ord (Sl.By ho g.keeps) om u q.ord.length 0 N hz _ om om om (Ai.refl _))
 .rw[Yg I]at F;clear K kv;(repeat' (first|refine wk ?_|((with_reducible (first|apply Fj|apply zc2));exact F _ Ex;intro vv j Y C B Q;(try simp only[C9]at C B);subst Q)));exact zr Ex rfl
def R88:=∀v w l h,Ig h v l->Ig h w l->l.length<=5->Ah h (λr _=>r=ux) (Z.call 97 [v,w] h)
def B7m(v w:AV)(l:List uw) h(j:Ig h v l)(g:Ig h w l)(p:l.length<=5):
 ∀(k:Nat) (i:Int) n hd f0,i+k=l.length->0<=i->k<n->Ai h hd->Ah h (λr _=>r=ux) (BxA Z N n v w (iI l.length) (iI i) f0 hd)
 |0,i,n,hd,f0,s,e,m,d=>by obtain⟨n1,rfl⟩:=mg n;rw[B5Q];exact wk (zr d rfl)
 |k+1,i,n,hd,f0,s,e,m,d=>by obtain⟨n1,rfl⟩:=mg n;have A:=B7m v w l h j g p k (i+1) n1;have⟨y,hy⟩:∃x,l[i.toNat]?=some x:=⟨_,Yq om⟩;have⟨b1,C,el⟩:=R0.elem (f:=Aeb) (λ_=>rfl) (Sl.By j d.keeps) hy;have⟨b2,B,c⟩:=R0.elem (f:=Aeb) (λ_=>rfl) (Sl.By g d.keeps) hy;have t:=el.ia;have o:=c.ia;rw[Tb e]at t o;have z:=el.part 0 _ rfl;have u:=c.part 0 _ rfl;rw[Vw]at z u;rw[B5Q];refine wk ?_;grind
def r88(i:100<N) v w l h(e:Ig h v l)(d:Ig h w l)(f:l.length<=5):Ah h (λr _=>r=ux) (ml Z N 97 [v,w] h):=by rw[e88];have g:∀c,Fo v c=.ok ..:=λ_=>e.Gs;have j:∀c,Fo w c=.ok ..:=λ_=>d.Gs;exact wk ((show ∀f0,_ from B7m Z N v w l h e d f l.length 0 N h) _ om om om (Ai.refl _))
set_option maxHeartbeats 2000000 in
def r51(h84:R84 Z)(Q:R87 Z)(h88:R88 Z)(K:Qst ss q vc vo vm sv x a b cv h)(hV:SsV ss)(hP:Aqh ss q):Ah h ok0 (Ay prog Z N false 48 [.ptr x 0] h):=by
 rw[e51];have hg:=K.get;have g:=K.lt;obtain⟨o1,o2⟩:=B2 K.c;obtain⟨o3,o4⟩:=B2 K.o;obtain⟨o5,o6⟩:=B2 K.m;obtain⟨I,Y,Cmj,_,hj⟩:=hP.tbl;obtain rfl:I=a:=A0R K.sd.nd Y K.ha (Cmj.trans K.hn.symm);have C:=λnm g e=>h84 sv ss nm g (K.sd.r.By e);replace C:=(hU C)
 have j:=K.sd;have hb:=K.hb;have k:=(j.d I Y).cs;have B:=k.r.one;obtain⟨u1,u2⟩:=(j.d I Y).one;have v:=λnm g e hm=>Q I.cv I.A1 nm g (k.r.By e) hm;replace v:=(hU v)
 clear K h84 Cmj;rcases hj with⟨y1,y2,y3,y4⟩|⟨n,p,F,Cm1,⟨c,hc,hcn⟩,⟨d,hd,hdn⟩,hcd,l1,l2⟩
 .obtain⟨c0,code,d2,d3,c4,c5,s6,c7,ord,c9,Wz,Uw,W0,Yc,Sk,Uo,U3,E9,Oi,Mg⟩:=q;simp only at y1 y2 y3 y4;subst y1;subst y2;subst y3;subst y4;clear hb hP j k v C Q h88 B hV;refine wk ?_;exact zr Ex rfl
 .have Ch9:n.name≠[]:=by have:=(j.d n p).nm;intro hh;rw[hh]at this;revert this;decide
  obtain rfl:n=b:=by
   rcases hb with⟨h1,_⟩|⟨_,h2,A⟩
   .exact absurd (F.trans h1) Ch9
   .exact A0R j.nd p h2 (F.trans A.symm)
  have L:=(j.d n p).cs;obtain⟨u3,u4⟩:=(j.d n p).one;have U:=λnm g e hm=>Q n.cv n.A1 nm g (L.r.By e) hm;replace U:=(hU U)
  have k1:decide (q.Wu=[])=false:=Yg (F ▸ Ch9);have k2:decide (q.c16<1)=false:=df;have k3:decide ((50:Int)<q.c16)=false:=df;have R:∀e∈I.A1,e.name=q.s14->∀f∈n.A1,f.name=q.s15->e.ws=f.ws/\∀g,Bi h g->Ig g e.w e.ws/\Ig g f.w e.ws/\e.ws.length<=5:=by intro e he t f hf T;have h1:=BaR hV Y p he hf (t.trans (hcd.trans T.symm));simp only[Px,Prod.mk.injEq]at h1;refine⟨h1.2.2.2,λg ek=>⟨Sl.By (k.w e he) ek,?_,(k.ok e he).2.Mu⟩⟩;rw[h1.2.2.2];exact Sl.By (L.w f hf) ek
  have J:=L.r.one;replace R:=(hU R)
  replace B:=(hU B)
  replace J:=(hU J)
  have X:∃s∈ss,s.name=q.Wu:=⟨n,p,F⟩;have W:∃c∈I.A1,c.name=q.s14:=⟨c,hc,hcn⟩;have O:∃c∈n.A1,c.name=q.s15:=⟨d,hd,hdn⟩;replace X:=(hU X)
  replace W:=(hU W)
  replace O:=(hU O)
  obtain⟨c0,code,d2,d3,c4,c5,s6,c7,ord,c9,Wz,Uw,W0,Yc,Sk,Uo,U3,E9,Oi,Mg⟩:=q;simp only at k1 k2 k3;clear hb hP j k L Q hV hcd hcn hdn hc hd F Ch9 l1 l2;refine wd ?_;refine Fj ((gw C) Yc _ M0) λv1 h1 e1 l1 Aad q1=>?_
  obtain⟨i,s,_,_,rfl⟩:=q1.2 X;have eq1:=Ai.quiet e1;have gr1:Ai h h1:=Ex;simp only[C9]at l1 Aad eq1;have g4:=(Aad h.nx om).trans (A2 ..);have gx:=(gr1.Cf x g).trans hg;clear Aad q1 C X;refine wd ?_;refine Fj ((gw v) Sk _ M0 W) λv2 h2 e2 l2 Aae q2=>?_
  obtain⟨e,he,t,rfl⟩:=q2;obtain⟨w1,w2⟩:=(show ∀c∈I.A1,Ge c.w=true/\cellsOf c.w=some [c.w]from B) e he
  have eq2:=Ai.quiet e2;have P:Ai h h2:=Ex;simp only[C9]at l2 Aae eq2;have g5:=(Aae h.nx om).trans g4;have gy:=(P.Cf x g).trans hg;clear Aae v W B g4 gx e1;replace t:=(hU t)
  refine wd ?_;have Wp:∀z∈h2.nx::h.nx::h.lg,z∈(h.put h.nx (.map [])).lg\/z=h.nx\/h.nx<=z:=λz hz=>(Wf.1 hz).elim (λe=>.inr (.inr (e ▸ P.lo))) .inl;have A3W:=P.lo;generalize u:Be (h2.nx::h.nx::h.lg) _=hz;have grz:Ai h hz:=by rw[<- u];exact Ayw (hA:=h.put h.nx (.map [])) ((Ai.refl h).put _ _ (Ye _)) Ex Wp (Ye _) (Ye _)
  have ge:hz.m.get h2.nx=cd (Hx e) 100:=by rw[<- u];exact A2 ..
  have g6:hz.m.get h.nx=h2.m.get h.nx:=by rw[<- u];exact(Aq _ _ _ om).trans (Cq (h:=Ab h2) _ _ (by show h.nx≠h2.nx;omega))
  rw[g5]at g6;have xz:hz.nx=h2.nx+1:=by rw[<- u];rfl
  have gz:=(grz.Cf x g).trans hg;clear u Wp g5 gy e2 eq1 eq2 gr1 P;try (refine wd ?_)
  refine Fj ((gw U) Uo _ M0 O) λv3 A e3 l3 S q3=>?_
  obtain⟨f,hf,T,rfl⟩:=q3;obtain⟨w3,w4⟩:=(show ∀c∈n.A1,Ge c.w=true/\cellsOf c.w=some [c.w]from J) f hf
  obtain⟨hwe,M⟩:=(gw R) e he t f hf T
  have eq3:=Ai.quiet e3;have gr3:Ai h A:=Ex;simp only[C9]at l3 S eq3;have g7:=(S h.nx om).trans g6;have ge2:=(S h2.nx om).trans ge;clear S U O J g6 gz R hwe T t;replace M:=(hU M)
  refine wd ?_;refine Pu (h.nx) (h.nx) (by(simp only[Tl,Ww,Pl,G4,Jj]);(repeat' (refine And.intro ?_ ?_));all_goals first|(left;simp;done)|(left;assumption)|(left;simp[*];done)|(refine .inr ⟨λx g=>.inr ?_,?_⟩;(focus first|(have hz:=(D4 _ _ _ g).1;simp at hz;omega));(repeat' (refine And.intro ?_ ?_));all_goals first|(exact Ar ..)|(refine Ax _ _ _ _ _ _ _ _ _ _ _ _ ?_;decide)|exact Ci ..)) λAal Wp=>?_
  generalize u:Be Aal _=hy;have E:Ai h hy:=by rw[<- u];exact Ayw (hA:=h.put h.nx (.map [])) ((Ai.refl h).put _ _ (Ye _)) Ex (λz hz=>(Wp z hz).elim (λq=>(Wf.1 q).elim (λe=>.inr (.inr (e ▸ A3W))) .inl) .inr) (Ye _) (Ye _)
  have gf:hy.m.get A.nx=cd (Hx f) 100:=by rw[<- u];exact A2 ..
  have g8:hy.m.get h.nx=A.m.get h.nx:=by rw[<- u];exact(Aq _ _ _ om).trans (Cq (h:=Ab A) _ _ (by show h.nx≠A.nx;omega))
  rw[g7]at g8;have ge3:hy.m.get h2.nx=A.m.get h2.nx:=by rw[<- u];exact(Aq _ _ _ om).trans (Cq (h:=Ab A) _ _ (by show h2.nx≠A.nx;omega))
  rw[ge2]at ge3;have gz:=(E.Cf x g).trans hg;have xy:hy.nx=A.nx+1:=by rw[<- u];rfl
  clear u Wp g7 ge2 ge e3 eq3 gr3 grz;have V:∀g,Bi h g->Ah g (λr _=>r=ux) (Z.call 97 [e.w,f.w] g):=λg ek=>by
   obtain⟨q1,q2,q3⟩:=(gw M) g ek
   exact h88 _ _ _ g q1 q2 q3
  replace V:=(hU V)
  clear h88 M;have fin:∀g,Bi h g->g.m.get h.nx=hy.m.get h.nx->Ai h g->True:=λ_ _ _ _=>trivial;obtain⟨an,ap,am,acv,acs⟩:=I;obtain⟨bn,bp,bm,bcv,bcs⟩:=n;simp only at Cm1 u1 u2 u3 u4;cases ap
  .refine wk ?_;refine Fj ((gw V) _ E.keeps) λv4 h4 e4 l4 A9W q4=>?_
   subst q4;have g9:=(A9W h.nx om).trans g8;have gr4:=E.trans e4;refine wk ?_;exact zr gr4 rfl
  .obtain rfl:=Cm1 rfl;refine wk ?_;refine Fj ((gw V) _ E.keeps) λv4 h4 e4 l4 A9W q4=>?_
   subst q4;have g9:=(A9W h.nx om).trans g8;have gr4:=E.trans e4;refine wk ?_;exact zr gr4 rfl
def B7i(v:AV)(h:H)(g:Sl 1 h v 6 [ct,ct,ct,ct,ct,ct]):
 ∀(k:Nat) (i:Int) (n:Nat) (hd:H) (f0:L2),i+(k:Int)=6->0<=i->k<n->Ai h hd->Ah h ok0 (Bxm Z N n v (iI 6) (iI i) f0 hd)
 |0,i,n,hd,f0,u,m,t,j=>by obtain⟨n1,rfl⟩:=mg n;have e:decide (i<(6:Int))=false:=df;rw[B5n];repeat' (first|with_reducible (first|apply A7|apply A8|apply A9|apply Ba)|(with_reducible (first|apply Cy|apply Cz|apply C0|apply C1);(conv=>lhs;simp(disch:=first|exact dA|fail) [lw, *,e]);simp[*])|rfl|(refine zqq ?_ ?_<;>intro z<;>(try (exfalso;omega)))|fail);exact zr j rfl
 |k+1,i,n,hd,f0,u,m,t,j=>by
  obtain⟨n1,rfl⟩:=mg n;have w:=B7i v h g k (i+1) n1;have e:decide (i<(6:Int))=true:=dt;have o:((i.toNat:Nat):Int)=i:=Tb m;have c:R0 1 (λy:AV=>[y]) hd v [ct,ct,ct,ct,ct,ct]:=Sl.By g j.keeps;have d:∀i:Nat,i<6->[AV.bool false,ct,ct,ct,ct,ct][i]?=some ct:=by
   intro i hi;have:i=0\/i=1\/i=2\/i=3\/i=4\/i=5:=by omega
   rcases this with rfl|rfl|rfl|rfl|rfl|rfl<;>rfl
  obtain⟨b1,A,el⟩:=R0.elem (f:=λy:AV=>[y]) (s:=1) (λ_=>rfl) c (d i.toNat om);have p:=el.ia;rw[o]at p;have r:=el.part 0 _ rfl;rw[Vw]at r;clear el o g c d;rw[B5n];repeat' (first|with_reducible (first|apply A7|apply A8|apply A9|apply Ba)|(with_reducible (first|apply Cy|apply Cz|apply C0|apply C1);(conv=>lhs;simp(disch:=first|exact dA|fail) [lw, *,e,p,r]);simp)|(with_reducible (first|apply Kl);(conv=>lhs;simp only[zw,e]))|(refine zqq ?_ ?_<;>intro z<;>(try (exfalso;omega)))|fail)
  exact w _ _ om om om Ex
def CuC(d:R86 Z)(f:h.m.get x=cd (qsC q vc vo vm sv a b cv) 148)(i:x<h.nx) n c(g:decide (q.c0=n)=c) b1 hy(hb:hy.nx=b1)(e:Ai h hy):Ah (hy.new (cd [iI n] 3)) (λr _=>r=.bool c) (Z.call 95 [.ptr x 0,.sl b1 0 1 1 1 true] (hy.new (cd [iI n] 3))):=by subst hb g;exact is1 Z d f i n _ e
def CuD(d:R86 Z)(f:h.m.get x=cd (qsC q vc vo vm sv a b cv) 148)(i:x<h.nx) n m k c(g:decide (q.c0=n\/q.c0=m\/q.c0=k)=c) b1 hy(hb:hy.nx=b1)(e:Ai h hy):Ah (hy.new (cd [iI n,iI m,iI k] 3)) (λr _=>r=.bool c) (Z.call 95 [.ptr x 0,.sl b1 0 3 3 1 true] (hy.new (cd [iI n,iI m,iI k] 3))):=by subst hb g;exact is3 Z d f i n m k _ e
set_option maxHeartbeats 4000000 in
def r48(V:100<N)(w:R85 Z)(s:R86 Z)(K:Qst ss q vc vo vm sv x a b cv h)(C:1<=q.c0/\q.c0<=10){A1:List Aaw}{q0:Qr}(kv:KV A1 q0 q):Ah h ok0 (ml Z N 45 [.ptr x 0] h):=by
 rw[e48];have u:=K.get;have F:=K.lt;obtain⟨R,Q⟩:=B2 K.c;obtain⟨T,U⟩:=B2 K.o;obtain⟨P,M⟩:=B2 K.m;have t:=CuC Z (q:=q) s u F;have E:=CuD Z (q:=q) s u F;have I:=B81 Z (q:=q) w u F;have l1:∀g,Fo vc g=.ok (iI (q.code.length:Int)) g:=λ_=>K.c.Gs;have l2:∀g,Fo vo g=.ok (iI (q.ord.length:Int)) g:=λ_=>K.o.Gs;have p1:=kv.A47;have p2:=kv.pq1;have p3:=kv.Bcp;have p4:=kv.bd1;have A:=kv.Bdd;have B:=kv.con;clear kv;clear K w s;obtain⟨c0,code,d2,d3,c4,c5,s6,c7,ord,c9,Wz,Uw,W0,S,L,O,U3,E9,Oi,Mg⟩:=q;simp only at C p1 p2 p3 p4 A B t E I l1 l2 u;have J:∀p:Prop,(False->p)=True:=λp=>eq_true False.elim;have j:=t 5;have k:=t 7;have n:=t 10;have r:=t 3;have i:=E 1 2 5;clear t E;rcases Bek C with rfl|rfl|rfl|rfl|rfl|rfl|rfl|rfl|rfl|rfl
 all_goals
  simp only[ne_eq,Int.reduceEq,Lz,not_false_eq_true,J,forall_const,or_self,or_true,true_or,fb,false_or]at p1 p2 p3 p4 A B;try (obtain⟨rfl,rfl,rfl⟩:=p1)
  try (obtain⟨rfl,rfl⟩:=p2)
  try (obtain rfl:=p3)
  try (obtain rfl:=p4)
  try (obtain⟨rfl,rfl⟩:=A)
  try (obtain rfl:=B)
  simp only[Int.reduceEq,or_self,or_true,true_or,fb,false_or,Ea,decide_false]at I j k n r i;replace j:=j _ rfl;replace k:=k _ rfl;replace n:=n _ rfl;replace r:=r _ rfl;replace i:=i _ rfl;clear J C;repeat' (first|with_reducible (first|apply A7|apply A8|apply A9|apply Ba)|((with_reducible (first|apply Fj|apply zc2));exact I _ Ex;intro z g v e d f;(try simp only[C9]at e d);subst f)|((with_reducible (first|apply Fj|apply zc2));exact j _ _ rfl Ex;intro z g v e d f;(try simp only[C9]at e d);subst f)|((with_reducible (first|apply Fj|apply zc2));exact k _ _ rfl Ex;intro z g v e d f;(try simp only[C9]at e d);subst f)|((with_reducible (first|apply Fj|apply zc2));exact n _ _ rfl Ex;intro z g v e d f;(try simp only[C9]at e d);subst f)|((with_reducible (first|apply Fj|apply zc2));exact r _ _ rfl Ex;intro z g v e d f;(try simp only[C9]at e d);subst f)|((with_reducible (first|apply Fj|apply zc2));exact i _ _ rfl Ex;intro z g v e d f;(try simp only[C9]at e d);subst f)|(with_reducible (first|apply Cy|apply Cz|apply C0|apply C1);(conv=>lhs;simp(disch:=first|exact dA|fail) [lw, *,u,l1,l2]);with_reducible (first|apply A7|apply A8|apply A9|apply Ba|apply Cu|(refine Cv (by simp) ?_)|apply Cx))|(with_reducible (first|apply Kl);(conv=>lhs;simp only[zw,Int.reduceEq,Int.reduceLT,Ea,decide_false,Jx,G9]))|(refine zqq ?_ ?_<;>intro W<;>(try (exfalso;omega)))|fail)
  refine Ah.of ?_ (B7i Z N _ _ ?_ 6 0 N _ _ rfl om om (Ai.refl _))
  .exact Ex
  .exact Sl.lit (Bf _) rfl rfl
end Go.Proofs
namespace Go.Proofs
open Go Go.Ev Go.Ev.Sx
open Go.Nm
variable {lo:Nat}{et:TypeId}{h:H}{sv y:AV}{st:List Int}{x:Int}
abbrev ints(l:List _):=l.map (AV.int .i64)
def Aud lo et(h:H)(sv:AV) st:=st=[]/\sv=.Bv\/∃b cap c k n,sv=.sl b 0 st.length cap 1 false/\h.m.get b=.cells c et (.Gt k)/\h.m.get k=.Fb n/\c.length=cap/\st.length<=cap/\0<cap/\c.take st.length=ints st/\lo<=b/\lo<=k/\b<h.nx/\k<h.nx/\b≠k
def Aud.nil lo et h:Aud lo et h .Bv []:=.inl ⟨rfl,rfl⟩
def Aud.gr{h1}(hb:Aud lo et h sv st)(e:Ai h h1):Aud lo et h1 sv st:=by
 rcases hb with hb|⟨b,cap,c,k,n,o,t,u,j,s,i,m,r,p,d,f,g⟩;. exact .inl hb
 .exact .inr ⟨b,_,c,k,n,o,by rw[e.Cf b d];omega,by rw[e.Cf k f];omega,j,s,i,m,r,p,Yy d e.lo,Yy f e.lo,g⟩
def Aud.put(hb:Aud lo et h sv st) c o(u:c<lo):Aud lo et (h.put c o) sv st:=by
 rcases hb with hb|⟨b,cap,d,k,n,j,s,t,f,r,g,i,p,m,e⟩;. exact .inl hb
 .exact .inr ⟨b,_,d,k,n,j,by rw[Aq _ _ _ om];omega,by rw[Aq _ _ _ om];omega,f,r,g,i,p,m,e⟩
def Aud.sl(hb:Aud lo et h sv st):R0 1 (λn=>[AV.int .i64 n]) h sv st:=by
 have e:st.flatMap (λn=>[AV.int .i64 n])=ints st:=by clear hb;induction st with
  |nil=>rfl
  |cons a l s=>grind
 rcases hb with⟨rfl,rfl⟩|⟨b,cap,c,k,n,rfl,f,p,o,i,m,r,u,t,d,j,g⟩;. exact .inl ⟨rfl,rfl,rfl⟩
 .refine .inr ⟨b,0,_,_,c,rfl,i,⟨d,_,_,f,trivial⟩,by omega,?_⟩;grind
def Aud.push(hb:Aud lo et h sv st)(hy:Hd h 1 y=some (1,[iI x]))(Kf:lo<=h.nx)(V:st.length<=1000):
 ∃v h',Ds et 1 8 sv y h=.ok v h'/\Aud lo et h' v (st++[x])/\h.nx<=h'.nx/\(∀c,c<lo->h'.m.get c=h.m.get c)/\(∀z∈h'.lg,z∈h.lg\/lo<=z)/\∀h0,h0.nx<=lo->Ai h0 h->Ai h0 h':=by
 have own:∀(c:uz),Fm 1 lo et h sv st.length c->c=ints st->∃v h',Ds et 1 8 sv y h=.ok v h'/\Aud lo et h' v (st++[x])/\h.nx<=h'.nx/\(∀c,c<lo->h'.m.get c=h.m.get c)/\(∀z∈h'.lg,z∈h.lg\/lo<=z)/\∀h0,h0.nx<=lo->Ai h0 h->Ai h0 h':=by
  intro c K p;obtain⟨v',h',F,S,t,L,J⟩:=Fm.AbQ (bytes:=8) (lo:=lo) K hy (by rfl) om (by rfl) Kf;refine⟨v',h',F,?_,S.lo,J,?_,t⟩
  .rcases L with⟨h1,_⟩|⟨h1,_⟩|⟨b,k,s,h1,p2,p3,p4,w,A,B,I,Q⟩;. omega
   .omega
   .refine .inr ⟨b,st.length+1,_,k,s,by rw[Xi];exact h1,p2,p3,by rw[Q];omega,by rw[Xi];exact Ye _,by omega,?_,p4,w,A,B,I⟩;grind
  .intro z hz;have g:=t ⟨h.m,lo,h.lg⟩ (Ye _) ⟨Kf,λb hb=>rfl,λx O=>.inl O⟩;exact g.lg z hz
 rcases hb with⟨rfl,rfl⟩|⟨b,cap,c,k,n,rfl,u,r,T,U,C,E,o,j,f,i,e⟩;. exact own [] (Fm.nil ..) rfl
 .by_cases p:st.length+1<=cap
  .have P:Ds et 1 8 (.sl b 0 st.length cap 1 false) y h=.ok (.sl b 0 (st.length+1) cap 1 false) ((h.put b (.cells (c.take st.length++[iI x]++c.drop (st.length+1)) et (.Gt k))).put k (.Fb (n+1))):=by
    show(match Hd h 1 y with
     |some (n,new)=>C6 (.bad 121) (C6 (.bad 121) (C6 (.bad 121) (Lg ⟨et,1,8⟩ b 0 st.length cap 1 false n new h) (Nat.beq 1 1)) (Bm new)) (Gj ((st.length+n)*(8+1)))
     |none=>.bad 123)=_;rw[hy];have M:Nat.ble (Nat.add st.length 1) cap=true:=br (by simpa using p);simp only[show Bm [AV.int .i64 x]=true from rfl,Fi,Ws (show(st.length+1)*(8+1)<1000000000000 by omega),P3];show(C6 _ _ (Nat.ble (Nat.add st.length 1) cap):OR)=_;rw[M];show AgN b 0 st.length cap (Nat.add st.length 1) 1 false [iI x] h=_;unfold AgN;rw[As0,u,AuX,r,Sn,Kh];simp_all
   refine⟨_,_,P,.inr ⟨b,cap,c.take st.length++[iI x]++c.drop (st.length+1),k,n+1,by simp,?_,A2 ..,?_,by simpa using p,C,?_,o,j,f,i,e⟩,Ye _,λd hd=>?_,λz hz=>?_,λh0 a1 a2=>(a2.put b _ (Xy a1 o)).put k _ (Xy a1 j)⟩;. rw[Aq _ _ _ e,A2]
   .simp[Cm,bg];omega
   .grind
   .rw[Aq _ _ _ om,Aq _ _ _ om]
   .rcases Wf.1 hz with rfl|hz;. exact .inr j
    .rcases Wf.1 hz with rfl|hz;. exact .inr o
     .exact .inl hz
  .have R:st.length=cap:=by omega
   subst R;exact own c (.inr (.inr ⟨b,k,n,rfl,u,r,o,j,f,i,e,by omega⟩)) (by rw[<- E,R4 om])
def Aud.cut{P}{t e}{bytes m}(i:Hp P t=.sl ⟨e,1,bytes⟩)(hb:Aud lo et h sv st)(g:m<=st.length):∃v,(∀d,xSl P t sv none (some (iI m)) d=.ok v d)/\Aud lo et h v (st.take m):=by
 rcases hb with⟨rfl,rfl⟩|⟨b,cap,c,k,n,rfl,o,p,j,u,f,r,s⟩
 .obtain rfl:m=0:=by grind
  exact⟨_,λd=>Ads i,.inl ⟨rfl,rfl⟩⟩
 .refine⟨.sl b 0 m cap 1 false,λd=>?_,.inr ⟨b,_,c,k,n,by grind,o,p,j,by grind,f,?_,s⟩⟩;. rw[Aau i,Nn om om,Xo f];rfl
  .rw[Cm,dw g,ints,Kv,<- ints,<- r,de,dw g]
def Aud.tail{P:Program}{t e:TypeId}{bytes m:Nat}(i:Hp P t=.sl ⟨e,1,bytes⟩)(hb:Aud lo et h sv st)(j:m<=st.length):∃v,(∀d:H,xSl P t sv (some (iI (m:Int))) none d=.ok v d)/\(∀d,Fo v d=.ok (iI ((st.drop m).length:Int)) d)/\(st.drop m≠[]->R0 1 (λn:Int=>[AV.int .i64 n]) h v (st.drop m)):=by
 have e:∀l:List Int,l.flatMap (λn:Int=>[AV.int .i64 n])=ints l:=by intro l;induction l with
  |nil=>rfl
  |cons a l C=>grind
 rcases hb with⟨rfl,rfl⟩|⟨b,cap,c,k,n,rfl,r,B,A,p,z,s,I,F,f,w,u⟩
 .obtain rfl:m=0:=by grind
  exact⟨.Bv,λd=>BwX i,λd=>rfl,absurd rfl⟩
 .by_cases o:m<cap
  .refine⟨.sl b (0+m*1) (st.length-m) (cap-m) 1 false,λd=>?_,λd=>by simp,λE=>?_⟩;. rw[Aav i,Nn j p,Xo o]
   .show Sl 1 h ..;rw[e,bg];refine .inr ⟨b,_,_,_,c,rfl,by omega,⟨f,_,_,r,trivial⟩,by omega,?_⟩;rw[Rx,ae,ae,ints,List.map_drop,<- ints,<- s,ea]
  .have g:m=st.length:=by omega
   subst g;refine⟨.sl b (0+1) 0 0 0 false,λd=>?_,λd=>by simp,absurd (by simp)⟩;rw[Aav i,Nn j p,X2 o,X2 (by grind),X2 om]
open Tryz
attribute [local irreducible] Aa Al Af Ad
variable (Z:Ac)(N:Nat)
abbrev IsS h v l:=R0 1 (λn=>[AV.int .i64 n]) h v l
structure IsL(h:H)(v:AV)(l:List Int):Prop where
 len:∀hh,Fo v hh=.ok (iI (l.length:Int)) hh
 el:l≠[]->IsS h v l
def IsL.of{h}{v}{l}(c:IsS h v l):IsL h v l:=⟨λ_=>c.Gs,λ_=>c⟩
def IsL.nil h:IsL h .Bv []:=⟨λ_=>rfl,absurd rfl⟩
def Byu(v w:AV)(l:List Int)(h:H)(j:l≠[]->IsS h v l)(e:l≠[]->IsS h w l)(p:l.length<=500):
 ∀(k:Nat) (i:Int) (n:Nat) (hd:H) (f0:L2),i+(k:Int)=(l.length:Int)->0<=i->k<n->Ai h hd->Ah h (λr _=>r=ux) (BiA Z N n v w (iI (l.length:Int)) (iI i) f0 hd)
 |0,i,n,hd,f0,s,g,o,d=>by obtain⟨n1,rfl⟩:=mg n;rw[Bxh];exact wk (zr d rfl)
 |k+1,i,n,hd,f0,s,g,o,d=>by
  obtain⟨n1,rfl⟩:=mg n;have B:=Byu v w l h j e p k (i+1) n1;have⟨y,hy⟩:∃x,l[i.toNat]?=some x:=⟨_,Yq om⟩;have m:l≠[]:=by grind
  have⟨b1,E,el⟩:=R0.elem (f:=λn=>[AV.int _ n]) (λ_=>rfl) (Sl.By (j m) d.keeps) hy;have⟨b2,C,c⟩:=R0.elem (f:=λn=>[AV.int _ n]) (λ_=>rfl) (Sl.By (e m) d.keeps) hy;have t:=el.ia;have z:=c.ia;rw[Tb g]at t z;have A:=el.part 0 _ rfl;have u:=c.part 0 _ rfl;rw[Vw]at A u;rw[Bxh];refine wd ?_;grind
def CaE:=∀v w l h,IsL h v l->IsL h w l->l.length<=500->Ah h (λr _=>r=ux) (Z.call 132 [v,w] h)
def CvH(g:1000<N) v w l h(d:IsL h v l)(c:IsL h w l)(e:l.length<=500):Ah h (λr _=>r=ux) (Ay prog Z N false 132 [v,w] h):=by rw[Crk];have f:=d.len;have i:=c.len;exact wk ((show ∀f0,_ from Byu Z N v w l h d.el c.el e l.length 0 N h) _ om om om (Ai.refl _))
structure A6X(lo bs:Nat)(h:H)(st:List Int):Prop where
 lt:bs<lo
 nx:lo<=h.nx
 at':∃sv,h.m.get bs=.cells [sv] 199 .exact/\Aud lo 192 h sv st
def A6X.gr{lo bs}{h h1}{st}(hb:A6X lo bs h st)(e:Ai h h1):A6X lo bs h1 st:=by have⟨_,d,c⟩:=hb.at';exact⟨hb.lt,Xy hb.nx e.lo,_,(e.Cf _ (Yy hb.lt hb.nx)).trans d,c.gr e⟩
def CaD:=∀lo bs h c st x,A6X lo bs h st->Ai c h->c.nx<=bs->st.length<=900->Ah c (λ_ h1=>h.nx<=h1.nx/\A6X lo bs h1 (st++[x])) (Z.call 131 [.ptr bs 0,iI x] h)
def BkI{lo}{et}{h}{sv}{st}(c:Aud lo et h sv st):Ge sv=true/\cellsOf sv=some [sv]:=B2 c.sl
def CvG(lo bs:Nat)(h c:H)(st:List Int)(x:Int)(hb:A6X lo bs h st)(e:Ai c h)(d:c.nx<=bs)(o:st.length<=900):Ah c (λ_ h1=>h.nx<=h1.nx/\A6X lo bs h1 (st++[x])) (Ay prog Z N false 131 [.ptr bs 0,iI x] h):=by
 rw[Crj];obtain⟨sv,k,n⟩:=hb.at';have h1:=hb.lt;have h2:=hb.nx;have g1:Ai h (h.new (cd [iI x] 192)):=(Ai.refl h).new _;have hy:Hd (h.new (cd [iI x] 192)) 1 (.sl h.nx 0 1 1 1 true)=some (1,[iI x]):=(Sl.lit (h:=h) (len:=1) (s:=1) (cs:=[iI x]) (Bf _) rfl rfl).src;obtain⟨v,g,p1,p2,p3,p4,i,f⟩:=(n.gr g1).push hy (by show lo<=h.nx+1;omega) om
 obtain⟨w1,w2⟩:=BkI p2;have g3:g.m.get bs=cd [sv] 199:=by rw[p4 bs h1,g1.Cf bs om];exact k
 have j:=f c om (e.trans g1);have l3:h.nx<=g.nx:=Xy (Pc _) p3;clear hb;clear p4 i f hy;refine wk ?_;exact zr (j.put bs _ d) ⟨l3,h1,Xy h2 l3,v,A2 ..,p2.put bs _ h1⟩
def CaC:Prop:=∀(lo bs:Nat) (h d:H) (st ts:List Int) (w:AV),A6X lo bs h (st++ts)->IsL h w ts->Ai d h->d.nx<=bs->(st++ts).length<=400->Ah d (λr h1=>r=ux/\h.nx<=h1.nx/\A6X lo bs h1 st/\∀c,c<h.nx->c≠bs->h1.m.get c=h.m.get c) (Z.call 130 [.ptr bs 0,w] h)
def CvF(o:CaE Z)(lo bs:Nat)(h p:H)(st ts:List Int)(w:AV)(hb:A6X lo bs h (st++ts))(j:IsL h w ts)(e:Ai p h)(k:p.nx<=bs)(E:(st++ts).length<=400):Ah p (λr h1=>r=ux/\h.nx<=h1.nx/\A6X lo bs h1 st/\∀c,c<h.nx->c≠bs->h1.m.get c=h.m.get c) (Ay prog Z N false 130 [.ptr bs 0,w] h):=by
 rw[Cri];obtain⟨sv,B,g⟩:=hb.at';have h1:=hb.lt;have h2:=hb.nx;rw[Xi]at E;obtain⟨v1,a1,a2,i⟩:=g.tail (P:=prog) (t:=191) (e:=192) (bytes:=8) (m:=st.length) (by kernel_rfl) (by simp);obtain⟨v2,b1,b2⟩:=g.cut (P:=prog) (t:=191) (e:=192) (bytes:=8) (m:=st.length) (by kernel_rfl) (by simp);rw[List.drop_left]at a2 i;rw[K8]at b2;have O:∀f,Fo sv f=.ok (iI ((st.length:Int)+(ts.length:Int))) f:=λf=>by have:=g.sl.Gs (h1:=f);rw[Xi]at this;exact this
 have L:=j.len;have I:decide ((st.length:Int)+(ts.length:Int)-(ts.length:Int)<0)=false:=df;have M:(st.length:Int)+(ts.length:Int)-(ts.length:Int)=(st.length:Int):=by omega
 have J:decide ((st.length:Int)<0)=false:=df;have n:=o v1 w ts h ⟨a2,i⟩ j om;obtain⟨w1,w2⟩:=BkI b2;replace n:=(hU n)
 clear hb j a2 i;refine wk ?_;refine Fj (show Ah h _ (Z.call 132 [v1,w] h)from n) λv K s u d C=>?_
 subst C;have g5:=(d bs om).trans B;have z:=b2.gr s;have A:=e.trans s;clear g b2;refine wk ?_;exact zr (A.put bs _ k) ⟨rfl,u,⟨h1,Xy h2 u,v2,A2 ..,z.put bs _ h1⟩,λc F hn=>(Aq _ _ _ hn).trans (d c F)⟩
structure CsE(h:H)(cv:AV)(A1:List Aaw):Prop where
 r:CsR h cv A1
 w:∀c∈A1,Ig h c.w c.ws/\c.ws.length<=5
 same:∀c∈A1,∀d∈A1,c.name=d.name->c.ws=d.ws
def CsE.By{h h1:H}{cv:AV}{A1:List Aaw}(d:CsE h cv A1)(e:Bi h h1):CsE h1 cv A1:=⟨d.r.By e,λc f=>⟨Sl.By (d.w c f).1 e,(d.w c f).2⟩,d.same⟩
def Bmg{h:H}{v:AV}{l:List Nd}(g:Ue h v l){i:Int}{x:Nd}(h0:0<=i)(j:l[i.toNat]?=some x):∃b o,(∀c,Gc 3 v (iI i) c=.ok (.ptr b o) c)/\(∀c,Bi h c->Ae (some (some 3)) (.ptr b o) c=.ok (.agg (Bw x)) c)/\(∀c,Bi h c->Ae (some none) (.ptr b o) c=.ok (iI x.op) c)/\∀c,Bi h c->Ae (some none) (.ptr b (o+2)) c=.ok (.str x.Zn) c:=by obtain⟨b,o,el⟩:=R0.elem (f:=Bw) (s:=3) (λ_=>rfl) g j;have d:=el.ia;rw[Tb h0]at d;have e:=el.part 0 _ rfl;rw[Vw]at e;exact⟨b,o,d,el.all,e,el.part 2 _ rfl⟩
def CjK:Prop:=∀(v cv:AV) (l:List Nd) (A1:List Aaw) (i:Int) (x y z:Nd) (h:H),Ue h v l->CsE h cv A1->l.length<=200->1<=i->l[(i-1).toNat]?=some x->l[i.toNat]?=some y->l[(i+1).toNat]?=some z->x.op=2->(z.op=9\/z.op=10)->(∃c∈A1,c.name=x.Zn/\y.Zn∈c.ws)->Ah h ok0 (Z.call 163 [v,iI i,cv] h)
set_option maxHeartbeats 1000000 in
def CvO(B:R87 Z)(K:Be2 Z)(v cv:AV)(l:List Nd)(A1:List Aaw)(i:Int)(x y z:Nd)(h:H)(E:Ue h v l)(I:CsE h cv A1)(hl:l.length<=200)(hi:1<=i)(d:l[(i-1).toNat]?=some x)(hy:l[i.toNat]?=some y)(hz:l[(i+1).toNat]?=some z)(s:x.op=2)(F:z.op=9\/z.op=10)(Y:∃c∈A1,c.name=x.Zn/\y.Zn∈c.ws):Ah h ok0 (Ay prog Z N false 163 [v,iI i,cv] h):=by
 rw[Chc];obtain⟨b1,o1,x1,_,x2,x3⟩:=Bmg E om d;obtain⟨b2,o2,y1,_,_,y3⟩:=Bmg E om hy;obtain⟨b3,o3,z1,_,S,_⟩:=Bmg E om hz;have T:=(Xh.1 hz).1;have M:∀o,Fo v o=.ok (iI (l.length:Int)) o:=λ_=>E.Gs;have k1:decide (i=0)=false:=df;have k2:decide ((l.length:Int)<=i+1)=false:=df;obtain⟨c0,n,p,C⟩:=Y;have m:=λd e=>B cv A1 x.Zn d (I.r.By e) ⟨c0,n,p⟩;have j:∀c∈A1,c.name=x.Zn->y.Zn∈c.ws/\c.ws.length<=5/\∀d,Bi h d->Ig d c.w c.ws:=λc t g=>⟨I.same c0 n c t (p.trans g.symm) ▸ C,(I.w c t).2,λd e=>Sl.By (I.w c t).1 e⟩;replace m:=(hU m)
 replace j:=(hU j)
 rw[s]at x2;clear E I d hy hz C n p B s;have go:∀k:Int,(k=9\/k=10)->z.op=k->Ah h ok0 (Ay prog Z N false 163 [v,iI i,cv] h):=by
  intro k R A;rw[Chc];rw[A]at S;have k3:decide (k=9)=decide (k=9):=rfl;clear F A;have tail:∀hd,Ai h hd->True:=λ_ _=>trivial;rcases R with rfl|rfl
  all_goals
   refine wk ?_;refine Fj ((gw m) _ (Bi.refl _)) λv1 h1 e1 l1 W U=>?_
   obtain⟨c,t,g,rfl⟩:=U;obtain⟨f,Q,u⟩:=(gw j) c t g
   obtain⟨w1,w2⟩:=B2 (u h (Bi.refl _));have P:∀o,Fo c.w o=.ok (iI (c.ws.length:Int)) o:=λ_=>(u h (Bi.refl _)).Gs;have V:c.ws≠[]:=λo=>by rw[o]at f;cases f
   have k4:decide (c.ws=[])=false:=Yg V;replace u:=(hU u)
   replace f:=(hU f)
   clear g m j;refine wd ?_;refine Fj (K y.Zn c.w c.ws _ ((gw u) _ M0) om) λv2 h2 X l2 L O=>?_
   rw[Ws (show y.Zn∈c.ws from f)]at O
   subst O;have J:=Ai.quiet X;simp only[C9]at l2 L J;refine wd ?_;exact zr Ex rfl
 have:=go z.op F rfl;rw[Chc]at this;exact this
end Go.Proofs
namespace Go.Proofs
open Go Go.Ev Go.Ev.Sx
open Go.Nm
structure Cj9(D:Dom)(l:List Nd)(G:Nat->List Int->Prop)(val:Tr->Int):Prop where
 leaf:∀pre x post st,l=pre++x::post->E7 D false (.leaf x)->G (pre.length+1) (st++[val (.leaf x)])->G pre.length st
 word:∀pre x y o post st,l=pre++x::y::⟨o,0,[]⟩::post->WdC D (.leaf x) (.leaf y)->(o=9\/o=10)->G (pre.length+3) (st++[val (.two o (.leaf x) (.leaf y))])->G pre.length st
 one:∀pre o a k post st,l=pre++⟨o,0,[]⟩::post->E7 D k (.one o a)->G (pre.length+1) (st++[val (.one o a)])->G pre.length (st++[val a])
 two:∀pre o a c k j post st,l=pre++⟨o,0,[]⟩::post->E7 D k (.two o a c)->E7 D j a->E7 D j c->(j=true ↔ 15<=o)->G (pre.length+1) (st++[val (.two o a c)])->G pre.length (st++[val a,val c])
 three:∀pre p a c post st,l=pre++⟨8,0,[]⟩::post->E7 D false (.three p a c)->G (pre.length+1) (st++[val (.three p a c)])->G pre.length (st++[val p,val a,val c])
variable {D:Dom}{l:List Nd}{G:Nat->List Int->Prop}{val:Tr->Int}
def AyC(M:Cj9 D l G val):∀(t:Tr) (k:Bool),E7 D k t->∀(pre d:List Nd) (st:List Int),l=pre++(t.nodes++d)->G (pre++t.nodes).length (st++[val t])->G pre.length st
|.leaf x,k,h,pre,d,st,e,f=>by obtain rfl:k=false:=h.1;exact M.leaf pre x d st e h (by simpa[Tr.nodes]using f)
|.one o a,k,h,pre,d,st,e,f=>by
 have ha:∃j,E7 D j a:=by
  rcases h with h|h
  .exact⟨_,h.2.2⟩
  .exact⟨_,h.2.2⟩
 obtain⟨j,ha⟩:=ha;simp only[Tr.nodes,Wq,Ko]at e;refine AyC M a j ha pre _ st e (M.one _ o a k d st (by rw[e,Wq]) h ?_);simpa[Tr.nodes,Jy]using f
|.two o a c,k,h,pre,d,st,e,f=>by
 simp only[Tr.nodes,Wq,Ko]at e;have num:∀j,E7 D j a->E7 D j c->(j=true ↔ 15<=o)->G pre.length st:=λj ha i hj=>by refine AyC M a j ha pre (c.nodes++⟨o,0,[]⟩::d) st e ?_;refine AyC M c j i (pre++a.nodes) (⟨o,0,[]⟩::d) _ (by rw[e,Wq]) ?_;rw[Wq,Wq];refine M.two (pre++(a.nodes++c.nodes)) o a c k j d st (by rw[e];simp only[Wq]) h ha i hj ?_;simpa[Tr.nodes,Jy]using f
 rcases h with⟨h0,h1,h2,g⟩|⟨h0,h1,h2,g⟩|⟨h0,h1,h2⟩|⟨h0,h1,h2,g⟩
 .exact num false h2 g ⟨λh=>absurd h fe,λh=>by omega⟩
 .exact num false h2 g ⟨λh=>absurd h fe,λh=>by omega⟩
 .obtain⟨x,y,rfl,rfl,m,n⟩:=Agn h2;refine M.word pre x y o d st (by rw[e];simp[Tr.nodes]) h2 h1 ?_;simpa[Tr.nodes]using f
 .exact num true h2 g ⟨λ_=>by omega,λ_=>rfl⟩
|.three p a c,k,h,pre,d,st,e,f=>by have h0:=h.1;subst h0;simp only[Tr.nodes,Wq,Ko]at e;refine AyC M p true h.2.1 pre _ st e ?_;refine AyC M a false h.2.2.1 (pre++p.nodes) (c.nodes++⟨8,0,[]⟩::d) _ (by rw[e,Wq]) ?_;refine AyC M c false h.2.2.2 (pre++p.nodes++a.nodes) (⟨8,0,[]⟩::d) _ (by rw[e];simp only[Wq]) ?_;rw[Wq st,Wq st,Wq pre,Wq pre,Wq];refine M.three (pre++(p.nodes++(a.nodes++c.nodes))) p a c d st (by rw[e];simp only[Wq]) h ?_;simpa[Tr.nodes,Jy]using f
end Go.Proofs
