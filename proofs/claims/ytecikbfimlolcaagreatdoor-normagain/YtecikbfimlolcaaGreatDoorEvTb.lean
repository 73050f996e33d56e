/- Schemas that numbers select: the functions. -/
import Derived.Test.YtecikbfimlolcaaGreatDoorEvTa
set_option linter.all false
set_option maxRecDepth 100000
noncomputable section
namespace Go.Proofs
open Go Go.Ev Go.Nm Go.Ev.Sx
attribute [local irreducible] Aa Al Af Ad
variable {j:AV->H->Prop}{o:Int}
variable (Z:Ac)(N:Nat)
def Fm.tg{s lo tk len}{et}{h h1}{v a}{c}(o:Fm s lo et h v len c)(n:H8 h tk a)(t:tk<lo)(e:TG tk a h h1):Fm s lo et h1 v len c:=by
 rcases o with g|⟨rfl,rfl,b,off,cs,rfl,h2,g⟩|⟨b,k,st,rfl,m,d,f,q5,j,l,q,p⟩;. exact .inl g
 .rcases Sl.tg (.inr ⟨b,_,0,_,_,rfl,Yw _,h2,by omega,by simp⟩:Sl s h (.sl b off 0 0 s true) 0 []) n λb off len cap z ex w h0=>by grind e with⟨_,_,i⟩|⟨r,u,cap,ex,D7,i,m,d,f,q5⟩;. grind
  .cases i;exact .inr (.inl ⟨rfl,rfl,b,_,_,rfl,d,by omega⟩)
 .exact .inr (.inr ⟨b,k,st,rfl,by rw[e.Cf b j om];omega,by rw[e.Cf k l om];grind,f,q5,Xq j e.lo,Xq l e.lo,q,p⟩)
structure Cl where
 name:List Nat
 a:Int
 b:Int
 w:AV
 ws:List (List Nat)
abbrev Hx(c:Cl):List AV:=[.str c.name,iI c.a,iI c.b,c.w]
structure AbG(lo:Nat)(h:H)(c:Cl):Prop where
 Mu:c.ws.length<=5
 words:Ig h c.w c.ws
 beh:W7 1 lo c.w
 one:Ge c.w=true
 cell:cellsOf c.w=some [c.w]
def AbG.By{lo}{h h1}{c}(hc:AbG lo h c)(e:Bi h h1):AbG lo h1 c:=⟨hc.Mu,Sl.By hc.words e,hc.beh,hc.one,hc.cell⟩
def AbG.tg{lo tk}{h h1}{a}{c}(hc:AbG lo h c)(d:H8 h tk a)(g:tk<lo)(e:TG tk a h h1):AbG lo h1 c:=
 ⟨hc.Mu,Sl.tg hc.words d λb off len cap z ex f h0=>by have:=hc.beh b _ _ _ z _ f h0;omega e,hc.beh,hc.one,hc.cell⟩
structure Cls(lo:Nat)(h:H)(v:AV)(l:List Cl):Prop where
 own:Fm 4 lo 96 h v l.length (l.flatMap Hx)
 ok:∀c∈l,AbG lo h c
def Cls.tg{lo tk}{h h1}{v b}{l}(hc:Cls lo h v l)(a:H8 h tk b)(d:tk<lo)(e:TG tk b h h1):Cls lo h1 v l:=⟨Fm.tg hc.own a d e,λc h2=>(hc.ok c h2).tg a d e⟩
def Cls.gr{lo}{h h1}{v}{l}(hc:Cls lo h v l)(e:Ai h h1):Cls lo h1 v l:=⟨hc.own.gr e,λc h2=>(hc.ok c h2).By e.keeps⟩
def Cls.nil lo h:Cls lo h .Bv []:=⟨Fm.nil ..,λc h2=>by grind⟩
def Al1{c}(a:Ge c.w=true):Bm (Hx c)=true:=by simp[*]
def Atn{lo}{h}{v}{l}(hc:Cls lo h v l) c(f:AbG lo h c)(o:l.length<=1000)(n:lo<=h.nx):
 ∃v' h',Ds 96 4 56 v (.sl h.nx 0 1 1 4 true) (h.new (.cells (Hx c) 96 .exact))=.ok v' h'/\Cls lo h' v' (l++[c])/\(∀h0,h0.nx<=lo->Ai h0 h->Ai h0 h')/\∀b,b<lo->h'.m.get b=h.m.get b:=by
 have e:Ai h (h.new (.cells (Hx c) 96 .exact)):=(Ai.refl h).new _;have a:=hc.gr e;have⟨_,_,k,g,j,_,q5⟩:=Fm.AbQ (bytes:=56) a.own (Sl.lit (Bf _) rfl rfl).src rfl om (Al1 f.one) (by show lo<=h.nx+1;omega);refine⟨_,_,k,⟨?_,λx d=>?_⟩,λh0 a1 a2=>j _ a1 (a2.new _),λb i=>by rw[q5 b i];exact Cq _ b om⟩;. grind
 .rcases U0.1 d with d|d;. exact(a.ok x d).By g
  .rw[Qv.1 d];exact(f.By e.keeps).By g
def AlQ(u:R82 Z)(t:R81 Z)(tk:Nat)(d:AV)(L:List Int)(h:H)(hi:H9 tk d L h)
 (Qz:∀(n:Nat) (v:AV) (l:List Cl) (hc:H) (f:L2),l.length=5->(∀c∈l,AdD c.a c.b c.ws)->l.map Cl.name=N1->Cls h.nx hc v l->TG tk d h hc->Ah H0 j (AgD Z N (n+1) (.ptr tk 0) v (iI 5) f hc)):
 ∀(k i n:Nat) (l:List Cl) (v:AV) (hc:H) (f0:L2),i+k=5->k<n->l.length=i->(∀c∈l,AdD c.a c.b c.ws)->l.map Cl.name=N1.take i->Cls h.nx hc v l->TG tk d h hc->Ah H0 j (AgD Z N n (.ptr tk 0) v (iI (i:Int)) f0 hc)
 |0,i,n,l,v,hc,f0,X,hn,w,Q,p,z,he=>by
  obtain⟨g,rfl⟩:∃g,n=g+1:=⟨n-1,by omega⟩;have h5:i=5:=by omega
  subst h5;exact Qz g v l hc f0 w Q p z he
 |k+1,i,n,l,v,hc,f0,X,hn,w,Q,p,z,he=>by
  obtain⟨g,rfl⟩:∃g,n=g+1:=⟨n-1,by omega⟩;have R:=hi.at';have x:=R.lt;have k1:decide ((i:Int)<5)=true:=dt;have hC:∀(name:List Nat) (q:H),TG tk d h q->D6 tk d q (AbH q.nx name) (Z.call 81 [.ptr tk 0,.str name] q):=λname q e=>t tk d L name q (hi.tg e);rw[Api];(repeat' (first|refine wk ?_|((with_reducible (first|apply Fj|apply zc2));exact u _ _;intro K E G B y D;(try simp only[C9]at B y);obtain⟨ws,wn,I,wb,w1,w2,V,M⟩:=D)));have O:ws.length=5:=by rw[wn];rfl
  obtain⟨b,o,C⟩:=R0.elem (f:=Aeb) (s:=1) (λ_=>rfl) I (Xs (show i<ws.length by omega));have x1:=C.ia;have F:=C.part 0 _ rfl;rw[Mz]at F;have r:N1[i]?=some ws[i]:=by rw[<- Xs,wn];rfl
  generalize ws[i]=name at F r;clear I C wn;(repeat' (first|refine wk ?_|((with_reducible apply M5);exact hC _ _ L5;intro K E G B y D;(try simp only[C9]at B y);obtain⟨ca,cb,U,A,rfl,c1,c2,c3,c4,c5⟩:=D)));have J:TG tk d hc E:=TG.trans (TG.gr (TG.refl (he.at x)) (by assumption)) G;have Kf:=he.lo;obtain⟨v',h',q1,P,W,q4⟩:=Atn (z.tg (he.at x) x J) ⟨name,ca,cb,U,A⟩ ⟨c1.Mu,c2,c3.mono om,c4,c5⟩ om om;refine Ey q1 ?_;refine Ey (Uc ..) ?_;rw[Cr _ om om,show(i:Int)+1=((i+1:Nat):Int)from rfl];have S:TG tk d h h':=by obtain⟨m,T,Y⟩:=he.trans J;exact⟨m,T,W _ (Yw _) Y⟩
  exact AlQ u t tk d L h hi Qz k (i+1) g _ v' h' _ om om (by rw[X8,w];rfl) (λc hc=>by rcases U0.1 hc with hc|hc;exact Q c hc;rw[Qv.1 hc];exact c1) (by rw[ah,p,Ga,r];rfl) P S
def Ahe{lo:Nat}{h:H}{v sv:AV}{l:List Cl}{c:Cl}(hc:Cls lo h v l)(g:AbG lo h c)(n:Sl 4 h sv 1 (Hx c))(p:l.length<=1000)(d:lo<=h.nx)(j:h.lg=[]):
 ∃v' h',Ds 96 4 56 v sv h=.ok v' h'/\Cls lo h' v' (l++[c])/\h.nx<=h'.nx/\(∀b,b<lo->h'.m.get b=h.m.get b)/\(∀x∈h'.lg,lo<=x):=by
 obtain⟨v',h',k,e,f,o,q5⟩:=Fm.AbQ (bytes:=56) (lo:=lo) hc.own n.src (rfl) om (Al1 g.one) d;refine⟨_,_,k,⟨?_,λx a=>?_⟩,?_,q5,?_⟩;. grind
 .rcases U0.1 a with a|a;. exact(hc.ok x a).By e
  .rw[Qv.1 a];exact g.By e
 .exact(f ⟨_,_,[]⟩ (Yw _) ⟨d,λb i=>rfl,λx a=>by grind⟩).lo |> λ_=>e.lo
 .intro x a;rcases(f ⟨_,_,[]⟩ (Yw _) ⟨d,λb i=>rfl,λx a=>by grind⟩).lg x a with h1|h1;. grind
  omega
def Asp{tk lo}{c}{h hy h'}(e:TG tk c h hy)(f:h.nx<=lo)(h1:hy.nx<=h'.nx)(h2:∀b,b<lo->h'.m.get b=hy.m.get b)(j:∀x∈h'.lg,lo<=x):TG tk c h h':=by have⟨m,g,d⟩:=e;refine⟨m,g,Vr d.lo h1,λb a=>?_,λx i=>.inr (Vr f (j x i))⟩;rw[h2 b (Xq a f)];exact d.Cf b a
def Cls.rl{lo}{h}{v}{l}{lg}(hc:Cls lo h v l):Cls lo (Be lg h) v l:=by
 refine⟨?_,λc h2=>(hc.ok c h2).By ((Bi.refl h).Be _)⟩;rcases hc.own with a|⟨h1,h2,b,off,cs,f,e,d⟩|a;. exact .inl a
 .exact .inr (.inl ⟨h1,h2,b,_,_,f,((Bi.refl h).Be _).cont b _ e,d⟩)
 .exact .inr (.inr a)
def Cls.put{lo c}{h}{v}{l}{l0}{e1}(hc:Cls lo h v l)(q:l≠[])(n:c<lo)(f:Vu l0.length (h.m.get c)=true):Cls lo (h.put c (.cells l0 e1 .exact)) v l:=by
 refine⟨?_,λx h2=>⟨(hc.ok x h2).Mu,Sl.To (hc.ok x h2).words (hc.ok x h2).beh n f,(hc.ok x h2).beh,(hc.ok x h2).one,(hc.ok x h2).cell⟩⟩;rcases hc.own with⟨a,_⟩|⟨a,_⟩|⟨b,k,st,h1,p,o,d,q5,i,j,e,g⟩;. grind
 .grind
 .exact .inr (.inr ⟨b,k,st,h1,by rw[Aq _ _ _ om];omega,by rw[Aq _ _ _ om];grind,d,q5,i,j,e,g⟩)
structure Zg(lo:Nat)(h:H)(v:AV)(l:List Cl):Prop where
 sl:R0 4 Hx h v l
 beh:W7 4 lo v
 ok:∀c∈l,AbG lo h c
def Zg.tg{lo tk}{h h1}{v d}{l}(hc:Zg lo h v l)(a:H8 h tk d)(g:tk<lo)(e:TG tk d h h1):Zg lo h1 v l:=⟨Sl.tg hc.sl a λb off len cap z ex f h0=>by have:=hc.beh b _ _ _ z _ f h0;omega e,hc.beh,λc h2=>(hc.ok c h2).tg a g e⟩
def Zg.By{lo}{h h1}{v}{l}(hc:Zg lo h v l)(e:Bi h h1):Zg lo h1 v l:=⟨Sl.By hc.sl e,hc.beh,λc h2=>(hc.ok c h2).By e⟩
def Zg.mono{lo a}{h}{v}{l}(hc:Zg lo h v l)(e:a<=lo):Zg a h v l:=⟨hc.sl,hc.beh.mono e,λc h2=>⟨(hc.ok c h2).Mu,(hc.ok c h2).words,(hc.ok c h2).beh.mono e,(hc.ok c h2).one,(hc.ok c h2).cell⟩⟩
def Cls.slice{lo}{h}{v}{l}(hc:Cls lo h v l):Zg lo h v l:=⟨hc.own.sl,W7.own hc.own,hc.ok⟩
def Px(c:Cl):List Nat × Int × Int × List (List Nat):=(c.name,c.a,c.b,c.ws)
def Sub(all:List Cl)(i:Nat)(A1:List Cl):Prop:=∃sub:List Cl,sub.Sublist (all.take i)/\A1.map Px=sub.map Px
def Sub.snoc{all A1}{cl c}(h:Sub all o.toNat A1)(h0:0<=o)(hi:all[o.toNat]?=some cl)(hd:Px c=Px cl):Sub all (o+1).toNat (A1++[c]):=by have⟨sub,_,_⟩:=h;rw[show(o+1).toNat=o.toNat+1 by omega];refine⟨sub++[cl],?_,by grind⟩;rw[Ga,hi];grind
def Sub.skip{all A1}(h:Sub all o.toNat A1)(h0:0<=o):Sub all (o+1).toNat A1:=by have⟨_,h1,h2⟩:=h;rw[show(o+1).toNat=o.toNat+1 by omega];refine⟨_,h1.trans ?_,h2⟩;grind
abbrev scB(nm:List Nat)(p:Bool)(m:Int)(cv:AV):AO:=.cells [.str nm,.bool p,iI m,cv] 73 .exact
def AlS(Fg:R38 Z)(M:R83 Z)(tk:Nat)(t:AV)(L:List Int)(l:H)(hi:H9 tk t L l)(n2 lo:Nat)(W:AV)(all:List Cl)(V:Zg lo l W all)(T:all.length=5)(D:tk<lo)(Kf:lo<=l.nx)(t5 t6 t7:AV)(d:Nat)(hb:l.nx<=d)(nm:List Nat)(p:Bool)(m Q:Int)(hj:0<=Q)(R:Q<5)
 (Qz:∀(n:Nat) (cv:AV) (A1:List Cl) (hd:H) (f:L2),A1≠[]->A1.length<=5->Sub all 5 A1->d+1<=hd.nx->hd.m.get d=scB nm p m cv->Cls (d+1) hd cv A1->TG tk t l hd->Ah H0 j (AgE Z N n2 (n+1) (.ptr tk 0) W t5 t6 t7 (.ptr d 0) (iI Q) (iI 5) f hd)):
 ∀(k:Nat) (i:Int) (n:Nat) (A1:List Cl) (cv:AV) (hd:H) (f0:L2),i+(k:Int)=5->0<=i->k<n->(A1.length:Int)<=i->(Q<i->A1≠[])->Sub all i.toNat A1->d+1<=hd.nx->hd.m.get d=scB nm p m cv->Cls (d+1) hd cv A1->TG tk t l hd->Ah H0 j (AgE Z N n2 n (.ptr tk 0) W t5 t6 t7 (.ptr d 0) (iI Q) (iI i) f0 hd)
 |0,i,n,A1,cv,hd,f0,Qd,H4,hn,Ox,Hr,w,z,K,q,he=>by
  obtain⟨G,rfl⟩:∃G,n=G+1:=⟨n-1,by omega⟩;have h5:i=5:=by omega
  subst h5;exact Qz G cv A1 hd f0 (Hr R) om w z K q he
 |k+1,i,n,A1,cv,hd,f0,Qd,H4,hn,Ox,Hr,w,z,K,q,he=>by
  obtain⟨G,rfl⟩:∃G,n=G+1:=⟨n-1,by omega⟩;have ih:=AlS Fg M tk t L l hi n2 lo W all V T D Kf t5 t6 t7 d hb nm p m Q hj R Qz k (i+1) G;have ht:=hi.at';have B6:=ht.lt;have htb:tk<d:=by omega
  have hT:∀(k:Int) (r:H),TG tk t l r->k<=9223372036854775807->D6 tk t r (Below k) (Z.call 38 [.ptr tk 0,iI k] r):=λk r e hk=>Fg tk t L k r (hi.tg e).at' (hi.tg e).ints hi.av hi.len hk;have k1:decide (i<5)=true:=dt;have X4:((i.toNat:Nat):Int)=i:=Qy H4;have hil:i.toNat<all.length:=by omega
  obtain⟨cl,F⟩:∃cl,all[i.toNat]?=some cl:=⟨_,Xs hil⟩;have S:AbG lo l cl:=V.ok cl (Vl F);have hE:∀r,TG tk t l r->∃b o,(∀g,Gc 4 W (iI i) g=.ok (.ptr b o) g)/\(∀g,Bi r g->Ae (some (some 4)) (.ptr b o) g=.ok (.agg (Hx cl)) g):=by intro r e;obtain⟨b,o,el⟩:=R0.elem (f:=Hx) (s:=4) (λ_=>rfl) (V.tg ht D e).sl F;have x1:=el.ia;rw[X4]at x1;exact⟨b,o,x1,el.all⟩
  rw[Apk];cases k2:decide (i=Q)
  . (repeat' (first|refine wk ?_|((with_reducible apply M5);exact hT _ _ L5 om;intro vv g O I B X;(try simp only[C9]at I B);obtain⟨jj,rfl,j0,j1⟩:=X)|(refine zqq ?_ ?_<;>intro hc<;>(try (exfalso;omega)))|fail))
    .have Cs:TG tk t l g:=L5;have y:=q.tg (he.at B6) om O;have J:g.m.get d=scB nm p m cv:=by rw[B d om om];exact K
     have A8q:d+1<=g.nx:=by omega
     obtain⟨b,o,x1,x2⟩:=hE g Cs;obtain⟨y1,y2⟩:=B2 y.own.sl;have E:=S.tg ht D Cs;obtain⟨z1,z2⟩:=B2 E.words;clear q K z he hE V;(repeat' (first|refine wd ?_|((with_reducible (first|apply Fj|apply zc2));exact M _ _ _ _ cl.ws _ (Sl.By E.words M0) E.Mu;intro vv g O I B X;(first|(have A:=Ai.quiet O;try simp only[C9]at I B A)|(try simp only[C9]at I B));obtain⟨C,rfl,c2,c3,c4,c5⟩:=X)|(refine zqq ?_ ?_<;>intro hc<;>(try (exfalso;omega)))|fail))
     obtain⟨v',h',U,P,q3,Y,q5⟩:=Ahe (lo:=d+1) (h:=Ab ((Ab g).new (.cells (Hx ⟨cl.name,cl.a,cl.b,C,cl.ws⟩) 96 .exact))) (v:=cv) (sv:=.sl g.nx 0 1 1 4 true) (c:=⟨cl.name,cl.a,cl.b,C,cl.ws⟩) (y.gr Ex) ⟨E.Mu,Sl.By c2 M0,c3.mono (by simp only[C9];omega),c4,c5⟩ (Sl.lit (h:=g) (Bf (h:=Ab g) _) rfl rfl) om Ce rfl;refine Ey U ?_;simp only[C9]at q3;have u:h'.m.get d=scB nm p m cv:=by rw[Y d om];exact N4
     have e3:TG tk t l h':=Asp (hy:=Ab ((Ab g).new (.cells (Hx ⟨cl.name,cl.a,cl.b,C,cl.ws⟩) 96 .exact))) L5 om (by simp only[C9];omega) Y q5;clear U J;obtain⟨y3,y4⟩:=B2 P.own.sl;repeat' (first|with_reducible (first|apply A7|apply A8|apply A9|apply Ba)|(with_reducible (first|apply Cy|apply Cz|apply C0|apply C1);(conv=>lhs;simp(disch:=first|exact dA|fail) [lw, *,u]);with_reducible (first|apply A7|apply A8|apply A9|apply Ba|apply Cu|(refine Cv (by simp) ?_)|(apply Cw<;>intro hc<;>(try simp only[Bt]at hc)<;>(try (exfalso;omega)))))|(with_reducible (first|apply C2|apply C3|apply C4|apply C5)<;>intro hc<;>(try simp only[Bt]at hc)<;>(try (exfalso;omega))))
     refine Pu tk l.nx ?_ λLz Wp=>?_
     .simp only[Tl,Pl,Ju,G4,Jj];repeat' (refine And.intro ?_ ?_)
      all_goals first|(left;exact A)|(left;simp;done)|(refine .inr ⟨λx r=>.inr ?_,?_⟩;(focus first|(have hz:=q5 x (D4 _ _ _ r).1;omega)|(have hz:=(D4 _ _ _ r).1;simp at hz;omega));(repeat' (refine And.intro ?_ ?_));all_goals first|(exact Ar ..)|(refine Ax _ _ _ _ _ _ _ _ _ _ _ _ ?_;decide)|exact Ci ..)
     .rw[Ajg];refine wk ?_;refine ih (A1++[⟨cl.name,cl.a,cl.b,C,cl.ws⟩]) v' _ _ om om om (by rw[X8];simp;omega) (λ_=>by simp) (w.snoc H4 F rfl) Ce N4 (((P.gr (Ai.refl _).nl).put (by simp) om (by show Vu 4 (h'.m.get d)=true;rw[u];rfl)).rl) L5
    .rw[Ajg];refine wk ?_;exact ih A1 cv _ _ om om om om (λhji=>Hr (by have:=bh k2;omega)) (w.skip H4) Ce (by rw[B d om om];exact K) (q.tg (he.at B6) om O) L5
  .have Cs:=he;have y:=q;have J:=K;have A8q:=z;obtain⟨b,o,x1,x2⟩:=hE hd Cs;obtain⟨y1,y2⟩:=B2 y.own.sl;have E:=S.tg ht D Cs;obtain⟨z1,z2⟩:=B2 E.words;clear q K z he hE V;(repeat' (first|refine wd ?_|((with_reducible (first|apply Fj|apply zc2));exact M _ _ _ _ cl.ws _ (Sl.By E.words M0) E.Mu;intro vv g O I B X;(first|(have A:=Ai.quiet O;try simp only[C9]at I B A)|(try simp only[C9]at I B));obtain⟨C,rfl,c2,c3,c4,c5⟩:=X)))
   obtain⟨v',h',U,P,q3,Y,q5⟩:=Ahe (lo:=d+1) (h:=Ab ((Ab g).new (.cells (Hx ⟨cl.name,cl.a,cl.b,C,cl.ws⟩) 96 .exact))) (v:=cv) (sv:=.sl g.nx 0 1 1 4 true) (c:=⟨cl.name,cl.a,cl.b,C,cl.ws⟩) (y.gr Ex) ⟨E.Mu,Sl.By c2 M0,c3.mono (by simp only[C9];omega),c4,c5⟩ (Sl.lit (h:=g) (Bf (h:=Ab g) _) rfl rfl) om Ce rfl;refine Ey U ?_;simp only[C9]at q3;have u:h'.m.get d=scB nm p m cv:=by rw[Y d om];exact N4
   have e3:TG tk t l h':=Asp (hy:=Ab ((Ab g).new (.cells (Hx ⟨cl.name,cl.a,cl.b,C,cl.ws⟩) 96 .exact))) L5 om (by simp only[C9];omega) Y q5;clear U J;obtain⟨y3,y4⟩:=B2 P.own.sl;repeat' (first|with_reducible (first|apply A7|apply A8|apply A9|apply Ba)|(with_reducible (first|apply Cy|apply Cz|apply C0|apply C1);(conv=>lhs;simp(disch:=first|exact dA|fail) [lw, *,u]);with_reducible (first|apply A7|apply A8|apply A9|apply Ba|apply Cu|(refine Cv (by simp) ?_)|(apply Cw<;>intro hc<;>(try simp only[Bt]at hc)<;>(try (exfalso;omega)))))|(with_reducible (first|apply C2|apply C3|apply C4|apply C5)<;>intro hc<;>(try simp only[Bt]at hc)<;>(try (exfalso;omega))))
   refine Pu tk l.nx ?_ λLz Wp=>?_
   .simp only[Tl,Pl,Ju,G4,Jj];repeat' (refine And.intro ?_ ?_)
    all_goals first|(left;exact A)|(left;simp;done)|(refine .inr ⟨λx r=>.inr ?_,?_⟩;(focus first|(have hz:=q5 x (D4 _ _ _ r).1;omega)|(have hz:=(D4 _ _ _ r).1;simp at hz;omega));(repeat' (refine And.intro ?_ ?_));all_goals first|(exact Ar ..)|(refine Ax _ _ _ _ _ _ _ _ _ _ _ _ ?_;decide)|exact Ci ..)
   .rw[Ajg];refine wk ?_;refine ih (A1++[⟨cl.name,cl.a,cl.b,C,cl.ws⟩]) v' _ _ om om om (by rw[X8];simp;omega) (λ_=>by simp) (w.snoc H4 F rfl) Ce N4 (((P.gr (Ai.refl _).nl).put (by simp) om (by show Vu 4 (h'.m.get d)=true;rw[u];rfl)).rl) L5
end Go.Proofs
namespace Go.Proofs
open Go Go.Ev Go.Nm Go.Ev.Sx
variable {j:List AV}{o:AV}{p:H}
def Aps{s len a bytes lo:Nat}{et:TypeId}{h':H}{y v:AV}{e:List AV}(B:Fm s lo et p o len j)(g:Hd p s y=some (a,e))(l:e.length=a*s)(f:(len+a)*(bytes+1)<1000000000000)(h1:Bm e=true)(d:Ds et s bytes o y p=.ok v h'):
 ∀x,x<p.nx->B5 (h'.m.get x)=B5 (p.m.get x):=by
 rcases B with⟨rfl,rfl,rfl⟩|⟨rfl,rfl,b,off,cs,rfl,h2,F⟩|⟨b,k,st,rfl,i,w,K,q5,G,I,M,t⟩;. obtain⟨z,h2,A,_,_,_,D⟩:=Fm.AbQ (bytes:=bytes) (Fm.nil s p.nx et p) g l f h1 (Yw _);simp_all
 .obtain⟨z,J,A,_,_,_,D⟩:=Fm.AbQ (bytes:=bytes) (et:=et) (lo:=p.nx) (s:=s) (h:=p) (x:=.sl b off 0 0 s true) (len:=0) (c:=[]) (.inr (.inl ⟨rfl,rfl,b,off,cs,rfl,h2,F⟩)) g l f h1 (Yw _);grind
 .have q:Ds et s bytes (.sl b 0 len len s false) y p=(match Hd p s y with
   |some (n,new)=>C6 (.bad 121) (C6 (.bad 121) (C6 (.bad 121) (Lg ⟨et,s,bytes⟩ b 0 len len s false n new p) (Nat.beq s s)) (Bm new)) (Gj ((len+n)*(bytes+1)))
   |none=>.bad 123):=rfl;rw[q,g]at d;simp only[h1,Fi,Ws f,Fe]at d;by_cases h0:a=0
  .subst h0;have h:e=[]:=M8.1 om;subst h;have L:(C6 (.bad 121) (C6 (.bad 121) (C6 (.bad 121) (Lg ⟨et,s,bytes⟩ b 0 len len s false 0 [] p) true) true) true:OR)=.ok (.sl b 0 (len+0) len s false) p:=by show(C6 _ _ (Nat.ble (Nat.add len 0) len):OR)=_;rw[show Nat.ble (Nat.add len 0) len=true from br (Yw _)];rfl
   simp_all
  .have u:Nat.ble (Nat.add len a) len=false:=by cases E:Nat.ble (Nat.add len a) len with
    |false=>rfl
    |true=>have:len+a<=len:=Ew E;omega
   have r:(C6 (.bad 121) (C6 (.bad 121) (C6 (.bad 121) (Lg ⟨et,s,bytes⟩ b 0 len len s false a e p) true) true) true:OR)=.ok (.sl p.nx 0 (len+a) (len+a) s false) (((p.put b (.cells j et (.Cf k st))).put k (.Fb st)).new (.cells (j++e) et (.Gt k))):=by show(C6 _ _ (Nat.ble (Nat.add len a) len):OR)=_;rw[u];show Ny ⟨et,s,bytes⟩ b 0 len (Nat.add len a) e p=_;unfold Ny;rw[i];simp only[w,Sn,E5,t,Rx,Yw,Jr,Gh,Fe,Dl];rfl
   rw[r]at d;cases d;intro x hj;rw[Cq (h:=(p.put b (.cells j et (.Cf k st))).put k (.Fb st)) _ x (by show x≠p.nx;omega)];by_cases C:x=k;. simp[*]
   .rw[Aq _ _ _ C];by_cases c:x=b;. subst c;rw[A2,i];rfl
    .rw[Aq _ _ _ c]
def Kz(h:H)(v:AV):Prop:=∀b off len cap z ex,v=.sl b off len cap z ex->0<len->b<h.nx/\∀k,B5 (h.m.get b)=some k->k<h.nx
def Kz.own{s lo len}{et}{h}{v}{c}(i:Fm s lo et h v len c):Kz h v:=by
 intro b off n cap z ex e h0;rcases i with⟨_,_,a⟩|⟨_,_,f,o,cs,a,_⟩|⟨f,k,st,a,g,l,m,q5,j,q,r,p⟩;. grind
 .simp_all
 .rw[a]at e;cases e;refine⟨j,λk' d=>?_⟩;rw[g]at d;cases d;grind
def Kz.N3{h h1}{v}(a:Kz h v)(hn:h.nx<=h1.nx)(hc:∀b,b<h.nx->B5 (h1.m.get b)=B5 (h.m.get b)):Kz h1 v:=λb off len cap z ex c h0=>by have⟨_,_⟩:=a b _ _ _ z _ c h0;grind
def Kz.tg{h h1}{v a}{tk}(g:Kz h v)(d:H8 h tk a)(e:TG tk a h h1):Kz h1 v:=g.N3 e.lo λb f=>by
 by_cases c:b=tk;. subst c;have⟨m,_,h2⟩:=d.cell;have⟨_,_,i⟩:=(e.at d.lt).cell;rw[h2,i];rfl
 .rw[e.Cf b f c]
attribute [local irreducible] Aa Al Af Ad
variable (Z:Ac)(N:Nat)
structure Sc where
 name:List Nat
 pub:Bool
 many:Int
 cv:AV
 A1:List Cl
abbrev Ze(s:Sc):List AV:=[.str s.name,.bool s.pub,iI s.many,s.cv]
def ScV(all:List Cl)(s:Sc):Prop:=((s.pub=false/\1<=s.many/\s.many<=4)\/(s.pub=true/\s.many=0))/\Sub all 5 s.A1
def SsV(d:List Sc):Prop:=∃all:List Cl,all.map Cl.name=N1/\(∀c∈all,AdD c.a c.b c.ws)/\d.map Sc.name=R2.take d.length/\∀s∈d,ScV all s
structure AbM(lo:Nat)(h:H)(s:Sc):Prop where
 nn:s.name≠[]
 ne:s.A1≠[]
 Mu:s.A1.length<=5
 A1:Zg lo h s.cv s.A1
 one:Ge s.cv=true
 cell:cellsOf s.cv=some [s.cv]
 kz:Kz h s.cv
def AbM.By{lo}{h h1}{s}(hc:AbM lo h s)(e:Bi h h1)(a:∀b,b<h.nx->B5 (h1.m.get b)=B5 (h.m.get b)):AbM lo h1 s:=⟨hc.nn,hc.ne,hc.Mu,hc.A1.By e,hc.one,hc.cell,hc.kz.N3 e.lo a⟩
def AbM.gr{lo}{h h1}{s}(hc:AbM lo h s)(e:Ai h h1):AbM lo h1 s:=hc.By e.keeps λb a=>by rw[e.Cf b a]
def AbM.tg{lo tk}{h h1}{s}{b}(hc:AbM lo h s)(a:H8 h tk b)(c:tk<lo)(e:TG tk b h h1):AbM lo h1 s:=⟨hc.nn,hc.ne,hc.Mu,hc.A1.tg a c e,hc.one,hc.cell,hc.kz.tg a e⟩
structure Scs(lo:Nat)(h:H)(v:AV)(l:List Sc):Prop where
 own:Fm 4 lo 73 h v l.length (l.flatMap Ze)
 ok:∀s∈l,AbM lo h s
def Scs.tg{lo tk}{h h1}{v b}{l}(hc:Scs lo h v l)(a:H8 h tk b)(d:tk<lo)(e:TG tk b h h1):Scs lo h1 v l:=⟨Fm.tg hc.own a d e,λc h2=>(hc.ok c h2).tg a d e⟩
def Scs.nil lo h:Scs lo h .Bv []:=⟨Fm.nil ..,λc h2=>by grind⟩
def AuM{lo}{h}{v}{l}(hc:Scs lo h v l) s(d:AbM lo h s)(m:l.length<=1000)(k:lo<=h.nx):
 ∃v' h',Ds 73 4 56 v (.sl h.nx 0 1 1 4 true) (h.new (.cells (Ze s) 73 .exact))=.ok v' h'/\Scs lo h' v' (l++[s])/\(∀h0,h0.nx<=lo->Ai h0 h->Ai h0 h')/\Bi h h':=by
 have e:Ai h (h.new (.cells (Ze s) 73 .exact)):=(Ai.refl h).new _;have g:Sl 4 (h.new (.cells (Ze s) 73 _)) _ 1 _:=Sl.lit (Bf _) rfl rfl;have f:Bm (Ze s)=true:=by simp[d.one]
 have⟨_,_,c,b,j,_,_⟩:=Fm.AbQ (bytes:=56) (hc.own.gr e) g.src rfl om f (by show lo<=h.nx+1;omega);refine⟨_,_,c,⟨?_,λx a=>?_⟩,λh0 a1 a2=>j _ a1 (a2.new _),e.keeps.trans b⟩;. grind
 .have i:=Aps (hc.own.gr e) g.src rfl om f c;rcases U0.1 a with a|a;. exact((hc.ok x a).gr e).By b i
  .rw[Qv.1 a];exact(d.gr e).By b i
def AlR(Fg:R38 Z)(F:R82 Z)(J:R83 Z)(hN:100<N){Q:AV->H->Prop}(tk:Nat)(c:AV)(L:List Int)(h:H)(hi:H9 tk c L h)(I:AV)(all:List Cl)(t:all.length=5)(many:Int)(P:1<=many)(R:many<=3)
 (hQ:∀(v:AV) (l:List Sc) (hc:H),l≠[]->l.length<=3->(∀s∈l,ScV all s)->l.map Sc.name=R2.take l.length->Scs h.nx hc v l->TG tk c h hc->Q v hc):
 ∀(k:Nat) (i:Int) (n:Nat) (l:List Sc) (v:AV) (hd:H) (f0:L2),i+(k:Int)=many->0<=i->k<n->(l.length:Int)=i->(∀s∈l,ScV all s)->l.map Sc.name=R2.take l.length->Scs h.nx hd v l->Zg h.nx hd I all->TG tk c h hd->Ah H0 Q (Alo Z N n (.ptr tk 0) I (iI many) v (iI i) f0 hd)
 |0,i,n,l,v,hd,f0,Qd,H4,hn,hl,z,u,hv,Fs,he=>by
  obtain⟨r,rfl⟩:∃r,n=r+1:=⟨n-1,by omega⟩;have D:decide (i<many)=false:=df;rw[Apj];repeat' (first|with_reducible (first|apply A7|apply A8|apply A9|apply Ba)|(with_reducible (first|apply Cy|apply Cz|apply C0|apply C1);(conv=>lhs;simp(disch:=first|exact dA|fail) [lw, *,D]);with_reducible (first|apply A7|apply A8|apply A9|apply Ba|apply Cu|(refine Cv (by simp) ?_)|(apply Cw<;>intro hc<;>(try simp only[Bt]at hc)<;>(try (exfalso;omega)))))|(with_reducible (first|apply C2|apply C3|apply C4|apply C5)<;>intro hc<;>(try simp only[Bt]at hc)<;>(try (exfalso;omega))))
  exact zr (Ed _) (hQ v l hd (by intro g;subst g;simp at hl;omega) om z u hv he)
 |k+1,i,n,l,v,hd,f0,Qd,H4,hn,hl,z,u,hv,Fs,he=>by
  obtain⟨r,rfl⟩:∃r,n=r+1:=⟨n-1,by omega⟩;have ih:=AlR Fg F J hN tk c L h hi I all t many P R hQ k (i+1) r;have ht:=hi.at';have Y:=ht.lt;have w:=he.at Y;have B:H9 tk c L hd:=hi.tg he;have Kf:=he.lo;have BeC:tk<hd.nx:=w.lt;have hT:∀(k:Int) (a:H),TG tk c hd a->k<=9223372036854775807->D6 tk c a (Below k) (Z.call 38 [.ptr tk 0,iI k] a):=λk a e hk=>Fg tk c L k a (B.tg e).at' (B.tg e).ints hi.av hi.len hk;have D:decide (i<many)=true:=dt;have X4:((i.toNat:Nat):Int)=i:=Qy H4;rw[Apj];repeat' (first|with_reducible (first|apply A7|apply A8|apply A9|apply Ba)|((with_reducible (first|apply Fj|apply zc2));exact F _ _;intro U g M q d y;(first|(have eqt:=Ai.quiet M;try simp only[C9]at q d eqt)|(try simp only[C9]at q d));obtain⟨ws,wn,T,wb,w1,w2,wne,V⟩:=y)|(with_reducible (first|apply Cy|apply Cz|apply C0|apply C1);(conv=>lhs;simp(disch:=first|exact dA|fail) [lw, *,D]);with_reducible (first|apply A7|apply A8|apply A9|apply Ba|apply Cu|(refine Cv (by simp) ?_)|(apply Cw<;>intro hc<;>(try simp only[Bt]at hc)<;>(try (exfalso;omega)))))|(with_reducible (first|apply Kl|apply Km);(conv=>lhs;simp only[zw,D]))|(with_reducible (first|apply C2|apply C3|apply C4|apply C5)<;>intro hc<;>(try simp only[Bt]at hc)<;>(try (exfalso;omega)))|(refine B8 ?_ ?_;(focus (simp(disch:=first|decide|omega|(simp only[C9];omega)) [Aw,Am,Ar,Ax, *];done));(try simp(disch:=first|exact Ce|fail) only[Aw,Am,Bx,Ap,At,I3,Ia,B9,Dp,Dn,C9,Ca, *])))
  have wn4:ws.length=4:=by rw[wn];rfl
  obtain⟨nm,j⟩:∃nm,ws[i.toNat]?=some nm:=⟨_,Xs om⟩;have Zo:nm≠[]:=wne nm (Vl j);have hn0:R2[l.length]?=some nm:=by rw[show l.length=i.toNat by omega,<- j,wn];rfl
  obtain⟨b,o,K⟩:=R0.elem (f:=Aeb) (s:=1) (λ_=>rfl) T j;have x1:=K.ia;rw[X4]at x1;have x2:=K.part 0 _ rfl;rw[Mz]at x2;obtain⟨off,cap,ex,A⟩:=Acg T om K;have hbt:b≠tk:=by have:=wb b off 4 cap 1 ex (wn4 ▸ A) om;simp only[C9]at this;omega
  have hbc:=V b off _ cap 1 ex A;clear T K wn j A;repeat' (first|with_reducible (first|apply A7|apply A8|apply A9|apply Ba)|((with_reducible apply M5);exact hT _ _ L5 om;intro U g M q d y;(try simp only[C9]at q d);obtain⟨S,rfl,j0,j1⟩:=y)|(with_reducible (first|apply Cy|apply Cz|apply C0|apply C1);(conv=>lhs;simp(disch:=first|exact dA|fail) [lw, *,D,x1,x2]);with_reducible (first|apply A7|apply A8|apply A9|apply Ba|apply Cu|(refine Cv (by simp) ?_)|(apply Cw<;>intro hc<;>(try simp only[Bt]at hc)<;>(try (exfalso;omega)))))|(with_reducible (first|apply Kl|apply Km);(conv=>lhs;simp only[zw,D]))|(with_reducible (first|apply C2|apply C3|apply C4|apply C5)<;>intro hc<;>(try simp only[Bt]at hc)<;>(try (exfalso;omega)))|(refine B8 ?_ ?_;(focus (simp(disch:=first|decide|omega|(simp only[C9];omega)) [Aw,Am,Ar,Ax, *];done));(try simp(disch:=first|exact Ce|fail) only[Aw,Am,Bx,Ap,At,I3,Ia,B9,Dp,Dn,C9,Ca, *])))
  refine Pu tk hd.nx ?_ λLz Wp=>?_
  .simp only[Tl,Pl,Ju,G4,Jj];repeat' (refine And.intro ?_ ?_)
   all_goals first|(left;exact Ai.quiet (by assumption))|(left;simp;done)|(refine .inr ⟨λx a=>?_,?_⟩;(focus first|exact .inl (TG.wrote (by assumption) x a)|(refine .inr ?_;have E:=(D4 _ _ _ a).1;simp at E;omega));(repeat' (refine And.intro ?_ ?_));all_goals first|(exact Ar ..)|(refine Ax _ _ _ _ _ _ _ _ _ _ _ _ ?_;decide)|exact Ci ..|exact Dk (tk:=tk) (TG.wrote (by assumption)) Ce (.inl rfl)|exact Dk (tk:=tk) (TG.wrote (by assumption)) Ce (.inr ⟨_,_,_,rfl,by omega,by simp[hbc]⟩))
  .generalize O:Be Lz _=E;have t1:TG tk c hd E:=by rw[<- O];exact L5
   have g1:E.m.get g.nx=scB nm false (1+S) .Bv:=by rw[<- O];exact A2 ..
   have n2:g.nx+1<=E.nx:=by rw[<- O];exact Ce
   have hb:hd.nx<=g.nx:=by omega
   clear O Wp;generalize g.nx=b8 at *
   have Wj:∀(p:Bool) (m:Int) (a:H) (f:L2),((p=false/\1<=m/\m<=4)\/(p=true/\m=0))->TG tk c hd a->a.m.get b8=scB nm p m .Bv->b8+1<=a.nx->Ah H0 Q (AkZ Z N r (.ptr tk 0) I (iI many) v (iI i) (.ptr b8 0) f a):=by
    intro p m a f X t2 g2 n3;rw[AwS];repeat' (first|with_reducible (first|apply A7|apply A8|apply A9|apply Ba)|((with_reducible apply M5);exact hT _ _ L5 om;intro U g M q d y;(try simp only[C9]at q d);obtain⟨S,rfl,j0,j1⟩:=y)|(with_reducible (first|apply Cy|apply Cz|apply C0|apply C1);(conv=>lhs;simp(disch:=first|exact dA|fail) [lw, *]);with_reducible (first|apply A7|apply A8|apply A9|apply Ba|apply Cu|(refine Cv (by simp) ?_)|(apply Cw<;>intro hc<;>(try simp only[Bt]at hc)<;>(try (exfalso;omega)))))|(with_reducible (first|apply C2|apply C3|apply C4|apply C5)<;>intro hc<;>(try simp only[Bt]at hc)<;>(try (exfalso;omega))))
    refine AlS Z N Fg J tk c L hd B r h.nx I all Fs t om Kf _ _ _ b8 hb nm p m _ om om ?_ 5 0 N [] .Bv _ _ om om om (by simp) om ⟨[],List.nil_sublist _,rfl⟩ om (by rw[d b8 om om];exact g2) (Cls.nil _ _) L5;intro n cv A1 hy f2 Hr W hsb hbn hg C Fv;have k5:decide ((5:Int)<5)=false:=rfl;rw[Apk];obtain⟨y1,y2⟩:=B2 C.own.sl;repeat' (first|with_reducible (first|apply A7|apply A8|apply A9|apply Ba)|(with_reducible (first|apply Cy|apply Cz|apply C0|apply C1);(conv=>lhs;simp(disch:=first|exact dA|fail) [lw, *,k5]);with_reducible (first|apply A7|apply A8|apply A9|apply Ba|apply Cu|(refine Cv (by simp) ?_)|(apply Cw<;>intro hc<;>(try simp only[Bt]at hc)<;>(try (exfalso;omega)))))|(with_reducible (first|apply C2|apply C3|apply C4|apply C5)<;>intro hc<;>(try simp only[Bt]at hc)<;>(try (exfalso;omega))))
    have e4:TG tk c h hy:=TG.trans he Fv;have hl4:=e4.lo;obtain⟨v',h',q1,q2,q3,q4⟩:=AuM (hv.tg w Y Fv) ⟨nm,p,m,cv,A1⟩ ⟨Zo,Hr,W,C.slice.mono om,y1,y2,Kz.own C.own⟩ om om;refine Ey q1 ?_;have e2:TG tk c h h':=by obtain⟨m,R,hg⟩:=e4;exact⟨m,R,q3 _ (Yw _) hg⟩
    clear q1;rw[AwT];repeat' (first|with_reducible (first|apply A7|apply A8|apply A9|apply Ba)|(with_reducible (first|apply Cy|apply Cz|apply C0|apply C1);(conv=>lhs;simp(disch:=first|exact dA|fail) [lw, *]);with_reducible (first|apply A7|apply A8|apply A9|apply Ba|apply Cu|(refine Cv (by simp) ?_)|(apply Cw<;>intro hc<;>(try simp only[Bt]at hc)<;>(try (exfalso;omega)))))|(with_reducible (first|apply C2|apply C3|apply C4|apply C5)<;>intro hc<;>(try simp only[Bt]at hc)<;>(try (exfalso;omega))))
    exact ih (l++[⟨nm,p,m,cv,A1⟩]) v' h' _ om om om (by rw[X8];simp;omega) (λs G=>by rcases U0.1 G with G|G;exact z s G;rw[Qv.1 G];exact⟨X,hsb⟩) (by rw[ah,u,X8];simp only[R6,Gx,Ga,hn0];rfl) q2 ((Fs.tg w Y Fv).By q4) e2
   repeat' (first|with_reducible (first|apply A7|apply A8|apply A9|apply Ba)|((with_reducible apply M5);exact hT _ _ L5 om;intro U g M q d y;(try simp only[C9]at q d);obtain⟨S,rfl,j0,j1⟩:=y)|(with_reducible (first|apply Cy|apply Cz|apply C0|apply C1);(conv=>lhs;simp(disch:=first|exact dA|fail) [lw, *]);with_reducible (first|apply A7|apply A8|apply A9|apply Ba|apply Cu|(refine Cv (by simp) ?_)|(apply Cw<;>intro hc<;>(try simp only[Bt]at hc)<;>(try (exfalso;omega)))))|(with_reducible (first|apply C2|apply C3|apply C4|apply C5)<;>intro hc<;>(try simp only[Bt]at hc)<;>(try (exfalso;omega))))
   .exact Wj _ _ _ _ (.inr ⟨rfl,rfl⟩) L5 (A2 ..) Ce
   .refine Wj _ _ _ _ ?_ L5 (by rw[d b8 om om];exact g1) Ce;exact .inl ⟨rfl,by omega,by omega⟩
   .refine Wj _ _ _ _ ?_ t1 g1 n2;exact .inl ⟨rfl,by omega,by omega⟩
open Tryz
def R8(lo:Nat)(r:AV)(h1:H):Prop:=∃l:List Sc,l≠[]/\l.length<=3/\Scs lo h1 r l/\SsV l
def R43:Prop:=∀(tk:Nat) (a:AV) (L:List Int) (h:H),H9 tk a L h->D6 tk a h (R8 h.nx) (Z.call 43 [.ptr tk 0] h)
def r43(o:R38 Z)(g:R81 Z)(d:R82 Z)(m:R83 Z)(z:100<N)(tk:Nat)(a:AV)(L:List Int)(h:H)(hi:H9 tk a L h):D6 tk a h (R8 h.nx) (Ay prog Z N false 43 [.ptr tk 0] h):=by refine Qk ?_;rw[e43];have p:=hi.at';have q:=p.lt;have K:∀(k:Int) (b:H),TG tk a h b->k<=9223372036854775807->D6 tk a b (Below k) (Z.call 38 [.ptr tk 0,iI k] b):=λk b e G=>o tk a L k b (hi.tg e).at' (hi.tg e).ints hi.av hi.len G;refine AlQ Z N d g tk a L h hi ?_ 5 0 N [] .Bv h _ rfl om rfl (λc hc=>by cases hc) rfl (Cls.nil _ _) (TG.refl p);intro n v l hd f w i j B y;have P:decide ((5:Int)<5)=false:=rfl;rw[Api];(repeat' (first|refine wk ?_|((with_reducible apply M5);exact K _ _ L5 om;intro M O x D A I;(try simp only[C9]at D A);obtain⟨E,rfl,j0,Q⟩:=I)));refine AlR Z N o d m z tk a L h hi v l w _ om om (λv' l' b F r q5 u C J=>⟨J,l',F,r,C,l,j,i,u,q5⟩) (1+E).toNat 0 N [] .Bv _ _ om om om rfl (λs t=>by cases t) rfl (Scs.nil _ _) ?_ L5;exact B.slice.tg (y.at q) q x
def AzQ{h2:H}{b:AO}(e:TG p.nx o (p.new b) h2):Ai p h2:=by obtain⟨m,c,a⟩:=e;exact(((Ai.refl p).new b).put p.nx _ (Yw _)).trans a
def Sl.av{s len tk:Nat}(f:Sl s p o len j)(h:p.nx<=tk):Av tk o:=by
 intro b off i cap z ex a h0;rcases f with⟨_,_,h1⟩|⟨g,k,m,e,cs,h1,l,d,_⟩
 .rw[h1]at a;cases a
 .rw[h1]at a;cases a;have:=d.lt;omega
def AkJ{L:List Int}{h:H}(b:Lf h o L)(c:(L.length:Int)<=9223372036854775807):H9 h.nx o L (h.new (tkC o 0)):=
 ⟨⟨Up _,0,bw _,Bf _⟩,Sl.By b ((Ai.refl h).new _).keeps,Sl.av b (Yw _),c⟩
def Yp{s lo d len:Nat}{et:TypeId}(h:Fm s lo et p o len j)(e:d<=lo):Fm s d et p o len j:=by
 rcases h with a|a|⟨b,k,st,h1,i,f,g,q5,l⟩
 .exact .inl a
 .exact .inr (.inl a)
 .exact .inr (.inr ⟨b,k,st,h1,i,f,Vr e g,Vr e q5,l⟩)
def R15:Prop:=∀(a:AV) (L:List Int) (h:H),Lf h a L->(L.length:Int)<=9223372036854775807->Ah h (R8 h.nx) (Z.call 15 [a] h)
def r15(b:R43 Z)(a:AV)(L:List Int)(h:H)(c:Lf h a L)(k:(L.length:Int)<=9223372036854775807):Ah h (R8 h.nx) (Ay prog Z N false 15 [a] h):=by rw[e15];obtain⟨n,m⟩:=B2 c;refine wk ?_;obtain⟨v,h1,e,f,l,d,g,q5,j⟩:=AeX (b h.nx a L _ (AkJ c k));refine Ey e (zr (AzQ f) ⟨l,d,g,⟨Yp q5.own (Et _),λs i=>?_⟩,j⟩);have:=q5.ok s i;exact⟨this.nn,this.ne,this.Mu,this.A1.mono (Et _),this.one,this.cell,this.kz⟩
end Go.Proofs
