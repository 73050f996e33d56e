/- Lists of nodes of one's -/
import Derived.Test.YtahaaiadlgfchaaGreatDoorEvGl
import Derived.Test.YtahaaiadlgfchaaGreatDoorEvQa
import Derived.Test.YtahaaiadlgfchaaGreatDoorEvQc
set_option linter.all false
set_option maxRecDepth 100000
noncomputable section
namespace Go.Proofs
open Go Go.Ev Go.Ev.Sx
open Go.Proofs.YtahaaiadlgfchaaGreatDoor
variable {h h1:H}
structure GP(h:H):Prop where
 g:Hj Um h=true
 lt:9<=h.nx
def Bfe:∀gl n,(gl.all λe=>Nat.blt e.g n)=true->(∀b,b<n->h1.m.get b=h.m.get b)->Hj gl h1=Hj gl h
|[],_,_,_=>rfl
|e::gl,n,ha,a=>by rw[Ku,Sc]at ha;unfold Hj;rw[a _ (Ew ha.1),Bfe _ n ha.2 a]
def GP.gr(p:GP h)(g:Ai h h1):GP h1:=⟨by rw[Bfe _ 9 rfl λb hb=>g.Cf b (Yy hb p.lt)];exact p.g,Xy p.lt g.lo⟩
end Go.Proofs
namespace Go.Proofs
open Go Go.Ev Go.Ev.Sx
open Go.Nm
attribute [local irreducible] Aa Al Af Ad
variable [Ii]
variable (Z:Ac)(N:Nat)
abbrev Iw(l:List _):=l.flatMap Bw
def Tk:∀l,Bm (Iw l)=true
|[]=>rfl
|x::l=>by have a:=Tk l;simp_all
end Go.Proofs
namespace Go.Proofs
open Go Go.Ev Go.Ev.Sx
open Go.Nm
def B2{s}{h}{v}{len}{c}(a:Sl s h v len c):Ge v=true/\cellsOf v=some [v]:=by rcases a with⟨_,_,rfl⟩|⟨b,off,cap,ex,cs,rfl,_⟩<;>exact⟨rfl,rfl⟩
section
variable (Z:Ac)
end
def N4{p:Prop}(q:p:=by first|(simp(disch:=first|omega|(simp only[C9];omega)) [*];done)|fail):p:=q
attribute [local irreducible] Aa Al Af Ad
variable (Z:Ac)(N:Nat)
abbrev Ue h v l:=R0 3 Bw h v l
abbrev NdO lo h v(l:List _):=Fm 3 lo 50 h v l.length (l.flatMap Bw)
end Go.Proofs
namespace Go.Proofs
open Go Go.Ev Go.Ev.Sx
open Go.Nm
attribute [local irreducible] Aa Al Af Ad
variable [Ii]
variable (Z:Ac)(N:Nat)
def F4(t:Tr):=decide (9<=t.op)
end Go.Proofs
namespace Go.Proofs
open Go Go.Ev Go.Ev.Sx
open Go.Nm
attribute [local irreducible] Aa Al Af Ad
variable (Z:Ac)(N:Nat)
def F5(p:Prop):=p
theorem hU {p:Prop} (h:p):F5 p:=h
theorem gw {p:Prop} (h:F5 p):p:=h
end Go.Proofs
namespace Go.Proofs
open Go Go.Ev Go.Ev.Sx
open Go.Nm
variable {j:AV->H->Prop}{o:Int}{p:H}
abbrev Zd(x:Int × Int):=[iI x.1,iI x.2]
attribute [local irreducible] Aa Al Af Ad
variable (Z:Ac)(N:Nat)
abbrev OkS h v l:=R0 2 Zd h v l
def W7(s lo:Nat)(v:AV):=∀b off len cap z ex,v=.sl b off len cap z ex->0<len->lo<=b
def W7.mono{s lo a}{v}(d:W7 s lo v)(e:a<=lo):W7 s a v:=λb off len cap z ex c h0=>Xy e (d b _ _ _ z _ c h0)
def W7.Bv s lo:W7 s lo .Bv:=λb off len cap z ex a=>by grind
def W7.own{s lo len}{et}{h}{v}{c}(a:Fm s lo et h v len c):W7 s lo v:=by
 intro b off i cap z ex f h0;rcases a with⟨_,_,h1⟩|⟨_,_,d,g,cs,h1,_⟩|⟨d,k,st,h1,l,j,e,_⟩;. grind
 .grind
 simp_all
def Sl.AnO{s c len:Nat}{v:AV}{cs l l0:uz}{i e1:TypeId}(o:Sl s p v len cs)(h:p.m.get c=cd l0 i)(r:l.length=l0.length)(u:0<len->∀b off n cap z ex,v=.sl b off n cap z ex->b≠c):Sl s (p.put c (cd l e1)) v len cs:=by
 rcases o with h1|⟨b,off,cap,ex,bs,rfl,g,d,j,q⟩;. exact .inl h1
 .by_cases hb:b=c
  .subst hb;obtain⟨e,k,f,a⟩:=d.cells;rw[h]at f;cases f;rcases cu len with h0|h0;. subst h0;refine .inr ⟨b,off,cap,ex,l,rfl,g,⟨d.lt,_,.exact,A2 ..,trivial⟩,by omega,?_⟩;grind
   grind
  .refine .inr ⟨b,off,cap,ex,bs,rfl,g,⟨d.lt,?_⟩,j,q⟩;obtain⟨e,k,f,a⟩:=d.cells;refine⟨e,k,by simp_all,?_⟩;cases k with
   |Cf k st=>exact⟨a.1,by rw[Aq _ _ _ (λt=>by have:=a.2;simp_all)];exact a.2⟩
   |_=>trivial
def Vu(n:Nat):AO->Bool
|.cells l _ .exact=>Nat.beq l.length n
|_=>false
@[simp]def A0y n l e:Vu n (cd l e)=Nat.beq l.length n:=rfl
def Pb{n}{o}(a:Vu n o=true):∃l e,o=cd l e/\n=l.length:=by match o,a with
|.cells l e .exact,a=>simp_all
def cp{s bytes lo}{et}{h}{v}{len}{c}(hb:len*(bytes+1)<1000000000000)(b:Sl s h v len c)(h1:Bm c=true)(Kf:lo<=h.nx):
 ∃w h',Ds et s bytes (.sl h.nx 0 0 0 s true) v (h.new (cd [] et))=.ok w h'/\Ai h h'/\Fm s lo et h' w len c:=by have e:Ai h (h.new (cd [] et)):=(Ai.refl h).new _;have a:=b.By e.keeps;obtain⟨w,h',d,g,f⟩:=Sg (h:=h.new (cd _ _)) ⟨by simp,_,_,Bf _,trivial⟩ (Ye _) a.src a.Rv hb h1 (by show lo<=h.nx+1;omega);exact⟨w,_,d,e.trans g,f⟩
structure Qr where
 c0:Int
 code:List Nd
 c2:Int
 c3:Int
 c4:Int
 c5:Int
 s6:List Nat
 c7:Int
 ord:List (Int × Int)
 c9:Int
 Wz:Bool
 Uw:List Nat
 W0:Int
 Wu:List Nat
 s14:List Nat
 s15:List Nat
 c16:Int
 E9:List Nd
 Oi:List Nat
 Mg:Int
abbrev qc(q:Qr) vc vo vm:=[iI q.c0,vc,iI q.c2,iI q.c3,iI q.c4,iI q.c5,.str q.s6,iI q.c7,vo,iI q.c9,.bool q.Wz,.str q.Uw,iI q.W0,.str q.Wu,.str q.s14,.str q.s15,iI q.c16,vm,.str q.Oi,iI q.Mg]
structure QV(h:H)(q:Qr)(vc vo vm:AV):Prop where
 c:Ue h vc q.code
 o:OkS h vo q.ord
 m:Ue h vm q.E9
def QV.By{h h1}{q}{vc vo vm}(hq:QV h q vc vo vm)(e:Bi h h1):QV h1 q vc vo vm:=⟨hq.c.By e,hq.o.By e,hq.m.By e⟩
open Tryz
def Below k r(_:H):=∃j:Int,r=iI j/\0<=j/\(j<k\/j=0)
def R78:=∀n k h,1<=k->k<=9223372036854775807->Ah h (Below k) (Z.call 10 [iI n,iI k] h)
def r78 n k h(b:1<=k)(c:k<=9223372036854775807):Ah h (Below k) (ml Z N 10 [iI n,iI k] h):=by
 rw[e78];have h1:=Int.lt_tmod_of_pos n (show 0<k by omega);have h2:=Int.tmod_lt_of_pos n (show 0<k by omega);repeat' (first|refine wk ?_|(refine zqq ?_ ?_<;>intro a)|rfl)
 .refine zr (Ai.refl _) ⟨_,rfl,?_,.inl ?_⟩<;>omega
 .refine zr (Ai.refl _) ⟨_,rfl,?_,.inl ?_⟩<;>omega
def R38:=∀tk a L k h,H8 h tk a->R0 1 (λn=>[iI n]) h a L->T6 tk a->(L.length:Int)<=9223372036854775807->k<=9223372036854775807 ->
 D6 tk a h (Below k) (Z.call 30 [.ptr tk 0,iI k] h)
def r38(p:R78 Z)(tk:Nat)(a:AV)(L:List Int)(k:Int)(h:H)(c:H8 h tk a)(i:R0 1 (λn:Int=>[iI n]) h a L)(ha:T6 tk a)(J:(L.length:Int)<=9223372036854775807)(y:k<=9223372036854775807):
 D6 tk a h (Below k) (Ay prog Z N false 30 [.ptr tk 0,iI k] h):=by
 refine Qk ?_;rw[e38];have M:=c.lt;obtain⟨m,C,O⟩:=c.cell;have v:∀l,Fo a l=.ok (iI (L.length:Int)) l:=λ_=>i.Gs;obtain⟨B,G⟩:=B2 i;cases x:decide ((L.length:Int)<=m)
 .have g:((m.toNat:Nat):Int)=m:=Tb C;have z:m<(L.length:Int):=by have:=bh x;omega
  have hi:m.toNat<L.length:=by omega
  cases E:decide (k<1)
  .have j:1<=k:=by have:=bh E;omega
   have t:TG tk a h (h.put tk (tkC a (m+1))):=(TG.refl c).put _ om;have d:=i.tg c ha t;obtain⟨b,o,el⟩:=R0.elem (f:=λn:Int=>[AV.int .i64 n]) (s:=1) (λ_=>rfl) d (Yq hi);have F:=el.ia;rw[g]at F;have w:=el.part 0 _ rfl;rw[Vw]at w;generalize L[m.toNat]=e at w;clear i d el g hi;(repeat' (first|refine wd ?_|((with_reducible (first|apply Fj|apply zc2));exact p _ _ _ j y;intro K l A u r I;(first|(have q:=Ai.quiet A;try simp only[C9]at u r q)|(try simp only[C9]at u r));skip)));. exact zr (Ed _) ⟨t.gr (Ai.Be (h2:=h.put tk (tkC a (m+1))) Ex (Ai.refl _)),by assumption⟩
  .refine wd ?_;exact zr (Ed _) ⟨(TG.refl c).gr Ex,_,rfl,Int.le_refl _,.inr rfl⟩
 .refine wd ?_;exact zr (Ed _) ⟨(TG.refl c).gr Ex,_,rfl,Int.le_refl _,.inr rfl⟩
abbrev Aeb(s:uw):uz:=[.str s]
def Ama:∀l:List _,Bm (l.flatMap Aeb)=true
|[]=>rfl
|x::l=>by have a:=Ama l;simp[*]
abbrev Ig h v l:=R0 1 Aeb h v l
def Axa:=∀l v h,Ig h v l->l.length<=10000000->Ah h (λr h1=>Ig h1 r l/\W7 1 h.nx r/\Ge r=true/\cellsOf r=some [r]) (Z.call 91 [v] h)
def A9Y l v h(b:Ig h v l)(e:l.length<=10000000):Ah h (λr h1=>Ig h1 r l/\W7 1 h.nx r/\Ge r=true/\cellsOf r=some [r]) (ml Z N 91 [v] h):=by rw[A7A];obtain⟨w,h',c,d,a⟩:=cp (bytes:=16) om b (Ama l) (Ye _);exact Ey rfl (Ey c (Lo d ⟨a.sl,W7.own a,B2 a.sl⟩))
def R2:=[um,[118,105,115,105,116,115],wx,[110,111,116,101,115]]
def N1:=[[97,103,101],ur,[104,101,105,103,104,116],[112,108,97,99,101],[115,99,111,114,101]]
def R9:=[[114,101,100],bw,[98,108,117,101],[103,114,101,121],[112,105,110,107]]
def nmL(k:Int):=if k=0 then R2 else if k=1 then N1 else R9
def AdD(a b:Int) ws:=ws=[]/\-3<=a/\a<=b/\b<=20/\b<=a+7\/∃u:Nat,1<=u/\u<=5/\ws=R9.take u/\a=0/\b=u-1
def AdD.Mu{a b}{ws}(h:AdD a b ws):ws.length<=5:=by
 rcases h with⟨rfl,_⟩|⟨u,_,h2,rfl,_⟩;. grind
 grind
def Apn l lo r h1:=∃ws:List _,ws=l/\Ig h1 r ws/\W7 1 lo r/\Ge r=true/\cellsOf r=some [r]/\(∀w∈ws,w≠[])/\∀b off len cap z ex,r=.sl b off len cap z ex->B5 (h1.m.get b)=none
def Aas{h1:H} ws n(hn:ws.length=n)(d:∀w∈ws,w≠[])(c:h1.m.get p.nx=cd (ws.flatMap Aeb) 9)(e:h1.nx=p.nx+1):Apn ws p.nx (.sl p.nx 0 n n 1 true) h1:=by
 subst hn;refine⟨_,rfl,Sl.lit c e (Aa9 (f:=Aeb) (λ_=>rfl) _),λb off len cap z ex a h0=>?_,rfl,rfl,d,λb off len cap z ex a=>?_⟩;. grind
 .cases a;rw[c];rfl
def Acg{s len i b o}{h}{v}{c l}(a:Sl s h v len c)(hi:i<len)(e:AsU s h v i l b o):∃off cap ex,v=.sl b off len cap s ex:=by
 rcases a with⟨h1,_⟩|⟨f,off,cap,ex,cs,rfl,j,g,d,k⟩;. omega
 .have h2:=e.ia h;rw[Agr s _ _ _ _ s _ i hi]at h2;grind
def R82:=∀k h,Ah h (Apn (nmL k) h.nx) (Z.call 41 [iI k] h)
def r82(k:Int)(h:H):Ah h (Apn (nmL k) h.nx) (ml Z N 41 [iI k] h):=by
 rw[e82];by_cases h0:k=0;. subst h0;refine wk ?_;exact zr Ex (Aas R2 4 rfl fe (Bf _) rfl)
 .by_cases h1:k=1;. subst h1;refine wk ?_;exact zr Ex (Aas _ 5 rfl fe (Bf _) rfl)
  .rw[show nmL k=R9 by unfold nmL;grind];refine wk ?_;exact zr Ex (Aas _ 5 rfl fe (Bf _) rfl)
def AxQ lo name a b ws(r:AV) h1:=∃w:AV,r=.agg [.str name,iI a,iI b,w]/\Ig h1 w ws/\W7 1 lo w/\Ge w=true/\cellsOf w=some [w]
def AbH lo name(r:AV) h1:=∃(a b:Int) (w:AV) (ws:List _),r=.agg [.str name,iI a,iI b,w]/\AdD a b ws/\Ig h1 w ws/\W7 1 lo w/\Ge w=true/\cellsOf w=some [w]
abbrev Lf h v L:=R0 1 (λn=>[iI n]) h v L
structure H9(tk:Nat)(vl:AV)(L:List Int)(h:H):Prop where
 at':H8 h tk vl
 ints:Lf h vl L
 av:T6 tk vl
 len:(L.length:Int)<=9223372036854775807
def H9.tg{tk}{a}{L}{h h1}(hi:H9 tk a L h)(e:TG tk a h h1):H9 tk a L h1:=⟨e.at hi.at'.lt,hi.ints.tg hi.at' hi.av e,hi.av,hi.len⟩
def AiD:∀(l:List _) u,(l.flatMap Aeb).take (u*1)=(l.take u).flatMap Aeb
|[],u=>by simp
|a::l,0=>rfl
|a::l,u+1=>by have b:=AiD l u;grind
def Sl.To{s lo c len}{h}{v}{cs l}{e1}(d:Sl s h v len cs)(hb:W7 s lo v)(o:c<lo)(a:Vu l.length (h.m.get c)=true):Sl s (h.put c (cd l e1)) v len cs:=by
 have⟨_,_,a,f⟩:=Pb a;refine Sl.AnO d a f λh0 b off n cap z ex e=>?_;rcases d with⟨_,_,h1⟩|⟨k,i,j,g,bs,h1,p,_⟩;. omega
 .have h2:=hb b _ n _ z _ e;grind
def R81:=∀tk a L name h,H9 tk a L h->D6 tk a h (AbH h.nx name) (Z.call 40 [.ptr tk 0,.str name] h)
def r81(B:R38 Z)(s:R82 Z)(r:Axa Z)(tk:Nat)(j:AV)(L:List Int)(name:uw)(h:H)(hi:H9 tk j L h):D6 tk j h (AbH h.nx name) (Ay prog Z N false 40 [.ptr tk 0,.str name] h):=by
 refine Qk ?_;rw[e81];have F:=hi.at';have R:=F.lt;have I:∀(k:Int) (a:H),TG tk j h a->k<=9223372036854775807->D6 tk j a (Below k) (Z.call 30 [.ptr tk 0,iI k] a):=λk a e G=>B tk j L k a (hi.tg e).at' (hi.tg e).ints hi.av hi.len G;clear hi B;(repeat' (first|refine wk ?_|((with_reducible apply M5);exact I _ _ L5 om;intro p i n f c g;(try simp only[C9]at f c);obtain⟨y,rfl,j0,T⟩:=g)|((with_reducible (first|apply Fj|apply zc2));exact s _ _;intro p i n f c g;(try simp only[C9]at f c);obtain⟨ws,A,w,wb,w1,w2,M,Q⟩:=g)|(refine zqq ?_ ?_<;>intro a<;>(try (exfalso;omega)))|fail))
 .obtain⟨u,K⟩:∃u:Nat,(u:Int)=1+y:=⟨(1+y).toNat,by omega⟩;have d:Ig _ p ws:=Sl.tg w (TG.at (h:=h) L5 R) (λb off len cap z ex q h0=>by have:=wb b off len cap z ex q h0;omega) n;have S:ws.length=5:=by rw[A];rfl
  obtain⟨v',J,v⟩:=Sl.hiS (P:=prog) (t:=98) (e:=9) (bytes:=16) (u:=u) (by kernel_rfl) d om;rw[K]at J;rw[AiD]at v;have o:(ws.take u).length=u:=by rw[Cm];omega
  have hq:Ig i v' (ws.take u):=by rw[show Ig i v' (ws.take u)=Sl 1 i v' (ws.take u).length ((ws.take u).flatMap Aeb)from rfl,o];exact v
  clear v w d;(repeat' (first|refine wk ?_|((with_reducible (first|apply Fj|apply zc2));exact r (ws.take u) v' _ hq om;intro p i n f c g;(try simp only[C9]at f c);obtain⟨C,l,w3,w4⟩:=g;have W:=λm=>Sl.Gs (h1:=m) C)));have E:(nmL 2).length=5:=rfl;refine zr (Ed _) ⟨L5,_,_,_,ws.take u,rfl,.inr ⟨u,by omega,by omega,by rw[A];rfl,rfl,by omega⟩,?_,?_,w3,w4⟩;. exact Sl.To (Sl.To (Sl.To C l Ce N4) l Ce N4) l Ce N4
  .intro b off len cap z ex q h0;have:=l b off len cap z ex q h0;omega
 .refine Pu tk h.nx ?_ λO U=>?_
  .simp only[Tl,Ww,Pl,G4,Jj];repeat' (refine And.intro ?_ ?_)
   all_goals first|(left;simp;done)|(refine .inr ⟨λx m=>?_,?_⟩;(focus first|exact .inl (TG.wrote (by assumption) x m)|(refine .inr ?_;have hz:=(D4 _ _ _ m).1;simp at hz;omega));(repeat' (refine And.intro ?_ ?_));all_goals first|(exact Ar ..)|(refine Ax _ _ _ _ _ _ _ _ _ _ _ _ ?_;decide)|exact Ci ..|exact Dk (tk:=tk) (TG.wrote (by assumption)) Ce (.inr ⟨_,_,_,rfl,by omega,by simp[B5]⟩))
  .refine wk ?_;exact zr (Ed _) ⟨L5,_,_,.Bv,[],rfl,.inl ⟨rfl,by omega,by omega,by omega,by omega⟩,.inl ⟨rfl,rfl,rfl⟩,W7.Bv 1 _,rfl,rfl⟩
def R83:=∀name a b w ws h,Ig h w ws->ws.length<=5->Ah h (AxQ h.nx name a b ws) (Z.call 42 [.agg [.str name,iI a,iI b,w]] h)
def r83(e:Axa Z)(name:uw)(a b:Int)(w:AV)(ws:List uw)(h:H)(c:Ig h w ws)(n:ws.length<=5):Ah h (AxQ h.nx name a b ws) (ml Z N 42 [.agg [.str name,iI a,iI b,w]] h):=by
 rw[e83];obtain⟨p,q⟩:=B2 c;(repeat' (first|refine wk ?_|((with_reducible (first|apply Fj|apply zc2));exact e ws w _ (Sl.By c M0) om;intro m o r j g i;(try simp only[C9]at j g);obtain⟨f,d,w3,w4⟩:=i;have l:=λk=>Sl.Gs (h1:=k) f)));refine zr Ex ⟨_,rfl,?_,?_,w3,w4⟩;. exact Sl.To (Sl.To f d Ce N4) d Ce N4
 .intro b off len cap z ex c h0;have:=d b off len cap z ex c h0;simp only[C9]at this;omega
def Fm.tg{s lo tk len}{et}{h h1}{v i}{c}(o:Fm s lo et h v len c)(q:H8 h tk i)(Kf:tk<lo)(e:TG tk i h h1):Fm s lo et h1 v len c:=by
 rcases o with j|⟨rfl,rfl,b,off,cs,rfl,h2,j⟩|⟨b,k,st,rfl,r,l,d,m,a,f,p,n⟩;. exact .inl j
 .rcases Sl.tg (.inr ⟨b,_,0,_,_,rfl,Ye _,h2,by omega,by simp⟩:Sl s h (.sl b off 0 0 s true) 0 []) q λb off len cap z ex t h0=>by grind e with⟨_,_,g⟩|⟨w,u,cap,ex,D7,g,r,l,d,m⟩;. grind
  .cases g;exact .inr (.inl ⟨rfl,rfl,b,_,_,rfl,l,by omega⟩)
 .exact .inr (.inr ⟨b,k,st,rfl,by rw[e.Cf b a om];omega,by rw[e.Cf k f om];grind,d,m,Yy a e.lo,Yy f e.lo,p,n⟩)
structure Aaw where
 name:List Nat
 a:Int
 b:Int
 w:AV
 ws:List (List Nat)
abbrev Hx(c:Aaw):=[.str c.name,iI c.a,iI c.b,c.w]
structure AbG(lo:Nat)(h:H)(c:Aaw):Prop where
 Mu:c.ws.length<=5
 words:Ig h c.w c.ws
 beh:W7 1 lo c.w
 one:Ge c.w=true
 cell:cellsOf c.w=some [c.w]
def AbG.By{lo}{h h1}{c}(a:AbG lo h c)(e:Bi h h1):AbG lo h1 c:=⟨a.Mu,Sl.By a.words e,a.beh,a.one,a.cell⟩
def AbG.tg{lo tk}{h h1}{d}{c}(a:AbG lo h c)(g:H8 h tk d)(Kf:tk<lo)(e:TG tk d h h1):AbG lo h1 c:=
 ⟨a.Mu,Sl.tg a.words g λb off len cap z ex f h0=>by have:=a.beh b _ _ _ z _ f h0;omega e,a.beh,a.one,a.cell⟩
structure Cls(lo:Nat)(h:H)(v:AV)(l:List Aaw):Prop where
 own:Fm 4 lo 100 h v l.length (l.flatMap Hx)
 ok:∀c∈l,AbG lo h c
def Cls.tg{lo tk}{h h1}{v a}{l}(b:Cls lo h v l)(d:H8 h tk a)(Kf:tk<lo)(e:TG tk a h h1):Cls lo h1 v l:=⟨Fm.tg b.own d Kf e,λc h2=>(b.ok c h2).tg d Kf e⟩
def Cls.gr{lo}{h h1}{v}{l}(a:Cls lo h v l)(e:Ai h h1):Cls lo h1 v l:=⟨a.own.gr e,λc h2=>(a.ok c h2).By e.keeps⟩
def Cls.nil lo h:Cls lo h .Bv []:=⟨Fm.nil ..,λc h2=>by grind⟩
def Al1{c}(a:Ge c.w=true):Bm (Hx c)=true:=by simp[*]
def Atn{lo}{h}{v}{l}(k:Cls lo h v l) c(f:AbG lo h c)(o:l.length<=1000)(Kf:lo<=h.nx):
 ∃v' h',Ds 100 4 56 v (.sl h.nx 0 1 1 4 true) (h.new (cd (Hx c) 100))=.ok v' h'/\Cls lo h' v' (l++[c])/\(∀h0,h0.nx<=lo->Ai h0 h->Ai h0 h')/\∀b,b<lo->h'.m.get b=h.m.get b:=by
 have e:Ai h (h.new (cd (Hx c) 100)):=(Ai.refl h).new _;have a:=k.gr e;have⟨_,_,i,g,j,_,n⟩:=Fm.AbQ (bytes:=56) a.own (Sl.lit (Bf _) rfl rfl).src rfl om (Al1 f.one) (by show lo<=h.nx+1;omega);refine⟨_,_,i,⟨?_,λx d=>?_⟩,λh0 a1 a2=>j _ a1 (a2.new _),λb hb=>by rw[n b hb];exact Cq _ b om⟩;. grind
 .rcases T2.1 d with d|d;. exact(a.ok x d).By g
  .rw[T0.1 d];exact(f.By e.keeps).By g
def AlQ(u:R82 Z)(q:R81 Z)(tk:Nat)(g:AV)(L:List Int)(h:H)(hi:H9 tk g L h)
 (Qz:∀(n:Nat) (v:AV) (l:List Aaw) (d:H) (f:L2),l.length=5->(∀c∈l,AdD c.a c.b c.ws)->l.map Aaw.name=N1->Cls h.nx d v l->TG tk g h d->Ah H0 j (AgD Z N (n+1) (.ptr tk 0) v (iI 5) f d)):
 ∀(k i n:Nat) (l:List Aaw) (v:AV) (d:H) (f0:L2),i+k=5->k<n->l.length=i->(∀c∈l,AdD c.a c.b c.ws)->l.map Aaw.name=N1.take i->Cls h.nx d v l->TG tk g h d->Ah H0 j (AgD Z N n (.ptr tk 0) v (iI (i:Int)) f0 d)
 |0,i,n,l,v,d,f0,Qd,hn,A,t,Q,C,he=>by
  obtain⟨n1,rfl⟩:=mg n;have S:i=5:=by omega
  subst S;exact Qz n1 v l d f0 A t Q C he
 |k+1,i,n,l,v,d,f0,Qd,hn,A,t,Q,C,he=>by
  obtain⟨n1,rfl⟩:=mg n;have O:=hi.at';have E:=O.lt;have k1:decide ((i:Int)<5)=true:=dt;have M:∀(name:uw) (p:H),TG tk g h p->D6 tk g p (AbH p.nx name) (Z.call 40 [.ptr tk 0,.str name] p):=λname p e=>q tk g L name p (hi.tg e);rw[Api];(repeat' (first|refine wk ?_|((with_reducible (first|apply Fj|apply zc2));exact u _ _;intro vv J I x w z;(try simp only[C9]at x w);obtain⟨ws,B,F,wb,w1,w2,Y,wcl⟩:=z)));have wn5:ws.length=5:=by rw[B];rfl
  obtain⟨b,o,el⟩:=R0.elem (f:=Aeb) (s:=1) (λ_=>rfl) F (Yq (show i<ws.length by omega));have x1:=el.ia;have K:=el.part 0 _ rfl;rw[Vw]at K;have r:N1[i]?=some ws[i]:=by rw[<- Yq,B];rfl
  generalize ws[i]=name at K r;clear F el B;(repeat' (first|refine wk ?_|((with_reducible apply M5);exact M _ _ L5;intro vv J I x w z;(try simp only[C9]at x w);obtain⟨T,X,cw,y,rfl,c1,c2,c3,c4,c5⟩:=z)));have G:TG tk g d J:=TG.trans (TG.gr (TG.refl (he.at E)) (by assumption)) I;have Kf:=he.lo;obtain⟨v',h',R,q2,U,q4⟩:=Atn (C.tg (he.at E) E G) ⟨name,T,X,cw,y⟩ ⟨c1.Mu,c2,c3.mono om,c4,c5⟩ om om;refine Ey R ?_;refine Ey (Uc ..) ?_;rw[Cr _ om om,show(i:Int)+1=((i+1:Nat):Int)from rfl];have W:TG tk g h h':=by obtain⟨m,hm,P⟩:=he.trans G;exact⟨m,hm,U _ (Ye _) P⟩
  exact AlQ u q tk g L h hi Qz k (i+1) n1 _ v' h' _ om om (by rw[Xi,A];rfl) (λc d=>by grind) (by rw[ah,Q,Ga,r];rfl) q2 W
def Ahe{lo}{h}{v sv}{l}{c}(g:Cls lo h v l)(e:AbG lo h c)(j:Sl 4 h sv 1 (Hx c))(p:l.length<=1000)(Kf:lo<=h.nx)(k:h.lg=[]):
 ∃v' h',Ds 100 4 56 v sv h=.ok v' h'/\Cls lo h' v' (l++[c])/\h.nx<=h'.nx/\(∀b,b<lo->h'.m.get b=h.m.get b)/\∀x∈h'.lg,lo<=x:=by
 have⟨v',h',i,d,f,o,n⟩:=Fm.AbQ (bytes:=56) g.own j.src rfl om (Al1 e.one) Kf;refine⟨_,_,i,⟨?_,λx a=>?_⟩,?_,n,?_⟩;. grind
 .rcases T2.1 a with a|a;. exact(g.ok x a).By d
  .rw[T0.1 a];exact e.By d
 .exact(f ⟨_,_,[]⟩ (Ye _) ⟨Kf,λb hb=>rfl,λx a=>by grind⟩).lo |> λ_=>d.lo
 .intro x a;rcases(f ⟨_,_,[]⟩ (Ye _) ⟨Kf,λb hb=>rfl,λx a=>by grind⟩).lg x a with h1|h1;. grind
  omega
def Asp{tk lo}{c}{h hy h'}(e:TG tk c h hy)(a:h.nx<=lo)(h1:hy.nx<=h'.nx)(h2:∀b,b<lo->h'.m.get b=hy.m.get b)(g:∀x∈h'.lg,lo<=x):TG tk c h h':=by have⟨m,f,d⟩:=e;refine⟨m,f,Xy d.lo h1,λb hb=>?_,λx i=>.inr (Xy a (g x i))⟩;rw[h2 b (Yy hb a)];exact d.Cf b hb
def Cls.rl{lo}{h}{v}{l}{lg}(d:Cls lo h v l):Cls lo (Be lg h) v l:=by
 refine⟨?_,λc h2=>(d.ok c h2).By ((Bi.refl h).Be _)⟩;rcases d.own with a|⟨h1,h2,b,off,cs,f,g,e⟩|a;. exact .inl a
 .exact .inr (.inl ⟨h1,h2,b,_,_,f,((Bi.refl h).Be _).cont b _ g,e⟩)
 .exact .inr (.inr a)
def Cls.put{lo c}{h}{v}{l}{l0}{e1}(a:Cls lo h v l)(q:l≠[])(n:c<lo)(o:Vu l0.length (h.m.get c)=true):Cls lo (h.put c (cd l0 e1)) v l:=by
 refine⟨?_,λx h2=>⟨(a.ok x h2).Mu,Sl.To (a.ok x h2).words (a.ok x h2).beh n o,(a.ok x h2).beh,(a.ok x h2).one,(a.ok x h2).cell⟩⟩;rcases a.own with⟨j,_⟩|⟨j,_⟩|⟨b,k,st,h1,s,r,f,p,e,g,i,d⟩;. grind
 .grind
 .exact .inr (.inr ⟨b,k,st,h1,by rw[Aq _ _ _ om];omega,by rw[Aq _ _ _ om];grind,f,p,e,g,i,d⟩)
structure Zg(lo:Nat)(h:H)(v:AV)(l:List Aaw):Prop where
 sl:R0 4 Hx h v l
 beh:W7 4 lo v
 ok:∀c∈l,AbG lo h c
def Zg.tg{lo tk}{h h1}{v d}{l}(a:Zg lo h v l)(f:H8 h tk d)(Kf:tk<lo)(e:TG tk d h h1):Zg lo h1 v l:=⟨Sl.tg a.sl f λb off len cap z ex g h0=>by have:=a.beh b _ _ _ z _ g h0;omega e,a.beh,λc h2=>(a.ok c h2).tg f Kf e⟩
def Zg.By{lo}{h h1}{v}{l}(a:Zg lo h v l)(e:Bi h h1):Zg lo h1 v l:=⟨Sl.By a.sl e,a.beh,λc h2=>(a.ok c h2).By e⟩
def Zg.mono{lo b}{h}{v}{l}(a:Zg lo h v l)(e:b<=lo):Zg b h v l:=⟨a.sl,a.beh.mono e,λc h2=>⟨(a.ok c h2).Mu,(a.ok c h2).words,(a.ok c h2).beh.mono e,(a.ok c h2).one,(a.ok c h2).cell⟩⟩
def Cls.slice{lo}{h}{v}{l}(a:Cls lo h v l):Zg lo h v l:=⟨a.own.sl,W7.own a.own,a.ok⟩
def Px(c:Aaw):=(c.name,c.a,c.b,c.ws)
def Sub(all:List _) i(A1:List _):=∃sub:List _,sub.Sublist (all.take i)/\A1.map Px=sub.map Px
def Sub.snoc{all A1}{a c}(h:Sub all o.toNat A1)(h0:0<=o)(hi:all[o.toNat]?=some a)(hd:Px c=Px a):Sub all (o+1).toNat (A1++[c]):=by have⟨sub,_,_⟩:=h;rw[show(o+1).toNat=o.toNat+1 by omega];refine⟨sub++[a],?_,by grind⟩;rw[Ga,hi];grind
def Sub.skip{all A1}(h:Sub all o.toNat A1)(h0:0<=o):Sub all (o+1).toNat A1:=by have⟨_,h1,h2⟩:=h;rw[show(o+1).toNat=o.toNat+1 by omega];refine⟨_,h1.trans ?_,h2⟩;grind
abbrev scB(nm:uw)(p:Bool)(m:Int)(cv:AV):AO:=cd [.str nm,.bool p,iI m,cv] 82
def AlS(Fg:R38 Z)(O:R83 Z)(tk:Nat)(y:AV)(L:List Int)(hA:H)(hi:H9 tk y L hA)(n2 lo:Nat)(v3:AV)(all:List Aaw)(R:Zg lo hA v3 all)(W:all.length=5)(E:tk<lo)(Kf:lo<=hA.nx)(t5 t6 t7:AV)(l:Nat)(hb:hA.nx<=l)(nm:uw)(p:Bool)(m Q:Int)(hj:0<=Q)(hj5:Q<5)
 (Qz:∀(n:Nat) (cv:AV) (A1:List Aaw) (hd:H) (f:L2),A1≠[]->A1.length<=5->Sub all 5 A1->l+1<=hd.nx->hd.m.get l=scB nm p m cv->Cls (l+1) hd cv A1->TG tk y hA hd->Ah H0 j (AgE Z N n2 (n+1) (.ptr tk 0) v3 t5 t6 t7 (.ptr l 0) (iI Q) (iI 5) f hd)):
 ∀(k:Nat) (i:Int) (n:Nat) (A1:List Aaw) (cv:AV) (hd:H) (f0:L2),i+(k:Int)=5->0<=i->k<n->(A1.length:Int)<=i->(Q<i->A1≠[])->Sub all i.toNat A1->l+1<=hd.nx->hd.m.get l=scB nm p m cv->Cls (l+1) hd cv A1->TG tk y hA hd->Ah H0 j (AgE Z N n2 n (.ptr tk 0) v3 t5 t6 t7 (.ptr l 0) (iI Q) (iI i) f0 hd)
 |0,i,n,A1,cv,hd,f0,Qd,S,hn,Ox,Hr,w,A,J,r,he=>by
  obtain⟨n1,rfl⟩:=mg n;have h5:i=5:=by omega
  subst h5;exact Qz n1 cv A1 hd f0 (Hr hj5) om w A J r he
 |k+1,i,n,A1,cv,hd,f0,Qd,S,hn,Ox,Hr,w,A,J,r,he=>by
  obtain⟨n1,rfl⟩:=mg n;have ih:=AlS Fg O tk y L hA hi n2 lo v3 all R W E Kf t5 t6 t7 l hb nm p m Q hj hj5 Qz k (i+1) n1;have ht:=hi.at';have B6:=ht.lt;have htb:tk<l:=by omega
  have hT:∀(k:Int) (q:H),TG tk y hA q->k<=9223372036854775807->D6 tk y q (Below k) (Z.call 30 [.ptr tk 0,iI k] q):=λk q e hk=>Fg tk y L k q (hi.tg e).at' (hi.tg e).ints hi.av hi.len hk;have k1:decide (i<5)=true:=dt;have X4:((i.toNat:Nat):Int)=i:=Tb S;have hil:i.toNat<all.length:=by omega
  obtain⟨d,C⟩:∃d,all[i.toNat]?=some d:=⟨_,Yq hil⟩;have T:AbG lo hA d:=R.ok d (Vl C);have hE:∀q,TG tk y hA q->∃b o,(∀g,Gc 4 v3 (iI i) g=.ok (.ptr b o) g)/\(∀g,Bi q g->Ae (some (some 4)) (.ptr b o) g=.ok (.agg (Hx d)) g):=by intro q e;obtain⟨b,o,el⟩:=R0.elem (f:=Hx) (s:=4) (λ_=>rfl) (R.tg ht E e).sl C;have x1:=el.ia;rw[X4]at x1;exact⟨b,o,x1,el.all⟩
  rw[Apk];cases k2:decide (i=Q)
  . (repeat' (first|refine wk ?_|((with_reducible apply M5);exact hT _ _ L5 om;intro vv g P K B qq;(try simp only[C9]at K B);obtain⟨jj,rfl,j0,j1⟩:=qq)|(refine zqq ?_ ?_<;>intro I<;>(try (exfalso;omega)))|fail))
    .have Cs:TG tk y hA g:=L5;have t:=r.tg (he.at B6) om P;have M:g.m.get l=scB nm p m cv:=by rw[B l om om];exact J
     have A8q:l+1<=g.nx:=by omega
     obtain⟨b,o,x1,x2⟩:=hE g Cs;obtain⟨y1,y2⟩:=B2 t.own.sl;have G:=T.tg ht E Cs;obtain⟨z1,z2⟩:=B2 G.words;clear r J A he hE R;(repeat' (first|refine wd ?_|((with_reducible (first|apply Fj|apply zc2));exact O _ _ _ _ d.ws _ (Sl.By G.words M0) G.Mu;intro vv g P K B qq;(first|(have z:=Ai.quiet P;try simp only[C9]at K B z)|(try simp only[C9]at K B));obtain⟨F,rfl,c2,c3,c4,c5⟩:=qq)|(refine zqq ?_ ?_<;>intro I<;>(try (exfalso;omega)))|fail))
     obtain⟨v',h',U,q2,q3,Y,X⟩:=Ahe (lo:=l+1) (h:=Ab ((Ab g).new (cd (Hx ⟨d.name,d.a,d.b,F,d.ws⟩) 100))) (v:=cv) (sv:=.sl g.nx 0 1 1 4 true) (c:=⟨d.name,d.a,d.b,F,d.ws⟩) (t.gr Ex) ⟨G.Mu,Sl.By c2 M0,c3.mono mh,c4,c5⟩ (Sl.lit (h:=g) (Bf (h:=Ab g) _) rfl rfl) om Ce rfl;refine Ey U ?_;simp only[C9]at q3;have u:h'.m.get l=scB nm p m cv:=by rw[Y l om];exact N4
     have e3:TG tk y hA h':=Asp (hy:=Ab ((Ab g).new (cd (Hx ⟨d.name,d.a,d.b,F,d.ws⟩) 100))) L5 om mh Y X;clear U M;obtain⟨y3,y4⟩:=B2 q2.own.sl;repeat' (first|with_reducible (first|apply A7|apply A8|apply A9|apply Ba)|(with_reducible (first|apply Cy|apply Cz|apply C0|apply C1);(conv=>lhs;simp(disch:=first|exact dA|fail) [lw, *,u]);with_reducible (first|apply A7|apply A8|apply A9|apply Ba|apply Cu|(refine Cv (by simp) ?_)|(apply Cw<;>intro I<;>(try simp only[Bt]at I)<;>(try (exfalso;omega)))))|(with_reducible (first|apply C2|apply C3)<;>intro I<;>(try simp only[Bt]at I)<;>(try (exfalso;omega))))
     refine Pu tk hA.nx ?_ λAal Wp=>?_
     .simp only[Tl,Ww,Pl,G4,Jj];repeat' (refine And.intro ?_ ?_)
      all_goals first|(left;exact z)|(left;simp;done)|(refine .inr ⟨λx q=>.inr ?_,?_⟩;(focus first|(have hz:=X x (D4 _ _ _ q).1;omega)|(have hz:=(D4 _ _ _ q).1;simp at hz;omega));(repeat' (refine And.intro ?_ ?_));all_goals first|(exact Ar ..)|(refine Ax _ _ _ _ _ _ _ _ _ _ _ _ ?_;decide)|exact Ci ..)
     .rw[Ajg];refine wk ?_;refine ih (A1++[⟨d.name,d.a,d.b,F,d.ws⟩]) v' _ _ om om om (by rw[Xi];simp;omega) (λ_=>by simp) (w.snoc S C rfl) Ce N4 (((q2.gr (Ai.refl _).nl).put (by simp) om (by show Vu 4 (h'.m.get l)=true;rw[u];rfl)).rl) L5
    .rw[Ajg];refine wk ?_;exact ih A1 cv _ _ om om om om (λhji=>Hr (by have:=bh k2;omega)) (w.skip S) Ce (by rw[B l om om];exact J) (r.tg (he.at B6) om P) L5
  .have Cs:=he;have t:=r;have M:=J;have A8q:=A;obtain⟨b,o,x1,x2⟩:=hE hd Cs;obtain⟨y1,y2⟩:=B2 t.own.sl;have G:=T.tg ht E Cs;obtain⟨z1,z2⟩:=B2 G.words;clear r J A he hE R;(repeat' (first|refine wd ?_|((with_reducible (first|apply Fj|apply zc2));exact O _ _ _ _ d.ws _ (Sl.By G.words M0) G.Mu;intro vv g P K B qq;(first|(have z:=Ai.quiet P;try simp only[C9]at K B z)|(try simp only[C9]at K B));obtain⟨F,rfl,c2,c3,c4,c5⟩:=qq)));obtain⟨v',h',U,q2,q3,Y,X⟩:=Ahe (lo:=l+1) (h:=Ab ((Ab g).new (cd (Hx ⟨d.name,d.a,d.b,F,d.ws⟩) 100))) (v:=cv) (sv:=.sl g.nx 0 1 1 4 true) (c:=⟨d.name,d.a,d.b,F,d.ws⟩) (t.gr Ex) ⟨G.Mu,Sl.By c2 M0,c3.mono mh,c4,c5⟩ (Sl.lit (h:=g) (Bf (h:=Ab g) _) rfl rfl) om Ce rfl;refine Ey U ?_;simp only[C9]at q3;have u:h'.m.get l=scB nm p m cv:=by rw[Y l om];exact N4
   have e3:TG tk y hA h':=Asp (hy:=Ab ((Ab g).new (cd (Hx ⟨d.name,d.a,d.b,F,d.ws⟩) 100))) L5 om mh Y X;clear U M;obtain⟨y3,y4⟩:=B2 q2.own.sl;repeat' (first|with_reducible (first|apply A7|apply A8|apply A9|apply Ba)|(with_reducible (first|apply Cy|apply Cz|apply C0|apply C1);(conv=>lhs;simp(disch:=first|exact dA|fail) [lw, *,u]);with_reducible (first|apply A7|apply A8|apply A9|apply Ba|apply Cu|(refine Cv (by simp) ?_)|(apply Cw<;>intro I<;>(try simp only[Bt]at I)<;>(try (exfalso;omega)))))|(with_reducible (first|apply C2|apply C3)<;>intro I<;>(try simp only[Bt]at I)<;>(try (exfalso;omega))))
   refine Pu tk hA.nx ?_ λAal Wp=>?_
   .simp only[Tl,Ww,Pl,G4,Jj];repeat' (refine And.intro ?_ ?_)
    all_goals first|(left;exact z)|(left;simp;done)|(refine .inr ⟨λx q=>.inr ?_,?_⟩;(focus first|(have hz:=X x (D4 _ _ _ q).1;omega)|(have hz:=(D4 _ _ _ q).1;simp at hz;omega));(repeat' (refine And.intro ?_ ?_));all_goals first|(exact Ar ..)|(refine Ax _ _ _ _ _ _ _ _ _ _ _ _ ?_;decide)|exact Ci ..)
   .rw[Ajg];refine wk ?_;refine ih (A1++[⟨d.name,d.a,d.b,F,d.ws⟩]) v' _ _ om om om (by rw[Xi];simp;omega) (λ_=>by simp) (w.snoc S C rfl) Ce N4 (((q2.gr (Ai.refl _).nl).put (by simp) om (by show Vu 4 (h'.m.get l)=true;rw[u];rfl)).rl) L5
end Go.Proofs
namespace Go.Proofs
open Go Go.Ev Go.Ev.Sx
open Go.Nm
variable {j:AV->H->Prop}
def Aps{s len a bytes lo:Nat}{et:TypeId}{h h':H}{x y v:AV}{c e:uz}(u:Fm s lo et h x len c)(f:Hd h s y=some (a,e))(i:e.length=a*s)(hb:(len+a)*(bytes+1)<1000000000000)(h1:Bm e=true)(d:Ds et s bytes x y h=.ok v h'):
 ∀j,j<h.nx->B5 (h'.m.get j)=B5 (h.m.get j):=by
 rcases u with⟨rfl,rfl,rfl⟩|⟨rfl,rfl,b,off,cs,rfl,h2,z⟩|⟨b,k,st,rfl,l,t,K,J,G,F,L,p⟩;. obtain⟨v2,h2,p1,_,_,_,o⟩:=Fm.AbQ (bytes:=bytes) (Fm.nil s h.nx et h) f i hb h1 (Ye _);simp_all
 .obtain⟨v2,E,p1,_,_,_,o⟩:=Fm.AbQ (bytes:=bytes) (et:=et) (lo:=h.nx) (s:=s) (h:=h) (x:=.sl b off 0 0 s true) (len:=0) (c:=[]) (.inr (.inl ⟨rfl,rfl,b,off,cs,rfl,h2,z⟩)) f i hb h1 (Ye _);grind
 .have w:Ds et s bytes (.sl b 0 len len s false) y h=(match Hd h s y with
   |some (n,new)=>C6 (.bad 121) (C6 (.bad 121) (C6 (.bad 121) (Lg ⟨et,s,bytes⟩ b 0 len len s false n new h) (Nat.beq s s)) (Bm new)) (Gj ((len+n)*(bytes+1)))
   |none=>.bad 123):=rfl;rw[w,f]at d;simp only[h1,Fi,Ws hb,P3]at d;by_cases h0:a=0
  .subst h0;have r:e=[]:=T5.1 om;subst r;have I:(C6 (.bad 121) (C6 (.bad 121) (C6 (.bad 121) (Lg ⟨et,s,bytes⟩ b 0 len len s false 0 [] h) true) true) true:OR)=.ok (.sl b 0 (len+0) len s false) h:=by show(C6 _ _ (Nat.ble (Nat.add len 0) len):OR)=_;rw[show Nat.ble (Nat.add len 0) len=true from br (Ye _)];rfl
   simp_all
  .have q:Nat.ble (Nat.add len a) len=false:=by cases A:Nat.ble (Nat.add len a) len with
    |false=>rfl
    |true=>have:len+a<=len:=Ew A;omega
   have B:(C6 (.bad 121) (C6 (.bad 121) (C6 (.bad 121) (Lg ⟨et,s,bytes⟩ b 0 len len s false a e h) true) true) true:OR)=.ok (.sl h.nx 0 (len+a) (len+a) s false) (((h.put b (.cells c et (.Cf k st))).put k (.Fb st)).new (.cells (c++e) et (.Gt k))):=by show(C6 _ _ (Nat.ble (Nat.add len a) len):OR)=_;rw[q];show Ny ⟨et,s,bytes⟩ b 0 len (Nat.add len a) e h=_;unfold Ny;rw[l];simp only[t,Sn,E5,p,Rx,Ye,Jr,Gh,P3,Dl];rfl
   rw[B]at d;cases d;intro j hj;rw[Cq (h:=(h.put b (.cells c et (.Cf k st))).put k (.Fb st)) _ j (by show j≠h.nx;omega)];by_cases C:j=k;. simp[*]
   .rw[Aq _ _ _ C];by_cases g:j=b;. subst g;rw[A2,l];rfl
    .rw[Aq _ _ _ g]
def Abj(h:H)(v:AV):=∀b off len cap z ex,v=.sl b off len cap z ex->0<len->b<h.nx/\∀k,B5 (h.m.get b)=some k->k<h.nx
def Abj.own{s lo len}{et}{h}{v}{c}(f:Fm s lo et h v len c):Abj h v:=by
 intro b off q cap z ex e h0;rcases f with⟨_,_,a⟩|⟨_,_,i,o,cs,a,_⟩|⟨i,k,st,a,j,r,m,u,g,n,p,l⟩;. grind
 .simp_all
 .rw[a]at e;cases e;refine⟨g,λt d=>?_⟩;rw[j]at d;cases d;grind
def Abj.N3{h h1}{v}(c:Abj h v)(hn:h.nx<=h1.nx)(d:∀b,b<h.nx->B5 (h1.m.get b)=B5 (h.m.get b)):Abj h1 v:=λb off len cap z ex a h0=>by have⟨_,_⟩:=c b _ _ _ z _ a h0;grind
def Abj.tg{h h1}{v c}{tk}(f:Abj h v)(d:H8 h tk c)(e:TG tk c h h1):Abj h1 v:=f.N3 e.lo λb hb=>by
 by_cases a:b=tk;. subst a;have⟨m,_,h2⟩:=d.cell;have⟨_,_,g⟩:=(e.at d.lt).cell;rw[h2,g];rfl
 .rw[e.Cf b hb a]
attribute [local irreducible] Aa Al Af Ad
variable (Z:Ac)(N:Nat)
structure Abn where
 name:List Nat
 pub:Bool
 many:Int
 cv:AV
 A1:List Aaw
abbrev Ze(s:Abn):=[.str s.name,.bool s.pub,iI s.many,s.cv]
def ScV all(s:Abn):=(s.pub=false/\1<=s.many/\s.many<=4\/s.pub=true/\s.many=0)/\Sub all 5 s.A1
def SsV(d:List _):=∃all:List _,all.map Aaw.name=N1/\(∀c∈all,AdD c.a c.b c.ws)/\d.map Abn.name=R2.take d.length/\∀s∈d,ScV all s
structure AbM(lo:Nat)(h:H)(s:Abn):Prop where
 nn:s.name≠[]
 ne:s.A1≠[]
 Mu:s.A1.length<=5
 A1:Zg lo h s.cv s.A1
 one:Ge s.cv=true
 cell:cellsOf s.cv=some [s.cv]
 kz:Abj h s.cv
def AbM.By{lo}{h h1}{s}(a:AbM lo h s)(e:Bi h h1)(c:∀b,b<h.nx->B5 (h1.m.get b)=B5 (h.m.get b)):AbM lo h1 s:=⟨a.nn,a.ne,a.Mu,a.A1.By e,a.one,a.cell,a.kz.N3 e.lo c⟩
def AbM.gr{lo}{h h1}{s}(a:AbM lo h s)(e:Ai h h1):AbM lo h1 s:=a.By e.keeps λb hb=>by rw[e.Cf b hb]
def AbM.tg{lo tk}{h h1}{s}{b}(a:AbM lo h s)(c:H8 h tk b)(Kf:tk<lo)(e:TG tk b h h1):AbM lo h1 s:=⟨a.nn,a.ne,a.Mu,a.A1.tg c Kf e,a.one,a.cell,a.kz.tg c e⟩
structure Scs(lo:Nat)(h:H)(v:AV)(l:List Abn):Prop where
 own:Fm 4 lo 82 h v l.length (l.flatMap Ze)
 ok:∀s∈l,AbM lo h s
def Scs.tg{lo tk}{h h1}{v a}{l}(b:Scs lo h v l)(d:H8 h tk a)(Kf:tk<lo)(e:TG tk a h h1):Scs lo h1 v l:=⟨Fm.tg b.own d Kf e,λc h2=>(b.ok c h2).tg d Kf e⟩
def Scs.nil lo h:Scs lo h .Bv []:=⟨Fm.nil ..,λc h2=>by grind⟩
def AuM{lo}{h}{v}{l}(b:Scs lo h v l) s(d:AbM lo h s)(m:l.length<=1000)(Kf:lo<=h.nx):
 ∃v' h',Ds 82 4 56 v (.sl h.nx 0 1 1 4 true) (h.new (cd (Ze s) 82))=.ok v' h'/\Scs lo h' v' (l++[s])/\(∀h0,h0.nx<=lo->Ai h0 h->Ai h0 h')/\Bi h h':=by
 have e:Ai h (h.new (cd (Ze s) 82)):=(Ai.refl h).new _;have j:Sl 4 (h.new (.cells (Ze s) 82 _)) _ 1 _:=Sl.lit (Bf _) rfl rfl;have f:Bm (Ze s)=true:=by simp[d.one]
 have⟨_,_,i,c,k,_,_⟩:=Fm.AbQ (bytes:=56) (b.own.gr e) j.src rfl om f (by show lo<=h.nx+1;omega);refine⟨_,_,i,⟨?_,λx a=>?_⟩,λh0 a1 a2=>k _ a1 (a2.new _),e.keeps.trans c⟩;. grind
 .have g:=Aps (b.own.gr e) j.src rfl om f i;rcases T2.1 a with a|a;. exact((b.ok x a).gr e).By c g
  .rw[T0.1 a];exact(d.gr e).By c g
def AlR(Fg:R38 Z)(I:R82 Z)(F:R83 Z)(hN:100<N)(tk:Nat)(d:AV)(L:List Int)(h:H)(hi:H9 tk d L h)(v3:AV)(all:List Aaw)(t:all.length=5)(many:Int)(Y:1<=many)(hm:many<=3)
 (hQ:∀(v:AV) (l:List Abn) (a:H),l≠[]->l.length<=3->(∀s∈l,ScV all s)->l.map Abn.name=R2.take l.length->Scs h.nx a v l->TG tk d h a->j v a):
 ∀(k:Nat) (i:Int) (n:Nat) (l:List Abn) (v:AV) (hd:H) (f0:L2),i+(k:Int)=many->0<=i->k<n->(l.length:Int)=i->(∀s∈l,ScV all s)->l.map Abn.name=R2.take l.length->Scs h.nx hd v l->Zg h.nx hd v3 all->TG tk d h hd->Ah H0 j (Alo Z N n (.ptr tk 0) v3 (iI many) v (iI i) f0 hd)
 |0,i,n,l,v,hd,f0,Qd,H4,hn,hl,u,w,hv,O,he=>by
  obtain⟨n1,rfl⟩:=mg n;have E:decide (i<many)=false:=df;rw[Apj];repeat' (first|with_reducible (first|apply A7|apply A8|apply A9|apply Ba)|(with_reducible (first|apply Cy|apply Cz|apply C0|apply C1);(conv=>lhs;simp(disch:=first|exact dA|fail) [lw, *,E]);with_reducible (first|apply A7|apply A8|apply A9|apply Ba|apply Cu|(refine Cv (by simp) ?_)|(apply Cw<;>intro a<;>(try simp only[Bt]at a)<;>(try (exfalso;omega)))))|(with_reducible (first|apply C2|apply C3)<;>intro a<;>(try simp only[Bt]at a)<;>(try (exfalso;omega))))
  exact zr (Ed _) (hQ v l hd (by intro Q;subst Q;simp at hl;omega) om u w hv he)
 |k+1,i,n,l,v,hd,f0,Qd,H4,hn,hl,u,w,hv,O,he=>by
  obtain⟨n1,rfl⟩:=mg n;have ih:=AlR Fg I F hN tk d L h hi v3 all t many Y hm hQ k (i+1) n1;have ht:=hi.at';have B6:=ht.lt;have A:=he.at B6;have y:H9 tk d L hd:=hi.tg he;have Kf:=he.lo;have BeC:tk<hd.nx:=A.lt;have U:∀(k:Int) (c:H),TG tk d hd c->k<=9223372036854775807->D6 tk d c (Below k) (Z.call 30 [.ptr tk 0,iI k] c):=λk c e hk=>Fg tk d L k c (y.tg e).at' (y.tg e).ints hi.av hi.len hk;have E:decide (i<many)=true:=dt;have X4:((i.toNat:Nat):Int)=i:=Tb H4;rw[Apj];repeat' (first|with_reducible (first|apply A7|apply A8|apply A9|apply Ba)|((with_reducible (first|apply Fj|apply zc2));exact I _ _;intro vv Q J r g z;(first|(have eqt:=Ai.quiet J;try simp only[C9]at r g eqt)|(try simp only[C9]at r g));obtain⟨ws,wn,R,wb,w1,w2,wne,wcl⟩:=z)|(with_reducible (first|apply Cy|apply Cz|apply C0|apply C1);(conv=>lhs;simp(disch:=first|exact dA|fail) [lw, *,E]);with_reducible (first|apply A7|apply A8|apply A9|apply Ba|apply Cu|(refine Cv (by simp) ?_)|(apply Cw<;>intro a<;>(try simp only[Bt]at a)<;>(try (exfalso;omega)))))|(with_reducible (first|apply Kl);(conv=>lhs;simp only[zw,E]))|(with_reducible (first|apply C2|apply C3)<;>intro a<;>(try simp only[Bt]at a)<;>(try (exfalso;omega)))|(refine B8 ?_ ?_;(focus (simp(disch:=first|decide|omega|(simp only[C9];omega)) [Aw,Am,Ar,Ax, *];done));(try simp(disch:=first|exact Ce|fail) only[Aw,Am,Bx,Ap,At,T3,Ia,B9,Dp,Dn,C9,Ca, *])))
  have S:ws.length=4:=by rw[wn];rfl
  obtain⟨nm,q⟩:∃nm,ws[i.toNat]?=some nm:=⟨_,Yq om⟩;have Zo:nm≠[]:=wne nm (Vl q);have hn0:R2[l.length]?=some nm:=by rw[show l.length=i.toNat by omega,<- q,wn];rfl
  obtain⟨b,o,el⟩:=R0.elem (f:=Aeb) (s:=1) (λ_=>rfl) R q;have x1:=el.ia;rw[X4]at x1;have x2:=el.part 0 _ rfl;rw[Vw]at x2;obtain⟨off,cap,ex,C⟩:=Acg R om el;have hbt:b≠tk:=by have:=wb b off 4 cap 1 ex (S ▸ C) om;simp only[C9]at this;omega
  have P:=wcl b off _ cap 1 ex C;clear R el wn q C;repeat' (first|with_reducible (first|apply A7|apply A8|apply A9|apply Ba)|((with_reducible apply M5);exact U _ _ L5 om;intro vv Q J r g z;(try simp only[C9]at r g);obtain⟨W,rfl,j0,j1⟩:=z)|(with_reducible (first|apply Cy|apply Cz|apply C0|apply C1);(conv=>lhs;simp(disch:=first|exact dA|fail) [lw, *,E,x1,x2]);with_reducible (first|apply A7|apply A8|apply A9|apply Ba|apply Cu|(refine Cv (by simp) ?_)|(apply Cw<;>intro a<;>(try simp only[Bt]at a)<;>(try (exfalso;omega)))))|(with_reducible (first|apply Kl);(conv=>lhs;simp only[zw,E]))|(with_reducible (first|apply C2|apply C3)<;>intro a<;>(try simp only[Bt]at a)<;>(try (exfalso;omega)))|(refine B8 ?_ ?_;(focus (simp(disch:=first|decide|omega|(simp only[C9];omega)) [Aw,Am,Ar,Ax, *];done));(try simp(disch:=first|exact Ce|fail) only[Aw,Am,Bx,Ap,At,T3,Ia,B9,Dp,Dn,C9,Ca, *])))
  refine Pu tk hd.nx ?_ λAal Wp=>?_
  .simp only[Tl,Ww,Pl,G4,Jj];repeat' (refine And.intro ?_ ?_)
   all_goals first|(left;exact Ai.quiet (by assumption))|(left;simp;done)|(refine .inr ⟨λx c=>?_,?_⟩;(focus first|exact .inl (TG.wrote (by assumption) x c)|(refine .inr ?_;have hz:=(D4 _ _ _ c).1;simp at hz;omega));(repeat' (refine And.intro ?_ ?_));all_goals first|(exact Ar ..)|(refine Ax _ _ _ _ _ _ _ _ _ _ _ _ ?_;decide)|exact Ci ..|exact Dk (tk:=tk) (TG.wrote (by assumption)) Ce (.inl rfl)|exact Dk (tk:=tk) (TG.wrote (by assumption)) Ce (.inr ⟨_,_,_,rfl,by omega,by simp[P]⟩))
  .generalize K:Be Aal _=hz;have t1:TG tk d hd hz:=by rw[<- K];exact L5
   have g1:hz.m.get Q.nx=scB nm false (1+W) .Bv:=by rw[<- K];exact A2 ..
   have n2:Q.nx+1<=hz.nx:=by rw[<- K];exact Ce
   have hb:hd.nx<=Q.nx:=by omega
   clear K Wp;generalize Q.nx=b8 at *
   have M:∀(p:Bool) (m:Int) (c:H) (f:L2),((p=false/\1<=m/\m<=4)\/(p=true/\m=0))->TG tk d hd c->c.m.get b8=scB nm p m .Bv->b8+1<=c.nx->Ah H0 j (AkZ Z N n1 (.ptr tk 0) v3 (iI many) v (iI i) (.ptr b8 0) f c):=by
    intro p m c f hpm t2 g2 n3;rw[AwS];repeat' (first|with_reducible (first|apply A7|apply A8|apply A9|apply Ba)|((with_reducible apply M5);exact U _ _ L5 om;intro vv Q J r g z;(try simp only[C9]at r g);obtain⟨W,rfl,j0,j1⟩:=z)|(with_reducible (first|apply Cy|apply Cz|apply C0|apply C1);(conv=>lhs;simp(disch:=first|exact dA|fail) [lw, *]);with_reducible (first|apply A7|apply A8|apply A9|apply Ba|apply Cu|(refine Cv (by simp) ?_)|(apply Cw<;>intro a<;>(try simp only[Bt]at a)<;>(try (exfalso;omega)))))|(with_reducible (first|apply C2|apply C3)<;>intro a<;>(try simp only[Bt]at a)<;>(try (exfalso;omega))))
    refine AlS Z N Fg F tk d L hd y n1 h.nx v3 all O t om Kf _ _ _ b8 hb nm p m _ om om ?_ 5 0 N [] .Bv _ _ om om om (by simp) om ⟨[],List.nil_sublist _,rfl⟩ om (by rw[g b8 om om];exact g2) (Cls.nil _ _) L5;intro n cv A1 hy f2 Hr T X hbn hg B Fv;have k5:decide ((5:Int)<5)=false:=rfl;rw[Apk];obtain⟨y1,y2⟩:=B2 B.own.sl;repeat' (first|with_reducible (first|apply A7|apply A8|apply A9|apply Ba)|(with_reducible (first|apply Cy|apply Cz|apply C0|apply C1);(conv=>lhs;simp(disch:=first|exact dA|fail) [lw, *,k5]);with_reducible (first|apply A7|apply A8|apply A9|apply Ba|apply Cu|(refine Cv (by simp) ?_)|(apply Cw<;>intro a<;>(try simp only[Bt]at a)<;>(try (exfalso;omega)))))|(with_reducible (first|apply C2|apply C3)<;>intro a<;>(try simp only[Bt]at a)<;>(try (exfalso;omega))))
    have e4:TG tk d h hy:=TG.trans he Fv;have hl4:=e4.lo;obtain⟨v',h',q1,q2,q3,q4⟩:=AuM (hv.tg A B6 Fv) ⟨nm,p,m,cv,A1⟩ ⟨Zo,Hr,T,B.slice.mono om,y1,y2,Abj.own B.own⟩ om om;refine Ey q1 ?_;have e2:TG tk d h h':=by obtain⟨m,hm,hg⟩:=e4;exact⟨m,hm,q3 _ (Ye _) hg⟩
    clear q1;rw[AwT];repeat' (first|with_reducible (first|apply A7|apply A8|apply A9|apply Ba)|(with_reducible (first|apply Cy|apply Cz|apply C0|apply C1);(conv=>lhs;simp(disch:=first|exact dA|fail) [lw, *]);with_reducible (first|apply A7|apply A8|apply A9|apply Ba|apply Cu|(refine Cv (by simp) ?_)|(apply Cw<;>intro a<;>(try simp only[Bt]at a)<;>(try (exfalso;omega)))))|(with_reducible (first|apply C2|apply C3)<;>intro a<;>(try simp only[Bt]at a)<;>(try (exfalso;omega))));exact ih (l++[⟨nm,p,m,cv,A1⟩]) v' h' _ om om om (by rw[Xi];simp;omega) (λs G=>by rcases T2.1 G with G|G;exact u s G;rw[T0.1 G];exact⟨hpm,X⟩) (by rw[ah,w,Xi];simp only[Y7,Gx,Ga,hn0];rfl) q2 ((O.tg A B6 Fv).By q4) e2
   repeat' (first|with_reducible (first|apply A7|apply A8|apply A9|apply Ba)|((with_reducible apply M5);exact U _ _ L5 om;intro vv Q J r g z;(try simp only[C9]at r g);obtain⟨W,rfl,j0,j1⟩:=z)|(with_reducible (first|apply Cy|apply Cz|apply C0|apply C1);(conv=>lhs;simp(disch:=first|exact dA|fail) [lw, *]);with_reducible (first|apply A7|apply A8|apply A9|apply Ba|apply Cu|(refine Cv (by simp) ?_)|(apply Cw<;>intro a<;>(try simp only[Bt]at a)<;>(try (exfalso;omega)))))|(with_reducible (first|apply C2|apply C3)<;>intro a<;>(try simp only[Bt]at a)<;>(try (exfalso;omega))))
   .exact M _ _ _ _ (.inr ⟨rfl,rfl⟩) L5 (A2 ..) Ce
   .refine M _ _ _ _ ?_ L5 (by rw[g b8 om om];exact g1) Ce;exact .inl ⟨rfl,by omega,by omega⟩
   .refine M _ _ _ _ ?_ t1 g1 n2;exact .inl ⟨rfl,by omega,by omega⟩
open Tryz
def R8 lo r h1:=∃l:List _,l≠[]/\l.length<=3/\Scs lo h1 r l/\SsV l
def R43:=∀tk a L h,H9 tk a L h->D6 tk a h (R8 h.nx) (Z.call 18 [.ptr tk 0] h)
def r43(p:R38 Z)(j:R81 Z)(a:R82 Z)(b:R83 Z)(F:100<N)(tk:Nat)(o:AV)(L:List Int)(h:H)(hi:H9 tk o L h):D6 tk o h (R8 h.nx) (Ay prog Z N false 18 [.ptr tk 0] h):=by
 refine Qk ?_;rw[e43];have m:=hi.at';have q:=m.lt;have t:∀(k:Int) d,TG _ _ h d->k<=9223372036854775807->D6 _ _ _ ..:=λk d e=>
 p _ _ L k _ (hi.tg e).at' (hi.tg e).ints hi.av hi.len;refine AlQ Z N a j _ _ L h hi ?_ 5 0 N _ _ h _ rfl om rfl λc R=>by grind rfl (Cls.nil ..) (TG.refl m);intro n v l hd f B g i C E;rw[Api];(repeat' (first|refine wk ?_|((with_reducible apply M5);exact t _ _ L5 om;rintro P M z K I ⟨u,rfl,j0,J⟩)));exact AlR Z N p a b F _ _ L h hi v l B _ om om (λv' Q d w G y r x A=>⟨A,_,w,G,x,l,i,g,r,y⟩) (1+u).toNat 0 N _ _ _ _ om om om rfl λs O=>by grind rfl (Scs.nil ..) (C.slice.tg (E.at q) q z) L5
def AzQ{a}{h h2}{o}(e:TG h.nx a (h.new o) h2):Ai h h2:=by have⟨m,_,b⟩:=e;exact(((Ai.refl h).new o).put _ _ (Ye _)).trans b
def Sl.av{s len tk}{h}{v}{c}(e:Sl s h v len c)(g:h.nx<=tk):T6 tk v:=by
 intro b off l cap z ex a h0;rcases e with⟨_,_,h1⟩|⟨k,i,j,f,cs,h1,m,d,_⟩;. grind
 .rw[h1]at a;cases a;have:=d.lt;omega
def AkJ{a}{L}{h}(b:Lf h a L)(c:(L.length:Int)<=9223372036854775807):H9 h.nx a L (h.new (tkC a 0)):=
 ⟨⟨Y3 _,0,Int.le_refl _,Bf _⟩,Sl.By b ((Ai.refl h).new _).keeps,Sl.av b (Ye _),c⟩
def Yp{s lo d len}{et}{h}{v}{c}(f:Fm s lo et h v len c)(e:d<=lo):Fm s d et h v len c:=by
 rcases f with a|a|⟨b,k,st,h1,l,j,g,m,i⟩;. exact .inl a
 .exact .inr (.inl a)
 .exact .inr (.inr ⟨b,k,_,h1,l,j,Xy e g,Xy e m,i⟩)
def R15:=∀a L h,Lf h a L->(L.length:Int)<=9223372036854775807->Ah h (R8 h.nx) (Z.call 6 [a] h)
def r15(a:R43 Z) vl L h(b:Lf h vl L)(f:(L.length:Int)<=9223372036854775807):Ah h (R8 h.nx) (Ay prog Z N false 6 [vl] h):=by rw[e15];have⟨_,_⟩:=B2 b;refine wk ?_;have⟨v,_,g,k,l,i,e,c,d⟩:=AeX (a _ _ L _ (AkJ b f));refine Ey g (zr (AzQ k) ⟨l,i,e,⟨Yp c.own (Pc _),λs j=>?_⟩,d⟩);have:=c.ok s j;exact⟨this.nn,this.ne,this.Mu,this.A1.mono (Pc _),this.one,this.cell,this.kz⟩
structure ClR(tk:Nat)(h:H)(c:Aaw):Prop where
 Mu:c.ws.length<=5
 words:Ig h c.w c.ws
 av:T6 tk c.w
 one:Ge c.w=true
 cell:cellsOf c.w=some [c.w]
structure Hu(tk:Nat)(h:H)(v:AV)(l:List Aaw):Prop where
 sl:R0 4 Hx h v l
 av:T6 tk v
 ok:∀c∈l,ClR tk h c
structure ScR(tk:Nat)(h:H)(s:Abn):Prop where
 nn:s.name≠[]
 ne:s.A1≠[]
 Mu:s.A1.length<=5
 A1:Hu tk h s.cv s.A1
 one:Ge s.cv=true
 cell:cellsOf s.cv=some [s.cv]
 cz:∀b off len cap z ex,s.cv=.sl b off len cap z ex->0<len->b<tk/\∀k,B5 (h.m.get b)=some k->k<tk
structure W9(tk:Nat)(h:H)(v:AV)(l:List Abn):Prop where
 ne:l≠[]
 Mu:l.length<=3
 sl:R0 4 Ze h v l
 av:T6 tk v
 ok:∀s∈l,ScR tk h s
def ClR.By{tk}{h h1}{c}(a:ClR tk h c)(e:Bi h h1):ClR tk h1 c:=⟨a.Mu,Sl.By a.words e,a.av,a.one,a.cell⟩
def ClR.tg{tk}{h h1}{c}{b}(a:ClR tk h c)(d:H8 h tk b)(e:TG tk b h h1):ClR tk h1 c:=⟨a.Mu,Sl.tg a.words d a.av e,a.av,a.one,a.cell⟩
def Hu.By{tk}{h h1}{v}{l}(a:Hu tk h v l)(e:Bi h h1):Hu tk h1 v l:=⟨Sl.By a.sl e,a.av,λc b=>(a.ok c b).By e⟩
def Hu.tg{tk}{h h1}{v b}{l}(a:Hu tk h v l)(d:H8 h tk b)(e:TG tk b h h1):Hu tk h1 v l:=⟨Sl.tg a.sl d a.av e,a.av,λc f=>(a.ok c f).tg d e⟩
def Ail{tk}{h}:∀{l:List _},(∀c∈l,ClR tk h c)->Bm (l.flatMap Hx)=true
|[],_=>rfl
|c::l,a=>by have d:=Ail λx b=>a x (Wr _ b);have h1:=(a c Wm ..).one;simp[*]
def Ab1(a:List _) nm:=(a.filter λs=>decide (s.name=nm)).flatMap Abn.A1
def Ank{a:List _}{s}{i:Int} nm(h0:0<=i)(h:a[i.toNat]?=some s):Ab1 (a.take (i+1).toNat) nm=Ab1 (a.take i.toNat) nm++if s.name=nm then s.A1 else[]:=by rw[show(i+1).toNat=i.toNat+1 by omega,Ga,h];by_cases e:s.name=nm<;>simp[Ab1,e]
def Ajm{a}(h:∀s∈a,s.name≠[]):Ab1 a []=[]:=by
 have:(a.filter λs=>decide (s.name=[]))=[]:=List.filter_eq_nil_iff.2 λs b=>by simp[*]
 unfold Ab1;grind
def AoL ss t o lo r h1:=∃l:List _,l=Ab1 ss t++Ab1 ss o/\l≠[]/\l.length<=30/\Fm 4 lo 100 h1 r l.length (l.flatMap Hx)/\∀c∈l,∃s∈ss,c∈s.A1
def AfL(tk:Nat)(h:H)(sv:AV)(a:List Abn)(e:W9 tk h sv a)(n1:Nat)(G t2 J:AV)(nm:uw)(base:Nat)(hb:base<=15)(l0:List Aaw)
 (Qz:∀(v:AV) (l:List Aaw) (hd:H) (f:L2),l≠[]->l.length<=base+15->l=l0++Ab1 a nm->Fm 4 h.nx 100 hd v l.length (l.flatMap Hx)->(∀c∈l,∃s∈a,c∈s.A1)->Ai h hd->Bi h hd->Ah h j (AoV Z N n1 sv G t2 v J f hd)):
 ∀(k:Nat) (i:Int) (n:Nat) (l:List Aaw) (v:AV) (hd:H) (f0:L2),i+(k:Int)=(a.length:Int)->0<=i->k<n->(l.length:Int)<=base+5*i->l=l0++Ab1 (a.take i.toNat) nm->(l≠[]\/∃(m:Nat) (s:Abn),i<=(m:Int)/\a[m]?=some s/\s.name=nm)->Fm 4 h.nx 100 hd v l.length (l.flatMap Hx)->(∀c∈l,∃s∈a,c∈s.A1)->Ai h hd->Bi h hd->Ah h j (All Z N n1 n sv G t2 v J (.str nm) (iI i) f0 hd)
 |0,i,n,l,v,hd,f0,X,C,hn,T,d,r,y,hm,u,q=>by
  obtain⟨n2,rfl⟩:=mg n;have M:decide (i<(a.length:Int))=false:=df;have x:∀z,Fo sv z=.ok (iI (a.length:Int)) z:=λ_=>e.sl.Gs;have P:l≠[]:=by
   rcases r with r|⟨m,s,E,B,F⟩
   .exact r
   .have:=(Xh.1 B).1;omega
  have I:=e.Mu;rw[Apg];refine wk ?_;exact Qz v l hd _ P om (by rw[d,R4 om]) y hm u q
 |k+1,i,n,l,v,hd,f0,X,C,hn,T,d,r,y,hm,u,q=>by
  obtain⟨n2,rfl⟩:=mg n;have L:=AfL tk h sv a e n1 G t2 J nm base hb l0 Qz k (i+1) n2;have M:decide (i<(a.length:Int))=true:=dt;have x:∀z,Fo sv z=.ok (iI (a.length:Int)) z:=λ_=>e.sl.Gs;have I:=e.Mu;have U:((i.toNat:Nat):Int)=i:=Tb C;obtain⟨s,g⟩:∃s,a[i.toNat]?=some s:=⟨_,Yq om⟩;have A:=Vl g;have Q:=(e.ok s A);obtain⟨b,o,el⟩:=R0.elem (f:=Ze) (s:=4) (λ_=>rfl) (Sl.By e.sl q) g;have Y:=el.ia;rw[U]at Y;have W:=el.part 0 _ rfl;rw[Vw]at W;have x3:=el.part 3 _ rfl;clear el;rw[Apg];repeat' (first|refine wk ?_|(refine zqq ?_ ?_<;>intro hc<;>(try (exfalso;omega)))|fail)
  .have K:=Sl.By Q.A1.sl q;have R:=Q.Mu;have Kf:=u.lo;obtain⟨v',h',E,B,F,S,q5⟩:=Fm.AbQ (bytes:=56) (lo:=h.nx) y K.src K.Rv om (Ail Q.A1.ok) Kf;refine Ey E ?_;clear E;rw[AoU];refine wk ?_;refine L (l++s.A1) v' h' _ om om om (by rw[Xi];omega) (by rw[Ank nm C g,Xo (by assumption),d,Wq]) (.inl (by have:=Q.ne;simp[this])) ?_ (λc w=>?_) (F h (Ye _) u) (q.trans B);. rw[Xi,V5];exact S
   .rcases T2.1 w with w|w;. exact hm c w
    .exact⟨s,A,w⟩
  .have p:¬ s.name=nm:=by assumption
   rw[AoU];refine wk ?_;refine L l v hd _ om om om om (by rw[Ank nm C g,X2 p,F0];exact d) ?_ y hm u q;grind
  .have p:nm=[]:=by assumption
   subst p;have O:Ab1 (a.take i.toNat) []=[]:=Ajm λs t=>(e.ok s (ax t)).nn;refine Qz v l hd _ ?_ om (by rw[d,O,Ajm λs t=>(e.ok s t).nn]) y hm u q;rcases r with r|⟨m,s2,E,B,F⟩;. exact r
   .exact absurd F (e.ok s2 (Vl B)).nn
def R40:=∀tk a sv t o h,W9 tk h sv a->(∃s∈a,s.name=t)->Ah h (AoL a t o h.nx) (Z.call 32 [sv,.str t,.str o] h)
def r40(q:100<N)(tk:Nat)(a:List Abn)(sv:AV)(t o:uw)(h:H)(g:W9 tk h sv a)(j:∃s∈a,s.name=t):Ah h (AoL a t o h.nx) (ml Z N 32 [sv,.str t,.str o] h):=by
 rw[e40];obtain⟨N1,rfl⟩:∃N1,N=N1+3:=⟨N-3,by omega⟩;have k:=g.Mu;rw[Ajk];(repeat' (first|refine wk ?_|(rw[AoS])));refine AfL Z (N1+3) tk h sv a g (N1+2) _ _ _ t 0 om [] ?_ a.length 0 _ [] .Bv h _ om om om (by simp) rfl ?_ (Fm.nil ..) (λc r=>by grind) (Ai.refl h) (Bi.refl h);. intro v l hd f h1 h2 p b d e i;rw[AoW];refine wk ?_;rw[Ajk];(repeat' (first|refine wk ?_|(rw[AoS])));refine AfL Z (N1+3) tk h sv a g (N1+1) _ _ _ o 15 om l ?_ a.length 0 _ l v hd _ om om om om (by simp[Ab1]) (.inl h1) b d e i;intro v l hd f h1 h2 n b d e i;rw[AoW];refine wk ?_;rw[Ajk];refine wk ?_;exact zr e ⟨l,by grind,h1,h2,b,d⟩
 .obtain⟨s,h1,h2⟩:=j;obtain⟨m,b⟩:=Oh h1;grind
end Go.Proofs
namespace Go.Proofs
open Go Go.Ev Go.Ev.Sx
open Go.Nm
def Wd:Tr->Tr->Prop
|.leaf x,.leaf y=>(x.op=2/\x.n=0)/\y.op=3/\y.n=0
|_,_=>False
def Ty:Bool->Tr->Prop
|b,.leaf x=>b=false/\((x.op=1/\x.Zn=[])\/x.op=2/\x.n=0)
|b,.one o a=>(b=false/\o=7/\Ty false a)\/(b=true/\o=17/\Ty true a)
|b,.two o a c=>(b=false/\(o=4\/o=5\/o=6)/\Ty false a/\Ty false c)\/(b=true/\(9<=o/\o<=14)/\Ty false a/\Ty false c)\/(b=true/\(o=9\/o=10)/\Wd a c)\/(b=true/\(o=15\/o=16)/\Ty true a/\Ty true c)
|b,.three p a c=>b=false/\Ty true p/\Ty false a/\Ty false c
def dbl(o:Int):Int:=if 9<=o then 17 else 7
def Ast{b}{t}(h:Ty b t):dbl t.op=if b then 17 else 7:=by unfold dbl;cases t with
|leaf x=>
 obtain⟨rfl,⟨q,_⟩|q⟩:=h;. rw[X2 (by show ¬ 9<=x.op;omega)];rfl
 .rw[X2 (by show ¬ 9<=x.op;omega)];rfl
|one o a=>
 rcases h with⟨rfl,q,_⟩|⟨rfl,q,_⟩;. rw[X2 (by show ¬ 9<=o;omega)];rfl
 .rw[Xo (by show 9<=o;omega)];rfl
|two o a c=>
 rcases h with⟨rfl,q,_⟩|⟨rfl,q,_⟩|⟨rfl,q,_⟩|⟨rfl,q,_⟩;. rw[X2 (by show ¬ 9<=o;omega)];rfl
 .rw[Xo (by show 9<=o;omega)];rfl
 .rw[Xo (by show 9<=o;omega)];rfl
 .rw[Xo (by show 9<=o;omega)];rfl
|three a c d=>rw[X2 (by show ¬ 9<=8;omega),h.1];rfl
open Tryz
attribute [local irreducible] Aa Al Af Ad
variable (Z:Ac)(N:Nat)
def R79:=∀tk A1 cv (i:Int) h,Hu tk h cv A1->A1.length<=30->0<=i->i<A1.length->Ah h (λr _=>∃b:Bool,r=.bool b/\(i=0->b=true)) (Z.call 76 [cv,iI i] h)
def AqZ(tk:Nat)(A1:List Aaw)(cv:AV)(i:Int)(h:H)(e:Hu tk h cv A1)(w:A1.length<=30)(p:0<=i)(hi:i<(A1.length:Int)):
 ∀(k:Nat) (m:Int) (n:Nat) (hd:H) (f0:L2),m+(k:Int)=i->0<=m->k<n->Ai h hd->Ah h (λr _=>∃b:Bool,r=.bool b/\(i=0->b=true)) (Alp Z N n cv (iI i) (iI m) f0 hd)
 |0,m,n,hd,f0,hm,d,hn,j=>by obtain⟨n1,rfl⟩:=mg n;have t:decide (m<i)=false:=df;rw[Apl];refine wk ?_;exact zr j ⟨true,rfl,λ_=>rfl⟩
 |k+1,m,n,hd,f0,hm,d,hn,j=>by
  obtain⟨n1,rfl⟩:=mg n;have C:=AqZ tk A1 cv i h e w p hi k (m+1) n1;have t:decide (m<i)=true:=dt;have g:((m.toNat:Nat):Int)=m:=Tb d;have x:((i.toNat:Nat):Int)=i:=Tb p;obtain⟨c1,o⟩:∃s,A1[m.toNat]?=some s:=⟨_,Yq om⟩;obtain⟨c2,l⟩:∃s,A1[i.toNat]?=some s:=⟨_,Yq om⟩;have q:=j.keeps;obtain⟨b1,B,c⟩:=R0.elem (f:=Hx) (s:=4) (λ_=>rfl) (Sl.By e.sl q) o;obtain⟨b2,A,a⟩:=R0.elem (f:=Hx) (s:=4) (λ_=>rfl) (Sl.By e.sl q) l;have z:=c.ia;rw[g]at z;have y:=c.part 0 _ rfl;rw[Vw]at y;have v:=a.ia;rw[x]at v;have u:=a.part 0 _ rfl;rw[Vw]at u;clear c a;rw[Apl];repeat' (first|refine wk ?_|(refine zqq ?_ ?_<;>intro e<;>(try rfl))|rfl)
  .exact zr Ex ⟨_,rfl,λh0=>by omega⟩
  grind
def r79(e:100<N) tk A1 cv(i:Int) h(d:Hu tk h cv A1)(a:A1.length<=30)(c:0<=i)(hi:i<A1.length):Ah h (λr _=>∃b:Bool,r=.bool b/\(i=0->b=true)) (ml Z N 76 [cv,iI i] h):=by rw[e79];exact AqZ Z N _ _ _ i h d a c hi i.toNat 0 N h _ om om om (Ai.refl h)
end Go.Proofs
namespace Go.Proofs
open Go Go.Ev Go.Ev.Sx
open Go.Nm
structure Dom where
 Zn:List Nat->Prop
 word:List Nat->List Nat->Prop
variable {D:Dom}
def WdC(D:Dom):Tr->Tr->Prop
|.leaf x,.leaf y=>(x.op=2/\x.n=0/\D.Zn x.Zn)/\y.op=3/\y.n=0/\D.word x.Zn y.Zn
|_,_=>False
def E7(D:Dom):Bool->Tr->Prop
|b,.leaf x=>b=false/\((x.op=1/\x.Zn=[]/\0<=x.n/\x.n<=1000000000)\/x.op=2/\x.n=0/\D.Zn x.Zn)
|b,.one o a=>(b=false/\o=7/\E7 D false a)\/(b=true/\o=17/\E7 D true a)
|b,.two o a c=>(b=false/\(o=4\/o=5\/o=6)/\E7 D false a/\E7 D false c)\/(b=true/\(9<=o/\o<=14)/\E7 D false a/\E7 D false c)\/(b=true/\(o=9\/o=10)/\WdC D a c)\/(b=true/\(o=15\/o=16)/\E7 D true a/\E7 D true c)
|b,.three p a c=>b=false/\E7 D true p/\E7 D false a/\E7 D false c
def Agn:∀{a c},WdC D a c->∃x y,a=.leaf x/\c=.leaf y/\(x.op=2/\x.n=0/\D.Zn x.Zn)/\y.op=3/\y.n=0/\D.word x.Zn y.Zn
|.leaf x,.leaf y,h=>⟨x,y,rfl,rfl,h⟩
|.leaf _,.one ..,h=>h.elim
|.leaf _,.two ..,h=>h.elim
|.leaf _,.three ..,h=>h.elim
|.one ..,_,h=>h.elim
|.two ..,_,h=>h.elim
|.three ..,_,h=>h.elim
def Abt:∀{t} {b},E7 D b t->Ty b t
|.leaf x,b,⟨h,h1⟩=>⟨h,h1.imp (λa=>⟨a.1,a.2.1⟩) λa=>⟨a.1,a.2.1⟩⟩
|.one o a,b,h=>h.imp (λh=>⟨h.1,h.2.1,Abt h.2.2⟩) λh=>⟨h.1,h.2.1,Abt h.2.2⟩
|.two o a c,b,h=>by
 rcases h with⟨h0,h1,h2,d⟩|⟨h0,h1,h2,d⟩|⟨h0,h1,h2⟩|⟨h0,h1,h2,d⟩;. exact .inl ⟨h0,h1,Abt h2,Abt d⟩
 .exact .inr (.inl ⟨h0,h1,Abt h2,Abt d⟩)
 .obtain⟨x,y,rfl,rfl,f,e⟩:=Agn h2;exact .inr (.inr (.inl ⟨h0,h1,⟨f.1,f.2.1⟩,e.1,e.2.1⟩))
 .exact .inr (.inr (.inr ⟨h0,h1,Abt h2,Abt d⟩))
|.three p a c,b,h=>⟨h.1,Abt h.2.1,Abt h.2.2.1,Abt h.2.2.2⟩
def Acz{n}(h:0<=n)(h2:n<=1000000000):E7 D false (num n):=⟨rfl,.inl ⟨rfl,rfl,h,h2⟩⟩
structure Awv where
 Zn:List Nat->Int
 word:List Nat->List Nat->Int
def b2i(b:Bool):Int:=if b then 1 else 0
variable {V:Awv}
attribute [local irreducible] Aa Al Af Ad
variable (Z:Ac)(N:Nat)
def Ahy{s len a bytes b off lo:Nat}{et:TypeId}{h:H}{y:AV}{c d cs:uz}(m:Nv h b cs)(i:off+len*s<=cs.length)(o:(cs.drop off).take (len*s)=c)(j:Hd h s y=some (a,d))(q:d.length=a*s)(hb:(len+a)*(bytes+1)<1000000000000)(h1:Bm d=true)(h0:0<a)(Kf:lo<=h.nx):
 ∃v h',Ds et s bytes (.sl b off len len s true) y h=.ok v h'/\Ai h h'/\Fm s lo et h' v (len+a) (c++d):=by
 have hn:(c++d).length=(len+a)*s:=by grind
 have e:grow h et s (c++d) (len+a)=.ok (.sl (Nat.succ h.nx) 0 (len+a) (len+a) s false) ((h.new (.Fb 0)).new (.cells (c++d) et (.Gt h.nx))):=rfl;have f:Fm s lo et ((h.new (.Fb 0)).new (.cells (c++d) et (.Gt h.nx))) (.sl (Nat.succ h.nx) 0 (len+a) (len+a) s false) (len+a) (c++d):=by refine .inr (.inr ⟨h.nx+1,h.nx,0,rfl,Bf (h:=h.new (.Fb 0)) _,?_,by omega,Kf,by simp,by show h.nx<h.nx+1+1;omega,by omega,hn⟩);rw[Cq (h:=h.new _) _ _ (by simp)];simp
 have l:Ds et s bytes (.sl b off len len s true) y h=match Hd h s y with
  |some (n,new)=>C6 _ ..
  |none=>.bad _:=rfl;have k:Nat.ble (Nat.add len a) len=false:=by cases p:Nat.ble .. with
  |false=>rfl
  |true=>have:len+a<=len:=Ew p;omega
 have g:C6 (.bad 121) (C6 (.bad 121) (C6 (.bad 121) (Lg ⟨et,s,bytes⟩ b off len len s true a d h) true) true) true=grow h et s (c++d) (len+a):=by show C6 _ _ (Nat.ble ..)=_;rw[k];unfold Sf;rw[AaS,m.rd];simp only[E5,i,Jr,Dl,o];rfl
 rw[l,j];simp[h1,Fi,Ws hb,P3];rw[g];exact⟨_,_,e,((Ai.refl h).new _).new _,f⟩
def Oo lo h v l:=NdO lo h v l\/∃b off cs,v=.sl b off l.length l.length 3 true/\Nv h b cs/\off+l.length*3<=cs.length/\(cs.drop off).take (l.length*3)=l.flatMap Bw/\lo<=b
def Oo.sl{lo}{h}{v}{l}(a:Oo lo h v l):Ue h v l:=by
 rcases a with a|⟨b,off,cs,rfl,c,e,d,f⟩;. exact a.sl
 .exact .inr ⟨b,_,_,_,_,rfl,Ye _,c,e,d⟩
def Oo.Y5{lo d}{h}{v}{l}(a:Oo lo h v l)(c:d<=lo):Oo d h v l:=by
 rcases a with a|⟨b,off,cs,rfl,f,i,g,e⟩;. exact .inl (Yp a c)
 .exact .inr ⟨b,_,_,rfl,f,i,g,Xy c e⟩
def Oo.gr{lo}{h h1}{v}{l}(a:Oo lo h v l)(e:Ai h h1):Oo lo h1 v l:=by
 rcases a with a|⟨b,off,cs,rfl,d,g,f,c⟩;. exact .inl (a.gr e)
 .exact .inr ⟨b,_,_,rfl,e.keeps.cont b _ d,g,f,c⟩
def Oo.tg{lo tk}{h h1}{v d}{l}(a:Oo lo h v l)(f:H8 h tk d)(Kf:tk<lo)(e:TG tk d h h1):Oo lo h1 v l:=by
 rcases a with a|⟨b,off,cs,rfl,k,p,o,i⟩;. exact .inl (Fm.tg a f Kf e)
 .rcases Sl.tg (.inr ⟨b,_,_,_,_,rfl,Ye _,k,p,o⟩:Sl 3 h (.sl b _ _ _ 3 true) ..) f λn off len cap z ex a h0=>by grind e with⟨_,_,c⟩|⟨n,q,cap,ex,D7,c,r,g,j,m⟩;. grind
  .cases c;exact .inr ⟨b,_,_,rfl,g,j,m,i⟩
def Oo.one{lo}{h}{v}{l}(a:Oo lo h v l):Ge v=true/\cellsOf v=some [v]:=B2 a.sl
def Ab9:∀l:List _,Bm (l.flatMap Bw)=true:=Tk
def Z8{tk}{f}{h a}{v w}{l m}(d:TG tk f h a)(e:Oo h.nx a v l)(c:Ue a w m)(g:m≠[])(r:l.length+m.length<=1000):
 ∃v' h',Ds 50 3 32 v w a=.ok v' h'/\TG tk f h h'/\Oo h.nx h' v' (l++m)/\a.nx<=h'.nx:=by
 rcases e with e|⟨b,off,cs,rfl,j,p,n,q⟩
 .have⟨_,_,p1,p2,p3,_,_⟩:=Fm.AbQ (bytes:=32) e c.src c.Rv om (Ab9 m) d.lo;refine⟨_,_,p1,?_,.inl ?_,p2.lo⟩;. have⟨k,i,o⟩:=d;exact⟨k,i,p3 _ (Ye _) o⟩
  grind
 .obtain⟨v',h',p1,p2,p3⟩:=Ahy (bytes:=32) j p n c.src c.Rv om (Ab9 m) (Kd.2 g) d.lo;refine⟨_,_,p1,d.gr p2,.inl ?_,p2.lo⟩;grind
def Ut{tk}{b}{h a}{v}{l} x(c:TG tk b h a)(d:Oo h.nx a v l)(e:l.length<=900):
 ∃v' h',Ds 50 3 32 v (.sl a.nx 0 1 1 3 true) (a.new (cd (Bw x) 50))=.ok v' h'/\TG tk b h h'/\Oo h.nx h' v' (l++[x])/\a.nx<=h'.nx:=by obtain⟨v',h',p1,p2,p3,p4⟩:=Z8 (m:=[x]) (c.new _) (d.gr ((Ai.refl _).new _)) (Sl.lit (Bf _) rfl rfl) (by simp) (by grind);exact⟨_,_,p1,p2,p3,Xy (Pc _) p4⟩
def Wl{lo}{h h1:H} l n(hn:n=l.length)(a:h1.m.get h.nx=cd (l.flatMap Bw) 50)(c:h1.nx=h.nx+1)(Kf:lo<=h.nx):Oo lo h1 (.sl h.nx 0 n n 3 true) l:=by subst hn;have b:=Aa9 (f:=Bw) (s:=3) (λ_=>rfl) l;refine .inr ⟨_,0,_,rfl,⟨by omega,_,_,a,trivial⟩,by omega,?_,Kf⟩;grind
def Tf(t:Tr):t.nodes≠[]:=by have h1:=Ao t;have h2:=size_pos t;grind
def wt:Tr->Nat
|.leaf _=>1
|.one _ a=>3*wt a+1
|.two _ a b=>3*max (wt a) (wt b)+1
|.three c a b=>3*max (wt c) (max (wt a) (wt b))+1
def Af3:∀t,size t<=wt t
|.leaf _=>Ye _
|.one _ a=>by have:=Af3 a;simp[size,wt];omega
|.two _ a b=>by have:=Af3 a;have:=Af3 b;simp[size,wt];omega
|.three c a b=>by have:=Af3 a;have:=Af3 b;have:=Af3 c;simp[size,wt];omega
def Se D b sz lo r h1:=∃t:Tr,E7 D b t/\wt t<=sz/\Oo lo h1 r t.nodes
def AaR(l:List Aaw):Dom:=⟨λn=>∃c∈l,c.name=n,λn w=>∃c∈l,c.name=n/\w∈c.ws⟩
def Abo:Nat->Nat
|0=>4
|d+1=>3*Abo d+1
def R80(d:Nat):=∀tk a L cv A1 (m:Int) h,d=m->H9 tk a L h->Hu tk h cv A1->A1≠[]->A1.length<=30->D6 tk a h (Se (AaR A1) false (Abo d) h.nx) (Z.call 77 [.ptr tk 0,cv,iI m] h)
def R41(d:Nat):=∀tk a L cv A1 (m:Int) h,d=m->H9 tk a L h->Hu tk h cv A1->A1≠[]->A1.length<=30->D6 tk a h (Se (AaR A1) true (Abo d) h.nx) (Z.call 33 [.ptr tk 0,cv,iI m] h)
end Go.Proofs
