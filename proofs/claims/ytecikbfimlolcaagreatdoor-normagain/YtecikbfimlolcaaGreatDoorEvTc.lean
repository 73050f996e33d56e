/- Lists of nodes of one's own, written as they are made. -/
import Derived.Test.YtecikbfimlolcaaGreatDoorEvTb
import Derived.Test.YtecikbfimlolcaaGreatDoorEvKh
set_option linter.all false
set_option maxRecDepth 100000
noncomputable section
namespace Go.Proofs
open Go Go.Ev Go.Nm Tryz Go.Ev.Sx
attribute [local irreducible] Aa Al Af Ad
variable {j:List Nd}{J o:AV}{p:H}{C:List Cl}{I:List Sc}{R:Cl}
variable (Z:Ac)(N:Nat)
structure ClR(tk:Nat)(h:H)(c:Cl):Prop where
 Mu:c.ws.length<=5
 words:Ig h c.w c.ws
 av:Av tk c.w
 one:Ge c.w=true
 cell:cellsOf c.w=some [c.w]
structure Hu(tk:Nat)(h:H)(v:AV)(l:List Cl):Prop where
 sl:R0 4 Hx h v l
 av:Av tk v
 ok:∀c∈l,ClR tk h c
structure ScR(tk:Nat)(h:H)(s:Sc):Prop where
 nn:s.name≠[]
 ne:s.A1≠[]
 Mu:s.A1.length<=5
 A1:Hu tk h s.cv s.A1
 one:Ge s.cv=true
 cell:cellsOf s.cv=some [s.cv]
 cz:∀b off len cap z ex,s.cv=.sl b off len cap z ex->0<len->b<tk/\∀k,B5 (h.m.get b)=some k->k<tk
structure W9(tk:Nat)(h:H)(v:AV)(l:List Sc):Prop where
 ne:l≠[]
 Mu:l.length<=3
 sl:R0 4 Ze h v l
 av:Av tk v
 ok:∀s∈l,ScR tk h s
def ClR.By{tk:Nat}{h1:H}(hc:ClR tk p R)(e:Bi p h1):ClR tk h1 R:=⟨hc.Mu,Sl.By hc.words e,hc.av,hc.one,hc.cell⟩
def ClR.tg{tk:Nat}{h1:H}(hc:ClR tk p R)(b:H8 p tk o)(e:TG tk o p h1):ClR tk h1 R:=⟨hc.Mu,Sl.tg hc.words b hc.av e,hc.av,hc.one,hc.cell⟩
def Hu.By{tk:Nat}{h1:H}(hc:Hu tk p o C)(e:Bi p h1):Hu tk h1 o C:=⟨Sl.By hc.sl e,hc.av,λc a=>(hc.ok c a).By e⟩
def Hu.tg{tk:Nat}{h1:H}(hc:Hu tk p o C)(a:H8 p tk J)(e:TG tk J p h1):Hu tk h1 o C:=⟨Sl.tg hc.sl a hc.av e,hc.av,λc d=>(hc.ok c d).tg a e⟩
def Ail{tk:Nat}:∀{l:List Cl},(∀c∈l,ClR tk p c)->Bm (l.flatMap Hx)=true
|[],_=>rfl
|c::l,hc=>by have a:=Ail (l:=l) λx b=>hc x (Vo _ b);have h1:=(hc c (Uq ..)).one;simp[a,h1]
def Ab1(a:List Sc)(nm:List Nat):List Cl:=(a.filter λs=>decide (s.name=nm)).flatMap Sc.A1
def Ank{s:Sc}{i:Int}(nm:List Nat)(h0:0<=i)(h:I[i.toNat]?=some s):Ab1 (I.take (i+1).toNat) nm=Ab1 (I.take i.toNat) nm++(if s.name=nm then s.A1 else[]):=by
 rw[show(i+1).toNat=i.toNat+1 by omega,Ga,h]
 by_cases e:s.name=nm<;>simp[Ab1,e]
def Ajm(h:∀s∈I,s.name≠[]):Ab1 I []=[]:=by
 have:(I.filter λs=>decide (s.name=[]))=[]:=List.filter_eq_nil_iff.2 λs b=>by simp[h s b]
 unfold Ab1;rw[this];rfl
def AoL(a:List Sc)(t o:List Nat)(lo:Nat)(r:AV)(h1:H):Prop:=∃l:List Cl,l=Ab1 a t++Ab1 a o/\l≠[]/\l.length<=30/\Fm 4 lo 96 h1 r l.length (l.flatMap Hx)/\∀c∈l,∃s∈a,c∈s.A1
def AfL{Q:AV->H->Prop}(tk:Nat)(h:H)(sv:AV)(a:List Sc)(g:W9 tk h sv a)(I:Nat)(t1 t2 t8:AV)(nm:List Nat)(base:Nat)(V:base<=15)(l0:List Cl)
 (Qz:∀(v:AV) (l:List Cl) (hd:H) (f:L2),l≠[]->l.length<=base+15->l=l0++Ab1 a nm->Fm 4 h.nx 96 hd v l.length (l.flatMap Hx)->(∀c∈l,∃s∈a,c∈s.A1)->Ai h hd->Bi h hd->Ah h Q (AoV Z N I sv t1 t2 v t8 f hd)):
 ∀(k:Nat) (i:Int) (n:Nat) (l:List Cl) (v:AV) (hd:H) (f0:L2),i+(k:Int)=(a.length:Int)->0<=i->k<n->(l.length:Int)<=base+5*i->l=l0++Ab1 (a.take i.toNat) nm->(l≠[]\/∃(m:Nat) (s:Sc),i<=(m:Int)/\a[m]?=some s/\s.name=nm)->Fm 4 h.nx 96 hd v l.length (l.flatMap Hx)->(∀c∈l,∃s∈a,c∈s.A1)->Ai h hd->Bi h hd->Ah h Q (All Z N I n sv t1 t2 v t8 (.str nm) (iI i) f0 hd)
 |0,i,n,l,v,hd,f0,Y,G,hn,U,e,j,C,hm,y,w=>by
  obtain⟨x,rfl⟩:∃x,n=x+1:=⟨n-1,by omega⟩;have S:decide (i<(a.length:Int))=false:=df;have B:∀A,Fo sv A=.ok (iI (a.length:Int)) A:=λ_=>g.sl.Gs;have R:l≠[]:=by
   rcases j with j|⟨m,s,D,q,t⟩
   .exact j
   .have:=(R4.1 q).1;omega
  have K:=g.Mu;rw[Apg];refine wk ?_;exact Qz v l hd _ R om (by rw[e,Qa om]) C hm y w
 |k+1,i,n,l,v,hd,f0,Y,G,hn,U,e,j,C,hm,y,w=>by
  obtain⟨x,rfl⟩:∃x,n=x+1:=⟨n-1,by omega⟩;have L:=AfL tk h sv a g I t1 t2 t8 nm base V l0 Qz k (i+1) x;have S:decide (i<(a.length:Int))=true:=dt;have B:∀A,Fo sv A=.ok (iI (a.length:Int)) A:=λ_=>g.sl.Gs;have K:=g.Mu;have X:((i.toNat:Nat):Int)=i:=Qy G;obtain⟨s,d⟩:∃s,a[i.toNat]?=some s:=⟨_,Xs om⟩;have z:=Vl d;have p:=(g.ok s z);obtain⟨b,o,F⟩:=R0.elem (f:=Ze) (s:=4) (λ_=>rfl) (Sl.By g.sl w) d;have O:=F.ia;rw[X]at O;have T:=F.part 0 _ rfl;rw[Mz]at T;have x3:=F.part 3 _ rfl;clear F;rw[Apg];repeat' (first|refine wk ?_|(refine zqq ?_ ?_<;>intro hc<;>(try (exfalso;omega)))|fail)
  .have M:=Sl.By p.A1.sl w;have P:=p.Mu;have Kf:=y.lo;obtain⟨v',h',D,q,t,q4,q5⟩:=Fm.AbQ (bytes:=56) (lo:=h.nx) C M.src M.Rv om (Ail p.A1.ok) Kf;refine Ey D ?_;clear D;rw[AoU];refine wk ?_;refine L (l++s.A1) v' h' _ om om om (by rw[X8];omega) (by rw[Ank nm G d,W5 (by assumption),e,Rq]) (.inl (by have:=p.ne;simp[this])) ?_ (λc E=>?_) (t h (Yw _) y) (w.trans q)
   .rw[X8,Qm];exact q4
   .rcases U0.1 E with E|E
    .exact hm c E
    .exact⟨s,z,E⟩
  .have r:¬ s.name=nm:=by assumption
   rw[AoU];refine wk ?_;refine L l v hd _ om om om om (by rw[Ank nm G d,X2 r,F0];exact e) ?_ C hm y w;rcases j with j|⟨m,s2,D,q,t⟩
   .exact .inl j
   .refine .inr ⟨m,s2,?_,q,t⟩;by_cases J:(m:Int)=i
    .subst J;rw[Lm]at d;rw[d]at q;cases q;exact absurd t r
    .omega
  .have r:nm=[]:=by assumption
   subst r;have W:Ab1 (a.take i.toNat) []=[]:=Ajm λs u=>(g.ok s (ax u)).nn;refine Qz v l hd _ ?_ om (by rw[e,W,Ajm λs u=>(g.ok s u).nn]) C hm y w;rcases j with j|⟨m,s2,D,q,t⟩
   .exact j
   .exact absurd t (g.ok s2 (Vl q)).nn
def R40:Prop:=∀(tk:Nat) (a:List Sc) (sv:AV) (t o:List Nat) (h:H),W9 tk h sv a->(∃s∈a,s.name=t)->Ah h (AoL a t o h.nx) (Z.call 40 [sv,.str t,.str o] h)
def r40(p:100<N)(tk:Nat)(a:List Sc)(sv:AV)(t o:List Nat)(h:H)(e:W9 tk h sv a)(j:∃s∈a,s.name=t):Ah h (AoL a t o h.nx) (Ay prog Z N true 40 [sv,.str t,.str o] h):=by
 rw[e40];obtain⟨N1,rfl⟩:∃N1,N=N1+3:=⟨N-3,by omega⟩;have q:=e.Mu;rw[Ajk];(repeat' (first|refine wk ?_|(rw[AoS])));refine AfL Z (N1+3) tk h sv a e (N1+2) _ _ _ t 0 om [] ?_ a.length 0 _ [] .Bv h _ om om om (by simp) rfl ?_ (Fm.nil ..) (λc hc=>by cases hc) (Ai.refl h) (Bi.refl h)
 .intro v l hd f h1 h2 k b g d i;rw[AoW];refine wk ?_;rw[Ajk];(repeat' (first|refine wk ?_|(rw[AoS])));refine AfL Z (N1+3) tk h sv a e (N1+1) _ _ _ o 15 om l ?_ a.length 0 _ l v hd _ om om om om (by simp[Ab1]) (.inl h1) b g d i;intro v l hd f h1 h2 n b g d i;rw[AoW];refine wk ?_;rw[Ajk];refine wk ?_;exact zr d ⟨l,by rw[n,k];rfl,h1,h2,b,g⟩
 .obtain⟨s,h1,h2⟩:=j;obtain⟨m,b⟩:=List.getElem?_of_mem h1;exact .inr ⟨m,s,by omega,b,h2⟩
def R79:Prop:=∀(tk:Nat) (A1:List Cl) (cv:AV) (i:Int) (h:H),Hu tk h cv A1->A1.length<=30->0<=i->i<(A1.length:Int)->Ah h (λr _=>∃b:Bool,r=.bool b/\(i=0->b=true)) (Z.call 79 [cv,iI i] h)
def AqZ(tk:Nat)(A1:List Cl)(cv:AV)(i:Int)(h:H)(hc:Hu tk h cv A1)(x:A1.length<=30)(q:0<=i)(hi:i<(A1.length:Int)):
 ∀(k:Nat) (m:Int) (n:Nat) (hd:H) (f0:L2),m+(k:Int)=i->0<=m->k<n->Ai h hd->Ah h (λr _=>∃b:Bool,r=.bool b/\(i=0->b=true)) (Alp Z N n cv (iI i) (iI m) f0 hd)
 |0,m,n,hd,f0,hm,e,hn,l=>by obtain⟨d,rfl⟩:∃d,n=d+1:=⟨n-1,by omega⟩;have v:decide (m<i)=false:=df;rw[Apl];refine wk ?_;exact zr l ⟨true,rfl,λ_=>rfl⟩
 |k+1,m,n,hd,f0,hm,e,hn,l=>by
  obtain⟨d,rfl⟩:∃d,n=d+1:=⟨n-1,by omega⟩;have t:=AqZ tk A1 cv i h hc x q hi k (m+1) d;have v:decide (m<i)=true:=dt;have o:((m.toNat:Nat):Int)=m:=Qy e;have y:((i.toNat:Nat):Int)=i:=Qy q;obtain⟨c1,j⟩:∃s,A1[m.toNat]?=some s:=⟨_,Xs om⟩;obtain⟨c2,g⟩:∃s,A1[i.toNat]?=some s:=⟨_,Xs om⟩;have p:=l.keeps;obtain⟨b1,C,a⟩:=R0.elem (f:=Hx) (s:=4) (λ_=>rfl) (Sl.By hc.sl p) j;obtain⟨b2,B,c⟩:=R0.elem (f:=Hx) (s:=4) (λ_=>rfl) (Sl.By hc.sl p) g;have u:=a.ia;rw[o]at u;have w:=a.part 0 _ rfl;rw[Mz]at w;have A:=c.ia;rw[y]at A;have z:=c.part 0 _ rfl;rw[Mz]at z;clear a c;rw[Apl];repeat' (first|refine wk ?_|(refine zqq ?_ ?_<;>intro hc<;>(try (exfalso;omega)))|fail)
  .exact zr Ex ⟨false,rfl,λh0=>by omega⟩
  .exact t _ _ om om om Ex
def r79(d:100<N)(tk:Nat)(A1:List Cl)(cv:AV)(i:Int)(h:H)(hc:Hu tk h cv A1)(a:A1.length<=30)(c:0<=i)(hi:i<(A1.length:Int)):Ah h (λr _=>∃b:Bool,r=.bool b/\(i=0->b=true)) (Ay prog Z N true 79 [cv,iI i] h):=by rw[e79];exact AqZ Z N tk A1 cv i h hc a c hi i.toNat 0 N h _ om om om (Ai.refl h)
def Ahy{s len a bytes b off lo:Nat}{et:TypeId}{c d cs:List AV}(q:Nv p b cs)(y:off+len*s<=cs.length)(hc:(cs.drop off).take (len*s)=c)(l:Hd p s o=some (a,d))(j:d.length=a*s)(g:(len+a)*(bytes+1)<1000000000000)(h1:Bm d=true)(h0:0<a)(i:lo<=p.nx):
 ∃v h',Ds et s bytes (.sl b off len len s true) o p=.ok v h'/\Ai p h'/\Fm s lo et h' v (len+a) (c++d):=by
 have hn:(c++d).length=(len+a)*s:=by rw[X8,j,<- hc,Cm,bg,ag];omega
 have f:grow p et s (c++d) (len+a)=.ok (.sl (Nat.succ p.nx) 0 (len+a) (len+a) s false) ((p.new (.Fb 0)).new (.cells (c++d) et (.Gt p.nx))):=rfl;have e:Fm s lo et ((p.new (.Fb 0)).new (.cells (c++d) et (.Gt p.nx))) (.sl (Nat.succ p.nx) 0 (len+a) (len+a) s false) (len+a) (c++d):=by
  refine .inr (.inr ⟨p.nx+1,p.nx,0,rfl,Bf (h:=p.new (.Fb 0)) _,?_,by omega,i,by show p.nx+1<p.nx+1+1;omega,by show p.nx<p.nx+1+1;omega,by omega,hn⟩)
  rw[Cq (h:=p.new (.Fb 0)) _ p.nx (by show p.nx≠p.nx+1;omega)]
  exact Bf _
 have k:Ds et s bytes (.sl b off len len s true) o p=(match Hd p s o with
  |some (n,new)=>C6 (.bad 121) (C6 (.bad 121) (C6 (.bad 121) (Lg ⟨et,s,bytes⟩ b off len len s true n new p) (Nat.beq s s)) (Bm new)) (Gj ((len+n)*(bytes+1)))
  |none=>.bad 123):=rfl
 have r:Nat.ble (Nat.add len a) len=false:=by
  cases h:Nat.ble (Nat.add len a) len with
  |false=>rfl
  |true=>have:len+a<=len:=Ew h;omega
 have m:(C6 (.bad 121) (C6 (.bad 121) (C6 (.bad 121) (Lg ⟨et,s,bytes⟩ b off len len s true a d p) true) true) true:OR)=grow p et s (c++d) (len+a):=by show(C6 _ _ (Nat.ble (Nat.add len a) len):OR)=_;rw[r];show Sf ⟨et,s,bytes⟩ b off len (Nat.add len a) d p=_;unfold Sf;rw[AaS,q.rd];simp only[E5,y,Jr,Dl,hc];rfl
 rw[k,l];simp only[h1,Fi,Ws g,Fe];rw[m];exact⟨_,_,f,((Ai.refl p).new _).new _,e⟩
def Oo(lo:Nat)(h:H)(v:AV)(l:List Nd):Prop:=NdO lo h v l\/∃b off cs,v=.sl b off l.length l.length 3 true/\Nv h b cs/\off+l.length*3<=cs.length/\(cs.drop off).take (l.length*3)=l.flatMap Bw/\lo<=b
def Oo.sl{lo:Nat}(a:Oo lo p o j):Ue p o j:=by
 rcases a with a|⟨b,off,cs,rfl,d,e,c,f⟩
 .exact a.sl
 .exact .inr ⟨b,off,_,true,cs,rfl,Yw _,d,e,c⟩
def Oo.Y5{lo c:Nat}(a:Oo lo p o j)(d:c<=lo):Oo c p o j:=by
 rcases a with a|⟨b,off,cs,rfl,f,g,e,i⟩
 .exact .inl (Yp a d)
 .exact .inr ⟨b,off,cs,rfl,f,g,e,Vr d i⟩
def Oo.gr{lo:Nat}{h1:H}(a:Oo lo p o j)(e:Ai p h1):Oo lo h1 o j:=by
 rcases a with a|⟨b,off,cs,rfl,d,f,c,g⟩
 .exact .inl (a.gr e)
 .exact .inr ⟨b,off,cs,rfl,e.keeps.cont b cs d,f,c,g⟩
def Oo.rl{lo:Nat}{lg:List Nat}(a:Oo lo p o j):Oo lo (Be lg p) o j:=by
 rcases a with(h3|⟨h1,h2,b,off,cs,h4,h5,h6⟩|h3)|⟨b,off,cs,rfl,q1,q2,q3,q4⟩
 .exact .inl (.inl h3)
 .exact .inl (.inr (.inl ⟨h1,h2,b,off,cs,h4,((Bi.refl p).Be lg).cont b cs h5,h6⟩))
 .exact .inl (.inr (.inr h3))
 .exact .inr ⟨b,off,cs,rfl,((Bi.refl p).Be lg).cont b cs q1,q2,q3,q4⟩
def Oo.tg{lo tk:Nat}{h1:H}(a:Oo lo p o j)(f:H8 p tk J)(v:tk<lo)(e:TG tk J p h1):Oo lo h1 o j:=by
 rcases a with a|⟨b,off,cs,rfl,k,n,i,m⟩
 .exact .inl (Fm.tg a f v e)
 .have h:Sl 3 p (.sl b off j.length j.length 3 true) j.length (j.flatMap Bw):=.inr ⟨b,off,_,true,cs,rfl,Yw _,k,n,i⟩;rcases Sl.tg h f (λg off len cap z ex a h0=>by cases a;omega) e with⟨_,_,c⟩|⟨g,s,cap,ex,D7,c,q5,q,r,d⟩
  .cases c
  .cases c;exact .inr ⟨b,off,D7,rfl,q,r,d,m⟩
def Oo.one{lo:Nat}{v:AV}(a:Oo lo p v j):Ge v=true/\cellsOf v=some [v]:=B2 a.sl
def Ab9:∀l:List Nd,Bm (l.flatMap Bw)=true:=Tk
def Z8{tk:Nat}{hc:H}{w:AV}{m:List Nd}(c:TG tk o p hc)(f:Oo p.nx hc J j)(a:Ue hc w m)(q:m≠[])(x:j.length+m.length<=1000):
 ∃v' h',Ds 32 3 32 J w hc=.ok v' h'/\TG tk o p h'/\Oo p.nx h' v' (j++m)/\hc.nx<=h'.nx:=by
 have g:0<m.length:=Kd.2 q;rcases f with f|⟨b,off,cs,rfl,n,r,h,u⟩
 .obtain⟨v',h',e,d,p3,i,t⟩:=Fm.AbQ (bytes:=32) (lo:=p.nx) f a.src a.Rv om (Ab9 m) c.lo;refine⟨v',h',e,?_,.inl ?_,d.lo⟩
  .obtain⟨k,v,s⟩:=c;exact⟨k,v,p3 _ (Yw _) s⟩
  .rw[NdO,X8,Qm];exact i
 .obtain⟨v',h',e,d,p3⟩:=Ahy (bytes:=32) (et:=32) (lo:=p.nx) n r h a.src a.Rv om (Ab9 m) g c.lo;refine⟨v',h',e,c.gr d,.inl ?_,d.lo⟩;rw[NdO,X8,Qm];exact p3
def Ut{tk:Nat}{hc:H}(x:Nd)(c:TG tk o p hc)(f:Oo p.nx hc J j)(g:j.length<=900):
 ∃v' h',Ds 32 3 32 J (.sl hc.nx 0 1 1 3 true) (hc.new (.cells (Bw x) 32 .exact))=.ok v' h'/\TG tk o p h'/\Oo p.nx h' v' (j++[x])/\hc.nx<=h'.nx:=by
 obtain⟨v',h',e,d,p3,b⟩:=Z8 (m:=[x]) (c.new (.cells (Bw x) 32 .exact)) (f.gr ((Ai.refl hc).new _)) (Sl.lit (h:=hc) (Bf _) rfl rfl) (by simp) (by simp;omega);exact⟨v',h',e,d,p3,Vr (Et _) b⟩
def Wl{lo:Nat}{h h1:H}(l:List Nd)(n:Nat)(hn:n=l.length)(a:h1.m.get h.nx=.cells (l.flatMap Bw) 32 .exact)(c:h1.nx=h.nx+1)(b:lo<=h.nx):Oo lo h1 (.sl h.nx 0 n n 3 true) l:=by subst hn;have d:=Aa9 (f:=Bw) (s:=3) (λ_=>rfl) l;refine .inr ⟨h.nx,0,_,rfl,⟨by omega,32,.exact,a,trivial⟩,by omega,?_,b⟩;rw[Cp,Qa om]
def Tf(t:Tr):t.nodes≠[]:=by intro a;have h1:=Ao t;have h2:=size_pos t;rw[a]at h1;simp at h1;omega
def wt:Tr->Nat
|.leaf _=>1
|.one _ a=>3*wt a+1
|.two _ a b=>3*max (wt a) (wt b)+1
|.three c a b=>3*max (wt c) (max (wt a) (wt b))+1
def Af3:∀t:Tr,size t<=wt t
|.leaf _=>Yw _
|.one _ a=>by have:=Af3 a;simp only[size,wt];omega
|.two _ a b=>by have:=Af3 a;have:=Af3 b;simp only[size,wt];omega
|.three c a b=>by have:=Af3 a;have:=Af3 b;have:=Af3 c;simp only[size,wt];omega
def Se(D:Dom)(b:Bool)(a lo:Nat)(r:AV)(h1:H):Prop:=∃t:Tr,E7 D b t/\wt t<=a/\Oo lo h1 r t.nodes
def AaR(l:List Cl):Dom:=⟨λn=>∃c∈l,c.name=n,λn w=>∃c∈l,c.name=n/\w∈c.ws⟩
def Sd:Nat->Nat
|0=>4
|d+1=>3*Sd d+1
def R80(d:Nat):Prop:=∀(tk:Nat) (a:AV) (L:List Int) (cv:AV) (A1:List Cl) (m:Int) (h:H),(d:Int)=m->H9 tk a L h->Hu tk h cv A1->A1≠[]->A1.length<=30->D6 tk a h (Se (AaR A1) false (Sd d) h.nx) (Z.call 80 [.ptr tk 0,cv,iI m] h)
def R41(d:Nat):Prop:=∀(tk:Nat) (a:AV) (L:List Int) (cv:AV) (A1:List Cl) (m:Int) (h:H),(d:Int)=m->H9 tk a L h->Hu tk h cv A1->A1≠[]->A1.length<=30->D6 tk a h (Se (AaR A1) true (Sd d) h.nx) (Z.call 41 [.ptr tk 0,cv,iI m] h)
end Go.Proofs
