/- The builder of expressions: a regular expression is built. -/
import Derived.Test.YtecikbfimlolcaaGreatDoorEvWb
set_option linter.all false
set_option maxRecDepth 100000
noncomputable section
namespace Go.Proofs
open Go Go.Ev Go.Nm Go.Ev.Sx
variable {j:Program}{o:Type}
variable {lo:Nat}{et:TypeId}{h:H}{sv y x:AV}{st:List AV}
def Af5(lo:Nat)(et:TypeId)(h:H)(sv:AV)(st:List AV):Prop:=(st=[]/\sv=.Bv)\/∃b cap c k n,sv=.sl b 0 st.length cap 1 false/\h.m.get b=.cells c et (.Gt k)/\h.m.get k=.Fb n/\c.length=cap/\st.length<=cap/\0<cap/\c.take st.length=st/\lo<=b/\lo<=k/\b<h.nx/\k<h.nx/\b≠k
def Af5.gr{h1:H}(d:Af5 lo et h sv st)(e:Ai h h1):Af5 lo et h1 sv st:=by
 rcases d with d|⟨b,cap,c,k,n,r1,p,g,r4,o,m,f,j,i,r10,a,r12⟩
 .exact .inl d
 .exact .inr ⟨b,cap,c,k,n,r1,by rw[e.Cf b r10];exact p,by rw[e.Cf k a];exact g,r4,o,m,f,j,i,Xq r10 e.lo,Xq a e.lo,r12⟩
def Af5.put(a:Af5 lo et h sv st)(c:Nat)(o:AO)(hc:c<lo):Af5 lo et (h.put c o) sv st:=by
 rcases a with a|⟨b,cap,d,k,n,r1,p,f,r4,m,j,e,i,g,r10⟩
 .exact .inl a
 .exact .inr ⟨b,cap,d,k,n,r1,by rw[Aq _ _ _ om];exact p,by rw[Aq _ _ _ om];exact f,r4,m,j,e,i,g,r10⟩
def Af5.sl(a:Af5 lo et h sv st):Sl 1 h sv st.length st:=by
 rcases a with⟨rfl,rfl⟩|⟨b,cap,c,k,n,rfl,g,i,r4,f,o,e,m,j,r10,d,r12⟩
 .exact .inl ⟨rfl,rfl,rfl⟩
 .exact .inr ⟨b,0,cap,false,c,rfl,f,⟨r10,et,.Gt k,g,trivial⟩,by omega,by rw[Cp,ae,e]⟩
def Af5.push{bytes:Nat}(G:Af5 lo et h sv st)(hy:Hd h 1 y=some (1,[x]))(W:Ge x=true)(S:lo<=h.nx)(A:(st.length+1)*(bytes+1)<1000000000000):
 ∃v h',Ds et 1 bytes sv y h=.ok v h'/\Af5 lo et h' v (st++[x])/\h.nx<=h'.nx/\(∀c,c<lo->h'.m.get c=h.m.get c)/\A6E lo h h':=by
 have h1:Bm [x]=true:=by simp[W]
 have own:Fm 1 lo et h sv st.length st->∃v h',Ds et 1 bytes sv y h=.ok v h'/\Af5 lo et h' v (st++[x])/\h.nx<=h'.nx/\(∀c,c<lo->h'.m.get c=h.m.get c)/\A6E lo h h':=λQ=>by
  obtain⟨v',h',U,D,q3,M,q5,F⟩:=Fm.BmA (bytes:=bytes) (lo:=lo) Q hy (by rfl) A h1 S;refine⟨v',h',U,?_,D.lo,q5,F⟩;rcases M with⟨h1,_⟩|⟨h1,_⟩|⟨b,k,s,h1,E,p3,B,T,Y,C,O,I⟩
  .omega
  .omega
  .exact .inr ⟨b,st.length+1,_,k,s,by rw[X8];exact h1,E,p3,by rw[I];omega,by rw[X8];exact Yw _,by omega,Qa (Yw _),B,T,Y,C,O⟩
 rcases G with⟨rfl,rfl⟩|⟨b,cap,c,k,n,rfl,i,o,r4,r5,R,u,q,p,r10,f,r12⟩
 .exact own (Fm.nil ..)
 .by_cases hc:st.length+1<=cap
  .have J:Ds et 1 bytes (.sl b 0 st.length cap 1 false) y h=.ok (.sl b 0 (st.length+1) cap 1 false) ((h.put b (.cells (c.take st.length++[x]++c.drop (st.length+1)) et (.Gt k))).put k (.Fb (n+1))):=by
    show(match Hd h 1 y with
     |some (n,new)=>C6 (.bad 121) (C6 (.bad 121) (C6 (.bad 121) (Lg ⟨et,1,bytes⟩ b 0 st.length cap 1 false n new h) (Nat.beq 1 1)) (Bm new)) (Gj ((st.length+n)*(bytes+1)))
     |none=>.bad 123)=_
    rw[hy];have X:Nat.ble (Nat.add st.length 1) cap=true:=br (by simpa using hc);simp only[h1,Fi,Ws A,Fe];show(C6 _ _ (Nat.ble (Nat.add st.length 1) cap):OR)=_;rw[X];show AgN b 0 st.length cap (Nat.add st.length 1) 1 false [x] h=_;unfold AgN;rw[As0,i,AuX,o,Sn,Kh];simp only[Rx,ae,R6,Gx];rw[W5 om,Asz]
   refine⟨_,_,J,.inr ⟨b,cap,c.take st.length++[x]++c.drop (st.length+1),k,n+1,by simp,?_,A2 ..,?_,by simpa using hc,R,?_,q,p,r10,f,r12⟩,Yw _,λd hd=>?_,λd cs e hd j=>?_,λz g=>?_⟩
   .rw[Aq _ _ _ r12,A2]
   .simp[Cm,bg];omega
   .rw[X8,List.length_singleton,u,dp (by simp),Qa (by simp)]
   .rw[Aq _ _ _ om,Aq _ _ _ om]
   .have K:d≠b:=λa=>by rw[a,i]at j;cases j
    have P:d≠k:=λa=>by rw[a,o]at j;cases j
    rw[Aq _ _ _ P,Aq _ _ _ K]
   .rcases Tu.1 g with rfl|g
    .exact .inr (.inl ⟨p,λcs e a=>by rw[o]at a;cases a⟩)
    .rcases Tu.1 g with rfl|g
     .exact .inr (.inl ⟨q,λcs e a=>by rw[i]at a;cases a⟩)
     .exact .inl g
  .have L:st.length=cap:=by omega
   subst L;have V:c=st:=by rw[<- u,Qa om]
   subst V;exact own (.inr (.inr ⟨b,k,n,rfl,i,o,q,p,r10,f,r12,by omega⟩))
def Af5.cut{t e:TypeId}{bytes m:Nat}(f:Hp j t=.sl ⟨e,1,bytes⟩)(i:Af5 lo et h sv st)(d:m<=st.length):∃v,(∀a:H,xSl j t sv none (some (iI (m:Int))) a=.ok v a)/\Af5 lo et h v (st.take m):=by
 rcases i with⟨rfl,rfl⟩|⟨b,cap,c,k,n,rfl,q,o,r4,s,g,P,p⟩
 .obtain rfl:m=0:=by simpa using d
  exact⟨.Bv,λa=>Ads f,.inl ⟨rfl,rfl⟩⟩
 .refine⟨.sl b 0 m cap 1 false,λa=>?_,.inr ⟨b,cap,c,k,n,by rw[Cm,dw d],q,o,r4,by rw[Cm];omega,g,?_,p⟩⟩
  .rw[Aau f,Nn om om,W5 g];simp
  .rw[Cm,dw d,<- P,de,dw d]
def Af5.tail{t e:TypeId}{bytes m:Nat}(P:Hp j t=.sl ⟨e,1,bytes⟩)(d:Af5 lo et h sv st)(i:m<st.length):∃v,(∀a:H,xSl j t sv (some (iI (m:Int))) none a=.ok v a)/\Sl 1 h v (st.drop m).length (st.drop m):=by
 rcases d with⟨rfl,rfl⟩|⟨b,cap,c,k,n,rfl,p,s,r4,o,z,g,u,q,r10,f,r12⟩
 .simp at i
 .refine⟨.sl b (0+m*1) (st.length-m) (cap-m) 1 false,λa=>?_,?_⟩
  .rw[Aav P,Nn om o,W5 om]
  .rw[bg];refine .inr ⟨b,0+m*1,cap-m,false,c,rfl,by omega,⟨r10,et,.Gt k,p,trivial⟩,by omega,?_⟩;rw[Rx,ae,ae];conv=>rhs;rw[<- g]
   rw[ea]
open Tryz
attribute [local irreducible] Aa Al Af Ad
variable (Z:Ac)(N:Nat)
variable {h1:H}{v w:AV}{cs:List AV}{bp:Nat}{st ts r ops:List Tr}{bs:List Bool}
abbrev trC(t:Tr):List AV:=[A3 t]
abbrev boC(b:Bool):List AV:=[.bool b]
abbrev TrS(h:H)(v:AV)(l:List Tr):Prop:=R0 1 trC h v l
abbrev BoS(h:H)(v:AV)(l:List Bool):Prop:=R0 1 boC h v l
def fm1(f:o->AV):∀l:List o,l.flatMap (λa=>[f a])=l.map f
|[]=>rfl
|a::l=>by rw[dh,fm1 f l];rfl
def A0q:∀l:List Tr,Bm (l.flatMap trC)=true
|[]=>rfl
|t::l=>by simpa using A0q l
def Bfg:Prop:=∀(h:H) (v:AV) (ts:List Tr),TrS h v ts->ts≠[]->ts.length<=50000->Ah h (λr h1=>Fm 1 h.nx 56 h1 r ts.length (ts.flatMap trC)) (Z.call 173 [v] h)
def Bjs(d:TrS h v ts)(g:ts≠[])(k:ts.length<=50000):Ah h (λr h1=>Fm 1 h.nx 56 h1 r ts.length (ts.flatMap trC)) (Ay prog Z N true 173 [v] h):=by
 rw[Bl4];have j:0<ts.length:=Kd.2 g;have a:=d;rcases d with⟨h1,_,_⟩|⟨b,off,cap,ex,cs,rfl,_⟩
 .omega
 .obtain⟨w,h',f,i,e⟩:=cp (bytes:=16) (et:=56) (lo:=h.nx) om a (A0q ts) (Yw _);exact Ey (Atv A5l ..) (Ae5 (Ey (v:=.sl h.nx 0 0 0 1 true) (h:=h.new (.cells [] 56 .exact)) rfl (Ey f (Lo i e))))
structure AhG(bp:Nat)(st:List Tr)(h:H):Prop where
 lt:bp<h.nx
 g:∃sv,h.m.get bp=.cells [sv] 105 .exact/\Af5 (bp+1) 56 h sv (st.flatMap trC)
def AhG.gr(k:AhG bp st h)(g:Ai h h1):AhG bp st h1:=by obtain⟨sv,b,a⟩:=k.g;exact⟨Xq k.lt g.lo,sv,(g.Cf bp k.lt).trans b,a.gr g⟩
def Bff:Prop:=∀(bp:Nat) (r ops:List Tr) (bs:List Bool) (w:AV) (h:H),AhG bp (r++ops) h->BoS h w bs->ops.map F4=bs->ops≠[]->r.length+ops.length<=50000 ->
 Ah H0 (λa h1=>∃v,a=.Bj [v,.bool true]/\TrS h1 v ops/\WG bp h h1/\AhG bp r h1) (Z.call 108 [.ptr bp 0,w] h)
def A5d(f:o->AV)(l:List o):(l.flatMap λa=>[f a]).length=l.length:=by rw[fm1,ez]
def A9O(b:H64 Z){lo:Nat}(j:Fm 1 lo 56 h v ops.length (ops.flatMap trC))(A:bp<lo)(D:BoS h w bs)(e:AhG bp (r++ops) h)(C:ops.map F4=bs)(L:r.length+ops.length<=50000):
 ∀(k i n:Nat) (f0:L2) (hd:H),i+k=ops.length->k<n->Ai h hd ->
  Ah H0 (λI h1=>∃v,I=.Bj [v,.bool true]/\TrS h1 v ops/\WG bp h h1/\AhG bp r h1) (AsQ Z N n (.ptr bp 0) w (iI (r.length:Nat)) v v (iI (ops.length:Nat)) (iI i) f0 hd)
 |0,i,n,f0,hd,hi,hn,g=>by
  obtain⟨a,rfl⟩:∃a,n=a+1:=⟨n-1,by omega⟩;have G:decide ((i:Int)<(ops.length:Int))=false:=df;obtain⟨sv,gb,J⟩:=(e.gr g).g;have u:=e.lt;obtain⟨B,c1,c2⟩:=J.cut (m:=r.length) As7 (by rw[A5d,X8];omega);have e1:((r++ops).flatMap trC).take r.length=r.flatMap trC:=by rw[fm1,fm1,ah,dp (by simp),Qa (by simp)]
  rw[e1]at c2;have p:=B2 c2.sl;obtain⟨S,P⟩:=p;have gd:=g.lo;rw[AyW];refine wk ?_;exact Lo (Ed _) ⟨v,rfl,(Fm.To (l:=[B]) (e1:=105) (j.gr g) A (by rw[gb];rfl)).sl,(WG.of u g).put,Xq u gd,B,A2 _ _,c2.put bp _ (Up _)⟩
 |k+1,i,n,f0,hd,hi,hn,g=>by
  obtain⟨a,rfl⟩:∃a,n=a+1:=⟨n-1,by omega⟩;have G:decide ((i:Int)<(ops.length:Int))=true:=dt;obtain⟨t,q⟩:∃t,ops[i]?=some t:=⟨_,Xs om⟩;have o:bs[i]?=some (decide (9<=t.op)):=by rw[<- C,Cn,q];rfl
  obtain⟨b1,R,E⟩:=R0.elem (f:=trC) (s:=1) (λ_=>rfl) (Sl.By j.sl g.keeps) q;obtain⟨b2,p,d⟩:=R0.elem (f:=boC) (s:=1) (λ_=>rfl) (Sl.By D g.keeps) o;have O:=E.ia;have K:=E.part 0 _ rfl;have T:=d.ia;have M:=d.part 0 _ rfl;rw[Mz]at K M;have z:=b t;have Q:=B16 (decide (9<=t.op));have F:=A9O b j A D e C L k (i+1) a;rw[AyW];refine wk ?_;rw[show(i:Int)+1=((i+1:Nat):Int)by omega]
  exact F _ _ om om (g.trans Ex)
def Bjr(M:50000<N)(n:H64 Z)(o:Bfg Z)(k:AhG bp (r++ops) h)(B:BoS h w bs)(A:ops.map F4=bs)(q:ops≠[])(D:r.length+ops.length<=50000):
 Ah H0 (λs h1=>∃v,s=.Bj [v,.bool true]/\TrS h1 v ops/\WG bp h h1/\AhG bp r h1) (Ay prog Z N true 108 [.ptr bp 0,w] h):=by
 obtain⟨sv,gb,u⟩:=k.g;have j:=k.lt;have J:0<ops.length:=Kd.2 q;have E:bs.length=ops.length:=by rw[<- A,ez]
 have l1:∀e:H,Fo sv e=.ok (iI ((r.length+ops.length:Nat):Int)) e:=λe=>by have:=u.sl.Gs (h1:=e);rwa[A5d,X8]at this
 have O:∀e:H,Fo w e=.ok (iI (ops.length:Int)) e:=λe=>by rw[<- E];exact B.Gs
 have f:E1 .i64 (r.length:Int)=(r.length:Int):=by rw[Cr]<;>omega
 have L:∀e:H,bo .sub 3 false (iI ((r.length+ops.length:Nat):Int)) (iI (ops.length:Int)) e=.ok (iI (r.length:Int)) e:=λe=>by show Aj prog .sub 3 false (iI _) (iI _) e=_;rw[As3,show((r.length+ops.length:Nat):Int)-(ops.length:Int)=(r.length:Int)by omega,f]
 obtain⟨G,c1,c2⟩:=u.tail (m:=r.length) As7 (by rw[A5d,X8];omega);have e1:((r++ops).flatMap trC).drop r.length=ops.flatMap trC:=by rw[fm1,fm1,ah,List.drop_append_of_le_length (by simp),bi (by simp)];simp
 rw[e1,A5d]at c2;have K:decide ((r.length:Int)<0)=false:=df;rw[Bl3];refine wk ?_;refine Fj (o h G ops c2 q om) λI C i p F z=>?_;have p:∀e:H,Fo I e=.ok (iI (ops.length:Int)) e:=λe=>z.sl.Gs;refine Ey (p C) ?_;exact(A9O Z N n z j (Sl.By B i.keeps) (k.gr i) A D ops.length 0 N _ C om om (Ai.refl _)).mono λs P _ ⟨v,a,b,c,d⟩=>⟨v,a,b,(WG.of j i).trans j c,d⟩
variable {h0:H}{t:Tr}{x:Nd}
def A7y(k:AhG bp st h)(O:st.length<=50000)(A:h.m.get bp=.cells [sv] 105 .exact)(t:Tr):
 ∃v' a,Ds 56 1 16 sv (.sl h.nx 0 1 1 1 true) ((Ab h).new (.cells [A3 t] 56 .exact))=.ok v' a/\h.nx<a.nx/\Ge v'=true/\cellsOf v'=some [v']/\a.m.get bp=.cells [sv] 105 .exact/\AhG bp (st++[t]) (a.put bp (.cells [v'] 105 .exact)) /\
  (∀x∈wrote (h.nx+1) a.lg,x=bp\/(bp<x/\NEx (h.m.get x))\/h.nx<=x)/\∀L,(∀x∈L,x∈h.lg\/x=bp\/(bp<x/\NEx (h.m.get x))\/h.nx<=x)->WG bp h (Be L (a.put bp (.cells [v'] 105 .exact))):=by
 obtain⟨p,f,D⟩:=k.g;rw[A]at f;obtain rfl:sv=p:=by cases f;rfl
 have E:=k.lt;have u:Ai h ((Ab h).new (.cells [A3 t] 56 .exact)):=(Ai.refl h).nl.new _;have K:Sl 1 ((Ab h).new (.cells [A3 t] 56 .exact)) (.sl h.nx 0 1 1 1 true) 1 [A3 t]:=Sl.lit (h:=Ab h) (Bf _) rfl rfl;have o:Ge (A3 t)=true:=by cases t<;>rfl
 obtain⟨v',a,I,s,z,B,q5⟩:=(D.gr u).push (bytes:=16) K.src o (by show bp+1<=h.nx+1;omega) (by rw[A5d];omega)
 have b:∀c,c<h.nx->((Ab h).new (.cells [A3 t] 56 .exact)).m.get c=h.m.get c:=λc hc=>u.Cf c hc;have d:((Ab h).new (.cells [A3 t] 56 .exact)).nx=h.nx+1:=rfl;have j:a.m.get bp=.cells [sv] 105 .exact:=(B bp (Up _)).trans ((b bp E).trans A);obtain⟨F,C⟩:=B2 s.sl;rw[d]at z;refine⟨v',a,I,z,F,C,j,⟨by show bp<a.nx;omega,v',A2 _ _,?_⟩,λx M=>?_,λL J=>⟨?_,?_,?_,J⟩⟩
 .rw[Qm];exact s.put bp _ (Up _)
 .rcases q5.lg x (D4 _ _ _ M).1 with i|⟨i,G⟩|i
  .cases i
  .by_cases q:h.nx<=x
   .exact .inr (.inr q)
   .exact .inr (.inl ⟨i,λcs e n=>G cs e ((b x om).trans n)⟩)
  .exact .inr (.inr (by rw[d]at i;omega))
 .show h.nx<=a.nx;omega
 .intro c hc;show(a.put bp _).m.get c=_;rw[Aq _ _ _ om,B c om,b c om]
 .intro c cs e hc hn n;show(a.put bp _).m.get c=_;rw[Aq _ _ _ hn,q5.ex c cs e om ((b c hc).trans n),b c hc]
abbrev A7x(bp:Nat)(st:List Tr)(h:H):AV->H->Prop:=λrv h1=>rv=.bool true/\WG bp h h1/\AhG bp st h1
def P63:Prop:=∀(bp:Nat) (st a:List Tr) (x:Nd) (h:H),AhG bp st h->Fa st x=some a->st.length<=49990->Ah H0 (A7x bp a h) (Z.call 63 [.ptr bp 0,.agg (Bw x)] h)
def At7{b:H}{v':AV}{d:List EF}(f:AhG bp ts (b.put bp (.cells [v'] 105 .exact)))(o:∀x∈wrote (h.nx+1) b.lg,x=bp\/(bp<x/\NEx (h.m.get x))\/h.nx<=x)(k:∀L,(∀x∈L,x∈h.lg\/x=bp\/(bp<x/\NEx (h.m.get x))\/h.nx<=x)->WG bp h (Be L (b.put bp (.cells [v'] 105 .exact))))
 (q:∀e∈d,e.w=[]\/((∀x∈e.w,x=bp\/(bp<x/\NEx (h.m.get x))\/h.nx<=x)/\∀a∈d,Jo e a=true):=by (repeat (refine fI (by first|exact .inl rfl|exact .inr ⟨by assumption,Ag9⟩|exact .inr ⟨λx n=>.inl (Qv.1 (D4 _ x [_] n).1),Ag9⟩) ?_));exact fN):
 Ah H0 (A7x bp ts h) (Ff h.lg d ((Ab b).put bp (.cells [v'] 105 .exact)) λj=>.ok (.bool true) j):=
 Axi (λx=>x=bp\/(bp<x/\NEx (h.m.get x))\/h.nx<=x) q λL i=>Lo (Ed _) ⟨rfl,k L i,f.lt,f.g⟩
def AiT{l:List Tr}{i:Nat}(e:TrS h v l)(hi:l[i]?=some t):∃b o,(∀a:H,Gc 1 v (iI (i:Int)) a=.ok (.ptr b o) a)/\∀a:H,Bi h a->Ae (some none) (.ptr b o) a=.ok (A3 t) a:=by obtain⟨b,o,d⟩:=R0.elem (f:=trC) (s:=1) (λ_=>rfl) e hi;exact⟨b,o,d.ia,d.part 0 _ rfl⟩
def Alt(h:Gf st bs=some (r,ops)):st=r++ops/\ops.map F4=bs:=by
 unfold Gf at h;split at h
 .rename_i a;cases h;exact⟨(Dt ..).symm,a.2⟩
 .cases h
def b63(Ov:Bff Z)(k:AhG bp st h)(f:Fa st x=some ts)(O:st.length<=49990):Ah H0 (A7x bp ts h) (Ay prog Z N false 63 [.ptr bp 0,.agg (Bw x)] h):=by
 have B6:=k.lt;rw[q63];refine Ey (Hg ..) ?_;have gN:Ai h (h.new (.cells (Bw x) 32 .exact)):=(Ai.refl h).new _;have M:(h.new (.cells (Bw x) 32 .exact)).m.get h.nx=.cells (Bw x) 32 .exact:=Bf _;have o:=k.gr gN;have W:(h.new (.cells (Bw x) 32 .exact)).nx=h.nx+1:=rfl;refine Ah.mono (R:=A7x bp ts (h.new (.cells (Bw x) 32 .exact))) ?_ λrv h1 _ ⟨a,b,c⟩=>⟨a,(WG.of B6 gN).trans B6 b,c⟩;generalize h.new (.cells (Bw x) 32 .exact)=hb at *
 obtain⟨sv,X,hs⟩:=o.g;have Hr:h.nx≠bp:=by omega
 unfold Fa at f;by_cases k3:x.op<=3
 .have d3:=Ws k3;rw[W5 k3]at f;obtain rfl:=Ck f;obtain⟨v',h6,a1,a2,a3,a4,a5,K,J,L⟩:=A7y (sv:=sv) o om X (.leaf x);rw[W]at a1;refine wk ?_;refine Ey a1 ?_;refine wk ?_;exact At7 K J L
 .have d3:=Xn k3;rw[X2 k3]at f;by_cases I:x.op=7\/x.op=17
  .rw[W5 I]at f;obtain⟨b,C⟩:∃b,b=decide (x.op=17):=⟨_,rfl⟩;rw[<- C]at f;split at f
   .rename_i r a E;obtain rfl:=Ck f;obtain⟨rfl,F⟩:=Alt E;have hc:=Ov bp r [a] [b] (.sl hb.nx 0 1 1 1 true) (hb.new (.cells [.bool b] 4 .exact)) (o.gr ((Ai.refl hb).new _)) (Sl.lit (Bf _) rfl rfl) F (by simp) (by simp at O ⊢;omega);rw[W]at hc;have d7:decide (x.op=7)=!b:=by rw[C];rcases I with e|e<;>simp[e]
    have d17:=C.symm;have nb:(hb.new (.cells [.bool b] 4 .exact)).nx=hb.nx+1:=rfl;have d:(hb.new (.cells [.bool b] 4 .exact)).m.get h.nx=.cells (Bw x) 32 .exact:=(Cq _ _ om).trans M;have P:Ai hb (hb.new (.cells [.bool b] 4 .exact)):=(Ai.refl hb).new _;clear f E C I hs;have u:=o.lt;have S:r.length<=50000:=by simp at O;omega
    cases b;all_goals
     refine wk ?_;refine zc0 hc λv1 h2 ⟨G,V,n,z,B⟩=>?_;subst V;have g2:=(z.ex h.nx _ _ om Hr d).trans d;have wg:=(WG.of u P).trans u z;obtain⟨Q,A,_⟩:=B.g;obtain⟨b1,T,D,x2⟩:=AiT (i:=0) n rfl;obtain⟨v',h6,a1,a2,a3,a4,a5,K,J,L⟩:=A7y B S A (.one x.op a);have l2:=wg.nx;replace D:∀j:H,Gc 1 G (iI 0) j=.ok (.ptr b1 T) j:=D;clear M X d k o F z B n hc;refine wk ?_;refine Ey a1 ?_;refine wk ?_;exact(At7 K J L).mono λrv h3 _ ⟨p,q,s⟩=>⟨p,wg.trans u q,s⟩
   .cases f
  .have d7:decide (x.op=7)=false:=Xn λe=>I (.inl e);have d17:decide (x.op=17)=false:=Xn λe=>I (.inr e);rw[X2 I]at f;by_cases Y:x.op=8
   .have d8:=Ws Y;rw[W5 Y]at f;split at f
    .rename_i r c a b E;obtain rfl:=Ck f;obtain⟨rfl,F⟩:=Alt E;have hc:=Ov bp r [c,a,b] [true,false,false] (.sl hb.nx 0 3 3 1 true) (hb.new (.cells [.bool true,.bool false,.bool false] 4 .exact)) (o.gr ((Ai.refl hb).new _)) (Sl.lit (Bf _) rfl rfl) F (by simp) (by simp at O ⊢;omega);rw[W]at hc;have nb:(hb.new (.cells [.bool true,.bool false,.bool false] 4 .exact)).nx=hb.nx+1:=rfl;have d:(hb.new (.cells [.bool true,.bool false,.bool false] 4 .exact)).m.get h.nx=.cells (Bw x) 32 .exact:=(Cq _ _ om).trans M;have P:Ai hb (hb.new (.cells [.bool true,.bool false,.bool false] 4 .exact)):=(Ai.refl hb).new _;have u:=o.lt;have S:r.length<=50000:=by simp at O;omega
     clear f E I hs;refine wk ?_;refine zc0 hc λv1 h2 ⟨G,V,n,z,B⟩=>?_;subst V;have g2:=(z.ex h.nx _ _ om Hr d).trans d;have wg:=(WG.of u P).trans u z;obtain⟨Q,A,_⟩:=B.g;obtain⟨b0,o0,U,y0⟩:=AiT (i:=0) n rfl;obtain⟨b1,T,D,y1⟩:=AiT (i:=1) n rfl;obtain⟨b2,o2,x2,y2⟩:=AiT (i:=2) n rfl;obtain⟨v',h6,a1,a2,a3,a4,a5,K,J,L⟩:=A7y B S A (.three c a b);have l2:=wg.nx;replace U:∀j:H,Gc 1 G (iI 0) j=.ok (.ptr b0 o0) j:=U;replace D:∀j:H,Gc 1 G (iI 1) j=.ok (.ptr b1 T) j:=D;replace x2:∀j:H,Gc 1 G (iI 2) j=.ok (.ptr b2 o2) j:=x2;clear M X d k o F z B n hc;refine wk ?_;refine Ey a1 ?_;refine wk ?_;exact(At7 K J L).mono λrv h3 _ ⟨p,q,s⟩=>⟨p,wg.trans u q,s⟩
    .cases f
   .have d8:=Xn Y;rw[X2 Y]at f;obtain⟨e,he⟩:∃e,(decide (x.op=15)||decide (x.op=16))=e:=⟨_,rfl⟩;rw[he]at f;split at f
    .rename_i r a b E;obtain rfl:=Ck f;obtain⟨rfl,F⟩:=Alt E;have hc:=Ov bp r [a,b] [e,e] (.sl hb.nx 0 2 2 1 true) (hb.new (.cells [.bool e,.bool e] 4 .exact)) (o.gr ((Ai.refl hb).new _)) (Sl.lit (Bf _) rfl rfl) F (by simp) (by simp at O ⊢;omega);rw[W]at hc;have nb:(hb.new (.cells [.bool e,.bool e] 4 .exact)).nx=hb.nx+1:=rfl;have d:(hb.new (.cells [.bool e,.bool e] 4 .exact)).m.get h.nx=.cells (Bw x) 32 .exact:=(Cq _ _ om).trans M;have P:Ai hb (hb.new (.cells [.bool e,.bool e] 4 .exact)):=(Ai.refl hb).new _;have u:=o.lt;have S:r.length<=50000:=by simp at O;omega
     have d15:decide (x.op=15)=true/\e=true\/decide (x.op=15)=false/\decide (x.op=16)=e:=by rw[<- he];cases decide (x.op=15)<;>simp
     clear f E I hs he;rcases d15 with⟨d15,rfl⟩|⟨d15,d16⟩
     all_goals
      refine wk ?_;refine zc0 hc λv1 h2 ⟨G,V,n,z,B⟩=>?_;subst V;have g2:=(z.ex h.nx _ _ om Hr d).trans d;have wg:=(WG.of u P).trans u z;obtain⟨Q,A,_⟩:=B.g;obtain⟨b0,o0,U,y0⟩:=AiT (i:=0) n rfl;obtain⟨b1,T,D,y1⟩:=AiT (i:=1) n rfl;obtain⟨v',h6,a1,a2,a3,a4,a5,K,J,L⟩:=A7y B S A (.two x.op a b);have l2:=wg.nx;replace U:∀j:H,Gc 1 G (iI 0) j=.ok (.ptr b0 o0) j:=U;replace D:∀j:H,Gc 1 G (iI 1) j=.ok (.ptr b1 T) j:=D;clear M X d k o F z B n hc;refine wk ?_;refine Ey a1 ?_;refine wk ?_;exact(At7 K J L).mono λrv h3 _ ⟨p,q,s⟩=>⟨p,wg.trans u q,s⟩
    .cases f
variable {l:List Nd}{c:Bool}
def N3(h:Qt x=false):decide (x.op<1)=false/\decide (17<x.op)=false /\
 ((decide (x.n=0)=false/\decide (x.op=1)=true/\decide (x.Zn=[])=true/\decide (x.op=3)=false)\/(decide (x.n=0)=true/\decide (x.Zn=[])=true/\decide (x.op=3)=false) \/
  (decide (x.n=0)=true/\decide (x.Zn=[])=true/\decide (x.op=3)=true)\/(decide (x.n=0)=true/\decide (x.Zn=[])=false/\decide (x.op=2)=true/\decide (x.op=3)=false) \/
  (decide (x.n=0)=true/\decide (x.Zn=[])=false/\decide (x.op=2)=false/\decide (x.op=3)=true)):=by
 unfold Qt at h;by_cases d:x.op=1<;>by_cases a:x.op=2<;>by_cases b:x.op=3<;>by_cases e:x.n=0<;>by_cases q5:x.Zn=[]<;>simp[d,a,b,e,q5]at h ⊢<;>omega
def A0r{l:List Nd}{j:Nat}{y:Nd}(h:l[j]?=some y):AcU l j=y.op:=by unfold AcU;rw[h]
def Bj0{l:List Nd}{i:Nat}(h:Ou l i x=false)(d:decide (x.op=3)=true)(hi:i<l.length):decide (i=0)=false/\decide (l.length<=i+1)=false /\
 ∃y z,l[i-1]?=some y/\l[i+1]?=some z/\decide (y.op=2)=true/\(decide (z.op=9)=true\/(decide (z.op=9)=false/\decide (z.op=10)=true)):=by
 unfold Ou at h;rw[d]at h;simp only[Bool.true_and,dq,X9,Nat.not_le]at h;obtain⟨⟨⟨h1,h2⟩,b⟩,a⟩:=h;refine⟨Xn h1,Xn om,_,_,Xs (by omega:i-1<l.length),Xs b,?_,?_⟩
 .rw[A0r (Xs (by omega:i-1<l.length))]at h2;simpa using h2
 .rw[A0r (Xs b)]at a;revert a;cases decide (l[i+1].op=9)<;>simp
set_option maxHeartbeats 1000000 in
def Bfq(j:P63 Z)(d:H64 Z)(C:Ue h v l)(G:l.length<=3000)(m:h.nx<=bp)(hc:F4 t=c):
 ∀(rest pre:List Nd) (st:List Tr) (n:Nat) (hd:H) (f0:L2),l=pre++rest->rest.length<n->Dm l st pre.length rest=some [t]->st.length<=pre.length->AhG bp st hd->Ai h hd ->
  Ah h (λQ _=>Q=.Bj [A3 t,.bool true]) (AvQ Z N n v (.bool c) (.ptr bp 0) v (iI (l.length:Nat)) (iI (pre.length:Nat)) f0 hd)
 |[],pre,st,n,hd,f0,q,hn,u,F,k,g=>by obtain⟨B,rfl⟩:∃B,n=B+1:=⟨n-1,by omega⟩;rw[F0]at q;subst q;obtain rfl:st=[t]:=Ck u;obtain⟨sv,gw,X⟩:=k.g;have B6:=k.lt;have k1:decide ((l.length:Int)<(l.length:Int))=false:=df;have l1:∀a:H,Fo sv a=.ok (iI 1) a:=λa=>X.sl.Gs;obtain⟨b1,o1,O,y1⟩:=AiT (i:=0) (l:=[t]) X.sl rfl;replace O:∀a:H,Gc 1 sv (iI 0) a=.ok (.ptr b1 o1) a:=O;have z:=d t;have Wh:decide (9<=t.op)=c:=hc;have nq:=B16 c;rw[Ayr];refine wk ?_;exact zr g rfl
 |x::rest,pre,st,n,hd,f0,q,hn,u,F,k,g=>by
  obtain⟨B,rfl⟩:∃B,n=B+1:=⟨n-1,by omega⟩;have L:l.length=pre.length+(rest.length+1):=by rw[q];simp
  have I:l[pre.length]?=some x:=by rw[q];simp
  have k1:decide (pre.length<l.length)=true:=dt;have b:=Sl.By C g.keeps;obtain⟨b1,o1,D⟩:=R0.elem (f:=Bw) (s:=3) (λ_=>rfl) b I;have O:=D.ia;have x2:=D.all;have hlen:∀a:H,Fo v a=.ok (iI (l.length:Int)) a:=λa=>b.Gs;unfold Dm at u;split at u
  .cases u
  .rename_i E;simp only[ba,not_or,Bool.not_eq_true]at E;obtain⟨p,o⟩:=E;split at u
   .rename_i U0 S;have B6:=k.lt;have V:=Bfq j d C G m hc rest (pre++[x]) U0 B;have go:∀(K:H) (f0:AV->AV->AV->L2),Ai hd K->Ah h (λQ _=>Q=.Bj [A3 t,.bool true]) (Aa (Z.call 63 [.ptr bp 0,.agg (Bw x)] K) λR h1=>mM (Qe .not R) (λv2=>mC v2 (.ok (.Bj [.B3,.bool false])) (mM (bo .add 3 true (iI (pre.length:Nat)) (iI 1)) λv3=>AvQ Z N B v (.bool c) (.ptr bp 0) v (iI (l.length:Nat)) v3 (f0 R v2 v3))) h1):=λK f0 g5=>by
     obtain⟨R,h6,e6,_,rfl,q2,q3⟩:=j bp st U0 x K (k.gr g5) S om;refine Ey e6 ?_;have Bo1:=AbP S;have J:=λf=>V h6 f (by rw[q];simp) (by simp at hn;omega) (by rw[X8];exact u) (by simp;omega) q3 (WG.own (g.trans g5) q2 m);have e1:((pre++[x]).length:Int)=(pre.length:Int)+1:=by simp
     simp only[e1]at J;have Z1:(pre.length:Int)<=3000:=by omega
     refine wk ?_;exact J _
    have hlp:pre.length<=2999:=by omega
    clear u S V;rw[Ayr];obtain⟨s1,s2,s3⟩:=N3 p;have wt:∀(w:Bool) (r:OR) (a:H),Ad (.Bj []) w r a=.ok (.Bj []) a:=λw r a=>A0V [] w r a;have A:=λf=>go ((hd.new (.cells [iI 0,iI 0,.str []] 32 .exact)).put hd.nx (.cells (Bw x) 32 .exact)) f (((Ai.refl hd).new _).put _ _ (Yw _));rcases s3 with⟨s3,W,M,s6⟩|⟨s3,M,s6⟩|⟨s3,M,s6⟩|⟨s3,M,W,s6⟩|⟨s3,M,W,s6⟩
    .clear go k D b I q hn F L j d m G p o C hc g;refine wk ?_;exact A _
    .clear go k D b I q hn F L j d m G p o C hc g;refine wk ?_;exact A _
    rotate_left
    .clear go k D b I q hn F L j d m G p o C hc g;refine wk ?_;exact A _
    all_goals
     obtain⟨i0,il,y,z,hy,hz,y2,P⟩:=Bj0 o s6 om;obtain⟨b3,o3,T⟩:=R0.elem (f:=Bw) (s:=3) (λ_=>rfl) b hy;obtain⟨b4,o4,U⟩:=R0.elem (f:=Bw) (s:=3) (λ_=>rfl) b hz;have e1:((pre.length-1:Nat):Int)=(pre.length:Int)-1:=by have:=bh i0;omega
     have Y:((pre.length+1:Nat):Int)=(pre.length:Int)+1:=by omega
     have i2:decide ((l.length:Int)<=(pre.length:Int)+1)=false:=Xn λe=>by have:=bh il;omega
     have i1:decide (pre=[])=false:=Xn λe=>by rw[e]at i0;cases i0
     have y1:=T.ia;have z1:=U.ia;have y3:∀a:H,Bi hd a->Ae (some none) (.ptr b3 o3) a=.ok (iI y.op) a:=T.part 0 _ rfl;have z3:∀a:H,Bi hd a->Ae (some none) (.ptr b4 o4) a=.ok (iI z.op) a:=U.part 0 _ rfl;rw[e1]at y1;rw[Y]at z1;rcases P with P|⟨P,z10⟩
     all_goals
      clear go k D b I q hn F L j d m G p o C hc g T U hy hz e1 Y i0 il;refine wk ?_;exact A _
   .cases u
def b28(d:P63 Z)(e:H64 Z)(k:3000<N)(f:Ue h v l)(j:l.length<=3000)(a:Je l c=some t):
 Ah h (λi _=>i=.Bj [A3 t,.bool true]) (Ay prog Z N true 28 [v,.bool c] h):=by
 unfold Je at a;split at a
 .rename_i t' g;split at a
  .rename_i hc;obtain rfl:=Ck a;have hd:Ai h (h.new (.cells [.Bv] 105 .exact)):=(Ai.refl h).new _;have b:Fo v (h.new (.cells [.Bv] 105 .exact))=.ok (iI (l.length:Int)) _:=(Sl.By f hd.keeps).Gs;rw[q28];refine Ey (Hg ..) ?_;refine Ey b ?_;exact Bfq Z N d e f j (Yw _) hc l [] [] N _ _ rfl om g (by simp) ⟨Up _,.Bv,Bf _,.inl ⟨rfl,rfl⟩⟩ hd
  .cases a
 .cases a
end Go.Proofs
