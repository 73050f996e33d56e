/- The builder of expressions: a regular expression is built. -/
import Derived.Test.YtmjmhajonaelcaaGreatDoorEvWb
set_option linter.all false
set_option maxRecDepth 100000
noncomputable section
namespace Go.Proofs
open Go Go.Ev Go.Nm Go.Ev.Sx
variable {j:Type}
variable {lo:Nat}{et:TypeId}{h:H}{sv y x:AV}{st:uw}
def ArD lo et(h:H)(sv:AV) st:=st=[]/\sv=.Bv\/∃b cap c k n,sv=.sl b 0 st.length cap 1 false/\h.m.get b=.cells c et (.Gt k)/\h.m.get k=.Fb n/\c.length=cap/\st.length<=cap/\0<cap/\c.take st.length=st/\lo<=b/\lo<=k/\b<h.nx/\k<h.nx/\b≠k
def ArD.gr{h1}(f:ArD lo et h sv st)(e:Ai h h1):ArD lo et h1 sv st:=by
 rcases f with f|⟨b,cap,c,k,n,r1,q,s,i,p,g,j,o,m,a,d,r12⟩;. exact .inl f
 .exact .inr ⟨b,_,c,k,n,r1,by rw[e.Cf b a];omega,by rw[e.Cf k d];omega,i,p,g,j,o,m,Xq a e.lo,Xq d e.lo,r12⟩
def ArD.put(e:ArD lo et h sv st) c o(hc:c<lo):ArD lo et (h.put c o) sv st:=by
 rcases e with e|⟨b,cap,d,k,n,r1,q,s,f,p,g,i,m,j,a⟩;. exact .inl e
 .exact .inr ⟨b,_,d,k,n,r1,by rw[Aq _ _ _ om];omega,by rw[Aq _ _ _ om];omega,f,p,g,i,m,j,a⟩
def ArD.sl(e:ArD lo et h sv st):Sl 1 h sv st.length st:=by
 rcases e with⟨rfl,rfl⟩|⟨b,cap,c,k,n,rfl,d,m,i,f,j,o,q,p,a,g,r12⟩;. exact .inl ⟨rfl,rfl,rfl⟩
 .exact .inr ⟨b,0,_,_,c,rfl,f,⟨a,_,_,d,trivial⟩,by omega,by grind⟩
def ArD.push{bytes:Nat}(F:ArD lo et h sv st)(p:Hd h 1 y=some (1,[x]))(U:Ge x=true)(E:lo<=h.nx)(u:(st.length+1)*(bytes+1)<1000000000000):
 ∃v h',Ds et 1 bytes sv y h=.ok v h'/\ArD lo et h' v (st++[x])/\h.nx<=h'.nx/\(∀c,c<lo->h'.m.get c=h.m.get c)/\A6E lo h h':=by
 have h1:Bm [x]=true:=by simp[U]
 have own:Fm 1 lo et h sv st.length st->∃v h',Ds et 1 bytes sv y h=.ok v h'/\ArD lo et h' v (st++[x])/\h.nx<=h'.nx/\(∀c,c<lo->h'.m.get c=h.m.get c)/\A6E lo h h':=λQ=>by
  obtain⟨v',h',M,Y,q3,R,q5,J⟩:=Fm.BmA (bytes:=bytes) (lo:=lo) Q p (by rfl) u h1 E;refine⟨v',h',M,?_,Y.lo,q5,J⟩;rcases R with⟨h1,_⟩|⟨h1,_⟩|⟨b,k,s,h1,D,p3,C,B,p6,G,P,W⟩;. omega
  .omega
  .exact .inr ⟨b,st.length+1,_,k,s,by rw[Yl];exact h1,D,p3,by rw[W];omega,by rw[Yl];exact Ye _,by omega,Qa (Ye _),C,B,p6,G,P⟩
 rcases F with⟨rfl,rfl⟩|⟨b,cap,c,k,n,rfl,o,i,r4,r5,I,K,A,q,a,e,r12⟩;. exact own (Fm.nil ..)
 .by_cases hc:st.length+1<=cap
  .have V:Ds et 1 bytes (.sl b 0 st.length cap 1 false) y h=.ok (.sl b 0 (st.length+1) cap 1 false) ((h.put b (.cells (c.take st.length++[x]++c.drop (st.length+1)) et (.Gt k))).put k (.Fb (n+1))):=by
    show(match Hd h 1 y with
     |some (n,new)=>C6 (.bad 121) (C6 (.bad 121) (C6 (.bad 121) (Lg ⟨et,1,bytes⟩ b 0 st.length cap 1 false n new h) (Nat.beq 1 1)) (Bm new)) (Gj ((st.length+n)*(bytes+1)))
     |none=>.bad 123)=_;rw[p];have T:Nat.ble (Nat.add st.length 1) cap=true:=br (by simpa using hc);simp only[h1,Fi,Ws u,Fe];show(C6 _ _ (Nat.ble (Nat.add st.length 1) cap):OR)=_;rw[T];show AgN b 0 st.length cap (Nat.add st.length 1) 1 false [x] h=_;unfold AgN;rw[As0,o,AuX,i,Sn,Kh];simp_all
   refine⟨_,_,V,.inr ⟨b,cap,c.take st.length++[x]++c.drop (st.length+1),k,n+1,by simp,?_,A2 ..,?_,by simpa using hc,I,?_,A,q,a,e,r12⟩,Ye _,λd hd=>?_,λd hd g=>?_,λz f=>?_⟩;. rw[Aq _ _ _ r12,A2]
   .simp[Cm,bg];omega
   .grind
   .rw[Aq _ _ _ om,Aq _ _ _ om]
   .have L:d≠b:=λj=>by rw[j,o]at g;cases g.1 _ _ _ rfl
    have O:d≠k:=λj=>by rw[j,i]at g;exact g.2 _ rfl
    rw[Aq _ _ _ O,Aq _ _ _ L]
   .rcases Tu.1 f with rfl|f;. simp[*]
    .rcases Tu.1 f with rfl|f;. simp_all
     .exact .inl f
  .have X:st.length=cap:=by omega
   subst X;have S:c=st:=by rw[<- K,Qa om]
   subst S;exact own (.inr (.inr ⟨b,k,n,rfl,o,i,A,q,a,e,r12,by omega⟩))
def ArD.cut{P}{t e}{bytes m}(f:Hp P t=.sl ⟨e,1,bytes⟩)(p:ArD lo et h sv st)(q:m<=st.length):∃v,(∀a,xSl P t sv none (some (iI m)) a=.ok v a)/\ArD lo et h v (st.take m):=by
 rcases p with⟨rfl,rfl⟩|⟨b,cap,c,k,n,rfl,i,j,g,u,d,s,o⟩
 .obtain rfl:m=0:=by simp_all
  exact⟨_,λa=>Ads f,.inl ⟨rfl,rfl⟩⟩
 .refine⟨.sl b 0 m cap 1 false,λa=>?_,.inr ⟨b,_,c,k,n,by grind,i,j,g,by grind,d,?_,o⟩⟩;. rw[Aau f,Nn om om,Xo d];rfl
  grind
def ArD.tail{P}{t e}{bytes m}(p:Hp P t=.sl ⟨e,1,bytes⟩)(i:ArD lo et h sv st)(u:m<st.length):∃v,(∀a,xSl P t sv (some (iI m)) none a=.ok v a)/\Sl 1 h v (st.drop m).length (st.drop m):=by
 rcases i with⟨rfl,rfl⟩|⟨b,cap,c,k,n,rfl,f,z,s,j,q,g,B,A,d,o,r12⟩;. grind
 .refine⟨.sl b (0+m*1) (st.length-m) (cap-m) 1 false,λa=>?_,?_⟩;. rw[Aav p,Nn om j,Xo om]
  .rw[bg];refine .inr ⟨b,_,_,_,c,rfl,by omega,⟨d,_,_,f,trivial⟩,by omega,?_⟩;rw[Rx,ae,ae];conv=>rhs;rw[<- g];rw[ea]
open Tryz
attribute [local irreducible] Aa Al Af Ad
variable (Z:Ac)(N:Nat)
variable {h1:H}{v w:AV}{cs:uw}{bp:Nat}{st ts r ops:List Tr}{bs:List Bool}
abbrev trC t:=[A3 t]
abbrev boC(b:Bool):uw:=[.bool b]
abbrev TrS h v l:=R0 1 trC h v l
abbrev BoS h v l:=R0 1 boC h v l
def fm1(f:j->AV):∀l:List _,l.flatMap (λa=>[f a])=l.map f
|[]=>rfl
|a::l=>by rw[dh,fm1 f l];rfl
def Bf5:∀l:List _,Bm (l.flatMap trC)=true
|[]=>rfl
|t::l=>by simpa using Bf5 l
def B0p:=∀h v ts,TrS h v ts->ts≠[]->ts.length<=50000->Ah h (λr h1=>Fm 1 h.nx 90 h1 r ts.length (ts.flatMap trC)) (Z.call 157 [v] h)
def B77(d:TrS h v ts)(e:ts≠[])(k:ts.length<=50000):Ah h (λr h1=>Fm 1 h.nx 90 h1 r ts.length (ts.flatMap trC)) (mr Z N 157 [v] h):=by
 rw[CbB];have i:=Kd.2 e;have a:=d;rcases d with⟨h1,_,_⟩|⟨b,off,cap,ex,cs,rfl,_⟩;. omega
 .obtain⟨w,h',f,j,g⟩:=cp (bytes:=16) om a (Bf5 _) (Ye _);exact Ey (Atv A5l ..) (Ae5 (Ey rfl (Ey f (Lo j g))))
structure Au4(bp:Nat)(st:List Tr)(h:H):Prop where
 lt:bp<h.nx
 g:∃sv,h.m.get bp=.cells [sv] 138 .exact/\ArD (bp+1) 90 h sv (st.flatMap trC)
def Au4.gr(k:Au4 bp st h)(g:Ai h h1):Au4 bp st h1:=by have⟨_,b,a⟩:=k.g;exact⟨Xq k.lt g.lo,_,(g.Cf _ k.lt).trans b,a.gr g⟩
def B0o:=∀bp r ops bs w h,Au4 bp (r++ops) h->BoS h w bs->ops.map F4=bs->ops≠[]->r.length+ops.length<=50000 ->
 Ah H0 (λa h1=>∃v,a=.Bj [v,uz]/\TrS h1 v ops/\WG bp h h1/\Au4 bp r h1) (Z.call 120 [.ptr bp 0,w] h)
def Bir(f:j->AV)(l:List _):(l.flatMap λa=>[f a]).length=l.length:=by rw[fm1,ez]
def BqN(b:H64 Z){lo:Nat}(j:Fm 1 lo 90 h v ops.length (ops.flatMap trC))(C:bp<lo)(u:BoS h w bs)(d:Au4 bp (r++ops) h)(A:ops.map F4=bs)(G:r.length+ops.length<=50000):
 ∀(k i n:Nat) (f0:L2) (hd:H),i+k=ops.length->k<n->Ai h hd ->
  Ah H0 (λF h1=>∃v,F=.Bj [v,uz]/\TrS h1 v ops/\WG bp h h1/\Au4 bp r h1) (A64 Z N n (.ptr bp 0) w (iI (r.length:Nat)) v v (iI (ops.length:Nat)) (iI i) f0 hd)
 |0,i,n,f0,hd,hi,hn,g=>by
  obtain⟨n1,rfl⟩:∃n1,n=n1+1:=⟨n-1,by omega⟩;have E:decide ((i:Int)<(ops.length:Int))=false:=df;obtain⟨sv,gb,I⟩:=(d.gr g).g;have D:=d.lt;obtain⟨B,O,c2⟩:=I.cut (m:=r.length) As7 (by rw[Bir,Yl];omega);have e1:((r++ops).flatMap trC).take r.length=r.flatMap trC:=by rw[fm1,fm1,ah,dp (by simp),Qa (by simp)]
  rw[e1]at c2;have q:=B2 c2.sl;obtain⟨Q,R⟩:=q;have gd:=g.lo;rw[BeG];refine wk ?_;exact Lo (Ed _) ⟨v,rfl,(Fm.To (l:=[B]) (e1:=138) (j.gr g) C (by simp_all)).sl,(WG.of D g).put,Xq D gd,B,A2 _ _,c2.put bp _ (Up _)⟩
 |k+1,i,n,f0,hd,hi,hn,g=>by
  obtain⟨n1,rfl⟩:∃n1,n=n1+1:=⟨n-1,by omega⟩;have E:decide ((i:Int)<(ops.length:Int))=true:=dt;obtain⟨t,o⟩:∃t,ops[i]?=some t:=⟨_,Oh om⟩;have e:bs[i]?=some (decide (9<=t.op)):=by rw[<- A,Cn,o];rfl
  obtain⟨L,P,p⟩:=R0.elem (f:=trC) (s:=1) (λ_=>rfl) (Sl.By j.sl g.keeps) o;obtain⟨b2,q,a⟩:=R0.elem (f:=boC) (s:=1) (λ_=>rfl) (Sl.By u g.keeps) e;have T:=p.ia;have J:=p.part 0 _ rfl;have M:=a.ia;have K:=a.part 0 _ rfl;rw[Vw]at J K;have z:=b t;have nq:=B16 (decide (9<=t.op));have S:=BqN b j C u d A G k (i+1) n1;rw[BeG];refine wk ?_;grind
def B75(P:50000<N)(k:H64 Z)(i:B0p Z)(f:Au4 bp (r++ops) h)(s:BoS h w bs)(A:ops.map F4=bs)(o:ops≠[])(B:r.length+ops.length<=50000):
 Ah H0 (λq h1=>∃v,q=.Bj [v,uz]/\TrS h1 v ops/\WG bp h h1/\Au4 bp r h1) (mr Z N 120 [.ptr bp 0,w] h):=by
 obtain⟨sv,gb,u⟩:=f.g;have n:=f.lt;have J:0<ops.length:=Kd.2 o;have C:bs.length=ops.length:=by grind
 have l1:∀e:H,Fo sv e=.ok (iI ((r.length+ops.length:Nat):Int)) e:=λe=>by have:=u.sl.Gs (h1:=e);rwa[Bir,Yl]at this
 have O:∀e:H,Fo w e=.ok (iI (ops.length:Int)) e:=λe=>by rw[<- C];exact s.Gs
 have D:E1 .i64 (r.length:Int)=(r.length:Int):=by rw[Cr]<;>omega
 have L:∀e:H,bo .sub 3 false (iI ((r.length+ops.length:Nat):Int)) (iI (ops.length:Int)) e=.ok (iI (r.length:Int)) e:=λe=>by simp_all
 obtain⟨K,G,c2⟩:=u.tail (m:=r.length) As7 (by rw[Bir,Yl];omega);have e1:((r++ops).flatMap trC).drop r.length=ops.flatMap trC:=by rw[fm1,fm1,ah,List.drop_append_of_le_length (by simp),Ts (by simp)];simp
 rw[e1,Bir]at c2;rw[Cb9];refine wk ?_;exact Fj (i h _ _ c2 o om) λE M j I z p=>Ey ((λe=>p.sl.Gs:∀e,Fo _ e=.ok ..) _) ((BqN Z N k p n (Sl.By s j.keeps) (f.gr j) A B ops.length 0 N _ _ om om (Ai.refl _)).mono λq F _ ⟨v,a,b,c,d⟩=>⟨v,a,b,(WG.of n j).trans n c,d⟩)
variable {h0:H}{t:Tr}{x:Nd}
def BlE(k:Au4 bp st h)(O:st.length<=50000)(u:h.m.get bp=cz [sv] 138)(t:Tr):
 ∃v' a,Ds 90 1 16 sv (.sl h.nx 0 1 1 1 true) ((Ab h).new (cz [A3 t] 90))=.ok v' a/\h.nx<a.nx/\Ge v'=true/\cellsOf v'=some [v']/\a.m.get bp=cz [sv] 138/\Au4 bp (st++[t]) (a.put bp (cz [v'] 138)) /\
  (∀x∈wrote (h.nx+1) a.lg,x=bp\/(bp<x/\NEx (h.m.get x))\/h.nx<=x)/\∀L,(∀x∈L,x∈h.lg\/x=bp\/(bp<x/\NEx (h.m.get x))\/h.nx<=x)->WG bp h (Be L (a.put bp (cz [v'] 138))):=by
 obtain⟨j,d,I⟩:=k.g;rw[u]at d;obtain rfl:sv=j:=by cases d;rfl
 have M:=k.lt;have s:Ai h ((Ab h).new (cz [A3 t] 90)):=(Ai.refl h).nl.new _;have K:Sl 1 ((Ab h).new (cz [A3 t] 90)) (.sl h.nx 0 1 1 1 true) 1 [A3 t]:=Sl.lit (h:=Ab h) (Bf _) rfl rfl;have n:Ge (A3 t)=true:=by cases t<;>rfl
 obtain⟨v',a,D,A,p,q,q5⟩:=(I.gr s).push (bytes:=16) K.src n (by show bp+1<=h.nx+1;omega) (by rw[Bir];omega);have b:∀c,c<h.nx->((Ab h).new (cz [A3 t] 90)).m.get c=h.m.get c:=λc hc=>s.Cf c hc;have i:((Ab h).new (cz [A3 t] 90)).nx=h.nx+1:=rfl;have o:a.m.get bp=cz [sv] 138:=(q bp (Up _)).trans ((b bp M).trans u);obtain⟨G,F⟩:=B2 A.sl;rw[i]at p;refine⟨v',a,D,p,G,F,o,⟨by show bp<a.nx;omega,v',A2 _ _,?_⟩,λx J=>?_,λL E=>⟨?_,?_,?_,E⟩⟩;. rw[V5];exact A.put bp _ (Up _)
 .rcases q5.lg x (D4 _ _ _ J).1 with f|⟨f,C⟩|f;. cases f
  .by_cases B:h.nx<=x;. simp[*]
   .exact .inr (.inl ⟨f,λcs e z=>C cs e ((b x om).trans z)⟩)
  grind
 .show h.nx<=a.nx;omega
 .intro c hc;show(a.put bp _).m.get c=_;rw[Aq _ _ _ om,q c om,b c om]
 .intro c hc hn z;show(a.put bp _).m.get c=_;rw[Aq _ _ _ hn,q5.st c om (by grind),b c hc]
abbrev Blz(bp:Nat)(st:List Tr)(h:H):AV->H->Prop:=λrv h1=>rv=uz/\WG bp h h1/\Au4 bp st h1
def P63:=∀bp st a x h,Au4 bp st h->Fa st x=some a->st.length<=49990->Ah H0 (Blz bp a h) (Z.call 85 [.ptr bp 0,.agg (Bw x)] h)
def A7b{b:H}{v':AV}{d:List EF}(f:Au4 bp ts (b.put bp (cz [v'] 138)))(o:∀x∈wrote (h.nx+1) b.lg,x=bp\/(bp<x/\NEx (h.m.get x))\/h.nx<=x)(i:∀L,(∀x∈L,x∈h.lg\/x=bp\/(bp<x/\NEx (h.m.get x))\/h.nx<=x)->WG bp h (Be L (b.put bp (cz [v'] 138))))
 (q:∀e∈d,e.w=[]\/((∀x∈e.w,x=bp\/(bp<x/\NEx (h.m.get x))\/h.nx<=x)/\∀a∈d,Jo e a=true):=by (repeat (refine fI (by first|exact .inl rfl|exact .inr ⟨by assumption,Ag9⟩|exact .inr ⟨λx n=>.inl (W9.1 (D4 _ x [_] n).1),Ag9⟩) ?_));exact fN):
 Ah H0 (Blz bp ts h) (Ff h.lg d ((Ab b).put bp (cz [v'] 138)) λj=>.ok uz j):=
 Axi (λx=>x=bp\/(bp<x/\NEx (h.m.get x))\/h.nx<=x) q λL k=>Lo (Ed _) ⟨rfl,i L k,f.lt,f.g⟩
def Awd{l}{i:Nat}(e:TrS h v l)(hi:l[i]?=some t):∃b o,(∀a,Gc 1 v (iI i) a=.ok (.ptr b o) a)/\∀a,Bi h a->Ae (some none) (.ptr b o) a=.ok (A3 t) a:=by have⟨b,o,d⟩:=R0.elem (f:=trC) (λ_=>rfl) e hi;exact⟨b,o,d.ia,d.part 0 _ rfl⟩
def AyD(h:Gf st bs=some (r,ops)):st=r++ops/\ops.map F4=bs:=by
 unfold Gf at h;split at h;. cases h;simp_all
 grind
def b63(Ov:B0o Z)(k:Au4 bp st h)(f:Fa st x=some ts)(O:st.length<=49990):Ah H0 (Blz bp ts h) (Ay prog Z N false 85 [.ptr bp 0,.agg (Bw x)] h):=by
 have B6:=k.lt;rw[q63];refine Ey (Hg ..) ?_;have gN:Ai h (h.new (cz (Bw x) 64)):=(Ai.refl h).new _;have P:(h.new (cz (Bw x) 64)).m.get h.nx=cz (Bw x) 64:=Bf _;have o:=k.gr gN;have Zo:(h.new (cz (Bw x) 64)).nx=h.nx+1:=rfl;refine Ah.mono (R:=Blz bp ts (h.new (cz (Bw x) 64))) ?_ λrv h1 _ ⟨a,b,c⟩=>⟨a,(WG.of B6 gN).trans B6 b,c⟩;generalize h.new (cz (Bw x) 64)=hb at *
 obtain⟨sv,gw,hs⟩:=o.g;have Hr:h.nx≠bp:=by omega
 unfold Fa at f;by_cases k3:x.op<=3
 .have d3:=Ws k3;rw[Xo k3]at f;obtain rfl:=Ck f;obtain⟨v',h6,I,a2,a3,a4,a5,M,L,K⟩:=BlE (sv:=sv) o om gw (.leaf x);rw[Zo]at I;refine wk ?_;refine Ey I ?_;refine wk ?_;exact A7b M L K
 .have d3:=Yc k3;rw[X2 k3]at f;by_cases D:x.op=7\/x.op=17
  .rw[Xo D]at f;obtain⟨b,C⟩:∃b,b=decide (x.op=17):=⟨_,rfl⟩;rw[<- C]at f;split at f
   .rename_i r a E;obtain rfl:=Ck f;obtain⟨rfl,G⟩:=AyD E;have hc:=Ov bp r [a] [b] (.sl hb.nx 0 1 1 1 true) (hb.new (cz [.bool b] 4)) (o.gr ((Ai.refl hb).new _)) (Sl.lit (Bf _) rfl rfl) G (by simp) (by simp at O ⊢;omega);rw[Zo]at hc;have d7:decide (x.op=7)=!b:=by rw[C];rcases D with e|e<;>simp[e]
    have d17:=C.symm;have nb:(hb.new (cz [.bool b] 4)).nx=hb.nx+1:=rfl;have d:(hb.new (cz [.bool b] 4)).m.get h.nx=cz (Bw x) 64:=(Cq _ _ om).trans P;have V:Ai hb (hb.new (cz [.bool b] 4)):=(Ai.refl hb).new _;clear f E C D hs;have A:=o.lt;have T:r.length<=50000:=by simp at O;omega
    cases b;all_goals
     refine wk ?_;refine zc0 hc λv1 h2 ⟨F,U,B,u,z⟩=>?_;subst U;have g2:=(u.ex h.nx _ _ om Hr d).trans d;have wg:=(WG.of A V).trans A u;obtain⟨W,n,_⟩:=z.g;obtain⟨S,X,J,x2⟩:=Awd (i:=0) B rfl;obtain⟨v',h6,I,a2,a3,a4,a5,M,L,K⟩:=BlE z T n (.one x.op a);have l2:=wg.nx;replace J:∀j:H,Gc 1 F (iI 0) j=.ok (.ptr S X) j:=J;clear P gw d k o G u z B hc;refine wk ?_;refine Ey I ?_;refine wk ?_;exact(A7b M L K).mono λrv h3 _ ⟨p,q,s⟩=>⟨p,wg.trans A q,s⟩
   .cases f
  .have d7:decide (x.op=7)=false:=Yc λe=>D (.inl e);have d17:decide (x.op=17)=false:=Yc λe=>D (.inr e);rw[X2 D]at f;by_cases Y:x.op=8
   .have d8:=Ws Y;rw[Xo Y]at f;split at f
    .rename_i r c a b E;obtain rfl:=Ck f;obtain⟨rfl,G⟩:=AyD E;have hc:=Ov bp r [c,a,b] [true,false,false] (.sl hb.nx 0 3 3 1 true) (hb.new (cz [uz,ux,ux] 4)) (o.gr ((Ai.refl hb).new _)) (Sl.lit (Bf _) rfl rfl) G (by simp) (by simp at O ⊢;omega);rw[Zo]at hc;have nb:(hb.new (cz [uz,ux,ux] 4)).nx=hb.nx+1:=rfl;have d:(hb.new (cz [uz,ux,ux] 4)).m.get h.nx=cz (Bw x) 64:=(Cq _ _ om).trans P;have V:Ai hb (hb.new (cz [uz,ux,ux] 4)):=(Ai.refl hb).new _;have A:=o.lt;have T:r.length<=50000:=by simp at O;omega
     clear f E D hs;refine wk ?_;refine zc0 hc λv1 h2 ⟨F,U,B,u,z⟩=>?_;subst U;have g2:=(u.ex h.nx _ _ om Hr d).trans d;have wg:=(WG.of A V).trans A u;obtain⟨W,n,_⟩:=z.g;obtain⟨b0,o0,Q,y0⟩:=Awd (i:=0) B rfl;obtain⟨S,X,J,y1⟩:=Awd (i:=1) B rfl;obtain⟨b2,o2,x2,y2⟩:=Awd (i:=2) B rfl;obtain⟨v',h6,I,a2,a3,a4,a5,M,L,K⟩:=BlE z T n (.three c a b);have l2:=wg.nx;replace Q:∀j:H,Gc 1 F (iI 0) j=.ok (.ptr b0 o0) j:=Q;replace J:∀j:H,Gc 1 F (iI 1) j=.ok (.ptr S X) j:=J;replace x2:∀j:H,Gc 1 F (iI 2) j=.ok (.ptr b2 o2) j:=x2;clear P gw d k o G u z B hc;refine wk ?_;refine Ey I ?_;refine wk ?_;exact(A7b M L K).mono λrv h3 _ ⟨p,q,s⟩=>⟨p,wg.trans A q,s⟩
    .cases f
   .have d8:=Yc Y;rw[X2 Y]at f;obtain⟨e,he⟩:∃e,(decide (x.op=15)||decide (x.op=16))=e:=⟨_,rfl⟩;rw[he]at f;split at f
    .rename_i r a b E;obtain rfl:=Ck f;obtain⟨rfl,G⟩:=AyD E;have hc:=Ov bp r [a,b] [e,e] (.sl hb.nx 0 2 2 1 true) (hb.new (cz [.bool e,.bool e] 4)) (o.gr ((Ai.refl hb).new _)) (Sl.lit (Bf _) rfl rfl) G (by simp) (by simp at O ⊢;omega);rw[Zo]at hc;have nb:(hb.new (cz [.bool e,.bool e] 4)).nx=hb.nx+1:=rfl;have d:(hb.new (cz [.bool e,.bool e] 4)).m.get h.nx=cz (Bw x) 64:=(Cq _ _ om).trans P;have V:Ai hb (hb.new (cz [.bool e,.bool e] 4)):=(Ai.refl hb).new _;have A:=o.lt;have T:r.length<=50000:=by simp at O;omega
     have d15:decide (x.op=15)=true/\e=true\/decide (x.op=15)=false/\decide (x.op=16)=e:=by rw[<- he];cases decide (x.op=15)<;>simp
     clear f E D hs he;rcases d15 with⟨d15,rfl⟩|⟨d15,d16⟩
     all_goals
      refine wk ?_;refine zc0 hc λv1 h2 ⟨F,U,B,u,z⟩=>?_;subst U;have g2:=(u.ex h.nx _ _ om Hr d).trans d;have wg:=(WG.of A V).trans A u;obtain⟨W,n,_⟩:=z.g;obtain⟨b0,o0,Q,y0⟩:=Awd (i:=0) B rfl;obtain⟨S,X,J,y1⟩:=Awd (i:=1) B rfl;obtain⟨v',h6,I,a2,a3,a4,a5,M,L,K⟩:=BlE z T n (.two x.op a b);have l2:=wg.nx;replace Q:∀j:H,Gc 1 F (iI 0) j=.ok (.ptr b0 o0) j:=Q;replace J:∀j:H,Gc 1 F (iI 1) j=.ok (.ptr S X) j:=J;clear P gw d k o G u z B hc;refine wk ?_;refine Ey I ?_;refine wk ?_;exact(A7b M L K).mono λrv h3 _ ⟨p,q,s⟩=>⟨p,wg.trans A q,s⟩
    .cases f
variable {l:List Nd}{c:Bool}
def N3(h:Qt x=false):decide (x.op<1)=false/\decide (17<x.op)=false /\
 (decide (x.n=0)=false/\decide (x.op=1)=true/\decide (x.Zn=[])=true/\decide (x.op=3)=false\/decide (x.n=0)=true/\decide (x.Zn=[])=true/\decide (x.op=3)=false \/
  decide (x.n=0)=true/\decide (x.Zn=[])=true/\decide (x.op=3)=true\/decide (x.n=0)=true/\decide (x.Zn=[])=false/\decide (x.op=2)=true/\decide (x.op=3)=false \/
  decide (x.n=0)=true/\decide (x.Zn=[])=false/\decide (x.op=2)=false/\decide (x.op=3)=true):=by unfold Qt at h;by_cases a:x.op=1<;>by_cases b:x.op=2<;>by_cases d:x.op=3<;>by_cases e:x.n=0<;>by_cases q5:x.Zn=[]<;>simp[a,b,d,e,q5]at h ⊢<;>omega
def Bf6{l}{j}{y}(h:l[j]?=some y):AcU l j=y.op:=by unfold AcU;grind
def B8y{l}{i}(h:Ou l i x=false)(e:decide (x.op=3)=true)(hi:i<l.length):decide (i=0)=false/\decide (l.length<=i+1)=false /\
 ∃y z,l[i-1]?=some y/\l[i+1]?=some z/\decide (y.op=2)=true/\(decide (z.op=9)=true\/decide (z.op=9)=false/\decide (z.op=10)=true):=by
 unfold Ou at h;rw[e]at h;simp[Bool.true_and,dq,X9,Nat.not_le]at h;have⟨⟨⟨h1,d⟩,a⟩,b⟩:=h;refine⟨Yc h1,Yc om,_,_,Oh (by omega),Oh a,?_,?_⟩;. rw[Bf6 (Oh (by omega))]at d;grind
 .rw[Bf6 (Oh a)]at b;grind
set_option maxHeartbeats 1000000 in
def B1v(d:P63 Z)(m:H64 Z)(C:Ue h v l)(E:l.length<=3000)(j:h.nx<=bp)(hc:F4 t=c):
 ∀(rest pre:List Nd) (st:List Tr) (n:Nat) (hd:H) (f0:L2),l=pre++rest->rest.length<n->Dm l st pre.length rest=some [t]->st.length<=pre.length->Au4 bp st hd->Ai h hd ->
  Ah h (λP _=>P=.Bj [A3 t,uz]) (Baq Z N n v (.bool c) (.ptr bp 0) v (iI (l.length:Nat)) (iI (pre.length:Nat)) f0 hd)
 |[],pre,st,n,hd,f0,q,hn,A,F,k,g=>by obtain⟨n1,rfl⟩:∃n1,n=n1+1:=⟨n-1,by omega⟩;rw[F0]at q;subst q;obtain rfl:st=[t]:=Ck A;obtain⟨sv,gw,hs⟩:=k.g;have B6:=k.lt;have k1:decide ((l.length:Int)<(l.length:Int))=false:=df;have l1:∀a:H,Fo sv a=.ok (iI 1) a:=λa=>hs.sl.Gs;obtain⟨V,o1,T,Y⟩:=Awd (i:=0) (l:=[t]) hs.sl rfl;replace T:∀a:H,Gc 1 sv (iI 0) a=.ok (.ptr V o1) a:=T;have z:=m t;have Wh:decide (9<=t.op)=c:=hc;have nq:=B16 c;rw[Bhl];refine wk ?_;exact zr g rfl
 |x::rest,pre,st,n,hd,f0,q,hn,A,F,k,g=>by
  obtain⟨n1,rfl⟩:∃n1,n=n1+1:=⟨n-1,by omega⟩;have K:l.length=pre.length+(rest.length+1):=by rw[q];simp
  have G:l[pre.length]?=some x:=by rw[q];simp
  have k1:decide (pre.length<l.length)=true:=dt;have b:=Sl.By C g.keeps;obtain⟨V,o1,B⟩:=R0.elem (f:=Bw) (s:=3) (λ_=>rfl) b G;have T:=B.ia;have x2:=B.all;have hlen:∀a:H,Fo v a=.ok (iI (l.length:Int)) a:=λa=>b.Gs;unfold Dm at A;split at A
  .cases A
  .rename_i I;simp only[ba,not_or,Bool.not_eq_true]at I;obtain⟨p,o⟩:=I;split at A
   .rename_i U0 M;have B6:=k.lt;have ih:=B1v d m C E j hc rest (pre++[x]) U0 n1;have go:∀(J:H) (f0:AV->AV->AV->L2),Ai hd J->Ah h (λP _=>P=.Bj [A3 t,uz]) (Aa (Z.call 85 [.ptr bp 0,.agg (Bw x)] J) λO h1=>mM (Qe .not O) (λv2=>mC v2 (.ok (.Bj [.B3,ux])) (mM (bo .add 3 true (iI (pre.length:Nat)) (iI 1)) λX=>Baq Z N n1 v (.bool c) (.ptr bp 0) v (iI (l.length:Nat)) X (f0 O v2 X))) h1):=λJ f0 g5=>by
     obtain⟨O,h6,e6,_,rfl,q2,q3⟩:=d bp st U0 x J (k.gr g5) M om;refine Ey e6 ?_;have Cex:=AbP M;have D:=λf=>ih h6 f (by rw[q];simp) (by simp at hn;omega) (by rw[Yl];exact A) (by simp;omega) q3 (WG.own (g.trans g5) q2 j);have e1:((pre++[x]).length:Int)=(pre.length:Int)+1:=by simp
     simp only[e1]at D;have Z1:(pre.length:Int)<=3000:=by omega
     refine wk ?_;exact D _
    have hlp:pre.length<=2999:=by omega
    clear A M ih;rw[Bhl];obtain⟨s1,s2,s3⟩:=N3 p;have wt:∀(w:Bool) (r:OR) (a:H),Ad (.Bj []) w r a=.ok (.Bj []) a:=λw r a=>A0V [] w r a;have u:=λf=>go ((hd.new (cz [iI 0,iI 0,.str []] 64)).put hd.nx (cz (Bw x) 64)) f (((Ai.refl hd).new _).put _ _ (Ye _));rcases s3 with⟨s3,W,L,s6⟩|⟨s3,L,s6⟩|⟨s3,L,s6⟩|⟨s3,L,W,s6⟩|⟨s3,L,W,s6⟩
    .clear go k B b G q hn F K d m j E p o C hc g;refine wk ?_;exact u _
    .clear go k B b G q hn F K d m j E p o C hc g;refine wk ?_;exact u _
    rotate_left
    .clear go k B b G q hn F K d m j E p o C hc g;refine wk ?_;exact u _
    all_goals
     obtain⟨i0,U,y,z,hy,hz,y2,R⟩:=B8y o s6 om;obtain⟨b3,o3,S⟩:=R0.elem (f:=Bw) (s:=3) (λ_=>rfl) b hy;obtain⟨b4,o4,Q⟩:=R0.elem (f:=Bw) (s:=3) (λ_=>rfl) b hz;have e1:((pre.length-1:Nat):Int)=(pre.length:Int)-1:=by have:=bh i0;omega
     have e2:((pre.length+1:Nat):Int)=(pre.length:Int)+1:=by omega
     have i2:decide ((l.length:Int)<=(pre.length:Int)+1)=false:=Yc λe=>by have:=bh U;omega
     have i1:decide (pre=[])=false:=Yc λe=>by rw[e]at i0;cases i0
     have Y:=S.ia;have z1:=Q.ia;have y3:∀a:H,Bi hd a->Ae (some none) (.ptr b3 o3) a=.ok (iI y.op) a:=S.part 0 _ rfl;have z3:∀a:H,Bi hd a->Ae (some none) (.ptr b4 o4) a=.ok (iI z.op) a:=Q.part 0 _ rfl;rw[e1]at Y;rw[e2]at z1;rcases R with R|⟨R,z10⟩
     all_goals
      clear go k B b G q hn F K d m j E p o C hc g S Q hy hz e1 e2 i0 U;refine wk ?_;exact u _
   .cases A
def b28(d:P63 Z)(b:H64 Z)(k:3000<N)(e:Ue h v l)(f:l.length<=3000)(a:Je l c=some t):
 Ah h (λi _=>i=.Bj [A3 t,uz]) (mr Z N 51 [v,.bool c] h):=by
 unfold Je at a;split at a
 .rename_i j g;split at a;. rename_i hc;obtain rfl:=Ck a;have hd:Ai h (h.new (cz [.Bv] 138)):=(Ai.refl h).new _;rw[q28];exact Ey (Hg ..) (Ey (Sl.By e hd.keeps).Gs (B1v Z N d b e f (Ye _) hc l [] _ N _ _ rfl om g (by simp) ⟨Up _,_,Bf _,.inl ⟨rfl,rfl⟩⟩ hd))
  grind
 grind
end Go.Proofs
