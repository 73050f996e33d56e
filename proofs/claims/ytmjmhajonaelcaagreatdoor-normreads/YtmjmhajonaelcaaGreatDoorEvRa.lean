/- Limbs: Cmp. -/
import Derived.Test.YtmjmhajonaelcaaGreatDoorEvLd
set_option linter.all false
set_option maxRecDepth 100000
noncomputable section
namespace Go.Proofs
open Go Go.Ev Go.Nm Tryz Go.Ev.Sx
attribute [local irreducible] Aa Al Af Ad
variable (Z cx:Ac)(N:Nat)
variable {h h1:H}{s:uq}{w:AV}{b:Nat}
def AoG(i:Nat):uw:=(List.range 256).map λc=>.bool (decide (48<=c/\c<48+i))
def A3S b(h:H):=b<h.nx/\h.m.get b=cz (AoG 10) 231
def A3S.gr(k:A3S b h)(g:Ai h h1):A3S b h1:=⟨Xq k.1 g.lo,(g.Cf b k.1).trans k.2⟩
def B4N{b c:Nat}(hc:c<256) hh:AxM 256 1 (.ptr b 0) (cw c) hh=.ok (.ptr b c) hh:=by show @Bool.rec (λ_=>OR) _ (.ok (.ptr b (0+c*1)) _) _=_;rw[show Nat.blt c _=true by simp[*],ae,Rx]
def Btd:=∀(b c:Nat) h,A3S b h->c<256->Ah h (λr _=>r=.bool (decide (48<=c/\c<48+10))) (Z.call 198 [.ptr b 0,cw c] h)
def Cdh{c:Nat}(k:A3S b h)(hc:c<256):Ah h (λr _=>r=.bool (decide (48<=c/\c<48+10))) (mr Z N 198 [.ptr b 0,cw c] h):=by have d:=B4N (b:=b) hc;have a:=(⟨k.1,_,_,k.2,trivial⟩:Nv h b _).one (o:=c) (x:=.bool (decide (48<=c/\c<48+10))) (by unfold AoG;grind);generalize decide (48<=c/\c<48+10)=B at *;rw[B9m];refine wk ?_;exact zr Ex rfl
def Bfz(e:Btd Z)(k:A3S b h):∀(i n:Nat) (s:uq) (hd:H) (f0:L2),Ai h hd->Dgs s->s.length=i->i<n->i<=2000->Ah h (λr _=>r=.str []) (A0D Z N n (.str s) (.ptr b 0) f0 hd)
|0,n,s,hd,f0,g,f,m,hn,hi=>by obtain⟨n1,rfl⟩:∃n1,n=n1+1:=⟨n-1,by omega⟩;obtain rfl:=Vz.1 m;rw[BeM];refine wk ?_;exact zr Ex rfl
|i+1,n,s,hd,f0,g,f,m,hn,hi=>by
 obtain⟨n1,rfl⟩:∃n1,n=n1+1:=⟨n-1,by omega⟩;have d:s[i]?=some (s[i]' om):=Oh om;generalize s[i]' om=c at d;have B:=f c (Vl d);have p:=λhd f0 g=>Bfz e k i n1 (s.take i) hd f0 g (λc hc=>f c (ax hc)) (by simp_all) om om;have t:∀a:H,xIx prog .str (.str s) (iI ((i:Int))) a=.ok (cw (c:Int)) a:=λa=>A0l d;have y:∀a:H,xSl prog 9 (.str s) none (some (iI (i:Int))) a=.ok (.str (s.take i)) a:=λa=>Awe xi9 om;have o:=λa g=>e b c a (k.gr g) om;rw[Ws (show 48<=c/\c<48+10 by omega)]at o;obtain⟨sl,q⟩:∃x:Int,x=(s.length:Int):=⟨_,rfl⟩;have E:∀a:H,lnS (.str s) a=.ok (iI sl) a:=λa=>by simp_all
 have z:decide (0<sl)=true:=dt;obtain⟨j,hj⟩:∃j:Int,j=(i:Int):=⟨_,rfl⟩;rw[<- hj]at t y;have e1:sl=j+1:=by omega
 have r1:0<=j:=by omega
 have A:j<=2000:=by omega
 clear f m q hj d;rw[BeM];refine wk ?_;exact Fj (o _ g) λD h1 e1 l1 u C=>wk ((show ∀hd f0,Ai h _->Ah h .. from p) _ _ (g.trans e1))
def Btc:=∀b s h,A3S b h->Dgs s->s.length<=2000->Ah h (λr _=>r=.str []) (Z.call 179 [.str s,.ptr b 0] h)
def Cdd(f:2001<N)(a:Btd Z)(k:A3S b h)(d:Dgs s)(e:s.length<=2000):Ah h (λr _=>r=.str []) (mr Z N 179 [.str s,.ptr b 0] h):=by rw[B8V];exact Bfz Z N a k _ _ s _ _ (Ai.refl h) d rfl om e
def B1f:=∀v h,Ah h (λr _=>r=.str []) (Z.call 178 [.str [],v] h)
def Cdc(a:2001<N) v:Ah h (λr _=>r=.str []) (mr Z N 178 [.str [],v] h):=by obtain⟨n1,rfl⟩:∃n1,N=n1+1:=⟨N-1,by omega⟩;rw[B8U,Blv];refine wk ?_;exact zr Ex rfl
abbrev dgT:=[48,49,50,51,52,53,54,55,56,57]
def Bth:∀i,i<10->Ng (AoG i) [uz] (48+i)=some (AoG (i+1))
|0,_=>by rfl
|1,_=>by kernel_rfl
|2,_=>by kernel_rfl
|3,_=>by kernel_rfl
|4,_=>by kernel_rfl
|5,_=>by kernel_rfl
|6,_=>by kernel_rfl
|7,_=>by kernel_rfl
|8,_=>rfl
|9,_=>rfl
|i+10,h=>absurd h om
def BvU:∀i,i<10->dgT[i]?=some (48+i):=by decide
def Bii{h}{a}{d}{ca}{na}{v}(e:h.m.get a=cz ca d)(f:na=ca.length):Vk [.c (some (some na)) (.ptr a 0),.v v] h=.ok (.Bj [.agg ca,v]) h:=by simp_all
def BjK{A C}{ty}{n}(a:h.m.get b=cz C ty)(d:A.length=C.length)(hn:n=A.length)(h1:Bm A=true)(hc:cellsOf (.agg A)=some A):A4 n (.ptr b 0) (.agg A) h=.ok (.Bj []) (h.put b (cz A ty)):=by simp[a,hc,h1,hn,lw,d]
def Bfy:∀(u i n:Nat) (hd:H) (f0:L2),i+u=10->u<n->Ai h hd->hd.m.get h.nx=cz (AoG i) 231->h.nx<hd.nx->Ah h (λr _=>r=.Bj [.agg (AoG 10),uz]) (A6H Z N n (.str dgT) (.ptr h.nx 0) (iI (i:Int)) f0 hd)
|0,i,n,hd,f0,hu,hn,g,d,e=>by
 obtain⟨n1,rfl⟩:∃n1,n=n1+1:=⟨n-1,by omega⟩;obtain rfl:i=10:=by omega
 have c0:Nv hd h.nx (AoG 10):=⟨e,_,_,d,trivial⟩;have f:(AoG 10).length=256:=by rfl
 have o:∀a:H,lnS (.str dgT) a=.ok (iI 10) a:=λa=>rfl;have j:=BjK (n:=256) d rfl f.symm (by rfl) (by rfl);rw[BeK];generalize AoG 10=A at *;refine wk ?_;rw[Qa om];refine Ey j ?_;rw[Bii (A2 _ _) f.symm];exact zr (g.put _ _ (Ye _)) rfl
|u+1,i,n,hd,f0,hu,hn,g,d,e=>by
 obtain⟨n1,rfl⟩:∃n1,n=n1+1:=⟨n-1,by omega⟩;have k:=Bfy u (i+1) n1;have p:decide ((i:Int)<10)=true:=dt;have o:∀a:H,lnS (.str dgT) a=.ok (iI 10) a:=λa=>rfl;have x:∀a:H,xIx prog .str (.str dgT) (iI (i:Int)) a=.ok (cw ((48+i:Nat):Int)) a:=λa=>A0l (BvU i om);have t:=λa=>B4N (b:=h.nx) (c:=48+i) om a;have q:∀a:H,Aj prog .geq 5 true (cw ((48+i:Nat):Int)) (cw 128) a=.ok ux a:=λa=>by show OR.ok (.bool (Ib (ilt ((48+i:Nat):Int) 128))) a=_;rw[Il,Ws om];rfl
 have j:A4 1 (.ptr h.nx (48+i)) uz hd=.ok (.Bj []) (hd.put h.nx (cz (AoG (i+1)) 231)):=by simp[d,Bth i om]
 rw[BeK];generalize 48+i=ci at *;exact wk (k _ _ om om (g.put _ _ (Ye _)) (A2 ..) e)
def B1e:=∀h,Ah h (λr _=>r=.Bj [.agg (AoG 10),uz]) (Z.call 177 [.str dgT] h)
def Cdb(a:11<N):Ah h (λr _=>r=.Bj [.agg (AoG 10),uz]) (mr Z N 177 [.str dgT] h):=by rw[B8T];exact Ey rfl ((λf0=>Bfy Z N 10 0 N _ _ rfl om ((Ai.refl h).new _) (Bf _) (Up _)) _)
def B1c:=∀s h,s≠[]->Dgs s->s.length<=2000->Ah h (λr _=>r=.str []) (Z.call 147 [.str s,.str dgT] h)
def CcU(g:B1e Z)(e:Btc Z)(f:B1f Z)(m:s≠[])(t:Dgs s)(q:s.length<=2000):Ah h (λr _=>r=.str []) (mr Z N 147 [.str s,.str dgT] h):=by
 have B:decide (s=[])=false:=Yc m;have L:∀a:H,lnS (.str dgT) a=.ok (iI 10) a:=λa=>rfl;have M:∀(w:Bool) (r:OR) (a:H),Ad (.Bj []) w r a=.ok (.Bj []) a:=λw r a=>A0V [] w r a;have F:(AoG 10).length=256:=by rfl
 have c2:Bm (AoG 10)=true:=by rfl
 have c3:cellsOf (.agg (AoG 10))=some (AoG 10):=by rfl
 have d:=λb a (k:A3S b a)=>e b s a k t q;unfold A3S at d;have i:=λa=>g a;rw[B8I];generalize AoG 10=A at *;have k2:decide (dgT=[])=false:=rfl;refine wk ?_;refine Fj (i _) λE h2 o l2 u O=>(wk (Fj (d _ _ ⟨Up _,A2 ..⟩) λC J x G j n=>?_));subst n;refine Fj (f ..) λK D z I y p=>?_;subst p;exact zr ((((o.new _).put _ _ l2).trans x).trans z) rfl
def AlG{n}(hn:Num n):V8 n≠[]/\Dgs (V8 n)/\(V8 n).length<=10/\((V8 n)[0]?=some 48->V8 n=[48]):=by
 have⟨h1,_,_,a,_⟩:=Alj hn.1 hn.2;refine⟨λh=>by grind,h1,a,λh0=>?_⟩;by_cases d:1<(V8 n).length;. grind
 .have⟨c,_⟩:=List.length_eq_one_iff.1 (show(V8 n).length=1 by omega);simp_all
def Bl8:=∀n h,Num n->Ah h (λr _=>r=uz) (Z.call 109 [.str (V8 n)] h)
def CcI(g:B1c Z){n:Int}(hn:Num n):Ah h (λr _=>r=uz) (mr Z N 109 [.str (V8 n)] h):=by
 have⟨d1,d2,d3,d4⟩:=AlG hn;have hc:=λa=>g _ a d1 d2 om;generalize V8 n=s at *;have p:=Yc d1;have⟨c,f⟩:∃c,s[0]?=some c:=⟨_,Oh (Kd.2 d1)⟩;have i:∀a,xIx _ _ _ (iI 0) a=.ok ..:=λa=>A0l f;have⟨o,d⟩:∃x:Int,x=c:=⟨_,rfl⟩;rw[<- d]at i;rw[B88];by_cases k:s=[48];. have k2:=Ws k;clear k d1 d2 d3 d4 f;refine wk ?_;exact Fj (hc _) λm h1 e1 l1 e j=>(wk (zr Ex rfl))
 .have k2:=Yc k;have q:∀a,Aj _ _ 5 _ (.int _ o) (.int _ 48) a=.ok uz _:=λa=>by rw[ne8,Yc λh=>k (d4 (by grind))];rfl
  clear k d1 d2 d3 d4 f d;refine wk ?_;exact Fj (hc _) λm h1 e1 l1 e j=>(wk (zr Ex rfl))
def B1a:=∀n h,Num n->Ah h (λr _=>r=iI 0) (Z.call 79 [.str (V8 n)] h)
def CcS(a:Bl8 Z){n}(hn:Num n):Ah h (λr _=>r=iI 0) (mr Z N 79 [.str (V8 n)] h):=by have⟨_,_,_,_⟩:=AlG hn;rw[B8D];exact Fj ((λd=>a n d hn) _) λg h1 e1 l1 e f=>wk (zr Ex rfl)
def B1j:=∀s h,s≠[]->s[0]?≠some 45->Ah h (λr _=>r=ux) (Z.call 174 [.str s,.str [45]] h)
def Cdg(h1:s≠[])(h2:s[0]?≠some 45):Ah h (λr _=>r=ux) (mr Z N 174 [.str s,.str [45]] h):=by
 have l0:=Kd.2 h1;have f:decide ((1:Int)<=s.length)=true:=dt;have i:∀d,xSl _ 9 (.str s) _ (some (iI 1)) d=.ok ..:=λd=>Awe (k:=1) xi9 om;have g:decide (s.take 1=[45])=false:=Yc λe=>h2 (by cases s with
  |nil=>grind
  |cons a l=>simp_all);rw[B9l];refine wk ?_;exact zr Ex rfl
def B1d:=∀s h,s≠[]->s[0]?≠some 45->Ah h (λr _=>r=.Bj [.str s,ux]) (Z.call 146 [.str s,.str [45]] h)
def Cda(a:B1j Z)(h1:s≠[])(h2:s[0]?≠some 45):Ah h (λr _=>r=.Bj [.str s,ux]) (mr Z N 146 [.str s,.str [45]] h):=by rw[B8S];exact Fj (a s h h1 h2) λe h1 e1 l1 d f=>wk (zr Ex rfl)
def B1b:=∀s h,s≠[]->s[0]?≠some 45->Ah h (λr _=>r=.Bj [.str s,ux]) (Z.call 108 [.str s,.str [45]] h)
def CcT(a:B1d Z)(h1:s≠[])(h2:s[0]?≠some 45):Ah h (λr _=>r=.Bj [.str s,ux]) (mr Z N 108 [.str s,.str [45]] h):=by rw[B8H];exact Fj (a s h h1 h2) λe h1 e1 l1 d f=>wk (zr Ex rfl)
def BsW:=∀n h,Num n->Ah h (λr _=>r=.Bj [ux,.str (V8 n),uz]) (Z.call 78 [.str (V8 n)] h)
def CcH(f:B1b Z)(a:Bl8 Z){n}(hn:Num n):Ah h (λr _=>r=.Bj [ux,.str (V8 n),uz]) (mr Z N 78 [.str (V8 n)] h):=by have⟨d1,d2,d3,d4⟩:=AlG hn;rw[B87];refine Fj ((λd=>f _ d d1 λe=>by have:=d2 _ (Vl e);omega) _) λk h1 e1 l1 i j=>(wk ?_);refine Fj ((λd=>a n d hn) _) λv2 h2 o l2 g m=>wk ?_;exact zr Ex rfl
variable {v:AV}{ls:uq}
abbrev Abb(x:Nat):uw:=[cn x]
abbrev NtS h v ls:=R0 1 Abb h v ls
def NtS.gr(k:NtS h v ls)(g:Ai h h1):NtS h1 v ls:=Sl.gr k g
def Bd5(ls:List _):(ls.flatMap Abb).length=ls.length:=by rw[Aa9 (f:=Abb) λ_=>rfl,ae]
def Bfb:∀(ls:List _) u,(ls.flatMap Abb).take u=(ls.take u).flatMap Abb
|[],u=>by simp
|x::ls,0=>rfl
|x::ls,u+1=>by show AV.int _ x::(ls.flatMap _).take u=_;rw[Bfb _ u];rfl
def B5W P(a:P=prog):Hp P 127=.sl ⟨175,1,8⟩:=by subst a;rfl
def Bjw{u}(k:NtS h v ls)(h0:0<ls.length)(d:u<=ls.length):∃v',(∀a,xSl prog 127 v none (some (iI u)) a=.ok v' a)/\NtS h v' (ls.take u)/\∀b off n cap ex,v=.sl b off n cap 1 ex->v'=.sl b off u cap 1 ex:=by
 rcases k with⟨e,_,_⟩|⟨b,off,cap,ex,cs,rfl,f,g,i,q5⟩;. omega
 .refine⟨.sl b off u cap 1 ex,λa=>?_,?_,λ_ _ _ _ _ e=>by grind⟩;. rw[Aau (B5W _ rfl)];unfold AkE;rw[show Nat.ble 0 u=true by simp,show Nat.ble u _=true by simpa using Ol d f,show Nat.blt 0 _=true by simpa using Xq h0 f];rfl
  .show Sl 1 h ..;rw[(by simp_all:(ls.take u).length=u)];refine .inr ⟨b,_,_,_,_,rfl,Ol d f,g,by omega,?_⟩;rw[<- Bfb,<- q5,de,ae,ae,dw d]
def AxU:Nat->uq->uq
|0,ls=>ls
|n+1,ls=>if ls.getLast?=some 0 then AxU n ls.dropLast else ls
def AxV ls:=AxU ls.length ls
def TrR h1(v r:AV) ls:=NtS h1 r ls/\∀b off n cap ex,v=.sl b off n cap 1 ex->r=.sl b off ls.length cap 1 ex
def BcD:=∀v ls h,NtS h v ls->ls.length<=10->(∀x∈ls,x<1000000000000000000)->Ah h (λr h1=>TrR h1 v r (AxV ls)) (Z.call 116 [v] h)
def Bfx(h:H):∀(i n:Nat) (v:AV) (ls:uq) (f0:L2),NtS h v ls->ls.length=i->ls.length<=10->(∀x∈ls,x<1000000000000000000)->i<n->Ah h (λr h1=>TrR h1 v r (AxU i ls)) (A0C Z N n v f0 h)
|0,n,v,ls,f0,k,hi,z,o,hn=>by
 obtain⟨n1,rfl⟩:∃n1,n=n1+1:=⟨n-1,by omega⟩;have C:∀a:H,Fo v a=.ok (iI 0) a:=λa=>by rw[Sl.Gs (h:=h) k,hi];rfl
 have P:∀(w:Bool) (r:OR) (a:H),Ad (.Bj []) w r a=.ok (.Bj []) a:=λw r a=>A0V [] w r a;rw[BeJ];have k2:TrR h v v (AxU 0 ls):=⟨k,λb off m cap ex e=>by
  subst e;have k':Sl 1 h _ ls.length (ls.flatMap Abb):=k;rcases k' with⟨_,_,e⟩|⟨_,_,_,_,_,e,_⟩;. cases e
  .injection e with _ _ e _ _ _;rw[e];rfl⟩;generalize AxU 0 ls=T at *;clear k;refine wk ?_;exact zr Ex k2
|i+1,n,v,ls,f0,k,hi,z,o,hn=>by
 obtain⟨n1,rfl⟩:∃n1,n=n1+1:=⟨n-1,by omega⟩;have d:ls[i]?=some (ls[i]' om):=Oh om;generalize ls[i]' om=c at d;have t:=o c (Vl d);have g:ls.getLast?=some c:=by rw[List.getLast?_eq_getElem?,hi];exact d
 have C:∀a:H,Fo v a=.ok (iI ((i:Int)+1)) a:=λa=>by rw[Sl.Gs (h:=h) k,hi];rfl
 obtain⟨G,J,y⟩:=R0.elem (f:=Abb) (s:=1) (λ_=>rfl) k d;have K:=y.ia;have A:=y.part 0 _ rfl;rw[Vw]at A;obtain⟨v',I,D,j⟩:=Bjw (u:=i) k om om;have L:∀a:H,Aj prog .eql 175 true (cn (c:Int)) (cn 0) a=.ok (.bool (decide ((c:Int)=0))) a:=λa=>by show OR.ok (.bool (ieq (c:Int) 0)) a=_;rw[X7]
 have p:=λf0=>Bfx h i n1 v' (ls.take i) f0 D (by rw[Cm];omega) (by rw[Cm];omega) (λx q=>o x (ax q)) om;have F:decide ((0:Int)<(i:Int)+1)=true:=dt;have r1:(0:Int)<=i:=by omega
 have M:(i:Int)<=10:=by omega
 have O:∀a:H,Aj prog .sub 3 true (iI ((i:Int)+1)) (iI 1) a=.ok (iI (i:Int)) a:=λa=>by show OR.ok (iI (E1 .i64 ((i:Int)+1-1))) a=_;rw[show(i:Int)+1-1=i by omega,lw.2.2 _ om om]
 have e1:AxU (i+1) ls=if c=0 then AxU i (ls.take i)else ls:=by show(if ls.getLast?=some 0 then AxU i ls.dropLast else ls)=_;rw[g,List.dropLast_eq_take,hi,Nat.add_sub_cancel];simp
 rw[e1,BeJ];clear hi z o t g d e1;by_cases hc:c=0;. rw[Xo hc];have k2:decide ((c:Int)=0)=true:=dt;replace p:=(show F5 _ from p);replace j:=(show F5 _ from j);clear hc;refine wk ?_;refine((show ∀f0,Ah h (λr h1=>TrR h1 v' r (AxU i (ls.take i))) (A0C Z N n1 v' f0 h)from p) _).mono ?_;rintro r h1 _ ⟨B,E⟩;exact⟨B,λb off m cap ex e=>E b off i cap ex ((show ∀b off n cap ex,v=.sl b off n cap 1 ex->v'=.sl b off i cap 1 ex from j) b off m cap ex e)⟩
 .rw[X2 hc];have k2:decide ((c:Int)=0)=false:=df;have k2:TrR h v v ls:=⟨k,λb off m cap ex e=>by
   subst e;have k':Sl 1 h _ ls.length (ls.flatMap Abb):=k;rcases k' with⟨_,_,e⟩|⟨_,_,_,_,_,e,_⟩;. cases e
   simp_all⟩;clear hc p j;refine wk ?_;exact zr Ex k2
def CbX(e:11<N)(k:NtS h v ls)(a:ls.length<=10)(d:∀x∈ls,x<1000000000000000000):Ah h (λr h1=>TrR h1 v r (AxV ls)) (mr Z N 116 [v] h):=by rw[B8K];exact Bfx Z N h _ _ _ _ _ k rfl a d om
variable {hd:H}
def BsP:=∀s h,s≠[]->Dgs s->s.length<=18->Ah h (λr _=>r=.Bj [cn (AnE s),.B3]) (Z.call 115 [.str s,iI 10,iI 64] h)
def CbW(d:BsQ Z)(i:s≠[])(a:Dgs s)(g:s.length<=18):Ah h (λr _=>r=.Bj [cn (AnE s),.B3]) (mr Z N 115 [.str s,iI 10,iI 64] h):=by
 have k:=Ol (Nat.le_of_lt (AxX _ s rfl a)) (aq (show 0<10 by grind) g);have z1:∀e,Aj prog .neq 102 true .B3 .B3 e=.ok ..:=λe=>rfl;rw[B8J];refine Fj (d s _ h (.inr rfl) i a om) λm h1 e1 l1 j f=>?_;rcases f with⟨_,rfl⟩|⟨f,_⟩;. exact wk (zr Ex rfl)
 grind
def Bj5(q:BsP Z){lo e n:Nat}{f0:L2}{Q:AV->H->Prop}{sub:uq}(B:0<e)(r:e<=s.length)(I:s.length<=10)(D:lo=e-9)(d:(s.drop lo).take (e-lo)=sub)(x:sub≠[])(f:Dgs sub)(i:sub.length<=18)
 (g:Ai h hd) (o:Fm 1 h.nx 175 hd v ls.length (ls.flatMap Abb)) (hls:ls.length<=10)
 (go:∀(h1:H) (v':AV) (f0:L2),Ai h h1->Fm 1 h.nx 175 h1 v' (ls++[AnE sub]).length ((ls++[AnE sub]).flatMap Abb)->Ah h Q (AvQ Z N n (.str s) v' (iI ((e:Int)-9)) f0 h1)):
 Ah h Q (AvQ Z N (n+1) (.str s) v (iI (e:Int)) f0 hd):=by
 have C:=λa=>q sub a x f i;have T:∀a:H,mm false [iI 0,iI ((e:Int)-9)] a=.ok (iI (lo:Int)) a:=λa=>by
  show(match AfO false .i64 0 [iI ((e:Int)-9)]with|some (k,n)=>OR.ok (.int k n) a|none=>.bad 129)=_;show(match AfO false .i64 (@Bool.rec (λ_=>Int) 0 ((e:Int)-9) (ilt 0 ((e:Int)-9))) []with|some (k,n)=>OR.ok (.int k n) a|none=>.bad 129)=_;rw[Il];by_cases hq:(0:Int)<(e:Int)-9;. rw[Ws hq];show OR.ok (AV.int .i64 ((e:Int)-9)) a=_;grind
  .rw[Yc hq];show OR.ok (AV.int .i64 0) a=_;grind
 have R:∀a:H,xSl prog 9 (.str s) (some (iI (lo:Int))) (some (iI (e:Int))) a=.ok (.str sub) a:=λa=>by rw[Aji xi9 om om,d]
 have L:decide ((0:Int)<(e:Int))=true:=dt;have F:decide (0<e)=true:=Ws B;have r1:0<=(e:Int):=by omega
 have S:(e:Int)<=10:=by omega
 have M:∀a:H,Aj prog .sub 3 true (iI (e:Int)) (iI 9) a=.ok (iI ((e:Int)-9)) a:=λa=>by show OR.ok (iI (E1 .i64 ((e:Int)-9))) a=_;rw[lw.2.2 _ om om]
 generalize (AnE sub)=m at *;replace go:=(show F5 _ from go);generalize ((e:Int)-9)=e9 at *;rw[BeH];clear I D d r B x f i;refine wk ?_;refine Fj (C _) λO h2 z l2 p t=>?_;subst t;have g2:=g.trans z;have E:=o.gr z;clear C p o;refine wk ?_;have A:=Ai.new (Ai.refl h2) (cz [cn (m:Int)] 175);have G:=E.gr A;have J:Sl 1 (h2.new (cz [cn (m:Int)] 175)) (.sl h2.nx 0 1 1 1 true) 1 [cn (m:Int)]:=Sl.lit (h:=h2) (Bf _) rfl rfl;have j:h.nx<=h2.nx+1:=Nat.le_succ_of_le g2.lo;obtain⟨v',h',u,t,y,P,q5⟩:=Fm.AbQ (bytes:=8) (lo:=h.nx) G J.src (by rfl) om (by rfl) j;refine Ey u ?_;have K:=y h (Ye _) (g2.trans A);clear u t y q5;refine wk ?_;refine(show ∀(h1:H) (v':AV) (f0:L2),Ai h h1->Fm 1 h.nx 175 h1 v' (ls++[m]).length ((ls++[m]).flatMap Abb)->Ah h Q (AvQ Z N n (.str s) v' (iI e9) f0 h1)from go) _ _ _ K ?_;simp_all
def Brn(d:BcD Z){n}{e}{f0}(m:e<=0)(g:Ai h hd)(o:Fm 1 h.nx 175 hd v ls.length (ls.flatMap Abb))(a:ls.length<=10)(k:∀x∈ls,x<1000000000000000000):
 Ah h (λr h1=>NtS h1 r (AxV ls)) (AvQ Z N (n+1) (.str s) v (iI e) f0 hd):=by rw[BeH];exact wk (Fj (d v _ _ o.sl a k) λp h2 j l2 f i=>zr (g.trans j) i.1)
def lbN n:=if n=0 then[]else if n<1000000000 then[n]else[n%1000000000,n/1000000000]
def A87{n}(h:n<1000000000):AxV [n]=lbN n:=by
 unfold lbN;show(if[n].getLast?=some 0 then _ else[n])=_;by_cases h0:n=0;. subst h0;rfl
 grind
def Bl0:=∀n h,Num n->Ah h (λr h1=>NtS h1 r (lbN n.toNat)) (Z.call 81 [.str (V8 n)] h)
def CbL(F:10<N)(a:BsP Z)(d:BcD Z){n:Int}(hn:Num n):Ah h (λr h1=>NtS h1 r (lbN n.toNat)) (mr Z N 81 [.str (V8 n)] h):=by
 obtain⟨d1,d2,d3,d4⟩:=AlG hn;obtain⟨_,y,_,_,_⟩:=Alj hn.1 hn.2;have t:=hn.2;have l0:0<(V8 n).length:=Kd.2 d1;obtain⟨m,rfl⟩:∃m,N=m+3:=⟨N-3,by omega⟩;rw[B89];refine Ey (A63 _) ?_;have o:n.toNat=AnE (V8 n):=by omega
 by_cases q:(V8 n).length<=9;. have u:AnE (V8 n)<1000000000:=Xq (AxX _ _ rfl d2) (aq (show 0<10 by decide) q);refine Bj5 Z (m+3) a (sub:=V8 n) (ls:=[]) (lo:=0) l0 (Ye _) d3 om (by simp) d1 d2 om (Ai.refl h) (Fm.nil ..) (by simp) λh1 v' f0 g1 g=>?_;rw[o,<- A87 u];exact Brn Z (m+3) d om g1 g (by simp) (λx B=>by grind)
 .have f:n=1000000000:=by
   rcases Aqg n.toNat om with⟨j,i⟩|⟨D,j,A,E,z,i⟩
   .exfalso;have:(V8 n).length=1:=by show(Ao2 (nd n.toNat) n.toNat).length=1;rw[Alh,i]
    omega
   .have:(V8 n).length=D+1:=by show(Ao2 (nd n.toNat) n.toNat).length=_;rw[Alh,j]
    grind
  subst f;have k:Nm.V8 1000000000=[49,48,48,48,48,48,48,48,48,48]:=by decide
  rw[k];refine Bj5 Z (m+3) a (sub:=th) (ls:=[]) (lo:=1) (e:=10) fe fe fe (by rfl) (by grind) fe fe fe (Ai.refl h) (Fm.nil ..) fe λh1 v' f0 g1 g=>?_;refine Bj5 Z (m+3) a (sub:=[49]) (ls:=[0]) (lo:=0) (e:=1) fe fe fe fe fe fe fe fe g1 g fe λh2 v2 C g2 p=>?_;exact Brn Z (m+3) d (ls:=[0,1]) (by simp) g2 p (by simp) (by simp)
def Bh2:=∀v ls h,NtS h v ls->Ah h (λr _=>r=.bool (decide (ls=[1]))) (Z.call 112 [v] h)
def CbN(k:NtS h v ls):Ah h (λr _=>r=.bool (decide (ls=[1]))) (mr Z N 112 [v] h):=by
 have d:∀a:H,Fo v a=.ok (iI (ls.length:Int)) a:=λa=>Sl.Gs (h:=h) k;have q:∀(w:Bool) (r:OR) (a:H),Ad (.Bj []) w r a=.ok (.Bj []) a:=λw r a=>A0V [] w r a;rw[B7x];rcases ls with _|⟨c,_|⟨b,r⟩⟩;rotate_left
 .obtain⟨m,o,e⟩:=R0.elem (f:=Abb) (s:=1) (i:=0) (x:=c) (λ_=>rfl) k rfl;have t:∀a:H,Gc 1 v (iI 0) a=.ok (.ptr m o) a:=e.ia;have n:=e.part 0 _ rfl;rw[Vw]at n;clear e;have p:∀a:H,Aj prog .eql 175 true (cn (c:Int)) (cn 1) a=.ok (.bool (decide (([c]:uq)=[1]))) a:=λa=>by
   show OR.ok (.bool (ieq (c:Int) 1)) a=_;rw[X7];by_cases hc:c=1;. grind
   .rw[Yc om,Yc (by simp_all)]
  replace d:∀a:H,Fo v a=.ok (iI 1) a:=d;generalize decide (([c]:uq)=[1])=B at *;clear k;refine wk ?_;exact zr Ex rfl
 rotate_left;. replace d:∀a:H,Fo v a=.ok (iI 0) a:=d;obtain⟨L,g⟩:∃L:Int,L=0:=⟨_,rfl⟩;refine wk ?_;exact zr Ex rfl
 .have j:decide (((c::b::r).length:Int)=1)=false:=Yc (by grind);have⟨L,g⟩:∃L:Int,L=(c::b::r).length:=⟨_,rfl⟩;rw[<- g]at d j;rw[(Yc (by simp))];clear k g;refine wk ?_;exact zr Ex rfl
def B0E:=∀v ls h,NtS h v ls->Ah h (λr _=>r=.bool (decide (ls=[]))) (Z.call 110 [v] h)
def CbZ(k:NtS h v ls):Ah h (λr _=>r=.bool (decide (ls=[]))) (mr Z N 110 [v] h):=by
 have d:∀a,Fo v a=.ok ..:=λa=>Sl.Gs k;have e1:decide (ls=[])=decide (ls.length=0):=by simp
 rw[B8L,e1];refine wk ?_;exact zr Ex rfl
variable {h0 h2:H}{c l:Nat}{bs:uq}
structure PS(bs:List Nat)(h hh:H):Prop where
 lo:h.nx<=hh.nx
 Cf:∀x,x<h.nx->x ∉ bs->hh.m.get x=h.m.get x
 lg:∀x∈hh.lg,x∈h.lg\/x∈bs\/h.nx<=x
def PS.refl bs h:PS bs h h:=⟨Ye _,λ_ _ _=>rfl,λ_=>.inl⟩
def PS.gr(k:PS bs h h1)(g:Ai h1 h2):PS bs h h2:=⟨Ol k.lo g.lo,λx a e=>(g.Cf x (Xq a k.lo)).trans (k.Cf x a e),λx a=>by
 rcases g.lg x a with d|d;. exact k.lg x d
 .exact .inr (.inr (Ol k.lo d))⟩
def PS.put(k:PS bs h h1) o(d:b∈bs):PS bs h (h1.put b o):=⟨k.lo,λx a hn=>by rw[Aq _ _ _ (by grind)];exact k.Cf x a hn,λx a=>by
 rcases Tu.1 a with rfl|a;. grind
 .exact k.lg x a⟩
def PS.rl{L}(k:PS bs h h1)(a:∀x∈L,x∈h.lg\/x∈bs\/h.nx<=x):PS bs h (Be L h1):=⟨k.lo,k.Cf,a⟩
def PS.nl(k:PS bs h h1):PS bs h (Ab h1):=⟨k.lo,k.Cf,λx a=>by cases a⟩
def PS.toG(g:Ai h0 h)(f:∀b∈bs,h0.nx<=b)(k:PS bs h h1):Ai h0 h1:=⟨Ol g.lo k.lo,λx a=>(k.Cf x (Xq a g.lo) λe=>by grind).trans (g.Cf x a),λx a=>by
 rcases k.lg x a with d|d|d;. exact g.lg x d
 .grind
 .exact .inr (Ol g.lo d)⟩
def PS.trans(k:PS bs h h1)(k2:PS bs h1 h2):PS bs h h2:=⟨Ol k.lo k2.lo,λx a e=>(k2.Cf x (Xq a k.lo) e).trans (k.Cf x a e),λx a=>by
 rcases k2.lg x a with d|d|d;. exact k.lg x d
 .grind
 .exact .inr (.inr (Ol k.lo d))⟩
def PS.cont{cs}{e}(k:PS bs h h1)(d:h.m.get b=cz cs e)(a:b<h.nx)(f:b ∉ bs):Nv h1 b cs:=⟨Xq a k.lo,e,_,(k.Cf b a f).trans d,trivial⟩
def Ao6{d a}(e1:a.m=d.m)(i:a.nx=d.nx):Bi d a:=⟨by omega,λb cs hc=>by have⟨_,e,f,_,g⟩:=hc;refine⟨by omega,e,f,by grind,?_⟩;cases f with
|Cf c st=>exact⟨by rw[i];exact g.1,by rw[e1];exact g.2⟩
|_=>trivial⟩
def A0u(k:NtS h v ls) e hh:Oy e v hh=.ok (.ptr hh.nx 0) (hh.new (cz [v] e)):=by rcases k with⟨_,_,rfl⟩|⟨b,off,cap,ex,cs,rfl,_⟩<;>rfl
def BfL:=∀v ls h,NtS h v ls->Ah h (λr h1=>r=.fn (.func 183) [] [.ptr h.nx 0]/\h1=h.new (cz [v] 127)) (Z.call 152 [v] h)
def BfM(Z cr:Ac):=∀ls v c l (a:Nat->H->Prop) (d:H->Prop) h,ls.length<=10->(∀i e,a (i+1) e->Nv e c [v]/\NtS e v ls) ->
 (∀(i x:Nat) e,ls[i]?=some x->a (i+1) e->Ah H0 (λr h'=>r=uz/\a i h'\/r=ux/\d h') (cr.round l [iI i,cn x] e))->a ls.length h->Nv h c [v]/\NtS h v ls ->
 Ah H0 (λr h'=>r=.Bj []/\(a 0 h'\/d h')) (Z.call 183 [.fn (.yield l) [] [],.ptr c 0] h)
def Bf1{d:Nat->H->Prop}{e:H->Prop}(t:ls.length<=10)(g:∀i a,d (i+1) a->Nv a c [v]/\NtS a v ls)
 (hr:∀(i x:Nat) (a:H),ls[i]?=some x->d (i+1) a->Ah H0 (λr h'=>(r=uz/\d i h')\/(r=ux/\e h')) (Z.round l [iI (i:Int),cn (x:Int)] a)):
 ∀(i n:Nat) (hd:H) (f0:L2),i<=ls.length->i<n->d i hd->Ah H0 (λr h'=>r=.Bj []/\(d 0 h'\/e h')) (A6T Z N n (.fn (.yield l) [] []) (.ptr c 0) (iI ((i:Int)-1)) f0 hd)
 |0,n,hd,f0,hi,hn,k=>by obtain⟨n1,rfl⟩:∃n1,n=n1+1:=⟨n-1,by omega⟩;rw[BeS];clear hr g;refine Ey (show Aj prog .geq 3 true (iI (((0:Nat):Int)-1)) (iI 0) hd=.ok ux hd from by rfl) ?_;refine Ae5 ?_;exact Lo ⟨Wy _,λb j=>absurd j (dx b),λx _=>.inr (Wy x)⟩ ⟨rfl,.inl k⟩
 |i+1,n,hd,f0,hi,hn,k=>by
  obtain⟨n1,rfl⟩:∃n1,n=n1+1:=⟨n-1,by omega⟩;have z:=Bf1 t g hr i n1;have⟨x,p⟩:∃x,ls[i]?=some x:=⟨_,Oh om⟩;have⟨c0,q⟩:=g _ _ k;have⟨y,B,m⟩:=R0.elem (f:=Abb) (λ_=>rfl) q p;rw[show((i+1:Nat):Int)-1=i by omega,BeS];refine Ey ((λa=>rfl:∀a,Aj prog .geq 3 true (iI i) (iI 0) a=.ok ..) _) (Zx (Ey ((c0.one (o:=0) rfl) _ (Bi.refl _)) (Ey (m.ia _) (Ey ((m.part 0 _ rfl) _ (Bi.refl _)) (Brb Z (hr i x _ p k) λA h2 u=>?_)))));rcases u with⟨rfl,k2⟩|⟨rfl,k2⟩;. refine Ey rfl (Ae5 ?_);apply Ey ((λa=>by show OR.ok (iI (E1 _ (i-1))) _=_;rw[lw.2.2 _ om om]:∀a,Aj prog .sub 3 true (iI _) (iI 1) a=.ok ..) _);grind
  .exact Ey rfl (Zx (Lo ⟨Wy _,λb j=>absurd j (dx b),λx _=>.inr (Wy x)⟩ ⟨rfl,.inr k2⟩))
def Ccn(o:11<N):∀ls v c l (a:Nat->H->Prop) (d:H->Prop) h,ls.length<=10->(∀i e,a (i+1) e->Nv e c [v]/\NtS e v ls) ->
 (∀(i x:Nat) e,ls[i]?=some x->a (i+1) e->Ah H0 (λr h'=>r=uz/\a i h'\/r=ux/\d h') (Z.round l [iI i,cn x] e))->a ls.length h->Nv h c [v]/\NtS h v ls ->
 Ah H0 (λr h'=>r=.Bj []/\(a 0 h'\/d h')) (mr Z N 183 [.fn (.yield l) [] [],.ptr c 0] h):=by
 intro ls v c l a d h g n m k ⟨c0,f⟩;have j:∀e,Aj prog .sub 3 true (iI _) (iI 1) e=.ok ..:=λe=>by show OR.ok (iI (E1 _ (ls.length-1))) _=_;rw[lw.2.2 _ om om]
 rw[B9e];exact Ey (c0.one rfl h (Bi.refl _)) (Ey (Sl.Gs f) (Ey (j _) (Bf1 Z N g n m _ N h _ (Ye _) om k)))
def Cca(k:NtS h v ls):Ah h (λr h1=>r=.fn (.func 183) [] [.ptr h.nx 0]/\h1=h.new (cz [v] 127)) (mr Z N 152 [v] h):=by rw[B8M];exact Ey (A0u k _ h) (Lo ((Ai.refl h).new _) ⟨rfl,rfl⟩)
def Aoq(a b:Int):=if a<b then -1 else if b<a then 1 else 0
def B07:=∀a b h,Ah h (λr _=>r=iI (Aoq a b)) (Z.call 133 [iI a,iI b] h)
def B0A:=∀a h,Ah h (λr _=>r=ux) (Z.call 162 [iI a] h)
def CbI a:Ah h (λr _=>r=ux) (mr Z N 162 [iI a] h):=by rw[A7F];exact Ey (show OR.ok (.bool (Ib _)) h=_ from by rw[X7,Ws rfl];rfl) (Lo (Ai.refl h) rfl)
def CbF(d:B0A Z) a b:Ah h (λr _=>r=iI (Aoq a b)) (mr Z N 133 [iI a,iI b] h):=by
 rw[A78];refine Fj (d a h) λi h1 e1 l1 f g=>Fj (d b _) λv2 h2 m l2 e j=>?_;unfold Aoq;by_cases k:a<b;. rw[Xo k];refine wk ?_;exact zr Ex rfl
 .rw[X2 k];by_cases k:b<a;. rw[Xo k];refine wk ?_;exact zr Ex rfl
  .rw[X2 k];refine wk ?_;exact zr Ex rfl
def B0F:=∀a b h,Ah h (λr _=>r=iI (Aoq a b)) (Z.call 182 [cn a,cn b] h)
def B0M:=∀a h,Ah h (λr _=>r=ux) (Z.call 202 [cn a] h)
def Cco a:Ah h (λr _=>r=ux) (mr Z N 202 [cn a] h):=by rw[B9f];exact Ey (show OR.ok (.bool (Ib _)) h=_ from by rw[X7,Ws rfl];rfl) (Lo (Ai.refl h) rfl)
def Cce(d:B0M Z) a b:Ah h (λr _=>r=iI (Aoq a b)) (mr Z N 182 [cn a,cn b] h):=by
 have n:∀a b e,Aj prog .lss 175 false (cn a) (cn b) e=.ok ..:=λa b e=>by show OR.ok ..=_;rw[Il]
 have m:∀a b e,Aj prog .gtr 175 false (cn a) (cn b) e=.ok ..:=λa b e=>by show OR.ok (.bool (ilt b a)) _=_;rw[Il]
 rw[B8N];refine Fj (d a h) λj h1 e1 l1 f i=>Fj (d b _) λv2 h2 p l2 g o=>?_;unfold Aoq;by_cases k:a<b;. rw[Xo k];refine wk ?_;exact zr Ex rfl
 .rw[X2 k];by_cases k:b<a;. rw[Xo k];refine wk ?_;exact zr Ex rfl
  .rw[X2 k];refine wk ?_;exact zr Ex rfl
variable (Z cx cr:Ac)(N:Nat)
def BsR:=∀n h,n<1000000000->Ah h (λr h1=>NtS h1 r (lbN n)) (Z.call 148 [cn n] h)
def B3W(a:Nat) cc hh:Aj prog .gtr 175 cc (cn a) (cn 0) hh=.ok (.bool (decide (0<a))) hh:=by show OR.ok (.bool (ilt 0 a)) _=_;rw[Il];simp
def Ccm(o:3<N){n}(hn:n<1000000000):Ah h (λr h1=>NtS h1 r (lbN n)) (mr Z N 148 [cn n] h):=by
 obtain⟨m,rfl⟩:∃m,N=m+2:=⟨N-2,by omega⟩;have z:∀d a,Aj _ _ _ d _ _ a=.ok ..:=λd a=>B3W 0 ..;rw[B9c,BeR];unfold lbN;by_cases h0:n=0;. subst h0;exact Ey (z ..) (Ae5 (Lo (Ai.refl h) (.inl ⟨rfl,rfl,rfl⟩)))
 .rw[X2 h0,Xo hn];apply Ey (B3W n ..);rw[Ws (show 0<n by omega)];apply Zx;have e:=Az9 (k:=.u64) (ty:=175) (c:=true) n 1000000000 (by simp);have f:=Az8 (k:=.u64) (ty:=175) (c:=true) n 1000000000 (by simp) fe (by show(n/1000000000:Int)<=18446744073709551615;omega);rw[dm hn]at e;rw[Of hn]at f;apply Ey (e _);apply Ey rfl;obtain⟨v',h',i,p,j,g,q5⟩:=Fm.AbQ (bytes:=8) (Fm.nil 1 _ ..) (Sl.lit (Bf _) rfl rfl:Sl 1 (h.new (.cells [.int _ n] ..)) _ 1 _).src rfl (by omega) rfl (U3 _);refine Ey i (Ey (f _) ?_);rw[BeR];exact Ey (z ..) (Ae5 (Lo (j h (Ye _) (Ai.new (Ai.refl h) _)) g.sl))
def qr(d:Nat):uq->uq × Nat
|[]=>([],0)
|x::l=>(((qr d l).2*1000000000+x)/d::(qr d l).1,((qr d l).2*1000000000+x)%d)
def Arc{st}{p}{fr}{j n}{sg bd}{i k}(o:h.m.get l=.loop st p fr [j,n] sg bd):Aze prog Z N false l [i,k] h=xc sg prog Z N false (A1q l) (A1r l) (λf h=>match h.m.get l with|.loop 0 q g a d e=>xc bd prog Z N false (A1q l) (A1r l) (BaI l) f (h.put l (.loop 1 q g a d e))|_=>.bad 203) (((fr.set Br (.map l)).set j i).set n k) h:=by unfold Aze;rw[o];rfl
def AtV{Y}(k:NtS h v ls)(a:∀cs e kk,h.m.get l≠.cells cs e kk)(hj:∀st,h.m.get l≠.Fb st):NtS (h.put l Y) v ls:=by
 rcases k with f|⟨b,off,cap,ex,cs,rfl,i,g,d,q5⟩;. exact .inl f
 .exact .inr ⟨b,_,_,_,_,rfl,i,BeL g a hj,d,q5⟩
def A2o{C}{ty}{i}{k}{n}(a:h.m.get b=cz C ty)(hi:i<C.length):A4 1 (.ptr b i) (.int k n) h=.ok (.Bj []) (h.put b (cz (C.set i (.int k n)) ty)):=by
 have e:Ng C [.int k n] i=some (C.set i (.int k n)):=by rw[Kh,Xo (by grind),Tz,Xo hi];simp
 simp_all
def BxL{J F I G p y u q t:AV}{E B D A j d r x i k:Nat}{Q:uw}
 (M:hd.m.get l=.loop 0 none (AjN J F (.ptr E 0) (.ptr B 0) I G (.ptr D 0) (.ptr j 0) p y u q t) [15,16] Aa4 AaL)
 (cA:Nv hd E [v]) (kn:NtS hd v ls) (O:ls[i]?=some x) (gD:hd.m.get B=cz [cn (d:Int)] 175) (gO:hd.m.get D=cz [.sl A 0 k k 1 true] 127) (gQ:hd.m.get A=cz Q 175) (hQ:Q.length=k) (hi:i<k) (gR:hd.m.get j=cz [cn (r:Int)] 175)
 (hr:r<d) (K:0<d) (hd9:d<=1000000000) (hx9:x<1000000000)
 (lA:E<hd.nx/\B<hd.nx/\D<hd.nx/\A<hd.nx/\j<hd.nx/\l<hd.nx) (dis:A≠j/\A≠l/\j≠l/\E≠l/\B≠l/\D≠l/\B≠A/\B≠j/\D≠A/\D≠j):
 Ah H0 (λrr h'=>rr=uz/\PS [A,j,l] hd h'/\h'.m.get A=cz (Q.set i (cn (((r*1000000000+x)/d:Nat):Int))) 175/\h'.m.get j=cz [cn (((r*1000000000+x)%d:Nat):Int)] 175/\h'.m.get l=hd.m.get l)
  (Aze prog Z N false l [iI (i:Int),cn (x:Int)] hd):=by
 obtain⟨l1,l2,l3,l4,l5,l6⟩:=lA;obtain⟨n1,n2,n3,n4,n5,n6,n7,n8,n9,n10⟩:=dis;have W:=AtV (Y:=.loop 1 none (AjN J F (.ptr E 0) (.ptr B 0) I G (.ptr D 0) (.ptr j 0) p y u q t) [15,16] Aa4 AaL) kn (λcs e kk g=>by rw[M]at g;cases g) (λst g=>by rw[M]at g;cases g);obtain⟨b1,o1,el⟩:=R0.elem (f:=Abb) (s:=1) (λ_=>rfl) W O;rw[Arc Z N M,B56];rw[M];simp only[];rw[B5A];have kA:=AsM (l:=l) (Y:=.loop 1 none (AjN J F (.ptr E 0) (.ptr B 0) I G (.ptr D 0) (.ptr j 0) p y u q t) [15,16] Aa4 AaL) cA n4 (λst g=>by rw[M]at g;cases g);have eD:(hd.put l (.loop 1 none (AjN J F (.ptr E 0) (.ptr B 0) I G (.ptr D 0) (.ptr j 0) p y u q t) [15,16] Aa4 AaL)).m.get B=_:=(Aq _ _ _ n5).trans gD;have eO:(hd.put l (.loop 1 none (AjN J F (.ptr E 0) (.ptr B 0) I G (.ptr D 0) (.ptr j 0) p y u q t) [15,16] Aa4 AaL)).m.get D=_:=(Aq _ _ _ n6).trans gO;have eQ:(hd.put l (.loop 1 none (AjN J F (.ptr E 0) (.ptr B 0) I G (.ptr D 0) (.ptr j 0) p y u q t) [15,16] Aa4 AaL)).m.get A=_:=(Aq _ _ _ n2).trans gQ;have eR:(hd.put l (.loop 1 none (AjN J F (.ptr E 0) (.ptr B 0) I G (.ptr D 0) (.ptr j 0) p y u q t) [15,16] Aa4 AaL)).m.get j=_:=(Aq _ _ _ n3).trans gR;have eL:(hd.put l (.loop 1 none (AjN J F (.ptr E 0) (.ptr B 0) I G (.ptr D 0) (.ptr j 0) p y u q t) [15,16] Aa4 AaL)).m.get l=_:=A2 _ _;have kP:PS [A,j,l] hd (hd.put l (.loop 1 none (AjN J F (.ptr E 0) (.ptr B 0) I G (.ptr D 0) (.ptr j 0) p y u q t) [15,16] Aa4 AaL)):=(PS.refl _ _).put _ (by simp);have nN:(hd.put l (.loop 1 none (AjN J F (.ptr E 0) (.ptr B 0) I G (.ptr D 0) (.ptr j 0) p y u q t) [15,16] Aa4 AaL)).nx=hd.nx:=rfl;have xA:=kA.one (o:=0) rfl;have x2:=el.ia;have xE:=el.part 0 _ rfl;rw[Vw]at xE;generalize (hd.put l (.loop 1 none (AjN J F (.ptr E 0) (.ptr B 0) I G (.ptr D 0) (.ptr j 0) p y u q t) [15,16] Aa4 AaL))=h3 at *
 have w1:∀g:H,Aj prog .mul 175 true (cn (r:Int)) (cn 1000000000) g=.ok (cn ((r*1000000000:Nat):Int)) g:=λg=>At6 (k:=.u64) (ty:=175) (c:=true) r 1000000000 fe (by show((r*1000000000:Nat):Int)<=18446744073709551615;omega) g
 have w2:∀g:H,Aj prog .add 175 false (cn ((r*1000000000:Nat):Int)) (cn (x:Int)) g=.ok (cn ((r*1000000000+x:Nat):Int)) g:=λg=>Am1 (k:=.u64) (ty:=175) (c:=false) (r*1000000000) x fe (by show((r*1000000000+x:Nat):Int)<=18446744073709551615;omega) g
 have w3:∀g:H,Aj prog .quo 175 false (cn ((r*1000000000+x:Nat):Int)) (cn (d:Int)) g=.ok (cn (((r*1000000000+x)/d:Nat):Int)) g:=λg=>Az8 (k:=.u64) (ty:=175) (c:=false) (r*1000000000+x) d om fe (by show(((r*1000000000+x)/d:Nat):Int)<=18446744073709551615;have:=T6 (r*1000000000+x) d;omega) g
 have w4:∀g:H,Aj prog .rem 175 false (cn ((r*1000000000+x:Nat):Int)) (cn (d:Int)) g=.ok (cn (((r*1000000000+x)%d:Nat):Int)) g:=λg=>Az9 (k:=.u64) (ty:=175) (c:=false) (r*1000000000+x) d om g;clear el W kA kn cA M gD gO gQ gR hr K hd9 hx9 O;obtain⟨pp,S⟩:∃z:Int,z=((r*1000000000:Nat):Int):=⟨_,rfl⟩;obtain⟨ss,V⟩:∃z:Int,z=((r*1000000000+x:Nat):Int):=⟨_,rfl⟩;obtain⟨qq,R⟩:∃z:Int,z=(((r*1000000000+x)/d:Nat):Int):=⟨_,rfl⟩;obtain⟨rr,U⟩:∃z:Int,z=(((r*1000000000+x)%d:Nat):Int):=⟨_,rfl⟩;rw[<- S]at w1 w2;rw[<- V]at w2 w3 w4;rw[<- R]at w3 ⊢;rw[<- U]at w4 ⊢;obtain⟨xx,Rr⟩:∃z:Int,z=(x:Int):=⟨_,rfl⟩;obtain⟨r0,T⟩:∃z:Int,z=(r:Int):=⟨_,rfl⟩;obtain⟨d0,K⟩:∃z:Int,z=(d:Int):=⟨_,rfl⟩;rw[<- Rr]at w2 xE;rw[<- T]at w1 eR;rw[<- K]at w3 w4 eD;clear S V R U Rr T K;have xi:=A6n (b:=A) (off:=0) (n:=k) (cap:=k) (i:=i) (ex:=true) hi;rw[Rx]at xi;have cD:Nv h3 B [cn d0]:=⟨by omega,_,_,eD,trivial⟩;have cO:Nv h3 D [.sl A 0 k k 1 true]:=⟨by omega,_,_,eO,trivial⟩;have cR:Nv h3 j [cn r0]:=⟨by omega,_,_,eR,trivial⟩;refine Ey (cR.one (o:=0) rfl _ ((Ai.refl h3).nl).keeps) ?_;refine Ey (w1 _) ?_;refine Ey (xA _ ((Ai.refl h3).nl.nl).keeps) ?_;refine Ey (x2 _) ?_;refine Ey (xE _ ((Ai.refl h3).nl.nl.nl.nl).keeps) ?_;refine Ey (w2 _) ?_;refine Axi (λ_=>False) ?_ λL M=>?_;. simp_all
 have nr:∀(L:uq) (g:H),Ab (Be L g)=Ab g:=λ_ _=>rfl;have T1:Bi h3 (Ab h3):=Ao6 rfl rfl;simp only[Te,nr];refine Ey (cO.one (o:=0) rfl _ T1) ?_;simp only[Te];refine Ey (cD.one (o:=0) rfl _ T1) ?_;simp only[Te];refine Ey (w3 _) ?_;simp only[Te];refine Ey (cD.one (o:=0) rfl _ T1) ?_;simp only[Te];refine Ey (w4 _) ?_;simp only[Te];refine Ey (xi _) ?_;simp only[Te];refine Ey (A2o (h:=Ab h3) (b:=A) eQ om) ?_;refine Ey (A2o (i:=0) (h:=Ab ((Ab h3).put A (cz (Q.set i (cn qq)) 175))) (b:=j) (C:=[cn r0]) (ty:=175) ((Aq _ _ _ (Ne.symm n1)).trans eR) (by simp)) ?_;have d1:wrote h3.nx ((Ab h3).put A (cz (Q.set i (cn qq)) 175)).lg=[A]:=Aw _ _ [] om;have d2:wrote h3.nx ((Ab ((Ab h3).put A (cz (Q.set i (cn qq)) 175))).put j (cz [cn rr] 175)).lg=[j]:=Aw _ _ [] om;refine Axi (λx=>x=A\/x=j) ?_ λL2 hL2=>?_
 .intro e he;simp only[Tu,Ww,Oq]at he;rcases he with rfl|rfl|rfl|rfl|rfl|rfl|rfl|rfl|rfl|rfl|rfl
  .refine .inr ⟨λx O=>.inr (W9.1 (by rw[<- d2];exact O)),?_⟩;intro a X;simp only[Tu,Ww,Oq]at X;rcases X with rfl|rfl|rfl|rfl|rfl|rfl|rfl|rfl|rfl|rfl|rfl;. exact Ar ..
   all_goals exact Ax _ _ _ _ _ _ _ _ _ _ _ _ rfl
  .refine .inr ⟨λx O=>.inl (W9.1 (by rw[<- d1];exact O)),?_⟩;intro a X;simp only[Tu,Ww,Oq]at X;rcases X with rfl|rfl|rfl|rfl|rfl|rfl|rfl|rfl|rfl|rfl|rfl;. exact Ax _ _ _ _ _ _ _ _ _ _ _ _ rfl
   .exact Ar ..
   .exact Ax _ _ _ _ _ _ _ _ _ _ _ _ rfl
   .exact Ai1 _ _ _ _ _ rfl
   .exact Bdz (w:=A) (b:=B) (cs:=[cn d0]) (ty:=175) (λx O=>.inl (W9.1 (by rw[<- d1];exact O))) rfl n7 eD
   .exact Ai1 _ _ _ _ _ rfl
   all_goals exact Ax _ _ _ _ _ _ _ _ _ _ _ _ rfl
  all_goals exact .inl rfl
 have eL2:(Be L2 ((Ab ((Ab h3).put A (cz (Q.set i (cn qq)) 175))).put j (cz ([cn r0].set 0 (cn rr)) 175))).m.get l=.loop 1 none (AjN J F (.ptr E 0) (.ptr B 0) I G (.ptr D 0) (.ptr j 0) p y u q t) [15,16] Aa4 AaL:=
  ((Aq _ _ _ (Ne.symm n3)).trans (Aq (h:=Ab h3) _ _ _ (Ne.symm n2))).trans eL;rw[A6P eL2];refine Lo ⟨Wy _,λb hb=>absurd hb (dx b),λx _=>.inr (Wy x)⟩ ⟨rfl,?_,?_,?_,A2 _ _⟩
 .refine PS.put (PS.rl ((((kP.nl).put _ (by simp)).nl).put _ (by simp)) λz P=>?_) _ (by simp);rcases hL2 z P with P|rfl|rfl
  .rcases M z P with P|P;. exact kP.lg z P
   .exact P.elim
  .simp
  .simp
 .rw[Aq _ _ _ n2];exact(Aq _ _ _ n1).trans (A2 _ _)
 .rw[Aq _ _ _ n3];exact A2 _ _
def gv0{Q R}{r}{K}(a:Ah H0 R r)(d:∀v h1,R v h1->Ah h Q (K v h1)):Ah h Q (Aa r K):=by have⟨v,_,e,_,q⟩:=a;simp[*]
def B5L P(a:P=prog):Tw P 127=some ⟨175,1,8⟩/\I1 P 175=some [cn 0]:=by subst a;exact⟨rfl,rfl⟩
def BsB:∀n,Ade [cn 0] n=(List.replicate n 0).flatMap Abb
|0=>rfl
|n+1=>by show AV.int _ 0::Ade _ n=_;rw[BsB n];rfl
def Ayl(n:Nat)(hn:n<=100000) hh:A3d prog 127 (iI n) (iI n) hh=.ok (.sl hh.nx 0 n n 1 true) (hh.new (cz ((List.replicate n 0).flatMap Abb) 175)):=by have⟨u1,u2⟩:=B5L _ rfl;unfold A3d;simp only[u1,u2,show Arm (iI n)=some n from rfl];rw[show Nat.ble n n=true by simp,show Gj _=true by rw[Fi];grind,BsB];rfl
def BfA{cap}{a}{sg bd}{fr}{E}:rgX prog Z (.fn (.func 183) [] cap) a sg bd fr E h=Aa (Z.call 183 (.fn (.yield (h.nx+1)) [] []::cap) ((h.new (.dfr false)).new (.loop 0 none fr a sg bd))) λ_ h1=>AyT (h.nx+1) E h1:=rfl
def Bl4:=∀v ls d h,NtS h v ls->ls.length<=10->(∀x∈ls,x<1000000000)->0<d->d<=1000000000 ->
 Ah h (λr h1=>∃q,r=.Bj [q,cn (qr d ls).2]/\NtS h1 q (AxV (qr d ls).1)) (Z.call 150 [v,cn d] h)
def BhJ(cr:Ac):=∀v ls l hd u z y A n q p t o (j f g e a d r x i k:Nat) Q,
 hd.m.get l=.loop 0 none (AjN u z (.ptr j 0) (.ptr f 0) y A (.ptr g 0) (.ptr a 0) n q p t o) [15,16] Aa4 AaL ->
 Nv hd j [v]->NtS hd v ls->ls[i]?=some x->hd.m.get f=cz [cn d] 175->hd.m.get g=cz [.sl e 0 k k 1 true] 127->hd.m.get e=cz Q 175->Q.length=k->i<k->hd.m.get a=cz [cn r] 175 ->
 r<d->0<d->d<=1000000000->x<1000000000 ->
 j<hd.nx/\f<hd.nx/\g<hd.nx/\e<hd.nx/\a<hd.nx/\l<hd.nx->e≠a/\e≠l/\a≠l/\j≠l/\f≠l/\g≠l/\f≠e/\f≠a/\g≠e/\g≠a ->
 Ah H0 (λB h'=>B=uz/\PS [e,a,l] hd h'/\h'.m.get e=cz (Q.set i (cn ((r*1000000000+x)/d:Nat))) 175/\h'.m.get a=cz [cn ((r*1000000000+x)%d:Nat)] 175/\h'.m.get l=hd.m.get l)
  (cr.round l [iI i,cn x] hd)
def Beh d:∀ls,(qr d ls).1.length=ls.length
|[]=>rfl
|x::l=>Jh (·+1) (Beh d l)
def Bs8{d}(h:0<d):∀ls,(qr d ls).2<d
|[]=>h
|x::l=>Rl _ h
def Bj3{d}(h:0<d):∀ls,(∀x∈ls,x<1000000000)->∀x∈(qr d ls).1,x<1000000000
|[],_,x,e=>by cases e
|a::l,f,x,e=>by
 rcases Tu.1 e with rfl|e;. have h1:=Bs8 h l;have h2:=f a Wm ..;rw[Nat.div_lt_iff_lt_mul h];grind
 .exact Bj3 h l (λx e=>f x (Vo _ e)) x e
def Biq:∀(ls:List _) (i x:Nat),(ls.flatMap Abb).set i (cn x)=(ls.set i x).flatMap Abb
|[],i,x=>rfl
|a::ls,0,x=>rfl
|a::ls,i+1,x=>by show AV.int ..::(ls.flatMap _).set i _=_;rw[Biq _ i x];rfl
def BnK i x qs:(List.replicate (i+1) 0++qs).set i x=List.replicate i 0++x::qs:=by rw[List.replicate_succ',Wq,List.set_append_right _ _ (by simp)];simp
def Ccl(A8u:BfL Z)(M:BfM Z cr)(W4:BhJ cr)(Ay2:BcD Z){d:Nat}(k:NtS h v ls)(hl:ls.length<=10)(t:∀x∈ls,x<1000000000)(u:0<d)(R:d<=1000000000):
 Ah h (λr h1=>∃q,r=.Bj [q,cn ((qr d ls).2:Int)]/\NtS h1 q (AxV (qr d ls).1)) (mr Z N 150 [v,cn (d:Int)] h):=by
 have W:=λa=>Sl.Gs (h:=h) (h1:=a) k;have mkS:=λa=>Ayl ls.length om a;have bx:=λa=>A0u k 127 a;have bi:=λ(a:H)=>BjO (h:=a) 175 .u64 (d:Int);have C:=λa (g:Ai h a)=>k.gr g;rw[B8Y];refine wk ?_;refine Fj (A8u v ls _ (C _ Ex)) λv11 Kc e11 l11 A0e q11=>?_;obtain⟨rfl,rfl⟩:=q11;rw[BfA];clear e11 l11 A0e W mkS bx bi;have gA:Ai h (((((((h.new (cz [v] 127)).new (cz [cn (d:Int)] 175)).new (cz ((List.replicate ls.length 0).flatMap Abb) 175)).new (cz [.Bv] 127)).new (cz [cn 0] 175)).put (h.nx+1+1+1) (cz [.sl (h.nx+1+1) 0 ls.length ls.length 1 true] 127)).put (h.nx+1+1+1+1) (cz [cn 0] 175)):=Ex;have nA:(((((((h.new (cz [v] 127)).new (cz [cn (d:Int)] 175)).new (cz ((List.replicate ls.length 0).flatMap Abb) 175)).new (cz [.Bv] 127)).new (cz [cn 0] 175)).put (h.nx+1+1+1) (cz [.sl (h.nx+1+1) 0 ls.length ls.length 1 true] 127)).put (h.nx+1+1+1+1) (cz [cn 0] 175)).nx=h.nx+1+1+1+1+1:=rfl;have aA:(((((((h.new (cz [v] 127)).new (cz [cn (d:Int)] 175)).new (cz ((List.replicate ls.length 0).flatMap Abb) 175)).new (cz [.Bv] 127)).new (cz [cn 0] 175)).put (h.nx+1+1+1) (cz [.sl (h.nx+1+1) 0 ls.length ls.length 1 true] 127)).put (h.nx+1+1+1+1) (cz [cn 0] 175)).m.get h.nx=cz [v] 127:=by simp(disch:=first|exact Ce|fail)
 have aD:(((((((h.new (cz [v] 127)).new (cz [cn (d:Int)] 175)).new (cz ((List.replicate ls.length 0).flatMap Abb) 175)).new (cz [.Bv] 127)).new (cz [cn 0] 175)).put (h.nx+1+1+1) (cz [.sl (h.nx+1+1) 0 ls.length ls.length 1 true] 127)).put (h.nx+1+1+1+1) (cz [cn 0] 175)).m.get (h.nx+1)=cz [cn (d:Int)] 175:=by simp(disch:=first|exact Ce|fail)
 have aQ:(((((((h.new (cz [v] 127)).new (cz [cn (d:Int)] 175)).new (cz ((List.replicate ls.length 0).flatMap Abb) 175)).new (cz [.Bv] 127)).new (cz [cn 0] 175)).put (h.nx+1+1+1) (cz [.sl (h.nx+1+1) 0 ls.length ls.length 1 true] 127)).put (h.nx+1+1+1+1) (cz [cn 0] 175)).m.get (h.nx+1+1)=cz ((List.replicate ls.length 0).flatMap Abb) 175:=by simp(disch:=first|exact Ce|fail)
 have aO:(((((((h.new (cz [v] 127)).new (cz [cn (d:Int)] 175)).new (cz ((List.replicate ls.length 0).flatMap Abb) 175)).new (cz [.Bv] 127)).new (cz [cn 0] 175)).put (h.nx+1+1+1) (cz [.sl (h.nx+1+1) 0 ls.length ls.length 1 true] 127)).put (h.nx+1+1+1+1) (cz [cn 0] 175)).m.get (h.nx+1+1+1)=cz [.sl (h.nx+1+1) 0 ls.length ls.length 1 true] 127:=by rw[Aq _ _ _ om];exact A2 _ _
 have aR:(((((((h.new (cz [v] 127)).new (cz [cn (d:Int)] 175)).new (cz ((List.replicate ls.length 0).flatMap Abb) 175)).new (cz [.Bv] 127)).new (cz [cn 0] 175)).put (h.nx+1+1+1) (cz [.sl (h.nx+1+1) 0 ls.length ls.length 1 true] 127)).put (h.nx+1+1+1+1) (cz [cn 0] 175)).m.get (h.nx+1+1+1+1)=cz [cn 0] 175:=A2 _ _;generalize (((((((h.new (cz [v] 127)).new (cz [cn (d:Int)] 175)).new (cz ((List.replicate ls.length 0).flatMap Abb) 175)).new (cz [.Bv] 127)).new (cz [cn 0] 175)).put (h.nx+1+1+1) (cz [.sl (h.nx+1+1) 0 ls.length ls.length 1 true] 127)).put (h.nx+1+1+1+1) (cz [cn 0] 175))=hA at *
 obtain⟨f,E⟩:∃F,F=(AjN v (cn (d:Int)) (.ptr h.nx 0) (.ptr (h.nx+1) 0) .Bv (cn 0) (.ptr (h.nx+1+1+1) 0) (.ptr (h.nx+1+1+1+1) 0) v (iI ls.length) (.sl (h.nx+1+1) 0 ls.length ls.length 1 true) v (.fn (.func 183) [] [.ptr hA.nx 0])):=⟨_,rfl⟩;have nB:(((hA.new (cz [v] 127)).new (.dfr false)).new (.loop 0 none f [15,16] Aa4 AaL)).nx=hA.nx+3:=rfl;have z:Ai hA (((hA.new (cz [v] 127)).new (.dfr false)).new (.loop 0 none f [15,16] Aa4 AaL)):=(((Ai.refl hA).new _).new _).new _;have S:(((hA.new (cz [v] 127)).new (.dfr false)).new (.loop 0 none f [15,16] Aa4 AaL)).m.get hA.nx=cz [v] 127:=by rw[Cq _ _ ml,Cq _ _ ml];exact Bf _
 have bF:(((hA.new (cz [v] 127)).new (.dfr false)).new (.loop 0 none f [15,16] Aa4 AaL)).m.get (hA.nx+1)=.dfr false:=by rw[Cq _ _ ml];exact Bf (h:=hA.new _) _
 have bL:(((hA.new (cz [v] 127)).new (.dfr false)).new (.loop 0 none f [15,16] Aa4 AaL)).m.get (hA.nx+2)=.loop 0 none f [15,16] Aa4 AaL:=Bf (h:=(hA.new _).new _) _;change Ah h _ (Aa (Z.call 183 [.fn (.yield (hA.nx+2)) [] [],.ptr hA.nx 0] (((hA.new (cz [v] 127)).new (.dfr false)).new (.loop 0 none (AjN v (cn (d:Int)) (.ptr h.nx 0) (.ptr (h.nx+1) 0) .Bv (cn 0) (.ptr (h.nx+1+1+1) 0) (.ptr (h.nx+1+1+1+1) 0) v (iI ls.length) (.sl (h.nx+1+1) 0 ls.length ls.length 1 true) v (.fn (.func 183) [] [.ptr hA.nx 0])) [15,16] Aa4 AaL))) λ_ h1=>AyT (hA.nx+2) _ h1);rw[<- E];have bA:=(z.Cf h.nx om).trans aA;have bD:=(z.Cf (h.nx+1) om).trans aD;have bQ:=(z.Cf (h.nx+1+1) om).trans aQ;have bO:=(z.Cf (h.nx+1+1+1) om).trans aO;have bR:=(z.Cf (h.nx+1+1+1+1) om).trans aR;have n:=gA.trans z;generalize (((hA.new (cz [v] 127)).new (.dfr false)).new (.loop 0 none f [15,16] Aa4 AaL))=hB at *
 have kB:=C hB n;refine gv0 (M ls v hA.nx (hA.nx+2) (λi a=>PS [h.nx+1+1,h.nx+1+1+1+1,hA.nx+2] hB a/\a.m.get (h.nx+1+1)=cz ((List.replicate i 0++(qr d (ls.drop i)).1).flatMap Abb) 175/\a.m.get (h.nx+1+1+1+1)=cz [cn ((qr d (ls.drop i)).2:Int)] 175/\a.m.get (hA.nx+2)=.loop 0 none f [15,16] Aa4 AaL) (λ_=>False) hB hl ?g1 ?g2 ?g3 ⟨⟨by omega,_,_,S,trivial⟩,C hB n⟩) ?main;case g1=>rintro i a ⟨j,G,p3,I⟩;exact⟨j.cont S om (by simp;omega),C a (PS.toG n (by simp;omega) j)⟩
 case g2=>
  rintro i x a p ⟨j,G,p3,I⟩;have P:i<ls.length:=(Wp.1 p).1;have Q:ls.drop i=x::ls.drop (i+1):=by rw[bc P,(Wp.1 p).2]
  have Kf:=j.lo;have hr:=W4 v ls (hA.nx+2) a v (cn (d:Int)) .Bv (cn 0) v (iI ls.length) (.sl (h.nx+1+1) 0 ls.length ls.length 1 true) v (.fn (.func 183) [] [.ptr hA.nx 0]) h.nx (h.nx+1) (h.nx+1+1+1) (h.nx+1+1) (h.nx+1+1+1+1) d (qr d (ls.drop (i+1))).2 x i ls.length _
   (by rw[I,E]) (j.cont bA om (by simp;omega)) (C a (PS.toG n (by simp;omega) j)) p ((j.Cf _ om (by simp;omega)).trans bD) ((j.Cf _ om (by simp;omega)).trans bO) G (by rw[Bd5,Yl,List.length_replicate,Beh,bg];omega) P p3 (Bs8 u _) u R (t x (Vl p)) om om
  refine hr.mono ?_;rintro r h' _ ⟨rfl,q1,q2,q3,q4⟩;refine .inl ⟨rfl,j.trans q1,?_,?_,q4.trans I⟩
  .rw[q2,Biq,BnK,Q];rfl
  .rw[q3,Q];rfl
 case g3=>
  refine⟨PS.refl _ _,?_,?_,bL⟩
  .rw[Re];exact bQ.trans (by rw[show(qr d []).1=[]from rfl,F0])
  .rw[Re];exact bR
 rintro v5 y ⟨_,J⟩;rcases J with⟨j,G,p3,I⟩|J
 rotate_left
 .exact J.elim
 have Kf:=j.lo;have g5:=PS.toG n (by simp;omega) j;have f5:=(j.Cf (hA.nx+1) om (by simp;omega)).trans bF;have o5:=(j.Cf (h.nx+1+1+1) om (by simp;omega)).trans bO;rw[Cp,List.replicate_zero,I3]at G;rw[Cp]at p3;have D:(qr d ls).1.length=ls.length:=Beh d ls;have hqd:=Bj3 u ls t;clear W4 kB C bA bD bQ bO bR S bF bL E M z n aA aD aQ aO aR t u R;rw[Biw I,Bbk];have K:Ai h (y.put (hA.nx+2) (.loop 3 none f [15,16] Aa4 AaL)):=g5.put _ _ om;have f6:=(Aq (h:=y) (hA.nx+2) (.loop 3 none f [15,16] Aa4 AaL) (hA.nx+1) om).trans f5;have o6:=(Aq (h:=y) (hA.nx+2) (.loop 3 none f [15,16] Aa4 AaL) (h.nx+1+1+1) om).trans o5;have J:=(Aq (h:=y) (hA.nx+2) (.loop 3 none f [15,16] Aa4 AaL) (h.nx+1+1) om).trans G;have r6:=(Aq (h:=y) (hA.nx+2) (.loop 3 none f [15,16] Aa4 AaL) (h.nx+1+1+1+1) om).trans p3;have n6:(y.put (hA.nx+2) (.loop 3 none f [15,16] Aa4 AaL)).nx=y.nx:=rfl;generalize (y.put (hA.nx+2) (.loop 3 none f [15,16] Aa4 AaL))=h6 at *
 have kq:NtS h6 (.sl (h.nx+1+1) 0 ls.length ls.length 1 true) (qr d ls).1:=by show Sl 1 h6 _ (qr d ls).1.length _;rw[D];exact .inr ⟨_,_,_,_,_,rfl,Ye _,⟨by omega,_,_,J,trivial⟩,by rw[Bd5,D];omega,by rw[Cp,Qa (by rw[Bd5,D];omega)]⟩
 have c1:Nv h6 (h.nx+1+1+1) [.sl (h.nx+1+1) 0 ls.length ls.length 1 true]:=⟨by omega,_,_,o6,trivial⟩;have xo:=c1.one (o:=0) rfl;have B4a:=λa (g:Ai h6 a)=>Ay2 _ _ a (kq.gr g) om (λx t=>by have:=hqd x t;omega);clear j G p3 I g5 f5 o5 J o6 kq c1;generalize (qr d ls).2=rm at *;generalize (qr d ls).1=qs at *;refine wk ?_;have g0:Ai h6 (Ab (Ab h6)):=(Ai.refl h6).nl.nl;refine zc2 (B4a _ g0) λEr O L T A U=>?_;have r14:=(A _ (by show h.nx+1+1+1+1<h6.nx;omega)).trans r6;have f14:=(A _ (by show hA.nx+1<h6.nx;omega)).trans f6;have V:h6.nx<=O.nx:=T;have c2:Nv O (h.nx+1+1+1+1) [cn (rm:Int)]:=⟨by omega,_,_,r14,trivial⟩;have xr:=c2.one (o:=0) rfl;have Y:Ai h O:=⟨Ol K.lo V,λx t=>(L.Cf x (by show x<h6.nx;have:=K.lo;omega)).trans (K.Cf x t),λx t=>by
  rcases L.lg x t with X|X;. cases X
  .exact .inr (Ol K.lo X)⟩;clear A c2;refine wk ?_;have B:(Be h6.lg (Ab (Ab O))).m.get (hA.nx+1)=.dfr false:=f14;refine(show Ah h _ (dfE (hA.nx+1) (λMa=>OR.ok (AV.Bj [Er,AV.int .u64 (rm:Int)]) Ma) _)from ?_);rw[BqJ B];exact Lo ((Ai.Be Y.nl.nl K).put _ _ om) ⟨Er,rfl,AtV (h:=Be h6.lg (Ab (Ab O))) (Sl.By U.1 (Ao6 rfl rfl)) (λcs e C a=>by rw[B]at a;cases a) (λst a=>by rw[B]at a;cases a)⟩
variable {v2:AV}{l2:uq}
def BxI(U:B0F Z){B r u q t A g k j y5:AV}{n p d x y i:Nat}{z:AV}
 (J:hd.m.get l=.loop 0 none (AiV B r (.ptr n 0) (.ptr p 0) (.ptr d 0) u q t A g k j) [18,19] Aay AaG)
 (cA:Nv hd n [v]) (cB:Nv hd p [v2]) (kn:NtS hd v ls) (k2:NtS hd v2 l2) (S:ls[i]?=some x) (hy:l2[i]?=some y) (g4:hd.m.get d=cz [iI 0] 3)
 (lA:d<hd.nx/\l<hd.nx) (dis:d≠l/\n≠l/\p≠l):
 Ah H0 (λrr h'=>(x=y/\rr=uz/\PS [d,l] hd h'/\h'.m.get d=cz [iI 0] 3/\h'.m.get l=hd.m.get l)\/(x≠y/\rr=ux/\PS [d,l] hd h'/\h'.m.get d=cz [iI (Aoq x y)] 3/\h'.m.get l=.loop 2 (some .ret) (AiV B r (.ptr n 0) (.ptr p 0) (.ptr d 0) u q t A g k j) [18,19] Aay AaG))
  (Aze prog Z N false l [iI (i:Int),y5] hd):=by
 obtain⟨l1,l2'⟩:=lA;obtain⟨n1,n2,n3⟩:=dis;have I:∀cs e kk,hd.m.get l≠.cells cs e kk:=λcs e kk F=>by rw[J]at F;cases F
 have Q:∀st,hd.m.get l≠.Fb st:=λst F=>by rw[J]at F;cases F
 have O:=AtV (Y:=.loop 1 none (AiV B r (.ptr n 0) (.ptr p 0) (.ptr d 0) u q t A g k j) [18,19] Aay AaG) kn I Q;have M:=AtV (Y:=.loop 1 none (AiV B r (.ptr n 0) (.ptr p 0) (.ptr d 0) u q t A g k j) [18,19] Aay AaG) k2 I Q;obtain⟨b1,o1,V⟩:=R0.elem (f:=Abb) (s:=1) (λ_=>rfl) O S;obtain⟨b2,o2,K⟩:=R0.elem (f:=Abb) (s:=1) (λ_=>rfl) M hy;rw[Arc Z N J,B53];rw[J];simp only[];rw[B57];have kA:=AsM (l:=l) (Y:=.loop 1 none (AiV B r (.ptr n 0) (.ptr p 0) (.ptr d 0) u q t A g k j) [18,19] Aay AaG) cA n2 Q;have kB:=AsM (l:=l) (Y:=.loop 1 none (AiV B r (.ptr n 0) (.ptr p 0) (.ptr d 0) u q t A g k j) [18,19] Aay AaG) cB n3 Q;have e4:(hd.put l (.loop 1 none (AiV B r (.ptr n 0) (.ptr p 0) (.ptr d 0) u q t A g k j) [18,19] Aay AaG)).m.get d=_:=(Aq _ _ _ n1).trans g4;have eL:(hd.put l (.loop 1 none (AiV B r (.ptr n 0) (.ptr p 0) (.ptr d 0) u q t A g k j) [18,19] Aay AaG)).m.get l=_:=A2 _ _;have kP:PS [d,l] hd (hd.put l (.loop 1 none (AiV B r (.ptr n 0) (.ptr p 0) (.ptr d 0) u q t A g k j) [18,19] Aay AaG)):=(PS.refl _ _).put _ (by simp);have nN:(hd.put l (.loop 1 none (AiV B r (.ptr n 0) (.ptr p 0) (.ptr d 0) u q t A g k j) [18,19] Aay AaG)).nx=hd.nx:=rfl;have xA:=kA.one (o:=0) rfl;have xB:=kB.one (o:=0) rfl;have x2:=V.ia;have x4:=K.ia;have X:=V.part 0 _ rfl;have W:=K.part 0 _ rfl;rw[Vw]at X W;generalize (hd.put l (.loop 1 none (AiV B r (.ptr n 0) (.ptr p 0) (.ptr d 0) u q t A g k j) [18,19] Aay AaG))=h3 at *;clear V K O M kA kB cA cB kn k2 J g4 I Q S hy;have nr:∀(L:uq) (F:H),Ab (Be L F)=Ab F:=λ_ _=>rfl;have D:Bi h3 (Ab h3):=Ao6 rfl rfl;refine Ey (xA _ D) ?_;simp only[Te];refine Ey (x2 _) (Ey (X _ D) ?_);simp only[Te];refine Ey (xB _ D) ?_;simp only[Te];refine Ey (x4 _) ?_;simp only[Te];refine Ey (W _ D) ?_;simp only[Te];have w1:Aj prog .neq 175 false (cn (x:Int)) (cn (y:Int)) (Ab h3)=.ok (.bool (!decide (x=y))) (Ab h3):=by
  show OR.ok (.bool (Ib (ieq (x:Int) (y:Int)))) _=_;rw[X7];by_cases hq:x=y;. rw[Ws hq,Ws om];rfl
  .rw[Yc hq,Yc om];rfl
 refine Ey w1 ?_;refine Axi (λ_=>False) ?_ λL J=>?_;. simp_all
 have P:PS [d,l] hd (Be L (Ab h3)):=PS.rl kP.nl λz C=>by
  rcases J z C with C|C;. exact kP.lg z C
  .exact C.elim
 by_cases hq:x=y;. rw[Ws hq];refine Ae5 ?_;have G:(Be L (Ab h3)).m.get l=_:=eL;rw[A6P G];refine Lo ⟨Wy _,λb T=>absurd T (dx b),λx _=>.inr (Wy x)⟩ (.inl ⟨hq,rfl,P.put _ (by simp),(Aq _ _ _ n1).trans e4,A2 _ _⟩)
 .rw[Yc hq];refine Zx ?_;simp only[Te,nr];refine Ey (xA _ D) ?_;simp only[Te];refine Ey (x2 _) ?_;simp only[Te];refine Ey (X _ D) ?_;simp only[Te];refine Ey (xB _ D) ?_;simp only[Te];refine Ey (x4 _) ?_;simp only[Te];refine Ey (W _ D) ?_;simp only[Te];refine Fj (U x y (Ab h3)) λv5 E R l5 Az4 q5=>?_;subst q5;have g5:E.m.get d=cz [iI 0] 3:=(R.Cf d (by show d<h3.nx;omega)).trans e4;have l5':h3.nx<=E.nx:=l5;refine Ey (A2o (i:=0) (h:=Ab E) g5 (by simp)) ?_;have d1:wrote E.nx ((Ab E).put d (cz ([AV.int .i64 0].set 0 (iI (Aoq x y))) 3)).lg=[d]:=Aw _ _ [] om;have d0:wrote h3.nx E.lg=[]:=Ai.quiet R;refine Axi (λx=>x=d) ?_ λL2 hL2=>?_
  .intro e he;simp only[Tu,Ww,Oq]at he;rcases he with rfl|rfl|rfl|rfl|rfl|rfl|rfl|rfl|rfl|rfl
   .refine .inr ⟨λx S=>W9.1 (by rw[<- d1];exact S),?_⟩;intro a ha;simp only[Tu,Ww,Oq]at ha;rcases ha with rfl|rfl|rfl|rfl|rfl|rfl|rfl|rfl|rfl|rfl;. exact Ar ..
    all_goals exact Ax _ _ _ _ _ _ _ _ _ _ _ _ rfl
   .exact .inl d0
   all_goals exact .inl rfl
  have G:(Be L2 ((Ab E).put d (cz ([AV.int .i64 0].set 0 (iI (Aoq x y))) 3))).m.get l=.loop 1 none (AiV B r (.ptr n 0) (.ptr p 0) (.ptr d 0) u q t A g k j) [18,19] Aay AaG:=
   (Aq (h:=Ab E) _ _ _ (Ne.symm n1)).trans ((R.Cf l (by show l<h3.nx;omega)).trans eL);rw[A5M G];refine Lo ⟨Wy _,λb T=>absurd T (dx b),λx _=>.inr (Wy x)⟩ (.inr ⟨hq,rfl,PS.put (PS.rl (((kP.nl.gr R).nl).put _ (by simp)) λz C=>?_) _ (by simp),?_,A2 _ _⟩)
  .rcases hL2 z C with C|rfl;. exact P.lg z C
   .simp
  .rw[Aq _ _ _ n1];exact A2 _ _
def lcE:uq->uq->Int
|x::a,y::lb=>if lcE a lb≠0 then lcE a lb else Aoq x y
|_,_=>0
def lcN la lb:=if la.length≠lb.length then Aoq la.length lb.length else lcE la lb
def BaZ:∀i a lb,lcE (a.drop i) (lb.drop i)≠0->lcE a lb=lcE (a.drop i) (lb.drop i)
|0,a,lb,_=>rfl
|i+1,[],lb,h=>absurd rfl h
|i+1,x::a,[],h=>absurd (by cases(x::a).drop _<;>rfl) h
|i+1,x::a,y::lb,h=>by have d:=BaZ i _ _ h;show(if lcE ..≠0 then lcE .. else Aoq x y)=lcE ..;grind
def BhH(cr:Ac):=∀v v2 ls l2 l hd k q o n t p d f e u (g j a x y i:Nat),
 hd.m.get l=.loop 0 none (AiV k q (.ptr g 0) (.ptr j 0) (.ptr a 0) o n t p d f e) [18,19] Aay AaG ->
 Nv hd g [v]->Nv hd j [v2]->NtS hd v ls->NtS hd v2 l2->ls[i]?=some x->l2[i]?=some y->hd.m.get a=cz [iI 0] 3 ->
 a<hd.nx/\l<hd.nx->a≠l/\g≠l/\j≠l ->
 Ah H0 (λr h'=>x=y/\r=uz/\PS [a,l] hd h'/\h'.m.get a=cz [iI 0] 3/\h'.m.get l=hd.m.get l\/x≠y/\r=ux/\PS [a,l] hd h'/\h'.m.get a=cz [iI (Aoq x y)] 3/\h'.m.get l=.loop 2 (some .ret) (AiV k q (.ptr g 0) (.ptr j 0) (.ptr a 0) o n t p d f e) [18,19] Aay AaG)
  (cr.round l [iI i,u] hd)
def Bl3:=∀v v2 ls l2 h,NtS h v ls->NtS h v2 l2->ls.length<=10->Ah h (λr h1=>r=iI (lcN ls l2)) (Z.call 149 [v,v2] h)
def CbS(Q:B07 Z)(W:BfL Z)(X:BfM Z cr)(W4:BhH cr)(k:NtS h v ls)(k2:NtS h v2 l2)(hl:ls.length<=10):
 Ah h (λr h1=>r=iI (lcN ls l2)) (mr Z N 149 [v,v2] h):=by
 have I:=λa=>Sl.Gs (h:=h) (h1:=a) k;have C:=λa=>Sl.Gs (h:=h) (h1:=a) k2;have bx:=λa=>A0u k 127 a;have O:=λa=>A0u k2 127 a;have B:=λa (g:Ai h a)=>k.gr g;have A:=λa (g:Ai h a)=>k2.gr g;have o:=Q (ls.length:Int) (l2.length:Int);unfold lcN;rw[B8C];by_cases S:ls.length=l2.length;rotate_left
 .rw[Xo S];have K:∀a:H,Aj prog .neq 3 false (iI (ls.length:Int)) (iI (l2.length:Int)) a=.ok uz a:=λa=>by show OR.ok (.bool (Ib (ieq (ls.length:Int) (l2.length:Int)))) _=_;rw[X7,Yc om];rfl
  obtain⟨L,V⟩:∃L:Int,L=(ls.length:Int):=⟨_,rfl⟩;obtain⟨L2,q⟩:∃L:Int,L=(l2.length:Int):=⟨_,rfl⟩;rw[<- V,<- q]at K o ⊢;rw[<- V]at I;rw[<- q]at C;clear V q S hl k k2 B A;refine wk ?_;refine Fj (o _) λv1 h1 e1 l1 G D=>?_;subst D;simp only[C9]at l1;have g4:h1.m.get (h.nx+1+1)=cz [iI 0] 3:=(G _ ml).trans (Bf (h:=(h.new _).new _) _);clear G;refine wk ?_;rw[AkG (A2 _ _)];exact zr Ex rfl
 rw[X2 (by simpa using S)];have K:∀a:H,Aj prog .neq 3 false (iI (ls.length:Int)) (iI (l2.length:Int)) a=.ok ux a:=λa=>by show OR.ok (.bool (Ib (ieq (ls.length:Int) (l2.length:Int)))) _=_;rw[X7,Ws om];rfl
 refine wk ?_;refine Fj (W v ls _ (B _ Ex)) λv11 Kc M P A0e q11=>?_;obtain⟨rfl,rfl⟩:=q11;rw[BfA];clear M P A0e I C bx O o K;have gA:Ai h (((h.new (cz [v] 127)).new (cz [v2] 127)).new (cz [iI 0] 3)):=Ex;have nA:(((h.new (cz [v] 127)).new (cz [v2] 127)).new (cz [iI 0] 3)).nx=h.nx+1+1+1:=rfl;have aA:(((h.new (cz [v] 127)).new (cz [v2] 127)).new (cz [iI 0] 3)).m.get h.nx=cz [v] 127:=by simp(disch:=first|exact Ce|fail)
 have aB:(((h.new (cz [v] 127)).new (cz [v2] 127)).new (cz [iI 0] 3)).m.get (h.nx+1)=cz [v2] 127:=by simp(disch:=first|exact Ce|fail)
 have a4:(((h.new (cz [v] 127)).new (cz [v2] 127)).new (cz [iI 0] 3)).m.get (h.nx+1+1)=cz [iI 0] 3:=by simp(disch:=first|exact Ce|fail)
 generalize (((h.new (cz [v] 127)).new (cz [v2] 127)).new (cz [iI 0] 3))=hA at *
 obtain⟨f,p⟩:∃F,F=(AiV v v2 (.ptr h.nx 0) (.ptr (h.nx+1) 0) (.ptr (h.nx+1+1) 0) v (iI l2.length) v2 (iI l2.length) ux v (.fn (.func 183) [] [.ptr hA.nx 0])):=⟨_,rfl⟩;have nB:(((hA.new (cz [v] 127)).new (.dfr false)).new (.loop 0 none f [18,19] Aay AaG)).nx=hA.nx+3:=rfl;have J:Ai hA (((hA.new (cz [v] 127)).new (.dfr false)).new (.loop 0 none f [18,19] Aay AaG)):=(((Ai.refl hA).new _).new _).new _;have bC:(((hA.new (cz [v] 127)).new (.dfr false)).new (.loop 0 none f [18,19] Aay AaG)).m.get hA.nx=cz [v] 127:=by rw[Cq _ _ ml,Cq _ _ ml];exact Bf _
 have bF:(((hA.new (cz [v] 127)).new (.dfr false)).new (.loop 0 none f [18,19] Aay AaG)).m.get (hA.nx+1)=.dfr false:=by rw[Cq _ _ ml];exact Bf (h:=hA.new _) _
 have bL:(((hA.new (cz [v] 127)).new (.dfr false)).new (.loop 0 none f [18,19] Aay AaG)).m.get (hA.nx+2)=.loop 0 none f [18,19] Aay AaG:=Bf (h:=(hA.new _).new _) _;change Ah h _ (Aa (Z.call 183 [.fn (.yield (hA.nx+2)) [] [],.ptr hA.nx 0] (((hA.new (cz [v] 127)).new (.dfr false)).new (.loop 0 none (AiV v v2 (.ptr h.nx 0) (.ptr (h.nx+1) 0) (.ptr (h.nx+1+1) 0) v (iI l2.length) v2 (iI l2.length) ux v (.fn (.func 183) [] [.ptr hA.nx 0])) [18,19] Aay AaG))) λ_ h1=>AyT (hA.nx+2) _ h1);rw[<- p];have bA:=(J.Cf h.nx om).trans aA;have bB:=(J.Cf (h.nx+1) om).trans aB;have b4:=(J.Cf (h.nx+1+1) om).trans a4;have j:=gA.trans J;generalize (((hA.new (cz [v] 127)).new (.dfr false)).new (.loop 0 none f [18,19] Aay AaG))=hB at *
 refine gv0 (X ls v hA.nx (hA.nx+2) (λi a=>PS [h.nx+1+1,hA.nx+2] hB a/\a.m.get (h.nx+1+1)=cz [iI 0] 3/\a.m.get (hA.nx+2)=.loop 0 none f [18,19] Aay AaG/\lcE (ls.drop i) (l2.drop i)=0) (λa=>PS [h.nx+1+1,hA.nx+2] hB a/\a.m.get (h.nx+1+1)=cz [iI (lcE ls l2)] 3/\a.m.get (hA.nx+2)=.loop 2 (some .ret) f [18,19] Aay AaG) hB hl ?g1 ?g2 ?g3 ⟨⟨by omega,_,_,bC,trivial⟩,B hB j⟩) ?main;case g1=>rintro i a ⟨d,t,p3,u⟩;exact⟨d.cont bC om (by simp;omega),B a (PS.toG j (by simp;omega) d)⟩
 case g2=>
  rintro i x a n ⟨d,t,p3,u⟩;have hil:i<ls.length:=(Wp.1 n).1;have hdr:ls.drop i=x::ls.drop (i+1):=by rw[bc hil,(Wp.1 n).2]
  obtain⟨y,z⟩:∃y,l2[i]?=some y:=⟨_,Oh om⟩;have U:l2.drop i=y::l2.drop (i+1):=by rw[bc om,(Wp.1 z).2]
  have R:lcE (ls.drop i) (l2.drop i)=Aoq x y:=by rw[hdr,U];show(if lcE (ls.drop (i+1)) (l2.drop (i+1))≠0 then _ else _)=_;rw[X2 (by simpa using u)]
  have Kf:=d.lo;have hr:=W4 v v2 ls l2 (hA.nx+2) a v v2 v (iI l2.length) v2 (iI l2.length) ux v (.fn (.func 183) [] [.ptr hA.nx 0]) (cn (x:Int)) h.nx (h.nx+1) (h.nx+1+1) x y i
   (by rw[p3,p]) (d.cont bA om (by simp;omega)) (d.cont bB om (by simp;omega)) (B a (PS.toG j (by simp;omega) d)) (A a (PS.toG j (by simp;omega) d)) n z t om om
  refine hr.mono ?_;rintro r h' _ (⟨rfl,rfl,D,q2,T⟩|⟨q0,rfl,D,q2,T⟩)
  .refine .inl ⟨rfl,d.trans D,q2,T.trans p3,?_⟩;rw[R];unfold Aoq;rw[X2 om,X2 om]
  .refine .inr ⟨rfl,d.trans D,?_,by rw[T,p]⟩;rw[q2,BaZ i ls l2 (by rw[R];unfold Aoq;split;decide;split;decide;omega),R]
 case g3=>refine⟨PS.refl _ _,b4,bL,?_⟩;rw[Re];cases l2.drop ls.length<;>rfl
 rintro v5 E ⟨_,⟨d,t,p3,u⟩|⟨d,t,p3⟩⟩;. rw[Cp,Cp]at u;rw[u];have Kf:=d.lo;have g5:=PS.toG j (by simp;omega) d;have Y:=(d.Cf (hA.nx+1) om (by simp;omega)).trans bF;rw[Biw p3,Bbk];have g6:Ai h (E.put (hA.nx+2) (.loop 3 none f [18,19] Aay AaG)):=g5.put _ _ om;have f6:=(Aq (h:=E) (hA.nx+2) (.loop 3 none f [18,19] Aay AaG) (hA.nx+1) om).trans Y;have q6:=(Aq (h:=E) (hA.nx+2) (.loop 3 none f [18,19] Aay AaG) (h.nx+1+1) om).trans t;generalize (E.put (hA.nx+2) (.loop 3 none f [18,19] Aay AaG))=h6 at *;refine Ey (A2o (i:=0) q6 (by simp)) ?_;have f7:=(Aq (h:=h6) (h.nx+1+1) (cz ([AV.int .i64 0].set 0 (iI 0)) 3) (hA.nx+1) om).trans f6;refine(show Ah h _ (dfE (hA.nx+1) _ _)from ?_);rw[BqJ f7,AkG (x:=iI 0) (e:=3) (show((h6.put (h.nx+1+1) (cz ([AV.int .i64 0].set 0 (iI 0)) 3)).put (hA.nx+1) (.dfr true)).m.get (h.nx+1+1)=cz [iI 0] 3 from(Aq _ _ _ om).trans (A2 _ _))];exact Lo ((g6.put _ _ om).put _ _ om) rfl
 .have Kf:=d.lo;have g5:=PS.toG j (by simp;omega) d;have Y:=(d.Cf (hA.nx+1) om (by simp;omega)).trans bF;rw[A6m p3,A6c];have f6:=(Aq (h:=E) (hA.nx+2) (.loop 3 (some .ret) f [18,19] Aay AaG) (hA.nx+1) om).trans Y;refine(show Ah h _ (dfE (hA.nx+1) _ _)from ?_);rw[BqJ f6,AkG (x:=iI (lcE ls l2)) (e:=3) ((Aq _ _ _ om).trans ((Aq _ _ _ om).trans t))];exact Lo ((g5.put _ _ om).put _ _ om) rfl
end Go.Proofs
