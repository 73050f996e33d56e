/- Split of any text. -/
import Derived.Test.YtmjmhajonaelcaaGreatDoorEvLb
import Derived.Test.YtmjmhajonaelcaaGreatDoorEvLc
set_option linter.all false
set_option maxRecDepth 100000
noncomputable section
namespace Go.Proofs
open Go Go.Ev Go.Nm Tryz Go.Ev.Sx
attribute [local irreducible] Aa Al Af Ad
variable {j:EF->Prop}{o:Int}
variable (Z cx:Ac)(N:Nat)
variable {h h1:H}{s:uq}{w:AV}{b:Nat}{pre x rest:uq}
def Bs2 P(a:P=prog):P.underlying 154=some (.pointer 5)/\P.underlying 5=some (.int .u8)/\F7 P 5=some 1:=by subst a;exact⟨rfl,rfl,rfl⟩
def Bhm:∀s:List _,s.flatMap AiS=s.map u8C
|[]=>rfl
|c::s=>by show u8C c::s.flatMap _=_;rw[Bhm s];rfl
def BsD P(a:P=prog):Tw P 97=some ⟨5,1,1⟩/\I1 P 5=some [cw 0]:=by subst a;exact⟨rfl,rfl⟩
def BnJ n:(Ade [cw 0] n).length=n:=by rw[Aix];simp
def BoE(n:Nat)(hn:n<=100000) hh:A3d prog 97 (iI n) (iI n) hh=.ok (.sl hh.nx 0 n n 1 true) (hh.new (cz (Ade [cw 0] n) 5)):=by have⟨u1,_⟩:=BsD _ rfl;unfold A3d;simp only[u1,u2,show Arm (iI n)=some n from rfl];rw[show Nat.ble n n=true by simp,show Gj _=true by rw[Fi];grind];rfl
def AyK:∀s:List _,Bm (s.flatMap AiS)=true
|[]=>rfl
|c::s=>by show @Bool.rec (λ_=>Bool) false (Bm (s.flatMap _)) (Ge (u8C c))=true;rw[AyK s];rfl
def BeW(s:List _):(s.flatMap AiS).length=s.length:=by rw[Aa9 (f:=AiS) λ_=>rfl,ae]
def BhZ{q}{c}(d:s≠[])(hq:h.m.get q=cz c 5)(hc:c.length=s.length):Ahh prog 97 (.sl q 0 s.length s.length 1 true) (.str s) h=.ok (iI s.length) (h.put q (cz (s.flatMap AiS) 5)):=by
 have⟨u1,_⟩:=BsD _ rfl;have a:=BeW s;unfold Ahh;rw[u1];show(match AeG .. with
  |some _=>@Bool.rec (λ_=>OR) _ ..
  |none=>.bad _)=_;rw[Rf,Asj,show Nat.min ..=s.length from Nat.min_self _,ae,AhX,Xo om,Qa om];simp only;rw[AyK,As0,hq,Afa,Kh,Xo om,Rk,I3,a,Rx,Ts om,F0];rfl
def BxP{q}(g:s≠[])(a:∀c∈s,c<256)(f:s.length<=100000)(e:h.m.get q=cz (s.flatMap AiS) 5):
 usV prog 154 (.ptr q 0) (iI s.length) h=.ok (.str s) (h.put q .none):=by
 have⟨u1,u2,u3⟩:=Bs2 _ rfl;have⟨n,hn⟩:∃n,s.length=n+1:=by cases s with|nil=>grind|cons c l=>simp
 have d:=BeW s;unfold usV;rw[show vP _=.yes q 0 from rfl,show Arm _=some _ by rw[hn];rfl];simp only[e,u1,u2,u3];rw[show Nf _ 0 _=some _ by rw[E5,Xo om,Cp,Qa om]];simp only[Bhm,ArA s a];rw[show Gj _=true by rw[Fi];grind];rfl
def B0S:=∀s h,s≠[]->(∀c∈s,c<256)->s.length<=2000->Ah h (λr _=>r=.str s) (Z.call 203 [.str s] h)
def Cct(a:s≠[])(d:∀c∈s,c<256)(f:s.length<=2000):Ah h (λr _=>r=.str s) (mr Z N 203 [.str s] h):=by have e:=Kd.2 a;rw[B9p];exact Ey (A63 s) (Ey (show Aj _ _ 3 _ _ ..=.ok .. from by show OR.ok ..=_;rw[X7,Yc om]) (Ae5 (Ey (A63 s) (Ey (BoE _ om h) (Ey (BhZ a (Bf _) (BnJ _)) (Ey (A6n e _) (Ey rfl (Ey (BxP a d om (A2 ..)) (Lo ((((Ai.refl h).new _).put _ _ (Ye _)).put _ _ (Ye _)) rfl)))))))))
def B0R:=∀a s h,EG h->s≠[]->(∀c∈s,c<256)->s.length<=2000->Ah h (λr _=>∃b,r=.ptr b 0) (Z.call 187 [.str a,.str s] h)
def Ccr{a}(e:B0S Z)(f:EG h)(i:s≠[])(d:∀c∈s,c<256)(g:s.length<=2000):Ah h (λr _=>∃b,r=.ptr b 0) (mr Z N 187 [.str a,.str s] h):=by rw[B9n];refine zc2 (e s _ i d g) λm h1 e1 l1 j k=>?_;have⟨t,x,_,_⟩:=EG.gr (h:=Ab h) f e1;refine wk ?_;exact zr Ex ⟨_,rfl⟩
def B0L:=∀a s h,EG h->s≠[]->(∀c∈s,c<256)->s.length<=2000->Ah h (λr _=>∃b,r=.I6 240 (.ptr b 0)) (Z.call 155 [.str a,.str s,iI 0,iI 0,.I6 238 (iI 1)] h)
def Cck{a:uq}(e:B0R Z)(g:EG h)(k:s≠[])(f:∀c∈s,c<256)(i:s.length<=2000):Ah h (λr _=>∃b,r=.I6 240 (.ptr b 0)) (mr Z N 155 [.str a,.str s,iI 0,iI 0,.I6 238 (iI 1)] h):=by have p:∀d,Aj prog .eql 102 false (.I6 238 (iI 1)) (.I6 238 (iI 2)) d=.ok ux _:=λd=>rfl;have n:∀d,Aj prog .eql 102 false (.I6 238 (iI 1)) (.I6 238 (iI 1)) d=.ok uz _:=λd=>rfl;rw[B8X];refine wk (Fj (e a s _ g k f i) λo h1 e1 l1 m j=>?_);obtain⟨b,rfl⟩:=j;exact zr Ex ⟨b,rfl⟩
abbrev Dgs(s:List _):=∀c∈s,48<=c/\c<=57
def AxX:∀n s,s.length=n->Dgs s->AnE s<10^n
|0,s,h,_=>by rw[Vz.1 h];decide
|n+1,s,h,hd=>by
 rcases T7 s with rfl|⟨l,c,e⟩;. grind
 .rw[T9]at e;subst e;have a:=AxX n l (by grind) λc hc=>hd c (aw _ hc);have hc:=hd c (by simp);rw[A3l,Nat.pow_succ];omega
def B1k:=∀s h,s≠[]->Dgs s->s.length<=2000->Ah h (λr _=>PI s r) (Z.call 164 [.str s] h)
def Cdi(M:100<N)(p:B0T Z)(q:s≠[])(d:Dgs s)(D:s.length<=2000):Ah h (λr _=>PI s r) (mr Z N 164 [.str s] h):=by
 have l0:0<s.length:=Kd.2 q;obtain⟨c,n⟩:∃c,s[0]?=some c:=⟨_,Oh l0⟩;obtain⟨J,c2⟩:=d c (Vl n);have z:∀a:H,xIx prog .str (.str s) (iI 0) a=.ok (cw (c:Int)) a:=λa=>A0l (i:=0) n;have l1:decide (0<s.length)=true:=dt;obtain⟨sl,y⟩:∃x:Int,x=(s.length:Int):=⟨_,rfl⟩;have K:∀a:H,lnS (.str s) a=.ok (iI sl) a:=λa=>by simp_all
 have k2:decide (0<sl)=true:=dt;have L:∀(w:Bool) (r:OR) (a:H),Ad (.Bj []) w r a=.ok (.Bj []) a:=λw r a=>A0V [] w r a;by_cases k:sl<19
 .have A:decide (sl<19)=true:=Ws k;have u:AnE s<=1000000000000000000:=Ol (Nat.le_of_lt (AxX _ s rfl d)) (aq (show 0<10 by omega) (show s.length<=18 by omega));have lp:=λ(v:AV) (h:H) (j:R0 1 AiS h v s) (f0:L2)=>BdU Z N d u om z om h j s.length 0 N f0 om om;have C:=λh=>BkF 5 (s:=s) om h;have G:∀a:H,Aj prog .eql 5 true (cw (c:Int)) (cw 45) a=.ok ux a:=λa=>by rw[eq8,Yc om]
  have O:∀a:H,Aj prog .eql 5 true (cw (c:Int)) (cw 43) a=.ok ux a:=λa=>by rw[eq8,Yc om]
  have e:PI s (.Bj [iI (AnE s:Int),.B3]):=.inl ⟨by omega,rfl⟩;replace lp:=(show F5 _ from lp);rw[BzQ];clear y l1 d n u;refine wk ?_;rw[Bmx];refine Ey (C h) ?_;refine Ey (v:=iI (s.length:Int)) rfl ?_;have g1:Ai h ((h.new (.Fb 0)).new (.cells (s.flatMap AiS) 5 (.Gt h.nx))):=((Ai.refl h).new _).new _;have j:R0 1 AiS ((h.new (.Fb 0)).new (.cells (s.flatMap AiS) 5 (.Gt h.nx))) (.sl (h.nx+1) 0 s.length s.length 1 false) s:=
   .inr ⟨h.nx+1,0,s.length,false,s.flatMap AiS,rfl,Ye _,⟨by simp,5,.Gt h.nx,Bf (h:=h.new (.Fb 0)) _,trivial⟩,by rw[Aa9 (f:=AiS) (s:=1) (λ_=>rfl)];omega,by rw[Cp,Qa (by rw[Aa9 (f:=AiS) (s:=1) (λ_=>rfl)];omega)]⟩;obtain⟨v,h2,e1,B,E⟩:=(show ∀(v:AV) (h:H) (j:R0 1 AiS h v s) (f0:L2),_ from lp) _ _ j _;exact⟨v,h2,e1,g1.trans B,E ▸ e⟩
 .have A:decide (sl<19)=false:=Yc k;have hc:=p s h q d D;rw[BzQ];clear y l1 d n;refine wk ?_;refine Fj hc λI h1 e1 l1 o g=>?_;clear hc o;rcases g with⟨g,rfl⟩|⟨g,m,rfl⟩;. have e:PI s (.Bj [iI (AnE s:Int),.B3]):=.inl ⟨g,rfl⟩;refine wk ?_;exact zr Ex e
  .have e:PI s (.Bj [iI m,.I6 238 (iI 1)]):=.inr ⟨g,m,rfl⟩;refine wk ?_;exact zr Ex e
def PJ s(r:AV):=(AnE s:Int)<=9223372036854775807/\r=.Bj [iI (AnE s),.B3]\/1000000000<AnE s/\∃(m:Int) (b:Nat),r=.Bj [iI m,.I6 240 (.ptr b 0)]
def B1g:=∀s h,EG h->s≠[]->Dgs s->s.length<=2000->Ah h (λr _=>PJ s r) (Z.call 137 [.str s] h)
def Cde(j:B1k Z)(f:B0L Z)(p:EG h)(n:s≠[])(e:Dgs s)(k:s.length<=2000):Ah h (λr _=>PJ s r) (mr Z N 137 [.str s] h):=by
 have z1:∀a:H,Aj prog .neq 102 true .B3 .B3 a=.ok ux a:=λa=>by rfl
 have v:∀a:H,Aj prog .neq 102 true (.I6 238 (iI 1)) .B3 a=.ok uz a:=λa=>by kernel_rfl
 rw[BzK];refine Fj (j s h n e k) λA h1 e1 l1 i d=>?_;clear i;rcases d with⟨d,rfl⟩|⟨d,m,rfl⟩;. have g:PJ s _:=.inl ⟨d,rfl⟩;exact wk (zr Ex g)
 .refine wk (Fj (f _ s _ (p.gr e1) n λc hc=>by grind k) λz h2 u y o q=>?_);obtain⟨b,rfl⟩:=q;exact zr (e1.trans u) (  .inr ⟨by omega,m,b,rfl⟩)
def Ang s:=if 1<s.length/\s.headD 0=48\/1000000000<AnE s then none else some (AnE s)
def AuU(s:uq)(at':Int)(r:AV):Prop:=match Ang s with
|some n=>r=.Bj [.agg (Aez ⟨3,s,n,at'⟩),iI 0]
|none=>∃t f,r=.Bj [.agg (Aez t),iI f]/\f≠0
def AuU.no{at'}{t}{f}(h:Ang s=none)(a:f≠0):AuU s at' (.Bj [.agg (Aez t),iI f]):=by unfold AuU;grind
def AuU.yes{at'}{n}(h:Ang s=some n)(a:o=n):AuU s at' (.Bj [.agg (Aez ⟨3,s,o,at'⟩),iI 0]):=by unfold AuU;grind
def BsG{at':Int}{v:AV}(k:¬ (1<s.length/\s.headD 0=48))(q:PJ s v)(g:Ai h h1)(R:h1.m.get h.nx=cz (Aez AiM) 48)(S:h.nx<h1.nx):Ah h (λr _=>AuU s at' r) (
 Aa (L9 v 0 h1) λi D=>
 Aa (L9 v 1 D) λj M=>
 Aa (Aj prog .neq 102 true j .B3 M) λe o=>
 Aa (Ad e false (.ok i o) o) λJ u=>
 Aa (Ad e false (Aj prog .gtr 3 true J (iI 1000000000) u) u) λC E=>
 Aa (Bo e uz C E) λB y=>
 Af B (
 Aa (A4 4 (.ptr h.nx 0) (.agg [iI 0,.str [],iI 0,iI 0]) y) λO A=>
 Vk [.c (some (some 4)) (.ptr h.nx 0),.v (iI 2)] A) (
 Aa (B7 [iI 0,.str [],iI 0,iI 0] [(0,1,iI 3),(1,1,.str s),(2,1,i),(3,1,iI at')] y) λG I=>
 Aa (A4 4 (.ptr h.nx 0) G I) λP K=>
 Vk [.c (some (some 4)) (.ptr h.nx 0),.v (iI 0)] K)):=by
 have T:∀(w:Bool) (r:OR) (d:H),Ad (.Bj []) w r d=.ok (.Bj []) d:=λw r d=>A0V [] w r d;have z1:∀d:H,Aj prog .neq 102 true .B3 .B3 d=.ok ux d:=λd=>by kernel_rfl
 have Q:∀(b:Nat) (d:H),Aj prog .neq 102 true (.I6 240 (.ptr b 0)) .B3 d=.ok uz d:=λb d=>by kernel_rfl
 rcases q with⟨q,rfl⟩|⟨q,m,b,rfl⟩
 .obtain⟨n,hn⟩:∃n:Int,n=(AnE s:Int):=⟨_,rfl⟩;rw[<- hn]at q ⊢;by_cases p:1000000000<n
  .have z:decide (1000000000<n)=true:=Ws p;have a:Ang s=none:=by unfold Ang;grind
   clear hn q k;refine wk ?_;exact zr Ex (AuU.no (t:=AiM) (f:=2) a fe)
  .have z:decide (1000000000<n)=false:=Yc p;have a:Ang s=some (AnE s):=by unfold Ang;rw[X2 om]
   have L:=AuU.yes (at':=at') a hn;clear hn q k a;refine wk ?_;exact zr Ex L
 .have a:Ang s=none:=by unfold Ang;simp[*]
  clear q k;refine wk ?_;exact zr Ex (AuU.no (t:=AiM) (f:=2) a fe)
def Bta:=∀s at' h,EG h->s≠[]->Dgs s->s.length<=2000->Ah h (λr _=>AuU s at' r) (Z.call 99 [.str s,iI at'] h)
def CcV{at':Int}(o:B1g Z)(B:EG h)(v:s≠[])(e:Dgs s)(z:s.length<=2000):Ah h (λr _=>AuU s at' r) (mr Z N 99 [.str s,iI at'] h):=by
 have l0:0<s.length:=Kd.2 v;obtain⟨c,n⟩:∃c,s[0]?=some c:=⟨_,Oh l0⟩;obtain⟨K,c2⟩:=e c (Vl n);have G:s.headD 0=c:=by cases s with|nil=>cases n|cons a l=>cases n;rfl
 have D:∀d:H,xIx prog .str (.str s) (iI 0) d=.ok (cw (c:Int)) d:=λd=>A0l (i:=0) n;obtain⟨sl,p⟩:∃x:Int,x=(s.length:Int):=⟨_,rfl⟩;have L:∀d:H,lnS (.str s) d=.ok (iI sl) d:=λd=>by rw[p];exact A63 s
 have M:∀(w:Bool) (r:OR) (d:H),Ad (.Bj []) w r d=.ok (.Bj []) d:=λw r d=>A0V [] w r d;obtain⟨A,j⟩:∃x:Int,x=(c:Int):=⟨_,rfl⟩;rw[<- j]at D;rw[BzD];by_cases k:1<s.length
 .have C:decide (1<sl)=true:=dt;by_cases I:c=48
  .have J:∀d:H,Aj prog .eql 5 true (cw A) (cw 48) d=.ok uz d:=λd=>by rw[eq8,Ws om]
   have q:Ang s=none:=by unfold Ang;simp_all
   clear p e n I j;refine wk ?_;exact zr Ex (AuU.no (t:=AiM) (f:=11) q fe)
  .have J:∀d:H,Aj prog .eql 5 true (cw A) (cw 48) d=.ok ux d:=λd=>by rw[eq8,Yc om]
   have y:¬ (1<s.length/\s.headD 0=48):=by omega
   have hc:=λd g=>o s d (B.gr g) v e z;clear p n e j;refine wk ?_;refine Fj (hc _ Ex) λE h1 e1 l1 m u=>?_;exact BsG y u (Ai.trans Ex e1) ((m h.nx (by simp_all)).trans (Bf _)) (by simp only[C9]at l1;omega)
 .have C:decide (1<sl)=false:=df;have y:¬ (1<s.length/\s.headD 0=48):=by omega
  have hc:=λd g=>o s d (B.gr g) v e z;clear p n e j;refine wk ?_;refine Fj (hc _ Ex) λE h1 e1 l1 m u=>?_;exact BsG y u (Ai.trans Ex e1) ((m h.nx ml).trans (Bf _)) (by simp only[C9]at l1;omega)
def idC c:=decide (N3 c∈[2,3,4])
def dgC c:=decide (N3 c∈[3])
def nxF:uq->Option L3
|[]=>none
|c::t=>
 if N3 c=2 then if 20<((c::t).takeWhile idC).length then none else some (if(c::t).takeWhile idC∈W35 then .kw ((c::t).takeWhile idC)else .nm ((c::t).takeWhile idC))
 else if N3 c=3 then(Ang ((c::t).takeWhile dgC)).map λn=>.nu n
 else if N3 c=5 then if(t.dropWhile idC).head?=some 39/\AoC (t.takeWhile idC)then some (.wd (t.takeWhile idC))else none
 else(sgF (c::t)).map .sg
def AnD(p:Nat->Bool):∀l:List _,l=l.takeWhile p++l.dropWhile p/\(∀c∈l.takeWhile p,p c=true)/\∀c∈(l.dropWhile p).head?,p c=false
|[]=>⟨rfl,by simp,by simp⟩
|c::l=>by
 have⟨_,_,_⟩:=AnD p l;by_cases hc:p c=true;. simp_all
 simp_all
def Aq7(p:Nat)(z:Option L3)(r:AV):Prop:=match z with
|some x=>∃t,r=.Bj [.agg (Aez t),iI (p+(lt x).length:Nat),iI 0]/\AeT t x
|none=>∃t e f,r=.Bj [.agg (Aez t),iI e,iI f]/\f≠0
def B5X(J:A4K Z)(R:Bpp Z)(I:Be2 Z)(k:Sc0 b s h)(hG:S0 h)(C:s=pre++(x++rest))(W:x≠[])(V:∀c∈x,N3 c∈[(2:Int),3,4])(v:N3 (x.headD 0)=2)(Y:∀c∈rest.head?,N3 c ∉ [(2:Int),3,4]):
 Ah h (λr h1=>Aq7 pre.length (if 20<x.length then none else some (if x∈W35 then .kw x else .nm x)) r) (mr Z N 68 [.ptr b 0,iI (pre.length:Int)] h):=by
 obtain⟨c,r,n⟩:∃c r,x=c::r:=by cases x with|nil=>exact absurd rfl W|cons c r=>exact⟨c,r,rfl⟩
 have hc:s[pre.length]?=some c:=by rw[C,n];simp
 have Ox:N3 c=2:=by rw[n]at v;exact v
 have U:c<256:=k.by' c (Vl hc);obtain⟨cs,g,e0,S⟩:=Ag0 k U;rw[Ox]at S;have x1:∀i:H,xIx prog .str (.str s) (iI (pre.length:Int)) i=.ok (cw (c:Int)) i:=λi=>A0l hc;have x2:=λi=>ApQ (b:=b) U i;have B6:=k.lt;have A82:=k.Mu;have Z3:s.length=pre.length+(x.length+rest.length):=by rw[C,Yl,Yl]
 have G:∀i:H,xSl prog 9 (.str s) (some (iI (pre.length:Int))) (some (iI ((pre.length+x.length:Nat):Int))) i=.ok (.str x) i:=λi=>by rw[Aji xi9 om om,C,di,show pre.length+x.length-pre.length=x.length by omega,eb]
 have P:=λ(w:AV) (i:H) (hw:R0 1 Ane i w [2,3,4]) (g:Ai h i)=>J b s w [2,3,4] pre x rest i hw fe (k.gr g) C V Y;obtain⟨q,K⟩:∃z:Int,z=(x.length:Int):=⟨_,rfl⟩;have x3:∀i:H,lnS (.str x) i=.ok (iI q) i:=λi=>by rw[K];exact A63 x
 have a:∀(j:Int) (p:Int),(if x∈W35 then(2:Int)else 1)=j->¬ 20<x.length->Aq7 pre.length (if 20<x.length then none else some (if x∈W35 then .kw x else .nm x)) (.Bj [.agg (Aez ⟨j,x,0,p⟩),iI ((pre.length+x.length:Nat):Int),iI 0]):=by
  intro j p hj L;rw[X2 L];by_cases d:x∈W35
  .rw[Xo d]at hj ⊢;exact⟨_,rfl,hj.symm,rfl⟩
  .rw[X2 d]at hj ⊢;exact⟨_,rfl,hj.symm,rfl⟩
 have f:∀(t:Tok) (e:Int),20<x.length->Aq7 pre.length (if 20<x.length then none else some (if x∈W35 then .kw x else .nm x)) (.Bj [.agg (Aez t),iI e,iI 19]):=by intro t e L;rw[Xo L];exact⟨t,e,19,rfl,by decide⟩
 have hz:q<=2000:=by omega
 have u:20<x.length\/¬ 20<x.length:=Classical.em _;generalize Aq7 pre.length (if 20<x.length then none else some (if x∈W35 then .kw x else .nm x))=ZZ at a f ⊢;generalize ((pre.length+x.length:Nat):Int)=ei at G P a f ⊢;generalize (pre.length:Int)=pi at *
 have y:(20<x.length)=(20<q):=by rw[K];exact propext ⟨λh=>by omega,λh=>by omega⟩
 rw[y]at a f u;clear hc n V C Z3 K y W;rw[BmL];refine wk ?_;have M:Ai h ((h.new (cz [iI 0,.str [],iI 0,iI 0] 48)).new (cz [iI 2,iI 3,iI 4] 69)):=((Ai.refl h).new _).new _;refine Fj (P _ _ (Sl.lit (h:=h.new _) (Bf _) rfl rfl) M) λv1 h2 X l2 D q2=>?_;subst q2;simp only[C9]at l2;have gB:=M.trans X;have kB:=k.gr gB;have kz:h2.m.get h.nx=cz (Aez AiM) 48:=by rw[D h.nx ml];simp(disch:=first|exact Ce|fail)
 obtain⟨cs2,g2,Q,_⟩:=Ag0 kB (show 0<256 by decide)
 clear P D g e0 S k X M Y;refine wk ?_;refine Fj (R _ (hG.By (Ai.keeps Ex))) λv3 O e3 l3 A q3=>?_;simp only[C9]at l3;have B:O.m.get h.nx=cz (Aez ⟨1,x,0,pi⟩) 48:=by rw[A h.nx ml];simp(disch:=first|exact Ce|fail)
 have T:Ai h O:=Ai.trans Ex e3;refine Fj (I x v3 W35 O q3 fe) λv4 h4 e4 l4 E q4=>?_;subst q4;have kz4:h4.m.get h.nx=cz (Aez ⟨1,x,0,pi⟩) 48:=(E h.nx om).trans B;have gD:=T.trans e4;clear A E e3 e4 T B kz g2 Q kB;by_cases d:x∈W35
 .have k5:decide (x∈W35)=true:=Ws d;replace a:=λj p hj=>a j p ((Xo d).trans hj);clear d;rcases u with d|d;. have o:decide ((20:Int)<q)=true:=Ws d;replace f:=λt e=>f t e d;clear a d;refine wk ?_;rw[BcC];refine wk ?_;rw[Ap4 ⟨2,x,0,pi⟩ (A2 _ _)];exact zr Ex (f _ _)
  .have o:decide ((20:Int)<q)=false:=Yc d;replace a:=a 2 pi rfl d;clear f d;refine wk ?_;rw[BcC];refine wk ?_;rw[Ap4 ⟨2,x,0,pi⟩ (A2 _ _)];exact zr Ex a
 .have k5:decide (x∈W35)=false:=Yc d;replace a:=λj p hj=>a j p ((X2 d).trans hj);clear d;rcases u with d|d;. have o:decide ((20:Int)<q)=true:=Ws d;replace f:=λt e=>f t e d;clear a d;refine wk ?_;rw[BcC];refine wk ?_;rw[Ap4 ⟨1,x,0,pi⟩ (A2 _ _)];exact zr Ex (f _ _)
  .have o:decide ((20:Int)<q)=false:=Yc d;replace a:=a 1 pi rfl d;clear f d;refine wk ?_;rw[BcC];refine wk ?_;rw[Ap4 ⟨1,x,0,pi⟩ (A2 _ _)];exact zr Ex a
def BeZ:∀n s,s.length=n->Dgs s->Ao2 n (AnE s)=s
|0,s,h,_=>by rw[Vz.1 h];rfl
|n+1,s,h,hd=>by
 rcases T7 s with rfl|⟨l,c,e⟩;. grind
 .rw[T9]at e;subst e;have hc:=hd c (by simp);show Ao2 n _++[48+AnE _%10]=_;rw[A3l,show(AnE l*10+(c-48))/10=AnE l by omega,show 48+(AnE l*10+(c-48))%10=c by omega,BeZ n l (by grind) λc hc=>hd c (aw _ hc)]
def BfH:∀n s,s.length=n+1->49<=s.headD 0->10^n<=AnE s
|0,s,h,hd=>by obtain⟨c,rfl⟩:=List.length_eq_one_iff.1 h;show 1<=0*10+(c-48);grind
|n+1,s,h,hd=>by
 rcases T7 s with rfl|⟨l,c,e⟩;. grind
 .rw[T9]at e;subst e;have d:=BfH n l (by grind) (by cases l with|nil=>grind|cons a l=>grind);rw[A3l,Nat.pow_succ];omega
def Bd2{n:Nat}(o:s≠[])(hd:Dgs s)(h:Ang s=some n):V8 (n:Int)=s/\n<=1000000000:=by
 unfold Ang at h;split at h;. grind
 .next hn=>
  injection h with h;have i:n<=1000000000:=by omega
  refine⟨?_,i⟩;obtain⟨m,g⟩:∃m,s.length=m+1:=⟨s.length-1,by have:=Kd.2 o;omega⟩;have h2:=AxX _ s g hd;have e:=BeZ _ s g hd;rw[h]at h2 e;show Ao2 (nd n) n=s;suffices hq:nd n=m+1 by grind
  have f:1<=m->10^m<=n:=λd=>h ▸ BfH m s g (by
   have hc:s.headD 0≠48:=λhc=>hn (.inl ⟨by omega,hc⟩);have p:48<=s.headD 0:=by cases s with
    |nil=>grind
    |cons a l=>simp_all
   omega);rcases Aqg n i with⟨j,a2⟩|⟨D,j,a2,_,q,k⟩;. grind
  .rw[j];have b1:D<m+1:=(ap (show 1<10 by simp)).1 (Ut q h2);by_cases d:1<=m;. have b2:m<D+1:=(ap (show 1<10 by grind)).1 (Ut (f d) k);omega
   omega
def Bib{c}(h1:N3 c=3):48<=c/\c<=57:=by unfold N3 at h1;omega
def c39{c}(c5:N3 c=5):c=39:=by unfold N3 at c5;omega
def B5Y(B:A4K Z)(y:Bta Z)(Y:EG h)(k:Sc0 b s h)(u:s=pre++(x++rest))(z:x≠[])(K:∀c∈x,N3 c∈[(3:Int)])(i:∀c∈rest.head?,N3 c ∉ [(3:Int)]):
 Ah h (λr h1=>Aq7 pre.length ((Ang x).map λn=>.nu n) r) (mr Z N 68 [.ptr b 0,iI (pre.length:Int)] h):=by
 have hd:Dgs x:=λc hc=>Bib (by simp_all);have B6:=k.lt;have T:=k.Mu;have Z3:s.length=pre.length+(x.length+rest.length):=by grind
 have p:=λ(pi:Int) a (g:Ai h a)=>y x pi a (Y.gr g) z hd om;obtain⟨c,r,q⟩:∃c r,x=c::r:=by cases x with|nil=>simp_all|cons c r=>simp_all
 have hc:s[pre.length]?=some c:=by rw[u,q];simp
 have Ox:N3 c=3:=by simp_all
 have I:c<256:=k.by' c (Vl hc);obtain⟨cs,g,R,G⟩:=Ag0 k I;rw[Ox]at G;have x1:∀a:H,xIx prog .str (.str s) (iI (pre.length:Int)) a=.ok (cw (c:Int)) a:=λa=>A0l hc;have x2:=λa=>ApQ (b:=b) I a;have v:∀a:H,xSl prog 9 (.str s) (some (iI (pre.length:Int))) (some (iI ((pre.length+x.length:Nat):Int))) a=.ok (.str x) a:=λa=>by rw[Aji xi9 om om,u,di,show pre.length+x.length-pre.length=x.length by omega,eb]
 have D:=λ(w:AV) (a:H) (U:R0 1 Ane a w [3]) (g:Ai h a)=>B b s w [3] pre x rest a U fe (k.gr g) u K i;replace p:=p (pre.length:Int);have d:∀r,AuU x (pre.length:Int) r->∃t f,r=.Bj [.agg (Aez t),iI f]/\Aq7 pre.length ((Ang x).map λn=>.nu n) (.Bj [.agg (Aez t),iI ((pre.length+x.length:Nat):Int),iI f]):=by intro r i;unfold AuU at i;cases e:Ang x with
  |none=>rw[e]at i;obtain⟨t,f,rfl,V⟩:=i;exact⟨t,f,rfl,t,_,f,rfl,V⟩
  |some n=>rw[e]at i;subst i;refine⟨_,_,rfl,⟨3,x,n,pre.length⟩,?_,rfl,rfl⟩;show _=AV.Bj [_,iI ((pre.length+(V8 (n:Int)).length:Nat):Int),_];rw[(Bd2 z hd e).1]
 generalize Aq7 pre.length ((Ang x).map λn=>.nu n)=ZZ at d ⊢;generalize AuU x (pre.length:Int)=Sd at d p;generalize ((pre.length+x.length:Nat):Int)=ei at v D d ⊢;generalize (pre.length:Int)=pi at *;clear hc K u Z3 q z hd i;rw[BmL];refine wk ?_;have C:Ai h ((h.new (cz [iI 0,.str [],iI 0,iI 0] 48)).new (cz [iI 3] 69)):=((Ai.refl h).new _).new _;refine Fj (D _ _ (Sl.lit (h:=h.new _) (Bf _) rfl rfl) C) λv1 h2 M l2 o q2=>?_;subst q2;simp only[C9]at l2;have A:=C.trans M;have Q:=k.gr A;have J:h2.m.get h.nx=cz (Aez AiM) 48:=by rw[o h.nx ml];simp(disch:=first|exact Ce|fail)
 obtain⟨S,g2,E,_⟩:=Ag0 Q (show 0<256 by decide);clear D o g R G k M C;refine wk ?_;refine Fj (p _ A) λv3 O P l3 j L=>?_;obtain⟨t,f,rfl,W⟩:=d _ L;have X:O.m.get h.nx=cz (Aez AiM) 48:=(j h.nx om).trans J;have gC:Ai h O:=A.trans P;clear j P J g2 E Q p d L;refine wk ?_;rw[Ap4 t (A2 _ _)];exact zr Ex W
def Boc{r x}(h:sgF r=some x):x.length<=2:=by unfold sgF at h;grind
def B5Z(v:Btb Z)(k:Sc0 b s h)(y:s=pre++rest){c:Nat}{t:uq}(I:rest=c::t)(c2:N3 c≠2)(c3:N3 c≠3)(c5:N3 c≠5):
 Ah h (λr h1=>Aq7 pre.length ((sgF rest).map .sg) r) (mr Z N 68 [.ptr b 0,iI (pre.length:Int)] h):=by
 have hc:s[pre.length]?=some c:=by simp_all
 have E:c<256:=k.by' c (Vl hc);obtain⟨cs,g,D,u⟩:=Ag0 k E;have W:∀a:H,xIx prog .str (.str s) (iI (pre.length:Int)) a=.ok (cw (c:Int)) a:=λa=>A0l hc;have U:=λa=>ApQ (b:=b) E a;have X:=k.lt;have O:=k.Mu;have J:s.length=pre.length+rest.length:=by grind
 have f:=λ(a:H) (g:Ai h a)=>v b s pre rest a (k.gr g) y (by simp_all);have r1:0<=(pre.length:Int):=by omega
 have V:(pre.length:Int)<=2000:=by omega
 obtain⟨A,i⟩:∃z:Int,z=N3 c:=⟨_,rfl⟩;rw[<- i]at c2 c3 c5 u;have R:decide (A=2)=false:=Yc c2;have Y:decide (A=3)=false:=Yc c3;have T:decide (A=5)=false:=Yc c5;cases o:sgF rest with
 |none=>
  rw[o]at f;replace f:=λ(a:H) (g:Ai h a)=>(show Ah a (λr _=>r=.Bj [.str [],ux]) _ from f a g);have d:∀(t:Tok) (e:Int),Aq7 pre.length (Option.map .sg (none:Option uq)) (.Bj [.agg (Aez t),iI e,iI 11]):=λt e=>⟨t,e,11,rfl,by decide⟩;generalize Aq7 pre.length (Option.map .sg (none:Option uq))=ZZ at d ⊢;generalize (pre.length:Int)=pi at *;clear hc y I J o i c2 c3 c5;rw[BmL];refine wk ?_;refine Fj (f _ Ex) λL h2 n B j C=>?_;subst C;simp only[C9]at B;have M:Ai h h2:=Ai.trans Ex n;have K:h2.m.get h.nx=cz (Aez AiM) 48:=by simp_all
  clear f j g D u k n;refine wk ?_;rw[Ap4 AiM (A2 _ _)];exact zr Ex (d _ _)
 |some x=>
  have q:=Boc o;rw[o]at f;replace f:=λ(a:H) (g:Ai h a)=>(show Ah a (λr _=>r=.Bj [.str x,uz]) _ from f a g);obtain⟨p,G⟩:∃z:Int,z=(x.length:Int):=⟨_,rfl⟩;have P:p<=2:=by omega
  have S:0<=p:=by omega
  have d:Aq7 pre.length (Option.map .sg (some x)) (.Bj [.agg (Aez ⟨5,x,0,pre.length⟩),iI ((pre.length:Int)+p),iI 0]):=⟨⟨5,x,0,pre.length⟩,by rw[G];rfl,rfl,rfl⟩;have Q:∀a:H,lnS (.str x) a=.ok (iI p) a:=λa=>by simp_all
  generalize Aq7 pre.length (Option.map .sg (some x))=ZZ at d ⊢;generalize (pre.length:Int)=pi at *;clear hc y I J o i c2 c3 c5 G q;rw[BmL];refine wk ?_;refine Fj (f _ Ex) λL h2 n B j C=>?_;subst C;simp only[C9]at B;have M:Ai h h2:=Ai.trans Ex n;have K:h2.m.get h.nx=cz (Aez AiM) 48:=by simp_all
  clear f j g D u k n;refine wk ?_;rw[Ap4 ⟨5,x,0,pi⟩ (A2 _ _)];exact zr Ex d
def B6a(S:A4K Z)(V:BsX Z)(k:Sc0 b s h)(hG:S0 h)(L:s=pre++(39::(x++rest)))(Q:∀c∈x,N3 c∈[(2:Int),3,4])(Y:∀c∈rest.head?,N3 c ∉ [(2:Int),3,4]):
 Ah h (λr h1=>Aq7 pre.length (if rest.head?=some 39/\AoC x then some (.wd x)else none) r) (mr Z N 68 [.ptr b 0,iI (pre.length:Int)] h):=by
 have hc:s[pre.length]?=some 39:=by rw[L];simp
 have q:s=(pre++[39])++(x++rest):=by rw[L];simp
 have W:s.length=pre.length+1+x.length+rest.length:=by rw[L];simp;omega
 obtain⟨cs,g,e0,J⟩:=Ag0 k (show 39<256 by decide)
 rw[show N3 39=5 from rfl]at J
 have x1:∀d:H,xIx prog .str (.str s) (iI (pre.length:Int)) d=.ok (cw 39) d:=λd=>A0l hc;have x2:∀d:H,AxM 256 1 (.ptr b 2) (cw 39) d=.ok (.ptr b 41) d:=λd=>ApQ (b:=b) (show 39<256 by decide) d
 replace J:cs[41]?=some (iI 5):=J;have B6:=k.lt;have A82:=k.Mu;have u:(pre++[39]).length=pre.length+1:=by simp
 have Abm:∀d:H,xSl prog 9 (.str s) (some (iI ((pre.length:Int)+1))) (some (iI ((pre.length+1+x.length:Nat):Int))) d=.ok (.str x) d:=λd=>by have:=Aji (P:=prog) (t:=9) (a:=s) (i:=pre.length+1) (j:=pre.length+1+x.length) xi9 om om d;rw[show(pre.length:Int)+1=((pre.length+1:Nat):Int)by omega,this,q,<- u,di,Nat.add_sub_cancel_left,eb]
 have M:=λ(w:AV) (d:H) (hw:R0 1 Ane d w [2,3,4]) (g:Ai h d)=>S b s w [2,3,4] (pre++[39]) x rest d hw fe (k.gr g) q Q Y;rw[u]at M;rw[show((pre.length+1:Nat):Int)=(pre.length:Int)+1 by omega]at M
 clear u;obtain⟨sl,C⟩:∃z:Int,z=(s.length:Int):=⟨_,rfl⟩;have x3:∀d:H,lnS (.str s) d=.ok (iI sl) d:=λd=>by rw[C];exact A63 s
 have r1:0<=(pre.length:Int):=by omega
 have r2:(pre.length:Int)<=2000:=by omega
 have r3:((pre.length+1+x.length:Nat):Int)<=2000:=by omega
 have r4:0<=((pre.length+1+x.length:Nat):Int):=by omega
 have n:=λd (hg:S0 d)=>V x d hg Q om;have wt:∀(w:Bool) (r:OR) (d:H),Ad (.Bj []) w r d=.ok (.Bj []) d:=λw r d=>A0V [] w r d;have fail:¬ (rest.head?=some 39/\AoC x)->∀(t:Tok) (e:Int),Aq7 pre.length (if rest.head?=some 39/\AoC x then some (.wd x)else none) (.Bj [.agg (Aez t),iI e,iI 11]):=λhn t e=>by rw[X2 hn];exact⟨t,e,11,rfl,by decide⟩
 have f:rest.head?=some 39->AoC x->Aq7 pre.length (if rest.head?=some 39/\AoC x then some (.wd x)else none) (.Bj [.agg (Aez ⟨4,x,0,pre.length⟩),iI (((pre.length+1+x.length:Nat):Int)+1),iI 0]):=λh1 h2=>by rw[Xo ⟨h1,h2⟩];refine⟨⟨4,x,0,pre.length⟩,?_,rfl,rfl⟩;rw[show((pre.length+(lt (.wd x)).length:Nat):Int)=((pre.length+1+x.length:Nat):Int)+1 by show((pre.length+(39::x++[39]).length:Nat):Int)=_;simp;omega]
 have p:∀c,rest.head?=some c->s[pre.length+1+x.length]?=some c:=by
  intro c hc;cases rest with
  |nil=>cases hc
  |cons a l=>cases hc;rw[q,bu (by simp)];simp
 have v:rest.head?=none->sl<=((pre.length+1+x.length:Nat):Int):=by
  intro d;cases rest with
  |nil=>simp at W;omega
  |cons a l=>cases d
 have y:∀c,rest.head?=some c->¬ sl<=((pre.length+1+x.length:Nat):Int):=by
  intro c d;cases rest with
  |nil=>cases d
  |cons a l=>simp at W;omega
 replace p:∀c,rest.head?=some c->∀d:H,xIx prog .str (.str s) (iI ((pre.length+1+x.length:Nat):Int)) d=.ok (cw (c:Int)) d:=λc hc d=>A0l (p c hc);generalize Aq7 pre.length (if rest.head?=some 39/\AoC x then some (.wd x)else none)=ZZ at fail f ⊢;generalize ((pre.length+1+x.length:Nat):Int)=ei at *
 generalize (pre.length:Int)=pi at *
 generalize rest.head?=rh at *
 clear hc L q W C Q;rw[BmL];refine wk ?_;have U:Ai h ((h.new (cz [iI 0,.str [],iI 0,iI 0] 48)).new (cz [iI 2,iI 3,iI 4] 69)):=((Ai.refl h).new _).new _;refine Fj (M _ _ (Sl.lit (h:=h.new _) (Bf _) rfl rfl) U) λv1 h2 X l2 G q2=>?_;subst q2;simp only[C9]at l2;have D:=U.trans X;have O:=k.gr D;have K:h2.m.get h.nx=cz (Aez AiM) 48:=by rw[G h.nx ml];simp(disch:=first|exact Ce|fail)
 obtain⟨cs2,g2,I,_⟩:=Ag0 O (show 0<256 by decide)
 clear M G g e0 J k X U Y;cases rh with
 |none=>have k1:decide (sl<=ei)=true:=Ws (v rfl);replace fail:=fail (by rintro ⟨h,_⟩;cases h);clear v y p f n;refine wk ?_;rw[Ap4 AiM (A2 _ _)];exact zr Ex (fail _ _)
 |some c=>
  have k1:decide (sl<=ei)=false:=Yc (y c rfl);replace p:=p c rfl;clear v y;by_cases hc:c=39
  .subst hc;have y1:∀d:H,Aj prog .neq 5 true (cw ((39:Nat):Int)) (cw 39) d=.ok ux d:=λd=>by rw[ne8];rfl
   by_cases A:AoC x
   .have k5:decide (AoC x)=true:=Ws A;replace f:=f rfl A;clear fail A;refine wk ?_;refine Fj (n _ (hG.By D.keeps)) λv3 E B l3 o R=>?_;subst R;have T:E.m.get h.nx=cz (Aez AiM) 48:=(o h.nx om).trans K;have gC:Ai h E:=D.trans B;have kC:=O.gr B;obtain⟨cs3,g3,e03,_⟩:=Ag0 kC (show 0<256 by decide);clear o K g2 I O n B;refine wk ?_;rw[Ap4 ⟨4,x,0,pi⟩ (A2 _ _)];exact zr Ex f
   .have k5:decide (AoC x)=false:=Yc A;replace fail:=fail (by rintro ⟨_,h⟩;exact A h);clear f A;refine wk ?_;refine Fj (n _ (hG.By D.keeps)) λv3 E B l3 o R=>?_;subst R;have T:E.m.get h.nx=cz (Aez AiM) 48:=(o h.nx om).trans K;have gC:Ai h E:=D.trans B;clear o K g2 I O n B;refine wk ?_;rw[Ap4 AiM (A2 _ _)];exact zr Ex (fail _ _)
  .have y1:∀d:H,Aj prog .neq 5 true (cw (c:Int)) (cw 39) d=.ok uz d:=λd=>by rw[ne8,Yc om];rfl
   replace fail:=fail (by rintro ⟨h,_⟩;injection h with h;exact hc h);clear f hc n;refine wk ?_;rw[Ap4 AiM (A2 _ _)];exact zr Ex (fail _ _)
def Bl9:=∀b s pre rest h,Sc0 b s h->S0 h->EG h->s=pre++rest->rest≠[] ->
 Ah h (λr _=>Aq7 pre.length (nxF rest) r) (Z.call 68 [.ptr b 0,iI pre.length] h)
def CcL(a:A4K Z)(n:Bpp Z)(g:Be2 Z)(i:Bta Z)(m:Btb Z)(j:BsX Z)(k:Sc0 b s h)(o:S0 h)(p:EG h)(f:s=pre++rest)(u:rest≠[]):
 Ah h (λr _=>Aq7 pre.length (nxF rest) r) (mr Z N 68 [.ptr b 0,iI (pre.length:Int)] h):=by
 obtain⟨c,t,rfl⟩:∃c r,rest=c::r:=by cases rest with|nil=>simp_all|cons c r=>simp[*]
 show Ah h (λr _=>Aq7 pre.length (if N3 c=2 then _ else if N3 c=3 then _ else if N3 c=5 then _ else _) r) _;by_cases c2:N3 c=2
 .rw[Xo c2];obtain⟨e1,e,d⟩:=AnD idC (c::t);refine B5X Z N a n g k o (f.trans (Jh (pre++·) e1)) ?_ (λc hc=>by simpa[idC]using e c hc) ?_ (λc hc=>by simpa[idC]using d c hc);. rw[V6 (by unfold idC;rw[c2];rfl)];simp
  .rw[V6 (by unfold idC;simp[*])];exact c2
 .rw[X2 c2];by_cases c3:N3 c=3;. rw[Xo c3];obtain⟨e1,e,d⟩:=AnD dgC (c::t);refine B5Y Z N a i p k (f.trans (Jh (pre++·) e1)) ?_ (λc hc=>by simpa[dgC]using e c hc) (λc hc=>by simpa[dgC]using d c hc);rw[V6 (by unfold dgC;rw[c3];rfl)];grind
  .rw[X2 c3];by_cases c5:N3 c=5;. rw[Xo c5];obtain⟨e1,e,d⟩:=AnD idC t;have q:c=39:=c39 c5;subst q;exact B6a Z N a j k o (f.trans (Jh (λz=>pre++39::z) e1)) (λc hc=>by simpa[idC]using e c hc) (λc hc=>by simpa[idC]using d c hc)
   .rw[X2 c5];exact B5Z Z N m k f rfl c2 c3 c5
variable {h2 h0 hd:H}{w:Nat}{ts:List Tok}
def NEx(o:AO):=∀cs e,o≠cz cs e
structure WG(w:Nat)(h h1:H):Prop where
 nx:h.nx<=h1.nx
 lo:∀c,c<w->h1.m.get c=h.m.get c
 st:∀(c:Nat),c<h.nx->c≠w->Bbs (h.m.get c)->h1.m.get c=h.m.get c
 lg:∀x∈h1.lg,x∈h.lg\/x=w\/(w<x/\NEx (h.m.get x))\/h.nx<=x
def WG.ex(k:WG w h h1) c cs e(hc:c<h.nx)(hn:c≠w)(a:h.m.get c=cz cs e):h1.m.get c=h.m.get c:=k.st c hc hn (Boj a)
def WG.of(d:w<h.nx)(g:Ai h h1):WG w h h1:=⟨g.lo,λc hc=>g.Cf c om,λc hc _ _=>g.Cf c hc,λx a=>(g.lg x a).imp id λq=>.inr (.inr q)⟩
def WG.refl(a:w<h.nx):WG w h h:=.of a (Ai.refl h)
def WG.trans(k:w<h.nx)(a:WG w h h1)(b:WG w h1 h2):WG w h h2:=by
 refine⟨Ol a.nx b.nx,λc hc=>(b.lo c hc).trans (a.lo c hc),λc hc hn f=>?_,λx j=>?_⟩;. have d:=a.st c hc hn f;exact(b.st c (Xq hc a.nx) hn (d ▸ f)).trans d
 .rcases b.lg x j with d|d|⟨d,i⟩|d;. exact a.lg x d
  .omega
  .by_cases g:h.nx<=x;. grind
   .refine .inr (.inr (.inl ⟨d,λcs e f=>i cs e ?_⟩));rw[a.ex x _ e om om f,f]
  .exact .inr (.inr (.inr (Ol a.nx d)))
def WG.gr(d:w<h.nx)(a:WG w h h1)(g:Ai h1 h2):WG w h h2:=a.trans d (.of (Xq d a.nx) g)
def WG.put{X}(a:WG w h h1):WG w h (h1.put w X):=by
 refine⟨a.nx,λc hc=>?_,λc hc hn e=>?_,λx d=>?_⟩;. rw[Aq _ _ _ om];exact a.lo c hc
 .rw[Aq _ _ _ hn];exact a.st c hc hn e
 .rcases Tu.1 d with rfl|d;. simp
  .exact a.lg x d
def WG.nl(a:WG w h h1):WG w h (Ab h1):=⟨a.nx,a.lo,a.st,λx d=>by cases d⟩
def WG.Bnq(a:WG w (Ab h) h1):WG w h h1:=⟨a.nx,a.lo,a.st,λx e=>by
 rcases a.lg x e with d|d;. cases d
 simp_all⟩
def WG.reL{L}(a:WG w h h1)(d:∀x∈L,x∈h.lg\/x=w\/w<x/\NEx (h.m.get x)\/h.nx<=x):WG w h (Be L h1):=⟨a.nx,a.lo,a.st,d⟩
def WG.own{e}(g:Ai e h)(a:WG w h h1)(i:e.nx<=w):Ai e h1:=by
 refine⟨Ol g.lo a.nx,λc hc=>(a.lo c om).trans (g.Cf c hc),λx f=>?_⟩;rcases a.lg x f with d|d|d|d;. exact g.lg x d
 .omega
 .omega
 .exact .inr (Ol g.lo d)
structure WrS(w:Nat)(ts:List Tok)(h:H):Prop where
 lt:w<h.nx
 g:∃v,h.m.get w=.cells [v] 59 .exact/\Fm 4 (w+1) 48 h v ts.length (ts.flatMap Aez)
def WrS.gr(k:WrS w ts h)(g:Ai h h1):WrS w ts h1:=by have⟨v,d,a⟩:=k.g;exact⟨Xq k.lt g.lo,v,(g.Cf w k.lt).trans d,a.gr g⟩
def WrS.rl{L}(k:WrS w ts h):WrS w ts (Be L h):=by have⟨v,d,a⟩:=k.g;exact⟨k.lt,v,d,Fm.rl a⟩
def WW w(a:H)(l:List _):=∀x∈l,x=w\/NEx (a.m.get x)
def Ash n:∀l,outside l n n=true
|[]=>rfl
|x::l=>by
 show @Bool.rec (λ_=>Bool) (outside l n n) ..=true;rw[Ash n l];by_cases d:n<=x;. rw[br d,show Nat.blt x n=false by cases a:Nat.blt x n with
    |false=>rfl
    |true=>have:=Ew a;omega]
 .rw[show Nat.ble n x=false by cases a:Nat.ble n x with
   |false=>rfl
   |true=>exact absurd (Ew a) d]
def A4Q{e}{f g}{d a}(hn:a.nx=d.nx):Jo e ⟨f,g,[],.none,d,a⟩=true:=by unfold Jo;rw[Zq _,(by rw[hn];exact Ash ..:outside _ ..=true),(rfl:clear _ _ _ ..=true)];cases M4 _<;>cases Nat.beq ..<;>rfl
def Bi0 b l(h:∀x∈l,b≠x):Ve b l=false:=by cases a:Ve b l with
|false=>rfl
|true=>exact absurd rfl (h b ((Ant b l).1 a))
def Bdz{e}{q o b off}{i}{a d}{cs}{ty}(j:WW w a e.w)(hn:d.nx=a.nx)(r:b≠w)(g:a.m.get b=cz cs ty):Jo e ⟨q,o,[],.blk b off i,a,d⟩=true:=by
 unfold Jo;have n:clear (.blk b off i) e.w a e.h e.h1=true:=by
  show @Bool.rec (λ_=>Bool) _ ..=true;rw[Bi0 b _ λx p k=>?_,g];. rfl
  .rcases j x p with f|f;. grind
   .exact f _ _ (k ▸ g)
 rw[Zq _,(by rw[hn];exact Ash ..:outside _ ..=true),n];cases M4 _<;>cases Nat.beq ..<;>rfl
def Axi{Q}{m}{d}{lg}{k}(P:Nat->Prop)(i:∀e∈d,e.w=[]\/(∀x∈e.w,P x)/\∀a∈d,Jo e a=true)(f:∀L,(∀z∈L,z∈lg\/P z)->Ah h0 Q (k (Be L m))):Ah h0 Q (Ff lg d m k):=by
 have g:=V9 _ _ λe h1=>by
  rcases i e h1 with j|j;. simp_all
  .exact .inr (V4 e _ j.2)
 rw[So g];apply f _;have o:∀e∈d,∀x∈e.w,P x:=λe h1 x q=>by grind
 clear i g f;induction d with
 |nil=>simp_all
 |cons e es p=>intro z n;rw[Ap]at n;grind
def fI{e}{l}(a:j e)(b:∀x∈l,j x):∀x∈e::l,j x:=Tl.2 ⟨a,b⟩
def fN:∀x∈[],j x:=λ_ h=>nomatch h
variable {w:AV}{l b1 b2:Nat}{acc:List Tok}{t:Tok}
def A5M{st}{p}{fr}{d}{a c}(e:h.m.get l=.loop st p fr d a c):endRound l (some .ret) h=.ok ux (h.put l (.loop 2 (some .ret) fr d a c)):=by unfold endRound;grind
def BnM{k u p y v j g i:AV}(M:o≠0)(hn:b1≠b2/\b1≠l/\b2≠l)(W:b1<hd.nx)(T:b2<hd.nx)(V:l<hd.nx)(g1:hd.m.get b1=cz [.Bv] 39)(g2:hd.m.get b2=cz [iI 0,iI 0] 30)(z:hd.m.get l=.loop 0 none (rFR k (.ptr b1 0) (.ptr b2 0) u p y v j g i) [18,19] rAS rBD):
 Ah H0 (λr h'=>r=ux/\∃a:Int,Ai (((hd.put b1 (cz [.Bv] 39)).put b2 (cz [iI o,iI a] 30)).put l (.loop 2 (some .ret) (rFR k (.ptr b1 0) (.ptr b2 0) u p y v j g i) [18,19] rAS rBD)) h')
  (Aze prog Z N false l [.agg (Aez t),iI o] hd):=by
 rw[Bgh Z N z,rdA];obtain⟨n1,Q,J⟩:=hn;refine wk ?_;have C:((hd.new (cz [iI 0,.str [],iI 0,iI 0] 48)).put hd.nx (cz (Aez t) 48)).m.get l=.loop 0 none (rFR k (.ptr b1 0) (.ptr b2 0) u p y v j g i) [18,19] rAS rBD:=by rw[Aq _ _ _ om,Cq _ _ om];exact z
 rw[C];simp only[];rw[rdB];have R:decide (o=0)=false:=Yc M;have e1:(((hd.new (cz [iI 0,.str [],iI 0,iI 0] 48)).put hd.nx (cz (Aez t) 48)).put l (.loop 1 none (rFR k (.ptr b1 0) (.ptr b2 0) u p y v j g i) [18,19] rAS rBD)).m.get b1=cz [.Bv] 39:=by rw[Aq _ _ _ om,Aq _ _ _ om,Cq _ _ om];exact g1
 have U:(((hd.new (cz [iI 0,.str [],iI 0,iI 0] 48)).put hd.nx (cz (Aez t) 48)).put l (.loop 1 none (rFR k (.ptr b1 0) (.ptr b2 0) u p y v j g i) [18,19] rAS rBD)).m.get b2=cz [iI 0,iI 0] 30:=by rw[Aq _ _ _ om,Aq _ _ _ om,Cq _ _ om];exact g2
 have O:(((hd.new (cz [iI 0,.str [],iI 0,iI 0] 48)).put hd.nx (cz (Aez t) 48)).put l (.loop 1 none (rFR k (.ptr b1 0) (.ptr b2 0) u p y v j g i) [18,19] rAS rBD)).m.get hd.nx=cz (Aez t) 48:=by rw[Aq _ _ _ om];exact A2 _ _
 have P:(((hd.new (cz [iI 0,.str [],iI 0,iI 0] 48)).put hd.nx (cz (Aez t) 48)).put l (.loop 1 none (rFR k (.ptr b1 0) (.ptr b2 0) u p y v j g i) [18,19] rAS rBD)).m.get l=.loop 1 none (rFR k (.ptr b1 0) (.ptr b2 0) u p y v j g i) [18,19] rAS rBD:=A2 _ _;have S:(((hd.new (cz [iI 0,.str [],iI 0,iI 0] 48)).put hd.nx (cz (Aez t) 48)).put l (.loop 1 none (rFR k (.ptr b1 0) (.ptr b2 0) u p y v j g i) [18,19] rAS rBD)).nx=hd.nx+1:=rfl;have D:Ai (hd.put l (.loop 1 none (rFR k (.ptr b1 0) (.ptr b2 0) u p y v j g i) [18,19] rAS rBD)) (((hd.new (cz [iI 0,.str [],iI 0,iI 0] 48)).put hd.nx (cz (Aez t) 48)).put l (.loop 1 none (rFR k (.ptr b1 0) (.ptr b2 0) u p y v j g i) [18,19] rAS rBD)):=by
  refine⟨by show hd.nx<=hd.nx+1;omega,λc hc=>?_,λx d=>?_⟩
  .have A:c<hd.nx:=hc;by_cases q:c=l
   .subst q;rw[A2,A2]
   .rw[Aq _ _ _ q,Aq _ _ _ q,Aq _ _ _ om,Cq _ _ om]
  .have d:x∈l::hd.nx::hd.lg:=d;show x∈l::hd.lg\/hd.nx<=x;simp only[Tu]at d ⊢;rcases d with d|d|d
   .exact .inl (.inl d)
   .exact .inr om
   .exact .inl (.inr d)
 generalize (((hd.new (cz [iI 0,.str [],iI 0,iI 0] 48)).put hd.nx (cz (Aez t) 48)).put l (.loop 1 none (rFR k (.ptr b1 0) (.ptr b2 0) u p y v j g i) [18,19] rAS rBD))=h3 at *
 clear C z g1 g2;refine wk ?_;have w0:∀(n x:Nat) (f:AO) (E:H),x<n->wrote n ((Ab E).put x f).lg=[x]:=λn x f E d=>Aw n x [] d;have d1:wrote h3.nx ((Ab h3).put b1 (cz [.Bv] 39)).lg=[b1]:=w0 _ _ _ _ om;have d2:wrote ((Ab h3).put b1 (cz [.Bv] 39)).nx ((Ab ((Ab h3).put b1 (cz [.Bv] 39))).put b2 (cz [iI o,iI t.a] 30)).lg=[b2]:=w0 _ _ _ _ (by show b2<h3.nx;omega)
 refine Axi (λx=>x=b1\/x=b2) ?_ ?_
 .intro e G;simp only[Tu,Ww,Oq]at G;rcases G with rfl|rfl|rfl|rfl|rfl|rfl
  .refine .inr ⟨?_,?_⟩
   .intro x d;replace d:x∈[b2]:=by rw[<- d2];exact d
    exact .inr (W9.1 d)
   .intro a B;simp only[Tu,Ww,Oq]at B;rcases B with rfl|rfl|rfl|rfl|rfl|rfl;. exact Ar ..
    .exact Ax _ _ _ _ _ _ _ _ _ _ _ _ rfl
    .exact Ax _ _ _ _ _ _ _ _ _ _ _ _ rfl
    .exact Ax _ _ _ _ _ _ _ _ _ _ _ _ rfl
    .exact Ax _ _ _ _ _ _ _ _ _ _ _ _ rfl
    .exact Ax _ _ _ _ _ _ _ _ _ _ _ _ rfl
  .refine .inr ⟨?_,?_⟩
   .intro x d;replace d:x∈[b1]:=by rw[<- d1];exact d
    exact .inl (W9.1 d)
   .intro a B;simp only[Tu,Ww,Oq]at B;rcases B with rfl|rfl|rfl|rfl|rfl|rfl;. exact Ax _ _ _ _ _ _ _ _ _ _ _ _ rfl
    .exact Ar ..
    .exact Ai1 _ _ _ _ _ rfl
    .exact Bdz (w:=b1) (b:=hd.nx) (cs:=Aez t) (ty:=48) (λx d=>.inl (by have:x∈wrote h3.nx ((Ab h3).put b1 (cz [.Bv] 39)).lg:=d;rw[d1]at this;exact W9.1 this)) rfl om O
    .exact Ai1 _ _ _ _ _ rfl
    .exact Ai1 _ _ _ _ _ rfl
  .exact .inl rfl
  .exact .inl rfl
  .exact .inl rfl
  .exact .inl rfl
 .intro L z;have I:(Be L ((Ab ((Ab h3).put b1 (cz [.Bv] 39))).put b2 (cz [iI o,iI t.a] 30))).m.get l=.loop 1 none (rFR k (.ptr b1 0) (.ptr b2 0) u p y v j g i) [18,19] rAS rBD:=by show((Ab ((Ab h3).put b1 (cz [.Bv] 39))).put b2 (cz [iI o,iI t.a] 30)).m.get l=_;rw[Aq _ _ _ (λh=>J h.symm)];show((Ab h3).put b1 (cz [.Bv] 39)).m.get l=_;rw[Aq _ _ _ (λh=>Q h.symm)];exact P
  rw[A5M I];refine Lo ⟨Wy _,λb K=>absurd K (dx b),λx _=>.inr (Wy x)⟩ ⟨rfl,t.a,by show hd.nx<=h3.nx;omega,λc hc=>?_,λx d=>?_⟩
  .have A:c<hd.nx:=hc;by_cases q:c=l;. subst q;rw[A2,A2]
   .rw[Aq _ _ _ q,Aq _ _ _ q];show((Ab ((Ab h3).put b1 (cz [.Bv] 39))).put b2 (cz [iI o,iI t.a] 30)).m.get c=_;by_cases q:c=b2;. subst q;rw[A2,A2]
    .rw[Aq _ _ _ q,Aq _ _ _ q];show((Ab h3).put b1 (cz [.Bv] 39)).m.get c=_;by_cases q:c=b1;. subst q;rw[A2,A2]
     .rw[Aq _ _ _ q,Aq _ _ _ q];rw[show(Ab h3).m.get c=h3.m.get c from rfl,D.Cf c A,Aq _ _ _ (by assumption)]
  .show x∈l::b2::b1::hd.lg\/hd.nx<=x;rcases Tu.1 d with rfl|d;. exact .inl (Wm ..)
   .rcases z x d with d|rfl|rfl
    .rcases D.lg x d with d|d
     .rcases Tu.1 d with rfl|d;. exact .inl (Wm ..)
      .exact .inl (Vo _ (Vo _ (Vo _ d)))
     .exact .inr d
    .simp
    .simp
variable {c bo:Nat}{F T0:AO}
def skB(r:List _):=r.dropWhile λc=>decide (N3 c∈[1])
def blB(r:List _):=r.takeWhile λc=>decide (N3 c∈[1])
def Axj r:r=blB r++skB r/\(∀c∈blB r,N3 c∈[1])/\∀c∈(skB r).head?,N3 c ∉ [1]:=by obtain⟨h1,h2,a⟩:=AnD _ r;exact⟨h1,λc hc=>az (h2 c hc),λc hc=>bh (a c hc)⟩
def AtG:Nat->Bool->uq->Option (List L3)
|0,_,_=>none
|n+1,a,r=>if r=[]then some []else(nxF r).bind λx=>if(a&&!Ar8 x)=true then none else
 (AtG n (!Ar8 x&&decide (blB (r.drop (lt x).length)=[])) (skB (r.drop (lt x).length))).map (x::·)
def AsA s:=if 2000<s.length then none else AtG (s.length+1) false (skB s)
def Bod{r x}(h:sgF r=some x):∃r1,r=x++r1/\x≠[]:=by
 have nz:[] ∉ Sgs:=by decide
 unfold sgF at h;split at h;. injection h with h;subst h;exact⟨_,(Dt 2 r).symm,λe=>nz (e ▸ (by omega:2<=r.length/\r.take 2∈Sgs).2)⟩
 .split at h;. injection h with h;subst h;exact⟨_,(Dt 1 r).symm,λe=>nz (e ▸ by grind)⟩
  grind
def A8I{r:uq}{x:L3}(h:nxF r=some x):∃r1,r=lt x++r1/\lt x≠[]:=by cases r with
|nil=>cases h
|cons c t=>
 replace h:(if N3 c=2 then(if 20<((c::t).takeWhile idC).length then none else some (if(c::t).takeWhile idC∈W35 then L3.kw ((c::t).takeWhile idC)else .nm ((c::t).takeWhile idC)))
  else if N3 c=3 then(Ang ((c::t).takeWhile dgC)).map λn=>L3.nu n
  else if N3 c=5 then(if(t.dropWhile idC).head?=some 39/\AoC (t.takeWhile idC)then some (L3.wd (t.takeWhile idC))else none)
  else(sgF (c::t)).map .sg)=some x:=h;by_cases c2:N3 c=2
 .rw[Xo c2]at h;have e:=(AnD idC (c::t)).1;have n:(c::t).takeWhile idC≠[]:=by rw[V6 (by unfold idC;rw[c2];rfl)];simp
  split at h;. cases h
  .injection h with h;split at h<;>(subst h;exact⟨_,e,n⟩)
 .rw[X2 c2]at h;by_cases c3:N3 c=3
  .rw[Xo c3]at h;obtain⟨e1,i,j⟩:=AnD dgC (c::t);have n:(c::t).takeWhile dgC≠[]:=by rw[V6 (by unfold dgC;rw[c3];rfl)];simp[*]
   cases hn:Ang ((c::t).takeWhile dgC)with
   |none=>rw[hn]at h;cases h
   |some m=>
    rw[hn]at h;injection h with h;subst h;have hd:Dgs ((c::t).takeWhile dgC):=λd hd=>Bib (by simpa[dgC]using i d hd);refine⟨(c::t).dropWhile dgC,?_,?_⟩;. show(c::t)=V8 (m:Int)++(c::t).dropWhile dgC;rw[(Bd2 n hd hn).1];exact e1
    .show V8 (m:Int)≠[];rw[(Bd2 n hd hn).1];exact n
  .rw[X2 c3]at h;by_cases c5:N3 c=5
   .rw[Xo c5]at h;split at h;. next hq=>injection h with h;subst h;have g:c=39:=c39 c5;subst g;have e:=(AnD idC t).1;cases f:t.dropWhile idC with
      |nil=>grind
      |cons d u=>rw[f]at hq e;have:d=39:=Ck hq.1;subst this;refine⟨u,?_,Uy _ _⟩;show 39::t=39::t.takeWhile idC++[39]++u;grind
    .cases h
   .rw[X2 c5]at h;cases a:sgF (c::t)with
    |none=>rw[a]at h;cases h
    |some y=>rw[a]at h;injection h with h;subst h;exact Bod a
def RFl(Z:Ac) l b1 b2 F T0:=∀hd t f,l<hd.nx->b1<hd.nx->b2<hd.nx->hd.m.get l=F->hd.m.get b1=cz [.Bv] 39->hd.m.get b2=cz [iI 0,iI 0] 30->f≠0 ->
 Ah H0 (λr h'=>r=ux/\∃a:Int,Ai (((hd.put b1 (cz [.Bv] 39)).put b2 (cz [iI f,iI a] 30)).put l T0) h') (Z.round l [.agg (Aez t),iI f] hd)
def Bcn bo l b1 b2 T0 h h':=∃hd,∃f a:Int,f≠0/\PX2 bo l h hd/\Ai (((hd.put b1 (cz [.Bv] 39)).put b2 (cz [iI f,iI a] 30)).put l T0) h'
def PX2.Cb6{bo l a}(g:PX2 bo l h hd)(d:h.nx<=a) o:PX2 bo l h (hd.put a o):=by have⟨X,Y,g⟩:=g;exact⟨X,Y,Ai.put g a o d⟩
structure Ly0(b c bo l b1 b2:Nat)(s:List Nat)(h:H):Prop where
 k:Lx0 b c bo l s h
 eg:EG h
 n4:4≠bo/\4≠l
 n1:b1≠bo/\b1≠l/\b2≠bo/\b2≠l/\b1≠b2
 l1:b1<h.nx/\b2<h.nx
 g1:h.m.get b1=.cells [.Bv] 39 .exact
 g2:h.m.get b2=.cells [iI 0,iI 0] 30 .exact
def Ly0.px(k:Ly0 b c bo l b1 b2 s h)(g:PX2 bo l h hd)(q:∀st,hd.m.get bo≠.Fb st/\hd.m.get l≠.Fb st):Ly0 b c bo l b1 b2 s hd:=by have⟨t,x,d,a⟩:=k.eg;exact⟨k.k.px g q,⟨t,x,(g.Cf 4 a k.n4.1 k.n4.2).trans d,Xq a g.lo⟩,k.n4,k.n1,⟨Xq k.l1.1 g.lo,Xq k.l1.2 g.lo⟩,(g.Cf _ k.l1.1 k.n1.1 k.n1.2.1).trans k.g1,(g.Cf _ k.l1.2 k.n1.2.2.1 k.n1.2.2.2.1).trans k.g2⟩
def BjR(j:RFl Z l b1 b2 F T0)(k:Ly0 b c bo l b1 b2 s h)(y:l<h.nx){n a}{e1 pi f}{f0}{Q}(e:f≠0)
 (kd:Rst bo l F h hd w acc) (ha:hd.m.get a=cz (Aez t) 48) (B6:a<hd.nx) (Kf:h.nx<=a)
 (go:∀h',Bcn bo l b1 b2 T0 h h'->Q (.Bj []) h'):
 Ah H0 Q (AwK Z N n (.fn (.yield l) [] []) (.ptr c 0) (iI pi) (.ptr a 0) (iI e1) (iI f) f0 hd):=by have⟨v,r⟩:=k.l1;have⟨n1,o,q,n4,z⟩:=k.n1;have d:=kd.g.Cb6 Kf (cz (Aez ⟨0,[],0,pi⟩) 48);rw[Bmp];refine wk ?_;rw[Bmq];refine wk (Brb Z (j _ ⟨0,[],0,pi⟩ f (by show l<hd.nx;omega) (by show b1<hd.nx;omega) (by show b2<hd.nx;omega) (by rw[Aq _ _ _ om];exact kd.gl) ((d.Cf _ v n1 o).trans k.g1) ((d.Cf _ r q n4).trans k.g2) e) λB h2 u=>?_);have⟨rfl,A,i⟩:=u;exact wk (Lo ⟨Wy _,λb p=>absurd p (dx b),λx _=>.inr (Wy x)⟩ ((show ∀h',Bcn _ l _ _ _ h _->Q .. from go) _ ⟨_,f,_,e,d,i⟩))
def B5K(d:A4K Z){n}{t3}{pre r1}{Q}{f0}(k:Lx0 b c bo l s hd)(p:s=pre++r1)
 (go:∀h1 f0,Ai hd h1->Ah H0 Q (AqT Z N n (.fn (.yield l) [] []) (.ptr c 0) (iI t3) (iI (pre++blB r1).length) f0 h1)):
 Ah H0 Q (AwL Z N n (.fn (.yield l) [] []) (.ptr c 0) (iI t3) (iI pre.length) f0 hd):=by have hc:=k.gc;obtain⟨e1,a,m⟩:=Axj _;have e:=λw o (i:R0 1 _ o w _) g=>d b s w _ _ _ _ _ i (by simp) (k.sc.gr g) (p.trans (Jh _ e1)) a m;rw[<- Yl]at e;rw[Bmr];refine wk ?_;have f:Ai _ (hd.new (cz [iI 1] 69)):=(Ai.refl _).new _;refine Fj (e _ _ (Sl.lit (Bf _) rfl rfl) f) λu h2 a r j q=>?_;subst q;exact(show ∀h1 f0,_ from go) _ _ (f.trans a)
def B5O(W:Bl9 Z)(AlE:A4K Z)(hR:Bhe Z bo l F)(K:RFl Z l b1 b2 F T0)(hF:∀st,F≠.Fb st)(k:Ly0 b c bo l b1 b2 s h)(O:bo<h.nx)(G:l<h.nx){n:Nat}{t3:Int}{o:Bool}{pre rest:uq}{f0:L2}{Q:AV->H->Prop}
 (v:Rst bo l F h hd w acc) (hlen:acc.length<=2000) (hs:s=pre++rest) (Hr:rest≠[]) (ht:decide (t3=(pre.length:Int))=o)
 (goS:∀(x:L3) (t:Tok) (r1:uq) (h1:H) (f0:L2) (w':AV),nxF rest=some x->(o&&!Ar8 x)=false->rest=lt x++r1->AeT t x->Rst bo l F h h1 w' (acc++[t])->Ah H0 Q (AqT Z N n (.fn (.yield l) [] []) (.ptr c 0) (iI (if Ar8 x=true then -1 else((pre++lt x).length:Int))) (iI ((pre++lt x++blB r1).length:Nat)) f0 h1))
 (i:((nxF rest).bind λx=>if(o&&!Ar8 x)=true then none else some x)=none->∀h',Bcn bo l b1 b2 T0 h h'->Q (.Bj []) h'):
 Ah H0 Q (AqT Z N (n+1) (.fn (.yield l) [] []) (.ptr c 0) (iI t3) (iI (pre.length:Int)) f0 hd):=by
 have nt:∀{hd w acc},Rst bo l F h hd w acc->∀st,hd.m.get bo≠.Fb st/\hd.m.get l≠.Fb st:=λv st=>⟨λd=>(by rw[v.gb]at d;cases d),λd=>hF st (v.gl ▸ d)⟩;have D:=k.px v.g (nt v);have hr0:0<rest.length:=Kd.2 Hr;have Z3:s.length=pre.length+rest.length:=by rw[hs,Yl]
 have k1:decide ((pre.length:Int)<(s.length:Int))=true:=dt;have V:decide (pre.length<s.length)=true:=dt;have A:=λd (g:Ai hd d)=>W b s pre rest d (D.k.sc.gr g) (D.k.gk.By g.keeps) (D.eg.gr g) hs Hr;have hc:=D.k.gc;have hlc:=D.k.lc;have hlb:=D.k.sc.lt;have M:=v.g.lo;obtain⟨cs,gS,e0,_⟩:=Ag0 D.k.sc (show 0<256 by decide)
 have gH:Ai hd hd:=Ai.refl hd;cases Y:nxF rest with
 |none=>
  rw[Y]at A i;replace i:=i rfl;replace A:=λd (g:Ai hd d)=>(show Ah d (λr _=>∃t e f,r=.Bj [.agg (Aez t),iI e,iI f]/\f≠0) _ from A d g)
  have j:=λ(t:Tok) (a:Nat) (e1 f:Int) (f0:L2) (d:H) (S:f≠0) (v:Rst bo l F h d w acc) ha B6 M=>BjR Z N (t:=t) (n:=n) (a:=a) (e1:=e1) (pi:=pre.length) (f:=f) (f0:=f0) (Q:=Q) (c:=c) K k G S v ha B6 M i;replace j:=(show F5 _ from j)
  clear K hR k D goS i hs Z3;generalize (pre.length:Int)=pi at *
  rw[BcU];refine wk ?_;refine Fj (A _ gH) λv1 h2 y l2 J q2=>?_;obtain⟨t,e,f,rfl,S⟩:=q2;have kf:decide (f=0)=false:=Yc S;have B:=v.gr y O G;clear gS hc A J k1 V e0;have gN:Ai h2 ((h2.new (cz [iI 0,.str [],iI 0,iI 0] 48)).put h2.nx (cz (Aez t) 48)):=((Ai.refl h2).new _).put _ _ (Ye _);have gH2:Ai hd h2:=y;have wt:∀(w:Bool) (r:OR) (d:H),Ad (.Bj []) w r d=.ok (.Bj []) d:=λw r d=>A0V [] w r d;refine wk ?_;exact(show ∀(t:Tok) (a:Nat) (e1 f:Int) (f0:L2) (d:H),_ from j) t h2.nx e f _ _ S (B.gr gN O G) (A2 _ _) (Up _) (Ol M l2)
 |some x=>
  obtain⟨r1,R,hx⟩:=A8I Y;rw[Y]at A i;replace A:=λd (g:Ai hd d)=>(show Ah d (λr _=>∃t,r=.Bj [.agg (Aez t),iI ((pre.length+(lt x).length:Nat):Int),iI 0]/\AeT t x) _ from A d g)
  rw[<- Yl]at A;have P:s=(pre++lt x)++r1:=by rw[hs,R,Wq]
  have C:=λ(t3:Int) (h1:H) (w':AV) (Bua:List Tok) (kd':Rst bo l F h h1 w' Bua) (f0:L2) go=>B5K Z N (Q:=Q) (n:=n) (t3:=t3) (f0:=f0) AlE (k.px kd'.g (nt kd')).k P go;have B5t:((pre++lt x).length:Int)<=2000:=by have:=k.k.sc.Mu;rw[P,Yl]at this;omega
  have j:=λ(t:Tok) (a:Nat) (e1 f:Int) (f0:L2) (d:H) (i) (S:f≠0) (v:Rst bo l F h d w acc) ha B6 M=>BjR Z N (t:=t) (n:=n) (a:=a) (e1:=e1) (pi:=pre.length) (f:=f) (f0:=f0) (Q:=Q) (c:=c) K k G S v ha B6 M i;have E:=λt h1 f0 w' h3=>goS x t r1 h1 f0 w' Y h3 R;replace E:=(show F5 _ from E)
  replace C:=(show F5 _ from C)
  replace j:=(show F5 _ from j)
  replace i:=(show F5 _ from i)
  have u:(o&&!Ar8 x)=true->∀h',Bcn bo l b1 b2 T0 h h'->Q (.Bj []) h':=λhq=>(show(((some x:Option L3).bind λx=>if(o&&!Ar8 x)=true then none else some x)=none->∀h',Bcn bo l b1 b2 T0 h h'->Q (.Bj []) h')from i) (Xo hq)
  replace u:=(show F5 _ from u)
  generalize hE2:((pre++lt x++blB r1).length:Nat)=e2 at *
  generalize hE1:((pre++lt x).length:Int)=e1 at *
  have L:(Ar8 x=true)\/(Ar8 x=false/\o=false)\/(Ar8 x=false/\o=true):=by cases Ar8 x<;>cases o<;>simp
  generalize (pre.length:Int)=pi at *
  clear k hs P Z3 R Y goS hE1 hE2 K hx Hr hr0;rw[BcU];refine wk ?_;refine Fj (A _ gH) λv1 h2 y l2 J q2=>?_;obtain⟨t,rfl,I⟩:=q2;have gc2:=(J c hlc).trans hc;have B:=v.gr y O G;have B8Z:c<h2.nx:=Xq hlc l2;clear gS hc A J k1 V e0 D;have gH2:Ai hd h2:=y;have gN:Ai h2 ((h2.new (cz [iI 0,.str [],iI 0,iI 0] 48)).put h2.nx (cz (Aez t) 48)):=((Ai.refl h2).new _).put _ _ (Ye _);have wt:∀(w:Bool) (r:OR) (d:H),Ad (.Bj []) w r d=.ok (.Bj []) d:=λw r d=>A0V [] w r d;have p:∀U f0,decide (t.k=5)=U->U=Ar8 x->(o&&!Ar8 x)=false->Ah H0 Q (AwK Z N n (.fn (.yield l) [] []) (.ptr c 0) (iI pi) (.ptr h2.nx 0) (iI e1) (iI 0) f0 ((h2.new (cz [iI 0,.str [],iI 0,iI 0] 48)).put h2.nx (cz (Aez t) 48))):=λU f0 T h3 h4=>BkG Z N hR O G (B.gr gN O G) hlen (A2 _ _) (Up _) (Ol M l2) T λh1 w' f0 X=>(show ∀(t3:Int) (h1:H) (w':AV) (Bua:List Tok),_ from C) _ h1 w' _ X f0 λW2 f0 g=>h3 ▸ (show ∀(t:Tok) (h1:H) (f0:L2) (w':AV),_ from E) t W2 f0 w' h4 I (X.gr g O G)
  replace p:=(show F5 _ from p)
  clear E C hR W AlE i;rcases L with L|⟨L,kt⟩|⟨L,kt⟩
  .have z:t.k=5:=by rcases Bkz I with h|h<;>simp_all
   have T:decide (t.k=5)=true:=Ws z;have q:=(show F5 _ from(show ∀U f0,_ from p) true · T L.symm (by rw[L];simp))
   clear j p u;refine wk ?_;exact(show ∀f0,_ from q) _
  .have z:t.k≠5:=by rcases Bkz I with h|h<;>simp_all
   have T:decide (t.k=5)=false:=Yc z;rw[kt]at ht;have q:=(show F5 _ from(show ∀U f0,_ from p) false · T L.symm (by rw[kt];rfl));clear j p u;refine wk ?_;exact(show ∀f0,_ from q) _
  .have z:t.k≠5:=by rcases Bkz I with h|h<;>simp_all
   have T:decide (t.k=5)=false:=Yc z;rw[kt]at ht;have q:=λf0=>(show ∀(t:Tok) (a:Nat) (e1 f:Int) (f0:L2) (d:H),_ from j) t h2.nx e1 11 f0 _ ((show _->∀h',Bcn bo l b1 b2 T0 h h'->Q (.Bj []) h' from u) (by rw[L,kt];rfl)) fe (B.gr gN O G) (A2 _ _) (Up _) (Ol M l2);replace q:=(show F5 _ from q);clear j p u;refine wk ?_;exact(show ∀f0,_ from q) _
def Bgx{m}{a}{r}(h:r≠[]):AtG (m+1) a r=(nxF r).bind λx=>if(a&&!Ar8 x)=true then none else
 (AtG m (!Ar8 x&&decide (blB (r.drop (lt x).length)=[])) (skB (r.drop (lt x).length))).map (x::·):=X2 h
def LxP bo l b1 b2 F T0 h w acc z(r:AV) h':=
 r=.Bj []/\((∃xs,z=some xs/\∃w' ts,Rst bo l F h h' w' (acc++ts)/\Tk2 ts xs/\(ts=[]->w'=w))\/z=none/\Bcn bo l b1 b2 T0 h h')
def Bsi(i:Bl9 Z)(o:A4K Z)(R:Bhe Z bo l F)(q:RFl Z l b1 b2 F T0)(E:∀st,F≠.Fb st)(k:Ly0 b c bo l b1 b2 s h)(u:bo<h.nx)(P:l<h.nx):
 ∀(m:Nat) (rest pre:uq) (a:Bool) (t3:Int) (acc:List Tok) (w:AV) (hd:H) (n:Nat) (f0:L2),rest.length<m->m<=n->Rst bo l F h hd w acc->s=pre++rest->decide (t3=(pre.length:Int))=a->acc.length+rest.length<=2000 ->
  Ah H0 (LxP bo l b1 b2 F T0 h w acc (AtG m a rest)) (AqT Z N n (.fn (.yield l) [] []) (.ptr c 0) (iI t3) (iI (pre.length:Int)) f0 hd)
 |0,rest,pre,a,t3,acc,w,hd,n,f0,hm,hn,e,p,A,hlen=>absurd hm (dx _)
 |m+1,rest,pre,a,t3,acc,w,hd,n,f0,hm,hn,e,p,A,hlen=>by
  obtain⟨n1,rfl⟩:∃n1,n=n1+1:=⟨n-1,by omega⟩;have Q:=Bsi i o R q E k u P m;by_cases v:rest=[]
  .subst v;have nt:∀st,hd.m.get bo≠.Fb st/\hd.m.get l≠.Fb st:=λst=>⟨λy=>(by rw[e.gb]at y;cases y),λy=>E st (e.gl ▸ y)⟩;have j:=k.k.px e.g nt;have e1:pre.length=s.length:=by rw[p];simp
   have Y:decide ((pre.length:Int)<(s.length:Int))=false:=df;have k3:decide (pre.length<s.length)=false:=df;have hc:=j.gc;have V:=j.lc;have X:=j.sc.lt;obtain⟨cs,gS,e0,_⟩:=Ag0 j.sc (show 0<256 by decide);have B:LxP bo l b1 b2 F T0 h w acc (AtG (m+1) a []) (.Bj []) hd:=⟨rfl,.inl ⟨[],rfl,w,[],by simpa using e,trivial,λ_=>rfl⟩⟩;generalize LxP bo l b1 b2 F T0 h w acc (AtG (m+1) a [])=QQ at *;clear p j A Q hlen;rw[BcU];refine wk ?_;exact Lo ⟨Wy _,λb u=>absurd u (dx b),λx _=>.inr (Wy x)⟩ B
  .have T:0<rest.length:=Kd.2 v;rw[Bgx v];refine B5O Z N i o R q E k u P e om p v A ?_ ?_
   .intro x t r1 h1 f0 w' D M d G J;obtain⟨_,_,U⟩:=A8I D;have W:0<(lt x).length:=Kd.2 U;have Vs:rest.length=(lt x).length+r1.length:=by rw[d,Yl]
    have I:rest.drop (lt x).length=r1:=by rw[d,di]
    have f:=(Axj r1).1;have P4:r1.length=(blB r1).length+(skB r1).length:=by rw[<- Yl,<- f]
    rw[D];show Ah H0 (LxP bo l b1 b2 F T0 h w acc (if(a&&!Ar8 x)=true then none else(AtG m (!Ar8 x&&decide (blB (rest.drop (lt x).length)=[])) (skB (rest.drop (lt x).length))).map (x::·))) _;rw[X2 (by rw[M];exact Uo),I];have z:decide ((if Ar8 x=true then -1 else((pre++lt x).length:Int))=((pre++lt x++blB r1).length:Nat))=(!Ar8 x&&decide (blB r1=[])):=by cases hq:Ar8 x with
     |true=>rw[Xo rfl];exact df
     |false=>
      rw[X2 Uo];by_cases K:blB r1=[];. rw[K,F0];simp
      .have:=Kd.2 K;have e9:(pre++lt x++blB r1).length=(pre++lt x).length+(blB r1).length:=Yl;rw[Yc om,Yc K];rfl
    refine(Q (skB r1) (pre++lt x++blB r1) _ _ (acc++[t]) w' h1 n1 f0 om om J (by rw[p,d,Wq,Wq,<- f]) z (by rw[Yl,List.length_singleton];omega)).mono ?_;rintro r h' _ ⟨O,⟨xs,L,w2,ts,C,S,_⟩|⟨L,C⟩⟩;. exact⟨O,.inl ⟨x::xs,by rw[L];rfl,w2,t::ts,by simpa using C,⟨G,S⟩,λh=>by cases h⟩⟩
    .exact⟨O,.inr ⟨by rw[L];rfl,C⟩⟩
   .intro D h' hq;refine⟨rfl,.inr ⟨?_,hq⟩⟩;simp_all
def B0Z(Z:Ac) s b c bo l b1 b2 F T0:=∀h,Ly0 b c bo l b1 b2 s h->bo<h.nx->l<h.nx->h.m.get bo=AeK 39 .Bv->h.m.get l=F ->
 Ah H0 (LxP bo l b1 b2 F T0 h .Bv [] (AtG (s.length+1) false (skB s))) (Z.call 66 [.fn (.yield l) [] [],.ptr c 0] h)
def CcK(J:2001<N)(i:Bl9 Z)(a:A4K Z)(C:Bhe Z bo l F)(n:RFl Z l b1 b2 F T0)(v:∀st,F≠.Fb st)(k:Ly0 b c bo l b1 b2 s h)(o:bo<h.nx)(p:l<h.nx)(gb:h.m.get bo=AeK 39 .Bv)(gl:h.m.get l=F):
 Ah H0 (LxP bo l b1 b2 F T0 h .Bv [] (AtG (s.length+1) false (skB s))) (mr Z N 66 [.fn (.yield l) [] [],.ptr c 0] h):=by
 have hc:=k.k.gc;have z:=k.k.lc;have E:=k.k.sc.Mu;obtain⟨e1,d,u⟩:=Axj s;have B:s.length=(blB s).length+(skB s).length:=by rw[<- Yl,<- e1]
 have r:=λ(w:AV) (j:H) (y:R0 1 Ane j w [1]) (g:Ai h j)=>a b s w [1] [] (blB s) (skB s) j y fe (k.k.sc.gr g) e1 d u;rw[show(([]:uq).length:Int)=0 from rfl,show([]:uq).length+(blB s).length=(blB s).length by simp]at r
 have e:=Bsi Z N i a C n v k o p (s.length+1) (skB s) (blB s) false (-1) [] .Bv;have f:Rst bo l F h h .Bv []:=⟨Bkf h,gb,gl,Fm.nil ..⟩;replace e:=(show F5 _ from λhd f0 f=>e hd N f0 om om f e1 df (by rw[Gx];omega))
 generalize LxP bo l b1 b2 F T0 h .Bv [] (AtG (s.length+1) false (skB s))=QQ at *
 clear e1 d u B;rw[Bz1];refine wk ?_;have q:Ai h (h.new (cz [iI 1] 69)):=(Ai.refl h).new _;refine Fj (r _ _ (Sl.lit (h:=h) (Bf _) rfl rfl) q) λG h2 d I A D=>?_;subst D;exact(show ∀(hd:H) (f0:L2),_ from e) h2 _ (f.gr (q.trans d) o p)
def EG.lt(k:EG h):4<h.nx:=k.elim λ_ k=>k.elim λ_ k=>k.2
def A6m{p:Option Code}{fr:L2}{d:uq}{a bd:Code}{E:Option Code->H->OR}(e:h.m.get l=.loop 2 p fr d a bd):AyT l E h=E p (h.put l (.loop 3 p fr d a bd)):=by unfold AyT;rw[e];rfl
def A6c{n r:H->OR}{j:Nat->H->OR}:Big (some .ret) n r j h=r h:=rfl
abbrev FL2(x0 x1 x2 x3 x4 x8 x9 x10 x12:AV)(bo:Nat):AO:=.loop 2 (some .ret) (rFR x0 x1 x2 x3 x4 x8 x9 x10 (.ptr bo 0) x12) [18,19] rAS rBD
def Ccz(R:Bpi Z)(O:BtB Z)(M:∀(b c bo l b1 b2:Nat) (x0 x3 x4 x8 V x10 x12:AV),bo≠l->B0Z Z s b c bo l b1 b2 (FL x0 (.ptr b1 0) (.ptr b2 0) x3 x4 x8 V x10 x12 bo) (FL2 x0 (.ptr b1 0) (.ptr b2 0) x3 x4 x8 V x10 x12 bo))(hG:S0 h)(hE:EG h)(hby:∀c∈s,c<256):
 Ah h (λr h1=>(AsA s=none/\∃e a:Int,e≠0/\r=.Bj [.Bv,.agg [iI e,iI a]]) \/
 ∃v l et,r=.Bj [v,.agg [iI 0,iI 0]]/\Fm 4 h.nx et h1 v l.length (l.flatMap Aez)/\(l.length=0->v=.Bv)/\∃xs,AsA s=some xs/\Tk2 l xs) (Ay prog Z N false 11 [.str s] h):=by
 rw[ByM];by_cases hs:s.length<=2000;rotate_left
 .have k1:decide ((2000:Int)<(s.length:Int))=true:=dt;have k2:decide (2000<s.length)=true:=dt;have A:AsA s=none:=by unfold AsA;rw[Xo om]
  refine wk ?_;rw[BnD (nb:=2) (by rw[Aq _ _ _ om];exact A2 _ _) (A2 _ _) rfl];exact Lo (((((Ai.refl h).new _).new _).put _ _ (Ye _)).put _ _ om) (.inl ⟨A,4,2000,by decide,rfl⟩)
 have k1:decide ((2000:Int)<(s.length:Int))=false:=df;have k2:decide (2000<s.length)=false:=df;refine wk ?_;refine Fj (R _) λv1 h2 e2 l2 z q2=>?_;subst q2;have xb:=Bp6 s;have xc:=Bp7 (.str s::iI 0::Aue);obtain⟨L,hL⟩:∃L,L=(AV.str s::AV.int .i64 0::Aue):=⟨_,rfl⟩;rw[<- hL]at xb xc;have V:L[0]?=some (.str s):=by subst hL;rfl
 refine Ey (xb _) (Ey (xc _) ?_);refine wk ?_;refine Fj (O _ _) λv1 d e3 l3 p q3=>?_;obtain⟨rfl,n3,g3⟩:=q3;have gz:Ai h ((h.new (cz [.Bv] 39)).new (cz [iI 0,iI 0] 30)):=((Ai.refl h).new _).new _;have g0:=gz.trans e2;have n:=((g0.new (cz (AV.str s::AV.int .i64 0::Aue) 73)).new (cz [.Bv] 39)).trans e3;simp only[C9]at n3 g3 l2 z;have gb:d.m.get h2.nx=cz (AV.str s::AV.int .i64 0::Aue) 73:=by rw[p h2.nx ml,Cq _ _ ml];exact Bf _
 have D:d.m.get (h2.nx+1)=cz [.Bv] 39:=by rw[p (h2.nx+1) ml];exact Bf (h:=h2.new _) _
 have B:d.m.get h.nx=cz [.Bv] 39:=by rw[p h.nx ml,Cq _ _ ml,Cq _ _ om,z h.nx om,Cq _ _ ml];exact Bf _
 have E:d.m.get (h.nx+1)=cz [iI 0,iI 0] 30:=by rw[p (h.nx+1) ml,Cq _ _ ml,Cq _ _ om,z (h.nx+1) om];exact Bf (h:=h.new _) _
 have P:=hG.By n.keeps;have Q:=hE.gr n;have e4:=hE.lt;clear p z e3 l3 xb xc hL V R O e2 gz;rw[Bw4];simp only[C9];obtain⟨i,I⟩:∃i,i=rFR (.str s) (.ptr h.nx 0) (.ptr (h.nx+1) 0) (iI s.length) ux (.agg Aue) (.agg L) (.ptr h2.nx 0) (.ptr (h2.nx+1) 0) (.fn (.func 66) [] [.ptr (h2.nx+1+1) 0]):=⟨_,rfl⟩;have X:=M h2.nx (h2.nx+1+1) (h2.nx+1) (d.nx+1) h.nx (h.nx+1) (.str s) (iI s.length) ux (.agg Aue) (.agg L) (.ptr h2.nx 0) (.fn (.func 66) [] [.ptr (h2.nx+1+1) 0]) om ((d.new (.dfr false)).new (.loop 0 none i [18,19] rAS rBD));unfold FL FL2 at X;rw[<- I]at X;change Ah h _ (Aa (Z.call 66 _ ((d.new (.dfr false)).new (.loop 0 none (rFR (.str s) (.ptr h.nx 0) (.ptr (h.nx+1) 0) (iI s.length) ux (.agg Aue) (.agg L) (.ptr h2.nx 0) (.ptr (h2.nx+1) 0) (.fn (.func 66) [] [.ptr (h2.nx+1+1) 0])) [18,19] rAS rBD))) _);rw[<- I];clear M I;have j:Ai d ((d.new (.dfr false)).new (.loop 0 none i [18,19] rAS rBD)):=((Ai.refl d).new _).new _;have C:((d.new (.dfr false)).new (.loop 0 none i [18,19] rAS rBD)).m.get (d.nx+1)=.loop 0 none i [18,19] rAS rBD:=Bf (h:=d.new _) _;have G:((d.new (.dfr false)).new (.loop 0 none i [18,19] rAS rBD)).m.get d.nx=.dfr false:=by rw[Cq _ _ ml];exact Bf _
 have n4:((d.new (.dfr false)).new (.loop 0 none i [18,19] rAS rBD)).nx=d.nx+2:=rfl;generalize ((d.new (.dfr false)).new (.loop 0 none i [18,19] rAS rBD))=h4 at *
 have k4:Ly0 h2.nx (h2.nx+1+1) (h2.nx+1) (d.nx+1) h.nx (h.nx+1) s h4:=by
  refine⟨⟨⟨(j.Cf _ om).trans gb,by omega,hby,hs⟩,(j.Cf _ om).trans g3,by omega,P.By j.keeps,by omega,by omega,λst=>⟨λu=>?_,λu=>?_⟩⟩,Q.gr j,by omega,by omega,by omega,(j.Cf _ om).trans B,(j.Cf _ om).trans E⟩
  .rw[j.Cf _ om,D]at u;cases u
  .rw[C]at u;cases u
 obtain⟨v5,f,q5,_,_,ho⟩:=X k4 om om ((j.Cf _ om).trans D) C;refine Ey q5 ?_;rcases ho with⟨xs,hxs,w',ts,y,kT,kz⟩|⟨A,q,fc,fa,Hr,U,K⟩
 .have W:Ai h f:=Bny (n.trans j) y.g om om;have T:f.m.get h.nx=cz [.Bv] 39:=by rw[y.g.Cf _ om om om,j.Cf _ om,B]
  have S:f.m.get (h.nx+1)=cz [iI 0,iI 0] 30:=by rw[y.g.Cf _ om om om,j.Cf _ om,E]
  have p3:f.m.get d.nx=.dfr false:=by rw[y.g.Cf _ om om om,G]
  have l5:=y.g.lo;have p4:=y.gb;have J:=y.gl;have p6:=y.o;have P4:h.nx+2<=h2.nx:=l2;clear y j C G k4 X q5 Q hE B E P gb D g3 n g0 hG;rw[Biw J,Bbk];have g6:Ai h (f.put (d.nx+1) (.loop 3 none i [18,19] rAS rBD)):=W.put _ _ om;have Y:Fm 4 h4.nx 48 (f.put (d.nx+1) (.loop 3 none i [18,19] rAS rBD)) w' ts.length (ts.flatMap Aez):=Atp p6 om (λcs e k u=>by rw[J]at u;cases u) (λst u=>by rw[J]at u;cases u);have r1:(f.put (d.nx+1) (.loop 3 none i [18,19] rAS rBD)).m.get h.nx=cz [.Bv] 39:=by rw[Aq _ _ _ om];exact T
  have r2:(f.put (d.nx+1) (.loop 3 none i [18,19] rAS rBD)).m.get (h.nx+1)=cz [iI 0,iI 0] 30:=by rw[Aq _ _ _ om];exact S
  have r3:(f.put (d.nx+1) (.loop 3 none i [18,19] rAS rBD)).m.get d.nx=.dfr false:=by rw[Aq _ _ _ om];exact p3
  have r4:(f.put (d.nx+1) (.loop 3 none i [18,19] rAS rBD)).m.get (h2.nx+1)=AeK 39 w':=by rw[Aq _ _ _ om];exact p4
  have r5:(f.put (d.nx+1) (.loop 3 none i [18,19] rAS rBD)).nx=f.nx:=rfl;generalize (f.put (d.nx+1) (.loop 3 none i [18,19] rAS rBD))=h6 at *
  clear T S p3 p4 J p6 W;have c4:Nv h6 (h2.nx+1) [w']:=⟨by omega,_,_,r4,trivial⟩;refine Ey (c4.one (o:=0) rfl h6 (Bi.refl _)) ?_;refine Ey (Bn1 r1 (B2 Y.sl)) ?_;have o7:Fm 4 h4.nx 48 (h6.put h.nx (AeK 39 w')) w' ts.length (ts.flatMap Aez):=Fm.To (l:=[w']) (e1:=39) Y om (by rw[r1];rfl);have g7:Ai h (h6.put h.nx (AeK 39 w')):=g6.put _ _ (Ye _);have s1:(h6.put h.nx (AeK 39 w')).m.get h.nx=cz [w'] 39:=A2 _ _;have s2:(h6.put h.nx (AeK 39 w')).m.get (h.nx+1)=cz [iI 0,iI 0] 30:=by rw[Aq _ _ _ om];exact r2
  have s3:(h6.put h.nx (AeK 39 w')).m.get d.nx=.dfr false:=by rw[Aq _ _ _ om];exact r3
  have s5:(h6.put h.nx (AeK 39 w')).nx=f.nx:=r5;generalize (h6.put h.nx (AeK 39 w'))=h7 at *
  clear r1 r2 r3 r4 r5 c4 Y g6;have y1:A4 2 (.ptr (h.nx+1) 0) (.agg [iI 0,iI 0]) h7=.ok (.Bj []) (h7.put (h.nx+1) (cz [iI 0,iI 0] 30)):=by simp[s2,lw]
  refine Ey y1 ?_;have t3:(h7.put (h.nx+1) (cz [iI 0,iI 0] 30)).m.get d.nx=.dfr false:=by rw[Aq _ _ _ om];exact s3
  have o8:Fm 4 h4.nx 48 (h7.put (h.nx+1) (cz [iI 0,iI 0] 30)) w' ts.length (ts.flatMap Aez):=Fm.To (l:=[iI 0,iI 0]) (e1:=30) o7 om (by rw[s2];rfl);rw[BqJ t3];have u1:((h7.put (h.nx+1) (cz [iI 0,iI 0] 30)).put d.nx (.dfr true)).m.get h.nx=cz [w'] 39:=by rw[Aq _ _ _ om,Aq _ _ _ om];exact s1
  have u2:((h7.put (h.nx+1) (cz [iI 0,iI 0] 30)).put d.nx (.dfr true)).m.get (h.nx+1)=cz [iI 0,iI 0] 30:=by rw[Aq _ _ _ om];exact A2 _ _
  rw[BnD (nb:=2) u1 u2 rfl];exact Lo ((g7.put _ _ om).put _ _ om) (.inr ⟨w',ts,48,rfl,(Bnu o8 om t3).one om,λh=>kz (Vz.1 h),xs,by unfold AsA;rw[X2 om];exact hxs,by simpa using kT⟩)
 .have hl5:h4.nx<=f.nx:=Ol U.lo K.lo;have Kf:=U.lo;have g4:Ai h q:=Bny (n.trans j) U om om;have W:Ai h f:=(((g4.put h.nx _ (Ye _)).put (h.nx+1) _ om).put (d.nx+1) _ om).trans K;have T:f.m.get h.nx=cz [.Bv] 39:=by rw[K.Cf _ (by show h.nx<q.nx;omega),Aq _ _ _ om,Aq _ _ _ om,A2]
  have S:f.m.get (h.nx+1)=cz [iI fc,iI fa] 30:=by rw[K.Cf _ (by show h.nx+1<q.nx;omega),Aq _ _ _ om,A2]
  have p3:f.m.get d.nx=.dfr false:=by rw[K.Cf _ (by show d.nx<q.nx;omega),Aq _ _ _ om,Aq _ _ _ om,Aq _ _ _ om,U.Cf _ om om om,G]
  have J:f.m.get (d.nx+1)=.loop 2 (some .ret) i [18,19] rAS rBD:=by rw[K.Cf _ (by show d.nx+1<q.nx;omega),A2]
  have P4:h.nx+2<=h2.nx:=l2;rw[A6m J,A6c];have t3:(f.put (d.nx+1) (.loop 3 (some .ret) i [18,19] rAS rBD)).m.get d.nx=.dfr false:=by rw[Aq _ _ _ om];exact p3
  rw[BqJ t3];have u1:((f.put (d.nx+1) (.loop 3 (some .ret) i [18,19] rAS rBD)).put d.nx (.dfr true)).m.get h.nx=cz [.Bv] 39:=by rw[Aq _ _ _ om,Aq _ _ _ om];exact T
  have u2:((f.put (d.nx+1) (.loop 3 (some .ret) i [18,19] rAS rBD)).put d.nx (.dfr true)).m.get (h.nx+1)=cz [iI fc,iI fa] 30:=by rw[Aq _ _ _ om,Aq _ _ _ om];exact S
  rw[BnD (nb:=2) u1 u2 rfl];exact Lo ((W.put _ _ om).put _ _ om) (.inl ⟨by unfold AsA;rw[X2 om];exact A,fc,fa,Hr,rfl⟩)
end Go.Proofs
