/- ParseUint of digits, base 10. -/
import Derived.Test.YtmjmhajonaelcaaGreatDoorEvLa
set_option linter.all false
set_option maxRecDepth 100000
noncomputable section
namespace Go.Proofs
open Go Go.Ev Go.Nm Tryz Go.Ev.Sx
attribute [local irreducible] Aa Al Af Ad
variable (Z cx:Ac)(N:Nat)
variable {h h1:H}{s:uq}{w:AV}{b:Nat}{pre x rest:uq}
def sgF(r:List _):=if 2<=r.length/\r.take 2∈Sgs then some (r.take 2)else if r.take 1∈Sgs then some (r.take 1)else none
def Btb:=∀b s pre rest h,Sc0 b s h->s=pre++rest->rest≠[]->Ah h (λr _=>r=.Bj [.str ((sgF rest).getD []),.bool (sgF rest).isSome]) (Z.call 101 [.ptr b 0,iI pre.length] h)
def B5I(t:100<N)(e:Bhc Z){b:Nat}{pre rest:uq}(k:Sc0 b s h)(y:s=pre++rest)(u:rest≠[])(m:sgF rest=none):
 Ah h (λr _=>r=.Bj [.str [],ux]) (mr Z N 101 [.ptr b 0,iI (pre.length:Int)] h):=by
 rw[BzE];have z:s.length=pre.length+rest.length:=by simp_all
 have f:s.drop pre.length=rest:=by grind
 have v:0<rest.length:=Kd.2 u;obtain⟨c,rfl⟩:∃n,N=n+3:=⟨N-3,by omega⟩;have q:2<=rest.length->rest.take 2 ∉ Sgs:=λl a=>by unfold sgF at m;grind
 have p:rest.take 1 ∉ Sgs:=λa=>by unfold sgF at m;grind
 have zero:∀(hd:H) (f0:L2),Ai h hd->Ah h (λr _=>r=.Bj [.str [],ux]) (AqQ Z (c+3) (c+1) (.ptr b 0) (iI (pre.length:Int)) (iI 1) f0 hd):=λhd f0 o=>by
  rw[Bms];refine wk ?_;rw[Bdf];have B:decide ((0:Int)<0)=false:=by decide
  refine wk ?_;exact zr Ex rfl
 have one:∀(hd:H) (f0:L2),Ai h hd->Ah h (λr _=>r=.Bj [.str [],ux]) (AqQ Z (c+3) (c+2) (.ptr b 0) (iI (pre.length:Int)) (iI 2) f0 hd):=λhd f0 o=>by rw[Bms];refine wk ?_;exact Biz Z (c+3) t e k rfl (mn:=1) rfl rfl (.inl rfl) om (by grind) (c+1) hd o (λa=>absurd a p) (λ_ hd f0 g=>zero hd f0 g) _
 by_cases l:2<=rest.length;. exact Biz Z (c+3) t e k rfl (mn:=2) rfl rfl (.inr rfl) om (by rw[f]) (c+2) h (Ai.refl h) (λa=>absurd a (q l)) (λ_ hd f0 g=>one hd f0 g) _
 .have i:=k;have F:=i.lt;have A:=i.Mu;obtain⟨cs,g,C,_⟩:=Ag0 i (show 0<256 by decide);obtain⟨pi,d⟩:∃x:Int,x=(pre.length:Int):=⟨_,rfl⟩;obtain⟨sl,j⟩:∃x:Int,x=(s.length:Int):=⟨_,rfl⟩;have E:∀a:H,lnS (.str s) a=.ok (iI sl) a:=λa=>by simp_all
  have k2:decide (sl<pi+2)=true:=Ws (by omega);have D:0<=pi:=by omega
  have G:pi<=3000:=by omega
  replace one:=(show F5 _ from one);rw[<- d];rw[<- d]at one;clear d j f z y i m p q v l zero;rw[Bdf];refine wk ?_;exact(show ∀(hd:H) (f0:L2),Ai h hd->_ from one) _ _ Ex
def CcW(j:100<N)(e:Bhc Z){b:Nat}{pre rest:uq}(k:Sc0 b s h)(m:s=pre++rest)(i:rest≠[]):
 Ah h (λr _=>r=.Bj [.str ((sgF rest).getD []),.bool (sgF rest).isSome]) (mr Z N 101 [.ptr b 0,iI (pre.length:Int)] h):=by cases f:sgF rest with
 |none=>exact B5I Z N j e k m i f
 |some sg=>
  have o:0<rest.length:=Kd.2 i;have g:∃n,sg=rest.take n/\sg∈Sgs/\(sg.length=1->∀c∈(rest.drop n).head?,sg++[c] ∉ Sgs):=by
   unfold sgF at f;split at f;. grind
   .split at f
    .obtain⟨a,r,rfl⟩:∃a r,rest=a::r:=by cases rest with|nil=>grind|cons a r=>simp
     cases r with
     |nil=>grind
     |cons d r=>grind
    grind
  obtain⟨n,rfl,h1,l⟩:=g;exact B3l Z N j e k (by simp[*]) h1 l
def AoC s:=s≠[]/\s.length<=20/\N3 (s.headD 0)=2/\s ∉ W35
instance (s:uq):Decidable (AoC s):=by unfold AoC;exact inferInstance
def BsX:=∀s h,S0 h->(∀c∈s,N3 c∈[2,3,4])->s.length<=2000->Ah h (λr _=>r=.bool (decide (AoC s))) (Z.call 100 [.str s] h)
def lt8 a b hh:Aj prog .lss 5 true (cw a) (cw b) hh=.ok (.bool (decide (a<b))) hh:=by show OR.ok ..=_;rw[Il]
def gt8 a b hh:Aj prog .gtr 5 true (cw a) (cw b) hh=.ok (.bool (decide (b<a))) hh:=by show OR.ok (.bool (ilt b a)) _=_;rw[Il]
def ne8 a b hh:Aj prog .neq 5 true (cw a) (cw b) hh=.ok (.bool !decide (a=b)) hh:=by show OR.ok (.bool (Ib _)) _=_;rw[X7];cases decide (a=b)<;>rfl
def eq8 a b hh:Aj prog .eql 5 true (cw a) (cw b) hh=.ok (.bool (decide (a=b))) hh:=by show OR.ok ..=_;rw[X7]
def Bd0{c}(hc:N3 c∈[2,3,4]):97<=c/\c<=122\/48<=c/\c<=57\/c=95:=by unfold N3 at hc;grind
def BeY{c}:N3 c=2 ↔ 97<=c/\c<=122:=by unfold N3;omega
def Bbb(l:Bbu Z)(s:uq)(h:H)(q:S0 h)(hc:∀c∈s,N3 c∈[2,3,4])(C:s.length<=2000)(t:s ∉ W35):
 ∀(u i:Nat) (d:Int) (n:Nat) (f0:L2),i+u=s.length->d=(i:Int)->u<n->Ah h (λr _=>r=uz) (ArU Z N n (.str s) (iI (s.length:Int)) (iI d) f0 h)
 |0,i,d,n,f0,hu,a,hn=>by obtain⟨n1,rfl⟩:∃n1,n=n1+1:=⟨n-1,by omega⟩;have y:decide (d<(s.length:Int))=false:=df;have v:=BlD h;clear hu a;rw[Ayn];refine wk ?_;refine Fj (l _ W35 s h q.ws fe t) λF h1 e1 l1 B A=>?_;obtain⟨j,rfl⟩:=A;refine wk ?_;exact zr Ex rfl
 |u+1,i,d,n,f0,hu,a,hn=>by
  obtain⟨n1,rfl⟩:∃n1,n=n1+1:=⟨n-1,by omega⟩;have o:=Bbb l s h q hc C t u (i+1) (d+1) n1;have y:decide (d<(s.length:Int))=true:=dt;obtain⟨c,m⟩:∃c,s[i]?=some c:=⟨_,Oh om⟩;have g:=Bd0 (hc c (Vl m));have v:∀k:H,xIx prog .str (.str s) (iI d) k=.ok (cw (c:Int)) k:=λk=>by rw[a];exact A0l m
  obtain⟨e,f⟩:∃x:Int,x=(c:Int):=⟨_,rfl⟩;rw[<- f]at v;have I:∀(w:Bool) (r:OR) (k:H),Ad (.Bj []) w r k=.ok (.Bj []) k:=λ_ _ _=>by kernel_rfl
  have r1:0<=d:=by omega
  have K:d<=2000:=by omega
  have go:=λf0=>o f0 om om om;replace go:=(show F5 _ from go);have z1:=lt8;have E:=gt8;have J:=ne8;rcases g with g|g|g;. have p:decide (e<97)=false:=df;have L:decide (122<e)=false:=df;clear hu a m f o hc g;rw[Ayn];refine wk ?_;exact(show ∀(f0:L2),_ from go) _
  .have p:decide (e<97)=true:=dt;have z:decide (e<48)=false:=df;have D:decide (57<e)=false:=df;clear hu a m f o hc g;rw[Ayn];refine wk ?_;exact(show ∀(f0:L2),_ from go) _
  .have p:decide (e<97)=true:=dt;have z:decide (e<48)=false:=df;have D:decide (57<e)=true:=dt;have G:decide (e=95)=true:=dt;clear hu a m f o hc g;rw[Ayn];refine wk ?_;exact(show ∀(f0:L2),_ from go) _
def CcJ(F:2001<N)(m:Bbu Z)(s:uq)(h:H)(v:S0 h)(hc:∀c∈s,N3 c∈[2,3,4])(z:s.length<=2000)(p:s ∉ W35):Ah h (λr _=>r=.bool (decide (AoC s))) (mr Z N 100 [.str s] h):=by
 obtain⟨sl,k⟩:∃x:Int,x=(s.length:Int):=⟨_,rfl⟩;have E:∀d:H,lnS (.str s) d=.ok (iI sl) d:=λd=>by simp[*]
 have D:∀(w:Bool) (r:OR) (d:H),Ad (.Bj []) w r d=.ok (.Bj []) d:=λ_ _ _=>by kernel_rfl
 have z1:=lt8;have B:=gt8;rw[Bj2];by_cases o:s=[];. have t:decide (sl<1)=true:=Ws (by grind);have e:decide (AoC s)=false:=Yc λd=>d.1 o;rw[e];clear k;refine wk ?_;exact zr Ex rfl
 have y:0<s.length:=Kd.2 o;have t:decide (sl<1)=false:=df;by_cases C:20<s.length
 .have k2:decide (20<sl)=true:=dt;have e:decide (AoC s)=false:=Yc λd=>by have:=d.2.1;omega
  rw[e];clear k;refine wk ?_;exact zr Ex rfl
 have k2:decide (20<sl)=false:=df;obtain⟨c,g⟩:∃c,s[0]?=some c:=⟨_,Oh y⟩;have A:∀d:H,xIx prog .str (.str s) (iI 0) d=.ok (cw (c:Int)) d:=λd=>A0l g;have j:s.headD 0=c:=by cases s with
  |nil=>cases g
  |cons a r=>cases g;rfl
 have q:=Bd0 (hc c (Vl g));obtain⟨n,f⟩:∃x:Int,x=(c:Int):=⟨_,rfl⟩;rw[<- f]at A;by_cases l:97<=c/\c<=122;. have u:decide (n<97)=false:=df;have G:decide (122<n)=false:=df;have i:decide (AoC s)=true:=Ws ⟨o,by omega,by rw[j];exact BeY.2 l,p⟩;have lp:=Bbb Z N m s h v hc z p s.length 0 0 N;have go:=λf0=>lp f0 om rfl om;rw[<- k]at go;rw[i];replace go:=(show F5 _ from go);clear hc g f lp k q l i;refine wk ?_;exact(show ∀(f0:L2),_ from go) _
 .have e:decide (AoC s)=false:=Yc λd=>by have:=d.2.2.1;rw[j]at this;exact l (BeY.1 this)
  have u:decide (n<97)=true:=dt;rw[e];clear hc g f k q l;refine wk ?_;exact zr Ex rfl
end Go.Proofs
namespace Go.Proofs
open Go Go.Ev Go.Nm Tryz Go.Ev.Sx
def wrap64 n(h1:0<=n)(a:n<=18446744073709551615):E1 .u64 n=n:=by
 unfold E1 fits;rw[Il,Il];have e1:¬ n<IntKind.min .u64:=by show ¬ n<0;omega
 have c:¬ IntKind.max .u64<n:=by show ¬ 18446744073709551615<n;omega
 simp[*]
def BoD n(h1:18446744073709551616<=n)(a:n<36893488147419103232):E1 .u64 n=n-18446744073709551616:=by unfold E1 fits;rw[Il,Il,Yc (by show ¬ n<0;omega:¬ n<IntKind.min _),Ws (by show 18446744073709551615<n;omega)];unfold IntKind.wrap;simp[IntKind.bits,IntKind.signed];omega
attribute [local irreducible] Aa Al Af Ad
variable (Z cx:Ac)(N:Nat)
variable {h h1:H}{s:uq}{w:AV}{b:Nat}{pre x rest:uq}
abbrev m64:Int:=18446744073709551615
def PU s(r:AV):=AnE s<=m64/\r=.Bj [cn (AnE s),.B3]\/m64<AnE s/\r=.Bj [cn m64,.I6 238 (iI 1)]
def Bf0{t9 v:AV}(k:∀c∈s,48<=c/\c<=57)(L:s.length<=2000)(h:H)(A:R0 1 AiS h v s):
 ∀(u i n:Nat) (f0:L2),i+u=s.length->u<n->(AnE (s.take i):Int)<=m64->Ah h (λr _=>PU s r) (A6Q Z N n (iI 10) ux t9 (cn 1844674407370955162) (cn 18446744073709551615) ux (cn (AnE (s.take i):Int)) v (iI s.length) (iI i) f0 h)
 |0,i,n,f0,hu,hn,hm=>by
  obtain⟨n1,rfl⟩:∃n1,n=n1+1:=⟨n-1,by omega⟩;have G:decide ((i:Int)<(s.length:Int))=false:=df;have J:decide (i<s.length)=false:=df;rw[Qa om]at hm ⊢;have j:PU s (.Bj [cn (AnE s:Int),.B3]):=.inl ⟨hm,rfl⟩;generalize (AnE s:Int)=a at *
  rw[BeQ];clear hm;refine wk ?_;exact zr Ex j
 |u+1,i,n,f0,hu,hn,hm=>by
  obtain⟨n1,rfl⟩:∃n1,n=n1+1:=⟨n-1,by omega⟩;have B:=Bf0 k L h A (t9:=t9) u (i+1) n1;have G:decide ((i:Int)<(s.length:Int))=true:=dt;have J:decide (i<s.length)=true:=dt;obtain⟨c,hc⟩:∃c,s[i]?=some c:=⟨_,Oh om⟩;obtain⟨V,c2⟩:=k c (Vl hc);obtain⟨Q,W,z⟩:=R0.elem (f:=AiS) (s:=1) (λ_=>rfl) A hc;have x1:=z.ia;have F:=z.part 0 _ rfl;rw[Vw]at F;have y:=Bel s i;have t:=Bel s (i+1);have o:AnE (s.take (i+1))=AnE (s.take i)*10+(c-48):=by rw[Y9,hc];exact A3l _ _
  obtain⟨a,C⟩:∃a:Int,a=(AnE (s.take i):Int):=⟨_,rfl⟩;obtain⟨d,hd⟩:∃d:Int,d=((c-48:Nat):Int):=⟨_,rfl⟩;obtain⟨p,m⟩:∃d:Int,d=(c:Int):=⟨_,rfl⟩;rw[<- m]at F;have y0:∀g:H,Aj prog .eql 5 true (cw p) (cw 95) g=.ok ux g:=λg=>by rw[eq8,Yc om]
  have ya:∀g:H,Aj prog .leq 5 true (cw 48) (cw p) g=.ok uz g:=λg=>by show OR.ok (.bool (Ib (ilt p 48))) g=_;rw[Il,Yc om];rfl
  have S:∀g:H,Aj prog .leq 5 true (cw p) (cw 57) g=.ok uz g:=λg=>by show OR.ok (.bool (Ib (ilt 57 p))) g=_;rw[Il,Yc om];rfl
  have R:∀g:H,Aj prog .sub 5 true (cw p) (cw 48) g=.ok (cw d) g:=λg=>by show OR.ok (cw (E1 .u8 (p-48))) g=_;rw[show p-48=d by omega,Bk7 d om om]
  have y2:∀g:H,Aj prog .geq 5 false (cw d) (cw 10) g=.ok ux g:=λg=>by show OR.ok (.bool (Ib (ilt d 10))) g=_;rw[Il,Ws om];rfl
  have T:∀g:H,A6r .u64 (cw d) g=.ok (cn d) g:=λg=>by rw[Awb,wrap64 d om om]
  have Y:∀g:H,A6r .u8 (iI 10) g=.ok (cw 10) g:=λg=>by rw[Awb,Bk7 10 om om]
  have U:∀g:H,A6r .u64 (iI 10) g=.ok (cn 10) g:=λg=>by rw[Awb,wrap64 10 om om]
  have l:(AnE (s.take (i+1)):Int)=a*10+d:=by rw[o,C,hd];omega
  have X:∀g:H,Aj prog .geq 175 false (cn a) (cn 1844674407370955162) g=.ok (.bool (decide (1844674407370955162<=a))) g:=λg=>by
   show OR.ok (.bool (Ib (ilt a 1844674407370955162))) g=_;rw[Il];by_cases q:a<1844674407370955162
   .rw[Ws q,Yc om];rfl
   .rw[Yc q,Ws om];rfl
  rw[<- C]at hm ⊢;rw[BeQ];by_cases E:1844674407370955162<=a
  .have O:decide (1844674407370955162<=a)=true:=Ws E;have j:PU s (.Bj [cn m64,.I6 238 (iI 1)]):=.inr ⟨by show(18446744073709551615:Int)<_;omega,rfl⟩
   clear z hc B l o y t C hd m A k;refine wk ?_;rw[A6z];refine wk ?_;exact zr Ex j
  .have O:decide (1844674407370955162<=a)=false:=Yc E;have P:∀g:H,Aj prog .mul 175 false (cn a) (cn 10) g=.ok (cn (a*10)) g:=λg=>by show OR.ok (cn (E1 .u64 (a*10))) g=_;rw[wrap64 _ om om]
   by_cases D:a*10+d<=18446744073709551615
   .have K:∀g:H,Aj prog .add 175 false (cn (a*10)) (cn d) g=.ok (cn (a*10+d)) g:=λg=>by show OR.ok (cn (E1 .u64 (a*10+d))) g=_;rw[wrap64 _ om om]
    have M:∀g:H,Aj prog .lss 175 false (cn (a*10+d)) (cn (a*10)) g=.ok ux g:=λg=>by show OR.ok (.bool (ilt (a*10+d) (a*10))) g=_;rw[Il,Yc om]
    have I:∀g:H,Aj prog .gtr 175 false (cn (a*10+d)) (cn 18446744073709551615) g=.ok ux g:=λg=>by show OR.ok (.bool (ilt 18446744073709551615 (a*10+d))) g=_;rw[Il,Yc om]
    rw[l]at B;generalize a*10+d=e at *;have go:=λf0=>B f0 om om D;replace go:=(show F5 _ from go);have r1:0<=(i:Int):=by omega
    have r2:(i:Int)<=2000:=by omega
    clear z hc B l o y t C hd m A k;refine wk ?_;rw[A6z];refine wk ?_;rw[Blr];refine wk ?_;rw[show(i:Int)+1=((i+1:Nat):Int)by omega];exact(show ∀f0,_ from go) _
   .have K:∀g:H,Aj prog .add 175 false (cn (a*10)) (cn d) g=.ok (cn (a*10+d-18446744073709551616)) g:=λg=>by show OR.ok (cn (E1 .u64 (a*10+d))) g=_;rw[BoD _ om om]
    have M:∀g:H,Aj prog .lss 175 false (cn (a*10+d-18446744073709551616)) (cn (a*10)) g=.ok uz g:=λg=>by show OR.ok (.bool (ilt (a*10+d-18446744073709551616) (a*10))) g=_;rw[Il,Ws om]
    have j:PU s (.Bj [cn m64,.I6 238 (iI 1)]):=.inr ⟨by show(18446744073709551615:Int)<_;omega,rfl⟩;clear z hc B l o y t C hd m A k;refine wk ?_;rw[A6z];refine wk ?_;exact zr Ex j
def BsQ:=∀s a h,a=0\/a=64->s≠[]->(∀c∈s,48<=c/\c<=57)->s.length<=2000->Ah h (λr _=>PU s r) (Z.call 154 [.str s,iI 10,iI a] h)
def Cbm(p:2001<=N)(e:∀c∈s,48<=c/\c<=57)(i:s.length<=2000){t9}{f0}:Ah h (λr _=>PU s r) (A6x Z N (.str s) (iI 10) (iI 64) ux t9 f0 h):=by
 have k:=BkF 5 (s:=s) om;have o:∀a,A6r .u64 (iI 64) a=.ok (.int _ 64) _:=λa=>rfl;have n:∀a,Aj prog .shl 175 true (cn 1) (cn 64) a=.ok (.int _ 0) _:=λa=>rfl;have l:∀a,Aj prog .sub 175 true (cn 0) (cn 1) a=.ok ..:=λa=>rfl;rw[Blp];refine wk ?_;rw[Blq];refine wk ?_;have d:R0 1 _ ((h.new (.Fb 0)).new (.cells (s.flatMap _) 5 (.Gt h.nx))) (.sl _ 0 _ _ 1 false) s:=
  .inr ⟨_,0,_,_,_,rfl,Ye _,⟨by simp,5,_,Bf _,trivial⟩,by rw[Aa9 (f:=AiS) λ_=>rfl];simp,by rw[Cp,Qa (by rw[Aa9 (s:=1) λ_=>rfl];omega)]⟩;obtain⟨v,m,e1,j,g⟩:=(show ∀v h d f0,_ from λv h (d:R0 1 _ h v s) f0=>Bf0 Z N e i h d s.length 0 N f0 om om (by simp[AnE])) _ _ d _;exact⟨v,_,e1,(((Ai.refl h).new _).new _).trans j,g⟩
def Ccj(g:2001<=N){d}(f:d=0\/d=64)(i:s≠[])(a:∀c∈s,48<=c/\c<=57)(e:s.length<=2000):Ah h (λr _=>PU s r) (mr Z N 154 [.str s,iI 10,iI d] h):=by
 have go:=λt9 f0=>Cbm Z N (h:=h) g a e (t9:=t9) (f0:=f0);rw[B8W];refine wk ?_;rw[Blo];rcases f with rfl|rfl;. exact wk ((show ∀t9 f0,_ from go) _ _)
 .exact wk ((show ∀t9 f0,_ from go) _ _)
def PI s(r:AV):=(AnE s:Int)<=9223372036854775807/\r=.Bj [iI (AnE s),.B3]\/9223372036854775807<(AnE s:Int)/\∃m:Int,r=.Bj [iI m,.I6 238 (iI 1)]
def B0T:=∀s h,s≠[]->(∀c∈s,48<=c/\c<=57)->s.length<=2000->Ah h (λr _=>PI s r) (Z.call 195 [.str s,iI 10,iI 0] h)
def Ccu(l:BsQ Z)(m:s≠[])(e:∀c∈s,48<=c/\c<=57)(y:s.length<=2000):Ah h (λr _=>PI s r) (mr Z N 195 [.str s,iI 10,iI 0] h):=by
 have A:decide (s=[])=false:=Yc m;obtain⟨c,o⟩:∃c,s[0]?=some c:=⟨_,Oh (Kd.2 m)⟩;obtain⟨J,c2⟩:=e c (Vl o);have u:∀d:H,xIx prog .str (.str s) (iI 0) d=.ok (cw (c:Int)) d:=λd=>A0l (i:=0) o;obtain⟨t,g⟩:∃x:Int,x=(c:Int):=⟨_,rfl⟩;rw[<- g]at u;have z1:=eq8;have k2:decide (t=43)=false:=df;have D:decide (t=45)=false:=df;have hc:=l s 0 h (.inl rfl) m e y;have C:∀d:H,Aj prog .neq 102 true .B3 .B3 d=.ok ux d:=λd=>by kernel_rfl
 have M:∀d:H,Aj prog .neq 102 true (.I6 238 (iI 1)) .B3 d=.ok uz d:=λd=>by kernel_rfl
 have E:∀d:H,Aj prog .neq 102 false (.I6 238 (iI 1)) (.I6 238 (iI 1)) d=.ok ux d:=λd=>by kernel_rfl
 have L:∀d:H,A6r .u64 (iI 63) d=.ok (cn 63) d:=λd=>by rw[Awb,wrap64 63 om om]
 have I:∀d:H,Aj prog .shl 175 true (cn 1) (cn 63) d=.ok (cn 9223372036854775808) d:=λd=>by kernel_rfl
 have K:∀d:H,Aj prog .sub 175 true (cn 9223372036854775808) (cn 1) d=.ok (cn 9223372036854775807) d:=λd=>by kernel_rfl
 have B:∀d:H,A6r .i64 (cn 9223372036854775807) d=.ok (iI 9223372036854775807) d:=λd=>by kernel_rfl
 rw[B9q];clear o g;refine wk ?_;rw[Bls];refine Fj hc λF h1 e1 l1 n f=>?_;clear hc n;rcases f with⟨f,rfl⟩|⟨f,rfl⟩
 .obtain⟨a,k⟩:∃a:Int,a=(AnE s:Int):=⟨_,rfl⟩;rw[<- k]at f ⊢;have v:∀d:H,Aj prog .geq 175 false (cn a) (cn 9223372036854775808) d=.ok (.bool (decide (9223372036854775808<=a))) d:=λd=>by
   show OR.ok (.bool (Ib (ilt a 9223372036854775808))) d=_;rw[Il];by_cases q:a<9223372036854775808;. rw[Ws q,Yc om];rfl
   .rw[Yc q,Ws om];rfl
  by_cases p:9223372036854775808<=a
  .have z:decide (9223372036854775808<=a)=true:=Ws p;have j:PI s (.Bj [iI 9223372036854775807,.I6 238 (iI 1)]):=.inr ⟨by omega,_,rfl⟩;clear k e;refine wk ?_;rw[A61];refine wk ?_;exact zr Ex j
  .have z:decide (9223372036854775808<=a)=false:=Yc p;have j:PI s (.Bj [iI a,.B3]):=.inl ⟨by omega,by rw[k]⟩;have G:∀d:H,A6r .i64 (cn a) d=.ok (iI a) d:=λd=>by rw[Awb,lw.2.2 _ om om]
   clear k e;refine wk ?_;rw[A61];refine wk ?_;exact zr Ex j
 .have v:∀d:H,Aj prog .geq 175 false (cn 18446744073709551615) (cn 9223372036854775808) d=.ok uz d:=λd=>by kernel_rfl
  have j:PI s (.Bj [iI 9223372036854775807,.I6 238 (iI 1)]):=.inr ⟨by grind,_,rfl⟩;clear e f;refine wk ?_;rw[A61];refine wk ?_;exact zr Ex j
end Go.Proofs
