/- The lexer -/
import Derived.Test.YtahaaiadlgfchaaGreatDoorEvHc
set_option linter.all false
set_option maxRecDepth 100000
noncomputable section
namespace Go.Proofs
open Go Go.Ev Go.Ev.Sx
open Go.Nm
attribute [local irreducible] Aa Al Af Ad
variable (Z cx:Ac)(N:Nat)
variable {h h1:H}{s:uw}{w:AV}
abbrev AiS(c:Nat):uz:=[ch (c:Int)]
def Asj:∀s,U2 s=s.flatMap AiS
|[]=>rfl
|c::s=>by show AV.int _ c::U2 s=_;rw[Asj s];rfl
def BkF e(a:s.length<1000000000000) h:BwI e (.str s) h=.ok (.sl (h.nx+1) 0 s.length s.length 1 false) ((h.new (.Fb 0)).new (.cells (s.flatMap AiS) e (.Gt h.nx))):=by show @Bool.rec _ _ ..=_;rw[Rf,Fi,Ws a,Asj]
def Bk7 n(h1:0<=n)(h2:n<=255):E1 .u8 n=n:=by
 unfold E1 fits;rw[Il,Il];have e1:¬ n<IntKind.min .u8:=by show ¬ n<0;omega
 have a:¬ IntKind.max .u8<n:=by show ¬ 255<n;omega
 simp[*]
end Go.Proofs
namespace Go.Proofs
open Go Go.Ev Tryz Go.Ev.Sx
open Go.Nm
def wrap64 n(h1:0<=n)(h2:n<=18446744073709551615):E1 .u64 n=n:=by
 unfold E1 fits;rw[Il,Il];have e1:¬ n<IntKind.min .u64:=by show ¬ n<0;omega
 have a:¬ IntKind.max .u64<n:=by show ¬ 18446744073709551615<n;omega
 simp[*]
def BoD n(h1:18446744073709551616<=n)(h2:n<36893488147419103232):E1 .u64 n=n-18446744073709551616:=by unfold E1 fits;rw[Il,Il,Yg (by show ¬ n<0;omega:¬ n<IntKind.min _),Ws (by show 18446744073709551615<n;omega)];unfold IntKind.wrap;simp[IntKind.bits,IntKind.signed];omega
attribute [local irreducible] Aa Al Af Ad
variable (Z cx:Ac)(N:Nat)
variable {h h1:H}{s:uw}{w:AV}{b:Nat}{pre x rest:uw}
abbrev m64:Int:=18446744073709551615
def PU s(r:AV):=AnE s<=m64/\r=.Bj [cm (AnE s),.B3]\/m64<AnE s/\r=.Bj [cm m64,.I6 278 (iI 1)]
def Bf0{t9 v:AV}(k:∀c∈s,48<=c/\c<=57)(M:s.length<=2000)(h:H)(B:R0 1 AiS h v s):
 ∀(u i n:Nat) (f0:L2),i+u=s.length->u<n->(AnE (s.take i):Int)<=m64->Ah h (λr _=>PU s r) (A6Q Z N n (iI 10) ct t9 (cm 1844674407370955162) (cm 18446744073709551615) ct (cm (AnE (s.take i):Int)) v (iI s.length) (iI i) f0 h)
 |0,i,n,f0,hu,hn,hm=>by
  obtain⟨n1,rfl⟩:=mg n;have I:decide ((i:Int)<(s.length:Int))=false:=df;have K:decide (i<s.length)=false:=df;rw[R4 om]at hm ⊢;have j:PU s (.Bj [cm (AnE s:Int),.B3]):=.inl ⟨hm,rfl⟩;generalize (AnE s:Int)=a at *
  rw[BeQ];clear hm;refine wk ?_;exact zr Ex j
 |u+1,i,n,f0,hu,hn,hm=>by
  obtain⟨n1,rfl⟩:=mg n;have C:=Bf0 k M h B (t9:=t9) u (i+1) n1;have I:decide ((i:Int)<(s.length:Int))=true:=dt;have K:decide (i<s.length)=true:=dt;obtain⟨c,A⟩:∃c,s[i]?=some c:=⟨_,Yq om⟩;obtain⟨c1,c2⟩:=k c (Vl A);obtain⟨b1,W,el⟩:=R0.elem (f:=AiS) (s:=1) (λ_=>rfl) B A;have x1:=el.ia;have G:=el.part 0 _ rfl;rw[Vw]at G;have z:=Bel s i;have y:=Bel s (i+1);have p:AnE (s.take (i+1))=AnE (s.take i)*10+(c-48):=by rw[Ga,A];exact A3l _ _
  obtain⟨a,ha⟩:∃a:Int,a=(AnE (s.take i):Int):=⟨_,rfl⟩;obtain⟨d,hd⟩:∃d:Int,d=((c-48:Nat):Int):=⟨_,rfl⟩;obtain⟨t,o⟩:∃d:Int,d=(c:Int):=⟨_,rfl⟩;rw[<- o]at G;have y0:∀g:H,Aj prog .eql 5 true (ch t) (ch 95) g=.ok ct g:=λg=>by rw[eq8,Yg om]
  have ya:∀g:H,Aj prog .leq 5 true (ch 48) (ch t) g=.ok ux g:=λg=>by show OR.ok (.bool (Ib (ilt t 48))) g=_;rw[Il,Yg om];rfl
  have T:∀g:H,Aj prog .leq 5 true (ch t) (ch 57) g=.ok ux g:=λg=>by show OR.ok (.bool (Ib (ilt 57 t))) g=_;rw[Il,Yg om];rfl
  have S:∀g:H,Aj prog .sub 5 true (ch t) (ch 48) g=.ok (ch d) g:=λg=>by show OR.ok (ch (E1 .u8 (t-48))) g=_;rw[show t-48=d by omega,Bk7 d om om]
  have y2:∀g:H,Aj prog .geq 5 false (ch d) (ch 10) g=.ok ct g:=λg=>by show OR.ok (.bool (Ib (ilt d 10))) g=_;rw[Il,Ws om];rfl
  have U:∀g:H,A6r .u64 (ch d) g=.ok (cm d) g:=λg=>by rw[Awb,wrap64 d om om]
  have Y:∀g:H,A6r .u8 (iI 10) g=.ok (ch 10) g:=λg=>by rw[Awb,Bk7 10 om om]
  have V:∀g:H,A6r .u64 (iI 10) g=.ok (cm 10) g:=λg=>by rw[Awb,wrap64 10 om om]
  have m:(AnE (s.take (i+1)):Int)=a*10+d:=by rw[p,ha,hd];omega
  have X:∀g:H,Aj prog .geq 134 false (cm a) (cm 1844674407370955162) g=.ok (.bool (decide (1844674407370955162<=a))) g:=λg=>by
   show OR.ok (.bool (Ib (ilt a 1844674407370955162))) g=_;rw[Il];by_cases q:a<1844674407370955162
   .rw[Ws q,Yg om];rfl
   .rw[Yg q,Ws om];rfl
  rw[<- ha]at hm ⊢;rw[BeQ];by_cases E:1844674407370955162<=a
  .have P:decide (1844674407370955162<=a)=true:=Ws E;have j:PU s (.Bj [cm m64,.I6 278 (iI 1)]):=.inr ⟨by show(18446744073709551615:Int)<_;omega,rfl⟩
   clear el A C m p z y ha hd o B k;refine wk ?_;rw[A6z];refine wk ?_;exact zr Ex j
  .have P:decide (1844674407370955162<=a)=false:=Yg E;have Q:∀g:H,Aj prog .mul 134 false (cm a) (cm 10) g=.ok (cm (a*10)) g:=λg=>by show OR.ok (cm (E1 .u64 (a*10))) g=_;rw[wrap64 _ om om]
   by_cases D:a*10+d<=18446744073709551615
   .have L:∀g:H,Aj prog .add 134 false (cm (a*10)) (cm d) g=.ok (cm (a*10+d)) g:=λg=>by show OR.ok (cm (E1 .u64 (a*10+d))) g=_;rw[wrap64 _ om om]
    have O:∀g:H,Aj prog .lss 134 false (cm (a*10+d)) (cm (a*10)) g=.ok ct g:=λg=>by show OR.ok (.bool (ilt (a*10+d) (a*10))) g=_;rw[Il,Yg om]
    have J:∀g:H,Aj prog .gtr 134 false (cm (a*10+d)) (cm 18446744073709551615) g=.ok ct g:=λg=>by show OR.ok (.bool (ilt 18446744073709551615 (a*10+d))) g=_;rw[Il,Yg om]
    rw[m]at C;generalize a*10+d=e at *;have go:=λf0=>C f0 om om D;replace go:=(hU go);have R:0<=(i:Int):=by omega
    have r2:(i:Int)<=2000:=by omega
    clear el A C m p z y ha hd o B k;refine wk ?_;rw[A6z];refine wk ?_;rw[Blr];refine wk ?_;rw[show(i:Int)+1=((i+1:Nat):Int)by omega];exact(gw go) _
   .have L:∀g:H,Aj prog .add 134 false (cm (a*10)) (cm d) g=.ok (cm (a*10+d-18446744073709551616)) g:=λg=>by show OR.ok (cm (E1 .u64 (a*10+d))) g=_;rw[BoD _ om om]
    have O:∀g:H,Aj prog .lss 134 false (cm (a*10+d-18446744073709551616)) (cm (a*10)) g=.ok ux g:=λg=>by show OR.ok (.bool (ilt (a*10+d-18446744073709551616) (a*10))) g=_;rw[Il,Ws om]
    have j:PU s (.Bj [cm m64,.I6 278 (iI 1)]):=.inr ⟨by show(18446744073709551615:Int)<_;omega,rfl⟩;clear el A C m p z y ha hd o B k;refine wk ?_;rw[A6z];refine wk ?_;exact zr Ex j
def BsQ:=∀s a h,a=0\/a=64->s≠[]->(∀c∈s,48<=c/\c<=57)->s.length<=2000->Ah h (λr _=>PU s r) (Z.call 197 [.str s,iI 10,iI a] h)
def Cbm(u:2001<=N)(g:∀c∈s,48<=c/\c<=57)(k:s.length<=2000){t9}{f0}:Ah h (λr _=>PU s r) (A6x Z N (.str s) (iI 10) (iI 64) ct t9 f0 h):=by
 have o:=BkF 5 (s:=s) om;have t:∀a,A6r .u64 (iI 64) a=.ok (.int _ 64) _:=λa=>rfl;have q:∀a,Aj prog .shl 134 true (cm 1) (cm 64) a=.ok (.int _ 0) _:=λa=>rfl;have p:∀a,Aj prog .sub 134 true (cm 0) (cm 1) a=.ok ..:=λa=>rfl;rw[Blp];refine wk ?_;rw[Blq];refine wk ?_;have d:R0 1 _ ((h.new (.Fb 0)).new (.cells (s.flatMap _) 5 (.Gt h.nx))) (.sl _ 0 _ _ 1 false) s:=
  .inr ⟨_,0,_,_,_,rfl,Ye _,⟨by simp,5,_,Bf _,trivial⟩,by rw[Aa9 (f:=AiS) λ_=>rfl];simp,by rw[Cp,R4 (by rw[Aa9 (s:=1) λ_=>rfl];omega)]⟩;obtain⟨v,h2,e1,m,j⟩:=(show ∀v h d f0,_ from λv h (d:R0 1 _ h v s) f0=>Bf0 Z N g k h d s.length 0 N f0 om om (by simp[AnE])) _ _ d _;exact⟨v,_,e1,(((Ai.refl h).new _).new _).trans m,j⟩
def Ccj(g:2001<=N){d}(hb:d=0\/d=64)(j:s≠[])(a:∀c∈s,48<=c/\c<=57)(f:s.length<=2000):Ah h (λr _=>PU s r) (ml Z N 197 [.str s,iI 10,iI d] h):=by
 have go:=λt9 f0=>Cbm Z N (h:=h) g a f (t9:=t9) (f0:=f0);rw[B8W];refine wk ?_;rw[Blo];rcases hb with rfl|rfl;. exact wk ((gw go) _ _)
 .exact wk ((gw go) _ _)
variable {hd:H}{v:AV}{ls:uw}
def BsP:Prop:=∀(s:uw) (h:H),s≠[]->Dgs s->s.length<=18->Ah h (λr _=>r=.Bj [cm (AnE s:Int),.B3]) (Z.call 171 [.str s,iI 10,iI 64] h)
def CbW(g:BsQ Z)(m:s≠[])(a:Dgs s)(k:s.length<=18):Ah h (λr _=>r=.Bj [cm (AnE s:Int),.B3]) (ml Z N 171 [.str s,iI 10,iI 64] h):=by
 have o:AnE s<=1000000000000000000:=Xy (T8 (AxX _ s rfl a)) (aq (show 0<10 by decide) k)
 have p:∀d:H,Aj prog .neq 224 true .B3 .B3 d=.ok ct d:=λd=>by kernel_rfl
 rw[B8J];refine Fj (g s 64 h (.inr rfl) m a om) λv1 h1 e1 l1 j f=>?_;clear j;rcases f with⟨_,rfl⟩|⟨f,_⟩
 .refine wk ?_;exact zr Ex rfl
 .have q:(18446744073709551615:Int)<AnE s:=f;omega
def Bj5(r:BsP Z){lo e n:Nat}{f0:L2}{Q:AV->H->Prop}{sub:uw}(D:0<e)(t:e<=s.length)(M:s.length<=10)(Kf:lo=e-9)(d:(s.drop lo).take (e-lo)=sub)(z:sub≠[])(f:Dgs sub)(j:sub.length<=18)
 (g:Ai h hd) (o:Fm 1 h.nx 134 hd v ls.length (ls.flatMap Abb)) (hls:ls.length<=10)
 (go:∀(h1:H) (v':AV) (f0:L2),Ai h h1->Fm 1 h.nx 134 h1 v' (ls++[AnE sub]).length ((ls++[AnE sub]).flatMap Abb)->Ah h Q (AvQ Z N n (.str s) v' (iI ((e:Int)-9)) f0 h1)):
 Ah h Q (AvQ Z N (n+1) (.str s) v (iI (e:Int)) f0 hd):=by
 have E:=λa=>r sub a z f j;have V:∀a:H,mm false [iI 0,iI ((e:Int)-9)] a=.ok (iI (lo:Int)) a:=λa=>by
  show(match AfO false .i64 0 [iI ((e:Int)-9)]with|some (k,n)=>OR.ok (.int k n) a|none=>.bad 129)=_;show(match AfO false .i64 (@Bool.rec (λ_=>Int) 0 ((e:Int)-9) (ilt 0 ((e:Int)-9))) []with|some (k,n)=>OR.ok (.int k n) a|none=>.bad 129)=_;rw[Il];by_cases hq:(0:Int)<(e:Int)-9
  .rw[Ws hq];show OR.ok (AV.int .i64 ((e:Int)-9)) a=_;rw[show((e:Int)-9)=(lo:Int)by omega]
  .rw[Yg hq];show OR.ok (AV.int .i64 0) a=_;rw[show((lo:Int))=0 by omega]
 have T:∀a:H,xSl prog 9 (.str s) (some (iI (lo:Int))) (some (iI (e:Int))) a=.ok (.str sub) a:=λa=>by rw[Aji xi9 om om,d]
 have P:decide ((0:Int)<(e:Int))=true:=dt;have J:decide (0<e)=true:=Ws D;have R:0<=(e:Int):=by omega
 have U:(e:Int)<=10:=by omega
 have S:∀a:H,Aj prog .sub 3 true (iI (e:Int)) (iI 9) a=.ok (iI ((e:Int)-9)) a:=λa=>by show OR.ok (iI (E1 .i64 ((e:Int)-9))) a=_;rw[lw.2.2 _ om om]
 generalize (AnE sub)=m at *
 replace go:=(hU go)
 generalize ((e:Int)-9)=e9 at *
 rw[BeH];clear M Kf d t D z f j;refine wk ?_;refine Fj (E _) λv1 h2 B l2 q u=>?_;subst u;have g2:=g.trans B;have G:=o.gr B;clear E q o;refine wk ?_;have C:=Ai.new (Ai.refl h2) (cd [cm (m:Int)] 134);have L:=G.gr C;have O:Sl 1 (h2.new (cd [cm (m:Int)] 134)) (.sl h2.nx 0 1 1 1 true) 1 [cm (m:Int)]:=Sl.lit (h:=h2) (Bf _) rfl rfl;have p:h.nx<=h2.nx+1:=Nat.le_succ_of_le g2.lo;obtain⟨v',h',y,u,A,K,I⟩:=Fm.AbQ (bytes:=8) (lo:=h.nx) L O.src (by rfl) om (by rfl) p;refine Ey y ?_;have g3:=A h (Ye _) (g2.trans C);clear y u A I;refine wk ?_;refine(show ∀(h1:H) (v':AV) (f0:L2),Ai h h1->Fm 1 h.nx 134 h1 v' (ls++[m]).length ((ls++[m]).flatMap Abb)->Ah h Q (AvQ Z N n (.str s) v' (iI e9) f0 h1)from go) _ _ _ g3 ?_
 rw[Xi,V5];exact K
def Brn(d:BcD Z){n:Nat}{e:Int}{f0:L2}(k:e<=0)(g:Ai h hd)(o:Fm 1 h.nx 134 hd v ls.length (ls.flatMap Abb))(a:ls.length<=10)(f:∀x∈ls,x<1000000000000000000):
 Ah h (λr h1=>NtS h1 r (AxV ls)) (AvQ Z N (n+1) (.str s) v (iI e) f0 hd):=by
 have m:=d v ls hd o.sl a f;have t:decide ((0:Int)<e)=false:=df;rw[BeH];clear k o f;refine wk ?_;refine Fj m λv1 h2 q l2 j p=>?_;exact zr (g.trans q) p.1
def lbN n:=if n=0 then[]else if n<1000000000 then[n]else[n%1000000000,n/1000000000]
def A87{n}(h:n<1000000000):AxV [n]=lbN n:=by
 unfold lbN;show(if[n].getLast?=some 0 then _ else[n])=_;by_cases h0:n=0;. subst h0;rfl
 grind
def Bl0:Prop:=∀(n:Int) (h:H),Num n->Ah h (λr h1=>NtS h1 r (lbN n.toNat)) (Z.call 148 [.str (V8 n)] h)
def CbL(G:10<N)(a:BsP Z)(d:BcD Z){n:Int}(hn:Num n):Ah h (λr h1=>NtS h1 r (lbN n.toNat)) (ml Z N 148 [.str (V8 n)] h):=by
 obtain⟨d1,d2,d3,d4⟩:=AlG hn;obtain⟨_,E,_,_,_⟩:=Alj hn.1 hn.2;have p:=hn.2;have l0:0<(V8 n).length:=Kd.2 d1;obtain⟨m,rfl⟩:∃m,N=m+3:=⟨N-3,by omega⟩;rw[B89];refine Ey (A63 _) ?_;have u:n.toNat=AnE (V8 n):=by omega
 by_cases q:(V8 n).length<=9
 .have t:AnE (V8 n)<1000000000:=Yy (AxX _ _ rfl d2) (aq (show 0<10 by decide) q)
  refine Bj5 Z (m+3) a (sub:=V8 n) (ls:=[]) (lo:=0) l0 (Ye _) d3 om (by rw[Cp,ew,cg]) d1 d2 om (Ai.refl h) (Fm.nil ..) fe λh1 v' f0 g1 g=>?_;rw[u,<- A87 t];exact Brn Z (m+3) d om g1 g (by simp) (λx z=>by rw[T0.1 z];omega)
 .have f:n=1000000000:=by
   rcases Aqg n.toNat om with⟨k,j⟩|⟨D,k,C,A,B,j⟩
   .exfalso;have:(V8 n).length=1:=by show(Ao2 (nd n.toNat) n.toNat).length=1;rw[Alh,j]
    omega
   .have:(V8 n).length=D+1:=by show(Ao2 (nd n.toNat) n.toNat).length=_;rw[Alh,k]
    obtain rfl:D=9:=by omega
    have:10^9=1000000000:=by decide
    omega
  subst f;have o:Nm.V8 1000000000=[49,48,48,48,48,48,48,48,48,48]:=by decide
  rw[o];refine Bj5 Z (m+3) a (sub:=uv) (ls:=[]) (lo:=1) (e:=10) fe fe fe fe fe fe fe fe (Ai.refl h) (Fm.nil ..) fe λh1 v' f0 g1 g=>?_;refine Bj5 Z (m+3) a (sub:=[49]) (ls:=[0]) (lo:=0) (e:=1) fe fe fe fe fe fe fe fe g1 g fe λh2 v2 f2 g2 y=>?_;exact Brn Z (m+3) d (ls:=[0,1]) fe g2 y fe fe
def Bh2:Prop:=∀(v:AV) (ls:uw) (h:H),NtS h v ls->Ah h (λr _=>r=.bool (decide (ls=[1]))) (Z.call 115 [v] h)
def CbN(k:NtS h v ls):Ah h (λr _=>r=.bool (decide (ls=[1]))) (ml Z N 115 [v] h):=by
 have d:∀a:H,Fo v a=.ok (iI (ls.length:Int)) a:=λa=>Sl.Gs (h:=h) k;have wt:∀(w:Bool) (r:OR) (a:H),Ad (.Bj []) w r a=.ok (.Bj []) a:=λw r a=>A0V [] w r a;rw[B7x];rcases ls with _|⟨c,_|⟨b,r⟩⟩
 rotate_left
 .obtain⟨b1,p,el⟩:=R0.elem (f:=Abb) (s:=1) (i:=0) (x:=c) (λ_=>rfl) k rfl;have u:∀a:H,Gc 1 v (iI 0) a=.ok (.ptr b1 p) a:=el.ia;have o:=el.part 0 _ rfl;rw[Vw]at o;clear el;have t:∀a:H,Aj prog .eql 134 true (cm (c:Int)) (cm 1) a=.ok (.bool (decide (([c]:uw)=[1]))) a:=λa=>by
   show OR.ok (.bool (ieq (c:Int) 1)) a=_;rw[X7];by_cases j:c=1
   .subst j;rfl
   .rw[Yg om,Yg (by simpa using j)]
  replace d:∀a:H,Fo v a=.ok (iI 1) a:=d;generalize decide (([c]:uw)=[1])=B at *
  clear k;refine wk ?_;exact zr Ex rfl
 rotate_left
 .replace d:∀a:H,Fo v a=.ok (iI 0) a:=d;obtain⟨L,g⟩:∃L:Int,L=0:=⟨_,rfl⟩;rw[<- g]at d;have q:decide (L=1)=false:=by rw[g];rfl
  clear g;have e1:decide (([]:uw)=[1])=false:=rfl;rw[e1];clear k;refine wk ?_;exact zr Ex rfl
 .have e1:decide ((c::b::r)=[1])=false:=Yg (by simp);have m:decide (((c::b::r).length:Int)=1)=false:=Yg (by simp;omega);obtain⟨L,g⟩:∃L:Int,L=((c::b::r).length:Int):=⟨_,rfl⟩;rw[<- g]at d m;rw[e1];clear k g;refine wk ?_;exact zr Ex rfl
def B0E:Prop:=∀(v:AV) (ls:uw) (h:H),NtS h v ls->Ah h (λr _=>r=.bool (decide (ls=[]))) (Z.call 114 [v] h)
def CbZ(k:NtS h v ls):Ah h (λr _=>r=.bool (decide (ls=[]))) (ml Z N 114 [v] h):=by
 have d:∀a:H,Fo v a=.ok (iI (ls.length:Int)) a:=λa=>Sl.Gs (h:=h) k;have e1:decide (ls=[])=decide ((ls.length:Int)=0):=by cases ls<;>simp;omega
 rw[B8L,e1];generalize (ls.length:Int)=L at *
 clear k e1;refine wk ?_;exact zr Ex rfl
variable {c l:Nat}{F:AO}
def Brb{Q R}{K}{args}(d:Ah H0 R (Z.round l args hd))(a:∀v h1,R v h1->Ah H0 Q (K v h1)):Ah H0 Q (Aa (cvV (.fn (.yield l) [] []) args prog Z hd) K):=by have⟨v,_,h2,_,f⟩:=d;exact Ey (show cvV _ _ _ Z _=_ from h2) (a v _ f)
variable {h0 h2:H}{bs:uw}
structure PS(bs:List Nat)(h hh:H):Prop where
 lo:h.nx<=hh.nx
 Cf:∀x,x<h.nx->x ∉ bs->hh.m.get x=h.m.get x
 lg:∀x∈hh.lg,x∈h.lg\/x∈bs\/h.nx<=x
def PS.refl bs h:PS bs h h:=⟨Ye _,λ_ _ _=>rfl,λ_=>.inl⟩
def PS.gr(k:PS bs h h1)(g:Ai h1 h2):PS bs h h2:=⟨Xy k.lo g.lo,λx a hb=>(g.Cf x (Yy a k.lo)).trans (k.Cf x a hb),λx a=>by
 rcases g.lg x a with d|d
 .exact k.lg x d
 .exact .inr (.inr (Xy k.lo d))⟩
def PS.put(k:PS bs h h1)(o:AO)(hb:b∈bs):PS bs h (h1.put b o):=⟨k.lo,λx a hn=>by
 rw[Aq _ _ _ (by rintro rfl;exact hn hb)];exact k.Cf x a hn,λx a=>by
 rcases Wf.1 a with rfl|a
 .exact .inr (.inl hb)
 .exact k.lg x a⟩
def PS.rl{L}(k:PS bs h h1)(a:∀x∈L,x∈h.lg\/x∈bs\/h.nx<=x):PS bs h (Be L h1):=⟨k.lo,k.Cf,a⟩
def PS.nl(k:PS bs h h1):PS bs h (Ab h1):=⟨k.lo,k.Cf,λx a=>by cases a⟩
def PS.toG(g:Ai h0 h)(hb:∀b∈bs,h0.nx<=b)(k:PS bs h h1):Ai h0 h1:=⟨Xy g.lo k.lo,λx d=>(k.Cf x (Yy d g.lo) λe=>by have:=hb x e;omega).trans (g.Cf x d),λx d=>by
 rcases k.lg x d with a|a|a
 .exact g.lg x a
 .exact .inr (hb x a)
 .exact .inr (Xy g.lo a)⟩
def PS.trans(k:PS bs h h1)(f:PS bs h1 h2):PS bs h h2:=⟨Xy k.lo f.lo,λx d hb=>(f.Cf x (Yy d k.lo) hb).trans (k.Cf x d hb),λx d=>by
 rcases f.lg x d with a|a|a;. exact k.lg x a
 .grind
 .exact .inr (.inr (Xy k.lo a))⟩
def PS.cont{cs:uz}{e:TypeId}(k:PS bs h h1)(d:h.m.get b=cd cs e)(a:b<h.nx)(hb:b ∉ bs):Nv h1 b cs:=⟨Yy a k.lo,e,.exact,(k.Cf b a hb).trans d,trivial⟩
def Ao6{d a:H}(e1:a.m=d.m)(f:a.nx=d.nx):Bi d a:=⟨by rw[f];exact Ye _,λb cs o=>by
 obtain⟨q0,e,g,k,j⟩:=o;refine⟨by rw[f];exact q0,e,g,by rw[e1];exact k,?_⟩;cases g with
 |Cf c st=>exact⟨by rw[f];exact j.1,by rw[e1];exact j.2⟩
 |_=>trivial⟩
def A0u(k:NtS h v ls)(e:TypeId)(a:H):Oy e v a=.ok (.ptr a.nx 0) (a.new (cd [v] e)):=by have d:Sl 1 h v ls.length (ls.flatMap Abb):=k;rcases d with⟨_,_,rfl⟩|⟨b,off,cap,ex,cs,rfl,_⟩<;>rfl
def BfL:Prop:=∀(v:AV) (ls:uw) (h:H),NtS h v ls->Ah h (λr h1=>r=.fn (.func 159) [] [.ptr h.nx 0]/\h1=h.new (cd [v] 93)) (Z.call 121 [v] h)
def BfM(Z cr:Ac):Prop:=∀(ls:uw) (v:AV) (c l:Nat) (a:Nat->H->Prop) (d:H->Prop) (h:H),ls.length<=10->(∀i f,a (i+1) f->Nv f c [v]/\NtS f v ls) ->
 (∀(i x:Nat) (f:H),ls[i]?=some x->a (i+1) f->Ah H0 (λr h'=>(r=ux/\a i h')\/(r=ct/\d h')) (cr.round l [iI (i:Int),cm (x:Int)] f))->a ls.length h->Nv h c [v]/\NtS h v ls ->
 Ah H0 (λr h'=>r=.Bj []/\(a 0 h'\/d h')) (Z.call 159 [.fn (.yield l) [] [],.ptr c 0] h)
def Bf1{d:Nat->H->Prop}{g:H->Prop}(A:ls.length<=10)(j:∀i a,d (i+1) a->Nv a c [v]/\NtS a v ls)
 (hr:∀(i x:Nat) (a:H),ls[i]?=some x->d (i+1) a->Ah H0 (λr h'=>(r=ux/\d i h')\/(r=ct/\g h')) (Z.round l [iI (i:Int),cm (x:Int)] a)):
 ∀(i n:Nat) (hd:H) (f0:L2),i<=ls.length->i<n->d i hd->Ah H0 (λr h'=>r=.Bj []/\(d 0 h'\/g h')) (A6T Z N n (.fn (.yield l) [] []) (.ptr c 0) (iI ((i:Int)-1)) f0 hd)
 |0,n,hd,f0,hi,hn,k=>by
  obtain⟨n1,rfl⟩:=mg n;rw[BeS];clear hr j;refine Ey (show Aj prog .geq 3 true (iI (((0:Nat):Int)-1)) (iI 0) hd=.ok ct hd from by kernel_rfl) ?_
  refine Ae5 ?_;exact Lo ⟨Qt _,λb hb=>absurd hb (dx b),λx _=>.inr (Qt x)⟩ ⟨rfl,.inl k⟩
 |i+1,n,hd,f0,hi,hn,k=>by
  obtain⟨n1,rfl⟩:=mg n;have z:=Bf1 A j hr i n1;obtain⟨x,u⟩:∃x,ls[i]?=some x:=⟨_,Yq om⟩;have p:=hr i x hd u k;obtain⟨c0,q⟩:=j _ _ k;obtain⟨b1,G,el⟩:=R0.elem (f:=Abb) (s:=1) (λ_=>rfl) q u;have C:=c0.one (o:=0) rfl;have E:=el.ia;have t:=el.part 0 _ rfl;rw[Vw]at t;have B:∀a:H,Aj prog .sub 3 true (iI (i:Int)) (iI 1) a=.ok (iI ((i:Int)-1)) a:=λa=>by show OR.ok (iI (E1 .i64 ((i:Int)-1))) a=_;rw[lw.2.2 _ om om]
  have y:∀a:H,Aj prog .geq 3 true (iI (i:Int)) (iI 0) a=.ok ux a:=λa=>by show OR.ok (.bool (Ib (ilt (i:Int) 0))) a=_;rw[Il,Yg om];rfl
  rw[show(((i+1:Nat):Int)-1)=(i:Int)by omega,BeS]
  clear el q c0 hr j k;refine Ey (y _) (Zx ?_);refine Ey (C hd (Bi.refl _)) (Ey (E _) (Ey (t hd (Bi.refl _)) ?_));refine Brb Z p λv1 h2 D=>?_;rcases D with⟨rfl,m⟩|⟨rfl,m⟩
  .refine Ey (v:=ct) rfl (Ae5 ?_);refine Ey (B _) ?_;exact z _ _ om om m
  .refine Ey (v:=ux) rfl (Zx ?_);exact Lo ⟨Qt _,λb hb=>absurd hb (dx b),λx _=>.inr (Qt x)⟩ ⟨rfl,.inr m⟩
def Ccn(u:11<N):∀(ls:uw) (v:AV) (c l:Nat) (a:Nat->H->Prop) (f:H->Prop) (h:H),ls.length<=10->(∀i d,a (i+1) d->Nv d c [v]/\NtS d v ls) ->
 (∀(i x:Nat) (d:H),ls[i]?=some x->a (i+1) d->Ah H0 (λr h'=>(r=ux/\a i h')\/(r=ct/\f h')) (Z.round l [iI (i:Int),cm (x:Int)] d))->a ls.length h->Nv h c [v]/\NtS h v ls ->
 Ah H0 (λr h'=>r=.Bj []/\(a 0 h'\/f h')) (ml Z N 159 [.fn (.yield l) [] [],.ptr c 0] h):=by
 intro ls v c l a f h j q p k ⟨c0,g⟩;have t:=c0.one (o:=0) rfl;have m:∀d:H,Aj prog .sub 3 true (iI (ls.length:Int)) (iI 1) d=.ok (iI ((ls.length:Int)-1)) d:=λd=>by show OR.ok (iI (E1 .i64 ((ls.length:Int)-1))) d=_;rw[lw.2.2 _ om om]
 rw[B9e];refine Ey (t h (Bi.refl _)) (Ey (Sl.Gs (h:=h) g) (Ey (m _) ?_));exact Bf1 Z N j q p ls.length N h _ (Ye _) om k
def Cca(k:NtS h v ls):Ah h (λr h1=>r=.fn (.func 159) [] [.ptr h.nx 0]/\h1=h.new (cd [v] 93)) (ml Z N 121 [v] h):=by rw[B8M];refine Ey (A0u k 93 h) ?_;exact Lo ((Ai.refl h).new _) ⟨rfl,rfl⟩
def Aoq(a b:Int):=if a<b then -1 else if b<a then 1 else 0
def B07:Prop:=∀(a b:Int) (h:H),Ah h (λr _=>r=iI (Aoq a b)) (Z.call 120 [iI a,iI b] h)
def B0A:Prop:=∀(a:Int) (h:H),Ah h (λr _=>r=ct) (Z.call 158 [iI a] h)
def CbI(a:Int):Ah h (λr _=>r=ct) (ml Z N 158 [iI a] h):=by
 rw[A7F];refine Ey (v:=ct) (show OR.ok (.bool (Ib (ieq a a))) h=_ from by rw[X7,Ws rfl];rfl) ?_
 exact Lo (Ai.refl h) rfl
def CbF(d:B0A Z)(a b:Int):Ah h (λr _=>r=iI (Aoq a b)) (ml Z N 120 [iI a,iI b] h):=by
 rw[A78];refine Fj (d a h) λv1 h1 e1 l1 g o=>?_;subst o;refine Fj (d b h1) λv2 h2 q l2 f p=>?_;subst p;clear g f;unfold Aoq;by_cases k:a<b
 .have j:decide (a<b)=true:=Ws k;rw[Xo k];clear k;refine wk ?_;exact zr Ex rfl
 .have j:decide (a<b)=false:=Yg k;rw[X2 k];clear k;by_cases k:b<a
  .have m:decide (b<a)=true:=Ws k;rw[Xo k];clear k;refine wk ?_;exact zr Ex rfl
  .have m:decide (b<a)=false:=Yg k;rw[X2 k];clear k;refine wk ?_;exact zr Ex rfl
def B0F:Prop:=∀(a b:Int) (h:H),Ah h (λr _=>r=iI (Aoq a b)) (Z.call 122 [cm a,cm b] h)
def B0M:Prop:=∀(a:Int) (h:H),Ah h (λr _=>r=ct) (Z.call 160 [cm a] h)
def Cco(a:Int):Ah h (λr _=>r=ct) (ml Z N 160 [cm a] h):=by
 rw[B9f];refine Ey (v:=ct) (show OR.ok (.bool (Ib (ieq a a))) h=_ from by rw[X7,Ws rfl];rfl) ?_
 exact Lo (Ai.refl h) rfl
def Cce(f:B0M Z)(a b:Int):Ah h (λr _=>r=iI (Aoq a b)) (ml Z N 122 [cm a,cm b] h):=by
 have u:∀(a b:Int) (d:H),Aj prog .lss 134 false (cm a) (cm b) d=.ok (.bool (decide (a<b))) d:=λa b d=>by show OR.ok (.bool (ilt a b)) d=_;rw[Il]
 have t:∀(a b:Int) (d:H),Aj prog .gtr 134 false (cm a) (cm b) d=.ok (.bool (decide (b<a))) d:=λa b d=>by show OR.ok (.bool (ilt b a)) d=_;rw[Il]
 rw[B8N];refine Fj (f a h) λv1 h1 e1 l1 g p=>?_;subst p;refine Fj (f b h1) λv2 h2 y l2 j q=>?_;subst q;clear g j;unfold Aoq;by_cases k:a<b
 .have m:decide (a<b)=true:=Ws k;rw[Xo k];clear k;refine wk ?_;exact zr Ex rfl
 .have m:decide (a<b)=false:=Yg k;rw[X2 k];clear k;by_cases k:b<a
  .have o:decide (b<a)=true:=Ws k;rw[Xo k];clear k;refine wk ?_;exact zr Ex rfl
  .have o:decide (b<a)=false:=Yg k;rw[X2 k];clear k;refine wk ?_;exact zr Ex rfl
def AoH k:kEq k k=true:=by cases k<;>rfl
def AtC k n(h1:k.min<=n)(h2:n<=k.max):E1 k n=n:=by unfold E1 fits;rw[Il,Il,Yg om,Yg om]
def Az9{k}{ty}{c}(a b:Nat)(hb:b≠0) hh:Aj prog .rem ty c (.int k a) (.int k b) hh=.ok (.int k (a%b:Nat)) hh:=by show @Bool.rec _ _ ..=_;rw[AoH,X7,Yg om,<- Int.ofNat_tmod]
def Az8{k:IntKind}{ty}{c} a b(hb:b≠0)(h1:k.min<=0)(h2:(a/b:Nat)<=k.max) hh:Aj prog .quo ty c (.int k a) (.int k b) hh=.ok (.int k (a/b:Nat)) hh:=by show @Bool.rec _ _ ..=_;rw[AoH,X7,Yg om,<- Int.ofNat_tdiv,AtC k _ (eu h1 (bj _)) h2]
def At6{k:IntKind}{ty}{c} a b(h1:k.min<=0)(h2:(a*b:Nat)<=k.max) hh:Aj prog .mul ty c (.int k a) (.int k b) hh=.ok (.int k (a*b:Nat)) hh:=by show @Bool.rec _ _ ..=_;rw[AoH,show Int.mul ..=(a*b:Nat)from(Int.natCast_mul a b).symm,AtC k _ (eu h1 (bj _)) h2]
def Am1{k:IntKind}{ty}{c} a b(h1:k.min<=0)(h2:(a+b:Nat)<=k.max) hh:Aj prog .add ty c (.int k a) (.int k b) hh=.ok (.int k (a+b:Nat)) hh:=by show @Bool.rec _ _ ..=_;rw[AoH,show Int.add ..=(a+b:Nat)from(Int.natCast_add a b).symm,AtC k _ (eu h1 (bj _)) h2]
def Beg{k}{ty}{c}(a b:Nat) hh:Aj prog .geq ty c (.int k a) (.int k b) hh=.ok (.bool (decide (b<=a))) hh:=by
 show @Bool.rec (λ_=>OR) _ (.ok (.bool (Ib _)) _) _=_;rw[AoH,Il];by_cases d:b<=a;. rw[Yg om,Ws d];rfl
 .rw[Ws om,Yg d];rfl
def A9k{k d:IntKind}(a:Nat)(h1:d.min<=0)(h2:a<=d.max) hh:A6r d (.int k a) hh=.ok (.int d a) hh:=by rw[Awb,AtC _ _ (eu h1 (bj _)) h2]
def A9c{b i}{cs}{e}{x}(d:h.m.get b=cd cs e)(hi:i<cs.length)(a:Ge x=true/\cellsOf x=some [x]):A4 1 (.ptr b i) x h=.ok (.Bj []) (h.put b (cd (cs.set i x) e)):=by simp[Adt,a.2,AiA,Auc,Awo,a.1,Bool.and_self,Y7,Gx,Rx,Qg,Jr];simp[d,lw,(by rw[Tz,Xo hi]:cs.set i x=cs.take i++x::cs.drop _),hi];rw[Xo om];rfl
end Go.Proofs
namespace Go.Nm
open Go.Ev
def B34:∀m<100,Tdd[m*2]?=some (48+m/10)/\Tdd[m*2+1]?=some (48+m%10):=by decide +kernel
abbrev u8C(c:Nat):AV:=ch (c:Int)
def Dst(pr post:uz)(ds:uw)(cs:uz)(i v:Nat):Prop:=∃mid low,cs=pr++(mid++(low.map u8C++post))/\mid.length=i/\Ao2 i v++low=ds
def Att{α:Type}(a b:List α) i x:(a++b).set (a.length+i) x=a++b.set i x:=by simp
def Dst.two{pr post:uz}{ds:uw}{cs:uz}{i v:Nat}(h:Dst pr post ds cs (i+2) v):Dst pr post ds ((cs.set (pr.length+(i+1)) (u8C (48+v%100%10))).set (pr.length+i) (u8C (48+v%100/10))) i (v/100):=by
 obtain⟨mid,low,rfl,h2,f⟩:=h;obtain⟨a,x,y,rfl,d⟩:∃a x y,mid=a++[x,y]/\a.length=i:=by
  refine⟨mid.take i,mid[i]' om,mid[i+1]' om,?_,by grind⟩;conv=>lhs;rw[<- Dt i mid]
  rw[Pr _,Pr _,Ts om]
 subst d;refine⟨_,(48+v%100/10)::(48+v%100%10)::low,?_,rfl,?_⟩;. simp
 .rw[<- f];show _=Ao2 ..++[48+v/10%10]++[48+v%10]++low;grind
def Dst.one{pr post}{ds}{cs}{v}(h:Dst pr post ds cs 1 v)(d:v<10):cs.set pr.length (u8C (48+v))=pr++(ds.map u8C++post):=by
 obtain⟨mid,low,rfl,h2,a⟩:=h;obtain⟨x,rfl⟩:∃x,mid=[x]:=by cases mid with
  |nil=>grind
  |cons x r=>grind
 rw[<- a];show _=pr++(([]++[48+v%10]++low).map _++post);grind
def Dst.zero{pr post}{ds}{cs}{v}(h:Dst pr post ds cs 0 v):cs=pr++(ds.map u8C++post):=by obtain⟨mid,low,rfl,h2,a⟩:=h;rw[T5.1 h2,<- a];rfl
abbrev T36:uw:=uk
def Bw7:∀m<10,(T36.drop m).take 1=Ao2 1 m:=by decide +kernel
def Bw9:∀m<100,(Tdd.drop (m*2)).take 2=Ao2 2 m:=by decide +kernel
def Bw8:∀m<256,∃k,Lc[m]?=some k/\m<2^k/\(0<m->1<=k/\2^(k-1)<=m):=by
 have h:∀m<256,m<2^(Lc.getD m 0)/\(0<m->1<=Lc.getD m 0/\2^(Lc.getD m 0-1)<=m):=by decide +kernel
 have h2:∀m<256,Lc[m]?=some (Lc.getD m 0):=by decide +kernel
 grind
end Go.Nm
namespace Go.Proofs
open Go Go.Ev Tryz Go.Ev.Sx
open Go.Nm
attribute [local irreducible] Aa Al Af Ad
variable {j:EF->Prop}
variable (Z cx:Ac)(N:Nat)
variable {h h1 h0:H}
def AzP{k}{h}{s:List _}{i:Nat}{c}(a:s[i]?=some c):xIx prog .str (.str s) (.int k i) h=.ok (ch c) h:=by show Uv _ h=_;rw[AuO,a];rfl
def A6n{b off n cap i}{ex}(hi:i<n) hh:Gc 1 (.sl b off n cap 1 ex) (iI i) hh=.ok (.ptr b (off+i)) hh:=by rw[Agr _ _ _ _ _ _ _ _ hi,ae]
def BaH{Q:AV->H->Prop}{K:AV->AV->AV->AV->AV->AV->AV->H->OR}{b off cap i1 i2 m n:Nat}{f j d:Int}{cs:uz}{e:TypeId}{ex:Bool}(R:h.m.get b=cd cs e)(hb:b<h.nx)(X:m<100)(e1:d=(i1:Int)+f)(e2:d=(i2:Int)+j)(l1:i1<n)(l2:i2<n)(l3:n<=1000)(kk:0<=f/\f<=10/\0<=j/\j<=10)(I:off+n<=cs.length)
 (hk:∀h',PG b (cd ((cs.set (off+i1) (u8C (48+m%10))).set (off+i2) (u8C (48+m/10))) e) h h'->h'.nx=h.nx->Ah h0 Q (K (iI i1) (iI i2) (.int .u32 ((m*2+1:Nat):Int)) (u8C (48+m%10)) (u8C (48+m/10)) (.ptr b (off+i1)) (.ptr b (off+i2)) h')):
 Ah h0 Q (Aa (bo .sub 3 true (iI d) (iI f) (Ab h)) λD o=>Aa (bo .sub 3 true (iI d) (iI j) (Ab o)) λB p=>Aa (bo .add 209 true (.int .u32 ((m*2:Nat):Int)) (.int .u32 1) (Ab p)) λG t=>Aa (xIx prog .str (.str Tdd) G (Ab t)) λE q=>Aa (xIx prog .str (.str Tdd) (.int .u32 ((m*2:Nat):Int)) (Ab q)) λC u=>Aa (Gc 1 (.sl b off n cap 1 ex) D (Ab u)) λk y=>Aa (A4 1 k E (Ab y)) λO z=>Aa (Gc 1 (.sl b off n cap 1 ex) B (Ab z)) λM g=>Aa (A4 1 M C (Ab g)) λJm L=>Ff h.lg [eW 16384 16383 .all g L,eW 8192 8191 .none z g,eW 4096 2503 .all y z,eW 2048 455 .none u y,eW 1024 512 .none (Ab q) u,eZ 512 0 .none q,eW 256 192 .none t q,eW 128 64 .none (Ab p) t,eZ 64 0 .none p,eW 32 16 .none (Ab o) p,eZ 16 0 .none (Ab o),eZ 8 0 .none o,eW 4 2 .none (Ab h) o,eZ 2 0 .none (Ab h),eZ 1 0 .none h] L λA=>K D B G E C k M A):=by
 obtain⟨V,t2⟩:=B34 m X;have P:∀a:H,bo .sub 3 true (iI d) (iI f) a=.ok (iI i1) a:=λa=>by show Aj prog .sub 3 true (iI d) (iI f) a=_;rw[As3,show d-f=i1 by omega,Cr _ om om]
 have Y:∀a:H,bo .sub 3 true (iI d) (iI j) a=.ok (iI i2) a:=λa=>by show Aj prog .sub 3 true (iI d) (iI j) a=_;rw[As3,show d-j=i2 by omega,Cr _ om om]
 have S:∀a:H,bo .add 209 true (.int .u32 ((m*2:Nat):Int)) (.int .u32 1) a=.ok (.int .u32 ((m*2+1:Nat):Int)) a:=λa=>Am1 (m*2) 1 fe (by show((m*2+1:Nat):Int)<=4294967295;omega) a;have W:∀a:H,xIx prog .str (.str Tdd) (.int .u32 ((m*2+1:Nat):Int)) a=.ok (u8C (48+m%10)) a:=λa=>AzP t2;have U:∀a:H,xIx prog .str (.str Tdd) (.int .u32 ((m*2:Nat):Int)) a=.ok (u8C (48+m/10)) a:=λa=>AzP V;have T:=A9c (h:=Ab (Ab (Ab (Ab (Ab (Ab (Ab h))))))) (b:=b) (i:=off+i1) (x:=u8C (48+m%10)) R om ⟨rfl,rfl⟩;refine Ey (P _) (Ey (Y _) (Ey (S _) (Ey (W _) (Ey (U _) (Ey (A6n l1 _) (Ey T (Ey (A6n l2 _) ?_)))))));refine Ey (A9c (A2 _ _) (by rw[I8];omega) ⟨rfl,rfl⟩) ?_;refine B8 ?_ ?_;. simp(disch:=first|decide|omega|(simp only[C9];omega)) [Aw,Am,Ar,Ax,hb]
 .refine hk _ ?_ rfl;refine⟨Ye _,λc hc=>?_,λx J=>?_⟩
  .show(((h.put b _).put b _).m.get c)=(h.put b _).m.get c;by_cases r:c=b;. subst r;rw[A2,A2]
   simp_all
  .refine .inl ?_;rw[Ca]at J;simp(disch:=first|exact Ce|fail) only[Aw,Am,Bx,Ap,At,T3,Ia,B9,Dp,Dn,C9,Ca]at J;simp_all
variable {hd:H}{s:uw}{w:AV}{b l:Nat}
def A6P{st}{p}{fr}{ps}{a c}(d:h.m.get l=.loop st p fr ps a c):endRound l none h=.ok ux (h.put l (.loop 0 none fr ps a c)):=by unfold endRound;grind
def AsM{l c}{cs}{Y}(d:Nv h c cs)(hn:c≠l)(f:∀st,h.m.get l≠.Fb st):Nv (h.put l Y) c cs:=by have⟨e,k,_,a⟩:=d.cells;refine⟨d.lt,e,k,by simp[*],?_⟩;cases k with
|Cf k st=>exact⟨a.1,by rw[Aq _ _ _ λg=>f _ (by rw[<- g];exact a.2)];exact a.2⟩
|_=>trivial
def BeL{l c}{cs}{Y}(a:Nv h c cs)(d:∀cs e k,h.m.get l≠.cells cs e k)(hj:∀st,h.m.get l≠.Fb st):Nv (h.put l Y) c cs:=
 AsM a λf=>by have⟨e,k,_,_⟩:=a.cells;grind hj
variable {h2:H}{w:Nat}
def NEx(o:AO):=∀cs e,o≠cd cs e
structure WG(w:Nat)(h h1:H):Prop where
 nx:h.nx<=h1.nx
 lo:∀c,c<w->h1.m.get c=h.m.get c
 st:∀(c:Nat),c<h.nx->c≠w->Bbs (h.m.get c)->h1.m.get c=h.m.get c
 lg:∀x∈h1.lg,x∈h.lg\/x=w\/(w<x/\NEx (h.m.get x))\/h.nx<=x
def WG.ex(k:WG w h h1) c cs e(d:c<h.nx)(hn:c≠w)(a:h.m.get c=cd cs e):h1.m.get c=h.m.get c:=k.st c d hn (Boj a)
def WG.of(f:w<h.nx)(g:Ai h h1):WG w h h1:=⟨g.lo,λc a=>g.Cf c om,λc a _ _=>g.Cf c a,λx d=>(g.lg x d).imp id λq=>.inr (.inr q)⟩
def WG.refl(a:w<h.nx):WG w h h:=.of a (Ai.refl h)
def WG.trans(o:w<h.nx)(a:WG w h h1)(b:WG w h1 h2):WG w h h2:=by
 refine⟨Xy a.nx b.nx,λc g=>(b.lo c g).trans (a.lo c g),λc g hn f=>?_,λx m=>?_⟩;. have d:=a.st c g hn f;exact(b.st c (Yy g a.nx) hn (d ▸ f)).trans d
 .rcases b.lg x m with d|d|⟨d,k⟩|d;. exact a.lg x d
  .omega
  .by_cases j:h.nx<=x;. grind
   .refine .inr (.inr (.inl ⟨d,λcs e f=>k cs e ?_⟩));rw[a.ex x _ e om om f,f]
  .exact .inr (.inr (.inr (Xy a.nx d)))
def WG.put{X}(a:WG w h h1):WG w h (h1.put w X):=by
 refine⟨a.nx,λc d=>?_,λc d hn g=>?_,λx f=>?_⟩;. rw[Aq _ _ _ om];exact a.lo c d
 .rw[Aq _ _ _ hn];exact a.st c d hn g
 .rcases Wf.1 f with rfl|f;. simp
  .exact a.lg x f
def WG.own{f}(g:Ai f h)(a:WG w h h1)(m:f.nx<=w):Ai f h1:=by
 refine⟨Xy g.lo a.nx,λc j=>(a.lo c om).trans (g.Cf c j),λx k=>?_⟩;rcases a.lg x k with d|d|d|d;. exact g.lg x d
 .omega
 .omega
 .exact .inr (Xy g.lo d)
def WW w(a:H)(l:List _):=∀x∈l,x=w\/NEx (a.m.get x)
def Ash n:∀l,outside l n n=true
|[]=>rfl
|x::l=>by
 show @Bool.rec (λ_=>Bool) (outside l n n) ..=true;rw[Ash n l];by_cases a:n<=x;. rw[br a,show Nat.blt x n=false by cases hb:Nat.blt x n with
    |false=>rfl
    |true=>have:=Ew hb;omega]
 .rw[show Nat.ble n x=false by cases hb:Nat.ble n x with
   |false=>rfl
   |true=>exact absurd (Ew hb) a]
def A4Q{e}{f g}{d a}(hn:a.nx=d.nx):Jo e ⟨f,g,[],.none,d,a⟩=true:=by unfold Jo;rw[Zq _,(by rw[hn];exact Ash ..:outside _ ..=true),(rfl:clear _ _ _ ..=true)];cases M4 _<;>cases Nat.beq ..<;>rfl
def Bi0 b l(h:∀x∈l,b≠x):Ve b l=false:=by cases a:Ve b l with
|false=>rfl
|true=>exact absurd rfl (h b ((Ant b l).1 a))
def Bdz{e}{r p b off}{i}{a d}{cs}{ty}(j:WW w a e.w)(hn:d.nx=a.nx)(hb:b≠w)(g:a.m.get b=cd cs ty):Jo e ⟨r,p,[],.blk b off i,a,d⟩=true:=by
 unfold Jo;have o:clear (.blk b off i) e.w a e.h e.h1=true:=by
  show @Bool.rec (λ_=>Bool) _ ..=true;rw[Bi0 b _ λx q k=>?_,g];. rfl
  .rcases j x q with f|f;. grind
   .exact f _ _ (k ▸ g)
 rw[Zq _,(by rw[hn];exact Ash ..:outside _ ..=true),o];cases M4 _<;>cases Nat.beq ..<;>rfl
def Axi{Q}{o}{d}{lg}{k}(P:Nat->Prop)(j:∀e∈d,e.w=[]\/(∀x∈e.w,P x)/\∀a∈d,Jo e a=true)(f:∀L,(∀z∈L,z∈lg\/P z)->Ah h0 Q (k (Be L o))):Ah h0 Q (Ff lg d o k):=by
 have g:=V9 _ _ λe h1=>by
  rcases j e h1 with m|m;. simp_all
  .exact .inr (V4 e _ m.2)
 rw[So g];apply f _;have p:∀e∈d,∀x∈e.w,P x:=λe h1 x r=>by grind
 clear j g f;induction d with
 |nil=>simp_all
 |cons e es q=>intro z hz;rw[Ap]at hz;grind
def fI{e}{l}(a:j e)(b:∀x∈l,j x):∀x∈e::l,j x:=Tl.2 ⟨a,b⟩
def fN:∀x∈[],j x:=λ_ h=>nomatch h
variable (Z cx cr:Ac)(N:Nat)
variable {v w:AV}{c:Nat}{ls:uw}{bs:uw}
def BsR:Prop:=∀(n:Nat) (h:H),n<1000000000->Ah h (λr h1=>NtS h1 r (lbN n)) (Z.call 200 [cm (n:Int)] h)
def B3W(a:Nat) cc hh:Aj prog .gtr 134 cc (cm a) (cm 0) hh=.ok (.bool (decide (0<a))) hh:=by show OR.ok (.bool (ilt 0 a)) _=_;rw[Il];simp
def Ccm(u:3<N){n:Nat}(hn:n<1000000000):Ah h (λr h1=>NtS h1 r (lbN n)) (ml Z N 200 [cm (n:Int)] h):=by
 obtain⟨m,rfl⟩:∃m,N=m+2:=⟨N-2,by omega⟩;have z:∀(d:Bool) (a:H),Aj prog .gtr 134 d (cm 0) (cm 0) a=.ok ct a:=λd a=>B3W 0 d a;rw[B9c,BeR];unfold lbN;by_cases h0:n=0
 .subst h0;rw[Xo rfl];refine Ey (z _ _) (Ae5 ?_);exact Lo (Ai.refl h) (.inl ⟨rfl,rfl,rfl⟩)
 .rw[X2 h0,Xo hn];refine Ey (B3W n _ _) ?_;rw[Ws (show 0<n by omega)]
  refine Zx ?_;have f:=λa=>Az9 (k:=.u64) (ty:=134) (c:=true) n 1000000000 fe a;have g:=λa=>Az8 (k:=.u64) (ty:=134) (c:=true) n 1000000000 fe fe (by show((n/1000000000:Nat):Int)<=18446744073709551615;omega) a
  rw[dm hn]at f;rw[Ks hn]at g;refine Ey (f _) ?_;refine Ey (v:=.sl h.nx 0 1 1 1 true) (h:=h.new (cd [cm (n:Int)] 134)) rfl ?_;have o:=Ai.new (Ai.refl h) (cd [cm (n:Int)] 134);have p:Sl 1 (h.new (cd [cm (n:Int)] 134)) (.sl h.nx 0 1 1 1 true) 1 [cm (n:Int)]:=Sl.lit (h:=h) (Bf _) rfl rfl;obtain⟨v',h',q,y,t,j,A⟩:=Fm.AbQ (bytes:=8) (lo:=h.nx) (et:=134) (Fm.nil 1 h.nx 134 _) p.src (by rfl) fe (by rfl) (Pc _);refine Ey q (Ey (g _) ?_);rw[BeR];refine Ey (z _ _) (Ae5 ?_);exact Lo (t h (Ye _) o) j.sl
def qr(d:Nat):uw->uw × Nat
|[]=>([],0)
|x::l=>(((qr d l).2*1000000000+x)/d::(qr d l).1,((qr d l).2*1000000000+x)%d)
def Arc{st}{p}{fr}{p1 p2}{j bd}{g a1}(k:h.m.get l=.loop st p fr [p1,p2] j bd):Aze prog Z N false l [g,a1] h=xc j prog Z N false (A1q l) (A1r l) (λf h=>match h.m.get l with|.loop 0 o fr2 a d bd2=>xc bd prog Z N false (A1q l) (A1r l) (BaI l) f (h.put l (.loop 1 o fr2 a d bd2))|_=>.bad 203) (((fr.set Br (.map l)).set p1 g).set p2 a1) h:=by unfold Aze;rw[k];rfl
def AtV{Y:AO}(k:NtS h v ls)(a:∀cs e kk,h.m.get l≠.cells cs e kk)(hj:∀st,h.m.get l≠.Fb st):NtS (h.put l Y) v ls:=by
 have j:Sl 1 h v ls.length (ls.flatMap Abb):=k;rcases j with f|⟨b,off,cap,ex,cs,rfl,p,g,d,o⟩
 .exact .inl f
 .exact .inr ⟨b,off,cap,ex,cs,rfl,p,BeL g a hj,d,o⟩
def A2o{C}{ty}{i}{k}{n}(a:h.m.get b=cd C ty)(hi:i<C.length):A4 1 (.ptr b i) (.int k n) h=.ok (.Bj []) (h.put b (cd (C.set i (.int k n)) ty)):=by
 have e:Ng C [.int k n] i=some (C.set i (.int k n)):=by rw[Kh,Xo (by grind),Tz,Xo hi];simp
 simp_all
def BxL{I D G E p y u q t:AV}{B A bO bQ j d r x i k:Nat}{Q:uz}
 (K:hd.m.get l=.loop 0 none (AjN I D (.ptr B 0) (.ptr A 0) G E (.ptr bO 0) (.ptr j 0) p y u q t) [15,16] Aa4 AaL)
 (cA:Nv hd B [v]) (kn:NtS hd v ls) (M:ls[i]?=some x) (gD:hd.m.get A=cd [cm (d:Int)] 134) (gO:hd.m.get bO=cd [.sl bQ 0 k k 1 true] 93) (gQ:hd.m.get bQ=cd Q 134) (hQ:Q.length=k) (hi:i<k) (gR:hd.m.get j=cd [cm (r:Int)] 134)
 (hr:r<d) (J:0<d) (hd9:d<=1000000000) (hx9:x<1000000000)
 (lA:B<hd.nx/\A<hd.nx/\bO<hd.nx/\bQ<hd.nx/\j<hd.nx/\l<hd.nx) (dis:bQ≠j/\bQ≠l/\j≠l/\B≠l/\A≠l/\bO≠l/\A≠bQ/\A≠j/\bO≠bQ/\bO≠j):
 Ah H0 (λW h'=>W=ux/\PS [bQ,j,l] hd h'/\h'.m.get bQ=cd (Q.set i (cm (((r*1000000000+x)/d:Nat):Int))) 134/\h'.m.get j=cd [cm (((r*1000000000+x)%d:Nat):Int)] 134/\h'.m.get l=hd.m.get l)
  (Aze prog Z N false l [iI (i:Int),cm (x:Int)] hd):=by
 obtain⟨l1,l2,l3,l4,l5,l6⟩:=lA;obtain⟨n1,n2,n3,n4,n5,n6,n7,n8,n9,n10⟩:=dis;have U:=AtV (Y:=.loop 1 none (AjN I D (.ptr B 0) (.ptr A 0) G E (.ptr bO 0) (.ptr j 0) p y u q t) [15,16] Aa4 AaL) kn (λcs e kk g=>by rw[K]at g;cases g) (λst g=>by rw[K]at g;cases g);obtain⟨b1,o1,el⟩:=R0.elem (f:=Abb) (s:=1) (λ_=>rfl) U M;rw[Arc Z N K,B56];rw[K];simp only[];rw[B5A];have kA:=AsM (l:=l) (Y:=.loop 1 none (AjN I D (.ptr B 0) (.ptr A 0) G E (.ptr bO 0) (.ptr j 0) p y u q t) [15,16] Aa4 AaL) cA n4 (λst g=>by rw[K]at g;cases g);have eD:(hd.put l (.loop 1 none (AjN I D (.ptr B 0) (.ptr A 0) G E (.ptr bO 0) (.ptr j 0) p y u q t) [15,16] Aa4 AaL)).m.get A=_:=(Aq _ _ _ n5).trans gD;have eO:(hd.put l (.loop 1 none (AjN I D (.ptr B 0) (.ptr A 0) G E (.ptr bO 0) (.ptr j 0) p y u q t) [15,16] Aa4 AaL)).m.get bO=_:=(Aq _ _ _ n6).trans gO;have eQ:(hd.put l (.loop 1 none (AjN I D (.ptr B 0) (.ptr A 0) G E (.ptr bO 0) (.ptr j 0) p y u q t) [15,16] Aa4 AaL)).m.get bQ=_:=(Aq _ _ _ n2).trans gQ;have eR:(hd.put l (.loop 1 none (AjN I D (.ptr B 0) (.ptr A 0) G E (.ptr bO 0) (.ptr j 0) p y u q t) [15,16] Aa4 AaL)).m.get j=_:=(Aq _ _ _ n3).trans gR;have eL:(hd.put l (.loop 1 none (AjN I D (.ptr B 0) (.ptr A 0) G E (.ptr bO 0) (.ptr j 0) p y u q t) [15,16] Aa4 AaL)).m.get l=_:=A2 _ _;have kP:PS [bQ,j,l] hd (hd.put l (.loop 1 none (AjN I D (.ptr B 0) (.ptr A 0) G E (.ptr bO 0) (.ptr j 0) p y u q t) [15,16] Aa4 AaL)):=(PS.refl _ _).put _ (by simp);have nN:(hd.put l (.loop 1 none (AjN I D (.ptr B 0) (.ptr A 0) G E (.ptr bO 0) (.ptr j 0) p y u q t) [15,16] Aa4 AaL)).nx=hd.nx:=rfl;have xA:=kA.one (o:=0) rfl;have x2:=el.ia;have xE:=el.part 0 _ rfl;rw[Vw]at xE;generalize (hd.put l (.loop 1 none (AjN I D (.ptr B 0) (.ptr A 0) G E (.ptr bO 0) (.ptr j 0) p y u q t) [15,16] Aa4 AaL))=h3 at *
 have w1:∀g:H,Aj prog .mul 134 true (cm (r:Int)) (cm 1000000000) g=.ok (cm ((r*1000000000:Nat):Int)) g:=λg=>At6 (k:=.u64) (ty:=134) (c:=true) r 1000000000 fe (by show((r*1000000000:Nat):Int)<=18446744073709551615;omega) g
 have w2:∀g:H,Aj prog .add 134 false (cm ((r*1000000000:Nat):Int)) (cm (x:Int)) g=.ok (cm ((r*1000000000+x:Nat):Int)) g:=λg=>Am1 (k:=.u64) (ty:=134) (c:=false) (r*1000000000) x fe (by show((r*1000000000+x:Nat):Int)<=18446744073709551615;omega) g
 have w3:∀g:H,Aj prog .quo 134 false (cm ((r*1000000000+x:Nat):Int)) (cm (d:Int)) g=.ok (cm (((r*1000000000+x)/d:Nat):Int)) g:=λg=>Az8 (k:=.u64) (ty:=134) (c:=false) (r*1000000000+x) d om fe (by show(((r*1000000000+x)/d:Nat):Int)<=18446744073709551615;have:=Oa (r*1000000000+x) d;omega) g
 have w4:∀g:H,Aj prog .rem 134 false (cm ((r*1000000000+x:Nat):Int)) (cm (d:Int)) g=.ok (cm (((r*1000000000+x)%d:Nat):Int)) g:=λg=>Az9 (k:=.u64) (ty:=134) (c:=false) (r*1000000000+x) d om g;clear el U kA kn cA K gD gO gQ gR hr J hd9 hx9 M;obtain⟨pp,P⟩:∃z:Int,z=((r*1000000000:Nat):Int):=⟨_,rfl⟩;obtain⟨ss,T⟩:∃z:Int,z=((r*1000000000+x:Nat):Int):=⟨_,rfl⟩;obtain⟨X,O⟩:∃z:Int,z=(((r*1000000000+x)/d:Nat):Int):=⟨_,rfl⟩;obtain⟨W,S⟩:∃z:Int,z=(((r*1000000000+x)%d:Nat):Int):=⟨_,rfl⟩;rw[<- P]at w1 w2;rw[<- T]at w2 w3 w4;rw[<- O]at w3 ⊢;rw[<- S]at w4 ⊢;obtain⟨xx,Rr⟩:∃z:Int,z=(x:Int):=⟨_,rfl⟩;obtain⟨r0,R⟩:∃z:Int,z=(r:Int):=⟨_,rfl⟩;obtain⟨d0,J⟩:∃z:Int,z=(d:Int):=⟨_,rfl⟩;rw[<- Rr]at w2 xE;rw[<- R]at w1 eR;rw[<- J]at w3 w4 eD;clear P T O S Rr R J;have xi:=A6n (b:=bQ) (off:=0) (n:=k) (cap:=k) (i:=i) (ex:=true) hi;rw[Rx]at xi;have cD:Nv h3 A [cm d0]:=⟨by omega,_,_,eD,trivial⟩;have cO:Nv h3 bO [.sl bQ 0 k k 1 true]:=⟨by omega,_,_,eO,trivial⟩;have cR:Nv h3 j [cm r0]:=⟨by omega,_,_,eR,trivial⟩;refine Ey (cR.one (o:=0) rfl _ ((Ai.refl h3).nl).keeps) ?_;refine Ey (w1 _) ?_;refine Ey (xA _ ((Ai.refl h3).nl.nl).keeps) ?_;refine Ey (x2 _) ?_;refine Ey (xE _ ((Ai.refl h3).nl.nl.nl.nl).keeps) ?_;refine Ey (w2 _) ?_;refine Axi (λ_=>False) ?_ λL K=>?_
 .intro e V;simp only[Wf,Ww,fb]at V;rcases V with rfl|rfl|rfl|rfl|rfl|rfl|rfl|rfl<;>exact .inl rfl
 have nr:∀(L:uw) (g:H),Ab (Be L g)=Ab g:=λ_ _=>rfl;have T1:Bi h3 (Ab h3):=Ao6 rfl rfl;simp only[Te,nr];refine Ey (cO.one (o:=0) rfl _ T1) ?_;simp only[Te];refine Ey (cD.one (o:=0) rfl _ T1) ?_;simp only[Te];refine Ey (w3 _) ?_;simp only[Te];refine Ey (cD.one (o:=0) rfl _ T1) ?_;simp only[Te];refine Ey (w4 _) ?_;simp only[Te];refine Ey (xi _) ?_;simp only[Te];refine Ey (A2o (h:=Ab h3) (b:=bQ) eQ om) ?_;refine Ey (A2o (i:=0) (h:=Ab ((Ab h3).put bQ (cd (Q.set i (cm X)) 134))) (b:=j) (C:=[cm r0]) (ty:=134) ((Aq _ _ _ (Ne.symm n1)).trans eR) (by simp)) ?_;have d1:wrote h3.nx ((Ab h3).put bQ (cd (Q.set i (cm X)) 134)).lg=[bQ]:=Aw _ _ [] om;have d2:wrote h3.nx ((Ab ((Ab h3).put bQ (cd (Q.set i (cm X)) 134))).put j (cd [cm W] 134)).lg=[j]:=Aw _ _ [] om;refine Axi (λx=>x=bQ\/x=j) ?_ λL2 hL2=>?_
 .intro e V;simp only[Wf,Ww,fb]at V;rcases V with rfl|rfl|rfl|rfl|rfl|rfl|rfl|rfl|rfl|rfl|rfl
  .refine .inr ⟨λx M=>.inr (T0.1 (by rw[<- d2];exact M)),?_⟩;intro a ha;simp only[Wf,Ww,fb]at ha;rcases ha with rfl|rfl|rfl|rfl|rfl|rfl|rfl|rfl|rfl|rfl|rfl
   .exact Ar ..
   all_goals exact Ax _ _ _ _ _ _ _ _ _ _ _ _ rfl
  .refine .inr ⟨λx M=>.inl (T0.1 (by rw[<- d1];exact M)),?_⟩;intro a ha;simp only[Wf,Ww,fb]at ha;rcases ha with rfl|rfl|rfl|rfl|rfl|rfl|rfl|rfl|rfl|rfl|rfl
   .exact Ax _ _ _ _ _ _ _ _ _ _ _ _ rfl
   .exact Ar ..
   .exact Ax _ _ _ _ _ _ _ _ _ _ _ _ rfl
   .exact Ai1 _ _ _ _ _ rfl
   .exact Bdz (w:=bQ) (b:=A) (cs:=[cm d0]) (ty:=134) (λx M=>.inl (T0.1 (by rw[<- d1];exact M))) rfl n7 eD
   .exact Ai1 _ _ _ _ _ rfl
   all_goals exact Ax _ _ _ _ _ _ _ _ _ _ _ _ rfl
  all_goals exact .inl rfl
 have eL2:(Be L2 ((Ab ((Ab h3).put bQ (cd (Q.set i (cm X)) 134))).put j (cd ([cm r0].set 0 (cm W)) 134))).m.get l=.loop 1 none (AjN I D (.ptr B 0) (.ptr A 0) G E (.ptr bO 0) (.ptr j 0) p y u q t) [15,16] Aa4 AaL:=
  ((Aq _ _ _ (Ne.symm n3)).trans (Aq (h:=Ab h3) _ _ _ (Ne.symm n2))).trans eL
 rw[A6P eL2];refine Lo ⟨Qt _,λb hb=>absurd hb (dx b),λx _=>.inr (Qt x)⟩ ⟨rfl,?_,?_,?_,A2 _ _⟩
 .refine PS.put (PS.rl ((((kP.nl).put _ (by simp)).nl).put _ (by simp)) λz hz=>?_) _ (by simp);rcases hL2 z hz with hz|rfl|rfl
  .rcases K z hz with hz|hz
   .exact kP.lg z hz
   .exact hz.elim
  .simp
  .simp
 .rw[Aq _ _ _ n2];exact(Aq _ _ _ n1).trans (A2 _ _)
 .rw[Aq _ _ _ n3];exact A2 _ _
variable {cap n i v:Nat}{ex:Bool}{e:TypeId}{pr post cs:uz}{ds:uw}
structure Buf(b:Nat)(e:TypeId)(pr post:List AV)(ds:List Nat)(n:Nat)(h hd:H)(cs:List AV)(i v:Nat):Prop where
 g:PG b (.cells cs e .exact) h hd
 lt:b<h.nx
 d:Dst pr post ds cs i v
 hn:ds.length=n
 i10:i<=n
 n10:n<=10
 vi:v<10^i
def Al6(d:Dst pr post ds cs i v):cs.length=pr.length+ds.length+post.length:=by obtain⟨mid,low,rfl,h2,a⟩:=d;rw[<- a];simp[Alh,h2];omega
def Buf.get(k:Buf b e pr post ds n h hd cs i v):hd.m.get b=cd cs e:=k.g.get k.lt
def WrQ(b:Nat)(e:TypeId)(pr post:uz)(ds:uw)(h:H):AV->H->Prop:=λr h'=>r=.Bj []/\PG b (cd (pr++(ds.map u8C++post)) e) h h'
def gr0 h:Ai H0 h:=⟨Qt _,λb hb=>absurd hb (dx b),λx _=>.inr (Qt x)⟩
def Bov(k:Buf b e pr post ds n h hd cs i v)(hi:i<2) f0:Ah H0 (WrQ b e pr post ds h) (A3v Z N (.sl b pr.length n cap 1 ex) (iI i) (.int .u32 v) f0 hd):=by have m:=Al6 k.d;have hn:=k.hn;rw[Bmw];cases i with
|zero=>refine wk ?_;refine Lo (gr0 _) ⟨rfl,?_⟩;rw[<- k.d.zero];exact k.g
|succ i=>
 obtain rfl:i=0:=by omega
 have j:=k.vi;have f:=k.i10;refine Ey ((λa=>rfl:∀a,bo .gtr 3 true (iI (0+1)) (iI 0) a=.ok ..) _) (Zx (Ey ((λa=>Am1 _ v fe (by show(48+v:Int)<=4294967295;omega) _) _) (Ey ((λa=>A9k _ fe (by show(48+v:Int)<=255;omega) _:∀a,A6r _ _ a=.ok ..) _) (Ey (A6n f _) (Ey (A9c k.get om ⟨rfl,rfl⟩) (Lo (gr0 _) ⟨rfl,?_⟩))))));rw[<- k.d.one j];exact k.g.put _
def Bou(k:Buf b e pr post ds n h hd cs i v)(hi:i<4)(f0:L2):Ah H0 (WrQ b e pr post ds h) (A3u Z N (.sl b pr.length n cap 1 ex) (iI i) (.int .u32 v) f0 hd):=by
 have u:=k.get;have D:=Al6 k.d;have hn:=k.hn;have p:=k.i10;have o:=k.n10;rw[Bmv];by_cases h2:i<2
 .have f:∀a:H,bo .geq 3 true (iI (i:Int)) (iI 2) a=.ok ct a:=λa=>by show Aj prog .geq 3 true (iI (i:Int)) (iI 2) a=_;rw[As1,Yg om]
  refine Ey (f _) (Ae5 ?_);exact Bov Z N k h2 _
 .obtain⟨i,rfl⟩:∃j,i=j+2:=⟨i-2,by omega⟩;have q:v<10^(i+2):=k.vi;have r:v<10000:=Yy q (aq (by simp) (by omega:i+2<=4));have f:∀a:H,bo .geq 3 true (iI ((i+2:Nat):Int)) (iI 2) a=.ok ux a:=λa=>by rfl
  have z:∀a:H,bo .rem 209 true (.int .u32 (v:Int)) (.int .u32 100) a=.ok (.int .u32 ((v%100:Nat):Int)) a:=λa=>Az9 v 100 (by simp) a;have y:∀a:H,bo .mul 209 true (.int .u32 ((v%100:Nat):Int)) (.int .u32 2) a=.ok (.int .u32 ((v%100*2:Nat):Int)) a:=λa=>At6 (v%100) 2 fe (by show((v%100*2:Nat):Int)<=4294967295;omega) a;have A:∀a:H,bo .quo 209 true (.int .u32 (v:Int)) (.int .u32 100) a=.ok (.int .u32 ((v/100:Nat):Int)) a:=λa=>Az8 v 100 (by simp) fe (by show((v/100:Nat):Int)<=4294967295;omega) a;refine Ey (f _) (Zx (Ey (z _) (Ey (y _) (Ey (A _) ?_))));refine BaH (m:=v%100) (i1:=i+1) (i2:=i) u (Yy k.lt k.g.lo) om om om om om om om om λh' B C=>?_;have t:∀a:H,bo .sub 3 true (iI ((i+2:Nat):Int)) (iI 2) a=.ok (iI i) a:=λa=>by show Aj prog .sub 3 true (iI ((i+2:Nat):Int)) (iI 2) a=_;rw[As3,show((i+2:Nat):Int)-2=i by omega,Cr _ om om]
  exact Ey (t _) (Bov Z N ⟨k.g.trans B,k.lt,k.d.two,hn,by omega,o,bz (by grind)⟩ om _)
def Buf.two(k:Buf b e pr post ds n h hd cs (i+2) v){m}(a:m=v%100)(f:PG b (cd ((cs.set (pr.length+(i+1)) (u8C (48+m%10))).set (pr.length+i) (u8C (48+m/10))) e) hd h1):∃D7,Buf b e pr post ds n h h1 D7 i (v/100):=by subst a;have j:=k.vi;have:=k.i10;exact⟨_,k.g.trans f,k.lt,k.d.two,k.hn,by omega,k.n10,bz (by grind)⟩
def p3 a c(d:0<=c/\c<=10)(ha:c<=a/\a<=100) hh:bo .sub 3 true (iI a) (iI c) hh=.ok (iI (a-c)) hh:=by show Aj _ _ 3 _ _ ..=_;rw[As3,Cr _ om om]
def BqY a c hh:bo .geq 3 true (iI a) (iI c) hh=.ok (.bool (decide (c<=a))) hh:=by simp
def Bo3(k:Buf b e pr post ds n h hd cs i v)(hi:i<8)(n1:Nat)(f0:L2):Ah H0 (WrQ b e pr post ds h) (AwN Z N (n1+1) (.sl b pr.length n cap 1 ex) (cm v) (iI i) f0 hd):=by
 have D:=Al6 k.d;have hn:=k.hn;have r:=k.i10;have B:=k.n10;have o:=k.vi;have y:v<100000000:=Yy o (aq fe (by omega:i<=8));rw[Bdi];refine Ey (BqY _ _ _) ?_;rw[Yg om];refine Ae5 ?_;have p:∀f:H,A6r .u32 (cm (v:Int)) f=.ok (.int .u32 (v:Int)) f:=λf=>A9k v fe (by show(v:Int)<=4294967295;omega) f;refine Ey (p _) (Ey (BqY _ _ _) ?_);by_cases u:i<4;. rw[Yg om];exact Ae5 (Bou Z N k u _)
 .obtain⟨i,rfl⟩:∃j,i=j+2+2:=⟨i-4,by omega⟩;rw[Ws om];refine Zx ?_;refine Ey (Az9 v 10000 fe _) (Ey (Az8 v 10000 fe fe (by show((v/10000:Nat):Int)<=4294967295;omega) _) (Ey (Az8 (v%10000) 100 fe fe (by show((v%10000/100:Nat):Int)<=4294967295;omega) _) (Ey (At6 (v%10000/100) 2 fe (by show((v%10000/100*2:Nat):Int)<=4294967295;omega) _) (Ey (Az9 (v%10000) 100 fe _) (Ey (At6 (v%10000%100) 2 fe (by show((v%10000%100*2:Nat):Int)<=4294967295;omega) _) ?_)))));refine BaH (m:=v%10000%100) (i1:=i+2+1) (i2:=i+2) k.get (Yy k.lt k.g.lo) om om om om om om om om λh' A C=>?_;obtain⟨q,a⟩:=k.two om A;have G:=Al6 a.d;refine BaH (m:=v%10000/100) (i1:=i+1) (i2:=i) a.get (Yy a.lt a.g.lo) om om om om om om om om λE g3 n3=>?_;obtain⟨z,t⟩:=a.two om g3;refine Ey (p3 _ _ om om _) ?_;rw[show((i+2+2:Nat):Int)-4=(i:Int)by omega,show v/10000=v/100/100 by omega];exact Bou Z N t om _
def BvT(k:Buf b e pr post ds n h hd cs i v)(n1:Nat)(f0:L2):Ah H0 (WrQ b e pr post ds h) (AwN Z N (n1+2) (.sl b pr.length n cap 1 ex) (cm v) (iI i) f0 hd):=by
 have M:=Al6 k.d;have hn:=k.hn;have A:=k.i10;have q:=k.n10;by_cases B:i<8
 .exact Bo3 Z N k B _ f0
 obtain⟨i,rfl⟩:∃j,i=j+2+2+2+2:=⟨i-8,by omega⟩;have z:v<10000000000:=Yy k.vi (aq fe (by omega:i+2+2+2+2<=10));rw[Bdi];refine Ey (BqY _ _ _) ?_;rw[Ws om];refine Zx ?_;refine Ey (Az9 v 100000000 fe _) (Ey (A9k (v%100000000) fe (by show((v%100000000:Nat):Int)<=4294967295;omega) _) (Ey (Az8 v 100000000 fe fe (by show((v/100000000:Nat):Int)<=18446744073709551615;omega) _) ?_));obtain⟨w,u⟩:∃w,w=v%100000000:=⟨_,rfl⟩;rw[<- u];refine Ey (Az8 w 10000 fe fe (by show((w/10000:Nat):Int)<=4294967295;omega) _) (Ey (Az9 w 10000 fe _) (Ey (Az8 (w%10000) 100 fe fe (by show((w%10000/100:Nat):Int)<=4294967295;omega) _) (Ey (At6 (w%10000/100) 2 fe (by show((w%10000/100*2:Nat):Int)<=4294967295;omega) _) (Ey (Az9 (w%10000) 100 fe _) (Ey (At6 (w%10000%100) 2 fe (by show((w%10000%100*2:Nat):Int)<=4294967295;omega) _) ?_)))));refine Ey (Az8 (w/10000) 100 fe fe (by show((w/10000/100:Nat):Int)<=4294967295;omega) _) (Ey (At6 (w/10000/100) 2 fe (by show((w/10000/100*2:Nat):Int)<=4294967295;omega) _) (Ey (Az9 (w/10000) 100 fe _) (Ey (At6 (w/10000%100) 2 fe (by show((w/10000%100*2:Nat):Int)<=4294967295;omega) _) ?_)));refine BaH (m:=w%10000%100) (i1:=i+2+2+2+1) (i2:=i+2+2+2) k.get (Yy k.lt k.g.lo) om om om om om om om om λh' t I=>?_;obtain⟨p,f⟩:=k.two om t;have J:=Al6 f.d;refine BaH (m:=w%10000/100) (i1:=i+2+2+1) (i2:=i+2+2) f.get (Yy f.lt f.g.lo) om om om om om om om om λO g3 n3=>?_;obtain⟨G,a⟩:=f.two om g3;have D:=Al6 a.d;refine BaH (m:=w/10000%100) (i1:=i+2+1) (i2:=i+2) a.get (Yy a.lt a.g.lo) om om om om om om om om λK g4 n4=>?_;obtain⟨y,o⟩:=a.two om g4;have C:=Al6 o.d;refine BaH (m:=w/10000/100) (i1:=i+1) (i2:=i) o.get (Yy o.lt o.g.lo) om om om om om om om om λL g5 n5=>?_;obtain⟨E,r⟩:=o.two om g5;refine Ey (p3 _ _ om om _) ?_;rw[show((i+2+2+2+2:Nat):Int)-8=(i:Int)by omega,show v/100000000=v/100/100/100/100 by omega];exact Bo3 Z N r om _ _
def BtK:Prop:=∀(b n v cap:Nat) (ex:Bool) (e:TypeId) (pr mid post:uz) (h:H),h.m.get b=cd (pr++(mid++post)) e->b<h.nx->mid.length=n->n<=10->v<10^n ->
 AjT b (cd (pr++((Ao2 n v).map u8C++post)) e) h (λr _=>r=.Bj []) (Z.call 204 [.sl b pr.length n cap 1 ex,cm v] h)
def B3t(k:2<N){mid}(g:h.m.get b=cd (pr++(mid++post)) e)(hb:b<h.nx)(a:mid.length=n)(hn:n<=10)(d:v<10^n):
 AjT b (cd (pr++((Ao2 n v).map u8C++post)) e) h (λr _=>r=.Bj []) (Ay prog Z N false 204 [.sl b pr.length n cap 1 ex,cm v] h):=by obtain⟨n2,rfl⟩:∃n2,N=n2+2:=⟨N-2,by omega⟩;rw[BzP];exact AeN (Ey rfl ((BvT Z _ ⟨PG.refl g,hb,⟨_,[],rfl,a,by simp⟩,Alh ..,Ye _,hn,d⟩ ..).mono λr h' _ ⟨f,j⟩=>⟨j,f⟩))
variable {F:AO}
def Biw{p}{fr}{ps}{a bd}{E}(d:h.m.get l=.loop 0 p fr ps a bd):AyT l E h=E p (h.put l (.loop 3 p fr ps a bd)):=by unfold AyT;rw[d];rfl
def BqJ{r}{k}(a:h.m.get r=.dfr false):dfE r k h=k (h.put r (.dfr true)):=by unfold dfE;grind
def Bbk{n r}{j}:Big none n r j h=n h:=rfl
end Go.Proofs
