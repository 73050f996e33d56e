/- Package sens -/
import Derived.Test.YtahaaiadlgfchaaGreatDoorEvJb
set_option linter.all false
set_option maxRecDepth 100000
noncomputable section
namespace Go.Proofs
open Go Go.Ev Tryz Go.Ev.Sx
open Go.Nm
attribute [local irreducible] Aa Al Af Ad
variable (Z:Ac)(N:Nat)
def BbI(o:Int):List Int:=if o=8 then[1,0,0]else if o=7 then[0]else if o=17 then[1]else if o=15\/o=16 then[1,1]else if 4<=o then[0,0]else[]
def gvO(o:Int):Int:=if 9<=o then 1 else 0
def Cic{h:H}{b n:Nat}{cs:uz}{et:TypeId}(c:h.m.get b=cd cs et)(hb:b<h.nx)(hn:cs.length=n):Sl 1 h (.sl b 0 n n 1 true) n cs:=
 .inr ⟨b,0,n,true,cs,rfl,Ye _,⟨hb,et,.exact,c,trivial⟩,by omega,by rw[Cp,ae,<- hn,cg]⟩
abbrev BwQ(b:Nat):uz:=
 [.Bv,iI 0,.Bv,iI 0,.Bv,iI 0,.Bv,iI 0,.sl (b+2) 0 2 2 1 true,iI 0,.sl (b+2) 0 2 2 1 true,iI 0,.sl (b+2) 0 2 2 1 true,iI 0,.sl (b+1) 0 1 1 1 true,iI 0,.sl (b+5) 0 3 3 1 true,iI 0,
  .sl (b+2) 0 2 2 1 true,iI 1,.sl (b+2) 0 2 2 1 true,iI 1,.sl (b+2) 0 2 2 1 true,iI 1,.sl (b+2) 0 2 2 1 true,iI 1,.sl (b+2) 0 2 2 1 true,iI 1,.sl (b+2) 0 2 2 1 true,iI 1,.sl (b+4) 0 2 2 1 true,iI 1,.sl (b+4) 0 2 2 1 true,iI 1,.sl (b+3) 0 1 1 1 true,iI 1]
structure BiN(b:Nat)(h:H):Prop where
 lt:b+5<h.nx
 g1:h.m.get (b+1)=.cells [iI 0] 192 .exact
 g2:h.m.get (b+2)=.cells [iI 0,iI 0] 192 .exact
 g3:h.m.get (b+3)=.cells [iI 1] 192 .exact
 g4:h.m.get (b+4)=.cells [iI 1,iI 1] 192 .exact
 g5:h.m.get (b+5)=.cells [iI 1,iI 0,iI 0] 192 .exact
def BiN.gr{b:Nat}{h h1:H}(K:BiN b h)(e:Ai h h1):BiN b h1:=by have c:=K.lt;exact⟨Yy c e.lo,(e.Cf _ om).trans K.g1,(e.Cf _ om).trans K.g2,(e.Cf _ om).trans K.g3,(e.Cf _ om).trans K.g4,(e.Cf _ om).trans K.g5⟩
def CjF:Prop:=∀(h:H),Ah h (λr h1=>∃b,r=.agg (BwQ b)/\BiN b h1) (Z.call 128 [] h)
set_option maxHeartbeats 2000000 in
def CvD(h:H):Ah h (λr h1=>∃b,r=.agg (BwQ b)/\BiN b h1) (ml Z N 128 [] h):=by
 rw[Crg];refine wk ?_;refine zr Ex ⟨h.nx,rfl,?_,?_,?_,?_,?_,?_⟩
 .show h.nx+5<h.nx+1+1+1+1+1+1;omega
 all_goals simp(disch:=first|exact dA|fail) [lw]
def opW(b:Nat)(o:Int):AV:=if o=8 then .sl (b+5) 0 3 3 1 true else if o=7 then .sl (b+1) 0 1 1 1 true else if o=17 then .sl (b+3) 0 1 1 1 true else if o=15\/o=16 then .sl (b+4) 0 2 2 1 true else if 4<=o then .sl (b+2) 0 2 2 1 true else .Bv
def Cin{b bo:Nat}{o:Int}(h1:1<=o)(h2:o<=17):∃off w,(∀d,AxM 18 2 (.ptr bo 0) (iI o) d=.ok (.ptr bo off) d)/\(∀d,d.m.get bo=cd (BwQ b) 195->Ae (some (some 2)) (.ptr bo off) d=.ok (.agg [w,iI (gvO o)]) d)/\(Ge w=true/\cellsOf w=some [w])/\∀d,BiN b d->IsL d w (BbI o):=by
 have e:∀(c n:Nat) (l:List Int) (d:H),d.m.get c=cd (l.flatMap λn:Int=>[AV.int .i64 n]) 192->c<d.nx->l.length=n->IsL d (.sl c 0 n n 1 true) l:=λc n l d j p hn=>by subst hn;exact .of (Cic j p (Aa9 (f:=λn:Int=>[AV.int .i64 n]) (s:=1) (λ_=>rfl) l |>.trans (ae _)))
 refine⟨2*o.toNat,opW b o,?_⟩;have g:o=1\/o=2\/o=3\/o=4\/o=5\/o=6\/o=7\/o=8\/o=9\/o=10\/o=11\/o=12\/o=13\/o=14\/o=15\/o=16\/o=17:=by omega
 rcases g with rfl|rfl|rfl|rfl|rfl|rfl|rfl|rfl|rfl|rfl|rfl|rfl|rfl|rfl|rfl|rfl|rfl
 all_goals
  refine⟨λd=>rfl,λd j=>?_,?_,λd K=>?_⟩
 all_goals first
  |exact IsL.nil _
  |exact e _ _ _ _ K.g1 (by have:=K.lt;omega) rfl
  |exact e _ _ _ _ K.g2 (by have:=K.lt;omega) rfl
  |exact e _ _ _ _ K.g3 (by have:=K.lt;omega) rfl
  |exact e _ _ _ _ K.g4 (by have:=K.lt;omega) rfl
  |exact e _ _ _ _ K.g5 (by have:=K.lt;omega) rfl
  |exact⟨rfl,rfl⟩
  |(simp(disch:=first|exact dA|fail) [lw,j,opW,gvO];done)
def Cfv(l:List Nd)(A1:List Aaw)(i:Int)(x:Nd):Prop:=(x.op=1/\x.Zn=[]/\0<=x.n/\x.n<=1000000000)\/(x.op=2/\x.n=0/\∃c∈A1,c.name=x.Zn)\/(x.op=3/\x.n=0/\1<=i/\∃y z,l[(i-1).toNat]?=some y/\l[(i+1).toNat]?=some z/\y.op=2/\(z.op=9\/z.op=10)/\∃c∈A1,c.name=y.Zn/\x.Zn∈c.ws)\/(4<=x.op/\x.op<=17/\x.n=0/\x.Zn=[])
def CaB:Prop:=∀(v cv:AV) (l:List Nd) (A1:List Aaw) (i:Int) (x:Nd) (h:H),Ue h v l->CsE h cv A1->l.length<=200->0<=i->l[i.toNat]?=some x->Cfv l A1 i x->Ah h ok0 (Z.call 129 [v,iI i,cv] h)
set_option maxHeartbeats 2000000 in
def CvE(j:R87 Z)(f:CjK Z)(v cv:AV)(l:List Nd)(A1:List Aaw)(i:Int)(x:Nd)(h:H)(B:Ue h v l)(u:CsE h cv A1)(L:l.length<=200)(hi:0<=i)(d:l[i.toNat]?=some x)(K:Cfv l A1 i x):Ah h ok0 (Ay prog Z N false 129 [v,iI i,cv] h):=by
 rw[Crh];obtain⟨b1,O,Q,P,_,_⟩:=Bmg B hi d;rcases K with⟨p1,p2,p3,p4⟩|⟨p1,p2,p3⟩|⟨p1,p2,p3,y,z,p4,D,E,F,G⟩|⟨p1,p2,p3,p4⟩
 .obtain⟨op,n,Zn⟩:=x;simp only at p1 p2 p3 p4;subst p1 p2;have J:decide (n<0)=false:=df;have M:decide ((1000000000:Int)<n)=false:=df;clear B u d j f;by_cases hn:n=0
  .have A:decide (n=0)=true:=Ws hn;refine wk ?_;exact zr Ex rfl
  .have A:decide (n=0)=false:=Yg hn;refine wk ?_;exact zr Ex rfl
 .have g:=λd e=>j cv A1 x.Zn d (u.r.By e) p3;have o:=u.r.one;obtain⟨op,n,Zn⟩:=x;simp only at p1 p2 p3 g;subst p1 p2;replace g:=(hU g)
  replace o:=(hU o)
  clear B u d j f p3;by_cases hn:Zn=[]
  .subst hn;have A:decide (([]:uw)=[])=true:=rfl;refine wk ?_;refine Fj ((gw g) _ M0) λv1 h1 e1 l1 t s=>?_
   obtain⟨c,C,p,rfl⟩:=s;obtain⟨w1,w2⟩:=(show ∀c∈A1,Ge c.w=true/\cellsOf c.w=some [c.w]from o) c C
   clear p;try simp only[C9]at l1
   refine wk ?_;exact zr Ex rfl
  .have A:decide (Zn=[])=false:=Yg hn;refine wk ?_;refine Fj ((gw g) _ M0) λv1 h1 e1 l1 t s=>?_
   obtain⟨c,C,p,rfl⟩:=s;obtain⟨w1,w2⟩:=(show ∀c∈A1,Ge c.w=true/\cellsOf c.w=some [c.w]from o) c C
   clear p;try simp only[C9]at l1
   refine wk ?_;exact zr Ex rfl
 .have g:=λI (e:Bi h I)=>f v cv l A1 i y x z I (Sl.By B e) (u.By e) L p3 p4 d D E F G;obtain⟨op,n,Zn⟩:=x;simp only at p1 p2 g;subst p1 p2;replace g:=(hU g)
  clear B u d j f p4 D E F G;by_cases hn:Zn=[]
  .subst hn;have A:decide (([]:uw)=[])=true:=rfl;refine wk ?_;refine Fj ((gw g) _ M0) λv1 h1 e1 l1 t s=>?_
   subst s;exact zr Ex rfl
  .have A:decide (Zn=[])=false:=Yg hn;refine wk ?_;refine Fj ((gw g) _ M0) λv1 h1 e1 l1 t s=>?_
   subst s;exact zr Ex rfl
 .obtain⟨op,n,Zn⟩:=x;simp only at p1 p2 p3 p4;subst p3 p4;have J:decide (op<1)=false:=df;have M:decide ((17:Int)<op)=false:=df;have A:decide (op=3)=false:=df;have R:decide (op=2)=false:=df;clear B u d j f;refine wk ?_;exact zr Ex rfl
end Go.Proofs
namespace Go.Proofs
open Go Go.Ev Go.Ev.Sx
open Go.Nm
variable {j:uz}{o:Tr}
def Oj{b:Bool}(h:Ty b o):F4 o=b:=by
 have:=Ast h;unfold dbl at this;unfold F4;by_cases h9:9<=o.op
 .rw[Xo h9]at this;rw[Ws h9];cases b
  .cases this
  .rfl
 .rw[X2 h9]at this;rw[Yg h9];cases b
  .rfl
  .cases this
open Tryz
attribute [local irreducible] Aa Al Af Ad
variable (Z:Ac)(N:Nat)
structure C89(hB:H)(v cv:AV)(l:List Nd)(A1:List Aaw)(bo bs lo:Nat):Prop where
 nd:Ue hB v l
 cs:CsE hB cv A1
 len:l.length<=200
 op:∃b,hB.m.get bo=.cells (BwQ b) 195 .exact/\BiN b hB
 bo:bo<hB.nx
 bs:hB.nx<=bs
variable {hB:H}{v cv:AV}{l:List Nd}{A1:List Aaw}{bo bs lo:Nat}{cond:Bool}
def G89(Z:Ac)(N:Nat)(hB:H)(v cv:AV)(l:List Nd)(bo bs lo:Nat)(cond:Bool)(i:Nat)(st:List Int):Prop:=∀(hd:H) (f0:L2) (n:Nat),Ai hB hd->A6X lo bs hd st->l.length<n+i->st.length<=i->Ah hB ok0 (Blf Z N n v cv (.bool cond) (.ptr bo 0) (.ptr bs 0) (iI (l.length:Int)) (iI (i:Int)) f0 hd)
set_option maxHeartbeats 1000000 in
def s89(A:CaB Z)(y:CaC Z)(s:CaD Z)(K:C89 hB v cv l A1 bo bs lo){i:Nat}{x:Nd}(C:l[i]?=some x)(E:Cfv l A1 (i:Int) x){st ts:List Int}(I:ts=BbI x.op)(M:G89 Z N hB v cv l bo bs lo cond (i+1) (st++[gvO x.op])):G89 Z N hB v cv l bo bs lo cond i (st++ts):=by
 intro hd f0 n g hb hn j;have hi:=(Xh.1 C).1;have hl:=K.len;obtain⟨n1,rfl⟩:=mg n;obtain⟨b,De,t⟩:=K.op;have z:1<=x.op/\x.op<=17:=by rcases E with h1|h1|h1|h1<;>omega
 obtain⟨off,w,y1,y2,⟨y3,y4⟩,G⟩:=Cin (b:=b) (bo:=bo) z.1 z.2;have h1:=A v cv l A1 (i:Int) x hd (Sl.By K.nd g.keeps) (K.cs.By g.keeps) hl om C E;obtain⟨b1,o1,x1,_,x2,_⟩:=Bmg (i:=(i:Int)) K.nd om C;have F:=K.bo;have p:=K.bs;have S4:(st++ts).length<=200:=by omega
 have r:(st++[gvO x.op]).length<=i+1:=by rw[Xi]at j ⊢;simp;omega
 have P:decide ((i:Int)<(l.length:Int))=true:=dt;have S:=hb.lt;have bnx:=hb.nx;subst I;rw[B5R];have d:=λhy f e q=>M hy f n1 e q om r;obtain⟨i1,o⟩:∃i1:Int,i1=(i:Int):=⟨_,rfl⟩;have u:((i+1:Nat):Int)=i1+1:=by omega
 rw[u]at d;rw[<- o]at h1 x1 P ⊢;have hr1:0<=i1:=by omega
 have U:i1<=200:=by omega
 have B:=λc e q=>y lo bs c hB st (BbI x.op) w e (G c (t.gr q)) q p om;have D:=λc e q=>s lo bs c hB st (gvO x.op) e q p (by rw[Xi]at S4;omega);replace B:=(hU B)
 replace D:=(hU D)
 replace d:=(hU d)
 replace h1:=(hU h1)
 replace G:=(hU G)
 clear M E C A y s K t j r hn o u;refine wk ?_;refine Fj (show Ah hd ok0 (Z.call 129 [v,iI i1,cv] hd)from h1) λv2 h2 L l2 J q2=>?_
 subst q2;have g2:=g.trans L;have b2:=hb.gr L;have f2:=(g2.Cf bo F).trans De;have V:=y2 h2 f2;have z3:=x2 h2 g2.keeps;clear hb h1 J;refine wk ?_;refine Fj ((gw B) _ (b2.gr Ex) Ex) λv5 h5 R l5 Az4 Y=>?_
 obtain⟨rfl,W,T,O⟩:=Y;try simp only[C9]at W
 have f5:=(O h2.nx mh om).trans (show _=cd [w,iI (gvO x.op)] 194 by simp(disch:=first|exact dA|fail) [lw])
 clear O B V z3 f2;refine wk ?_;refine Fj ((gw D) _ T R) λv6 h6 X l6 Axm Q=>?_
 clear D;refine wk ?_;exact(gw d) h6 _ X Q.2
def f89(e:CaE Z)(K:C89 hB v cv l A1 bo bs lo):G89 Z N hB v cv l bo bs lo cond l.length [b2i cond]:=by
 intro hd f0 n g hb hn d;obtain⟨n1,rfl⟩:=mg n;obtain⟨sv,y,f⟩:=hb.at';have t:=hb.lt;have u:=hb.nx;have p:decide ((l.length:Int)<(l.length:Int))=false:=df;obtain⟨A,z⟩:=BkI f;have j:Ah (hd.new (cd [iI (b2i cond)] 192)) (λr _=>r=ux) (Z.call 132 [sv,.sl hd.nx 0 1 1 1 true] (hd.new (cd [iI (b2i cond)] 192))):=
  e sv (.sl hd.nx 0 1 1 1 true) [b2i cond] _ (.of (f.gr ((Ai.refl hd).new _)).sl) (.of (Sl.lit (Bf _) rfl rfl)) (by simp)
 replace j:=(hU j)
 obtain⟨o,c⟩:∃o:Int,o=(l.length:Int):=⟨_,rfl⟩;rw[<- c]at p ⊢;clear hb f e hn d c;rw[B5R];cases cond;all_goals
  refine wk ?_;rw[Cfu];refine wk ?_;refine Fj (show Ah _ (λr _=>r=ux) (Z.call 132 [sv,.sl hd.nx 0 1 1 1 true] _)from j) λv2 h2 w l2 s f=>?_
  subst f;have g2:Ai hB h2:=(g.new _).trans w;refine wk ?_;exact zr g2 rfl
def kV(t:Tr):Int:=b2i (F4 t)
def A5f{D:Dom}{k:Bool}(h:E7 D k o):kV o=b2i k:=by rw[kV,Oj (Abt h)]
def Bfc{pre c:List Nd}{x:Nd}:(pre++x::c)[pre.length]?=some x:=by simp
def Cih(w:CaB Z)(z:CaC Z)(t:CaD Z)(K:C89 hB v cv l A1 bo bs lo):Cj9 (AaR A1) l (G89 Z N hB v cv l bo bs lo cond) kV:=by
 have S:=λ{i:Nat} {x:Nd} f A {st ts:List Int} u d=>s89 Z N (cond:=cond) w z t K (i:=i) (x:=x) f A (st:=st) (ts:=ts) u d;refine⟨?_,?_,?_,?_,?_⟩
 .intro pre x e st g h d;have f:l[pre.length]?=some x:=by rw[g];exact Bfc
  rw[A5f h]at d;have h0:=h.2;rw[<- F0 st];refine S f ?_ (st:=st) (ts:=[]) ?_ ?_
  .rcases h0 with⟨a1,a2,s,n⟩|⟨a1,a2,s⟩
   .exact .inl ⟨a1,a2,s,n⟩
   .exact .inr (.inl ⟨a1,a2,s⟩)
  .rcases h0 with⟨a1,_⟩|⟨a1,_⟩<;>rw[a1]<;>rfl
  .have:gvO x.op=b2i false:=by rcases h0 with⟨a1,_⟩|⟨a1,_⟩<;>rw[a1]<;>rfl
   rw[this];exact d
 .intro pre x y o e st g h r d;obtain⟨⟨a1,a2,s⟩,n,D,B⟩:=h;have f:l[pre.length]?=some x:=by rw[g];exact Bfc
  have hy:l[pre.length+1]?=some y:=by rw[g];simp
  have hz:l[pre.length+2]?=some ⟨o,0,[]⟩:=by rw[g];simp
  have e1:kV (.two o (.leaf x) (.leaf y))=1:=by
   have:F4 (.two o (.leaf x) (.leaf y))=true:=by rcases r with rfl|rfl<;>rfl
   rw[kV,this];rfl
  rw[e1]at d;rw[<- F0 st];refine S f (.inr (.inl ⟨a1,a2,s⟩)) (by rw[a1];rfl) ?_;rw[<- F0 (st++_)];refine S hy (.inr (.inr (.inl ⟨n,D,by omega,x,⟨o,0,[]⟩,?_,?_,a1,r,B⟩))) (by rw[n];rfl) ?_
  .rw[show(((pre.length+1:Nat):Int)-1).toNat=pre.length by omega]
   exact f
  .rw[show(((pre.length+1:Nat):Int)+1).toNat=pre.length+2 by omega]
   exact hz
  .rw[Wq];refine S hz (.inr (.inr (.inr ⟨by show 4<=o;omega,by show o<=17;omega,rfl,rfl⟩))) ?_ ?_
   .rw[a1,n];rcases r with rfl|rfl<;>rfl
   .have:gvO o=1:=by rcases r with rfl|rfl<;>rfl
    show G89 Z N hB v cv l bo bs lo cond (pre.length+2+1) (st++[gvO o]);rw[this];exact d
 .intro pre o a k e st g h d;have f:l[pre.length]?=some ⟨o,0,[]⟩:=by rw[g];exact Bfc
  rw[A5f h]at d;refine S f (.inr (.inr (.inr ⟨by show 4<=o;rcases h with h|h<;>omega,by show o<=17;rcases h with h|h<;>omega,rfl,rfl⟩))) ?_ ?_
  .rcases h with⟨rfl,rfl,h⟩|⟨rfl,rfl,h⟩<;>rw[A5f h]<;>rfl
  .rcases h with⟨rfl,rfl,h⟩|⟨rfl,rfl,h⟩<;>exact d
 .intro pre o a c k j e st g h ha C hj d;have f:l[pre.length]?=some ⟨o,0,[]⟩:=by rw[g];exact Bfc
  have r:4<=o/\o<=16/\o≠7/\o≠8:=by rcases h with h|h|h|h<;>omega
  rw[A5f h]at d;refine S f (.inr (.inr (.inr ⟨by show 4<=o;omega,by show o<=17;omega,rfl,rfl⟩))) ?_ ?_
  .rw[A5f ha,A5f C];show _=BbI o;unfold BbI;rw[X2 om,X2 om,X2 om];cases j
   .rw[X2 (λE=>by have:=hj.2 om;cases this),Xo om]
    rfl
   .rw[Xo (by have:=hj.1 rfl;omega)]
    rfl
  .have:gvO o=b2i k:=by
    rcases h with⟨rfl,h1,_⟩|⟨rfl,h1,_⟩|⟨rfl,h1,_⟩|⟨rfl,h1,_⟩
    .exact X2 om
    all_goals exact Xo om
   show G89 Z N hB v cv l bo bs lo cond (pre.length+1) (st++[gvO o]);rw[this];exact d
 .intro pre p a c e st g h d;have f:l[pre.length]?=some ⟨8,0,[]⟩:=by rw[g];exact Bfc
  rw[A5f h]at d;refine S f (.inr (.inr (.inr ⟨by decide,by decide,rfl,rfl⟩))) ?_ d;rw[A5f h.2.1,A5f h.2.2.1,A5f h.2.2.2];rfl
def R89:Prop:=∀(v cv:AV) (A1:List Aaw) (k:Bool) (t:Tr) (h:H),Ue h v t.nodes->CsE h cv A1->E7 (AaR A1) k t->size t<=200->Ah h ok0 (Z.call 98 [v,cv,.bool k] h)
set_option maxHeartbeats 1000000 in
def r89(M:1000<N)(B:CjF Z)(z:CaB Z)(s:CaC Z)(o:CaD Z)(u:CaE Z)(v cv:AV)(A1:List Aaw)(k:Bool)(t:Tr)(h:H)(y:Ue h v t.nodes)(C:CsE h cv A1)(n:E7 (AaR A1) k t)(L:size t<=200):Ah h ok0 (Ay prog Z N false 98 [v,cv,.bool k] h):=by
 rw[e89];have g:∀D,Fo v D=.ok (iI (t.nodes.length:Int)) D:=λ_=>y.Gs;have r:=Ao t;have E:decide ((200:Int)<(t.nodes.length:Int))=false:=df;have go:∀(e:AO) (b:Nat) (c:H) (f0:L2),Ai h c->BiN b c->Ah h ok0 (Blf Z N N v cv (.bool k) (.ptr c.nx 0) (.ptr (c.nx+1) 0) (iI (t.nodes.length:Int)) (iI 0) f0 (((c.new e).put c.nx (cd (BwQ b) 195)).new (cd [.Bv] 199))):=by
  intro e b c f0 g3 d;have j:Ai c ((c.new e).put c.nx (cd (BwQ b) 195)):=((Ai.refl c).new _).put c.nx _ (Ye _);have p:=g3.trans j;have K:C89 ((c.new e).put c.nx (cd (BwQ b) 195)) v cv t.nodes A1 c.nx (c.nx+1) (c.nx+2):=⟨Sl.By y p.keeps,C.By p.keeps,by omega,⟨b,A2 ..,d.gr j⟩,Y3 _,Ye _⟩;have G:=AyC (Cih Z N (cond:=k) z s o K) t k n [] [] [] (by simp) (by have:=f89 Z N (cond:=k) u K;rw[A5f n];simpa using this)
  refine Ah.of p (G _ f0 N ((Ai.refl _).new _) ⟨Y3 _,Ye _,.Bv,Bf _,Aud.nil _ _ _⟩ ?_ (Qt _));show t.nodes.length<N+0;omega
 generalize A:(t.nodes.length:Int)=li at g E go ⊢;replace go:=(hU go)
 have c:=B h;replace c:=(hU c)
 clear y C n r A;refine wk ?_;refine Fj (show Ah h _ (Z.call 128 [] h)from c) λv2 h2 F l2 I J=>?_
 obtain⟨b,rfl,d⟩:=J;have w:=λe f=>(gw go) e b h2 f F d
 replace w:=(hU w)
 clear go c d;refine wk ?_;exact(gw w) _ _
variable {ss:List Abn}{q:Qr}{vc vo vm sv:AV}{x:Nat}{a b:Abn}{h:H}
def Qst.cse(K:Qst ss q vc vo vm sv x a b cv h)(r:SsV ss):CsE h cv (a.A1++b.A1):=by
 refine⟨K.cs,λc j=>?_,λc j d hd hn=>?_⟩
 .obtain⟨s,g,f⟩:=K.Zn j;have h1:=(K.sd.d s g).cs;exact⟨h1.w c f,(h1.ok c f).2.Mu⟩
 .obtain⟨s,g,f⟩:=K.Zn j;obtain⟨t,o,n⟩:=K.Zn hd;have e:=Jh (λp=>p.2.2.2) (BaR r g o f n hn);simpa[Px]using e
def r52(j:R89 Z)(K:Qst ss q vc vo vm sv x a b cv h)(z:SsV ss)(g:q.E9=[]\/∃t,E7 (AaR (AaF ss q)) true t/\size t<=Abo 3/\q.E9=t.nodes):Ah h ok0 (ml Z N 49 [.ptr x 0] h):=by
 rw[e52];have A:=K.get;have r:=K.lt;have p:∀c,Fo vm c=.ok (iI (q.E9.length:Int)) c:=λ_=>K.m.Gs;rcases g with g|⟨t,h1,h2,o⟩
 .rw[g]at p;have s:decide (((([]:List Nd).length:Int))=0)=true:=rfl;clear K;refine wk ?_;exact zr Ex rfl
 .have d:=K.cse z;rw[K.A1]at d;have f:=λc (e:Bi h c)=>j vm cv _ true t c (o ▸ Sl.By K.m e) (d.By e) h1 (Xy h2 fe);replace f:=(hU f)
  have u:1<=q.E9.length:=by rw[o,Ao];exact size_pos t
  generalize n:(q.E9.length:Int)=li at p;have s:decide (li=0)=false:=df;clear K d o n u;refine wk ?_;refine zc2 ((gw f) _ M0) λv1 h1 e1 l1 w y=>?_
  subst y;repeat' (first|refine wk ?_|(refine zqq ?_ ?_<;>intro d<;>(try (exfalso;omega)))|fail)
  exact zr Ex rfl
def r53(p:R85 Z)(u:R89 Z)(K:Qst ss q vc vo vm sv x a b cv h)(F:SsV ss){q0:Qr}(kv:KV (AaF ss q) q0 q)(y:q.code=[]\/∃t,E7 (AaR (AaF ss q)) false t/\size t<=Abo 3/\q.code=t.nodes):Ah h ok0 (ml Z N 50 [.ptr x 0] h):=by
 rw[e53];have A:=K.get;have w:=K.lt;have f:=B81 Z (q:=q) p A w;by_cases d:q.c0=2\/q.c0=4\/q.c0=5
 .rw[Ws d]at f;obtain⟨t,h1,h2,z⟩:=y.resolve_left (kv.AyG d).1;have j:=K.cse F;rw[K.A1]at j;have r:=λg (e:Bi h g)=>u vc cv _ false t g (z ▸ Sl.By K.c e) (j.By e) h1 (Xy h2 fe);replace r:=(hU r)
  clear K j z kv d y;(repeat' (first|refine wk ?_|((with_reducible (first|apply Fj|apply zc2));exact f _ Ex;intro E g D o n s;(try simp only[C9]at o n);subst s)));refine zc2 ((gw r) _ M0) λv1 h1 e1 l1 C B=>?_
  subst B;repeat' (first|refine wk ?_|(refine zqq ?_ ?_<;>intro j<;>(try (exfalso;omega)))|fail)
  exact zr Ex rfl
 .rw[Yg d]at f;clear K kv d y;(repeat' (first|refine wk ?_|((with_reducible (first|apply Fj|apply zc2));exact f _ Ex;intro E g D o n s;(try simp only[C9]at o n);subst s)));exact zr Ex rfl
def parts:List FuncId:=[44,45,46,47,48,49,50,51,52,53,54,55]
def RPs:Prop:=∀g∈parts,∀(ss:List Abn) (q:Qr) (vc vo vm sv:AV) (x:Nat) (a b:Abn) (cv:AV) (h:H),Qst ss q vc vo vm sv x a b cv h->SsV ss->QOk ss q->GP h->Ah h ok0 (Z.call g [.ptr x 0] h)
def Bfn(x:Nat)(p:uw × FuncId):uz:=[.str p.1,.fn (.func p.2) [.ptr x 0] []]
def Cbn{g:FuncId}(c:g∈parts)(x:Nat)(h:H):cvV (.fn (.func g) [.ptr x 0] []) [] prog Z h=Z.call g [.ptr x 0] h:=by
 have hb:Bg prog g=true:=by
  have d:(parts.all λg=>Bg prog g)=true:=by kernel_rfl
  exact Od.1 d g c
 rw[AeY,Xo hb];rfl
def A1d:List (uw × FuncId):=[([115,99,104,101,109,97,115],44),([107,105,110,100],45),([116,97,98,108,101],46),(wv,47),(wj,48),(ug,49),(uh,50),([114,97,110,103,101],51),([99,111,108,117,109,110],52),([114,97,110,103,101,115],53),(uc,54),(wy,55)]
def B7v{i:Nat}{p:uw × FuncId}(h:A1d[i]?=some p):p.2∈parts:=by have h1:p.2∈A1d.map Prod.snd:=Of (Vl h);exact h1
def B7h(t:GP h)(B:RPs Z)(K:Qst ss q vc vo vm sv x a b cv h)(G:SsV ss)(D:QOk ss q)(v:AV)(A:R0 2 (Bfn x) h v A1d):
 ∀(k:Nat) (i:Int) (n:Nat) (hd:H) (f0:L2),i+(k:Int)=12->0<=i->k<n->Ai h hd->Ah h (λr _=>r=.Bj [iI 0,.str []]) (Ble Z N n v (iI 12) (iI i) f0 hd)
 |0,i,n,hd,f0,M,E,hn,y=>by obtain⟨n1,rfl⟩:=mg n;have w:decide (i<(12:Int))=false:=df;rw[B5l];refine wk ?_;exact zr y rfl
 |k+1,i,n,hd,f0,M,E,hn,y=>by
  obtain⟨n1,rfl⟩:=mg n;have C:=B7h t B K G D v A k (i+1) n1;have w:decide (i<(12:Int))=true:=dt;have j:i.toNat<A1d.length:=by show i.toNat<12;omega
  obtain⟨p,z⟩:∃x,A1d[i.toNat]?=some x:=⟨_,Yq j⟩;have c:=B7v z;obtain⟨b1,O,el⟩:=R0.elem (f:=Bfn x) (s:=2) (λ_=>rfl) A z;have F:=el.ia;rw[Tb E]at F;have L:=el.all;have d:=λu (e:Ai h u)=>B p.2 c ss q vc vo vm sv x a b cv u (K.gr e) G D (t.gr e);have Kf:=y.lo;have o:F5 (∀h,cvV (.fn (.func p.2) [.ptr x 0] []) [] prog Z h=Z.call p.2 [.ptr x 0] h):=Cbn Z c x;replace d:=(hU d)
  replace C:=(hU C)
  obtain⟨P,g⟩:=p;simp only at d o;clear el z c A K B j;rw[B5l];repeat' (first|with_reducible (first|apply A7|apply A8|apply A9|apply Ba)|(with_reducible (first|apply Cy|apply Cz|apply C0|apply C1);(conv=>lhs;simp(disch:=first|exact dA|fail) [lw, *,w,F,L,Bfn]);with_reducible (first|apply A7|apply A8|apply A9|apply Ba|apply Cu|(refine Cv (by simp) ?_)|apply Cx))|(with_reducible (first|apply Kl);(conv=>lhs;simp only[zw,w]))|(refine zqq ?_ ?_<;>intro Q<;>(try (exfalso;omega)))|fail)
  refine gvR ?_;rw[(gw o)]
  refine Fj ((gw d) _ Ex) λv1 h1 e1 l1 J I=>?_
  subst I;have g1:Ai h h1:=Ai.trans Ex e1;clear d;refine wk ?_;exact(gw C) _ _ om om om g1
def R18:Prop:=∀(ss:List Abn) (q:Qr) (vc vo vm sv:AV) (h:H),SsD h sv ss->ss.length<=3->SsV ss->QV h q vc vo vm->QOk ss q->GP h->Ah h (λr _=>r=.Bj [iI 0,.str []]) (Z.call 19 [.agg (qc q vc vo vm),sv] h)
def A0z.qst{lo:Nat}{r:AV}{h1:H}(e:A0z ss q vc vo vm sv lo r h1)(t:SsD h1 sv ss)(g:ss.length<=3)(hq:QV h1 q vc vo vm):∃x a b cv,r=.Bj [.ptr x 0,ux]/\lo<=x/\Qst ss q vc vo vm sv x a b cv h1:=by obtain⟨x,a,b,cv,h1,h2,s,j,p,d,n,f⟩:=e;exact⟨x,a,b,cv,h1,h2,s,j,p,d,n,f,t,g,hq.c,hq.o,hq.m⟩
def Aqh.has(h:Aqh ss q):(∃a∈ss,a.name=q.Uw)/\(q.Wu=[]\/∃b∈ss,b.name=q.Wu):=by obtain⟨a,h1,h2,_,e⟩:=h.tbl;refine⟨⟨a,h1,h2⟩,e.imp (λh=>h.1) λ⟨b,d,c,_⟩=>⟨b,d,c⟩⟩
set_option maxHeartbeats 1000000 in
def r18(Q:1000<N)(d:R46 Z)(C:RPs Z)(ss:List Abn)(q:Qr)(vc vo vm sv:AV)(h:H)(y:SsD h sv ss)(B:ss.length<=3)(D:SsV ss)(hq:QV h q vc vo vm)(j:QOk ss q)(I:GP h):Ah h (λr _=>r=.Bj [iI 0,.str []]) (Ay prog Z N false 19 [.agg (qc q vc vo vm),sv] h):=by
 rw[e18];obtain⟨c1,c2⟩:=B2 hq.c;obtain⟨G,F⟩:=B2 hq.o;obtain⟨J,E⟩:=B2 hq.m;have p:=λs (e:Bi h s)=>d ss q vc vo vm sv s (y.By e) B ⟨c1,c2⟩ ⟨G,F⟩ ⟨J,E⟩ j.pre.has.1 j.pre.has.2;have go:∀(h1 h2:H) (x:Nat) (a b:Abn) (cv:AV) (f0:L2),Ai h h1->Qst ss q vc vo vm sv x a b cv h1->h2=h1.new (cd (A1d.flatMap (Bfn x)) 110)->Ah h (λr _=>r=.Bj [iI 0,.str []]) (Ble Z N N (.sl h1.nx 0 12 12 2 true) (iI 12) (iI 0) f0 h2):=by intro h1 h2 x a b cv f0 g K t;subst t;have g1:=(Ai.refl h1).new (cd (A1d.flatMap (Bfn x)) 110);exact Ah.of (g.trans g1) (B7h Z N (I.gr (g.trans g1)) C (K.gr g1) D j _ (Sl.lit (Bf _) rfl rfl) 12 0 N _ f0 rfl om om (Ai.refl _))
 have n:=λ(h1:H) (e:Ai h h1) (lo:Nat) (r:AV) A=>A0z.qst (lo:=lo) (r:=r) A (y.By e.keeps) B (hq.By e.keeps);replace p:=(hU p)
 replace go:=(hU go)
 replace n:=(hU n)
 clear y hq j C d D;obtain⟨c0,code,d2,d3,c4,c5,s6,c7,ord,c9,Wz,Uw,W0,O,L,M,U3,E9,Oi,Mg⟩:=q;refine wk ?_;refine Fj ((gw p) _ M0) λv1 h1 e1 l1 w z=>?_
 have g1:Ai h h1:=Ai.trans Ex e1;obtain⟨x,a,b,cv,rfl,P,K⟩:=(gw n) h1 g1 _ _ z
 have u:=λh2 f t=>(gw go) h1 h2 x a b cv f g1 K t
 replace u:=(hU u)
 clear n go p K e1 l1 w z;refine wk ?_;exact(gw u) _ _ rfl
structure CsK(h:H)(cv:AV)(A1:List Aaw):Prop where
 r:CsR h cv A1
 w:∀c∈A1,c.ws≠[]->Ig h c.w c.ws
 ln:∀c∈A1,∀hh,Fo c.w hh=.ok (iI (c.ws.length:Int)) hh
def Fm.same{s lo len:Nat}{et:TypeId}{h h1:H}{v:AV}{c:uz}(o:Fm s lo et h v len c)(f:len≠0)(hn:h.nx<=h1.nx)(j:∀b,lo<=b->b<h.nx->h1.m.get b=h.m.get b):Fm s lo et h1 v len c:=by
 rcases o with⟨h0,_⟩|⟨h0,_⟩|⟨b,k,st,u,t,r,e,n,d,g,p⟩
 .exact absurd h0 f
 .exact absurd h0 f
 .exact .inr (.inr ⟨b,k,st,u,(j b e d).trans t,(j k n g).trans r,e,n,Yy d hn,Yy g hn,p⟩)
def Cl4(h:H):Aj prog .eql 98 true .Bv .Bv h=.ok ux h:=by kernel_rfl
def Cl8(b o l c s:Nat)(ex:Bool)(h:H):Aj prog .eql 98 true (.sl b o l c s ex) .Bv h=.ok ct h:=by kernel_rfl
def Cl7(b o l c s:Nat)(ex:Bool)(h:H):Aj prog .eql 80 true (.sl b o l c s ex) .Bv h=.ok ct h:=by kernel_rfl
def Bli(ws:List uw)(lo:Nat)(r:AV)(h1:H):Prop:=(Ge r=true/\cellsOf r=some [r])/\(ws≠[]->Fm 1 lo 9 h1 r ws.length (ws.flatMap Aeb))/\∀c,Fo r c=.ok (iI (ws.length:Int)) c
def R96:Prop:=∀(ws:List uw) (v:AV) (h:H),Ig h v ws->ws.length<=1000->Ah h (Bli ws h.nx) (Z.call 167 [v] h)
def r96(ws:List uw)(v:AV)(h:H)(e:Ig h v ws)(j:ws.length<=1000):Ah h (Bli ws h.nx) (ml Z N 167 [v] h):=by
 rw[e96];rcases e with⟨h1,h2,rfl⟩|⟨b,off,cap,ex,cs,rfl,h2⟩
 .refine Ey (Cl4 h) (Zx ?_);refine Lo (Ai.refl h) ⟨⟨rfl,rfl⟩,λd=>absurd (T5.1 h1) d,λd=>by rw[h1];rfl⟩
 .obtain⟨w,h',f,g,c⟩:=cp (bytes:=16) (et:=9) (lo:=h.nx) om (show Ig h _ ws from .inr ⟨b,off,cap,ex,cs,rfl,h2⟩) (Ama ws) (Ye _)
  refine Ey (Cl8 ..) (Ae5 ?_);refine Ey (v:=.sl h.nx 0 0 0 1 true) (h:=h.new (cd [] 9)) rfl ?_;exact Ey f (Lo g ⟨B2 c.sl,λ_=>c,λ_=>c.sl.Gs⟩)
def R95:Prop:=∀(l:List Aaw) (v:AV) (h:H),CsR h v l->l≠[]->Ah h (λr h1=>Fm 4 h.nx 100 h1 r l.length (l.flatMap Hx)) (Z.call 166 [v] h)
def r95(l:List Aaw)(v:AV)(h:H)(c:CsR h v l)(e:l≠[]):Ah h (λr h1=>Fm 4 h.nx 100 h1 r l.length (l.flatMap Hx)) (ml Z N 166 [v] h):=by
 rw[e95];have j:=c.Mu;obtain⟨w,h',d,g,f⟩:=cp (bytes:=56) (et:=100) (lo:=h.nx) om c.sl (BbH c.one) (Ye _);rcases c.sl with⟨h1,_⟩|⟨b,off,cap,ex,cs,rfl,h2⟩
 .exact absurd (T5.1 h1) e
 .refine Ey (Cl7 ..) (Ae5 ?_);refine Ey (v:=.sl h.nx 0 0 0 4 true) (h:=h.new (cd [] 100)) rfl ?_;exact Ey d (Lo g f)
def B4o{h:H}{b k o n:Nat}{cs:uz}{et:TypeId}{w:AV}(e:h.m.get b=.cells cs et (.Gt k))(f:h.m.get k=.Fb n)(d:o<cs.length)(c:Ge w=true/\cellsOf w=some [w]):A4 1 (.ptr b o) w h=.ok (.Bj []) ((h.put b (.cells (cs.set o w) et (.Gt k))).put k (.Fb (n+1))):=by have h1:o+1<=cs.length:=d;rw[Tz,Xo d];simp[e,f,Kh,h1,c.1,c.2]
def BmT:∀{l:List Aaw} {i:Nat} {c:Aaw} (w:AV),l[i]?=some c->(l.flatMap Hx).set (4*i+3) w=(l.set i { c with w:=w }).flatMap Hx
|[],i,c,w,h=>by cases h
|d::l,0,c,w,h=>by
 obtain rfl:d=c:=by simpa using h
 rfl
|d::l,i+1,c,w,h=>by
 have e:=BmT (l:=l) (i:=i) (c:=c) w (by simpa using h);rw[show 4*(i+1)+3=(4*i+3)+1+1+1+1 by omega]
 simp[e]
structure CpB(h0:H)(bx b2 bc k lo:Nat):Prop where
 p1:h0.nx<=bx
 p2:h0.nx<=b2
 p3:h0.nx<=bc
 p4:h0.nx<=k
 l1:bx<lo
 l2:b2<lo
 l3:bc<lo
 l4:k<lo
 n1:bx≠bc
 n2:bx≠k
 n3:b2≠bc
 n4:b2≠k
 n5:bc≠k
structure CpI(h0:H)(A1:List Aaw)(bx b2 bc k lo:Nat)(h:H)(i:Nat)(m:List Aaw):Prop where
 g:Ai h0 h
 Kf:lo<=h.nx
 box:h.m.get bx=.cells [.str [],.bool false,iI 0,.sl bc 0 A1.length A1.length 4 false] 82 .exact
 Ckw:h.m.get b2=.cells [.str [],.bool false,iI 0,.Bv] 82 .exact
 arr:h.m.get bc=.cells (m.flatMap Hx) 100 (.Gt k)
 Fb:∃n,h.m.get k=.Fb n
 Px:m.map Px=A1.map Px
 new:∀j c,j<i->m[j]?=some c->Bli c.ws lo c.w h
 Cf:∀j,i<=j->m[j]?=A1[j]?
variable {h0 h1:H}{m:List Aaw}{bx b2 bc k i:Nat}
def CpI.len(K:CpI h0 A1 bx b2 bc k lo h i m):m.length=A1.length:=by have:=Jh List.length K.Px;simpa using this
def CpI.slf(B:CpB h0 bx b2 bc k lo)(K:CpI h0 A1 bx b2 bc k lo h i m):R0 4 Hx h (.sl bc 0 A1.length A1.length 4 false) m:=by have c:=K.len;have Kf:=K.Kf;have h1:=B.l3;show Sl 4 h _ m.length _;rw[<- c];have e:(m.flatMap Hx).length=m.length*4:=Aa9 (f:=Hx) (s:=4) (λ_=>rfl) m;exact .inr ⟨bc,0,m.length,false,_,rfl,Ye _,⟨by omega,_,_,K.arr,trivial⟩,by omega,by rw[Cp,R4 om]⟩
def CpI.next(B:CpB h0 bx b2 bc k lo)(K:CpI h0 A1 bx b2 bc k lo h i m){c:Aaw}(o:m[i]?=some c){h9 hz:H}{w:AV}{n:Nat}(f:Ai h h9)(g:Bli c.ws h.nx w h9)(s:Ai h0 hz)(z:hz.nx=h9.nx)(u:hz.m.get bc=.cells ((m.flatMap Hx).set (4*i+3) w) 100 (.Gt k))(r:hz.m.get k=.Fb n)(z3:∀b,b≠bc->b≠k->hz.m.get b=h9.m.get b):CpI h0 A1 bx b2 bc k lo hz (i+1) (m.set i { c with w:=w }):=by
 have Kf:=K.Kf;have A:=f.lo;have hi:=(Xh.1 o).1;have same:∀{ws:List uw} {v:AV},Bli ws lo v h9->Bli ws lo v hz:=λ{ws v} q=>⟨q.1,λe=>Fm.same (q.2.1 e) (λt=>e (T5.1 t)) om λb h1 h2=>z3 b (by have:=B.l3;omega) (by have:=B.l4;omega),q.2.2⟩
 have b1:=B.l1;have y:=B.l2;refine⟨s,by omega,?_,?_,?_,⟨n,r⟩,?_,?_,?_⟩
 .rw[z3 bx B.n1 B.n2,f.Cf bx om];exact K.box
 .rw[z3 b2 B.n3 B.n4,f.Cf b2 om];exact K.Ckw
 .rw[u,BmT w o]
 .rw[List.map_set,K.Px.symm];apply dg;intro j;rw[O5];split
  .rename_i hj;subst hj;rw[Cn,o];simp[hi,Go.Proofs.Px]
  .rfl
 .intro j d hj hd;rw[O5]at hd;split at hd
  .rename_i p;subst p;obtain rfl:=Ck hd;exact same ⟨g.1,λe=>(g.2.1 e).one Kf,g.2.2⟩
  .have q:=K.new j d om hd;exact same ⟨q.1,λe=>(q.2.1 e).gr f,q.2.2⟩
 .intro j hj;rw[O5,X2 om];exact K.Cf j om
def CpI.csk(B:CpB h0 bx b2 bc k lo)(K:CpI h0 A1 bx b2 bc k lo h A1.length m)(r:A1.length<=50){hz:H}(n:h.nx<=hz.nx)(z:∀b,b≠b2->hz.m.get b=h.m.get b):CsK hz (.sl bc 0 A1.length A1.length 4 false) m:=by
 have o:=K.len;have Kf:=K.Kf;have h1:=B.l3;have h2:=B.l2;have sl:R0 4 Hx hz (.sl bc 0 A1.length A1.length 4 false) m:=by show Sl 4 hz _ m.length _;rw[<- o];have e:(m.flatMap Hx).length=m.length*4:=Aa9 (f:=Hx) (s:=4) (λ_=>rfl) m;exact .inr ⟨bc,0,m.length,false,_,rfl,Ye _,⟨by omega,_,_,(z bc B.n3.symm).trans K.arr,trivial⟩,by omega,by rw[Cp,R4 om]⟩
 refine⟨⟨sl,λc d=>?_,by omega⟩,λc d g=>?_,λc d=>?_⟩;all_goals
  obtain⟨j,hj⟩:=Oh d;have q:=K.new j c (by have:=(Xh.1 hj).1;omega) hj
 .exact q.1
 .exact(Fm.same (q.2.1 g) (λp=>g (T5.1 p)) n λb u t=>z b om).sl
 .exact q.2.2
def KzV(h:H)(v:AV):Prop:=∀b off len cap z ex,v=.sl b off len cap z ex->b<h.nx/\∀k,B5 (h.m.get b)=some k->k<h.nx
def Blc(A1:List Aaw)(r:AV)(h1:H):Prop:=∃v m,r=.agg [.str [],ct,iI 0,v]/\m.map Px=A1.map Px/\CsK h1 v m/\KzV h1 v
structure CsW(h:H)(cv:AV)(A1:List Aaw):Prop where
 r:CsR h cv A1
 w:∀c∈A1,Ig h c.w c.ws/\c.ws.length<=1000
set_option maxHeartbeats 1000000 in
def B7l(I:R96 Z)(B:CpB h0 bx b2 bc k lo)(Y:A1.length<=50)(C:∀c∈A1,Ig h0 c.w c.ws/\c.ws.length<=1000):
 ∀(u i:Nat) (p:Int) (n:Nat) (hd:H) (m:List Aaw) (f0:L2),i+u=A1.length->p=(i:Int)->u<n->CpI h0 A1 bx b2 bc k lo hd i m->Ah h0 (Blc A1) (Bxw Z N n (.ptr bx 0) (.ptr b2 0) (iI (A1.length:Int)) (iI p) f0 hd)
 |0,i,p,n,hd,m,f0,U,d,hn,K=>by
  obtain⟨n1,rfl⟩:=mg n;have k1:decide (p<(A1.length:Int))=false:=df;obtain rfl:i=A1.length:=by omega
  have gb:=K.box;have gb2:=K.Ckw;have g:=K.g;have p2:=B.p2;have Kf:=K.Kf;have G8:=B.l2;have t:∀o,Blc A1 (.agg [.str [],ct,iI 0,.sl bc 0 A1.length A1.length 4 false]) (hd.put b2 o):=λo=>⟨_,m,rfl,K.Px,K.csk B Y (Ye _) λb hb=>Aq _ _ _ hb,λb off len cap z ex hv=>by
   cases hv;have h3:=B.l3;have h4:=B.l4;refine⟨show bc<hd.nx by omega,λk' X=>?_⟩
   rw[Aq _ _ _ B.n3.symm,K.arr]at X;obtain rfl:k=k':=Ck X;show k<hd.nx;omega⟩
  replace t:=(hU t)
  clear K B C d U;rw[B5P];refine wk ?_;exact zr Ex ((gw t) _)
 |u+1,i,p,n,hd,m,f0,U,d,hn,K=>by
  obtain⟨n1,rfl⟩:=mg n;have ih:=B7l I B Y C u (i+1) (p+1) n1;have k1:decide (p<(A1.length:Int))=true:=dt;have F:=K.len;obtain⟨c,J⟩:∃x,m[i]?=some x:=⟨_,Yq om⟩;have O0:A1[i]?=some c:=by rw[<- K.Cf i (Ye _)];exact J
  obtain⟨E,Ox⟩:=C c (Vl O0);have gb:=K.box;have g:=K.g;have j:=λr (e:Bi hd r)=>I c.ws c.w r (Sl.By E (g.keeps.trans e)) Ox;obtain⟨b1,o1,el⟩:=R0.elem (f:=Hx) (s:=4) (λ_=>rfl) (K.slf B) J;have x1:=el.ia;rw[<- d]at x1;have x3:=el.part 3 _ rfl;have ho:∀r,Gc 4 (.sl bc 0 A1.length A1.length 4 false) (iI (i:Int)) r=.ok (.ptr bc (4*i)) r:=λr=>by rw[Agr 4 bc 0 A1.length A1.length 4 false i om];simp[Ot]
  rw[<- d]at ho;obtain⟨e1,e2⟩:bc=b1/\o1=4*i:=by have:=(x1 hd).symm.trans (ho hd);injection this with t1 t2;injection t1 with t3 t4;exact⟨t3.symm,t4⟩
  subst e1 e2;obtain⟨nn,P⟩:=K.Fb;have S:=K.arr;have Kf:=K.Kf;have l1:=B.l1;have l3:=B.l3;have l4:=B.l4;have p3:=B.p3;have p4:=B.p4;have n1':=B.n1;have n5:=B.n5;have hil:=(Xh.1 J).1;have Q:4*i+3<(m.flatMap Hx).length:=by rw[Aa9 (f:=Hx) (s:=4) (λ_=>rfl) m];omega
  have y:=λ{h9 hz:H} {w:AV} {n:Nat} (O:Ai hd h9) C gz R M L z3=>K.next B J (h9:=h9) (hz:=hz) (w:=w) (n:=n) O C gz R M L z3;have hb':bx<hd.nx:=by omega
  have hr1:0<=p:=by omega
  have hr2:p<=50:=by omega
  have go:=λhz T f=>ih hz T f om om om;replace go:=(hU go)
  replace j:=(hU j)
  replace y:=(show F5 (∀{h9 hz:H} {w:AV} {n:Nat},Ai hd h9->Bli c.ws hd.nx w h9->Ai h0 hz->hz.nx=h9.nx->hz.m.get bc=.cells ((m.flatMap Hx).set (4*i+3) w) 100 (.Gt k)->hz.m.get k=.Fb n->(∀b,b≠bc->b≠k->hz.m.get b=h9.m.get b)->CpI h0 A1 bx b2 bc k lo hz (i+1) (m.set i { c with w:=w }))from y)
  clear K B J O0 E el ih C d U F Ox;rw[B5P];refine wk ?_;refine Fj ((gw j) _ M0) λw9 h9 W l9 A V=>?_
  have G:=Ai.quiet W;have O:Ai hd h9:=W.Rc.Rc;try simp only[C9]at l9 A G
  have a9:=(A bc om).trans S;have c9:=(A k om).trans P;have Vt:=B4o (h:=Ab h9) (o:=4*i+3) a9 c9 Q V.1;clear j;refine wd ?_;have D:Ai h0 (Be (k::bc::hd.lg) (((Ab h9).put bc (.cells ((m.flatMap Hx).set (4*i+3) w9) 100 (.Gt k))).put k (.Fb (nn+1)))):=Ex;generalize j:Be (k::bc::hd.lg) _=hz at D ⊢;have R:hz.nx=h9.nx:=by rw[<- j];rfl
  have M:hz.m.get bc=.cells ((m.flatMap Hx).set (4*i+3) w9) 100 (.Gt k):=by rw[<- j];exact(Aq _ _ _ n5).trans (A2 ..)
  have L:hz.m.get k=.Fb (nn+1):=by rw[<- j];exact A2 ..
  have z3:∀b,b≠bc->b≠k->hz.m.get b=h9.m.get b:=by intro b y1 y2;rw[<- j];exact(Aq _ _ _ y2).trans (Aq _ _ _ y1)
  have K2:=(show ∀{h9 hz:H} {w:AV} {n:Nat},Ai hd h9->Bli c.ws hd.nx w h9->Ai h0 hz->hz.nx=h9.nx->hz.m.get bc=.cells ((m.flatMap Hx).set (4*i+3) w) 100 (.Gt k)->hz.m.get k=.Fb n->(∀b,b≠bc->b≠k->hz.m.get b=h9.m.get b)->CpI h0 A1 bx b2 bc k lo hz (i+1) (m.set i { c with w:=w })from y) O V D R M L z3
  clear j M L z3 Vt G a9 c9;exact(gw go) _ _ _ K2
def R60:Prop:=∀(A1:List Aaw) (v:AV) (h:H),CsW h v A1->A1≠[]->Ah h (Blc A1) (Z.call 140 [.agg [.str [],ct,iI 0,v]] h)
set_option maxHeartbeats 1000000 in
def r60(R:100<N)(g:R95 Z)(f:R96 Z)(A1:List Aaw)(v:AV)(h:H)(n:CsW h v A1)(s:A1≠[]):Ah h (Blc A1) (Ay prog Z N false 140 [.agg [.str [],ct,iI 0,v]] h):=by
 rw[e60];obtain⟨P,O⟩:=B2 n.r.sl;have E:=n.r.Mu;have o:=λp (e:Bi h p)=>g A1 v p (n.r.By e) s;replace f:=(hU f)
 have u:=n.w;have Q:0<A1.length:=Kd.2 s;replace o:=(hU o)
 replace u:=(hU u)
 clear n g s;refine wk ?_;refine Fj ((gw o) _ M0) λw A z B d t=>?_
 have g5:Ai h A:=Ai.trans Ex z;simp only[C9]at B d;rcases t with⟨C,_⟩|⟨C,_⟩|⟨bc,k,st,rfl,I,D,F,t,M,K,G,J⟩
 .omega
 .omega
 simp only[C9]at F t;have L:=(d h.nx om).trans ((Cq (h:=h.new _) _ h.nx (by show h.nx≠h.nx+1;omega)).trans (Bf _))
 have y:=(d (h.nx+1) om).trans (Bf (h:=h.new _) _);clear o d z;refine wk ?_;refine B7l Z N (show R96 Z from f) (h0:=h) (A1:=A1) (bx:=h.nx) (b2:=h.nx+1) (bc:=bc) (k:=k) (lo:=A.nx) ⟨Ye _,by omega,by omega,by omega,by omega,by omega,by omega,by omega,by omega,by omega,by omega,by omega,G⟩ E (gw u) A1.length 0 0 N _ A1 _ om rfl om ⟨Ex,Ye _,A2 ..,?_,?_,⟨st,?_⟩,rfl,λj c hj=>absurd hj (dx _),λj _=>rfl⟩
 .exact(Aq _ _ _ om).trans y
 .exact(Aq _ _ _ om).trans I
 .exact(Aq _ _ _ om).trans D
def B4U(ss:List Abn)(q:Qr)(r:AV)(h1:H):Prop:=∃m,m.map Px=(AaF ss q).map Px/\CsK h1 r m/\KzV h1 r
def R19:Prop:=∀(ss:List Abn) (q:Qr) (vc vo vm sv:AV) (h:H),SsD h sv ss->ss.length<=3->SsV ss->QV h q vc vo vm->QOk ss q->Ah h (B4U ss q) (Z.call 104 [.agg (qc q vc vo vm),sv] h)
set_option maxHeartbeats 1000000 in
def r19(p:R46 Z)(n:R59 Z)(j:R60 Z)(ss:List Abn)(q:Qr)(vc vo vm sv:AV)(h:H)(B:SsD h sv ss)(D:ss.length<=3)(U:SsV ss)(hq:QV h q vc vo vm)(C:QOk ss q):Ah h (B4U ss q) (Ay prog Z N false 104 [.agg (qc q vc vo vm),sv] h):=by
 rw[e19];obtain⟨c1,c2⟩:=B2 hq.c;obtain⟨S,R⟩:=B2 hq.o;obtain⟨T,M⟩:=B2 hq.m;have z:=λf (e:Bi h f)=>p ss q vc vo vm sv f (B.By e) D ⟨c1,c2⟩ ⟨S,R⟩ ⟨T,M⟩ C.pre.has.1 C.pre.has.2;have hA:=λf (e:Bi h f)=>n sv ss f (B.By e) D;have y:=λ(h1:H) (e:Ai h h1) (lo:Nat) (r:AV) I=>A0z.qst (lo:=lo) (r:=r) I (B.By e.keeps) D (hq.By e.keeps);have u:∀(x:Nat) (a b:Abn) (cv:AV) (h1:H),Qst ss q vc vo vm sv x a b cv h1->(∀f,Bi h1 f->Ah f (Blc (AaF ss q)) (Z.call 140 [.agg [.str [],ct,iI 0,cv]] f))/\(Ge cv=true/\cellsOf cv=some [cv])/\x<h1.nx/\h1.m.get x=cd (qsC q vc vo vm sv a b cv) 148:=by
  intro x a b cv h1 K;refine⟨λf e=>j (AaF ss q) cv f ?_ ?_,B2 K.cs.sl,K.lt,K.get⟩
  .rw[<- K.A1];refine⟨K.cs.By e,λc t=>?_⟩;obtain⟨s,E,J⟩:=K.Zn t;have A:=(K.sd.d s E).cs;have h4:=(A.ok c J).2.Mu;exact⟨Sl.By (A.w c J) e,by omega⟩
  .rw[<- K.A1];have:=(K.sd.d a K.ha).ne;simp[this]
 replace z:=(hU z)
 replace hA:=(hU hA)
 replace y:=(hU y)
 replace u:=(hU u)
 clear B hq C p U n j;obtain⟨c0,code,d2,d3,c4,c5,s6,c7,ord,c9,Wz,Uw,W0,Yc,V,X,U3,E9,Oi,Mg⟩:=q;refine wk ?_;refine Fj ((gw hA) _ M0) λv1 h1 e1 l1 g P=>?_
 obtain rfl:v1=_:=P;simp only[C9]at l1 g;have g1:=(g h.nx om).trans (Bf _);refine wk ?_;refine Fj ((gw z) _ M0) λv2 h2 G l2 F L=>?_
 have g2:Ai h h2:=Ai.trans Ex G;obtain⟨x,a,b,cv,rfl,hx,K⟩:=(gw y) h2 g2 _ _ L
 obtain⟨t,⟨W,y2⟩,Y,y4⟩:=(gw u) x a b cv h2 K
 replace t:=(hU t)
 clear y u z hA K L e1 G g F;refine wk ?_;refine Fj ((show ∀f,Bi h2 f->Ah f _ (Z.call 140 [.agg [.str [],ct,iI 0,cv]] f)from t) _ M0) λv3 A e3 l3 O Q=>?_
 obtain⟨v,m,rfl,p1,p2,p3⟩:=Q;obtain⟨w1,w2⟩:=B2 p2.r.sl;refine Ey (v:=v) (h:=A) rfl ?_;exact zr Ex ⟨m,p1,p2,p3⟩
structure AmY(s lo:Nat)(h:H)(v:AV)(len:Nat)(c:List AV):Prop where
 sl:Sl s h v len c
 beh:W7 s lo v
def AmY.By{s lo len:Nat}{h h1:H}{v:AV}(k:AmY s lo h v len j)(e:Bi h h1):AmY s lo h1 v len j:=⟨Sl.By k.sl e,k.beh⟩
def AmY.put{s lo c len:Nat}{h:H}{v:AV}{cs l:uz}{e1:TypeId}(e:AmY s lo h v len cs)(u:c<lo)(f:Vu l.length (h.m.get c)=true):AmY s lo (h.put c (cd l e1)) v len cs:=by
 obtain⟨l0,o,f,g⟩:=Pb f;refine⟨Sl.AnO e.sl f g λh0 b off n cap z ex d=>?_,e.beh⟩;rcases e.sl with⟨_,_,h1⟩|⟨t,p,r,j,bs,h1,w,_⟩
 .rw[h1]at d;cases d
 .have h2:=e.beh b off n cap z ex d;rw[h1]at d;cases d;have:=h2 h0;omega
def AmY.own{s lo len:Nat}{et:TypeId}{h:H}{v:AV}(d:Fm s lo et h v len j):AmY s lo h v len j:=⟨d.sl,W7.own d⟩
def Ar0:∀l:List (Int × Int),Bm (l.flatMap Zd)=true
|[]=>rfl
|x::l=>by have c:=Ar0 l;simp[c]
abbrev CpN(lo:Nat)(h:H)(v:AV)(l:List Nd):Prop:=AmY 3 lo h v l.length (l.flatMap Bw)
abbrev CpO(lo:Nat)(h:H)(v:AV)(l:List (Int × Int)):Prop:=AmY 2 lo h v l.length (l.flatMap Zd)
def R26:Prop:=∀(l:List Nd) (v:AV) (h:H),Ue h v l->l.length<=10000000->Ah h (λr h1=>CpN h.nx h1 r l) (Z.call 20 [v] h)
def R27:Prop:=∀(l:List (Int × Int)) (v:AV) (h:H),OkS h v l->l.length<=10000000->Ah h (λr h1=>CpO h.nx h1 r l) (Z.call 21 [v] h)
def Cl2(h:H):Aj prog .eql 26 true .Bv .Bv h=.ok ux h:=by kernel_rfl
def Cl5(b o l c s:Nat)(ex:Bool)(h:H):Aj prog .eql 26 true (.sl b o l c s ex) .Bv h=.ok ct h:=by kernel_rfl
def Cl3(h:H):Aj prog .eql 27 true .Bv .Bv h=.ok ux h:=by kernel_rfl
def Cl6(b o l c s:Nat)(ex:Bool)(h:H):Aj prog .eql 27 true (.sl b o l c s ex) .Bv h=.ok ct h:=by kernel_rfl
def r26(l:List Nd)(v:AV)(h:H)(c:Ue h v l)(g:l.length<=10000000):Ah h (λr h1=>CpN h.nx h1 r l) (ml Z N 20 [v] h):=by
 rw[e26];rcases c with⟨h1,h2,rfl⟩|⟨b,off,cap,ex,cs,rfl,h2⟩
 .refine Ey (Cl2 h) (Zx ?_);exact Lo (Ai.refl h) ⟨.inl ⟨h1,h2,rfl⟩,W7.Bv 3 h.nx⟩
 .obtain⟨w,h',d,f,e⟩:=cp (bytes:=32) (et:=50) (lo:=h.nx) om (show Ue h _ l from .inr ⟨b,off,cap,ex,cs,rfl,h2⟩) (Tk l) (Ye _)
  refine Ey (Cl5 ..) (Ae5 ?_);refine Ey (v:=.sl h.nx 0 0 0 3 true) (h:=h.new (cd [] 50)) rfl ?_;exact Ey d (Lo f (AmY.own e))
def r27(l:List (Int × Int))(v:AV)(h:H)(c:OkS h v l)(g:l.length<=10000000):Ah h (λr h1=>CpO h.nx h1 r l) (ml Z N 21 [v] h):=by
 rw[e27];rcases c with⟨h1,h2,rfl⟩|⟨b,off,cap,ex,cs,rfl,h2⟩
 .refine Ey (Cl3 h) (Zx ?_);exact Lo (Ai.refl h) ⟨.inl ⟨h1,h2,rfl⟩,W7.Bv 2 h.nx⟩
 .obtain⟨w,h',d,f,e⟩:=cp (bytes:=16) (et:=48) (lo:=h.nx) om (show OkS h _ l from .inr ⟨b,off,cap,ex,cs,rfl,h2⟩) (Ar0 l) (Ye _)
  refine Ey (Cl6 ..) (Ae5 ?_);refine Ey (v:=.sl h.nx 0 0 0 2 true) (h:=h.new (cd [] 48)) rfl ?_;exact Ey d (Lo f (AmY.own e))
def CbJ(s:uw)(h:H):Ah h (λr _=>r=ct) (ml Z N 244 [.str s] h):=by rw[A7G];refine wk ?_;exact zr Ex rfl
end Go.Proofs
namespace Go.Proofs.Anf
open Go Go.Ev Go.Nm Go.Ev.Sx
open Go.Proofs Go.Proofs.YtahaaiadlgfchaaGreatDoor
variable {j:AV->H->Prop}{o:Bool}{p:FuncId}{I:H}{J:Nat}{R:AV}
abbrev C(d:Nat):Ac:=CZ d
def Gp{args:uz}{h0:H}{d:Nat}(e:ArK p=λ_=>none)(c:Ah h0 j (Ay PP (C d) N0x o p args I)):Ah h0 j ((C (d+1)).call p args I):=upZ c e
def upT{args:uz}{tk:Nat}(f:ArK p=λ_=>none)(n:D6 tk R I j (Ay PP (C J) N0x o p args I)):D6 tk R I j ((C (J+1)).call p args I):=by obtain⟨m,e,g⟩:=n;exact⟨m,e,Gp f g⟩
def pr{k:Nat}(h:k+1<=J):∃e,J=e+1/\k<=e:=⟨J-1,by omega,by omega⟩
def gvE{r:OR}(e:r=.ok R I)(q:j R I):Ah I j r:=⟨R,I,e,Ai.refl I,q⟩
def BiF(d:Nat)(hd:1<=d):Be1 (C d):=by obtain⟨e,rfl,c⟩:=pr hd;exact λs h=>Gp zNo (CbJ _ _ s h)
def f5F:List (uw × Adw.Ad2):=[([50],(2,1)),(tx,(3,2)),(uy,(11,10)),([51],(3,1)),(uj,(101,100))]
def ClA(p:uw × Adw.Ad2):Bool:=decide (p.1=ftx p.2)&&decide (p.2.1<Adw.AdE/\p.2.2<Adw.AdE/\0<p.2.2/\Nat.gcd p.2.1 p.2.2=1)&&decide (AsG p.2 f1=1)&&decide (AsG p.2 (1000000,1)=-1)
def Chd:f5F.all ClA=true:=by decide +kernel
def BxW{s:uw}(h:s∈Sw):∃f:Adw.Ad2,(s,f)∈f5F/\s=ftx f/\Adw.Fr f/\AsG f f1=1/\AsG f (1000000,1)=-1:=by
 obtain⟨p,c,rfl⟩:=dz.1 (show s∈f5F.map Prod.fst from h)
 have:=Od.1 Chd p c;simp only[ClA,Sc,W8]at this;obtain⟨⟨⟨h1,h2,n,e,j⟩,d⟩,g⟩:=this;exact⟨p.2,c,h1,⟨h2,n,e,j⟩,d,g⟩
def c92(d:Nat):R92 (C (d+1)):=by intro s h e c;obtain⟨f,_,rfl,g,_,_⟩:=BxW c;exact gvE (lkZ (d:=d) (zU (uV (vW t70))) (A5d g) h e) rfl
def CqU(d:Nat):CfB (C (d+1)):=by
 intro s h e c;obtain⟨f,_,rfl,g,h1,_⟩:=BxW c;have:=lkZ (d:=d) (zU (uV (vW t11))) (Awh g fr1) h e;rw[show ftx f1=[49]from rfl,show cpO f f1=.Bj [iI (AsG f f1),iI 0]from rfl,h1]at this
 exact gvE this rfl
def ClE:Adw.Fr (1000000,1):=⟨by show 1000000<1000000000;decide,by show 1<1000000000;decide,by show 0<1;decide,by decide⟩
def CqV(d:Nat):CfC (C (d+1)):=by
 intro s h e c;obtain⟨f,_,rfl,g,_,h1⟩:=BxW c;have:=lkZ (d:=d) (zU (uV (vW t11))) (Awh g ClE) h e;rw[show ftx (1000000,1)=uf by decide,show cpO f (1000000,1)=.Bj [iI (AsG f (1000000,1)),iI 0]from rfl,h1]at this
 exact gvE this rfl
def wts{D:Dom}{l:List Nd}(h:l=[]\/∃t,E7 D o t/\wt t<=Abo 3/\l=t.nodes):l=[]\/∃t,E7 D o t/\size t<=Abo 3/\l=t.nodes:=h.imp id λ⟨t,a,b,c⟩=>⟨t,a,Xy (Af3 t) b,c⟩
def c78(d:Nat)(hd:1<=d):R78 (C d):=by obtain⟨e,rfl,c⟩:=pr hd;exact λn k h h1 h2=>Gp zNo (r78 _ _ n k h h1 h2)
def c38(d:Nat)(hd:2<=d):R38 (C d):=by obtain⟨e,rfl,c⟩:=pr hd;exact λtk g L k h h1 h2 n f j=>upT zNo (r38 _ _ (c78 e c) tk g L k h h1 h2 n f j)
def c82(d:Nat)(hd:1<=d):R82 (C d):=by obtain⟨e,rfl,c⟩:=pr hd;exact λk h=>Gp zNo (r82 _ _ k h)
def A1Z(d:Nat)(hd:1<=d):Axa (C d):=by obtain⟨e,rfl,c⟩:=pr hd;exact λl v h h1 h2=>Gp zNo (A9Y _ _ l v h h1 h2)
def c81(d:Nat)(hd:3<=d):R81 (C d):=by obtain⟨e,rfl,c⟩:=pr hd;exact λtk f L nm h h1=>upT zNo (r81 _ _ (c38 e c) (c82 e om) (A1Z e om) tk f L nm h h1)
def c83(d:Nat)(hd:2<=d):R83 (C d):=by obtain⟨e,rfl,c⟩:=pr hd;exact λnm a b w ws h h1 h2=>Gp zNo (r83 _ _ (A1Z e c) nm a b w ws h h1 h2)
def c43(d:Nat)(hd:4<=d):R43 (C d):=by obtain⟨e,rfl,c⟩:=pr hd;exact λtk f L h h1=>upT zNo (r43 _ _ (c38 e om) (c81 e c) (c82 e om) (c83 e om) fe tk f L h h1)
def c15(d:Nat)(hd:5<=d):R15 (C d):=by obtain⟨e,rfl,c⟩:=pr hd;exact λf L h h1 h2=>Gp zNo (r15 _ _ (c43 e c) f L h h1 h2)
def c79(d:Nat)(hd:1<=d):R79 (C d):=by obtain⟨e,rfl,g⟩:=pr hd;exact λtk A1 cv i h h1 h2 f c=>Gp zNo (r79 _ _ fe tk A1 cv i h h1 h2 f c)
def c40(d:Nat)(hd:1<=d):R40 (C d):=by obtain⟨e,rfl,c⟩:=pr hd;exact λtk ss sv t o h h1 h2=>Gp zNo (r40 _ _ fe tk ss sv t o h h1 h2)
def c80:∀(k:Nat),k<=3->∀d,k+3<=d->R80 (C d) k/\R41 (C d) k
|0,_,d,hd=>by
 obtain⟨e,rfl,n⟩:=pr (show 2+1<=d by omega)
 exact⟨λtk f L cv A1 m h h1 h2 j c g=>upT zNo (r80 _ _ (c38 e n) 0 om (λe h=>by omega) tk f L cv A1 m h h1 h2 j c g),λtk f L cv A1 m h h1 h2 j c g=>upT zNo (r41 _ _ (c38 e n) (c79 e om) 0 om (λe h=>by omega) tk f L cv A1 m h h1 h2 j c g)⟩
|k+1,o,d,hd=>by
 obtain⟨e,rfl,n⟩:=pr (show 2+1<=d by omega)
 have p:∀x,k+1=x+1->R80 (C e) x/\R41 (C e) x:=λx r=>by
  obtain rfl:k=x:=by omega
  exact c80 k om e om
 exact⟨λtk f L cv A1 m h h1 h2 j c g=>upT zNo (r80 _ _ (c38 e n) (k+1) o p tk f L cv A1 m h h1 h2 j c g),λtk f L cv A1 m h h1 h2 j c g=>upT zNo (r41 _ _ (c38 e n) (c79 e om) (k+1) o p tk f L cv A1 m h h1 h2 j c g)⟩
def c39(d:Nat)(hd:3<=d):R39 (C d):=by obtain⟨e,rfl,f⟩:=pr hd;exact λtk g L c h q vc vo vm a b h1 h2=>Gp zNo (r39 _ _ (c38 e f) fe tk g L c h q vc vo vm a b h1 h2)
def c42(d:Nat)(hd:7<=d):R42 (C d):=by obtain⟨e,rfl,j⟩:=pr hd;exact λtk f L c h cv A1 q vm h1 h2 g=>Gp zNo (r42 _ _ (c38 e om) (c79 e om) (c80 3 om e om).1 fe tk f L c h cv A1 q vm h1 h2 g)
def c14(d:Nat)(hd:8<=d):R14 (C d):=by obtain⟨e,rfl,c⟩:=pr hd;exact λg sv L ss h h1 h2 j f=>Gp zNo (r14 _ _ (c38 e om) (c39 e om) (c40 e om) (c80 3 om e om).2 (c42 e c) g sv L ss h h1 h2 j f)
def c26(d:Nat)(hd:1<=d):R26 (C d):=by obtain⟨e,rfl,c⟩:=pr hd;exact λl v h h1 h2=>Gp zNo (r26 _ _ l v h h1 h2)
def c27(d:Nat)(hd:1<=d):R27 (C d):=by obtain⟨e,rfl,c⟩:=pr hd;exact λl v h h1 h2=>Gp zNo (r27 _ _ l v h h1 h2)
def Cqm(d:Nat)(hd:1<=d):Cfx (C d):=by obtain⟨e,rfl,s⟩:=pr hd;exact λj p n c r g o f=>Gp zNo (Cv9 _ _  j p n c r g o f)
def c193(d:Nat)(hd:1<=d):Cfz (C d):=by obtain⟨e,rfl,s⟩:=pr hd;exact λj p n c r g o f=>Gp zNo (CvN _ _  j p n c r g o f)
def Cql(d:Nat)(hd:2<=d):CjD (C d):=by obtain⟨e,rfl,u⟩:=pr hd;exact λn s o f t j r g p c=>Gp zNo (Cv8 _ _ fe (Cqm e om) n s o f t j r g p c)
def Cqv(d:Nat)(hd:2<=d):CjJ (C d):=by obtain⟨e,rfl,u⟩:=pr hd;exact λn s o f t j r g p c=>Gp zNo (CvM _ _ fe (c193 e om) n s o f t j r g p c)
def Cqu(d:Nat)(hd:1<=d):CjI (C d):=by obtain⟨e,rfl,p⟩:=pr hd;exact λg n j c o f=>Gp zNo (CvL _ _ fe g n j c o f)
def c138(d:Nat)(hd:2<=d):CjE (C d):=by obtain⟨e,rfl,p⟩:=pr hd;exact λg n j c o f=>Gp zNo (CvA _ _ (Cqu e om) g n j c o f)
def BiQ(d:Nat)(hd:1<=d):BeF (C d):=by obtain⟨e,rfl,p⟩:=pr hd;exact λg n j c o f=>Gp zNo (Bly _ _ fe g n j c o f)
def BiG(d:Nat)(hd:2<=d):Be2 (C d):=by obtain⟨e,rfl,p⟩:=pr hd;exact λg n j c o f=>Gp zNo (Blk _ _ (BiQ e om) g n j c o f)
def Cky(d:Nat)(hd:1<=d):Cfw (C d):=by obtain⟨e,rfl,g⟩:=pr hd;exact λf c=>Gp zNo (Cv7 _ _  f c)
def c84(d:Nat)(hd:3<=d):R84 (C d):=by obtain⟨e,rfl,o⟩:=pr hd;exact λf j g c n=>Gp zNo (r84 _ _ (Cql e om) (Cky e om) f j g c n)
def Ckz(d:Nat)(hd:3<=d):Cfy (C d):=by obtain⟨e,rfl,p⟩:=pr hd;exact λg n j c o f=>Gp zNo (CvB _ _ (Cqv e om) (Cky e om) g n j c o f)
def c87(d:Nat)(hd:4<=d):R87 (C d):=by obtain⟨e,rfl,p⟩:=pr hd;exact λg n j c o f=>Gp zNo (r87 _ _ (Ckz e om) g n j c o f)
def c90(d:Nat)(hd:1<=d):R90 (C d):=by obtain⟨e,rfl,g⟩:=pr hd;exact λf c=>Gp zNo (r90 _ _  f c)
def BiZ(d:Nat)(hd:1<=d):Bbx (C d):=by obtain⟨e,rfl,g⟩:=pr hd;exact λf c=>Gp zNo (Bl7 _ _  f c)
def BiY(d:Nat)(hd:2<=d):Bbw (C d):=by obtain⟨e,rfl,j⟩:=pr hd;exact λf c g=>Gp zNo (Bl6 _ _ (BiF e om) f c g)
def BiU(d:Nat)(hd:3<=d):Bbu (C d):=by obtain⟨e,rfl,r⟩:=pr hd;exact λg o j c p f n=>Gp zNo (Bl2 _ _ fe (BiY e om) (BiZ e om) g o j c p f n)
def BbO(d:Nat)(hd:4<=d):A7Y (C d):=by obtain⟨e,rfl,n⟩:=pr hd;exact λf j g c=>Gp zNo (Blt _ _ fe (BiU e om) f j g c)
def Cq9(d:Nat)(hd:5<=d):Cf3 (C d):=by obtain⟨e,rfl,n⟩:=pr hd;exact λf j g c=>Gp zNo (Cwd _ _ (BbO e om) f j g c)
def CqC(d:Nat)(hd:6<=d):CjR (C d):=by obtain⟨e,rfl,r⟩:=pr hd;exact λg o j c p f n=>Gp zNo (Cwf _ _ fe (Cq9 e om) g o j c p f n)
def Cq8(d:Nat)(hd:7<=d):CjP (C d):=by obtain⟨e,rfl,r⟩:=pr hd;exact λg o j c p f n=>Gp zNo (Cwc _ _ (CqC e om) g o j c p f n)
def Cq5(d:Nat)(hd:1<=d):Cf2 (C d):=by obtain⟨e,rfl,s⟩:=pr hd;exact λj p n c r g o f=>Gp zNo (Cwa _ _  j p n c r g o f)
def Ck5(d:Nat)(hd:2<=d):Ceu (C d):=by obtain⟨e,rfl,t⟩:=pr hd;exact λj r n c s g p f o=>Gp zNo (Cno _ _ fe (Cq5 e om) j r n c s g p f o)
def Cq4(d:Nat)(hd:3<=d):CjN (C d):=by obtain⟨e,rfl,t⟩:=pr hd;exact λj r n c s g p f o=>Gp zNo (CvZ _ _ (Ck5 e om) j r n c s g p f o)
def CqA(d:Nat)(hd:1<=d):CjQ (C d):=by obtain⟨e,rfl,r⟩:=pr hd;exact λg o j c p f n=>Gp zNo (Cwe _ _ fe g o j c p f n)
def Cq6(d:Nat)(hd:8<=d):CjO (C d):=by obtain⟨e,rfl,p⟩:=pr hd;exact λg n j c o f=>Gp zNo (Cwb _ _ (Cq8 e om) (CqA e om) g n j c o f)
def Ck6(d:Nat)(hd:9<=d):CaF (C d):=by obtain⟨e,rfl,s⟩:=pr hd;exact λj p n c r g o f=>Gp zNo (CvP _ _ (BbO e om) (Cq4 e om) (Cq6 e om) j p n c r g o f)
def Cqy(d:Nat)(hd:5<=d):Cp8 (C d):=by obtain⟨e,rfl,j⟩:=pr hd;exact λf c g=>Gp zNo (CvU _ _ (BbO e om) f c g)
def Cqz(d:Nat)(hd:1<=d):Cp9 (C d):=by obtain⟨e,rfl,j⟩:=pr hd;exact λf c g=>Gp zNo (CvV _ _  f c g)
def Cq0(d:Nat)(hd:1<=d):CpA (C d):=by obtain⟨e,rfl,j⟩:=pr hd;exact λf c g=>Gp zNo (CvW _ _  f c g)
def Cq1(d:Nat)(hd:1<=d):CpC (C d):=by obtain⟨e,rfl,j⟩:=pr hd;exact λf c g=>Gp zNo (CvX _ _  f c g)
def Cq2(d:Nat)(hd:10<=d):CjM (C d):=by obtain⟨e,rfl,j⟩:=pr hd;exact λf c g=>Gp zNo (CvY _ _ (Ck6 e om) fe f c g)
def Cqw(d:Nat)(hd:1<=d):CjL (C d):=by obtain⟨e,rfl,j⟩:=pr hd;exact λf c g=>Gp zNo (CvS _ _  f c g)
def c4(d:Nat)(hd:6<=d):RG4 (C d):=by
 rintro g (rfl|rfl|rfl|rfl)
 .exact Cqy d om
 .exact Cqz d om
 .exact Cq0 d om
 .exact Cq1 d om
def Cqx(d:Nat)(hd:7<=d):Cf1 (C d):=by obtain⟨e,rfl,t⟩:=pr hd;exact λj r n c s g p f o=>Gp zNo (CvT _ _ (c4 e om) j r n c s g p f o)
def Cqs(d:Nat)(hd:2<=d):CjH (C d):=by obtain⟨e,rfl,f⟩:=pr hd;exact λc=>Gp zNo (CvK _ _ (Cqw e om) c)
def c94(d:Nat)(hd:12<=d):R94 (C d):=by obtain⟨e,rfl,j⟩:=pr hd;exact λf c g=>Gp zNo (r94 _ _ (Cqs e om) (Cqx e om) (Cq2 e om) fe f c g)
def c59(d:Nat)(hd:13<=d):R59 (C d):=by obtain⟨e,rfl,o⟩:=pr hd;exact λf j g c n=>Gp zNo (r59 _ _ (c94 e om) (c84 e om) fe f j g c n)
def c46(d:Nat)(hd:4<=d):R46 (C d):=by obtain⟨e,rfl,A⟩:=pr hd;exact λs y t o z r w p u c g f n j=>Gp zNo (r46 _ _ (c84 e om) s y t o z r w p u c g f n j)
def Cqr(d:Nat)(hd:10<=d):CjG (C d):=by obtain⟨e,rfl,p⟩:=pr hd;exact λg n j c o f=>Gp zNo (CvI _ _ (Ck6 e om) g n j c o f)
def c91(d:Nat)(hd:11<=d):R91 (C d):=by obtain⟨e,rfl,p⟩:=pr hd;exact λg n j c o f=>Gp zNo (r91 _ _ (Cqr e om) g n j c o f)
def c88(d:Nat)(hd:1<=d):R88 (C d):=by obtain⟨e,rfl,r⟩:=pr hd;exact λg o j c p f n=>Gp zNo (r88 _ _ fe g o j c p f n)
def Ck0(d:Nat)(hd:1<=d):CaE (C d):=by obtain⟨e,rfl,r⟩:=pr hd;exact λg o j c p f n=>Gp zNo (CvH _ _ fe g o j c p f n)
def Cqq(d:Nat)(hd:1<=d):CaD (C d):=by obtain⟨e,rfl,u⟩:=pr hd;exact λn s o f t j r g p c=>Gp zNo (CvG _ _  n s o f t j r g p c)
def Cqp(d:Nat)(hd:2<=d):CaC (C d):=by obtain⟨e,rfl,y⟩:=pr hd;exact λp u r j w o t n s c g f=>Gp zNo (CvF _ _ (Ck0 e om) p u r j w o t n s c g f)
def c194(d:Nat)(hd:5<=d):CjK (C d):=by obtain⟨e,rfl,G⟩:=pr hd;exact λF A w u B E y D z p f j o s g r t n c=>Gp zNo (CvO _ _ (c87 e om) (BiG e om) F A w u B E y D z p f j o s g r t n c)
def Cqn(d:Nat)(hd:1<=d):CjF (C d):=by obtain⟨e,rfl,f⟩:=pr hd;exact λc=>Gp zNo (CvD _ _  c)
def Cqo(d:Nat)(hd:6<=d):CaB (C d):=by obtain⟨e,rfl,z⟩:=pr hd;exact λr w s n y p u o t c g f j=>Gp zNo (CvE _ _ (c87 e om) (c194 e om) r w s n y p u o t c g f j)
def c89(d:Nat)(hd:7<=d):R89 (C d):=by obtain⟨e,rfl,u⟩:=pr hd;exact λn s o f t j r g p c=>Gp zNo (r89 _ _ fe (Cqn e om) (Cqo e om) (Cqp e om) (Cqq e om) (Ck0 e om) n s o f t j r g p c)
def c95(d:Nat)(hd:1<=d):R95 (C d):=by obtain⟨e,rfl,o⟩:=pr hd;exact λf j g c n=>Gp zNo (r95 _ _  f j g c n)
def c96(d:Nat)(hd:1<=d):R96 (C d):=by obtain⟨e,rfl,o⟩:=pr hd;exact λf j g c n=>Gp zNo (r96 _ _  f j g c n)
def c60(d:Nat)(hd:2<=d):R60 (C d):=by obtain⟨e,rfl,o⟩:=pr hd;exact λf j g c n=>Gp zNo (r60 _ _ fe (c95 e om) (c96 e om) f j g c n)
def Mg(d:Nat)(hd:14<=d):R19 (C d):=by obtain⟨e,rfl,y⟩:=pr hd;exact λp u r j w o t n s c g f=>Gp zNo (r19 _ _ (c46 e om) (c59 e om) (c60 e om) p u r j w o t n s c g f)
def c86(d:Nat)(hd:3<=d):R86 (C d):=by obtain⟨e,rfl,g⟩:=pr hd;exact λss q vc vo vm sv x a b cv v l h h1 h2 f c=>Gp zNo (r86 _ _ (c138 e om) h1 h2 v l f c)
def c85(d:Nat)(hd:4<=d):R85 (C d):=by obtain⟨e,rfl,c⟩:=pr hd;exact λss q vc vo vm sv x a b cv h h1 h2=>Gp zNo (r85 _ _ (c86 e om) h1 h2)
def cPs(d:Nat)(hd:14<=d):RPs (C d):=by
 obtain⟨e,rfl,A⟩:=pr hd;obtain⟨f,n⟩:∃f,e=f+1:=⟨e-1,by omega⟩;intro g u ss q vc vo vm sv x a b cv h K j c s;obtain⟨q0,kv⟩:=c.kv;have t:=c.pre.kind;have r:R92 (C e):=by rw[n];exact c92 f
 have o:CfB (C e):=by rw[n];exact CqU f
 have p:CfC (C e):=by rw[n];exact CqV f
 have w:q.W0=0\/a.pub=false/\1<=q.W0/\q.W0<=4:=by obtain⟨y,h1,h2,z,_⟩:=c.pre.tbl;have:y=a:=A0R K.sd.nd h1 K.ha (h2.trans K.hn.symm);rw[<- this];exact z
 simp only[parts,Wf,Ww,fb]at u;rcases u with rfl|rfl|rfl|rfl|rfl|rfl|rfl|rfl|rfl|rfl|rfl|rfl
 .exact Gp zNo (r47 _ _ (c59 e om) K)
 .exact Gp zNo (r48 _ _ fe (c85 e om) (c86 e om) K t kv)
 .exact Gp zNo (r49 _ _ (c84 e om) K)
 .exact Gp zNo (r50 _ _ K w)
 .exact Gp zNo (r51 _ _ (c84 e om) (c87 e om) (c88 e om) K j c.pre)
 .exact Gp zNo (r52 _ _ (c89 e om) K j (wts c.E9))
 .exact Gp zNo (r53 _ _ (c85 e om) (c89 e om) K j kv (wts c.code))
 .exact Gp zNo (r54 _ _ (c85 e om) (c86 e om) (c90 e om) K t kv)
 .exact Gp zNo (r55 _ _ (c86 e om) (c87 e om) (c91 e om) K kv)
 .exact Gp zNo (r56 _ _ fe (c86 e om) (c87 e om) K j kv)
 .exact Gp zNo (r57 _ _ s r o p K c.pre.fac)
 .exact Gp zNo (r58 _ _ K c.pre.bits)
def c18(d:Nat)(hd:15<=d):R18 (C d):=by obtain⟨e,rfl,p⟩:=pr hd;exact λss q vc vo vm sv h g n j c o f=>Gp zNo (r18 _ _ fe (c46 e om) (cPs e om) ss q vc vo vm sv h g n j c o f)
end Go.Proofs.Anf
namespace Go.Proofs
open Go Go.Ev Go.Nm Tryz Go.Ev.Sx
open Go.Proofs.YtahaaiadlgfchaaGreatDoor
attribute [local irreducible] Aa Al Af Ad
variable (Z:Ac)(N:Nat)
variable {ss:List Abn}{q:Qr}{vc vo vm sv:AV}{a b:Abn}{h h1:H}
structure Ao5(ss:List Abn)(q:Qr)(vc vo vm sv:AV)(h:H):Prop where
 sd:SsD h sv ss
 l3:ss.length<=3
 V:SsV ss
 qv:QV h q vc vo vm
 ok:QOk ss q
 gp:GP h
def Ao5.gr(K:Ao5 ss q vc vo vm sv h)(e:Ai h h1):Ao5 ss q vc vo vm sv h1:=⟨K.sd.By e.keeps,K.l3,K.V,K.qv.By e.keeps,K.ok,K.gp.gr e⟩
def Ao5.fnd(g:R84 Z)(K:Ao5 ss q vc vo vm sv h)(ha:a∈ss):∃(i:Nat) (b o:Nat),(∀c,Ai h c->Ah c (λr _=>r=.Bj [iI (i:Int),ux]) (Z.call 92 [sv,.str a.name] c))/\(∀c,Gc 4 sv (iI (i:Int)) c=.ok (.ptr b o) c)/\(∀c,Bi h c->Ae (some none) (.ptr b (o+1)) c=.ok (.bool a.pub) c)/\∀c,Bi h c->Ae (some none) (.ptr b (o+2)) c=.ok (iI a.many) c:=by
 obtain⟨i,hi⟩:=List.mem_iff_getElem?.1 ha;obtain⟨b1,w,el⟩:=R0.elem (f:=Ze) (s:=4) (λ_=>rfl) K.sd.r.sl hi;refine⟨i,b1,w,λc e=>?_,el.ia,el.part 1 _ rfl,el.part 2 _ rfl⟩;obtain⟨v,h2,u,n,t⟩:=g sv ss a.name c (K.sd.r.By e.keeps);refine⟨v,h2,u,n,?_⟩;obtain⟨p,y,j,d,rfl⟩:=t.2 ⟨a,ha,rfl⟩;have:i=p:=by refine(List.getElem?_inj (l:=ss.map Abn.name) (by rw[ez];exact(Xh.1 hi).1) K.sd.nd).1 ?_;rw[Cn,Cn,hi,j,dy,dy,d]
 rw[this]
def Cwm(j:R59 Z)(n:R84 Z)(K:Ao5 ss q vc vo vm sv h)(ha:a∈ss)(hn:a.name=q.Uw):Ah h (λr _=>r=.bool (!a.pub)) (ml Z N 56 [.agg (qc q vc vo vm),sv] h):=by
 rw[CrL];obtain⟨c1,c2⟩:=B2 K.qv.c;obtain⟨C,A⟩:=B2 K.qv.o;obtain⟨E,u⟩:=B2 K.qv.m;obtain⟨i,b,o,f1,f2,G,F⟩:=K.fnd Z n ha;have d:=λg (e:Bi h g)=>j sv ss g (K.sd.By e) K.l3;rw[hn]at f1;replace f1:=(hU f1)
 replace d:=(hU d)
 clear K j n;obtain⟨c0,code,d2,d3,c4,c5,s6,c7,ord,c9,Wz,Uw,W0,D,w,z,U3,E9,Oi,Mg⟩:=q;generalize (i:Int)=ii at *
 refine wq ?_;refine Fj ((gw d) _ M0) λv1 h1 e1 l1 f p=>?_
 subst p;have g1:Ai h h1:=Ai.trans Ex e1;simp only[C9]at l1 f;have y:=(f h.nx om).trans (Bf ..);clear f e1 d;refine wq ?_;refine Fj ((gw f1) _ g1) λv2 h2 B l2 s t=>?_
 subst t;refine wq ?_;exact zr Ex rfl
def CaI:Prop:=∀(ss:List Abn) (q:Qr) (vc vo vm sv:AV) (a:Abn) (h:H),Ao5 ss q vc vo vm sv h->a∈ss->a.name=q.Uw->Ah h (λr _=>r=.bool (!a.pub)) (Z.call 56 [.agg (qc q vc vo vm),sv] h)
def CaJ:Prop:=∀(ss:List Abn) (q:Qr) (vc vo vm sv:AV) (a:Abn) (h:H),Ao5 ss q vc vo vm sv h->a∈ss->a.name=q.Uw->Ah h (λr _=>r=.bool (!a.pub)) (Z.call 101 [.agg (qc q vc vo vm),sv] h)
def Cww(p:R18 Z)(n:CaI Z)(K:Ao5 ss q vc vo vm sv h)(ha:a∈ss)(hn:a.name=q.Uw):Ah h (λr _=>r=.bool (!a.pub)) (ml Z N 101 [.agg (qc q vc vo vm),sv] h):=by
 rw[Cse];obtain⟨c1,c2⟩:=B2 K.qv.c;obtain⟨D,B⟩:=B2 K.qv.o;obtain⟨F,w⟩:=B2 K.qv.m;have d:=λf (e:Ai h f)=>p ss q vc vo vm sv f (K.gr e).sd K.l3 K.V (K.gr e).qv K.ok (K.gr e).gp;have g:=λf (e:Ai h f)=>n ss q vc vo vm sv a f (K.gr e) ha hn;replace d:=(hU d)
 replace g:=(hU g)
 clear K p n hn;obtain⟨c0,code,d2,d3,c4,c5,s6,c7,ord,c9,Wz,Uw,W0,E,y,A,U3,E9,Oi,Mg⟩:=q;refine wq ?_;refine Fj ((gw d) _ Ex) λv1 h1 e1 l1 j s=>?_
 obtain rfl:v1=_:=s;have g1:Ai h h1:=Ai.trans Ex e1;simp only[C9]at l1 j;have z:=(j h.nx om).trans (Bf ..);clear j e1 d;refine wq ?_;refine Fj ((gw g) _ g1) λv2 h2 C l2 t u=>?_
 subst u;refine wq ?_;exact zr Ex rfl
def lsr(c m:Int):Int:=if c=0\/m<c then m else c
def CjZ:Prop:=∀(c m:Int) (h:H),Z.call 103 [iI c,iI m] h=.ok (iI (lsr c m)) h
def Chk{R:OR}{v:AV}(k:Ah h (λr h1=>r=v/\h1=h) R):R=.ok v h:=by obtain⟨r,h1,e,_,rfl,rfl⟩:=k;exact e
def Cwy(c m:Int)(h:H):ml Z N 103 [iI c,iI m] h=.ok (iI (lsr c m)) h:=Chk (by
 rw[Csg];unfold lsr;cases h1:decide (c=0)with
 |true=>have k:c=0:=az h1;rw[Xo (.inl k)];clear k;refine wq ?_;exact zr Ex ⟨rfl,rfl⟩
 |false=>
  have k:¬ c=0:=bh h1;cases h2:decide (m<c)with
  |true=>have d:m<c:=az h2;rw[Xo (.inr d)];clear k d;refine wq ?_;exact zr Ex ⟨rfl,rfl⟩
  |false=>have d:¬ m<c:=bh h2;rw[X2 om];clear k d;refine wq ?_;exact zr Ex ⟨rfl,rfl⟩)
def CmT(x y:Int)(c:H):mm true [iI x,iI y] c=.ok (iI (min x y)) c:=by
 show OR.ok (iI (@Bool.rec (λ_=>Int) x y (ilt y x))) c=_;rw[Il];by_cases k:y<x
 .rw[Ws k,show min x y=y by omega]
 .rw[Yg k,show min x y=x by omega]
def By2(x y:Int)(c:H):mm false [iI x,iI y] c=.ok (iI (max x y)) c:=by
 show OR.ok (iI (@Bool.rec (λ_=>Int) x y (ilt x y))) c=_;rw[Il];by_cases k:x<y
 .rw[Ws k,show max x y=y by omega]
 .rw[Yg k,show max x y=x by omega]
def Awl{x y a b:Int}(h1:0<=x)(h2:x<=a)(c:0<=y)(d:y<=b):0<=x*y/\x*y<=a*b:=⟨Int.mul_nonneg h1 c,Fa h2 d c om⟩
def A2d(q:Qr)(a:Abn)(c:Option Abn):Int:=match c with
|none=>lsr q.W0 a.many
|some b=>lsr q.W0 a.many*(if b.pub then q.c16 else min q.c16 b.many)
def Blg(ss:List Abn)(q:Qr):Option Abn->Prop
|none=>q.Wu=[]
|some b=>b∈ss/\b.name=q.Wu/\1<=q.c16/\q.c16<=3
def By0{c m:Int}(h1:1<=m)(h2:m<=4)(h:c=0\/1<=c/\c<=4):1<=lsr c m/\lsr c m<=4:=by unfold lsr;split<;>omega
def Cf6:Prop:=∀(ss:List Abn) (q:Qr) (vc vo vm sv:AV) (a:Abn) (c:Option Abn) (h:H),Ao5 ss q vc vo vm sv h->a∈ss->a.name=q.Uw->a.pub=false->Blg ss q c->Ah h (λr _=>r=iI (A2d q a c)) (Z.call 58 [.agg (qc q vc vo vm),sv] h)
def Cwo(C:CaJ Z)(t:R84 Z)(F:CjZ Z)(u:Option Abn)(K:Ao5 ss q vc vo vm sv h)(ha:a∈ss)(hn:a.name=q.Uw)(P:a.pub=false)(hb:Blg ss q u):Ah h (λr _=>r=iI (A2d q a u)) (ml Z N 58 [.agg (qc q vc vo vm),sv] h):=by
 obtain⟨c1,c2⟩:=B2 K.qv.c;obtain⟨o1,o2⟩:=B2 K.qv.o;obtain⟨m1,m2⟩:=B2 K.qv.m;obtain⟨i,b1,p1,f1,f2,f3,f4⟩:=K.fnd Z t ha;have g:=λf (e:Ai h f)=>C ss q vc vo vm sv a f (K.gr e) ha hn;have E:=By0 (c:=q.W0) (m:=a.many);have R:=(K.sd.d a ha).pm;rw[P]at R g;rw[hn]at f1;have z:1<=a.many/\a.many<=4:=by
  rcases R with h|h
  .exact⟨h.2.1,h.2.2⟩
  .cases h.1
 have X:q.W0=0\/1<=q.W0/\q.W0<=4:=by obtain⟨a',G,Q,I,_⟩:=K.ok.pre.tbl;exact I.imp id λx=>x.2
 replace E:=E z.1 z.2 X;have C13:=λf=>F q.W0 a.many f;have L:u=none/\q.Wu=[]\/∃b,u=some b/\q.Wu≠[]/\1<=q.c16/\q.c16<=3/\((b.pub=false/\1<=b.many/\b.many<=4)\/(b.pub=true/\b.many=0))/\∃(i:Nat) (b1 o:Nat),F5 (∀f,Ai h f->Ah f (λr _=>r=.Bj [iI (i:Int),ux]) (Z.call 92 [sv,.str q.Wu] f))/\(∀f,Gc 4 sv (iI (i:Int)) f=.ok (.ptr b1 o) f)/\(∀f,Bi h f->Ae (some none) (.ptr b1 (o+1)) f=.ok (.bool b.pub) f)/\∀f,Bi h f->Ae (some none) (.ptr b1 (o+2)) f=.ok (iI b.many) f:=by
  cases u with
  |none=>exact .inl ⟨rfl,hb⟩
  |some b=>
   obtain⟨G,Q,I,x4⟩:=hb;have Hr:q.Wu≠[]:=by have:=(K.sd.d b G).nm;rw[Q]at this;intro e;rw[e]at this;exact absurd this fe
   have:=K.fnd Z t G;rw[Q]at this;obtain⟨i,b1,o,t1,t2⟩:=this;exact .inr ⟨b,rfl,Hr,I,x4,(K.sd.d b G).pm,i,b1,o,show F5 _ from t1,t2⟩
 replace f1:=(hU f1)
 replace g:=(hU g)
 have p:∀(w:Int),A2d q a u=w->Ah h (λr _=>r=iI w) (ml Z N 58 [.agg (qc q vc vo vm),sv] h)->Ah h (λr _=>r=iI (A2d q a u)) (ml Z N 58 [.agg (qc q vc vo vm),sv] h):=λw e k=>by rw[e];exact k
 clear K t C F hb R X z;rcases L with⟨rfl,hz⟩|⟨b,rfl,hz,y1,W,J,j,b2,p2,j1,j2,j3,j4⟩
 .refine p (lsr q.W0 a.many) rfl ?_;clear p;rw[Clv];have M:decide (q.Wu=[])=true:=Ws hz;generalize lsr q.W0 a.many=rr at *
  obtain⟨c0,code,d2,d3,c4,c5,s6,c7,ord,c9,Wz,Uw,W0,Yc,Sk,Uo,U3,E9,Oi,Mg⟩:=q;simp only at M;generalize (i:Int)=ii at *
  clear hz P hn;refine wq ?_;refine Fj ((gw g) _ Ex) λv1 h1 e1 l1 n O=>?_
  obtain rfl:v1=ux:=O;have g1:Ai h h1:=Ai.trans Ex e1;simp only[C9]at l1 n;have r1:=(n h.nx om).trans (Bf ..);clear n e1 g;refine wq ?_;refine Fj ((gw f1) _ g1) λv2 h2 U l2 A S=>?_
  subst S;refine wq ?_;exact zr Ex rfl
 .have s:=p (lsr q.W0 a.many*(if b.pub then q.c16 else min q.c16 b.many)) rfl;replace s:=(hU s)
  clear p;have M:decide (q.Wu=[])=false:=Yg hz;refine(show _->_ from s) ?_
  clear s;rw[Clv];generalize lsr q.W0 a.many=rr at *
  obtain⟨c0,code,d2,d3,c4,c5,s6,c7,ord,c9,Wz,Uw,W0,Yc,Sk,Uo,U3,E9,Oi,Mg⟩:=q;simp only at M y1 W;generalize (i:Int)=ii at *
  generalize (j:Int)=jj at *
  have r1:1<=rr:=E.1;have V:rr<=4:=E.2;obtain⟨bn,T,D,bv,bc⟩:=b;simp only at J;have Y:1<=min U3 D\/T=true:=by
   rcases J with h|h
   .exact .inl om
   .exact .inr h.1
  have r4:min U3 D<=3:=by omega
  clear hz P hn E J;refine wq ?_;refine Fj ((gw g) _ Ex) λv1 h1 e1 l1 n O=>?_
  obtain rfl:v1=ux:=O;have g1:Ai h h1:=Ai.trans Ex e1;simp only[C9]at l1 n;have s1:=(n h.nx om).trans (Bf ..);clear n e1 g;refine wq ?_;refine Fj ((gw f1) _ g1) λv2 h2 U l2 A S=>?_
  subst S;have g2:Ai h h2:=Ai.trans Ex U;have s2:=(A h.nx om).trans s1;clear A s1;have mn:=λf=>CmT U3 D f;have w1:=Awl (x:=rr) (y:=U3) (a:=4) (b:=3) om V om W;refine wq ?_;refine Fj ((gw j1) _ g2) λv3 h3 e3 l3 B q3=>?_
  subst q3;have g3:Ai h h3:=Ai.trans Ex e3;have s3:=(B h.nx om).trans s2;clear B s2;cases T with
  |true=>show Ah h (λr _=>r=iI (rr*U3)) _;refine wq ?_;refine Lo g3 ?_;rfl
  |false=>have w2:=Awl (x:=rr) (y:=min U3 D) (a:=4) (b:=3) om V (by rcases Y with h|h;exact eu fe h;cases h) r4;show Ah h (λr _=>r=iI (rr*min U3 D)) _;refine wq ?_;refine zr Ex ?_;rfl
end Go.Proofs
