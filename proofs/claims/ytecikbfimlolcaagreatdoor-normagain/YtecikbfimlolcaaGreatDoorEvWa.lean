/- The writer: expressions, by recursion. -/
import Derived.Test.YtecikbfimlolcaaGreatDoorEvLc
set_option linter.all false
set_option maxRecDepth 100000
noncomputable section
namespace Go.Proofs
open Go Go.Ev Go.Nm Go.Ev.Sx
attribute [local irreducible] Aa Al Af Ad
variable {o:Int}
variable (Z cx:Ac)(N:Nat)
variable {h h1 h2 h0 hd:H}{w:Nat}{ts:List Tok}
def NEx(o:AO):Prop:=∀cs e,o≠.cells cs e .exact
structure WG(w:Nat)(h h1:H):Prop where
 nx:h.nx<=h1.nx
 lo:∀c,c<w->h1.m.get c=h.m.get c
 ex:∀(c:Nat) (cs:List AV) (e:TypeId),c<h.nx->c≠w->h.m.get c=.cells cs e .exact->h1.m.get c=h.m.get c
 lg:∀x∈h1.lg,x∈h.lg\/x=w\/(w<x/\NEx (h.m.get x))\/h.nx<=x
def WG.of(b:w<h.nx)(g:Ai h h1):WG w h h1:=⟨g.lo,λc hc=>g.Cf c om,λc _ _ hc _ _=>g.Cf c hc,λx a=>(g.lg x a).imp id λq=>.inr (.inr q)⟩
def WG.refl(a:w<h.nx):WG w h h:=.of a (Ai.refl h)
def WG.trans(k:w<h.nx)(a:WG w h h1)(b:WG w h1 h2):WG w h h2:=by
 refine⟨Vr a.nx b.nx,λc hc=>(b.lo c hc).trans (a.lo c hc),λc cs e hc hn f=>?_,λx i=>?_⟩;. have d:=a.ex c _ e hc hn f;exact(b.ex c _ e (Xq hc a.nx) hn (d.trans f)).trans d
 .rcases b.lg x i with d|d|⟨d,j⟩|d;. exact a.lg x d
  .omega
  .by_cases g:h.nx<=x;. grind
   .refine .inr (.inr (.inl ⟨d,λcs e f=>j cs e ?_⟩));rw[a.ex x _ e om om f,f]
  .exact .inr (.inr (.inr (Vr a.nx d)))
def WG.gr(b:w<h.nx)(a:WG w h h1)(g:Ai h1 h2):WG w h h2:=a.trans b (.of (Xq b a.nx) g)
def WG.put{X}(a:WG w h h1):WG w h (h1.put w X):=by
 refine⟨a.nx,λc hc=>?_,λc cs e hc hn d=>?_,λx b=>?_⟩;. rw[Aq _ _ _ om];exact a.lo c hc
 .rw[Aq _ _ _ hn];exact a.ex c _ e hc hn d
 .rcases Tu.1 b with rfl|b
  .simp
  .exact a.lg x b
def WG.nl(a:WG w h h1):WG w h (Ab h1):=⟨a.nx,a.lo,a.ex,λx b=>by cases b⟩
def WG.Bnq(a:WG w (Ab h) h1):WG w h h1:=⟨a.nx,a.lo,a.ex,λx c=>by
 rcases a.lg x c with b|b;. cases b
 simp_all⟩
def WG.reL{L}(a:WG w h h1)(b:∀x∈L,x∈h.lg\/x=w\/w<x/\NEx (h.m.get x)\/h.nx<=x):WG w h (Be L h1):=⟨a.nx,a.lo,a.ex,b⟩
def WG.own{d}(g:Ai d h)(a:WG w h h1)(f:d.nx<=w):Ai d h1:=by
 refine⟨Vr g.lo a.nx,λc hc=>(a.lo c om).trans (g.Cf c hc),λx e=>?_⟩;rcases a.lg x e with b|b|b|b;. exact g.lg x b
 .omega
 .omega
 .exact .inr (Vr g.lo b)
structure WrS(w:Nat)(ts:List Tok)(h:H):Prop where
 lt:w<h.nx
 g:∃v,h.m.get w=.cells [v] 127 .exact/\Fm 4 (w+1) 160 h v ts.length (ts.flatMap Aez)
def WrS.gr(k:WrS w ts h)(g:Ai h h1):WrS w ts h1:=by have⟨v,b,a⟩:=k.g;exact⟨Xq k.lt g.lo,v,(g.Cf w k.lt).trans b,a.gr g⟩
def WrS.rl{L}(k:WrS w ts h):WrS w ts (Be L h):=by have⟨v,b,a⟩:=k.g;exact⟨k.lt,v,b,Fm.rl a⟩
def Ash n:∀l,outside l n n=true
|[]=>rfl
|x::l=>by
 show @Bool.rec (λ_=>Bool) (outside l n n) ..=true;rw[Ash n l];by_cases b:n<=x;. rw[br b,show Nat.blt x n=false by cases a:Nat.blt x n with
    |false=>rfl
    |true=>have:=Ew a;omega]
 .rw[show Nat.ble n x=false by cases a:Nat.ble n x with
   |false=>rfl
   |true=>exact absurd (Ew a) b]
def A4Q{e}{c d}{a b}(hn:b.nx=a.nx):Jo e ⟨c,d,[],.none,a,b⟩=true:=by unfold Jo;rw[Zq _,(by rw[hn];exact Ash ..:outside _ ..=true),(rfl:clear _ _ _ ..=true)];cases M4 _<;>cases Nat.beq ..<;>rfl
def Bi0 b l(h:∀x∈l,b≠x):Ve b l=false:=by cases a:Ve b l with
|false=>rfl
|true=>exact absurd rfl (h b ((Ant b l).1 a))
def Axi{Q}{f}{b}{lg}{k}(P:Nat->Prop)(g:∀e∈b,e.w=[]\/(∀x∈e.w,P x)/\∀a∈b,Jo e a=true)(d:∀L,(∀z∈L,z∈lg\/P z)->Ah h0 Q (k (Be L f))):Ah h0 Q (Ff lg b f k):=by
 have c:=V9 _ _ λe h1=>by
  rcases g e h1 with i|i;. simp_all
  .exact .inr (V4 e _ i.2)
 rw[So c];apply d _;have n:∀e∈b,∀x∈e.w,P x:=λe h1 x m=>by grind
 clear g c d;induction b with
 |nil=>simp_all
 |cons e es l=>intro z j;rw[Ap]at j;grind
variable {t:Tok}
def Bp3{q b7:Nat}{t8 t9 t10:AV}{f0:L2}{Q:AV->H->Prop}(k:WrS w ts h)(S:ts.length<=3000)(X:h.m.get b7=.cells (Aez t) 160 .exact)(Y:b7<h.nx)(T:b7≠w)
 (go:∀h1 f0,WG w h h1->WrS w (ts++[t]) h1->Ah H0 Q (Bac Z N q (.ptr w 0) t8 t9 t10 f0 h1)):
 Ah H0 Q (AwJ Z N q (.ptr w 0) (.ptr b7 0) t8 t9 t10 f0 h):=by
 obtain⟨v,M,u⟩:=k.g;have B:=k.lt;obtain⟨U,P⟩:=B2 u.sl;replace go:=(show F5 _ from go);rw[Bmm];refine wk ?_;have s:Ai h ((Ab h).new (.cells (Aez t) 160 .exact)):=(Ai.refl h).nl.new _;have I:=u.gr s;have K:Sl 4 ((Ab h).new (.cells (Aez t) 160 .exact)) (.sl h.nx 0 1 1 4 true) 1 (Aez t):=Sl.lit (h:=Ab h) (Bf _) rfl rfl;obtain⟨v',b,J,A,V,y,q5,r⟩:=Fm.BmA (bytes:=40) (lo:=w+1) I K.src (by rfl) om (by rfl) (by show w+1<=h.nx+1;omega);have a:∀c,c<h.nx->((Ab h).new (.cells (Aez t) 160 .exact)).m.get c=h.m.get c:=λc hc=>s.Cf c hc;have j:((Ab h).new (.cells (Aez t) 160 .exact)).nx=h.nx+1:=rfl;have n:((Ab h).new (.cells (Aez t) 160 .exact)).lg=[]:=rfl;refine Ey J ?_;have E:=A.lo;obtain⟨W,R⟩:=B2 y.sl;have f:b.m.get w=.cells [v] 127 .exact:=(q5 w (Up w)).trans ((a w B).trans M);have G:∀x∈wrote (h.nx+1) b.lg,x=w\/(w<x/\NEx (h.m.get x))\/h.nx<=x:=λx p=>by
  rcases r.lg x (D4 _ _ _ p).1 with d|⟨d,F⟩|d;. rw[n]at d;cases d
  .by_cases o:h.nx<=x;. exact .inr (.inr o)
   .exact .inr (.inl ⟨d,λcs e i=>F cs e ((a x om).trans i)⟩)
  .exact .inr (.inr (by rw[j]at d;omega))
 refine wk ?_;refine Axi (λx=>x=w\/(w<x/\NEx (h.m.get x))\/h.nx<=x) ?_ λL O=>?_
 .simp only[Tl,Pl,Ju,G4,Jj];refine⟨.inr ⟨λx p=>?_,?_⟩,.inl rfl,.inl rfl,.inr ⟨G,?_⟩,.inl rfl,.inl rfl,.inl rfl,.inl rfl,.inl rfl,.inl trivial,.inl trivial⟩;. have z:=(D4 _ _ _ p).1;simp at z;exact .inl z
  all_goals
   repeat' (refine And.intro ?_ ?_)
  all_goals first|exact Ar ..|(refine Ax _ _ _ _ _ _ _ _ _ _ _ _ ?_;decide)|exact A4Q rfl
 .refine(show ∀h1 f0,_ from go) _ _ ⟨?_,?_,?_,O⟩ ?_;. show h.nx<=b.nx;omega
  .intro c hc;show(b.put w _).m.get c=_;rw[Aq _ _ _ om,q5 c om,a c om]
  .intro c cs e hc hn i;show(b.put w _).m.get c=_;rw[Aq _ _ _ hn,r.ex c cs e om ((a c hc).trans i),a c hc]
  .refine WrS.rl ⟨by show w<b.nx;omega,v',A2 _ _,?_⟩;have:=Fm.To (l:=[v']) (e1:=127) y (Up w) (by rw[f];rfl);rw[X8,Qm,show[t].flatMap Aez=Aez t from rfl];exact Fm.rl (lg:=[w]) this
open Tryz
variable {ws:List (List Nat)}{v:AV}
def A6R:∀l:List _,l.flatMap Aeb=l.map AV.str
|[]=>rfl
|a::l=>by show AV.str a::l.flatMap _=_;rw[A6R l];rfl
def wt1(s:List Nat):Tok:=⟨if s∈Sgs then 5 else 1,s,0,0⟩
def Lit(w:Nat)(h:H)(v:AV)(ws:List (List Nat)):Prop:=∃m e,v=.sl m 0 ws.length ws.length 1 true/\h.m.get m=.cells (ws.flatMap Aeb) e .exact/\m<h.nx/\m≠w
def Wrt(w:Nat)(ts:List Tok)(h:H)(a:AV)(r:OR):Prop:=Ah H0 (λr h'=>r=a/\WG w h h'/\WrS w ts h') r
def AkX:Prop:=∀(w:Nat) (ts:List Tok) (ws:List (List Nat)) (v:AV) (h:H),WrS w ts h->Lit w h v ws->ws.length<=7->ts.length<=2500->Wrt w (ts++ws.map wt1) h (.ptr w 0) (Z.call 122 [.ptr w 0,v] h)
def BdL(d:Bhc Z)(f:Be2 Z)(J:w<h.nx)(L:Lit w h v ws)(hl:ws.length<=7)(K:ts.length<=2500):
 ∀(u i n:Nat) (hd:H) (f0:L2),i+u=ws.length->u<n->WG w h hd->WrS w (ts++(ws.take i).map wt1) hd->Wrt w (ts++ws.map wt1) h (.ptr w 0) (A3y Z N n (.ptr w 0) v (iI ws.length) (iI i) f0 hd)
 |0,i,n,hd,f0,hi,hn,g,k=>by obtain⟨j,rfl⟩:∃j,n=j+1:=⟨n-1,by omega⟩;have X:decide ((i:Int)<(ws.length:Int))=false:=df;have k3:decide (i<ws.length)=false:=df;rw[Qa om]at k;unfold Wrt;rw[BcR];refine wk ?_;exact Lo (gr0 _) ⟨rfl,g,k⟩
 |u+1,i,n,hd,f0,hi,hn,g,k=>by
  obtain⟨j,rfl⟩:∃j,n=j+1:=⟨n-1,by omega⟩;have A:=BdL d f J L hl K u (i+1) j;have X:decide ((i:Int)<(ws.length:Int))=true:=dt;have k3:decide (i<ws.length)=true:=dt;obtain⟨m,e,rfl,F,M,nm⟩:=L;obtain⟨s,O⟩:∃s,ws[i]?=some s:=⟨_,Xs om⟩;have R:=λT=>A6n (b:=m) (off:=0) (n:=ws.length) (cap:=ws.length) (ex:=true) (i:=i) (show i<ws.length by omega) T;rw[Rx]at R;have z:hd.m.get m=.cells (ws.flatMap Aeb) e .exact:=(g.ex m _ _ M nm F).trans F;have E:m<hd.nx:=Xq M g.nx;have c2:Nv hd m (ws.flatMap Aeb):=⟨E,_,_,z,trivial⟩;have x2:=c2.one (o:=i) (x:=.str s) (by rw[A6R,Cn,O];rfl);have B6:=k.lt;have U:i<7:=by omega
  replace A:=(show F5 _ from A);clear c2 F;unfold Wrt;rw[BcR];refine wk ?_;refine Fj (d _) λv1 h2 Y l2 B V=>?_;obtain⟨m2,rfl,y⟩:=V;simp only[C9]at l2;have P:h2.m.get hd.nx=.cells (Aez ⟨1,s,0,0⟩) 160 .exact:=by simp_all
  have gA:Ai hd h2:=Ai.trans Ex Y;refine Fj (f s _ Sgs h2 y fe) λv3 h3 W l3 q q3=>?_;subst q3;have S:=gA.trans W;have I:=(q hd.nx om).trans P;have a:∀(p:H) f0,Ai hd p->p.m.get hd.nx=.cells (Aez (wt1 s)) 160 .exact->hd.nx<p.nx->Ah H0 (λr h'=>r=.ptr w 0/\WG w h h'/\WrS w (ts++ws.map wt1) h') (AwJ Z N j (.ptr w 0) (.ptr hd.nx 0) (.sl m 0 ws.length ws.length 1 true) (iI ws.length) (iI i) f0 p):=λp f0 Q t4 l4=>by refine Bp3 Z N (k.gr Q) (by simp;omega) t4 l4 om λh5 f5 g5 G=>?_;rw[Bmn];refine wk ?_;rw[show(i:Int)+1=((i+1:Nat):Int)by omega];refine(show ∀(hd:H) (f0:L2),_ from A) _ _ om om ((g.gr J Q).trans J g5) ?_;rw[Ga,O,ah,<- Rq];exact G
  replace a:=(show F5 _ from a);clear A B q P y z x2 k d f;by_cases c:s∈Sgs
  .have G:decide (s∈Sgs)=true:=Ws c;have l:Aez (wt1 s)=[iI 5,.str s,iI 0,iI 0]:=by unfold wt1;rw[W5 c]
   rw[l]at a;refine wk ?_;exact(show ∀(p:H) f0,_ from a) _ _ Ex (A2 _ _) (by simp only[C9];omega)
  .have G:decide (s∈Sgs)=false:=Xn c;have l:wt1 s=⟨1,s,0,0⟩:=by unfold wt1;rw[X2 c]
   rw[l]at a;refine wk ?_;exact(show ∀(p:H) f0,_ from a) _ _ S I om
def B22(j:10<N)(a:Bhc Z)(b:Be2 Z)(k:WrS w ts h)(L:Lit w h v ws)(i:ws.length<=7)(c:ts.length<=2500):Wrt w (ts++ws.map wt1) h (.ptr w 0) (Ay prog Z N false 122 [.ptr w 0,v] h):=by have⟨m,e,g,f,d,nm⟩:=L;rw[ByT];exact Ey (by simp_all) (BdL Z N a b k.lt ⟨m,e,g,f,d,nm⟩ i c ws.length 0 N h _ om om (WG.refl k.lt) (by grind))
def zc0{Q R}{r}{k}(a:Ah H0 R r)(b:∀v h1,R v h1->Ah H0 Q (k v h1)):Ah H0 Q (Aa r k):=by obtain⟨v,h1,rfl,_,q⟩:=a;simp[*]
def AeZ.wg(p:AeZ h)(g:WG w h h1)(a:2<w):AeZ h1:=⟨(g.lo 2 a).trans p.g,Xq p.lt g.nx⟩
def AlA{e}(a:w<h.nx) ws:Lit w (h.new (.cells (ws.flatMap Aeb) e .exact)) (.sl h.nx 0 ws.length ws.length 1 true) ws:=⟨_,e,rfl,Bf _,Up _,by omega⟩
def nwd(n:Int):List (List Nat):=if n<0 then[[45],V8 (-n)]else[V8 n]
def AsL:Prop:=∀(w:Nat) (ts:List Tok) (n:Int) (h:H),WrS w ts h->Sml n->ts.length<=2500->AeZ h->2<w->Wrt w (ts++(nwd n).map wt1) h (.ptr w 0) (Z.call 124 [.ptr w 0,iI n] h)
def B24(a:AkX Z)(c:Bpk Z)(k:WrS w ts h)(hn:Sml o)(u:ts.length<=2500)(m:AeZ h):Wrt w (ts++(nwd o).map wt1) h (.ptr w 0) (Ay prog Z N true 124 [.ptr w 0,iI o] h):=by
 obtain⟨y,x⟩:=hn;have d:=k.lt;unfold Wrt;rw[ByV];by_cases h0:o<0
 .have p:decide (o<0)=true:=Ws h0;have j:nwd o=[[45],V8 (-o)]:=W5 h0;rw[j];have s:∀e:H,Qe .neg (iI o) e=.ok (iI (-o)) e:=λe=>by rw[A6M,Cr _ om om,Int.zero_sub]
  refine Ey (Hf ..) ?_;rw[p];refine Zx (Ey (s _) ?_);refine Fj (c (-o) h ⟨by omega,by omega⟩ m) λq h1 e1 l1 g n=>?_;subst n;refine wk ?_;have b:Ai h (h1.new (.cells [.str [45],.str (V8 (-o))] 9 .exact)):=e1.new _;refine zc0 (a w _ _ _ _ (k.gr b) (AlA om [[45],V8 _]) (by simp) om) λr h2 f=>?_;have⟨rfl,i,l⟩:=f;exact Lo (gr0 _) ⟨rfl,(WG.of d b).trans d i,l⟩
 .have j:nwd o=[V8 o]:=X2 h0;rw[j];apply Ey (Hf ..);rw[(Xn h0)];refine Ae5 (Fj (c o h ⟨by omega,by omega⟩ m) λq h1 e1 l1 g n=>wk ?_);have b:Ai h (h1.new (.cells [.str (V8 o)] 9 .exact)):=e1.new _;refine zc0 (a w _ _ _ _ (k.gr b) (AlA om [V8 o]) (by simp) om) λr h2 f=>?_;have⟨rfl,i,l⟩:=f;exact Lo (gr0 _) ⟨rfl,(WG.of d b).trans d i,l⟩
def opW:List (Int × List Nat):=[(4,[43]),(5,[45]),(6,[42]),(7,[45]),(9,[61]),(10,[33,61]),(11,[60]),(12,[60,61]),(13,[62]),(14,[62,61]),(15,[97,110,100]),(16,[111,114]),(17,[110,111,116])]
def BtE:Prop:=∀(op:Int) (t:Tr) (r:Bool) (h:H),4<=op->Ah h (λv _=>v=.bool (Ag1 op t.op r)) (Z.call 236 [iI op,A3 t,.bool r] h)
set_option maxHeartbeats 800000 in
def B3h(De:HOp Z)(op:Int)(t:Tr)(r:Bool)(l:4<=op):Ah h (λv _=>v=.bool (Ag1 op t.op r)) (Ay prog Z N true 236 [iI op,A3 t,.bool r] h):=by
 have wt:∀(w:Bool) (r:OR) (j:H),Ad (.Bj []) w r j=.ok (.Bj []) j:=λw r j=>A0V [] w r j;rw[BzA];refine Ey (De t h) ?_;generalize t.op=o;by_cases x:o=8
 .subst x;by_cases q:op<=7
  .have A:decide (4<=op)=true:=Ws l;have I:decide (op<=7)=true:=Ws q;refine wk ?_;exact zr Ex (by simp[Ag1,l,q])
  .have A:decide (4<=op)=true:=Ws l;have I:decide (op<=7)=false:=Xn q;refine wk ?_;exact zr Ex (by simp[Ag1,q])
 have M:decide (o=8)=false:=Xn x;by_cases p:o=4
 .subst p;by_cases d:op=6
  .subst d;cases r<;>(refine wk ?_;rw[AeR];refine wk ?_;exact zr Ex rfl)
  by_cases c:op=7
  .subst c;cases r<;>(refine wk ?_;rw[AeR];refine wk ?_;exact zr Ex rfl)
  by_cases e:op=4
  .subst e;cases r<;>(refine wk ?_;rw[AeR];refine wk ?_;exact zr Ex rfl)
  by_cases g:op=5
  .subst g;cases r<;>(refine wk ?_;rw[AeR];refine wk ?_;exact zr Ex rfl)
  have u:decide (op=6)=false:=Xn d;have y:decide (op=7)=false:=Xn c;have F:decide (op=4)=false:=Xn e;have z:decide (op=5)=false:=Xn g;cases r<;>(refine wk ?_;rw[AeR];refine wk ?_;exact zr Ex (by simp[Ag1, *]))
 have J:decide (o=4)=false:=Xn p;by_cases n:o=5
 .subst n;by_cases d:op=6
  .subst d;cases r<;>(refine wk ?_;rw[AeR];refine wk ?_;exact zr Ex rfl)
  by_cases c:op=7
  .subst c;cases r<;>(refine wk ?_;rw[AeR];refine wk ?_;exact zr Ex rfl)
  by_cases e:op=4
  .subst e;cases r<;>(refine wk ?_;rw[AeR];refine wk ?_;exact zr Ex rfl)
  by_cases g:op=5
  .subst g;cases r<;>(refine wk ?_;rw[AeR];refine wk ?_;exact zr Ex rfl)
  have u:decide (op=6)=false:=Xn d;have y:decide (op=7)=false:=Xn c;have F:decide (op=4)=false:=Xn e;have z:decide (op=5)=false:=Xn g;cases r<;>(refine wk ?_;rw[AeR];refine wk ?_;exact zr Ex (by simp[Ag1, *]))
 have L:decide (o=5)=false:=Xn n;by_cases s:o=6
 .subst s;by_cases c:op=7
  .subst c;cases r<;>(refine wk ?_;rw[AeR];refine wk ?_;exact zr Ex rfl)
  by_cases d:op=6
  .subst d;cases r<;>(refine wk ?_;rw[AeR];refine wk ?_;exact zr Ex rfl)
  have y:decide (op=7)=false:=Xn c;have u:decide (op=6)=false:=Xn d;cases r<;>(refine wk ?_;rw[AeR];refine wk ?_;exact zr Ex (by simp[Ag1, *]))
 have K:decide (o=6)=false:=Xn s;by_cases i:o=16
 .subst i;by_cases a:op=15
  .subst a;cases r<;>(refine wk ?_;rw[AeR];refine wk ?_;exact zr Ex rfl)
  by_cases b:op=17
  .subst b;cases r<;>(refine wk ?_;rw[AeR];refine wk ?_;exact zr Ex rfl)
  by_cases p16:op=16
  .subst p16;cases r<;>(refine wk ?_;rw[AeR];refine wk ?_;exact zr Ex rfl)
  have k:decide (op=15)=false:=Xn a;have m:decide (op=17)=false:=Xn b;have B:decide (op=16)=false:=Xn p16;cases r<;>(refine wk ?_;rw[AeR];refine wk ?_;exact zr Ex (by simp[Ag1, *]))
 have G:decide (o=16)=false:=Xn i;by_cases f:o=15
 .subst f;by_cases b:op=17;. subst b;cases r<;>(refine wk ?_;rw[AeR];refine wk ?_;exact zr Ex rfl)
  by_cases a:op=15;. subst a;cases r<;>(refine wk ?_;rw[AeR];refine wk ?_;exact zr Ex rfl)
  have m:decide (op=17)=false:=Xn b;have k:decide (op=15)=false:=Xn a;cases r<;>(refine wk ?_;rw[AeR];refine wk ?_;exact zr Ex (by simp[Ag1, *]))
 have E:decide (o=15)=false:=Xn f;refine wk ?_;rw[AeR];refine wk ?_;exact zr Ex (by simp[Ag1, *])
variable {t:Tr}
abbrev opE(k:Nat):List (AV × AV):=(opW.take k).map λp=>(iI p.1,.str p.2)
def Bno:∀k,k<13->Z7 (Gy prog 3 (iI (opW.getD k (0,[])).1)) (iI (opW.getD k (0,[])).1) (.str (opW.getD k (0,[])).2) (opE k)=some (opE (k+1))
|0,_=>rfl
|1,_=>rfl
|2,_=>rfl
|3,_=>rfl
|4,_=>rfl
|5,_=>rfl
|6,_=>rfl
|7,_=>rfl
|8,_=>rfl
|9,_=>rfl
|10,_=>rfl
|11,_=>rfl
|12,_=>rfl
|k+13,a=>absurd a om
def Aja{r:Nat}(k:Nat)(a:k<13)(b:h.m.get r=.map (opE k)):As5 prog 3 (.str []) (.map r) (iI (opW.getD k (0,[])).1) (.str (opW.getD k (0,[])).2) h=.ok (.Bj []) (h.put r (.map (opE (k+1)))):=by rw[A53,b,AqR,Bno k a];rfl
def Bm7:Prop:=∀(h:H),Ah h (λr h1=>∃m,r=.map m/\h1.m.get m=.map (opE 13)) (Z.call 187 [] h)
def B2U:Ah h (λr h1=>∃m,r=.map m/\h1.m.get m=.map (opE 13)) (Ay prog Z N true 187 [] h):=by rw[Bzx];refine Ey (v:=.map h.nx) (h:=h.new (.map [])) rfl ?_;refine Ey (Aja 0 (by simp) (Bf _)) ?_;refine Ey (Aja 1 fe (A2 _ _)) ?_;refine Ey (Aja 2 fe (A2 ..)) ?_;refine Ey (Aja 3 fe (A2 _ _)) (Ey (Aja 4 fe (A2 _ _)) ?_);refine Ey (Aja 5 fe (A2 _ _)) ?_;refine Ey (Aja 6 (by simp) (A2 ..)) ?_;exact Ey (Aja 7 (by simp) (A2 ..)) (Ey (Aja 8 (by simp) (A2 ..)) (Ey (Aja 9 (by simp) (A2 ..)) (Ey (Aja _ (by omega) (A2 ..)) (Ey (Aja 11 (by simp) (A2 _ _)) (Ey (Aja _ (by simp) (A2 ..)) (Lo (((((((((((((((Ai.refl h).new _).put _ _ (Yw _)).put _ _ (Yw _)).put _ _ (Yw _)).put _ _ (Yw _)).put _ _ (Yw _)).put _ _ (Yw _)).put _ _ (Yw _)).put _ _ (Yw _)).put _ _ (Yw _)).put _ _ (Yw _)).put _ _ (Yw _)).put _ _ (Yw _)).put _ _ (Yw _)) ⟨_,rfl,A2 ..⟩))))))
def Bi1:∀p∈opW,M1 (Gy prog 3 (iI p.1)) (opE 13)=some (some (.str p.2)):=by simp only[opW,Tl];refine⟨?_,?_,?_,?_,?_,?_,?_,?_,?_,?_,?_,?_,?_,λp a=>by grind⟩<;>kernel_rfl
def BvW{m:Nat}{s:List Nat}(a:h.m.get m=.map (opE 13))(b:(o,s)∈opW):xLk prog 3 (.str []) false (.map m) (iI o) h=.ok (.str s) h:=by rw[A6J,a,Auf,Bi1 (o,s) b];rfl
def Ae7:L3->Tok
|.sg s=>⟨5,s,0,0⟩
|.kw s=>⟨1,s,0,0⟩
|.nm s=>⟨1,s,0,0⟩
|.nu n=>⟨1,V8 n,0,0⟩
|.wd s=>⟨4,s,0,0⟩
def AzN{s}(h:s∈Sgs):wt1 s=Ae7 (.sg s):=by unfold wt1;rw[W5 h];rfl
def Bc7{s}(h:s∈W35):wt1 s=Ae7 (.kw s):=by
 have:∀s∈W35,s ∉ Sgs:=by decide
 unfold wt1;rw[X2 (this s h)];rfl
def AjQ{s}(h:s∈R2++N1):wt1 s=Ae7 (.nm s):=by
 have:∀s∈R2++N1,s ∉ Sgs:=by decide
 unfold wt1;rw[X2 (this s h)];rfl
def Au3{n}(h:Num n):wt1 (V8 n)=Ae7 (.nu n):=by
 have⟨c,r,_,h2,b,_⟩:=Amn h;have:∀s∈Sgs,∀c∈s.head?,¬ (48<=c/\c<=57):=by decide
 unfold wt1;rw[X2 λa=>this _ a c (by grind) ⟨h2,b⟩];rfl
def RW(Z:Ac)(t:Tr):Prop:=∀(w:Nat) (ts:List Tok) (h:H),WrS w ts h->AeZ h->2<w->ts.length+2*(wr t).length<=2500->Wrt w (ts++(wr t).map Ae7) h (.Bj []) (Z.call 125 [.ptr w 0,A3 t] h)
def RO(Z:Ac)(o:Int)(t:Tr)(r:Bool):Prop:=∀(w:Nat) (ts:List Tok) (h:H),WrS w ts h->AeZ h->2<w->ts.length+2*(wr t).length+1<=2500->Wrt w (ts++(brk (Ag1 o t.op r) (decide (9<=t.op)) (wr t)).map Ae7) h (.Bj []) (Z.call 188 [.ptr w 0,iI o,A3 t,.bool r] h)
def Bkp(b:AkX Z) s{Q}{K:AV->AV->H->OR}(k:WrS w ts h)(c:ts.length<=2500)
 (hk:∀h1,WG w h h1->WrS w (ts++[wt1 s]) h1->Ah H0 Q (K (.sl h.nx 0 1 1 1 true) (.ptr w 0) h1)):
 Ah H0 Q (Aa (Bh 9 1 1 [.str []] [(0,1,.str s)] h) λa h1=>Aa (Z.call 122 [.ptr w 0,a] h1) λg h2=>K a g h2):=by have d:Ai h (h.new (.cells [.str s] 9 .exact)):=(Ai.refl h).new _;refine Ey rfl (zc0 (b w _ _ _ _ (k.gr d) (AlA k.lt [s]) (by simp) c) λa h1 ⟨f,i,e⟩=>?_);subst f;exact hk _ ((WG.of k.lt d).trans k.lt i) e
def B2V(a:AkX Z)(g:BtE Z)(l:H64 Z)(j:RW Z t)(E:4<=o)(r:Bool)(k:WrS w ts h)(x:AeZ h)(e:2<w)(G:ts.length+2*(wr t).length+1<=2500):
 Wrt w (ts++(brk (Ag1 o t.op r) (decide (9<=t.op)) (wr t)).map Ae7) h (.Bj []) (Ay prog Z N true 188 [.ptr w 0,iI o,A3 t,.bool r] h):=by have b:=k.lt;unfold Wrt;rw[Bzy];refine Fj (g o t r h E) λJ h1 e1 l1 z p=>?_;subst p;have i:=k.gr e1;have n:=x.gr e1;have m:=WG.of b e1;cases Ag1 o t.op r with
 |false=>refine Ey (v:=.bool true) (h:=h1) rfl (Zx ?_);refine zc0 (j w ts h1 i n e om) λK h2 ⟨p,y,B⟩=>?_;subst p;exact Lo (gr0 _) ⟨rfl,m.trans b y,B⟩
 |true=>refine Ey (v:=.bool false) (h:=h1) rfl (Ae5 ?_);refine Ey (l t h1) ?_;cases decide (9<=t.op)with
  |true=>refine Zx ?_;refine Bkp Z a [91] i om λh2 c s=>?_;refine zc0 (j w _ _ s (n.wg c e) e (by grind)) λF I ⟨_,f,q⟩=>?_;refine Bkp Z a _ q (by simp;omega) λA u d=>(Lo (gr0 _) ⟨rfl,((m.trans b c).trans b f).trans b u,?_⟩);rw[AzN fe,AzN fe]at d;simpa[brk]using d
  |false=>refine Ae5 (Bkp Z a _ i om λh2 c s=>zc0 (j w _ _ s (n.wg c e) e (by simp;omega)) λF I ⟨_,f,q⟩=>Bkp Z a _ q (by simp;omega) λA u d=>(Lo (gr0 _) ⟨rfl,((m.trans b c).trans b f).trans b u,?_⟩));rw[AzN fe,AzN fe]at d;simpa[brk]using d
def WG.log(j:w<h.nx)(a:WG w h h1)(b:WG w (Ab h1) h2):∀x∈wrote h1.nx h2.lg,x=w\/w<x/\NEx (h.m.get x)\/h.nx<=x:=λx g=>by
 rcases b.lg x (D4 _ _ _ g).1 with c|c|⟨c,i⟩|c;. cases c
 .omega
 .by_cases f:h.nx<=x;. omega
  .refine .inr (.inl ⟨c,λcs e d=>i cs e ?_⟩);show h1.m.get x=_;rw[a.ex x _ e om om d,d]
 .exact .inr (.inr (Vr a.nx c))
def WrS.nl(k:WrS w ts h):WrS w ts (Ab h):=k.rl
def BoG(f:AkX Z)(j:Bm7 Z){b:Nat}{cs:List AV}{ty:TypeId}{s:List Nat}{Q:AV->H->Prop}{K:AV->AV->AV->AV->AV->AV->H->OR}(M:h.m.get b=.cells cs ty .exact)(hc:cs[0]?=some (iI o))(I:b<h.nx)(O:(o,s)∈opW)(k:WrS w ts h)(y:ts.length<=2500)
 (hk:∀h1 m v,WG w h h1->WrS w (ts++[wt1 s]) h1->Ah H0 Q (K (.map m) (.ptr b 0) (iI o) (.str s) v (.ptr w 0) h1)):
 Ah H0 Q (Aa (Z.call 187 [] (Ab h)) λE g=>Aa (Bs (.ptr b 0) 0 (Ab g)) λr q=>Aa (lN r (Ab q)) λa i=>Aa (xLk prog 3 (.str []) false E a (Ab i)) λA e=>Aa (Bh 9 1 1 [(.str [])] [(0,1,A)] (Ab e)) λB n=>Aa (Z.call 122 [.ptr w 0,B] (Ab n)) λG d=>Ff h.lg [eW 64 63 .all n d,eW 32 30 .none e n,eW 16 14 .all i e,eW 8 4 (Bn (some none) r) q i,eW 4 0 .none g q,eW 2 0 .all (Ab h) g,eZ 1 0 .none h] d λu=>K E r a A B G u):=by
 have c:=k.lt;obtain⟨T,h1,r1,e1,m,rfl,J⟩:=j (Ab h);refine Ey r1 ?_;have p:Ai h h1:=Ai.Rc e1;have c1:Nv h1 b cs:=p.keeps.cont b cs ⟨I,_,_,M,trivial⟩;have F:=c1.one (o:=0) hc (Ab (Ab h1)) (Bi.refl h1).nl.nl;refine Ey (v:=.ptr b 0) (h:=Ab h1) rfl (Ey F ?_);refine Ey (BvW (h:=Ab (Ab (Ab h1))) J O) ?_;refine Ey (v:=.sl h1.nx 0 1 1 1 _) rfl ?_;have l:Ai h ((Ab _).new (.cells [.str s] 9 .exact)):=p.nl.new _;obtain⟨U,V,S,_,rfl,z,R⟩:=f w _ [s] _ _ (k.gr l.nl) (AlA (by have:=p.lo;exact Xq c this) _) (by simp) y;refine Ey S (Axi (λx=>x=w\/w<x/\NEx (h.m.get x)\/h.nx<=x) ?_ λL P=>?_)
 .simp only[Tl,Pl,Ju,G4,Jj];refine⟨.inr ⟨WG.log c (WG.of c l) z,?_⟩,.inl rfl,.inl rfl,.inl rfl,.inl rfl,.inl (Ai.quiet e1),.inl trivial⟩;repeat' (apply And.intro ?_)
  all_goals first|exact Ar ..|(apply Ax _ _ _ _ _ _ _ _ _ _ _ _;rfl)
 .exact hk _ m _ (((WG.of c l).trans c z.Bnq).reL P) R.rl
def Bnl(z:AkX Z)(y:AsL Z){x:Nd}(s:(x.op=1/\Num x.n)\/(x.op=2/\x.Zn∈R2++N1)\/x.op=3)(k:WrS w ts h)(V:AeZ h)(hw:2<w)(hts:ts.length+1<=2500):
 Wrt w (ts++(wr (.leaf x)).map Ae7) h (.Bj []) (Ay prog Z N false 125 [.ptr w 0,A3 (.leaf x)] h):=by
 have f:=k.lt;rw[show A3 (.leaf x)=.I6 170 (.agg (Bw x))from rfl]
 unfold Wrt;rw[BmJ];rcases s with⟨i,hn⟩|⟨i,hn⟩|i
 .have a:wr (.leaf x)=[.nu x.n]:=by unfold wr;rw[W5 i]
  have I:nwd x.n=[V8 x.n]:=by unfold nwd;rw[X2 (by have:=hn.1;omega)]
  rw[a];have S:=λP (g:Ai h P)=>y w ts x.n P (k.gr g) ⟨by have:=hn.1;omega,hn.2⟩ om (V.gr g) hw
  rw[I]at S;unfold Bw;rw[i];refine wk ?_;have d:Ai h ((h.new (.cells [iI 0,iI 0,.str []] 170 .exact)).put h.nx (.cells [iI 1,iI x.n,.str x.Zn] 170 .exact)):=((Ai.refl h).new _).put _ _ (Yw _);refine zc0 (S _ d) λX h1 ⟨u,q,j⟩=>?_;refine Lo (gr0 _) ⟨rfl,(WG.of f d).trans f q,?_⟩;rw[show[V8 x.n].map wt1=[wt1 (V8 x.n)]from rfl,Au3 hn]at j
  exact j
 .have a:wr (.leaf x)=[.nm x.Zn]:=by unfold wr;rw[X2 om,X2 om]
  rw[a];unfold Bw;rw[i];refine wk ?_;have d:Ai h ((h.new (.cells [iI 0,iI 0,.str []] 170 .exact)).put h.nx (.cells [iI 2,iI x.n,.str x.Zn] 170 .exact)):=((Ai.refl h).new _).put _ _ (Yw _);have O:=d.new (.cells [.str x.Zn] 9 .exact);refine zc0 (z w ts [x.Zn] _ _ (k.gr O) (AlA (h:=(h.new (.cells [iI 0,iI 0,.str []] 170 .exact)).put h.nx (.cells [iI 2,iI x.n,.str x.Zn] 170 .exact)) (by simp only[C9];omega) [x.Zn]) (by show 1<=7;decide) om) λX h1 ⟨u,q,j⟩=>?_
  refine Lo (gr0 _) ⟨rfl,(WG.of f O).trans f q,?_⟩;rw[show[x.Zn].map wt1=[wt1 x.Zn]from rfl,AjQ hn]at j
  exact j
 .have a:wr (.leaf x)=[.wd x.Zn]:=by unfold wr;rw[X2 om,W5 i]
  rw[a];unfold Bw;rw[i];obtain⟨vw,gw,r⟩:=k.g;obtain⟨o1,o2⟩:=B2 r.sl;refine wk ?_;have d:Ai h ((h.new (.cells [iI 0,iI 0,.str []] 170 .exact)).put h.nx (.cells [iI 3,iI x.n,.str x.Zn] 170 .exact)):=((Ai.refl h).new _).put _ _ (Yw _);have J:((h.new (.cells [iI 0,iI 0,.str []] 170 .exact)).put h.nx (.cells [iI 3,iI x.n,.str x.Zn] 170 .exact)).nx=h.nx+1:=rfl;have W:=k.gr d;have oB:=r.gr d;have M:=(d.Cf w f).trans gw;generalize ((h.new (.cells [iI 0,iI 0,.str []] 170 .exact)).put h.nx (.cells [iI 3,iI x.n,.str x.Zn] 170 .exact))=hb at *
  have A:=W.lt;have R:Ai hb ((Ab hb).new (.cells (Aez (Ae7 (.wd x.Zn))) 160 .exact)):=(Ai.refl hb).nl.new _;have oN:=oB.gr R;have Z3:Sl 4 ((Ab hb).new (.cells (Aez (Ae7 (.wd x.Zn))) 160 .exact)) (.sl hb.nx 0 1 1 4 true) 1 (Aez (Ae7 (.wd x.Zn))):=Sl.lit (h:=Ab hb) (Bf _) rfl rfl;obtain⟨v',o,u,q,j,T,q5,Q⟩:=Fm.BmA (bytes:=40) (lo:=w+1) oN Z3.src (by rfl) om (by rfl) (by show w+1<=hb.nx+1;omega)
  have b:∀c,c<hb.nx->((Ab hb).new (.cells (Aez (Ae7 (.wd x.Zn))) 160 .exact)).m.get c=hb.m.get c:=λc hc=>R.Cf c hc;have F:((Ab hb).new (.cells (Aez (Ae7 (.wd x.Zn))) 160 .exact)).nx=hb.nx+1:=rfl;have G:((Ab hb).new (.cells (Aez (Ae7 (.wd x.Zn))) 160 .exact)).lg=[]:=rfl;rw[J]at u;refine Ey u ?_;have Y:=q.lo;obtain⟨p1,p2⟩:=B2 T.sl;have B:o.m.get w=.cells [vw] 127 .exact:=(q5 w (Up w)).trans ((b w A).trans M);have w6:∀x∈wrote (hb.nx+1) o.lg,x=w\/(w<x/\NEx (hb.m.get x))\/hb.nx<=x:=λx s=>by
   rcases Q.lg x (D4 _ _ _ s).1 with p|⟨p,h4⟩|p
   .rw[G]at p;cases p
   .by_cases K:hb.nx<=x
    .exact .inr (.inr K)
    .exact .inr (.inl ⟨p,λcs e E=>h4 cs e ((b x om).trans E)⟩)
   .exact .inr (.inr (by rw[F]at p;omega))
  refine wk ?_;refine Axi (λx=>x=w\/(w<x/\NEx (hb.m.get x))\/hb.nx<=x) ?_ λL hL=>?_
  .simp only[Tl,Pl,Ju,G4,Jj];refine⟨.inr ⟨λx s=>?_,?_⟩,.inl rfl,.inl rfl,.inr ⟨?_,?_⟩,.inl rfl,.inl rfl,.inl rfl,.inl rfl,.inl rfl,.inl rfl,.inl rfl,.inl rfl,.inl trivial,.inl trivial⟩
   .have U:=(D4 _ _ _ s).1;simp at U;exact .inl U
   rotate_left
   .exact w6
   all_goals
    repeat' (refine And.intro ?_ ?_)
   all_goals first|exact Ar ..|(refine Ax _ _ _ _ _ _ _ _ _ _ _ _ ?_;decide)|exact A4Q rfl
  .refine Lo (gr0 _) ⟨rfl,(WG.of f d).trans f ⟨?_,?_,?_,hL⟩,?_⟩
   .show hb.nx<=o.nx;omega
   .intro c hc;show(o.put w _).m.get c=_;rw[Aq _ _ _ om,q5 c om,b c om]
   .intro c cs e hc hn E;show(o.put w _).m.get c=_;rw[Aq _ _ _ hn,Q.ex c cs e om ((b c hc).trans E),b c hc]
   .refine WrS.rl ⟨by show w<o.nx;omega,v',A2 _ _,?_⟩
    have:=Fm.To (l:=[v']) (e1:=127) T (Up w) (by rw[B];rfl);rw[X8,Qm,show([L3.wd x.Zn].map Ae7).flatMap Aez=Aez (Ae7 (.wd x.Zn))from rfl]
    exact Fm.rl (lg:=[w]) this
def OpS(o:Int):Prop:=∃s,(o,s)∈opW/\wt1 s=Ae7 (opX o)
def Bjd(o:Int)(h:o=7\/o=17\/o=4\/o=5\/o=6\/(9<=o/\o<=16)):OpS o:=by
 have:o=4\/o=5\/o=6\/o=7\/o=9\/o=10\/o=11\/o=12\/o=13\/o=14\/o=15\/o=16\/o=17:=by omega
 rcases this with rfl|rfl|rfl|rfl|rfl|rfl|rfl|rfl|rfl|rfl|rfl|rfl|rfl<;>exact⟨_,by simp[opW];rfl,rfl⟩
def A4N(c a:Bool)(l:List L3):l.length<=(brk c a l).length/\(brk c a l).length<=l.length+2:=by unfold brk;cases c<;>cases a<;>simp<;>omega
def Bsb(n:AkX Z)(q:Bm7 Z){a:Tr}(I:OpS o)(L:RO Z o a false)(k:WrS w ts h)(B:AeZ h)(A:2<w)(g:ts.length+2*(wr (.one o a)).length<=2500):
 Wrt w (ts++(wr (.one o a)).map Ae7) h (.Bj []) (Ay prog Z N false 125 [.ptr w 0,A3 (.one o a)] h):=by
 have r:=k.lt;obtain⟨s,l,x⟩:=I;have p:wr (.one o a)=opX o::brk (Ag1 o a.op false) (decide (9<=a.op)) (wr a):=rfl;rw[p]at g ⊢;obtain⟨b1,b2⟩:=A4N (Ag1 o a.op false) (decide (9<=a.op)) (wr a);simp only[R6]at g;rw[show A3 (.one o a)=.I6 109 (.agg [iI o,A3 a])from rfl]
 have b:Ge (A3 a)=true/\cellsOf (A3 a)=some [A3 a]:=by cases a<;>exact⟨rfl,rfl⟩
 obtain⟨r1,G⟩:=b;unfold Wrt;rw[BmJ];obtain⟨c,b⟩:∃c,c=A3 a:=⟨_,rfl⟩;rw[<- b]at r1 G ⊢;have j:=λf h' k' z e=>L w f h' k' z A e;rw[<- b]at j;clear b;refine wk ?_;have u:Ai h ((h.new (.cells [iI 0,.B3] 109 .exact)).put h.nx (.cells [iI o,c] 109 .exact)):=((Ai.refl h).new _).put _ _ (Yw _);have gb:((h.new (.cells [iI 0,.B3] 109 .exact)).put h.nx (.cells [iI o,c] 109 .exact)).m.get h.nx=.cells [iI o,c] 109 .exact:=A2 _ _;have nb:((h.new (.cells [iI 0,.B3] 109 .exact)).put h.nx (.cells [iI o,c] 109 .exact)).nx=h.nx+1:=rfl;generalize ((h.new (.cells [iI 0,.B3] 109 .exact)).put h.nx (.cells [iI o,c] 109 .exact))=hb at *
 refine BoG Z n q gb rfl om l (k.gr u) om λh1 m P i F=>?_;have d:=(i.ex h.nx _ _ om om gb).trans gb;have c1:Nv h1 h.nx [iI o,c]:=⟨by have:=i.nx;omega,_,_,d,trivial⟩
 have M:=c1.one (o:=0) rfl;have O:=c1.one (o:=1) rfl;have J:AeZ h1:=(B.gr u).wg i A;clear c1 d gb;replace j:=(show F5 _ from j)
 refine wk ?_;refine zc0 ((show ∀f h' k' z e,_ from j) _ h1 F J (by simp;omega)) λQ h2 ⟨K,E,y⟩=>?_
 subst K;refine Lo (gr0 _) ⟨rfl,((WG.of r u).trans r i).trans r E,?_⟩;rw[x]at y;simpa using y
def Bsw(E:AkX Z)(I:Bm7 Z){a b:Tr}(T:OpS o)(V:RO Z o a false)(F:RO Z o b true)(k:WrS w ts h)(L:AeZ h)(z:2<w)(r:ts.length+2*(wr (.two o a b)).length<=2500):
 Wrt w (ts++(wr (.two o a b)).map Ae7) h (.Bj []) (Ay prog Z N false 125 [.ptr w 0,A3 (.two o a b)] h):=by
 have u:=k.lt;obtain⟨s,B,J⟩:=T;have G:wr (.two o a b)=brk (Ag1 o a.op false) (decide (9<=a.op)) (wr a)++opX o::brk (Ag1 o b.op true) (decide (9<=b.op)) (wr b):=rfl;rw[G]at r ⊢;obtain⟨b1,b2⟩:=A4N (Ag1 o a.op false) (decide (9<=a.op)) (wr a);obtain⟨b3,b4⟩:=A4N (Ag1 o b.op true) (decide (9<=b.op)) (wr b);simp only[R6,X8]at r;rw[show A3 (.two o a b)=.I6 111 (.agg [iI o,A3 a,A3 b])from rfl]
 have f:Ge (A3 a)=true/\cellsOf (A3 a)=some [A3 a]:=by cases a<;>exact⟨rfl,rfl⟩
 have c:Ge (A3 b)=true/\cellsOf (A3 b)=some [A3 b]:=by cases b<;>exact⟨rfl,rfl⟩
 obtain⟨r1,S⟩:=f;obtain⟨W,r4⟩:=c;unfold Wrt;rw[BmJ];obtain⟨l,f⟩:∃l,l=A3 a:=⟨_,rfl⟩;obtain⟨j,c⟩:∃j,j=A3 b:=⟨_,rfl⟩;rw[<- f]at r1 S ⊢;rw[<- c]at W r4 ⊢;have A:=λe h' k' q d=>V w e h' k' q z d;have i:=λe h' k' q d=>F w e h' k' q z d;rw[<- f]at A;rw[<- c]at i;clear f c;replace i:=(show F5 _ from i)
 replace A:=(show F5 _ from A)
 refine wk ?_;have y:Ai h ((h.new (.cells [iI 0,.B3,.B3] 111 .exact)).put h.nx (.cells [iI o,l,j] 111 .exact)):=((Ai.refl h).new _).put _ _ (Yw _);have gb:((h.new (.cells [iI 0,.B3,.B3] 111 .exact)).put h.nx (.cells [iI o,l,j] 111 .exact)).m.get h.nx=.cells [iI o,l,j] 111 .exact:=A2 _ _;have nb:((h.new (.cells [iI 0,.B3,.B3] 111 .exact)).put h.nx (.cells [iI o,l,j] 111 .exact)).nx=h.nx+1:=rfl;generalize ((h.new (.cells [iI 0,.B3,.B3] 111 .exact)).put h.nx (.cells [iI o,l,j] 111 .exact))=hb at *
 refine zc0 ((show ∀e h' k' q d,_ from A) _ hb (k.gr y) (L.gr y) om) λv1 h1 ⟨K,n,Q⟩=>?_
 subst K;have g:=(n.ex h.nx _ _ om om gb).trans gb;refine BoG Z E I g rfl (by have:=n.nx;omega) B Q (by simp;omega) λh2 m v2 x U=>?_
 have O:h.nx<h2.nx:=by have:=n.nx;have:=x.nx;omega
 have p:=(x.ex h.nx _ _ (by have:=n.nx;omega) om g).trans g
 have c1:Nv h2 h.nx [iI o,l,j]:=⟨O,_,_,p,trivial⟩;have X:=c1.one (o:=0) rfl;have Y:=c1.one (o:=2) rfl;have R:AeZ h2:=((L.gr y).wg n z).wg x z;clear c1 p g gb;refine wk ?_;refine zc0 ((show ∀e h' k' q d,_ from i) _ h2 U R (by simp;omega)) λv3 h3 ⟨K,P,M⟩=>?_
 subst K;refine Lo (gr0 _) ⟨rfl,(((WG.of u y).trans u n).trans u x).trans u P,?_⟩;rw[J]at M;simpa using M
def Bnz(a:AkX Z)(s:List Nat){Q:AV->H->Prop}{K:AV->H->OR}(k:WrS w ts h)(b:ts.length<=2500)
 (hk:∀h1,WG w h h1->WrS w (ts++[wt1 s]) h1->Ah H0 Q (K (.ptr w 0) h1)):
 Ah H0 Q (Aa (Z.call 122 [.ptr w 0,.sl h.nx 0 1 1 1 true] (h.new (.cells [.str s] 9 .exact))) K):=by
 have c:Ai h (h.new (.cells [.str s] 9 .exact)):=(Ai.refl h).new _;refine zc0 (a w ts [s] _ _ (k.gr c) (AlA (h:=h) k.lt [s]) (by show 1<=7;decide) b) λg h1 ⟨e,f,d⟩=>?_
 subst e;exact hk h1 ((WG.of k.lt c).trans k.lt f) d
def Bkx(y:AkX Z){c a b:Tr}(hC:RW Z c)(hA:RW Z a)(X:RW Z b)(k:WrS w ts h)(Y:AeZ h)(x:2<w)(E:ts.length+2*(wr (.three c a b)).length<=2500):
 Wrt w (ts++(wr (.three c a b)).map Ae7) h (.Bj []) (Ay prog Z N false 125 [.ptr w 0,A3 (.three c a b)] h):=by
 have z:=k.lt;have L:wr (.three c a b)=.kw [105,102]::wr c++.kw [116,104,101,110]::wr a++.kw [101,108,115,101]::wr b:=rfl;rw[L]at E ⊢;simp only[R6,X8]at E;rw[show A3 (.three c a b)=.I6 116 (.agg [A3 c,A3 a,A3 b])from rfl]
 have g:Ge (A3 a)=true/\cellsOf (A3 a)=some [A3 a]:=by cases a<;>exact⟨rfl,rfl⟩
 have f:Ge (A3 b)=true/\cellsOf (A3 b)=some [A3 b]:=by cases b<;>exact⟨rfl,rfl⟩
 have i:Ge (A3 c)=true/\cellsOf (A3 c)=some [A3 c]:=by cases c<;>exact⟨rfl,rfl⟩
 obtain⟨r1,r2⟩:=g;obtain⟨r3,r4⟩:=f;obtain⟨r5,r6⟩:=i;unfold Wrt;rw[BmJ];obtain⟨l,g⟩:∃l,l=A3 a:=⟨_,rfl⟩;obtain⟨j,f⟩:∃j,j=A3 b:=⟨_,rfl⟩;obtain⟨rc,i⟩:∃rc,rc=A3 c:=⟨_,rfl⟩;rw[<- g]at r1 r2 ⊢;rw[<- f]at r3 r4 ⊢;rw[<- i]at r5 r6 ⊢;have p:=λe h' k' u d=>hA w e h' k' u x d;have n:=λe h' k' u d=>X w e h' k' u x d;have r:=λe h' k' u d=>hC w e h' k' u x d;rw[<- g]at p;rw[<- f]at n;rw[<- i]at r;clear g f i;replace p:=(show F5 _ from p)
 replace n:=(show F5 _ from n)
 replace r:=(show F5 _ from r)
 refine wk ?_;have M:Ai h ((h.new (.cells [.B3,.B3,.B3] 116 .exact)).put h.nx (.cells [rc,l,j] 116 .exact)):=((Ai.refl h).new _).put _ _ (Yw _);have gb:((h.new (.cells [.B3,.B3,.B3] 116 .exact)).put h.nx (.cells [rc,l,j] 116 .exact)).m.get h.nx=.cells [rc,l,j] 116 .exact:=A2 _ _;have nb:h.nx+1=((h.new (.cells [.B3,.B3,.B3] 116 .exact)).put h.nx (.cells [rc,l,j] 116 .exact)).nx:=rfl;rw[nb];generalize ((h.new (.cells [.B3,.B3,.B3] 116 .exact)).put h.nx (.cells [rc,l,j] 116 .exact))=hb at *
 refine Bnz Z y [105,102] (k.gr M) om λh1 I k1=>?_;have q:=(I.ex h.nx _ _ om om gb).trans gb;have S:h.nx<h1.nx:=by have:=I.nx;omega
 have x0:=(⟨S,_,_,q,trivial⟩:Nv h1 h.nx [rc,l,j]).one (o:=0) rfl;have U:=(Y.gr M).wg I x;clear gb;refine wk ?_;refine zc0 ((show ∀e h' k' u d,_ from r) _ h1 k1 U (by simp;omega)) λv2 h2 ⟨q2,G,k2⟩=>?_
 subst q2;clear x0;have A:=(G.ex h.nx _ _ S om q).trans q;have V:h.nx<h2.nx:=by have:=G.nx;omega
 refine wk ?_;refine Bnz Z y [116,104,101,110] k2 (by simp;omega) λQ F k3=>?_;have s:=(F.ex h.nx _ _ V om A).trans A;have R:h.nx<Q.nx:=by have:=F.nx;omega
 have W:=(⟨R,_,_,s,trivial⟩:Nv Q h.nx [rc,l,j]).one (o:=1) rfl;have p3:=(U.wg G x).wg F x;clear q A;refine wk ?_;refine zc0 ((show ∀e h' k' u d,_ from p) _ Q k3 p3 (by simp;omega)) λv4 h4 ⟨q4,K,k4⟩=>?_
 subst q4;clear W;have B:=(K.ex h.nx _ _ R om s).trans s;have n4:h.nx<h4.nx:=by have:=K.nx;omega
 refine wk ?_;refine Bnz Z y [101,108,115,101] k4 (by simp;omega) λP J k5=>?_;have O:=(J.ex h.nx _ _ n4 om B).trans B;have n5:h.nx<P.nx:=by have:=J.nx;omega
 have x2:=(⟨n5,_,_,O,trivial⟩:Nv P h.nx [rc,l,j]).one (o:=2) rfl;have p5:=(p3.wg K x).wg J x;clear s B;refine wk ?_;refine zc0 ((show ∀e h' k' u d,_ from n) _ P k5 p5 (by simp;omega)) λv6 h6 ⟨q6,g6,T⟩=>?_
 subst q6;refine Lo (gr0 _) ⟨rfl,((((((WG.of z M).trans z I).trans z G).trans z F).trans z K).trans z J).trans z g6,?_⟩;rw[Bc7 fe,Bc7 fe,Bc7 fe]at T;simpa using T
def AwU:Tr->Prop
|.leaf x=>(x.op=1/\Num x.n)\/(x.op=2/\x.Zn∈R2++N1)\/x.op=3
|.one o a=>(o=7\/o=17)/\AwU a
|.two o a b=>(o=4\/o=5\/o=6\/(9<=o/\o<=16))/\AwU a/\AwU b
|.three c a b=>AwU c/\AwU a/\AwU b
def A4O{c a:Bool}{l:List L3}{x:L3}(h:x∈l):x∈brk c a l:=by unfold brk;cases c<;>cases a<;>simp[h]
def AjP{D:Dom}:∀{t:Tr} {k:Bool},E7 D k t->(∀x∈wr t,Ah9 x)->AwU t
|.leaf x,k,g,d=>by
 obtain⟨_,⟨h1,h2,f⟩|h1⟩:=g
 .exact .inl ⟨h1,f⟩
 .have h2:x.op=2:=h1.1;have:=d (.nm x.Zn) (by unfold wr;rw[X2 om,X2 om];exact Qv.2 rfl);exact .inr (.inl ⟨h2,this⟩)
|.one o a,k,g,d=>by
 have i:∀x∈wr a,Ah9 x:=λx e=>d x (Vo _ (A4O e));rcases g with⟨_,h1,h2⟩|⟨_,h1,h2⟩
 .exact⟨.inl h1,AjP h2 i⟩
 .exact⟨.inr h1,AjP h2 i⟩
|.two o a b,k,g,d=>by
 have i:∀x∈wr a,Ah9 x:=λx e=>d x (aw _ (A4O e));have j:∀x∈wr b,Ah9 x:=λx e=>d x (Gw _ (Vo _ (A4O e)));rcases g with⟨_,h1,h2,f⟩|⟨_,h1,h2,f⟩|⟨_,h1,h2⟩|⟨_,h1,h2,f⟩
 .exact⟨by omega,AjP h2 i,AjP f j⟩
 .exact⟨by omega,AjP h2 i,AjP f j⟩
 .obtain⟨x,y,rfl,rfl,l,m,_⟩:=Agn h2;have:=i (.nm x.Zn) (by unfold wr;rw[X2 om,X2 om];exact Qv.2 rfl);exact⟨by omega,.inr (.inl ⟨l.1,this⟩),.inr (.inr m)⟩
 .exact⟨by omega,AjP h2 i,AjP f j⟩
|.three c a b,k,g,d=>by obtain⟨_,h1,h2,f⟩:=g;refine⟨AjP h1 λx e=>d x ?_,AjP h2 λx e=>d x ?_,AjP f λx e=>d x ?_⟩<;>simp[wr,e]
variable {C:Nat->Ac}{D:Nat}
def Bwp(U:Abu C)(hd:1<=D):Bhc (C D):=by obtain⟨e,rfl,a⟩:=prL hd;exact λh=>Gp U (B2T _ _)
def Bwq(U:Abu C)(hd:1<=D):Bm7 (C D):=by obtain⟨e,rfl,a⟩:=prL hd;exact λh=>Gp U (B2U _ _)
def BbA(U:Abu C)(BiG:∀d,2<=d->Be2 (C d))(hd:3<=D):AkX (C D):=by obtain⟨e,rfl,a⟩:=prL hd;exact λw ts ws v h k L h1 h2=>Gp U (B22 _ _ fe (Bwp U om) (BiG e a) k L h1 h2)
def B2l(U:Abu C)(hd:1<=D):BtN (C D):=by obtain⟨e,rfl,b⟩:=prL hd;exact λv h h0 a=>Gp U (B3w _ _ h0 a)
def B2k(U:Abu C)(hd:1<=D):BtM (C D):=by obtain⟨e,rfl,b⟩:=prL hd;exact λk h a=>Gp U (B3v _ _ a)
def B2m(U:Abu C)(hd:1<=D):BtO (C D):=by obtain⟨e,rfl,a⟩:=prL hd;exact λb h=>Gp U (B3x _ _ b)
def B2h(U:Abu C)(hd:2<=D):BtJ (C D):=by obtain⟨e,rfl,a⟩:=prL hd;exact λv h h0 b c=>Gp U (B3s _ _ (B2l U a) (B2k U a) (B2m U a) h0 b c)
def B2g(U:Abu C)(hd:1<=D):BtI (C D):=by obtain⟨e,rfl,b⟩:=prL hd;exact λv h a=>Gp U (B3r _ _ a)
def B2i(U:Abu C)(hd:1<=D):BtK (C D):=by obtain⟨e,rfl,i⟩:=prL hd;exact λb n v cap ex e pr mid a h f c d hn g=>upP U (B3t _ _ fe f c d hn g)
def B2d(U:Abu C)(hd:3<=D):BtF (C D):=by obtain⟨e,rfl,b⟩:=prL hd;exact λv h a c=>Gp U (B3n _ _ (B2g U om) (B2h U b) (B2i U om) a c)
def B1X(U:Abu C)(hd:4<=D):BtD (C D):=by obtain⟨e,rfl,b⟩:=prL hd;exact λv h a c=>Gp U (B3g _ _ (B2d U b) a c)
def Bwo(U:Abu C)(hd:5<=D):Bpk (C D):=by obtain⟨e,rfl,a⟩:=prL hd;exact λn h hn b=>Gp U (B2R _ _ (B1X U a) hn b)
def Bwj(U:Abu C)(BiG:∀d,2<=d->Be2 (C d))(hd:6<=D):AsL (C D):=by obtain⟨e,rfl,b⟩:=prL hd;exact λw ts n h k hn a c f=>Gp U (B24 _ _ (BbA U BiG om) (Bwo U b) k hn a c)
def B1Y(U:Abu C)(De:∀d,2<=d->HOp (C d))(hd:3<=D):BtE (C D):=by obtain⟨e,rfl,a⟩:=prL hd;exact λop t r h b=>Gp U (B3h _ _ (De e a) op t r b)
def Bsd(U:Abu C)(BiG:∀d,2<=d->Be2 (C d))(De:∀d,2<=d->HOp (C d))(a:∀d,3<=d->H64 (C d))(hd:4<=D){t:Tr}(i:RW (C (D-1)) t)(j:4<=o)(r:Bool):RO (C D) o t r:=by obtain⟨e,rfl,b⟩:=prL hd;exact λw ts h k g f c=>Gp U (B2V _ _ (BbA U BiG b) (B1Y U De b) (a e b) i j r k g f c)
def AoZ(U:Abu C)(BiG:∀d,2<=d->Be2 (C d))(De:∀d,2<=d->HOp (C d))(f:∀d,3<=d->H64 (C d)):∀{t:Tr},AwU t->∀D,2*size t+7<=D->RW (C D) t
|.leaf x,g,D,q=>by
 obtain⟨e,rfl,m⟩:=prL (show 6+1<=D by omega)
 exact λw ts h k l j i=>Gp U (Bnl _ _ (BbA U BiG om) (Bwj U BiG m) g k l j (by
  have:(wr (.leaf x)).length=1:=by unfold wr;split;rfl;split<;>rfl
  omega))
|.one o a,g,D,q=>by
 obtain⟨e,rfl,m⟩:=prL (show 6+1<=D by omega)
 have r:size (.one o a)=1+size a:=by simp[size];omega
 have n:=AoZ U BiG De f g.2 (e-1) om;exact λw ts h k l j i=>Gp U (Bsb _ _ (BbA U BiG om) (Bwq U om) (Bjd o (by have:=g.1;omega)) (Bsd U BiG De f om n (by have:=g.1;omega) false) k l j i)
|.two o a b,g,D,q=>by
 obtain⟨e,rfl,m⟩:=prL (show 6+1<=D by omega)
 have r:size (.two o a b)=1+size a+size b:=by simp[size];omega
 have n:=AoZ U BiG De f g.2.1 (e-1) om;have p:=AoZ U BiG De f g.2.2 (e-1) om;have s:=g.1;exact λw ts h k l j i=>Gp U (Bsw _ _ (BbA U BiG om) (Bwq U om) (Bjd o om) (Bsd U BiG De f om n om false) (Bsd U BiG De f om p om true) k l j i)
|.three c a b,g,D,q=>by
 obtain⟨e,rfl,m⟩:=prL (show 6+1<=D by omega)
 have r:size (.three c a b)=1+size c+size a+size b:=by simp[size];omega
 exact λw ts h k l j i=>Gp U (Bkx _ _ (BbA U BiG om) (AoZ U BiG De f g.1 e om) (AoZ U BiG De f g.2.1 e om) (AoZ U BiG De f g.2.2 e om) k l j i)
end Go.Proofs
