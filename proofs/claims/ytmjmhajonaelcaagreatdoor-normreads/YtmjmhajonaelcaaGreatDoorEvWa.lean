/- The writer: words and numbers in drawn regions. -/
import Derived.Test.YtmjmhajonaelcaaGreatDoorEvLd
set_option linter.all false
set_option maxRecDepth 100000
noncomputable section
namespace Go.Proofs
open Go Go.Ev Go.Nm Go.Ev.Sx
attribute [local irreducible] Aa Al Af Ad
variable {o:Int}{j:EF}
variable (Z cx:Ac)(N:Nat)
variable {h h1 h2 h0 hd:H}{w:Nat}{ts:List Tok}{t:Tok}
def Bp3{n1 b7:Nat}{B t9 i:AV}{f0:L2}{Q:AV->H->Prop}(k:WrS w ts h)(hl:ts.length<=3000)(T:h.m.get b7=cz (Aez t) 48)(l7:b7<h.nx)(Y:b7≠w)
 (go:∀h1 f0,WG w h h1->WrS w (ts++[t]) h1->Ah H0 Q (Bac Z N n1 (.ptr w 0) B t9 i f0 h1)):
 Ah H0 Q (AwJ Z N n1 (.ptr w 0) (.ptr b7 0) B t9 i f0 h):=by
 obtain⟨v,M,y⟩:=k.g;have P:=k.lt;obtain⟨W,V⟩:=B2 y.sl;replace go:=(show F5 _ from go);rw[Bmm];refine wk ?_;have A:Ai h ((Ab h).new (cz (Aez t) 48)):=(Ai.refl h).nl.new _;have K:=y.gr A;have O:Sl 4 ((Ab h).new (cz (Aez t) 48)) (.sl h.nx 0 1 1 4 true) 1 (Aez t):=Sl.lit (h:=Ab h) (Bf _) rfl rfl;obtain⟨v',f,G,R,U,z,q5,s⟩:=Fm.BmA (bytes:=40) (lo:=w+1) K O.src (by rfl) om (by rfl) (by show w+1<=h.nx+1;omega);have a:∀c,c<h.nx->((Ab h).new (cz (Aez t) 48)).m.get c=h.m.get c:=λc hc=>A.Cf c hc;have p:((Ab h).new (cz (Aez t) 48)).nx=h.nx+1:=rfl;have n:((Ab h).new (cz (Aez t) 48)).lg=[]:=rfl;refine Ey G ?_;have I:=R.lo;obtain⟨X,S⟩:=B2 z.sl;have r:f.m.get w=cz [v] 59:=(q5 w (Up w)).trans ((a w P).trans M);have E:∀x∈wrote (h.nx+1) f.lg,x=w\/(w<x/\NEx (h.m.get x))\/h.nx<=x:=λx o=>by
  rcases s.lg x (D4 _ _ _ o).1 with d|⟨d,F⟩|d;. rw[n]at d;cases d
  .by_cases j:h.nx<=x;. exact .inr (.inr j)
   .exact .inr (.inl ⟨d,λcs e q=>F cs e ((a x om).trans q)⟩)
  .exact .inr (.inr (by rw[p]at d;omega))
 refine wk ?_;refine Axi (λx=>x=w\/(w<x/\NEx (h.m.get x))\/h.nx<=x) ?_ λL J=>?_
 .simp only[Tl,Ww,Ju,G4,Jj];refine⟨.inr ⟨λx o=>?_,?_⟩,.inl rfl,.inl rfl,.inr ⟨E,?_⟩,.inl rfl,.inl rfl,.inl rfl,.inl rfl,.inl rfl,.inl trivial,.inl trivial⟩;. have u:=(D4 _ _ _ o).1;simp at u;exact .inl u
  all_goals
   repeat' (refine And.intro ?_ ?_)
  all_goals first|exact Ar ..|(refine Ax _ _ _ _ _ _ _ _ _ _ _ _ ?_;decide)|exact A4Q rfl
 .refine(show ∀h1 f0,_ from go) _ _ ⟨?_,?_,?_,J⟩ ?_;. show h.nx<=f.nx;omega
  .intro c hc;show(f.put w _).m.get c=_;rw[Aq _ _ _ om,q5 c om,a c om]
  .intro c hc hn q;show(f.put w _).m.get c=_;rw[Aq _ _ _ hn,s.st c om (by rw[a c hc];exact q),a c hc]
  .refine WrS.rl ⟨by show w<f.nx;omega,v',A2 _ _,?_⟩;have:=Fm.To (l:=[v']) (e1:=59) z (Up w) (by rw[r];rfl);rw[Yl,V5,show[t].flatMap Aez=Aez t from rfl];exact Fm.rl (lg:=[w]) this
open Tryz
variable {ws:List uq}{v:AV}
def A6R:∀l:List _,l.flatMap Aeb=l.map AV.str
|[]=>rfl
|a::l=>by show AV.str a::l.flatMap _=_;rw[A6R l];rfl
def wt1(s:uq):Tok:=⟨if s∈Sgs then 5 else 1,s,0,0⟩
def Lit w(h:H)(v:AV)(ws:List _):=∃m e,v=.sl m 0 ws.length ws.length 1 true/\h.m.get m=cz (ws.flatMap Aeb) e/\m<h.nx/\m≠w
def Wrt w ts h rv r:=Ah H0 (λr h'=>r=rv/\WG w h h'/\WrS w ts h') r
def AkX:=∀w ts ws v h,WrS w ts h->Lit w h v ws->ws.length<=7->ts.length<=2500->Wrt w (ts++ws.map wt1) h (.ptr w 0) (Z.call 48 [.ptr w 0,v] h)
def BdL(d:Bhc Z)(j:Be2 Z)(E:w<h.nx)(L:Lit w h v ws)(Y:ws.length<=7)(F:ts.length<=2500):
 ∀(u i n:Nat) (hd:H) (f0:L2),i+u=ws.length->u<n->WG w h hd->WrS w (ts++(ws.take i).map wt1) hd->Wrt w (ts++ws.map wt1) h (.ptr w 0) (A3y Z N n (.ptr w 0) v (iI ws.length) (iI i) f0 hd)
 |0,i,n,hd,f0,hi,hn,g,k=>by obtain⟨n1,rfl⟩:∃n1,n=n1+1:=⟨n-1,by omega⟩;have R:decide ((i:Int)<(ws.length:Int))=false:=df;have T:decide (i<ws.length)=false:=df;rw[Qa om]at k;unfold Wrt;rw[BcR];refine wk ?_;exact Lo (gr0 _) ⟨rfl,g,k⟩
 |u+1,i,n,hd,f0,hi,hn,g,k=>by
  obtain⟨n1,rfl⟩:∃n1,n=n1+1:=⟨n-1,by omega⟩;have z:=BdL d j E L Y F u (i+1) n1;have R:decide ((i:Int)<(ws.length:Int))=true:=dt;have T:decide (i<ws.length)=true:=dt;obtain⟨m,e,rfl,G,P,nm⟩:=L;obtain⟨s,O⟩:∃s,ws[i]?=some s:=⟨_,Oh om⟩;have x1:=λhh=>A6n (b:=m) (off:=0) (n:=ws.length) (cap:=ws.length) (ex:=true) (i:=i) (show i<ws.length by omega) hh;rw[Rx]at x1;have y:hd.m.get m=cz (ws.flatMap Aeb) e:=(g.ex m _ _ P nm G).trans G;have J:m<hd.nx:=Xq P g.nx;have c2:Nv hd m (ws.flatMap Aeb):=⟨J,_,_,y,trivial⟩;have x2:=c2.one (o:=i) (x:=.str s) (by rw[A6R,Cn,O];rfl);have B6:=k.lt;have hle:i<7:=by omega
  replace z:=(show F5 _ from z);clear c2 G;unfold Wrt;rw[BcR];refine wk ?_;refine Fj (d _) λv1 h2 W l2 I q2=>?_;obtain⟨m2,rfl,p⟩:=q2;simp only[C9]at l2;have M:h2.m.get hd.nx=cz (Aez ⟨1,s,0,0⟩) 48:=by simp_all
  have gA:Ai hd h2:=Ai.trans Ex W;refine Fj (j s _ Sgs h2 p fe) λv3 h3 e3 l3 q V=>?_;subst V;have U:=gA.trans e3;have A:=(q hd.nx om).trans M;have a:∀(f:H) f0,Ai hd f->f.m.get hd.nx=cz (Aez (wt1 s)) 48->hd.nx<f.nx->Ah H0 (λr h'=>r=.ptr w 0/\WG w h h'/\WrS w (ts++ws.map wt1) h') (AwJ Z N n1 (.ptr w 0) (.ptr hd.nx 0) (.sl m 0 ws.length ws.length 1 true) (iI ws.length) (iI i) f0 f):=λf f0 K S X=>by refine Bp3 Z N (k.gr K) (by simp;omega) S X om λh5 f5 g5 B=>?_;rw[Bmn];refine wk ?_;rw[show(i:Int)+1=((i+1:Nat):Int)by omega];refine(show ∀(hd:H) (f0:L2),_ from z) _ _ om om ((g.gr E K).trans E g5) ?_;rw[Y9,O,ah,<- Wq];exact B
  replace a:=(show F5 _ from a);clear z I q M p y x2 k d j;by_cases c:s∈Sgs
  .have B:decide (s∈Sgs)=true:=Ws c;have l:Aez (wt1 s)=[iI 5,.str s,iI 0,iI 0]:=by unfold wt1;rw[Xo c]
   rw[l]at a;refine wk ?_;exact(show ∀(f:H) f0,_ from a) _ _ Ex (A2 _ _) ml
  .have B:decide (s∈Sgs)=false:=Yc c;have l:wt1 s=⟨1,s,0,0⟩:=by unfold wt1;rw[X2 c]
   rw[l]at a;refine wk ?_;exact(show ∀(f:H) f0,_ from a) _ _ U A om
def B22(l:10<N)(d:Bhc Z)(a:Be2 Z)(k:WrS w ts h)(L:Lit w h v ws)(i:ws.length<=7)(c:ts.length<=2500):Wrt w (ts++ws.map wt1) h (.ptr w 0) (Ay prog Z N false 48 [.ptr w 0,v] h):=by have⟨m,e,g,f,j,nm⟩:=L;rw[ByT];exact Ey (by simp_all) (BdL Z N d a k.lt ⟨m,e,g,f,j,nm⟩ i c ws.length 0 N h _ om om (WG.refl k.lt) (by grind))
def zc0{Q R}{r}{k}(a:Ah H0 R r)(c:∀v h1,R v h1->Ah H0 Q (k v h1)):Ah H0 Q (Aa r k):=by obtain⟨v,h1,rfl,_,q⟩:=a;simp[*]
def AeZ.wg(p:AeZ h)(g:WG w h h1)(a:2<w):AeZ h1:=⟨(g.lo 1 om).trans p.g,Xq p.lt g.nx⟩
def AlA{e}(a:w<h.nx) ws:Lit w (h.new (cz (ws.flatMap Aeb) e)) (.sl h.nx 0 ws.length ws.length 1 true) ws:=⟨_,e,rfl,Bf _,Up _,by omega⟩
def nwd n:=if n<0 then[[45],V8 (-n)]else[V8 n]
def AsL:=∀w ts n h,WrS w ts h->Sml n->ts.length<=2500->AeZ h->2<w->Wrt w (ts++(nwd n).map wt1) h (.ptr w 0) (Z.call 50 [.ptr w 0,iI n] h)
def B24(a:AkX Z)(c:Bpk Z)(k:WrS w ts h)(hn:Sml o)(m:ts.length<=2500)(j:AeZ h):Wrt w (ts++(nwd o).map wt1) h (.ptr w 0) (mr Z N 50 [.ptr w 0,iI o] h):=by
 obtain⟨n1,s⟩:=hn;have d:=k.lt;unfold Wrt;rw[ByV];by_cases h0:o<0
 .have n:decide (o<0)=true:=Ws h0;have e:nwd o=[[45],V8 (-o)]:=Xo h0;rw[e];have r:∀g:H,Qe .neg (iI o) g=.ok (iI (-o)) g:=λg=>by rw[A6M,Cr _ om om,Int.zero_sub]
  refine Ey (Hf ..) ?_;rw[n];refine Zx (Ey (r _) ?_);refine Fj (c (-o) h ⟨by omega,by omega⟩ j) λq h1 e1 l1 f l=>?_;subst l;refine wk ?_;have g1:Ai h (h1.new (cz [.str [45],.str (V8 (-o))] 9)):=e1.new _;refine zc0 (a w _ _ _ _ (k.gr g1) (AlA om [[45],V8 _]) (by simp) om) λp h2 i=>?_;have⟨rfl,g2,k2⟩:=i;exact Lo (gr0 _) ⟨rfl,(WG.of d g1).trans d g2,k2⟩
 .have e:nwd o=[V8 o]:=X2 h0;rw[e];apply Ey (Hf ..);rw[Yc h0];refine Ae5 (Fj (c o h ⟨by omega,by omega⟩ j) λq h1 e1 l1 f l=>wk ?_);have g1:Ai h (h1.new (cz [.str (V8 o)] 9)):=e1.new _;refine zc0 (a w _ _ _ _ (k.gr g1) (AlA om [V8 o]) (by simp) om) λp h2 i=>?_;have⟨rfl,g2,k2⟩:=i;exact Lo (gr0 _) ⟨rfl,(WG.of d g1).trans d g2,k2⟩
def A0g:List (Int × uq):=[(4,[43]),(5,[45]),(6,[42]),(7,[45]),(9,[61]),(10,[33,61]),(11,[60]),(12,[60,61]),(13,[62]),(14,[62,61]),(15,bm),(16,[111,114]),(17,ur)]
def BtE:=∀op t r h,4<=op->Ah h (λv _=>v=.bool (Ag1 op t.op r)) (Z.call 121 [iI op,A3 t,.bool r] h)
set_option maxHeartbeats 800000 in
def B3h(De:HOp Z)(op:Int)(t:Tr)(r:Bool)(l:4<=op):Ah h (λv _=>v=.bool (Ag1 op t.op r)) (mr Z N 121 [iI op,A3 t,.bool r] h):=by
 have M:∀(w:Bool) (r:OR) (k:H),Ad (.Bj []) w r k=.ok (.Bj []) k:=λw r k=>A0V [] w r k;rw[BzA];refine Ey (De t h) ?_;generalize t.op=o;by_cases x:o=8
 .subst x;by_cases q:op<=7
  .have A:decide (4<=op)=true:=Ws l;have k2:decide (op<=7)=true:=Ws q;refine wk ?_;exact zr Ex (by simp[Ag1,l,q])
  .have A:decide (4<=op)=true:=Ws l;have k2:decide (op<=7)=false:=Yc q;refine wk ?_;exact zr Ex (by simp[Ag1,q])
 have L:decide (o=8)=false:=Yc x;by_cases z:o=4
 .subst z;by_cases p6:op=6
  .subst p6;cases r<;>(refine wk ?_;rw[AeR];refine wk ?_;exact zr Ex rfl)
  by_cases d:op=7
  .subst d;cases r<;>(refine wk ?_;rw[AeR];refine wk ?_;exact zr Ex rfl)
  by_cases f:op=4
  .subst f;cases r<;>(refine wk ?_;rw[AeR];refine wk ?_;exact zr Ex rfl)
  by_cases e:op=5
  .subst e;cases r<;>(refine wk ?_;rw[AeR];refine wk ?_;exact zr Ex rfl)
  have p:decide (op=6)=false:=Yc p6;have y:decide (op=7)=false:=Yc d;have I:decide (op=4)=false:=Yc f;have F:decide (op=5)=false:=Yc e;cases r<;>(refine wk ?_;rw[AeR];refine wk ?_;exact zr Ex (by simp[Ag1, *]))
 have n4:decide (o=4)=false:=Yc z;by_cases u:o=5
 .subst u;by_cases p6:op=6
  .subst p6;cases r<;>(refine wk ?_;rw[AeR];refine wk ?_;exact zr Ex rfl)
  by_cases d:op=7
  .subst d;cases r<;>(refine wk ?_;rw[AeR];refine wk ?_;exact zr Ex rfl)
  by_cases f:op=4
  .subst f;cases r<;>(refine wk ?_;rw[AeR];refine wk ?_;exact zr Ex rfl)
  by_cases e:op=5
  .subst e;cases r<;>(refine wk ?_;rw[AeR];refine wk ?_;exact zr Ex rfl)
  have p:decide (op=6)=false:=Yc p6;have y:decide (op=7)=false:=Yc d;have I:decide (op=4)=false:=Yc f;have F:decide (op=5)=false:=Yc e;cases r<;>(refine wk ?_;rw[AeR];refine wk ?_;exact zr Ex (by simp[Ag1, *]))
 have J:decide (o=5)=false:=Yc u;by_cases s:o=6
 .subst s;by_cases d:op=7
  .subst d;cases r<;>(refine wk ?_;rw[AeR];refine wk ?_;exact zr Ex rfl)
  by_cases p6:op=6
  .subst p6;cases r<;>(refine wk ?_;rw[AeR];refine wk ?_;exact zr Ex rfl)
  have y:decide (op=7)=false:=Yc d;have p:decide (op=6)=false:=Yc p6;cases r<;>(refine wk ?_;rw[AeR];refine wk ?_;exact zr Ex (by simp[Ag1, *]))
 have K:decide (o=6)=false:=Yc s;by_cases i:o=16
 .subst i;by_cases a:op=15
  .subst a;cases r<;>(refine wk ?_;rw[AeR];refine wk ?_;exact zr Ex rfl)
  by_cases c:op=17
  .subst c;cases r<;>(refine wk ?_;rw[AeR];refine wk ?_;exact zr Ex rfl)
  by_cases j:op=16
  .subst j;cases r<;>(refine wk ?_;rw[AeR];refine wk ?_;exact zr Ex rfl)
  have n:decide (op=15)=false:=Yc a;have m:decide (op=17)=false:=Yc c;have B:decide (op=16)=false:=Yc j;cases r<;>(refine wk ?_;rw[AeR];refine wk ?_;exact zr Ex (by simp[Ag1, *]))
 have G:decide (o=16)=false:=Yc i;by_cases g:o=15
 .subst g;by_cases c:op=17
  .subst c;cases r<;>(refine wk ?_;rw[AeR];refine wk ?_;exact zr Ex rfl)
  by_cases a:op=15
  .subst a;cases r<;>(refine wk ?_;rw[AeR];refine wk ?_;exact zr Ex rfl)
  have m:decide (op=17)=false:=Yc c;have n:decide (op=15)=false:=Yc a;cases r<;>(refine wk ?_;rw[AeR];refine wk ?_;exact zr Ex (by simp[Ag1, *]))
 have E:decide (o=15)=false:=Yc g;refine wk ?_;rw[AeR];refine wk ?_;exact zr Ex (by simp[Ag1, *])
variable {t:Tr}
abbrev opE(k:Nat):List (AV × AV):=(A0g.take k).map λp=>(iI p.1,.str p.2)
def Bno:∀k,k<13->Z7 (Gy prog 3 (iI (A0g.getD k (0,[])).1)) (iI (A0g.getD k (0,[])).1) (.str (A0g.getD k (0,[])).2) (opE k)=some (opE (k+1))
|0,_=>rfl
|1,_=>rfl
|2,_=>rfl
|3,_=>rfl
|4,_=>rfl
|5,_=>rfl
|6,_=>rfl
|7,_=>rfl
|8,_=>rfl
|9,_=>rfl
|10,_=>rfl
|11,_=>rfl
|12,_=>rfl
|k+13,a=>absurd a om
def Aja{r} k(c:k<13)(a:h.m.get r=.map (opE k)):As5 prog 3 (.str []) (.map r) (iI (A0g.getD k (0,[])).1) (.str (A0g.getD k (0,[])).2) h=.ok (.Bj []) (h.put r (.map (opE (k+1)))):=by rw[A53,a,AqR,Bno k c];rfl
def Bm7:=∀h,Ah h (λr h1=>∃m,r=.map m/\h1.m.get m=.map (opE 13)) (Z.call 87 [] h)
def B2U:Ah h (λr h1=>∃m,r=.map m/\h1.m.get m=.map (opE 13)) (mr Z N 87 [] h):=by rw[Bzx];refine Ey (v:=.map h.nx) (h:=h.new (.map [])) rfl ?_;refine Ey (Aja 0 (by simp) (Bf _)) ?_;refine Ey (Aja 1 fe (A2 _ _)) ?_;refine Ey (Aja 2 fe (A2 ..)) ?_;refine Ey (Aja 3 fe (A2 _ _)) (Ey (Aja 4 fe (A2 _ _)) ?_);refine Ey (Aja 5 fe (A2 _ _)) ?_;refine Ey (Aja 6 (by simp) (A2 ..)) ?_;exact Ey (Aja 7 (by simp) (A2 ..)) (Ey (Aja 8 (by simp) (A2 ..)) (Ey (Aja 9 (by simp) (A2 ..)) (Ey (Aja _ (by omega) (A2 ..)) (Ey (Aja 11 (by simp) (A2 _ _)) (Ey (Aja _ (by simp) (A2 ..)) (Lo (((((((((((((((Ai.refl h).new _).put _ _ (Ye _)).put _ _ (Ye _)).put _ _ (Ye _)).put _ _ (Ye _)).put _ _ (Ye _)).put _ _ (Ye _)).put _ _ (Ye _)).put _ _ (Ye _)).put _ _ (Ye _)).put _ _ (Ye _)).put _ _ (Ye _)).put _ _ (Ye _)).put _ _ (Ye _)) ⟨_,rfl,A2 ..⟩))))))
def Bi1:∀p∈A0g,M1 (Gy prog 3 (iI p.1)) (opE 13)=some (some (.str p.2)):=by simp only[A0g,Tl];refine⟨?_,?_,?_,?_,?_,?_,?_,?_,?_,?_,?_,?_,?_,λp a=>by grind⟩<;>kernel_rfl
def BvW{m}{o}{s}(a:h.m.get m=.map (opE 13))(c:(o,s)∈A0g):xLk prog 3 (.str []) false (.map m) (iI o) h=.ok (.str s) h:=by rw[A6J,a,Auf,Bi1 _ c];rfl
def Ae7:L3->Tok
|.sg s=>⟨5,s,0,0⟩
|.kw s=>⟨1,s,0,0⟩
|.nm s=>⟨1,s,0,0⟩
|.nu n=>⟨1,V8 n,0,0⟩
|.wd s=>⟨4,s,0,0⟩
def AzN{s}(h:s∈Sgs):wt1 s=Ae7 (.sg s):=by unfold wt1;rw[Xo h];rfl
def Bc7{s}(h:s∈W35):wt1 s=Ae7 (.kw s):=by
 have:∀s∈W35,s ∉ Sgs:=by decide
 unfold wt1;rw[X2 (this s h)];rfl
def AjQ{s}(h:s ∉ Sgs):wt1 s=Ae7 (.nm s):=by unfold wt1;rw[X2 h];rfl
def Au3{n}(h:Num n):wt1 (V8 n)=Ae7 (.nu n):=by
 have⟨c,r,_,h2,d,_⟩:=Amn h;have:∀s∈Sgs,∀c∈s.head?,¬ (48<=c/\c<=57):=by decide
 unfold wt1;rw[X2 λa=>this _ a c (by grind) ⟨h2,d⟩];rfl
def RW(Z:Ac) t:=∀w ts h,WrS w ts h->AeZ h->2<w->ts.length+2*(wr t).length<=2500->Wrt w (ts++(wr t).map Ae7) h (.Bj []) (Z.call 52 [.ptr w 0,A3 t] h)
def RO(Z:Ac) o t r:=∀w ts h,WrS w ts h->AeZ h->2<w->ts.length+2*(wr t).length+1<=2500->Wrt w (ts++(brk (Ag1 o t.op r) (decide (9<=t.op)) (wr t)).map Ae7) h (.Bj []) (Z.call 88 [.ptr w 0,iI o,A3 t,.bool r] h)
def Bkp(a:AkX Z) s{Q}{K:AV->AV->H->OR}(k:WrS w ts h)(c:ts.length<=2500)
 (hk:∀h1,WG w h h1->WrS w (ts++[wt1 s]) h1->Ah H0 Q (K (.sl h.nx 0 1 1 1 true) (.ptr w 0) h1)):
 Ah H0 Q (Aa (Bh 9 1 1 [.str []] [(0,1,.str s)] h) λd h1=>Aa (Z.call 48 [.ptr w 0,d] h1) λg h2=>K d g h2):=by have e:Ai h (h.new (cz [.str s] 9)):=(Ai.refl h).new _;refine Ey rfl (zc0 (a w _ _ _ _ (k.gr e) (AlA k.lt [s]) (by simp) c) λd h1 ⟨f,j,i⟩=>?_);subst f;exact hk _ ((WG.of k.lt e).trans k.lt j) i
def B2V(a:AkX Z)(n:BtE Z)(p:H64 Z)(g:RW Z t)(A:4<=o)(r:Bool)(k:WrS w ts h)(z:AeZ h)(d:2<w)(E:ts.length+2*(wr t).length+1<=2500):
 Wrt w (ts++(brk (Ag1 o t.op r) (decide (9<=t.op)) (wr t)).map Ae7) h (.Bj []) (mr Z N 88 [.ptr w 0,iI o,A3 t,.bool r] h):=by have c:=k.lt;unfold Wrt;rw[Bzy];refine Fj (n o t r h A) λG h1 e1 l1 y j=>?_;subst j;have f:=k.gr e1;have m:=z.gr e1;have g1:=WG.of c e1;cases Ag1 o t.op r with
 |false=>refine Ey (v:=uz) (h:=h1) rfl (Zx ?_);refine zc0 (g w ts h1 f m d om) λI h2 ⟨j,F,x⟩=>?_;subst j;exact Lo (gr0 _) ⟨rfl,g1.trans c F,x⟩
 |true=>refine Ey (v:=ux) (h:=h1) rfl (Ae5 ?_);refine Ey (p t h1) ?_;cases decide (9<=t.op)with
  |true=>refine Zx ?_;refine Bkp Z a [91] f om λh2 g2 k2=>?_;refine zc0 (g w _ _ k2 (m.wg g2 d) d (by grind)) λs B ⟨_,q,i⟩=>?_;refine Bkp Z a _ i (by simp;omega) λu l e=>(Lo (gr0 _) ⟨rfl,((g1.trans c g2).trans c q).trans c l,?_⟩);rw[AzN fe,AzN fe]at e;simpa[brk]using e
  |false=>refine Ae5 (Bkp Z a _ f om λh2 g2 k2=>zc0 (g w _ _ k2 (m.wg g2 d) d (by simp;omega)) λs B ⟨_,q,i⟩=>Bkp Z a _ i (by simp;omega) λu l e=>(Lo (gr0 _) ⟨rfl,((g1.trans c g2).trans c q).trans c l,?_⟩));rw[AzN fe,AzN fe]at e;simpa[brk]using e
def WG.log(j:w<h.nx)(a:WG w h h1)(b:WG w (Ab h1) h2):∀x∈wrote h1.nx h2.lg,x=w\/w<x/\NEx (h.m.get x)\/h.nx<=x:=λx i=>by
 rcases b.lg x (D4 _ _ _ i).1 with c|c|⟨c,g⟩|c;. cases c
 .omega
 .by_cases f:h.nx<=x;. omega
  .refine .inr (.inl ⟨c,λcs e d=>g cs e ?_⟩);show h1.m.get x=_;rw[a.ex x _ e om om d,d]
 .exact .inr (.inr (Ol a.nx c))
def WrS.nl(k:WrS w ts h):WrS w ts (Ab h):=k.rl
def BoG(j:AkX Z)(r:Bm7 Z){b:Nat}{cs:uw}{ty:TypeId}{s:uq}{Q:AV->H->Prop}{K:AV->AV->AV->AV->AV->AV->H->OR}(F:h.m.get b=cz cs ty)(hc:cs[0]?=some (iI o))(E:b<h.nx)(P:(o,s)∈A0g)(k:WrS w ts h)(l:ts.length<=2500)
 (hk:∀h1 m v,WG w h h1->WrS w (ts++[wt1 s]) h1->Ah H0 Q (K (.map m) (.ptr b 0) (iI o) (.str s) v (.ptr w 0) h1)):
 Ah H0 Q (Aa (Z.call 87 [] (Ab h)) λy q=>Aa (Bs (.ptr b 0) 0 (Ab q)) λn f=>Aa (lN n (Ab f)) λd e=>Aa (xLk prog 3 (.str []) false y d (Ab e)) λu g=>Aa (Bh 9 1 1 [.str []] [(0,1,u)] (Ab g)) λz i=>Aa (Z.call 48 [.ptr w 0,z] (Ab i)) λO a=>Ff h.lg [eW 64 63 .all i a,eW 32 30 .none g i,eW 16 14 .all e g,eW 8 4 (Bn (some none) n) f e,eW 4 0 .none q f,eW 2 0 .all (Ab h) q,eZ 1 0 .none h] a λp=>K y n d u z O p):=by
 have c:=k.lt;obtain⟨U,h1,r1,e1,m,rfl,R⟩:=r (Ab h);refine Ey r1 ?_;have g1:Ai h h1:=Ai.Rc e1;have M:Nv h1 b cs:=g1.keeps.cont b cs ⟨E,_,_,F,trivial⟩;have S:=M.one (o:=0) hc (Ab (Ab h1)) (Bi.refl h1).nl.nl;refine Ey (v:=.ptr b 0) (h:=Ab h1) rfl (Ey S ?_);refine Ey (BvW (h:=Ab (Ab (Ab h1))) R P) ?_;refine Ey (v:=.sl h1.nx 0 1 1 1 true) (h:=(Ab h1).new (cz [.str s] 9)) rfl ?_;have g2:Ai h ((Ab h1).new (cz [.str s] 9)):=g1.nl.new _;obtain⟨T,V,B,_,rfl,A,G⟩:=j w ts [s] _ (Ab ((Ab h1).new (cz [.str s] 9))) (k.gr g2.nl) (AlA (h:=Ab h1) (by have:=g1.lo;exact Xq c this) [s]) (by show 1<=7;decide) l
 refine Ey B ?_;have I:(eW 2 0 .all (Ab h) h1).w=[]:=Ai.quiet e1;refine Axi (λx=>x=w\/(w<x/\NEx (h.m.get x))\/h.nx<=x) ?_ λL J=>?_
 .simp only[Tl,Ww,Ju,G4,Jj];refine⟨.inr ⟨WG.log c (WG.of c g2) A,?_⟩,.inl rfl,.inl rfl,.inl rfl,.inl rfl,.inl I,.inl trivial⟩;repeat' (refine And.intro ?_ ?_)
  all_goals first|exact Ar ..|(refine Ax _ _ _ _ _ _ _ _ _ _ _ _ ?_;decide)
 .exact hk _ m _ (((WG.of c g2).trans c A.Bnq).reL J) G.rl
def Bnl(G:AkX Z)(F:AsL Z){x:Nd}(r:(x.op=1/\Num x.n)\/(x.op=2/\x.Zn ∉ Sgs)\/x.op=3)(k:WrS w ts h)(hp:AeZ h)(hw:2<w)(hts:ts.length+1<=2500):
 Wrt w (ts++(wr (.leaf x)).map Ae7) h (.Bj []) (Ay prog Z N false 52 [.ptr w 0,A3 (.leaf x)] h):=by
 have j:=k.lt;rw[show A3 (.leaf x)=.I6 142 (.agg (Bw x))from rfl]
 unfold Wrt;rw[BmJ];rcases r with⟨i,hn⟩|⟨i,hn⟩|i
 .have d:wr (.leaf x)=[.nu x.n]:=by unfold wr;rw[Xo i]
  have E:nwd x.n=[V8 x.n]:=by unfold nwd;rw[X2 (by have:=hn.1;omega)]
  rw[d];have W:=λV (g:Ai h V)=>F w ts x.n V (k.gr g) ⟨by have:=hn.1;omega,hn.2⟩ om (hp.gr g) hw
  rw[E]at W;unfold Bw;rw[i];refine wk ?_;have f:Ai h ((h.new (cz [iI 0,iI 0,.str []] 142)).put h.nx (cz [iI 1,iI x.n,.str x.Zn] 142)):=((Ai.refl h).new _).put _ _ (Ye _);refine zc0 (W _ f) λv1 h1 ⟨y,u,o⟩=>?_;refine Lo (gr0 _) ⟨rfl,(WG.of j f).trans j u,?_⟩;rw[show[V8 x.n].map wt1=[wt1 (V8 x.n)]from rfl,Au3 hn]at o
  exact o
 .have d:wr (.leaf x)=[.nm x.Zn]:=by unfold wr;rw[X2 om,X2 om]
  rw[d];unfold Bw;rw[i];refine wk ?_;have f:Ai h ((h.new (cz [iI 0,iI 0,.str []] 142)).put h.nx (cz [iI 2,iI x.n,.str x.Zn] 142)):=((Ai.refl h).new _).put _ _ (Ye _);have R:=f.new (cz [.str x.Zn] 9);refine zc0 (G w ts [x.Zn] _ _ (k.gr R) (AlA (h:=(h.new (cz [iI 0,iI 0,.str []] 142)).put h.nx (cz [iI 2,iI x.n,.str x.Zn] 142)) ml [x.Zn]) (by show 1<=7;decide) om) λv1 h1 ⟨y,u,o⟩=>?_
  refine Lo (gr0 _) ⟨rfl,(WG.of j R).trans j u,?_⟩;rw[show[x.Zn].map wt1=[wt1 x.Zn]from rfl,AjQ hn]at o
  exact o
 .have d:wr (.leaf x)=[.wd x.Zn]:=by unfold wr;rw[X2 om,Xo i]
  rw[d];unfold Bw;rw[i];obtain⟨X,gw,s⟩:=k.g;obtain⟨o1,o2⟩:=B2 s.sl;refine wk ?_;have f:Ai h ((h.new (cz [iI 0,iI 0,.str []] 142)).put h.nx (cz [iI 3,iI x.n,.str x.Zn] 142)):=((Ai.refl h).new _).put _ _ (Ye _);have K:((h.new (cz [iI 0,iI 0,.str []] 142)).put h.nx (cz [iI 3,iI x.n,.str x.Zn] 142)).nx=h.nx+1:=rfl;have kB:=k.gr f;have oB:=s.gr f;have A:=(f.Cf w j).trans gw;generalize ((h.new (cz [iI 0,iI 0,.str []] 142)).put h.nx (cz [iI 3,iI x.n,.str x.Zn] 142))=hb at *
  have O:=kB.lt;have U:Ai hb ((Ab hb).new (cz (Aez (Ae7 (.wd x.Zn))) 48)):=(Ai.refl hb).nl.new _;have oN:=oB.gr U;have Z3:Sl 4 ((Ab hb).new (cz (Aez (Ae7 (.wd x.Zn))) 48)) (.sl hb.nx 0 1 1 4 true) 1 (Aez (Ae7 (.wd x.Zn))):=Sl.lit (h:=Ab hb) (Bf _) rfl rfl;obtain⟨v',q,y,u,o,T,q5,P⟩:=Fm.BmA (bytes:=40) (lo:=w+1) oN Z3.src (by rfl) om (by rfl) (by show w+1<=hb.nx+1;omega)
  have a:∀c,c<hb.nx->((Ab hb).new (cz (Aez (Ae7 (.wd x.Zn))) 48)).m.get c=hb.m.get c:=λc hc=>U.Cf c hc;have I:((Ab hb).new (cz (Aez (Ae7 (.wd x.Zn))) 48)).nx=hb.nx+1:=rfl;have B:((Ab hb).new (cz (Aez (Ae7 (.wd x.Zn))) 48)).lg=[]:=rfl;rw[K]at y;refine Ey y ?_;have B1h:=u.lo;obtain⟨p1,p2⟩:=B2 T.sl;have M:q.m.get w=cz [X] 59:=(q5 w (Up w)).trans ((a w O).trans A);have Y:∀x∈wrote (hb.nx+1) q.lg,x=w\/(w<x/\NEx (hb.m.get x))\/hb.nx<=x:=λx r=>by
   rcases P.lg x (D4 _ _ _ r).1 with p|⟨p,h4⟩|p
   .rw[B]at p;cases p
   .by_cases z:hb.nx<=x
    .exact .inr (.inr z)
    .exact .inr (.inl ⟨p,λcs e J=>h4 cs e ((a x om).trans J)⟩)
   .exact .inr (.inr (by rw[I]at p;omega))
  refine wk ?_;refine Axi (λx=>x=w\/(w<x/\NEx (hb.m.get x))\/hb.nx<=x) ?_ λL hL=>?_
  .simp only[Tl,Ww,Ju,G4,Jj];refine⟨.inr ⟨λx r=>?_,?_⟩,.inl rfl,.inl rfl,.inr ⟨?_,?_⟩,.inl rfl,.inl rfl,.inl rfl,.inl rfl,.inl rfl,.inl rfl,.inl rfl,.inl rfl,.inl trivial,.inl trivial⟩
   .have S:=(D4 _ _ _ r).1;simp at S;exact .inl S
   rotate_left
   .exact Y
   all_goals
    repeat' (refine And.intro ?_ ?_)
   all_goals first|exact Ar ..|(refine Ax _ _ _ _ _ _ _ _ _ _ _ _ ?_;decide)|exact A4Q rfl
  .refine Lo (gr0 _) ⟨rfl,(WG.of j f).trans j ⟨?_,?_,?_,hL⟩,?_⟩
   .show hb.nx<=q.nx;omega
   .intro c hc;show(q.put w _).m.get c=_;rw[Aq _ _ _ om,q5 c om,a c om]
   .intro c hc hn J;show(q.put w _).m.get c=_;rw[Aq _ _ _ hn,P.st c om (by rw[a c hc];exact J),a c hc]
   .refine WrS.rl ⟨by show w<q.nx;omega,v',A2 _ _,?_⟩
    have:=Fm.To (l:=[v']) (e1:=59) T (Up w) (by rw[M];rfl);rw[Yl,V5,show([L3.wd x.Zn].map Ae7).flatMap Aez=Aez (Ae7 (.wd x.Zn))from rfl]
    exact Fm.rl (lg:=[w]) this
def OpS(o:Int):Prop:=∃s,(o,s)∈A0g/\wt1 s=Ae7 (opX o)
def Bjd(o:Int)(h:o=7\/o=17\/o=4\/o=5\/o=6\/(9<=o/\o<=16)):OpS o:=by
 have:o=4\/o=5\/o=6\/o=7\/o=9\/o=10\/o=11\/o=12\/o=13\/o=14\/o=15\/o=16\/o=17:=by omega
 rcases this with rfl|rfl|rfl|rfl|rfl|rfl|rfl|rfl|rfl|rfl|rfl|rfl|rfl<;>exact⟨_,by simp[A0g];rfl,rfl⟩
def A4N(c a:Bool)(l:List L3):l.length<=(brk c a l).length/\(brk c a l).length<=l.length+2:=by unfold brk;cases c<;>cases a<;>simp<;>omega
def Bsb(q:AkX Z)(y:Bm7 Z){a:Tr}(K:OpS o)(G:RO Z o a false)(k:WrS w ts h)(I:AeZ h)(A:2<w)(g:ts.length+2*(wr (.one o a)).length<=2500):
 Wrt w (ts++(wr (.one o a)).map Ae7) h (.Bj []) (Ay prog Z N false 52 [.ptr w 0,A3 (.one o a)] h):=by
 have x:=k.lt;obtain⟨s,n,r⟩:=K;have u:wr (.one o a)=opX o::brk (Ag1 o a.op false) (decide (9<=a.op)) (wr a):=rfl;rw[u]at g ⊢;obtain⟨O,b2⟩:=A4N (Ag1 o a.op false) (decide (9<=a.op)) (wr a);simp only[Y7]at g;rw[show A3 (.one o a)=.I6 144 (.agg [iI o,A3 a])from rfl]
 have c:Ge (A3 a)=true/\cellsOf (A3 a)=some [A3 a]:=by cases a<;>exact⟨rfl,rfl⟩
 obtain⟨r1,L⟩:=c;unfold Wrt;rw[BmJ];obtain⟨d,c⟩:∃d,d=A3 a:=⟨_,rfl⟩;rw[<- c]at r1 L ⊢;have j:=λe h' k' B f=>G w e h' k' B A f;rw[<- c]at j;clear c;refine wk ?_;have p:Ai h ((h.new (cz [iI 0,.B3] 144)).put h.nx (cz [iI o,d] 144)):=((Ai.refl h).new _).put _ _ (Ye _);have gb:((h.new (cz [iI 0,.B3] 144)).put h.nx (cz [iI o,d] 144)).m.get h.nx=cz [iI o,d] 144:=A2 _ _;have nb:((h.new (cz [iI 0,.B3] 144)).put h.nx (cz [iI o,d] 144)).nx=h.nx+1:=rfl;generalize ((h.new (cz [iI 0,.B3] 144)).put h.nx (cz [iI o,d] 144))=hb at *
 refine BoG Z q y gb rfl om n (k.gr p) om λh1 m P g1 E=>?_;have i:=(g1.ex h.nx _ _ om om gb).trans gb;have l:Nv h1 h.nx [iI o,d]:=⟨by have:=g1.nx;omega,_,_,i,trivial⟩
 have T:=l.one (o:=0) rfl;have S:=l.one (o:=1) rfl;have J:AeZ h1:=(I.gr p).wg g1 A;clear l i gb;replace j:=(show F5 _ from j)
 refine wk ?_;refine zc0 ((show ∀e h' k' B f,_ from j) _ h1 E J (by simp;omega)) λR h2 ⟨F,M,z⟩=>?_
 subst F;refine Lo (gr0 _) ⟨rfl,((WG.of x p).trans x g1).trans x M,?_⟩;rw[r]at z;simpa using z
def Bsw(F:AkX Z)(G:Bm7 Z){a b:Tr}(T:OpS o)(S:RO Z o a false)(E:RO Z o b true)(k:WrS w ts h)(L:AeZ h)(r:2<w)(p:ts.length+2*(wr (.two o a b)).length<=2500):
 Wrt w (ts++(wr (.two o a b)).map Ae7) h (.Bj []) (Ay prog Z N false 52 [.ptr w 0,A3 (.two o a b)] h):=by
 have x:=k.lt;obtain⟨s,B,I⟩:=T;have J:wr (.two o a b)=brk (Ag1 o a.op false) (decide (9<=a.op)) (wr a)++opX o::brk (Ag1 o b.op true) (decide (9<=b.op)) (wr b):=rfl;rw[J]at p ⊢;obtain⟨X,b2⟩:=A4N (Ag1 o a.op false) (decide (9<=a.op)) (wr a);obtain⟨b3,b4⟩:=A4N (Ag1 o b.op true) (decide (9<=b.op)) (wr b);simp only[Y7,Yl]at p;rw[show A3 (.two o a b)=.I6 149 (.agg [iI o,A3 a,A3 b])from rfl]
 have c:Ge (A3 a)=true/\cellsOf (A3 a)=some [A3 a]:=by cases a<;>exact⟨rfl,rfl⟩
 have e:Ge (A3 b)=true/\cellsOf (A3 b)=some [A3 b]:=by cases b<;>exact⟨rfl,rfl⟩
 obtain⟨r1,U⟩:=c;obtain⟨O,R⟩:=e;unfold Wrt;rw[BmJ];obtain⟨j,c⟩:∃j,j=A3 a:=⟨_,rfl⟩;obtain⟨l,e⟩:∃l,l=A3 b:=⟨_,rfl⟩;rw[<- c]at r1 U ⊢;rw[<- e]at O R ⊢;have y:=λd h' k' q f=>S w d h' k' q r f;have g:=λd h' k' q f=>E w d h' k' q r f;rw[<- c]at y;rw[<- e]at g;clear c e;replace g:=(show F5 _ from g)
 replace y:=(show F5 _ from y)
 refine wk ?_;have u:Ai h ((h.new (cz [iI 0,.B3,.B3] 149)).put h.nx (cz [iI o,j,l] 149)):=((Ai.refl h).new _).put _ _ (Ye _);have gb:((h.new (cz [iI 0,.B3,.B3] 149)).put h.nx (cz [iI o,j,l] 149)).m.get h.nx=cz [iI o,j,l] 149:=A2 _ _;have nb:((h.new (cz [iI 0,.B3,.B3] 149)).put h.nx (cz [iI o,j,l] 149)).nx=h.nx+1:=rfl;generalize ((h.new (cz [iI 0,.B3,.B3] 149)).put h.nx (cz [iI o,j,l] 149))=hb at *
 refine zc0 ((show ∀d h' k' q f,_ from y) _ hb (k.gr u) (L.gr u) om) λv1 h1 ⟨z,g1,M⟩=>?_
 subst z;have i:=(g1.ex h.nx _ _ om om gb).trans gb;refine BoG Z F G i rfl (by have:=g1.nx;omega) B M (by simp;omega) λh2 m v2 g2 k2=>?_
 have V:h.nx<h2.nx:=by have:=g1.nx;have:=g2.nx;omega
 have n:=(g2.ex h.nx _ _ (by have:=g1.nx;omega) om i).trans i
 have A:Nv h2 h.nx [iI o,j,l]:=⟨V,_,_,n,trivial⟩;have x1:=A.one (o:=0) rfl;have x2:=A.one (o:=2) rfl;have P:AeZ h2:=((L.gr u).wg g1 r).wg g2 r;clear A n i gb;refine wk ?_;refine zc0 ((show ∀d h' k' q f,_ from g) _ h2 k2 P (by simp;omega)) λY h3 ⟨z,W,K⟩=>?_
 subst z;refine Lo (gr0 _) ⟨rfl,(((WG.of x u).trans x g1).trans x g2).trans x W,?_⟩;rw[I]at K;simpa using K
def Bnz(a:AkX Z)(s:uq){Q:AV->H->Prop}{K:AV->H->OR}(k:WrS w ts h)(c:ts.length<=2500)
 (hk:∀h1,WG w h h1->WrS w (ts++[wt1 s]) h1->Ah H0 Q (K (.ptr w 0) h1)):
 Ah H0 Q (Aa (Z.call 48 [.ptr w 0,.sl h.nx 0 1 1 1 true] (h.new (cz [.str s] 9))) K):=by
 have d:Ai h (h.new (cz [.str s] 9)):=(Ai.refl h).new _;refine zc0 (a w ts [s] _ _ (k.gr d) (AlA (h:=h) k.lt [s]) (by show 1<=7;decide) c) λi h1 ⟨e,g,f⟩=>?_
 subst e;exact hk h1 ((WG.of k.lt d).trans k.lt g) f
def Bkx(A:AkX Z){c a b:Tr}(Y:RW Z c)(hA:RW Z a)(hB:RW Z b)(k:WrS w ts h)(hp:AeZ h)(x:2<w)(F:ts.length+2*(wr (.three c a b)).length<=2500):
 Wrt w (ts++(wr (.three c a b)).map Ae7) h (.Bj []) (Ay prog Z N false 52 [.ptr w 0,A3 (.three c a b)] h):=by
 have B:=k.lt;have P:wr (.three c a b)=.kw [105,102]::wr c++.kw uf::wr a++.kw ug::wr b:=rfl;rw[P]at F ⊢;simp only[Y7,Yl]at F;rw[show A3 (.three c a b)=.I6 151 (.agg [A3 c,A3 a,A3 b])from rfl]
 have g:Ge (A3 a)=true/\cellsOf (A3 a)=some [A3 a]:=by cases a<;>exact⟨rfl,rfl⟩
 have i:Ge (A3 b)=true/\cellsOf (A3 b)=some [A3 b]:=by cases b<;>exact⟨rfl,rfl⟩
 have f:Ge (A3 c)=true/\cellsOf (A3 c)=some [A3 c]:=by cases c<;>exact⟨rfl,rfl⟩
 obtain⟨r1,r2⟩:=g;obtain⟨r3,r4⟩:=i;obtain⟨r5,r6⟩:=f;unfold Wrt;rw[BmJ];obtain⟨j,g⟩:∃j,j=A3 a:=⟨_,rfl⟩;obtain⟨l,i⟩:∃l,l=A3 b:=⟨_,rfl⟩;obtain⟨n,f⟩:∃n,n=A3 c:=⟨_,rfl⟩;rw[<- g]at r1 r2 ⊢;rw[<- i]at r3 r4 ⊢;rw[<- f]at r5 r6 ⊢;have r:=λd h' k' y e=>hA w d h' k' y x e;have s:=λd h' k' y e=>hB w d h' k' y x e;have p:=λd h' k' y e=>Y w d h' k' y x e;rw[<- g]at r;rw[<- i]at s;rw[<- f]at p;clear g i f;replace r:=(show F5 _ from r)
 replace s:=(show F5 _ from s)
 replace p:=(show F5 _ from p)
 refine wk ?_;have L:Ai h ((h.new (cz [.B3,.B3,.B3] 151)).put h.nx (cz [n,j,l] 151)):=((Ai.refl h).new _).put _ _ (Ye _);have gb:((h.new (cz [.B3,.B3,.B3] 151)).put h.nx (cz [n,j,l] 151)).m.get h.nx=cz [n,j,l] 151:=A2 _ _;have nb:h.nx+1=((h.new (cz [.B3,.B3,.B3] 151)).put h.nx (cz [n,j,l] 151)).nx:=rfl;rw[nb];generalize ((h.new (cz [.B3,.B3,.B3] 151)).put h.nx (cz [n,j,l] 151))=hb at *
 refine Bnz Z A [105,102] (k.gr L) om λh1 g1 U=>?_;have u:=(g1.ex h.nx _ _ om om gb).trans gb;have n1:h.nx<h1.nx:=by have:=g1.nx;omega
 have V:=(⟨n1,_,_,u,trivial⟩:Nv h1 h.nx [n,j,l]).one (o:=0) rfl;have S:=(hp.gr L).wg g1 x;clear gb;refine wk ?_;refine zc0 ((show ∀d h' k' y e,_ from p) _ h1 U S (by simp;omega)) λv2 h2 ⟨q2,g2,k2⟩=>?_
 subst q2;clear V;have z:=(g2.ex h.nx _ _ n1 om u).trans u;have n2:h.nx<h2.nx:=by have:=g2.nx;omega
 refine wk ?_;refine Bnz Z A uf k2 (by simp;omega) λM J k3=>?_;have q:=(J.ex h.nx _ _ n2 om z).trans z;have R:h.nx<M.nx:=by have:=J.nx;omega
 have x1:=(⟨R,_,_,q,trivial⟩:Nv M h.nx [n,j,l]).one (o:=1) rfl;have p3:=(S.wg g2 x).wg J x;clear u z;refine wk ?_;refine zc0 ((show ∀d h' k' y e,_ from r) _ M k3 p3 (by simp;omega)) λv4 h4 ⟨q4,G,k4⟩=>?_
 subst q4;clear x1;have E:=(G.ex h.nx _ _ R om q).trans q;have n4:h.nx<h4.nx:=by have:=G.nx;omega
 refine wk ?_;refine Bnz Z A ug k4 (by simp;omega) λK I k5=>?_;have O:=(I.ex h.nx _ _ n4 om E).trans E;have n5:h.nx<K.nx:=by have:=I.nx;omega
 have x2:=(⟨n5,_,_,O,trivial⟩:Nv K h.nx [n,j,l]).one (o:=2) rfl;have W:=(p3.wg G x).wg I x;clear q E;refine wk ?_;refine zc0 ((show ∀d h' k' y e,_ from s) _ K k5 W (by simp;omega)) λv6 h6 ⟨q6,X,T⟩=>?_
 subst q6;refine Lo (gr0 _) ⟨rfl,((((((WG.of B L).trans B g1).trans B g2).trans B J).trans B G).trans B I).trans B X,?_⟩;rw[Bc7 fe,Bc7 fe,Bc7 fe]at T;simpa using T
def AwU:Tr->Prop
|.leaf x=>(x.op=1/\Num x.n)\/(x.op=2/\x.Zn ∉ Sgs)\/x.op=3
|.one o a=>(o=7\/o=17)/\AwU a
|.two o a b=>(o=4\/o=5\/o=6\/(9<=o/\o<=16))/\AwU a/\AwU b
|.three c a b=>AwU c/\AwU a/\AwU b
variable {C:Nat->Ac}{D:Nat}
def Bwp(U:Abu C)(hd:1<=D):Bhc (C D):=by obtain⟨e,rfl,a⟩:=Wr hd;exact λh=>Gp U (B2T _ _)
def Bwq(U:Abu C)(hd:1<=D):Bm7 (C D):=by obtain⟨e,rfl,a⟩:=Wr hd;exact λh=>Gp U (B2U _ _)
def BbA(U:Abu C)(BiG:∀d,2<=d->Be2 (C d))(hd:3<=D):AkX (C D):=by obtain⟨e,rfl,a⟩:=Wr hd;exact λw ts ws v h k L h1 h2=>Gp U (B22 _ _ fe (Bwp U om) (BiG e a) k L h1 h2)
def B2l(U:Abu C)(hd:1<=D):BtN (C D):=by obtain⟨e,rfl,c⟩:=Wr hd;exact λv h h0 a=>Gp U (B3w _ _ h0 a)
def B2k(U:Abu C)(hd:1<=D):BtM (C D):=by obtain⟨e,rfl,c⟩:=Wr hd;exact λk h a=>Gp U (B3v _ _ a)
def B2m(U:Abu C)(hd:1<=D):BtO (C D):=by obtain⟨e,rfl,a⟩:=Wr hd;exact λb h=>Gp U (B3x _ _ b)
def B2h(U:Abu C)(hd:2<=D):BtJ (C D):=by obtain⟨e,rfl,a⟩:=Wr hd;exact λv h h0 d c=>Gp U (B3s _ _ (B2l U a) (B2k U a) (B2m U a) h0 d c)
def B2g(U:Abu C)(hd:1<=D):BtI (C D):=by obtain⟨e,rfl,c⟩:=Wr hd;exact λv h a=>Gp U (B3r _ _ a)
def B2i(U:Abu C)(hd:1<=D):BtK (C D):=by obtain⟨e,rfl,j⟩:=Wr hd;exact λb n v cap ex e pr f a h i g c hn d=>upP U (B3t _ _ fe i g c hn d)
def B2d(U:Abu C)(hd:3<=D):BtF (C D):=by obtain⟨e,rfl,d⟩:=Wr hd;exact λv h c a=>Gp U (B3n _ _ (B2g U om) (B2h U d) (B2i U om) c a)
def B1X(U:Abu C)(hd:4<=D):BtD (C D):=by obtain⟨e,rfl,d⟩:=Wr hd;exact λv h c a=>Gp U (B3g _ _ (B2d U d) c a)
def Bwo(U:Abu C)(hd:5<=D):Bpk (C D):=by obtain⟨e,rfl,c⟩:=Wr hd;exact λn h hn a=>Gp U (B2R _ _ (B1X U c) hn a)
def Bwj(U:Abu C)(BiG:∀d,2<=d->Be2 (C d))(hd:6<=D):AsL (C D):=by obtain⟨e,rfl,f⟩:=Wr hd;exact λw ts n h k hn a c g=>Gp U (B24 _ _ (BbA U BiG om) (Bwo U f) k hn a c)
def B1Y(U:Abu C)(De:∀d,2<=d->HOp (C d))(hd:3<=D):BtE (C D):=by obtain⟨e,rfl,a⟩:=Wr hd;exact λop t r h c=>Gp U (B3h _ _ (De e a) op t r c)
def Bsd(U:Abu C)(BiG:∀d,2<=d->Be2 (C d))(De:∀d,2<=d->HOp (C d))(f:∀d,3<=d->H64 (C d))(hd:4<=D){t:Tr}(j:RW (C (D-1)) t)(l:4<=o)(r:Bool):RO (C D) o t r:=by obtain⟨e,rfl,c⟩:=Wr hd;exact λw ts h k g i a=>Gp U (B2V _ _ (BbA U BiG c) (B1Y U De c) (f e c) j l r k g i a)
def AoZ(U:Abu C)(BiG:∀d,2<=d->Be2 (C d))(De:∀d,2<=d->HOp (C d))(f:∀d,3<=d->H64 (C d)):∀{t:Tr},AwU t->∀D,2*size t+7<=D->RW (C D) t
|.leaf x,i,D,q=>by
 obtain⟨e,rfl,m⟩:=Wr (show 6+1<=D by omega)
 exact λw ts h k l j g=>Gp U (Bnl _ _ (BbA U BiG om) (Bwj U BiG m) i k l j (by
  have:(wr (.leaf x)).length=1:=by unfold wr;split;rfl;split<;>rfl
  omega))
|.one o a,i,D,q=>by
 obtain⟨e,rfl,m⟩:=Wr (show 6+1<=D by omega)
 have r:size (.one o a)=1+size a:=by simp[size];omega
 have n:=AoZ U BiG De f i.2 (e-1) om;exact λw ts h k l j g=>Gp U (Bsb _ _ (BbA U BiG om) (Bwq U om) (Bjd o (by have:=i.1;omega)) (Bsd U BiG De f om n (by have:=i.1;omega) false) k l j g)
|.two o a b,i,D,q=>by
 obtain⟨e,rfl,m⟩:=Wr (show 6+1<=D by omega)
 have r:size (.two o a b)=1+size a+size b:=by simp[size];omega
 have n:=AoZ U BiG De f i.2.1 (e-1) om;have p:=AoZ U BiG De f i.2.2 (e-1) om;have s:=i.1;exact λw ts h k l j g=>Gp U (Bsw _ _ (BbA U BiG om) (Bwq U om) (Bjd o om) (Bsd U BiG De f om n om false) (Bsd U BiG De f om p om true) k l j g)
|.three c a b,i,D,q=>by
 obtain⟨e,rfl,m⟩:=Wr (show 6+1<=D by omega)
 have r:size (.three c a b)=1+size c+size a+size b:=by simp[size];omega
 exact λw ts h k l j g=>Gp U (Bkx _ _ (BbA U BiG om) (AoZ U BiG De f i.1 e om) (AoZ U BiG De f i.2.1 e om) (AoZ U BiG De f i.2.2 e om) k l j g)
variable {b:Nat}{cs:uw}{ty:TypeId}
structure Rd0(w b:Nat)(cs:List AV)(ty:TypeId)(h:H):Prop where
 g:h.m.get b=.cells cs ty .exact
 lt:b<h.nx
 ne:b≠w
def Rd0.gr(k:Rd0 w b cs ty h)(g:Ai h h1):Rd0 w b cs ty h1:=⟨(g.Cf b k.lt).trans k.g,Xq k.lt g.lo,k.ne⟩
def Rd0.wg(k:Rd0 w b cs ty h)(g:WG w h h1):Rd0 w b cs ty h1:=⟨(g.ex b cs ty k.lt k.ne k.g).trans k.g,Xq k.lt g.nx,k.ne⟩
def Rd0.wn(k:Rd0 w b cs ty h)(g:WG w (Ab h) h1):Rd0 w b cs ty h1:=k.wg g.Bnq
def Rd0.one(k:Rd0 w b cs ty h){o:Nat}{x:AV}(a:cs[o]?=some x):lN (.ptr b o) h=.ok x h:=(⟨k.lt,_,_,k.g,trivial⟩:Nv h b cs).one a h (Bi.refl h)
def B4e(k:Rd0 w b cs ty h)(a:WG w (Ab h) h1):b ∉ wrote h.nx h1.lg:=λe=>by
 rcases a.lg b (D4 _ _ _ e).1 with c|c|⟨c,d⟩|c
 .cases c
 .exact k.ne c
 .exact d _ _ k.g
 .exact absurd k.lt (Nat.not_lt.2 c)
def Bq9{d f off:Nat}{i:Option (Option Nat)}{a c:H}(e:b ∉ j.w)(hn:c.nx=a.nx)(n:Rd0 w b cs ty a):Jo j ⟨d,f,[],.blk b off i,a,c⟩=true:=by
 unfold Jo;have h1:Ahl j.w []=true:=Zq _;have h2:outside j.w a.nx c.nx=true:=by rw[hn];exact Ash _ _
 have l:clear (.blk b off i) j.w a j.h j.h1=true:=by show(@Bool.rec (λ_=>Bool) (AbY j.w (B5 (a.m.get b))) (Beb b off i a j.h j.h1) (Ve b j.w):Bool)=true;rw[Bi0 b j.w λx o k=>e (k ▸ o),n.g];rfl
 rw[h1,h2,l];cases M4 (Nat.lor (Nat.land j.pr d) (Nat.land f j.bit))<;>cases Nat.beq j.bit d<;>rfl
def Bq8{a:EF}(f:a.w=[])(i:a.r=.none)(c:∀x∈j.w,x<a.h.nx):Jo j a=true:=by
 unfold Jo;have h1:Ahl j.w a.w=true:=by rw[f];exact Zq _
 have h2:outside j.w a.h.nx a.h1.nx=true:=by
  revert c;induction j.w with
  |nil=>exact λ_=>rfl
  |cons x l d=>
   intro c;show(@Bool.rec (λ_=>Bool) (outside l a.h.nx a.h1.nx) false (@Bool.rec (λ_=>Bool) false (Nat.blt x a.h1.nx) (Nat.ble a.h.nx x)):Bool)=true;rw[d λy g=>c y (Vo _ g),show Nat.ble a.h.nx x=false by
    cases k:Nat.ble a.h.nx x with
    |false=>rfl
    |true=>exact absurd (Ew k) (by have:=c x (Wm ..);omega)]
 have e:clear a.r j.w a.h j.h j.h1=true:=by rw[i];rfl
 rw[h1,h2,e];cases M4 (Nat.lor (Nat.land j.pr a.bit) (Nat.land a.pr j.bit))<;>cases Nat.beq j.bit a.bit<;>rfl
structure AbI(w:Nat)(ts:List Tok)(b:Nat)(cs:List AV)(ty:TypeId)(h0 h:H):Prop where
 k:WrS w ts h
 r:Rd0 w b cs ty h
 p:AeZ h
 w2:2<w
 l0:w<h0.nx
 g:WG w h0 h
def AbI.nl(k:AbI w ts b cs ty h0 h):AbI w ts b cs ty h0 (Ab h):=⟨k.k.nl,k.r.gr (Ai.refl h).nl,k.p.gr (Ai.refl h).nl,k.w2,k.l0,k.g.nl⟩
def AbI.gr(k:AbI w ts b cs ty h0 h)(g:Ai h h1):AbI w ts b cs ty h0 h1:=⟨k.k.gr g,k.r.gr g,k.p.gr g,k.w2,k.l0,k.g.gr k.l0 g⟩
def PW(w:Nat)(h:H)(x:Nat):Prop:=x=w\/(w<x/\NEx (h.m.get x))\/h.nx<=x
structure AbJ(w b:Nat)(h0 h h1:H):Prop where
 l:∀x∈wrote h.nx h1.lg,PW w h0 x
 n:b ∉ wrote h.nx h1.lg
 le:h.nx<=h1.nx
def AbJ.tt(k:AbJ w b h0 h h1){n:Nat}(hn:h.nx<=n):∀x∈wrote h.nx h1.lg,x<n:=λx a=>Xq (D4 _ _ _ a).2 hn
def AbI.call{a:List Tok}(k:AbI w ts b cs ty h0 h)(g:WG w (Ab h) h1)(c:WrS w a h1):AbI w a b cs ty h0 h1/\AbJ w b h0 h h1:=
 ⟨⟨c,k.r.wn g,k.p.wg g.Bnq k.w2,k.w2,k.l0,k.g.trans k.l0 g.Bnq⟩,⟨WG.log k.l0 k.g g,B4e k.r g,g.nx⟩⟩
variable {Q:AV->H->Prop}
def Auw(a:AkX Z)(ws:List uq){f:uw}{d:List (Nat × Nat × AV)}{n:Nat}{K:AV->H->AV->H->OR}(S:AbI w ts b cs ty h0 h)(q:∀hh:H,Bh 9 1 n f d hh=.ok (.sl hh.nx 0 ws.length ws.length 1 true) (hh.new (cz (ws.flatMap Aeb) 9)))(o:ws.length<=7)(i:ts.length<=2490)
 (hk:∀h1 h2,(∀n,wrote n h1.lg=[])->h.nx<=h1.nx->AbI w ts b cs ty h0 h1->AbI w (ts++ws.map wt1) b cs ty h0 h2->AbJ w b h0 h1 h2->Ah H0 Q (K (.sl h.nx 0 ws.length ws.length 1 true) h1 (.ptr w 0) h2)):
 Ah H0 Q (Aa (Bh 9 1 n f d (Ab h)) λe h1=>Aa (Z.call 48 [.ptr w 0,e] (Ab h1)) λp h2=>K e h1 p h2):=by
 refine Ey (q _) ?_;have m:Ai h ((Ab h).new (cz (ws.flatMap Aeb) 9)):=(Ai.refl h).nl.new _;have c:=S.gr m;obtain⟨s,u,j,_,rfl,r,l⟩:=a w ts ws _ (Ab ((Ab h).new (cz (ws.flatMap Aeb) 9))) c.k.nl (AlA (h:=Ab h) S.k.lt ws) o om;refine Ey j ?_;obtain⟨g,c2⟩:=c.call r l;exact hk _ _ (λn=>rfl) (U3 _) c g c2
def ldR{K:AV->H->AV->H->OR}{o:Nat}{x:AV}(S:AbI w ts b cs ty h0 h)(e:cs[o]?=some x)(c:AbI w ts b cs ty h0 (Ab h)->Ah H0 Q (K (.ptr b o) (Ab h) x (Ab (Ab h)))):
 Ah H0 Q (Aa (Bs (.ptr b 0) o (Ab h)) λa h1=>Aa (lN a (Ab h1)) λd h2=>K a h1 d h2):=by
 refine Ey (v:=.ptr b o) (h:=Ab h) (by rw[E3,Rx]) (Ey (S.nl.nl.r.one e) (c S.nl))
def A84(d:AsL Z){K:AV->H->AV->H->AV->H->OR}{x:Nat}(S:AbI w ts b cs ty h0 h)(r:cs[x]?=some (iI o))(n:Sml o)(j:ts.length<=2490)
 (hk:∀a,AbI w ts b cs ty h0 (Ab h)->AbI w (ts++(nwd o).map wt1) b cs ty h0 a->AbJ w b h0 (Ab h) a->Ah H0 Q (K (.ptr b x) (Ab h) (iI o) (Ab (Ab h)) (.ptr w 0) a)):
 Ah H0 Q (Aa (Bs (.ptr b 0) x (Ab h)) λg h1=>Aa (lN g (Ab h1)) λf h2=>Aa (Z.call 50 [.ptr w 0,f] (Ab h2)) λe a=>K g h1 f h2 e a):=by
 refine ldR S r λc=>?_;obtain⟨e,a,l,_,rfl,q,m⟩:=d w ts o (Ab (Ab (Ab h))) c.nl.nl.k n om c.nl.nl.p S.w2;refine Ey l ?_;obtain⟨i,c2⟩:=c.nl.call (h1:=a) q m;exact hk _ c i c2
end Go.Proofs
