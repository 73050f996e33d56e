/- Expressions and conditions: both ends, by induction. -/
import Derived.Test.YtmjmhajonaelcaaGreatDoorEvPa
set_option linter.all false
set_option maxRecDepth 100000
noncomputable section
namespace Go.Proofs
open Go Go.Ev Go.Nm Go.Ev.Sx
def kAt(l:List Tok)(i:Nat)(k:Int):Option Tok:=match l[i]? with
|some t=>if t.k=k then some t else none
|none=>none
def sgT l i:=((kAt l i 5).getD AiM).t
inductive NS where
|un|ng|cm|ex|cd
|ch (c:Bool) (k:Nat)
|lp (c:Bool) (k:Nat) (a:Tr)
def ow(o:Int)(z:Option (Tr × Nat)):=if 50<=o then none else z
def fo l s(z:Option (Tr × Nat)):=z.bind λx=>if AfM l x.2 s=true then some (x.1,x.2+1)else none
def sp(l:List Tok):Nat->NS->Nat->Int->Option (Tr × Nat)
|0,_,_,_=>none
|m+1,.un,i,o=>
 if AfM l (i:Nat) [45]=true then ow o ((sp l m .un (i+1) (o+1)).map λx=>(.one 7 x.1,x.2))
 else if AfM l (i:Nat) [40]=true then ow o (fo l [41] (sp l m .ex (i+1) (o+1)))
 else match kAt l i 3 with
  |some t=>some (.leaf ⟨1,t.n,[]⟩,i+1)
  |none=>(kAt l i 1).map λt=>(.leaf ⟨2,0,t.t⟩,i+1)
|m+1,.ng,i,o=>
 if AfM l (i:Nat) ur=true then ow o ((sp l m .ng (i+1) (o+1)).map λx=>(.one 17 x.1,x.2))
 else if AfM l (i:Nat) [91]=true then ow o (fo l [93] (sp l m .cd (i+1) (o+1)))
 else sp l m .cm i o
|m+1,.cm,i,o=>(sp l m .ex i o).bind λx=>
 if(lvF BmG (sgT l x.2)).2=true then
  match (if(kAt l i 1).isSome=true/\x.2=i+1/\((lvF BmG (sgT l x.2)).1=9\/(lvF BmG (sgT l x.2)).1=10)then kAt l (x.2+1) 4 else none)with
  |some w=>some (.two (lvF BmG (sgT l x.2)).1 x.1 (.leaf ⟨3,0,w.t⟩),x.2+2)
  |none=>(sp l m .ex (x.2+1) o).map λy=>(.two (lvF BmG (sgT l x.2)).1 x.1 y.1,y.2)
 else none
|m+1,.ex,i,o=>
 if AfM l (i:Nat) [105,102]=true then ow o ((fo l uf (sp l m .cd (i+1) (o+1))).bind λx=>
  (fo l ug (sp l m .ex x.2 (o+1))).bind λy=>(sp l m .ex y.2 (o+1)).map λz=>(.three x.1 y.1 z.1,z.2))
 else sp l m (.ch false 0) i o
|m+1,.cd,i,o=>sp l m (.ch true 0) i o
|m+1,.ch c k,i,o=>if 2<=k then(if c=true then sp l m .ng i o else sp l m .un i o)else(sp l m (.ch c (k+1)) i o).bind λx=>sp l m (.lp c k x.1) x.2 o
|m+1,.lp c k a,i,o=>
 if(lvF (lvO c k) (AqN l (i:Nat))).2=true then(sp l m (.ch c (k+1)) (i+1) o).bind λx=>sp l m (.lp c k (.two (lvF (lvO c k) (AqN l (i:Nat))).1 a x.1)) x.2 o
 else some (a,i)
def rk:NS->Nat
|.un=>1|.ch false k=>4-k|.ex=>5|.cm=>6|.ng=>7|.ch true k=>10-k|.cd=>11|.lp ..=>11
def Enf(l:List Tok) m s i:=12*(l.length-i)+rk s<m
def AdO{α:Type}(P:α->AV->H->Prop)(F:H->Prop)(z:Option α)(r:OR):Prop:=match z with
|some x=>∃v h1,r=.ok v h1/\P x v h1
|none=>∃v h1,r=.Hb v h1/\Aoj v/\F h1
variable {α β:Type}{P:α->AV->H->Prop}{F:H->Prop}{P':β->AV->H->Prop}{F':H->Prop}{z:Option α}{z':Option β}{r:OR}{k:AV->H->OR}{v:AV}{h h1 h0:H}{b c:Nat}{X:AO}
def AdG{x}(j:z=some x)(f:P x v h):AdO P F z (.ok v h):=by subst j;exact⟨v,h,rfl,f⟩
def Ac6(p:z=none)(f:Aoj v)(j:F h):AdO P F z (.Hb v h):=by subst p;exact⟨v,h,rfl,f,j⟩
def AdL{Φ:OR->Prop}(j:AdO P F z r)(p:z=none->∀v h1,Aoj v->F h1->Φ (.Hb v h1))(u:∀x v h1,z=some x->P x v h1->Φ (k v h1)):Φ (Aa r k):=by cases z with
|some x=>obtain⟨v,h1,rfl,f⟩:=j;simp_all
|none=>obtain⟨v,h1,rfl,f,s⟩:=j;exact p rfl v _ f s
def BhP:Aa (.Hb v h) k=.Hb v h:=rfl
def zw1{Φ:OR->Prop}{R}(f:AjT b X h R r)(j:∀v h1,PG b X h h1->R v h1->Φ (k v h1)):Φ (Aa r k):=by obtain⟨v,h1,rfl,e,hq⟩:=Bke f;simp[*]
abbrev AiR b(X:α->AO) h(Q:α->AV->H->Prop) z r:=AdO (λx v h1=>PG b (X x) h h1/\Q x v h1) (λh1=>PX b h h1) z r
def PX2 b c(h h1:H):=∃X,PX c (h.put b X) h1
abbrev BcX b(X:α->AO) c t h(W:α->AV->H->Prop) z r:=AdO (λx v h1=>∃w,PG2 b (X x) c (AeK t w) h h1/\W x w h1) (λh1=>PX2 b c h h1) z r
def PX2.of(e:PX b h h1):PX2 b c h h1:=e.elim λX g=>⟨X,(PX.refl _).gr g⟩
def PX2.gr{f}(e:PX2 b c h h1)(g:Ai h1 f):PX2 b c h f:=e.elim λX p=>⟨X,p.gr g⟩
def PX2.pg{Y}(e:PG2 b X c Y h h1):PX2 b c h h1:=⟨X,⟨Y,e⟩⟩
def PX2.put{Y}(e:PG2 b X c Y h h1)(hn:b≠c){f}(g:PX b h1 f):PX2 b c h f:=g.elim λX' g=>.pg (e.trP hn g)
def PX2.own(f:PX b h0 h)(e:PX2 b c h h1)(hc:h0.nx<=c):PX b h0 h1:=e.elim λX p=>p.elim λY g=>⟨X,PG2.own f g hc⟩
def B5J{Q}{X}{x}(f:z=some x)(j:AjT b (X x) h (Q x) r):AiR b X h Q z r:=by subst f;exact Bke j
open Tryz
attribute [local irreducible] Aa Al Af Ad
variable (Z:Ac)(N:Nat)
variable {l:List Tok}{n:Nat}{i e o:Int}{q:uw}
def A1A l(n:Nat) k:AeL l n [k]=kAt l n k:=by unfold AeL kAt;grind
def Agu{l}{n}{k}{t}(f:kAt l n k=some t):l[n]?=some t/\t.k=k:=by unfold kAt at f;grind
def BmW{l}{n}{k}{t}(j:kAt l n k=some t):AlY l n k t:=by have⟨_,f⟩:=Agu j;exact⟨by grind,f⟩
def AyA{l}{n}{k}{t}(f:kAt l n k=some t):n<l.length:=(Wp.1 (Agu f).1).1
def AmT{k}{α}{P:α->AV->H->Prop}{F}{z}{j a}(f:AsQ Z)(y:z=none)(s:j≠0)(p:∀h1,Ai h h1->F h1):AdO P F z (Aa (Z.call 15 [iI j,iI a] h) k):=by have⟨v,_,u,x,w⟩:=f _ a h s;rw[u,y,BhP];exact⟨v,_,rfl,w,p _ x⟩
def Aax l(n:Nat) s:=if AfM l n s=true then some (n+1)else none
abbrev psN(v:AV)(e o:Int)(q:uw):Nat->AO:=λj=>Yg v j e o q
def AsR:=∀b v l (n:Nat) e o q s h,PsR b v l n e o q h->AiR b (psN v e o q) h (λ_ r _=>r=.Bj []) (Aax l n s) (Z.call 38 [.ptr b 0,.str s] h)
def CcC(j:AlT Z)(f:Al5 Z)(w:Bm3 Z)(u:AsQ Z){s}(p:PsR b v l n e o q h):AiR b (psN v e o q) h (λ_ r _=>r=.Bj []) (Aax l n s) (mr Z N 38 [.ptr b 0,.str s] h):=by cases x:AfM l _ s with
|true=>exact B5J (by unfold Aax;grind) (B2N Z N f p x)
|false=>have⟨_,_,e1,g,y⟩:=B5x Z N j w u p x;rw[e1];exact Ac6 (by unfold Aax;grind) y ((PX.refl h).gr g)
def BsZ:=∀b v l (n:Nat) e o q k h,PsR b v l n e o q h->AiR b (λ_=>Yg v (n+1:Nat) e o q) h (λt r _=>r=.agg (Aez t)) (kAt l n k) (Z.call 72 [.ptr b 0,iI k] h)
def CcP(f:AsK Z)(s:Bm3 Z)(j:AsQ Z){k}(p:PsR b v l n e o q h):AiR b (λ_=>Yg v (n+1:Nat) e o q) h (λt r _=>r=.agg (Aez t)) (kAt l n k) (mr Z N 72 [.ptr b 0,iI k] h):=by cases u:kAt l n k with
|some t=>exact B5J rfl (B3d Z N f p (BmW u))
|none=>rw[Bz6];refine wk ?_;have h1:=f b v l n e o q _ [k] _ (p.gr (((Ai.refl h).new _).new _:Ai h ((h.new (cz (Aez AiM) 48)).new (cz [iI k] 3)))) (Sl.lit (Bf _) rfl rfl) (by simp);rw[A1A,u]at h1;refine Fj h1 λK E M y w O=>?_;simp[C9]at y;refine wk ?_;refine Fj (s b v l n e o q _ (p.gr Ex)) λI L B R x A=>?_;obtain⟨m,rfl⟩:=A;exact AmT Z j rfl (by simp) λG J=>(PX.refl h).gr Ex
def Ba0:=∀b v l (n:Nat) e o q h,PsR b v l n e o q h->AiR b (λ_=>Yg v (n+1:Nat) e o q) h (λt r _=>r=.str t.t) (kAt l n 1) (Z.call 39 [.ptr b 0] h)
def CcD(f:BsZ Z)(p:PsR b v l n e o q h):AiR b (λ_=>Yg v (n+1:Nat) e o q) h (λt r _=>r=.str t.t) (kAt l n 1) (mr Z N 39 [.ptr b 0] h):=by rw[Bzp];have y:∀t u,BlW (some none) 1 (.agg (Aez t)) u=.ok ..:=λ_ _=>rfl;refine AdL (f b v l n e o q 1 h p) (λj w h1=>Ac6 j) λt w A j s=>?_;obtain⟨x,rfl⟩:=s;refine wk ?_;exact AdG j ⟨x,rfl⟩
def BfN:=∀b v l (n:Nat) e o q h,PsR b v l n e o q h->AiR b (λ_=>Yg v (n+1:Nat) e o q) h (λt r _=>r=iI t.n) (kAt l n 3) (Z.call 46 [.ptr b 0] h)
def CcG(f:BsZ Z)(p:PsR b v l n e o q h):AiR b (λ_=>Yg v (n+1:Nat) e o q) h (λt r _=>r=iI t.n) (kAt l n 3) (mr Z N 46 [.ptr b 0] h):=by rw[Bzv];have y:∀t u,BlW (some none) 2 (.agg (Aez t)) u=.ok ..:=λ_ _=>rfl;refine AdL (f b v l n e o q 3 h p) (λj w h1=>Ac6 j) λt w A j s=>?_;obtain⟨x,rfl⟩:=s;refine wk ?_;exact AdG j ⟨x,rfl⟩
def AjO(l:List Tok):=∀t∈l,t.k=3->0<=t.n/\t.n<=1000000000
def AjO.at(j:AjO l){t}(f:kAt l n 3=some t):0<=t.n/\t.n<=1000000000:=j t (Vl (Agu f).1) (Agu f).2
def AqM l(n:Nat):=if AfM l n [45]=true then(kAt l (n+1) 3).map λt=>(-t.n,n+2)else(kAt l n 3).map λt=>(t.n,n+1)
def BfO:=∀b v l (n:Nat) e o q h,PsR b v l n e o q h->AjO l->AiR b (λx=>Yg v x.2 e o q) h (λx r _=>r=iI x.1) (AqM l n) (Z.call 71 [.ptr b 0] h)
def CcO(y:AlT Z)(A:Al5 Z)(u:BfN Z)(p:PsR b v l n e o q h)(O:AjO l):AiR b (λx=>Yg v (x.2:Nat) e o q) h (λx r _=>r=iI x.1) (AqM l n) (mr Z N 71 [.ptr b 0] h):=by rw[Bz5];cases L:AfM l (n:Nat) [45]with
|false=>
 have w:AqM l n=(kAt l n 3).map λt=>(t.n,n+1):=by unfold AqM;simp_all
 refine Fj (y b v l n e o q [45] h p L) λs K j U S M=>?_;subst M;refine wk ?_;refine AdL (u b v l n e o q K (p.gr j)) (λf s h1 J G=>Ac6 (by grind) J (PX.of ((PG.refl p.get).gr j) |>.elim λX g=>G.elim λY B=>⟨Y,g.trans B⟩)) λt s R f E=>?_;obtain⟨I,rfl⟩:=E;exact AdG (by rw[w,f];rfl) ⟨((PG.refl p.get).gr j).trans I,rfl⟩
|true=>
 have w:AqM l n=(kAt l (n+1) 3).map λt=>(-t.n,n+2):=by unfold AqM;grind
 refine zw1 (A b v l n e o q _ h p L) λs K j M=>(wk ?_);refine AdL (u b v l _ e o q _ (p.pg j om p.ql)) (λf s h1 J G=>Ac6 (by rw[w,f];rfl) J (G.elim λY B=>⟨Y,j.trans B⟩)) λt s R f E=>?_;obtain⟨I,rfl⟩:=E;have T:=O.at f;refine wk ?_;exact AdG (by rw[w,f];rfl) ⟨j.trans I,rfl⟩
def AwC l n:=(kAt l n 3).bind λt=>if t.n=0 then none else some t
def BcQ:=∀b v l (n:Nat) e o q h,PsR b v l n e o q h->AiR b (λ_=>Yg v (n+1:Nat) e o q) h (λt r _=>r=iI t.n) (AwC l n) (Z.call 41 [.ptr b 0] h)
def CcE(j:Bm3 Z)(u:BfN Z)(s:AsQ Z)(p:PsR b v l n e o q h):AiR b (λ_=>Yg v (n+1:Nat) e o q) h (λt r _=>r=iI t.n) (AwC l n) (mr Z N 41 [.ptr b 0] h):=by
 rw[Bzq];refine Fj (j b v l n e o q h p) λw O x T I M=>?_;obtain⟨m,rfl⟩:=M;have y:=(PG.refl p.get).gr x;refine AdL (u b v l n e o q _ (p.gr x)) (λA w h1 K G=>Ac6 (by unfold AwC;simp[*]) K (G.elim λY B=>⟨Y,y.trans B⟩)) λt w S A E=>?_;obtain⟨J,rfl⟩:=E;have f:=y.trans J;by_cases hn:t.n=0;. refine wk ?_;exact AmT Z s (by unfold AwC;grind) (by simp) λR L=>.of (f.gr L)
 .refine wk ?_;exact AdG (by unfold AwC;grind) ⟨f,rfl⟩
end Go.Proofs
namespace Go.Proofs
open Go Go.Ev Go.Nm Go.Ev.Sx
def Abl{l}{n:Nat}{s}(f:AfM l n s=true):n<l.length:=by have:=Bkq (bj n) f;omega
def A6o{l}{n:Nat}{c}{k}(f:(lvF (lvO c k) (AqN l n)).2=true):n<l.length:=by
 by_cases h:n<l.length;. omega
 .have:AqN l n=[]:=by unfold AqN AeL;grind
  rw[this]at f;rcases k with _|k<;>cases c<;>cases f
def ApI{l}{s}{z}{t}{j}(h:fo l s z=some (t,j)):∃f,z=some (t,f)/\j=f+1/\f<l.length/\AfM l f s=true:=by unfold fo at h;cases z with
|none=>grind
|some x=>
 have⟨_,f⟩:=x;have h':(if AfM l _ s=true then some _ else none)=some _:=h;by_cases p:AfM l f s=true;. rw[Xo p]at h';cases h';exact⟨_,rfl,rfl,Abl p,p⟩
 grind
def Ag2{o}{z}{x}(h:ow o z=some x):z=some x/\o<50:=by unfold ow at h;grind
def gn:NS->Nat
|.lp _ _ a=>a.nodes.length
|_=>0
def fr1:NS->Nat
|.lp ..=>0
|_=>1
def Afv(l:List Tok):∀(m:Nat) (s:NS) (n:Nat) (o:Int) (t:Tr) (j:Nat),sp l m s n o=some (t,j)->n+fr1 s<=j/\(j<=l.length\/(j=n/\fr1 s=0))/\t.nodes.length+n<=gn s+j:=by
 intro m;induction m with
 |zero=>intro s n o t j h;cases h
 |succ m p=>
  intro s n o t j h;cases s with
  |un=>
   unfold sp at h;split at h
   .rename_i A;have hn:=Abl A;obtain⟨h,_⟩:=Ag2 h;cases f:sp l m .un (n+1) (o+1)with
    |none=>rw[f]at h;cases h
    |some x=>
     obtain⟨J,B⟩:=x;rw[f]at h;have h':some (Tr.one 7 J,B)=some (t,j):=h;cases h';obtain⟨h1,I,K⟩:=p _ _ _ _ _ f;simp only[fr1,gn,Tr.nodes,Yl,Y7,Gx]at *
     omega
   .split at h
    .rename_i A;have hn:=Abl A;obtain⟨h,_⟩:=Ag2 h;obtain⟨B,f,rfl,hj,_⟩:=ApI h;obtain⟨h1,I,K⟩:=p _ _ _ _ _ f;simp only[fr1,gn]at *
     omega
    .split at h
     .rename_i G;have:=AyA G;cases h;simp only[fr1,gn,Tr.nodes,Y7,Gx];omega
     .cases G:kAt l n 1 with
      |none=>rw[G]at h;cases h
      |some x=>have:=AyA G;rw[G]at h;have h':some (Tr.leaf ⟨2,0,x.t⟩,n+1)=some (t,j):=h;cases h';simp only[fr1,gn,Tr.nodes,Y7,Gx];omega
  |ng=>
   unfold sp at h;split at h
   .rename_i A;have hn:=Abl A;obtain⟨h,_⟩:=Ag2 h;cases f:sp l m .ng (n+1) (o+1)with
    |none=>rw[f]at h;cases h
    |some x=>
     obtain⟨J,B⟩:=x;rw[f]at h;have h':some (Tr.one 17 J,B)=some (t,j):=h;cases h';obtain⟨h1,I,K⟩:=p _ _ _ _ _ f;simp only[fr1,gn,Tr.nodes,Yl,Y7,Gx]at *
     omega
   .split at h
    .rename_i A;have hn:=Abl A;obtain⟨h,_⟩:=Ag2 h;obtain⟨B,f,rfl,hj,_⟩:=ApI h;obtain⟨h1,I,K⟩:=p _ _ _ _ _ f;simp only[fr1,gn]at *
     omega
    .have:=p _ _ _ _ _ h;exact this
  |cm=>
   unfold sp at h;cases f:sp l m .ex n o with
   |none=>rw[f]at h;cases h
   |some x=>
    obtain⟨J,B⟩:=x;rw[f]at h;obtain⟨h1,I,K⟩:=p _ _ _ _ _ f;simp only[Yr]at h;split at h
    .split at h
     .rename_i w R;have L:kAt l (B+1) 4=some w:=by
       split at R;. exact R
       .cases R
      have:=AyA L;cases h;simp only[fr1,gn,Tr.nodes,Yl,Y7,Gx]at *;omega
     .cases u:sp l m .ex (B+1) o with
      |none=>rw[u]at h;cases h
      |some y=>obtain⟨t2,j2⟩:=y;rw[u]at h;obtain⟨g1,g2,g3⟩:=p _ _ _ _ _ u;simp only[dy,ef,Vn]at h;obtain⟨rfl,rfl⟩:=h;simp only[fr1,gn,Tr.nodes,Yl,Y7,Gx]at *;omega
    .cases h
  |ex=>
   unfold sp at h;split at h;. rename_i A;have hn:=Abl A;obtain⟨h,_⟩:=Ag2 h;cases f:fo l uf (sp l m .cd (n+1) (o+1))with
     |none=>rw[f]at h;cases h
     |some x=>obtain⟨W,T⟩:=x;rw[f]at h;obtain⟨k1,O,rfl,hj1,_⟩:=ApI f;simp only[Yr]at h;cases u:fo l ug (sp l m .ex (k1+1) (o+1))with
      |none=>rw[u]at h;cases h
      |some y=>obtain⟨t2,j2⟩:=y;rw[u]at h;obtain⟨k2,M,rfl,hj2,_⟩:=ApI u;simp only[Yr]at h;cases E:sp l m .ex (k2+1) (o+1)with
       |none=>rw[E]at h;cases h
       |some w=>obtain⟨t3,j3⟩:=w;rw[E]at h;simp only[dy,ef,Vn]at h;obtain⟨rfl,rfl⟩:=h;obtain⟨Y,a2,V⟩:=p _ _ _ _ _ O;obtain⟨S,b2,U⟩:=p _ _ _ _ _ M;obtain⟨c1,c2,c3⟩:=p _ _ _ _ _ E;simp only[fr1,gn,Tr.nodes,Yl,Y7,Gx]at *;omega
   .have:=p _ _ _ _ _ h;exact this
  |cd=>have h':sp l m (.ch true 0) n o=some (t,j):=h;have:=p _ _ _ _ _ h';exact this
  |ch c k=>
   unfold sp at h;split at h
   .split at h;. have:=p _ _ _ _ _ h;exact this
    .have:=p _ _ _ _ _ h;exact this
   .cases f:sp l m (.ch c (k+1)) n o with
    |none=>rw[f]at h;cases h
    |some x=>obtain⟨W,T⟩:=x;rw[f]at h;obtain⟨Y,a2,V⟩:=p _ _ _ _ _ f;obtain⟨S,b2,U⟩:=p _ _ _ _ _ h;simp only[fr1,gn]at *;omega
  |lp c k a=>
   unfold sp at h;split at h;. rename_i A;have hn:=A6o A;cases f:sp l m (.ch c (k+1)) (n+1) o with
     |none=>rw[f]at h;cases h
     |some x=>obtain⟨W,T⟩:=x;rw[f]at h;obtain⟨Y,a2,V⟩:=p _ _ _ _ _ f;obtain⟨S,b2,U⟩:=p _ _ _ _ _ h;simp only[fr1,gn,Tr.nodes,Yl,Y7,Gx]at *;omega
   .cases h;simp[fr1,gn]
open Tryz
attribute [local irreducible] Aa Al Af Ad
variable (Z:Ac)(N:Nat)
variable {b:Nat}{v:AV}{l:List Tok}{n:Nat}{i e o:Int}{q:uw}{h h1:H}
abbrev nd2(h:H):Tr × Nat->AV->H->Prop:=λx r h1=>Oo h.nx h1 r x.1.nodes
def SR(run:Nat->H->OR) m s:=∀b v l (n:Nat) e o q h,
 PsR b v l n e o q h->Enf l m s n->0<=o->AiR b (λx=>Yg v x.2 e o q) h (nd2 h) (sp l m s n o) (run b h)
def SC(run:Nat->Nat->H->OR) m c k:=∀bb r0 r1,∀b v l (n:Nat) e o q h,LvR c bb r0 r1 h->bb≠b->r0≠b->r1≠b ->
 PsR b v l n e o q h->Enf l m (.ch c k) n->0<=o->AiR b (λx=>Yg v x.2 e o q) h (nd2 h) (sp l m (.ch c k) n o) (run bb b h)
def PXt{f}(g:PX b h h1)(j:PX b h1 f):PX b h f:=j.elim λ_=>g.trX
def BnU(U:AsK Z){hd:H}{c:Bool}{k:Nat}{bb r0 r1:Nat}{f x:AV}{M:Nat}{f0:L2}{ns:List Nd}{op:Int}{z z1:Option (Tr × Nat)}{P:Tr × Nat->AV->H->Prop}(g:PG b (Yg v i e o q) h hd)(hb:b<h.nx)(p:PsR b v l i e o q hd)(L:LvR c bb r0 r1 h)(n1:bb≠b)(T:r0≠b)(G:r1≠b)(I:k<2)
 (De:lvF (lvO c k) (AqN l i)=(op,true)) (y:Oo h.nx hd x ns) (hn:ns≠[]) (Fc:ns.length<=2000) (CaT:∀x,z1=some x->x.1.nodes.length<=2000)
 (hc:∀u,PG b (Yg v (i+1) e o q) h u->PsR b v l (i+1) e o q u->AiR b (λx:Tr × Nat=>Yg v (x.2:Nat) e o q) u (nd2 u) z1 (Z.call 75 [.ptr b 0,lvS bb (k+1),f] u))
 (bad:z1=none->z=none)
 (next:∀t j x' h' S,z1=some (t,j)->PG b (Yg v (j:Nat) e o q) h h'->Oo h.nx h' x' (ns++t.nodes++[⟨op,0,[]⟩])->AdO P (λh1=>PX b h h1) z (Aro Z N M (.ptr b 0) (lvS bb k) f x' S h')):
 AdO P (λh1=>PX b h h1) z (Aro Z N (M+1) (.ptr b 0) (lvS bb k) f x f0 hd):=by
 rw[BcY];refine wk ?_;have g1:Ai hd (hd.new (cz [iI 2,iI 5] 3)):=(Ai.refl hd).new _;refine Fj (U b v l i e o q (.sl hd.nx 0 2 2 1 true) [2,5] _ (p.gr g1) (Sl.lit (Bf _) rfl rfl) (by simp)) λJ u e2 l2 R q2=>?_;subst q2;have g2:=g1.trans e2;have ge:=g.gr g2;have A:LvR c bb r0 r1 hd:=L.Cf (b:=b) g.lo g.Cf n1 T G;obtain⟨r,hr,w⟩:=Bo4 (c:=c) (bb:=bb) (r0:=r0) (r1:=r1) I;have LL:∀s,Ai hd s->Ae (some none) (.ptr bb k) s=.ok (.map r) s:=λs g=>(w s (A.Cf (b:=b) g.lo (λx y _=>g.Cf x y) n1 T G)).1;have LK:∀s t,Ai hd s->xLk prog 9 (iI 0) true (.map r) (.str t) s=.ok (.Bj [iI (if(lvF (lvO c k) t).2=true then(lvF (lvO c k) t).1 else 0),.bool (lvF (lvO c k) t).2]) s:=λs t g=>(w s (A.Cf (b:=b) g.lo (λx y _=>g.Cf x y) n1 T G)).2 t;have hia:=Boo bb k I;have Z3:=BoJ bb k I;have hg2:u.m.get b=Yg v i e o q:=(g2.Cf b p.lt).trans p.get;have B6:=p.lt;have H4:=p.i0;have A82:=p.Mu;have hql:=p.ql;have hil:i<(l.length:Int):=by
  by_cases hi:i<(l.length:Int);. exact hi
  .exfalso;have:AqN l i=[]:=by unfold AqN AeL;rw[ak om];rfl
   rw[this]at De;have:k=0\/k=1:=by omega
   rcases this with rfl|rfl<;>cases c<;>cases De
 unfold AqN at De;simp only[C9]at l2;generalize AeL l i [2,5]=po at De;have B9k:(lvF (lvO c k) (po.getD AiM).t).2=true:=by rw[De]
 have B9j:(lvF (lvO c k) (po.getD AiM).t).1=op:=by rw[De]
 clear w hr De R;refine wk ?_;refine AdL (hc _ ?_ ?_) (λB J h1 hv hf=>Ac6 (bad B) hv (PXt (.of (X:=Yg v (i+1) e o q) ?_) hf)) λx J O B hp=>?_;. exact(g.gr Ex).put _
 .exact p.pg (((PG.refl p.get).gr Ex).put _) om p.ql
 .exact(g.gr Ex).put _
 obtain⟨t,j⟩:=x;obtain⟨Y,K⟩:=hp;have K:Oo _ O J t.nodes:=K;have hzl:t.nodes.length<=2000:=CaT _ B;have W:PG b (Yg v (j:Nat) e o q) h O:=PG.trans ((g.gr Ex).put _) Y;have gB:PG b (Yg v (j:Nat) e o q) hd O:=PG.trans (((PG.refl p.get).gr Ex).put _) Y;have E:=y.pg hn B6 (λst s=>by rw[p.get]at s;cases s) hb gB;obtain⟨v2,h4,p1,V,p3,p4,p5⟩:=Aw6 W (Ye _) W.lo E K.sl (Tf t) om;refine Ey p1 ?_;refine wk ?_;obtain⟨v5,h5,s1,s2,s3,s4,s5⟩:=AoI ⟨op,0,[]⟩ V (Ye _) V.lo p3 (by rw[Yl];omega);refine Ey s1 ?_;exact next t j _ _ _ B s2 s3
def Bnc(A:AsK Z){c:Bool}{k:Nat}{bb r0 r1:Nat}(U:k<2)(L:LvR c bb r0 r1 h)(n1:bb≠b)(B:r0≠b)(w:r1≠b)(O:PsR b v l i e o q h)(h0:0<=o):
 ∀(m:Nat),(∀I,I<m->SC (λbb b h=>Z.call 75 [.ptr b 0,lvS bb (k+1),fnO b c] h) I c (k+1))->∀(a:Tr) (n:Nat) (x:AV) (h':H) (f0:L2) (M:Nat),Enf l m (.lp c k a) n->n<=l.length->l.length<n+M->a.nodes.length<=n->PG b (Yg v (n:Nat) e o q) h h'->Oo h.nx h' x a.nodes ->
  AiR b (λx:Tr × Nat=>Yg v (x.2:Nat) e o q) h (nd2 h) (sp l m (.lp c k a) n o) (Aro Z N M (.ptr b 0) (lvS bb k) (fnO b c) x f0 h'):=by intro m;induction m with
 |zero=>intro _ a n x h' f0 M u _;exact absurd u (dx _)
 |succ m ih=>intro T a n x h' f0 M u hnl hM ha g V;have hb:=O.lt;have p:PsR b v l (n:Nat) e o q h':=O.pg g (bj _) O.ql;have A82:=p.Mu;have Y:LvR c bb r0 r1 h':=L.Cf (b:=b) g.lo g.Cf n1 B w;cases De:(lvF (lvO c k) (AqN l (n:Nat))).2 with
  |false=>
   have K:sp l (m+1) (.lp c k a) n o=some (a,n):=by show(if(lvF (lvO c k) (AqN l (n:Nat))).2=true then _ else some (a,n))=_;rw[De];rfl
   rcases M with _|M;. exfalso;omega
   .obtain⟨v1,h1,S,e1,q1⟩:=BqP Z N (f:=fnO b c) (x:=x) (n:=M) (f0:=f0) A p Y n1 B w U De;rw[S,K,q1];exact AdG rfl ⟨g.gr e1,V.gr e1⟩
  |true=>
   have hl:=A6o De;obtain⟨M,rfl⟩:∃M',M=M'+1:=⟨M-1,by omega⟩;have K:sp l (m+1) (.lp c k a) n o=(sp l m (.ch c (k+1)) (n+1) o).bind λx=>sp l m (.lp c k (.two (lvF (lvO c k) (AqN l (n:Nat))).1 a x.1)) x.2 o:=by show(if(lvF (lvO c k) (AqN l (n:Nat))).2=true then _ else some (a,n))=_;rw[De];rfl
   rw[K];unfold Enf at u;have hrk:rk (.ch c (k+1))<=10:=by cases c<;>simp only[rk]<;>omega
   have E:∀a',rk (.lp c k a')=11:=λ_=>rfl;rw[E]at u;refine BnU Z N (z1:=sp l m (.ch c (k+1)) (n+1) o) A g hb p L n1 B w U (R8 rfl De) V (Tf a) om (λy hy=>?_) (λG g2 W=>?_) (λs=>by rw[s];rfl) λt j x' G R s g2 J=>?_;. obtain⟨t,j⟩:=y;have:=Afv l _ _ _ _ _ _ hy;simp only[fr1,gn]at this;show t.nodes.length<=2000;omega
   .have L2:LvR c bb r0 r1 G:=L.Cf (b:=b) g2.lo g2.Cf n1 B w;refine T m (Up _) bb r0 r1 b v l (n+1) e o q G L2 n1 B w W ?_ h0;unfold Enf;omega
   .rw[s];have hs:=Afv l _ _ _ _ _ _ s;simp only[fr1,gn]at hs;have e1:(Tr.two (lvF (lvO c k) (AqN l (n:Nat))).1 a t).nodes=a.nodes++t.nodes++[⟨(lvF (lvO c k) (AqN l (n:Nat))).1,0,[]⟩]:=rfl;refine ih (λI hm=>T I om) _ j x' G R M ?_ om om ?_ g2 (by rw[e1];exact J);. unfold Enf;rw[E];omega
    grind
variable {m:Nat}
def CcQ(hN:2001<=N)(y:AsK Z){c:Bool}{k:Nat}(s:k<2)(A:∀w,w<m+1->SC (λbb b h=>Z.call 75 [.ptr b 0,lvS bb (k+1),fnO b c] h) w c (k+1)):
 SC (λbb b h=>mr Z N 75 [.ptr b 0,lvS bb k,fnO b c] h) (m+1) c k:=by
 intro bb r0 r1 b v l n e o q h L n1 G B p u h0;have M:sp l (m+1) (.ch c k) n o=(sp l m (.ch c (k+1)) n o).bind λx=>sp l m (.lp c k x.1) x.2 o:=by show(if 2<=k then _ else _)=_;grind
 simp only[];rw[BqL,M];have E:=BrK bb k s;have V:=p.Mu;have W:decide (((2-k:Nat):Int)=0)=false:=df;have Z3:=BoJ bb k s;unfold Enf at u;have I:rk (.ch c (k+1))+1<=rk (.ch c k)/\1<=rk (.ch c k):=by cases c<;>simp only[rk]<;>omega
 refine wk ?_;refine AdL (A m om bb r0 r1 b v l n e o q h L n1 G B p (by unfold Enf;omega) h0) (λf J h1 U R=>Ac6 (by grind) U R) λx J Y f O=>?_;have⟨t,j⟩:=x;have⟨T,K⟩:=O;have S:=Afv l _ _ _ _ _ _ f;simp[fr1,gn]at S;rw[f];refine Bnc Z N y s L n1 G B p h0 m (λw hm=>A _ om) t j _ _ _ N ?_ om om om T K;unfold Enf;rw[show rk _=11 from rfl];omega
def B5H(y:SR (λb h=>Z.call 139 [.ptr b 0] h) m .un):SC (λbb b h=>mr Z N 75 [.ptr b 0,lvS bb 2,fnO b false] h) (m+1) false 2:=by intro bb r0 r1 b v l n e o q h L n1 B G p j h0;simp[];rw[BqL,(rfl:sp l (m+1) _ n o=sp l m _ n o)];have A:∀u,Fo (lvS bb 2) u=.ok ..:=λ_=>rfl;exact wk (AdL (y b v l n e o q h p (by unfold Enf at j ⊢;simp[rk]at j ⊢;omega) h0) (λf w h1=>Ac6 f) λx w E f s=>AdG f s)
def B5G(y:SR (λb h=>Z.call 76 [.ptr b 0] h) m .ng):SC (λbb b h=>mr Z N 75 [.ptr b 0,lvS bb 2,fnO b true] h) (m+1) true 2:=by intro bb r0 r1 b v l n e o q h L n1 B G p j h0;simp[];rw[BqL,(rfl:sp l (m+1) _ n o=sp l m _ n o)];have A:∀u,Fo (lvS bb 2) u=.ok ..:=λ_=>rfl;exact wk (AdL (y b v l n e o q h p (by unfold Enf at j ⊢;simp[rk]at j ⊢;omega) h0) (λf w h1=>Ac6 f) λx w E f s=>AdG f s)
def B3H(G:Av6 Z)(R:Bpn Z)(Y:SC (λbb b h=>Z.call 75 [.ptr b 0,lvS bb 0,fnO b false] h) m false 0)(p:PsR b v l n e o q h)(y:Enf l (m+1) .ex n)(h0:0<=o)(hs:AfM l (n:Nat) [105,102]=false):
 AiR b (λx:Tr × Nat=>Yg v (x.2:Nat) e o q) h (nd2 h) (sp l (m+1) .ex n o) (mr Z N 102 [.ptr b 0] h):=by
 have hz:sp l (m+1) .ex n o=sp l m (.ch false 0) n o:=by show(if AfM l (n:Nat) [105,102]=true then _ else _)=_;grind
 rw[BuJ,hz];have zb:=@AiE;have I:Ai h ((h.new (cz [.ptr b 0] 44)).new (AeK 23 .Bv)):=((Ai.refl h).new _).new _;refine wk ?_;have h1:=G b v l n e o q [105,102] _ (p.gr I);rw[hs]at h1;refine Fj h1 λJ h2 A l2 L q2=>?_;subst q2;have K:=AgJ p A;have kp:=K.p;have S:=p.gr (I.trans A);simp only[C9]at l2;have B6:=p.lt;clear h1 L;refine wk ?_;refine Fj (R h2) λJ h3 O l3 B q3=>?_;obtain⟨b0,V,x1,b1,y0,y1,rfl,E,L1,f⟩:=q3;have K3:=AgJ p (A.trans O);have kp3:=K3.p;have p3:=S.gr O;have Cbc:=S.lt;have f0:=f b0 (by simp);have f1:=f V (by simp);have f2:=f x1 (by simp);have u:=(PG.refl p.get).gr (I.trans (A.trans O));clear B kp f;refine wk (AdL (Y _ _ _ b v l n e o q _ E om om om p3 (by unfold Enf at y ⊢;simp[rk]at y ⊢;omega) h0) (λs J h1 hv hf=>Ac6 s hv (PXt (.of u) hf)) λx J h4 s hp=>?_);have⟨t,j⟩:=x;have⟨U,T⟩:=hp;have K4:=K3.pg U;have⟨W,M⟩:=K4.w;have⟨o1,o2⟩:=T.one;refine wk ?_;rw[AkG (A2 ..)];exact AdG s ⟨(u.trans U).Aiq _ _ om,((T.AnO (w:=W) (Tf t) K3.cl K4.cl ⟨_,M⟩ _).Y5 om)⟩
def CcF(w:Bpn Z)(E:SC (λbb b h=>Z.call 75 [.ptr b 0,lvS bb 0,fnO b true] h) m true 0):SR (λb h=>mr Z N 43 [.ptr b 0] h) (m+1) .cd:=by intro b v l n e o q h p u h0;simp[];rw[Bzs,(rfl:sp l (m+1) .cd n o=sp l m _ n o)];have B6:=p.lt;refine Fj (w h) λy h3 A L G K=>?_;obtain⟨Y,V,x1,B,S,I,rfl,J,L1,f⟩:=K;have f0:=f B (by simp);have W:=f S (by simp);have f2:=f I (by simp);have s:=(PG.refl p.get).gr A;refine wk (AdL (E _ _ _ b v l n e o q _ L1 om om om (p.gr A) (by unfold Enf at u ⊢;simp[rk]at u ⊢;omega) h0) (λj y h1 T O=>Ac6 j T (PXt (.of s) O)) λx y h4 j M=>?_);have⟨U,R⟩:=M;exact AdG j ⟨s.trans U,R.Y5 L⟩
variable (Z cx:Ac)(N:Nat)
variable {pb c:Nat}
def BqX{g}{s}(J:SR (λb h=>Z.call g [.ptr b 0] h) m s)(p:PsR b v l n e o q h)(K:AsJ b pb c v h)(u:Enf l m s n)(h0:0<=o):
 BcX b (λx=>Yg v x.2 e o q) c 23 h (λx w h1=>Oo h.nx h1 w x.1.nodes) (sp l m s n o) ((mM (lN (.ptr pb 0)) λf=>mM (Z.call g [f]) λL=>mM (A4 1 (.ptr c 0) L) λM=>.ok (.Bj [])) h):=by have kp:=K.p;refine wk ?_;refine AdL (J b v l n e o q h p u h0) (λy f h1 I G=>Ac6 y I (.of G)) λx f R y E=>?_;have⟨A,B⟩:=E;have K3:=K.pg A;have⟨_,j⟩:=K3.w;have O:=B2 B.sl;refine wk ?_;exact AdG y ⟨_,PG2.of A _,B.AnO (w:=f) (Tf _) K.cl K3.cl ⟨_,j⟩ _⟩
def BqZ{g:FuncId}{B:NS}{s:uq}(hr:SR (λb h=>Z.call g [.ptr b 0] h) m B)(J:AsR Z)(p:PsR b v l n e o q h)(K:AsJ b pb c v h)(L:Enf l m B n)(h0:0<=o):
 BcX b (λx:Tr × Nat=>Yg v (x.2:Nat) e o q) c 23 h (λx w h1=>Oo h.nx h1 w x.1.nodes) (fo l s (sp l m B n o)) ((mM (lN (.ptr pb 0)) λf=>mM (Z.call g [f]) λv2=>mM (A4 1 (.ptr c 0) v2) λv3=>mM (lN (.ptr pb 0)) λv4=>mM (Z.call 38 [v4,.str s]) λv5=>.ok (.Bj [])) h):=by
 have kp:=K.p;obtain⟨w0,kw⟩:=K.w;have kpl:=K.pl;have T:=K.cl;have y:=K.nc;refine wk ?_;refine AdL (hr b v l n e o q h p L h0) (λO f h1 W S=>Ac6 (by rw[O];rfl) W (.of S)) λx f U O hp=>?_;obtain⟨t,j⟩:=x;obtain⟨V,q3⟩:=hp;have K3:=K.pg V;have p3:PsR b v l (j:Nat) e o q U:=p.pg V (bj _) p.ql;obtain⟨w3,I⟩:=K3.w;obtain⟨o2,o3⟩:=B2 q3.sl;have A:=K3.cl;have kp3:=K3.p;have Cab:=K.npc;clear kw kp;refine wk ?_;have q4:=q3.AnO (w:=f) (Tf t) T A ⟨_,I⟩ (AeK 23 f);have g4:PG c (AeK 23 f) U (U.put c (AeK 23 f)):=(PG.refl rfl).put _;have G:PsR b v l _ e o q _:=⟨(g4.Cf b p3.lt λu=>y u.symm).trans p3.get,p3.lt,Sl.pg p3.AsD A λst u=>by grind K.av g4,p3.av,p3.one,p3.i0,p3.Mu,p3.ql⟩;have gC:=PG2.of V (AeK 23 f) (c:=c);have hfo:fo l s (sp l m B n o)=(Aax l j s).map λE=>(t,E):=by rw[O];show(if AfM l _ s=true then some _ else none)=(if AfM l j s=true then some _ else none).map _;simp
 refine AdL (J b v l j e o q s _ G) (λR f h1 W S=>Ac6 (by grind) W (.put gC (λu=>y u.symm) S)) λE v5 h5 R M=>?_;have⟨Y,_⟩:=M;exact AdG (x:=(t,E)) (by grind) ⟨_,(gC.trP (λu=>y u.symm) Y),q4.pg (Tf t) G.lt λst u=>by rw[G.get]at u;grind p.lt Y⟩
def AsS(run:Nat->Nat->H->OR)(ns:Tr->List _)(z:List _->Nat->Int->Option (Tr × Nat))(st:List _->Nat->Prop):=∀b pb c v l (n:Nat) e o q h,
 PsR b v l n e o q h->AsJ b pb c v h->st l n->0<=o->BcX b (λx=>Yg v x.2 e o q) c 23 h (λx w h1=>Oo h.nx h1 w (ns x.1)) (z l n o) (run pb c h)
def BnZ(f:SR (λb h=>Z.call 139 [.ptr b 0] h) m .un):AsS (λpb c h=>mr Z N 167 [.ptr pb 0,.ptr c 0] h) Tr.nodes (λl n o=>sp l m .un n o) λl n=>Enf l m .un n:=λb pb c v l n e o q h=>by simp[];rw[BzR];exact BqX Z f
def BnW(f:SR (λb h=>Z.call 76 [.ptr b 0] h) m .ng):AsS (λpb c h=>mr Z N 104 [.ptr pb 0,.ptr c 0] h) Tr.nodes (λl n o=>sp l m .ng n o) λl n=>Enf l m .ng n:=λb pb c v l n e o q h=>by simp[];rw[BzG];exact BqX Z f
def Boa(f:AsR Z)(j:SR (λb h=>Z.call 102 [.ptr b 0] h) m .ex):AsS (λpb c h=>mr Z N 168 [.ptr pb 0,.ptr c 0] h) Tr.nodes (λl n o=>fo l [41] (sp l m .ex n o)) λl n=>Enf l m .ex n:=λb pb c v l n e o q h=>by simp[];rw[BzS];exact BqZ Z j f
def BnX(f:AsR Z)(j:SR (λb h=>Z.call 43 [.ptr b 0] h) m .cd):AsS (λpb c h=>mr Z N 105 [.ptr pb 0,.ptr c 0] h) Tr.nodes (λl n o=>fo l [93] (sp l m .cd n o)) λl n=>Enf l m .cd n:=λb pb c v l n e o q h=>by simp[];rw[BzH];exact BqZ Z j f
def A6V:=∀b c v l (n:Nat) e o q h s f (ns:Tr->List _) z,(∀x,z=some x->ns x.1≠[])->PsR b v l n e o q h->c≠b->c<h.nx->(∃w,h.m.get c=AeK 23 w)->AfM l n s=true->0<=o ->
 (∀j,PG b (Yg v (n+1:Nat) e (o+1) q) h j->BcX b (λx=>Yg v x.2 e (o+1) q) c 23 j (λx w p=>Oo j.nx p w (ns x.1)) z (cvV f [] prog cx j)) ->
 BcX b (λx=>Yg v x.2 e o q) c 23 h (λx w h1=>Oo h.nx h1 w (ns x.1)) (ow o z) (Z.call 103 [.ptr b 0,.str s,f] h)
def CcY(L:AmR Z)(G:Bm3 Z)(K:AsQ Z){s:uq}{f:AV}{ns:Tr->List Nd}{z:Option (Tr × Nat)}(O:∀x,z=some x->ns x.1≠[])(p:PsR b v l n e o q h)(hc:c≠b)(Ox:c<h.nx)(hs:AfM l (n:Nat) s=true)(h0:0<=o)
 (M:∀u,PG b (Yg v ((n+1:Nat):Int) e (o+1) q) h u->BcX b (λx:Tr × Nat=>Yg v (x.2:Nat) e (o+1) q) c 23 u (λx w B=>Oo u.nx B w (ns x.1)) z (cvV f [] prog Z u)):
 BcX b (λx:Tr × Nat=>Yg v (x.2:Nat) e o q) c 23 h (λx w h1=>Oo h.nx h1 w (ns x.1)) (ow o z) (mr Z N 103 [.ptr b 0,.str s,f] h):=by
 rw[BzF];have hg:=p.get;have R:=p.lt;have hql:=p.ql;by_cases j:50<=o;. have T:decide ((50:Int)<=o)=true:=Ws j;have y:ow o z=none:=Xo j;refine wk ?_;refine Fj (G b v l n e o q _ (p.gr Ex)) λW B E l3 V J=>?_;obtain⟨a,rfl⟩:=J;exact AmT Z K y (by simp) λh4 e4=>.of ((PX.refl h).gr Ex)
 have T:decide ((50:Int)<=o)=false:=Yc j;have y:ow o z=z:=X2 j;rw[y];refine wk ?_;rw[Bmt];clear T;refine wk ?_;have g1:PG b (Yg v n e (o+1) q) h (h.put b (Yg v n e (o+1) q)):=(PG.refl rfl).put _;have U:=p.pg g1 om p.ql;refine zw1 (L b v l n e (o+1) q s _ U hs) λv1 u e2 q2=>?_;have g2:PG b (Yg v ((n+1:Nat):Int) e (o+1) q) h u:=g1.trans e2;refine AdL (M u g2) (λy v1 h1 hv M=>Ac6 y hv ?_) λx W B y hp=>?_;. exact M.elim λX p=>⟨X,p.elim λY g=>⟨Y,PG2.pre (X':=X) g2 g⟩⟩
 obtain⟨w,E,J⟩:=hp;have hb3:=E.B0m (Xq R g2.lo) (λA=>hc A.symm);have I:b<B.nx:=Xq R (Ol g2.lo E.lo);clear hg U;refine wk ?_;have S:h.nx<=u.nx:=g2.lo;exact AdG y ⟨w,(PG2.pre g2 E).To (λA=>hc A.symm) _,(J.Y5 S).pg (O x y) I (λst A=>by grind) R ((PG.refl rfl).put _)⟩
def Bjy{o}{z} f:ow o (z.map f)=(ow o z).map f:=by unfold ow;grind
def Bol(G:Av6 Z)(R:A6V Z cx)(E:AsS (λpb c h=>cx.call 167 [.ptr pb 0,.ptr c 0] h) Tr.nodes (λl n o=>sp l m .un n o) (λl n=>Enf l m .un n))(p:PsR b v l n e o q h)(L:Enf l (m+1) .un n)(h0:0<=o)(A:AfM l (n:Nat) [45]=true):
 AiR b (λx:Tr × Nat=>Yg v (x.2:Nat) e o q) h (nd2 h) (sp l (m+1) .un n o) (mr Z N 139 [.ptr b 0] h):=by
 have hz:sp l (m+1) .un n o=(ow o (sp l m .un (n+1) (o+1))).map λx=>(.one 7 x.1,x.2):=by show(if AfM l (n:Nat) [45]=true then _ else _)=_;rw[Xo A,Bjy]
 rw[BmM,hz];have zb:=@AiE;have V:=p.Mu;have hnl:=Abl A;have I:Ai h ((h.new (cz [.ptr b 0] 44)).new (AeK 23 .Bv)):=((Ai.refl h).new _).new _;refine wk ?_;have h1:=G b v l n e o q [45] _ (p.gr I);rw[A]at h1;refine Fj h1 λY u J l2 O q2=>?_;subst q2;have K:=AgJ p J;have kp:=K.p;have S:=p.gr (I.trans J);have f:PG b (Yg v (n:Nat) e o q) h u:=(PG.refl p.get).gr (I.trans J);simp only[C9]at l2;have B6:=p.lt;clear h1 O;refine wk ?_;refine AdL (R b (h.nx+1) v l n e o q u [45] (.fn (.func 167) [] [.ptr h.nx 0,.ptr (h.nx+1) 0]) Tr.nodes (sp l m .un (n+1) (o+1)) (λx _=>Tf x.1) S K.nc K.cl K.w A h0 λh3 U=>?_) (λs Y h1 hv hf=>Ac6 (by grind) hv (PX2.own (.of f) hf om)) λx v3 T s hp=>?_;. rw[BuC];exact E b h.nx (h.nx+1) v l (n+1) e (o+1) q h3 (S.pg U om p.ql) (K.pg U) (by unfold Enf at L ⊢;omega) om
 obtain⟨t,j⟩:=x;obtain⟨w,B,y⟩:=hp;have y:Oo u.nx T w t.nodes:=y;have Z3:=Afv l _ _ _ _ _ _ (Ag2 s).1;simp only[fr1,gn]at Z3;have kc:=B.BaK K.cl;have gX:PG b (Yg v (j:Nat) e o q) h T:=PG2.own (PX.of f) B om;have M:=Xq K.cl B.lo;obtain⟨o1,o2⟩:=y.one;clear kp;refine wk ?_;obtain⟨v5,h5,s1,s2,s3,W,s5⟩:=AoI ⟨7,0,[]⟩ gX (show h.nx<=u.nx by omega) B.lo y om;have⟨o3,o4⟩:=s3.one;refine wk ?_;rw[AkG (A2 ..)];refine AdG (x:=(.one 7 t,j)) (by grind) ⟨?_,?_⟩;. exact s2.Aiq _ _ om
 .exact(s3.AnO (w:=.Bv) (by simp) K.cl (Xq M W) ⟨_,(s5 _ K.cl).trans kc⟩ _).Y5 om
def Bom(u:Av6 Z)(R:A6V Z cx)(E:AsS (λpb c h=>cx.call 168 [.ptr pb 0,.ptr c 0] h) Tr.nodes (λl n o=>fo l [41] (sp l m .ex n o)) (λl n=>Enf l m .ex n))(p:PsR b v l n e o q h)(y:Enf l (m+1) .un n)(h0:0<=o)(I:AfM l (n:Nat) [45]=false)(J:AfM l (n:Nat) [40]=true):
 AiR b (λx:Tr × Nat=>Yg v (x.2:Nat) e o q) h (nd2 h) (sp l (m+1) .un n o) (mr Z N 139 [.ptr b 0] h):=by
 have hz:sp l (m+1) .un n o=ow o (fo l [41] (sp l m .ex (n+1) (o+1))):=by show(if AfM l (n:Nat) [45]=true then _ else if AfM l (n:Nat) [40]=true then _ else _)=_;grind
 rw[BmM,hz];have zb:=@AiE;have hnl:=Abl J;have G:Ai h ((h.new (cz [.ptr b 0] 44)).new (AeK 23 .Bv)):=((Ai.refl h).new _).new _;refine wk ?_;have h1:=u b v l n e o q [45] _ (p.gr G);rw[I]at h1;refine Fj h1 λT h2 A l2 L q2=>?_;subst q2;have K:=AgJ p A;have kp:=K.p;have S:=p.gr (G.trans A);simp only[C9]at l2;have B6:=p.lt;clear h1 L;refine wk ?_;have h1:=u b v l n e o q [40] _ S;rw[J]at h1;refine Fj h1 λT W M l3 B q3=>?_;subst q3;have g3:=G.trans (A.trans M);have K3:=AgJ p (A.trans M);have kp3:=K3.p;have p3:=S.gr M;have s:PG b (Yg v (n:Nat) e o q) h W:=(PG.refl p.get).gr g3;clear h1 B kp;refine wk ?_;refine AdL (R b (h.nx+1) v l n e o q W [40] (.fn (.func 168) [] [.ptr h.nx 0,.ptr (h.nx+1) 0]) Tr.nodes (fo l [41] (sp l m .ex (n+1) (o+1))) (λx _=>Tf _) p3 K3.nc K3.cl K3.w J h0 λY U=>?_) (λf T h1 hv hf=>Ac6 f hv (PX2.own (.of s) hf om)) λx v3 Y f hp=>?_;. exact E b _ _ v l _ e _ q _ (p3.pg U om p.ql) (K3.pg U) (by unfold Enf at y ⊢;simp[rk]at y ⊢;omega) om
 have⟨t,j⟩:=x;have⟨w,O,V⟩:=hp;have kc:=O.BaK K3.cl;have⟨o1,o2⟩:=V.one;refine wk ?_;rw[AkG (A2 ..)];exact AdG f ⟨(PG2.own (PX.of s) O (show h.nx<=h.nx+1 by omega)).Aiq _ _ om,((V.AnO (w:=.Bv) (Tf t) K3.cl (Xq K3.cl O.lo) ⟨_,kc⟩ _).Y5 om)⟩
def Bof(G:Av6 Z)(S:A6V Z cx)(E:AsS (λpb c h=>cx.call 104 [.ptr pb 0,.ptr c 0] h) Tr.nodes (λl n o=>sp l m .ng n o) (λl n=>Enf l m .ng n))(p:PsR b v l n e o q h)(L:Enf l (m+1) .ng n)(h0:0<=o)(A:AfM l (n:Nat) ur=true):
 AiR b (λx:Tr × Nat=>Yg v (x.2:Nat) e o q) h (nd2 h) (sp l (m+1) .ng n o) (mr Z N 76 [.ptr b 0] h):=by
 have hz:sp l (m+1) .ng n o=(ow o (sp l m .ng (n+1) (o+1))).map λx=>(.one 17 x.1,x.2):=by show(if AfM l (n:Nat) ur=true then _ else _)=_;rw[Xo A,Bjy]
 rw[BqM,hz];have zb:=@AiE;have A82:=p.Mu;have hnl:=Abl A;have I:Ai h ((h.new (cz [.ptr b 0] 44)).new (AeK 23 .Bv)):=((Ai.refl h).new _).new _;refine wk ?_;have h1:=G b v l n e o q ur _ (p.gr I);rw[A]at h1;refine Fj h1 λv1 u J l2 R q2=>?_;subst q2;have K:=AgJ p J;have kp:=K.p;have T:=p.gr (I.trans J);have s:PG b (Yg v (n:Nat) e o q) h u:=(PG.refl p.get).gr (I.trans J);simp only[C9]at l2;have B6:=p.lt;clear h1 R;refine wk ?_;refine AdL (S b (h.nx+1) v l n e o q u ur (.fn (.func 104) [] [.ptr h.nx 0,.ptr (h.nx+1) 0]) Tr.nodes (sp l m .ng (n+1) (o+1)) (λx _=>Tf x.1) T K.nc K.cl K.w A h0 λh3 g3=>?_) (λf v1 h1 hv hf=>Ac6 (by rw[f];rfl) hv (PX2.own (.of s) hf om)) λx v3 U f hp=>?_
 .rw[Bu9];exact E b h.nx (h.nx+1) v l (n+1) e (o+1) q h3 (T.pg g3 om p.ql) (K.pg g3) (by unfold Enf at L ⊢;omega) om
 obtain⟨t,j⟩:=x;obtain⟨w,B,y⟩:=hp;have y:Oo u.nx U w t.nodes:=y;have Z3:=Afv l _ _ _ _ _ _ (Ag2 f).1;simp only[fr1,gn]at Z3;have W:=B.BaK K.cl;have gX:PG b (Yg v (j:Nat) e o q) h U:=PG2.own (PX.of s) B om;have M:=Xq K.cl B.lo;obtain⟨o1,o2⟩:=y.one;clear kp;refine wk ?_;obtain⟨v5,h5,V,s2,s3,s4,Y⟩:=AoI ⟨17,0,[]⟩ gX (show h.nx<=u.nx by omega) B.lo y om
 refine Ey V ?_;have O:=(Y (h.nx+1) K.cl).trans W;obtain⟨o3,o4⟩:=s3.one;clear W V Y;refine wk ?_;rw[AkG (A2 _ _)];refine AdG (x:=(.one 17 t,j)) (by rw[f];rfl) ⟨?_,?_⟩
 .exact s2.Aiq _ _ om
 .exact(s3.AnO (w:=.Bv) (by simp) K.cl (Xq M s4) ⟨_,O⟩ _).Y5 om
def Bog(u:Av6 Z)(T:A6V Z cx)(I:AsS (λpb c h=>cx.call 105 [.ptr pb 0,.ptr c 0] h) Tr.nodes (λl n o=>fo l [93] (sp l m .cd n o)) (λl n=>Enf l m .cd n))(p:PsR b v l n e o q h)(y:Enf l (m+1) .ng n)(h0:0<=o)(A:AfM l (n:Nat) ur=false)(E:AfM l (n:Nat) [91]=true):
 AiR b (λx:Tr × Nat=>Yg v (x.2:Nat) e o q) h (nd2 h) (sp l (m+1) .ng n o) (mr Z N 76 [.ptr b 0] h):=by
 have hz:sp l (m+1) .ng n o=ow o (fo l [93] (sp l m .cd (n+1) (o+1))):=by show(if AfM l (n:Nat) ur=true then _ else if AfM l (n:Nat) [91]=true then _ else _)=_;rw[X2 (by rw[A];exact Uo),Xo E]
 rw[BqM,hz];have zb:=@AiE;have hnl:=Abl E;have J:Ai h ((h.new (cz [.ptr b 0] 44)).new (AeK 23 .Bv)):=((Ai.refl h).new _).new _;refine wk ?_;have h1:=u b v l n e o q ur _ (p.gr J);rw[A]at h1;refine Fj h1 λW h2 B l2 O q2=>?_;subst q2;have K:=AgJ p B;have kp:=K.p;have U:=p.gr (J.trans B);simp only[C9]at l2;have B6:=p.lt;clear h1 O;refine wk ?_;have h1:=u b v l n e o q [91] _ U;rw[E]at h1;refine Fj h1 λW h3 R l3 G q3=>?_;subst q3;have g3:=J.trans (B.trans R);have K3:=AgJ p (B.trans R);have L:=K3.p;have p3:=U.gr R;have s:PG b (Yg v (n:Nat) e o q) h h3:=(PG.refl p.get).gr g3;clear h1 G kp;refine wk ?_;refine AdL (T b (h.nx+1) v l n e o q h3 [91] (.fn (.func 105) [] [.ptr h.nx 0,.ptr (h.nx+1) 0]) Tr.nodes (fo l [93] (sp l m .cd (n+1) (o+1))) (λx _=>Tf x.1) p3 K3.nc K3.cl K3.w E h0 λV Y=>?_) (λf W h1 hv hf=>Ac6 f hv (PX2.own (.of s) hf om)) λx v3 V f hp=>?_
 .rw[BuA];exact I b h.nx (h.nx+1) v l (n+1) e (o+1) q V (p3.pg Y om p.ql) (K3.pg Y) (by unfold Enf at y ⊢;simp only[rk]at y ⊢;omega) om
 obtain⟨t,j⟩:=x;obtain⟨w,S,q4⟩:=hp;have kc:=S.BaK K3.cl;have gX:=PG2.own (PX.of s) S (show h.nx<=h.nx+1 by omega)
 have M:=Xq K3.cl S.lo;obtain⟨o1,o2⟩:=q4.one;clear L;refine wk ?_;rw[AkG (A2 _ _)];refine AdG f ⟨gX.Aiq _ _ om,?_⟩;exact(q4.AnO (w:=.Bv) (Tf t) K3.cl M ⟨_,kc⟩ _).Y5 om
def Bo0(G:Av6 Z)(AiY:AsK Z)(T:Ba0 Z)(p:PsR b v l n e o q h)(J:AfM l (n:Nat) [45]=false)(M:AfM l (n:Nat) [40]=false):
 AiR b (λx:Tr × Nat=>Yg v (x.2:Nat) e o q) h (nd2 h) (sp l (m+1) .un n o) (mr Z N 139 [.ptr b 0] h):=by
 have hz:sp l (m+1) .un n o=match kAt l n 3 with
  |some t=>some (.leaf ⟨1,t.n,[]⟩,n+1)
  |none=>(kAt l n 1).map λt=>(.leaf ⟨2,0,t.t⟩,n+1):=by
  show(if AfM l (n:Nat) [45]=true then _ else if AfM l (n:Nat) [40]=true then _ else _)=_;rw[X2 (by rw[J];exact Uo),X2 (by rw[M];exact Uo)]<;>rfl
 rw[BmM,hz];have zb:=@AiE;have R:Ai h ((h.new (cz [.ptr b 0] 44)).new (AeK 23 .Bv)):=((Ai.refl h).new _).new _;refine wk ?_;have h1:=G b v l n e o q [45] _ (p.gr R);rw[J]at h1;refine Fj h1 λI h2 s l2 Aae q2=>?_;subst q2;have K:=AgJ p s;have kp:=K.p;have p2:=p.gr (R.trans s);simp only[C9]at l2;have B6:=p.lt;clear h1 Aae;refine wk ?_;have h1:=G b v l n e o q [40] _ p2;rw[M]at h1;refine Fj h1 λI E A l3 U q3=>?_;subst q3;have K3:=AgJ p (s.trans A);have L:=K3.p;have p3:=p2.gr A;clear h1 U kp;refine wk ?_;have h1:=AiY b v l n e o q (.sl E.nx 0 1 1 1 true) [3] _ (p3.gr ((Ai.refl E).new (cz [iI 3] 3))) (Sl.lit (Bf _) rfl rfl) (by simp);rw[A1A]at h1;cases V:kAt l n 3 with
 |some t=>
  rw[V]at h1;refine Fj h1 λI f e4 W B Y=>?_;subst Y;have j:Ai E f:=((Ai.refl E).new (cz [iI 3] 3)).trans e4;have K4:=AgJ p (s.trans (A.trans j));have kp4:=K4.p;obtain⟨w4,kw4⟩:=K4.w;have kc4:=K4.cl;have S:=p3.gr j;have hb4:=S.get;have gx:PG b (Yg v n e o q) h f:=(PG.refl p.get).gr (R.trans (s.trans (A.trans j)));have A82:=p.Mu;have hql:=p.ql;have hil:n<l.length:=AyA V;simp only[C9]at W;clear h1 B L j;refine wk ?_;rw[AkG (A2 _ _)];have nb:h.nx+1≠b:=by omega
  refine AdG rfl ⟨?_,?_⟩
  .show PG b (Yg v ((n+1:Nat):Int) e o q) h _;rw[show((n+1:Nat):Int)=(n:Int)+1 by omega]
   exact pgA
  refine(Oo.AnO (lo:=f.nx+1) (w:=w4) (Wl (lo:=f.nx+1) [⟨1,t.n,[]⟩] 1 rfl (Bf _) rfl (Ye _)) (by simp) om ml ⟨w4,?_⟩ _).Y5 om;simp(disch:=first|exact Ce|fail) [kw4,nb]
 |none=>rw[V]at h1;refine Fj h1 λI f e4 W B Y=>?_;subst Y;have j:Ai E f:=((Ai.refl E).new (cz [iI 3] 3)).trans e4;have K4:=AgJ p (s.trans (A.trans j));have kp4:=K4.p;have S:=p3.gr j;have g5:=R.trans (s.trans (A.trans j));simp only[C9]at W;have kc4:=K4.cl;clear h1 B L;refine wk ?_;have O:Ai f ((f.new (cz (Aez AiM) 48)).put f.nx (cz (Aez AiM) 48)):=((Ai.refl f).new _).put _ _ (Ye _);have u:PG b (Yg v n e o q) h _:=(PG.refl p.get).gr (g5.trans O);refine AdL (T b v l n e o q _ (S.gr O)) (λy I h1 hv hf=>Ac6 (by rw[y];rfl) hv (PXt (.of u) hf)) λt I h6 y hp=>?_;obtain⟨e6,rfl⟩:=hp;have K6:=(AgJ p (s.trans (A.trans (j.trans O)))).pg e6;obtain⟨w6,kw6⟩:=K6.w;have kc6:=K6.cl;have gx:PG b (Yg v ((n+1:Nat):Int) e o q) h h6:=u.trans e6;clear O u;refine wk ?_;rw[AkG (A2 _ _)];refine AdG (x:=(.leaf ⟨2,0,t.t⟩,n+1)) (by rw[y];rfl) ⟨pgA,?_⟩;refine(Oo.AnO (lo:=h6.nx) (w:=w6) (Wl (lo:=h6.nx) [⟨2,0,t.t⟩] 1 rfl (Bf _) rfl (Ye _)) (by simp) om ml ⟨w6,?_⟩ _).Y5 om;simp(disch:=first|exact Ce|fail) [kw6]
def B5f(u:Av6 Z)(hC:SR (λb h=>Z.call 106 [.ptr b 0] h) m .cm)(p:PsR b v l n e o q h)(y:Enf l (m+1) .ng n)(h0:0<=o)(A:AfM l (n:Nat) ur=false)(B:AfM l (n:Nat) [91]=false):
 AiR b (λx:Tr × Nat=>Yg v (x.2:Nat) e o q) h (nd2 h) (sp l (m+1) .ng n o) (mr Z N 76 [.ptr b 0] h):=by
 have hz:sp l (m+1) .ng n o=sp l m .cm n o:=by show(if AfM l (n:Nat) ur=true then _ else if AfM l (n:Nat) [91]=true then _ else _)=_;rw[X2 (by rw[A];exact Uo),X2 (by rw[B];exact Uo)]
 rw[BqM,hz];have zb:=@AiE;have I:Ai h ((h.new (cz [.ptr b 0] 44)).new (AeK 23 .Bv)):=((Ai.refl h).new _).new _;refine wk ?_;have h1:=u b v l n e o q ur _ (p.gr I);rw[A]at h1;refine Fj h1 λJ h2 E l2 R q2=>?_;subst q2;have K:=AgJ p E;have kp:=K.p;have U:=p.gr (I.trans E);simp only[C9]at l2;have B6:=p.lt;clear h1 R;refine wk ?_;have h1:=u b v l n e o q [91] _ U;rw[B]at h1;refine Fj h1 λJ h3 T l3 G q3=>?_;subst q3;have K3:=AgJ p (E.trans T);have L:=K3.p;have p3:=U.gr T;have s:=(PG.refl p.get).gr (I.trans (E.trans T));clear h1 G kp;refine wk ?_;refine AdL (hC b v l n e o q h3 p3 (by unfold Enf at y ⊢;simp only[rk]at y ⊢;omega) h0) (λf J h1 hv hf=>Ac6 f hv (PXt (.of s) hf)) λx J h4 f hp=>?_;obtain⟨t,j⟩:=x;obtain⟨W,V⟩:=hp;have K4:=K3.pg W;obtain⟨Y,S⟩:=K4.w;have M:=K4.cl;obtain⟨o1,o2⟩:=V.one;have gx:=s.trans W;have O:=K3.cl;clear L;refine wk ?_;rw[AkG (A2 _ _)];refine AdG f ⟨gx.Aiq _ _ om,?_⟩;exact(V.AnO (w:=Y) (Tf t) O M ⟨_,S⟩ _).Y5 om
def Cdf(f:Av6 Z)(B:AsK Z)(w:Ba0 Z)(u:A6V Z cx)(y:AsS (λpb c h=>cx.call 167 [.ptr pb 0,.ptr c 0] h) Tr.nodes (λl n o=>sp l m .un n o) (λl n=>Enf l m .un n))(x:AsS (λpb c h=>cx.call 168 [.ptr pb 0,.ptr c 0] h) Tr.nodes (λl n o=>fo l [41] (sp l m .ex n o)) (λl n=>Enf l m .ex n)):
 SR (λb h=>mr Z N 139 [.ptr b 0] h) (m+1) .un:=by
 intro b v l n e o q h p s h0;cases A:AfM l (n:Nat) [45]with
 |true=>exact Bol Z cx N f u y p s h0 A
 |false=>
  cases j:AfM l (n:Nat) [40]with
  |true=>exact Bom Z cx N f u x p s h0 A j
  |false=>exact Bo0 Z N f B w p A j
def CcR(f:Av6 Z)(u:A6V Z cx)(A:SR (λb h=>Z.call 106 [.ptr b 0] h) m .cm)(w:AsS (λpb c h=>cx.call 104 [.ptr pb 0,.ptr c 0] h) Tr.nodes (λl n o=>sp l m .ng n o) (λl n=>Enf l m .ng n))(y:AsS (λpb c h=>cx.call 105 [.ptr pb 0,.ptr c 0] h) Tr.nodes (λl n o=>fo l [93] (sp l m .cd n o)) (λl n=>Enf l m .cd n)):
 SR (λb h=>mr Z N 76 [.ptr b 0] h) (m+1) .ng:=by
 intro b v l n e o q h p j h0;cases x:AfM l (n:Nat) ur with
 |true=>exact Bof Z cx N f u w p j h0 x
 |false=>
  cases s:AfM l (n:Nat) [91]with
  |true=>exact Bog Z cx N f u y p j h0 x s
  |false=>exact B5f Z N f A p j h0 x s
variable {d d1 d2:Nat}{t a tb:Tr}{xs la lb:List L3}
def BmF(M:AsK Z){op:Int}{x:AV}{ns:List Nd}{f0:L2}{hd:H}{m:Nat}{w:uq}(De:op=9\/op=10)(g:PG b (Yg v (m:Int) e o q) h hd)(S:b<h.nx)(p:PsR b v l (m:Int) e o q hd)(hx:Oo h.nx hd x ns)(hn:ns≠[])(hw:∃t,l[m+1]?=some t/\AeT t (.wd w))(hz:ns.length+2<=4000):
 Ah H0 (λr h1=>PG b (Yg v ((m+2:Nat):Int) e o q) h h1/\Oo h.nx h1 r (ns++[⟨3,0,w⟩,⟨op,0,[]⟩])) (AwM Z N (.ptr b 0) x uz (iI op) f0 hd):=by
 rw[BcG];have hg:=p.get;have B6:=p.lt;have A82:=p.Mu;have hql:=p.ql;obtain⟨t,R,G,I⟩:=hw;have hml:m+1<l.length:=(Wp.1 R).1;have u:AeL l ((m+1:Nat):Int) [4]=some t:=by unfold AeL;rw[Lm,R];simp[G]
 refine wk ?_;have g1:PG b (Yg v ((m+1:Nat):Int) e o q) hd (hd.put b (Yg v ((m+1:Nat):Int) e o q)):=(PG.refl rfl).put _;have V:=p.pg g1 om p.ql;have h1:=M b v l ((m+1:Nat):Int) e o q (.sl hd.nx 0 1 1 1 true) [4] _ (V.gr ((Ai.refl _).new (cz [iI 4] 3))) (Sl.lit (h:=hd.put b (Yg v ((m+1:Nat):Int) e o q)) (Bf _) rfl rfl) (by simp);rw[u]at h1;simp only[C8,db,I]at h1;refine Fj h1 λv1 f U l2 K q2=>?_;subst q2;have gA:PG b (Yg v ((m+1:Nat):Int) e o q) h f:=((g.trans g1).new _).gr U;have T:PG b (Yg v ((m+1:Nat):Int) e o q) hd f:=(g1.new _).gr U;have O:=p.pg T om p.ql;have B:=hx.pg hn B6 (λst j=>by rw[p.get]at j;cases j) S T;have Wg:=O.get;have y:=O.lt;simp only[C9]at l2;have wt:∀(w:Bool) (r:OR) (j:H),Ad (.Bj []) w r j=.ok (.Bj []) j:=λw r j=>A0V [] w r j;clear K h1 hg V g1 u;have hi:((m+2:Nat):Int)=(m:Int)+1+1:=by omega
 rw[hi];have A:Ai f ((f.new (cz (Aez AiM) 48)).put f.nx (cz (Aez t) 48)):=((Ai.refl f).new _).put _ _ (Ye _);have W:PG b (Yg v ((m:Int)+1+1) e o q) ((f.new (cz (Aez AiM) 48)).put f.nx (cz (Aez t) 48)) (((f.new (cz (Aez AiM) 48)).put f.nx (cz (Aez t) 48)).put b (Yg v ((m:Int)+1+1) e o q)):=(PG.refl rfl).put _;have E:=(B.gr A).pg hn (Xq y A.lo) (λst j=>by rw[A.Cf b y,Wg]at j;cases j) S W;have Y:=(gA.gr A).trans W;have s:∀op:Int,∃v' h',Ds 64 3 32 x (.sl (f.nx+1) 0 2 2 3 true) ((((f.new (cz (Aez AiM) 48)).put f.nx (cz (Aez t) 48)).put b (Yg v ((m:Int)+1+1) e o q)).new (cz [iI 3,iI 0,.str w,iI op,iI 0,.str []] 64))=.ok v' h'/\PG b (Yg v ((m:Int)+1+1) e o q) h h'/\Oo h.nx h' v' (ns++[⟨3,0,w⟩,⟨op,0,[]⟩]):=by intro op;obtain⟨L,h5,J,s2,s3,s4,s5⟩:=Aw6 (m:=[⟨3,0,w⟩,⟨op,0,[]⟩]) (Y.new (cz [iI 3,iI 0,.str w,iI op,iI 0,.str []] 64)) (Ye _) (Ol Y.lo (U3 _)) (E.gr ((Ai.refl _).new _)) (w:=.sl (f.nx+1) 0 2 2 3 true) (Sl.lit (h:=((f.new (cz (Aez AiM) 48)).put f.nx (cz (Aez t) 48)).put b (Yg v ((m:Int)+1+1) e o q)) (Bf _) rfl rfl) (by simp) (by simp;omega);exact⟨L,h5,J,s2,s3⟩
 rcases De with rfl|rfl
 .obtain⟨L,h5,J,s2,s3⟩:=s 9;clear s;refine wk ?_;exact zr (Ed _) ⟨s2,s3⟩
 .obtain⟨L,h5,J,s2,s3⟩:=s 10;clear s;refine wk ?_;exact zr (Ed _) ⟨s2,s3⟩
variable {k:Nat}
def B3B(Y:AsK Z){op:Int}{x:AV}{a:Tr}{sg:Bool}{f0:L2}{hd:H}{z:Option (Tr × Nat)}(g:PG b (Yg v (m:Int) e o q) h hd)(hb:b<h.nx)(p:PsR b v l (m:Int) e o q hd)(hx:Oo h.nx hd x a.nodes)(ha:a.nodes.length<=2000)(hm:m<l.length)
 (hc:kAt l (m+1) 4=none\/sg=false\/(op≠9/\op≠10)) (hB:SR (λb h=>Z.call 102 [.ptr b 0] h) k .ex) (hen:Enf l k .ex (m+1)) (h0:0<=o) (hz:z=(sp l k .ex (m+1) o).map λy=>(.two op a y.1,y.2)):
 AiR b (λx:Tr × Nat=>Yg v (x.2:Nat) e o q) h (nd2 h) z (AwM Z N (.ptr b 0) x (.bool sg) (iI op) f0 hd):=by
 rw[BcG];have T:=p.get;have B6:=p.lt;have A82:=p.Mu;have hql:=p.ql;refine wk ?_;have g1:PG b (Yg v ((m+1:Nat):Int) e o q) hd (hd.put b (Yg v ((m+1:Nat):Int) e o q)):=(PG.refl rfl).put _;have M:=p.pg g1 om p.ql;have h1:=Y b v l ((m+1:Nat):Int) e o q (.sl hd.nx 0 1 1 1 true) [4] _ (M.gr ((Ai.refl _).new (cz [iI 4] 3))) (Sl.lit (h:=hd.put b (Yg v ((m+1:Nat):Int) e o q)) (Bf _) rfl rfl) (by simp);rw[A1A]at h1;obtain⟨tk,S⟩:∃tk,(kAt l (m+1) 4).getD AiM=tk:=⟨_,rfl⟩;rw[S]at h1;have wt:∀(w:Bool) (r:OR) (I:H),Ad (.Bj []) w r I=.ok (.Bj []) I:=λw r I=>A0V [] w r I;have G:∀(f O:H) (n2:Nat),PG b (Yg v ((m+1:Nat):Int) e o q) h f->PG b (Yg v ((m+1:Nat):Int) e o q) hd f->Ai f O->AiR b (λx:Tr × Nat=>Yg v (x.2:Nat) e o q) h (nd2 h) z ((mM (Z.call 102 [.ptr b 0]) λQp=>mM (Ds 64 3 32 x Qp) λV=>mM (B7 [iI 0,iI 0,.str []] [(0,1,iI op)]) λRz=>mM (Bh 64 3 1 [iI 0,iI 0,.str []] [(0,3,Rz)]) λVj=>mM (Ds 64 3 32 V Vj) λW=>.ok W) O):=by intro f O _ E B L;have p2:=p.pg B om p.ql;refine AdL (hB b v l (m+1) e o q _ (p2.gr L) hen h0) (λA J h1 hv hf=>Ac6 (by rw[hz,A];rfl) hv (PXt (.of (E.gr L)) hf)) λy J h3 A hp=>?_;obtain⟨t,j⟩:=y;obtain⟨e3,U⟩:=hp;have U:Oo _ h3 J t.nodes:=U;have hs:=Afv l _ _ _ _ _ _ A;simp only[fr1,gn]at hs;have gD:=(E.gr L).trans e3;have gE:=(B.gr L).trans e3;have R:=hx.pg (Tf a) B6 (λst I=>by rw[p.get]at I;cases I) hb gE;obtain⟨v2,h4,r1,r2,r3,r4,r5⟩:=Aw6 gD (Ye _) gD.lo R U.sl (Tf t) om;refine Ey r1 ?_;refine wk ?_;obtain⟨v5,h5,s1,s2,s3,s4,s5⟩:=AoI ⟨op,0,[]⟩ r2 (Ye _) r2.lo r3 (by rw[Yl];omega);refine Ey s1 ?_;exact AdG (x:=(.two op a t,j)) (by rw[hz,A];rfl) ⟨s2,s3⟩
 cases A:kAt l (m+1) 4 with
 |none=>rw[A]at h1;simp only[Option.isSome_none]at h1;refine Fj h1 λJ f s l2 u K=>?_;subst K;have E:PG b (Yg v ((m+1:Nat):Int) e o q) h f:=((g.trans g1).new _).gr s;have B:PG b (Yg v ((m+1:Nat):Int) e o q) hd f:=(g1.new _).gr s;clear u h1 T M g1 s;refine wk ?_;exact G f _ 0 E B Ex
 |some w=>
  rw[A]at h1;simp only[db]at h1;rcases hc with hc|rfl|⟨o9,o10⟩
  .rw[A]at hc;cases hc
  .refine Fj h1 λJ f s l2 u K=>?_;subst K;have E:PG b (Yg v ((m+1:Nat):Int) e o q) h f:=((g.trans g1).new _).gr s;have B:PG b (Yg v ((m+1:Nat):Int) e o q) hd f:=(g1.new _).gr s;clear u h1 T M g1 s;refine wk ?_;exact G f _ 0 E B Ex
  .have k1:decide (op=9)=false:=Yc o9;have k2:decide (op=10)=false:=Yc o10;cases sg;all_goals
    refine Fj h1 λJ f s l2 u K=>?_;subst K;have E:PG b (Yg v ((m+1:Nat):Int) e o q) h f:=((g.trans g1).new _).gr s;have B:PG b (Yg v ((m+1:Nat):Int) e o q) hd f:=(g1.new _).gr s;clear u h1 T M g1 s;refine wk ?_;exact G f _ 0 E B Ex
def cmJ(f:AsK Z){op:Int}{x:AV}{a:Tr}{sg:Bool}{f0:L2}{hd:H}{z:Option (Tr × Nat)}(g:PG b (Yg v (m:Int) e o q) h hd)(s:b<h.nx)(p:PsR b v l (m:Int) e o q hd)(u:Oo h.nx hd x a.nodes)(E:a.nodes.length<=2000)(A:m<l.length)
 (hB:SR (λb h=>Z.call 102 [.ptr b 0] h) k .ex) (hen:Enf l k .ex (m+1)) (h0:0<=o)
 (hz:z=match (if sg=true/\(op=9\/op=10)then kAt l (m+1) 4 else none)with
  |some w=>some (.two op a (.leaf ⟨3,0,w.t⟩),m+2)
  |none=>(sp l k .ex (m+1) o).map λy=>(.two op a y.1,y.2)):
 AiR b (λx:Tr × Nat=>Yg v (x.2:Nat) e o q) h (nd2 h) z (AwM Z N (.ptr b 0) x (.bool sg) (iI op) f0 hd):=by
 by_cases hc:sg=true/\(op=9\/op=10)
 .cases j:kAt l (m+1) 4 with
  |some w=>obtain⟨rfl,B⟩:=hc;rw[Xo ⟨rfl,B⟩,j]at hz;obtain⟨G,k2⟩:=Agu j;obtain⟨I,h1,e1,_,g2,J⟩:=BmF Z N f (f0:=f0) (w:=w.t) B g s p u (Tf a) ⟨w,G,k2,rfl⟩ om;rw[e1];refine AdG hz ⟨g2,?_⟩;show Oo h.nx h1 I (a.nodes++[⟨3,0,w.t⟩]++[⟨op,0,[]⟩]);rw[Wq];exact J
  |none=>rw[Xo hc,j]at hz;exact B3B Z N f g s p u E A (.inl j) hB hen h0 hz
 .rw[X2 hc]at hz;refine B3B Z N f g s p u E A ?_ hB hen h0 hz;cases sg with
  |false=>exact .inr (.inl rfl)
  |true=>exact .inr (.inr ⟨λh=>hc ⟨rfl,.inl h⟩,λh=>hc ⟨rfl,.inr h⟩⟩)
def Boe{j:Nat}(f:(lvF BmG (sgT l j)).2=true):j<l.length:=by
 cases p:kAt l j 5 with
 |some t=>exact AyA p
 |none=>unfold sgT at f;rw[p]at f;cases f
def CcZ(K:AsK Z)(Brk:Bps Z)(U:Bm3 Z)(W:AsQ Z)(hA:SR (λb h=>Z.call 102 [.ptr b 0] h) m .ex):SR (λb h=>mr Z N 106 [.ptr b 0] h) (m+1) .cm:=by
 intro b v l n e o q h p A h0;simp only[];obtain⟨z,Y⟩:∃z,sp l (m+1) .cm n o=z:=⟨_,rfl⟩;rw[BuK,Y];have f:(sp l m .ex n o).bind (λx:Tr × Nat=>
  if(lvF BmG (sgT l x.2)).2=true then
   match (if(kAt l n 1).isSome=true/\x.2=n+1/\((lvF BmG (sgT l x.2)).1=9\/(lvF BmG (sgT l x.2)).1=10)then kAt l (x.2+1) 4 else none)with
   |some w=>some (.two (lvF BmG (sgT l x.2)).1 x.1 (.leaf ⟨3,0,w.t⟩),x.2+2)
   |none=>(sp l m .ex (x.2+1) o).map λy=>(.two (lvF BmG (sgT l x.2)).1 x.1 y.1,y.2)
  else none)=z:=Y
 clear Y;have hg:=p.get;have B6:=p.lt;have A82:=p.Mu;have hql:=p.ql;refine wk ?_;refine AdL (hA b v l n e o q h p (by unfold Enf at A ⊢;simp only[rk]at A ⊢;omega) h0) (λu V h1 hv hf=>Ac6 (by rw[<- f,u];rfl) hv hf) λx V S u hp=>?_;obtain⟨t,j⟩:=x;obtain⟨e2,q2⟩:=hp;have q2:Oo h.nx S V t.nodes:=q2;have hs:=Afv l _ _ _ _ _ _ u;simp only[fr1,gn]at hs;rw[u]at f;simp only[Yr]at f;have M:PsR b v l (j:Nat) e o q S:=p.pg e2 om p.ql;have Wg:=M.get;have BeC:=M.lt;clear hg;refine Fj (Brk b v l _ e o q n 1 S M) λv3 O e3 l3 J q3=>?_;subst q3;have hb3:O.m.get b=Yg v (j:Nat) e o q:=(J b BeC).trans Wg;have p3:=M.gr e3;have R:=q2.gr e3;have g3:=e2.gr e3;have wt:∀(w:Bool) (r:OR) (s:H),Ad (.Bj []) w r s=.ok (.Bj []) s:=λw r s=>A0V [] w r s;have h1:=λs pp w1 w2=>K b v l (j:Nat) e o q (.sl (O.nx+1) 0 1 1 1 true) [5] s pp w1 w2;simp only[A1A]at h1 ⊢;obtain⟨tk,B⟩:∃tk,(kAt l j 5).getD AiM=tk:=⟨_,rfl⟩;have Vt:sgT l j=tk.t:=by unfold sgT;rw[B]
 rw[B]at h1;rw[Vt]at f;have mf:=Atb tk.t BmG;have E:(lvF BmG tk.t).2=true->j<l.length:=λs=>Boe (l:=l) (by rw[Vt];exact s);clear J Vt B;obtain⟨pf,I⟩:∃pf,(kAt l j 5).isSome=pf:=⟨_,rfl⟩;rw[I]at h1;clear I;have z1:=ms1;have z2:=ms2;have z3:=ms3;have z4:=ms4;have z5:=ms5;have z6:=ms6;generalize De:lvF BmG tk.t=oq at mf f E;obtain⟨op,fd⟩:=oq;simp only[]at f E;generalize kAt l n 1=po at f;have T:∀(x:AV) (sg:Bool) (s:H) (f0:L2),fd=true->(sg=true ↔ po.isSome=true/\j=n+1)->Ai O s->x=V->AiR b (λx:Tr × Nat=>Yg v (x.2:Nat) e o q) h (nd2 h) z (AwM Z N (.ptr b 0) x (.bool sg) (iI op) f0 s):=by intro x sg s f0 L hsg gg hxv;subst hxv;have hj:=E L;refine cmJ Z N K (g3.gr gg) p.lt (p3.gr gg) (R.gr gg) om hj hA (by unfold Enf at A ⊢;simp only[rk]at A ⊢;omega) h0 ?_;rw[<- f,Xo L];simp only[hsg,and_assoc]
 cases po;all_goals
  refine wk ?_;refine Fj (h1 _ (p3.gr Ex) (Sl.lit (Bf _) rfl rfl) (by simp)) λv4 h4 e4 l4 A9W q4=>?_;subst q4;simp only[C9]at l4;have G:Ai O h4:=Ai.trans Ex e4;have p4:=p3.gr G;clear A9W e4;cases fd
  .refine wk ?_;refine Fj (U b v l (j:Nat) e o q _ (p4.gr Ex)) λv5 h5 e5 l5 Az4 q5=>?_;obtain⟨a,rfl⟩:=q5;exact AmT Z W (by rw[<- f];rfl) fe λh6 e6=>(PX.of g3).gr (G.trans Ex)
  .refine wk ?_;refine T _ _ _ _ rfl ?_ (G.trans Ex) rfl;first|(simp;done)|(simp;omega)
variable {hc:H}
def Bnp{v w:AV}{l m:List Nd}{lo:Nat}(u:lo<=hc.nx)(s:Oo lo hc v l)(j:Ue hc w m)(B:m≠[])(L:l.length+m.length<=8000):
 ∃v' h',Ds 64 3 32 v w hc=.ok v' h'/\(∀h0:H,h0.nx<=lo->Ai h0 hc->Ai h0 h')/\Oo lo h' v' (l++m)/\Bi hc h'/\(∀c,c<lo->h'.m.get c=hc.m.get c):=by
 have A:0<m.length:=Kd.2 B;rcases s with s|⟨M,off,cs,rfl,G,J,I,K⟩
 .obtain⟨v',h',p,f,p3,y,x⟩:=Fm.AbQ (bytes:=32) (lo:=lo) s j.src j.Rv om (Ab9 m) u;refine⟨v',h',p,p3,.inl ?_,f,x⟩;rw[NdO,Yl,V5];exact y
 .obtain⟨v',h',p,f,p3⟩:=Ahy (bytes:=32) (et:=64) (lo:=lo) G J I j.src j.Rv om (Ab9 m) A u;refine⟨v',h',p,λh0 _ E=>E.trans f,.inl ?_,f.keeps,λc hc=>f.Cf c om⟩;rw[NdO,Yl,V5];exact p3
def PsR.AnO{i:Int}{w:AV}(p:PsR b v l i e o q h)(hn:c≠b)(x:c<h.nx)(s:h.m.get c=AeK 23 w)(u:∀b' off n cap z ex,v=.sl b' off n cap z ex->b'≠c)(Y:AO):PsR b v l i e o q (h.put c Y):=by have j:PG c Y h (h.put c Y):=(PG.refl rfl).put _;exact⟨(j.Cf b p.lt (λf=>hn f.symm)).trans p.get,p.lt,Sl.pg p.AsD x (λst f=>by rw[s]at f;cases f) u j,p.av,p.one,p.i0,p.Mu,p.ql⟩
def PsR.reL{i:Int}(p:PsR b v l i e o q h)(L:uq):PsR b v l i e o q (Be L h):=⟨p.get,p.lt,p.AsD.By ((Bi.refl h).Be L),p.av,p.one,p.i0,p.Mu,p.ql⟩
def AsJ.AnO(k:AsJ b pb c v h)(w:AV):AsJ b pb c v (h.put c (AeK 23 w)):=
 ⟨(Aq _ _ _ k.npc).trans k.p,⟨w,A2 _ _⟩,k.pl,k.cl,k.np,k.nc,k.npc,k.av⟩
def PsR.kp{i:Int}(p:PsR b v l i e o q h)(g:Bi h h1)(f:h1.m.get b=h.m.get b):PsR b v l i e o q h1:=⟨f.trans p.get,Xq p.lt g.lo,p.AsD.By g,p.av,p.one,p.i0,p.Mu,p.ql⟩
def PG2.reL{X X' Y j:AO}{s:H}{L:uq}(e1:PG2 b X c Y h s)(w:PG2 b X' c j h h1)(u:∀z∈L,z∈s.lg\/z=b\/z=c\/h.nx<=z):PG2 b X' c j h (Be L h1):=by
 have f:Ai ((h.put b X').put c j) h1:=w;refine⟨f.lo,f.Cf,λz x=>?_⟩;rcases u z x with p|rfl|rfl|p
 .exact Ai.lg (show Ai ((h.put b X).put c Y) s from e1) z p
 .exact .inl (Vo _ (Wm ..))
 .exact .inl (Wm ..)
 .exact .inr p
def PG2.Bwz{X Y f:AO}(g:PG2 b X c Y h h1):PG2 b X c f h (h1.put c f):=PG.put g f
end Go.Proofs
namespace Go.Proofs
open Go Go.Ev Go.Nm Tryz Go.Ev.Sx
variable {α:Type}{P:α->AV->H->Prop}{F:H->Prop}{z1:Option α}{r:OR}{kk:AV->H->OR}
def BsL{Φ:OR->Prop}{lg:uq}(j:AdO P F z1 r)(p:z1=none->∀v h1,Aoj v->F h1->Φ (.Hb v (Be (Akm h1.lg lg) h1)))(s:∀x v h1,z1=some x->P x v h1->Φ (kk v h1)):Φ (Aa (Aw8 lg r) kk):=by
 cases z1 with
 |some x=>obtain⟨v,h1,rfl,f⟩:=j;exact s x v h1 rfl f
 |none=>obtain⟨v,h1,rfl,f,u⟩:=j;exact p rfl v h1 f u
attribute [local irreducible] Aa Al Af Ad
variable (Z cx:Ac)(N:Nat)
variable {b pb c:Nat}{v:AV}{l:List Tok}{e o:Int}{q:uw}{h h1 h5 hc:H}{n m k:Nat}
def PX2.Aw8{X Y:AO}(g:PG2 b X c Y h h5)(hn:b≠c)(p:PX b (Ab h5) h1):PX2 b c h (Be (Akm h1.lg h5.lg) h1):=by
 obtain⟨X',g1⟩:=p;have g1:Ai ((Ab h5).put b X') h1:=g1;have g2:Ai ((h.put b X').put c Y) (h5.put b X'):=g.To hn X';have s:Ai ((h.put b X).put c Y) h5:=g;refine⟨X',Y,⟨Ol g2.lo g1.lo,λx j=>(g1.Cf x (Xq j g2.lo)).trans (g2.Cf x j),λx j=>?_⟩⟩;have j:x∈Akm h1.lg h5.lg:=j;rw[Sx.AfT]at j;rcases W7.1 j with j|j
 .rcases g1.lg x j with f|f
  .rcases Tu.1 f with rfl|f
   .exact .inl (Vo _ (Wm ..))
   .cases f
  .exact .inr (Ol g2.lo f)
 .rcases s.lg x j with f|f
  .rcases Tu.1 f with rfl|f
   .exact .inl (Wm ..)
   .rcases Tu.1 f with rfl|f
    .exact .inl (Vo _ (Wm ..))
    .exact .inl (Vo _ (Vo _ f))
  .exact .inr f
def BiX{s:uq}{w:AV}{ns:List Nd}{hd:H}{kk:H->OR}{z:Option α}(Aff:AsR Z)(hA:SR (λb h=>Z.call 102 [.ptr b 0] h) k .ex)
 (g:PG2 b (Yg v (n:Int) e o q) c (AeK 23 w) h hd) (hb:b<h.nx) (Ox:c<h.nx) (Z1:pb<h.nx) (K:AsJ b pb c v hd) (p:PsR b v l (n:Int) e o q hd) (G:Oo h.nx hd w ns) (hn:ns≠[])
 (hen:Enf l k .ex (n+1)) (h0:0<=o) (hz:ns.length<=4000)
 (bad:((Aax l n s).bind λi=>sp l k .ex i o)=none->z=none)
 (next:∀h' w' t j,Aax l n s=some (n+1)->sp l k .ex (n+1) o=some (t,j)->PG2 b (Yg v (j:Nat) e o q) c (AeK 23 w') h h'->AsJ b pb c v h'->PsR b v l (j:Nat) e o q h'->Oo h.nx h' w' (ns++t.nodes)->AdO P (λh1=>PX2 b c h h1) z (kk h')):
 AdO P (λh1=>PX2 b c h h1) z (Aa (Ae (some none) (.ptr pb 0) hd) λv4 h4=>Aa (Z.call 38 [v4,.str s] h4) λv5 h5=>Aa (Ae (some none) (.ptr c 0) (Ab h5)) λv6 h6=>Aa (Ae (some none) (.ptr pb 0) (Ab h6)) λv7 h7=>Aa (Aw8 h5.lg (Z.call 102 [v7] (Ab h7))) λv8 u=>Aa (Ds 64 3 32 v6 v8 (Ab u)) λU E=>Aa (A4 1 (.ptr c 0) U (Ab E)) λv10 Fh=>
  Ff h5.lg [eW 16 15 .all E Fh,eW 8 7 .all u E,eW 4 2 .all h7 u,eW 2 0 (Bn (some none) (.ptr pb 0)) h6 h7,eW 1 0 (Bn (some none) (.ptr c 0)) h5 h6] Fh kk):=by
 have kp:=K.p;have B:=K.nc;have I:b≠c:=λS=>B S.symm;have gC:=g.BaK Ox;have A82:=p.Mu;refine wk ?_;refine AdL (Aff b v l n e o q s hd p) (λf v1 h1 hv hf=>Ac6 (bad (by rw[f];rfl)) hv (.put g I hf)) λi1 v5 h5 f hp=>?_;obtain⟨M,rfl⟩:=hp;obtain rfl:i1=n+1:=by
  unfold Aax at f;split at f
  .cases f;rfl
  .cases f
 have M:PG b (Yg v ((n+1:Nat):Int) e o q) hd h5:=M;have K5:=K.pg M;have W:PsR b v l ((n+1:Nat):Int) e o q h5:=p.pg M om p.ql;have kp5:=K5.p;have kc5:=(M.Cf c K.cl B).trans gC;have x5:=G.pg hn p.lt (λst S=>by rw[p.get]at S;cases S) hb M;have g5:=g.trP I M;obtain⟨o1,o2⟩:=G.one;clear kp gC;refine wk ?_;refine BsL (hA b v l (n+1) e o q _ (W.gr (Ai.refl h5).nl) hen h0) (λJ v1 h1 hv hf=>Ac6 (bad (by rw[f];exact J)) hv (.Aw8 g5 I hf)) λy v8 u J hp=>?_;obtain⟨t,j⟩:=y;obtain⟨V,q8⟩:=hp;have q8:Oo h5.nx u v8 t.nodes:=q8;have hs:=Afv l _ _ _ _ _ _ J;simp only[fr1,gn]at hs;have A:=(show AsJ b pb c v (Ab h5)from⟨K5.p,K5.w,K5.pl,K5.cl,K5.np,K5.nc,K5.npc,K5.av⟩).pg V
 have p8:PsR b v l (j:Nat) e o q u:=(W.gr (Ai.refl h5).nl).pg V om p.ql;have kc8:u.m.get c=AeK 23 w:=(V.Cf c K5.cl B).trans kc5;have x8:=(x5.gr (Ai.refl h5).nl).pg hn W.lt (λst S=>by have:=W.get;rw[show(Ab h5).m.get b=h5.m.get b from rfl,this]at S;cases S) hb V
 have g8:PG2 b (Yg v (j:Nat) e o q) c (AeK 23 w) h u:=(g5.gr (Ai.refl h5).nl).trP I V;obtain⟨U,E,r1,r2,r3,r4,r5⟩:=Bnp (hc:=Ab u) g8.lo (x8.gr (Ai.refl u).nl) (q8.sl.gr (Ai.refl u).nl) (Tf t) om;refine Ey r1 ?_;have g9:PG2 b (Yg v (j:Nat) e o q) c (AeK 23 w) h E:=r2 _ (Ye _) (g8.gr (Ai.refl u).nl);have w9:=r2 ⟨u.m,h.nx,[]⟩ (Ye _) ⟨g8.lo,λ_ _=>rfl,λx G=>by cases G⟩;have g98:Ai ⟨u.m,h.nx,[]⟩ E:=w9;have R:E.m.get c=AeK 23 w:=(r5 c Ox).trans kc8;obtain⟨o3,o4⟩:=r3.one;have T:c<E.nx:=Xq A.cl r4.lo;clear kc5 r1;refine wk ?_;refine Acx (Φ:=AdO P (λh1=>PX2 b c h h1) z) b c h.nx ?_ λL hL=>?_
 .have w8:∀x∈wrote h5.nx u.lg,x=b:=PG.wrote (h:=h5) V;have w9':∀x∈wrote u.nx E.lg,x=b\/x=c\/h.nx<=x:=λx G=>by
   rcases g98.lg x (D4 _ _ _ G).1 with h3|h3
   .cases h3
   .exact .inr (.inr h3)
  have cl5:B5 (h5.m.get c)=none:=by rw[(M.Cf c K.cl B).trans (g.BaK Ox)];rfl
  simp only[Tl,Ww,Ju,G4,Jj];refine⟨.inr ⟨λx G=>?_,?_⟩,.inr ⟨w9',?_⟩,.inr ⟨λx G=>.inl (w8 x G),?_⟩,.inl rfl,.inl rfl⟩
  .have hz:=(D4 _ _ _ G).1;simp at hz;exact .inr (.inl hz)
  all_goals
   repeat' (refine And.intro ?_ ?_)
  all_goals first|exact Ar ..|(refine Ax _ _ _ _ _ _ _ _ _ _ _ _ ?_;decide)|exact Dk (tk:=b) w8 W.lt (.inr ⟨c,_,_,rfl,B,cl5⟩)
 .have gY:PG2 b (Yg v (j:Nat) e o q) c (AeK 23 U) h ((Ab E).put c (AeK 23 U)):=PG2.Bwz (g9.gr (Ai.refl E).nl);have Y:AsJ b pb c v E:=⟨(r5 pb Z1).trans A.p,⟨w,R⟩,Xq A.pl r4.lo,T,A.np,A.nc,A.npc,A.av⟩;have p9:PsR b v l (j:Nat) e o q E:=(p8.gr (Ai.refl u).nl).kp r4 (r5 b hb);have O:=Y.AnO U;exact next _ U t j f J (PG2.reL g5 gY hL) ⟨O.p,O.w,O.pl,O.cl,O.np,O.nc,O.npc,O.av⟩ ((p9.AnO B T R Y.av _).reL L) ((r3.AnO (w:=w) (by simp[hn]) Ox T ⟨_,R⟩ _).rl (lg:=L))
def ifO(l:List Tok)(m n:Nat)(o:Int):Option (Tr × Nat):=(fo l uf (sp l m .cd n o)).bind λx=>(fo l ug (sp l m .ex x.2 o)).bind λy=>(sp l m .ex y.2 o).map λw=>(.three x.1 y.1 w.1,w.2)
def Bro(l:List Tok)(s:uq)(t:Tr)(j:Nat):fo l s (some (t,j))=(Aax l j s).map λp=>(t,p):=by
 show(if AfM l (j:Nat) s=true then some (t,j+1)else none)=((if AfM l (j:Nat) s=true then some (j+1)else none:Option Nat)).map λp=>(t,p);by_cases f:AfM l (j:Nat) s=true
 .rw[Xo f,Xo f];rfl
 .rw[X2 f,X2 f];rfl
def BjA{s:uq}{i:Nat}(h:Aax l n s=some i):n<l.length:=by
 unfold Aax at h;by_cases f:AfM l (n:Nat) s=true
 .exact Abl f
 .rw[X2 f]at h;cases h
def BnY(I:AsR Z)(hC:SR (λb h=>Z.call 43 [.ptr b 0] h) m .cd)(hA:SR (λb h=>Z.call 102 [.ptr b 0] h) m .ex):
 AsS (λpb c h=>Ay prog Z N false 140 [.ptr pb 0,.ptr c 0] h) (λt=>t.nodes.dropLast) (λl n o=>ifO l m n o) (λl n=>Enf l m .cd n):=λb pb c v l n e o q h p K A h0=>by
 simp only[];obtain⟨z,f⟩:∃z,ifO l m n o=z:=⟨_,rfl⟩;rw[BzL,f];unfold ifO at f;have kp:=K.p;obtain⟨w0,kw⟩:=K.w;have G:=K.pl;have B:=K.cl;have knc:=K.nc;have A82:=p.Mu;refine wk ?_;refine AdL (hC b v l n e o q h p A h0) (λy T h1 hv hf=>Ac6 (by rw[<- f,y];rfl) hv (.of hf)) λx T h3 y hp=>?_;obtain⟨O,j⟩:=x;obtain⟨e3,R⟩:=hp;have R:Oo h.nx h3 T O.nodes:=R;have W:=Afv l _ _ _ _ _ _ y;simp only[fr1,gn]at W;have K3:=K.pg e3;have p3:PsR b v l (j:Nat) e o q h3:=p.pg e3 om p.ql;obtain⟨w3,E⟩:=K3.w;obtain⟨o2,o3⟩:=R.one;have M:=K3.cl;unfold Enf at A;simp only[rk]at A;rw[y,Bro]at f;clear kw kp;refine wk ?_;refine BiX Z (n:=j) (s:=uf) I hA (PG2.of e3 _) p.lt B G (K3.AnO T) (p3.AnO knc M E K.av _) (R.AnO (w:=w3) (Tf O) B M ⟨_,E⟩ _) (Tf O) (by unfold Enf;simp only[rk];omega) h0 om (λu=>?_) λh4 w4 ta j2 L J g4 K4 p4 x4=>?_
 .rw[<- f];cases Y:Aax l j uf with
  |none=>rfl
  |some i=>rw[Y]at u;have u:sp l m .ex i o=none:=u;simp only[dy,Yr,u];rfl
 have P4:=BjA L;have S:=Afv l _ _ _ _ _ _ J;simp only[fr1,gn]at S;rw[L]at f;simp only[dy,Yr,J,Bro]at f;refine BiX Z (n:=j2) (s:=ug) I hA g4 p.lt B G K4 p4 x4 (by simp[Tf]) (by unfold Enf;simp only[rk];omega) h0 (by rw[Yl];omega) (λu=>?_) λh5 w5 tb j3 U V g5 K5 p5 x5=>?_
 .rw[<- f];cases Y:Aax l j2 ug with
  |none=>rfl
  |some i=>rw[Y]at u;have u:sp l m .ex i o=none:=u;simp only[dy,Yr,u];rfl
 rw[U]at f;simp only[dy,Yr,V]at f;refine AdG f.symm ⟨w5,g5,?_⟩;show Oo h.nx h5 w5 (O.nodes++ta.nodes++tb.nodes++[(⟨8,0,[]⟩:Nd)]).dropLast;rw[Rh];exact x5
def A5W{o:Int}{x:Tr × Nat}(h:ifO l m n o=some x):∃y s tb,x.1=.three y s tb:=by
 unfold ifO at h;cases j:fo l uf (sp l m .cd n o)with
 |none=>rw[j]at h;cases h
 |some u=>
  rw[j]at h;simp only[Yr]at h;cases f:fo l ug (sp l m .ex u.2 o)with
  |none=>rw[f]at h;cases h
  |some w=>
   rw[f]at h;simp only[Yr]at h;cases p:sp l m .ex w.2 o with
   |none=>rw[p]at h;cases h
   |some A=>rw[p]at h;cases h;exact⟨_,_,_,rfl⟩
def Bwi(S:Av6 Z)(A56:A6V Z cx)(R:AsS (λpb c h=>cx.call 140 [.ptr pb 0,.ptr c 0] h) (λt=>t.nodes.dropLast) (λl n o=>ifO l m n o) (λl n=>Enf l m .cd n))(p:PsR b v l n e o q h)(G:Enf l (m+1) .ex n)(h0:0<=o)(L:AfM l (n:Nat) [105,102]=true):
 AiR b (λx:Tr × Nat=>Yg v (x.2:Nat) e o q) h (nd2 h) (sp l (m+1) .ex n o) (mr Z N 102 [.ptr b 0] h):=by
 have hz:sp l (m+1) .ex n o=ow o (ifO l m (n+1) (o+1)):=by show(if AfM l (n:Nat) [105,102]=true then _ else _)=_;rw[Xo L];rfl
 have E:∀x,ow o (ifO l m (n+1) (o+1))=some x->x.1.nodes.length<=2000:=λx y=>by obtain⟨t,j⟩:=x;have:=Afv l _ _ _ _ _ _ (hz.trans y);simp only[fr1,gn]at this;have O:=p.Mu;show t.nodes.length<=2000;omega
 rw[BuJ,hz];have zb:=@AiE;have O:=p.Mu;have hnl:=Abl L;have U:Ai h ((h.new (cz [.ptr b 0] 44)).new (AeK 23 .Bv)):=((Ai.refl h).new _).new _;refine wk ?_;have h1:=S b v l n e o q [105,102] _ (p.gr U);rw[L]at h1;refine Fj h1 λv1 A V l2 Aae q2=>?_;subst q2;have K:=AgJ p V;have kp:=K.p;have p2:=p.gr (U.trans V);have B:PG b (Yg v (n:Nat) e o q) h A:=(PG.refl p.get).gr (U.trans V);simp only[C9]at l2;have B6:=p.lt;clear h1 Aae;refine wk ?_;refine AdL (A56 b (h.nx+1) v l n e o q A [105,102] (.fn (.func 140) [] [.ptr h.nx 0,.ptr (h.nx+1) 0]) (λt=>t.nodes.dropLast) (ifO l m (n+1) (o+1)) (λx y=>?_) p2 K.nc K.cl K.w L h0 λh3 g3=>?_) (λu v1 h1 hv hf=>Ac6 u hv (PX2.own (.of B) hf om)) λx v3 T u hp=>?_
 .obtain⟨f,s,tb,y⟩:=A5W y;rw[y];show(f.nodes++s.nodes++tb.nodes++[(⟨8,0,[]⟩:Nd)]).dropLast≠[];rw[Rh];simp[Tf]
 .rw[BuB];exact R b h.nx (h.nx+1) v l (n+1) e (o+1) q h3 (p2.pg g3 om p.ql) (K.pg g3) (by unfold Enf at G ⊢;simp only[rk]at G ⊢;omega) om
 have I:=E x u;obtain⟨f,s,tb,y⟩:=A5W (Ag2 u).1;obtain⟨t,j⟩:=x;have y:t=.three f s tb:=y;subst y;obtain⟨w,M,J⟩:=hp;have Y:(Tr.three f s tb).nodes=(f.nodes++s.nodes++tb.nodes)++[⟨8,0,[]⟩]:=rfl;have J:Oo A.nx T w (f.nodes++s.nodes++tb.nodes):=by have q5:Oo A.nx T w ((f.nodes++s.nodes++tb.nodes)++[(⟨8,0,[]⟩:Nd)]).dropLast:=J;rw[Rh]at q5;exact q5
 have I:(f.nodes++s.nodes++tb.nodes).length+1<=2000:=by have:((f.nodes++s.nodes++tb.nodes)++[(⟨8,0,[]⟩:Nd)]).length<=2000:=I;rw[Yl]at this;exact this
 have Hr:f.nodes++s.nodes++tb.nodes≠[]:=by simp[Tf]
 generalize f.nodes++s.nodes++tb.nodes=ns at *
 have kc:=M.BaK K.cl;have gX:PG b (Yg v (j:Nat) e o q) h T:=PG2.own (PX.of B) M om;have W:=Xq K.cl M.lo;obtain⟨o1,o2⟩:=J.one;clear kp;refine wk ?_;obtain⟨v5,h5,s1,s2,s3,s4,s5⟩:=AoI ⟨8,0,[]⟩ gX (show h.nx<=A.nx by omega) M.lo J om
 refine Ey s1 ?_;have kc5:=(s5 (h.nx+1) K.cl).trans kc;obtain⟨o3,o4⟩:=s3.one;clear kc s1 s5;refine wk ?_;rw[AkG (A2 _ _)];refine AdG u ⟨?_,?_⟩
 .exact s2.Aiq _ _ om
 .show Oo h.nx _ _ (Tr.three f s tb).nodes;rw[Y];exact(s3.AnO (w:=.Bv) (by simp) K.cl (Xq W s4) ⟨_,kc5⟩ _).Y5 om
def CcX(f:Av6 Z)(u:Bpn Z)(y:SC (λbb b h=>Z.call 75 [.ptr b 0,lvS bb 0,fnO b false] h) m false 0)(w:A6V Z cx)(s:AsS (λpb c h=>cx.call 140 [.ptr pb 0,.ptr c 0] h) (λt=>t.nodes.dropLast) (λl n o=>ifO l m n o) (λl n=>Enf l m .cd n)):
 SR (λb h=>mr Z N 102 [.ptr b 0] h) (m+1) .ex:=by
 intro b v l n e o q h p j h0;cases x:AfM l (n:Nat) [105,102]with
 |true=>exact Bwi Z cx N f w s p j h0 x
 |false=>exact B3H Z N f u y p j h0 x
def PaL:uq:=(List.range 256).filter λg=>!(g == 26||g == 86||g == 232||g == 234||g == 237||g == 239)
def PaN:List (Nat × Bool):=[(15,true),(38,true),(72,true),(39,true),(46,true),(71,true),(41,true),(103,true),(139,true),(76,true),(106,true),(102,true),(43,true),(75,true),(167,true),(104,true),(168,true),(105,true),(140,false),(28,true),(29,true),(30,true),(31,true),(32,true),(33,true),(34,true),(35,true),(36,true),(37,false),(69,true),(70,true),(42,true),(17,true),(18,false)]
abbrev N0x:Nat:=1048576
structure Abu(C:Nat->Ac):Prop where
 ok:∀g∈PaL,∀(d:Nat) (q:Bool) (args:List AV) (h:H) (v:AV) (h1:H),Ay prog (C d) N0x q g args h=.ok v h1->(C (d+1)).call g args h=.ok v h1
 Hb:∀g q,(g,q)∈PaN->∀(d:Nat) (args:List AV) (h:H) (v:AV) (h1:H),Ay prog (C d) N0x q g args h=.Hb v h1->(C (d+1)).call g args h=.Hb v h1
variable {C:Nat->Ac}{d D:Nat}{g:Nat}{q:Bool}{args:uw}{h0:H}{Q:AV->H->Prop}{X:AO}
def Gp(U:Abu C)(j:Ah h0 Q (Ay prog (C d) N0x q g args h))(s:g∈PaL:=by decide):Ah h0 Q ((C (d+1)).call g args h):=by obtain⟨v,h1,f,p⟩:=j;exact⟨v,h1,U.ok g s d q args h v h1 f,p⟩
def upP(U:Abu C)(j:AjT b X h Q (Ay prog (C d) N0x q g args h))(f:g∈PaL:=by decide):AjT b X h Q ((C (d+1)).call g args h):=Gp U j f
def upN(U:Abu C){R:AV->H->Prop}(j:A3Y h0 R (Ay prog (C d) N0x q g args h))(s:(g,q)∈PaN:=by decide):A3Y h0 R ((C (d+1)).call g args h):=by obtain⟨v,h1,f,p⟩:=j;exact⟨v,h1,U.Hb g q s d args h v h1 f,p⟩
def upE(U:Abu C){α:Type}{P:α->AV->H->Prop}{F:H->Prop}{z:Option α}(p:AdO P F z (Ay prog (C d) N0x q g args h))(s:g∈PaL/\(g,q)∈PaN:=by decide):AdO P F z ((C (d+1)).call g args h):=by
 cases z with
 |some x=>obtain⟨v,h1,f,j⟩:=p;exact⟨v,h1,U.ok g s.1 d q args h v h1 f,j⟩
 |none=>obtain⟨v,h1,f,j⟩:=p;exact⟨v,h1,U.Hb g q s.2 d args h v h1 f,j⟩
def Wr{k:Nat}(h:k+1<=D):∃e,D=e+1/\k<=e:=⟨D-1,by omega,by omega⟩
def A5X(U:Abu C)(hd:1<=D):AsK (C D):=by obtain⟨e,rfl,s⟩:=Wr hd;exact λb v l i u o q w x h p f j=>Gp U (B2x _ _ fe p f j)
def A57(U:Abu C)(hd:1<=D):AsQ (C D):=by obtain⟨e,rfl,f⟩:=Wr hd;exact λj a h f=>upN U (CbE _ _ f)
def Bnv(U:Abu C)(hd:1<=D):Bm3 (C D):=by obtain⟨e,rfl,f⟩:=Wr hd;exact λb v l i j o q h p=>Gp U (B2z _ _ p)
def Azd(U:Abu C)(hd:2<=D):Av6 (C D):=by obtain⟨e,rfl,f⟩:=Wr hd;exact λb v l i j o q s h p=>Gp U (B3e _ _ (A5X U f) s p)
def BdX(U:Abu C)(hd:3<=D):AlT (C D):=by obtain⟨e,rfl,f⟩:=Wr hd;exact λb v l i u o q s h p j=>Gp U (Bw1 _ _ (Azd U f) p j)
def A8D(U:Abu C)(hd:3<=D):Al5 (C D):=by obtain⟨e,rfl,f⟩:=Wr hd;exact λb v l i u o q s h p j=>upP U (Bw2 _ _ (Azd U f) p j)
def A8A(U:Abu C)(hd:4<=D):AmR (C D):=by obtain⟨e,rfl,f⟩:=Wr hd;exact λb v l i u o q s h p j=>upP U (B2N _ _ (A8D U f) p j)
def A8T(U:Abu C)(hd:4<=D):AsR (C D):=by obtain⟨e,rfl,f⟩:=Wr hd;exact λb v l i j o q s h p=>upE U (CcC _ _ (BdX U f) (A8D U f) (Bnv U om) (A57 U om) p)
def B5s(U:Abu C)(hd:2<=D):BsZ (C D):=by obtain⟨e,rfl,f⟩:=Wr hd;exact λb v l i j o q k h p=>upE U (CcP _ _ (A5X U f) (Bnv U f) (A57 U f) p)
def BnF(U:Abu C)(hd:3<=D):Ba0 (C D):=by obtain⟨e,rfl,f⟩:=Wr hd;exact λb v l i j o q h p=>upE U (CcD _ _ (B5s U f) p)
def BnG(U:Abu C)(hd:3<=D):BfN (C D):=by obtain⟨e,rfl,f⟩:=Wr hd;exact λb v l i j o q h p=>upE U (CcG _ _ (B5s U f) p)
def BxE(U:Abu C)(hd:4<=D):BfO (C D):=by obtain⟨e,rfl,f⟩:=Wr hd;exact λb v l i s o q h p j=>upE U (CcO _ _ (BdX U f) (A8D U f) (BnG U f) p j)
def B5p(U:Abu C)(hd:4<=D):BcQ (C D):=by obtain⟨e,rfl,f⟩:=Wr hd;exact λb v l i j o q h p=>upE U (CcE _ _ (Bnv U om) (BnG U f) (A57 U om) p)
def Bwv(U:Abu C)(hd:1<=D):Bpn (C D):=by obtain⟨e,rfl,f⟩:=Wr hd;exact λh=>Gp U (B3f _ _)
def Bww(U:Abu C)(hd:1<=D):Bps (C D):=by obtain⟨e,rfl,f⟩:=Wr hd;exact λb v l i s o q j k h p=>Gp U (B3q _ _ p)
def BxF(U:Abu C)(hd:5<=D):A6V (C (D+1)) (C D):=
 λb c v l n e o q h s f ns z hn p hc u x w h0 j=>upE U (CcY _ _ (A8A U om) (Bnv U om) (A57 U om) hn p hc u w h0 j)
def upR(U:Abu C){s:NS}(u:SR (λb h=>Ay prog (C d) N0x q g [.ptr b 0] h) m s)(j:g∈PaL/\(g,q)∈PaN:=by decide):SR (λb h=>(C (d+1)).call g [.ptr b 0] h) m s:=
 λb v l n e o q h p f h0=>upE U (u b v l n e o q h p f h0) j
def upC(U:Abu C){c:Bool}{k:Nat}(s:SC (λbb b h=>mr (C d) N0x 75 [.ptr b 0,lvS bb k,fnO b c] h) m c k):SC (λbb b h=>(C (d+1)).call 75 [.ptr b 0,lvS bb k,fnO b c] h) m c k:=
 λbb r0 r1 b v l n e o q h L n1 j u p f h0=>upE U (s bb r0 r1 b v l n e o q h L n1 j u p f h0)
def upL(U:Abu C){ns:Tr->List Nd}{z:List Tok->Nat->Int->Option (Tr × Nat)}{st:List Tok->Nat->Prop}(j:AsS (λpb c h=>Ay prog (C d) N0x q g [.ptr pb 0,.ptr c 0] h) ns z st)(s:g∈PaL/\(g,q)∈PaN:=by decide):AsS (λpb c h=>(C (d+1)).call g [.ptr pb 0,.ptr c 0] h) ns z st:=
 λb pb c v l n e o q h p K f h0=>upE U (j b pb c v l n e o q h p K f h0) s
structure B0e(C:Nat->Ac)(m D:Nat):Prop where
 un:SR (λb h=>(C D).call 139 [.ptr b 0] h) m .un
 ng:SR (λb h=>(C D).call 76 [.ptr b 0] h) m .ng
 cm:SR (λb h=>(C D).call 106 [.ptr b 0] h) m .cm
 ex:SR (λb h=>(C D).call 102 [.ptr b 0] h) m .ex
 cd:SR (λb h=>(C D).call 43 [.ptr b 0] h) m .cd
 ch:∀c k,k<=2->SC (λbb b h=>(C D).call 75 [.ptr b 0,lvS bb k,fnO b c] h) m c k
def Axn{run:Nat->H->OR}{s:NS}:SR run 0 s:=λb v l n e o q h p f=>absurd f (dx _)
def Bqz(U:Abu C):∀m D,3*m+12<=D->B0e C m D:=by
 intro m;induction m using Nat.strongRecOn with
 |_ m w=>
  intro D G;rcases m with _|m
  .exact⟨Axn,Axn,Axn,Axn,Axn,λc k u=>λbb r0 r1 b v l n e o q h L n1 B E p y=>absurd y (dx _)⟩
  obtain⟨D,rfl⟩:∃e,D=e+3:=⟨D-3,by omega⟩;have j:=w m (Up _) D om;have s:=w m (Up _) (D+2) om;have A:∀f,f<m+1->B0e C f (D+2):=λf h'=>w f h' (D+2) om;have x:∀c k,k<2->(∀f,f<m+1->SC (λbb b h=>(C (D+2)).call 75 [.ptr b 0,lvS bb (k+1),fnO b c] h) f c (k+1)):=λc k u f h'=>(A f h').ch c (k+1) om;refine⟨?_,?_,?_,?_,?_,?_⟩
  .exact upR U (Cdf (C (D+2)) (C (D+1)) _ (Azd U om) (A5X U om) (BnF U om) (BxF U om) (upL U (BnZ _ _ j.un)) (upL U (Boa _ _ (A8T U om) j.ex)))
  .exact upR U (CcR (C (D+2)) (C (D+1)) _ (Azd U om) (BxF U om) s.cm (upL U (BnW _ _ j.ng)) (upL U (BnX _ _ (A8T U om) j.cd)))
  .exact upR U (CcZ (C (D+2)) _ (A5X U om) (Bww U om) (Bnv U om) (A57 U om) s.ex)
  .exact upR U (CcX (C (D+2)) (C (D+1)) _ (Azd U om) (Bwv U om) (s.ch false 0 om) (BxF U om) (upL U (BnY _ _ (A8T U om) j.cd j.ex)))
  .exact upR U (CcF (C (D+2)) _ (Bwv U om) (s.ch true 0 om))
  .intro c k u;have:k=2\/k<2:=by omega
   rcases this with rfl|u
   .cases c with
    |false=>exact upC U (B5H _ _ s.un)
    |true=>exact upC U (B5G _ _ s.ng)
   .exact upC U (CcQ _ _ fe (A5X U om) u (x c k u))
end Go.Proofs
