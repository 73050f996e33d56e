/- The parser: Parse. -/
import Derived.Test.YtecikbfimlolcaaGreatDoorEvPb
import Derived.Test.YtecikbfimlolcaaGreatDoorEvKa
set_option linter.all false
set_option maxRecDepth 100000
noncomputable section
namespace Go.Nm
open Go.Ev
def Ao2:Nat->Nat->List Nat
|0,_=>[]
|D+1,n=>Ao2 D (n/10)++[48+n%10]
def nd(n:Nat):Nat:=if n<10 then 1 else if n<100 then 2 else if n<1000 then 3 else if n<10000 then 4 else if n<100000 then 5 else if n<1000000 then 6 else if n<10000000 then 7 else if n<100000000 then 8 else if n<1000000000 then 9 else 10
def V8(n:Int):List Nat:=Ao2 (nd n.toNat) n.toNat
def Bkd:List Int:=[1,10,100,1000,10000,100000,1000000,10000000,100000000,1000000000,10000000000,100000000000,1000000000000,10000000000000,100000000000000,1000000000000000,10000000000000000,100000000000000000,1000000000000000000,10000000000000000000]
def AnE(l:List Nat):Nat:=l.foldl (λa c=>a*10+(c-48)) 0
def A3l l c:AnE (l++[c])=AnE l*10+(c-48):=by simp[AnE]
def Bel l i:AnE (l.take i)<=AnE l:=by
 have h1:∀(b:List _) a,a<=b.foldl (λa c=>a*10+(c-48)) a:=by intro b;induction b with
  |nil=>simp
  |cons c b f=>grind
 have h2:AnE l=(l.drop i).foldl (λa c=>a*10+(c-48)) (AnE (l.take i)):=by unfold AnE;rw[<- List.foldl_append,Dt]
 grind
def Alh:∀D n,(Ao2 D n).length=D
|0,_=>rfl
|D+1,n=>by simp[Ao2,Alh D]
def A6O:∀D n,n<10^D->AnE (Ao2 D n)=n
|0,n,h=>by
 have:n=0:=by omega
 subst this;rfl
|D+1,n,h=>by show AnE (Ao2 D _++[48+n%10])=n;rw[A3l,A6O D _ (bz (by omega))];omega
def Axd:∀D n,∀c∈Ao2 D n,48<=c/\c<=57
|0,n,c,h=>by cases h
|D+1,n,c,h=>by
 rcases U0.1 h with h|h;. exact Axd D _ c h
 grind
def A2f:∀D n,10^D<=n->n<10^(D+1)->∃c r,Ao2 (D+1) n=c::r/\49<=c
|0,n,h1,h2=>⟨_,_,rfl,by omega⟩
|D+1,n,h1,h2=>by have⟨c,r,_,a⟩:=A2f D (n/10) ((Nat.le_div_iff_mul_le (by omega)).2 (by grind)) (bz (by omega));exact⟨c,r++[48+n%10],by show Ao2 ..++_=_;grind,a⟩
def Aqg(n:Nat)(h:n<=1000000000):(n<10/\nd n=1)\/∃D,nd n=D+1/\1<=D/\D<=9/\10^D<=n/\n<10^(D+1):=by
 unfold nd;split
 .exact .inl ⟨by assumption,rfl⟩
 .split
  .exact .inr ⟨1,rfl,by decide,by decide,by show 10<=n;omega,by show n<100;omega⟩
  .split
   .exact .inr ⟨2,rfl,by decide,by decide,by show 100<=n;omega,by show n<1000;omega⟩
   .split
    .exact .inr ⟨3,rfl,by decide,by decide,by show 1000<=n;omega,by show n<10000;omega⟩
    .split
     .exact .inr ⟨4,rfl,by decide,by decide,by show 10000<=n;omega,by show n<100000;omega⟩
     .split;. exact .inr ⟨5,rfl,by decide,by decide,by show 100000<=n;omega,by show n<1000000;omega⟩
      .split;. exact .inr ⟨6,rfl,by decide,by decide,by show 1000000<=n;omega,by show n<10000000;omega⟩
       .split;. exact .inr ⟨7,rfl,by decide,by decide,by show 10000000<=n;omega,by show n<100000000;omega⟩
        .split;. exact .inr ⟨8,rfl,by decide,by decide,by show 100000000<=n;omega,by show n<1000000000;omega⟩
         .exact .inr ⟨9,rfl,by decide,by decide,by show 1000000000<=n;omega,by show n<10000000000;omega⟩
def Alj{n}(h0:0<=n)(h1:n<=1000000000):(∀c∈V8 n,48<=c/\c<=57)/\AnE (V8 n)=n/\1<=(V8 n).length/\(V8 n).length<=10/\(1<(V8 n).length->∃c r,V8 n=c::r/\49<=c):=by
 unfold V8;refine⟨Axd _ _,?_,?_,?_,?_⟩
 .rw[A6O];. omega
  .rcases Aqg n.toNat om with⟨a,f⟩|⟨D,a,_,_,_,f⟩;. grind
   simp[*]
 .rw[Alh];rcases Aqg n.toNat om with⟨a,f⟩|⟨D,a,_,_,_,f⟩<;>omega
 .rw[Alh];rcases Aqg n.toNat om with⟨a,f⟩|⟨D,a,_,_,_,f⟩<;>omega
 .rw[Alh];intro k;rcases Aqg n.toNat om with⟨a,f⟩|⟨D,a,_,_,j,g⟩;. omega
  .rw[a];exact A2f D _ j g
end Go.Nm
namespace Go.Proofs
open Go Go.Ev Go.Nm Go.Ev.Sx
attribute [local irreducible] Aa Al Af Ad
variable (Z cx:Ac)(N:Nat)
variable {b:Nat}{v:AV}{l:List Tok}{i e o:Int}{q:List AV}{h h1:H}{n d:Nat}{t:Tr}{xs:List L3}
def Bst{k:Nat}{x:AV}(f:h.m.get b=psC v i e o q)(hq:q.length=20)(c:k<20)(g:Ge x=true/\cellsOf x=some [x]):A4 1 (.ptr b (4+k)) x h=.ok (.Bj []) (h.put b (psC v i e o (q.set k x))):=by
 obtain⟨a,p⟩:=g;have h1:(q.set k x)=q.take k++x::q.drop (k+1):=by rw[dd,W5 om]
 have h2:4+k+1=(k+1)+4:=by omega
 have j:4+k=k+4:=by omega
 simp only[Adt,p,AiA,Auc,Awo,a,eh,R6,Gx,Rx,and_self,Jr];simp[f,lw,hq,h1,h2,j,c];rw[W5 om];rfl
def BaM{k:Nat}{x:AV}{h0:H}{Q:AV->H->Prop}{K:AV->AV->AV->AV->H->OR}{q':List AV}(p:h.m.get b=psC v i e o q)(hq:q.length=20)(g:k<20)(r:Ge x=true/\cellsOf x=some [x])(j:q.set k x=q')(next:Ah h0 Q (K (.ptr b 0) (.ptr b 4) (.ptr b (4+k)) (.Bj []) (h.put b (psC v i e o q')))):
 Ah h0 Q (Aa (Fu (.ptr b 0) h) λf h1=>Aa (Bs f 4 h1) λc h2=>Aa (Bs c k h2) λa u=>Aa (A4 1 a x u) (K f c a)):=by
 subst j;rw[I0];refine Wb ?_;rw[E3];refine Wb ?_;rw[E3];refine Wb ?_;rw[show 0+4+k=4+k by omega,Bst p hq g r]
 exact Wb next
structure QL(b:Nat)(h:H)(Q:Qr)(ve vo vm:AV):Prop where
 c:(Q.code=[]/\ve=.Bv)\/(Q.code≠[]/\Oo (b+1) h ve Q.code)
 o:Fm 2 (b+1) 33 h vo Q.ord.length (Q.ord.flatMap Zd)
 m:(Q.E9=[]/\vm=.Bv)\/(Q.E9≠[]/\Oo (b+1) h vm Q.E9)
def Azb{s lo len}{et}{v}{c}{X}(r:Fm s lo et h v len c)(x:b<h.nx)(hn:∀st,h.m.get b≠.Fb st)(z:b<lo)(e:PG b X h h1)(B:len=0->v=.Bv):Fm s lo et h1 v len c:=by
 rcases r with a|⟨rfl,rfl,j,off,cs,rfl,h2,a⟩|⟨j,k,st,rfl,A,y,p,q5,f,g,w,u⟩;. exact .inl a
 .grind
 .exact .inr (.inr ⟨_,k,st,rfl,by rw[e.Cf _ f om];omega,by rw[e.Cf k g om];grind,p,q5,Xq f e.lo,Xq g e.lo,w,u⟩)
structure PQ(b:Nat)(v:AV)(l:List Tok)(i e:Int)(Q:Qr)(ve vo vm:AV)(h:H):Prop where
 p:PsR b v l i e 0 (qc Q ve vo vm) h
 q:QL b h Q ve vo vm
 z:Q.ord.length=0->vo=.Bv
def QL.pg{Q}{ve vo vm}{X}(k:QL b h Q ve vo vm)(a:b<h.nx)(hn:∀st,h.m.get b≠.Fb st)(f:Q.ord.length=0->vo=.Bv)(g:PG b X h h1):QL b h1 Q ve vo vm:=
 ⟨k.c.imp id λ⟨x,y⟩=>⟨x,y.pg x a hn (Up b) g⟩,Azb k.o a hn (Up b) g f,k.m.imp id λ⟨x,y⟩=>⟨x,y.pg x a hn (Up b) g⟩⟩
def PsR.Atm(p:PsR b v l i e o q h):∀st,h.m.get b≠.Fb st:=λst a=>by rw[p.get]at a;grind
def PQ.pg{Q:Qr}{ve vo vm:AV}{j:Int}(k:PQ b v l i e Q ve vo vm h)(g:PG b (psC v j e 0 (qc Q ve vo vm)) h h1)(hj:0<=j):PQ b v l j e Q ve vo vm h1:=
 ⟨k.p.pg g hj rfl,k.q.pg k.p.lt k.p.Atm k.z g,k.z⟩
def PQ.gr{Q}{ve vo vm}(k:PQ b v l i e Q ve vo vm h)(g:Ai h h1):PQ b v l i e Q ve vo vm h1:=k.pg ((PG.refl k.p.get).gr g) k.p.i0
def A0W(b:Nat)(v:AV)(l:List Tok)(e:Int)(h:H)(j:Int)(Q:Qr)(R:AV->Prop)(a:AV)(h1:H):Prop:=PX b h h1/\(∃ve vo vm,PQ b v l j e Q ve vo vm h1)/\R a
def Stp(b:Nat)(v:AV)(l:List Tok)(e:Int)(h:H)(j:Int)(Q:Qr)(R:AV->Prop)(r:OR):Prop:=Ah H0 (A0W b v l e h j Q R) r
def PQ.set{Q Q':Qr}{ve vo vm:AV}(k:PQ b v l i e Q ve vo vm h)(hc:Q'.code=Q.code:=by rfl)(a:Q'.ord=Q.ord:=by rfl)(f:Q'.E9=Q.E9:=by rfl):PQ b v l i e Q' ve vo vm (h.put b (psC v i e 0 (qc Q' ve vo vm))):=by have g:PG b (psC v i e 0 (qc Q' ve vo vm)) h (h.put b (psC v i e 0 (qc Q' ve vo vm))):=(PG.refl rfl).put _;refine⟨k.p.pg g k.p.i0 rfl,?_,by rw[a];exact k.z⟩;have:=k.q.pg k.p.lt k.p.Atm k.z g;exact⟨by rw[hc];exact this.c,by rw[a];exact this.o,by rw[f];exact this.m⟩
def ilx(n:Int):List L3:=if n<0 then[.sg [45],.nu (-n)]else[.nu n]
def BrD{x}(c:AaO l n (ilx x))(h1:-1000000000<=x)(h2:x<=1000000000):BgU l n x (ilx x).length:=by
 unfold ilx at c ⊢;by_cases j:x<0;. rw[W5 j]at c ⊢;have⟨f,⟨t,k,a,g⟩,_⟩:=c;exact⟨t,by omega,by omega,.inr ⟨Ajl f,⟨by grind,a⟩,by omega,rfl⟩⟩
 .rw[X2 j]at c ⊢;have⟨⟨t,k,a,g⟩,_⟩:=c;exact⟨t,by omega,by omega,.inl ⟨Agw c.1 (by simp[Amm]),⟨by simp_all,a⟩,by omega,rfl⟩⟩
def Bcx{k}{x}(c:∃t,l[n]?=some t/\AeT t x)(a:∀t,AeT t x->t.k=k):∃t,AlY l n k t/\AeT t x:=by have⟨t,_,h2⟩:=c;exact⟨t,⟨by grind,a t h2⟩,h2⟩
def ApH(a:Bar Z){s}{Q}{ve vo vm}{h0}{W}{K}(k:PQ b v l n e Q ve vo vm h)(c:∃t,l[n]?=some t/\AeT t (.nm s))
 (next:∀h1,PX b h h1->PQ b v l (n+1:Nat) e Q ve vo vm h1->Ah h0 W (K (.str s) h1)):Ah h0 W (Aa (Z.call 164 [.ptr b 0] h) K):=by have⟨t,h2,j⟩:=Bcx c λt h=>h.1;refine zu1 (a b v l n e 0 _ t h k.p h2) λr h1 e1 l1 g m f=>?_;subst f;rw[j.2];exact next _ (PX.of e1) (k.pg e1 om)
def Ahu(a:AmR Z){s}{Q}{ve vo vm}{h0}{W}{K}(k:PQ b v l n e Q ve vo vm h)(c:∃t,l[n]?=some t/\(AeT t (.kw s)\/AeT t (.sg s)))
 (next:∀h1,PX b h h1->PQ b v l (n+1:Nat) e Q ve vo vm h1->Ah h0 W (K (.Bj []) h1)):Ah h0 W (Aa (Z.call 163 [.ptr b 0,.str s] h) K):=by
 have j:AfM l n s=true:=by
  obtain⟨t,h1,h2|h2⟩:=c;. exact An8 ⟨t,h1,h2⟩
  .exact Ajl ⟨t,h1,h2⟩
 refine zu1 (a b v l n e 0 _ s h k.p j) λr h1 e1 l1 g m f=>?_;subst f;exact next _ (PX.of e1) (k.pg e1 om)
def Axk(a:Bav Z){x}{Q}{ve vo vm}{h0}{W}{K}(k:PQ b v l n e Q ve vo vm h)(f:AaO l n (ilx x))(c:-1000000000<=x)(r:x<=1000000000)
 (next:∀h1,PX b h h1->PQ b v l (n+(ilx x).length:Nat) e Q ve vo vm h1->Ah h0 W (K (iI x) h1)):Ah h0 W (Aa (Z.call 220 [.ptr b 0] h) K):=by refine zu1 (a b v l n e 0 _ x _ h k.p (BrD f c r)) λu h1 e1 l1 j m g=>?_;subst g;exact next _ (PX.of e1) (k.pg e1 om)
def Ax2(a:Beo Z){x}{Q}{ve vo vm}{h0}{W}{K}(k:PQ b v l n e Q ve vo vm h)(c:∃t,l[n]?=some t/\AeT t (.nu x))
 (next:∀h1,PX b h h1->PQ b v l (n+1:Nat) e Q ve vo vm h1->Ah h0 W (K (iI x) h1)):Ah h0 W (Aa (Z.call 171 [.ptr b 0] h) K):=by have⟨t,h2,j⟩:=Bcx c λt h=>h.1;refine zu1 (a b v l n e 0 _ t h k.p h2) λr h1 e1 l1 g m f=>?_;subst f;rw[j.2];exact next _ (PX.of e1) (k.pg e1 om)
def BaN(a:Bas Z){x}{Q}{ve vo vm}{h0}{W}{K}(k:PQ b v l n e Q ve vo vm h)(f:∃t,l[n]?=some t/\AeT t (.nu x))(u:x≠0)
 (next:∀h1,PX b h h1->PQ b v l (n+1:Nat) e Q ve vo vm h1->Ah h0 W (K (iI x) h1)):Ah h0 W (Aa (Z.call 166 [.ptr b 0] h) K):=by have⟨t,h2,c⟩:=Bcx f λt h=>h.1;refine zu1 (a b v l n e 0 _ t h k.p h2 (by rw[c.2];omega)) λr h1 e1 l1 j m g=>?_;subst g;rw[c.2];exact next _ (PX.of e1) (k.pg e1 om)
def Alq(a:Al5 Z){s}{Q}{ve vo vm}{h0}{W}{K}(k:PQ b v l n e Q ve vo vm h)(c:∃t,l[n]?=some t/\(AeT t (.kw s)\/AeT t (.sg s)))
 (next:∀h1,PX b h h1->PQ b v l (n+1:Nat) e Q ve vo vm h1->Ah h0 W (K (.bool true) h1)):Ah h0 W (Aa (Z.call 165 [.ptr b 0,.str s] h) K):=by
 have m:AfM l n s=true:=by
  obtain⟨t,h1,h2|h2⟩:=c;. exact An8 ⟨t,h1,h2⟩
  .exact Ajl ⟨t,h1,h2⟩
 refine zu1 (a b v l n e 0 _ s h k.p m) λr h1 e1 l1 j g f=>?_;subst f;exact next _ (PX.of e1) (k.pg e1 om)
def AlZ(a:AlT Z){s}{Q}{ve vo vm}{h0}{W}{K}(k:PQ b v l n e Q ve vo vm h)(g:AfM l n s=false)
 (next:∀h1,PX b h h1->PQ b v l n e Q ve vo vm h1->Ah h0 W (K (.bool false) h1)):Ah h0 W (Aa (Z.call 165 [.ptr b 0,.str s] h) K):=by refine Fj (a b v l n e 0 _ s h k.p g) λj h1 e1 l1 f c=>?_;subst c;exact next _ (PX.gr (PX.refl h) e1) (k.gr e1)
def PX.trans{h2}(a:PX b h h1)(c:PX b h1 h2):PX b h h2:=c.elim λX=>PX.trX a
def PX.Akw Y:PX b h (h.put b Y):=(PX.refl h).put Y
def AfV{k:Nat}{x:AV}{Q Q':Qr}{ve vo vm:AV}{h0:H}{W:AV->H->Prop}{K:AV->AV->AV->AV->H->OR}(p:PQ b v l i e Q ve vo vm h)(next:∀h1,PX b h h1->PQ b v l i e Q' ve vo vm h1->Ah h0 W (K (.ptr b 0) (.ptr b 4) (.ptr b (4+k)) (.Bj []) h1))
 (Zb:(qc Q ve vo vm).set k x=qc Q' ve vo vm:=by rfl) (hk:k<20:=by decide) (hx:Ge x=true/\cellsOf x=some [x]:=by exact⟨rfl,rfl⟩) (hc:Q'.code=Q.code:=by rfl) (ho:Q'.ord=Q.ord:=by rfl) (hm:Q'.E9=Q.E9:=by rfl):
 Ah h0 W (Aa (Fu (.ptr b 0) h) λf h1=>Aa (Bs f 4 h1) λc h2=>Aa (Bs c k h2) λa g=>Aa (A4 1 a x g) (K f c a)):=
 BaM p.p.get rfl hk hx Zb (next _ (PX.Akw _) (p.set hc ho hm))
open Tryz
variable {Q:Qr}{ve vo vm:AV}
def A6j{s}(g:∀c k,(lvF (lvO c k) s).2=false)(h1:∃t,l[n]?=some t/\(AeT t (.kw s)\/AeT t (.sg s))) c k:AmQ c k l n:=by have⟨t,h2,a⟩:=h1;have hn:=AoJ h2 (a.imp (λh=>h.1) λh=>h.1);have f:=a.elim (λh=>h.2) λh=>h.2;intro k' _ _;grind
def Bw3{g}{nt}(x:Bg prog g=true)(c:Bm3 Z)(k:Reads (λb h=>Z.call g [.ptr b 0] h) nt t xs d):Reads (λb h=>Ay prog Z N true 167 [.ptr b 0,.fn (.func g) [.ptr b 0] []] h) nt t xs d:=by intro b v l n e o q h p y w h0 hd B;apply AeN;simp[];rw[Bzr];refine Fj (c b v l n e o q h p) λI h2 f A u F=>?_;simp[mM,(λa=>cvF _ _ _ _ x:∀a,cvV (.fn _ [.ptr b 0] []) [] _ Z a=Z.call g ..)];refine zu1 (k b v l n e o q _ (p.gr f) y w h0 hd B) λJ K m E z r j=>?_;have G:∀a,Fo _ a=.ok ..:=λ_=>j.sl.Gs;refine wk ?_;exact zr (Ed _) ⟨((PG.refl p.get).gr f).trans m,j.Y5 A⟩
def B2D(p:PQ b v l i e Q ve vo vm h):Stp b v l e h i { Q with c0:=1 } (λr=>r=.Bj []) (Ay prog Z N true 153 [.ptr b 0] h):=by rw[Bze];exact AfV p λh1 a c=>zr (Ed _) ⟨a,⟨_,_,_,c⟩,rfl⟩
def Bau:Prop:=∀(b:Nat) (v:AV) (l:List Tok) (n:Nat) (e:Int) (Q:Qr) (ve vo vm:AV) (h:H) (k:Int) (s:List Nat),PQ b v l n e Q ve vo vm h->AaO l n [.nm s]->Stp b v l e h ((n+1:Nat):Int) { Q with c0:=k,s6:=s } (λr=>r=.Bj []) (Z.call 219 [.ptr b 0,iI k] h)
def B3b(a:Bar Z){k}{s}(p:PQ b v l n e Q ve vo vm h)(g:AaO l n [.nm s]):Stp b v l e h (n+1:Nat) { Q with c0:=k,s6:=s } (λr=>r=.Bj []) (Ay prog Z N true 219 [.ptr b 0,iI k] h):=by rw[Bz4];exact ApH Z a p g.1 λh1 f u=>AfV (Q':={ Q with c0:=k }) u λh2 j m=>AfV m λw c p3=>zr (Ed _) ⟨PX.trans f (PX.trans j c),⟨_,_,_,p3⟩,rfl⟩
abbrev A2p:L3:=.kw [98,101,116,119,101,101,110]
abbrev Bo2:L3:=.kw [97,110,100]
def vlx(xs:List L3)(lo hi:Int):List L3:=xs++A2p::(ilx lo++Bo2::ilx hi)
def AwB xs lo hi:(vlx xs lo hi).length=xs.length+1+(ilx lo).length+1+(ilx hi).length:=by simp[vlx];omega
abbrev Baw(run:Nat->H->OR)(t:Tr)(xs:List L3)(d:Nat):Prop:=Reads run .ex t xs d/\d<=50/\t.nodes.length<=200
def Sml(x:Int):Prop:=-1000000000<=x/\x<=1000000000
def Bhd(t:Tr)(xs:List L3):Prop:=∀(b:Nat) (v:AV) (l:List Tok) (n:Nat) (e:Int) (Q:Qr) (ve vo vm:AV) (h:H) (k lo hi:Int),PQ b v l n e Q ve vo vm h->AaO l n (vlx xs lo hi)->Sml lo->Sml hi ->
 Stp b v l e h ((n+(vlx xs lo hi).length:Nat):Int) { Q with c0:=k,code:=t.nodes,c2:=lo,c3:=hi } (λr=>r=.Bj []) (Z.call 218 [.ptr b 0,iI k] h)
def B3a(u:AmR Z)(w:Bav Z)(E:Baw (λb h=>Z.call 167 [.ptr b 0,.fn (.func 255) [.ptr b 0] []] h) t xs d){k lo hi:Int}(p:PQ b v l n e Q ve vo vm h)(T:AaO l n (vlx xs lo hi))(L:Sml lo)(g:Sml hi):
 Stp b v l e h ((n+(vlx xs lo hi).length:Nat):Int) { Q with c0:=k,code:=t.nodes,c2:=lo,c3:=hi } (λr=>r=.Bj []) (Ay prog Z N true 218 [.ptr b 0,iI k] h):=by
 unfold Stp;rw[Bz3,show n+(vlx xs lo hi).length=n+xs.length+1+(ilx lo).length+1+(ilx hi).length by rw[AwB];omega]
 obtain⟨P,hd,hz⟩:=E;obtain⟨B,j,I⟩:=AaO.app.1 T;obtain⟨x,A,G⟩:=AaO.app.1 I;refine AfV (Q':={ Q with c0:=k }) p λh1 W F=>?_;refine zu1 (P b v l n e 0 _ h1 F.p B (A6j (λc k=>by cases c<;>rcases k with _|_|k<;>rfl) (j.imp λt h=>⟨h.1,.inl h.2⟩) false 0) (bw _) om hz) λf h2 K l2 R Aur J=>?_;have a:=F.pg K om;have y:PG b (psC v ((n+xs.length:Nat):Int) e 0 (qc { Q with c0:=k,code:=t.nodes } f vo vm)) h2 (h2.put b (psC v ((n+xs.length:Nat):Int) e 0 (qc { Q with c0:=k,code:=t.nodes } f vo vm))):=(PG.refl rfl).put _;refine BaM (k:=1) (q':=qc { Q with c0:=k,code:=t.nodes } f vo vm) a.p.get rfl fe J.one rfl ?_;have p3:PQ b v l ((n+xs.length:Nat):Int) e { Q with c0:=k,code:=t.nodes } f vo vm (h2.put b (psC v ((n+xs.length:Nat):Int) e 0 (qc { Q with c0:=k,code:=t.nodes } f vo vm))):=by have:=a.q.pg a.p.lt a.p.Atm a.z y;exact⟨a.p.pg y om rfl,⟨.inr ⟨Tf t,(J.Y5 F.p.lt).pg (Tf t) a.p.lt a.p.Atm (Up b) y⟩,this.o,this.m⟩,a.z⟩
 refine Ahu Z u p3 (j.imp λt h=>⟨h.1,.inl h.2⟩) λh4 g4 M=>?_;refine Axk Z w M x L.1 L.2 λh5 g5 p5=>?_;refine AfV (Q':={ Q with c0:=k,code:=t.nodes,c2:=lo }) p5 λh6 V p6=>?_;refine Ahu Z u p6 (A.imp λt h=>⟨h.1,.inl h.2⟩) λh7 U O=>?_;refine Axk Z w O G g.1 g.2 λh8 g8 Y=>?_;refine AfV (Q':={ Q with c0:=k,code:=t.nodes,c2:=lo,c3:=hi }) Y λh9 X S=>?_;exact zr (Ed _) ⟨PX.trans W (PX.trans (PX.of K) (PX.trans (PX.Akw _) (PX.trans g4 (PX.trans g5 (PX.trans V (PX.trans U (PX.trans g8 X))))))),⟨f,vo,vm,S⟩,rfl⟩
def Bku{j}{r}(a:Stp b v l e h j Q (λr=>r=.Bj []) r):Stp b v l e h j Q (λr=>r=.Bj []) (Aa r λc h1=>.ok (.Bj []) h1):=by obtain⟨c,h1,rfl,_,hq⟩:=a;exact Wb (zr (Ed _) ⟨hq.1,hq.2.1,rfl⟩)
def Bcv{j}{r}{h0}{W}{K}(a:Stp b v l e h j Q (λr=>r=.Bj []) r)(next:∀h1 ve vo vm,PX b h h1->PQ b v l j e Q ve vo vm h1->Ah h0 W (K (.Bj []) h1)):Ah h0 W (Aa r K):=by obtain⟨f,h1,rfl,_,hq,⟨ve,vo,vm,c⟩,rfl⟩:=a;exact Wb (next _ _ _ _ hq c)
def B2E(c:Bhd Z t xs){lo hi}(p:PQ b v l n e Q ve vo vm h)(g:AaO l n (vlx xs lo hi))(f:Sml lo)(a:Sml hi):Stp b v l e h (n+(vlx xs lo hi).length:Nat) { Q with c0:=2,code:=t.nodes,c2:=lo,c3:=hi } (λr=>r=.Bj []) (Ay prog Z N true 154 [.ptr b 0] h):=by rw[Bzf];exact Bku (c b v l n e Q _ _ _ h 2 _ _ p g f a)
def B2F(a:Bau Z){s}(p:PQ b v l n e Q ve vo vm h)(c:AaO l n [.nm s]):Stp b v l e h (n+1:Nat) { Q with c0:=3,s6:=s } (λr=>r=.Bj []) (Ay prog Z N true 155 [.ptr b 0] h):=by rw[Bzg];exact Bku (a b v l n e Q _ _ _ h 3 s p c)
def B2I(a:Bau Z){s}(p:PQ b v l n e Q ve vo vm h)(c:AaO l n [.nm s]):Stp b v l e h (n+1:Nat) { Q with c0:=6,s6:=s } (λr=>r=.Bj []) (Ay prog Z N true 158 [.ptr b 0] h):=by rw[Bzj];exact Bku (a b v l n e Q _ _ _ h 6 s p c)
def B2K(a:Bau Z){s}(p:PQ b v l n e Q ve vo vm h)(c:AaO l n [.nm s]):Stp b v l e h (n+1:Nat) { Q with c0:=8,s6:=s } (λr=>r=.Bj []) (Ay prog Z N true 160 [.ptr b 0] h):=by rw[Bzl];exact Bku (a b v l n e Q _ _ _ h 8 s p c)
def B2L(a:Bau Z){s}(p:PQ b v l n e Q ve vo vm h)(c:AaO l n [.nm s]):Stp b v l e h (n+1:Nat) { Q with c0:=9,s6:=s } (λr=>r=.Bj []) (Ay prog Z N true 161 [.ptr b 0] h):=by rw[Bzm];exact Bku (a b v l n e Q _ _ _ h 9 s p c)
def B2J(c:Bau Z)(g:Bav Z){x}{s}(p:PQ b v l n e Q ve vo vm h)(u:AaO l n (ilx x++[.nm s]))(j:Sml x):Stp b v l e h (n+(ilx x).length+1:Nat) { Q with c0:=7,s6:=s,c7:=x } (λr=>r=.Bj []) (Ay prog Z N true 159 [.ptr b 0] h):=by rw[Bzk];have⟨a,f⟩:=AaO.app.1 u;exact Axk Z g p a j.1 j.2 λh1 m z=>AfV (Q':={ Q with c7:=x }) z λh2 w y=>Bcv (c b v l _ e _ _ _ _ _ 7 s y f) λA ve vo vm k p3=>zr (Ed _) ⟨PX.trans m (PX.trans w k),⟨_,_,_,p3⟩,rfl⟩
abbrev Bij:L3:=.kw [98,121]
def B2G(j:AmR Z)(k:Bar Z)(a:Bhd Z t xs){lo hi}{s}(p:PQ b v l n e Q ve vo vm h)(z:AaO l n (vlx xs lo hi++[Bij,.nm s]))(x:Sml lo)(m:Sml hi):
 Stp b v l e h (n+(vlx xs lo hi).length+1+1:Nat) { Q with c0:=4,code:=t.nodes,c2:=lo,c3:=hi,s6:=s } (λr=>r=.Bj []) (Ay prog Z N true 156 [.ptr b 0] h):=by rw[Bzh];have⟨f,g,c,_⟩:=AaO.app.1 z;exact Bcv (a b v l n e Q _ _ _ h 4 _ _ p f x m) λh1 ve vo vm y E=>Ahu Z j E (g.imp λt h=>⟨h.1,.inl h.2⟩) λh2 A B=>ApH Z k B c λI u p3=>AfV p3 λG F w=>zr (Ed _) ⟨PX.trans y (PX.trans A (PX.trans u F)),⟨_,_,_,w⟩,rfl⟩
abbrev A1X:L3:=.sg [47]
abbrev Bin:L3:=.kw [111,102]
def B2H(c:AmR Z)(a:Beo Z)(m:Bhd Z t xs){lo hi x y}(p:PQ b v l n e Q ve vo vm h)(F:AaO l n ([.nu x,A1X,.nu y,Bin]++vlx xs lo hi))(O:Sml lo)(k:Sml hi):
 Stp b v l e h (n+1+1+1+1+(vlx xs lo hi).length:Nat) { Q with c0:=5,c4:=x,c5:=y,code:=t.nodes,c2:=lo,c3:=hi } (λr=>r=.Bj []) (Ay prog Z N true 157 [.ptr b 0] h):=by rw[Bzi];have⟨g,j,u,w,f⟩:=F;exact Ax2 Z a p g λh1 K L=>AfV (Q':={ Q with c4:=x }) L λh2 G E=>Ahu Z c E (j.imp λt h=>⟨h.1,.inr h.2⟩) λX z p3=>Ax2 Z a p3 u λT R A=>AfV (Q':={ Q with c4:=x,c5:=y }) A λU M P=>Ahu Z c P (w.imp λt h=>⟨h.1,.inl h.2⟩) λW J S=>Bcv (m b v l _ e _ _ _ _ _ 5 _ _ S f O k) λV ve vo vm I B=>zr (Ed _) ⟨PX.trans K (PX.trans G (PX.trans z (PX.trans R (PX.trans M (PX.trans J I))))),⟨_,_,_,B⟩,rfl⟩
abbrev A5H:L3:=.kw [102,114,111,109]
abbrev Bim:L3:=.kw [107,101,101,112]
abbrev Bil:L3:=.kw [106,111,105,110]
abbrev BvS:L3:=.kw [111,110]
abbrev BdJ:L3:=.kw [108,105,109,105,116]
abbrev Al7:L3:=.kw [119,104,101,114,101]
abbrev AlF:L3:=.kw [119,105,116,104]
inductive Ab0(run:Nat->H->OR):List Nd->List L3->Prop
|no:Ab0 run [] []
|ok {t:Tr} {xs:List L3} {d:Nat}:Reads run .cd t xs d->d<=50->t.nodes.length<=200->Ab0 run t.nodes (Al7::xs)
def Al9{x}{s}(a:x=.kw s)(h:∃t,l[n]?=some t/\AeT t x):∃t,l[n]?=some t/\(AeT t (.kw s)\/AeT t (.sg s)):=by grind
def Bec{x}{s}(a:x=.sg s)(h:∃t,l[n]?=some t/\AeT t x):∃t,l[n]?=some t/\(AeT t (.kw s)\/AeT t (.sg s)):=by grind
def Bos(u:Al5 Z)(x:AlT Z){ms:List Nd}(L:Ab0 (λb h=>Z.call 167 [.ptr b 0,.fn (.func 168) [.ptr b 0] []] h) ms xs){f0:L2}(p:PQ b v l n e Q ve vo vm h)(K:Q.E9=[])(F:AaO l n (xs++[AlF])):
 Ah H0 (A0W b v l e h ((n+xs.length:Nat):Int) { Q with E9:=ms } (λr=>r=.Bj [])) (A3p Z N (.ptr b 0) f0 h):=by
 rw[Bmi];cases L with
 |no=>refine AlZ Z x p (Agw F.1 (by simp[Amm])) λh1 A j=>?_;refine Ba ?_;exact zr (Ed _) ⟨A,⟨ve,vo,vm,by rw[<- K];exact j⟩,rfl⟩
 |@ok t xs d G hd O=>
  obtain⟨y,f⟩:=F;obtain⟨f,m,_⟩:=AaO.app.1 f;refine Alq Z u p (Al9 rfl y) λh1 A j=>?_;refine A9 ?_;have J:Stop .cd l (n+1+xs.length):=⟨A6j (λc k=>by cases c<;>rcases k with _|_|k<;>rfl) (Al9 rfl m) _ _,A6j (λc k=>by cases c<;>rcases k with _|_|k<;>rfl) (Al9 rfl m) _ _⟩;refine zu1 (G b v l (n+1) e 0 _ h1 j.p f J (bw _) om O) λg h2 E P I M B=>?_;have a:=j.pg E om;have w:PG b (psC v ((n+1+xs.length:Nat):Int) e 0 (qc { Q with E9:=t.nodes } ve vo g)) h2 (h2.put b (psC v ((n+1+xs.length:Nat):Int) e 0 (qc { Q with E9:=t.nodes } ve vo g))):=(PG.refl rfl).put _;refine BaM (k:=17) (q':=qc { Q with E9:=t.nodes } ve vo g) a.p.get rfl fe B.one rfl ?_;have p3:PQ b v l ((n+1+xs.length:Nat):Int) e { Q with E9:=t.nodes } ve vo g (h2.put b (psC v ((n+1+xs.length:Nat):Int) e 0 (qc { Q with E9:=t.nodes } ve vo g))):=by have:=a.q.pg a.p.lt a.p.Atm a.z w;exact⟨a.p.pg w om rfl,⟨this.c,this.o,.inr ⟨Tf t,(B.Y5 j.p.lt).pg (Tf t) a.p.lt a.p.Atm (Up b) w⟩⟩,a.z⟩
  rw[show n+(Al7::xs).length=n+1+xs.length by rw[R6];omega]
  exact zr (Ed _) ⟨PX.trans A (PX.trans (PX.of E) (PX.Akw _)),⟨ve,vo,g,p3⟩,rfl⟩
def jlx(Q:Qr):List L3:=if Q.Wu=[]then[]else[Bil,.nm Q.Wu,BvS,.nm Q.s14,.sg [61],.nm Q.s15,BdJ,.nu Q.c16]
structure JOk(Q:Qr):Prop where
 no:Q.Wu=[]->Q.s14=[]/\Q.s15=[]/\Q.c16=0
 Bq:Q.Wu≠[]->Q.c16≠0
def BoP{run}{ms}(f:Ab0 run ms xs)(c:AaO l n (xs++[AlF])){s}(h1:s≠[119,104,101,114,101])(h2:s≠[119,105,116,104]):AfM l n s=false:=by cases f with
|no=>exact Agw c.1 λa=>h2 a.symm
|ok _ _ _=>exact Agw c.1 λa=>h1 a.symm
def A2c{j}{r}{a}{R}(g:PX b h a)(c:Ah H0 (A0W b v l e a j Q R) r):Ah H0 (A0W b v l e h j Q R) r:=by obtain⟨k,h1,rfl,f,hq⟩:=c;exact⟨_,_,rfl,f,PX.trans g hq.1,hq.2⟩
def Bor(c:Al5 Z)(g:AlT Z)(j:AmR Z)(f:Bar Z)(K:Bas Z){ms:List Nd}(M:Ab0 (λb h=>Z.call 167 [.ptr b 0,.fn (.func 168) [.ptr b 0] []] h) ms xs){f0:L2}{Q':Qr}(p:PQ b v l n e Q ve vo vm h)(S:Q.E9=[])(a:Q.Wu=[]/\Q.s14=[]/\Q.s15=[]/\Q.c16=0)(hj:JOk Q')(k:AaO l n (jlx Q'++xs++[AlF])):
 Ah H0 (A0W b v l e h ((n+(jlx Q').length+xs.length:Nat):Int) { Q with Wu:=Q'.Wu,s14:=Q'.s14,s15:=Q'.s15,c16:=Q'.c16,E9:=ms } (λr=>r=.Bj [])) (A3o Z N (.ptr b 0) f0 h):=by
 rw[Bmh];obtain⟨a1,a2,a3,a4⟩:=a;unfold jlx at k ⊢;by_cases a:Q'.Wu=[];. obtain⟨c2,c3,c4⟩:=hj.no a;rw[W5 a]at k ⊢;rw[a,c2,c3,c4];refine AlZ Z g p (BoP (xs:=xs) M k (by simp) (by simp)) λh1 B I=>?_;refine Ba ?_;refine A2c B ?_;have:=Bos Z N (f0:=(fz f0 [255,18,19] [(.Bj []),(.ptr b 0),(.bool false)])) c g M I S k;grind
 .rw[X2 a]at k ⊢;have⟨x,y,P,R,u,E,A,m,L⟩:=k;exact Alq Z c p (Al9 rfl x) λh1 B I=>(A9 (ApH Z f I y λh2 Y W=>AfV (Q':={ Q with Wu:=Q'.Wu }) W λh3 T p3=>(Ahu Z j p3 (Al9 rfl P) λh4 g4 U=>(ApH Z f U R λh5 g5 p5=>AfV (Q':={ Q with Wu:=Q'.Wu,s14:=Q'.s14 }) p5 λh6 g6 p6=>Ahu Z j p6 (Bec rfl u) λh7 g7 V=>(ApH Z f V E λh8 g8 p8=>AfV (Q':={ Q with Wu:=Q'.Wu,s14:=Q'.s14,s15:=Q'.s15 }) p8 λh9 g9 X=>(Ahu Z j X (Al9 rfl A) λFh w F=>(BaN Z K F m (hj.Bq a) λKc z G=>AfV (Q':={ Q with Wu:=Q'.Wu,s14:=Q'.s14,s15:=Q'.s15,c16:=Q'.c16 }) G λGd O J=>A2c (PX.trans B (PX.trans Y (PX.trans T (PX.trans g4 (PX.trans g5 (PX.trans g6 (PX.trans g7 (PX.trans g8 (PX.trans g9 (PX.trans w (PX.trans z O))))))))))) (Bos Z N c g M J S L))))))))
def klx(Q:Qr):List L3:=if Q.W0=0 then[]else[Bim,.nu Q.W0]
def slx(Q:Qr)(xs:List L3):List L3:=A5H::.nm Q.Uw::(klx Q++(jlx Q++xs))
def Bpd(ms:List Nd)(xs:List L3):Prop:=∀(b:Nat) (v:AV) (l:List Tok) (n:Nat) (e:Int) (Q Q':Qr) (ve vo vm:AV) (h:H),PQ b v l n e Q ve vo vm h->Q.E9=[]->(Q.Wu=[]/\Q.s14=[]/\Q.s15=[]/\Q.c16=0)->Q.W0=0->JOk Q'->AaO l n (slx Q' xs++[AlF]) ->
 Stp b v l e h ((n+(slx Q' xs).length:Nat):Int) { Q with Uw:=Q'.Uw,W0:=Q'.W0,Wu:=Q'.Wu,s14:=Q'.s14,s15:=Q'.s15,c16:=Q'.c16,E9:=ms } (λr=>r=.Bj []) (Z.call 106 [.ptr b 0] h)
def B20(c:Al5 Z)(g:AlT Z)(k:AmR Z)(f:Bar Z)(j:Bas Z){ms:List Nd}(B:Ab0 (λb h=>Z.call 167 [.ptr b 0,.fn (.func 168) [.ptr b 0] []] h) ms xs){Q':Qr}(p:PQ b v l n e Q ve vo vm h)(I:Q.E9=[])(m:Q.Wu=[]/\Q.s14=[]/\Q.s15=[]/\Q.c16=0)(X:Q.W0=0)(hj:JOk Q')(M:AaO l n (slx Q' xs++[AlF])):
 Stp b v l e h ((n+(slx Q' xs).length:Nat):Int) { Q with Uw:=Q'.Uw,W0:=Q'.W0,Wu:=Q'.Wu,s14:=Q'.s14,s15:=Q'.s15,c16:=Q'.c16,E9:=ms } (λr=>r=.Bj []) (Ay prog Z N true 106 [.ptr b 0] h):=by
 unfold Stp;rw[ByR];obtain⟨y,z,a⟩:=M;rw[show n+(slx Q' xs).length=n+1+1+(klx Q').length+(jlx Q').length+xs.length by simp[slx];omega];refine Ahu Z k p (Al9 rfl y) λh1 S T=>?_;refine ApH Z f T z λh2 O K=>?_;refine AfV (Q':={ Q with Uw:=Q'.Uw }) K λh3 J p3=>?_;have a:AaO l (n+1+1) (klx Q'++(jlx Q'++xs++[AlF])):=by simp_all
 have u:=PX.trans S (PX.trans O J);unfold klx at a ⊢;by_cases E:Q'.W0=0
 .rw[W5 E]at a ⊢;have L:AfM l ((n+1+1:Nat):Int) [107,101,101,112]=false:=by
   unfold jlx at a;by_cases m:Q'.Wu=[];. rw[W5 m]at a;exact BoP (xs:=xs) B a (by simp) (by simp)
   .rw[X2 m]at a;exact Agw a.1 (by simp[Amm])
  refine AlZ Z g p3 L λR G w=>?_;refine Ba ?_;refine A2c (PX.trans u G) ?_;have:=Bor Z N c g k f j B (f0:=(fz Az [2,3,4,5,6,7,8,9,10,11] [(.ptr b 0),(.Bj []),(.ptr b 0),(.ptr b 0),(.str Q'.Uw),(.ptr b 0),(.ptr b 4),(.ptr b 15),(.ptr b 0),(.bool false)])) w I m hj a;grind
 .rw[X2 E]at a ⊢;obtain⟨F,x,A⟩:=a;refine Alq Z c p3 (Al9 rfl F) λR G w=>?_;refine A9 ?_;refine BaN Z j w x E λY U V=>?_;refine AfV (Q':={ Q with Uw:=Q'.Uw,W0:=Q'.W0 }) V λh6 P W=>?_;exact A2c (PX.trans u (PX.trans G (PX.trans U P))) (Bor Z N c g k f j B W I m hj A)
structure AeZ(h:H):Prop where
 g:h.m.get 2=.cells (Bkd.map λx=>AV.int .u64 x) 361 .exact
 lt:2<h.nx
def AeZ.gr(p:AeZ h)(g:Ai h h1):AeZ h1:=⟨(g.Cf 2 p.lt).trans p.g,Xq p.lt g.lo⟩
def AeZ.px(p:AeZ h)(a:2<b)(g:PX b h h1):AeZ h1:=by have⟨X,g⟩:=g;exact⟨(g.Cf 2 p.lt om).trans p.g,Xq p.lt g.lo⟩
def Num(x:Int):Prop:=0<=x/\x<=1000000000
def Bpk:Prop:=∀(n:Int) (h:H),Num n->AeZ h->Ah h (λr _=>r=.str (V8 n)) (Z.call 170 [iI n] h)
def Bpj:Prop:=∀(n:Int) (h:H),Num n->AeZ h->Ah h (λr _=>r=.str (V8 n)) (Z.call 169 [iI n] h)
def B2Q(a:Bpk Z){x}(hn:Num x)(f:AeZ h):Ah h (λr _=>r=.str (V8 x)) (Ay prog Z N true 169 [iI x] h):=by rw[Bzt];refine Fj (a x h hn f) λj h1 e1 l1 g c=>?_;subst c;exact zr e1 rfl
def AwF:List (Int × Int × List Nat):=[(3,2,[51,47,50]),(11,10,[49,49,47,49,48]),(101,100,[49,48,49,47,49,48,48])]
def Bm6:Prop:=∀(x:Int × Int × List Nat) (h:H),x∈AwF->AeZ h->Ah h (λr _=>∃y,r=.Bj [.str x.2.2,y]) (Z.call 172 [.str (V8 x.1),.str (V8 x.2.1)] h)
abbrev AyL:L3:=.kw [102,97,99,116,111,114]
abbrev Bih:L3:=.kw [98,105,116,115]
abbrev Bik:L3:=.kw [99,111,110,115,105,115,116,101,110,116]
inductive Fac:List Nat->List L3->Prop
|one (x:Int):Num x->Fac (V8 x) [.nu x]
|two (x:Int × Int × List Nat):x∈AwF->Fac x.2.2 [.nu x.1,A1X,.nu x.2.1]
def A55{x}(a:x∈AwF):Num x.1/\Num x.2.1/\x.2.1≠0:=by simp[AwF]at a;rcases a with rfl|rfl|rfl<;>simp[Num]
def elx(Q:Qr):List L3:=Bih::.nu Q.Mg::(if Q.Wz=true then[Bik]else[])
def wlx(Q:Qr)(xs:List L3):List L3:=AlF::AyL::(xs++elx Q)
def Bic{c}{f0}(g:PX b c h)(p:PQ b v l l.length e Q ve vo vm h):Ah H0 (A0W b v l e c l.length Q λr=>r=.Bj []) (A3s Z N (.ptr b 0) f0 h):=by rw[Bml];have j:=p.p.get;have a:∀f,Fo v f=.ok ..:=λ_=>p.p.AsD.Gs;refine wd ?_;exact zr (Ed _) ⟨PX.trans g (PX.gr (PX.refl h) Ex),⟨_,_,_,p.gr Ex⟩,rfl⟩
def Bot(B:AmR Z)(z:Bas Z)(m:Al5 Z)(u:AlT Z){f0:L2}{Q':Qr}(p:PQ b v l n e Q ve vo vm h)(L:Q.Wz=false)(E:Q'.Wz=true->Q.c0=3)(hc:Q'.Mg≠0)(M:AaO l n (elx Q'))(c:l.length=n+(elx Q').length):
 Ah H0 (A0W b v l e h (l.length:Nat) { Q with Mg:=Q'.Mg,Wz:=Q'.Wz } (λr=>r=.Bj [])) (A3r Z N (.ptr b 0) f0 h):=by
 rw[Bmk];obtain⟨w,x,g⟩:=M;refine Ahu Z B p (Al9 rfl w) λh1 R T=>?_;refine BaN Z z T x hc λh2 O J=>?_;refine AfV (Q':={ Q with Mg:=Q'.Mg }) J λX G p3=>?_;have W:=p3.p.get;have V:=p3.p.lt;have f:=PX.trans R (PX.trans O G);unfold elx at c;by_cases A:Q.c0=3
 .have I:decide (Q.c0=3)=true:=Ws A;refine wk ?_;by_cases a:Q'.Wz=true;. rw[W5 a]at c g;refine Alq Z m p3 (Al9 rfl g.1) λP F k=>?_;refine AfV (Q':={ Q with Mg:=Q'.Mg,Wz:=true }) k λS y j=>?_;rw[a];rw[show((n+1+1+1:Nat):Int)=(l.length:Nat)by rw[c];simp;omega]at j;exact Bic Z N (PX.trans f (PX.trans F y)) j
  .rw[X2 a]at c g;have K:AfM l ((n+1+1:Nat):Int) [99,111,110,115,105,115,116,101,110,116]=false:=by unfold AfM;rw[Lm,ak (by rw[c];simp)]
   refine AlZ Z u p3 K λP F k=>?_;refine AfV (Q':={ Q with Mg:=Q'.Mg,Wz:=false }) k λS y j=>?_;rw[show Q'.Wz=false by simpa using a];rw[show((n+1+1:Nat):Int)=(l.length:Nat)by rw[c];simp;omega]at j;exact Bic Z N (PX.trans f (PX.trans F y)) j
 .have I:decide (Q.c0=3)=false:=Xn A;have a:Q'.Wz=false:=by cases U:Q'.Wz with
   |false=>rfl
   |true=>exact absurd (E U) A
  rw[a]at c;refine wk ?_;rw[show((n+1+1:Nat):Int)=(l.length:Nat)by rw[c];simp;omega]at p3;rw[a,<- L];exact Bic Z N f p3
def Bdx x h:cvV (.fn (.func 169) [] []) [x] prog Z h=Z.call 169 [x] h:=cvF _ _ _ _ rfl
def BvE(E:Bpj Z)(G:Bm6 Z)(M:AmR Z)(J:Bas Z)(k:Al5 Z)(w:AlT Z){f0:L2}{Q':Qr}{x:Int × Int × List Nat}(T:x∈AwF)(g:AeZ h)(R1:Q.Oi=V8 x.1)(p:PQ b v l n e Q ve vo vm h)(u:Q.Wz=false)(F:Q'.Wz=true->Q.c0=3)(hc:Q'.Mg≠0)(Y:AaO l n (elx Q'))(W:l.length=n+(elx Q').length):
 Ah H0 (A0W b v l e h (l.length:Nat) { Q with Oi:=x.2.2,Mg:=Q'.Mg,Wz:=Q'.Wz } (λr=>r=.Bj [])) (A3q Z N (.ptr b 0) (.fn (.func 169) [] []) (iI x.2.1) f0 h):=by
 rw[Bmj];have hg:=p.p.get;have B6:=p.p.lt;have cv:=@Bdx Z;obtain⟨n1,U,n3⟩:=A55 T;replace u:=(show F5 _ from u)
 refine wk ?_;rw[Bdx];refine Fj (E x.2.1 _ U (g.gr (Ai.refl h).nl)) λv5 S m l5 K q5=>?_;subst q5;refine Fj (G x _ T ((g.gr (Ai.refl h).nl.nl).gr m.nl)) λv6 c R l6 O V=>?_;obtain⟨y,rfl⟩:=V;have w5:wrote h.nx S.lg=[]:=m.quiet;have w6:wrote S.nx c.lg=[]:=R.quiet;have B:Ai h c:=Ai.Rc (Ai.trans m (Ai.Rc R));have P:=p.gr B;have hg6:=P.p.get;have A:=P.p.lt;clear K O;refine wk ?_;refine Acx b b h.nx ?_ λL hL=>?_
 .simp only[Tl,Pl,Ju,G4,Jj];repeat' (refine And.intro ?_ ?_)
  all_goals first|exact .inl rfl|exact .inl w5|exact .inl w6|(left;simp;done)|skip
  have j:∀z∈wrote (Ab c).nx (b::(Ab c).lg),z=b:=λz f=>by have f:=(D4 _ _ _ f).1;simpa using f
  refine .inr ⟨λz f=>.inl (j z f),?_⟩;repeat' (refine And.intro ?_ ?_)
  all_goals first|exact Ar ..|(refine Ax _ _ _ _ _ _ _ _ _ _ _ _ ?_;decide)|exact Dk (tk:=b) j A (.inl rfl)
 .have I:Q.Wz=false:=u;have a:=P.set (Q':={ Q with Oi:=x.2.2 });have g7:PX b h (c.put b (psC v n e 0 (qc { Q with Oi:=x.2.2 } ve vo vm))):=PX.trans (PX.gr (PX.refl h) B) (PX.Akw _);have gL:PX b h (Be L ((Ab c).put b (psC v n e 0 (qc { Q with Oi:=x.2.2 } ve vo vm)))):=by obtain⟨X,gX⟩:=g7;refine⟨psC v n e 0 (qc { Q with Oi:=x.2.2 } ve vo vm),PG.reL (PG.refl (b:=b) (h:=h) rfl) ?_ λz f=>by rcases hL z f with h1|h1|h1|h1;exact .inl h1;exact .inr (.inl h1);exact .inr (.inl h1);exact .inr (.inr h1)⟩;exact((PG.refl (b:=b) (h:=h) rfl).gr (B.trans (Ai.refl c).nl)).put _
  refine A2c gL ?_;have p8:PQ b v l n e { Q with Oi:=x.2.2 } ve vo vm (Be L ((Ab c).put b (psC v n e 0 (qc { Q with Oi:=x.2.2 } ve vo vm)))):=⟨⟨a.p.get,a.p.lt,a.p.AsD.By ((Bi.refl _).Be L),a.p.av,a.p.one,a.p.i0,a.p.Mu,a.p.ql⟩,?_,a.z⟩
  .exact Bot Z N M J k w p8 I F hc Y W
  .obtain⟨c1,c2,c3⟩:=a.q;have d1:=c1.imp id λz=>And.intro z.1 (z.2.rl (lg:=L));have d2:=Fm.rl (lg:=L) c2;have d3:=c3.imp id λz=>And.intro z.1 (z.2.rl (lg:=L));exact⟨d1,d2,d3⟩
def B21(u:Bpj Z)(R:Bm6 Z)(g:AmR Z)(A:Bas Z)(k:Al5 Z)(m:AlT Z)(I:Bm3 Z)(w:Beo Z){Q':Qr}(hf:Fac Q'.Oi xs)(z:AeZ h)(U:2<b)(p:PQ b v l n e Q ve vo vm h)(Y:Q.Wz=false)(E:Q'.Wz=true->Q.c0=3)(hc:Q'.Mg≠0)(ha:AaO l n (wlx Q' xs))(X:l.length=n+(wlx Q' xs).length):
 Stp b v l e h (l.length:Nat) { Q with Oi:=Q'.Oi,Mg:=Q'.Mg,Wz:=Q'.Wz } (λr=>r=.Bj []) (Ay prog Z N false 107 [.ptr b 0] h):=by unfold Stp;rw[ByS];obtain⟨L,M,a⟩:=ha;refine Ahu Z g p (Al9 rfl L) λh1 g1 p1=>?_;refine Ahu Z g p1 (Al9 rfl M) λh2 g2 W=>?_;have f:=PX.trans g1 g2;generalize hs:Q'.Oi=s at hf;cases hf with
 |one x F=>obtain⟨a,j⟩:=a;refine Ax2 Z w W a λh3 y p3=>?_;simp only[mM,Bdx];have c:=z.px U (PX.trans f y);refine Fj (u x h3 F c) λv4 h4 e4 l4 J V=>?_;subst V;refine AfV (Q':={ Q with Oi:=V8 x }) (p3.gr e4) λh5 S T=>?_;have Z3:AfM l ((n+1+1+1:Nat):Int) [47]=false:=Agw j.1 (by simp[Amm]);exact AlZ Z m T Z3 λh6 O G=>(Ba (A2c (PX.trans f (PX.trans y (PX.trans (PX.gr (PX.refl _) e4) (PX.trans S O)))) (Bot Z N g A k m G Y E hc j (by rw[X];simp[wlx];omega))))
 |two x F=>have⟨a,j,K,P⟩:=a;have⟨n1,n2,n3⟩:=A55 F;refine Ax2 Z w W a λh3 y p3=>?_;have c:=z.px U (PX.trans f y);refine Fj (u _ _ n1 c) λv4 h4 e4 l4 J V=>?_;subst V;refine AfV (Q':={ Q with Oi:=V8 _ }) (p3.gr e4) λh5 S T=>(Alq Z k T (Bec rfl j) λh6 O G=>(A9 (Fj (I b v l _ e 0 _ _ G.p) λv7 h7 e7 l7 AvU q7=>(Ax2 Z w (G.gr e7) K λh8 g8 p8=>?_))));have B:=PX.trans (PX.gr (PX.refl _) e4) (PX.trans S (PX.trans O (PX.trans (PX.gr (PX.refl _) e7) g8)));exact wk (A2c (PX.trans f (PX.trans y B)) (BvE Z N (Q:={ Q with Oi:=V8 _ }) u R g A k m F (c.px U B) rfl p8 Y E hc P (by rw[X];simp[wlx];omega)))
def Ala:List (List Nat):=[[105,100,101,110,116,105,116,121],[112,114,101,102,105,120],[116,114,101,101]]
def Bw6(c:Al5 Z)(g:AlT Z)(s:Nat)(P:s<3)(w:List Nat)(j:Ala[s]?=some w)(A:∃t,l[n]?=some t/\AeT t (.kw w))(u:AV):
 ∀(k i m:Nat) (hd:H) (ve vo vm:AV) (f0:L2),i+k=s->k<m->PQ b v l n e Q ve vo vm hd->Ig hd u Ala->(∀G off n cap z ex,u=.sl G off n cap z ex->G≠b) ->
  Ah H0 (A0W b v l e hd ((n+1:Nat):Int) { Q with c9:=(s:Int) } (λr=>r=.Bj [])) (A4o Z N m (.ptr b 0) u (iI 3) (iI i) f0 hd)
 |k,i,m,hd,ve,vo,vm,f0,Qd,hm,p,hu,R=>by obtain⟨m1,rfl⟩:∃m1,m=m1+1:=⟨m-1,by omega⟩;rw[Bm1];have O:decide ((i:Int)<3)=true:=dt;obtain⟨w',a⟩:∃w',Ala[i]?=some w':=⟨_,Xs (show i<Ala.length by simp[Ala];omega)⟩;obtain⟨b1,o1,F⟩:=R0.elem (f:=Aeb) (s:=1) (λ_=>rfl) hu a;have K:=F.ia;have I:=F.part 0 _ rfl;rw[Mz]at I;clear F;refine wk ?_;cases k with
  |zero=>
   obtain rfl:i=s:=by omega
   obtain rfl:w'=w:=by rw[a]at j;exact Ck j
   refine Alq Z c p (Al9 rfl A) λJ W L=>?_;refine A9 ?_;refine AfV (Q':={ Q with c9:=(i:Int) }) L λh5 S T=>?_;exact zr (Ed _) ⟨PX.trans W S,⟨ve,vo,vm,T⟩,rfl⟩
  |succ k=>
   have M:w'≠w:=by
    intro y;subst y;have V:Ala[i]?=Ala[s]?:=a.trans j.symm;have hi:i=0\/i=1:=by omega
    have E:s=1\/s=2:=by omega
    rcases hi with rfl|rfl<;>rcases E with rfl|rfl<;>first|omega|(revert V;decide)
   have B:AfM l n w'=false:=Agw A (λy=>M y.symm);refine Fj (g b v l n e 0 _ w' hd p.p B) λX J e4 Y x U=>?_;subst U;refine Ba ?_;clear K I O x;refine wk ?_;rw[show(i:Int)+1=((i+1:Nat):Int)by omega];refine A2c (PX.gr (PX.refl hd) e4) ?_;exact Bw6 c g s P w j A u k (i+1) m1 J ve vo vm _ om om (p.gr e4) (hu.gr e4) R
abbrev Bsq:L3:=.sg [46,46]
abbrev An9:L3:=.sg [44]
abbrev AjV:L3:=.kw [117,115,105,110,103]
def rlx(r:Int × Int):List L3:=ilx r.1++Bsq::ilx r.2
def rsx:List (Int × Int)->List L3
|[]=>[]
|[r]=>rlx r
|r::a::rs=>rlx r++An9::rsx (a::rs)
def PX.Rc{c}(g:PX b (Ab h) c):PX b h c:=by have⟨X,g⟩:=g;have a:Ai ..:=g;exact⟨X,⟨a.lo,a.Cf,λx f=>(a.lg x f).imp λh1=>by simp_all id⟩⟩
def Bjh{s lo len}{et}{v}{c}(j:Fm s lo et h v len c)(a:b<h.nx)(hn:∀st,h.m.get b≠.Fb st)(g:b<lo)(e:PX b h h1)(f:len=0->v=.Bv):Fm s lo et h1 v len c:=
 e.elim λ_ e=>Azb j a hn g e f
def Bat(Z:Ac)(N:Nat)(b:Nat)(v:AV)(l:List Tok)(e:Int)(Q:Qr)(h:H)(s:Nat)(w:List Nat)(m:Nat)(r:Int × Int)(rs:List (Int × Int)):Prop:=
 ∀(a:List (Int × Int)) (n:Nat) (hd:H) (ve vo vm:AV) (f0:L2),PX b h hd->PQ b v l n e { Q with ord:=a } ve vo vm hd->Fm 2 h.nx 33 hd vo a.length (a.flatMap Zd)->a.length+rs.length<=60 ->
  (∀x∈r::rs,Sml x.1/\Sml x.2)->AaO l n (rsx (r::rs)++[AjV,.kw w]) ->
  Ah H0 (A0W b v l e h ((n+(rsx (r::rs)).length+1+1:Nat):Int) { Q with ord:=a++r::rs,c9:=(s:Int) } (λr=>r=.Bj [])) (A4k Z N m (.ptr b 0) f0 hd)
def Bhk(hN:10<N)(Y:Bav Z)(Aff:AmR Z)(U:Al5 Z)(Af9:AlT Z){s:Nat}(hs:s<3){w:List Nat}(hw:Ala[s]?=some w)(M:b<h.nx)(hcd:Q.code=[])(P:Q.E9=[]){m:Nat}(r:Int × Int)(rs:List (Int × Int))(ih:∀k f,rs=k::f->Bat Z N b v l e Q h s w m k f):Bat Z N b v l e Q h s w (m+1) r rs:=by
 intro a n hd ve vo vm f0 g p hO hl hR ha;rw[Bm0];have hra:∃tl,rsx (r::rs)++[AjV,.kw w]=rlx r++tl/\(tl=[AjV,.kw w]/\rs=[]\/∃k f,rs=k::f/\tl=An9::(rsx (k::f)++[AjV,.kw w])):=by
  cases rs with
  |nil=>exact⟨_,rfl,.inl ⟨rfl,rfl⟩⟩
  |cons k f=>exact⟨An9::(rsx (k::f)++[AjV,.kw w]),by simp[rsx],.inr ⟨k,f,rfl,rfl⟩⟩
 obtain⟨tl,htl,Al8⟩:=hra;rw[htl]at ha;obtain⟨ha0,u⟩:=AaO.app.1 ha;obtain⟨ha1,ha2,ha3⟩:=AaO.app.1 ha0;have hr1:=(hR r (Uq ..)).1;have V:=(hR r (Uq ..)).2;have hln:n+(rlx r).length=n+(ilx r.1).length+1+(ilx r.2).length:=by simp[rlx];omega
 rw[hln]at u;have hg:=p.p.get;have B6:=p.p.lt;have hlen:∀I,Fo vo I=.ok (iI (a.length:Int)) I:=λ_=>p.q.o.sl.Gs;have k1:decide ((64:Int)<=(a.length:Int))=false:=df;have hve:ve=.Bv:=by rcases p.q.c with⟨_,h1⟩|⟨h1,_⟩;exact h1;exact absurd hcd h1
 have hvm:vm=.Bv:=by rcases p.q.m with⟨_,h1⟩|⟨h1,_⟩;exact h1;exact absurd P h1
 have hz0:=p.z;subst hve;subst hvm;refine wk ?_;rw[Bmo];clear hlen k1 hg;refine Axk Z Y p ha1 hr1.1 hr1.2 λh2 g2 p2=>?_;refine Ahu Z Aff p2 (Bec rfl ha2) λy g3 p3=>?_;have R:PX b hd y:=PX.trans g2 g3;have F:=p3.p.get;have Bvt:=p3.p.lt;refine wk ?_;refine Axk Z Y (p3.gr (Ai.refl y).nl) ha3 V.1 V.2 λj g4 p4=>?_;have G:PX b hd j:=PX.trans R (PX.Rc (PX.Rc g4));have E:=p4.p.get;have W:=p4.p.lt;have B9i:=G.elim λ_ g=>g.lo;have hnh:=g.elim λ_ g=>g.lo;have o4:=Bjh hO p.p.lt p.p.Atm M G hz0;refine wk ?_;have O:Ai j (Ab ((Ab j).new (.cells [iI r.1,iI r.2] 33 .exact))):=((Ai.refl j).nl.new _).nl;have oN:=o4.gr O;have Z3:Sl 2 (Ab ((Ab j).new (.cells [iI r.1,iI r.2] 33 .exact))) (.sl j.nx 0 1 1 2 true) 1 [iI r.1,iI r.2]:=(Sl.lit (h:=Ab j) (Bf _) rfl rfl).gr (Ai.refl _).nl;obtain⟨v',h',q1,q2,q3,q4,q5⟩:=Fm.AbQ (bytes:=16) (lo:=h.nx) oN Z3.src (by rfl) om (by rfl) (by show h.nx<=j.nx+1;omega)
 have gP:h'.m.get b=psC v ((n+(ilx r.1).length+1+(ilx r.2).length:Nat):Int) e 0 (qc { Q with ord:=a } .Bv vo .Bv):=by rw[q5 b M,O.Cf b W];exact E
 have wP:∀x∈h'.lg,h.nx<=x:=by
  have g0:Ai ⟨j.m,h.nx,[]⟩ (Ab ((Ab j).new (.cells [iI r.1,iI r.2] 33 .exact))):=(Ai.new (h:=⟨j.m,h.nx,[]⟩) (h1:=Ab j) ⟨by show h.nx<=j.nx;omega,λb M=>rfl,λx A=>by cases A⟩ _).nl
  intro x A;rcases(q3 ⟨j.m,h.nx,[]⟩ (Yw _) g0).lg x A with y|y
  .cases y
  .exact y
 have lP:j.nx+1<=h'.nx:=q2.lo;have w4:∀x∈wrote y.nx j.lg,x=b:=by obtain⟨X,S⟩:=g4;exact PG.wrote (h:=Ab y) S
 have T:PX b h h':=by obtain⟨X,S⟩:=PX.trans g G;exact⟨X,q3 (h.put b X) (Yw _) (Ai.trans S O)⟩
 have p':PsR b v l ((n+(ilx r.1).length+1+(ilx r.2).length:Nat):Int) e 0 (qc { Q with ord:=a } .Bv vo .Bv) h':=(p4.p.gr O).kp q2 (gP.trans (by rw[O.Cf b W];exact E.symm));obtain⟨r1,r2⟩:=B2 q4.sl;refine Ey q1 ?_;have A8G:=p'.lt;clear q1;refine wk ?_;refine Acx b b h.nx ?_ λL hL=>?_
 .simp only[Tl,Pl,Ju,G4,Jj];repeat' (refine And.intro ?_ ?_)
  all_goals first|(left;rfl)|(left;simp;done)|(refine .inr ⟨λx A=>?_,?_⟩;(focus first|exact .inl (w4 x A)|(refine .inr (.inr ?_);exact wP _ (D4 _ _ _ A).1)|(refine .inr (.inl ?_);have B:=(D4 _ _ _ A).1;simp at B;exact B));(repeat' (refine And.intro ?_ ?_));all_goals first|(exact Ar ..)|(refine Ax _ _ _ _ _ _ _ _ _ _ _ _ ?_;decide)|exact Ci ..|exact Dk (tk:=b) w4 Ce (.inl rfl)|exact BmD (tk:=b) (v:=vo) w4 Ce (by show cellAt (y.m.get b) _ _=_;rw[F];rfl) (by show cellAt (y.m.get b) _ _=cellAt (j.m.get b) _ _;rw[F,E];rfl) (Jh B5 F))
 .generalize hE:Be L _=B;have pP:PQ b v l ((n+(ilx r.1).length+1+(ilx r.2).length:Nat):Int) e { Q with ord:=a++[r] } .Bv v' .Bv B/\Fm 2 h.nx 33 B v' (a++[r]).length ((a++[r]).flatMap Zd)/\PX b h B:=by
   rw[<- hE];have f2:PG b (psC v ((n+(ilx r.1).length+1+(ilx r.2).length:Nat):Int) e 0 (qc { Q with ord:=a++[r] } .Bv v' .Bv)) (Ab h') ((Ab h').put b (psC v ((n+(ilx r.1).length+1+(ilx r.2).length:Nat):Int) e 0 (qc { Q with ord:=a++[r] } .Bv v' .Bv))):=(PG.refl rfl).put _;have pn:PsR b v l ((n+(ilx r.1).length+1+(ilx r.2).length:Nat):Int) e 0 (qc { Q with ord:=a } .Bv vo .Bv) (Ab h'):=p'.gr (Ai.refl h').nl;have pF:=(pn.pg f2 om rfl).reL L;have e1:(a++[r]).length=a.length+1:=by simp
   have e2:(a++[r]).flatMap Zd=a.flatMap Zd++[iI r.1,iI r.2]:=by simp[Qm]
   have oF:Fm 2 h.nx 33 (Be L ((Ab h').put b (psC v ((n+(ilx r.1).length+1+(ilx r.2).length:Nat):Int) e 0 (qc { Q with ord:=a++[r] } .Bv v' .Bv)))) v' (a++[r]).length ((a++[r]).flatMap Zd):=by rw[e1,e2];exact Fm.rl (Azb (q4.gr (Ai.refl h').nl) pn.lt pn.Atm M f2 (λI=>by omega))
   refine⟨⟨pF,⟨.inl ⟨hcd,rfl⟩,Yp oF M,.inl ⟨P,rfl⟩⟩,λI=>by rw[e1]at I;omega⟩,oF,?_⟩;obtain⟨X,S⟩:=PX.trans g R;obtain⟨X',gX'⟩:=T;refine⟨psC v ((n+(ilx r.1).length+1+(ilx r.2).length:Nat):Int) e 0 (qc { Q with ord:=a++[r] } .Bv v' .Bv),PG.reL S ((gX'.gr (Ai.refl h').nl).put _) λz B=>?_⟩;rcases hL z B with h1|h1|h1|h1
   .exact .inl h1
   .exact .inr (.inl h1)
   .exact .inr (.inl h1)
   .exact .inr (.inr h1)
  obtain⟨pZ,oZ,gZ⟩:=pP;clear hE hL p' T wP gP q5 q3 q2 oN O Z3 w4 p4 p3 p2 p;rcases Al8 with⟨rfl,rfl⟩|⟨k,f,rfl,rfl⟩
  .refine AlZ Z Af9 pZ (Agw u.1 (by simp[Amm])) λh6 g6 p6=>?_;refine wk ?_;refine Ahu Z Aff p6 (Al9 rfl u.1) λJ g7 p7=>?_;have hl7:=p7.p.lt;refine wk ?_;refine A2c (PX.trans gZ (PX.trans g6 (PX.trans g7 (PX.gr (PX.refl J) ((Ai.refl J).new (.cells [.str [105,100,101,110,116,105,116,121],.str [112,114,101,102,105,120],.str [116,114,101,101]] 9 .exact)))))) ?_;have K:n+(rsx [r]).length+1+1=n+(ilx r.1).length+1+(ilx r.2).length+1+1:=by simp[rsx,rlx];omega
   rw[K];have hx1:Ig (J.new (.cells [.str [105,100,101,110,116,105,116,121],.str [112,114,101,102,105,120],.str [116,114,101,101]] 9 .exact)) (.sl J.nx 0 3 3 1 true) Ala:=Sl.lit (h:=J) (Bf _) rfl rfl;have hx2:∀b' off n' cap z ex,AV.sl J.nx 0 3 3 1 true=.sl b' off n' cap z ex->b'≠b:=λb' off n' cap z ex hv=>by cases hv;omega
   exact(Bw6 Z N U Af9 s hs w hw u.2.1 (.sl J.nx 0 3 3 1 true) s 0 N _ .Bv v' .Bv _ om om (p7.gr Ex) hx1 hx2)
  .refine Alq Z U pZ (Bec rfl u.1) λh6 g6 p6=>?_;refine wk ?_;have oG:=Bjh oZ pZ.p.lt pZ.p.Atm M g6 (λI=>by simp at I);have K:n+(rsx (r::k::f)).length+1+1=n+(ilx r.1).length+1+(ilx r.2).length+1+(rsx (k::f)).length+1+1:=by simp[rsx,rlx];omega
   have hQ:a++r::k::f=(a++[r])++k::f:=by simp
   rw[K,hQ];exact ih k f rfl (a++[r]) _ h6 .Bv v' .Bv _ (PX.trans gZ g6) p6 oG (by simp at hl ⊢;omega) (λx A=>hR x (Vo _ A)) u.2
def BdO(y:10<N)(k:Bav Z)(j:AmR Z)(f:Al5 Z)(c:AlT Z){s}(z:s<3){w}(x:Ala[s]?=some w)(p:b<h.nx)(g:Q.code=[])(a:Q.E9=[]):∀rs r m,rs.length<m->Bat Z N b v l e Q h s w m r rs
|[],r,m,hm=>by obtain⟨m1,rfl⟩:∃m1,m=m1+1:=⟨m-1,by omega⟩;exact Bhk Z N y k j f c z x p g a r _ λB u A=>by grind
|r1::rs,r,m,hm=>by obtain⟨m1,rfl⟩:∃m1,m=m1+1:=⟨m-1,by omega⟩;exact Bhk Z N y k j f c z x p g a r _ λB u A=>by cases A;exact BdO y k j f c z x p g a _ _ _ (by grind)
def blx(s6:List Nat)(rs:List (Int × Int))(w:List Nat):List L3:=.nm s6::(rsx rs++[AjV,.kw w])
def B2M(S:100<N)(u:Bau Z)(E:Bav Z)(B:AmR Z)(f:Al5 Z)(j:AlT Z){s:Nat}(J:s<3){w s6:List Nat}(P:Ala[s]?=some w){rs:List (Int × Int)}(R:rs≠[])(M:rs.length<=60)(I:∀x∈rs,Sml x.1/\Sml x.2)(p:PQ b v l n e Q ve vo vm h)(y:Q.code=[])(g:Q.E9=[])(L:Q.ord=[])(K:AaO l n (blx s6 rs w)):
 Stp b v l e h ((n+(blx s6 rs w).length:Nat):Int) { Q with c0:=10,s6:=s6,ord:=rs,c9:=(s:Int) } (λr=>r=.Bj []) (Ay prog Z N false 162 [.ptr b 0] h):=by
 unfold Stp;rw[Bzn];obtain⟨k,m⟩:=K;obtain⟨r,a,rfl⟩:∃r a,rs=r::a:=by cases rs with|nil=>simp_all|cons r a=>simp_all
 refine Bcv (u b v l n e Q ve vo vm h 10 s6 p ⟨k,trivial⟩) λh1 ve vo vm O A=>?_;refine A2c O ?_;have c:vo=.Bv:=A.z (by simp_all);subst c;have F:=BdO Z N om E B f j J P (Q:={ Q with c0:=10,s6:=s6 }) (e:=e) (v:=v) (l:=l) A.p.lt y g a r N (by grind) [] (n+1) h1 ve .Bv vm (fz Az [5,6] [.ptr b 0,.Bj []]) (PX.refl _);have G:{ { Q with c0:=10,s6:=s6 }with ord:=[] }={ Q with c0:=10,s6:=s6 }:=by simp_all
 rw[G]at F;have:=F A (Fm.nil ..) (by grind) I m;rw[show n+(blx _ _ w).length=n+1+(rsx (r::a)).length+1+1 by simp[blx];omega]
 grind
def kdW:List (List Nat × FuncId):=[([99,111,117,110,116],153),([115,117,109],154),([104,105,115,116,111,103,114,97,109],155),([116,111,116,97,108],156),([113,117,97,110,116,105,108,101],157),([109,111,100,101],158),([97,98,111,118,101],159),([112,101,97,107],160),([114,117,110,110,105,110,103],161),([98,97,116,99,104],162)]
abbrev kdE(n:Nat):List (AV × AV):=(kdW.take n).map λp=>(.str p.1,.fn (.func p.2) [] [])
abbrev kS(k:List Nat)(g:FuncId)(es:List (AV × AV)):Option (List (AV × AV)):=Z7 (Gy prog 9 (.str k)) (.str k) (.fn (.func g) [] []) es
def ks0:kS [99,111,117,110,116] 153 []=some [(.str [99,111,117,110,116],.fn (.func 153) [] [])]:=rfl
def ks1:kS [115,117,109] 154 [(.str [99,111,117,110,116],.fn (.func 153) [] [])]=some [(.str [99,111,117,110,116],.fn (.func 153) [] []),(.str [115,117,109],.fn (.func 154) [] [])]:=rfl
def ks2:kS [104,105,115,116,111,103,114,97,109] 155 [(.str [99,111,117,110,116],.fn (.func 153) [] []),(.str [115,117,109],.fn (.func 154) [] [])]=some [(.str [99,111,117,110,116],.fn (.func 153) [] []),(.str [115,117,109],.fn (.func 154) [] []),(.str [104,105,115,116,111,103,114,97,109],.fn (.func 155) [] [])]:=rfl
def ks3:kS [116,111,116,97,108] 156 [(.str [99,111,117,110,116],.fn (.func 153) [] []),(.str [115,117,109],.fn (.func 154) [] []),(.str [104,105,115,116,111,103,114,97,109],.fn (.func 155) [] [])]=some [(.str [99,111,117,110,116],.fn (.func 153) [] []),(.str [115,117,109],.fn (.func 154) [] []),(.str [104,105,115,116,111,103,114,97,109],.fn (.func 155) [] []),(.str [116,111,116,97,108],.fn (.func 156) [] [])]:=rfl
def ks4:kS [113,117,97,110,116,105,108,101] 157 [(.str [99,111,117,110,116],.fn (.func 153) [] []),(.str [115,117,109],.fn (.func 154) [] []),(.str [104,105,115,116,111,103,114,97,109],.fn (.func 155) [] []),(.str [116,111,116,97,108],.fn (.func 156) [] [])]=some [(.str [99,111,117,110,116],.fn (.func 153) [] []),(.str [115,117,109],.fn (.func 154) [] []),(.str [104,105,115,116,111,103,114,97,109],.fn (.func 155) [] []),(.str [116,111,116,97,108],.fn (.func 156) [] []),(.str [113,117,97,110,116,105,108,101],.fn (.func 157) [] [])]:=rfl
def ks5:kS [109,111,100,101] 158 [(.str [99,111,117,110,116],.fn (.func 153) [] []),(.str [115,117,109],.fn (.func 154) [] []),(.str [104,105,115,116,111,103,114,97,109],.fn (.func 155) [] []),(.str [116,111,116,97,108],.fn (.func 156) [] []),(.str [113,117,97,110,116,105,108,101],.fn (.func 157) [] [])]=some [(.str [99,111,117,110,116],.fn (.func 153) [] []),(.str [115,117,109],.fn (.func 154) [] []),(.str [104,105,115,116,111,103,114,97,109],.fn (.func 155) [] []),(.str [116,111,116,97,108],.fn (.func 156) [] []),(.str [113,117,97,110,116,105,108,101],.fn (.func 157) [] []),(.str [109,111,100,101],.fn (.func 158) [] [])]:=rfl
def ks6:kS [97,98,111,118,101] 159 [(.str [99,111,117,110,116],.fn (.func 153) [] []),(.str [115,117,109],.fn (.func 154) [] []),(.str [104,105,115,116,111,103,114,97,109],.fn (.func 155) [] []),(.str [116,111,116,97,108],.fn (.func 156) [] []),(.str [113,117,97,110,116,105,108,101],.fn (.func 157) [] []),(.str [109,111,100,101],.fn (.func 158) [] [])]=some [(.str [99,111,117,110,116],.fn (.func 153) [] []),(.str [115,117,109],.fn (.func 154) [] []),(.str [104,105,115,116,111,103,114,97,109],.fn (.func 155) [] []),(.str [116,111,116,97,108],.fn (.func 156) [] []),(.str [113,117,97,110,116,105,108,101],.fn (.func 157) [] []),(.str [109,111,100,101],.fn (.func 158) [] []),(.str [97,98,111,118,101],.fn (.func 159) [] [])]:=rfl
def ks7:kS [112,101,97,107] 160 [(.str [99,111,117,110,116],.fn (.func 153) [] []),(.str [115,117,109],.fn (.func 154) [] []),(.str [104,105,115,116,111,103,114,97,109],.fn (.func 155) [] []),(.str [116,111,116,97,108],.fn (.func 156) [] []),(.str [113,117,97,110,116,105,108,101],.fn (.func 157) [] []),(.str [109,111,100,101],.fn (.func 158) [] []),(.str [97,98,111,118,101],.fn (.func 159) [] [])]=some [(.str [99,111,117,110,116],.fn (.func 153) [] []),(.str [115,117,109],.fn (.func 154) [] []),(.str [104,105,115,116,111,103,114,97,109],.fn (.func 155) [] []),(.str [116,111,116,97,108],.fn (.func 156) [] []),(.str [113,117,97,110,116,105,108,101],.fn (.func 157) [] []),(.str [109,111,100,101],.fn (.func 158) [] []),(.str [97,98,111,118,101],.fn (.func 159) [] []),(.str [112,101,97,107],.fn (.func 160) [] [])]:=rfl
def ks8:kS [114,117,110,110,105,110,103] 161 [(.str [99,111,117,110,116],.fn (.func 153) [] []),(.str [115,117,109],.fn (.func 154) [] []),(.str [104,105,115,116,111,103,114,97,109],.fn (.func 155) [] []),(.str [116,111,116,97,108],.fn (.func 156) [] []),(.str [113,117,97,110,116,105,108,101],.fn (.func 157) [] []),(.str [109,111,100,101],.fn (.func 158) [] []),(.str [97,98,111,118,101],.fn (.func 159) [] []),(.str [112,101,97,107],.fn (.func 160) [] [])]=some [(.str [99,111,117,110,116],.fn (.func 153) [] []),(.str [115,117,109],.fn (.func 154) [] []),(.str [104,105,115,116,111,103,114,97,109],.fn (.func 155) [] []),(.str [116,111,116,97,108],.fn (.func 156) [] []),(.str [113,117,97,110,116,105,108,101],.fn (.func 157) [] []),(.str [109,111,100,101],.fn (.func 158) [] []),(.str [97,98,111,118,101],.fn (.func 159) [] []),(.str [112,101,97,107],.fn (.func 160) [] []),(.str [114,117,110,110,105,110,103],.fn (.func 161) [] [])]:=rfl
def ks9:kS [98,97,116,99,104] 162 [(.str [99,111,117,110,116],.fn (.func 153) [] []),(.str [115,117,109],.fn (.func 154) [] []),(.str [104,105,115,116,111,103,114,97,109],.fn (.func 155) [] []),(.str [116,111,116,97,108],.fn (.func 156) [] []),(.str [113,117,97,110,116,105,108,101],.fn (.func 157) [] []),(.str [109,111,100,101],.fn (.func 158) [] []),(.str [97,98,111,118,101],.fn (.func 159) [] []),(.str [112,101,97,107],.fn (.func 160) [] []),(.str [114,117,110,110,105,110,103],.fn (.func 161) [] [])]=some [(.str [99,111,117,110,116],.fn (.func 153) [] []),(.str [115,117,109],.fn (.func 154) [] []),(.str [104,105,115,116,111,103,114,97,109],.fn (.func 155) [] []),(.str [116,111,116,97,108],.fn (.func 156) [] []),(.str [113,117,97,110,116,105,108,101],.fn (.func 157) [] []),(.str [109,111,100,101],.fn (.func 158) [] []),(.str [97,98,111,118,101],.fn (.func 159) [] []),(.str [112,101,97,107],.fn (.func 160) [] []),(.str [114,117,110,110,105,110,103],.fn (.func 161) [] []),(.str [98,97,116,99,104],.fn (.func 162) [] [])]:=rfl
def Bt6:Prop:=∀(h:H),Ah h (λr h1=>∃m,r=.map m/\h1.m.get m=.map (kdE 10)/\h.nx<=m/\m<h1.nx) (Z.call 103 [] h)
def B2y:Ah h (λr h1=>∃m,r=.map m/\h1.m.get m=.map (kdE 10)/\h.nx<=m/\m<h1.nx) (Ay prog Z N true 103 [] h):=by rw[ByP];have z0:=ks0;have c:=ks1;have k:=ks2;have u:=ks3;have j:=ks4;have a:=ks5;have w:=ks6;have p:=ks7;have g:=ks8;have f:=ks9;refine wk ?_;refine zr Ex ⟨h.nx,rfl,?_,Yw _,Ce⟩;simp(disch:=first|exact Ce|fail) [kdE,kdW]
def lk0:M1 (Gy prog 9 (.str [99,111,117,110,116])) (kdE 10)=some (some (.fn (.func 153) [] [])):=rfl
def lk1:M1 (Gy prog 9 (.str [115,117,109])) (kdE 10)=some (some (.fn (.func 154) [] [])):=rfl
def lk2:M1 (Gy prog 9 (.str [104,105,115,116,111,103,114,97,109])) (kdE 10)=some (some (.fn (.func 155) [] [])):=rfl
def lk3:M1 (Gy prog 9 (.str [116,111,116,97,108])) (kdE 10)=some (some (.fn (.func 156) [] [])):=rfl
def lk4:M1 (Gy prog 9 (.str [113,117,97,110,116,105,108,101])) (kdE 10)=some (some (.fn (.func 157) [] [])):=rfl
def lk5:M1 (Gy prog 9 (.str [109,111,100,101])) (kdE 10)=some (some (.fn (.func 158) [] [])):=rfl
def lk6:M1 (Gy prog 9 (.str [97,98,111,118,101])) (kdE 10)=some (some (.fn (.func 159) [] [])):=rfl
def lk7:M1 (Gy prog 9 (.str [112,101,97,107])) (kdE 10)=some (some (.fn (.func 160) [] [])):=rfl
def lk8:M1 (Gy prog 9 (.str [114,117,110,110,105,110,103])) (kdE 10)=some (some (.fn (.func 161) [] [])):=rfl
def lk9:M1 (Gy prog 9 (.str [98,97,116,99,104])) (kdE 10)=some (some (.fn (.func 162) [] [])):=rfl
def BvV:∀k (a:k<10),M1 (Gy prog 9 (.str (kdW.getD k ([],0)).1)) (kdE 10)=some (some (.fn (.func (kdW.getD k ([],0)).2) [] []))
|0,_=>lk0
|1,_=>lk1
|2,_=>lk2
|3,_=>lk3
|4,_=>lk4
|5,_=>lk5
|6,_=>lk6
|7,_=>lk7
|8,_=>lk8
|9,_=>lk9
|n+10,h=>absurd h om
variable {C:Nat->Ac}{D:Nat}{Ab2:Dom}{q0:Qr}{A1:List Cl}
def BkA(a:wt t<=Sd 3):size t<=121/\hgt t<=4:=⟨Vr (Af3 t) (Vr a fe),BhN a⟩
def Bh6(U:Abu C)(a:E7 Ab2 false t)(f:wt t<=Sd 3)(g:8000<=D):∃d,Baw (λb h=>(C D).call 255 [.ptr b 0] h) t (wr t) d:=by have⟨_,_⟩:=BkA f;have⟨d,m,_,_,c⟩:=A2B a (AmD a);exact⟨d,A8U U c D om,by omega,by rw[Ao];omega⟩
def Bh1(U:Abu C)(a:E7 Ab2 true t)(f:wt t<=Sd 3)(g:8000<=D):∃d,Reads (λb h=>(C D).call 168 [.ptr b 0] h) .cd t (wr t) d/\d<=50/\t.nodes.length<=200:=by have⟨_,_⟩:=BkA f;have⟨d,m,_,_,c⟩:=Bki a (AmD a);exact⟨d,A8U U c D om,by omega,by rw[Ao];omega⟩
def BoL(U:Abu C){g}{nt}(c:Reads (λb h=>Ay prog (C d) N0x true 167 [.ptr b 0,.fn (.func g) [.ptr b 0] []] h) nt t xs n):Reads (λb h=>(C (d+1)).call 167 [.ptr b 0,.fn (.func g) [.ptr b 0] []] h) nt t xs n:=
 λb v l n e o q h p a f h0 hd j=>upP U (c b v l n e o q h p a f h0 hd j)
def Buj:Bg prog 255=true:=rfl
def Bui:Bg prog 168=true:=rfl
def BuO(U:Abu C)(f:E7 Ab2 false t)(a:wt t<=Sd 3)(j:8001<=D):∃d,Baw (λb h=>(C D).call 167 [.ptr b 0,.fn (.func 255) [.ptr b 0] []] h) t (wr t) d:=by obtain⟨e,rfl,c⟩:=prL j;have⟨d,h1,h2,g⟩:=Bh6 U f a c;exact⟨d,BoL U (Bw3 _ _ Buj (Bnv U om) h1),h2,g⟩
def Bu3(U:Abu C)(f:E7 Ab2 true t)(a:wt t<=Sd 3)(j:8001<=D):Ab0 (λb h=>(C D).call 167 [.ptr b 0,.fn (.func 168) [.ptr b 0] []] h) t.nodes (Al7::wr t):=by obtain⟨e,rfl,c⟩:=prL j;have⟨d,h1,h2,g⟩:=Bh1 U f a c;exact .ok (BoL U (Bw3 _ _ Bui (Bnv U om) h1)) h2 g
def B1V(U:Abu C)(m:E7 Ab2 false t)(g:wt t<=Sd 3)(r:8002<=D):Bhd (C D) t (wr t):=by obtain⟨e,rfl,j⟩:=prL r;have⟨d,h1⟩:=BuO U m g j;exact λb v l n e' Q ve vo vm h k lo hi p f c a=>Gp U (B3a _ _ (A8A U om) (Bwt U om) h1 p f c a)
def B1W(U:Abu C)(a:4<=D):Bau (C D):=by obtain⟨e,rfl,f⟩:=prL a;exact λb v l n e' Q ve vo vm h k s p c=>Gp U (B3b _ _ (Bnw U om) p c)
def B1H(U:Abu C)(m:8002<=D){ms}(c:∀E,8001<=E->Ab0 (λb h=>(C E).call 167 [.ptr b 0,.fn (.func 168) [.ptr b 0] []] h) ms xs):Bpd (C D) ms xs:=by obtain⟨e,rfl,j⟩:=prL m;exact λb v l n e' Q Q' ve vo vm h p k f g hj a=>Gp U (B20 _ _ (A8D U om) (BdX U om) (A8A U om) (Bnw U om) (Bwm U om) (c e j) p k f g hj a)
def z0:Qr:=⟨0,[],0,0,0,0,[],0,[],0,false,[],0,[],[],[],0,[],[],0⟩
def kQ(Q:Qr):Qr:={ z0 with c0:=Q.c0,code:=Q.code,c2:=Q.c2,c3:=Q.c3,c4:=Q.c4,c5:=Q.c5,s6:=Q.s6,c7:=Q.c7,ord:=Q.ord,c9:=Q.c9 }
def kbx(Q:Qr)(xs:List L3):List L3:=
 if Q.c0=1 then[]else if Q.c0=2 then vlx xs Q.c2 Q.c3 else if Q.c0=4 then vlx xs Q.c2 Q.c3++[Bij,.nm Q.s6]
 else if Q.c0=5 then[.nu Q.c4,A1X,.nu Q.c5,Bin]++vlx xs Q.c2 Q.c3 else if Q.c0=7 then ilx Q.c7++[.nm Q.s6]
 else if Q.c0=10 then blx Q.s6 Q.ord (Ala.getD Q.c9.toNat [])else[.nm Q.s6]
abbrev kno(Q:Qr):Nat:=(Q.c0-1).toNat
def Bb7(U:Abu C)(P:8003<=D)(kv:KV A1 q0 Q)(hk:1<=Q.c0/\Q.c0<=10)(M:∀x∈Q.ord,Sml x.1/\Sml x.2)(hc:Q.code≠[]->∃t,E7 Ab2 false t/\wt t<=Sd 3/\Q.code=t.nodes/\xs=wr t)(p:PQ b v l n e z0 ve vo vm h)(c:AaO l n (kbx Q xs)):
 Stp b v l e h ((n+(kbx Q xs).length:Nat):Int) (kQ Q) (λr=>r=.Bj []) ((C D).call (kdW.getD (kno Q) ([],0)).2 [.ptr b 0] h):=by
 obtain⟨e',rfl,R⟩:=prL P;have z:=A8A (D:=e') U om;have G:=Bnw (D:=e') U om;have K:=Bnx (D:=e') U om;have j:=B1W (D:=e') U om;have F:=Bwt (D:=e') U om;have J:Q.c0=2\/Q.c0=4\/Q.c0=5->∃t,Bhd (C e') t xs/\Q.code=t.nodes/\Sml Q.c2/\Sml Q.c3:=λL=>by obtain⟨O,k2,k3,Y⟩:=kv.AyG L;obtain⟨t,t1,t2,t3,rfl⟩:=hc O;exact⟨t,B1V U t1 t2 R,t3,⟨by omega,by omega⟩,⟨by omega,by omega⟩⟩
 have y:∀k:Nat,Q.c0=(k:Int)+1->kno Q=k:=λk L=>by show(Q.c0-1).toNat=k;omega
 have I:Q.c0=1\/Q.c0=2\/Q.c0=3\/Q.c0=4\/Q.c0=5\/Q.c0=6\/Q.c0=7\/Q.c0=8\/Q.c0=9\/Q.c0=10:=by omega
 rcases I with h0|h0|h0|h0|h0|h0|h0|h0|h0|h0
 .rw[y 0 om];have e1:=kv.A47 om om om;have f:=kv.pq1 om;have A:=kv.Bcp om;have e4:=kv.bd1 om;have g:=kv.Bdd om;have a:kbx Q xs=[]:=by simp[kbx,h0]
  have hq:({ z0 with c0:=1 }:Qr)=kQ Q:=by simp[kQ,z0,h0,e1,f,A,e4,g]
  rw[a,<- hq];exact Gp U (B2D (C e') N0x p)
 .rw[y 1 om];obtain⟨t,w,u,B,m⟩:=J om;have f:=kv.pq1 om;have A:=kv.Bcp om;have e4:=kv.bd1 om;have g:=kv.Bdd om;have a:kbx Q xs=vlx xs Q.c2 Q.c3:=by simp[kbx,h0]
  have hq:({ z0 with c0:=2,code:=t.nodes,c2:=Q.c2,c3:=Q.c3 }:Qr)=kQ Q:=by simp[kQ,z0,h0,u,f,A,e4,g]
  rw[a]at c ⊢;rw[<- hq];exact Gp U (B2E (C e') N0x w p c B m)
 .rw[y 2 om];have e1:=kv.A47 om om om;have f:=kv.pq1 om;have e4:=kv.bd1 om;have g:=kv.Bdd om;have a:kbx Q xs=[.nm Q.s6]:=by simp[kbx,h0]
  have hq:({ z0 with c0:=3,s6:=Q.s6 }:Qr)=kQ Q:=by simp[kQ,z0,h0,e1,f,e4,g]
  rw[a]at c ⊢;rw[<- hq];exact Gp U (B2F (C e') N0x j p c)
 .rw[y 3 om];obtain⟨t,w,u,B,m⟩:=J om;have f:=kv.pq1 om;have e4:=kv.bd1 om;have g:=kv.Bdd om;have a:kbx Q xs=vlx xs Q.c2 Q.c3++[Bij,.nm Q.s6]:=by simp[kbx,h0]
  have hq:({ z0 with c0:=4,code:=t.nodes,c2:=Q.c2,c3:=Q.c3,s6:=Q.s6 }:Qr)=kQ Q:=by simp[kQ,z0,h0,u,f,e4,g]
  rw[a]at c ⊢;rw[<- hq,show n+(vlx xs Q.c2 Q.c3++[Bij,.nm Q.s6]).length=n+(vlx xs Q.c2 Q.c3).length+1+1 by simp;omega]
  exact Gp U (B2G (C e') N0x z G w p c B m)
 .rw[y 4 om];obtain⟨t,w,u,B,m⟩:=J om;have A:=kv.Bcp om;have e4:=kv.bd1 om;have g:=kv.Bdd om;have a:kbx Q xs=[.nu Q.c4,A1X,.nu Q.c5,Bin]++vlx xs Q.c2 Q.c3:=by simp[kbx,h0]
  have hq:({ z0 with c0:=5,c4:=Q.c4,c5:=Q.c5,code:=t.nodes,c2:=Q.c2,c3:=Q.c3 }:Qr)=kQ Q:=by simp[kQ,z0,h0,u,A,e4,g]
  rw[a]at c ⊢;rw[<- hq,show n+([.nu Q.c4,A1X,.nu Q.c5,Bin]++vlx xs Q.c2 Q.c3).length=n+1+1+1+1+(vlx xs Q.c2 Q.c3).length by simp;omega]
  exact Gp U (B2H (C e') N0x z K w p c B m)
 .rw[y 5 om];have e1:=kv.A47 om om om;have f:=kv.pq1 om;have e4:=kv.bd1 om;have g:=kv.Bdd om;have a:kbx Q xs=[.nm Q.s6]:=by simp[kbx,h0]
  have hq:({ z0 with c0:=6,s6:=Q.s6 }:Qr)=kQ Q:=by simp[kQ,z0,h0,e1,f,e4,g]
  rw[a]at c ⊢;rw[<- hq];exact Gp U (B2I (C e') N0x j p c)
 .rw[y 6 om];have e1:=kv.A47 om om om;have f:=kv.pq1 om;have g:=kv.Bdd om;have e6:=kv.bd2;have a:kbx Q xs=ilx Q.c7++[.nm Q.s6]:=by simp[kbx,h0]
  have hq:({ z0 with c0:=7,s6:=Q.s6,c7:=Q.c7 }:Qr)=kQ Q:=by simp[kQ,z0,h0,e1,f,g]
  rw[a]at c ⊢;rw[<- hq,show n+(ilx Q.c7++[L3.nm Q.s6]).length=n+(ilx Q.c7).length+1 by simp;omega];exact Gp U (B2J (C e') N0x j F p c ⟨by omega,by omega⟩)
 .rw[y 7 om];have e1:=kv.A47 om om om;have f:=kv.pq1 om;have e4:=kv.bd1 om;have g:=kv.Bdd om;have a:kbx Q xs=[.nm Q.s6]:=by simp[kbx,h0]
  have hq:({ z0 with c0:=8,s6:=Q.s6 }:Qr)=kQ Q:=by simp[kQ,z0,h0,e1,f,e4,g]
  rw[a]at c ⊢;rw[<- hq];exact Gp U (B2K (C e') N0x j p c)
 .rw[y 8 om];have e1:=kv.A47 om om om;have f:=kv.pq1 om;have e4:=kv.bd1 om;have g:=kv.Bdd om;have a:kbx Q xs=[.nm Q.s6]:=by simp[kbx,h0]
  have hq:({ z0 with c0:=9,s6:=Q.s6 }:Qr)=kQ Q:=by simp[kQ,z0,h0,e1,f,e4,g]
  rw[a]at c ⊢;rw[<- hq];exact Gp U (B2L (C e') N0x j p c)
 .rw[y 9 om];have e1:=kv.A47 om om om;have f:=kv.pq1 om;have e4:=kv.bd1 om;obtain⟨S,W,T,X,_⟩:=kv.Bde h0;have a:kbx Q xs=blx Q.s6 Q.ord (Ala.getD Q.c9.toNat []):=by simp[kbx,h0]
  have E:Q.c9.toNat<3:=by omega
  have V:Ala[Q.c9.toNat]?=some (Ala.getD Q.c9.toNat []):=by rw[List.getD_eq_getElem?_getD,Xs (show _<Ala.length from E)];rfl
  have hq:({ z0 with c0:=10,s6:=Q.s6,ord:=Q.ord,c9:=(Q.c9.toNat:Int) }:Qr)=kQ Q:=by simp[kQ,z0,h0,e1,f,e4,Qy T]
  rw[a]at c ⊢;rw[<- hq];exact Gp U (B2M (C e') N0x fe j F z (A8D U om) (BdX U om) E V S om M p rfl rfl rfl c)
variable {xw xe xf:List L3}{s:List Nat}
def qlx(Q:Qr)(xe xw xf:List L3):List L3:=.kw (kdW.getD (kno Q) ([],0)).1::(kbx Q xe++(slx Q xw++wlx Q xf))
def Bt4(s:List Nat)(a:List L3):Prop:=∀(h:H),S0 h->Ah h (λr h1=>∃v l et,r=.Bj [v,.agg [iI 0,iI 0]]/\Fm 4 h.nx et h1 v l.length (l.flatMap Aez)/\l.length=a.length/\AaO l 0 a) (Z.call 100 [.str s] h)
def Bt5:Prop:=∀(a b:Nat) (h:H),Ah h (λr _=>r=.Bj []) (Z.call 101 [.ptr a 0,.ptr b 0] h)
def B2w a b:Ah h (λr _=>r=.Bj []) (Ay prog Z N true 101 [.ptr a 0,.ptr b 0] h):=by rw[ByN];have f:∀c,xTA (.agg [iI 0,iI 0]) 154 true .B3 c=.ok ..:=λc=>rfl;have g:∀c,Aj prog .neq 20 true .B3 .B3 c=.ok ..:=λc=>rfl;refine wk ?_;exact zr Ex rfl
def Bpv(Q:Qr)(xe:List L3):Prop:=∀(b:Nat) (v:AV) (l:List Tok) (n:Nat) (e:Int) (ve vo vm:AV) (h:H),PQ b v l n e z0 ve vo vm h->AaO l n (kbx Q xe) ->
 Stp b v l e h ((n+(kbx Q xe).length:Nat):Int) (kQ Q) (λr=>r=.Bj []) (Z.call (kdW.getD (kno Q) ([],0)).2 [.ptr b 0] h)
def Bt7(Q:Qr)(xf:List L3):Prop:=∀(b:Nat) (v:AV) (l:List Tok) (n:Nat) (e:Int) (a:Qr) (ve vo vm:AV) (h:H),AeZ h->2<b->PQ b v l n e a ve vo vm h->a.Wz=false->a.c0=Q.c0->AaO l n (wlx Q xf)->l.length=n+(wlx Q xf).length ->
 Stp b v l e h (l.length:Nat) { a with Oi:=Q.Oi,Mg:=Q.Mg,Wz:=Q.Wz } (λr=>r=.Bj []) (Z.call 107 [.ptr b 0] h)
def bdk:∀k,k<10->Bg prog (kdW.getD k ([],0)).2=true:=by
 intro k a;have:∀k:Fin 10,Bg prog (kdW.getD k.1 ([],0)).2=true:=by decide +kernel
 exact this ⟨k,a⟩
def BnC{h}{a b}{j r}{ca cb}{na nb}(k:h.m.get a=.cells ca j .exact)(g:h.m.get b=.cells cb r .exact)(la:na=ca.length)(lb:nb=cb.length):Vk [.c (some (some na)) (.ptr a 0),.c (some (some nb)) (.ptr b 0)] h=.ok (.Bj [.agg ca,.agg cb]) h:=by
 have f:∀{c} {t} {cs:List _} {m},h.m.get c=.cells _ t .exact->m=cs.length->AyY (some (some m)) (.ptr c 0) h=some _:=λ{c t cs m} hc p=>by show(match h.rd c with|some c=>Tn _ c 0|none=>none)=some _;rw[(by rw[AaS,hc];rfl:h.rd c=some cs)];show(Nf _ 0 m).map _=_;rw[E5,W5 om,p,Cp,cg];rfl
 show(match match AyY _ _ h,match AyY _ _ h,(some _:Option (List AV))with|some v,some l=>some _|_,_=>none with|some v,some l=>some (v::l)|_,_=>none with|some l=>OR.ok _ h|none=>.bad _)=_;rw[f k la,f g lb];rfl
def QL.pga{a}{X}(k:QL b h Q ve vo vm)(j:a<b+1)(f:a<h.nx)(hn:∀st,h.m.get a≠.Fb st)(p:Q.ord.length=0->vo=.Bv)(g:PG a X h h1):QL b h1 Q ve vo vm:=
 ⟨k.c.imp id λ⟨x,y⟩=>⟨x,y.pg x f hn j g⟩,Azb k.o f hn j g p,k.m.imp id λ⟨x,y⟩=>⟨x,y.pg x f hn j g⟩⟩
def QL.qv(k:QL b h Q ve vo vm):QV h Q ve vo vm:=by
 refine⟨?_,k.o.sl,?_⟩
 .rcases k.c with⟨hc,rfl⟩|⟨_,a⟩;. rw[hc];exact .inl ⟨rfl,rfl,rfl⟩
  .exact a.sl
 .rcases k.m with⟨hc,rfl⟩|⟨_,a⟩;. rw[hc];exact .inl ⟨rfl,rfl,rfl⟩
  .exact a.sl
def r62(Bh8:Bt4 Z s (qlx Q xe xw xf))(B0q:Bt5 Z)(AiY:AsK Z)(B0r:Bt6 Z)(hK:Bpv Z Q xe)(BuT:Bpd Z Q.E9 xw)(BuU:Bt7 Z Q xf)(hk:1<=Q.c0/\Q.c0<=10)(hj:JOk Q)(hlen:(qlx Q xe xw xf).length<=2000)(hpg:AeZ h)(hG:S0 h):
 Ah h (λr h1=>∃ve vo vm,r=.Bj [.agg (qc Q ve vo vm),.agg [iI 0,iI 0]]/\QV h1 Q ve vo vm) (Ay prog Z N true 62 [.str s] h):=by
 rw[e62];refine wk ?_;refine Fj (Bh8 _ (hG.By (Ai.keeps Ex))) λv1 h2 e2 l2 A q2=>?_;obtain⟨v,l,et,rfl,Z3,hl,hat⟩:=q2;simp only[C9]at l2 Z3;have Y:h2.m.get h.nx=.cells zq 26 .exact:=by rw[A h.nx (by simp only[C9];omega)];simp(disch:=first|exact Ce|fail)
 have kf2:h2.m.get (h.nx+1)=.cells [iI 0,iI 0] 99 .exact:=by rw[A (h.nx+1) (by simp only[C9];omega)];simp(disch:=first|exact Ce|fail)
 obtain⟨o1,o2⟩:=B2 Z3.sl;have hl0:0<l.length:=by rw[hl];simp[qlx]
 have hvb:∀J off n cap z ex,v=.sl J off n cap z ex->J<h2.nx/\h.nx+2<=J:=λJ off n cap z ex hv=>by
  rcases Z3 with⟨h3,_⟩|⟨h3,_⟩|⟨b2,k,st,a,q2,q3,q4,q5,q6,q7,q8,q9⟩
  .omega
  .omega
  .rw[a]at hv;cases hv;exact⟨q6,by omega⟩
 have gx:Ai h h2:=Ai.trans Ex e2;clear A;refine wk ?_;have O:Ai h (((h2.put (h.nx+1) (.cells [iI 0,iI 0] 99 .exact)).new (.cells [v,iI 0,iI s.length,iI 0,iI 0,.Bv,iI 0,iI 0,iI 0,iI 0,.str [],iI 0,.Bv,iI 0,.bool false,.str [],iI 0,.str [],.str [],.str [],iI 0,.Bv,.str [],iI 0] 158 .exact)).new (.cells [iI 2] 3 .exact)):=((gx.put (h.nx+1) _ om).new _).new _;have h3s:Fm 4 (h.nx+2) et (h2.put (h.nx+1) (.cells [iI 0,iI 0] 99 .exact)) v l.length (l.flatMap Aez):=Azb Z3 om (λst f=>by rw[kf2]at f;cases f) (Up _) ((PG.refl rfl).put _) (λf=>by omega);have h3o:=h3s.gr (((Ai.refl _).new (.cells [v,iI 0,iI s.length,iI 0,iI 0,.Bv,iI 0,iI 0,iI 0,iI 0,.str [],iI 0,.Bv,iI 0,.bool false,.str [],iI 0,.str [],.str [],.str [],iI 0,.Bv,.str [],iI 0] 158 .exact)).new (.cells [iI 2] 3 .exact));have M:(((h2.put (h.nx+1) (.cells [iI 0,iI 0] 99 .exact)).new (.cells [v,iI 0,iI s.length,iI 0,iI 0,.Bv,iI 0,iI 0,iI 0,iI 0,.str [],iI 0,.Bv,iI 0,.bool false,.str [],iI 0,.str [],.str [],.str [],iI 0,.Bv,.str [],iI 0] 158 .exact)).new (.cells [iI 2] 3 .exact)).m.get (h2.nx+1)=.cells [iI 2] 3 .exact:=Bf (h:=(h2.put (h.nx+1) _).new _) _;have h3b:(((h2.put (h.nx+1) (.cells [iI 0,iI 0] 99 .exact)).new (.cells [v,iI 0,iI s.length,iI 0,iI 0,.Bv,iI 0,iI 0,iI 0,iI 0,.str [],iI 0,.Bv,iI 0,.bool false,.str [],iI 0,.str [],.str [],.str [],iI 0,.Bv,.str [],iI 0] 158 .exact)).new (.cells [iI 2] 3 .exact)).m.get h2.nx=psC v 0 s.length 0 (qc z0 .Bv .Bv .Bv):=by
  rw[Cq (h:=(h2.put (h.nx+1) _).new _) _ h2.nx (by show h2.nx≠h2.nx+1;omega)]
  exact Bf (h:=h2.put (h.nx+1) _) _
 have h3q:∀c,c<h2.nx->c≠h.nx+1->(((h2.put (h.nx+1) (.cells [iI 0,iI 0] 99 .exact)).new (.cells [v,iI 0,iI s.length,iI 0,iI 0,.Bv,iI 0,iI 0,iI 0,iI 0,.str [],iI 0,.Bv,iI 0,.bool false,.str [],iI 0,.str [],.str [],.str [],iI 0,.Bv,.str [],iI 0] 158 .exact)).new (.cells [iI 2] 3 .exact)).m.get c=h2.m.get c:=λc hc hn=>by rw[Cq (h:=(h2.put (h.nx+1) _).new _) _ c (by show c≠h2.nx+1;omega),Cq (h:=h2.put (h.nx+1) _) _ c (by show c≠h2.nx;omega),Aq _ _ _ hn]
 have P:(((h2.put (h.nx+1) (.cells [iI 0,iI 0] 99 .exact)).new (.cells [v,iI 0,iI s.length,iI 0,iI 0,.Bv,iI 0,iI 0,iI 0,iI 0,.str [],iI 0,.Bv,iI 0,.bool false,.str [],iI 0,.str [],.str [],.str [],iI 0,.Bv,.str [],iI 0] 158 .exact)).new (.cells [iI 2] 3 .exact)).m.get (h.nx+1)=.cells [iI 0,iI 0] 99 .exact:=by
  rw[Cq (h:=(h2.put (h.nx+1) _).new _) _ (h.nx+1) (by show h.nx+1≠h2.nx+1;omega),Cq (h:=h2.put (h.nx+1) _) _ (h.nx+1) (by show h.nx+1≠h2.nx;omega)]
  exact A2 _ _
 have h3n:(((h2.put (h.nx+1) (.cells [iI 0,iI 0] 99 .exact)).new (.cells [v,iI 0,iI s.length,iI 0,iI 0,.Bv,iI 0,iI 0,iI 0,iI 0,.str [],iI 0,.Bv,iI 0,.bool false,.str [],iI 0,.str [],.str [],.str [],iI 0,.Bv,.str [],iI 0] 158 .exact)).new (.cells [iI 2] 3 .exact)).nx=h2.nx+2:=rfl;generalize (((h2.put (h.nx+1) (.cells [iI 0,iI 0] 99 .exact)).new (.cells [v,iI 0,iI s.length,iI 0,iI 0,.Bv,iI 0,iI 0,iI 0,iI 0,.str [],iI 0,.Bv,iI 0,.bool false,.str [],iI 0,.str [],.str [],.str [],iI 0,.Bv,.str [],iI 0] 158 .exact)).new (.cells [iI 2] 3 .exact))=h3 at *
 have pq3:PQ h2.nx v l ((0:Nat):Int) s.length z0 .Bv .Bv .Bv h3:=⟨⟨h3b,by omega,h3o.sl,λJ off n cap z ex hv=>by have:=(hvb J off n cap z ex hv).1;omega,⟨o1,o2⟩,bw _,by omega,rfl⟩,⟨.inl ⟨rfl,rfl⟩,Fm.nil ..,.inl ⟨rfl,rfl⟩⟩,λ_=>rfl⟩
 have hsk:R0 1 Ane h3 (.sl (h2.nx+1) 0 1 1 1 true) [2]:=.inr ⟨h2.nx+1,0,1,true,[iI 2],rfl,Yw _,⟨by omega,3,.exact,M,trivial⟩,by simp,rfl⟩;obtain⟨⟨t,ht,ht1,T⟩,AmV⟩:=hat;have R:AeL l ((0:Nat):Int) [2]=some t:=by unfold AeL;rw[Lm,ht];simp[ht1]
 have G:=AiY h2.nx v l _ _ 0 _ _ [2] h3 pq3.p hsk (by simp);rw[R]at G;refine Fj G λv4 a e4 l4 j q4=>?_;rw[h3n]at l4 j;simp only[C8,db]at q4;subst q4;have L:a.m.get h.nx=.cells zq 26 .exact:=by rw[j h.nx om,h3q h.nx om om];exact Y
 have kf4:a.m.get (h.nx+1)=.cells [iI 0,iI 0] 99 .exact:=by rw[j _ om];exact P
 have pq4:=pq3.gr e4;clear j G R hsk h3q h3b M P h3s h3o Z3 hvb Y kf2;have S3:kno Q<10:=by show(Q.c0-1).toNat<10;omega
 have mf:=BvV (kno Q) S3;have hbd:=bdk (kno Q) S3;unfold Bpv at hK;rw[<- T]at mf;clear T;generalize (kdW.getD (kno Q) ([],0)).2=fn at mf hbd hK;refine wk ?_;refine zc2 (B0r _) λv5 g e5 l5 E q5=>?_;obtain⟨m,rfl,hm,U,hm2⟩:=q5;simp only[C9]at l5 E U;generalize kdE 10=KE at hm mf;have u:Ai a g:=Ai.trans Ex e5;have kt5:g.m.get a.nx=.cells (Aez t) 160 .exact:=by rw[E a.nx om];simp(disch:=first|exact Ce|fail)
 have w:=pq4.gr u;have V:g.m.get h.nx=.cells zq 26 .exact:=by rw[u.Cf _ om];exact L
 have W:g.m.get (h.nx+1)=.cells [iI 0,iI 0] 99 .exact:=by rw[u.Cf _ om];exact kf4
 clear E e5 L kf4 pq4 U;have g5:Ai h g:=Ai.trans O (Ai.trans e4 u);have hg5:=w.p.get;have B9a:=w.p.lt;have hcv:∀f:H,cvV (.fn (.func fn) [] []) [.ptr h2.nx 0] prog Z f=Z.call fn [.ptr h2.nx 0] f:=λf=>cvF _ _ _ _ hbd;have Vs:(qlx Q xe xw xf).length=1+(kbx Q xe).length+(slx Q xw).length+(wlx Q xf).length:=by simp[qlx];omega
 obtain⟨B0N,B0O⟩:=AaO.app.1 AmV;obtain⟨B0P,S⟩:=AaO.app.1 B0O;refine wk ?_;rw[BoT];clear mf hm kt5;refine wk ?_;have gL:Ai h (Be (a.nx::a.lg) (Ab g)):=by
  refine⟨g5.lo,g5.Cf,λx hx=>?_⟩;rcases Tu.1 hx with rfl|hx
  .exact .inr om
  .exact(Ai.trans O e4).lg x hx
 simp only[mM,hcv];have gZ:Ai h ((Be (a.nx::a.lg) (Ab g)).put h2.nx (psC v 1 s.length 0 (qc z0 .Bv .Bv .Bv))):=gL.put _ _ om;have pZ:PQ h2.nx v l ((1:Nat):Int) s.length z0 .Bv .Bv .Bv ((Be (a.nx::a.lg) (Ab g)).put h2.nx (psC v 1 s.length 0 (qc z0 .Bv .Bv .Bv))):=
  ⟨((w.p.gr (Ai.refl g).nl).reL (a.nx::a.lg)).pg ((PG.refl rfl).put _) fe rfl,⟨.inl ⟨rfl,rfl⟩,Fm.nil ..,.inl ⟨rfl,rfl⟩⟩,λ_=>rfl⟩
 have K:((Be (a.nx::a.lg) (Ab g)).put h2.nx (psC v 1 s.length 0 (qc z0 .Bv .Bv .Bv))).m.get h.nx=.cells zq 26 .exact:=(Aq _ _ _ om).trans V;have kfZ:((Be (a.nx::a.lg) (Ab g)).put h2.nx (psC v 1 s.length 0 (qc z0 .Bv .Bv .Bv))).m.get (h.nx+1)=.cells [iI 0,iI 0] 99 .exact:=(Aq _ _ _ om).trans W;have hnZ:((Be (a.nx::a.lg) (Ab g)).put h2.nx (psC v 1 s.length 0 (qc z0 .Bv .Bv .Bv))).nx=g.nx:=rfl;generalize (Be (a.nx::a.lg) (Ab g)).put h2.nx (psC v 1 s.length 0 (qc z0 .Bv .Bv .Bv))=hZ at *
 have hgt:=hpg.lt;refine Bcv (hK h2.nx v l 1 s.length _ _ _ hZ pZ B0N) λh6 ve6 vo6 vm6 g6 p6=>?_;refine Bcv (BuT h2.nx v l _ s.length _ Q _ _ _ h6 p6 rfl ⟨rfl,rfl,rfl,rfl⟩ rfl hj (AaO.app.2 ⟨B0P,S.1,trivial⟩)) λh7 ve7 vo7 vm7 g7 p7=>?_;have B:=PX.trans g6 g7;refine Bcv (BuU h2.nx v l _ s.length _ _ _ _ h7 ((hpg.gr gZ).px om B) om p7 rfl rfl S (by rw[hl,Vs])) λh8 ve vo vm g8 y=>?_;obtain⟨X,F⟩:=PX.trans B g8;have hQ:({ { kQ Q with Uw:=Q.Uw,W0:=Q.W0,Wu:=Q.Wu,s14:=Q.s14,s15:=Q.s15,c16:=Q.c16,E9:=Q.E9 }with Oi:=Q.Oi,Mg:=Q.Mg,Wz:=Q.Wz }:Qr)=Q:=rfl;rw[hQ]at y;have kq8:h8.m.get h.nx=.cells zq 26 .exact:=(F.Cf _ om om).trans K;have kf8:h8.m.get (h.nx+1)=.cells [iI 0,iI 0] 99 .exact:=(F.Cf _ om om).trans kfZ;have hg8:=y.p.get;have B9b:=y.p.lt;have g08:Ai h h8:=PG.own gZ F om;have c1:Ge ve=true/\cellsOf ve=some [ve]:=by rcases y.q.c with⟨_,rfl⟩|⟨_,f⟩;exact⟨rfl,rfl⟩;exact f.one
 have c2:Ge vo=true/\cellsOf vo=some [vo]:=B2 y.q.o.sl;have c3:Ge vm=true/\cellsOf vm=some [vm]:=by rcases y.q.m with⟨_,rfl⟩|⟨_,f⟩;exact⟨rfl,rfl⟩;exact f.one
 have q8:=y.q;have z8:=y.z;have qv1:=c1.1;have qv2:=c1.2;have qv3:=c2.1;have qv4:=c2.2;have qv5:=c3.1;have qv6:=c3.2;clear hK BuT BuU B g7 g6 g8 p7 p6 pZ K kfZ w V W hcv hg5 c1 c2 c3 hQ;refine wk ?_;refine Fj (B0q _ _ _) λv9 h9 e9 l9 I q9=>?_;simp only[C9]at l9 I;rw[BnC (na:=20) (nb:=2) (ca:=qc Q ve vo vm) (cb:=[iI 0,iI 0]) ((I h.nx om).trans ((Aq _ _ _ om).trans (A2 _ _))) ((I (h.nx+1) om).trans (A2 _ _)) rfl rfl];have r1:QL h2.nx (h8.put h.nx (.cells (qc Q ve vo vm) 26 .exact)) Q ve vo vm:=q8.pga om om (λst f=>by rw[kq8]at f;cases f) z8 ((PG.refl rfl).put _);have r2:QL h2.nx ((h8.put h.nx (.cells (qc Q ve vo vm) 26 .exact)).put (h.nx+1) (.cells [iI 0,iI 0] 99 .exact)) Q ve vo vm:=r1.pga om (by simp only[C9];omega) (λst f=>by rw[Aq _ _ _ om,kf8]at f;cases f) z8 ((PG.refl rfl).put _);exact Lo (((g08.put h.nx _ (Yw _)).put (h.nx+1) _ om).trans e9) ⟨ve,vo,vm,rfl,r2.qv.By e9.keeps⟩
end Go.Proofs
