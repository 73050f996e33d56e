/- Names that are no reserved words. -/
import Derived.Test.YtecikbfimlolcaaGreatDoorEvTg
set_option linter.all false
set_option maxRecDepth 100000
noncomputable section
namespace Go.Proofs
open Go Go.Ev Go.Nm Tryz Go.Ev.Sx
attribute [local irreducible] Aa Al Af Ad
variable {j:Type}{o:H}
variable (Z:Ac)(N:Nat)
def Abs{α:Type}(p:α->Bool):List α->Int->Int
|[],_=>-1
|x::l,i=>if p x=true then i else Abs p l (i+1)
def Amt{l:List j}{i:Int}{x:j}(h0:0<=i)(h:l[i.toNat]?=some x):l.drop i.toNat=x::l.drop (i+1).toNat:=by
 rw[show(i+1).toNat=i.toNat+1 by omega]
 obtain⟨h1,h2⟩:=R4.1 h;rw[bc h1,h2]
def AjH{p:j->Bool}:∀{l:List j} {i:Int},(∀x∈l,p x=false)->Abs p l i=-1
|[],i,h=>rfl
|x::l,i,h=>by unfold Abs;rw[X2 (by rw[h x (Uq ..)];decide)];exact AjH λy hy=>h y (Vo _ hy)
def Agx{p:j->Bool}:∀{l:List j} {i:Int},(∃x∈l,p x=true)->∃(m:Nat) (x:j),Abs p l i=i+m/\l[m]?=some x/\p x=true
|[],i,h=>by obtain⟨x,a,_⟩:=h;cases a
|y::l,i,h=>by
 unfold Abs;by_cases hy:p y=true
 .rw[W5 hy];exact⟨0,y,by omega,rfl,hy⟩
 .rw[X2 hy];obtain⟨x,a,b⟩:=h;rcases Tu.1 a with rfl|a
  .exact absurd b hy
  .obtain⟨m,z,h1,h2,c⟩:=Agx (l:=l) (i:=i+1) ⟨x,a,b⟩;exact⟨m+1,z,by omega,h2,c⟩
def AeY{P:Program}{Z:Ac}(g:FuncId)(a c args:List AV):cvV (.fn (.func g) a c) args P Z o=if Bg P g=true then Z.call g ((a++args)++c) o else AgK (Uk P g) ((a++args)++c) o:=by show(@Bool.rec (λ_=>OR) (AgK (Uk P g) (J0 (J0 a args) c) o) (Z.call g (J0 (J0 a args) c) o) (Bg P g):OR)=_;rw[Dl,Dl];cases Bg P g<;>rfl
def AuZ{p:j->Bool}{l:List j}:decide (0<=Abs p l 0)=decide (∃x∈l,p x=true):=by
 rw[cj];constructor
 .intro h;apply Classical.byContradiction;intro hn;have:=AjH (p:=p) (l:=l) (i:=0) λx a=>by
   cases b:p x with
   |false=>rfl
   |true=>exact absurd ⟨x,a,b⟩ hn
  omega
 .intro h;obtain⟨m,x,h1,_⟩:=Agx (i:=0) h;omega
def AzY(y:List Nat)(v:AV)(l:List (List Nat))(h:H)(g:Ig h v l)(z:l.length<=1000000000):
 ∀(k:Nat) (i:Int) (n:Nat) (hd:H) (f0:L2),i+(k:Int)=(l.length:Int)->0<=i->k<n->Ai h hd->Ah h (λr _=>r=iI (Abs (λx:List Nat=>decide (y=x)) (l.drop i.toNat) i)) (Asv Z N n v (.str y) (iI (l.length:Int)) (iI i) f0 hd)
 |0,i,n,hd,f0,q,j,hn,d=>by obtain⟨a,rfl⟩:∃a,n=a+1:=⟨n-1,by omega⟩;have t:decide (i<(l.length:Int))=false:=df;rw[Ays];refine wk ?_;exact zr d (by rw[bi om];rfl)
 |k+1,i,n,hd,f0,q,j,hn,d=>by
  obtain⟨a,rfl⟩:∃a,n=a+1:=⟨n-1,by omega⟩;have o:=AzY y v l h g z k (i+1) a;have t:decide (i<(l.length:Int))=true:=dt;have m:((i.toNat:Nat):Int)=i:=Qy j;obtain⟨x,b⟩:∃x,l[i.toNat]?=some x:=⟨_,Xs om⟩;obtain⟨b1,A,c⟩:=R0.elem (f:=Aeb) (s:=1) (λ_=>rfl) (Sl.By g d.keeps) b;have u:=Vl b;have e:=Amt j b;have p:=c.ia;rw[m]at p;have w:=c.part 0 _ rfl;rw[Mz]at w;clear c m b g;rw[Ays,e,Abs];repeat' (first|refine wk ?_|(refine zqq ?_ ?_<;>intro hc<;>(try (exfalso;omega)))|fail)
  .refine zr Ex ?_;rw[W5 (by simp[*])]
  .rw[X2 (by simp[*])];exact o _ _ om om om Ex
def Be2:Prop:=∀(y:List Nat) (v:AV) (l:List (List Nat)) (h:H),Ig h v l->l.length<=50->Ah h (λr _=>r=.bool (decide (y∈l))) (Z.call 185 [v,.str y] h)
def BeF:Prop:=∀(y:List Nat) (v:AV) (l:List (List Nat)) (h:H),Ig h v l->l.length<=50->Ah h (λr _=>r=iI (Abs (λx:List Nat=>decide (y=x)) l 0)) (Z.call 235 [v,.str y] h)
def Bly(b:100<N)(y:List Nat)(v:AV)(l:List (List Nat))(h:H)(a:Ig h v l)(c:l.length<=50):Ah h (λr _=>r=iI (Abs (λx:List Nat=>decide (y=x)) l 0)) (Ay prog Z N true 235 [v,.str y] h):=by rw[Bj7];refine Ey (a.Gs) ?_;exact AzY Z N y v l h a om l.length 0 N h _ om om om (Ai.refl h)
def Blk(a:BeF Z)(y:List Nat)(v:AV)(l:List (List Nat))(h:H)(c:Ig h v l)(d:l.length<=50):Ah h (λr _=>r=.bool (decide (y∈l))) (Ay prog Z N true 185 [v,.str y] h):=by rw[Bjv];(repeat' (first|refine wk ?_|(refine Pd (a y v l _ c d) ?_;intro e g j f i b;subst b)|fail));refine zr Ex ?_;rw[AuZ];congr 1;rw[cj];simp
def W35:List (List Nat):=[[97,98,111,118,101],[97,110,100],[98,97,116,99,104],[98,101,116,119,101,101,110],[98,105,116,115],[98,121],[99,111,110,115,105,115,116,101,110,116],[99,111,117,110,116],[101,108,115,101],[102,97,99,116,111,114],[102,114,111,109],[104,105,115,116,111,103,114,97,109],[105,100,101,110,116,105,116,121],[105,102],[106,111,105,110],[107,101,101,112],[108,97,116,101],[108,105,109,105,116],[109,111,100,101],[110,111,110,101],[110,111,116],[111,102],[111,110],[111,114],[112,101,97,107],[112,114,101,102,105,120],[113,117,97,110,116,105,108,101],[114,117,110,110,105,110,103],[115,117,109],[116,104,101,110],[116,111,116,97,108],[116,114,101,101],[117,115,105,110,103],[119,104,101,114,101],[119,105,116,104]]
def S0(h:H):Prop:=Nv h 0 (W35.flatMap Aeb)
def S0.By{h1:H}(g:S0 o)(e:Bi o h1):S0 h1:=e.cont 0 _ g
def S0.ws(g:S0 o):Ig o (.sl 0 0 35 35 1 true) W35:=.inr ⟨0,0,35,true,_,rfl,by decide,g,by decide,rfl⟩
def Be1:Prop:=∀(s:List Nat) (h:H),Ah h (λr _=>r=.bool false) (Z.call 178 [.str s] h)
def Bbx:Prop:=∀(s:List Nat) (h:H),Ah h (λr _=>r=.bool false) (Z.call 285 [.str s] h)
def Bl7(s:List Nat)(h:H):Ah h (λr _=>r=.bool false) (Ay prog Z N true 285 [.str s] h):=by rw[BjG];refine wk ?_;exact zr Ex (by simp)
def Bbw:Prop:=∀(s t:List Nat) (h:H),Ah h (λr _=>∃b,r=.bool b) (Z.call 284 [.str s,.str t] h)
def Bl6(Ayi:Be1 Z)(s t:List Nat)(h:H):Ah h (λr _=>∃b,r=.bool b) (Ay prog Z N true 284 [.str s,.str t] h):=by rw[BjF];refine Fj (Ayi s h) λd h1 e1 l1 c a=>?_;subst a;refine wk ?_;exact zr Ex ⟨_,rfl⟩
def Awb(k k':IntKind)(n:Int):A6r k (.int k' n) o=.ok (.int k (E1 k n)) o:=rfl
def A1c(n:Int)(h1:0<=n)(h2:n<=1000):E1 .u64 n=n:=by
 unfold E1 fits;rw[Il,Il];have e1:¬ (n<IntKind.min .u64):=by show ¬ (n<0);omega
 have a:¬ (IntKind.max .u64<n):=by show ¬ ((18446744073709551615:Int)<n);omega
 rw[Xn e1,Xn a]
def BlC(m:Nat):Aj prog .shr 337 true (.int .u64 (m:Int)) (.int .u64 1) o=.ok (.int .u64 ((m/2:Nat):Int)) o:=by kernel_rfl
abbrev Bbo(r:AV)(_:H):Prop:=∃i,r=.Bj [iI i,.bool false]
def Bbu:Prop:=∀(v:AV) (ws:List (List Nat)) (s:List Nat) (h:H),Ig h v ws->ws.length<=50->s ∉ ws->Ah h Bbo (Z.call 250 [v,.str s] h)
def A9A(G:Bbw Z)(C:Bbx Z)(v:AV)(ws:List (List Nat))(s:List Nat)(h:H)(t:Ig h v ws)(T:ws.length<=50)(M:s ∉ ws):
 ∀(u:Nat) (a b:Nat) (n:Nat) (hd:H) (f0:L2),b=a+u->b<=ws.length->u<n->Ai h hd->Ah h Bbo (Anb Z N n v (.str s) (iI (ws.length:Int)) (iI (a:Int)) (iI (b:Int)) f0 hd):=by
 intro u;induction u using Nat.strongRecOn with
 |_ u q=>
 intro a b n hd f0 j O hn F;obtain⟨A,rfl⟩:∃A,n=A+1:=⟨n-1,by omega⟩;have Kf:=F.lo;obtain⟨x,o⟩:∃x:Int,x=(a:Int):=⟨_,rfl⟩;obtain⟨y,hy⟩:∃x:Int,x=(b:Int):=⟨_,rfl⟩;obtain⟨z,p⟩:∃x:Int,x=(ws.length:Int):=⟨_,rfl⟩;rw[<- o,<- hy,<- p];cases u with
 |zero=>
  have L:decide (x<y)=false:=df;rw[Ayt];by_cases J:a<ws.length
  .have R:decide (x<z)=true:=dt;obtain⟨w,l⟩:∃w,ws[a]?=some w:=⟨_,Xs J⟩;obtain⟨b1,Q,i⟩:=R0.elem (f:=Aeb) (s:=1) (λ_=>rfl) (Sl.By t F.keeps) l;have B:=i.ia;rw[<- o]at B;have E:=i.part 0 _ rfl;rw[Mz]at E;have k3:decide (w=s)=false:=Xn λc=>M (c ▸ Vl l);clear i l t q o hy p j;refine wk ?_;refine Fj (C w _) λP h1 e1 l1 D I=>?_;subst I;refine wk ?_;exact zr Ex ⟨_,rfl⟩
  .have R:decide (x<z)=false:=df;have V:∀(w:Bool) (r:OR) (c:H),Ad (.Bj []) w r c=.ok (.Bj []) c:=λ_ _ _=>by kernel_rfl
   clear t q o hy p j;refine wk ?_;exact zr Ex ⟨_,rfl⟩
 |succ u=>
  have L:decide (x<y)=true:=dt;obtain⟨m,K⟩:∃m:Nat,m=(a+b)/2:=⟨_,rfl⟩;obtain⟨k,d⟩:∃x:Int,x=(m:Int):=⟨_,rfl⟩;obtain⟨w,l⟩:∃w,ws[m]?=some w:=⟨_,Xs om⟩;obtain⟨b1,Q,i⟩:=R0.elem (f:=Aeb) (s:=1) (λ_=>rfl) (Sl.By t F.keeps) l;have B:=i.ia;rw[<- d]at B;have E:=i.part 0 _ rfl;rw[Mz]at E;have W:∀c:H,A6r .u64 (iI (x+y)) c=.ok (.int .u64 (x+y)) c:=λc=>by rw[Awb,A1c _ om om]
  have X:∀c:H,Aj prog .shr 337 true (.int .u64 (x+y)) (.int .u64 1) c=.ok (.int .u64 k) c:=λc=>by rw[show x+y=((a+b:Nat):Int)by omega,BlC,<- K,<- d]
  have S:∀c:H,A6r .i64 (.int .u64 k) c=.ok (iI k) c:=λc=>by rw[Awb,lw.2.2 _ om om]
  have r1:0<=x:=by omega
  have U:x<y:=by omega
  have r3:y<=50:=by omega
  have r4:0<=k:=by omega
  have Y:k<=50:=by omega
  have g:=λhd f0=>q (b-(m+1)) om (m+1) b A hd f0 om O om;have e:=λhd f0=>q (m-a) om a m A hd f0 om om om;rw[show((m+1:Nat):Int)=k+1 by omega,<- hy,<- p]at g
  rw[<- o,<- d,<- p]at e;replace g:=(show F5 _ from g)
  replace e:=(show F5 _ from e)
  clear i l t q o hy p j K d;rw[Ayt];refine wk ?_;refine Fj (G w s _) λP h1 e1 l1 D I=>?_;obtain⟨bb,rfl⟩:=I;cases bb
  .refine wk ?_;exact(show ∀(hd:H) (f0:L2),_ from e) _ _ Ex
  .refine wk ?_;exact(show ∀(hd:H) (f0:L2),_ from g) _ _ Ex
def Bl2(f:100<N)(b:Bbw Z)(a:Bbx Z)(v:AV)(ws:List (List Nat))(s:List Nat)(h:H)(c:Ig h v ws)(e:ws.length<=50)(d:s ∉ ws):Ah h Bbo (Ay prog Z N true 250 [v,.str s] h):=by rw[BjB];refine Ey c.Gs ?_;exact A9A Z N b a v ws s h c e d ws.length 0 ws.length N h _ om (Yw _) om (Ai.refl h)
def A0l{s:List Nat}{i:Nat}{c:Nat}(hc:s[i]?=some c):xIx prog .str (.str s) (iI (i:Int)) o=.ok (.int .u8 (c:Int)) o:=by show Uv (AuN s i) o=_;rw[AuO,hc];rfl
def BlD(h:H):xSl prog 310 (.ptr 0 0) none none h=.ok (.sl 0 0 35 35 1 true) h:=by kernel_rfl
def A7Y:Prop:=∀(s:List Nat) (h:H),S0 h->s∈R2++N1++R9->Ah h (λr _=>r=.bool true) (Z.call 210 [.str s] h)
def AzS(f:Bbu Z)(s:List Nat)(h:H)(q:S0 h)(hc:∀c∈s,97<=c/\c<=122)(y:s.length<=20)(p:s ∉ W35):
 ∀(u i:Nat) (b:Int) (n:Nat) (f0:L2),i+u=s.length->b=(i:Int)->u<n->Ah h (λr _=>r=.bool true) (ArU Z N n (.str s) (iI (s.length:Int)) (iI b) f0 h)
 |0,i,b,n,f0,hu,d,hn=>by obtain⟨e,rfl⟩:∃e,n=e+1:=⟨n-1,by omega⟩;have t:decide (b<(s.length:Int))=false:=df;have o:=BlD h;clear hu d;rw[Ayn];refine wk ?_;refine Fj (f _ W35 s h q.ws fe p) λB h1 e1 l1 v z=>?_;obtain⟨j,rfl⟩:=z;refine wk ?_;exact zr Ex rfl
 |u+1,i,b,n,f0,hu,d,hn=>by
  obtain⟨e,rfl⟩:∃e,n=e+1:=⟨n-1,by omega⟩;have m:=AzS f s h q hc y p u (i+1) (b+1) e;have t:decide (b<(s.length:Int))=true:=dt;obtain⟨c,l⟩:∃c,s[i]?=some c:=⟨_,Xs om⟩;obtain⟨c1,c2⟩:=hc c (Vl l);have o:∀a:H,xIx prog .str (.str s) (iI b) a=.ok (.int .u8 (c:Int)) a:=λa=>by rw[d];exact A0l l
  obtain⟨k,g⟩:∃x:Int,x=(c:Int):=⟨_,rfl⟩;rw[<- g]at o;have D:∀a:H,Aj prog .lss 5 true (.int .u8 k) (.int .u8 97) a=.ok (.bool false) a:=λa=>by show OR.ok (.bool (ilt k 97)) a=_;rw[Il,Xn om]
  have E:∀a:H,Aj prog .gtr 5 true (.int .u8 k) (.int .u8 122) a=.ok (.bool false) a:=λa=>by show OR.ok (.bool (ilt 122 k)) a=_;rw[Il,Xn om]
  have C:∀(w:Bool) (r:OR) (a:H),Ad (.Bj []) w r a=.ok (.Bj []) a:=λ_ _ _=>by kernel_rfl
  have r1:0<=b:=by omega
  have A:b<=20:=by omega
  have go:=λf0=>m f0 om om om;replace go:=(show F5 _ from go)
  clear hu d l g m hc;rw[Ayn];refine wk ?_;exact(show ∀(f0:L2),_ from go) _
def Bg7:∀s∈R2++N1++R9,(∀c∈s,97<=c/\c<=122)/\s.length<=20/\s ∉ W35/\s≠[]:=by decide
def Blt(u:100<N)(f:Bbu Z)(s:List Nat)(h:H)(p:S0 h)(m:s∈R2++N1++R9):Ah h (λr _=>r=.bool true) (Ay prog Z N true 210 [.str s] h):=by
 obtain⟨hc,n,o,l⟩:=Bg7 s m;have i:=AzS Z N f s h p hc n o s.length 0 0 N;have k:0<s.length:=Kd.2 l;obtain⟨c,e⟩:∃c,s[0]?=some c:=⟨_,Xs k⟩;obtain⟨c1,c2⟩:=hc c (Vl e);have j:∀a:H,xIx prog .str (.str s) (iI 0) a=.ok (.int .u8 (c:Int)) a:=λa=>A0l e;obtain⟨d,b⟩:∃x:Int,x=(c:Int):=⟨_,rfl⟩;rw[<- b]at j;have v:∀a:H,Aj prog .lss 5 true (.int .u8 d) (.int .u8 97) a=.ok (.bool false) a:=λa=>by show OR.ok (.bool (ilt d 97)) a=_;rw[Il,Xn om]
 have w:∀a:H,Aj prog .gtr 5 true (.int .u8 d) (.int .u8 122) a=.ok (.bool false) a:=λa=>by show OR.ok (.bool (ilt 122 d)) a=_;rw[Il,Xn om]
 obtain⟨sl,g⟩:∃x:Int,x=(s.length:Int):=⟨_,rfl⟩;have t:∀a:H,lnS (.str s) a=.ok (iI sl) a:=λa=>by rw[g];exact A63 s
 have q:decide (sl<1)=false:=df;have y:decide (20<sl)=false:=df;have go:=λf0=>i f0 om rfl om;rw[<- g]at go;replace go:=(show F5 _ from go)
 clear hc e b i g;rw[Bj2];refine wk ?_;exact(show ∀(f0:L2),_ from go) _
end Go.Proofs
