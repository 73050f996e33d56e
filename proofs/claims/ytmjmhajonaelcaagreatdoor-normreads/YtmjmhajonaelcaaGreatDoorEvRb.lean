/- Limbs: the base divided by itself. -/
import Derived.Test.YtmjmhajonaelcaaGreatDoorEvRa
import Derived.Test.YtmjmhajonaelcaaGreatDoorEvJa
set_option linter.all false
set_option maxRecDepth 100000
noncomputable section
namespace Go.Proofs
open Go Go.Ev Go.Nm Tryz Go.Ev.Sx
attribute [local irreducible] Aa Al Af Ad
variable (Z cx cr:Ac)(N:Nat)
variable {h h0 h1 h2 hd:H}{s:uq}{v w v2:AV}{b c l:Nat}{ls l2:uq}{bs:uq}{n d:Nat}
def B4X:lbN 0=[]:=rfl
def A5g{n}(h0:0<n)(h:n<1000000000):lbN n=[n]:=by unfold lbN;grind
def Bxx:lbN 1000000000=[0,1]:=rfl
def A83(h:n<=1000000000):(lbN n).length<=2:=by unfold lbN;grind
def Bfs(h:n<=1000000000):∀x∈lbN n,x<1000000000:=by unfold lbN;grind
def Ao7(hn:n<=1000000000):n=0\/0<n/\n<1000000000\/n=1000000000:=by omega
def B4Y(hn:n<=1000000000)(hd:d<=1000000000):lcN (lbN n) (lbN d)<0 ↔ n<d:=by
 have f:∀a b,Aoq a b<0 ↔ a<b:=λa b=>by unfold Aoq;omega
 rcases Ao7 hn with rfl|⟨e,n1⟩|rfl
 .rcases Ao7 hd with rfl|⟨d0,d1⟩|rfl;. exact⟨λh=>absurd h fe,λh=>by omega⟩
  .rw[B4X,A5g d0 d1];exact⟨λ_=>d0,λ_=>(by grind:Aoq 0 1<0)⟩
  .exact⟨λ_=>by simp,λ_=>by decide⟩
 .rcases Ao7 hd with rfl|⟨d0,d1⟩|rfl;. rw[A5g e n1];exact⟨λh=>absurd h (by decide:¬ Aoq 1 0<0),λh=>by omega⟩
  .rw[A5g e n1,A5g d0 d1];show(if lcE [] []≠0 then lcE [] []else Aoq n _)<0 ↔ _;rw[X2 (by simp[lcE]),f];omega
  .rw[A5g e n1,Bxx];exact⟨λ_=>n1,λ_=>(by decide:Aoq 1 2<0)⟩
 .rcases Ao7 hd with rfl|⟨d0,d1⟩|rfl;. exact⟨λh=>absurd h fe,λh=>by omega⟩
  .rw[A5g d0 d1,Bxx];exact⟨λh=>absurd h (by decide:¬ Aoq 2 1<0),λh=>by omega⟩
  .exact⟨λh=>absurd h fe,λh=>by omega⟩
def B5u(hn:n<=1000000000)(h0:0<d)(hd:d<1000000000)(e:d<=n):(qr d (lbN n)).2=n%d/\AxV (qr d (lbN n)).1=lbN (n/d):=by
 rcases Ao7 hn with rfl|⟨a,n1⟩|rfl;. omega
 .rw[A5g a n1];show(0*1000000000+n)%d=_/\AxV [(0*1000000000+n)/d]=_;rw[ep,Rx];exact⟨rfl,A87 (Ut (T6 ..) n1)⟩
 .show((0*1000000000+1)%d*1000000000+0)%d=_/\AxV [((0*1000000000+1)%d*1000000000+0)/d,(0*1000000000+1)/d]=_;by_cases d1:d=1;. subst d1;exact⟨rfl,rfl⟩
  .rw[dm (show 1<d by omega),Of (show 1<d by omega),Nat.one_mul];refine⟨rfl,?_⟩;rw[<- A87 (Nat.div_lt_self (by simp) om)];rfl
def Bh5:=∀v v2 n d h,NtS h v (lbN n)->NtS h v2 (lbN d)->n<=1000000000->d<=1000000000->0<d ->
 Ah h (λr h1=>∃q m,r=.Bj [q,m]/\NtS h1 q (lbN (n/d))/\NtS h1 m (lbN (n%d))) (Z.call 114 [v,v2] h)
def Bpz:=∀v v2 h,NtS h v [0,1]->NtS h v2 [0,1]->Ah h (λr h1=>∃q m,r=.Bj [q,m]/\NtS h1 q [1]/\NtS h1 m []) (mr Z N 114 [v,v2] h)
def CbY(u:Bl3 Z)(y:Bl4 Z)(x:BsR Z)(C:Bpz Z N)(k:NtS h v (lbN n))(k2:NtS h v2 (lbN d))(hn:n<=1000000000)(hd:d<=1000000000)(h0:0<d):
 Ah h (λr h1=>∃q m,r=.Bj [q,m]/\NtS h1 q (lbN (n/d))/\NtS h1 m (lbN (n%d))) (mr Z N 114 [v,v2] h):=by
 have o:=u v v2 _ _ h k k2 (by have:=A83 hn;omega);have e:=B4Y hn hd;by_cases t:n<d;. have h1:=e.2 t;generalize lcN (lbN n) (lbN d)=z at *;have O:decide (z<0)=true:=Ws h1;rw[Of t,dm t,B4X,BvY];have F:=λa (g:Ai h a)=>k.gr g;clear k k2 e;refine Fj o λG h1 e1 l1 f p=>?_;subst p;clear f o;refine wk ?_;exact zr Ex ⟨_,_,rfl,.inl ⟨rfl,rfl,rfl⟩,F _ Ex⟩
 .by_cases M:d=1000000000
  .subst M;obtain rfl:n=1000000000:=by omega
   exact C v _ h k k2
  .have h1:¬ lcN ..<0:=λh=>t (e.1 h);have⟨p,q2⟩:=B5u hn h0 om om;have j:=λa (g:Ai h a)=>y v _ d _ (k.gr g) (by have:=A83 hn;omega) (Bfs hn) h0 hd;rw[p,q2]at j;rw[A5g h0 om]at k2 o h1;have⟨P,U,B⟩:=R0.elem (i:=0) (λ_=>rfl) k2 rfl;have W:∀a,Gc 1 _ (iI 0) _=.ok ..:=B.ia;have E:=B.part 0 _ rfl;rw[Vw]at E;have I:∀a,Fo _ a=.ok ..:=λa=>Sl.Gs k2;rw[BvY];refine Fj o λG h1 e1 l1 f p=>wk (Fj (j _ Ex) λQ V L T D q3=>?_);obtain⟨q,rfl,J⟩:=q3;refine wk ?_;refine Fj ((λa=>x (n%d) a (Xq (Rl _ h0) hd)) _) λX S A R K q5=>(zr ((Ai.trans e1 L).trans A) ⟨_,_,rfl,(λa (g:Ai _ a)=>J.gr g) _ A,q5⟩)
def Ba9(n d:Nat):Nat.gcd n d=Nat.gcd d (n%d):=by rw[Nat.gcd_comm n d,Nat.gcd_rec d n,Nat.gcd_comm]
def BfF(e:Bh5 Z){Q}{m}{f0}(k:NtS hd v (lbN n))(k2:NtS hd v2 (lbN d))(hn:n<=1000000000)(a:d<=1000000000)(h0:0<d)(g:Ai h hd)
 (go:∀h1 r f0,Ai h h1->NtS h1 v2 (lbN d)->NtS h1 r (lbN (n%d))->Ah h Q (AsN Z N m v2 r f0 h1)):Ah h Q (AsN Z N (m+1) v v2 f0 hd):=by
 have i:=λf=>Sl.Gs (h1:=f) k2;have p:0<(lbN d).length:=by unfold lbN;grind
 rw[BeI];refine wk (Fj (e v _ n d _ k k2 hn a h0) λt h1 e1 l1 o j=>?_);obtain⟨q,r,rfl,q2,q3⟩:=j;exact wk ((show ∀h1 r f0,Ai h _->NtS _ ..->NtS _ r _->Ah h Q _ from go) _ _ _ (g.trans e1) (show F5 _ from(λf (g:Ai _ f)=>k2.gr g) _ e1) (show F5 _ from q3))
def Bd3{m}{f0}(k:NtS hd v (lbN n))(k2:NtS hd v2 [])(g:Ai h hd):Ah h (λr h1=>NtS h1 r (lbN n)) (AsN Z N (m+1) v v2 f0 hd):=by have e:∀a,Fo _ a=.ok ..:=λa=>Sl.Gs k2;rw[BeI];exact wk (zr Ex (show F5 _ from k))
def Bfw(f:Bh5 Z):∀(j n d m:Nat) (v v2:AV) (hd:H) (f0:L2),d<2^j->2*j<m->NtS hd v (lbN n)->NtS hd v2 (lbN d)->n<=1000000000->d<=1000000000->Ai h hd->Ah h (λr h1=>NtS h1 r (lbN (Nat.gcd n d))) (AsN Z N m v v2 f0 hd)
|0,n,d,m,v,v2,hd,f0,hj,hm,k,k2,hn,a,g=>by
 obtain rfl:d=0:=by grind
 obtain⟨m1,rfl⟩:∃m1,m=m1+1:=⟨m-1,by omega⟩;rw[Rn];exact Bd3 Z N k k2 g
|j+1,n,d,m,v,v2,hd,f0,hj,hm,k,k2,hn,a,g=>by
 obtain⟨m1,rfl⟩:∃m1,m=m1+1+1:=⟨m-2,by omega⟩;by_cases h0:d=0;. subst h0;rw[Rn];exact Bd3 Z N k k2 g
 .refine BfF Z N f k k2 hn a om g λh1 r y g1 p kr=>?_;have t:=Rl n (show 0<d by omega);rw[Ba9];generalize n%d=e at *;by_cases h1:e=0;. subst h1;rw[Rn];exact Bd3 Z N p kr g1
  .refine BfF Z N f p kr a om om g1 λh2 u x g2 o i=>?_;rw[Ba9];have z:=Rl d (show 0<e by omega);have a2:d%e<=d-e:=by rw[Nat.mod_eq_sub_mod om];exact Nat.mod_le ..
   exact Bfw f j e _ _ r _ _ _ om om o i om om g2
def Bl1:=∀v v2 n d h,NtS h v (lbN n)->NtS h v2 (lbN d)->n<=1000000000->d<=1000000000->Ah h (λr h1=>NtS h1 r (lbN (Nat.gcd n d))) (Z.call 113 [v,v2] h)
def CbM(f:100<N)(e:Bh5 Z)(k:NtS h v (lbN n))(k2:NtS h v2 (lbN d))(hn:n<=1000000000)(a:d<=1000000000):Ah h (λr h1=>NtS h1 r (lbN (Nat.gcd n d))) (mr Z N 113 [v,v2] h):=by rw[B8A];exact Bfw Z N e 30 n d N v _ h _ (Ut a (by simp)) om k k2 hn a (Ai.refl h)
variable {v:Nat}
def BjD b:∀(D:Nat),D<=10->∀a,xSl prog 200 (.ptr b 0) none (some (iI D)) a=.ok (.sl b 0 D 24 1 true) a
|0,_,a=>by kernel_rfl
|1,_,a=>by kernel_rfl
|2,_,a=>by kernel_rfl
|3,_,a=>by kernel_rfl
|4,_,a=>by kernel_rfl
|5,_,a=>by kernel_rfl
|6,_,a=>by kernel_rfl
|7,_,a=>by kernel_rfl
|8,_,a=>by kernel_rfl
|9,_,a=>by kernel_rfl
|10,_,a=>by kernel_rfl
|D+11,e,_=>absurd e om
def BsS:=∀(v:Nat) h,v<=1000000000->AeZ h->Ah h (λr _=>r=.str (V8 v)) (Z.call 190 [cn v,iI 10] h)
def Ccs(p:BtI Z)(o:BtJ Z)(j:BtK Z)(u:v<=1000000000)(A:AeZ h):Ah h (λr _=>r=.str (V8 v)) (mr Z N 190 [.int .u64 v,iI 10] h):=by
 have z0:∀a:H,Aj prog .eql 3 true (iI 10) (iI 10) a=.ok (.bool true) a:=λa=>rfl;have z1:∀a:H,Aj prog .lss 175 true (.int .u64 (v:Int)) (.int .u64 100) a=.ok (.bool (decide (v<100))) a:=λa=>by show OR.ok (.bool (ilt (v:Int) 100)) a=_;rw[Il];congr 2;grind
 rw[B9o];refine Ey (z0 _) (Zx (Ey (z1 _) ?_));by_cases e:v<100;. rw[Ws e];refine Zx ?_;refine Ey (A9k (k:=.u64) (k':=.i64) v fe (by show(v:Int)<=9223372036854775807;omega) _) ?_;refine Fj (p v h e) λy h1 e1 l1 z x=>?_;subst x;exact zr e1 rfl
 .rw[Yc e];refine Ae5 ?_;obtain⟨Z,C⟩:∃Z:List AV,Z=List.replicate 24 (u8C 0):=⟨_,rfl⟩;refine Ey (h:=h.new (.cells Z ..)) (by rw[C];rfl) ?_;have I:h.nx+1=(h.new (.cells Z 200 .exact)).nx:=rfl;refine Fj (o v _ om u (A.gr ((Ai.refl h).new _):AeZ (h.new (.cells Z 200 .exact)))) λy B E K f q3=>?_;subst q3;have⟨d1,d2,d3⟩:=Bwa u;have⟨D,t⟩:∃D,D=nd v:=⟨_,rfl⟩;rw[<- t]at d1 d2 d3 ⊢;apply Ey (BjD _ D d2 _);have i:B.m.get h.nx=.cells ([]++(List.replicate D (u8C 0)++List.replicate (24-D) (u8C 0))) 200 .exact:=by rw[f _ om,(by simp_all:(h.new (.cells Z 200 .exact)).m.get h.nx=.cells (List.replicate 24 (u8C 0)) 200 .exact),I3,S5,show D+(24-D)=24 by omega]
  refine zu1 (j _ D v _ _ _ _ _ _ _ i om (by simp) d2 d3) λO J G L F g M=>Ey (BjD _ D d2 _) (Ey (BkD (g om) (by rw[Alh]) λc hc=>?_) ?_);. have:=Axd D v c hc;omega
  apply Lo (PG.own (((Ai.refl h).new _).trans E) G (Ye _));rw[t];rfl
def Bl5:=∀(v:Nat) h,v<=1000000000->AeZ h->Ah h (λr _=>r=.str (V8 v)) (Z.call 156 [cn v,iI 10] h)
def Ccp(a:BsS Z)(f:v<=1000000000)(e:AeZ h):Ah h (λr _=>r=.str (V8 v)) (mr Z N 156 [cn v,iI 10] h):=by rw[B9g];refine Fj (a v h f e) λj h1 e1 l1 i g=>?_;subst g;exact zr e1 rfl
def B0H:=∀v n h,NtS h v (lbN n)->n<=1000000000->AeZ h->Ah h (λr _=>∃k:Int,r=iI k/\0<=k/\k<=100) (Z.call 117 [v] h)
def Ccg{v:AV}(t:Bl5 Z)(k:NtS h v (lbN n))(hn:n<=1000000000)(B:AeZ h):Ah h (λr _=>∃k:Int,r=iI k/\0<=k/\k<=100) (mr Z N 117 [v] h):=by
 have m:=λa=>Sl.Gs (h:=h) (h1:=a) k;have u:=A83 hn;have j:=Bfs hn;generalize lbN n=ls at *;rw[B8P];rcases T7 ls with rfl|⟨l,c,e⟩;. replace m:∀a:H,Fo v a=.ok (iI 0) a:=m;clear k j u;refine wk ?_;exact zr Ex ⟨1,rfl,by decide,by omega⟩
 .rw[T9]at e;have F:ls.length=l.length+1:=by grind
  have hc:ls[l.length]?=some c:=by grind
  have C:=j c (by grind);obtain⟨J,M,o⟩:=R0.elem (f:=Abb) (s:=1) (λ_=>rfl) k hc;have D:=o.ia;have y:=o.part 0 _ rfl;rw[Vw]at y;obtain⟨i,hi⟩:∃i:Int,i=(l.length:Int):=⟨_,rfl⟩;replace m:∀a:H,Fo v a=.ok (iI (i+1)) a:=λa=>by simp_all
  rw[<- hi]at D;have r1:0<=i:=by omega
  have O:i<=1:=by omega
  have G:decide (i+1=0)=false:=df;have I:∀a:H,Aj prog .sub 3 true (iI (i+1)) (iI 1) a=.ok (iI i) a:=λa=>by show OR.ok (iI (E1 .i64 (i+1-1))) a=_;rw[show i+1-1=i by omega,lw.2.2 _ om om]
  have w2:∀a:H,Aj prog .mul 3 true (iI 9) (iI i) a=.ok (iI (9*i)) a:=λa=>by show OR.ok (iI (E1 .i64 (9*i))) a=_;rw[lw.2.2 _ om om]
  have x:=λa (g:Ai h a)=>t c a om (B.gr g);have E:=Bwa (show c<=1000000000 by omega);have A:(V8 (c:Int)).length=nd c:=Alh _ _;generalize V8 (c:Int)=sd at *;clear k j u hc F e o hi;refine wk ?_;refine Fj (x _ Ex) λL h1 e1 l1 p z=>?_;subst z;clear p x;have K:∀a:H,Aj prog .add 3 false (iI (9*i)) (iI (sd.length:Int)) a=.ok (iI (9*i+(sd.length:Int))) a:=λa=>by show OR.ok (iI (E1 .i64 (9*i+(sd.length:Int)))) a=_;rw[lw.2.2 _ om om]
  clear w2;refine wk ?_;exact zr Ex ⟨_,rfl,by omega,by omega⟩
variable {v:AV}
def Bg8{o}{st}{p}{fr}{e}{a c}(h:o=.loop st p fr e a c):Bbs o:=by subst h;exact⟨λ_ _ _ h=>by grind,λ_ h=>by cases h⟩
def Bbt{o}{f}(h:o=.dfr f):Bbs o:=by subst h;exact⟨λ_ _ _ h=>by grind,λ_ h=>by cases h⟩
def Bx9{sz lo len}{et}{v}{cs}{Y}(i:Fm sz lo et h v len cs)(f:∀cs e k,h.m.get l≠.cells cs e k)(hj:∀st,h.m.get l≠.Fb st):Fm sz lo et (h.put l Y) v len cs:=by
 rcases i with a|⟨rfl,rfl,t,off,D7,rfl,h2,a⟩|⟨t,k,st,rfl,q2,q3,o,q5,j,p,r,g⟩;. exact .inl a
 .exact .inr (.inl ⟨rfl,rfl,_,_,_,rfl,BeL h2 f hj,a⟩)
 .exact .inr (.inr ⟨_,k,st,rfl,by rw[Aq _ _ _ (by grind)];omega,by rw[Aq _ _ _ (by grind)];grind,o,q5,j,p,r,g⟩)
def Bda{Y}(k:BdS b s h)(f:∀cs e k,h.m.get l≠.cells cs e k)(hj:∀st,h.m.get l≠.Fb st):BdS b s (h.put l Y):=by have⟨a,v,i,q2,q3⟩:=k.g;exact⟨k.lt,a,v,i,(Aq _ _ _ (by grind)).trans q2,Bx9 q3 f hj⟩
def BoB{X a}(k:b<l)(r:hd.m.get l=a)(p:NEx a)(g:WG b (hd.put l X) h1):WG b hd (h1.put l a):=by
 refine⟨g.nx,λc hc=>?_,λc hc hn o=>?_,λx i=>?_⟩;. rw[Aq _ _ _ om,g.lo c hc,Aq _ _ _ om]
 .by_cases e:c=l;. simp_all
  .rw[Aq _ _ _ e,g.st c hc hn (by simp[*]),Aq _ _ _ e]
 .rcases Tu.1 i with rfl|i;. simp_all
  .rcases g.lg x i with f|f|⟨f,j⟩|f
   .rcases Tu.1 f with rfl|f;. grind
    simp_all
   .simp[*]
   .by_cases e:x=l;. simp_all
    simp_all
   simp_all
def A58(x:Nat):=List.replicate (9-(V8 (x:Int)).length) 48++V8 (x:Int)
def BxK(Bi9:Bl5 Z)(S:Bm5 Z){L O K I J p E o f j u C i z B A r F y y5:AV}{x:Nat}
 (hL:hd.m.get l=.loop 0 none (ApC L O (.ptr b 0) K I J p E o f j u C i z B A r F y) [24,25] Af4 Af5)
 (hx:x<1000000000) (kB:BdS b s hd) (hs:s.length<=100) (hp:AeZ hd) (V:b<l) (hl:l<hd.nx) (h2:2<b):
 Ah H0 (λrr h'=>rr=uz/\WG b hd h'/\BdS b (s++A58 x) h'/\h'.m.get l=hd.m.get l)
  (Aze prog Z N false l [y5,cn (x:Int)] hd):=by
 rw[Arc Z N hL,B55];rw[hL];simp only[];rw[B59];have T:∀cs e X,hd.m.get l≠.cells cs e X:=λcs e X G=>by grind
 have Z0:∀st,hd.m.get l≠.Fb st:=λst G=>by grind
 have k3:=Bda (Y:=.loop 1 none (ApC L O (.ptr b 0) K I J p E o f j u C i z B A r F y) [24,25] Af4 Af5) kB T Z0;have p3:AeZ (hd.put l (.loop 1 none (ApC L O (.ptr b 0) K I J p E o f j u C i z B A r F y) [24,25] Af4 Af5)):=⟨(Aq _ _ _ om).trans hp.g,hp.lt⟩;have eL:(hd.put l (.loop 1 none (ApC L O (.ptr b 0) K I J p E o f j u C i z B A r F y) [24,25] Af4 Af5)).m.get l=_:=A2 _ _;have n3:(hd.put l (.loop 1 none (ApC L O (.ptr b 0) K I J p E o f j u C i z B A r F y) [24,25] Af4 Af5)).nx=hd.nx:=rfl;have U:=λ(h1:H) (g:WG b (hd.put l (.loop 1 none (ApC L O (.ptr b 0) K I J p E o f j u C i z B A r F y) [24,25] Af4 Af5)) h1)=>BoB V hL (λcs e G=>by grind) g;generalize (hd.put l (.loop 1 none (ApC L O (.ptr b 0) K I J p E o f j u C i z B A r F y) [24,25] Af4 Af5))=h3 at *;have hdl:=Bwa (show x<=1000000000 by omega)
 have Q:(V8 (x:Int)).length=nd x:=Alh _ _;have M:b<h3.nx:=by omega
 refine Fj (Bi9 x h3 om p3) λv1 h4 e4 l4 A9W q1=>?_;subst q1;have k4:=k3.gr e4;have w4:WG b h3 h4:=.of M e4;unfold A58;rw[Q];have hl9:nd x<=9:=by
  rcases Aqg x om with⟨_,a2⟩|⟨D,a1,_,a2,a3,_⟩;. omega
  grind
 refine Ey (A63 _) ?_;rw[Q];have Z3:∀G:H,xSl prog 9 (.str th) (some (iI (nd x:Int))) none G=.ok (.str (List.replicate (9-nd x) 48)) G:=λG=>by have:=A3e (P:=prog) (h:=G) (t:=9) (a:=th) (k:=nd x) xi9 hl9;rw[this,show th=List.replicate 9 48 from rfl,List.drop_replicate]
 refine Ey (Z3 _) ?_;refine zc0 (S b s _ h4 k4 om (by grind)) λv5 h5 ⟨w5,k5⟩=>?_;refine zc0 (S b _ (V8 (x:Int)) h5 k5 (by grind) om) λv6 h6 ⟨w6,k6⟩=>?_;have w34:=w4.trans M w5;have R:=w34.trans M w6;have W:h6.m.get l=.loop 1 none (ApC _ _ _ _ I J _ _ o f j _ _ i _ _ _ _ ..) _ ..:=
  (R.st l om om (Bg8 eL)).trans eL
 rw[A6P W];refine Lo ⟨Wy _,λb V=>absurd V (dx b),λx _=>.inr (Wy x)⟩ ⟨rfl,U _ R,?_,A2 ..⟩;rw[Wq]at k6;exact Bda k6 λcs e X G=>by simp_all λst G=>by grind
def BhI(cr:Ac):=∀F G A B E a z u e r g t j k p o f y i C b l x s hd,
 hd.m.get l=.loop 0 none (ApC F G (.ptr b 0) A B E a z u e r g t j k p o f y i) [24,25] Af4 Af5 ->
 x<1000000000->BdS b s hd->s.length<=100->AeZ hd->b<l->l<hd.nx->2<b ->
 Ah H0 (λD h'=>D=uz/\WG b hd h'/\BdS b (s++A58 x) h'/\h'.m.get l=hd.m.get l) (cr.round l [C,cn x] hd)
def Bjl(h0:n≠0)(hn:n<=1000000000):∃(low:List _) (top:Nat),lbN n=low++[top]/\low.length<=1/\top<1000000000/\(∀x∈low,x<1000000000)/\V8 (top:Int)++low.reverse.flatMap A58=V8 (n:Int):=by
 rcases Ao7 hn with rfl|⟨a,n1⟩|rfl;. grind
 .exact⟨[],n,A5g a n1,by simp,n1,by simp,by simp⟩
 .exact⟨[0],1,rfl,by simp,by simp,by simp,rfl⟩
def Bnk x(e:x<1000000000):(A58 x).length<=10:=by unfold A58;have:=Bwa (show x<=1000000000 by omega);have a:(V8 (x:Int)).length=nd x:=Alh ..;grind
def B0I:=∀v n h,NtS h v (lbN n)->n<=1000000000->AeZ h->Ah h (λr _=>r=.str (V8 n)) (Z.call 118 [v] h)
def Cch(T:Bl5 Z)(BaO:Bm5 Z)(S:Bph Z)(A8u:BfL Z)(X:BfM Z cr)(W4:BhI cr)(k:NtS h v (lbN n))(hn:n<=1000000000)(hp:AeZ h):
 Ah h (λr _=>r=.str (V8 (n:Int))) (mr Z N 118 [v] h):=by
 have p:=λo=>Sl.Gs (h:=h) (h1:=o) k;rw[B8Q];by_cases h0:n=0
 .subst h0;replace p:∀o:H,Fo v o=.ok (iI 0) o:=p;clear k;have hq:V8 ((0:Nat):Int)=[48]:=by decide
  rw[hq];refine wk ?_;exact zr Ex rfl
 .obtain⟨low,top,e1,e2,e3,e4,e5⟩:=Bjl h0 hn;rw[<- e5];rw[e1]at k p;have S4:(low++[top]).length=low.length+1:=by simp
  have hc:(low++[top])[low.length]?=some top:=by rw[bu (Ye _),Nat.sub_self];rfl
  obtain⟨O,Q,P⟩:=R0.elem (f:=Abb) (s:=1) (λ_=>rfl) k hc;have x2:=P.ia;have x3:=P.part 0 _ rfl;rw[Vw]at x3;obtain⟨v',xs,k',_⟩:=Bjw (u:=low.length) k om om;rw[eb]at k';obtain⟨i,hi⟩:∃i:Int,i=(low.length:Int):=⟨_,rfl⟩;replace p:∀o:H,Fo v o=.ok (iI (i+1)) o:=λo=>by rw[p,S4,hi];rfl
  rw[<- hi]at x2 xs;have r1:0<=i:=by omega
  have r2:i<=1:=by omega
  have k1:decide (i+1=0)=false:=df;have w1:∀o:H,Aj prog .sub 3 true (iI (i+1)) (iI 1) o=.ok (iI i) o:=λo=>by show OR.ok (iI (E1 .i64 (i+1-1))) o=_;rw[show i+1-1=i by omega,lw.2.2 _ om om]
  have Rq:=λo (g:Ai h o)=>T top o om (hp.gr g);have hdl:=Bwa (show top<=1000000000 by omega)
  have G:(V8 (top:Int)).length=nd top:=Alh _ _;have U:∀c∈V8 (top:Int),c<256:=λc hc=>by have:=Axd _ _ c hc;omega
  have Hr:V8 (top:Int)≠[]:=λe=>by rw[e]at G;simp at G;omega
  generalize V8 (top:Int)=sd at *
  have L:=λo (g:Ai h o)=>k'.gr g;clear k hc S4 e1 P e5 k' hi;refine wk ?_;refine Fj (Rq _ Ex) λv1 h1 e1 l1 I q1=>?_;subst q1;have gA:Ai h h1:=Ai.trans Ex e1;simp only[C9]at l1;have b0:BdS h.nx [] h1:=⟨by omega,.Ob,.Bv,.inl rfl,(I h.nx ml).trans (Bf _),Fm.nil ..⟩;have Qy:h.nx<h1.nx:=by omega
  clear I Rq e1;refine gv0 (BaO h.nx [] sd h1 b0 (by simp) om) λV a q9=>?_;obtain⟨w9,k9⟩:=q9;rw[I3]at k9;have g9:Ai h a:=WG.own gA w9 (Ye _);refine Ey (p _) (Ey (w1 _) (Ey (xs _) ?_));refine Fj (A8u v' low a (L _ g9)) λv11 Kc Y l11 R q11=>?_;obtain⟨rfl,rfl⟩:=q11;rw[BfA];clear Y l11 R p;obtain⟨t,K⟩:∃F,F=(ApC v (.str []) (.ptr h.nx 0) v (iI (i+1)) ux v v (iI (i+1)) (iI i) (.ptr O Q) (cn top) (.str sd) V v v (iI (i+1)) (iI i) v' (.fn (.func 183) [] [.ptr a.nx 0])):=⟨_,rfl⟩;have nB:(((a.new (cz [v'] 127)).new (.dfr false)).new (.loop 0 none t [24,25] Af4 Af5)).nx=a.nx+3:=rfl;have gB:Ai a (((a.new (cz [v'] 127)).new (.dfr false)).new (.loop 0 none t [24,25] Af4 Af5)):=(((Ai.refl a).new _).new _).new _;have M:(((a.new (cz [v'] 127)).new (.dfr false)).new (.loop 0 none t [24,25] Af4 Af5)).m.get a.nx=cz [v'] 127:=by rw[Cq _ _ ml,Cq _ _ ml];exact Bf _
  have bF:(((a.new (cz [v'] 127)).new (.dfr false)).new (.loop 0 none t [24,25] Af4 Af5)).m.get (a.nx+1)=.dfr false:=by rw[Cq _ _ ml];exact Bf (h:=a.new _) _
  have bL:(((a.new (cz [v'] 127)).new (.dfr false)).new (.loop 0 none t [24,25] Af4 Af5)).m.get (a.nx+2)=.loop 0 none t [24,25] Af4 Af5:=Bf (h:=(a.new _).new _) _;change Ah h _ (Aa (Z.call 183 [.fn (.yield (a.nx+2)) [] [],.ptr a.nx 0] (((a.new (cz [v'] 127)).new (.dfr false)).new (.loop 0 none (ApC v (.str []) (.ptr h.nx 0) v (iI (i+1)) ux v v (iI (i+1)) (iI i) (.ptr O Q) (cn top) (.str sd) V v v (iI (i+1)) (iI i) v' (.fn (.func 183) [] [.ptr a.nx 0])) [24,25] Af4 Af5))) λ_ h1=>AyT (a.nx+2) _ h1);rw[<- K];have A:=g9.trans gB;have kB:=k9.gr gB;have n9:h1.nx<=a.nx:=w9.nx;generalize (((a.new (cz [v'] 127)).new (.dfr false)).new (.loop 0 none t [24,25] Af4 Af5))=hB at *
  have E:h.nx<hB.nx:=by omega
  have W:=hp.lt;refine gv0 (X low v' a.nx (a.nx+2) (λi o=>WG h.nx hB o/\BdS h.nx (sd++(low.drop i).reverse.flatMap A58) o/\o.m.get (a.nx+2)=.loop 0 none t [24,25] Af4 Af5) (λ_=>False) hB om ?g1 ?g2 ?g3 ⟨⟨by omega,_,_,M,trivial⟩,L hB A⟩) ?main;case g1=>rintro i o ⟨z,D,p3⟩;exact⟨⟨by have:=z.nx;omega,127,.exact,(z.ex _ _ _ om om M).trans M,trivial⟩,L o (WG.own A z (Ye _))⟩
  case g2=>
   rintro j x o B ⟨z,D,p3⟩;have hil:j<low.length:=(Wp.1 B).1;have J:low.drop j=x::low.drop (j+1):=by rw[bc hil,(Wp.1 B).2]
   have Ca7:low.drop (j+1)=[]:=S1 om;have hx:=e4 x (Vl B);rw[Ca7]at D J;have hr:=W4 v (.str []) v (iI (i+1)) ux v v (iI (i+1)) (iI i) (.ptr O Q) (cn top) (.str sd) V v v (iI (i+1)) (iI i) v' (.fn (.func 183) [] [.ptr a.nx 0]) (iI (j:Int)) h.nx (a.nx+2) x _ o (by rw[p3,K]) hx D (by simp;omega) (hp.gr (WG.own A z (Ye _))) om (by have:=z.nx;omega) W;refine hr.mono ?_;rintro r h' _ ⟨rfl,q1,q2,q3⟩;refine .inl ⟨rfl,z.trans E q1,?_,q3.trans p3⟩;rw[J];simpa using q2
  case g3=>refine⟨WG.refl E,?_,bL⟩;rw[Re];simpa using kB
  rintro v5 C ⟨_,⟨z,D,p3⟩|q6⟩;rotate_left;. exact q6.elim
  rw[Cp]at D;have n5:=z.nx;have g5:Ai h C:=WG.own A z (Ye _);have f5:=(z.st (a.nx+1) om om (Bbt bF)).trans bF;rw[Biw p3,Bbk];have f6:=(Aq (h:=C) (a.nx+2) (.loop 3 none t [24,25] Af4 Af5) (a.nx+1) om).trans f5;have g6:Ai h (C.put (a.nx+2) (.loop 3 none t [24,25] Af4 Af5)):=g5.put _ _ om;have k6:BdS h.nx (sd++low.reverse.flatMap A58) (C.put (a.nx+2) (.loop 3 none t [24,25] Af4 Af5)):=Bda D (λcs e L o=>by rw[p3]at o;cases o) (λst o=>by rw[p3]at o;cases o);have n6:(C.put (a.nx+2) (.loop 3 none t [24,25] Af4 Af5)).nx=C.nx:=rfl;generalize (C.put (a.nx+2) (.loop 3 none t [24,25] Af4 Af5))=h6 at *;refine gv0 (S h.nx _ h6 k6 (by simp[Hr]) ?_ ?_) λv7 h7 q7=>?_
  .intro c hc;rcases W7.1 hc with hc|hc;. exact U c hc
   .obtain⟨x,hx,hc⟩:=List.mem_flatMap.1 hc;unfold A58 at hc;rcases W7.1 hc with hc|hc;. rw[List.eq_of_mem_replicate hc];decide
    .have:=Axd _ _ c hc;omega
  .have:(low.reverse.flatMap A58).length<=10:=by
    rcases low with _|⟨x,_|⟨y,r⟩⟩;. simp
    .have:=Bnk x (e4 x (by simp));simpa using this
    .simp at e2
   rw[Yl];omega
  obtain⟨rfl,w7⟩:=q7;have f7:=(w7.st (a.nx+1) om om (Bbt f6)).trans f6;refine(show Ah h _ (dfE (a.nx+1) _ _)from ?_);rw[BqJ f7];exact Lo ((WG.own g6 w7 (Ye _)).put _ _ om) rfl
def Shp(x:AV):=x=.Bv\/∃b o l c s e,x=.sl b o l c s e
def AiZ(k:NtS h v ls):Shp v:=by
 rcases k with⟨_,_,rfl⟩|⟨b,off,cap,ex,cs,rfl,_⟩;. exact .inl rfl
 .exact .inr ⟨_,_,_,_,_,_,rfl⟩
def Bdb{x y}(e:Shp x)(a:Shp y) hh:B7 [ux,.Bv,.Bv] [(0,1,ux),(1,1,x),(2,1,y)] hh=.ok (.agg [ux,x,y]) hh:=by rcases e with rfl|⟨_,_,_,_,_,_,rfl⟩<;>rcases a with rfl|⟨_,_,_,_,_,_,rfl⟩<;>rfl
def BlH{y}(a:Shp y) hh:B7 [ux,.Bv,.Bv] [(2,1,y)] hh=.ok (.agg [ux,.Bv,y]) hh:=by rcases a with rfl|⟨_,_,_,_,_,_,rfl⟩<;>rfl
def A2n{x y}{C}(g:Shp x)(e:Shp y)(f:h.m.get b=cz C 129)(a:C.length=3):A4 3 (.ptr b 0) (.agg [ux,x,y]) h=.ok (.Bj []) (h.put b (cz [ux,x,y] 129)):=
 BjK f a.symm rfl (by rcases g with rfl|⟨_,_,_,_,_,_,rfl⟩<;>rcases e with rfl|⟨_,_,_,_,_,_,rfl⟩<;>rfl) rfl
def A0B{a}{e}{ca}{na}(f:h.m.get a=cz ca e)(g:na=ca.length):Vk [.c (some (some na)) (.ptr a 0)] h=.ok (.agg ca) h:=by simp_all
def AtT{x y:AV}{B:Bool}{x' p:AV}(k:NtS h v ls)(t:Shp x)(i:Shp y)(r:h.m.get b=cz [.bool B,x,y] 129):NtS (h.put b (cz [ux,x',p] 129)) v ls:=by
 have k':Sl 1 h v ls.length (ls.flatMap Abb):=k;rcases k' with o|⟨j,off,cap,ex,cs,rfl,q2,q3,f,q5⟩;. exact .inl o
 .by_cases e:j=b
  .subst e;obtain⟨e,z,r1,u⟩:=q3.cells;rw[r]at r1;injection r1 with r1 _ _;subst r1;have g:ls=[]:=by cases ls with
    |nil=>rfl
    |cons a l=>
     exfalso;have h0:(([AV.bool B,x,y].drop off).take ((a::l).length*1))[0]?=some (cn (a:Int)):=by grind
     have h1:=Vl h0;have h2:=List.mem_of_mem_drop (ax h1);simp only[Tu,Ww,Oq]at h2;rcases h2 with h2|h2|h2;. grind
     .rcases t with rfl|⟨_,_,_,_,_,_,rfl⟩<;>cases h2
     .rcases i with rfl|⟨_,_,_,_,_,_,rfl⟩<;>cases h2
   subst g;exact .inr ⟨_,_,_,_,_,rfl,q2,⟨q3.lt,_,_,A2 ..,trivial⟩,f,rfl⟩
  .exact .inr ⟨_,_,_,_,_,rfl,q2,AsM q3 e λst A=>by grind,f,q5⟩
def Bna:lbN n=[] ↔ n=0:=by unfold lbN;grind
def Aw5(hn:n<=1000000000):lbN n=[1] ↔ n=1:=by
 constructor
 .intro h;rcases Ao7 hn with rfl|⟨a,n1⟩|rfl;. cases h
  .rw[A5g a n1]at h;grind
  .cases h
 .rintro rfl;rfl
def B0G:=∀h,Ah h (λr h1=>∃y,r=.agg [ux,.Bv,y]/\NtS h1 y [1]) (Z.call 111 [] h)
def Ccf(a:BsR Z):Ah h (λr h1=>∃y,r=.agg [ux,.Bv,y]/\NtS h1 y [1]) (mr Z N 111 [] h):=by rw[B8O];refine wk (Fj ((λi=>a 1 _ (by simp)) _) λj h1 e1 l1 f e=>?_);have g:=(f _ (by simp)).trans (Bf _);refine Ey (BlH (AiZ e) _) (Ey (A2n (.inl rfl) (AiZ e) g rfl) ?_);rw[A0B (na:=3) (A2 ..) rfl];exact Lo ((Ai.trans Ex e1).put _ _ (Ye _)) ⟨_,rfl,AtT e (.inl rfl) (.inl rfl) g⟩
def B0B:=∀v v2 n d h,NtS h v (lbN n)->NtS h v2 (lbN d)->n<=1000000000->d<=1000000000->0<d ->
 Ah h (λr h1=>∃x y,r=.agg [ux,x,y]/\NtS h1 x (lbN (n/Nat.gcd n d))/\NtS h1 y (lbN (d/Nat.gcd n d))) (Z.call 80 [ux,v,v2] h)
def CbT(Q:B0E Z)(M:B0G Z)(B:Bh2 Z)(I:Bl1 Z)(p:Bh5 Z)(k:NtS h v (lbN n))(k2:NtS h v2 (lbN d))(hn:n<=1000000000)(a:d<=1000000000)(h0:0<d):
 Ah h (λr h1=>∃x y,r=.agg [ux,x,y]/\NtS h1 x (lbN (n/Nat.gcd n d))/\NtS h1 y (lbN (d/Nat.gcd n d))) (mr Z N 80 [ux,v,v2] h):=by
 rw[B8E];refine Ey (v:=.ptr h.nx 0) (h:=h.new (cz [ux,.Bv,.Bv] 129)) rfl ?_;have g1:Ai h (h.new (cz [ux,.Bv,.Bv] 129)):=(Ai.refl h).new _;have c1:(h.new (cz [ux,.Bv,.Bv] 129)).m.get h.nx=cz [ux,.Bv,.Bv] 129:=Bf _;have n1:(h.new (cz [ux,.Bv,.Bv] 129)).nx=h.nx+1:=rfl;generalize (h.new (cz [ux,.Bv,.Bv] 129))=hA at *;refine Fj (Q v _ hA (k.gr g1)) λv1 hB e1 l1 L q1=>?_;subst q1;have K:=g1.trans e1;have cB:=(L h.nx om).trans c1;by_cases z:n=0;. subst z;rw[show decide (lbN 0=[])=true from rfl];refine Zx ?_;refine Fj (M hB) λv3 E e3 l3 F q3=>?_;obtain⟨y,rfl,i⟩:=q3;have A:=(F h.nx om).trans cB;refine Ey (A2n (.inl rfl) (AiZ i) A rfl) ?_;rw[A0B (na:=3) (A2 _ _) rfl];refine Lo ((K.trans e3).put _ _ (Ye _)) ⟨_,y,rfl,.inl ⟨by rw[Nat.zero_div];rfl,by rw[Nat.zero_div];rfl,rfl⟩,?_⟩;rw[Nat.gcd_zero_left,Nat.div_self h0];exact AtT i (.inl rfl) (.inl rfl) A
 rw[show decide (lbN n=[])=false from Yc (λe=>z (Bna.1 e))];refine Ae5 ?_;refine Fj (B v2 _ hB (k2.gr K)) λv5 E e5 l5 S q5=>?_;subst q5;have C:=K.trans e5
 have A:=(S h.nx om).trans cB;have sx:=AiZ k;have sy:=AiZ k2;have same:∀D:H,Ai h D->D.m.get h.nx=cz [ux,.Bv,.Bv] 129->Nat.gcd n d=1->Ah h (λr h1=>∃x y,r=.agg [ux,x,y]/\NtS h1 x (lbN (n/Nat.gcd n d))/\NtS h1 y (lbN (d/Nat.gcd n d)))
  (Aa (B7 [ux,.Bv,.Bv] [(0,1,ux),(1,1,v),(2,1,v2)] D) λv6 h6=>Aa (A4 3 (.ptr h.nx 0) v6 h6) λv7 h7=>Vk [.c (some (some 3)) (.ptr h.nx 0)] h7):=by
  intro D g c hg;refine Ey (Bdb sx sy _) (Ey (A2n sx sy c rfl) ?_);rw[A0B (na:=3) (A2 _ _) rfl,hg,Qf,Qf];exact Lo (g.put _ _ (Ye _)) ⟨v,v2,rfl,AtT (k.gr g) (.inl rfl) (.inl rfl) c,AtT (k2.gr g) (.inl rfl) (.inl rfl) c⟩
 by_cases t:d=1
 .rw[show decide (lbN d=[1])=true from Ws ((Aw5 a).2 t)]
  refine Zx ?_;exact same E C A (by simp_all)
 rw[show decide (lbN d=[1])=false from Yc (λe=>t ((Aw5 a).1 e))];refine Ae5 ?_;refine Fj (I v v2 n d E (k.gr C) (k2.gr C) hn a) λv8 hD e8 l8 X q8=>?_;have gD:=C.trans e8;have cD:=(X h.nx om).trans A;refine Fj (B v8 _ hD q8) λv9 O e9 l9 W q9=>?_;subst q9;have V:=gD.trans e9;have cE:=(W h.nx om).trans cD;have u:0<Nat.gcd n d:=Se _ h0;have hgd:Nat.gcd n d<=d:=Nat.gcd_le_right _ h0;have Y:=q8.gr e9;by_cases f:Nat.gcd n d=1;. rw[show decide (lbN (Nat.gcd n d)=[1])=true from Ws ((Aw5 om).2 f)];refine Ey (v:=ux) (h:=O) rfl (Ae5 ?_);exact same O V cE f
 rw[show decide (lbN (Nat.gcd n d)=[1])=false from Yc (λe=>f ((Aw5 om).1 e))];refine Ey (v:=uz) (h:=O) rfl (Zx ?_)
 refine Fj (p v v8 n _ _ (k.gr V) Y hn om u) λv11 hF j l11 T R=>?_;obtain⟨x,m1,rfl,G,_⟩:=R;have gF:=V.trans j;refine Ey rfl (Ey rfl (Fj (p _ _ d _ _ (k2.gr gF) (Y.gr j) a om u) λEr hG o l14 U J=>?_));obtain⟨y,m2,rfl,i,_⟩:=J;have P:=(U _ om).trans ((T _ om).trans cE);refine Ey rfl (Ey rfl (Ey (Bdb (AiZ G) (AiZ i) _) (Ey (A2n (AiZ G) (AiZ i) P rfl) ?_)));rw[A0B (na:=3) (A2 ..) rfl];exact Lo ((gF.trans o).put _ _ (Ye _)) ⟨x,y,rfl,AtT (G.gr o) (.inl rfl) (.inl rfl) P,AtT i (.inl rfl) (.inl rfl) P⟩
def fTx(n d:Nat):uq:=if d=1 then V8 n else V8 (n:Int)++47::V8 d
def B0C:=∀x y n d h,NtS h x (lbN n)->NtS h y (lbN d)->n<=1000000000->d<=1000000000->AeZ h->Ah h (λr _=>r=.Bj [.str (fTx n d),iI 0]) (Z.call 82 [.agg [ux,x,y]] h)
def CbU{x y:AV}(j:B0H Z)(i:B0I Z)(C:Bh2 Z)(k:NtS h x (lbN n))(k2:NtS h y (lbN d))(hn:n<=1000000000)(e:d<=1000000000)(p:AeZ h):Ah h (λr _=>r=.Bj [.str (fTx n d),iI 0]) (mr Z N 82 [.agg [ux,x,y]] h):=by
 rw[B8F];refine Ey (v:=.ptr h.nx 0) (h:=h.new (cz [ux,x,y] 129)) rfl ?_;have g1:Ai h (h.new (cz [ux,x,y] 129)):=(Ai.refl h).new _;have c0:Nv (h.new (cz [ux,x,y] 129)) h.nx [ux,x,y]:=⟨Up _,_,_,Bf _,trivial⟩;generalize (h.new (cz [ux,x,y] 129))=hA at *;have x0:=c0.one (o:=0) rfl;have Y:=c0.one (o:=1) rfl;have x2:=c0.one (o:=2) rfl;have R:∀a:H,Bs (.ptr h.nx 0) 1 a=.ok (.ptr h.nx 1) a:=λa=>by rfl
 have f2:∀a:H,Bs (.ptr h.nx 0) 2 a=.ok (.ptr h.nx 2) a:=λa=>by rfl
 have f0:∀a:H,Bs (.ptr h.nx 0) 0 a=.ok (.ptr h.nx 0) a:=λa=>by rfl
 refine Ey (R _) (Ey (Y _ (Bi.refl _)) ?_);refine Fj (j x n hA (k.gr g1) hn (p.gr g1)) λv4 X J l4 B S=>?_;obtain⟨f,rfl,_,z⟩:=S;have z1:∀(f:Int),f<=100->∀a:H,Aj prog .gtr 3 true (iI f) (iI 4000) a=.ok ux a:=λf z a=>by show OR.ok (.bool (ilt 4000 f)) a=_;rw[Il,Yc om]
 have z2:=z1 f z;have t:=(show F5 _ from k);clear k B c0;refine wk ?_;replace t:NtS h x (lbN n):=t;have u:=g1.trans J;refine Fj (j y d X (k2.gr u) e (p.gr u)) λv5 hC D l5 A q5=>?_;obtain⟨T,rfl,_,F⟩:=q5;have z3:=z1 T F;have E:=u.trans D;have M:=J.trans D;have K:=λa (g:Ai h a)=>i x n a (t.gr g) hn (p.gr g);have O:=λa (g:Ai h a)=>i y d a (k2.gr g) e (p.gr g);have m:=λa (g:Ai h a)=>C y _ a (k2.gr g);have W:=(AlG (n:=(n:Int)) ⟨by omega,by omega⟩).2.2.1;have V:=(AlG (n:=(d:Int)) ⟨by omega,by omega⟩).2.2.1;have e1:decide (lbN d=[1])=decide (d=1):=cj.2 (Aw5 e);unfold fTx;rw[e1]at m;generalize V8 (n:Int)=sn at *;generalize V8 (d:Int)=sd at *;have a1:∀a:H,Aj prog .add 9 true (.str [47]) (.str sd) a=.ok (.str (47::sd)) a:=λa=>A6v (P:=prog) (h:=a) 9 true [47] sd (by grind);have a2:∀a:H,Aj prog .add 9 false (.str sn) (.str (47::sd)) a=.ok (.str (sn++47::sd)) a:=λa=>A6v (P:=prog) (h:=a) 9 false sn (47::sd) (by grind);clear k2 t A z1 e1 hn p z F W V;refine wk ?_;refine Fj (K _ E) λv6 hD G l6 U Q=>?_;subst Q;have I:=E.trans G;have uD:=M.trans G;refine wk ?_;rw[Bln];refine wk (Fj (m _ I) λv7 hE L l7 AvU q7=>?_);by_cases h1:d=1;. rw[Xo h1];refine wk ?_;exact zr Ex rfl
 .rw[X2 h1];refine wk ?_;refine Fj (O _ (I.trans L)) λv8 hF e8 l8 BfJ q8=>wk ?_;exact zr Ex rfl
def Bm6:=∀(n d:Nat) h,n<=1000000000->d<=1000000000->0<d->AeZ h->Ah h (λr _=>r=.Bj [.str (fTx (n/Nat.gcd n d) (d/Nat.gcd n d)),iI 0]) (Z.call 47 [.str (V8 n),.str (V8 d)] h)
def CbH(p:BsW Z)(o:B1a Z)(i:Bl0 Z)(j:B0B Z)(k:B0C Z)(hn:n<=1000000000)(g:d<=1000000000)(h0:0<d)(K:AeZ h):
 Ah h (λr _=>r=.Bj [.str (fTx (n/Nat.gcd n d) (d/Nat.gcd n d)),iI 0]) (mr Z N 47 [.str (V8 (n:Int)),.str (V8 (d:Int))] h):=by
 have m:Num (n:Int):=⟨by omega,by omega⟩;have a:Num (d:Int):=⟨by omega,by omega⟩;have ln:=(AlG m).2.2.1;have ld:=(AlG a).2.2.1;have S:V8 (d:Int)≠[48]:=λe=>by have:=(Alj a.1 a.2).2.1;rw[e]at this;have h2:(AnE [48]:Int)=0:=rfl;omega
 have J:=λf=>p _ f m;have c2:=λf=>o _ f a;have c3:=λf=>i _ f m;have c4:=λf=>i _ f a;rw[Lm]at c3 c4;have T:0<Nat.gcd n d:=Se _ h0;have z:n/Nat.gcd n d<=1000000000:=Ol (T6 _ _) hn;have b2:d/Nat.gcd n d<=1000000000:=Ol (T6 _ _) g;generalize V8 (n:Int)=sn at *;generalize V8 (d:Int)=sd at *;have U:decide _=false:=df;rw[B85];refine Fj (J _) λv1 hA e1 l1 G q1=>(wk ?_);refine Fj (c2 _) λv2 hB I l2 P q2=>(wk (Fj (c3 _) λW V Q l3 B q3=>(Fj (c4 _) λv4 hD u l4 R L=>Fj (j _ _ n d _ (q3.gr u) L hn g h0) λv5 hE A Y M q5=>?_)));obtain⟨x,y,rfl,C,D⟩:=q5;have t:=(((e1.trans I).trans Q).trans u).trans A;refine Fj (k x y _ _ _ C D z b2 (K.gr t)) λX hF F l6 O E=>?_;subst E;exact Ey rfl (Ey rfl (Lo (t.trans F) rfl))
def BfC:∀s i,c ∉ s->Ak9 c s i=-1
|[],i,_=>rfl
|a::s,i,h=>by show @Bool.rec _ _ ..=-1;rw[show Nat.beq a c=false by cases f:Nat.beq a c with
  |false=>rfl
  |true=>simp_all];exact BfC s _ λe=>h (Vo _ e)
def BfB:∀a b i,c ∉ a->Ak9 c (a++c::b) i=(i+a.length:Nat)
|[],b,i,_=>by show @Bool.rec _ _ ..=_;simp
|x::a,b,i,h=>by show @Bool.rec (λ_=>Int) (Ak9 c (a++c::b) _) ..=_;rw[show Nat.beq x c=false by cases f:Nat.beq x c with
  |false=>rfl
  |true=>simp_all,BfB a b _ λe=>h (Vo _ e),Y7];grind
def B0Q:=∀s h,Ah h (λr _=>r=iI (Ak9 47 s 0)) (Z.call 191 [.str s,cw 47] h)
def Ccq:Ah h (λr _=>r=iI (Ak9 47 s 0)) (mr Z N 191 [.str s,cw 47] h):=by rw[B9h,(rfl:Uk ..=2)];exact Ey rfl (Lo (Ai.refl h) rfl)
def B0J:=∀s h,Ah h (λr _=>r=iI (Ak9 47 s 0)) (Z.call 158 [.str s,.str [47]] h)
def Cci(a:B0Q Z):Ah h (λr _=>r=iI (Ak9 47 s 0)) (mr Z N 158 [.str s,.str [47]] h):=by
 have m:∀f,xIx _ _ (.str [47]) (iI 0) f=.ok ..:=λf=>A0l rfl;rw[B8R];by_cases e:s=[47];. rw[(by rw[e];rfl:Ak9 47 s 0=0)];refine wk ?_;exact zr Ex rfl
 .have j:decide ([47]=s)=false:=Yc λh=>e h.symm;refine wk (Fj (a s _) λk h1 e1 l1 i g=>?_);subst g;exact zr e1 rfl
def Bia s a b f:=f=false/\47 ∉ s/\a=s/\b=[]\/f=true/\47 ∉ a/\s=a++47::b
def B0D:=∀s a b f h,Bia s a b f->s.length<=100->Ah h (λr _=>r=.Bj [.str a,.str b,.bool f]) (Z.call 123 [.str s,.str [47]] h)
def CbV{a b}{f}(j:B0J Z)(hc:Bia s a b f)(m:s.length<=100):Ah h (λr _=>r=.Bj [.str a,.str b,.bool f]) (mr Z N 123 [.str s,.str [47]] h):=by
 have hq:=j s h;rw[B8G];rcases hc with⟨rfl,h1,rfl,rfl⟩|⟨rfl,h1,rfl⟩;. rw[BfC _ 0 h1]at hq;exact Fj hq λp h1 e1 l1 g o=>wk (zr Ex rfl)
 .rw[BfB a b 0 h1,Rx]at hq;rw[Yl,Y7]at m;have u:∀e,xSl _ 9 (.str (a++47::b)) _ (some (iI a.length)) e=.ok ..:=λe=>by rw[Awe xi9 (by simp),eb]
  have t:∀e,xSl prog 9 (.str (a++47::b)) (some (iI (a.length+1))) none e=.ok (.str b) e:=λe=>by have:=A3e (h:=e) (a:=a++47::b) (k:=a.length+1) xi9 (by simp);simp_all
  have⟨i,hi⟩:∃i:Int,i=a.length:=⟨_,rfl⟩;rw[<- hi]at hq u t;have r1:0<=i:=by omega
  have x:i<=100:=by omega
  refine Fj hq λp h1 e1 l1 g o=>?_;clear g hq hi m;exact wk (zr Ex rfl)
def BsO:=∀s a b f h,Bia s a b f->s.length<=100->Ah h (λr _=>r=.Bj [.str a,.str b,.bool f]) (Z.call 90 [.str s,.str [47]] h)
def CbK{a b}{f}(e:B0D Z)(hc:Bia s a b f)(g:s.length<=100):Ah h (λr _=>r=.Bj [.str a,.str b,.bool f]) (mr Z N 90 [.str s,.str [47]] h):=by rw[B86];exact Fj (e s a b f h hc g) λk h1 e1 l1 i j=>wk (zr Ex rfl)
def Bfa{n d:Nat}(hn:n<=1000000000)(hd:d<=1000000000):Bia (fTx n d) (V8 n) (if d=1 then[]else V8 d) (decide (d≠1))/\(fTx n d).length<=100:=by
 have d1:=AlG (n:=n) ⟨by omega,by omega⟩;have d2:=AlG (n:=d) ⟨by omega,by omega⟩;have n1:47 ∉ V8 (n:Int):=λh=>by grind
 unfold fTx;by_cases h1:d=1;. rw[Xo h1,Xo h1];exact⟨.inl ⟨Yc (by omega),n1,rfl,rfl⟩,by grind⟩
 .rw[X2 h1,X2 h1];exact⟨.inr ⟨Ws h1,n1,rfl⟩,by grind⟩
def B09:=∀(n d:Nat) h,n<=1000000000->d<=1000000000->0<d->Nat.gcd n d=1->Ah h (λr _=>∃x y,Shp x/\Shp y/\r=.Bj [.agg [ux,x,y],iI 0]) (Z.call 122 [.str (fTx n d)] h)
def Cbl(i:Bl0 Z)(p:Bl1 Z)(B:Bh2 Z){b:Nat}{f0:L2}(hn:n<=1000000000)(D:d<=1000000000)(h0:0<d)(hg:Nat.gcd n d=1)(g:Ai h hd)(U:h.nx<=b)(B6:b<hd.nx)(K:hd.m.get b=cz [ux,.Bv,.Bv] 129)(sl:Bool):
 Ah h (λr _=>∃x y,Shp x/\Shp y/\r=.Bj [.agg [ux,x,y],iI 0]) (A6w Z N (.ptr b 0) (.str (V8 (d:Int))) (.bool sl) ux (.str (V8 (n:Int))) uz f0 hd):=by
 have G:Num (n:Int):=⟨by simp,by omega⟩;have f:Num (d:Int):=⟨by omega,by omega⟩;have ln:=(AlG G).2.2.1;have ld:=(AlG f).2.2.1;have c3:=λa=>i _ a G;have c4:=λa=>i _ a f;rw[Lm]at c3 c4;generalize V8 (n:Int)=sn at *;generalize V8 (d:Int)=sd at *;have k1:decide ((4000:Int)<(sn.length:Int))=false:=df;have k2:decide (4000<sn.length)=false:=df;have k3:decide ((4000:Int)<(sd.length:Int))=false:=df;have k4:decide (4000<sd.length)=false:=df;rw[Blm];clear ln ld G f;refine wk ?_;refine Fj (c3 hd) λj R e3 l3 t q3=>?_;refine Fj (c4 R) λk e O l4 A L=>?_;have E:=q3.gr O;have X:=(g.trans e3).trans O;have bD:=(A b om).trans ((t b om).trans K);have C:=AiZ q3;have s2:=AiZ L;refine Ey (Bdb C s2 _) ?_;refine Ey (v:=.ptr e.nx 0) (h:=e.new (cz [ux,.Bv,.Bv] 129)) rfl ?_;refine Ey (A2n C s2 (Bf _) rfl) ?_;have z:Ai e ((e.new (cz [ux,.Bv,.Bv] 129)).put e.nx (cz [ux,j,k] 129)):=((Ai.refl e).new _).put _ _ (Ye _);have J:Nv ((e.new (cz [ux,.Bv,.Bv] 129)).put e.nx (cz [ux,j,k] 129)) e.nx [ux,j,k]:=⟨Up _,_,_,A2 _ _,trivial⟩;generalize ((e.new (cz [ux,.Bv,.Bv] 129)).put e.nx (cz [ux,j,k] 129))=hE at *;have x1:=J.one (o:=1) rfl;have x2:=J.one (o:=2) rfl;have V:=J.many (o:=0) (n:=3) (by simp) (l:=[ux,j,k]) rfl;have f1:∀a:H,Bs (.ptr e.nx 0) 1 a=.ok (.ptr e.nx 1) a:=λa=>by rfl
 have f2:∀a:H,Bs (.ptr e.nx 0) 2 a=.ok (.ptr e.nx 2) a:=λa=>by simp
 have P:=X.trans z;have M:=(z.Cf b om).trans bD;have u:∀a:H,Ai h a->a.m.get b=cz [ux,.Bv,.Bv] 129->Ah h (λr _=>∃x y,Shp x/\Shp y/\r=.Bj [.agg [ux,x,y],iI 0])
  (Aa (A4 3 (.ptr b 0) (.agg [ux,j,k]) a) λMb Wc=>Vk [.c (some (some 3)) (.ptr b 0),.v (iI 0)] Wc):=by intro a g c;refine Ey (A2n C s2 c rfl) ?_;rw[Bii (na:=3) (A2 _ _) rfl];exact Lo (g.put _ _ U) ⟨_,_,C,s2,rfl⟩
 cases sl with
 |false=>clear t A c3 c4 i p B;exact wk ((show ∀a:H,Ai h _->a.m.get b=.cells _ ..->_ from u) _ P M)
 |true=>refine wk ?_;refine Fj (p _ _ n d _ (E.gr z) (L.gr z) hn D) λv9 hF W l9 A0Q Q=>(wk (Fj (B _ _ _ (show F5 _ from Q)) λS hG I T Y q10=>?_));have F:=W.trans I;have gG:=P.trans F;have kd:decide (lbN 1=[1])=true:=rfl;exact wk (Ey (V _ F.keeps) ((show ∀a:H,Ai h _->a.m.get b=.cells _ ..->_ from u) _ gG ((F.Cf b (by have:=z.lo;omega)).trans M)))
def CbG(P:BsO Z)(J:BsW Z)(L:Bl8 Z)(p:Bl0 Z)(j:Bl1 Z)(t:Bh2 Z)(hn:n<=1000000000)(i:d<=1000000000)(h0:0<d)(D:Nat.gcd n d=1):
 Ah h (λr _=>∃x y,Shp x/\Shp y/\r=.Bj [.agg [ux,x,y],iI 0]) (mr Z N 122 [.str (fTx n d)] h):=by
 obtain⟨hc,I⟩:=Bfa (n:=n) (d:=d) hn i;have F:Num (n:Int):=⟨by omega,by omega⟩;have o:Num (d:Int):=⟨by omega,by omega⟩;have u:=λg=>P _ _ _ _ g hc I;have c2:=λg=>J _ g F;have c3:=λg=>L _ g o;have M:∀m:Nat,m<=1000000000->AnE (V8 (m:Int))=m:=λm Y=>by have:=(Alj (n:=(m:Int)) om om).2.1;omega
 have k:=λ(hd:H) (b:Nat) (f0:L2)=>Cbl Z N (h:=h) (hd:=hd) (b:=b) (f0:=f0) p j t hn i h0 D;have wt:∀(w:Bool) (r:OR) (g:H),Ad (.Bj []) w r g=.ok (.Bj []) g:=λw r g=>A0V [] w r g;rw[B84];by_cases h1:d=1
 .subst h1;rw[show(decide ((1:Nat)≠1))=false from rfl,Xo rfl]at u
  have K:V8 ((1:Nat):Int)=[49]:=by decide
  rw[K]at k;generalize fTx n 1=s at *
  generalize V8 (n:Int)=sn at *
  clear hc I F o c3 p j t D;replace k:=(show F5 _ from k)
  refine wk ?_;refine Fj (u _) λA O e1 l1 a E=>?_;subst E;have C:=(a h.nx ml).trans (Bf _);have g1:Ai h O:=Ai.trans Ex e1;simp only[C9]at l1;clear a u;refine wk ?_;refine Fj (c2 _) λv2 Q G l2 f q2=>?_;subst q2;have b2:=(f h.nx om).trans C;clear f c2;refine wk ?_;exact(show ∀(hd:H) (b:Nat) (f0:L2),_ from k) _ _ _ (g1.trans G) (Ye _) om b2 false
 .rw[show(decide (d≠1))=true from Ws h1,X2 h1]at u;have A:=M n hn;have v2:=M d i
  have B:n≠0:=by grind
  have T:decide (V8 (n:Int)=[48])=false:=Yc λe=>by rw[e]at A;exact B (A.symm.trans rfl)
  have k2:decide (V8 (d:Int)=[48])=false:=Yc λe=>by rw[e]at v2;have:d=0:=v2.symm.trans rfl;omega
  have W:decide (V8 (d:Int)=[49])=false:=Yc λe=>by rw[e]at v2;exact h1 (v2.symm.trans rfl)
  generalize fTx n d=s at *;generalize V8 (n:Int)=sn at *;generalize V8 (d:Int)=sd at *;clear hc I F o p j t D A v2 M h1 B;replace k:=(show F5 _ from k);refine wk ?_;refine Fj (u _) λA O e1 l1 a E=>?_;subst E;have C:=(a h.nx ml).trans (Bf _);have g1:Ai h O:=Ai.trans Ex e1;simp only[C9]at l1;clear a u;refine wk ?_;refine Fj (c2 _) λv2 Q G l2 f q2=>?_;subst q2;have b2:=(f h.nx om).trans C;clear f c2;refine wk ?_;refine Fj (c3 _) λU V S X z q3=>?_;subst q3;have R:=(z h.nx om).trans b2;clear z c3;refine wk ?_;exact(show ∀(hd:H) (b:Nat) (f0:L2),_ from k) _ _ _ ((g1.trans G).trans S) (Ye _) om R true
def R92:=∀(n d:Nat) h,n<=1000000000->d<=1000000000->0<d->Nat.gcd n d=1->Ah h (λr _=>r=iI 0) (Z.call 89 [.str (fTx n d)] h)
def r92(e:B09 Z)(hn:n<=1000000000)(a:d<=1000000000)(h0:0<d)(g:Nat.gcd n d=1):Ah h (λr _=>r=iI 0) (mr Z N 89 [.str (fTx n d)] h):=by rw[e92];refine Fj (e n d h hn a h0 g) λm o e1 l1 k f=>?_;obtain⟨x,y,i,j,rfl⟩:=f;exact Ey rfl (Ey rfl (Ey rfl (Ey (A2n i j (Bf _) rfl) (Lo ((e1.new _).put _ _ e1.lo) rfl))))
def B08:=∀(n d:Nat) h,n<=1000000000->d<=1000000000->0<d->Nat.gcd n d=1->Ah h (λr _=>r=.Bj [.str (V8 n),.str (V8 d),iI 0]) (Z.call 53 [.str (fTx n d)] h)
def B5w(j:R92 Z)(m:BsO Z)(hn:n<=1000000000)(a:d<=1000000000)(h0:0<d)(t:Nat.gcd n d=1):Ah h (λr _=>r=.Bj [.str (V8 (n:Int)),.str (V8 (d:Int)),iI 0]) (mr Z N 53 [.str (fTx n d)] h):=by
 obtain⟨hc,o⟩:=Bfa (n:=n) (d:=d) hn a;have k:=λe=>m _ _ _ _ e hc o;have c2:=j n d h hn a h0 t;have z1:∀e:H,Aj prog .neq 28 true (iI 0) (iI 0) e=.ok ux e:=λe=>rfl;rw[B83];by_cases h1:d=1
 .subst h1;rw[show(decide ((1:Nat)≠1))=false from rfl,Xo rfl]at k;have i:V8 ((1:Nat):Int)=[49]:=by rfl
  rw[i];generalize fTx n 1=s at *;generalize V8 (n:Int)=sn at *;clear hc o t;refine Fj c2 λx y e1 l1 f p=>?_;subst p;refine wk ?_;refine Fj (k _) λv2 u z l2 g q2=>wk ?_;exact zr Ex rfl
 .refine Fj c2 λx y e1 l1 f p=>wk ?_;refine Fj (k _) λv2 u z l2 g q2=>wk ?_;exact zr Ex rfl
variable {q q2:Nat}
abbrev AcA:Int:=500000000
abbrev cS(a b c:Int):AO:=cz [cn a,cn b,cn c] 175
def Bp4:=∀q q2 h,h.m.get q=cS 0 AcA 0->h.m.get q2=cS 0 AcA 0->q≠q2->q<h.nx->q2<h.nx->Ah H0 (λr h'=>r=cn 1/\PS [q] h h'/\h'.m.get q=cS 0 0 0) (Z.call 153 [.sl q 0 3 3 1 true,.sl q2 0 2 3 1 true] h)
def B51(U:5<N)(k:h.m.get q=cS 0 AcA 0)(g2:h.m.get q2=cS 0 AcA 0)(hn:q≠q2)(l1:q<h.nx)(l2:q2<h.nx):Ah H0 (λr h'=>r=cn 1/\PS [q] h h'/\h'.m.get q=cS 0 0 0) (mr Z N 153 [.sl q 0 3 3 1 true,.sl q2 0 2 3 1 true] h):=by
 obtain⟨Q,rfl⟩:∃m,N=m+3:=⟨N-3,by omega⟩;have e:Nv h q _:=⟨l1,_,_,k,trivial⟩;have c2:Nv h q2 _:=⟨l2,_,_,g2,trivial⟩;have u0:∀a:H,Gc 1 (.sl q 0 3 3 1 true) (iI 0) a=.ok (.ptr q 0) a:=λa=>A6n (i:=0) (off:=0) (by simp) a;have u1:∀a:H,Gc 1 (.sl q 0 3 3 1 true) (iI 1) a=.ok (.ptr q 1) a:=λa=>A6n (i:=1) (off:=0) (by omega) a;have u2:∀a:H,Gc 1 (.sl q 0 3 3 1 true) (iI 2) a=.ok (.ptr q 2) a:=λa=>A6n (i:=2) (off:=0) (by simp) a;have w0:∀a:H,Gc 1 (.sl q2 0 2 3 1 true) (iI 0) a=.ok (.ptr q2 0) a:=λa=>A6n (i:=0) (off:=0) fe a;have F:∀a:H,Gc 1 (.sl q2 0 2 3 1 true) (iI 1) a=.ok (.ptr q2 1) a:=λa=>A6n (i:=1) (off:=0) fe a;have I:Nv h q _:=e;have f:=e.one (o:=0) rfl;have D:=e.one (o:=1) rfl;have z:=e.one (o:=2) rfl;have B:=c2.one (o:=0) rfl;have j:=c2.one (o:=1) rfl;have C:∀a:H,Aj prog .mul 175 true (cn 0) (cn 1000000000) a=.ok (cn 0) a:=λa=>by rfl
 have a2:∀a:H,Aj prog .add 175 false (cn 0) (cn AcA) a=.ok (cn AcA) a:=λa=>by kernel_rfl
 have p:∀a:H,Aj prog .quo 175 false (cn AcA) (cn AcA) a=.ok (cn 1) a:=λa=>by kernel_rfl
 have u:∀a:H,Aj prog .rem 175 false (cn AcA) (cn AcA) a=.ok (cn 0) a:=λa=>by kernel_rfl
 have t:∀a:H,Aj prog .lss 175 true (cn 0) (cn 1000000000) a=.ok uz a:=λa=>by kernel_rfl
 have A:∀a:H,Aj prog .geq 175 true (cn 1) (cn 1000000000) a=.ok ux a:=λa=>by kernel_rfl
 have K:∀a:H,Aj prog .mul 175 false (cn 1) (cn 0) a=.ok (cn 0) a:=λa=>by kernel_rfl
 have E:∀a:H,Aj prog .add 175 false (cn 0) (cn 0) a=.ok (cn 0) a:=λa=>by kernel_rfl
 have y:∀a:H,Aj prog .gtr 175 false (cn 0) (cn 0) a=.ok ux a:=λa=>by kernel_rfl
 have M:∀(w:Bool) (r:OR) (a:H),Ad (.Bj []) w r a=.ok (.Bj []) a:=λw r a=>A0V [] w r a;have S:∀a:H,Fo (.sl q2 0 2 3 1 true) a=.ok (iI 2) a:=λa=>rfl;rw[B9d];refine wk ?_;rw[Blw];refine wk ?_;clear f D z B j C a2 p u t A y e;have G:∀a:H,Aj prog .quo 175 true (cn 0) (cn 1000000000) a=.ok (cn 0) a:=λa=>by kernel_rfl
 have b2:∀a:H,Aj prog .rem 175 true (cn 0) (cn 1000000000) a=.ok (cn 0) a:=λa=>by kernel_rfl
 have O:∀a:H,Aj prog .lss 175 false (cn 0) (cn 0) a=.ok ux a:=λa=>by kernel_rfl
 have R:∀a:H,Aj prog .sub 175 false (cn 0) (cn 0) a=.ok (cn 0) a:=λa=>by kernel_rfl
 have J:∀a:H,Aj prog .mul 175 false (cn 1) (cn AcA) a=.ok (cn AcA) a:=λa=>by kernel_rfl
 have L:∀a:H,Aj prog .add 175 false (cn AcA) (cn 0) a=.ok (cn AcA) a:=λa=>by kernel_rfl
 have b7:∀a:H,Aj prog .quo 175 true (cn AcA) (cn 1000000000) a=.ok (cn 0) a:=λa=>by kernel_rfl
 have T:∀a:H,Aj prog .rem 175 true (cn AcA) (cn 1000000000) a=.ok (cn AcA) a:=λa=>by kernel_rfl
 have P:∀a:H,Aj prog .lss 175 false (cn AcA) (cn AcA) a=.ok ux a:=λa=>by kernel_rfl
 have d1:∀a:H,Aj prog .sub 175 false (cn AcA) (cn AcA) a=.ok (cn 0) a:=λa=>by kernel_rfl
 have d2:∀a:H,Aj prog .geq 175 false (cn 0) (cn 0) a=.ok uz _:=λa=>rfl;rw[A6S];refine wk ?_;rw[Be7];refine wk ?_;rw[BeD];refine wk ?_;rw[A6S];refine wk ?_;rw[Be7];refine wk ?_;rw[BeD];refine wk ?_;rw[A6S];refine wk ?_;exact Lo ⟨Wy _,λb g=>absurd g (dx b),λx _=>.inr (Wy x)⟩ ⟨rfl,(((PS.refl ..).put _ (by simp)).put _ (by simp)).put _ (by simp),A2 ..⟩
def Bpy:=∀v v2 h,NtS h v [0,1]->NtS h v2 [500000000]->Ah h (λr h1=>r=.sl h.nx 0 2 3 1 true/\h1.m.get h.nx=cS 0 AcA 0/\h.nx<h1.nx) (Z.call 151 [v,v2] h)
def B5y(Y:5<N)(o:BcD Z)(k:NtS h v [0,1])(k2:NtS h v2 [500000000]):Ah h (λr h1=>r=.sl h.nx 0 2 3 1 true/\h1.m.get h.nx=cS 0 AcA 0/\h.nx<h1.nx) (mr Z N 151 [v,v2] h):=by
 obtain⟨T,rfl⟩:∃m,N=m+3:=⟨N-3,by omega⟩;obtain⟨t,B,j⟩:=R0.elem (f:=Abb) (s:=1) (i:=0) (x:=0) (λ_=>rfl) k rfl;obtain⟨b2,z,g⟩:=R0.elem (f:=Abb) (s:=1) (i:=1) (x:=1) (λ_=>rfl) k rfl;obtain⟨u,C,e⟩:=R0.elem (f:=Abb) (s:=1) (i:=0) (x:=500000000) (λ_=>rfl) k2 rfl;have u0:∀a:H,Gc 1 v (iI 0) a=.ok (.ptr t B) a:=j.ia;have u1:∀a:H,Gc 1 v (iI 1) a=.ok (.ptr b2 z) a:=g.ia;have u2:∀a:H,Gc 1 v2 (iI 0) a=.ok (.ptr u C) a:=e.ia;have W:∀a,Bi h a->Ae (some none) (.ptr t B) a=.ok (cn 0) a:=j.part 0 _ rfl;have O:∀a,Bi h a->Ae (some none) (.ptr b2 z) a=.ok (cn 1) a:=g.part 0 _ rfl;have y2:∀a,Bi h a->Ae (some none) (.ptr u C) a=.ok (cn AcA) a:=e.part 0 _ rfl;have l1:∀a:H,Fo v a=.ok (iI 2) a:=λa=>Sl.Gs (h:=h) k;have l2:∀a:H,Fo v2 a=.ok (iI 1) a:=λa=>Sl.Gs (h:=h) k2;have w0:∀a:H,Gc 1 (.sl h.nx 0 3 3 1 true) (iI 0) a=.ok (.ptr h.nx 0) a:=λa=>A6n (i:=0) (off:=0) (by simp) a;have L:∀a:H,Gc 1 (.sl h.nx 0 3 3 1 true) (iI 1) a=.ok (.ptr h.nx 1) a:=λa=>A6n (i:=1) (off:=0) (by simp) a;have w2:∀a:H,Gc 1 (.sl h.nx 0 3 3 1 true) (iI 2) a=.ok (.ptr h.nx 2) a:=λa=>A6n (i:=2) (off:=0) fe a;have J:∀a:H,A3d prog 127 (iI 3) (iI 3) a=.ok (.sl a.nx 0 3 3 1 true) (a.new (cS 0 0 0)):=λa=>Ayl 3 (by omega) a;have X:∀a:H,Aj prog .mul 175 false (cn 0) (cn AcA) a=.ok (cn 0) a:=λa=>by kernel_rfl
 have a2:∀a:H,Aj prog .add 175 false (cn 0) (cn 0) a=.ok (cn 0) a:=λa=>by rfl
 have Q:∀a:H,Aj prog .rem 175 true (cn 0) (cn 1000000000) a=.ok (cn 0) a:=λa=>by kernel_rfl
 have S:∀a:H,Aj prog .quo 175 true (cn 0) (cn 1000000000) a=.ok (cn 0) a:=λa=>by kernel_rfl
 have R:∀a:H,Aj prog .mul 175 false (cn 1) (cn AcA) a=.ok (cn AcA) a:=λa=>by kernel_rfl
 have V:∀a:H,Aj prog .add 175 false (cn 0) (cn AcA) a=.ok (cn AcA) a:=λa=>by kernel_rfl
 have M:∀a:H,Aj prog .add 175 false (cn AcA) (cn 0) a=.ok (cn AcA) a:=λa=>by kernel_rfl
 have K:∀a:H,Aj prog .rem 175 true (cn AcA) (cn 1000000000) a=.ok (cn AcA) a:=λa=>by kernel_rfl
 have U:∀a:H,Aj prog .quo 175 true (cn AcA) (cn 1000000000) a=.ok (cn 0) a:=λa=>by kernel_rfl
 rw[B8B];clear j g e k k2;refine wk ?_;rw[A6B];refine wk ?_;rw[A0n];refine wk ?_;rw[A0n];refine wk ?_;rw[A6B];refine wk ?_;rw[A0n];refine wk ?_;rw[A0n];refine wk ?_;rw[A6B];refine wk ?_;have A:(((((h.new (cS 0 0 0)).put h.nx (cS 0 0 0)).put h.nx (cS 0 0 0)).put h.nx (cS 0 AcA 0)).put h.nx (cS 0 AcA 0)).m.get h.nx=cS 0 AcA 0:=A2 _ _;have I:Ai h (((((h.new (cS 0 0 0)).put h.nx (cS 0 0 0)).put h.nx (cS 0 0 0)).put h.nx (cS 0 AcA 0)).put h.nx (cS 0 AcA 0)):=(((((Ai.refl h).new _).put _ _ (Ye _)).put _ _ (Ye _)).put _ _ (Ye _)).put _ _ (Ye _);have gn:h.nx<(((((h.new (cS 0 0 0)).put h.nx (cS 0 0 0)).put h.nx (cS 0 0 0)).put h.nx (cS 0 AcA 0)).put h.nx (cS 0 AcA 0)).nx:=Up _;refine(show Ah h _ (Aa (Z.call 116 [.sl h.nx 0 3 3 1 true] (((((h.new (cS 0 0 0)).put h.nx (cS 0 0 0)).put h.nx (cS 0 0 0)).put h.nx (cS 0 AcA 0)).put h.nx (cS 0 AcA 0))) λD y=>OR.ok D y)from ?_);generalize (((((h.new _).put ..).put ..).put ..).put _)=hE at *;refine Fj (o _ _ _ (.inr ⟨_,_,_,_,_,rfl,by simp,⟨gn,_,_,A,trivial⟩,by simp,rfl⟩:NtS _ (.sl _ 0 3 3 1 true) [0,500000000,0]) (by simp) (by simp)) λD y E G p q5=>?_;have⟨P,F⟩:=q5;exact Lo (I.trans E) ⟨F _ _ _ _ _ rfl,(p _ gn).trans A,Xq gn G⟩
variable {q3:Nat}
def BxJ(B9Z:Bp4 Z){y0 y4 y5 y8 R J P L B S O I D C K T M G yy:AV}{y r u p:Nat}{f0:L2}
 (hL:hd.m.get l=.loop 0 none (AyJ y0 y4 y5 y8 (.ptr y 0) (.ptr r 0) (.ptr u 0) (.ptr p 0) R J P L B S O I D C K T M G f0) [69,70] Af7 Af8)
 (gU:hd.m.get y=cz [.sl q 0 3 3 1 true] 127) (gV:hd.m.get r=cz [.sl q2 0 2 3 1 true] 127) (gN:hd.m.get u=cz [iI 2] 3) (gQ:hd.m.get p=cz [.sl q3 0 1 1 1 true] 127)
 (g1:hd.m.get q=cS 0 AcA 0) (g2:hd.m.get q2=cS 0 AcA 0) (g3:hd.m.get q3=cz [cn 0] 175)
 (lt:y<hd.nx/\r<hd.nx/\u<hd.nx/\p<hd.nx/\q<hd.nx/\q2<hd.nx/\q3<hd.nx/\l<hd.nx) (dis:q≠q2/\q≠q3/\q≠l/\q2≠l/\q3≠l/\y≠l/\r≠l/\u≠l/\p≠l/\p≠q):
 Ah H0 (λrr h'=>rr=uz/\PS [q,q3,l] hd h'/\h'.m.get q=cS 0 0 0/\h'.m.get q3=cz [cn 1] 175/\h'.m.get l=hd.m.get l)
  (Aze prog Z N false l [iI 0,yy] hd):=by
 obtain⟨l1,l2,l3,l4,l5,l6,l7,l8⟩:=lt;obtain⟨n1,n2,W,n4,V,n6,n7,n8,n9,n10⟩:=dis;rw[Arc Z N hL,B54];rw[hL];simp only[];rw[B58];obtain⟨FL,E⟩:∃F:AO,F=.loop 1 none (AyJ y0 y4 y5 y8 (.ptr y 0) (.ptr r 0) (.ptr u 0) (.ptr p 0) R J P L B S O I D C K T M G f0) [69,70] Af7 Af8:=⟨_,rfl⟩;rw[<- E];have eU:=(Aq (h:=hd) l FL y n6).trans gU;have eV:=(Aq (h:=hd) l FL r n7).trans gV;have eN:=(Aq (h:=hd) l FL u n8).trans gN;have eQ:=(Aq (h:=hd) l FL p n9).trans gQ;have e1:=(Aq (h:=hd) l FL q W).trans g1;have e2:=(Aq (h:=hd) l FL q2 n4).trans g2;have e3:=(Aq (h:=hd) l FL q3 V).trans g3;have eL:(hd.put l FL).m.get l=FL:=A2 _ _;have kP:PS [q,q3,l] hd (hd.put l FL):=(PS.refl _ _).put _ (by simp);have nN:(hd.put l FL).nx=hd.nx:=rfl;generalize hd.put l FL=h3 at *;have cU:Nv h3 y _:=⟨by omega,_,_,eU,trivial⟩;have cV:Nv h3 r _:=⟨by omega,_,_,eV,trivial⟩;have cN:Nv h3 u _:=⟨by omega,_,_,eN,trivial⟩;have cQ:Nv h3 p _:=⟨by omega,_,_,eQ,trivial⟩;have U:Bi h3 (Ab h3):=Ao6 rfl rfl;have a1:∀f:H,Aj prog .add 3 false (iI 0) (iI 2) f=.ok (iI 2) f:=λf=>by kernel_rfl
 have a2:∀f:H,Aj prog .add 3 true (iI 2) (iI 1) f=.ok (iI 3) f:=λf=>by kernel_rfl
 have a3:∀f:H,xSl prog 127 (.sl q 0 3 3 1 true) (some (iI 0)) (some (iI 3)) f=.ok (.sl q 0 3 3 1 true) f:=λf=>by kernel_rfl
 have a4:∀f:H,Gc 1 (.sl q3 0 1 1 1 true) (iI 0) f=.ok (.ptr q3 0) f:=λf=>A6n (i:=0) (off:=0) fe f;refine Ey (cQ.one (o:=0) rfl _ U) ?_;simp only[Te];refine Ey (cU.one (o:=0) rfl _ U) ?_;simp only[Te];refine Ey (cN.one (o:=0) rfl _ U) ?_;simp only[Te];refine Ey (a1 _) (Ey (a2 _) ?_);simp only[Te];refine Ey (a3 _) ?_;simp only[Te];refine Ey (cV.one (o:=0) rfl _ U) ?_;simp only[Te];refine zc0 (B9Z q q2 (Ab h3) e1 e2 n1 (by show q<h3.nx;omega) (by show q2<h3.nx;omega)) λv8 k ⟨q0,t,g8⟩=>?_;subst q0;refine Ey (a4 _) ?_;simp only[Te];have l8':h3.nx<=k.nx:=t.lo;have Y:k.m.get q3=cz [cn 0] 175:=(t.Cf q3 (by show q3<h3.nx;omega) (by simp;exact Ne.symm n2)).trans e3;refine Ey (A2o (i:=0) (h:=Ab k) Y (by simp)) ?_;have d1:wrote k.nx ((Ab k).put q3 (cz ([AV.int .u64 0].set 0 (cn 1)) 175)).lg=[q3]:=Aw _ _ [] om;have d2:∀x∈wrote h3.nx k.lg,x=q:=λx j=>by
  obtain⟨h1,h2⟩:=D4 _ _ _ j;rcases t.lg x h1 with g|g|g;. cases g
  .simpa using g
  .have:h3.nx<=x:=g;omega
 refine Axi (λx=>x=q\/x=q3) ?_ λL2 hL2=>?_
 .intro e he;simp only[Tu,Ww,Oq]at he;rcases he with rfl|rfl|rfl|rfl|rfl|rfl|rfl|rfl|rfl|rfl|rfl|rfl|rfl
  .refine .inr ⟨λx j=>.inr (W9.1 (by rw[<- d1];exact j)),?_⟩;intro a Q;simp only[Tu,Ww,Oq]at Q;rcases Q with rfl|rfl|rfl|rfl|rfl|rfl|rfl|rfl|rfl|rfl|rfl|rfl|rfl;. exact Ar ..
   all_goals exact Ax _ _ _ _ _ _ _ _ _ _ _ _ rfl
  .exact .inl rfl
  .refine .inr ⟨λx j=>.inl (d2 x j),?_⟩;intro a Q;simp only[Tu,Ww,Oq]at Q;rcases Q with rfl|rfl|rfl|rfl|rfl|rfl|rfl|rfl|rfl|rfl|rfl|rfl|rfl;. exact Ax _ _ _ _ _ _ _ _ _ _ _ _ rfl
   .exact Ax _ _ _ _ _ _ _ _ _ _ _ _ rfl
   .exact Ar ..
   .exact Ax _ _ _ _ _ _ _ _ _ _ _ _ rfl
   .exact Ax _ _ _ _ _ _ _ _ _ _ _ _ rfl
   .exact Ax _ _ _ _ _ _ _ _ _ _ _ _ rfl
   .exact Ax _ _ _ _ _ _ _ _ _ _ _ _ rfl
   .exact Ax _ _ _ _ _ _ _ _ _ _ _ _ rfl
   .exact Ax _ _ _ _ _ _ _ _ _ _ _ _ rfl
   .exact Ax _ _ _ _ _ _ _ _ _ _ _ _ rfl
   .exact Ax _ _ _ _ _ _ _ _ _ _ _ _ rfl
   .exact Ai1 _ _ _ _ _ rfl
   .exact Bdz (w:=q) (b:=p) (cs:=[.sl q3 0 1 1 1 true]) (ty:=127) (λx j=>.inl (d2 x j)) rfl n10 eQ
  all_goals exact .inl rfl
 have A:(Be L2 ((Ab k).put q3 (cz ([AV.int .u64 0].set 0 (cn 1)) 175))).m.get l=FL:=
  (Aq (h:=Ab k) _ _ _ (Ne.symm V)).trans ((t.Cf l (by show l<h3.nx;omega) (by simp;exact Ne.symm W)).trans eL);rw[E]at A;rw[A6P A];refine Lo ⟨Wy _,λb hb=>absurd hb (dx b),λx _=>.inr (Wy x)⟩ ⟨rfl,?_,?_,?_,A2 _ _⟩
 .have p9:PS [q,q3,l] (Ab h3) k:=⟨t.lo,λx j hn=>t.Cf x j (λh=>hn (by simp at h;simp[h])),λx j=>(t.lg x j).imp id (λh=>h.imp (λh=>by simp at h;simp[h]) id)⟩;refine PS.put (PS.rl ((((kP.nl).trans p9).nl).put _ (by simp)) λz X=>?_) _ (by simp);rcases hL2 z X with X|rfl|rfl;. exact kP.lg z X
  .simp
  .simp
 .rw[Aq _ _ _ W];exact(Aq (h:=Ab k) _ _ _ n2).trans g8
 .rw[Aq _ _ _ V];exact A2 _ _
def Btf{b2}(e:h.m.get q=cS 0 AcA 0)(f:Sl 1 h (.sl b2 0 1 1 1 true) 1 [cn 0]):Ds 175 1 8 (.sl q 0 2 3 1 true) (.sl b2 0 1 1 1 true) h=.ok (.sl q 0 3 3 1 true) (h.put q (cS 0 AcA 0)):=by
 have g:Ds 175 1 8 (.sl q 0 2 3 1 true) (.sl b2 0 1 1 1 true) h=match Hd h 1 _ with
  |some (n,new)=>@Bool.rec (λ_=>OR) _ ..
  |none=>.bad _:=rfl;rw[g,f.src];have a:h.wr q 2 [cn 0]=.ok (h.put q (cS 0 AcA 0)):=by rw[As0,e,Afa];rfl
 show RH.rec _ ..=_;rw[a]
def BcF(cr:Ac):=∀J I E D z r A u i B y p j k t C x o G g e f a q q2 q3 l f0 hd,
 hd.m.get l=.loop 0 none (AyJ J I E D (.ptr g 0) (.ptr e 0) (.ptr f 0) (.ptr a 0) z r A u i B y p j k t C x o f0) [69,70] Af7 Af8 ->
 hd.m.get g=cz [.sl q 0 3 3 1 true] 127->hd.m.get e=cz [.sl q2 0 2 3 1 true] 127->hd.m.get f=cz [iI 2] 3->hd.m.get a=cz [.sl q3 0 1 1 1 true] 127 ->
 hd.m.get q=cS 0 AcA 0->hd.m.get q2=cS 0 AcA 0->hd.m.get q3=cz [cn 0] 175 ->
 g<hd.nx/\e<hd.nx/\f<hd.nx/\a<hd.nx/\q<hd.nx/\q2<hd.nx/\q3<hd.nx/\l<hd.nx->q≠q2/\q≠q3/\q≠l/\q2≠l/\q3≠l/\g≠l/\e≠l/\f≠l/\a≠l/\a≠q ->
 Ah H0 (λF h'=>F=uz/\PS [q,q3,l] hd h'/\h'.m.get q=cS 0 0 0/\h'.m.get q3=cz [cn 1] 175/\h'.m.get l=hd.m.get l)
  (cr.round l [iI 0,G] hd)
def B4W(A8u:BfL Z)(I:BfM Z cr)(W4:BcF cr)(O:BcD Z)(Bi8:Bl4 Z){p t y:Nat}{f0:L2}{a:H}(gG:Ai h a)
 (gU:a.m.get t=cz [.sl q 0 3 3 1 true] 127) (gV:a.m.get y=cz [.sl q2 0 2 3 1 true] 127) (g1:a.m.get q=cS 0 AcA 0) (g2:a.m.get q2=cS 0 AcA 0) (gS:a.m.get p=cz [cn AcA] 175)
 (l1:∀f:H,Fo v f=.ok (iI 2) f) (lt:t<a.nx/\y<a.nx/\q<a.nx/\q2<a.nx/\p<a.nx) (dis:q≠q2/\t≠q/\y≠q/\p≠q) (lo:h.nx<=q):
 Ah h (λr h1=>∃q m,r=.Bj [q,m]/\NtS h1 q [1]/\NtS h1 m []) (A6G Z (N+3) (N+3) v .Bv .Bv (.sl p 0 1 1 1 true) (.ptr t 0) (.ptr y 0) f0 a):=by
 obtain⟨t1,t2,t3,t4,t5⟩:=lt;obtain⟨n1,n2,n3,n4⟩:=dis;have E:Nv a t _:=⟨t1,_,_,gU,trivial⟩;have cV:Nv a y _:=⟨t2,_,_,gV,trivial⟩;have xU:=E.one (o:=0) rfl;have xV:=cV.one (o:=0) rfl;have mk1:∀f:H,A3d prog 127 (iI 1) (iI 1) f=.ok (.sl f.nx 0 1 1 1 true) (f.new (cz [cn 0] 175)):=λf=>Ayl 1 fe f;rw[Blu];refine wk ?_;have gF:Ai a (((((a.new (cz [iI 0] 3)).put a.nx (cz [iI 2] 3)).new (cz [cn 0] 175)).new (cz [.Bv] 127)).put (a.nx+1+1) (cz [.sl (a.nx+1) 0 1 1 1 true] 127)):=((((((Ai.refl a).new _).put _ _ (Ye _)).new _).new _).put _ _ om);have nF:(((((a.new (cz [iI 0] 3)).put a.nx (cz [iI 2] 3)).new (cz [cn 0] 175)).new (cz [.Bv] 127)).put (a.nx+1+1) (cz [.sl (a.nx+1) 0 1 1 1 true] 127)).nx=a.nx+3:=rfl;have fN:(((((a.new (cz [iI 0] 3)).put a.nx (cz [iI 2] 3)).new (cz [cn 0] 175)).new (cz [.Bv] 127)).put (a.nx+1+1) (cz [.sl (a.nx+1) 0 1 1 1 true] 127)).m.get a.nx=cz [iI 2] 3:=by rw[Aq _ _ _ om,Cq _ _ ml,Cq _ _ ml];exact A2 _ _
 have f3:(((((a.new (cz [iI 0] 3)).put a.nx (cz [iI 2] 3)).new (cz [cn 0] 175)).new (cz [.Bv] 127)).put (a.nx+1+1) (cz [.sl (a.nx+1) 0 1 1 1 true] 127)).m.get (a.nx+1)=cz [cn 0] 175:=by rw[Aq _ _ _ om,Cq _ _ ml];exact Bf (h:=(a.new _).put _ _) _
 have fQ:(((((a.new (cz [iI 0] 3)).put a.nx (cz [iI 2] 3)).new (cz [cn 0] 175)).new (cz [.Bv] 127)).put (a.nx+1+1) (cz [.sl (a.nx+1) 0 1 1 1 true] 127)).m.get (a.nx+1+1)=cz [.sl (a.nx+1) 0 1 1 1 true] 127:=A2 _ _;generalize (((((a.new (cz [iI 0] 3)).put a.nx (cz [iI 2] 3)).new (cz [cn 0] 175)).new (cz [.Bv] 127)).put (a.nx+1+1) (cz [.sl (a.nx+1) 0 1 1 1 true] 127))=hF at *
 have kF:∀f,Ai hF f->NtS f (.sl (a.nx+1) 0 1 1 1 true) [0]:=λf g=>.inr ⟨_,_,_,_,_,rfl,Ye _,⟨by have:=g.lo;omega,_,_,(g.Cf _ om).trans f3,trivial⟩,by decide,rfl⟩
 refine Fj (A8u _ [0] hF (kF hF (Ai.refl _))) λv11 Kc e11 l11 A0e q11=>?_;obtain⟨rfl,rfl⟩:=q11;rw[BfA];clear e11 l11 A0e xU xV;obtain⟨j,B⟩:∃F,F=(AyJ v .Bv .Bv (.sl p 0 1 1 1 true) (.ptr t 0) (.ptr y 0) (.ptr a.nx 0) (.ptr (a.nx+1+1) 0) (.sl q 0 3 3 1 true) (iI 3) v (iI 2) ux (.sl q2 0 2 3 1 true) (iI 2) (.sl q 0 3 3 1 true) (iI 3) (iI 2) (iI 1) (.sl (a.nx+1) 0 1 1 1 true) (.sl (a.nx+1) 0 1 1 1 true) (.fn (.func 183) [] [.ptr hF.nx 0]) f0):=⟨_,rfl⟩;have nB:(((hF.new (cz [.sl (a.nx+1) 0 1 1 1 true] 127)).new (.dfr false)).new (.loop 0 none j [69,70] Af7 Af8)).nx=hF.nx+3:=rfl;have C:Ai hF (((hF.new (cz [.sl (a.nx+1) 0 1 1 1 true] 127)).new (.dfr false)).new (.loop 0 none j [69,70] Af7 Af8)):=(((Ai.refl hF).new _).new _).new _;have R:(((hF.new (cz [.sl (a.nx+1) 0 1 1 1 true] 127)).new (.dfr false)).new (.loop 0 none j [69,70] Af7 Af8)).m.get hF.nx=cz [.sl (a.nx+1) 0 1 1 1 true] 127:=by rw[Cq _ _ ml,Cq _ _ ml];exact Bf _
 have bF:(((hF.new (cz [.sl (a.nx+1) 0 1 1 1 true] 127)).new (.dfr false)).new (.loop 0 none j [69,70] Af7 Af8)).m.get (hF.nx+1)=.dfr false:=by rw[Cq _ _ ml];exact Bf (h:=hF.new _) _
 have bL:(((hF.new (cz [.sl (a.nx+1) 0 1 1 1 true] 127)).new (.dfr false)).new (.loop 0 none j [69,70] Af7 Af8)).m.get (hF.nx+2)=.loop 0 none j [69,70] Af7 Af8:=Bf (h:=(hF.new _).new _) _;change Ah h _ (Aa (Z.call 183 [.fn (.yield (hF.nx+2)) [] [],.ptr hF.nx 0] (((hF.new (cz [.sl (a.nx+1) 0 1 1 1 true] 127)).new (.dfr false)).new (.loop 0 none (AyJ v .Bv .Bv (.sl p 0 1 1 1 true) (.ptr t 0) (.ptr y 0) (.ptr a.nx 0) (.ptr (a.nx+1+1) 0) (.sl q 0 3 3 1 true) (iI 3) v (iI 2) ux (.sl q2 0 2 3 1 true) (iI 2) (.sl q 0 3 3 1 true) (iI 3) (iI 2) (iI 1) (.sl (a.nx+1) 0 1 1 1 true) (.sl (a.nx+1) 0 1 1 1 true) (.fn (.func 183) [] [.ptr hF.nx 0]) f0) [69,70] Af7 Af8))) λ_ h1=>AyT (hF.nx+2) _ h1);rw[<- B];have k:=gF.trans C;have eU:=(k.Cf t t1).trans gU;have eV:=(k.Cf y t2).trans gV;have e1:=(k.Cf q t3).trans g1;have e2:=(k.Cf q2 t4).trans g2;have eS:=(k.Cf p t5).trans gS;have eN:=(C.Cf a.nx om).trans fN;have e3:=(C.Cf (a.nx+1) om).trans f3;have S:=(C.Cf (a.nx+1+1) om).trans fQ;have G:=gG.trans k;have Kf:=gG.lo;have kB:=kF _ C;generalize (((hF.new (cz [.sl (a.nx+1) 0 1 1 1 true] 127)).new (.dfr false)).new (.loop 0 none j [69,70] Af7 Af8))=hB at *
 refine gv0 (I [0] (.sl (a.nx+1) 0 1 1 1 true) hF.nx (hF.nx+2) (λi f=>match i with
  |0=>PS [q,a.nx+1,hF.nx+2] hB f/\f.m.get q=cS 0 0 0/\f.m.get (a.nx+1)=cz [cn 1] 175/\f.m.get (hF.nx+2)=.loop 0 none j [69,70] Af7 Af8
  |1=>f=hB
  |_=>False) (λ_=>False) hB fe ?g1 ?g2 rfl ⟨⟨by omega,_,_,R,trivial⟩,kB⟩) ?main
 case g1=>
  rintro i f hi;cases i with
  |zero=>subst hi;exact⟨⟨by omega,_,_,R,trivial⟩,kB⟩
  |succ i=>exact hi.elim
 case g2=>
  rintro i x f D hi;cases i with
  |succ i=>exact absurd D (by simp)
  |zero=>
   have hi:f=hB:=hi;subst hi;cases D;have hr:=W4 v .Bv .Bv (.sl p 0 1 1 1 true) (.sl q 0 3 3 1 true) (iI 3) v (iI 2) ux (.sl q2 0 2 3 1 true) (iI 2) (.sl q 0 3 3 1 true) (iI 3) (iI 2) (iI 1) (.sl (a.nx+1) 0 1 1 1 true) (.sl (a.nx+1) 0 1 1 1 true) (.fn (.func 183) [] [.ptr hF.nx 0]) (cn 0) t y a.nx (a.nx+1+1) q q2 (a.nx+1) (hF.nx+2) f0 f
    (by rw[bL,B]) eU eV eN S e1 e2 e3 om om
   refine hr.mono ?_;rintro r h' _ ⟨rfl,q1,q2',q3,q4⟩;exact .inl ⟨rfl,q1,q2',q3,q4.trans bL⟩
 rintro v5 u ⟨_,⟨z,p2,p3,p4⟩|Q⟩;rotate_left
 .exact Q.elim
 have n5:=z.lo;have g5:=PS.toG G (by simp;omega) z;have f5:=(z.Cf (hF.nx+1) om (by simp;omega)).trans bF;have u5:=(z.Cf t om (by simp;omega)).trans eU;have s5:=(z.Cf p om (by simp;omega)).trans eS;have i5:=(z.Cf a.nx om (by simp;omega)).trans eN;have q5:=(z.Cf (a.nx+1+1) om (by simp;omega)).trans S;rw[Biw p4,Bbk];have f6:=(Aq (h:=u) (hF.nx+2) (.loop 3 none j [69,70] Af7 Af8) (hF.nx+1) om).trans f5;have u6:=(Aq (h:=u) (hF.nx+2) (.loop 3 none j [69,70] Af7 Af8) t om).trans u5;have s6:=(Aq (h:=u) (hF.nx+2) (.loop 3 none j [69,70] Af7 Af8) p om).trans s5;have i6:=(Aq (h:=u) (hF.nx+2) (.loop 3 none j [69,70] Af7 Af8) a.nx om).trans i5;have Q:=(Aq (h:=u) (hF.nx+2) (.loop 3 none j [69,70] Af7 Af8) (a.nx+1+1) om).trans q5;have z6:=(Aq (h:=u) (hF.nx+2) (.loop 3 none j [69,70] Af7 Af8) q om).trans p2;have y6:=(Aq (h:=u) (hF.nx+2) (.loop 3 none j [69,70] Af7 Af8) (a.nx+1) om).trans p3;have g6:Ai h (u.put (hF.nx+2) (.loop 3 none j [69,70] Af7 Af8)):=g5.put _ _ om;have n6:(u.put (hF.nx+2) (.loop 3 none j [69,70] Af7 Af8)).nx=u.nx:=rfl;clear z p2 p3 p4 g5 f5 u5 s5 i5 q5 W4 I eU eV e1 e2 eS eN e3 S C gF gG k G kB kF R bF bL B E cV gU gV g1 g2 gS fN f3 fQ;generalize (u.put (hF.nx+2) (.loop 3 none j [69,70] Af7 Af8))=h6 at *
 have a3:∀f:H,xSl prog 127 (.sl q 0 3 3 1 true) none (some (iI 2)) f=.ok (.sl q 0 2 3 1 true) f:=λf=>by kernel_rfl
 have w1:∀f:H,Gc 1 (.sl p 0 1 1 1 true) (iI 0) f=.ok (.ptr p 0) f:=λf=>A6n (i:=0) (off:=0) fe f;have E:Nv h6 t _:=⟨by omega,_,_,u6,trivial⟩;have cN:Nv h6 a.nx _:=⟨by omega,_,_,i6,trivial⟩;have J:Nv h6 p _:=⟨by omega,_,_,s6,trivial⟩;have cQ:Nv h6 (a.nx+1+1) _:=⟨by omega,_,_,Q,trivial⟩;have xU:=E.one (o:=0) rfl;have xN:=cN.one (o:=0) rfl;have xS:=J.one (o:=0) rfl;have xQ:=cQ.one (o:=0) rfl;have ku:∀f,Ai h6 f->NtS f (.sl q 0 2 3 1 true) [0,0]:=λf g=>.inr ⟨_,_,_,_,_,rfl,by decide,⟨by have:=g.lo;omega,_,_,(g.Cf _ om).trans z6,trivial⟩,by decide,rfl⟩
 have kq:∀f,Ai h6 f->NtS f (.sl (a.nx+1) 0 1 1 1 true) [1]:=λf g=>.inr ⟨_,_,_,_,_,rfl,Ye _,⟨by have:=g.lo;omega,_,_,(g.Cf _ om).trans y6,trivial⟩,by decide,rfl⟩
 clear u6 i6 s6 Q z6 y6 E cN J cQ;refine wk ?_;have g0:Ai h6 (Ab h6):=(Ai.refl h6).nl;refine zc2 (O _ _ _ (ku _ (g0.nl)) fe fe) λLj M e7 l7 K q7=>?_;have g7:Ai h6 M:=e7.Rc;have X:=q7.1;have f7:=(K (hF.nx+1) (by show hF.nx+1<h6.nx;omega)).trans f6;clear K q7;refine wk ?_;have U:NtS (Ab (Ab M)) Lj []:=Sl.By X (Ao6 rfl rfl);refine zc2 (Bi8 Lj [] 500000000 (Ab (Ab M)) U fe fe fe fe) λPo A e8 l8 P q8=>?_;obtain⟨m,rfl,km⟩:=q8;have f8:=(P (hF.nx+1) (by show hF.nx+1<M.nx;have:=g7.lo;omega)).trans f7;have W:Ai M A:=(e8.Rc);have g8:Ai h6 A:=g7.trans W;clear P;refine wk ?_;have T:NtS (Be h6.lg (Ab A)) (.sl (a.nx+1) 0 1 1 1 true) [1]:=Sl.By (kq A g8) (Ao6 rfl rfl);have V:NtS (Be h6.lg (Ab A)) m []:=Sl.By km (Ao6 rfl rfl);have gR:Ai h (Be h6.lg (Ab A)):=Ai.Be ((g6.trans g8).nl) g6;refine Fj (O _ _ _ T fe fe) λPp h9 e9 l9 Y q9=>?_;have f9:=(Y (hF.nx+1) (by show hF.nx+1<A.nx;have:=g8.lo;omega)).trans f8;have L:∀cs e kk,h9.m.get (hF.nx+1)≠.cells cs e kk:=λcs e kk f=>by rw[f9]at f;cases f
 have Z0:∀st,h9.m.get (hF.nx+1)≠.Fb st:=λst f=>by rw[f9]at f;cases f
 refine(show Ah h _ (dfE (hF.nx+1) _ _)from ?_);rw[BqJ f9];exact Lo ((gR.trans e9).put _ _ om) ⟨Pp,m,rfl,AtV q9.1 L Z0,AtV (V.gr e9) L Z0⟩
def B5z(hN:5<N)(I:Bl3 Z)(r:Bpy Z)(F:BfL Z)(J:BfM Z cr)(W4:BcF cr)(D:BcD Z)(L:Bl4 Z):Bpz Z N:=by
 obtain⟨N',rfl⟩:∃m,N=m+3:=⟨N-3,by omega⟩;intro v v2 h k k2;have A:=I v v2 _ _ h k k2 (by simp);rw[show lcN [0,1] [0,1]=0 from by decide]at A;obtain⟨P,U,B⟩:=R0.elem (f:=Abb) (s:=1) (i:=1) (x:=1) (λ_=>rfl) k2 rfl;have u1:∀a:H,Gc 1 v2 (iI 1) a=.ok (.ptr P U) a:=B.ia;have y1:∀a,Bi h a->Ae (some none) (.ptr P U) a=.ok (cn 1) a:=B.part 0 _ rfl;have l1:∀a:H,Fo v a=.ok (iI 2) a:=λa=>Sl.Gs (h:=h) k;have l2:∀a:H,Fo v2 a=.ok (iI 2) a:=λa=>Sl.Gs (h:=h) k2;have a1:∀a:H,Aj prog .add 175 true (cn 1) (cn 1) a=.ok (cn 2) a:=λa=>by kernel_rfl
 have a2:∀a:H,Aj prog .quo 175 true (cn 1000000000) (cn 2) a=.ok (cn AcA) a:=λa=>by rfl
 have O:=λa (g:Ai h a)=>k.gr g;have Y:=λa (g:Ai h a)=>k2.gr g;rw[BvY];clear B k k2;refine Fj A λv1 e e1 l1' E q1=>?_;subst q1;clear E A;refine wk ?_;have C:Ai h (e.new (cz [cn AcA] 175)):=e1.new _;have kS:NtS (e.new (cz [cn AcA] 175)) (.sl e.nx 0 1 1 1 true) [500000000]:=Sl.lit (h:=e) (Bf _) rfl rfl;refine Fj (r v (.sl e.nx 0 1 1 1 true) _ (O _ C) kS) λv3 j W l3 t q3=>?_;obtain⟨rfl,c3,S⟩:=q3;have n3':e.nx+1<j.nx:=S;have u:j.m.get (e.nx+1)=cS 0 AcA 0:=c3;have cA:j.m.get e.nx=cz [cn AcA] 175:=(t e.nx (Up _)).trans (Bf _);have R:=C.trans W;clear t c3 S kS W C;refine(show Ah h _ (Aa (Bh 175 1 1 [cn 0] [(0,1,cn 0)] j) λH7 U5=>Aa (Ds 175 1 8 (.sl (e.nx+1) 0 2 3 1 true) H7 U5) _)from ?_);refine Ey (v:=.sl j.nx 0 1 1 1 true) (h:=j.new (cz [cn 0] 175)) rfl ?_;have Vs:h.nx<=e.nx:=e1.lo;refine Ey (Btf ((Cq _ _ om).trans u) (Sl.lit (h:=j) (Bf _) rfl rfl)) ?_;have T:Ai h ((j.new (cz [cn 0] 175)).put (e.nx+1) (cS 0 AcA 0)):=(R.new _).put _ _ om;have V:((j.new (cz [cn 0] 175)).put (e.nx+1) (cS 0 AcA 0)).m.get (e.nx+1)=cS 0 AcA 0:=A2 _ _;have z:((j.new (cz [cn 0] 175)).put (e.nx+1) (cS 0 AcA 0)).m.get e.nx=cz [cn AcA] 175:=by rw[Aq _ _ _ om,Cq _ _ om];grind
 have nD:((j.new (cz [cn 0] 175)).put (e.nx+1) (cS 0 AcA 0)).nx=j.nx+1:=rfl;generalize ((j.new (cz [cn 0] 175)).put (e.nx+1) (cS 0 AcA 0))=hD at *;have kS:NtS hD (.sl e.nx 0 1 1 1 true) [500000000]:=.inr ⟨_,_,_,_,_,rfl,Ye _,⟨by omega,_,_,z,trivial⟩,by decide,rfl⟩;refine Fj (r v2 (.sl e.nx 0 1 1 1 true) hD (Y _ T) kS) λv4 o X l4 p q4=>?_;obtain⟨rfl,c4,n4⟩:=q4;have gE:=T.trans X;have qE:=(p (e.nx+1) om).trans V;have Q:=(p e.nx om).trans z;have kSE:=kS.gr X;have hnD:e.nx+1<hD.nx:=by omega
 clear p kS cA u V z R O Y;have M:Nv o e.nx [cn AcA]:=⟨by omega,_,_,Q,trivial⟩;have w1:∀a:H,Gc 1 (.sl e.nx 0 1 1 1 true) (iI 0) a=.ok (.ptr e.nx 0) a:=λa=>A6n (i:=0) (off:=0) (by simp) a;have G:∀a:H,A3d prog 127 (iI 1) (iI 1) a=.ok (.sl a.nx 0 1 1 1 true) (a.new (cz [cn 0] 175)):=λa=>Ayl 1 fe a;have K:hD.nx<o.nx:=n4;clear nD G w1 M;refine wk ?_;have y:Ai o ((((o.new (cz [.Bv] 127)).new (cz [.Bv] 127)).put _ (cz [.sl (e.nx+1) 0 3 3 1 true] 127)).put _ (cz [.sl hD.nx 0 2 3 1 true] 127)):=((((Ai.refl _).new _).new _).put _ _ (Ye _)).put _ _ (U3 _);refine B4W Z _ _ F J W4 D L (gE.trans y) ?_ (A2 ..) ((y.Cf _ om).trans qE) ((y.Cf _ K).trans c4) ((y.Cf _ om).trans Q) l1 ?_ ?_ ?_;. simp
 .show o.nx<o.nx+2/\o.nx+1<o.nx+2/\e.nx+1<o.nx+2/\hD.nx<o.nx+2/\e.nx<o.nx+2;omega
 .omega
 grind
end Go.Proofs
