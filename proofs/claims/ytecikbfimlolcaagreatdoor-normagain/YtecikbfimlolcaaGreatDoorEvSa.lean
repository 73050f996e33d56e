/- Typed expressions are built from their nodes. -/
import Derived.Test.YtecikbfimlolcaaGreatDoorEvRh
set_option linter.all false
noncomputable section
namespace Go.Proofs
open Go Go.Ev Go.Nm
variable {j p:Tr}{o:Int}{C:Bool}{I:List Nd}{J:Nat}{R:Nd}
def A8b:∀l m:List Nd,ltN l m=true->ltN m l=false
|[],[],h=>by simp[ltN]at h
|[],y::m,_=>by simp[ltN]
|x::l,[],h=>by simp[ltN]at h
|x::l,y::m,h=>by
 rw[Ye]at h ⊢;by_cases e:x=y
 .subst e;rw[W5 rfl]at h ⊢;exact A8b l m h
 .rw[X2 e]at h;rw[X2 (λa=>e a.symm)];have h2:=A28 x y e;rw[h]at h2;simpa using h2.symm
def Amu(a b:Tr):same a b=same b a:=by rw[Mq,Mq,cj];exact eq_comm
def AjW(o:Int)(g:Kq j)(f:Kq p):ordered o j p=ordered o p j:=by
 unfold ordered;by_cases h1:Nm.compare p j<0
 .have h2:¬ Nm.compare j p<0:=λh2=>by
   have d:=(AsW _ _).1 h1;have e:=(AsW _ _).1 h2;have c:=A8b _ _ d;rw[show ltN j.nodes p.nodes=true from e]at c
   cases c
  rw[W5 h1,X2 h2]
 .by_cases h2:Nm.compare j p<0
  .rw[X2 h1,W5 h2]
  .rw[X2 h1,X2 h2];have d:less p j=false:=by
    cases q:less p j with
    |false=>rfl
    |true=>exact absurd ((AsW _ _).2 q) h1
   have e:less j p=false:=by
    cases q:less j p with
    |false=>rfl
    |true=>exact absurd ((AsW _ _).2 q) h2
   have c:same j p=true:=by rw[<- BaJ];unfold equalR;rw[d,e];rfl
   rw[Uy g f c]
def Ab5(h:isV j o=true):(value j).2=true/\(value j).1=o:=by unfold isV at h;simpa using h
def Baz(a b:Tr)(c:o=4\/o=6):arith o a b=arith o b a:=by
 unfold arith;rw[ek];rcases c with rfl|rfl
 .simp[Int.add_comm]
 .simp[Int.mul_comm]
def Bgk(k:o=4\/o=6)(a:Kq j)(i:Kq p):Mw o j p=Mw o p j:=by
 unfold Mw;rw[Baz j p k];cases hn:arith o p j with
 |some t=>rfl
 |none=>
  rcases k with rfl|rfl
  .cases h1:isV j 0<;>cases h2:isV p 0
   .simpa[h1,h2]using AjW 4 a i
   .simp[h1,h2]
   .simp[h1,h2]
   .exfalso;obtain⟨e,f⟩:=Ab5 h1;obtain⟨d,g⟩:=Ab5 h2;simp[arith,e,f,d,g,constant]at hn
  .cases h1:isV j 1<;>cases h2:isV p 1
   .by_cases c:isV j 0=true\/isV p 0=true
    .have h:isV p 0=true\/isV j 0=true:=c.symm;simp[h1,h2,c,h]
    .have h:¬ (isV p 0=true\/isV j 0=true):=λl=>c l.symm;simpa[h1,h2,c,h]using AjW 6 a i
   .simp[h1,h2]
   .simp[h1,h2]
   .exfalso;obtain⟨e,f⟩:=Ab5 h1;obtain⟨d,g⟩:=Ab5 h2;simp[arith,e,f,d,g,constant]at hn
def Bbj(e:Kq j)(c:Kq p):Kg o j p=Kg o p j:=by
 unfold Kg;by_cases c1:(same j (fixed (decide (o=16)))||same p (fixed (decide (o=16))))=true
 .rw[W5 c1,W5 (by rw[Bool.or_comm];exact c1)]
 .have d:¬ (same p (fixed (decide (o=16)))||same j (fixed (decide (o=16))))=true:=by rw[Bool.or_comm];exact c1
  rw[X2 c1,X2 d];by_cases c2:same j (fixed (decide (o=15)))=true
  .by_cases c3:same p (fixed (decide (o=15)))=true
   .rw[W5 c2,W5 c3,Uy e (Qf _) c2,Uy c (Qf _) c3]
   .rw[W5 c2,X2 c3,W5 (by simp[c2])]
  .by_cases c3:same p (fixed (decide (o=15)))=true
   .rw[X2 c2,W5 (by simp[c3]),W5 c3]
   .by_cases c4:same j p=true
    .rw[X2 c2,W5 (by simp[c4]),X2 c3,W5 (by simp[Amu p j,c4]),Uy e c c4]
    .rw[X2 c2,X2 (by simp[c3,c4]),X2 c3,X2 (by simp[Amu p j,c2,c4])];exact AjW o e c
def Axc(h:o=9\/o=10)(a:Kq j)(i:Kq p)(f:j.op≠3)(g:p.op≠3):Dg o j p=Dg o p j:=by
 unfold Dg;by_cases c1:((value j).2&&(value p).2)=true
 .have c:((value p).2&&(value j).2)=true:=by rw[ek];exact c1
  have e:decide ((value j).1=(value p).1)=decide ((value p).1=(value j).1):=by rw[cj];exact eq_comm
  rw[W5 c1,W5 c,e];rcases h with rfl|rfl<;>rfl
 .have c:¬ ((value p).2&&(value j).2)=true:=by rw[ek];exact c1
  rw[X2 c1,X2 c];by_cases c2:same j p=true
  .have d:same p j=true:=by rw[Amu];exact c2
   rw[W5 c2,W5 d]
  .have d:¬ same p j=true:=by rw[Amu];exact c2
   rw[X2 c2,X2 d];have h1:((decide (o=9)||decide (o=10))&&!decide (p.op=3))=true:=by rcases h with rfl|rfl<;>simp[g]
   have h2:((decide (o=9)||decide (o=10))&&!decide (j.op=3))=true:=by rcases h with rfl|rfl<;>simp[f]
   rw[W5 h1,W5 h2];exact AjW o a i
def AuK(h:same j p=true):hd j=hd p:=by rw[Mq,W8]at h;obtain⟨a,c⟩:=Wm j;obtain⟨q,hq⟩:=Wm p;rw[c,hq]at h;have:=(Ky h rfl).2;simpa using this
def Pj(h:(hd j).op≠(hd p).op):same j p=false:=by
 cases c:same j p with
 |false=>rfl
 |true=>exact absurd (Jh Nd.op (AuK c)) h
def A3m(n:Int)(h1:0<=n)(h2:n<=1000000000):value (num n)=(n,true):=by simp[value,num,h1,h2]
def Bes(n:Int)(h1:0<n)(h2:n<=1000000000):constant (-n)=some (.one 7 (num n)):=by unfold constant;rw[X2 om,W5 om,Int.neg_neg]
def Bga(h:value j=(o,true))(hc:constant (-o)=some p):neg j=p:=by unfold neg;rw[h];simp[hc]
def Wd:Tr->Tr->Prop
|.leaf x,.leaf y=>(x.op=2/\x.n=0)/\y.op=3/\y.n=0
|_,_=>False
def Ty:Bool->Tr->Prop
|b,.leaf x=>b=false/\((x.op=1/\x.Zn=[])\/x.op=2/\x.n=0)
|b,.one o a=>(b=false/\o=7/\Ty false a)\/(b=true/\o=17/\Ty true a)
|b,.two o a c=>(b=false/\(o=4\/o=5\/o=6)/\Ty false a/\Ty false c)\/(b=true/\(9<=o/\o<=14)/\Ty false a/\Ty false c)\/(b=true/\(o=9\/o=10)/\Wd a c)\/(b=true/\(o=15\/o=16)/\Ty true a/\Ty true c)
|b,.three p a c=>b=false/\Ty true p/\Ty false a/\Ty false c
def Pr:∀{a c:Tr},Wd a c->∃x y,a=.leaf x/\c=.leaf y/\x.op=2/\y.op=3
|.leaf x,.leaf y,h=>⟨x,y,rfl,rfl,h.1.1,h.2.1⟩
|.leaf _,.one _ _,h=>h.elim
|.leaf _,.two _ _ _,h=>h.elim
|.leaf _,.three _ _ _,h=>h.elim
|.one _ _,_,h=>h.elim
|.two _ _ _,_,h=>h.elim
|.three _ _ _,_,h=>h.elim
def Mx:∀{t:Tr} {b:Bool},Ty b t->Kq t
|.leaf x,b,h=>by obtain⟨_,⟨h,_⟩|h⟩:=h<;>(constructor<;>omega)
|.one o a,b,h=>by
 rcases h with⟨_,h1,h2⟩|⟨_,h1,h2⟩
 .exact⟨.inl h1,Mx h2⟩
 .exact⟨.inr h1,Mx h2⟩
|.two o a c,b,h=>by
 rcases h with⟨_,h1,h2,d⟩|⟨_,h1,h2,d⟩|⟨_,h1,h2⟩|⟨_,h1,h2,d⟩
 .exact⟨by omega,Mx h2,Mx d⟩
 .exact⟨by omega,Mx h2,Mx d⟩
 .obtain⟨x,y,rfl,rfl,d,e⟩:=Pr h2;exact⟨by omega,⟨by omega,by omega⟩,⟨by omega,by omega⟩⟩
 .exact⟨by omega,Mx h2,Mx d⟩
|.three p a c,b,h=>⟨Mx h.2.1,Mx h.2.2.1,Mx h.2.2.2⟩
def dbl(o:Int):Int:=if 9<=o then 17 else 7
def Ast(h:Ty C j):dbl j.op=if C then 17 else 7:=by
 unfold dbl;cases j with
 |leaf x=>
  obtain⟨rfl,⟨q,_⟩|q⟩:=h
  .rw[X2 (by show ¬ (9<=x.op);omega)];rfl
  .rw[X2 (by show ¬ (9<=x.op);omega)];rfl
 |one o a=>
  rcases h with⟨rfl,q,_⟩|⟨rfl,q,_⟩
  .rw[X2 (by show ¬ (9<=o);omega)];rfl
  .rw[W5 (by show(9<=o);omega)];rfl
 |two o a c=>
  rcases h with⟨rfl,q,_⟩|⟨rfl,q,_⟩|⟨rfl,q,_⟩|⟨rfl,q,_⟩
  .rw[X2 (by show ¬ (9<=o);omega)];rfl
  .rw[W5 (by show(9<=o);omega)];rfl
  .rw[W5 (by show(9<=o);omega)];rfl
  .rw[W5 (by show(9<=o);omega)];rfl
 |three a c d=>rw[X2 (by show ¬ ((9:Int)<=8);omega),h.1];rfl
def Oj(h:Ty C j):F4 j=C:=by
 have:=Ast h;unfold dbl at this;unfold F4;by_cases a:9<=j.op
 .rw[W5 a]at this;rw[Ws a];cases C
  .cases this
  .rfl
 .rw[X2 a]at this;rw[Xn a];cases C
  .rfl
  .cases this
def Agb(st ts:List Tr)(bs:List Bool)(h:ts.map F4=bs):Gf (st++ts) bs=some (st,ts):=by subst h;unfold Gf;rw[ez,X8,Nat.add_sub_cancel,di,eb];rw[W5 ⟨by omega,rfl⟩]
def Aws(pre a:List Nd)(x:Nd):AcU (pre++x::a) pre.length=x.op:=by unfold AcU;simp
def Jf{st a:List Tr}{rest:List Nd}(h1:Qt R=false)(h2:Ou I J R=false)(b:Fa st R=some a):Dm I st J (R::rest)=Dm I a (J+1) rest:=by show(if(Qt R||Ou I J R)=true then none else match Fa st R with|some a=>Dm I a (J+1) rest|none=>none)=_;rw[h1,h2,b];rfl
def Abv(h:1<=o)(h2:o<=17):Qt ⟨o,0,[]⟩=false:=by have e1:decide (o<1)=false:=df;have a:decide (17<o)=false:=df;simp[Qt,e1,a]
def Uh(h:R.op≠3):Ou I J R=false:=by simp[Ou,h]
def Jg:∀(t:Tr) (k:Bool),Ty k t->∀(l pre b:List Nd) (st:List Tr),l=pre++(t.nodes++b)->Dm l st pre.length (t.nodes++b)=Dm l (st++[t]) (pre++t.nodes).length b
|.leaf x,k,m,l,pre,b,st,g=>by
 obtain⟨_,h⟩:=m;have h1:Qt x=false:=by rcases h with⟨h1,h2⟩|⟨h1,h2⟩<;>simp[Qt,h1,h2]
 have G:x.op≠3:=by rcases h with⟨h1,_⟩|⟨h1,_⟩<;>omega
 have n:Fa st x=some (st++[.leaf x]):=by unfold Fa;rw[W5 (by rcases h with⟨h1,_⟩|⟨h1,_⟩<;>omega)]
 show Dm l st pre.length (x::b)=_;rw[Jf h1 (Uh G) n];simp[Tr.nodes]
|.one o a,k,m,l,pre,b,st,g=>by
 obtain⟨j,f,D⟩:∃j,Ty j a/\((o=7/\j=false)\/(o=17/\j=true)):=by
  rcases m with⟨_,h1,h2⟩|⟨_,h1,h2⟩
  .exact⟨_,h2,.inl ⟨h1,rfl⟩⟩
  .exact⟨_,h2,.inr ⟨h1,rfl⟩⟩
 have h0:=Jg a j f l pre (⟨o,0,[]⟩::b) st (by rw[g];simp[Tr.nodes]);have e:(Tr.one o a).nodes++b=a.nodes++(⟨o,0,[]⟩::b):=by simp[Tr.nodes]
 rw[e,h0];have n:Fa (st++[a]) ⟨o,0,[]⟩=some (st++[.one o a]):=by unfold Fa;rw[X2 (by show ¬ (o<=3);omega),W5 (by show o=7\/o=17;omega),Agb st [a] _ (by rw[Co,List.map_nil,Oj f];rcases D with⟨rfl,rfl⟩|⟨rfl,rfl⟩<;>rfl)]
 rw[Jf (Abv om om) (Uh (by show o≠3;omega)) n]
 simp[Tr.nodes];rfl
|.three p a c,k,m,l,pre,b,st,g=>by
 obtain⟨_,r,f,i⟩:=m;have h0:=Jg p true r l pre (a.nodes++(c.nodes++(⟨8,0,[]⟩::b))) st (by rw[g];simp[Tr.nodes]);have h1:=Jg a false f l (pre++p.nodes) (c.nodes++(⟨8,0,[]⟩::b)) (st++[p]) (by rw[g];simp[Tr.nodes]);have h2:=Jg c false i l (pre++p.nodes++a.nodes) (⟨8,0,[]⟩::b) (st++[p]++[a]) (by rw[g];simp[Tr.nodes]);have e:(Tr.three p a c).nodes++b=p.nodes++(a.nodes++(c.nodes++(⟨8,0,[]⟩::b))):=by simp[Tr.nodes]
 rw[e,h0,h1,h2];have n:Fa (st++[p]++[a]++[c]) ⟨8,0,[]⟩=some (st++[.three p a c]):=by unfold Fa;rw[X2 (by show ¬ ((8:Int)<=3);decide),X2 (by show ¬ ((8:Int)=7\/(8:Int)=17);decide),W5 rfl,show st++[p]++[a]++[c]=st++[p,a,c]by simp,Agb st [p,a,c] _ (by simp only[Co,List.map_nil,Oj r,Oj f,Oj i])]
 rw[Jf (Abv om om) (Uh (by show(8:Int)≠3;decide)) n]
 simp[Tr.nodes];rfl
|.two o a c,k,m,l,pre,b,st,g=>by
 have B:4<=o/\o<=16/\o≠7/\o≠8:=by rcases m with⟨_,h,_⟩|⟨_,h,_⟩|⟨_,h,_⟩|⟨_,h,_⟩<;>omega
 have s:F4 a=(decide (o=15)||decide (o=16))->F4 c=(decide (o=15)||decide (o=16))->Fa (st++[a]++[c]) ⟨o,0,[]⟩=some (st++[.two o a c]):=by intro h1 h2;unfold Fa;rw[X2 (by show ¬ (o<=3);omega),X2 (by show ¬ (o=7\/o=17);omega),X2 (by show ¬ (o=8);omega),show st++[a]++[c]=st++[a,c]by simp,Agb st [a,c] _ (by simp only[Co,List.map_nil,h1,h2])]
 have e:(Tr.two o a c).nodes++b=a.nodes++(c.nodes++(⟨o,0,[]⟩::b)):=by simp[Tr.nodes]
 have d:∀j,Ty j a->Ty j c->j=(decide (o=15)||decide (o=16))->Dm l st pre.length ((Tr.two o a c).nodes++b)=Dm l (st++[.two o a c]) (pre++(Tr.two o a c).nodes).length b:=by
  intro j f i hj;have h0:=Jg a j f l pre (c.nodes++(⟨o,0,[]⟩::b)) st (by rw[g];simp[Tr.nodes]);have h1:=Jg c j i l (pre++a.nodes) (⟨o,0,[]⟩::b) (st++[a]) (by rw[g];simp[Tr.nodes]);rw[e,h0,h1,Jf (Abv om om) (Uh (by show o≠3;omega)) (s (by rw[Oj f];exact hj) (by rw[Oj i];exact hj))]
  simp[Tr.nodes];rfl
 rcases m with⟨_,h,f,i⟩|⟨_,h,f,i⟩|⟨_,h,u⟩|⟨_,h,f,i⟩
 .exact d false f i (by
  have h1:o≠15:=by omega
  have h2:o≠16:=by omega
  simp[h1,h2])
 .exact d false f i (by
  have h1:o≠15:=by omega
  have h2:o≠16:=by omega
  simp[h1,h2])
 .have q:=u;obtain⟨x,y,rfl,rfl,v,hy⟩:=Pr u;obtain⟨⟨_,E⟩,_,F⟩:=q;have b1:Qt x=false:=by simp[Qt,v,E]
  have b2:Qt y=false:=by simp[Qt,hy,F]
  have C:Ou l (pre.length+1) y=false:=by
   have e1:AcU l pre.length=2:=by rw[g,show pre++((Tr.two o (.leaf x) (.leaf y)).nodes++b)=pre++x::(y::⟨o,0,[]⟩::b)by simp[Tr.nodes],Aws,v]
   have z:AcU l (pre.length+1+1)=o:=by
    have:=Aws (pre++[x,y]) b ⟨o,0,[]⟩;rw[g,show pre++((Tr.two o (.leaf x) (.leaf y)).nodes++b)=(pre++[x,y])++(⟨o,0,[]⟩::b)by simp[Tr.nodes]]
    simpa using this
   have w:¬ l.length<=pre.length+1+1:=by rw[g];simp[Tr.nodes];omega
   rcases h with rfl|rfl<;>simp[Ou,hy,e1,z,w]
  have a1:Fa st x=some (st++[.leaf x]):=by unfold Fa;rw[W5 om]
  have a2:Fa (st++[.leaf x]) y=some (st++[.leaf x]++[.leaf y]):=by unfold Fa;rw[W5 om]
  have A:F4 (.leaf x)=false:=Xn (by show ¬ (9<=x.op);omega)
  have ty:F4 (.leaf y)=false:=Xn (by show ¬ (9<=y.op);omega)
  have hj:false=(decide (o=15)||decide (o=16)):=by
   have h1:o≠15:=by omega
   have h2:o≠16:=by omega
   simp[h1,h2]
  rw[show(Tr.two o (.leaf x) (.leaf y)).nodes++b=x::y::⟨o,0,[]⟩::b by simp[Tr.nodes],Jf b1 (Uh om) a1,Jf b2 C a2,Jf (Abv om om) (Uh (by show o≠3;omega)) (s (by rw[A];exact hj) (by rw[ty];exact hj))]
  simp[Tr.nodes]
 .exact d true f i (by rcases h with h|h<;>simp[h])
def Y3(h:Ty C j):Je j.nodes C=some j:=by unfold Je;have:=Jg j C h j.nodes [] [] [] (by simp);simp only[F0,Gx,I3]at this;rw[this];show(if F4 j=C then some j else none)=some j;rw[W5 (Oj h)]
end Go.Proofs
