/- The plain law of the normal forms: one normal form. -/
import Derived.Test.YtecikbfimlolcaaGreatDoorEvRa
set_option linter.all false
set_option maxRecDepth 100000
noncomputable section
namespace Go.Proofs
open Go Go.Ev Go.Nm
variable {j p:Tr}{o:Int}{C:Nd}
def Tz:List Tr->Nat
|[]=>0
|t::l=>size t+Tz l
def Adi:∀l m,Tz (l++m)=Tz l+Tz m
|[],m=>by simp[Tz]
|t::l,m=>by simp[Tz,Adi l m];omega
def Asr(h1:1<=C.op)(h2:C.op<=17):(Pz C.op).length=0/\C.op<=3\/(Pz C.op).length=1/\(C.op=7\/C.op=17)\/(Pz C.op).length=3/\C.op=8\/(Pz C.op).length=2/\4<=C.op/\C.op<=16/\C.op≠7/\C.op≠8:=by unfold Pz;grind
def Azi{d:List Tr}(i:Qt C=false)(e:d.length=(Pz C.op).length)(g:∀t∈d,Kq t):Kq (mkT C d)/\size (mkT C d)=Tz d+1/\(mkT C d).nodes=d.flatMap Tr.nodes++[C]:=by
 obtain⟨h1,h2,n,m⟩:=Alw i;have h:∀o,C.op=o->o≠1->o≠2->o≠3->(⟨o,0,[]⟩:Nd)=C:=λo l a b c=>by obtain⟨k,j,xc⟩:=C;grind
 rcases Asr h1 h2 with⟨e1,f⟩|⟨e1,f⟩|⟨e1,f⟩|⟨e1,f⟩;. rw[e1]at e;obtain rfl:=M8.1 e;exact⟨⟨h1,f⟩,rfl,rfl⟩
 .rw[e1]at e;obtain⟨a,rfl⟩:=List.length_eq_one_iff.1 e;refine⟨⟨f,g a (by simp)⟩,rfl,?_⟩;simp[mkT,Tr.nodes,h C.op _ om om om]
 .rw[e1]at e;match d,e with
  |[c,a,b],_=>refine⟨⟨g c (by simp),g a (by simp),g b (by simp)⟩,by simp[mkT,size,Tz]<;>omega,?_⟩;simp[mkT,Tr.nodes,h 8 f _]
 .rw[e1]at e;match d,e with
  |[a,b],_=>refine⟨⟨f,g a (by simp),g b (by simp)⟩,rfl,?_⟩;simp[mkT,Tr.nodes,h C.op _ om om om]
def AbS(l:List Nd):∀(rest:List Nd) (st:List Tr) (i:Nat) (b:List Tr),Dm l st i rest=some b->(∀t∈st,Kq t)->(∀t∈b,Kq t)/\Tz b=Tz st+rest.length/\b.flatMap Tr.nodes=st.flatMap Tr.nodes++rest
|[],st,i,b,h,f=>by simp only[Dm,ef]at h;subst h;exact⟨f,rfl,by simp⟩
|x::rest,st,i,b,h,f=>by
 cases g:Qt x||Ou l i x with
 |true=>simp[Dm,g]at h
 |false=>
  obtain⟨e,j⟩:=dq.1 g;obtain⟨u,n,-,-⟩:=Alw e;have c:=Apq (st:=st) u n;by_cases hc:(Pz x.op).length<=st.length/\(st.drop (st.length-(Pz x.op).length)).map ty=Pz x.op
  .rw[W5 hc]at c;rw[AgV e j c]at h;generalize v:st.length-(Pz x.op).length=k at c h;have d:(st.drop k).length=(Pz x.op).length:=by rw[bg];omega
   obtain⟨m1,o,r⟩:=Azi e d (λt a=>f t (List.mem_of_mem_drop a));obtain⟨p,q,m⟩:=AbS l rest _ _ b h (λt a=>by
    rcases U0.1 a with a|a
    .exact f t (ax a)
    .rcases Qv.1 a with rfl;exact m1)
   have s:Tz st=Tz (st.take k)+Tz (st.drop k):=by rw[<- Adi,Dt]
   have hn:st.flatMap Tr.nodes=(st.take k).flatMap Tr.nodes++(st.drop k).flatMap Tr.nodes:=by rw[<- Qm,Dt]
   refine⟨p,?_,?_⟩
   .rw[q,Adi,s];simp only[Tz,o,R6];omega
   .rw[m,Qm,hn];simp[r]
  .rw[X2 hc]at c;rw[AgU e j c]at h;cases h
def Ui{l:List Nd}{c:Bool}(h:Je l c=some j):size j=l.length/\Kq j/\j.nodes=l:=by
 unfold Je at h;cases b:Dm l [] 0 l with
 |none=>rw[b]at h;cases h
 |some st=>
  rw[b]at h;obtain⟨e,f,d⟩:=AbS l l [] 0 st b (λj g=>by cases g);match st,h with
  |[a],h=>
   simp only at h;split at h
   .cases h;refine⟨by simpa[Tz]using f,e _ (by simp),by simpa using d⟩
   .cases h
def Qj:∀l:List Nat,Gn l l=false
|[]=>rfl
|x::l=>by rw[Rg,Qj l];simp
def AeS(a b:List Nat):(Gn a b=true/\Gn b a=false/\a≠b)\/(Gn a b=false/\Gn b a=true/\a≠b)\/(Gn a b=false/\Gn b a=false/\a=b):=by
 have h:=Pm a b;by_cases c:a=b
 .subst c;exact .inr (.inr ⟨Qj a,Qj a,rfl⟩)
 .have d:(a == b)=false:=by simpa using c
  rw[d,Bool.or_false]at h;cases h1:Gn a b<;>rw[h1]at h<;>simp only[eg,Bool.not_eq_false']at h
  .exact .inr (.inl ⟨rfl,by simpa using h,c⟩)
  .exact .inl ⟨rfl,by simpa using h,c⟩
def ApF(a b:List Nat):(Abg a b=0 ↔ a=b)/\(Abg a b<0 ↔ Gn a b=true):=by unfold Abg;rcases AeS a b with⟨h1,h2,c⟩|⟨h1,h2,c⟩|⟨h1,h2,c⟩<;>simp[h1,h2,c,Qj]
def Ahf(a b:Int):(V5 a b=0 ↔ a=b)/\(V5 a b<0 ↔ a<b):=by
 unfold V5;by_cases h1:a<b
 .simp[h1];omega
 .by_cases h2:b<a
  .simp[h1,h2];omega
  .simp[h1,h2];omega
def Aif(x y:Nd):Bool:=if x.op=y.op then(if x.n=y.n then Gn x.Zn y.Zn else decide (x.n<y.n))else decide (x.op<y.op)
def ApE(x y:Nd):(V6 x y=0 ↔ x=y)/\(V6 x y<0 ↔ Aif x y=true):=by
 obtain⟨a,b,c⟩:=x;obtain⟨j,i,k⟩:=y;obtain⟨h1,h2⟩:=Ahf a j;obtain⟨h,m⟩:=Ahf b i;obtain⟨g,l⟩:=ApF c k;simp only[V6,orI,Aif,Nd.mk.injEq];by_cases e1:a=j
 .rw[W5 (h1.2 e1),W5 e1];by_cases e:b=i
  .rw[W5 (h.2 e),W5 e];by_cases f:c=k
   .rw[W5 (g.2 f)];subst f;simp[e1,e,Qj]
   .rw[X2 (λd=>f (g.1 d))];exact⟨⟨λd=>absurd (g.1 d) f,λd=>absurd d.2.2 f⟩,l⟩
  .rw[X2 (λd=>e (h.1 d)),X2 e,W8];exact⟨⟨λd=>absurd (h.1 d) e,λd=>absurd d.2.1 e⟩,m⟩
 .rw[X2 (λd=>e1 (h1.1 d)),X2 e1,W8];exact⟨⟨λd=>absurd (h1.1 d) e1,λd=>absurd d.1 e1⟩,h2⟩
def Ye(x y:Nd)(l m:List Nd):ltN (x::l) (y::m)=if x=y then ltN l m else Aif x y:=by
 obtain⟨a,b,c⟩:=x;obtain⟨f,e,h⟩:=y;simp only[ltN,Aif,Nd.mk.injEq];by_cases e1:a=f
 .by_cases d:b=e
  .by_cases g:c=h<;>simp[e1,d,g]
  .simp[e1,d]
 .simp[e1]
def AbZ:∀l m:List Nd,(cmpL l m=0 ↔ l=m)/\(cmpL l m<0 ↔ ltN l m=true)
|[],[]=>by simp[cmpL,ltN]
|[],y::m=>by simp[cmpL,ltN]
|x::l,[]=>by simp[cmpL,ltN]
|x::l,y::m=>by
 obtain⟨h1,h2⟩:=ApE x y;obtain⟨b,c⟩:=AbZ l m;rw[Ye];simp only[cmpL];by_cases e:x=y
 .rw[W5 (h1.2 e),W5 e];exact⟨⟨λa=>by rw[e,b.1 a],λa=>b.2 (ct a).2⟩,c⟩
 .rw[X2 (λa=>e (h1.1 a)),X2 e];exact⟨⟨λa=>absurd (h1.1 a) e,λa=>absurd (ct a).1 e⟩,h2⟩
def Mq(a b:Tr):same a b=decide (a.nodes=b.nodes):=by unfold same Nm.compare;rw[cj];exact(AbZ _ _).1
def A28(x y:Nd)(h:x≠y):Aif x y=!Aif y x:=by
 obtain⟨a,b,c⟩:=x;obtain⟨f,d,m⟩:=y;simp only[Aif];by_cases e1:a=f
 .subst e1;by_cases i:b=d
  .subst i;have n:c≠m:=λe=>h (by rw[e]);rcases AeS c m with⟨h1,h2,j⟩|⟨h1,h2,j⟩|⟨h1,h2,j⟩
   .simp[h1,h2]
   .simp[h1,h2]
   .exact absurd j n
  .have g:¬ d=b:=λe=>i e.symm;simp only[W5,X2 i,X2 g];by_cases k:b<d
   .have:¬ d<b:=by omega
    simp[k,this]
   .have:d<b:=by omega
    simp[k,this]
 .have l:¬ f=a:=λe=>e1 e.symm;rw[X2 e1,X2 l];by_cases k:a<f
  .have:¬ f<a:=by omega
   simp[k,this]
  .have:f<a:=by omega
   simp[k,this]
def BdV:∀l m:List Nd,(!ltN l m&&!ltN m l)=decide (l=m)
|[],[]=>rfl
|[],y::m=>by simp[ltN]
|x::l,[]=>by simp[ltN]
|x::l,y::m=>by
 rw[Ye,Ye];by_cases e:x=y
 .subst e;rw[W5 rfl,W5 rfl,BdV l m];simp
 .have e':¬ y=x:=λa=>e a.symm;rw[X2 e,X2 e',A28 x y e];cases Aif y x<;>simp[e]
def BeO(a b:Tr):equalR a b=decide (a.nodes=b.nodes):=BdV _ _
def BaJ(a b:Tr):equalR a b=same a b:=by rw[BeO,Mq]
def AsW(a b:Tr):(Nm.compare a b<0) ↔ less a b=true:=(AbZ _ _).2
def Wm:∀t:Tr,∃p,t.nodes=p++[hd t]
|.leaf x=>⟨[],rfl⟩
|.one o a=>⟨a.nodes,rfl⟩
|.two o a b=>⟨a.nodes++b.nodes,by simp[Tr.nodes,hd]⟩
|.three c a b=>⟨c.nodes++a.nodes++b.nodes,by simp[Tr.nodes,hd]⟩
def AnC:∀(a b:Tr) (l m:List Nd),Kq a->Kq b->l++a.nodes=m++b.nodes->a=b/\l=m:=by
 intro a;induction a with
 |leaf x=>
  intro b l m i g h;cases b with
  |leaf y=>have:=Ky h rfl;simp only[Tr.nodes,Ll,Jj]at this;exact⟨by rw[this.2],this.1⟩
  |one o b=>have h2:=(Ky (by simpa[Tr.nodes]using h:l++[x]=(m++b.nodes)++[⟨o,0,[]⟩]) rfl).2;simp only[Ll,Jj]at h2;have:=i.1;have:=i.2;have k:=g.1;rw[h2]at *;simp only at *;omega
  |two o b c=>have h2:=(Ky (by simpa[Tr.nodes]using h:l++[x]=(m++(b.nodes++c.nodes))++[⟨o,0,[]⟩]) rfl).2;simp only[Ll,Jj]at h2;have:=i.1;have:=i.2;have k:=g.1;rw[h2]at *;simp only at *;omega
  |three d b c=>have h2:=(Ky (by simpa[Tr.nodes]using h:l++[x]=(m++(d.nodes++(b.nodes++c.nodes)))++[⟨8,0,[]⟩]) rfl).2;simp only[Ll,Jj]at h2;have:=i.1;have:=i.2;rw[h2]at *;simp only at *;omega
 |one o a t=>
  intro b l m i g h;cases b with
  |leaf y=>have h2:=(Ky (by simpa[Tr.nodes]using h:(l++a.nodes)++[⟨o,0,[]⟩]=m++[y]) rfl).2;simp only[Ll,Jj]at h2;have:=g.1;have:=g.2;have k:=i.1;rw[<- h2]at *;simp only at *;omega
  |one j b=>have h2:=(Ky (by simpa[Tr.nodes]using h:(l++a.nodes)++[⟨o,0,[]⟩]=(m++b.nodes)++[⟨j,0,[]⟩]) rfl);obtain⟨k,p⟩:=h2;simp only[Ll,Jj,Nd.mk.injEq]at p;obtain⟨rfl,rfl⟩:=t b l m i.2 g.2 k;exact⟨by rw[p],rfl⟩
  |two j b c=>have h2:=(Ky (by simpa[Tr.nodes]using h:(l++a.nodes)++[⟨o,0,[]⟩]=(m++(b.nodes++c.nodes))++[⟨j,0,[]⟩]) rfl).2;simp only[Ll,Jj,Nd.mk.injEq]at h2;have:=i.1;have:=g.1;omega
  |three d b c=>have h2:=(Ky (by simpa[Tr.nodes]using h:(l++a.nodes)++[⟨o,0,[]⟩]=(m++(d.nodes++(b.nodes++c.nodes)))++[⟨8,0,[]⟩]) rfl).2;simp only[Ll,Jj,Nd.mk.injEq]at h2;have:=i.1;omega
 |two o a c s n=>
  intro b l m i g h;cases b with
  |leaf y=>have h2:=(Ky (by simpa[Tr.nodes]using h:(l++(a.nodes++c.nodes))++[⟨o,0,[]⟩]=m++[y]) rfl).2;simp only[Ll,Jj]at h2;have:=g.1;have:=g.2;have k:=i.1;rw[<- h2]at *;simp only at *;omega
  |one j b=>have h2:=(Ky (by simpa[Tr.nodes]using h:(l++(a.nodes++c.nodes))++[⟨o,0,[]⟩]=(m++b.nodes)++[⟨j,0,[]⟩]) rfl).2;simp only[Ll,Jj,Nd.mk.injEq]at h2;have:=i.1;have:=g.1;omega
  |two j b d=>obtain⟨k,p⟩:=(Ky (by simpa[Tr.nodes]using h:((l++a.nodes)++c.nodes)++[⟨o,0,[]⟩]=((m++b.nodes)++d.nodes)++[⟨j,0,[]⟩]) rfl);simp only[Ll,Jj,Nd.mk.injEq]at p;obtain⟨rfl,r⟩:=n d _ _ i.2.2 g.2.2 k;obtain⟨rfl,rfl⟩:=s b _ _ i.2.1 g.2.1 r;exact⟨by rw[p],rfl⟩
  |three e b d=>have h2:=(Ky (by simpa[Tr.nodes]using h:(l++(a.nodes++c.nodes))++[⟨o,0,[]⟩]=(m++(e.nodes++(b.nodes++d.nodes)))++[⟨8,0,[]⟩]) rfl).2;simp only[Ll,Jj,Nd.mk.injEq]at h2;have:=i.1;omega
 |three e a c q s n=>
  intro b l m i g h;cases b with
  |leaf y=>have h2:=(Ky (by simpa[Tr.nodes]using h:(l++(e.nodes++(a.nodes++c.nodes)))++[⟨8,0,[]⟩]=m++[y]) rfl).2;simp only[Ll,Jj]at h2;have:=g.1;have:=g.2;rw[<- h2]at *;simp only at *;omega
  |one j b=>have h2:=(Ky (by simpa[Tr.nodes]using h:(l++(e.nodes++(a.nodes++c.nodes)))++[⟨8,0,[]⟩]=(m++b.nodes)++[⟨j,0,[]⟩]) rfl).2;simp only[Ll,Jj,Nd.mk.injEq]at h2;have:=g.1;omega
  |two j b d=>have h2:=(Ky (by simpa[Tr.nodes]using h:(l++(e.nodes++(a.nodes++c.nodes)))++[⟨8,0,[]⟩]=(m++(b.nodes++d.nodes))++[⟨j,0,[]⟩]) rfl).2;simp only[Ll,Jj,Nd.mk.injEq]at h2;have:=g.1;omega
  |three f b d=>obtain⟨k,p⟩:=(Ky (by simpa[Tr.nodes]using h:(((l++e.nodes)++a.nodes)++c.nodes)++[⟨8,0,[]⟩]=(((m++f.nodes)++b.nodes)++d.nodes)++[⟨8,0,[]⟩]) rfl);obtain⟨rfl,r⟩:=n d _ _ i.2.2 g.2.2 k;obtain⟨rfl,u⟩:=s b _ _ i.2.1 g.2.1 r;obtain⟨rfl,rfl⟩:=q f _ _ i.1 g.1 u;exact⟨rfl,rfl⟩
def Uy(d:Kq j)(c:Kq p)(h:same j p=true):j=p:=by rw[Mq,W8]at h;exact(AnC j p [] [] d c (by simpa using h)).1
def Qf(b:Bool):Kq (fixed b):=by cases b<;>exact⟨⟨by decide,by decide,by decide,by decide⟩,⟨by decide,by decide⟩,⟨by decide,by decide⟩⟩
def RS(n:Nat)(t:Tr):Prop:=Kq t/\size t<=n
def Ak2(n:Int)(k:Nat)(a:1<=k):RS k (num n):=⟨⟨bw 1,(by decide:(1:Int)<=3)⟩,a⟩
def Ai0(h:constant o=some j)(k:Nat)(a:2<=k):RS k j:=by
 unfold constant at h;split at h
 .cases h
 .split at h
  .cases h;exact⟨⟨.inl rfl,bw 1,(by decide:(1:Int)<=3)⟩,a⟩
  .cases h;exact Ak2 _ _ om
def Ts(b:Bool)(k:Nat)(a:3<=k):RS k (fixed b):=⟨Qf b,a⟩
def Qg(h:same j p=true):size j=size p:=by rw[Mq,W8]at h;rw[<- Ao,h,Ao]
def Wq(e:4<=o/\o<=16/\o≠7/\o≠8)(d:Kq j)(c:Kq p)(k:Nat)(f:size j+size p+1<=k):RS k (ordered o j p):=by
 unfold ordered;split
 .exact⟨⟨e,c,d⟩,by simp only[size];omega⟩
 .exact⟨⟨e,d,c⟩,by simp only[size];omega⟩
def ArS(c:Kq j):RS (size j+1) (neg j):=by
 unfold neg;have d:=size_pos j;split
 .rename_i t b;split at b
  .exact Ai0 b _ om
  .cases b
 .split
  .rename_i o x;obtain⟨h1,h2⟩:=c;split
   .exact⟨h2,by simp only[size];omega⟩
   .exact⟨⟨.inl rfl,h1,h2⟩,by simp only[size];omega⟩
  .exact⟨⟨.inl rfl,c⟩,by simp only[size];omega⟩
def Au8(c:Kq j):RS (size j+1) (Jl j):=by
 unfold Jl;split
 .rename_i h;have:=Qg h;rw[Ct]at this;exact Ts _ _ om
 split
 .rename_i h;have:=Qg h;rw[Ct]at this;exact Ts _ _ om
 split
 .rename_i o x;obtain⟨h1,h2⟩:=c;split
  .exact⟨h2,by simp only[size];omega⟩
  .exact⟨⟨.inr rfl,h1,h2⟩,by simp only[size];omega⟩
 .rename_i o x y;obtain⟨h1,h2,b⟩:=c;split
  .exact⟨⟨by omega,h2,b⟩,by simp only[size];omega⟩
  split
  .exact⟨⟨by omega,h2,b⟩,by simp only[size];omega⟩
  split
  .exact⟨⟨by omega,b,h2⟩,by simp only[size];omega⟩
  split
  .exact⟨⟨by omega,b,h2⟩,by simp only[size];omega⟩
  .exact⟨⟨.inr rfl,h1,h2,b⟩,by simp only[size];omega⟩
 .exact⟨⟨.inr rfl,c⟩,by simp only[size];omega⟩
def AuA(h:o=4\/o=5\/o=6)(d:Kq j)(c:Kq p):RS (size j+size p+1) (Mw o j p):=by
 have h1:=size_pos j;have h2:=size_pos p;unfold Mw;split
 .rename_i t e;unfold arith at e;split at e
  .exact Ai0 e _ om
  .cases e
 .split
  .exact⟨d,by omega⟩
  split
  .exact Ak2 _ _ om
  split
  .obtain⟨f,g⟩:=ArS c;exact⟨f,by omega⟩
  split
  .exact⟨⟨by omega,d,c⟩,Yw _⟩
  split
  .exact⟨c,by omega⟩
  split
  .exact⟨d,by omega⟩
  split
  .exact Ak2 _ _ om
  .exact Wq om d c _ (Yw _)
def ArR(e:o=15\/o=16)(d:Kq j)(c:Kq p):RS (size j+size p+1) (Kg o j p):=by
 have h1:=size_pos j;have h2:=size_pos p;unfold Kg;split
 .exact Ts _ _ om
 split
 .exact⟨c,by omega⟩
 split
 .exact⟨d,by omega⟩
 .exact Wq om d c _ (Yw _)
def Rd(f:9<=o/\o<=14)(d:Kq j)(c:Kq p)(k:Nat)(e:size j+size p+1<=k):RS k (Dg o j p):=by
 have h1:=size_pos j;have h2:=size_pos p;unfold Dg;split
 .exact Ts _ _ om
 split
 .exact Ts _ _ om
 split
 .exact Wq om d c _ e
 .exact⟨⟨by omega,d,c⟩,by simp only[size];omega⟩
def Aiz(e:9<=o/\o<=14)(d:Kq j)(c:Kq p):RS (size j+size p+1) (Ek o j p):=by
 unfold Ek;split
 .exact Rd om c d _ om
 split
 .exact Rd om c d _ om
 .exact Rd e d c _ (Yw _)
def ArT{b:Tr}(hc:Kq j)(e:Kq p)(d:Kq b):RS (size j+size p+size b+1) (three j p b):=by
 unfold three;split
 .exact⟨e,by omega⟩
 split
 .exact⟨d,by omega⟩
 .exact⟨⟨hc,e,d⟩,Yw _⟩
def Au9(e:4<=o/\o<=16/\o≠7/\o≠8)(d:Kq j)(c:Kq p):RS (size j+size p+1) (L0 o j p):=by
 unfold L0;split
 .exact AuA (by assumption) d c
 split
 .exact ArR (by assumption) d c
 .exact Aiz om d c
def Hi:∀t:Tr,Kq t->RS (size t) (normal t)
|.leaf x,h=>⟨h,Yw _⟩
|.one o a,h=>by
 obtain⟨d,f⟩:=Hi a h.2;simp only[normal,size];split
 .obtain⟨r1,e⟩:=ArS d;exact⟨r1,by omega⟩
 .obtain⟨r1,e⟩:=Au8 d;exact⟨r1,by omega⟩
|.two o a b,h=>by obtain⟨d,f⟩:=Hi a h.2.1;obtain⟨i,j⟩:=Hi b h.2.2;obtain⟨r1,e⟩:=Au9 h.1 d i;exact⟨r1,by simp only[size];exact Vr e om⟩
|.three c a b,h=>by obtain⟨d,f⟩:=Hi c h.1;obtain⟨g,k⟩:=Hi a h.2.1;obtain⟨q5,l⟩:=Hi b h.2.2;obtain⟨r1,e⟩:=ArT d g q5;exact⟨r1,by simp only[size];exact Vr e om⟩
end Go.Proofs
