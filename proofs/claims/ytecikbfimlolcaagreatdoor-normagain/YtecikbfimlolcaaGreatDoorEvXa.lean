/- NormAgain walked. -/
import Derived.Test.YtecikbfimlolcaaGreatDoorEvJa
set_option linter.all false
set_option maxRecDepth 100000
noncomputable section
namespace Go.Proofs
open Go Go.Ev Go.Nm Go.Ev.Sx
variable {j:Int}{o:Bool}{p:Tr}{C:Cl}
def P3.add{T:Df}(e:P3 PP T){g:FuncId}{S:List AV->Option AV}(f:∀args v,S args=some v->Nx PP [] ⟨g,args,v⟩/\I7 args):P3 PP (T.ext g S):=by
 refine⟨λd args v a=>?_⟩;by_cases c:d=g
 .subst c;rw[Ahs]at a;exact f args v a
 .rw[Aew _ _ c]at a;exact e.ok d args v a
def AnI(g:FuncId)(args:List AV)(v:AV)(a:Bg PP g=true)(c:Yt PP.globals.size v ((A2N PP 40).call g args (glH [] PP.globals.size))=true):Nx PP [] ⟨g,args,v⟩:=
 Lv (Acd mixed pok 40) (by have:=gsz;rw[AfK];omega) Ah1 ⟨g,args,v⟩ a c
def A5Y(s:List Nat):List Nat:=s.takeWhile (· != 47)
def A1D(s:List Nat):List Nat:=if 47∈s then(s.dropWhile (· != 47)).tail else[49]
def Bjg(s:List Nat):AV:=.Bj [.str (A5Y s),.str (A1D s),iI 0]
def BtT:=Dv (λs:List Nat=>[.str s]) Bjg (λs=>s∈Sw)
def BtU:=Dv (λ_:Unit=>([]:List AV)) (λ_=>.agg Aue) (λ_=>True)
def T28:Df:=T27.ext 126 BtT
def T29:Df:=T28.ext 151 BtU
def Bp2:(Sw.all λs=>Yt PP.globals.size (Bjg s) ((A2N PP 40).call 126 [.str s] (glH [] PP.globals.size)))=true:=by kernel_rfl
def Bsm:Yt PP.globals.size (.agg Aue) ((A2N PP 40).call 151 [] (glH [] PP.globals.size))=true:=by kernel_rfl
def t28:P3 PP T28:=P3.add t27 λargs v c=>by obtain⟨a,h1,rfl,rfl⟩:=Acu c;exact⟨AnI 126 _ _ (by kernel_rfl) (Od.1 Bp2 a h1),.cons (.str _) .nil⟩
def t29:P3 PP T29:=P3.add t28 λargs v c=>by obtain⟨a,h1,rfl,rfl⟩:=Acu c;exact⟨AnI 151 _ _ (by kernel_rfl) Bsm,.nil⟩
variable {D:Dom}{ss:List Sc}{q:Qr}{l:List Nd}
def Alf(h1:E7 D o p)(h2:wt p<=Sd 3):Je p.nodes o=some p/\p.nodes.length<=200:=by have a:Sd 3=121:=rfl;have c:=Af3 p;exact⟨Y3 (Abt h1),by rw[Ao];omega⟩
def AqB(h:l=[]\/∃t,E7 D false t/\wt t<=Sd 3/\l=t.nodes):(l=[]/\Rn l=[])\/∃t,E7 D false t/\wt t<=Sd 3/\l=t.nodes/\Rn l=(normal t).nodes:=by
 rcases h with rfl|⟨t,h1,h2,rfl⟩
 .exact .inl ⟨rfl,rfl⟩
 .refine .inr ⟨t,h1,h2,rfl,?_⟩;obtain⟨a,c⟩:=Alf h1 h2;unfold Rn;rw[a];exact W5 c
def AvP(h:l=[]\/∃t,E7 D true t/\wt t<=Sd 3/\l=t.nodes):(l=[]/\Tb l=[])\/∃t,E7 D true t/\wt t<=Sd 3/\l=t.nodes/\Tb l=if same (normal t) (fixed true)=true then[]else(normal t).nodes:=by
 rcases h with rfl|⟨t,h1,h2,rfl⟩
 .exact .inl ⟨rfl,rfl⟩
 .refine .inr ⟨t,h1,h2,rfl,?_⟩;obtain⟨a,c⟩:=Alf h1 h2;unfold Tb;rw[a];exact W5 c
def ApS(h:E7 D o p)(a:wt p<=Sd 3):E7 D o (normal p)/\wt (normal p)<=Sd 3:=⟨Aaz h,Vr (Ajb p) a⟩
def A6d(h:QOk ss q):QOk ss (Oa q):=by
 have hc:=AqB h.code;have i:=AvP h.E9;obtain⟨q0,kv⟩:=h.kv;refine⟨⟨h.pre.tbl,h.pre.kind,h.pre.fac,h.pre.bits⟩,⟨Oa q,⟨rfl,λa b c=>?_,λa=>?_,kv.pq1,kv.pq2,kv.Bcp,kv.Bcq,kv.bd1,kv.bd2,kv.Bdd,kv.Bde,kv.con⟩⟩,?_,?_,h.ord⟩
 .obtain⟨e1,e,j⟩:=kv.A47 a b c;refine⟨?_,e,j⟩;show Rn q.code=[];rw[e1];rfl
 .obtain⟨e1,e⟩:=kv.AyG a;refine⟨?_,e⟩;rcases hc with⟨h1,_⟩|⟨t,h1,h2,g,d⟩
  .exact absurd h1 e1
  .show Rn q.code≠[];rw[d];exact Tf _
 .rcases hc with⟨_,h1⟩|⟨t,h1,h2,g,d⟩
  .exact .inl h1
  .exact .inr ⟨normal t,(ApS h1 h2).1,(ApS h1 h2).2,d⟩
 .rcases i with⟨_,h1⟩|⟨t,h1,h2,g,d⟩
  .exact .inl h1
  .by_cases f:same (normal t) (fixed true)=true
   .rw[W5 f]at d;exact .inl d
   .rw[X2 f]at d;exact .inr ⟨normal t,(ApS h1 h2).1,(ApS h1 h2).2,d⟩
def A29(h:QOk ss q):Oa (Oa q)=Oa q:=by
 have hc:Rn (Rn q.code)=Rn q.code:=by
  rcases AqB h.code with⟨_,h1⟩|⟨t,h1,h2,_,a⟩
  .rw[h1];rfl
  .obtain⟨e,c⟩:=ApS h1 h2;obtain⟨g,d⟩:=Alf e c;rw[a];conv=>lhs;unfold Rn
   rw[g];simp only[d,Jr,AqO h1]
 have i:Tb (Tb q.E9)=Tb q.E9:=by
  rcases AvP h.E9 with⟨_,h1⟩|⟨t,h1,h2,_,a⟩
  .rw[h1];rfl
  .by_cases f:same (normal t) (fixed true)=true
   .rw[W5 f]at a;rw[a];rfl
   .rw[X2 f]at a;obtain⟨e,c⟩:=ApS h1 h2;obtain⟨g,d⟩:=Alf e c;rw[a];conv=>lhs;unfold Tb
    rw[g];simp only[d,Jr,AqO h1];exact X2 f
 show{ Oa q with code:=Rn (Rn q.code),E9:=Tb (Tb q.E9) }=Oa q;rw[hc,i];rfl
def AoD(h:QOk ss q):Yg false q.code/\Yg true q.E9:=
 have f:∀{l:List Nd} {k:Bool} {D:Dom},(l=[]\/∃t,E7 D k t/\wt t<=Sd 3/\l=t.nodes)->Yg k l:=λa=>a.imp_right λ⟨t,h1,h2,e⟩=>⟨t,e ▸ (Alf h1 h2).1⟩
 ⟨f h.code,f h.E9⟩
def Aj7:List L3->Nat
|[]=>0
|x::r=>(lt x).length+1+Aj7 r
def A0k:∀a b:List L3,Aj7 (a++b)=Aj7 a+Aj7 b
|[],b=>by simp[Aj7]
|x::a,b=>by simp only[Ia,Aj7,A0k a b];omega
def Boz:∀(l:List L3) (p:Option L3),(jn p l).length<=Aj7 l
|[],p=>Jv _
|x::r,p=>by have h1:=Boz r (some x);simp only[jn,X8,Aj7];split<;>simp<;>omega
def Biy{x:L3}(h:Ah9 x):1<=(lt x).length/\(lt x).length<=20/\∀c∈lt x,c<256:=by
 have hc:∀c,N3 c=2->c<256:=λc a=>by
  unfold N3 at a;split at a
  .omega
  .split at a
   .cases a
   .repeat' split at a
    all_goals cases a
 have e:∀s∈W35++(R2++N1),1<=s.length/\s.length<=20/\∀c∈s,c<256:=λs f=>by obtain⟨h1,h2,d⟩:=A5Q s f;exact⟨Kd.2 h2,d,λc a=>hc c (h1 c a)⟩
 cases x with
 |sg s=>
  have:∀s∈Sgs,1<=s.length/\s.length<=20/\∀c∈s,c<256:=by decide
  exact this s h
 |kw s=>exact e s (aw _ h)
 |nm s=>exact e s (Gw _ h)
 |nu n=>obtain⟨h1,_,d,g,_⟩:=Alj h.1 h.2;exact⟨d,by show(V8 n).length<=20;omega,λc a=>by have:=h1 c a;omega⟩
 |wd s=>
  have:∀s∈R9,s.length<=5/\∀c∈s,c<256:=by decide
  obtain⟨h1,h2⟩:=this s h;refine⟨by simp[lt],by simp[lt];omega,λc a=>?_⟩;simp only[lt,Ia,Tu,U0,Pl,fb]at a;rcases a with rfl|a|rfl
  .decide
  .exact h2 c a
  .decide
def Box:∀(l:List L3) (p:Option L3),(∀x∈l,Ah9 x)->∀c∈jn p l,c<256
|[],p,_,c,hc=>nomatch hc
|x::r,p,h,c,hc=>by
 simp only[jn,U0]at hc;rcases hc with hc|hc|hc
 .split at hc
  .rw[Qv.1 hc];decide
  .cases hc
 .exact(Biy (h x (Uq ..))).2.2 c hc
 .exact Box r _ (λy hy=>h y (Vo _ hy)) c hc
def A0m:∀{l:List L3},(∀x∈l,Ah9 x)->2*l.length<=Aj7 l
|[],_=>Yw _
|x::r,h=>by have h1:=(Biy (h x (Uq ..))).1;have h2:=A0m λy hy=>h y (Vo _ hy);simp only[R6,Aj7];omega
structure DOk(D:Dom):Prop where
 Zn:∀c,D.Zn c->c∈N1
 word:∀c w,D.word c w->w∈R9
def Ba1{e:Bool}{l:List L3}(h:∀x∈l,Ah9 x):∀x∈brk o e l,Ah9 x:=by
 intro x a;unfold brk at a;have b1:∀s∈[[91],[93],[40],[41]],Ah9 (.sg s):=by intro s d;exact(by decide:∀s∈[[91],[93],[40],[41]],s∈Sgs) s d
 split at a
 .split at a;all_goals
   simp only[Ia,Tu,U0,Pl,fb]at a;rcases a with rfl|a|rfl
   .exact b1 _ fe
   .exact h x a
   .exact b1 _ fe
 .exact h x a
def Ba3(c a:Bool)(l:List L3):Aj7 (brk c a l)<=Aj7 l+4:=by
 unfold brk;split
 .split<;>simp[Aj7,A0k,lt]<;>omega
 .omega
def AoY{o:Int}(h:4<=o/\o<=17)(a:o≠8):Ah9 (opX o)/\(lt (opX o)).length<=3/\(o<=14->(lt (opX o)).length<=2)/\(o<=7->(lt (opX o)).length<=1):=by
 have:o=4\/o=5\/o=6\/o=7\/o=9\/o=10\/o=11\/o=12\/o=13\/o=14\/o=15\/o=16\/o=17:=by omega
 rcases this with rfl|rfl|rfl|rfl|rfl|rfl|rfl|rfl|rfl|rfl|rfl|rfl|rfl
 all_goals exact⟨by first|(show _∈Sgs;decide)|(show _∈W35;decide),by decide,by decide,by decide⟩
def Aor(K:DOk D):∀{t:Tr} {b:Bool},E7 D b t->∀x∈wr t,Ah9 x
|.leaf x,b,h,y,hy=>by
 obtain⟨_,⟨h1,h2,d⟩|⟨h1,h2,d⟩⟩:=h
 .unfold wr at hy;rw[W5 h1,Qv]at hy;subst hy;exact d
 .unfold wr at hy;rw[X2 om,X2 om,Qv]at hy;subst hy;exact Gw _ (K.Zn _ d)
|.one o a,b,h,y,hy=>by
 have e:(4<=o/\o<=17)/\o≠8:=by rcases h with⟨_,h1,_⟩|⟨_,h1,_⟩<;>omega
 obtain⟨i,m⟩:∃i,E7 D i a:=by rcases h with⟨_,_,h2⟩|⟨_,_,h2⟩<;>exact⟨_,h2⟩
 rcases Tu.1 hy with rfl|hy
 .exact(AoY e.1 e.2).1
 .exact Ba1 (Aor K m) y hy
|.two o a c,b,h,y,hy=>by
 have e:(4<=o/\o<=17)/\o≠8:=by rcases h with⟨_,h1,_⟩|⟨_,h1,_⟩|⟨_,h1,_⟩|⟨_,h1,_⟩<;>omega
 have f:(∀y∈wr a,Ah9 y)/\∀y∈wr c,Ah9 y:=by
  rcases h with⟨_,_,h2,d⟩|⟨_,_,h2,d⟩|⟨_,_,h2⟩|⟨_,_,h2,d⟩
  .exact⟨Aor K h2,Aor K d⟩
  .exact⟨Aor K h2,Aor K d⟩
  .obtain⟨x,z,rfl,rfl,⟨r,v,j⟩,u,q5,n⟩:=Agn h2;refine⟨λy hy=>?_,λy hy=>?_⟩
   .unfold wr at hy;rw[X2 om,X2 om,Qv]at hy;subst hy;exact Gw _ (K.Zn _ j)
   .unfold wr at hy;rw[X2 om,W5 om,Qv]at hy;subst hy;exact K.word _ _ n
  .exact⟨Aor K h2,Aor K d⟩
 rcases U0.1 hy with hy|hy
 .exact Ba1 f.1 y hy
 .rcases Tu.1 hy with rfl|hy
  .exact(AoY e.1 e.2).1
  .exact Ba1 f.2 y hy
|.three p a c,b,h,y,hy=>by
 obtain⟨_,h1,h2,d⟩:=h;have g:∀s∈[[105,102],[116,104,101,110],[101,108,115,101]],Ah9 (.kw s):=by intro s k;exact(by decide:∀s∈[[105,102],[116,104,101,110],[101,108,115,101]],s∈W35) s k
 simp only[wr,Ia,Rq,Tu,U0]at hy;rcases hy with rfl|hy|rfl|hy|rfl|hy
 .exact g _ fe
 .exact Aor K h1 y hy
 .exact g _ fe
 .exact Aor K h2 y hy
 .exact g _ fe
 .exact Aor K d y hy
def LB:Nat->Nat × Nat
|0=>(11,0)
|n+1=>(13+(LB n).2+2*(LB n).1,2*max (LB n).1 (LB n).2+12)
def Bha:∀n,11<=(LB n).1
|0=>Yw _
|n+1=>by have:=Bha n;simp only[LB];omega
def lb(b:Bool)(n:Nat):Nat:=if b then(LB n).2 else(LB n).1
def Bb9:∀s∈N1,s.length<=6:=by decide
def BrQ:∀s∈R9,s.length<=5:=by decide
def Aos(K:DOk D):∀{t:Tr} {b:Bool} {n:Nat},E7 D b t->hgt t<=n->Aj7 (wr t)<=lb b n
|.leaf x,b,n,h,hn=>by
 have r:=Bha n;obtain⟨rfl,⟨h1,h2,e⟩|⟨h1,h2,e⟩⟩:=h
 .have:=(Alj e.1 e.2).2.2.2.1;unfold wr;rw[W5 h1];show(V8 x.n).length+1+0<=(LB n).1;omega
 .have:=Bb9 _ (K.Zn _ e);unfold wr;rw[X2 om,X2 om];show x.Zn.length+1+0<=(LB n).1;omega
|.one o a,b,0,h,hn=>absurd hn (by simp[hgt])
|.two o a c,b,0,h,hn=>absurd hn (by simp[hgt])
|.three p a c,b,0,h,hn=>absurd hn (by simp[hgt])
|.one o a,b,n+1,h,hn=>by
 have d:hgt a<=n:=by simp only[hgt]at hn;omega
 have h0:=Ba3 (Ag1 o a.op false) (decide (9<=a.op)) (wr a);show(lt (opX o)).length+1+Aj7 _<=_;rcases h with⟨rfl,rfl,h2⟩|⟨rfl,rfl,h2⟩
 .have e:=Aos K h2 d;have f:=(AoY (o:=7) fe fe).2.2.2 fe;simp only[lb,LB,Jr,Mh,Fl]at e ⊢;omega
 .have e:=Aos K h2 d;have f:=(AoY (o:=17) fe fe).2.1;simp only[lb,LB,Jr,Mh,Fl]at e ⊢;omega
|.two o a c,b,n+1,h,hn=>by
 have r:=Bha n;have d:hgt a<=n/\hgt c<=n:=by simp only[hgt]at hn;omega
 have h0:=Ba3 (Ag1 o a.op false) (decide (9<=a.op)) (wr a);have h1:=Ba3 (Ag1 o c.op true) (decide (9<=c.op)) (wr c);simp only[wr,A0k,Aj7];rcases h with⟨rfl,j,h2,e⟩|⟨rfl,j,h2,e⟩|⟨rfl,j,h2⟩|⟨rfl,j,h2,e⟩
 .have f:=Aos K h2 d.1;have g:=Aos K e d.2;have i:=(AoY (o:=o) om om).2.2.2 om;simp only[lb,LB,Jr,Mh,Fl]at f g ⊢;omega
 .have f:=Aos K h2 d.1;have g:=Aos K e d.2;have i:=(AoY (o:=o) om om).2.2.1 om;rw[Avg j,Avg j]at *
  simp only[brk,lb,LB,Jr,Mh,Fl]at f g ⊢;omega
 .obtain⟨x,z,rfl,rfl,⟨w,A,m⟩,y,q5,v⟩:=Agn h2;have f:=Bb9 _ (K.Zn _ m);have g:=BrQ _ (K.word _ _ v);have i:=(AoY (o:=o) om om).2.2.1 om;have k:9<=o/\o<=14:=by omega
  rw[Avg k,Avg k];have e1:wr (.leaf x)=[.nm x.Zn]:=by unfold wr;rw[X2 om,X2 om]
  have u:wr (.leaf z)=[.wd z.Zn]:=by unfold wr;rw[X2 om,W5 om]
  rw[e1,u];show x.Zn.length+1+0+((lt (opX o)).length+1+((39::z.Zn++[39]).length+1+0))<=2*max (LB n).1 (LB n).2+12;simp only[Ia,R6,X8,Gx];omega
 .have f:=Aos K h2 d.1;have g:=Aos K e d.2;have i:=(AoY (o:=o) om om).2.1;simp only[lb,LB,Jr,Mh,Fl]at f g ⊢;omega
|.three p a c,b,n+1,h,hn=>by
 have d:hgt p<=n/\hgt a<=n/\hgt c<=n:=by simp only[hgt]at hn;omega
 obtain⟨rfl,h1,h2,e⟩:=h;have f:=Aos K h1 d.1;have g:=Aos K h2 d.2.1;have i:=Aos K e d.2.2;simp only[wr,A0k,Aj7,Ia,lt,R6,Gx];simp only[lb,LB,Jr,Mh,Fl]at f g i ⊢;omega
def Bk6(K:DOk D){b:Bool}(h:E7 D b p)(a:wt p<=Sd 3):(∀x∈wr p,Ah9 x)/\Aj7 (wr p)<=(if b then 670 else 917):=by refine⟨Aor K h,?_⟩;have h1:=Aos K h (BhN a);cases b<;>exact h1
variable {Q:Qr}{xe xw xf:List L3}
structure TxQ(D:Dom)(Q:Qr)(xe xw xf:List L3):Prop where
 dom:DOk D
 kind:1<=Q.c0/\Q.c0<=10
 kv:∃A1 q0,KV A1 q0 Q/\∀c∈A1,c.name∈N1/\-3<=c.a/\c.b<=20
 code:(Q.code=[]/\xe=[])\/∃t,E7 D false t/\wt t<=Sd 3/\Q.code=t.nodes/\xe=wr t
 E9:(Q.E9=[]/\xw=[])\/∃t,E7 D true t/\wt t<=Sd 3/\Q.E9=t.nodes/\xw=Al7::wr t
 fac:Q.Oi∈Sw/\Fac Q.Oi xf/\Baa (A5Y Q.Oi) (A1D Q.Oi) xf/\(∀x∈xf,Ah9 x)/\Aj7 xf<=10
 bits:1<=Q.Mg/\Q.Mg<=12
 tbl:Q.Uw∈R2
 By:0<=Q.W0/\Q.W0<=4
 join:(Q.Wu=[]/\Q.s14=[]/\Q.s15=[]/\Q.c16=0)\/(Q.Wu∈R2/\Q.s14∈N1/\Q.s15∈N1/\1<=Q.c16/\Q.c16<=3)
 ord:Q.ord.length<=4
def BqS:∀{s:List Nat},s∈Sw->∃xf,Fac s xf/\Baa (A5Y s) (A1D s) xf/\(∀x∈xf,Ah9 x)/\Aj7 xf<=10:=by
 intro s d;have sl:Ah9 A1X:=(by decide:[47]∈Sgs);have two:∀x∈AwF,(A5Y x.2.2=V8 x.1/\A1D x.2.2=V8 x.2.1/\A1D x.2.2≠[49])/\Aj7 [.nu x.1,A1X,.nu x.2.1]<=10->∃xf,Fac x.2.2 xf/\Baa (A5Y x.2.2) (A1D x.2.2) xf/\(∀y∈xf,Ah9 y)/\Aj7 xf<=10:=λx c a=>by
  obtain⟨h1,h2,i⟩:=A55 c;obtain⟨⟨f,g,e⟩,a⟩:=a;refine⟨_,.two x c,.inr ⟨x.1,x.2.1,h1,h2,f,g,e,rfl⟩,λy hy=>?_,a⟩;simp only[Tu,Pl,fb]at hy;rcases hy with rfl|rfl|rfl
  .exact h1
  .exact sl
  .exact h2
 have one:∀x:Int,Num x->(A5Y (V8 x)=V8 x/\A1D (V8 x)=[49])/\Aj7 [.nu x]<=10->∃xf,Fac (V8 x) xf/\Baa (A5Y (V8 x)) (A1D (V8 x)) xf/\(∀y∈xf,Ah9 y)/\Aj7 xf<=10:=λx c a=>⟨_,.one x c,.inl ⟨x,c,a.1.1,a.1.2,rfl⟩,λy hy=>by rw[Qv.1 hy];exact c,a.2⟩;simp only[Sw,Tu,Pl,fb]at d;rcases d with rfl|rfl|rfl|rfl|rfl
 .exact one 2 ⟨by decide,by decide⟩ fe
 .exact two (3,2,[51,47,50]) fe fe
 .exact two (11,10,[49,49,47,49,48]) fe fe
 .exact one 3 ⟨by decide,by decide⟩ fe
 .exact two (101,100,[49,48,49,47,49,48,48]) fe fe
def Az7(x:SsV ss){s:Sc}(v:s∈ss)(hc:C∈s.A1):C.name∈N1/\(-3<=C.a/\C.b<=20)/\∀w∈C.ws,w∈R9:=by
 obtain⟨all,h1,h2,_,o⟩:=x;obtain⟨_,sub,m,j⟩:=o s v;have r:Px C∈sub.map Px:=j ▸ cr hc;obtain⟨d,i,e⟩:=dz.1 r;have d1:d∈all:=ax (m.subset i);have e1:d.name=C.name:=Jh Prod.fst e;have t:d.a=C.a:=Jh (λp=>p.2.1) e;have n:d.b=C.b:=Jh (λp=>p.2.2.1) e;have e4:d.ws=C.ws:=Jh (λp=>p.2.2.2) e;have g:=h2 d d1;rw[<- e1,<- t,<- n,<- e4];refine⟨h1 ▸ cr d1,?_,?_⟩
 .rcases g with⟨_,a,b,C⟩|⟨u,u1,u2,_,z,y⟩<;>omega
 .rcases g with⟨f,_⟩|⟨u,_,_,f,_⟩
  .rw[f];exact λ_ h=>nomatch h
  .rw[f];exact λw k=>ax k
def Bk0(d:SsV ss){s:Sc}(a:s∈ss):s.name∈R2:=by obtain⟨all,_,_,c,_⟩:=d;have:s.name∈ss.map Sc.name:=cr a;rw[c]at this;exact ax this
def A5Z{q:Qr}(h:C∈AaF ss q):∃s∈ss,C∈s.A1:=by
 have a:∀nm,C∈Ab1 ss nm->∃s∈ss,C∈s.A1:=λnm h=>by simp only[Ab1,List.mem_flatMap,bk]at h;obtain⟨s,⟨h1,_⟩,h2⟩:=h;exact⟨s,h1,h2⟩
 rcases U0.1 h with h|h
 .exact a _ h
 .exact a _ h
def Bsx(f:SsV ss)(e:QOk ss Q):∃D xe xw xf,TxQ D Q xe xw xf:=by
 have hd:DOk (AaR (AaF ss Q)):=⟨λc ⟨x,h1,h2⟩=>by
  obtain⟨s,g,s2⟩:=A5Z h1;exact h2 ▸ (Az7 f g s2).1,λc w ⟨x,h1,_,h2⟩=>by
  obtain⟨s,g,s2⟩:=A5Z h1;exact(Az7 f g s2).2.2 w h2⟩
 obtain⟨xf,n,f0,o,p⟩:=BqS e.pre.fac;obtain⟨xe,k⟩:∃xe,(Q.code=[]/\xe=[])\/∃t,E7 (AaR (AaF ss Q)) false t/\wt t<=Sd 3/\Q.code=t.nodes/\xe=wr t:=by
  rcases e.code with h|⟨t,h1,h2,i⟩
  .exact⟨[],.inl ⟨h,rfl⟩⟩
  .exact⟨wr t,.inr ⟨t,h1,h2,i,rfl⟩⟩
 obtain⟨xw,j⟩:∃xw,(Q.E9=[]/\xw=[])\/∃t,E7 (AaR (AaF ss Q)) true t/\wt t<=Sd 3/\Q.E9=t.nodes/\xw=Al7::wr t:=by
  rcases e.E9 with h|⟨t,h1,h2,i⟩
  .exact⟨[],.inl ⟨h,rfl⟩⟩
  .exact⟨Al7::wr t,.inr ⟨t,h1,h2,i,rfl⟩⟩
 obtain⟨q0,kv⟩:=e.kv;obtain⟨a,a1,a2,r,m⟩:=e.pre.tbl;refine⟨_,xe,xw,xf,hd,e.pre.kind,⟨_,q0,kv,λc hc=>?_⟩,k,j,⟨e.pre.fac,n,f0,o,p⟩,e.pre.bits,a2 ▸ Bk0 f a1,by omega,?_,e.ord⟩
 .obtain⟨s,g,s2⟩:=A5Z hc;obtain⟨h1,h2,_⟩:=Az7 f g s2;exact⟨h1,h2⟩
 .rcases m with h|⟨b,b1,b2,_,⟨c,c1,c2⟩,⟨d,d1,d2⟩,_,h⟩
  .exact .inl h
  .exact .inr ⟨b2 ▸ Bk0 f b1,c2 ▸ (Az7 f a1 c1).1,d2 ▸ (Az7 f b1 d1).1,h.1,h.2⟩
def Aem(l:List L3)(n:Nat):Prop:=(∀x∈l,Ah9 x)/\Aj7 l<=n
def Aem.nil{n:Nat}:Aem [] n:=⟨(λ_ h=>nomatch h),Jv _⟩
def Aem.cons{x:L3}{l:List L3}{n m:Nat}(a:Ah9 x)(h:Aem l n)(c:n+(lt x).length+1<=m):Aem (x::l) m:=⟨Tl.2 ⟨a,h.1⟩,by have:=h.2;simp only[Aj7];omega⟩
def Aem.app{a b:List L3}{n m k:Nat}(h1:Aem a n)(h2:Aem b m)(d:n+m<=k):Aem (a++b) k:=⟨λx c=>(U0.1 c).elim (h1.1 x) (h2.1 x),by have:=h1.2;have:=h2.2;rw[A0k];omega⟩
def Aem.mono{a:List L3}{n m:Nat}(h:Aem a n)(c:n<=m):Aem a m:=⟨h.1,Vr h.2 c⟩
def Aem.kw{s:List Nat}{l:List L3}{n m:Nat}(h:Aem l n)(a:s∈W35:=by decide)(c:n+s.length+1<=m:=by first|omega|decide|(simp;omega)):Aem (.kw s::l) m:=.cons a h c
def Aem.sg{s:List Nat}{l:List L3}{n m:Nat}(h:Aem l n)(a:s∈Sgs:=by decide)(c:n+s.length+1<=m:=by first|omega|decide|(simp;omega)):Aem (.sg s::l) m:=.cons a h c
def BrP:∀s∈R2,s.length<=6:=by decide
def Aem.nm{s:List Nat}{l:List L3}{n m:Nat}(a:s∈R2\/s∈N1)(h:Aem l n)(c:n+7<=m:=by omega):Aem (.nm s::l) m:=
 .cons (U0.2 a) h (by have:s.length<=6:=a.elim (BrP s) (Bb9 s);show n+s.length+1<=m;omega)
def BrX(a:Num j):(lt (.nu j)).length<=10:=(Alj a.1 a.2).2.2.2.1
def Aem.nu{l:List L3}{n m:Nat}(a:Num j)(h:Aem l n)(c:n+11<=m:=by omega):Aem (.nu j::l) m:=.cons a h (by have:=BrX a;omega)
def Aem.int(a:Sml j):Aem (ilx j) 13:=by
 obtain⟨h1,h2⟩:=a;unfold ilx;split
 .exact .sg (.nu ⟨by omega,by omega⟩ (n:=0) (m:=11) .nil)
 .exact .nu ⟨by omega,by omega⟩ (n:=0) .nil
def Aem.vlx{xs:List L3}{lo hi:Int}{n:Nat}(h:Aem xs n)(h1:Sml lo)(h2:Sml hi):Aem (vlx xs lo hi) (n+39):=
 h.app (.kw (n:=30) (m:=39) (Aem.app (.int h1) (.kw (n:=13) (m:=17) (.int h2)) fe)) om
def Bk4{r:Int × Int}(h:Sml r.1/\Sml r.2):Aem (rlx r) 29:=Aem.app (.int h.1) (.sg (n:=13) (m:=16) (.int h.2)) fe
def Bk5:∀{l:List (Int × Int)},(∀x∈l,Sml x.1/\Sml x.2)->Aem (rsx l) (31*l.length)
|[],_=>.nil
|[r],h=>(Bk4 (h r (Uq ..))).mono (by simp)
|r::c::rs,h=>by have h1:=Bk4 (h r (Uq ..));have h2:=Bk5 λx a=>h x (Vo r a);exact h1.app (.sg (m:=31*(c::rs).length+2) h2 fe (by simp)) (by simp only[R6];omega)
def Azf(h1:-100<=j)(h2:j<=100):Sml j:=⟨by omega,by omega⟩
def AoK(h1:0<=j)(h2:j<=100):Num j:=⟨h1,by omega⟩
def TxQ.sml(K:TxQ D Q xe xw xf):Sml Q.c2/\Sml Q.c3/\Sml Q.c7/\Num Q.c4/\Num Q.c5/\(∀x∈Q.ord,Sml x.1/\Sml x.2)/\0<=Q.c9/\Q.c9<=2:=by
 obtain⟨A1,q0,kv,hc⟩:=K.kv;have i:=K.kind;have d:Sml Q.c2/\Sml Q.c3:=by
  by_cases h:Q.c0=2\/Q.c0=4\/Q.c0=5
  .obtain⟨_,h1,h2,j⟩:=kv.AyG h;exact⟨Azf om om,Azf om om⟩
  .obtain⟨_,h1,h2⟩:=kv.A47 (λe=>h (.inl e)) (λe=>h (.inr (.inl e))) (λe=>h (.inr (.inr e)));rw[h1,h2];exact⟨⟨by decide,by decide⟩,⟨by decide,by decide⟩⟩
 have a:Num Q.c4/\Num Q.c5:=by
  by_cases h:Q.c0=5
  .have:=kv.pq2 h;exact⟨AoK om om,AoK om om⟩
  .obtain⟨h1,h2⟩:=kv.pq1 h;rw[h1,h2];exact⟨⟨by decide,by decide⟩,⟨by decide,by decide⟩⟩
 have g:(∀x∈Q.ord,Sml x.1/\Sml x.2)/\0<=Q.c9/\Q.c9<=2:=by
  by_cases h:Q.c0=10
  .obtain⟨_,_,h1,h2,c,c1,_,c3⟩:=kv.Bde h;refine⟨λx f=>?_,h1,h2⟩;have:=c3 x f;have:=(hc c c1).2;exact⟨Azf om om,Azf om om⟩
  .obtain⟨h1,h2⟩:=kv.Bdd h;rw[h1,h2];exact⟨(λ_ h=>nomatch h),by decide,by decide⟩
 have:=kv.bd2;exact⟨d.1,d.2,Azf om om,a.1,a.2,g⟩
def TxQ.nm6(K:TxQ D Q xe xw xf)(h1:Q.c0≠1)(h2:Q.c0≠2)(a:Q.c0≠5):Q.s6∈N1:=by obtain⟨A1,q0,kv,hc⟩:=K.kv;obtain⟨c,c1,c2⟩:=kv.Bcq h1 h2 a;exact c2 ▸ (hc c c1).1
def TxQ.we(K:TxQ D Q xe xw xf):Aem xe 917:=by
 rcases K.code with⟨_,rfl⟩|⟨t,h1,h2,_,rfl⟩
 .exact .nil
 .exact Bk6 K.dom h1 h2
def TxQ.ww(K:TxQ D Q xe xw xf):Aem xw 676:=by
 rcases K.E9 with⟨_,rfl⟩|⟨t,h1,h2,_,rfl⟩
 .exact .nil
 .exact .kw (n:=670) (Bk6 K.dom h1 h2)
def TxQ.wk(K:TxQ D Q xe xw xf):Aem (kbx Q xe) 1000:=by
 obtain⟨s2,s3,g,c,d,so,o,i⟩:=K.sml;have we:=K.we;unfold kbx;split
 .exact .nil
 .rename_i h1;split
  .exact(we.vlx s2 s3).mono fe
  .rename_i h2;split
   .rename_i f;exact(we.vlx s2 s3).app (.kw (n:=7) (m:=10) (.nm (.inr (K.nm6 h1 h2 om)) (n:=0) .nil)) fe
   .split
    .exact Aem.app (n:=27) (.nu c (.sg (m:=16) (.nu d (m:=14) (.kw (n:=0) (m:=3) .nil)))) (we.vlx s2 s3) fe
    .rename_i f j;have hn:=K.nm6 h1 h2 j;split
     .exact Aem.app (.int g) (.nm (.inr hn) (n:=0) (m:=7) .nil) fe
     .split
      .have a:Q.c9.toNat=0\/Q.c9.toNat=1\/Q.c9.toNat=2:=by omega
       have k:Ala.getD Q.c9.toNat []∈W35/\(Ala.getD Q.c9.toNat []).length<=8:=by rcases a with e|e|e<;>rw[e]<;>exact⟨by decide,by decide⟩
       unfold blx;refine .nm (.inr hn) (n:=200) (m:=1000) (Aem.app (Bk5 so) (.kw (n:=9) (m:=15) (.kw (n:=0) (m:=9) .nil k.1 om)) ?_);have:=K.ord;omega
      .exact .nm (.inr hn) (n:=0) .nil
def TxQ.ws(K:TxQ D Q xe xw xf):Aem (slx Q xw) 800:=by
 have h1:Aem (klx Q) 16:=by
  unfold klx;split
  .exact .nil
  .exact .kw (n:=11) (.nu (AoK K.By.1 (by have:=K.By.2;omega)) (n:=0) .nil)
 have h2:Aem (jlx Q) 60:=by
  unfold jlx;split
  .exact .nil
  .rename_i f;rcases K.join with⟨h,_⟩|⟨a,b,c,d,e⟩
   .exact absurd h f
   .exact .kw (n:=50) (.nm (.inl a) (n:=43) (.kw (n:=40) (.nm (.inr b) (n:=33) (.sg (n:=31) (.nm (.inr c) (n:=20) (.kw (n:=11) (.nu (AoK om om) (n:=0) .nil)))))))
 exact .kw (n:=790) (.nm (.inl K.tbl) (n:=760) (h1.app (h2.app K.ww (Yw _)) fe))
def TxQ.wl(K:TxQ D Q xe xw xf):Aem (wlx Q xf) 60:=by
 have h1:Aem (elx Q) 30:=by
  unfold elx;refine .kw (n:=22) (.nu (AoK (by have:=K.bits;omega) (by have:=K.bits;omega)) (n:=11) ?_)
  split
  .exact .kw (n:=0) .nil
  .exact .nil
 exact .kw (n:=50) (.kw (n:=40) (Aem.app (n:=10) ⟨K.fac.2.2.2.1,K.fac.2.2.2.2⟩ h1 fe))
def BvP:∀k,k<10->(kdW.getD k ([],0)).1∈W35/\(kdW.getD k ([],0)).1.length<=9:=by
 have:∀k:Fin 10,(kdW.getD k.1 ([],0)).1∈W35/\(kdW.getD k.1 ([],0)).1.length<=9:=by decide
 exact λk a=>this ⟨k,a⟩
def TxQ.all(K:TxQ D Q xe xw xf):Aem (qlx Q xe xw xf) 1900:=by
 obtain⟨h1,h2⟩:=BvP (kno Q) (by have:=K.kind;show(Q.c0-1).toNat<10;omega)
 exact .kw (n:=1860) (K.wk.app (K.ws.app K.wl (Yw _)) fe) h1 om
def txt(Q:Qr)(xe xw xf:List L3):List Nat:=jn none (qlx Q xe xw xf)
def TxQ.text(K:TxQ D Q xe xw xf):(txt Q xe xw xf).length<=1900/\(∀c∈txt Q xe xw xf,c<256)/\txt Q xe xw xf≠[]/\(qlx Q xe xw xf).length<=950:=by
 have h:=K.all;refine⟨Vr (Boz _ _) h.2,Box _ _ h.1,?_,by have:=A0m h.1;have:=h.2;omega⟩
 intro e;have h1:=(Biy (h.1 _ (Uq ..))).1;have h2:=Jh List.length e;simp only[txt,qlx,jn,X8,Gx]at h2;omega
open Tryz
attribute [local irreducible] Aa Al Af Ad
variable (Z cx:Ac)(N:Nat)
variable {h h1 h2 h0 hd hA:H}{b lo:Nat}{s:List Nat}{ve vo vm:AV}
def R62(Q:Qr)(s:List Nat):Prop:=∀(h:H),AeZ h->S0 h->Ah h (λr h1=>∃ve vo vm,r=.Bj [.agg (qc Q ve vo vm),.agg [iI 0,iI 0]]/\QV h1 Q ve vo vm) (Z.call 62 [.str s] h)
def R37(Q:Qr)(s:List Nat):Prop:=∀(ve vo vm:AV) (lo:Nat) (h:H),QS lo h Q ve vo vm->AeZ h->S0 h->Ah h (λr _=>r=.Bj [.str s,.bool true]) (Z.call 37 [.agg (qc Q ve vo vm)] h)
def Bit{cs:List AV}{ty:TypeId}(c:h.m.get b=.cells cs ty .exact)(a:b<h.nx)(d:cs.length=20):lS 20 (.ptr b 0) h=.ok (.agg cs) h:=
 (⟨a,_,_,c,trivial⟩:Nv h b cs).many (o:=0) (n:=20) om (by rw[Cp,<- d,cg]) h (Bi.refl h)
def r37(F:R74 Z Q xe)(J:R75 Z Q xw xf)(M:R76 Z (qlx Q xe xw xf))(y:R62 Z Q (txt Q xe xw xf))(E:R77 Z)(K:TxQ D Q xe xw xf)(S:Q.code.length<=3000/\Q.ord.length<=3000/\Q.E9.length<=3000)(A:QS lo h Q ve vo vm)(P:AeZ h)(hG:S0 h):
 Ah h (λr _=>r=.Bj [.str (txt Q xe xw xf),.bool true]) (Ay prog Z N true 37 [.agg (qc Q ve vo vm)] h):=by
 rw[e37];obtain⟨d,a⟩:∃d,d=(h.new (.cells (qc Q ve vo vm) 26 .exact)).new (.cells [.Bv] 127 .exact):=⟨_,rfl⟩;have x:Ai h d:=by rw[a];exact((Ai.refl h).new _).new _
 have V:d.m.get h.nx=.cells (qc Q ve vo vm) 26 .exact:=by rw[a,Cq _ _ (by simp only[C9];omega)];exact Bf _
 have g2:d.m.get (h.nx+1)=.cells [.Bv] 127 .exact:=by rw[a];exact Bf (h:=h.new _) _
 have nb:d.nx=h.nx+2:=by rw[a];rfl
 refine Ey (Hg ..) (Ey (v:=.ptr (h.nx+1) 0) (h:=d) (by rw[a];exact Hg ..) ?_);clear a;obtain⟨W,T,tx3,tx4⟩:=K.text;have p:=K.wk;have i:=K.we;have k:=K.ww;have lwe:=A0m i.1;have Y:=A0m k.1;have lwk:=A0m p.1;have hq:QF (h.nx+1) d Q ve vo vm:=⟨h,lo,by omega,x,A.c,A.m,A.o.sl⟩;have B6:=P.lt;refine Ey (Bit V om rfl) ?_;obtain⟨v3,h3,r3,_,rfl,u,k3⟩:=F (h.nx+1) [] ve vo vm d ⟨by omega,.Bv,g2,Fm.nil ..⟩ (P.gr x) om hq (by have:=i.2;simp;omega)
 refine Ey r3 ?_;have j:=(u.lo h.nx om).trans V;refine Ey (v:=.bool false) (h:=h3) rfl (Ey (Kk ..) (Ey ((Kk ..).trans (Bit j (by have:=u.nx;omega) rfl)) ?_))
 have p3:=(P.gr x).wg u om;have z:=hq.wg u;obtain⟨v5,f,r5,_,rfl,t,U⟩:=J (h.nx+1) _ ve vo vm h3 k3 p3 om z (by have:=k.2;have:=p.2;simp;omega)
 refine Ey ((Kk ..).trans r5) ?_;have G:=(t.lo h.nx om).trans j;have Ael:Ai h f:=WG.own (WG.own x u om) t om;refine Ey ((Kk ..).trans (show _=OR.ok (.bool false) f from rfl)) (Ey (v:=.bool false) (h:=f) rfl (Ae5 ?_))
 obtain⟨lv,q1,R⟩:=U.g;have B:=U.lt;refine Ey (v:=.ptr (h.nx+1) 0) (h:=f) rfl (Ey (v:=.ptr (h.nx+1) 0) (h:=f) rfl (Ey ((⟨B,_,_,q1,trivial⟩:Nv f (h.nx+1) [lv]).one (o:=0) rfl f (Bi.refl _)) ?_));have L:[]++List.map Ae7 (.kw (kdW.getD (kno Q) ([],0)).1::kbx Q xe)++List.map Ae7 (slx Q xw++wlx Q xf)=(qlx Q xe xw xf).map Ae7:=by simp[qlx]
 rw[L]at R;refine Fj (M lv f R.sl) λv6 h6 X l6 O q6=>?_;subst q6;have p6:=((p3.wg t om).gr X);have I:=Ael.trans X;refine Fj (y h6 p6 (hG.By I.keeps)) λv7 h7 e7 l7 C q7=>?_;obtain⟨we,wo,wm,rfl,qv⟩:=q7;have Aep:=I.trans e7;have g17:=(C h.nx (by have:=t.nx;omega)).trans ((O h.nx (by have:=t.nx;omega)).trans G)
 have hn7:h.nx<h7.nx:=by have:=t.nx;have:=u.nx;omega
 clear F J M y K r3 r5 u t k3 U p3 p6 z hq q1 R L j G i k p lwe Y lwk W T tx3 tx4 P B6 B x X e7 l6 l7 O C V g2;obtain⟨i1,i2⟩:=B2 qv.c;obtain⟨i3,i4⟩:=B2 qv.o;obtain⟨i5,i6⟩:=B2 qv.m;have n:=λw (e:Bi h7 w) (g:Bi h w)=>E Q we wo wm ve vo vm w (qv.By e) (A.qv.By g) S.1 S.2.1 S.2.2;replace qv:=(show F5 _ from qv)
 replace n:=(show F5 _ from n)
 clear E A;refine wk ?_;refine Fj ((show ∀w (e:Bi h7 w) (g:Bi h w),_ from n) _ M0 (Ai.keeps (Aep.trans Ex))) λv8 h8 e8 l8 BfJ q8=>?_
 subst q8;refine wk ?_;exact zr Ex rfl
def R16(Q:Qr)(s:List Nat):Prop:=∀(a vo vm:AV) (h:H),QV h Q a vo vm->Q.code.length<=3000->Q.ord.length<=3000->Q.E9.length<=3000->AeZ h->S0 h->Ah h (λr _=>r=.str s) (Z.call 16 [.agg (qc Q a vo vm)] h)
def r16(c:Yg false Q.code/\Yg true Q.E9)(p:R10 Z)(a:R37 Z (Oa Q) s)(hq:QV h Q ve vo vm)(l1:Q.code.length<=3000)(t:Q.ord.length<=3000)(g:Q.E9.length<=3000)(j:AeZ h)(k:S0 h):
 Ah h (λr _=>r=.str s) (Ay prog Z N true 16 [.agg (qc Q ve vo vm)] h):=by
 rw[e16];have e:Ai h (h.new (.cells (qc Q ve vo vm) 26 .exact)):=(Ai.refl h).new _;refine Ey (Hg ..) (Ey (Bit (Bf _) (Up _) rfl) ?_);refine Fj (p Q ve vo vm _ (hq.By e.keeps) l1 t g c.1 c.2) λw h1 e1 _ _ f=>?_;obtain⟨u,n,o,rfl,i⟩:=f;have d:=e.trans e1;refine Fj (a u n o _ h1 i (j.gr d) (k.By d.keeps)) λv h2 x _ _ m=>?_;subst m;refine wk ?_;exact zr Ex rfl
def K13(h:H):Prop:=∀h1,Ai h h1->Ah h1 (λr _=>r=.bool true) (Z.call 13 [] h1)
def R8.all{lo:Nat}{r:AV}{h1:H}(o:R8 lo r h1):∃l,SsV l/\∀tk,h1.nx<=tk->W9 tk h1 r l:=by obtain⟨l,g,j,e,i⟩:=o;refine⟨l,i,λtk d=>⟨g,j,e.own.sl,Sl.av e.own.sl d,λs p=>?_⟩⟩;have a:=e.ok s p;exact⟨a.nn,a.ne,a.Mu,⟨a.A1.sl,Sl.av a.A1.sl d,λc hc=>⟨(a.A1.ok c hc).Mu,(a.A1.ok c hc).words,Sl.av (a.A1.ok c hc).words d,(a.A1.ok c hc).one,(a.A1.ok c hc).cell⟩⟩,a.one,a.cell,λb off len cap z ex t h0=>by obtain⟨m,n⟩:=a.kz b off len cap z ex t h0;exact⟨Xq m d,λk f=>Xq (n k f) d⟩⟩
def BtR:Prop:=∀(ss:List Sc) (q:Qr),SsV ss->QOk ss q->∃s,R16 Z q s/\R16 Z (Oa q) s
def A6a{ss:List Sc}{q:Qr}(h:QOk ss q):q.code.length<=3000/\q.ord.length<=3000/\q.E9.length<=3000:=by
 have len:∀{l:List Nd} {k:Bool} {D:Dom},(l=[]\/∃t,E7 D k t/\wt t<=Sd 3/\l=t.nodes)->l.length<=3000:=λ{l k D} a=>by
  rcases a with rfl|⟨t,h1,h2,rfl⟩
  .simp
  .have:=(Alf h1 h2).2;omega
 exact⟨len h.code,by have:=h.ord;omega,len h.E9⟩
set_option maxHeartbeats 2000000 in
def r4(X:R14 Z)(Mt:R15 Z)(Fh:R10 Z)(Gd:R12 Z)(Ma:BtR Z)(va vb:AV)(La Lb:List Int)(h:H)(hG:S0 h)(hp:AeZ h)(U:K13 Z h)(ha:Lf h va La)(hB:Lf h vb Lb)(la:(La.length:Int)<=9223372036854775807)(lb:(Lb.length:Int)<=9223372036854775807):
 Ah h (λv _=>v=.bool true) (Ay prog Z N true 4 [va,vb] h):=by
 rw[e4];refine Fj (U h (Ai.refl h)) λv1 h1 e1 l1 Aad q1=>?_;subst q1;refine Fj (Mt va La h1 (Sl.By ha e1.keeps) la) λsv h2 e2 l2 Aae q2=>?_;obtain⟨ss,hV,hS⟩:=q2.all;refine Fj (X vb sv Lb ss h2 (Sl.By hB (e1.trans e2).keeps) lb hS hV) λv3 j e3 l3 Ary q3=>?_;obtain⟨q,wc,wo,wm,rfl,qv,I⟩:=q3;have T:=(e1.trans e2).trans e3;have z:=A6d I;have Zo:=A29 I;have hb:=AoD I;have E:=AoD z;obtain⟨s,k1,k2⟩:=Ma ss q hV I;obtain⟨y1,y2,y3⟩:=A6a I;obtain⟨V,z2,z3⟩:=A6a z;obtain⟨p1,p2⟩:=B2 qv.c;obtain⟨p3,p4⟩:=B2 qv.o;obtain⟨p5,p6⟩:=B2 qv.m;have C:=hp.gr T;have B:=hG.By T.keeps;have e10:=λa (e:Bi j a)=>Fh q wc wo wm a (qv.By e) y1 y2 y3 hb.1 hb.2;have i:=λf g d a (R:QV a (Oa q) f g d)=>Fh (Oa q) f g d a R V z2 z3 E.1 E.2;rw[Zo]at i;have e12:=λf g d w x y a (R:QV a (Oa q) f g d) (Y:QV a (Oa q) w x y)=>Gd (Oa q) f g d w x y a R Y V z2 z3;have e16:=λa (e:Ai j a)=>k1 wc wo wm a (qv.By e.keeps) y1 y2 y3 (C.gr e) (B.By e.keeps);have u:=λf g d a (e:Ai j a) (R:QV a (Oa q) f g d)=>k2 f g d a R V z2 z3 (C.gr e) (B.By e.keeps);replace e10:=(show F5 _ from e10)
 replace i:=(show F5 _ from i)
 replace e12:=(show F5 _ from e12)
 replace e16:=(show F5 _ from e16)
 replace u:=(show F5 _ from u)
 clear X Mt Fh Gd Ma U ha hB hS e1 e2 e3 Aad Aae Ary l1 l2 l3 la lb I z Zo hb E hV q2 k1 k2 qv C B hG hp y1 y2 y3 V z2 z3;generalize Oa q=n at *
 refine wk ?_;refine Fj ((show ∀a (e:Bi j a),_ from e10) _ M0) λv7 k e7 l7 F q7=>?_
 obtain⟨f,g,d,rfl,qs⟩:=q7;have g7:Ai j k:=Ai.trans Ex e7;simp only[C9]at l7 F;have b7:=(F j.nx om).trans (A2 ..);have t:=qs.qv;obtain⟨r1,r2⟩:=B2 t.c;obtain⟨r3,r4⟩:=B2 t.o;obtain⟨r5,r6⟩:=B2 t.m;replace t:=(show F5 (QV k n f g d)from t)
 clear e7 F qs e10;refine wk ?_;refine zc2 ((show ∀(f g d:AV) (a:H),QV a n f g d->_ from i) f g d _ ((show QV k n f g d from t).By M0)) λv11 Kc K l11 p q11=>?_
 obtain⟨w,x,y,rfl,Y⟩:=q11;have W:=Y.qv;simp only[C9]at l11 p;have P:=(p k.nx om).trans (A2 ..);have L:=(p j.nx om).trans ((Aq _ _ _ om).trans ((Cq _ _ om).trans b7));have S:Ai k Kc:=Ai.trans Ex K;replace W:=(show F5 (QV Kc n w x y)from W)
 clear K p Y i b7;refine wk ?_;refine zc2 ((show ∀(f g d w x y:AV) (a:H),QV a n f g d->QV a n w x y->_ from e12) w x y f g d _ ((show QV Kc n w x y from W).By M0) ((show QV k n f g d from t).By (Ai.keeps (S.trans Ex)))) λv12 Gd M l12 r q12=>?_
 subst q12;simp only[C9]at l12 r;have b12:=(r k.nx om).trans P;have W0:=(r j.nx om).trans L;have G:Ai k Gd:=Ai.trans (S.trans Ex) M;clear M r e12 W P L;refine wk ?_;refine zc2 ((show ∀(f g d:AV) (a:H),Ai j a->QV a n f g d->_ from u) f g d _ ((g7.trans G).trans Ex) ((show QV k n f g d from t).By (Ai.keeps (G.trans Ex)))) λE0 U O l13 A q13=>?_
 subst q13;simp only[C9]at l13 A;have c13:=(A j.nx om).trans W0;have J:Ai k U:=Ai.trans (G.trans Ex) O;clear O A u t b12 W0;refine wk ?_;refine zc2 ((show ∀(a:H),Ai j a->_ from e16) _ ((g7.trans J).trans Ex)) λEr X e14 l14 Bwf q14=>?_
 subst q14;have g14:Ai k X:=Ai.trans (J.trans Ex) e14;clear e14 Bwf e16 c13;refine wk ?_;exact Lo ((T.trans (g7.trans g14)).nl.nl.Be ((T.trans g7).trans Ex)) rfl
end Go.Proofs
