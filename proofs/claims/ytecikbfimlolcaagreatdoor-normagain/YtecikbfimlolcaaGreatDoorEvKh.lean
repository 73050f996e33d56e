/- The plain law: the normal form of a normal form is the same. -/
import Derived.Test.YtecikbfimlolcaaGreatDoorEvSa
set_option linter.all false
noncomputable section
namespace Go.Proofs
open Go Go.Ev Go.Nm
variable {j p:Tr}{o:Int}
structure Dom where
 Zn:List Nat->Prop
 word:List Nat->List Nat->Prop
variable {D:Dom}
def WdC(D:Dom):Tr->Tr->Prop
|.leaf x,.leaf y=>(x.op=2/\x.n=0/\D.Zn x.Zn)/\y.op=3/\y.n=0/\D.word x.Zn y.Zn
|_,_=>False
def E7(D:Dom):Bool->Tr->Prop
|b,.leaf x=>b=false/\((x.op=1/\x.Zn=[]/\0<=x.n/\x.n<=1000000000)\/x.op=2/\x.n=0/\D.Zn x.Zn)
|b,.one o a=>(b=false/\o=7/\E7 D false a)\/(b=true/\o=17/\E7 D true a)
|b,.two o a c=>(b=false/\(o=4\/o=5\/o=6)/\E7 D false a/\E7 D false c)\/(b=true/\(9<=o/\o<=14)/\E7 D false a/\E7 D false c)\/(b=true/\(o=9\/o=10)/\WdC D a c)\/(b=true/\(o=15\/o=16)/\E7 D true a/\E7 D true c)
|b,.three p a c=>b=false/\E7 D true p/\E7 D false a/\E7 D false c
def Agn:∀{a c},WdC D a c->∃x y,a=.leaf x/\c=.leaf y/\(x.op=2/\x.n=0/\D.Zn x.Zn)/\y.op=3/\y.n=0/\D.word x.Zn y.Zn
|.leaf x,.leaf y,h=>⟨x,y,rfl,rfl,h⟩
|.leaf _,.one ..,h=>h.elim
|.leaf _,.two ..,h=>h.elim
|.leaf _,.three ..,h=>h.elim
|.one ..,_,h=>h.elim
|.two ..,_,h=>h.elim
|.three ..,_,h=>h.elim
def Abt:∀{t} {b},E7 D b t->Ty b t
|.leaf x,b,⟨h,h1⟩=>⟨h,h1.imp (λa=>⟨a.1,a.2.1⟩) λa=>⟨a.1,a.2.1⟩⟩
|.one o a,b,h=>h.imp (λh=>⟨h.1,h.2.1,Abt h.2.2⟩) λh=>⟨h.1,h.2.1,Abt h.2.2⟩
|.two o a c,b,h=>by
 rcases h with⟨h0,h1,h2,d⟩|⟨h0,h1,h2,d⟩|⟨h0,h1,h2⟩|⟨h0,h1,h2,d⟩;. exact .inl ⟨h0,h1,Abt h2,Abt d⟩
 .exact .inr (.inl ⟨h0,h1,Abt h2,Abt d⟩)
 .obtain⟨x,y,rfl,rfl,f,e⟩:=Agn h2;exact .inr (.inr (.inl ⟨h0,h1,⟨f.1,f.2.1⟩,e.1,e.2.1⟩))
 .exact .inr (.inr (.inr ⟨h0,h1,Abt h2,Abt d⟩))
|.three p a c,b,h=>⟨h.1,Abt h.2.1,Abt h.2.2.1,Abt h.2.2.2⟩
def AiX{t}{b}(h:E7 D b t):Kq t:=Mx (Abt h)
def Abe{t}{b}(h:E7 D b t):t.op≠3:=by cases t with
|leaf x=>obtain⟨_,h|h⟩:=h<;>(show x.op≠3;omega)
|one o a=>rcases h with h|h<;>(show o≠3;omega)
|two o a c=>rcases h with h|h|h|h<;>(show o≠3;omega)
|three p a c=>show 8≠3;simp
def Acz{n}(h:0<=n)(h2:n<=1000000000):E7 D false (num n):=⟨rfl,.inl ⟨rfl,rfl,h,h2⟩⟩
def Ar9{v}{t}(h:constant v=some t):E7 D false t:=by
 unfold constant at h;split at h;. grind
 .split at h;. cases h;exact .inl ⟨rfl,rfl,Acz om om⟩
  .cases h;exact Acz om om
def AaH b:E7 D true (fixed b):=by refine .inr (.inl ⟨rfl,?_,Acz om (by simp),Acz (by simp) om⟩);omega
def A0j{a}(h:E7 D false a):E7 D false (neg a):=by
 unfold neg;split
 .rename_i t b;split at b;. exact Ar9 b
  simp_all
 .cases a with
  |one o x=>
   rcases h with⟨_,rfl,h1⟩|⟨h1,_⟩;. grind
   grind
  |_=>exact .inl ⟨rfl,rfl,h⟩
def AfA{o}{a b}{k}(h:E7 D k (.two o a b))(h2:E7 D k (.two o b a)):E7 D k (ordered o a b):=by unfold ordered;grind
def A6f(f:o=4\/o=5\/o=6)(e:E7 D false j)(c:E7 D false p):E7 D false (Mw o j p):=by
 unfold Mw;split
 .rename_i t d;unfold arith at d;split at d;. exact Ar9 d
  .cases d
 .repeat' split
  all_goals first
   |exact e
   |exact c
   |exact Acz fe fe
   |exact A0j c
   |exact .inl ⟨rfl,f,e,c⟩
   |exact AfA (.inl ⟨rfl,f,e,c⟩) (.inl ⟨rfl,f,c,e⟩)
def A0T{o}{a b}(e:o=15\/o=16)(d:E7 D true a)(c:E7 D true b):E7 D true (Kg o a b):=by
 unfold Kg;repeat' split
 .exact AaH _
 .grind
 .omega
 .exact AfA (.inr (.inr (.inr ⟨rfl,e,d,c⟩))) (.inr (.inr (.inr ⟨rfl,e,c,d⟩)))
def Adx(e:9<=o/\o<=14)(d:E7 D false j)(c:E7 D false p):E7 D true (Dg o j p):=by
 have h1:E7 D true (.two o j p):=.inr (.inl ⟨rfl,e,d,c⟩);have h2:E7 D true (.two o p j):=.inr (.inl ⟨rfl,e,c,d⟩);unfold Dg;split
 .exact AaH _
 .split
  .exact AaH _
  .split
   .exact AfA h1 h2
   .exact h1
def Agt(g:o=9\/o=10)(h:WdC D j p):Dg o j p=.two o j p:=by
 obtain⟨x,y,rfl,rfl,⟨h1,h2,a⟩,c,i,f⟩:=Agn h;have e1:(value (.leaf x)).2=false:=by simp[value,h1]
 have e:same (.leaf x) (.leaf y)=false:=Pj (by simp[hd,h1,c]);have d:(Tr.leaf y).op=3:=c;unfold Dg;simp[e1,e,d]
def AiW(h:(9<=o/\o<=14)/\E7 D false j/\E7 D false p\/(o=9\/o=10)/\WdC D j p):E7 D true (Ek o j p):=by
 rcases h with⟨c,e,d⟩|⟨c,f⟩
 .unfold Ek;split
  .exact Adx fe d e
  .split
   .exact Adx fe d e
   .exact Adx c e d
 .unfold Ek;rw[X2 om,X2 om,Agt c f];exact .inr (.inr (.inl ⟨rfl,c,f⟩))
def A6e(h:E7 D true j):E7 D true (Jl j):=by
 unfold Jl;split
 .exact AaH _
 .split
  .exact AaH _
  .cases j with
   |leaf x=>cases h.1
   |three _ _ _=>cases h.1
   |one o x=>
    rcases h with⟨h1,_⟩|⟨_,rfl,h1⟩
    .cases h1
    .exact h1
   |two o a b=>
    simp only;rcases h with⟨h1,_⟩|⟨_,e,d,c⟩|⟨_,e,f⟩|⟨_,e,d,c⟩
    .cases h1
    .repeat' split
     all_goals first
      |exact .inr (.inl ⟨rfl,by omega,d,c⟩)
      |exact .inr (.inl ⟨rfl,by omega,c,d⟩)
      |exact .inr ⟨rfl,rfl,.inr (.inl ⟨rfl,e,d,c⟩)⟩
    .repeat' split
     all_goals first
      |exact .inr (.inr (.inl ⟨rfl,by omega,f⟩))
      |(exfalso;omega)
    .repeat' split
     all_goals first
      |(exfalso;omega)
      |exact .inr ⟨rfl,rfl,.inr (.inr (.inr ⟨rfl,e,d,c⟩))⟩
def A0U{b:Tr}(hc:E7 D true j)(e:E7 D false p)(d:E7 D false b):E7 D false (three j p b):=by
 unfold three;repeat' split
 .exact e
 .exact d
 .exact⟨rfl,hc,e,d⟩
def Aaz:∀{t:Tr} {b:Bool},E7 D b t->E7 D b (normal t)
|.leaf x,b,h=>h
|.one o a,b,h=>by
 rcases h with⟨rfl,rfl,h2⟩|⟨rfl,rfl,h2⟩
 .exact A0j (Aaz h2)
 .exact A6e (Aaz h2)
|.two o a c,b,h=>by
 show E7 D b (L0 o _ _);unfold L0;rcases h with⟨rfl,h1,h2,d⟩|⟨rfl,h1,h2,d⟩|⟨rfl,h1,h2⟩|⟨rfl,h1,h2,d⟩
 .rw[W5 h1];exact A6f h1 (Aaz h2) (Aaz d)
 .rw[X2 om,X2 om];exact AiW (.inl ⟨h1,Aaz h2,Aaz d⟩)
 .rw[X2 om,X2 om];obtain⟨x,y,rfl,rfl,_⟩:=Agn h2;exact AiW (.inr ⟨h1,h2⟩)
 .rw[X2 om,W5 h1];exact A0T h1 (Aaz h2) (Aaz d)
|.three p a c,b,h=>by obtain⟨rfl,h1,h2,d⟩:=h;exact A0U (Aaz h1) (Aaz h2) (Aaz d)
structure Awv where
 Zn:List Nat->Int
 word:List Nat->List Nat->Int
variable {V:Awv}
def StH:Tr->Prop
|.leaf _=>True
|.one o a=>normal (.one o a)=.one o a/\StH a
|.two o a b=>normal (.two o a b)=.two o a b/\StH a/\StH b
|.three c a b=>normal (.three c a b)=.three c a b/\StH c/\StH a/\StH b
def StH.n:∀{t:Tr},StH t->normal t=t
|.leaf _,_=>rfl
|.one _ _,h=>h.1
|.two _ _ _,h=>h.1
|.three _ _ _,h=>h.1
def A9d(h:constant o=some j):StH j:=by
 unfold constant at h;split at h
 .cases h
 .split at h
  .cases h;exact⟨Bga (A3m (-o) om om) (Bes (-o) om om),trivial⟩
  .cases h;trivial
def AlI(d:StH j)(c:StH p)(h:L0 o j p=.two o j p):StH (.two o j p):=by refine⟨?_,d,c⟩;show L0 o (normal j) (normal p)=_;rw[d.n,c.n,h]
def Bct(e:StH j)(d:StH p)(h:L0 o j p=ordered o j p)(hc:L0 o j p=L0 o p j):StH (ordered o j p):=by
 rw[hc]at h;have h':=hc.trans h;unfold ordered at h h' ⊢;split
 .rename_i c;rw[W5 c]at h;exact AlI d e h
 .rename_i c;rw[X2 c]at h';exact AlI e d h'
def Bc6:value (num 0)=(0,true):=A3m 0 fe fe
def Apb(b:Bool):StH (fixed b):=by refine AlI trivial trivial ?_;cases b<;>simp[L0,Ek,Dg,Bc6]<;>rfl
def Bks(h:StH j):StH (neg j):=by
 generalize d:neg j=r;have b:=d;unfold neg at b;split at b
 .rename_i t c;subst b;split at c
  .exact A9d c
  .cases c
 .have h1:r=.one 7 j->StH r:=λe=>by rw[e];refine⟨?_,h⟩;show neg (normal j)=_;rw[h.n,d,e]
  cases j with
  |one o x=>
   simp only at b;split at b
   .subst b;exact h.2
   .exact h1 b.symm
  |_=>exact h1 b.symm
def Amr(c:o=4\/o=5\/o=6):L0 o j p=Mw o j p:=by unfold L0;rw[W5 c]
def An7(c:o=15\/o=16):L0 o j p=Kg o j p:=by unfold L0;rw[X2 om,W5 c]
def AhW(c:9<=o/\o<=12):L0 o j p=Dg o j p:=by unfold L0 Ek;rw[X2 om,X2 om,X2 om,X2 om]
def Bn3(g:o=4\/o=5\/o=6)(e:StH j)(d:StH p)(a:Kq j)(i:Kq p):StH (Mw o j p):=by
 generalize h:Mw o j p=r;have c:=h;unfold Mw at c;split at c
 .rename_i t f;subst c;unfold arith at f;split at f
  .exact A9d f
  .cases f
 .split at c
  .exact c ▸ e
  .split at c
   .exact c ▸ trivial
   .split at c
    .exact c ▸ Bks d
    .split at c
     .subst c;exact AlI e d ((Amr g).trans h)
     .rename_i k;split at c
      .exact c ▸ d
      .split at c
       .exact c ▸ e
       .split at c
        .exact c ▸ trivial
        .subst c;exact Bct e d ((Amr g).trans h) (by rw[Amr g,Amr g];exact Bgk om a i)
def Bkr(d:o=15\/o=16)(f:StH j)(e:StH p)(i:Kq j)(h:Kq p):StH (Kg o j p):=by
 generalize g:Kg o j p=r;have c:=g;unfold Kg at c;split at c
 .exact c ▸ Apb _
 .split at c
  .exact c ▸ e
  .split at c
   .exact c ▸ f
   .subst c;exact Bct f e ((An7 d).trans g) (by rw[An7 d,An7 d];exact Bbj i h)
def A6h(d:9<=o/\o<=12)(g:StH j)(f:StH p)(h:Kq j)(i:Kq p)(a:j.op≠3):StH (Dg o j p):=by
 generalize e:Dg o j p=r;have c:=e;unfold Dg at c;split at c
 .exact c ▸ Apb _
 .split at c
  .exact c ▸ Apb _
  .split at c
   .rename_i hc;subst c;simp only[Em,ba,W8,eg,X9]at hc;exact Bct g f ((AhW d).trans e) (by rw[AhW d,AhW d];exact Axc hc.1 h i a hc.2)
   .subst c;exact AlI g f ((AhW d).trans e)
def Aut(a:Tr):same a a=true:=by rw[Mq];exact Ws rfl
def Bh3(h:Dg o j p=.two o j p)(f:same (.two o j p) (fixed true)=false)(e:same (.two o j p) (fixed false)=false):
 ((value j).2&&(value p).2)=false/\same j p=false/\(((decide (o=9)||decide (o=10))&&!decide (p.op=3))=true->¬ Nm.compare p j<0):=by
 have d:∀c:Bool,fixed c≠.two o j p:=λc hc=>by
  rw[<- hc]at f e;cases c
  .rw[Aut]at e;cases e
  .rw[Aut]at f;cases f
 unfold Dg at h;split at h
 .exact absurd h (d _)
 .rename_i h1;split at h
  .exact absurd h (d _)
  .rename_i h2;refine⟨dj.2 h1,dj.2 h2,λg a=>?_⟩;rw[W5 g]at h;unfold ordered at h;rw[W5 a]at h;injection h with _ i _;rw[i]at h2;exact h2 (Aut _)
def Bn2(h:StH j)(u:E7 D true j):StH (Jl j):=by
 generalize k:Jl j=r;have b:=k;unfold Jl at b;split at b
 .exact b ▸ Apb _
 .rename_i s;split at b
  .exact b ▸ Apb _
  .rename_i q;have h1:r=.one 17 j->StH r:=λe=>by rw[e];refine⟨?_,h⟩;show Jl (normal j)=_;rw[h.n,k,e]
   cases j with
   |leaf x=>exact h1 b.symm
   |three _ _ _=>exact h1 b.symm
   |one o x=>
    simp only at b;split at b
    .exact b ▸ h.2
    .exact h1 b.symm
   |two o x y=>
    obtain⟨h2,c,hy⟩:=h;have p:L0 o x y=.two o x y:=by have:L0 o (normal x) (normal y)=.two o x y:=h2;rwa[c.n,hy.n]at this
    have t:9<=o/\o<=12->StH r:=λd=>by
     rw[AhW d]at p;obtain⟨f,i,l⟩:=Bh3 p (dj.2 s) (dj.2 q);have a:((value y).2&&(value x).2)=false:=by rw[ek];exact f
     have m:same y x=false:=by rw[Amu];exact i
     have:o=9\/o=10\/o=11\/o=12:=by omega
     rcases this with rfl|rfl|rfl|rfl
     .simp only[Jr]at b;subst b;refine AlI c hy ?_;rw[AhW fe];unfold Dg;rw[X2 (by rw[f];simp),X2 (by rw[i];simp)];split
      .rename_i g;unfold ordered;rw[X2 (l (by simpa using g))]
      .rfl
     .simp only[show ¬ (10:Int)=9 by decide,Fl,Jr]at b
      subst b;refine AlI c hy ?_;rw[AhW fe];unfold Dg;rw[X2 (by rw[f];simp),X2 (by rw[i];simp)];split
      .rename_i g;unfold ordered;rw[X2 (l (by simpa using g))]
      .rfl
     .simp only[show ¬ (11:Int)=9 by decide,show ¬ (11:Int)=10 by decide,Fl,Jr]at b
      subst b;refine AlI hy c ?_;rw[AhW fe];unfold Dg;rw[X2 (by rw[a];simp),X2 (by rw[m];simp),X2 (by simp)]
     .simp only[show ¬ (12:Int)=9 by decide,show ¬ (12:Int)=10 by decide,show ¬ (12:Int)=11 by decide,Fl,Jr]at b
      subst b;refine AlI hy c ?_;rw[AhW fe];unfold Dg;rw[X2 (by rw[a];simp),X2 (by rw[m];simp),X2 (by simp)]
    by_cases d:9<=o/\o<=12
    .exact t d
    .refine h1 ?_;simp only[show ¬ o=9 by omega,show ¬ o=10 by omega,show ¬ o=11 by omega,show ¬ o=12 by omega,Fl]at b
     exact b.symm
def Bkt{b:Tr}(hc:StH j)(f:StH p)(e:StH b):StH (three j p b):=by
 generalize g:three j p b=r;have d:=g;unfold three at d;split at d
 .exact d ▸ f
 .split at d
  .exact d ▸ e
  .subst d;refine⟨?_,hc,f,e⟩;show three (normal j) (normal p) (normal b)=_;rw[hc.n,f.n,e.n,g]
def Agj:∀{t:Tr} {b:Bool},E7 D b t->StH (normal t)
|.leaf x,b,h=>trivial
|.one o a,b,h=>by
 rcases h with⟨rfl,rfl,h2⟩|⟨rfl,rfl,h2⟩
 .exact Bks (Agj h2)
 .exact Bn2 (Agj h2) (Aaz h2)
|.two o a c,b,h=>by
 show StH (L0 o (normal a) (normal c));rcases h with⟨rfl,h1,h2,d⟩|⟨rfl,h1,h2,d⟩|⟨rfl,h1,h2⟩|⟨rfl,h1,h2,d⟩
 .rw[Amr h1];exact Bn3 h1 (Agj h2) (Agj d) (AiX (Aaz h2)) (AiX (Aaz d))
 .have e:=AiX (Aaz h2);have rc:=AiX (Aaz d);have f:=Agj h2;have sc:=Agj d;have i:=Abe (Aaz h2);have g:=Abe (Aaz d);unfold L0;rw[X2 om,X2 om];unfold Ek;split
  .exact A6h fe sc f rc e g
  .split
   .exact A6h fe sc f rc e g
   .exact A6h om f sc e rc i
 .obtain⟨x,y,rfl,rfl,_⟩:=Agn h2;have d:=Agt h1 h2;rw[AhW om];show StH (Dg o (.leaf x) (.leaf y));rw[d];exact AlI trivial trivial ((AhW om).trans d)
 .rw[An7 h1];exact Bkr h1 (Agj h2) (Agj d) (AiX (Aaz h2)) (AiX (Aaz d))
|.three p a c,b,h=>by obtain⟨rfl,h1,h2,d⟩:=h;exact Bkt (Agj h1) (Agj h2) (Agj d)
def AqO{b:Bool}(h:E7 D b j):normal (normal j)=normal j:=(Agj h).n
end Go.Proofs
