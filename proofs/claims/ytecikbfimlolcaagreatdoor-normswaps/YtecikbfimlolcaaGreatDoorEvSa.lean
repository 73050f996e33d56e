/- Typed expressions are built from their nodes. -/
import Derived.Test.YtecikbfimlolcaaGreatDoorEvRh
set_option linter.unusedVariables false
set_option linter.unusedSimpArgs false
noncomputable section
namespace Go.Proofs
open Go Go.Ev Go.Nm
theorem AhW:∀l m:List Nd,ltN l m=true->ltN m l=false
 |[],[],h=>by simp [ltN] at h
 |[],y::m,_=>by simp [ltN]
 |x::l,[],h=>by simp [ltN] at h
 |x::l,y::m,h=>by
  rw [Ye] at h ⊢
  by_cases e:x=y
  . subst e
    rw [if_pos rfl] at h ⊢
    exact AhW l m h
  . rw [if_neg e] at h
    rw [if_neg (λhh=>e hh.symm)]
    have h2:=AeK x y e
    rw [h] at h2
    simpa using h2.symm
theorem Ux (a b:Tr):same a b=same b a:=by
 rw [Mq,Mq,decide_eq_decide]
 exact eq_comm
theorem Nj {a b:Tr} (o:Int) (ha:Kq a) (hb:Kq b):ordered o a b=ordered o b a:=by
 unfold ordered
 by_cases h1:Nm.compare b a<0
 . have h2:¬ Nm.compare a b<0:=λh2=>by
    have q1:=(Yc _ _).1 h1
    have q2:=(Yc _ _).1 h2
    have q3:=AhW _ _ q1
    rw [show ltN a.nodes b.nodes=true from q2] at q3
    cases q3
   rw [if_pos h1,if_neg h2]
 . by_cases h2:Nm.compare a b<0
   . rw [if_neg h1,if_pos h2]
   . rw [if_neg h1,if_neg h2]
     have q1:less b a=false:=by
      cases q:less b a with
      |false=>rfl
      |true=>exact absurd ((Yc _ _).2 q) h1
     have q2:less a b=false:=by
      cases q:less a b with
      |false=>rfl
      |true=>exact absurd ((Yc _ _).2 q) h2
     have q3:same a b=true:=by
      rw [<- Aj7]
      unfold equalR
      rw [q1,q2]
      rfl
     rw [Uy ha hb q3]
theorem Ab5 {a:Tr} {v:Int} (h:isV a v=true):(value a).2=true/\(value a).1=v:=by
 unfold isV at h
 simpa using h
theorem Ajs {o:Int} (a b:Tr) (ho:o=4\/o=6):arith o a b=arith o b a:=by
 unfold arith
 rw [Bool.and_comm]
 rcases ho with rfl|rfl
 . simp [Int.add_comm]
 . simp [Int.mul_comm]
theorem AeT {o:Int} {a b:Tr} (ho:o=4\/o=6) (ha:Kq a) (hb:Kq b):Mw o a b=Mw o b a:=by
 unfold Mw
 rw [Ajs a b ho]
 cases hn:arith o b a with
 |some t=>rfl
 |none=>
  rcases ho with rfl|rfl
  . cases h1:isV a 0<;>cases h2:isV b 0
    . simpa [h1,h2] using Nj 4 ha hb
    . simp [h1,h2]
    . simp [h1,h2]
    . exfalso
      obtain ⟨q1,q2⟩:=Ab5 h1
      obtain ⟨q3,q4⟩:=Ab5 h2
      simp [arith,q1,q2,q3,q4,constant] at hn
  . cases h1:isV a 1<;>cases h2:isV b 1
    . by_cases h3:isV a 0=true\/isV b 0=true
      . have h4:isV b 0=true\/isV a 0=true:=h3.symm
        simp [h1,h2,h3,h4]
      . have h4:¬ (isV b 0=true\/isV a 0=true):=λhh=>h3 hh.symm
        simpa [h1,h2,h3,h4] using Nj 6 ha hb
    . simp [h1,h2]
    . simp [h1,h2]
    . exfalso
      obtain ⟨q1,q2⟩:=Ab5 h1
      obtain ⟨q3,q4⟩:=Ab5 h2
      simp [arith,q1,q2,q3,q4,constant] at hn
theorem AcB {o:Int} {a b:Tr} (ha:Kq a) (hb:Kq b):Kg o a b=Kg o b a:=by
 unfold Kg
 by_cases c1:(same a (fixed (decide (o=16)))||same b (fixed (decide (o=16))))=true
 . rw [if_pos c1,if_pos (by rw [Bool.or_comm];exact c1)]
 . have c1':¬ (same b (fixed (decide (o=16)))||same a (fixed (decide (o=16))))=true:=by rw [Bool.or_comm];exact c1
   rw [if_neg c1,if_neg c1']
   by_cases c2:same a (fixed (decide (o=15)))=true
   . by_cases c3:same b (fixed (decide (o=15)))=true
     . rw [if_pos c2,if_pos c3,Uy ha (Qf _) c2,Uy hb (Qf _) c3]
     . rw [if_pos c2,if_neg c3,if_pos (by simp [c2])]
   . by_cases c3:same b (fixed (decide (o=15)))=true
     . rw [if_neg c2,if_pos (by simp [c3]),if_pos c3]
     . by_cases c4:same a b=true
       . rw [if_neg c2,if_pos (by simp [c4]),if_neg c3,if_pos (by simp [Ux b a,c4]),Uy ha hb c4]
       . rw [if_neg c2,if_neg (by simp [c3,c4]),if_neg c3,if_neg (by simp [Ux b a,c2,c4])]
         exact Nj o ha hb
theorem Sk {o:Int} {a b:Tr} (ho:o=9\/o=10) (ha:Kq a) (hb:Kq b) (h3a:a.op≠3) (h3b:b.op≠3):Dg o a b=Dg o b a:=by
 unfold Dg
 by_cases c1:((value a).2&&(value b).2)=true
 . have c1':((value b).2&&(value a).2)=true:=by rw [Bool.and_comm];exact c1
   have e:decide ((value a).1=(value b).1)=decide ((value b).1=(value a).1):=by
    rw [decide_eq_decide]
    exact eq_comm
   rw [if_pos c1,if_pos c1',e]
   rcases ho with rfl|rfl<;>rfl
 . have c1':¬ ((value b).2&&(value a).2)=true:=by rw [Bool.and_comm];exact c1
   rw [if_neg c1,if_neg c1']
   by_cases c2:same a b=true
   . have c2':same b a=true:=by rw [Ux];exact c2
     rw [if_pos c2,if_pos c2']
   . have c2':¬ same b a=true:=by rw [Ux];exact c2
     rw [if_neg c2,if_neg c2']
     have h1:((decide (o=9)||decide (o=10))&&!decide (b.op=3))=true:=by
      rcases ho with rfl|rfl<;>simp [h3b]
     have h2:((decide (o=9)||decide (o=10))&&!decide (a.op=3))=true:=by
      rcases ho with rfl|rfl<;>simp [h3a]
     rw [if_pos h1,if_pos h2]
     exact Nj o ha hb
def NFt:Tr->Prop
 |.two o _ _=>o=9\/o=10\/o=11\/o=12\/o=15\/o=16
 |.one o x=>o=17/\∃p a b,x=.two p a b/\(p=15\/p=16)
 |_=>False
theorem AuK {a b:Tr} (h:same a b=true):hd a=hd b:=by
 rw [Mq,decide_eq_true_eq] at h
 obtain ⟨p,hp⟩:=Wm a
 obtain ⟨q,hq⟩:=Wm b
 rw [hp,hq] at h
 have:=(List.append_inj' h rfl).2
 simpa using this
theorem Pj {a b:Tr} (h:(hd a).op≠(hd b).op):same a b=false:=by
 cases hs:same a b with
 |false=>rfl
 |true=>exact absurd (congrArg Nd.op (AuK hs)) h
theorem Mg (b:Bool):(hd (fixed b)).op=if b then 9 else 10:=by cases b<;>rfl
theorem Aez (a b:Tr):same (.two 9 a b) (fixed true)=same (.two 10 a b) (fixed false):=by
 rw [Mq,Mq,decide_eq_decide]
 constructor
 . intro h
   have h1:(a.nodes++b.nodes)++[(⟨9,0,[]⟩:Nd)]=((num 0).nodes++(num 0).nodes)++[⟨9,0,[]⟩]:=h
   have h2:=(List.append_inj' h1 rfl).1
   show (a.nodes++b.nodes)++[(⟨10,0,[]⟩:Nd)]=((num 0).nodes++(num 0).nodes)++[⟨10,0,[]⟩]
   rw [h2]
 . intro h
   have h1:(a.nodes++b.nodes)++[(⟨10,0,[]⟩:Nd)]=((num 0).nodes++(num 0).nodes)++[⟨10,0,[]⟩]:=h
   have h2:=(List.append_inj' h1 rfl).1
   show (a.nodes++b.nodes)++[(⟨9,0,[]⟩:Nd)]=((num 0).nodes++(num 0).nodes)++[⟨9,0,[]⟩]
   rw [h2]
theorem Q8 (b:Bool):Jl (fixed b)=fixed (!b):=by cases b<;>rfl
theorem H4 {o:Int} {a b:Tr} (h1:same (.two o a b) (fixed true)=false) (h2:same (.two o a b) (fixed false)=false):
 Jl (.two o a b)=if o=9 then .two 10 a b else if o=10 then .two 9 a b else if o=11 then .two 12 b a else if o=12 then .two 11 b a else .one 17 (.two o a b):=by
 unfold Jl
 rw [h1,h2]
 rfl
theorem AcT {o:Int} {a:Tr} (h:o≠9/\o≠10):Jl (.one o a)=if o=17 then a else .one 17 (.one o a):=by
 unfold Jl
 rw [Pj (a:=.one o a) (b:=fixed true) (by rw [Mg];exact h.1),Pj (a:=.one o a) (b:=fixed false) (by rw [Mg];exact h.2)]
 rfl
theorem E7 {o:Int} {a b:Tr} (h:o≠9/\o≠10):same (.two o a b) (fixed true)=false/\same (.two o a b) (fixed false)=false:=
 ⟨Pj (by rw [Mg];exact h.1),Pj (by rw [Mg];exact h.2)⟩
theorem AnE:∀{y:Tr},NFt y->Kq y->Jl (Jl y)=y
 |.leaf _,h,_=>h.elim
 |.three _ _ _,h,_=>h.elim
 |.one o x,h,_=>by
  obtain ⟨rfl,p,a,b,rfl,hp⟩:=h
  rw [AcT (by decide),if_pos rfl]
  have h1:p≠9/\p≠10:=by omega
  rw [H4 (E7 h1).1 (E7 h1).2,if_neg h1.1,if_neg h1.2,if_neg (by omega),if_neg (by omega)]
 |.two o a b,h,hr=>by
  rcases h with rfl|rfl|rfl|rfl|h
  . cases hs:same (.two 9 a b) (fixed true) with
    |true=>rw [Uy hr (Qf _) hs,Q8,Q8];rfl
    |false=>
     have e1:same (.two 9 a b) (fixed false)=false:=Pj (by rw [Mg];simp [hd])
     have e2:same (.two 10 a b) (fixed true)=false:=Pj (by rw [Mg];simp [hd])
     rw [H4 hs e1,if_pos rfl,H4 e2 (by rw [<- Aez];exact hs)]
     rfl
  . cases hs:same (.two 10 a b) (fixed false) with
    |true=>rw [Uy hr (Qf _) hs,Q8,Q8];rfl
    |false=>
     have e1:same (.two 10 a b) (fixed true)=false:=Pj (by rw [Mg];simp [hd])
     have e2:same (.two 9 a b) (fixed false)=false:=Pj (by rw [Mg];simp [hd])
     rw [H4 e1 hs,if_neg (by decide),if_pos rfl,H4 (by rw [Aez];exact hs) e2]
     rfl
  . rw [H4 (E7 (by decide)).1 (E7 (by decide)).2]
    show Jl (.two 12 b a)=_
    rw [H4 (E7 (by decide)).1 (E7 (by decide)).2]
    rfl
  . rw [H4 (E7 (by decide)).1 (E7 (by decide)).2]
    show Jl (.two 11 b a)=_
    rw [H4 (E7 (by decide)).1 (E7 (by decide)).2]
    rfl
  . have h1:o≠9/\o≠10:=by omega
    rw [H4 (E7 h1).1 (E7 h1).2,if_neg h1.1,if_neg h1.2,if_neg (by omega),if_neg (by omega),AcT (by decide),if_pos rfl]
def NFn:Tr->Prop
 |.leaf x=>(x.op=1/\x.Zn=[])\/x.op=2
 |.one o x=>o=7/\((∃n,x=num n/\0<n/\n<=1000000000)\/((value x).2=false/\x.op≠7/\NFn x))
 |.two o _ _=>o=4\/o=5\/o=6
 |.three _ _ _=>True
theorem Az0:∀{y:Tr},NFn y->y.op≠3
 |.leaf x,h=>by rcases h with ⟨h,_⟩|h<;>(show x.op≠3;omega)
 |.one o x,h=>by obtain ⟨rfl,_⟩:=h;simp [Tr.op]
 |.two o _ _,h=>by rcases h with rfl|rfl|rfl<;>simp [Tr.op]
 |.three _ _ _,_=>by simp [Tr.op]
theorem AeL {v:Int} {t:Tr} (h:constant v=some t):NFn t:=by
 unfold constant at h
 split at h
 . cases h
 . split at h
   . cases h
     exact ⟨rfl,.inl ⟨_,rfl,by omega,by omega⟩⟩
   . cases h
     exact .inl ⟨rfl,rfl⟩
theorem AeZ (n:Int) (h1:0<=n) (h2:n<=1000000000):value (num n)=(n,true):=by simp [value,num,h1,h2]
theorem U3 (n:Int) (h1:0<n) (h2:n<=1000000000):value (.one 7 (num n))=(-n,true):=by
 have h3:0<=n:=by omega
 simp [value,num,Tr.op,h1,h2,h3]
theorem Aep (n:Int) (h1:0<=n) (h2:n<=1000000000):constant n=some (num n):=by
 unfold constant
 rw [if_neg (by omega),if_neg (by omega)]
theorem Aeo (n:Int) (h1:0<n) (h2:n<=1000000000):constant (-n)=some (.one 7 (num n)):=by
 unfold constant
 rw [if_neg (by omega),if_pos (by omega),Int.neg_neg]
theorem Qd {a:Tr} {v:Int} {t:Tr} (h:value a=(v,true)) (hc:constant (-v)=some t):neg a=t:=by
 unfold neg
 rw [h]
 simp [hc]
def A4L:Tr->Tr
 |.one o x=>if o=7 then x else .one 7 (.one o x)
 |a=>.one 7 a
theorem Ig {a:Tr} (h:(value a).2=false):neg a=A4L a:=by
 unfold neg
 rw [h]
 cases a<;>rfl
theorem An8:∀{y:Tr},NFn y->(value y).2=true->(∃n,y=num n/\0<=n/\n<=1000000000)\/∃n,y=.one 7 (num n)/\0<n/\n<=1000000000
 |.leaf x,h,hv=>by
  obtain ⟨o,n,c⟩:=x
  simp [value] at hv
  rcases h with ⟨_,h⟩|h
  . simp only at h
    subst h
    obtain ⟨⟨h1,h2⟩,h3⟩:=hv
    subst h1
    exact .inl ⟨n,rfl,h2,h3⟩
  . simp only at h
    omega
 |.one o x,h,hv=>by
  obtain ⟨rfl,⟨n,rfl,h1,h2⟩|⟨h1,_⟩⟩:=h
  . exact .inr ⟨n,rfl,h1,h2⟩
  . simp [value,h1] at hv
 |.two _ _ _,_,hv=>by cases hv
 |.three _ _ _,_,hv=>by cases hv
theorem Aot {x:Tr} (o:Int) (h:(value x).2=false):(value (.one o x)).2=false:=by simp [value,h]
theorem Aut {x:Tr} (h:(value x).2=false) (h7:x.op≠7):neg x=.one 7 x:=by
 rw [Ig h]
 cases x with
 |one o z=>
  have:o≠7:=h7
  simp [A4L,this]
 |_=>rfl
theorem neg_neg:∀{y:Tr},NFn y->neg (neg y)=y:=by
 intro y h
 cases hv:(value y).2 with
 |true=>
  rcases An8 h hv with ⟨n,rfl,h1,h2⟩|⟨n,rfl,h1,h2⟩
  . rcases Int.lt_or_eq_of_le h1 with h3|h3
    . rw [Qd (AeZ n h1 h2) (Aeo n h3 h2)]
      exact Qd (U3 n h3 h2) (by rw [Int.neg_neg];exact Aep n h1 h2)
    . subst h3
      rfl
  . rw [Qd (U3 n h1 h2) (by rw [Int.neg_neg];exact Aep n (by omega) h2)]
    exact Qd (AeZ n (by omega) h2) (Aeo n h1 h2)
 |false=>
  have back:∀z:Tr,(value z).2=false->neg (.one 7 z)=z:=λz hz=>by
   rw [Ig (Aot 7 hz)]
   rfl
  cases y with
  |leaf x=>rw [Ig hv];exact back _ hv
  |two o a b=>rw [Ig hv];exact back _ hv
  |three c a b=>rw [Ig hv];exact back _ hv
  |one o x=>
   obtain ⟨rfl,⟨n,rfl,h1,h2⟩|⟨h1,h2,h3⟩⟩:=h
   . rw [U3 n h1 h2] at hv
     cases hv
   . rw [back x h1]
     exact Aut h1 h2
theorem AlY {y:Tr} (h:NFn y):NFn (neg y):=by
 cases hv:(value y).2 with
 |true=>
  have hs:=Jx y hv
  have hc:=ApI (v:=-(value y).1) (by omega) (by omega)
  cases hk:constant (-(value y).1) with
  |none=>rw [hk] at hc;cases hc
  |some t=>
   have:value y=((value y).1,true):=by rw [<- hv]
   rw [Qd this hk]
   exact AeL hk
 |false=>
  cases y with
  |one o x=>
   obtain ⟨rfl,⟨n,rfl,h1,h2⟩|⟨h1,h2,h3⟩⟩:=h
   . rw [U3 n h1 h2] at hv
     cases hv
   . rw [Ig hv]
     exact h3
  |leaf x=>rw [Ig hv];exact ⟨rfl,.inr ⟨hv,by rcases h with ⟨h,_⟩|h<;>(show x.op≠7;omega),h⟩⟩
  |two o a b=>rw [Ig hv];exact ⟨rfl,.inr ⟨hv,by rcases h with rfl|rfl|rfl<;>simp [Tr.op],h⟩⟩
  |three c a b=>rw [Ig hv];exact ⟨rfl,.inr ⟨hv,by simp [Tr.op],h⟩⟩
def Wd:Tr->Tr->Prop
 |.leaf x,.leaf y=>(x.op=2/\x.n=0)/\y.op=3/\y.n=0
 |_,_=>False
def Ty:Bool->Tr->Prop
 |b,.leaf x=>b=false/\((x.op=1/\x.Zn=[])\/x.op=2/\x.n=0)
 |b,.one o a=>(b=false/\o=7/\Ty false a)\/(b=true/\o=17/\Ty true a)
 |b,.two o a c=>(b=false/\(o=4\/o=5\/o=6)/\Ty false a/\Ty false c)\/(b=true/\(9<=o/\o<=14)/\Ty false a/\Ty false c)\/(b=true/\(o=9\/o=10)/\Wd a c)\/(b=true/\(o=15\/o=16)/\Ty true a/\Ty true c)
 |b,.three p a c=>b=false/\Ty true p/\Ty false a/\Ty false c
theorem Pr:∀{a c:Tr},Wd a c->∃x y,a=.leaf x/\c=.leaf y/\x.op=2/\y.op=3
 |.leaf x,.leaf y,h=>⟨x,y,rfl,rfl,h.1.1,h.2.1⟩
 |.leaf _,.one _ _,h=>h.elim
 |.leaf _,.two _ _ _,h=>h.elim
 |.leaf _,.three _ _ _,h=>h.elim
 |.one _ _,_,h=>h.elim
 |.two _ _ _,_,h=>h.elim
 |.three _ _ _,_,h=>h.elim
theorem Mx:∀{t:Tr} {b:Bool},Ty b t->Kq t
 |.leaf x,b,h=>by obtain ⟨_,⟨h,_⟩|h⟩:=h<;>(constructor<;>omega)
 |.one o a,b,h=>by
  rcases h with ⟨_,h1,h2⟩|⟨_,h1,h2⟩
  . exact ⟨.inl h1,Mx h2⟩
  . exact ⟨.inr h1,Mx h2⟩
 |.two o a c,b,h=>by
  rcases h with ⟨_,h1,h2,h3⟩|⟨_,h1,h2,h3⟩|⟨_,h1,h2⟩|⟨_,h1,h2,h3⟩
  . exact ⟨by omega,Mx h2,Mx h3⟩
  . exact ⟨by omega,Mx h2,Mx h3⟩
  . obtain ⟨x,y,rfl,rfl,h3,h4⟩:=Pr h2
    exact ⟨by omega,⟨by omega,by omega⟩,⟨by omega,by omega⟩⟩
  . exact ⟨by omega,Mx h2,Mx h3⟩
 |.three p a c,b,h=>⟨Mx h.2.1,Mx h.2.2.1,Mx h.2.2.2⟩
theorem Arr {o:Int} {a b:Tr} (ho:o=4\/o=5\/o=6) (ha:NFn a) (hb:NFn b):NFn (Mw o a b):=by
 unfold Mw
 split
 . rename_i t ht
   unfold arith at ht
   split at ht
   . exact AeL ht
   . cases ht
 . repeat' split
   all_goals first
    |exact ha
    |exact hb
    |exact .inl ⟨rfl,rfl⟩
    |exact AlY hb
    |(show _\/_;omega)
    |(unfold ordered;split<;>(show _\/_;omega))
theorem Qe (b:Bool):NFt (fixed b):=by cases b<;>simp [fixed,NFt]
theorem AaO {o:Int} {a b:Tr} (ho:o=9\/o=10\/o=11\/o=12\/o=15\/o=16):NFt (ordered o a b):=by
 unfold ordered
 split<;>exact ho
theorem An9 {o:Int} {a b:Tr} (ho:o=15\/o=16) (ha:NFt a) (hb:NFt b):NFt (Kg o a b):=by
 unfold Kg
 repeat' split
 . exact Qe _
 . exact hb
 . exact ha
 . exact AaO (by omega)
theorem Px {o:Int} {a b:Tr} (ho:9<=o/\o<=12):NFt (Dg o a b):=by
 unfold Dg
 by_cases c1:((value a).2&&(value b).2)=true
 . rw [if_pos c1]
   exact Qe _
 . rw [if_neg c1]
   by_cases c2:same a b=true
   . rw [if_pos c2]
     exact Qe _
   . rw [if_neg c2]
     split
     . exact AaO (by omega)
     . show _\/_
       omega
theorem Yg {o:Int} {a b:Tr} (ho:9<=o/\o<=14):NFt (Ek o a b):=by
 unfold Ek
 split
 . exact Px (by decide)
 . split
   . exact Px (by decide)
   . exact Px (by omega)
theorem Ars:∀{y:Tr},NFt y->NFt (Jl y)
 |.leaf _,h=>h.elim
 |.three _ _ _,h=>h.elim
 |.one o x,h=>by
  obtain ⟨rfl,p,a,b,rfl,hp⟩:=h
  rw [AcT (by decide),if_pos rfl]
  show _\/_
  omega
 |.two o a b,h=>by
  cases h1:same (.two o a b) (fixed true) with
  |true=>
   unfold Jl
   rw [if_pos h1]
   exact Qe _
  |false=>
   cases h2:same (.two o a b) (fixed false) with
   |true=>
    unfold Jl
    rw [if_neg (by rw [h1];decide),if_pos h2]
    exact Qe _
   |false=>
    rw [H4 h1 h2]
    have h3:o=9\/o=10\/o=11\/o=12\/o=15\/o=16:=h
    repeat' split
    . exact .inr (.inl rfl)
    . exact .inl rfl
    . exact .inr (.inr (.inr (.inl rfl)))
    . exact .inr (.inr (.inl rfl))
    . exact ⟨rfl,o,a,b,rfl,by omega⟩
theorem An7 {c a b:Tr} (ha:NFn a) (hb:NFn b):NFn (three c a b):=by
 unfold three
 repeat' split
 . exact ha
 . exact hb
 . trivial
theorem Oi:∀{t:Tr} {b:Bool},Ty b t->(b=false->NFn (normal t))/\(b=true->NFt (normal t))
 |.leaf x,b,h=>⟨λ_=>h.2.imp (λa=>a) (λa=>a.1),λhb=>by rw [h.1] at hb;cases hb⟩
 |.one o a,b,h=>by
  rcases h with ⟨rfl,rfl,h2⟩|⟨rfl,rfl,h2⟩
  . exact ⟨λ_=>AlY ((Oi h2).1 rfl),λhb=>by cases hb⟩
  . exact ⟨λhb=>(by cases hb),λ_=>Ars ((Oi h2).2 rfl)⟩
 |.two o a c,b,h=>by
  rcases h with ⟨rfl,h1,h2,h3⟩|⟨rfl,h1,h2,h3⟩|⟨rfl,h1,h2⟩|⟨rfl,h1,h2,h3⟩
  . refine ⟨λ_=>?_,λhb=>by cases hb⟩
    show NFn (L0 o _ _)
    unfold L0
    rw [if_pos h1]
    exact Arr h1 ((Oi h2).1 rfl) ((Oi h3).1 rfl)
  . refine ⟨λhb=>by (cases hb),λ_=>?_⟩
    show NFt (L0 o _ _)
    unfold L0
    rw [if_neg (by omega),if_neg (by omega)]
    exact Yg h1
  . refine ⟨λhb=>by (cases hb),λ_=>?_⟩
    show NFt (L0 o _ _)
    unfold L0
    rw [if_neg (by omega),if_neg (by omega)]
    exact Yg (by omega)
  . refine ⟨λhb=>by (cases hb),λ_=>?_⟩
    show NFt (L0 o _ _)
    unfold L0
    rw [if_neg (by omega),if_pos h1]
    exact An9 h1 ((Oi h2).2 rfl) ((Oi h3).2 rfl)
 |.three p a c,b,h=>by
  obtain ⟨rfl,h1,h2,h3⟩:=h
  exact ⟨λ_=>An7 ((Oi h2).1 rfl) ((Oi h3).1 rfl),λhb=>by cases hb⟩
theorem Aw4 {t:Tr} (h:Ty false t):(normal t).op≠3:=Az0 ((Oi h).1 rfl)
theorem Agm {t:Tr} {b:Bool} (h:Ty b t):Kq (normal t):=(Hi t (Mx h)).1
def Aff (o o':Int):Prop:=(o=o'/\(o=4\/o=6\/o=9\/o=10\/o=15\/o=16))\/(o=11/\o'=13)\/(o=13/\o'=11)\/(o=12/\o'=14)\/(o=14/\o'=12)
inductive Sw:Tr->Tr->Prop where
 |leaf (x:Nd):Sw (.leaf x) (.leaf x)
 |one {o:Int} {a a':Tr}:Sw a a'->Sw (.one o a) (.one o a')
 |word {o:Int} {a b:Tr}:Wd a b->Sw (.two o a b) (.two o a b)
 |two {o:Int} {a a' b b':Tr}:b.op≠3->Sw a a'->Sw b b'->Sw (.two o a b) (.two o a' b')
 |flip {o o':Int} {a a' b b':Tr}:b.op≠3->Aff o o'->Sw a a'->Sw b b'->Sw (.two o a b) (.two o' b' a')
 |three {p p' a a' b b':Tr}:Sw p p'->Sw a a'->Sw b b'->Sw (.three p a b) (.three p' a' b')
 |A4K {t t':Tr}:Ty false t->Sw t t'->Sw t (.one 7 (.one 7 t'))
 |A4Q {t t':Tr}:Ty true t->Sw t t'->Sw t (.one 17 (.one 17 t'))
theorem AnW {o o':Int} {a b:Tr} (hf:Aff o o') (ha:Kq a) (hb:Kq b) (h3:o=9\/o=10->a.op≠3/\b.op≠3):L0 o' b a=L0 o a b:=by
 unfold L0
 rcases hf with ⟨rfl,h⟩|⟨rfl,rfl⟩|⟨rfl,rfl⟩|⟨rfl,rfl⟩|⟨rfl,rfl⟩
 . rcases h with rfl|rfl|rfl|rfl|rfl|rfl
   . exact AeT (.inl rfl) hb ha
   . exact AeT (.inr rfl) hb ha
   . exact Sk (.inl rfl) hb ha (h3 (.inl rfl)).2 (h3 (.inl rfl)).1
   . exact Sk (.inr rfl) hb ha (h3 (.inr rfl)).2 (h3 (.inr rfl)).1
   . exact AcB hb ha
   . exact AcB hb ha
 all_goals rfl
theorem AuU {o o':Int} {a b:Tr} {k:Bool} (hf:Aff o o') (h3:b.op≠3) (h:Ty k (.two o a b)):Ty k (.two o' b a):=by
 rcases h with ⟨rfl,h1,h2,h4⟩|⟨rfl,h1,h2,h4⟩|⟨rfl,h1,h2⟩|⟨rfl,h1,h2,h4⟩
 . exact .inl ⟨rfl,by unfold Aff at hf;omega,h4,h2⟩
 . exact .inr (.inl ⟨rfl,by unfold Aff at hf;omega,h4,h2⟩)
 . obtain ⟨x,y,rfl,rfl,q1,q2⟩:=Pr h2
   exact absurd q2 h3
 . exact .inr (.inr (.inr ⟨rfl,by unfold Aff at hf;omega,h4,h2⟩))
theorem Asj {t t':Tr} (h:Sw t t'):∀k:Bool,Ty k t->Ty k t'/\normal t'=normal t:=by
 induction h with
 |leaf x=>exact λk hk=>⟨hk,rfl⟩
 |@one o a a' ha ih=>
  intro k hk
  rcases hk with ⟨rfl,rfl,h2⟩|⟨rfl,rfl,h2⟩
  . obtain ⟨q1,q2⟩:=ih _ h2
    exact ⟨.inl ⟨rfl,rfl,q1⟩,by simp only [normal,q2]⟩
  . obtain ⟨q1,q2⟩:=ih _ h2
    exact ⟨.inr ⟨rfl,rfl,q1⟩,by simp only [normal,q2]⟩
 |word hw=>exact λk hk=>⟨hk,rfl⟩
 |@two o a a' b b' h3 ha hb Rs ihb=>
  intro k hk
  rcases hk with ⟨rfl,h1,h2,h4⟩|⟨rfl,h1,h2,h4⟩|⟨rfl,h1,h2⟩|⟨rfl,h1,h2,h4⟩
  . obtain ⟨q1,q2⟩:=Rs _ h2
    obtain ⟨q3,q4⟩:=ihb _ h4
    exact ⟨.inl ⟨rfl,h1,q1,q3⟩,by simp only [normal,q2,q4]⟩
  . obtain ⟨q1,q2⟩:=Rs _ h2
    obtain ⟨q3,q4⟩:=ihb _ h4
    exact ⟨.inr (.inl ⟨rfl,h1,q1,q3⟩),by simp only [normal,q2,q4]⟩
  . obtain ⟨x,y,rfl,rfl,q1,q2⟩:=Pr h2
    exact absurd q2 h3
  . obtain ⟨q1,q2⟩:=Rs _ h2
    obtain ⟨q3,q4⟩:=ihb _ h4
    exact ⟨.inr (.inr (.inr ⟨rfl,h1,q1,q3⟩)),by simp only [normal,q2,q4]⟩
 |@flip o o' a a' b b' h3 hf ha hb Rs ihb=>
  intro k hk
  have key:∃j:Bool,Ty j a/\Ty j b/\(o=9\/o=10->j=false):=by
   rcases hk with ⟨rfl,h1,h2,h4⟩|⟨rfl,h1,h2,h4⟩|⟨rfl,h1,h2⟩|⟨rfl,h1,h2,h4⟩
   . exact ⟨false,h2,h4,λ_=>rfl⟩
   . exact ⟨false,h2,h4,λ_=>rfl⟩
   . obtain ⟨x,y,rfl,rfl,q1,q2⟩:=Pr h2
     exact absurd q2 h3
   . exact ⟨true,h2,h4,λhh=>by omega⟩
  obtain ⟨j,j1,j2,j3⟩:=key
  obtain ⟨q1,q2⟩:=Rs _ j1
  obtain ⟨q3,q4⟩:=ihb _ j2
  refine ⟨?_,?_⟩
  . have Z0:=AuU hf h3 hk
    rcases Z0 with ⟨rfl,h1,h2,h4⟩|⟨rfl,h1,h2,h4⟩|⟨rfl,h1,h2⟩|⟨rfl,h1,h2,h4⟩
    . exact .inl ⟨rfl,h1,(ihb _ h2).1,(Rs _ h4).1⟩
    . exact .inr (.inl ⟨rfl,h1,(ihb _ h2).1,(Rs _ h4).1⟩)
    . obtain ⟨x,y,rfl,rfl,p1,p2⟩:=Pr h2
      exact absurd (show Ty j (.leaf y) from j1) (λhh=>by
       obtain ⟨_,⟨hh,_⟩|hh⟩:=hh<;>omega)
    . exact .inr (.inr (.inr ⟨rfl,h1,(ihb _ h2).1,(Rs _ h4).1⟩))
  . show L0 o' (normal b') (normal a')=L0 o (normal a) (normal b)
    rw [q2,q4]
    refine AnW hf (Agm j1) (Agm j2) λhh=>?_
    have:=j3 hh
    subst this
    exact ⟨Aw4 j1,Aw4 j2⟩
 |@three p p' a a' b b' hp ha hb ihp Rs ihb=>
  intro k hk
  obtain ⟨rfl,h1,h2,h3⟩:=hk
  obtain ⟨q1,q2⟩:=ihp _ h1
  obtain ⟨q3,q4⟩:=Rs _ h2
  obtain ⟨q5,q6⟩:=ihb _ h3
  exact ⟨⟨rfl,q1,q3,q5⟩,by simp only [normal,q2,q4,q6]⟩
 |@A4K t t' hn hs ih=>
  intro k hk
  have hkf:k=false:=by
   cases k with
   |false=>rfl
   |true=>
    have h1:=(Oi hn).1 rfl
    have h2:=(Oi hk).2 rfl
    exfalso
    cases hq:normal t with
    |leaf x=>rw [hq] at h2;exact h2
    |three c a b=>rw [hq] at h2;exact h2
    |one o x=>rw [hq] at h1 h2;have a1:=h1.1;have a2:=h2.1;omega
    |two o a b=>
     rw [hq] at h1 h2
     have a1:o=4\/o=5\/o=6:=h1
     have a2:o=9\/o=10\/o=11\/o=12\/o=15\/o=16:=h2
     omega
  subst hkf
  obtain ⟨q1,q2⟩:=ih _ hk
  refine ⟨.inl ⟨rfl,rfl,.inl ⟨rfl,rfl,q1⟩⟩,?_⟩
  show neg (neg (normal t'))=_
  rw [q2]
  exact neg_neg ((Oi hk).1 rfl)
 |@A4Q t t' hn hs ih=>
  intro k hk
  have hkt:k=true:=by
   cases k with
   |true=>rfl
   |false=>
    have h1:=(Oi hk).1 rfl
    have h2:=(Oi hn).2 rfl
    exfalso
    cases hq:normal t with
    |leaf x=>rw [hq] at h2;exact h2
    |three c a b=>rw [hq] at h2;exact h2
    |one o x=>rw [hq] at h1 h2;have a1:=h1.1;have a2:=h2.1;omega
    |two o a b=>
     rw [hq] at h1 h2
     have a1:o=4\/o=5\/o=6:=h1
     have a2:o=9\/o=10\/o=11\/o=12\/o=15\/o=16:=h2
     omega
  subst hkt
  obtain ⟨q1,q2⟩:=ih _ hk
  refine ⟨.inr ⟨rfl,rfl,.inr ⟨rfl,rfl,q1⟩⟩,?_⟩
  show Jl (Jl (normal t'))=_
  rw [q2]
  exact AnE ((Oi hk).2 rfl) (Agm hk)
def arI (o:Int):Int:=if o=1\/o=2\/o=3 then 0 else if o=7\/o=17 then 1 else if o=8 then 3 else 2
def flI (o:Int):Int:=if o=4\/o=6\/o=15\/o=16\/o=9\/o=10 then o else if o=11 then 13 else if o=13 then 11 else if o=12 then 14 else if o=14 then 12 else 0
theorem Ahv {o:Int} (hf:flI o≠0):Aff o (flI o):=by
 unfold flI at hf ⊢
 unfold Aff
 repeat' split at hf
 all_goals simp_all
 all_goals omega
def dbl (o:Int):Int:=if 9<=o then 17 else 7
def AwB (A:List (List Nd)) (x:Nd) (B:List Nd) (y:Nd):Prop:=
 (B=A.flatten/\y=x)\/∃a b z,A=[a,b]/\b.getLast?=some z/\z.op≠3/\flI x.op≠0/\B=b++a/\y=⟨flI x.op,x.n,x.Zn⟩
def Step (A:List (List Nd)) (x:Nd) (wd:Prop) (R:List Nd):Prop:=
 ∃B y,AwB A x B y/\(R=B++[y]\/(¬ wd/\y.op≠3/\R=B++[y]++[⟨dbl y.op,0,[]⟩,⟨dbl y.op,0,[]⟩]))
theorem Aud (t:Tr) {z:Nd} (h:t.nodes.getLast?=some z):z.op=t.op:=by
 obtain ⟨p,hp⟩:=Wm t
 rw [hp,List.getLast?_concat] at h
 cases h
 cases t<;>rfl
theorem Ast {b:Bool} {t:Tr} (h:Ty b t):dbl t.op=if b then 17 else 7:=by
 unfold dbl
 cases t with
 |leaf x=>
  obtain ⟨rfl,⟨q,_⟩|q⟩:=h
  . rw [if_neg (by show ¬ (9<=x.op);omega)];rfl
  . rw [if_neg (by show ¬ (9<=x.op);omega)];rfl
 |one o a=>
  rcases h with ⟨rfl,q,_⟩|⟨rfl,q,_⟩
  . rw [if_neg (by show ¬ (9<=o);omega)];rfl
  . rw [if_pos (by show (9<=o);omega)];rfl
 |two o a c=>
  rcases h with ⟨rfl,q,_⟩|⟨rfl,q,_⟩|⟨rfl,q,_⟩|⟨rfl,q,_⟩
  . rw [if_neg (by show ¬ (9<=o);omega)];rfl
  . rw [if_pos (by show (9<=o);omega)];rfl
  . rw [if_pos (by show (9<=o);omega)];rfl
  . rw [if_pos (by show (9<=o);omega)];rfl
 |three a c d=>rw [if_neg (by show ¬ ((9:Int)<=8);omega),h.1];rfl
theorem AxV {o:Int} (h:flI o≠0):dbl (flI o)=dbl o:=by
 have:=Ahv h
 unfold Aff at this
 unfold dbl
 split<;>split<;>omega
theorem Xk {b:Bool} {t u:Tr} {R:List Nd} (hb:Ty b t) (hs:Sw t u) (o:Int) (ho:dbl o=dbl t.op) (h:R=u.nodes\/R=u.nodes++[⟨dbl o,0,[]⟩,⟨dbl o,0,[]⟩]):
 ∃t',R=t'.nodes/\Sw t t'/\size t'<=size u+2:=by
 rcases h with rfl|rfl
 . exact ⟨u,rfl,hs,Nat.le_add_right ..⟩
 . rw [ho,Ast hb]
   cases b with
   |false=>exact ⟨.one 7 (.one 7 u),by simp [Tr.nodes],.A4K hb hs,by simp [size]⟩
   |true=>exact ⟨.one 17 (.one 17 u),by simp [Tr.nodes],.A4Q hb hs,by simp [size]⟩
theorem Aao {x:Nd} {R:List Nd} {wd:Prop} (h:Step [] x wd R):(wd\/x.op=3->R=[x])/\(∀b,Ty b (.leaf x)->∃t',R=t'.nodes/\Sw (.leaf x) t'/\size t'<=3):=by
 obtain ⟨B,y,hB|⟨a,b,z,q,_⟩,hR⟩:=h
 . obtain ⟨rfl,rfl⟩:=hB
   refine ⟨λhw=>?_,λb hb=>?_⟩
   . rcases hR with rfl|⟨q1,q2,_⟩
     . rfl
     . rcases hw with hw|hw
       . exact absurd hw q1
       . exact absurd hw q2
   . obtain ⟨t',a1,a2,a3⟩:=Xk (u:=.leaf y) hb (.leaf y) y.op rfl (R:=R) (by
      rcases hR with rfl|⟨_,_,rfl⟩
      . exact .inl rfl
      . exact .inr rfl)
     exact ⟨t',a1,a2,a3⟩
 . cases q
theorem Ash {b:Bool} {o:Int} {a a':Tr} {R:List Nd} {wd:Prop} (h:Step [a'.nodes] ⟨o,0,[]⟩ wd R) (ht:Ty b (.one o a)) (hs:Sw a a'):∃t',R=t'.nodes/\Sw (.one o a) t'/\size t'<=size a'+3:=by
 obtain ⟨B,y,hB|⟨a,b,z,q,_⟩,hR⟩:=h
 . obtain ⟨rfl,rfl⟩:=hB
   obtain ⟨t',a1,a2,a3⟩:=Xk (u:=.one o a') ht (.one hs) o rfl (R:=R) (by
    rcases hR with rfl|⟨_,_,rfl⟩
    . exact .inl (by simp [Tr.nodes])
    . exact .inr (by simp [Tr.nodes]))
   exact ⟨t',a1,a2,by simp only [size] at a3;omega⟩
 . cases q
theorem AkG {b:Bool} {p a c p' a' c':Tr} {R:List Nd} {wd:Prop} (h:Step [p'.nodes,a'.nodes,c'.nodes] ⟨8,0,[]⟩ wd R) (ht:Ty b (.three p a c)) (h1:Sw p p') (h2:Sw a a') (h3:Sw c c'):∃t',R=t'.nodes/\Sw (.three p a c) t'/\size t'<=size p'+size a'+size c'+3:=by
 obtain ⟨B,y,hB|⟨a,b,z,q,_⟩,hR⟩:=h
 . obtain ⟨rfl,rfl⟩:=hB
   obtain ⟨t',a1,a2,a3⟩:=Xk (u:=.three p' a' c') ht (.three h1 h2 h3) 8 rfl (R:=R) (by
    rcases hR with rfl|⟨_,_,rfl⟩
    . exact .inl (by simp [Tr.nodes])
    . exact .inr (by simp [Tr.nodes]))
   exact ⟨t',a1,a2,by simp only [size] at a3;omega⟩
 . simp at q
theorem Asi {b:Bool} {o:Int} {a c a' c':Tr} {R:List Nd} {wd:Prop} (h:Step [a'.nodes,c'.nodes] ⟨o,0,[]⟩ wd R) (ht:Ty b (.two o a c)) (hs:(Wd a c/\a'=a/\c'=c)\/(c.op≠3/\Sw a a'/\Sw c c')):∃t',R=t'.nodes/\Sw (.two o a c) t'/\size t'<=size a'+size c'+3:=by
 obtain ⟨B,y,hB|⟨a2,b2,z,q,q2,q3,q4,rfl,rfl⟩,hR⟩:=h
 . obtain ⟨rfl,rfl⟩:=hB
   have hu:Sw (.two o a c) (.two o a' c'):=by
    rcases hs with ⟨h1,rfl,rfl⟩|⟨h1,h2,h3⟩
    . exact .word h1
    . exact .two h1 h2 h3
   obtain ⟨t',a1,a2,a3⟩:=Xk (u:=.two o a' c') ht hu o rfl (R:=R) (by
    rcases hR with rfl|⟨_,_,rfl⟩
    . exact .inl (by simp [Tr.nodes])
    . exact .inr (by simp [Tr.nodes]))
   exact ⟨t',a1,a2,by simp only [size] at a3;omega⟩
 . simp only [List.cons.injEq,and_true] at q
   obtain ⟨rfl,rfl⟩:=q
   have h3:=Aud c' q2
   simp only at q4 hR
   rcases hs with ⟨h1,rfl,rfl⟩|⟨h1,h2,h4⟩
   . obtain ⟨x,y,rfl,rfl,_,h5⟩:=Pr h1
     exact absurd (h3.trans h5) q3
   . obtain ⟨t',a1,a2,a3⟩:=Xk (u:=.two (flI o) c' a') ht (.flip h1 (Ahv q4) h2 h4) (flI o) (AxV q4) (R:=R) (by
      rcases hR with rfl|⟨_,_,rfl⟩
      . exact .inl (by simp [Tr.nodes])
      . exact .inr (by simp [Tr.nodes]))
     exact ⟨t',a1,a2,by simp only [size] at a3;omega⟩
theorem Oj {b:Bool} {t:Tr} (h:Ty b t):F4 t=b:=by
 have:=Ast h
 unfold dbl at this
 unfold F4
 by_cases h9:9<=t.op
 . rw [if_pos h9] at this
   rw [decide_eq_true h9]
   cases b
   . cases this
   . rfl
 . rw [if_neg h9] at this
   rw [decide_eq_false h9]
   cases b
   . rfl
   . cases this
theorem Agb (st ts:List Tr) (bs:List Bool) (h:ts.map F4=bs):Gf (st++ts) bs=some (st,ts):=by
 subst h
 unfold Gf
 rw [List.length_map,List.length_append,Nat.add_sub_cancel,List.drop_left,List.take_left]
 rw [if_pos ⟨by omega,rfl⟩]
theorem Aws (pre post:List Nd) (x:Nd):AcU (pre++x::post) pre.length=x.op:=by
 unfold AcU
 simp
theorem Jf {l:List Nd} {st U0:List Tr} {i:Nat} {x:Nd} {rest:List Nd} (h1:Qt x=false) (h2:Ou l i x=false) (h3:Fa st x=some U0):Dm l st i (x::rest)=Dm l U0 (i+1) rest:=by
 show (if (Qt x||Ou l i x)=true then none else match Fa st x with|some U0=>Dm l U0 (i+1) rest|none=>none)=_
 rw [h1,h2,h3]
 rfl
theorem Abv {o:Int} (h:1<=o) (h2:o<=17):Qt ⟨o,0,[]⟩=false:=by
 have e1:decide (o<1)=false:=decide_eq_false (by omega)
 have e2:decide (17<o)=false:=decide_eq_false (by omega)
 simp [Qt,e1,e2]
theorem Uh {l:List Nd} {i:Nat} {x:Nd} (h:x.op≠3):Ou l i x=false:=by simp [Ou,h]
theorem Jg:∀(t:Tr) (k:Bool),Ty k t->∀(l pre post:List Nd) (st:List Tr),l=pre++(t.nodes++post)->Dm l st pre.length (t.nodes++post)=Dm l (st++[t]) (pre++t.nodes).length post
 |.leaf x,k,ht,l,pre,post,st,hl=>by
  obtain ⟨_,h⟩:=ht
  have h1:Qt x=false:=by
   rcases h with ⟨h1,h2⟩|⟨h1,h2⟩<;>simp [Qt,h1,h2]
  have h3:x.op≠3:=by rcases h with ⟨h1,_⟩|⟨h1,_⟩<;>omega
  have h4:Fa st x=some (st++[.leaf x]):=by
   unfold Fa
   rw [if_pos (by rcases h with ⟨h1,_⟩|⟨h1,_⟩<;>omega)]
  show Dm l st pre.length (x::post)=_
  rw [Jf h1 (Uh h3) h4]
  simp [Tr.nodes]
 |.one o a,k,ht,l,pre,post,st,hl=>by
  obtain ⟨j,ta,ho⟩:∃j,Ty j a/\((o=7/\j=false)\/(o=17/\j=true)):=by
   rcases ht with ⟨_,h1,h2⟩|⟨_,h1,h2⟩
   . exact ⟨_,h2,.inl ⟨h1,rfl⟩⟩
   . exact ⟨_,h2,.inr ⟨h1,rfl⟩⟩
  have h0:=Jg a j ta l pre (⟨o,0,[]⟩::post) st (by rw [hl];simp [Tr.nodes])
  have e:(Tr.one o a).nodes++post=a.nodes++(⟨o,0,[]⟩::post):=by simp [Tr.nodes]
  rw [e,h0]
  have h4:Fa (st++[a]) ⟨o,0,[]⟩=some (st++[.one o a]):=by
   unfold Fa
   rw [if_neg (by show ¬ (o<=3);omega),if_pos (by show o=7\/o=17;omega),Agb st [a] _ (by
    rw [List.map_cons,List.map_nil,Oj ta]
    rcases ho with ⟨rfl,rfl⟩|⟨rfl,rfl⟩<;>rfl)]
  rw [Jf (Abv (by omega) (by omega)) (Uh (by show o≠3;omega)) h4]
  simp [Tr.nodes]
  rfl
 |.three p a c,k,ht,l,pre,post,st,hl=>by
  obtain ⟨_,tp,ta,tc⟩:=ht
  have h0:=Jg p true tp l pre (a.nodes++(c.nodes++(⟨8,0,[]⟩::post))) st (by rw [hl];simp [Tr.nodes])
  have h1:=Jg a false ta l (pre++p.nodes) (c.nodes++(⟨8,0,[]⟩::post)) (st++[p]) (by rw [hl];simp [Tr.nodes])
  have h2:=Jg c false tc l (pre++p.nodes++a.nodes) (⟨8,0,[]⟩::post) (st++[p]++[a]) (by rw [hl];simp [Tr.nodes])
  have e:(Tr.three p a c).nodes++post=p.nodes++(a.nodes++(c.nodes++(⟨8,0,[]⟩::post))):=by simp [Tr.nodes]
  rw [e,h0,h1,h2]
  have h4:Fa (st++[p]++[a]++[c]) ⟨8,0,[]⟩=some (st++[.three p a c]):=by
   unfold Fa
   rw [if_neg (by show ¬ ((8:Int)<=3);decide),if_neg (by show ¬ ((8:Int)=7\/(8:Int)=17);decide),if_pos rfl,show st++[p]++[a]++[c]=st++[p,a,c] by simp,Agb st [p,a,c] _ (by
    simp only [List.map_cons,List.map_nil,Oj tp,Oj ta,Oj tc])]
  rw [Jf (Abv (by omega) (by omega)) (Uh (by show (8:Int)≠3;decide)) h4]
  simp [Tr.nodes]
  rfl
 |.two o a c,k,ht,l,pre,post,st,hl=>by
  have hoo:4<=o/\o<=16/\o≠7/\o≠8:=by
   rcases ht with ⟨_,h,_⟩|⟨_,h,_⟩|⟨_,h,_⟩|⟨_,h,_⟩<;>omega
  have Lp:F4 a=(decide (o=15)||decide (o=16))->F4 c=(decide (o=15)||decide (o=16))->Fa (st++[a]++[c]) ⟨o,0,[]⟩=some (st++[.two o a c]):=by
   intro h1 h2
   unfold Fa
   rw [if_neg (by show ¬ (o<=3);omega),if_neg (by show ¬ (o=7\/o=17);omega),if_neg (by show ¬ (o=8);omega),show st++[a]++[c]=st++[a,c] by simp,Agb st [a,c] _ (by
    simp only [List.map_cons,List.map_nil,h1,h2])]
  have e:(Tr.two o a c).nodes++post=a.nodes++(c.nodes++(⟨o,0,[]⟩::post)):=by simp [Tr.nodes]
  have typed:∀j,Ty j a->Ty j c->j=(decide (o=15)||decide (o=16))->Dm l st pre.length ((Tr.two o a c).nodes++post)=Dm l (st++[.two o a c]) (pre++(Tr.two o a c).nodes).length post:=by
   intro j ta tc hj
   have h0:=Jg a j ta l pre (c.nodes++(⟨o,0,[]⟩::post)) st (by rw [hl];simp [Tr.nodes])
   have h1:=Jg c j tc l (pre++a.nodes) (⟨o,0,[]⟩::post) (st++[a]) (by rw [hl];simp [Tr.nodes])
   rw [e,h0,h1,Jf (Abv (by omega) (by omega)) (Uh (by show o≠3;omega)) (Lp (by rw [Oj ta];exact hj) (by rw [Oj tc];exact hj))]
   simp [Tr.nodes]
   rfl
  rcases ht with ⟨_,h,ta,tc⟩|⟨_,h,ta,tc⟩|⟨_,h,hw⟩|⟨_,h,ta,tc⟩
  . exact typed false ta tc (by
   have h1:o≠15:=by omega
   have h2:o≠16:=by omega
   simp [h1,h2])
  . exact typed false ta tc (by
   have h1:o≠15:=by omega
   have h2:o≠16:=by omega
   simp [h1,h2])
  . have hw2:=hw
    obtain ⟨x,y,rfl,rfl,hx,hy⟩:=Pr hw
    obtain ⟨⟨_,xn⟩,_,yn⟩:=hw2
    have b1:Qt x=false:=by simp [Qt,hx,xn]
    have b2:Qt y=false:=by simp [Qt,hy,yn]
    have b3:Ou l (pre.length+1) y=false:=by
     have e1:AcU l pre.length=2:=by
      rw [hl,show pre++((Tr.two o (.leaf x) (.leaf y)).nodes++post)=pre++x::(y::⟨o,0,[]⟩::post) by simp [Tr.nodes],Aws,hx]
     have e2:AcU l (pre.length+1+1)=o:=by
      have:=Aws (pre++[x,y]) post ⟨o,0,[]⟩
      rw [hl,show pre++((Tr.two o (.leaf x) (.leaf y)).nodes++post)=(pre++[x,y])++(⟨o,0,[]⟩::post) by simp [Tr.nodes]]
      simpa using this
     have e3:¬ l.length<=pre.length+1+1:=by rw [hl];simp [Tr.nodes];omega
     rcases h with rfl|rfl<;>simp [Ou,hy,e1,e2,e3]
    have a1:Fa st x=some (st++[.leaf x]):=by unfold Fa;rw [if_pos (by omega)]
    have a2:Fa (st++[.leaf x]) y=some (st++[.leaf x]++[.leaf y]):=by unfold Fa;rw [if_pos (by omega)]
    have tx:F4 (.leaf x)=false:=decide_eq_false (by show ¬ (9<=x.op);omega)
    have ty:F4 (.leaf y)=false:=decide_eq_false (by show ¬ (9<=y.op);omega)
    have hj:false=(decide (o=15)||decide (o=16)):=by
     have h1:o≠15:=by omega
     have h2:o≠16:=by omega
     simp [h1,h2]
    rw [show (Tr.two o (.leaf x) (.leaf y)).nodes++post=x::y::⟨o,0,[]⟩::post by simp [Tr.nodes],Jf b1 (Uh (by omega)) a1,Jf b2 b3 a2,Jf (Abv (by omega) (by omega)) (Uh (by show o≠3;omega)) (Lp (by rw [tx];exact hj) (by rw [ty];exact hj))]
    simp [Tr.nodes]
  . exact typed true ta tc (by rcases h with h|h<;>simp [h])
theorem Y3 {k:Bool} {t:Tr} (h:Ty k t):Je t.nodes k=some t:=by
 unfold Je
 have:=Jg t k h t.nodes [] [] [] (by simp)
 simp only [List.append_nil,List.length_nil,List.nil_append] at this
 rw [this]
 show (if F4 t=k then some t else none)=some t
 rw [if_pos (Oj h)]
end Go.Proofs
