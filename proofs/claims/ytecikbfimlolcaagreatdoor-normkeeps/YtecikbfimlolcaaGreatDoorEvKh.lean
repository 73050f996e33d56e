/- A stack machine over the nodes of a typed expression. -/
import Derived.Test.YtecikbfimlolcaaGreatDoorEvSa
set_option linter.all false
noncomputable section
namespace Go.Proofs
open Go Go.Ev Go.Nm
structure Dom where
 Zn:List Nat->Prop
 word:List Nat->List Nat->Prop
variable {D:Dom}
def WdC (D:Dom):Tr->Tr->Prop
 |.leaf x,.leaf y=>(x.op=2/\x.n=0/\D.Zn x.Zn)/\y.op=3/\y.n=0/\D.word x.Zn y.Zn
 |_,_=>False
def E7 (D:Dom):Bool->Tr->Prop
 |b,.leaf x=>b=false/\((x.op=1/\x.Zn=[]/\0<=x.n/\x.n<=1000000000)\/x.op=2/\x.n=0/\D.Zn x.Zn)
 |b,.one o a=>(b=false/\o=7/\E7 D false a)\/(b=true/\o=17/\E7 D true a)
 |b,.two o a c=>(b=false/\(o=4\/o=5\/o=6)/\E7 D false a/\E7 D false c)\/(b=true/\(9<=o/\o<=14)/\E7 D false a/\E7 D false c)\/(b=true/\(o=9\/o=10)/\WdC D a c)\/(b=true/\(o=15\/o=16)/\E7 D true a/\E7 D true c)
 |b,.three p a c=>b=false/\E7 D true p/\E7 D false a/\E7 D false c
theorem Agn:∀{a c},WdC D a c->∃x y,a=.leaf x/\c=.leaf y/\(x.op=2/\x.n=0/\D.Zn x.Zn)/\y.op=3/\y.n=0/\D.word x.Zn y.Zn
 |.leaf x,.leaf y,h=>⟨x,y,rfl,rfl,h⟩
 |.leaf _,.one ..,h=>h.elim
 |.leaf _,.two ..,h=>h.elim
 |.leaf _,.three ..,h=>h.elim
 |.one ..,_,h=>h.elim
 |.two ..,_,h=>h.elim
 |.three ..,_,h=>h.elim
theorem Abt:∀{t} {b},E7 D b t->Ty b t
 |.leaf x,b,⟨h,h1⟩=>⟨h,h1.imp (λa=>⟨a.1,a.2.1⟩) λa=>⟨a.1,a.2.1⟩⟩
 |.one o a,b,h=>h.imp (λh=>⟨h.1,h.2.1,Abt h.2.2⟩) λh=>⟨h.1,h.2.1,Abt h.2.2⟩
 |.two o a c,b,h=>by
  rcases h with ⟨h0,h1,h2,h3⟩|⟨h0,h1,h2,h3⟩|⟨h0,h1,h2⟩|⟨h0,h1,h2,h3⟩;. exact .inl ⟨h0,h1,Abt h2,Abt h3⟩
  . exact .inr (.inl ⟨h0,h1,Abt h2,Abt h3⟩)
  . obtain ⟨x,y,rfl,rfl,q1,q2⟩:=Agn h2;exact .inr (.inr (.inl ⟨h0,h1,⟨q1.1,q1.2.1⟩,q2.1,q2.2.1⟩))
  . exact .inr (.inr (.inr ⟨h0,h1,Abt h2,Abt h3⟩))
 |.three p a c,b,h=>⟨h.1,Abt h.2.1,Abt h.2.2.1,Abt h.2.2.2⟩
theorem AiX {t} {b} (h:E7 D b t):Kq t:=Mx (Abt h)
theorem Abe {t} {b} (h:E7 D b t):t.op≠3:=by cases t with
 |leaf x=>obtain ⟨_,h|h⟩:=h<;>(show x.op≠3;omega)
 |one o a=>rcases h with h|h<;>(show o≠3;omega)
 |two o a c=>rcases h with h|h|h|h<;>(show o≠3;omega)
 |three p a c=>show 8≠3;simp
theorem Acz {n} (h:0<=n) (h2:n<=1000000000):E7 D false (num n):=⟨rfl,.inl ⟨rfl,rfl,h,h2⟩⟩
theorem Ar9 {v} {t} (h:constant v=some t):E7 D false t:=by
 unfold constant at h;split at h;. grind
 . split at h;. cases h;exact .inl ⟨rfl,rfl,Acz om om⟩
   . cases h;exact Acz om om
theorem AaH b:E7 D true (fixed b):=by refine .inr (.inl ⟨rfl,?_,Acz om (by simp),Acz (by simp) om⟩);omega
theorem A0j {a} (h:E7 D false a):E7 D false (neg a):=by
 unfold neg;split
 . rename_i t ht;split at ht;. exact Ar9 ht
   simp_all
 . cases a with
   |one o x=>
    rcases h with ⟨_,rfl,h1⟩|⟨h1,_⟩;. grind
    grind
   |_=>exact .inl ⟨rfl,rfl,h⟩
theorem AfA {o} {a b} {k} (h:E7 D k (.two o a b)) (h2:E7 D k (.two o b a)):E7 D k (ordered o a b):=by unfold ordered;grind
theorem A6f {o:Int} {a b:Tr} (ho:o=4\/o=5\/o=6) (ha:E7 D false a) (hb:E7 D false b):E7 D false (Mw o a b):=by
 unfold Mw;split
 . rename_i t ht;unfold arith at ht;split at ht;. exact Ar9 ht
   . cases ht
 . repeat' split
   all_goals first
    |exact ha
    |exact hb
    |exact Acz (by decide) (by decide)
    |exact A0j hb
    |exact .inl ⟨rfl,ho,ha,hb⟩
    |exact AfA (.inl ⟨rfl,ho,ha,hb⟩) (.inl ⟨rfl,ho,hb,ha⟩)
theorem A0T {o} {a b} (ho:o=15\/o=16) (ha:E7 D true a) (hb:E7 D true b):E7 D true (Kg o a b):=by
 unfold Kg;repeat' split
 . exact AaH _
 . grind
 . omega
 . exact AfA (.inr (.inr (.inr ⟨rfl,ho,ha,hb⟩))) (.inr (.inr (.inr ⟨rfl,ho,hb,ha⟩)))
theorem Adx {o:Int} {a b:Tr} (ho:9<=o/\o<=14) (ha:E7 D false a) (hb:E7 D false b):E7 D true (Dg o a b):=by
 have h1:E7 D true (.two o a b):=.inr (.inl ⟨rfl,ho,ha,hb⟩)
 have h2:E7 D true (.two o b a):=.inr (.inl ⟨rfl,ho,hb,ha⟩)
 unfold Dg
 split
 . exact AaH _
 . split
   . exact AaH _
   . split
     . exact AfA h1 h2
     . exact h1
theorem Agt {o:Int} {a b:Tr} (ho:o=9\/o=10) (h:WdC D a b):Dg o a b=.two o a b:=by
 obtain ⟨x,y,rfl,rfl,⟨h1,h2,h3⟩,h4,h5,h6⟩:=Agn h
 have e1:(value (.leaf x)).2=false:=by simp [value,h1]
 have e2:same (.leaf x) (.leaf y)=false:=Pj (by simp [hd,h1,h4])
 have e3:(Tr.leaf y).op=3:=h4
 unfold Dg
 simp [e1,e2,e3]
theorem AiW {o:Int} {a b:Tr} (h:(9<=o/\o<=14)/\E7 D false a/\E7 D false b\/(o=9\/o=10)/\WdC D a b):E7 D true (Ek o a b):=by
 rcases h with ⟨ho,ha,hb⟩|⟨ho,hw⟩
 . unfold Ek
   split
   . exact Adx (by decide) hb ha
   . split
     . exact Adx (by decide) hb ha
     . exact Adx ho ha hb
 . unfold Ek
   rw [if_neg om,if_neg om,Agt ho hw]
   exact .inr (.inr (.inl ⟨rfl,ho,hw⟩))
theorem A6e {y:Tr} (h:E7 D true y):E7 D true (Jl y):=by
 unfold Jl
 split
 . exact AaH _
 . split
   . exact AaH _
   . cases y with
     |leaf x=>cases h.1
     |three _ _ _=>cases h.1
     |one o x=>
      rcases h with ⟨h1,_⟩|⟨_,rfl,h1⟩
      . cases h1
      . exact h1
     |two o a b=>
      simp only
      rcases h with ⟨h1,_⟩|⟨_,ho,ha,hb⟩|⟨_,ho,hw⟩|⟨_,ho,ha,hb⟩
      . cases h1
      . repeat' split
        all_goals first
         |exact .inr (.inl ⟨rfl,by omega,ha,hb⟩)
         |exact .inr (.inl ⟨rfl,by omega,hb,ha⟩)
         |exact .inr ⟨rfl,rfl,.inr (.inl ⟨rfl,ho,ha,hb⟩)⟩
      . repeat' split
        all_goals first
         |exact .inr (.inr (.inl ⟨rfl,by omega,hw⟩))
         |(exfalso;omega)
      . repeat' split
        all_goals first
         |(exfalso;omega)
         |exact .inr ⟨rfl,rfl,.inr (.inr (.inr ⟨rfl,ho,ha,hb⟩))⟩
theorem A0U {c a b:Tr} (hc:E7 D true c) (ha:E7 D false a) (hb:E7 D false b):E7 D false (three c a b):=by
 unfold three
 repeat' split
 . exact ha
 . exact hb
 . exact ⟨rfl,hc,ha,hb⟩
theorem Aaz:∀{t:Tr} {b:Bool},E7 D b t->E7 D b (normal t)
 |.leaf x,b,h=>h
 |.one o a,b,h=>by
  rcases h with ⟨rfl,rfl,h2⟩|⟨rfl,rfl,h2⟩
  . exact A0j (Aaz h2)
  . exact A6e (Aaz h2)
 |.two o a c,b,h=>by
  show E7 D b (L0 o _ _)
  unfold L0
  rcases h with ⟨rfl,h1,h2,h3⟩|⟨rfl,h1,h2,h3⟩|⟨rfl,h1,h2⟩|⟨rfl,h1,h2,h3⟩
  . rw [if_pos h1]
    exact A6f h1 (Aaz h2) (Aaz h3)
  . rw [if_neg om,if_neg om]
    exact AiW (.inl ⟨h1,Aaz h2,Aaz h3⟩)
  . rw [if_neg om,if_neg om]
    obtain ⟨x,y,rfl,rfl,_⟩:=Agn h2
    exact AiW (.inr ⟨h1,h2⟩)
  . rw [if_neg om,if_pos h1]
    exact A0T h1 (Aaz h2) (Aaz h3)
 |.three p a c,b,h=>by
  obtain ⟨rfl,h1,h2,h3⟩:=h
  exact A0U (Aaz h1) (Aaz h2) (Aaz h3)
structure Awv where
 Zn:List Nat->Int
 word:List Nat->List Nat->Int
def Abb (n:Int):Int:=if 1000000000000000<n then 1000000000000000 else if n < -1000000000000000 then -1000000000000000 else n
def Yg (b:Bool):Int:=if b then 1 else 0
def op2 (o a b:Int):Int:=
 if o=4 then Abb (a+b) else if o=5 then Abb (a - b) else if o=6 then Abb (a * b)
 else if o=9 then Yg (decide (a=b)) else if o=10 then Yg (decide (a≠b)) else if o=11 then Yg (decide (a<b)) else if o=12 then Yg (decide (a<=b)) else if o=13 then Yg (decide (b<a)) else if o=14 then Yg (decide (b<=a))
 else if o=15 then min a b else max a b
theorem AoB (a b:Int):op2 4 a b=Abb (a+b):=by simp [op2]
theorem Arc (a b:Int):op2 5 a b=Abb (a - b):=by simp [op2]
theorem AiU (a b:Int):op2 6 a b=Abb (a * b):=by simp [op2]
def wv (V:Awv):Tr->Tr->Option Int
 |.leaf x,.leaf y=>if y.op=3 then some (V.word x.Zn y.Zn) else none
 |_,_=>none
def ev (V:Awv):Tr->Int
 |.leaf x=>if x.op=1 then x.n else V.Zn x.Zn
 |.one o a=>if o=7 then -(ev V a) else 1 - ev V a
 |.two o a b=>op2 o (ev V a) ((wv V a b).getD (ev V b))
 |.three c a b=>if ev V c=1 then ev V a else ev V b
variable {V:Awv}
theorem Bal {a b:Tr} (h:b.op≠3):wv V a b=none:=by
 cases a<;>cases b<;>first|rfl|exact if_neg h
theorem Abr {o:Int} {a b:Tr} (h:b.op≠3):ev V (.two o a b)=op2 o (ev V a) (ev V b):=by
 simp only [ev,Bal h,Option.getD_none]
theorem Anj (n:Int):-1000000000000000<=Abb n/\Abb n<=1000000000000000:=by
 unfold Abb
 repeat' split
 all_goals omega
theorem Abn {n:Int} (h:-1000000000000000<=n) (h2:n<=1000000000000000):Abb n=n:=by
 unfold Abb
 rw [if_neg om,if_neg om]
theorem BbB (b:Bool):Yg b=0\/Yg b=1:=by cases b<;>simp [Yg]
def VOk (D:Dom) (V:Awv):Prop:=∀n,D.Zn n->-1000000000000000<=V.Zn n/\V.Zn n<=1000000000000000
def Rng (k:Bool) (n:Int):Prop:=if k then n=0\/n=1 else -1000000000000000<=n/\n<=1000000000000000
theorem A0f {o a b:Int} (h:9<=o/\o<=14):op2 o a b=0\/op2 o a b=1:=by
 unfold op2
 rw [if_neg om,if_neg om,if_neg om]
 repeat' split
 all_goals first|exact BbB _|(exfalso;omega)
theorem Af4 (hV:VOk D V):∀{t:Tr} {k:Bool},E7 D k t->Rng k (ev V t)
 |.leaf x,k,h=>by
  obtain ⟨rfl,⟨h1,_,h2,h3⟩|⟨h1,_,h2⟩⟩:=h
  . show _/\_
    simp only [ev,if_pos h1]
    omega
  . have:=hV _ h2
    show _/\_
    simp only [ev]
    rw [if_neg om]
    exact this
 |.one o a,k,h=>by
  rcases h with ⟨rfl,rfl,h1⟩|⟨rfl,rfl,h1⟩
  . have:_/\_:=Af4 hV h1
    show _/\_
    simp only [ev,if_true]
    omega
  . have:_\/_:=Af4 hV h1
    show _\/_
    simp only [ev]
    rw [if_neg (by decide)]
    omega
 |.two o a c,k,h=>by
  rcases h with ⟨rfl,h1,h2,h3⟩|⟨rfl,h1,h2,h3⟩|⟨rfl,h1,h2⟩|⟨rfl,h1,h2,h3⟩
  . show _/\_
    rw [Abr (Abe h3)]
    rcases h1 with rfl|rfl|rfl
    . rw [AoB];exact Anj _
    . rw [Arc];exact Anj _
    . rw [AiU];exact Anj _
  . show _\/_
    rw [Abr (Abe h3)]
    exact A0f h1
  . show _\/_
    exact A0f om
  . have a1:_\/_:=Af4 hV h2
    have a2:_\/_:=Af4 hV h3
    show _\/_
    rw [Abr (Abe h3)]
    rcases h1 with rfl|rfl<;>rcases a1 with a1|a1<;>rcases a2 with a2|a2<;>rw [a1,a2]<;>decide
 |.three p a c,k,h=>by
  obtain ⟨rfl,h1,h2,h3⟩:=h
  simp only [ev]
  split
  . exact Af4 hV h2
  . exact Af4 hV h3
theorem AtP {v:Int} {t:Tr} (h:constant v=some t):ev V t=v/\-1000000000<=v/\v<=1000000000:=by
 unfold constant at h
 split at h
 . cases h
 . split at h
   . cases h
     refine ⟨?_,by omega,by omega⟩
     show -(-v)=v
     omega
   . cases h
     exact ⟨rfl,by omega,by omega⟩
theorem Ac6:∀{t:Tr},E7 D false t->(value t).2=true->ev V t=(value t).1
 |.leaf x,h,hv=>by
  simp [value] at hv
  simp [ev,value,hv.1.1]
 |.one o a,h,hv=>by
  have hb:(value a).2=true/\o=7:=by
   simp only [value] at hv
   split at hv
   . rename_i hc
     simp at hc
     exact ⟨hc.1.1.1,hc.1.2⟩
   . cases hv
  rcases h with ⟨_,rfl,h1⟩|⟨h1,_⟩
  . have e:(value (.one 7 a)).1=-(value a).1:=by
     simp only [value] at hv ⊢
     split at hv
     . rename_i hc
       rw [if_pos hc]
     . cases hv
    rw [e,<- Ac6 h1 hb.1]
    rfl
  . cases h1
 |.two _ _ _,h,hv=>by cases hv
 |.three _ _ _,h,hv=>by cases hv
theorem A5d {a:Tr} (h:E7 D false a):ev V (neg a)=-(ev V a):=by
 unfold neg
 split
 . rename_i t ht
   split at ht
   . rename_i hv
     rw [(AtP ht).1,Ac6 h hv]
   . cases ht
 . cases a with
   |one o x=>
    rcases h with ⟨_,rfl,h1⟩|⟨h1,_⟩
    . show ev V x=- -(ev V x)
      omega
    . cases h1
   |_=>rfl
theorem Af5 {a:Tr} {v:Int} (h:E7 D false a) (hv:isV a v=true):ev V a=v:=by
 obtain ⟨h1,h2⟩:=Ab5 hv
 rw [Ac6 h h1,h2]
theorem A5V {o a b:Int} (h:o=4\/o=6\/o=9\/o=10\/o=15\/o=16):op2 o a b=op2 o b a:=by
 rcases h with rfl|rfl|rfl|rfl|rfl|rfl
 . rw [AoB,AoB,Int.add_comm]
 . rw [AiU,AiU,Int.mul_comm]
 . show Yg _=Yg _
   rw [decide_eq_decide.2 eq_comm]
 . show Yg _=Yg _
   rw [decide_eq_decide.2 ne_comm]
 . show min _ _=min _ _
   omega
 . show max _ _=max _ _
   omega
theorem AhH {o:Int} {a b:Tr} (ha:a.op≠3) (hb:b.op≠3) (h:o=4\/o=6\/o=9\/o=10\/o=15\/o=16):ev V (ordered o a b)=op2 o (ev V a) (ev V b):=by
 unfold ordered
 split
 . rw [Abr ha,A5V h]
 . rw [Abr hb]
theorem A8y (hV:VOk D V) {o:Int} {a b:Tr} (ho:o=4\/o=5\/o=6) (ha:E7 D false a) (hb:E7 D false b):ev V (Mw o a b)=op2 o (ev V a) (ev V b):=by
 have b1:_/\_:=Af4 hV ha
 have b2:_/\_:=Af4 hV hb
 have o1:=Abe ha
 have o2:=Abe hb
 unfold Mw
 split
 . rename_i t ht
   unfold arith at ht
   split at ht
   . rename_i hc
     rw [Bool.and_eq_true] at hc
     obtain ⟨e1,e2,e3⟩:=AtP (V:=V) ht
     rw [e1,Ac6 ha hc.1,Ac6 hb hc.2]
     rcases ho with rfl|rfl|rfl
     . rw [AoB]
       simp only [if_true] at e2 e3 ⊢
       rw [Abn om om]
     . rw [Arc]
       rw [if_neg (by decide),if_pos rfl] at e2 e3 ⊢
       rw [Abn om om]
     . rw [AiU]
       rw [if_neg (by decide),if_neg (by decide)] at e2 e3 ⊢
       generalize (value a).1 * (value b).1=z at *
       rw [Abn om om]
   . cases ht
 . split
   . rename_i h
     rw [h.1,Af5 hb h.2,Arc,Int.sub_zero,Abn b1.1 b1.2]
   . split
     . rename_i h
       rw [h.1,Uy (AiX ha) (AiX hb) h.2,Arc,Int.sub_self]
       rfl
     . split
       . rename_i h
         rw [h.1,A5d hb,Af5 ha h.2,Arc,Int.zero_sub,Abn om om]
       . split
         . rw [Abr o2]
         . split
           . rename_i h
             rcases h with ⟨rfl,h⟩|⟨rfl,h⟩
             . rw [Af5 ha h,AoB,Int.zero_add,Abn b2.1 b2.2]
             . rw [Af5 ha h,AiU,Int.one_mul,Abn b2.1 b2.2]
           . split
             . rename_i h
               rcases h with ⟨rfl,h⟩|⟨rfl,h⟩
               . rw [Af5 hb h,AoB,Int.add_zero,Abn b1.1 b1.2]
               . rw [Af5 hb h,AiU,Int.mul_one,Abn b1.1 b1.2]
             . split
               . rename_i h
                 obtain ⟨rfl,h|h⟩:=h
                 . rw [Af5 ha h,AiU,Int.zero_mul]
                   rfl
                 . rw [Af5 hb h,AiU,Int.mul_zero]
                   rfl
               . exact AhH o1 o2 om
theorem AaL (b:Bool):ev V (fixed b)=Yg b:=by cases b<;>rfl
theorem Abo {a b:Tr} {k j:Bool} (ha:E7 D k a) (hb:E7 D j b) (h:same a b=true):ev V a=ev V b:=by rw [Uy (AiX ha) (AiX hb) h]
theorem A4R (hV:VOk D V) {o:Int} {a b:Tr} (ho:o=15\/o=16) (ha:E7 D true a) (hb:E7 D true b):ev V (Kg o a b)=op2 o (ev V a) (ev V b):=by
 have b1:_\/_:=Af4 hV ha
 have b2:_\/_:=Af4 hV hb
 unfold Kg
 split
 . rename_i h
   rw [Bool.or_eq_true] at h
   rw [AaL]
   rcases h with h|h
   . have e:=Abo (V:=V) ha (AaH _) h
     rw [AaL] at e
     rw [e]
     rcases ho with rfl|rfl<;>rcases b2 with b2|b2<;>rw [b2]<;>rfl
   . have e:=Abo (V:=V) hb (AaH _) h
     rw [AaL] at e
     rw [e]
     rcases ho with rfl|rfl<;>rcases b1 with b1|b1<;>rw [b1]<;>rfl
 . split
   . rename_i h
     have e:=Abo (V:=V) ha (AaH _) h
     rw [AaL] at e
     rw [e]
     rcases ho with rfl|rfl<;>rcases b2 with b2|b2<;>rw [b2]<;>rfl
   . split
     . rename_i h
       rw [Bool.or_eq_true] at h
       rcases h with h|h
       . have e:=Abo (V:=V) hb (AaH _) h
         rw [AaL] at e
         rw [e]
         rcases ho with rfl|rfl<;>rcases b1 with b1|b1<;>rw [b1]<;>rfl
       . rw [<- Abo (V:=V) ha hb h]
         rcases ho with rfl|rfl<;>rcases b1 with b1|b1<;>rw [b1]<;>rfl
     . exact AhH (Abe ha) (Abe hb) om
theorem AdG (hV:VOk D V) {o:Int} {a b:Tr} (ho:9<=o/\o<=12) (ha:E7 D false a) (hb:E7 D false b):ev V (Dg o a b)=op2 o (ev V a) (ev V b):=by
 have ho4:o=9\/o=10\/o=11\/o=12:=by omega
 unfold Dg
 split
 . rename_i h
   rw [Bool.and_eq_true] at h
   rw [AaL,<- Ac6 (V:=V) ha h.1,<- Ac6 (V:=V) hb h.2]
   rcases ho4 with rfl|rfl|rfl|rfl
   . rfl
   . show Yg _=Yg _
     simp
   . rfl
   . rfl
 . split
   . rename_i h
     rw [AaL,Abo (V:=V) ha hb h]
     rcases ho4 with rfl|rfl|rfl|rfl<;>(show Yg _=Yg _)<;>simp
   . split
     . rename_i h
       refine AhH (Abe ha) (Abe hb) ?_
       simp at h
       omega
     . rw [Abr (Abe hb)]
theorem AtN (hV:VOk D V) {o:Int} {a b:Tr} (ho:9<=o/\o<=14) (ha:E7 D false a) (hb:E7 D false b):ev V (Ek o a b)=op2 o (ev V a) (ev V b):=by
 unfold Ek
 split
 . rename_i h
   rw [AdG hV (by decide) hb ha,h]
   rfl
 . split
   . rename_i h
     rw [AdG hV (by decide) hb ha,h]
     rfl
   . exact AdG hV om ha hb
theorem A8x (hV:VOk D V) {y:Tr} (h:E7 D true y):ev V (Jl y)=1 - ev V y:=by
 unfold Jl
 split
 . rename_i hs
   rw [Abo (V:=V) h (AaH _) hs,AaL,AaL]
   rfl
 . split
   . rename_i hs
     rw [Abo (V:=V) h (AaH _) hs,AaL,AaL]
     rfl
   . cases y with
     |leaf x=>cases h.1
     |three _ _ _=>cases h.1
     |one o x=>
      rcases h with ⟨h1,_⟩|⟨_,rfl,h1⟩
      . cases h1
      . show ev V x=1 - (1 - ev V x)
        omega
     |two o a b=>
      simp only
      have o9:∀u v:Int,op2 10 u v=1 - op2 9 u v:=λu v=>by
       show Yg _=1 - Yg _
       by_cases e:u=v<;>simp [Yg,e]
      have o10:∀u v:Int,op2 9 u v=1 - op2 10 u v:=λu v=>by have:=o9 u v;omega
      have o11:∀u v:Int,op2 12 v u=1 - op2 11 u v:=λu v=>by
       show Yg _=1 - Yg _
       by_cases e:u<v
       . have e2:¬ v<=u:=by omega
         simp [Yg,e,e2]
       . have e2:v<=u:=by omega
         simp [Yg,e,e2]
      have o12:∀u v:Int,op2 11 v u=1 - op2 12 u v:=λu v=>by have:=o11 v u;omega
      split
      . rename_i e
        subst e
        exact o9 _ _
      . split
        . rename_i e
          subst e
          exact o10 _ _
        . have num:(o=11\/o=12)->E7 D false a/\E7 D false b:=λho=>by
           rcases h with ⟨h1,_⟩|⟨_,_,ha,hb⟩|⟨_,h1,_⟩|⟨_,h1,_⟩
           . cases h1
           . exact ⟨ha,hb⟩
           . exfalso;omega
           . exfalso;omega
          split
          . rename_i e
            subst e
            obtain ⟨ha,hb⟩:=num (.inl rfl)
            rw [Abr (Abe ha),Abr (Abe hb)]
            exact o11 _ _
          . split
            . rename_i e
              subst e
              obtain ⟨ha,hb⟩:=num (.inr rfl)
              rw [Abr (Abe ha),Abr (Abe hb)]
              exact o12 _ _
            . rfl
theorem A5f (hV:VOk D V) {c a b:Tr} (hc:E7 D true c) (ha:E7 D false a) (hb:E7 D false b):ev V (three c a b)=ev V (.three c a b):=by
 unfold three
 split
 . rename_i h
   rw [Bool.or_eq_true,Bool.and_eq_true] at h
   rcases h with h|h
   . have e:=Abo (V:=V) hc (AaH _) h
     rw [AaL] at e
     simp only [ev]
     rw [e]
     rfl
   . have e:=Abo (V:=V) ha hb h.2
     simp only [ev]
     split
     . rfl
     . exact e
 . split
   . rename_i h
     have e:=Abo (V:=V) hc (AaH _) h
     rw [AaL] at e
     simp only [ev]
     rw [e]
     rfl
   . rfl
theorem AaG (hV:VOk D V):∀{t:Tr} {k:Bool},E7 D k t->ev V (normal t)=ev V t
 |.leaf x,k,h=>rfl
 |.one o a,k,h=>by
  rcases h with ⟨rfl,rfl,h2⟩|⟨rfl,rfl,h2⟩
  . show ev V (neg _)=-(ev V a)
    rw [A5d (Aaz h2),AaG hV h2]
  . show ev V (Jl _)=1 - ev V a
    rw [A8x hV (Aaz h2),AaG hV h2]
 |.two o a c,k,h=>by
  show ev V (L0 o _ _)=_
  unfold L0
  rcases h with ⟨rfl,h1,h2,h3⟩|⟨rfl,h1,h2,h3⟩|⟨rfl,h1,h2⟩|⟨rfl,h1,h2,h3⟩
  . rw [if_pos h1,A8y hV h1 (Aaz h2) (Aaz h3),AaG hV h2,AaG hV h3,Abr (Abe h3)]
  . rw [if_neg om,if_neg om,AtN hV h1 (Aaz h2) (Aaz h3),AaG hV h2,AaG hV h3,Abr (Abe h3)]
  . rw [if_neg om,if_neg om]
    obtain ⟨x,y,rfl,rfl,_⟩:=Agn h2
    unfold Ek
    rw [if_neg om,if_neg om]
    show ev V (Dg o (.leaf x) (.leaf y))=_
    rw [Agt h1 h2]
  . rw [if_neg om,if_pos h1,A4R hV h1 (Aaz h2) (Aaz h3),AaG hV h2,AaG hV h3,Abr (Abe h3)]
 |.three p a c,k,h=>by
  obtain ⟨rfl,h1,h2,h3⟩:=h
  show ev V (three _ _ _)=_
  rw [A5f hV (Aaz h1) (Aaz h2) (Aaz h3)]
  simp only [ev]
  rw [AaG hV h1,AaG hV h2,AaG hV h3]
theorem A80 {t:Tr} (h:E7 D true t) (hs:same t (fixed true)=true):ev V t=1:=by
 rw [Abo (V:=V) h (AaH _) hs,AaL]
 rfl
end Go.Proofs
namespace Go.Proofs
open Go Go.Ev Go.Nm
structure Bbm (D:Dom) (l:List Nd) (G:Nat->List Int->Prop) (val:Tr->Int):Prop where
 leaf:∀pre x post st,l=pre++x::post->E7 D false (.leaf x)->G (pre.length+1) (st++[val (.leaf x)])->G pre.length st
 word:∀pre x y o post st,l=pre++x::y::⟨o,0,[]⟩::post->WdC D (.leaf x) (.leaf y)->(o=9\/o=10)->G (pre.length+3) (st++[val (.two o (.leaf x) (.leaf y))])->G pre.length st
 one:∀pre o a k post st,l=pre++⟨o,0,[]⟩::post->E7 D k (.one o a)->G (pre.length+1) (st++[val (.one o a)])->G pre.length (st++[val a])
 two:∀pre o a c k j post st,l=pre++⟨o,0,[]⟩::post->E7 D k (.two o a c)->E7 D j a->E7 D j c->(j=true ↔ 15<=o)->G (pre.length+1) (st++[val (.two o a c)])->G pre.length (st++[val a,val c])
 three:∀pre p a c post st,l=pre++⟨8,0,[]⟩::post->E7 D false (.three p a c)->G (pre.length+1) (st++[val (.three p a c)])->G pre.length (st++[val p,val a,val c])
variable {D:Dom} {l:List Nd} {G:Nat->List Int->Prop} {val:Tr->Int}
theorem Ab4 (M:Bbm D l G val):∀(t:Tr) (k:Bool),E7 D k t->∀(pre post:List Nd) (st:List Int),l=pre++(t.nodes++post)->G (pre++t.nodes).length (st++[val t])->G pre.length st
 |.leaf x,k,h,pre,post,st,hl,hG=>by
  obtain rfl:k=false:=h.1
  exact M.leaf pre x post st hl h (by simpa [Tr.nodes] using hG)
 |.one o a,k,h,pre,post,st,hl,hG=>by
  have ha:∃j,E7 D j a:=by
   rcases h with h|h
   . exact ⟨_,h.2.2⟩
   . exact ⟨_,h.2.2⟩
  obtain ⟨j,ha⟩:=ha
  simp only [Tr.nodes,List.append_assoc,List.singleton_append] at hl
  refine Ab4 M a j ha pre _ st hl (M.one _ o a k post st (by rw [hl,List.append_assoc]) h ?_)
  simpa [Tr.nodes,Nat.add_assoc] using hG
 |.two o a c,k,h,pre,post,st,hl,hG=>by
  simp only [Tr.nodes,List.append_assoc,List.singleton_append] at hl
  have num:∀j,E7 D j a->E7 D j c->(j=true ↔ 15<=o)->G pre.length st:=λj ha hc hj=>by
   refine Ab4 M a j ha pre (c.nodes++⟨o,0,[]⟩::post) st hl ?_
   refine Ab4 M c j hc (pre++a.nodes) (⟨o,0,[]⟩::post) _ (by rw [hl,List.append_assoc]) ?_
   rw [List.append_assoc,List.append_assoc]
   refine M.two (pre++(a.nodes++c.nodes)) o a c k j post st (by rw [hl];simp only [List.append_assoc]) h ha hc hj ?_
   simpa [Tr.nodes,Nat.add_assoc] using hG
  rcases h with ⟨h0,h1,h2,h3⟩|⟨h0,h1,h2,h3⟩|⟨h0,h1,h2⟩|⟨h0,h1,h2,h3⟩
  . exact num false h2 h3 ⟨λh=>absurd h (by decide),λh=>by omega⟩
  . exact num false h2 h3 ⟨λh=>absurd h (by decide),λh=>by omega⟩
  . obtain ⟨x,y,rfl,rfl,q1,q2⟩:=Agn h2
    refine M.word pre x y o post st (by rw [hl];simp [Tr.nodes]) h2 h1 ?_
    simpa [Tr.nodes] using hG
  . exact num true h2 h3 ⟨λ_=>by omega,λ_=>rfl⟩
 |.three p a c,k,h,pre,post,st,hl,hG=>by
  have h0:=h.1
  subst h0
  simp only [Tr.nodes,List.append_assoc,List.singleton_append] at hl
  refine Ab4 M p true h.2.1 pre _ st hl ?_
  refine Ab4 M a false h.2.2.1 (pre++p.nodes) (c.nodes++⟨8,0,[]⟩::post) _ (by rw [hl,List.append_assoc]) ?_
  refine Ab4 M c false h.2.2.2 (pre++p.nodes++a.nodes) (⟨8,0,[]⟩::post) _ (by rw [hl];simp only [List.append_assoc]) ?_
  rw [List.append_assoc st,List.append_assoc st,List.append_assoc pre,List.append_assoc pre,List.append_assoc]
  refine M.three (pre++(p.nodes++(a.nodes++c.nodes))) p a c post st (by rw [hl];simp only [List.append_assoc]) h ?_
  simpa [Tr.nodes,Nat.add_assoc] using hG
end Go.Proofs
