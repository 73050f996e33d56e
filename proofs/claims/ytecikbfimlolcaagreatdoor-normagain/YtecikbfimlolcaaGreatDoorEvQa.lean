/- The reference for package norm in plain Lean, over the same expressions. -/
import Derived.Test.YtecikbfimlolcaaGreatDoorEvG
set_option linter.all false
noncomputable section
namespace Go.Nm
open Go Go.Ev
noncomputable section
structure Nd where
 op:Int
 n:Int
 Zn:List Nat
deriving DecidableEq
inductive Tr where
|leaf (x:Nd)
|one (o:Int) (a:Tr)
|two (o:Int) (a b:Tr)
|three (c a b:Tr)
deriving DecidableEq
abbrev int(n:Int):AV:=.int .i64 n
abbrev Bw(x:Nd):List AV:=[.int .i64 x.op,.int .i64 x.n,.str x.Zn]
def A3:Tr->AV
|.leaf x=>.I6 170 (.agg (Bw x))
|.one o a=>.I6 109 (.agg [.int .i64 o,A3 a])
|.two o a b=>.I6 111 (.agg [.int .i64 o,A3 a,A3 b])
|.three c a b=>.I6 116 (.agg [A3 c,A3 a,A3 b])
def Tr.op:Tr->Int
|.leaf x=>x.op
|.one o _=>o
|.two o _ _=>o
|.three _ _ _=>8
def Tr.nodes:Tr->List Nd
|.leaf x=>[x]
|.one o a=>a.nodes++[⟨o,0,[]⟩]
|.two o a b=>a.nodes++b.nodes++[⟨o,0,[]⟩]
|.three c a b=>c.nodes++a.nodes++b.nodes++[⟨8,0,[]⟩]
def value:Tr->Int × Bool
|.leaf x=>(x.n,decide (x.op=1)&&decide (0<=x.n)&&decide (x.n<=1000000000))
|.one o a=>if(value a).2&&decide (0<(value a).1)&&decide (o=7)&&decide (a.op=1)then(-(value a).1,true)else(0,false)
|_=>(0,false)
def num(n:Int):Tr:=.leaf ⟨1,n,[]⟩
def constant(v:Int):Option Tr:=
 if v < -1000000000\/1000000000<v then none else if v<0 then some (.one 7 (num (-v)))else some (num v)
def isV(t:Tr)(v:Int):Bool:=(value t).2&&decide ((value t).1=v)
def fixed(b:Bool):Tr:=.two (if b then 9 else 10) (num 0) (num 0)
def V5(a b:Int):Int:=if a<b then -1 else if b<a then 1 else 0
def Abg(a b:List Nat):Int:=if Gn a b then -1 else if Gn b a then 1 else 0
def orI:List Int->Int
|[]=>0
|x::l=>if x=0 then orI l else x
def V6(x y:Nd):Int:=orI [V5 x.op y.op,V5 x.n y.n,Abg x.Zn y.Zn]
def cmpL:List Nd->List Nd->Int
|[],[]=>0
|[],_::_=>-1
|_::_,[]=>1
|x::l,y::m=>if V6 x y=0 then cmpL l m else V6 x y
def compare(a b:Tr):Int:=cmpL a.nodes b.nodes
def same(a b:Tr):Bool:=decide (compare a b=0)
def ordered(op:Int)(a b:Tr):Tr:=if compare b a<0 then .two op b a else .two op a b
def arith(op:Int)(a b:Tr):Option Tr:=
 if(value a).2&&(value b).2 then constant (if op=4 then(value a).1+(value b).1 else if op=5 then(value a).1-(value b).1 else(value a).1*(value b).1)else none
def neg(a:Tr):Tr:=
 match (if(value a).2 then constant (-(value a).1)else none)with
 |some t=>t
 |none=>match a with
  |.one o x=>if o=7 then x else .one 7 a
  |_=>.one 7 a
def Mw(op:Int)(a b:Tr):Tr:=
 match arith op a b with
 |some t=>t
 |none=>
  if op=5/\isV b 0 then a
  else if op=5/\same a b then num 0
  else if op=5/\isV a 0 then neg b
  else if op=5 then .two op a b
  else if(op=4/\isV a 0)\/(op=6/\isV a 1)then b
  else if(op=4/\isV b 0)\/(op=6/\isV b 1)then a
  else if op=6/\(isV a 0\/isV b 0)then num 0
  else ordered op a b
def Kg(op:Int)(a b:Tr):Tr:=
 if same a (fixed (decide (op=16)))||same b (fixed (decide (op=16)))then fixed (decide (op=16))
 else if same a (fixed (decide (op=15)))then b
 else if same b (fixed (decide (op=15)))||same a b then a
 else ordered op a b
def Jl(a:Tr):Tr:=
 if same a (fixed true)then fixed false
 else if same a (fixed false)then fixed true
 else match a with
  |.one o x=>if o=17 then x else .one 17 a
  |.two o x y=>if o=9 then .two 10 x y else if o=10 then .two 9 x y else if o=11 then .two 12 y x else if o=12 then .two 11 y x else .one 17 a
  |_=>.one 17 a
def Dg(op:Int)(a b:Tr):Tr:=
 if(value a).2&&(value b).2 then
  fixed (if op=9 then decide ((value a).1=(value b).1)else if op=10 then !decide ((value a).1=(value b).1)else if op=11 then decide ((value a).1<(value b).1)else if op=12 then decide ((value a).1<=(value b).1)else false)
 else if same a b then fixed (decide (op=9)||decide (op=12))
 else if(decide (op=9)||decide (op=10))&&!decide (b.op=3)then ordered op a b
 else .two op a b
def Ek(op:Int)(a b:Tr):Tr:=if op=13 then Dg 11 b a else if op=14 then Dg 12 b a else Dg op a b
def three(c a b:Tr):Tr:=
 if same c (fixed true)||(!same c (fixed false)&&same a b)then a else if same c (fixed false)then b else .three c a b
def L0(o:Int)(a b:Tr):Tr:=if o=4\/o=5\/o=6 then Mw o a b else if o=15\/o=16 then Kg o a b else Ek o a b
def normal:Tr->Tr
|.leaf x=>.leaf x
|.one o a=>if o=7 then neg (normal a)else Jl (normal a)
|.two o a b=>L0 o (normal a) (normal b)
|.three c a b=>three (normal c) (normal a) (normal b)
def size:Tr->Nat
|.leaf _=>1
|.one _ a=>size a+1
|.two _ a b=>size a+size b+1
|.three c a b=>size c+size a+size b+1
def Ao:∀t:Tr,t.nodes.length=size t
|.leaf _=>rfl
|.one _ a=>by simp[Tr.nodes,size,Ao a]
|.two _ a b=>by simp[Tr.nodes,size,Ao a,Ao b];omega
|.three c a b=>by simp[Tr.nodes,size,Ao a,Ao b,Ao c];omega
def size_pos:∀t:Tr,1<=size t:=by intro t;cases t<;>simp[size]
def Ct(b:Bool):size (fixed b)=3:=rfl
def D9:Option Tr->AV
|some t=>A3 t
|none=>.B3
abbrev Yy(x:Option Tr):AV:=.Bj [D9 x,.bool x.isSome]
def Jx:∀t:Tr,(value t).2=true->-1000000000<=(value t).1/\(value t).1<=1000000000
|.leaf x,h=>by simp[value]at h ⊢;omega
|.one o a,h=>by
 have b:=Jx a;simp only[value]at h ⊢;split at h
 .rename_i hc;rw[W5 hc];simp at hc;have:=b hc.1.1.1;constructor<;>simp<;>omega
 .cases h
|.two _ _ _,h=>by cases h
|.three _ _ _,h=>by cases h
def Vw{v:Int}{t:Tr}(h:constant v=some t):size t<=2:=by
 unfold constant at h;split at h
 .cases h
 .split at h
  .cases h;simp[size,num]
  .cases h;simp[size,num]
def Ai7(a:Tr):size (neg a)<=size a+1:=by
 unfold neg;have h1:=size_pos a;split
 .rename_i t b;split at b
  .have:=Vw b;omega
  .cases b
 .cases a with
  |one o x=>simp only;split<;>simp only[size]<;>omega
  |_=>simp[size]
def Ahg:∀l m:List Nd,cmpL l m=0->l.length=m.length
|[],[],_=>rfl
|[],_::_,h=>by simp[cmpL]at h
|_::_,[],h=>by simp[cmpL]at h
|x::l,y::m,h=>by
 simp only[cmpL]at h;split at h
 .simp[Ahg l m h]
 .rename_i hn;exact absurd h hn
def Qg{a b:Tr}(h:same a b=true):size a=size b:=by have:=Ahg a.nodes b.nodes (az h);rwa[Ao,Ao]at this
def Aog(a:Tr):size (Jl a)<=size a+1:=by
 unfold Jl;split
 .rename_i h;have:=Qg h;rw[Ct]at this ⊢;omega
 .split
  .rename_i h;have:=Qg h;rw[Ct]at this ⊢;omega
  .cases a with
   |one o x=>simp only;split<;>simp only[size]<;>omega
   |two o x y=>
    simp only;repeat' split
    all_goals simp only[size]
    all_goals omega
   |_=>simp[size]
def Re(op:Int)(a b:Tr):size (ordered op a b)=size a+size b+1:=by unfold ordered;split<;>simp[size];omega
def Aoi(op:Int)(a b:Tr):size (Mw op a b)<=size a+size b+1:=by
 have h1:=size_pos a;have h2:=size_pos b;have d:=Ai7 b;unfold Mw;split
 .rename_i t c;unfold arith at c;split at c
  .have:=Vw c;omega
  .cases c
 .repeat' split
  all_goals first|omega|(rw[Re];omega)|(simp only[size,num];omega)
def AkB(op:Int)(a b:Tr):size (Kg op a b)<=size a+size b+1:=by
 have h1:=size_pos a;have h2:=size_pos b;unfold Kg;repeat' split
 all_goals first|(rw[Ct];omega)|omega|(rw[Re];omega)
def Oh(op:Int)(a b:Tr):size (Dg op a b)<=size a+size b+1:=by
 have h1:=size_pos a;have h2:=size_pos b;unfold Dg;repeat' split
 all_goals first|(rw[Ct];omega)|omega|(rw[Re];omega)|simp[size]
def Aea(op:Int)(a b:Tr):size (Ek op a b)<=size a+size b+1:=by
 unfold Ek;repeat' split
 .have:=Oh 11 b a;omega
 .have:=Oh 12 b a;omega
 .exact Oh op a b
def Aoh(op:Int)(a b:Tr):size (L0 op a b)<=size a+size b+1:=by
 unfold L0;repeat' split
 .exact Aoi op a b
 .exact AkB op a b
 .exact Aea op a b
def AkC(c a b:Tr):size (three c a b)<=size c+size a+size b+1:=by
 unfold three;repeat' split
 all_goals first|omega|simp[size]
def Ea:∀t:Tr,size (normal t)<=size t
|.leaf _=>Yw _
|.one o a=>by have h1:=Ea a;have h2:=Ai7 (normal a);have d:=Aog (normal a);simp only[normal,size];split<;>omega
|.two o a b=>by have h1:=Ea a;have h2:=Ea b;have d:=Aoh o (normal a) (normal b);simp only[normal,size];omega
|.three c a b=>by have h1:=Ea a;have h2:=Ea b;have e:=Ea c;have d:=AkC (normal c) (normal a) (normal b);simp only[normal,size];omega
@[simp] theorem A5b(t:Tr):Ge (A3 t)=true:=by cases t<;>rfl
@[simp] theorem AvG(t:Tr):cellsOf (A3 t)=some [A3 t]:=by cases t<;>rfl
end
end Go.Nm
namespace Go.Nm
open Go Go.Ev
noncomputable section
def hd:Tr->Nd
|.leaf x=>x
|.one o _=>⟨o,0,[]⟩
|.two o _ _=>⟨o,0,[]⟩
|.three _ _ _=>⟨8,0,[]⟩
def ltN:List Nd->List Nd->Bool
|x::l,y::m=>if x.op=y.op then(if x.n=y.n then(if x.Zn=y.Zn then ltN l m else Gn x.Zn y.Zn)else decide (x.n<y.n))else decide (x.op<y.op)
|[],_::_=>true
|_,[]=>false
def less(a b:Tr):Bool:=ltN a.nodes b.nodes
def equalR(a b:Tr):Bool:=!less a b&&!less b a
def Kq:Tr->Prop
|.leaf x=>1<=x.op/\x.op<=3
|.one o a=>(o=7\/o=17)/\Kq a
|.two o a b=>(4<=o/\o<=16/\o≠7/\o≠8)/\Kq a/\Kq b
|.three c a b=>Kq c/\Kq a/\Kq b
def AtB(x:Nd):hd (.leaf x)=x:=rfl
def Ay3(o:Int)(a:Tr):hd (.one o a)=⟨o,0,[]⟩:=rfl
def Ay4(o:Int)(a b:Tr):hd (.two o a b)=⟨o,0,[]⟩:=rfl
def Aqt(c a b:Tr):hd (.three c a b)=⟨8,0,[]⟩:=rfl
end
end Go.Nm
