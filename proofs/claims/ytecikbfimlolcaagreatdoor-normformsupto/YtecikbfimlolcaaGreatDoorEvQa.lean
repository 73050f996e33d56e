/- What package norm computes, in plain Lean: expressions, and the functions on them. The reference for package norm in plain Lean, over the same expressions. -/
import Derived.Test.YtecikbfimlolcaaGreatDoorEvG
set_option linter.unusedSimpArgs false
set_option linter.unusedVariables false
namespace Go.Nm
open Go Go.Ev
noncomputable section
structure Nd where
 op:Int
 n:Int
 col:List Nat
deriving DecidableEq
inductive Tr where
 |leaf (x:Nd)
 |one (o:Int) (a:Tr)
 |two (o:Int) (a b:Tr)
 |three (c a b:Tr)
deriving DecidableEq
abbrev int (n:Int):AV:=.int .i64 n
abbrev Bq (x:Nd):List AV:=[.int .i64 x.op,.int .i64 x.n,.str x.col]
def Ax:Tr->AV
 |.leaf x=>.ifc 170 (.agg (Bq x))
 |.one o a=>.ifc 109 (.agg [.int .i64 o,Ax a])
 |.two o a b=>.ifc 111 (.agg [.int .i64 o,Ax a,Ax b])
 |.three c a b=>.ifc 116 (.agg [Ax c,Ax a,Ax b])
def Tr.op:Tr->Int
 |.leaf x=>x.op
 |.one o _=>o
 |.two o _ _=>o
 |.three _ _ _=>8
def Tr.nodes:Tr->List Nd
 |.leaf x=>[x]
 |.one o a=>a.nodes++[⟨o,0,[]⟩]
 |.two o a b=>a.nodes++b.nodes++[⟨o,0,[]⟩]
 |.three c a b=>c.nodes++a.nodes++b.nodes++[⟨8,0,[]⟩]
def value:Tr->Int × Bool
 |.leaf x=>(x.n,decide (x.op=1)&&decide (0<=x.n)&&decide (x.n<=1000000000))
 |.one o a=>if (value a).2&&decide (0<(value a).1)&&decide (o=7)&&decide (a.op=1) then (-(value a).1,true) else (0,false)
 |_=>(0,false)
def num (n:Int):Tr:=.leaf ⟨1,n,[]⟩
def constant (v:Int):Option Tr:=
 if v < -1000000000\/1000000000<v then none else if v<0 then some (.one 7 (num (-v))) else some (num v)
def isV (t:Tr) (v:Int):Bool:=(value t).2&&decide ((value t).1=v)
def fixed (b:Bool):Tr:=.two (if b then 9 else 10) (num 0) (num 0)
def cmpI (a b:Int):Int:=if a<b then -1 else if b<a then 1 else 0
def cmpS (a b:List Nat):Int:=if F9 a b then -1 else if F9 b a then 1 else 0
def orI:List Int->Int
 |[]=>0
 |x::l=>if x=0 then orI l else x
def cmpN (x y:Nd):Int:=orI [cmpI x.op y.op,cmpI x.n y.n,cmpS x.col y.col]
def cmpL:List Nd->List Nd->Int
 |[],[]=>0
 |[],_::_=>-1
 |_::_,[]=>1
 |x::l,y::m=>if cmpN x y=0 then cmpL l m else cmpN x y
def compare (a b:Tr):Int:=cmpL a.nodes b.nodes
def same (a b:Tr):Bool:=decide (compare a b=0)
def ordered (op:Int) (a b:Tr):Tr:=if compare b a<0 then .two op b a else .two op a b
def arith (op:Int) (a b:Tr):Option Tr:=
 if (value a).2&&(value b).2 then constant (if op=4 then (value a).1+(value b).1 else if op=5 then (value a).1 - (value b).1 else (value a).1 * (value b).1) else none
def neg (a:Tr):Tr:=
 match (if (value a).2 then constant (-(value a).1) else none) with
 |some t=>t
 |none=>match a with
  |.one o x=>if o=7 then x else .one 7 a
  |_=>.one 7 a
def sums (op:Int) (a b:Tr):Tr:=
 match arith op a b with
 |some t=>t
 |none=>
  if op=5/\isV b 0 then a
  else if op=5/\same a b then num 0
  else if op=5/\isV a 0 then neg b
  else if op=5 then .two op a b
  else if (op=4/\isV a 0)\/(op=6/\isV a 1) then b
  else if (op=4/\isV b 0)\/(op=6/\isV b 1) then a
  else if op=6/\(isV a 0\/isV b 0) then num 0
  else ordered op a b
def joins (op:Int) (a b:Tr):Tr:=
 if same a (fixed (decide (op=16)))||same b (fixed (decide (op=16))) then fixed (decide (op=16))
 else if same a (fixed (decide (op=15))) then b
 else if same b (fixed (decide (op=15)))||same a b then a
 else ordered op a b
def nott (a:Tr):Tr:=
 if same a (fixed true) then fixed false
 else if same a (fixed false) then fixed true
 else match a with
  |.one o x=>if o=17 then x else .one 17 a
  |.two o x y=>if o=9 then .two 10 x y else if o=10 then .two 9 x y else if o=11 then .two 12 y x else if o=12 then .two 11 y x else .one 17 a
  |_=>.one 17 a
def Dq (op:Int) (a b:Tr):Tr:=
 if (value a).2&&(value b).2 then
  fixed (if op=9 then decide ((value a).1=(value b).1) else if op=10 then !decide ((value a).1=(value b).1) else if op=11 then decide ((value a).1<(value b).1) else if op=12 then decide ((value a).1<=(value b).1) else false)
 else if same a b then fixed (decide (op=9)||decide (op=12))
 else if (decide (op=9)||decide (op=10))&&!decide (b.op=3) then ordered op a b
 else .two op a b
def Ea (op:Int) (a b:Tr):Tr:=if op=13 then Dq 11 b a else if op=14 then Dq 12 b a else Dq op a b
def three (c a b:Tr):Tr:=
 if same c (fixed true)||(!same c (fixed false)&&same a b) then a else if same c (fixed false) then b else .three c a b
def rule (o:Int) (a b:Tr):Tr:=if o=4\/o=5\/o=6 then sums o a b else if o=15\/o=16 then joins o a b else Ea o a b
def normal:Tr->Tr
 |.leaf x=>.leaf x
 |.one o a=>if o=7 then neg (normal a) else nott (normal a)
 |.two o a b=>rule o (normal a) (normal b)
 |.three c a b=>three (normal c) (normal a) (normal b)
def size:Tr->Nat
 |.leaf _=>1
 |.one _ a=>size a+1
 |.two _ a b=>size a+size b+1
 |.three c a b=>size c+size a+size b+1
theorem B5:∀ t:Tr,t.nodes.length=size t
 |.leaf _=>rfl
 |.one _ a=>by simp [Tr.nodes,size,B5 a]
 |.two _ a b=>by simp [Tr.nodes,size,B5 a,B5 b];omega
 |.three c a b=>by simp [Tr.nodes,size,B5 a,B5 b,B5 c];omega
theorem size_pos:∀ t:Tr,1<=size t:=by intro t;cases t<;>simp [size]
theorem A2 (b:Bool):size (fixed b)=3:=rfl
def Dv:Option Tr->AV
 |some t=>Ax t
 |none=>.Bx
abbrev repO (x:Option Tr):AV:=.Bl [Dv x,.bool x.isSome]
theorem Gm:∀ t:Tr,(value t).2=true->-1000000000<=(value t).1/\(value t).1<=1000000000
 |.leaf x,h=>by simp [value] at h ⊢;omega
 |.one o a,h=>by
  have ih:=Gm a
  simp only [value] at h ⊢
  split at h
  . rename_i hc
    rw [if_pos hc]
    simp at hc
    have:=ih hc.1.1.1
    constructor<;>simp<;>omega
  . cases h
 |.two _ _ _,h=>by cases h
 |.three _ _ _,h=>by cases h
theorem size_constant {v:Int} {t:Tr} (h:constant v=some t):size t<=2:=by
 unfold constant at h
 split at h
 . cases h
 . split at h
   . cases h;simp [size,num]
   . cases h;simp [size,num]
theorem size_neg (a:Tr):size (neg a)<=size a+1:=by
 unfold neg
 have h1:=size_pos a
 split
 . rename_i t ht
   split at ht
   . have:=size_constant ht;omega
   . cases ht
 . cases a with
   |one o x=>
    simp only
    split<;>simp only [size]<;>omega
   |_=>simp [size]
theorem cmpL_len:∀ l m:List Nd,cmpL l m=0->l.length=m.length
 |[],[],_=>rfl
 |[],_::_,h=>by simp [cmpL] at h
 |_::_,[],h=>by simp [cmpL] at h
 |x::l,y::m,h=>by
  simp only [cmpL] at h
  split at h
  . simp [cmpL_len l m h]
  . rename_i hn
    exact absurd h hn
theorem same_size {a b:Tr} (h:same a b=true):size a=size b:=by
 have:=cmpL_len a.nodes b.nodes (of_decide_eq_true h)
 rwa [B5,B5] at this
theorem size_nott (a:Tr):size (nott a)<=size a+1:=by
 unfold nott
 split
 . rename_i h
   have:=same_size h
   rw [A2] at this ⊢
   omega
 . split
   . rename_i h
     have:=same_size h
     rw [A2] at this ⊢
     omega
   . cases a with
     |one o x=>
      simp only
      split<;>simp only [size]<;>omega
     |two o x y=>
      simp only
      repeat' split
      all_goals simp only [size]
      all_goals omega
     |_=>simp [size]
theorem size_ordered (op:Int) (a b:Tr):size (ordered op a b)=size a+size b+1:=by
 unfold ordered
 split<;>simp [size];omega
theorem size_sums (op:Int) (a b:Tr):size (sums op a b)<=size a+size b+1:=by
 have h1:=size_pos a
 have h2:=size_pos b
 have h3:=size_neg b
 unfold sums
 split
 . rename_i t ht
   unfold arith at ht
   split at ht
   . have:=size_constant ht;omega
   . cases ht
 . repeat' split
   all_goals first|omega|(rw [size_ordered];omega)|(simp only [size,num];omega)
theorem size_joins (op:Int) (a b:Tr):size (joins op a b)<=size a+size b+1:=by
 have h1:=size_pos a
 have h2:=size_pos b
 unfold joins
 repeat' split
 all_goals first|(rw [A2];omega)|omega|(rw [size_ordered];omega)
theorem size_compares1 (op:Int) (a b:Tr):size (Dq op a b)<=size a+size b+1:=by
 have h1:=size_pos a
 have h2:=size_pos b
 unfold Dq
 repeat' split
 all_goals first|(rw [A2];omega)|omega|(rw [size_ordered];omega)|simp [size]
theorem size_compares (op:Int) (a b:Tr):size (Ea op a b)<=size a+size b+1:=by
 unfold Ea
 repeat' split
 . have:=size_compares1 11 b a;omega
 . have:=size_compares1 12 b a;omega
 . exact size_compares1 op a b
theorem size_rule (op:Int) (a b:Tr):size (rule op a b)<=size a+size b+1:=by
 unfold rule
 repeat' split
 . exact size_sums op a b
 . exact size_joins op a b
 . exact size_compares op a b
theorem size_three (c a b:Tr):size (three c a b)<=size c+size a+size b+1:=by
 unfold three
 repeat' split
 all_goals first|omega|simp [size]
theorem Dw:∀ t:Tr,size (normal t)<=size t
 |.leaf _=>Nat.le_refl _
 |.one o a=>by
  have h1:=Dw a
  have h2:=size_neg (normal a)
  have h3:=size_nott (normal a)
  simp only [normal,size]
  split<;>omega
 |.two o a b=>by
  have h1:=Dw a
  have h2:=Dw b
  have h3:=size_rule o (normal a) (normal b)
  simp only [normal,size]
  omega
 |.three c a b=>by
  have h1:=Dw a
  have h2:=Dw b
  have h4:=Dw c
  have h3:=size_three (normal c) (normal a) (normal b)
  simp only [normal,size]
  omega
@[simp] theorem oneB_rep (t:Tr):oneB (Ax t)=true:=by cases t<;>rfl
@[simp] theorem cellsOf_rep (t:Tr):cellsOf (Ax t)=some [Ax t]:=by cases t<;>rfl
end
end Go.Nm
namespace Go.Nm
open Go Go.Ev
noncomputable section
def hd:Tr->Nd
 |.leaf x=>x
 |.one o _=>⟨o,0,[]⟩
 |.two o _ _=>⟨o,0,[]⟩
 |.three _ _ _=>⟨8,0,[]⟩
def ltN:List Nd->List Nd->Bool
 |x::l,y::m=>if x.op=y.op then (if x.n=y.n then (if x.col=y.col then ltN l m else F9 x.col y.col) else decide (x.n<y.n)) else decide (x.op<y.op)
 |[],_::_=>true
 |_,[]=>false
def less (a b:Tr):Bool:=ltN a.nodes b.nodes
def equalR (a b:Tr):Bool:=!less a b&&!less b a
def Reg:Tr->Prop
 |.leaf x=>1<=x.op/\x.op<=3
 |.one o a=>(o=7\/o=17)/\Reg a
 |.two o a b=>(4<=o/\o<=16/\o≠7/\o≠8)/\Reg a/\Reg b
 |.three c a b=>Reg c/\Reg a/\Reg b
def kidT:Tr->Tr
 |.leaf x=>.leaf x
 |.one _ a=>a
 |.two _ a _=>a
 |.three c _ _=>c
def A0 (t:Tr):Int × Bool:=
 if (hd t).op=1/\0<=(hd t).n/\(hd t).n<=1000000000 then ((hd t).n,true)
 else if (hd t).op=7/\(hd (kidT t)).op=1/\0<(hd (kidT t)).n/\(hd (kidT t)).n<=1000000000 then (-(hd (kidT t)).n,true)
 else (0,false)
def isR (t:Tr) (v:Int):Bool:=(A0 t).2&&decide ((A0 t).1=v)
def En (n:Int) (a b:Tr):Tr:=if less b a then .two n b a else .two n a b
def Eu (a:Tr):Tr:=
 if (A0 a).2 then (constant (-(A0 a).1)).getD (num 0)
 else match a with
  |.one o x=>if o=7 then x else .one 7 a
  |_=>.one 7 a
def opR (n x y:Int):Int:=if n=4 then x+y else if n=5 then x - y else x * y
def arithR (n:Int) (a b:Tr):Tr:=
 if (constant (opR n (A0 a).1 (A0 b).1)).isSome&&(A0 a).2&&(A0 b).2 then (constant (opR n (A0 a).1 (A0 b).1)).getD (num 0)
 else if (n≠6/\isR b 0=true)\/(n=6/\isR b 1=true) then a
 else if (n=4/\isR a 0=true)\/(n=6/\isR a 1=true) then b
 else if (n=6/\(isR a 0=true\/isR b 0=true))\/(n=5/\equalR a b=true) then num 0
 else if n=5/\isR a 0=true then Eu b
 else if n=5 then .two n a b
 else En n a b
def Cy (c a b:Tr):Tr:=if equalR c (fixed true)||equalR a b then a else if equalR c (fixed false) then b else .three c a b
def Cm (n:Int) (a b:Tr):Tr:=
 if (A0 a).2&&(A0 b).2 then
  fixed (if n=9 then decide ((A0 a).1=(A0 b).1) else if n=10 then !decide ((A0 a).1=(A0 b).1) else if n=11 then decide ((A0 a).1<(A0 b).1) else if n=12 then decide ((A0 a).1<=(A0 b).1) else false)
 else if equalR a b then fixed (decide (n=9)||decide (n=12))
 else if (decide (n=9)||decide (n=10))&&!decide ((hd b).op=3) then En n a b
 else .two n a b
def F3 (n:Int) (a b:Tr):Tr:=if n=13 then Cm 11 b a else if n=14 then Cm 12 b a else Cm n a b
def Ei (n:Int) (B2:Bool) (a b:Tr):Tr:=
 if equalR a (fixed !B2)||equalR b (fixed !B2) then fixed !B2
 else if equalR a (fixed B2) then b
 else if equalR b (fixed B2)||equalR a b then a
 else En n a b
def Ck (a:Tr):Tr:=
 if equalR a (fixed true) then fixed false
 else if equalR a (fixed false) then fixed true
 else match a with
  |.one o x=>if o=17 then x else .one 17 a
  |.two o x y=>if o=9 then .two 10 x y else if o=10 then .two 9 x y else if o=11 then .two 12 y x else if o=12 then .two 11 y x else .one 17 a
  |_=>.one 17 a
def joinR2 (n:Int) (a b:Tr):Tr:=if n=4\/n=5\/n=6 then arithR n a b else if n=15 then Ei 15 true a b else if n=16 then Ei 16 false a b else F3 n a b
def Au:Tr->Tr
 |.leaf x=>.leaf x
 |.one o a=>if o=7 then Eu (Au a) else Ck (Au a)
 |.two o a b=>joinR2 o (Au a) (Au b)
 |.three c a b=>Cy (Au c) (Au a) (Au b)
theorem Df (x:Nd):hd (.leaf x)=x:=rfl
theorem E9 (o:Int) (a:Tr):hd (.one o a)=⟨o,0,[]⟩:=rfl
theorem Eg (o:Int) (a b:Tr):hd (.two o a b)=⟨o,0,[]⟩:=rfl
theorem C0 (c a b:Tr):hd (.three c a b)=⟨8,0,[]⟩:=rfl
theorem Fi (x:Nd):kidT (.leaf x)=.leaf x:=rfl
theorem kidT_one (o:Int) (a:Tr):kidT (.one o a)=a:=rfl
theorem kidT_two (o:Int) (a b:Tr):kidT (.two o a b)=a:=rfl
theorem Et (c a b:Tr):kidT (.three c a b)=c:=rfl
theorem valueR_bound (t:Tr):-1000000000<=(A0 t).1/\(A0 t).1<=1000000000:=by
 unfold A0
 split
 . simp;omega
 . split
   . simp;omega
   . simp
theorem constant_in {n:Int} (h1:-1000000000<=n) (h2:n<=1000000000):constant n≠none:=by
 unfold constant
 rw [if_neg (by omega)]
 split<;>simp
end
end Go.Nm
