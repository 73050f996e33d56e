/- What package norm computes, in plain Lean: expressions, and the functions on them. -/
import Derived.Test.YtmjmhajonaelcaaGreatDoorEvG
set_option linter.all false
noncomputable section
namespace Go.Nm
open Go Go.Ev
noncomputable section
structure Nd where
 op:Int
 n:Int
 Zn:List Nat
deriving DecidableEq
inductive Tr where
|leaf (x:Nd)
|one (o:Int) (a:Tr)
|two (o:Int) (a b:Tr)
|three (c a b:Tr)
deriving DecidableEq
abbrev Bw(x:Nd):uw:=[.int .i64 x.op,.int .i64 x.n,.str x.Zn]
def A3:Tr->AV
|.leaf x=>.I6 142 (.agg (Bw x))
|.one o a=>.I6 144 (.agg [.int .i64 o,A3 a])
|.two o a b=>.I6 149 (.agg [.int .i64 o,A3 a,A3 b])
|.three c a b=>.I6 151 (.agg [A3 c,A3 a,A3 b])
def Tr.op:Tr->Int
|.leaf x=>x.op
|.one o _=>o
|.two o _ _=>o
|.three _ _ _=>8
def Tr.nodes:Tr->List Nd
|.leaf x=>[x]
|.one o a=>a.nodes++[⟨o,0,[]⟩]
|.two o a b=>a.nodes++b.nodes++[⟨o,0,[]⟩]
|.three c a b=>c.nodes++a.nodes++b.nodes++[⟨8,0,[]⟩]
def size:Tr->Nat
|.leaf _=>1
|.one _ a=>size a+1
|.two _ a b=>size a+size b+1
|.three c a b=>size c+size a+size b+1
def Ao:∀t:Tr,t.nodes.length=size t
|.leaf _=>rfl
|.one _ a=>by simp[Tr.nodes,size,Ao a]
|.two _ a b=>by simp[Tr.nodes,size,Ao a,Ao b];omega
|.three c a b=>by simp[Tr.nodes,size,Ao a,Ao b,Ao c];omega
def size_pos:∀t:Tr,1<=size t:=by intro t;cases t<;>simp[size]
def D9:Option Tr->AV
|some t=>A3 t
|none=>.B3
abbrev Yy(x:Option Tr):AV:=.Bj [D9 x,.bool x.isSome]
@[simp]def A5b(t:Tr):Ge (A3 t)=true:=by cases t<;>rfl
@[simp]def AvG(t:Tr):cellsOf (A3 t)=some [A3 t]:=by cases t<;>rfl
end
end Go.Nm
