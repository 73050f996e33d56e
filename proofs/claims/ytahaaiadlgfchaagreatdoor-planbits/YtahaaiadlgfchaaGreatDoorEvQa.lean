/- What package norm -/
import Derived.Test.YtahaaiadlgfchaaGreatDoorEvG
set_option linter.all false
noncomputable section
namespace Go.Nm
open Go Go.Ev
noncomputable section
structure Nd where
 op:Int
 n:Int
 Zn:List Nat
deriving DecidableEq
inductive Tr where
|leaf (x:Nd)
|one (o:Int) (a:Tr)
|two (o:Int) (a b:Tr)
|three (c a b:Tr)
deriving DecidableEq
abbrev Bw(x:Nd):uz:=[.int .i64 x.op,.int .i64 x.n,.str x.Zn]
def Tr.op:Tr->Int
|.leaf x=>x.op
|.one o _=>o
|.two o _ _=>o
|.three _ _ _=>8
def Tr.nodes:Tr->List Nd
|.leaf x=>[x]
|.one o a=>a.nodes++[⟨o,0,[]⟩]
|.two o a b=>a.nodes++b.nodes++[⟨o,0,[]⟩]
|.three c a b=>c.nodes++a.nodes++b.nodes++[⟨8,0,[]⟩]
def num(n:Int):Tr:=.leaf ⟨1,n,[]⟩
def size:Tr->Nat
|.leaf _=>1
|.one _ a=>size a+1
|.two _ a b=>size a+size b+1
|.three c a b=>size c+size a+size b+1
def Ao:∀t:Tr,t.nodes.length=size t
|.leaf _=>rfl
|.one _ a=>by simp[Tr.nodes,size,Ao a]
|.two _ a b=>by simp[Tr.nodes,size,Ao a,Ao b];omega
|.three c a b=>by simp[Tr.nodes,size,Ao a,Ao b,Ao c];omega
def size_pos:∀t:Tr,1<=size t:=by intro t;cases t<;>simp[size]
end
end Go.Nm
