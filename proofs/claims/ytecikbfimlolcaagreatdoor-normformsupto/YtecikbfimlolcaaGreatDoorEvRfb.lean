/- Queries: how their parts are compared. Queries: copies of lists. Queries in memory; copies of queries. -/
import Derived.Test.YtecikbfimlolcaaGreatDoorEvRfa
import Derived.Test.YtecikbfimlolcaaGreatDoorEvQb
set_option maxRecDepth 100000
set_option linter.unusedSimpArgs false
set_option linter.unusedVariables false
namespace Go.Proofs
open Go Go.Ev Go.Nm
theorem tk32:tk Tryz.prog 32=.struct [(3,0),(3,1),(9,2)]:=by kernel_rfl
theorem tk33:tk Tryz.prog 33=.array 2 3 1:=by kernel_rfl
theorem tk9:tk Tryz.prog 9=.string:=by kernel_rfl
theorem ld3:Fh Tryz.prog 3=some none:=by kernel_rfl
theorem ld9:Fh Tryz.prog 9=some none:=by kernel_rfl
theorem gd32:eqGuardOk Tryz.prog 32=true:=by kernel_rfl
theorem gd33:eqGuardOk Tryz.prog 33=true:=by kernel_rfl
theorem aeq3 (d:Nat) (a b:Int):aeq Tryz.prog (d+1) 3 (.int .i64 a) (.int .i64 b)=some (decide (a=b)):=by
 show Dm _ _ _ _ _=_
 unfold Dm
 rw [tk3,<- Sx.ieq_dec]
 rfl
theorem aeq9 (d:Nat) (a b:List Nat):aeq Tryz.prog (d+1) 9 (.str a) (.str b)=some (decide (a=b)):=by
 show Dm _ _ _ _ _=_
 unfold Dm
 rw [tk9,<- Sx.strEq_dec]
 rfl
theorem aeq32 (x y:Nd):aeq Tryz.prog 20 32 (.agg (Bq x)) (.agg (Bq y))=some (decide (x=y)):=by
 show Dm _ _ _ _ _=_
 unfold Dm
 rw [tk32]
 show aeqF _ _ [(3,0),(3,1),(9,2)] (Bq x) (Bq y)=_
 have p0:∀ z:Nd,partA Tryz.prog 3 (Bq z) 0=some (.int .i64 z.op):=fun z=>by unfold partA;rw [ld3];rfl
 have p1:∀ z:Nd,partA Tryz.prog 3 (Bq z) 1=some (.int .i64 z.n):=fun z=>by unfold partA;rw [ld3];rfl
 have p2:∀ z:Nd,partA Tryz.prog 9 (Bq z) 2=some (.str z.col):=fun z=>by unfold partA;rw [ld9];rfl
 obtain ⟨a,b,c⟩:=x
 obtain ⟨a',b',c'⟩:=y
 simp only [aeqF,p0,p1,p2,aeq3,aeq9]
 by_cases h1:a=a'
 . by_cases h2:b=b'
   . by_cases h3:c=c'<;>simp [h1,h2,h3]
   . simp [h1,h2]
 . simp [h1]
abbrev okC (x:Int × Int):List AV:=[.int .i64 x.1,.int .i64 x.2]
theorem aeq33 (x y:Int × Int):aeq Tryz.prog 20 33 (.agg (okC x)) (.agg (okC y))=some (decide (x=y)):=by
 show Dm _ _ _ _ _=_
 unfold Dm
 rw [tk33]
 show aeqA _ _ 3 1 2 0 (okC x) (okC y)=_
 have p0:∀ z:Int × Int,partA Tryz.prog 3 (okC z) 0=some (.int .i64 z.1):=fun z=>by unfold partA;rw [ld3];rfl
 have p1:∀ z:Int × Int,partA Tryz.prog 3 (okC z) 1=some (.int .i64 z.2):=fun z=>by unfold partA;rw [ld3];rfl
 obtain ⟨a,b⟩:=x
 obtain ⟨a',b'⟩:=y
 simp only [aeqA,p0,p1,aeq3,Nat.zero_mul,Nat.zero_add,Nat.one_mul]
 by_cases h1:a=a'
 . by_cases h2:b=b'<;>simp [h1,h2]
 . simp [h1]
theorem neq32 (x y:Nd) (h:H):Al Tryz.prog .neq 32 false (.agg (Bq x)) (.agg (Bq y)) h=.ok (.bool (decide (x≠y))) h:=by
 show binEq true Tryz.prog 32 (.agg (Bq x)) (.agg (Bq y)) false h=_
 unfold binEq
 show Bool.rec (motive:=fun _=>OR) _ _ (eqGuardOk Tryz.prog 32)=_
 rw [gd32,aeq32]
 by_cases h1:x=y<;>simp [h1]
theorem neq33 (x y:Int × Int) (h:H):Al Tryz.prog .neq 33 false (.agg (okC x)) (.agg (okC y)) h=.ok (.bool (decide (x≠y))) h:=by
 show binEq true Tryz.prog 33 (.agg (okC x)) (.agg (okC y)) false h=_
 unfold binEq
 have e:eqAsk Tryz.prog 33 false (eqCls (AV.agg (okC x))) (eqCls (AV.agg (okC y)))=true:=gd33
 rw [e,aeq33]
 by_cases h1:x=y<;>simp [h1]
attribute [local irreducible] Aa Aj Ah Ac
variable (ctx:Ae) (N:Nat)
abbrev OkS (h:H) (v:AV) (l:List (Int × Int)):Prop:=Sx.SlF 2 okC h v l
theorem okc2 (x:Int × Int):(okC x).length=2:=rfl
theorem ok_get {l:List (Int × Int)} {i:Nat} {x:Int × Int} {h:H} {v:AV} (hv:OkS h v l) (hi:l[i]?=some x):∃ b p,(∀ h1,E3 2 v (.int .i64 (i:Int)) h1=.ok (.ptr b p) h1)/\(∀ hh,Sx.A9 h hh->Ad (some (some 2)) (.ptr b p) hh=.ok (.agg (okC x)) hh):=by
 obtain ⟨b,p,e⟩:=Sx.SlF.elem okc2 hv hi
 exact ⟨b,p,e.ia,e.all⟩
theorem loop33 (l m:List Nd) (hl:l.length<=3000) (hlm:l.length=m.length) {h0:H} {v w:AV} (hv:NdS h0 v l) (hw:NdS h0 w m):
 ∀ (rest rest2 pre pre2:List Nd) (h:H) (f0:L2) (n1:Nat),l=pre++rest->m=pre2++rest2->pre2.length=pre.length->rest.length+1<=n1->Sx.Ai h0 h ->
  Sx.Af h0 (fun r _=>r=.bool (decide (rest=rest2))) (L33x1 ctx N n1 v w (.int .i64 (pre.length:Int)) f0 h):=by
 have hlen1:∀ hh,Ft v hh=.ok (.int .i64 (l.length:Int)) hh:=fun _=>hv.lenL
 intro rest
 induction rest with
 |nil=>
  intro rest2 pre pre2 h f0 n1 hp hp2 hpl hn he
  obtain ⟨n2,rfl⟩:∃ n2,n1=n2+1:=⟨n1 - 1,by omega⟩
  have hll:l.length=pre.length:=by rw [hp];simp
  have hr2:rest2=[]:=by
   have:m.length=pre.length+rest2.length:=by rw [hp2];simp [hpl]
   exact List.length_eq_zero_iff.1 (by omega)
  subst hr2
  clear hv hw hp hp2 hlm
  rw [L33x1s]
  repeat' (first|with_reducible (first|apply A3|apply A4|apply A5|apply A6)|(with_reducible (first|apply Cq|apply Cr|apply Cs|apply Ct);(conv=>lhs;simp (disch:=first|exact dA|fail) [lw, *,hlen1,hll]);with_reducible (first|apply A3|apply A4|apply A5|apply A6|apply Cn|(refine Co (by simp) ?_)|(apply Cp<;>intro hc<;>(try simp only [Ar] at hc)<;>(try (exfalso;omega)))))|(with_reducible (first|apply Cu|apply Cv|apply Cw|apply Cx)<;>intro hc<;>(try simp only [Ar] at hc)<;>(try (exfalso;omega))))
  all_goals (refine zr ?_ ?_;exact Ak;exact specA)
 |cons x rest ih=>
  intro rest2 pre pre2 h f0 n1 hp hp2 hpl hn he
  obtain ⟨n2,rfl⟩:∃ n2,n1=n2+1:=⟨n1 - 1,by omega⟩
  have hll:l.length=pre.length+(rest.length+1):=by rw [hp];simp
  have hml:m.length=pre.length+rest2.length:=by rw [hp2];simp [hpl]
  obtain ⟨b,p,p1,p2,-,-,-⟩:=nd_get hv (i:=pre.length) (x:=x) (by rw [hp];simp)
  cases rest2 with
  |nil=>simp at hml;omega
  |cons y rest2=>
   obtain ⟨b2,o2,q1,q2,-,-,-⟩:=nd_get hw (i:=pre.length) (x:=y) (by rw [hp2,<- hpl];simp)
   have hneq:∀ hh,Al Tryz.prog .neq 32 false (.agg (Bq x)) (.agg (Bq y)) hh=.ok (.bool (decide (x≠y))) hh:=neq32 x y
   by_cases hxy:x=y
   . have hgo:=ih rest2 (pre++[x]) (pre2++[y])
     have hd:decide (x≠y)=false:=by simp [hxy]
     rw [hd] at hneq
     have hs:decide (x::rest=y::rest2)=decide (rest=rest2):=by simp [hxy]
     rw [hs]
     replace ih:True:=trivial
     replace hgo:Dl _:=hgo
     have hp':Dl (l=(pre++[x])++rest):=(by rw [hp];simp:l=(pre++[x])++rest)
     have hp2':Dl (m=(pre2++[y])++rest2):=(by rw [hp2];simp:m=(pre2++[y])++rest2)
     have hlt:(pre.length:Int)<(l.length:Int):=by omega
     clear hp hp2 hxy hs hd hll hv hw hlm
     generalize Bq x=X at *
     generalize Bq y=Y at *
     rw [L33x1s]
     repeat' (first|with_reducible (first|apply A3|apply A4|apply A5|apply A6)|(with_reducible (first|apply Cq|apply Cr|apply Cs|apply Ct);(conv=>lhs;simp (disch:=first|exact dA|fail) [lw, *,hlen1,hlt,hneq]);with_reducible (first|apply A3|apply A4|apply A5|apply A6|apply Cn|(refine Co (by simp) ?_)|(apply Cp<;>intro hc<;>(try simp only [Ar] at hc)<;>(try (exfalso;omega)))))|(with_reducible (first|apply Cu|apply Cv|apply Cw|apply Cx)<;>intro hc<;>(try simp only [Ar] at hc)<;>(try (exfalso;omega))))
     have hcast:(pre.length:Int)+1=((pre++[x]).length:Int):=by simp
     rw [hcast]
     exact hgo _ _ n2 hp' hp2' (by simp [hpl]) (by simp at hn;omega) Ak
   . have hd:decide (x≠y)=true:=by simp [hxy]
     rw [hd] at hneq
     have hs:decide (x::rest=y::rest2)=false:=by simp [hxy]
     rw [hs]
     have hlt:(pre.length:Int)<(l.length:Int):=by omega
     clear hp hp2 hxy hs hd hll hv hw hlm ih
     generalize Bq x=X at *
     generalize Bq y=Y at *
     rw [L33x1s]
     repeat' (first|with_reducible (first|apply A3|apply A4|apply A5|apply A6)|(with_reducible (first|apply Cq|apply Cr|apply Cs|apply Ct);(conv=>lhs;simp (disch:=first|exact dA|fail) [lw, *,hlen1,hlt,hneq]);with_reducible (first|apply A3|apply A4|apply A5|apply A6|apply Cn|(refine Co (by simp) ?_)|(apply Cp<;>intro hc<;>(try simp only [Ar] at hc)<;>(try (exfalso;omega)))))|(with_reducible (first|apply Cu|apply Cv|apply Cw|apply Cx)<;>intro hc<;>(try simp only [Ar] at hc)<;>(try (exfalso;omega))))
     all_goals (refine zr ?_ ?_;exact Ak;exact specA)
def R33:Prop:=∀ (l m:List Nd) (v w:AV) (h:H),NdS h v l->NdS h w m->l.length<=3000->m.length<=3000->Sx.Af h (fun r _=>r=.bool (decide (l=m))) (ctx.call 33 [v,w] h)
theorem r33 (hN:3001<=N) (l m:List Nd) (v w:AV) (h:H) (hv:NdS h v l) (hw:NdS h w m) (hl:l.length<=3000) (hm:m.length<=3000):Sx.Af h (fun r _=>r=.bool (decide (l=m))) (An Tryz.prog ctx N true 33 [v,w] h):=by
 rw [e33]
 have hlen1:∀ hh,Ft v hh=.ok (.int .i64 (l.length:Int)) hh:=fun _=>hv.lenL
 have hlen2:∀ hh,Ft w hh=.ok (.int .i64 (m.length:Int)) hh:=fun _=>hw.lenL
 by_cases hlm:l.length=m.length
 . have hloop:=loop33 ctx N l m hl hlm hv hw l m [] [] h (fr As [(4,(.bool false)),(6,v),(7,.int .i64 (l.length:Int)),(8,w),(9,.int .i64 (m.length:Int)),(10,.bool false)]) N rfl rfl rfl (by omega) (Sx.Ai.refl h)
   replace hloop:=(show Dl _ from hloop)
   have hlm':(l.length:Int)=(m.length:Int):=by omega
   repeat' (first|with_reducible (first|apply A3|apply A4|apply A5|apply A6)|(with_reducible (first|apply Cq|apply Cr|apply Cs|apply Ct);(conv=>lhs;simp (disch:=first|exact dA|fail) [lw, *,hlen1,hlen2,hlm']);with_reducible (first|apply A3|apply A4|apply A5|apply A6|apply Cn|(refine Co (by simp) ?_)|(apply Cp<;>intro hc<;>(try simp only [Ar] at hc)<;>(try (exfalso;omega)))))|(with_reducible (first|apply Cu|apply Cv|apply Cw|apply Cx)<;>intro hc<;>(try simp only [Ar] at hc)<;>(try (exfalso;omega))))
   rw [<- hlm] at *
   exact hloop
 . have hlm':¬ (l.length:Int)=(m.length:Int):=by omega
   have hs:decide (l=m)=false:=by
    rw [decide_eq_false_iff_not]
    intro hh
    exact hlm (by rw [hh])
   rw [hs]
   repeat' (first|with_reducible (first|apply A3|apply A4|apply A5|apply A6)|(with_reducible (first|apply Cq|apply Cr|apply Cs|apply Ct);(conv=>lhs;simp (disch:=first|exact dA|fail) [lw, *,hlen1,hlen2,hlm']);with_reducible (first|apply A3|apply A4|apply A5|apply A6|apply Cn|(refine Co (by simp) ?_)|(apply Cp<;>intro hc<;>(try simp only [Ar] at hc)<;>(try (exfalso;omega)))))|(with_reducible (first|apply Cu|apply Cv|apply Cw|apply Cx)<;>intro hc<;>(try simp only [Ar] at hc)<;>(try (exfalso;omega))))
   all_goals (refine zr ?_ ?_;exact Ak;exact specA)
theorem loop36 (l m:List (Int × Int)) (hl:l.length<=3000) (hlm:l.length=m.length) {h0:H} {v w:AV} (hv:OkS h0 v l) (hw:OkS h0 w m):
 ∀ (rest rest2 pre pre2:List (Int × Int)) (h:H) (f0:L2) (n1:Nat),l=pre++rest->m=pre2++rest2->pre2.length=pre.length->rest.length+1<=n1->Sx.Ai h0 h ->
  Sx.Af h0 (fun r _=>r=.bool (decide (rest=rest2))) (L36x1 ctx N n1 v w (.int .i64 (pre.length:Int)) f0 h):=by
 have hlen1:∀ hh,Ft v hh=.ok (.int .i64 (l.length:Int)) hh:=fun _=>hv.lenL
 intro rest
 induction rest with
 |nil=>
  intro rest2 pre pre2 h f0 n1 hp hp2 hpl hn he
  obtain ⟨n2,rfl⟩:∃ n2,n1=n2+1:=⟨n1 - 1,by omega⟩
  have hll:l.length=pre.length:=by rw [hp];simp
  have hr2:rest2=[]:=by
   have:m.length=pre.length+rest2.length:=by rw [hp2];simp [hpl]
   exact List.length_eq_zero_iff.1 (by omega)
  subst hr2
  clear hv hw hp hp2 hlm
  rw [L36x1s]
  repeat' (first|with_reducible (first|apply A3|apply A4|apply A5|apply A6)|(with_reducible (first|apply Cq|apply Cr|apply Cs|apply Ct);(conv=>lhs;simp (disch:=first|exact dA|fail) [lw, *,hlen1,hll]);with_reducible (first|apply A3|apply A4|apply A5|apply A6|apply Cn|(refine Co (by simp) ?_)|(apply Cp<;>intro hc<;>(try simp only [Ar] at hc)<;>(try (exfalso;omega)))))|(with_reducible (first|apply Cu|apply Cv|apply Cw|apply Cx)<;>intro hc<;>(try simp only [Ar] at hc)<;>(try (exfalso;omega))))
  all_goals (refine zr ?_ ?_;exact Ak;exact specA)
 |cons x rest ih=>
  intro rest2 pre pre2 h f0 n1 hp hp2 hpl hn he
  obtain ⟨n2,rfl⟩:∃ n2,n1=n2+1:=⟨n1 - 1,by omega⟩
  have hll:l.length=pre.length+(rest.length+1):=by rw [hp];simp
  have hml:m.length=pre.length+rest2.length:=by rw [hp2];simp [hpl]
  obtain ⟨b,p,p1,p2⟩:=ok_get hv (i:=pre.length) (x:=x) (by rw [hp];simp)
  cases rest2 with
  |nil=>simp at hml;omega
  |cons y rest2=>
   obtain ⟨b2,o2,q1,q2⟩:=ok_get hw (i:=pre.length) (x:=y) (by rw [hp2,<- hpl];simp)
   have hneq:∀ hh,Al Tryz.prog .neq 33 false (.agg (okC x)) (.agg (okC y)) hh=.ok (.bool (decide (x≠y))) hh:=neq33 x y
   by_cases hxy:x=y
   . have hgo:=ih rest2 (pre++[x]) (pre2++[y])
     have hd:decide (x≠y)=false:=by simp [hxy]
     rw [hd] at hneq
     have hs:decide (x::rest=y::rest2)=decide (rest=rest2):=by simp [hxy]
     rw [hs]
     replace ih:True:=trivial
     replace hgo:Dl _:=hgo
     have hp':Dl (l=(pre++[x])++rest):=(by rw [hp];simp:l=(pre++[x])++rest)
     have hp2':Dl (m=(pre2++[y])++rest2):=(by rw [hp2];simp:m=(pre2++[y])++rest2)
     have hlt:(pre.length:Int)<(l.length:Int):=by omega
     clear hp hp2 hxy hs hd hll hv hw hlm
     generalize okC x=X at *
     generalize okC y=Y at *
     rw [L36x1s]
     repeat' (first|with_reducible (first|apply A3|apply A4|apply A5|apply A6)|(with_reducible (first|apply Cq|apply Cr|apply Cs|apply Ct);(conv=>lhs;simp (disch:=first|exact dA|fail) [lw, *,hlen1,hlt,hneq]);with_reducible (first|apply A3|apply A4|apply A5|apply A6|apply Cn|(refine Co (by simp) ?_)|(apply Cp<;>intro hc<;>(try simp only [Ar] at hc)<;>(try (exfalso;omega)))))|(with_reducible (first|apply Cu|apply Cv|apply Cw|apply Cx)<;>intro hc<;>(try simp only [Ar] at hc)<;>(try (exfalso;omega))))
     have hcast:(pre.length:Int)+1=((pre++[x]).length:Int):=by simp
     rw [hcast]
     exact hgo _ _ n2 hp' hp2' (by simp [hpl]) (by simp at hn;omega) Ak
   . have hd:decide (x≠y)=true:=by simp [hxy]
     rw [hd] at hneq
     have hs:decide (x::rest=y::rest2)=false:=by simp [hxy]
     rw [hs]
     have hlt:(pre.length:Int)<(l.length:Int):=by omega
     clear hp hp2 hxy hs hd hll hv hw hlm ih
     generalize okC x=X at *
     generalize okC y=Y at *
     rw [L36x1s]
     repeat' (first|with_reducible (first|apply A3|apply A4|apply A5|apply A6)|(with_reducible (first|apply Cq|apply Cr|apply Cs|apply Ct);(conv=>lhs;simp (disch:=first|exact dA|fail) [lw, *,hlen1,hlt,hneq]);with_reducible (first|apply A3|apply A4|apply A5|apply A6|apply Cn|(refine Co (by simp) ?_)|(apply Cp<;>intro hc<;>(try simp only [Ar] at hc)<;>(try (exfalso;omega)))))|(with_reducible (first|apply Cu|apply Cv|apply Cw|apply Cx)<;>intro hc<;>(try simp only [Ar] at hc)<;>(try (exfalso;omega))))
     all_goals (refine zr ?_ ?_;exact Ak;exact specA)
def R36:Prop:=∀ (l m:List (Int × Int)) (v w:AV) (h:H),OkS h v l->OkS h w m->l.length<=3000->m.length<=3000->Sx.Af h (fun r _=>r=.bool (decide (l=m))) (ctx.call 36 [v,w] h)
theorem r36 (hN:3001<=N) (l m:List (Int × Int)) (v w:AV) (h:H) (hv:OkS h v l) (hw:OkS h w m) (hl:l.length<=3000) (hm:m.length<=3000):Sx.Af h (fun r _=>r=.bool (decide (l=m))) (An Tryz.prog ctx N true 36 [v,w] h):=by
 rw [e36]
 have hlen1:∀ hh,Ft v hh=.ok (.int .i64 (l.length:Int)) hh:=fun _=>hv.lenL
 have hlen2:∀ hh,Ft w hh=.ok (.int .i64 (m.length:Int)) hh:=fun _=>hw.lenL
 by_cases hlm:l.length=m.length
 . have hloop:=loop36 ctx N l m hl hlm hv hw l m [] [] h (fr As [(4,(.bool false)),(6,v),(7,.int .i64 (l.length:Int)),(8,w),(9,.int .i64 (m.length:Int)),(10,.bool false)]) N rfl rfl rfl (by omega) (Sx.Ai.refl h)
   replace hloop:=(show Dl _ from hloop)
   have hlm':(l.length:Int)=(m.length:Int):=by omega
   repeat' (first|with_reducible (first|apply A3|apply A4|apply A5|apply A6)|(with_reducible (first|apply Cq|apply Cr|apply Cs|apply Ct);(conv=>lhs;simp (disch:=first|exact dA|fail) [lw, *,hlen1,hlen2,hlm']);with_reducible (first|apply A3|apply A4|apply A5|apply A6|apply Cn|(refine Co (by simp) ?_)|(apply Cp<;>intro hc<;>(try simp only [Ar] at hc)<;>(try (exfalso;omega)))))|(with_reducible (first|apply Cu|apply Cv|apply Cw|apply Cx)<;>intro hc<;>(try simp only [Ar] at hc)<;>(try (exfalso;omega))))
   rw [<- hlm] at *
   exact hloop
 . have hlm':¬ (l.length:Int)=(m.length:Int):=by omega
   have hs:decide (l=m)=false:=by
    rw [decide_eq_false_iff_not]
    intro hh
    exact hlm (by rw [hh])
   rw [hs]
   repeat' (first|with_reducible (first|apply A3|apply A4|apply A5|apply A6)|(with_reducible (first|apply Cq|apply Cr|apply Cs|apply Ct);(conv=>lhs;simp (disch:=first|exact dA|fail) [lw, *,hlen1,hlen2,hlm']);with_reducible (first|apply A3|apply A4|apply A5|apply A6|apply Cn|(refine Co (by simp) ?_)|(apply Cp<;>intro hc<;>(try simp only [Ar] at hc)<;>(try (exfalso;omega)))))|(with_reducible (first|apply Cu|apply Cv|apply Cw|apply Cx)<;>intro hc<;>(try simp only [Ar] at hc)<;>(try (exfalso;omega))))
   all_goals (refine zr ?_ ?_;exact Ak;exact specA)
end Go.Proofs
namespace Go.Proofs
open Go Go.Ev Go.Nm
attribute [local irreducible] Aa Aj Ah Ac
variable (ctx:Ae) (N:Nat)
def Beh (s lo:Nat) (v:AV):Prop:=∀ b off len cap z ex,v=.sl b off len cap z ex->0<len->lo<=b
theorem Beh.mono {s lo lo':Nat} {v:AV} (hl:Beh s lo v) (hh:lo'<=lo):Beh s lo' v:=fun b off len cap z ex hv h0=>Nat.le_trans hh (hl b off len cap z ex hv h0)
theorem Beh.Cb (s lo:Nat):Beh s lo .Cb:=fun b off len cap z ex hv=>by cases hv
theorem Beh.own {s lo len:Nat} {et:TypeId} {h:H} {v:AV} {c:List AV} (ho:Sx.Own s lo et h v len c):Beh s lo v:=by
 intro b off len' cap z ex hv h0
 rcases ho with ⟨_,_,h1⟩|⟨_,_,b',off',cs,h1,_⟩|⟨b',k,st,h1,q2,q3,q4,_⟩
 . rw [h1] at hv;cases hv
 . rw [h1] at hv;cases hv;exact absurd h0 (by omega)
 . rw [h1] at hv;cases hv;exact q4
def etOf:Nat->TypeId
 |3=>32
 |_=>33
theorem Wr.gr {s lo len:Nat} {et:TypeId} {h h1:H} {v:AV} (hw:Wr s et lo h v len) (e:Sx.Ai h h1):Wr s et lo h1 v len:=by
 rcases hw with h1'|⟨b,off,cap,ex,cs,k,h1',h2,h3,h4,h5,h6⟩
 . exact .inl h1'
 . have:=e.lo
   refine .inr ⟨b,off,cap,ex,cs,k,h1',by rw [e.old b h5];exact h2,h3,h4,by omega,?_⟩
   rcases h6 with h6|⟨c,st,h6,h7,h8,h9,h10⟩
   . exact .inl h6
   . exact .inr ⟨c,st,h6,by rw [e.old c h9];exact h7,h8,by omega,h10⟩
theorem Wr.put {s lo len c:Nat} {et:TypeId} {h:H} {v:AV} {o:AO} (hw:Wr s et lo h v len) (hc:c<lo):Wr s et lo (h.put c o) v len:=by
 rcases hw with h1'|⟨b,off,cap,ex,cs,k,h1',h2,h3,h4,h5,h6⟩
 . exact .inl h1'
 . refine .inr ⟨b,off,cap,ex,cs,k,h1',by rw [Sx.B0 _ _ _ (by omega)];exact h2,h3,h4,h5,?_⟩
   rcases h6 with h6|⟨c',st,h6,h7,h8,h9,h10⟩
   . exact .inl h6
   . exact .inr ⟨c',st,h6,by rw [Sx.B0 _ _ _ (by omega)];exact h7,h8,h9,h10⟩
theorem Wr.own {s lo len:Nat} {et:TypeId} {h:H} {v:AV} {c:List AV} (ho:Sx.Own s lo et h v len c):Wr s et lo h v len:=by
 rcases ho with ⟨h0,_⟩|⟨h0,_⟩|⟨b,k,st,h1,q2,q3,q4,q5,q6,q7,q8,q9⟩
 . exact .inl h0
 . exact .inl h0
 . exact .inr ⟨b,0,len,false,c,.Fz k,h1,q2,by omega,q4,q6,.inr ⟨k,st,rfl,q3,q5,q7,fun hh=>q8 hh.symm⟩⟩
structure Safe (s lo:Nat) (h:H) (v:AV) (len:Nat) (c:List AV):Prop where
 sl:Sx.Sl s h v len c
 beh:Beh s lo v
 wr:Wr s (etOf s) lo h v len
theorem Safe.nil {s lo len:Nat} {h:H} {c:List AV} (h1:len=0) (h2:c=[]):Safe s lo h .Cb len c:=⟨.inl ⟨h1,h2,rfl⟩,Beh.Cb s lo,.inl h1⟩
theorem Safe.own {s lo len:Nat} {h:H} {v:AV} {c:List AV} (ho:Sx.Own s lo (etOf s) h v len c):Safe s lo h v len c:=⟨ho.sl,Beh.own ho,Wr.own ho⟩
theorem Safe.base {s lo len:Nat} {h h1:H} {v:AV} {c:List AV} (hs:Safe s lo h v len c) (e:Sx.Ai h h1):Safe s lo h1 v len c:=⟨hs.sl.B2 e.keeps,hs.beh,hs.wr.gr e⟩
theorem Safe.weak {s lo lo1 len:Nat} {h:H} {v:AV} {c:List AV} (hs:Safe s lo1 h v len c) (hl:lo<=lo1):Safe s lo h v len c:=⟨hs.sl,hs.beh.mono hl,hs.wr.mono hl⟩
theorem Safe.nl {s lo len:Nat} {h:H} {v:AV} {c:List AV} (hs:Safe s lo h v len c):Safe s lo (Ab h) v len c:=hs.base (Sx.Ai.refl h).nl
theorem Safe.rl {s lo len:Nat} {h:H} {v:AV} {c:List AV} {l:List Nat} (hs:Safe s lo h v len c):Safe s lo (Ap l h) v len c:=⟨hs.sl.B2 ((Sx.A9.refl h).Ap l),hs.beh,hs.wr⟩
theorem Safe.new {s lo len:Nat} {h:H} {v:AV} {c:List AV} {o:AO} (hs:Safe s lo h v len c):Safe s lo (h.new o) v len c:=hs.base ((Sx.Ai.refl h).new o)
theorem Sl.putC {s c len:Nat} {h:H} {v:AV} {cs l l0:List AV} {e0 e1:TypeId} (hs:Sx.Sl s h v len cs) (hg:h.m.get c=.cells l0 e0 .exact) (hl:l.length=l0.length) (hne:0<len->∀ b off n cap z ex,v=.sl b off n cap z ex->b≠c):Sx.Sl s (h.put c (.cells l e1 .exact)) v len cs:=by
 rcases hs with h1|⟨b,off,cap,ex,bs,rfl,q2,q3,q4,q5⟩
 . exact .inl h1
 . by_cases hb:b=c
   . subst hb
     obtain ⟨e,k,q6,q7⟩:=q3.cells
     rw [hg] at q6
     cases q6
     rcases Nat.eq_zero_or_pos len with h0|h0
     . subst h0
       refine .inr ⟨b,off,cap,ex,l,rfl,q2,⟨q3.lt,_,.exact,Sx.Fw ..,trivial⟩,by omega,?_⟩
       rw [<- q5]
       simp
     . exact absurd rfl (hne h0 b off len cap s ex rfl)
   . refine .inr ⟨b,off,cap,ex,bs,rfl,q2,⟨q3.lt,?_⟩,q4,q5⟩
     obtain ⟨e,k,q6,q7⟩:=q3.cells
     refine ⟨e,k,by rw [Sx.B0 _ _ _ hb];exact q6,?_⟩
     cases k with
     |old k st=>
      have hk:k≠c:=fun hh=>by have:=q7.2;rw [hh,hg] at this;cases this
      exact ⟨q7.1,by rw [Sx.B0 _ _ _ hk];exact q7.2⟩
     |_=>trivial
def isC (n:Nat):AO->Bool
 |.cells l _ .exact=>Nat.beq l.length n
 |_=>false
@[simp] theorem isC_cells (n:Nat) (l:List AV) (e:TypeId):isC n (.cells l e .exact)=Nat.beq l.length n:=rfl
theorem isC_get {n:Nat} {o:AO} (hh:isC n o=true):∃ l e,o=.cells l e .exact/\n=l.length:=by
 match o,hh with
 |.cells l e .exact,hh=>exact ⟨l,e,rfl,(Nat.eq_of_beq_eq_true hh).symm⟩
theorem Safe.put {s lo c len:Nat} {h:H} {v:AV} {cs l:List AV} {e1:TypeId} (hs:Safe s lo h v len cs) (hc:c<lo) (hg:isC l.length (h.m.get c)=true):Safe s lo (h.put c (.cells l e1 .exact)) v len cs:=by
 obtain ⟨l0,e0,hg,hl⟩:=isC_get hg
 refine ⟨Sl.putC hs.sl hg hl fun h0 b off n cap z ex hv=>?_,hs.beh,hs.wr.put hc⟩
 rcases hs.sl with ⟨_,_,h1⟩|⟨b',off',cap',ex',bs,h1,q2,_⟩
 . rw [h1] at hv;cases hv
 . have h2:=hs.beh b off n cap z ex hv
   rw [h1] at hv
   cases hv
   have:=h2 h0
   omega
abbrev FrN (lo:Nat) (h:H) (v:AV) (l:List Nd):Prop:=Safe 3 lo h v l.length (l.flatMap Bq)
abbrev FrO (lo:Nat) (h:H) (v:AV) (l:List (Int × Int)):Prop:=Safe 2 lo h v l.length (l.flatMap okC)
theorem NdO.fr {lo:Nat} {h:H} {v:AV} {l:List Nd} (ho:NdO lo h v l):FrN lo h v l:=Safe.own ho
theorem one_ok:∀ l:List (Int × Int),Bn (l.flatMap okC)=true
 |[]=>rfl
 |x::l=>by
  have ih:=one_ok l
  simp [ih]
def R22:Prop:=∀ (l:List Nd) (v:AV) (h:H),NdS h v l->l.length<=10000000->Sx.Af h (fun r h1=>NdO h.nx h1 r l) (ctx.call 22 [v] h)
def R25:Prop:=∀ (l:List (Int × Int)) (v:AV) (h:H),OkS h v l->l.length<=10000000->Sx.Af h (fun r h1=>FrO h.nx h1 r l) (ctx.call 25 [v] h)
def R26:Prop:=∀ (l:List Nd) (v:AV) (h:H),NdS h v l->l.length<=10000000->Sx.Af h (fun r h1=>FrN h.nx h1 r l) (ctx.call 26 [v] h)
def R27:Prop:=∀ (l:List (Int × Int)) (v:AV) (h:H),OkS h v l->l.length<=10000000->Sx.Af h (fun r h1=>FrO h.nx h1 r l) (ctx.call 27 [v] h)
theorem cp {s bytes lo:Nat} {et:TypeId} {h:H} {v:AV} {len:Nat} {c:List AV} (hb:len * (bytes+1)<1000000000000) (hv:Sx.Sl s h v len c) (h1:Bn c=true) (hlo:lo<=h.nx):
 ∃ w h',xApp et s bytes (.sl h.nx 0 0 0 s true) v (h.new (.cells [] et .exact))=.ok w h'/\Sx.Ai h h'/\Sx.Own s lo et h' w len c:=by
 have e:Sx.Ai h (h.new (.cells [] et .exact)):=(Sx.Ai.refl h).new _
 have hv':=hv.B2 e.keeps
 obtain ⟨w,h',q1,q2,q3⟩:=Sx.app_from_empty (h:=h.new (.cells [] et .exact)) (b:=h.nx) (off:=0) (cs:=[]) (bytes:=bytes) (et:=et) (lo:=lo) ⟨by show h.nx<h.nx+1;omega,et,.exact,Sx.Eh _,trivial⟩ (Nat.le_refl _) hv'.src hv'.clen hb h1 (by show lo<=h.nx+1;omega)
 exact ⟨w,h',q1,e.trans q2,q3⟩
theorem r22 (l:List Nd) (v:AV) (h:H) (hv:NdS h v l) (hl:l.length<=10000000):Sx.Af h (fun r h1=>NdO h.nx h1 r l) (An Tryz.prog ctx N true 22 [v] h):=by
 rw [e22]
 obtain ⟨w,h',q1,q2,q3⟩:=cp (bytes:=32) (et:=32) (lo:=h.nx) (by omega) hv (one_flat l) (Nat.le_refl _)
 refine Sx.B8 (v:=.sl h.nx 0 0 0 3 true) (h:=h.new (.cells [] 32 .exact)) rfl ?_
 exact Sx.B8 q1 (Sx.Cj q2 q3)
theorem r25 (l:List (Int × Int)) (v:AV) (h:H) (hv:OkS h v l) (hl:l.length<=10000000):Sx.Af h (fun r h1=>FrO h.nx h1 r l) (An Tryz.prog ctx N true 25 [v] h):=by
 rw [e25]
 obtain ⟨w,h',q1,q2,q3⟩:=cp (bytes:=16) (et:=33) (lo:=h.nx) (by omega) hv (one_ok l) (Nat.le_refl _)
 refine Sx.B8 (v:=.sl h.nx 0 0 0 2 true) (h:=h.new (.cells [] 33 .exact)) rfl ?_
 exact Sx.B8 q1 (Sx.Cj q2 (Safe.own q3))
theorem eqn22 (h:H):Al Tryz.prog .eql 22 true .Cb .Cb h=.ok (.bool true) h:=by kernel_rfl
theorem eqs22 (b o l c s:Nat) (ex:Bool) (h:H):Al Tryz.prog .eql 22 true (.sl b o l c s ex) .Cb h=.ok (.bool false) h:=by kernel_rfl
theorem eqn23 (h:H):Al Tryz.prog .eql 23 true .Cb .Cb h=.ok (.bool true) h:=by kernel_rfl
theorem eqs23 (b o l c s:Nat) (ex:Bool) (h:H):Al Tryz.prog .eql 23 true (.sl b o l c s ex) .Cb h=.ok (.bool false) h:=by kernel_rfl
theorem r26 (l:List Nd) (v:AV) (h:H) (hv:NdS h v l) (hl:l.length<=10000000):Sx.Af h (fun r h1=>FrN h.nx h1 r l) (An Tryz.prog ctx N true 26 [v] h):=by
 rw [e26]
 rcases hv with ⟨h1,h2,rfl⟩|⟨b,off,cap,ex,cs,rfl,h2⟩
 . refine Sx.B8 (eqn22 h) (Sx.gv_cond_t ?_)
   exact Sx.Cj (Sx.Ai.refl h) (Safe.nil h1 h2)
 . obtain ⟨w,h',q1,q2,q3⟩:=cp (bytes:=32) (et:=32) (lo:=h.nx) (by omega) (show NdS h _ l from .inr ⟨b,off,cap,ex,cs,rfl,h2⟩) (one_flat l) (Nat.le_refl _)
   refine Sx.B8 (eqs22 ..) (Sx.gv_cond_f ?_)
   refine Sx.B8 (v:=.sl h.nx 0 0 0 3 true) (h:=h.new (.cells [] 32 .exact)) rfl ?_
   exact Sx.B8 q1 (Sx.Cj q2 (Safe.own q3))
theorem r27 (l:List (Int × Int)) (v:AV) (h:H) (hv:OkS h v l) (hl:l.length<=10000000):Sx.Af h (fun r h1=>FrO h.nx h1 r l) (An Tryz.prog ctx N true 27 [v] h):=by
 rw [e27]
 rcases hv with ⟨h1,h2,rfl⟩|⟨b,off,cap,ex,cs,rfl,h2⟩
 . refine Sx.B8 (eqn23 h) (Sx.gv_cond_t ?_)
   exact Sx.Cj (Sx.Ai.refl h) (Safe.nil h1 h2)
 . obtain ⟨w,h',q1,q2,q3⟩:=cp (bytes:=16) (et:=33) (lo:=h.nx) (by omega) (show OkS h _ l from .inr ⟨b,off,cap,ex,cs,rfl,h2⟩) (one_ok l) (Nat.le_refl _)
   refine Sx.B8 (eqs23 ..) (Sx.gv_cond_f ?_)
   refine Sx.B8 (v:=.sl h.nx 0 0 0 2 true) (h:=h.new (.cells [] 33 .exact)) rfl ?_
   exact Sx.B8 q1 (Sx.Cj q2 (Safe.own q3))
theorem Fq {s lo len:Nat} {h:H} {v:AV} {c:List AV} (q:Safe s lo h v len c:=by first|(apply Safe.weak;(focus (repeat' (first|with_reducible apply Safe.nl|with_reducible apply Safe.rl|with_reducible apply Safe.new|with_reducible apply Safe.put|(refine Safe.base (by assumption) ?_;exact Ak)|(apply Safe.base;rotate_left;assumption)|exact Ch|exact Ep|fail)));exact Ch)|fail):Safe s lo h v len c:=q
end Go.Proofs
namespace Go.Proofs
open Go Go.Ev Go.Nm
attribute [local irreducible] Aa Aj Ah Ac
variable (ctx:Ae) (N:Nat)
structure Qr where
 c0:Int
 code:List Nd
 c2:Int
 c3:Int
 c4:Int
 c5:Int
 s6:List Nat
 c7:Int
 ord:List (Int × Int)
 c9:Int
 b10:Bool
 s11:List Nat
 c12:Int
 s13:List Nat
 s14:List Nat
 s15:List Nat
 c16:Int
 mat:List Nd
 s18:List Nat
 c19:Int
abbrev qc (q:Qr) (vc vo vm:AV):List AV:=[.int .i64 q.c0,vc,.int .i64 q.c2,.int .i64 q.c3,.int .i64 q.c4,.int .i64 q.c5,.str q.s6,.int .i64 q.c7,vo,.int .i64 q.c9,.bool q.b10,.str q.s11,.int .i64 q.c12,.str q.s13,.str q.s14,.str q.s15,.int .i64 q.c16,vm,.str q.s18,.int .i64 q.c19]
structure QV (h:H) (q:Qr) (vc vo vm:AV):Prop where
 c:NdS h vc q.code
 o:OkS h vo q.ord
 m:NdS h vm q.mat
theorem QV.B2 {h h1:H} {q:Qr} {vc vo vm:AV} (hq:QV h q vc vo vm) (e:Sx.A9 h h1):QV h1 q vc vo vm:=⟨hq.c.B2 e,hq.o.B2 e,hq.m.B2 e⟩
structure QS (lo:Nat) (h:H) (q:Qr) (vc vo vm:AV):Prop where
 c:FrN lo h vc q.code
 o:FrO lo h vo q.ord
 m:FrN lo h vm q.mat
theorem QS.qv {lo:Nat} {h:H} {q:Qr} {vc vo vm:AV} (hq:QS lo h q vc vo vm):QV h q vc vo vm:=⟨hq.c.sl,hq.o.sl,hq.m.sl⟩
def QOut (lo:Nat) (q:Qr) (r:AV) (h:H):Prop:=∃ vc vo vm,r=.agg (qc q vc vo vm)/\QS lo h q vc vo vm
def R9:Prop:=∀ (q:Qr) (vc vo vm:AV) (h:H),QV h q vc vo vm->q.code.length<=3000->q.ord.length<=3000->q.mat.length<=3000->Sx.Af h (QOut h.nx q) (ctx.call 9 [.agg (qc q vc vo vm)] h)
theorem r9 (h22:R22 ctx) (h25:R25 ctx) (q:Qr) (vc vo vm:AV) (h:H) (hq:QV h q vc vo vm) (hl1:q.code.length<=3000) (hl2:q.ord.length<=3000) (hl3:q.mat.length<=3000):Sx.Af h (QOut h.nx q) (An Tryz.prog ctx N false 9 [.agg (qc q vc vo vm)] h):=by
 rw [e9]
 obtain ⟨hc,ho,hm⟩:=hq
 obtain ⟨oc1,oc2⟩:=Bc hc
 obtain ⟨oo1,oo2⟩:=Bc ho
 obtain ⟨om1,om2⟩:=Bc hm
 obtain ⟨c0,code,c2,c3,c4,c5,s6,c7,ord,c9,b10,s11,c12,s13,s14,s15,c16,mat,s18,c19⟩:=q
 simp only at hc ho hm hl1 hl2 hl3
 repeat' (first|with_reducible (first|apply A3|apply A4|apply A5|apply A6)|((with_reducible (first|apply Db|apply Dc));exact h22 code vc _ (Sx.Sl.B2 hc E5) (by omega);intro vv hh ee elo eold qq;(first|(have eqt:=Sx.Ai.quiet ee;try simp only [Bp] at elo eold eqt)|(try simp only [Bp] at elo eold));obtain ⟨ob,cw⟩:=Bc qq.sl;have sf:=NdO.fr qq;(try simp only [Bp] at sf))|((with_reducible (first|apply Db|apply Dc));exact h22 mat vm _ (Sx.Sl.B2 hm E5) (by omega);intro vv hh ee elo eold qq;(first|(have eqt:=Sx.Ai.quiet ee;try simp only [Bp] at elo eold eqt)|(try simp only [Bp] at elo eold));obtain ⟨ob,cw⟩:=Bc qq.sl;have sf:=NdO.fr qq;(try simp only [Bp] at sf))|((with_reducible (first|apply Db|apply Dc));exact h25 ord vo _ (Sx.Sl.B2 ho E5) (by omega);intro vv hh ee elo eold qq;(first|(have eqt:=Sx.Ai.quiet ee;try simp only [Bp] at elo eold eqt)|(try simp only [Bp] at elo eold));obtain ⟨ob,cw⟩:=Bc qq.1;have sf:=qq;(try simp only [Bp] at sf))|(with_reducible (first|apply Cq|apply Cr|apply Cs|apply Ct);(conv=>lhs;simp (disch:=first|exact dA|fail) [lw, *]);with_reducible (first|apply A3|apply A4|apply A5|apply A6|apply Cn|(refine Co (by simp) ?_)|(apply Cp<;>intro hc<;>(try simp only [Ar] at hc)<;>(try (exfalso;omega)))))|(with_reducible (first|apply Cu|apply Cv|apply Cw|apply Cx)<;>intro hc<;>(try simp only [Ar] at hc)<;>(try (exfalso;omega)))|(refine Sx.Ex ?_ ?_;(focus (simp (disch:=first|decide|omega|(simp only [Bp];omega)) [Sx.B1,Sx.Bb,Sx.Br,Sx.B4, *];done));(try simp (disch:=first|exact Ch|fail) only [Sx.B1,Sx.Bb,Sx.Du,Sx.A8,Sx.Bk,List.nil_append,List.cons_append,Sx.Ey,Sx.put_lg,Sx.new_lg,Bp,Sx.Ez, *])))
 exact Sx.Cj Ak ⟨_,_,_,rfl,Fq,Fq,Fq⟩
end Go.Proofs
