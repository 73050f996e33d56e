/- Queries in memory; copies of queries. -/
import Derived.Test.YtecikbfimlolcaaGreatDoorEvRfa
set_option maxRecDepth 100000
set_option linter.unusedSimpArgs false
set_option linter.unusedVariables false
noncomputable section
namespace Go.Proofs
open Go Go.Ev Go.Nm
theorem Bad:tk Tryz.prog 32=.struct [(3,0),(3,1),(9,2)]:=by kernel_rfl
theorem Bae:tk Tryz.prog 33=.array 2 3 1:=by kernel_rfl
theorem tk9:tk Tryz.prog 9=.string:=by kernel_rfl
theorem ld3:Ft Tryz.prog 3=some none:=by kernel_rfl
theorem ld9:Ft Tryz.prog 9=some none:=by kernel_rfl
theorem A8a:Nq Tryz.prog 32=true:=by kernel_rfl
theorem A8b:Nq Tryz.prog 33=true:=by kernel_rfl
theorem A1C (d:Nat) (a b:Int):aeq Tryz.prog (d+1) 3 (.int .i64 a) (.int .i64 b)=some (decide (a=b)):=by
 show Dy _ _ _ _ _=_
 unfold Dy
 rw [tk3,<- Sx.X7]
 rfl
theorem A6Z (d:Nat) (a b:List Nat):aeq Tryz.prog (d+1) 9 (.str a) (.str b)=some (decide (a=b)):=by
 show Dy _ _ _ _ _=_
 unfold Dy
 rw [tk9,<- Sx.Aap]
 rfl
theorem A1D (x y:Nd):aeq Tryz.prog 20 32 (.agg (Bw x)) (.agg (Bw y))=some (decide (x=y)):=by
 show Dy _ _ _ _ _=_
 unfold Dy
 rw [Bad]
 show Amw _ _ [(3,0),(3,1),(9,2)] (Bw x) (Bw y)=_
 have p0:∀z:Nd,Hc Tryz.prog 3 (Bw z) 0=some (.int .i64 z.op):=λz=>by unfold Hc;rw [ld3];rfl
 have p1:∀z:Nd,Hc Tryz.prog 3 (Bw z) 1=some (.int .i64 z.n):=λz=>by unfold Hc;rw [ld3];rfl
 have p2:∀z:Nd,Hc Tryz.prog 9 (Bw z) 2=some (.str z.Zn):=λz=>by unfold Hc;rw [ld9];rfl
 obtain ⟨a,b,c⟩:=x
 obtain ⟨a',b',c'⟩:=y
 simp only [Amw,p0,p1,p2,A1C,A6Z]
 by_cases h1:a=a'
 . by_cases h2:b=b'
   . by_cases h3:c=c'<;>simp [h1,h2,h3]
   . simp [h1,h2]
 . simp [h1]
abbrev Zd (x:Int × Int):List AV:=[.int .i64 x.1,.int .i64 x.2]
theorem A1E (x y:Int × Int):aeq Tryz.prog 20 33 (.agg (Zd x)) (.agg (Zd y))=some (decide (x=y)):=by
 show Dy _ _ _ _ _=_
 unfold Dy
 rw [Bae]
 show Amv _ _ 3 1 2 0 (Zd x) (Zd y)=_
 have p0:∀z:Int × Int,Hc Tryz.prog 3 (Zd z) 0=some (.int .i64 z.1):=λz=>by unfold Hc;rw [ld3];rfl
 have p1:∀z:Int × Int,Hc Tryz.prog 3 (Zd z) 1=some (.int .i64 z.2):=λz=>by unfold Hc;rw [ld3];rfl
 obtain ⟨a,b⟩:=x
 obtain ⟨a',b'⟩:=y
 simp only [Amv,p0,p1,A1C,Nat.zero_mul,Nat.zero_add,Nat.one_mul]
 by_cases h1:a=a'
 . by_cases h2:b=b'<;>simp [h1,h2]
 . simp [h1]
theorem A4N (x y:Nd) (h:H):Aj Tryz.prog .neq 32 false (.agg (Bw x)) (.agg (Bw y)) h=.ok (.bool (decide (x≠y))) h:=by
 show Xe true Tryz.prog 32 (.agg (Bw x)) (.agg (Bw y)) false h=_
 unfold Xe
 show Bool.rec (motive:=λ_=>OR) _ _ (Nq Tryz.prog 32)=_
 rw [A8a,A1D]
 by_cases h1:x=y<;>simp [h1]
theorem A4O (x y:Int × Int) (h:H):Aj Tryz.prog .neq 33 false (.agg (Zd x)) (.agg (Zd y)) h=.ok (.bool (decide (x≠y))) h:=by
 show Xe true Tryz.prog 33 (.agg (Zd x)) (.agg (Zd y)) false h=_
 unfold Xe
 have e:Xm Tryz.prog 33 false (O6 (AV.agg (Zd x))) (O6 (AV.agg (Zd y)))=true:=A8b
 rw [e,A1E]
 by_cases h1:x=y<;>simp [h1]
attribute [local irreducible] Aa Al Af Ad
variable (ctx:Ac) (N:Nat)
abbrev OkS (h:H) (v:AV) (l:List (Int × Int)):Prop:=Sx.R0 2 Zd h v l
theorem A9T (x:Int × Int):(Zd x).length=2:=rfl
theorem Arv {l:List (Int × Int)} {i:Nat} {x:Int × Int} {h:H} {v:AV} (hv:OkS h v l) (hi:l[i]?=some x):∃b p,(∀h1,Gc 2 v (.int .i64 (i:Int)) h1=.ok (.ptr b p) h1)/\(∀hh,Sx.Bi h hh->Ae (some (some 2)) (.ptr b p) hh=.ok (.agg (Zd x)) hh):=by
 obtain ⟨b,p,e⟩:=Sx.R0.elem A9T hv hi
 exact ⟨b,p,e.ia,e.all⟩
theorem Azd (l m:List Nd) (hl:l.length<=3000) (hlm:l.length=m.length) {h0:H} {v w:AV} (hv:Ue h0 v l) (hw:Ue h0 w m):
 ∀(rest Fj pre Wp:List Nd) (h:H) (f0:L2) (n1:Nat),l=pre++rest->m=Wp++Fj->Wp.length=pre.length->rest.length+1<=n1->Sx.Ai h0 h ->
  Sx.Ah h0 (λr _=>r=.bool (decide (rest=Fj))) (Alh ctx N n1 v w (.int .i64 (pre.length:Int)) f0 h):=by
 have Jr:∀hh,Fo v hh=.ok (.int .i64 (l.length:Int)) hh:=λ_=>hv.Gs
 intro rest
 induction rest with
 |nil=>
  intro Fj pre Wp h f0 n1 hp hp2 Z1 hn he
  obtain ⟨n2,rfl⟩:∃n2,n1=n2+1:=⟨n1 - 1,by omega⟩
  have S4:l.length=pre.length:=by rw [hp];simp
  have hr2:Fj=[]:=by
   have:m.length=pre.length+Fj.length:=by rw [hp2];simp [Z1]
   exact List.length_eq_zero_iff.1 (by omega)
  subst hr2
  clear hv hw hp hp2 hlm
  rw [Aji]
  repeat' (first|with_reducible (first|apply A7|apply A8|apply A9|apply Ba)|(with_reducible (first|apply Cy|apply Cz|apply C0|apply C1);(conv=>lhs;simp (disch:=first|exact dA|fail) [lw, *,Jr,S4]);with_reducible (first|apply A7|apply A8|apply A9|apply Ba|apply Cu|(refine Cv (by simp) ?_)|apply Cx))|(with_reducible (first|apply C2|apply C3|apply C4|apply C5|apply Cw)<;>intro hc<;>(try simp only [Bt] at hc)<;>(try (exfalso;omega))))
  all_goals (refine zr ?_ ?_;exact Ex;exact AeR)
 |cons x rest ih=>
  intro Fj pre Wp h f0 n1 hp hp2 Z1 hn he
  obtain ⟨n2,rfl⟩:∃n2,n1=n2+1:=⟨n1 - 1,by omega⟩
  have S4:l.length=pre.length+(rest.length+1):=by rw [hp];simp
  have hml:m.length=pre.length+Fj.length:=by rw [hp2];simp [Z1]
  obtain ⟨b,p,p1,p2,-,-,-⟩:=Aro hv (i:=pre.length) (x:=x) (by rw [hp];simp)
  cases Fj with
  |nil=>simp at hml;omega
  |cons y Fj=>
   obtain ⟨b2,o2,q1,q2,-,-,-⟩:=Aro hw (i:=pre.length) (x:=y) (by rw [hp2,<- Z1];simp)
   have Af9:∀hh,Aj Tryz.prog .neq 32 false (.agg (Bw x)) (.agg (Bw y)) hh=.ok (.bool (decide (x≠y))) hh:=A4N x y
   by_cases hxy:x=y
   . have Vr:=ih Fj (pre++[x]) (Wp++[y])
     have hd:decide (x≠y)=false:=by simp [hxy]
     rw [hd] at Af9
     have hs:decide (x::rest=y::Fj)=decide (rest=Fj):=by simp [hxy]
     rw [hs]
     replace ih:True:=trivial
     replace Vr:F5 _:=Vr
     have hp':F5 (l=(pre++[x])++rest):=(by rw [hp];simp:l=(pre++[x])++rest)
     have AyL:F5 (m=(Wp++[y])++Fj):=(by rw [hp2];simp:m=(Wp++[y])++Fj)
     have B6:(pre.length:Int)<(l.length:Int):=by omega
     clear hp hp2 hxy hs hd S4 hv hw hlm
     generalize Bw x=X at *
     generalize Bw y=Y at *
     rw [Aji]
     repeat' (first|with_reducible (first|apply A7|apply A8|apply A9|apply Ba)|(with_reducible (first|apply Cy|apply Cz|apply C0|apply C1);(conv=>lhs;simp (disch:=first|exact dA|fail) [lw, *,Jr,B6,Af9]);with_reducible (first|apply A7|apply A8|apply A9|apply Ba|apply Cu|(refine Cv (by simp) ?_)|apply Cx))|(with_reducible (first|apply C2|apply C3|apply C4|apply C5|apply Cw)<;>intro hc<;>(try simp only [Bt] at hc)<;>(try (exfalso;omega))))
     have X2:(pre.length:Int)+1=((pre++[x]).length:Int):=by simp
     rw [X2]
     exact Vr _ _ n2 hp' AyL (by simp [Z1]) (by simp at hn;omega) Ex
   . have hd:decide (x≠y)=true:=by simp [hxy]
     rw [hd] at Af9
     have hs:decide (x::rest=y::Fj)=false:=by simp [hxy]
     rw [hs]
     have B6:(pre.length:Int)<(l.length:Int):=by omega
     clear hp hp2 hxy hs hd S4 hv hw hlm ih
     generalize Bw x=X at *
     generalize Bw y=Y at *
     rw [Aji]
     repeat' (first|with_reducible (first|apply A7|apply A8|apply A9|apply Ba)|(with_reducible (first|apply Cy|apply Cz|apply C0|apply C1);(conv=>lhs;simp (disch:=first|exact dA|fail) [lw, *,Jr,B6,Af9]);with_reducible (first|apply A7|apply A8|apply A9|apply Ba|apply Cu|(refine Cv (by simp) ?_)|apply Cx))|(with_reducible (first|apply C2|apply C3|apply C4|apply C5|apply Cw)<;>intro hc<;>(try simp only [Bt] at hc)<;>(try (exfalso;omega))))
     all_goals (refine zr ?_ ?_;exact Ex;exact AeR)
def R33:Prop:=∀(l m:List Nd) (v w:AV) (h:H),Ue h v l->Ue h w m->l.length<=3000->m.length<=3000->Sx.Ah h (λr _=>r=.bool (decide (l=m))) (ctx.call 33 [v,w] h)
theorem r33 (hN:3001<=N) (l m:List Nd) (v w:AV) (h:H) (hv:Ue h v l) (hw:Ue h w m) (hl:l.length<=3000) (hm:m.length<=3000):Sx.Ah h (λr _=>r=.bool (decide (l=m))) (Ay Tryz.prog ctx N true 33 [v,w] h):=by
 rw [e33]
 have Jr:∀hh,Fo v hh=.ok (.int .i64 (l.length:Int)) hh:=λ_=>hv.Gs
 have AaI:∀hh,Fo w hh=.ok (.int .i64 (m.length:Int)) hh:=λ_=>hw.Gs
 by_cases hlm:l.length=m.length
 . have S5:=Azd ctx N l m hl hlm hv hw l m [] [] h (fr Az [(4,(.bool false)),(6,v),(7,.int .i64 (l.length:Int)),(8,w),(9,.int .i64 (m.length:Int)),(10,.bool false)]) N rfl rfl rfl (by omega) (Sx.Ai.refl h)
   replace S5:=(show F5 _ from S5)
   have AjP:(l.length:Int)=(m.length:Int):=by omega
   repeat' (first|with_reducible (first|apply A7|apply A8|apply A9|apply Ba)|(with_reducible (first|apply Cy|apply Cz|apply C0|apply C1);(conv=>lhs;simp (disch:=first|exact dA|fail) [lw, *,Jr,AaI,AjP]);with_reducible (first|apply A7|apply A8|apply A9|apply Ba|apply Cu|(refine Cv (by simp) ?_)|apply Cx))|(with_reducible (first|apply C2|apply C3|apply C4|apply C5|apply Cw)<;>intro hc<;>(try simp only [Bt] at hc)<;>(try (exfalso;omega))))
   rw [<- hlm] at *
   exact S5
 . have AjP:¬ (l.length:Int)=(m.length:Int):=by omega
   have hs:decide (l=m)=false:=by
    rw [decide_eq_false_iff_not]
    intro hh
    exact hlm (by rw [hh])
   rw [hs]
   repeat' (first|with_reducible (first|apply A7|apply A8|apply A9|apply Ba)|(with_reducible (first|apply Cy|apply Cz|apply C0|apply C1);(conv=>lhs;simp (disch:=first|exact dA|fail) [lw, *,Jr,AaI,AjP]);with_reducible (first|apply A7|apply A8|apply A9|apply Ba|apply Cu|(refine Cv (by simp) ?_)|apply Cx))|(with_reducible (first|apply C2|apply C3|apply C4|apply C5|apply Cw)<;>intro hc<;>(try simp only [Bt] at hc)<;>(try (exfalso;omega))))
   all_goals (refine zr ?_ ?_;exact Ex;exact AeR)
theorem Aze (l m:List (Int × Int)) (hl:l.length<=3000) (hlm:l.length=m.length) {h0:H} {v w:AV} (hv:OkS h0 v l) (hw:OkS h0 w m):
 ∀(rest Fj pre Wp:List (Int × Int)) (h:H) (f0:L2) (n1:Nat),l=pre++rest->m=Wp++Fj->Wp.length=pre.length->rest.length+1<=n1->Sx.Ai h0 h ->
  Sx.Ah h0 (λr _=>r=.bool (decide (rest=Fj))) (Alj ctx N n1 v w (.int .i64 (pre.length:Int)) f0 h):=by
 have Jr:∀hh,Fo v hh=.ok (.int .i64 (l.length:Int)) hh:=λ_=>hv.Gs
 intro rest
 induction rest with
 |nil=>
  intro Fj pre Wp h f0 n1 hp hp2 Z1 hn he
  obtain ⟨n2,rfl⟩:∃n2,n1=n2+1:=⟨n1 - 1,by omega⟩
  have S4:l.length=pre.length:=by rw [hp];simp
  have hr2:Fj=[]:=by
   have:m.length=pre.length+Fj.length:=by rw [hp2];simp [Z1]
   exact List.length_eq_zero_iff.1 (by omega)
  subst hr2
  clear hv hw hp hp2 hlm
  rw [Ajj]
  repeat' (first|with_reducible (first|apply A7|apply A8|apply A9|apply Ba)|(with_reducible (first|apply Cy|apply Cz|apply C0|apply C1);(conv=>lhs;simp (disch:=first|exact dA|fail) [lw, *,Jr,S4]);with_reducible (first|apply A7|apply A8|apply A9|apply Ba|apply Cu|(refine Cv (by simp) ?_)|apply Cx))|(with_reducible (first|apply C2|apply C3|apply C4|apply C5|apply Cw)<;>intro hc<;>(try simp only [Bt] at hc)<;>(try (exfalso;omega))))
  all_goals (refine zr ?_ ?_;exact Ex;exact AeR)
 |cons x rest ih=>
  intro Fj pre Wp h f0 n1 hp hp2 Z1 hn he
  obtain ⟨n2,rfl⟩:∃n2,n1=n2+1:=⟨n1 - 1,by omega⟩
  have S4:l.length=pre.length+(rest.length+1):=by rw [hp];simp
  have hml:m.length=pre.length+Fj.length:=by rw [hp2];simp [Z1]
  obtain ⟨b,p,p1,p2⟩:=Arv hv (i:=pre.length) (x:=x) (by rw [hp];simp)
  cases Fj with
  |nil=>simp at hml;omega
  |cons y Fj=>
   obtain ⟨b2,o2,q1,q2⟩:=Arv hw (i:=pre.length) (x:=y) (by rw [hp2,<- Z1];simp)
   have Af9:∀hh,Aj Tryz.prog .neq 33 false (.agg (Zd x)) (.agg (Zd y)) hh=.ok (.bool (decide (x≠y))) hh:=A4O x y
   by_cases hxy:x=y
   . have Vr:=ih Fj (pre++[x]) (Wp++[y])
     have hd:decide (x≠y)=false:=by simp [hxy]
     rw [hd] at Af9
     have hs:decide (x::rest=y::Fj)=decide (rest=Fj):=by simp [hxy]
     rw [hs]
     replace ih:True:=trivial
     replace Vr:F5 _:=Vr
     have hp':F5 (l=(pre++[x])++rest):=(by rw [hp];simp:l=(pre++[x])++rest)
     have AyL:F5 (m=(Wp++[y])++Fj):=(by rw [hp2];simp:m=(Wp++[y])++Fj)
     have B6:(pre.length:Int)<(l.length:Int):=by omega
     clear hp hp2 hxy hs hd S4 hv hw hlm
     generalize Zd x=X at *
     generalize Zd y=Y at *
     rw [Ajj]
     repeat' (first|with_reducible (first|apply A7|apply A8|apply A9|apply Ba)|(with_reducible (first|apply Cy|apply Cz|apply C0|apply C1);(conv=>lhs;simp (disch:=first|exact dA|fail) [lw, *,Jr,B6,Af9]);with_reducible (first|apply A7|apply A8|apply A9|apply Ba|apply Cu|(refine Cv (by simp) ?_)|apply Cx))|(with_reducible (first|apply C2|apply C3|apply C4|apply C5|apply Cw)<;>intro hc<;>(try simp only [Bt] at hc)<;>(try (exfalso;omega))))
     have X2:(pre.length:Int)+1=((pre++[x]).length:Int):=by simp
     rw [X2]
     exact Vr _ _ n2 hp' AyL (by simp [Z1]) (by simp at hn;omega) Ex
   . have hd:decide (x≠y)=true:=by simp [hxy]
     rw [hd] at Af9
     have hs:decide (x::rest=y::Fj)=false:=by simp [hxy]
     rw [hs]
     have B6:(pre.length:Int)<(l.length:Int):=by omega
     clear hp hp2 hxy hs hd S4 hv hw hlm ih
     generalize Zd x=X at *
     generalize Zd y=Y at *
     rw [Ajj]
     repeat' (first|with_reducible (first|apply A7|apply A8|apply A9|apply Ba)|(with_reducible (first|apply Cy|apply Cz|apply C0|apply C1);(conv=>lhs;simp (disch:=first|exact dA|fail) [lw, *,Jr,B6,Af9]);with_reducible (first|apply A7|apply A8|apply A9|apply Ba|apply Cu|(refine Cv (by simp) ?_)|apply Cx))|(with_reducible (first|apply C2|apply C3|apply C4|apply C5|apply Cw)<;>intro hc<;>(try simp only [Bt] at hc)<;>(try (exfalso;omega))))
     all_goals (refine zr ?_ ?_;exact Ex;exact AeR)
def R36:Prop:=∀(l m:List (Int × Int)) (v w:AV) (h:H),OkS h v l->OkS h w m->l.length<=3000->m.length<=3000->Sx.Ah h (λr _=>r=.bool (decide (l=m))) (ctx.call 36 [v,w] h)
theorem r36 (hN:3001<=N) (l m:List (Int × Int)) (v w:AV) (h:H) (hv:OkS h v l) (hw:OkS h w m) (hl:l.length<=3000) (hm:m.length<=3000):Sx.Ah h (λr _=>r=.bool (decide (l=m))) (Ay Tryz.prog ctx N true 36 [v,w] h):=by
 rw [e36]
 have Jr:∀hh,Fo v hh=.ok (.int .i64 (l.length:Int)) hh:=λ_=>hv.Gs
 have AaI:∀hh,Fo w hh=.ok (.int .i64 (m.length:Int)) hh:=λ_=>hw.Gs
 by_cases hlm:l.length=m.length
 . have S5:=Aze ctx N l m hl hlm hv hw l m [] [] h (fr Az [(4,(.bool false)),(6,v),(7,.int .i64 (l.length:Int)),(8,w),(9,.int .i64 (m.length:Int)),(10,.bool false)]) N rfl rfl rfl (by omega) (Sx.Ai.refl h)
   replace S5:=(show F5 _ from S5)
   have AjP:(l.length:Int)=(m.length:Int):=by omega
   repeat' (first|with_reducible (first|apply A7|apply A8|apply A9|apply Ba)|(with_reducible (first|apply Cy|apply Cz|apply C0|apply C1);(conv=>lhs;simp (disch:=first|exact dA|fail) [lw, *,Jr,AaI,AjP]);with_reducible (first|apply A7|apply A8|apply A9|apply Ba|apply Cu|(refine Cv (by simp) ?_)|apply Cx))|(with_reducible (first|apply C2|apply C3|apply C4|apply C5|apply Cw)<;>intro hc<;>(try simp only [Bt] at hc)<;>(try (exfalso;omega))))
   rw [<- hlm] at *
   exact S5
 . have AjP:¬ (l.length:Int)=(m.length:Int):=by omega
   have hs:decide (l=m)=false:=by
    rw [decide_eq_false_iff_not]
    intro hh
    exact hlm (by rw [hh])
   rw [hs]
   repeat' (first|with_reducible (first|apply A7|apply A8|apply A9|apply Ba)|(with_reducible (first|apply Cy|apply Cz|apply C0|apply C1);(conv=>lhs;simp (disch:=first|exact dA|fail) [lw, *,Jr,AaI,AjP]);with_reducible (first|apply A7|apply A8|apply A9|apply Ba|apply Cu|(refine Cv (by simp) ?_)|apply Cx))|(with_reducible (first|apply C2|apply C3|apply C4|apply C5|apply Cw)<;>intro hc<;>(try simp only [Bt] at hc)<;>(try (exfalso;omega))))
   all_goals (refine zr ?_ ?_;exact Ex;exact AeR)
end Go.Proofs
namespace Go.Proofs
open Go Go.Ev Go.Nm
attribute [local irreducible] Aa Al Af Ad
variable (ctx:Ac) (N:Nat)
def W7 (s lo:Nat) (v:AV):Prop:=∀b off len cap z ex,v=.sl b off len cap z ex->0<len->lo<=b
theorem W7.mono {s lo Z6:Nat} {v:AV} (hl:W7 s lo v) (hh:Z6<=lo):W7 s Z6 v:=λb off len cap z ex hv h0=>Nat.le_trans hh (hl b off len cap z ex hv h0)
theorem W7.Bv (s lo:Nat):W7 s lo .Bv:=λb off len cap z ex hv=>by cases hv
theorem W7.own {s lo len:Nat} {et:TypeId} {h:H} {v:AV} {c:List AV} (ho:Sx.Fm s lo et h v len c):W7 s lo v:=by
 intro b off B1 cap z ex hv h0
 rcases ho with ⟨_,_,h1⟩|⟨_,_,b',Yk,cs,h1,_⟩|⟨b',k,st,h1,q2,q3,q4,_⟩
 . rw [h1] at hv;cases hv
 . rw [h1] at hv;cases hv;exact absurd h0 (by omega)
 . rw [h1] at hv;cases hv;exact q4
def A2Z:Nat->TypeId
 |3=>32
 |_=>33
theorem Wr.gr {s lo len:Nat} {et:TypeId} {h h1:H} {v:AV} (hw:Wr s et lo h v len) (e:Sx.Ai h h1):Wr s et lo h1 v len:=by
 rcases hw with W2|⟨b,off,cap,ex,cs,k,W2,h2,h3,h4,h5,h6⟩
 . exact .inl W2
 . have:=e.lo
   refine .inr ⟨b,off,cap,ex,cs,k,W2,by rw [e.Cf b h5];exact h2,h3,h4,by omega,?_⟩
   rcases h6 with h6|⟨c,st,h6,h7,h8,h9,Fh⟩
   . exact .inl h6
   . exact .inr ⟨c,st,h6,by rw [e.Cf c h9];exact h7,h8,by omega,Fh⟩
theorem Wr.put {s lo len c:Nat} {et:TypeId} {h:H} {v:AV} {o:AO} (hw:Wr s et lo h v len) (hc:c<lo):Wr s et lo (h.put c o) v len:=by
 rcases hw with W2|⟨b,off,cap,ex,cs,k,W2,h2,h3,h4,h5,h6⟩
 . exact .inl W2
 . refine .inr ⟨b,off,cap,ex,cs,k,W2,by rw [Sx.Aq _ _ _ (by omega)];exact h2,h3,h4,h5,?_⟩
   rcases h6 with h6|⟨c',st,h6,h7,h8,h9,Fh⟩
   . exact .inl h6
   . exact .inr ⟨c',st,h6,by rw [Sx.Aq _ _ _ (by omega)];exact h7,h8,h9,Fh⟩
theorem Wr.own {s lo len:Nat} {et:TypeId} {h:H} {v:AV} {c:List AV} (ho:Sx.Fm s lo et h v len c):Wr s et lo h v len:=by
 rcases ho with ⟨h0,_⟩|⟨h0,_⟩|⟨b,k,st,h1,q2,q3,q4,q5,q6,q7,q8,q9⟩
 . exact .inl h0
 . exact .inl h0
 . exact .inr ⟨b,0,len,false,c,.Gt k,h1,q2,by omega,q4,q6,.inr ⟨k,st,rfl,q3,q5,q7,λhh=>q8 hh.symm⟩⟩
structure Safe (s lo:Nat) (h:H) (v:AV) (len:Nat) (c:List AV):Prop where
 sl:Sx.Sl s h v len c
 beh:W7 s lo v
 wr:Wr s (A2Z s) lo h v len
theorem Safe.nil {s lo len:Nat} {h:H} {c:List AV} (h1:len=0) (h2:c=[]):Safe s lo h .Bv len c:=⟨.inl ⟨h1,h2,rfl⟩,W7.Bv s lo,.inl h1⟩
theorem Safe.own {s lo len:Nat} {h:H} {v:AV} {c:List AV} (ho:Sx.Fm s lo (A2Z s) h v len c):Safe s lo h v len c:=⟨ho.sl,W7.own ho,Wr.own ho⟩
theorem Safe.base {s lo len:Nat} {h h1:H} {v:AV} {c:List AV} (hs:Safe s lo h v len c) (e:Sx.Ai h h1):Safe s lo h1 v len c:=⟨hs.sl.By e.keeps,hs.beh,hs.wr.gr e⟩
theorem Safe.Y5 {s lo lo1 len:Nat} {h:H} {v:AV} {c:List AV} (hs:Safe s lo1 h v len c) (hl:lo<=lo1):Safe s lo h v len c:=⟨hs.sl,hs.beh.mono hl,hs.wr.mono hl⟩
theorem Safe.nl {s lo len:Nat} {h:H} {v:AV} {c:List AV} (hs:Safe s lo h v len c):Safe s lo (Ab h) v len c:=hs.base (Sx.Ai.refl h).nl
theorem Safe.rl {s lo len:Nat} {h:H} {v:AV} {c:List AV} {l:List Nat} (hs:Safe s lo h v len c):Safe s lo (Be l h) v len c:=⟨hs.sl.By ((Sx.Bi.refl h).Be l),hs.beh,hs.wr⟩
theorem Safe.new {s lo len:Nat} {h:H} {v:AV} {c:List AV} {o:AO} (hs:Safe s lo h v len c):Safe s lo (h.new o) v len c:=hs.base ((Sx.Ai.refl h).new o)
theorem Sl.AnO {s c len:Nat} {h:H} {v:AV} {cs l l0:List AV} {e0 e1:TypeId} (hs:Sx.Sl s h v len cs) (hg:h.m.get c=.cells l0 e0 .exact) (hl:l.length=l0.length) (Hr:0<len->∀b off n cap z ex,v=.sl b off n cap z ex->b≠c):Sx.Sl s (h.put c (.cells l e1 .exact)) v len cs:=by
 rcases hs with h1|⟨b,off,cap,ex,bs,rfl,q2,q3,q4,q5⟩
 . exact .inl h1
 . by_cases hb:b=c
   . subst hb
     obtain ⟨e,k,q6,q7⟩:=q3.cells
     rw [hg] at q6
     cases q6
     rcases Nat.eq_zero_or_pos len with h0|h0
     . subst h0
       refine .inr ⟨b,off,cap,ex,l,rfl,q2,⟨q3.lt,_,.exact,Sx.A2 ..,trivial⟩,by omega,?_⟩
       rw [<- q5]
       simp
     . exact absurd rfl (Hr h0 b off len cap s ex rfl)
   . refine .inr ⟨b,off,cap,ex,bs,rfl,q2,⟨q3.lt,?_⟩,q4,q5⟩
     obtain ⟨e,k,q6,q7⟩:=q3.cells
     refine ⟨e,k,by rw [Sx.Aq _ _ _ hb];exact q6,?_⟩
     cases k with
     |Cf k st=>
      have hk:k≠c:=λhh=>by have:=q7.2;rw [hh,hg] at this;cases this
      exact ⟨q7.1,by rw [Sx.Aq _ _ _ hk];exact q7.2⟩
     |_=>trivial
def Vu (n:Nat):AO->Bool
 |.cells l _ .exact=>Nat.beq l.length n
 |_=>false
@[simp] theorem A0y (n:Nat) (l:List AV) (e:TypeId):Vu n (.cells l e .exact)=Nat.beq l.length n:=rfl
theorem Pb {n:Nat} {o:AO} (hh:Vu n o=true):∃l e,o=.cells l e .exact/\n=l.length:=by
 match o,hh with
 |.cells l e .exact,hh=>exact ⟨l,e,rfl,(Nat.eq_of_beq_eq_true hh).symm⟩
theorem Safe.put {s lo c len:Nat} {h:H} {v:AV} {cs l:List AV} {e1:TypeId} (hs:Safe s lo h v len cs) (hc:c<lo) (hg:Vu l.length (h.m.get c)=true):Safe s lo (h.put c (.cells l e1 .exact)) v len cs:=by
 obtain ⟨l0,e0,hg,hl⟩:=Pb hg
 refine ⟨Sl.AnO hs.sl hg hl λh0 b off n cap z ex hv=>?_,hs.beh,hs.wr.put hc⟩
 rcases hs.sl with ⟨_,_,h1⟩|⟨b',Yk,Ll,ex',bs,h1,q2,_⟩
 . rw [h1] at hv;cases hv
 . have h2:=hs.beh b off n cap z ex hv
   rw [h1] at hv
   cases hv
   have:=h2 h0
   omega
abbrev FrN (lo:Nat) (h:H) (v:AV) (l:List Nd):Prop:=Safe 3 lo h v l.length (l.flatMap Bw)
abbrev FrO (lo:Nat) (h:H) (v:AV) (l:List (Int × Int)):Prop:=Safe 2 lo h v l.length (l.flatMap Zd)
theorem NdO.fr {lo:Nat} {h:H} {v:AV} {l:List Nd} (ho:NdO lo h v l):FrN lo h v l:=Safe.own ho
theorem Ar0:∀l:List (Int × Int),Bm (l.flatMap Zd)=true
 |[]=>rfl
 |x::l=>by
  have ih:=Ar0 l
  simp [ih]
def R22:Prop:=∀(l:List Nd) (v:AV) (h:H),Ue h v l->l.length<=10000000->Sx.Ah h (λr h1=>NdO h.nx h1 r l) (ctx.call 22 [v] h)
def R25:Prop:=∀(l:List (Int × Int)) (v:AV) (h:H),OkS h v l->l.length<=10000000->Sx.Ah h (λr h1=>FrO h.nx h1 r l) (ctx.call 25 [v] h)
def R26:Prop:=∀(l:List Nd) (v:AV) (h:H),Ue h v l->l.length<=10000000->Sx.Ah h (λr h1=>FrN h.nx h1 r l) (ctx.call 26 [v] h)
def R27:Prop:=∀(l:List (Int × Int)) (v:AV) (h:H),OkS h v l->l.length<=10000000->Sx.Ah h (λr h1=>FrO h.nx h1 r l) (ctx.call 27 [v] h)
theorem cp {s bytes lo:Nat} {et:TypeId} {h:H} {v:AV} {len:Nat} {c:List AV} (hb:len * (bytes+1)<1000000000000) (hv:Sx.Sl s h v len c) (h1:Bm c=true) (Kf:lo<=h.nx):
 ∃w h',Ds et s bytes (.sl h.nx 0 0 0 s true) v (h.new (.cells [] et .exact))=.ok w h'/\Sx.Ai h h'/\Sx.Fm s lo et h' w len c:=by
 have e:Sx.Ai h (h.new (.cells [] et .exact)):=(Sx.Ai.refl h).new _
 have hv':=hv.By e.keeps
 obtain ⟨w,h',q1,q2,q3⟩:=Sx.Sg (h:=h.new (.cells [] et .exact)) (b:=h.nx) (off:=0) (cs:=[]) (bytes:=bytes) (et:=et) (lo:=lo) ⟨by show h.nx<h.nx+1;omega,et,.exact,Sx.Bf _,trivial⟩ (Nat.le_refl _) hv'.src hv'.Rv hb h1 (by show lo<=h.nx+1;omega)
 exact ⟨w,h',q1,e.trans q2,q3⟩
theorem A2V (h:H):Aj Tryz.prog .eql 22 true .Bv .Bv h=.ok (.bool true) h:=by kernel_rfl
theorem A2X (b o l c s:Nat) (ex:Bool) (h:H):Aj Tryz.prog .eql 22 true (.sl b o l c s ex) .Bv h=.ok (.bool false) h:=by kernel_rfl
theorem A2W (h:H):Aj Tryz.prog .eql 23 true .Bv .Bv h=.ok (.bool true) h:=by kernel_rfl
theorem A2Y (b o l c s:Nat) (ex:Bool) (h:H):Aj Tryz.prog .eql 23 true (.sl b o l c s ex) .Bv h=.ok (.bool false) h:=by kernel_rfl
theorem r26 (l:List Nd) (v:AV) (h:H) (hv:Ue h v l) (hl:l.length<=10000000):Sx.Ah h (λr h1=>FrN h.nx h1 r l) (Ay Tryz.prog ctx N true 26 [v] h):=by
 rw [e26]
 rcases hv with ⟨h1,h2,rfl⟩|⟨b,off,cap,ex,cs,rfl,h2⟩
 . refine Sx.Ey (A2V h) (Sx.Zx ?_)
   exact Sx.Lo (Sx.Ai.refl h) (Safe.nil h1 h2)
 . obtain ⟨w,h',q1,q2,q3⟩:=cp (bytes:=32) (et:=32) (lo:=h.nx) (by omega) (show Ue h _ l from .inr ⟨b,off,cap,ex,cs,rfl,h2⟩) (Tk l) (Nat.le_refl _)
   refine Sx.Ey (A2X ..) (Sx.Ae5 ?_)
   refine Sx.Ey (v:=.sl h.nx 0 0 0 3 true) (h:=h.new (.cells [] 32 .exact)) rfl ?_
   exact Sx.Ey q1 (Sx.Lo q2 (Safe.own q3))
theorem r27 (l:List (Int × Int)) (v:AV) (h:H) (hv:OkS h v l) (hl:l.length<=10000000):Sx.Ah h (λr h1=>FrO h.nx h1 r l) (Ay Tryz.prog ctx N true 27 [v] h):=by
 rw [e27]
 rcases hv with ⟨h1,h2,rfl⟩|⟨b,off,cap,ex,cs,rfl,h2⟩
 . refine Sx.Ey (A2W h) (Sx.Zx ?_)
   exact Sx.Lo (Sx.Ai.refl h) (Safe.nil h1 h2)
 . obtain ⟨w,h',q1,q2,q3⟩:=cp (bytes:=16) (et:=33) (lo:=h.nx) (by omega) (show OkS h _ l from .inr ⟨b,off,cap,ex,cs,rfl,h2⟩) (Ar0 l) (Nat.le_refl _)
   refine Sx.Ey (A2Y ..) (Sx.Ae5 ?_)
   refine Sx.Ey (v:=.sl h.nx 0 0 0 2 true) (h:=h.new (.cells [] 33 .exact)) rfl ?_
   exact Sx.Ey q1 (Sx.Lo q2 (Safe.own q3))
theorem Li {s lo len:Nat} {h:H} {v:AV} {c:List AV} (q:Safe s lo h v len c:=by first|(apply Safe.Y5;(focus (repeat' (first|with_reducible apply Safe.nl|with_reducible apply Safe.rl|with_reducible apply Safe.new|with_reducible apply Safe.put|(refine Safe.base (by assumption) ?_;exact Ex)|(apply Safe.base;rotate_left;assumption)|exact Ce|exact N4|fail)));exact Ce)|fail):Safe s lo h v len c:=q
structure Qr where
 c0:Int
 code:List Nd
 c2:Int
 c3:Int
 c4:Int
 c5:Int
 s6:List Nat
 c7:Int
 ord:List (Int × Int)
 c9:Int
 Wz:Bool
 Uw:List Nat
 W0:Int
 s13:List Nat
 s14:List Nat
 s15:List Nat
 c16:Int
 E9:List Nd
 s18:List Nat
 c19:Int
abbrev qc (q:Qr) (vc vo vm:AV):List AV:=[.int .i64 q.c0,vc,.int .i64 q.c2,.int .i64 q.c3,.int .i64 q.c4,.int .i64 q.c5,.str q.s6,.int .i64 q.c7,vo,.int .i64 q.c9,.bool q.Wz,.str q.Uw,.int .i64 q.W0,.str q.s13,.str q.s14,.str q.s15,.int .i64 q.c16,vm,.str q.s18,.int .i64 q.c19]
structure QV (h:H) (q:Qr) (vc vo vm:AV):Prop where
 c:Ue h vc q.code
 o:OkS h vo q.ord
 m:Ue h vm q.E9
theorem QV.By {h h1:H} {q:Qr} {vc vo vm:AV} (hq:QV h q vc vo vm) (e:Sx.Bi h h1):QV h1 q vc vo vm:=⟨hq.c.By e,hq.o.By e,hq.m.By e⟩
structure QS (lo:Nat) (h:H) (q:Qr) (vc vo vm:AV):Prop where
 c:FrN lo h vc q.code
 o:FrO lo h vo q.ord
 m:FrN lo h vm q.E9
theorem QS.qv {lo:Nat} {h:H} {q:Qr} {vc vo vm:AV} (hq:QS lo h q vc vo vm):QV h q vc vo vm:=⟨hq.c.sl,hq.o.sl,hq.m.sl⟩
def AgG (lo:Nat) (q:Qr) (r:AV) (h:H):Prop:=∃vc vo vm,r=.agg (qc q vc vo vm)/\QS lo h q vc vo vm
def R9:Prop:=∀(q:Qr) (vc vo vm:AV) (h:H),QV h q vc vo vm->q.code.length<=3000->q.ord.length<=3000->q.E9.length<=3000->Sx.Ah h (AgG h.nx q) (ctx.call 9 [.agg (qc q vc vo vm)] h)
end Go.Proofs
