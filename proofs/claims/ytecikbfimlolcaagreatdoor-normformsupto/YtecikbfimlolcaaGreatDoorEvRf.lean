/- The reference's walks: the normal form. The reference's walks: types of operands, the form of a node. -/
import Derived.Test.YtecikbfimlolcaaGreatDoorEvRaa
import Derived.Test.YtecikbfimlolcaaGreatDoorEvNf
set_option maxRecDepth 100000
set_option linter.unusedSimpArgs false
set_option linter.unusedVariables false
namespace Go.Proofs
open Go Go.Ev Go.Nm
attribute [local irreducible] Aa Aj Ah Ac
variable (ctx:Ae) (N:Nat)
abbrev R71 (t:Tr):Prop:=∀ (w:AV) (h:H),TV h t w->Sx.Af h (Am (Au t)) (ctx.call 71 [.agg (rc t w)] h)
abbrev rcp (p:Tr × AV):List AV:=rc p.1 p.2
theorem rcp4 (p:Tr × AV):(rcp p).length=4:=rfl
abbrev PsO (lo:Nat) (h:H) (v:AV) (ps:List (Tr × AV)):Prop:=Sx.Own 4 lo 67 h v ps.length (ps.flatMap rcp)
theorem ps_el {h:H} {v:AV} {ps:List (Tr × AV)} (hv:Sx.SlF 4 rcp h v ps) {i:Nat} {a:Tr} {w:AV} (hi:ps[i]?=some (a,w)):∃ b p,El h v (i:Int) a w b p:=by
 obtain ⟨b,p,e⟩:=Sx.SlF.elem rcp4 hv hi
 exact ⟨b,p,El.of e⟩
theorem ps_one {ps:List (Tr × AV)} (ho:∀ p∈ps,oneB p.2=true):Bn (ps.flatMap rcp)=true:=by
 induction ps with
 |nil=>rfl
 |cons p ps ih=>
  rw [List.flatMap_cons]
  have h1:=ho p (List.mem_cons_self ..)
  have h2:=ih fun q hq=>ho q (List.mem_cons_of_mem _ hq)
  simp [rcp,h1,h2]
structure Done (h0 h:H) (t:Tr) (w acc:AV) (ps:List (Tr × AV)) (l:List Tr):Prop where
 e:Sx.Ai h0 h
 lo:h0.nx+2<=h.nx
 g1:h.m.get h0.nx=.cells (rc t w) 67 .exact
 g2:h.m.get (h0.nx+1)=.cells [.int .i64 0,.int .i64 0,.str [],.Cb] 67 .exact
 o:PsO (h0.nx+2) h acc ps
 m:ps.map (·.1)=l.map Au
 tv:∀ p∈ps,TV h p.1 p.2
theorem map_one {ps:List (Tr × AV)} {x:Tr} (h:ps.map (·.1)=[x]):∃ w,ps=[(x,w)]:=by
 cases ps with
 |nil=>simp at h
 |cons p ps=>
  cases ps with
  |nil=>obtain ⟨p1,p2⟩:=p;simp at h;exact ⟨p2,by rw [h]⟩
  |cons q ps=>simp at h
theorem map_two {ps:List (Tr × AV)} {x y:Tr} (h:ps.map (·.1)=[x,y]):∃ w u,ps=[(x,w),(y,u)]:=by
 cases ps with
 |nil=>simp at h
 |cons p ps=>
  obtain ⟨p1,p2⟩:=p
  simp only [List.map_cons,List.cons.injEq] at h
  obtain ⟨u,rfl⟩:=map_one h.2
  exact ⟨p2,u,by rw [h.1]⟩
theorem map_three {ps:List (Tr × AV)} {x y z:Tr} (h:ps.map (·.1)=[x,y,z]):∃ w u v,ps=[(x,w),(y,u),(z,v)]:=by
 cases ps with
 |nil=>simp at h
 |cons p ps=>
  obtain ⟨p1,p2⟩:=p
  simp only [List.map_cons,List.cons.injEq] at h
  obtain ⟨u,v,rfl⟩:=map_two h.2
  exact ⟨p2,u,v,by rw [h.1]⟩
theorem loop71 (h121:R121_1 ctx) (h122:R121_2 ctx) (h123:R121_3 ctx) (hsz:∀ a,Reg a->size (Au a)<=size a) (t:Tr) (hst:size t<=1000) (hrec:∀ a∈kids t,R71 ctx a) (hk:kids t≠[]) {h0:H} {w:AV} (ht:TV h0 t w):
 ∀ (rest pre:List Tr) (ps:List (Tr × AV)) (h:H) (acc:AV) (f0:L2) (n1:Nat),kids t=pre++rest->rest.length+1<=n1->Done h0 h t w acc ps pre ->
  Sx.Af h0 (Am (Au t)) (L71x1 ctx N n1 (.ptr h0.nx 0) (.ptr (h0.nx+1) 0) acc (.int .i64 (pre.length:Int)) f0 h):=by
 obtain ⟨hlen,hel⟩:=ht.kid
 obtain ⟨ow,cw0⟩:=ht.ob
 have hk3:(kids t).length<=3:=by cases t<;>simp [kids]
 intro rest
 induction rest with
 |nil=>
  intro pre ps h acc f0 n1 hp hn hdn
  obtain ⟨n2,rfl⟩:∃ n2,n1=n2+1:=⟨n1 - 1,by omega⟩
  rw [List.append_nil] at hp
  subst hp
  obtain ⟨e,lo,g1,g2,o,m,tv⟩:=hdn
  rw [L71x1s]
  have hsl:Sx.SlF 4 rcp h acc ps:=o.sl
  cases t with
  |leaf x=>exact absurd rfl hk
  |one op a=>
   obtain ⟨wa,rfl⟩:=map_one m
   obtain ⟨b,p,he⟩:=ps_el hsl (i:=0) (a:=Au a) (w:=wa) rfl
   have ta:=tv (Au a,wa) (by simp)
   have hra:=ht.reg
   repeat' (first|with_reducible (first|apply A3|apply A4|apply A5|apply A6)|(with_reducible (first|apply Cq|apply Cr|apply Cs|apply Ct);(conv=>lhs;simp (disch:=first|exact dA|fail) [lw, *,hlen,kids,E9]);with_reducible (first|apply A3|apply A4|apply A5|apply A6|apply Cn|(refine Co (by simp) ?_)|(apply Cp<;>intro hc<;>(try simp only [Ar] at hc)<;>(try (exfalso;omega)))))|(with_reducible (first|apply Cu|apply Cv|apply Cw|apply Cx)<;>intro hc<;>(try simp only [Ar] at hc)<;>(try (exfalso;omega))))
   have hsa:=hsz a hra.2
   simp only [size] at hst
   refine Sx.D0 (h121 op (Au a) acc wa b p h hra.1 ta (by omega) he) fun vv hh ee qq=>?_
   obtain ⟨ww,rfl,qq⟩:=qq
   obtain ⟨ob,cw⟩:=qq.ob
   have elo:=ee.lo
   have eold:=ee.old
   repeat' (first|with_reducible (first|apply A3|apply A4|apply A5|apply A6)|(with_reducible (first|apply Cq|apply Cr|apply Cs|apply Ct);(conv=>lhs;simp (disch:=first|exact dA|fail) [lw, *]);with_reducible (first|apply A3|apply A4|apply A5|apply A6|apply Cn|(refine Co (by simp) ?_)|(apply Cp<;>intro hc<;>(try simp only [Ar] at hc)<;>(try (exfalso;omega)))))|(with_reducible (first|apply Cu|apply Cv|apply Cw|apply Cx)<;>intro hc<;>(try simp only [Ar] at hc)<;>(try (exfalso;omega))))
   all_goals first|(refine zr ?_ (Am.of ?_ (Am.here (TV.C6 _ _)));exact Ak;(focus (first|rfl|(simp [Au, *];done)|(simp [Au, *];omega)|(simp_all [Au];done);done)))|(refine zr ?_ (Am.of ?_ (Am.here ?_));exact Ak;(focus (first|rfl|(simp [Au, *];done)|(simp [Au, *];omega)|(simp_all [Au];done);done));exact Cd)
  |two op a c=>
   obtain ⟨wa,wc,rfl⟩:=map_two m
   obtain ⟨b,p,he⟩:=ps_el hsl (i:=0) (a:=Au a) (w:=wa) rfl
   obtain ⟨b2,p2,he2⟩:=ps_el hsl (i:=1) (a:=Au c) (w:=wc) rfl
   have ta:=tv (Au a,wa) (by simp)
   have tc:=tv (Au c,wc) (by simp)
   have hra:=ht.reg
   repeat' (first|with_reducible (first|apply A3|apply A4|apply A5|apply A6)|(with_reducible (first|apply Cq|apply Cr|apply Cs|apply Ct);(conv=>lhs;simp (disch:=first|exact dA|fail) [lw, *,hlen,kids,Eg]);with_reducible (first|apply A3|apply A4|apply A5|apply A6|apply Cn|(refine Co (by simp) ?_)|(apply Cp<;>intro hc<;>(try simp only [Ar] at hc)<;>(try (exfalso;omega)))))|(with_reducible (first|apply Cu|apply Cv|apply Cw|apply Cx)<;>intro hc<;>(try simp only [Ar] at hc)<;>(try (exfalso;omega))))
   have hsa:=hsz a hra.2.1
   have hsc:=hsz c hra.2.2
   simp only [size] at hst
   refine Sx.D0 (h122 op (Au a) (Au c) acc wa wc b p b2 p2 h hra.1 ta tc (by omega) (by omega) he he2) fun vv hh ee qq=>?_
   obtain ⟨ww,rfl,qq⟩:=qq
   obtain ⟨ob,cw⟩:=qq.ob
   have elo:=ee.lo
   have eold:=ee.old
   repeat' (first|with_reducible (first|apply A3|apply A4|apply A5|apply A6)|(with_reducible (first|apply Cq|apply Cr|apply Cs|apply Ct);(conv=>lhs;simp (disch:=first|exact dA|fail) [lw, *]);with_reducible (first|apply A3|apply A4|apply A5|apply A6|apply Cn|(refine Co (by simp) ?_)|(apply Cp<;>intro hc<;>(try simp only [Ar] at hc)<;>(try (exfalso;omega)))))|(with_reducible (first|apply Cu|apply Cv|apply Cw|apply Cx)<;>intro hc<;>(try simp only [Ar] at hc)<;>(try (exfalso;omega))))
   all_goals first|(refine zr ?_ (Am.of ?_ (Am.here (TV.C6 _ _)));exact Ak;(focus (first|rfl|(simp [Au, *];done)|(simp [Au, *];omega)|(simp_all [Au];done);done)))|(refine zr ?_ (Am.of ?_ (Am.here ?_));exact Ak;(focus (first|rfl|(simp [Au, *];done)|(simp [Au, *];omega)|(simp_all [Au];done);done));exact Cd)
  |three a c d=>
   obtain ⟨wa,wc,wd,rfl⟩:=map_three m
   obtain ⟨b,p,he⟩:=ps_el hsl (i:=0) (a:=Au a) (w:=wa) rfl
   obtain ⟨b2,p2,he2⟩:=ps_el hsl (i:=1) (a:=Au c) (w:=wc) rfl
   obtain ⟨b3,p3,he3⟩:=ps_el hsl (i:=2) (a:=Au d) (w:=wd) rfl
   have ta:=tv (Au a,wa) (by simp)
   have tc:=tv (Au c,wc) (by simp)
   have td:=tv (Au d,wd) (by simp)
   have hra:=ht.reg
   repeat' (first|with_reducible (first|apply A3|apply A4|apply A5|apply A6)|(with_reducible (first|apply Cq|apply Cr|apply Cs|apply Ct);(conv=>lhs;simp (disch:=first|exact dA|fail) [lw, *,hlen,kids,C0]);with_reducible (first|apply A3|apply A4|apply A5|apply A6|apply Cn|(refine Co (by simp) ?_)|(apply Cp<;>intro hc<;>(try simp only [Ar] at hc)<;>(try (exfalso;omega)))))|(with_reducible (first|apply Cu|apply Cv|apply Cw|apply Cx)<;>intro hc<;>(try simp only [Ar] at hc)<;>(try (exfalso;omega))))
   have hsa:=hsz a hra.1
   have hsc:=hsz c hra.2.1
   have hsd:=hsz d hra.2.2
   simp only [size] at hst
   refine Sx.D0 (h123 (Au a) (Au c) (Au d) acc wa wc wd b p b2 p2 b3 p3 h ta tc td (by omega) (by omega) (by omega) he he2 he3) fun vv hh ee qq=>?_
   obtain ⟨ww,rfl,qq⟩:=qq
   obtain ⟨ob,cw⟩:=qq.ob
   have elo:=ee.lo
   have eold:=ee.old
   repeat' (first|with_reducible (first|apply A3|apply A4|apply A5|apply A6)|(with_reducible (first|apply Cq|apply Cr|apply Cs|apply Ct);(conv=>lhs;simp (disch:=first|exact dA|fail) [lw, *]);with_reducible (first|apply A3|apply A4|apply A5|apply A6|apply Cn|(refine Co (by simp) ?_)|(apply Cp<;>intro hc<;>(try simp only [Ar] at hc)<;>(try (exfalso;omega)))))|(with_reducible (first|apply Cu|apply Cv|apply Cw|apply Cx)<;>intro hc<;>(try simp only [Ar] at hc)<;>(try (exfalso;omega))))
   all_goals first|(refine zr ?_ (Am.of ?_ (Am.here (TV.C6 _ _)));exact Ak;(focus (first|rfl|(simp [Au, *];done)|(simp [Au, *];omega)|(simp_all [Au];done);done)))|(refine zr ?_ (Am.of ?_ (Am.here ?_));exact Ak;(focus (first|rfl|(simp [Au, *];done)|(simp [Au, *];omega)|(simp_all [Au];done);done));exact Cd)
 |cons a rest ih=>
  intro pre ps h acc f0 n1 hp hn hdn
  obtain ⟨n2,rfl⟩:∃ n2,n1=n2+1:=⟨n1 - 1,by omega⟩
  have hkl:(kids t).length=pre.length+(rest.length+1):=by rw [hp];simp
  rw [hkl] at hk3
  obtain ⟨e,lo,g1,g2,o,m,tv⟩:=hdn
  obtain ⟨wa,b,p,hta,hia,hal,-⟩:=hel pre.length a (by rw [hp];simp)
  obtain ⟨oa,ca⟩:=hta.ob
  have h71:=hrec a (by rw [hp];simp)
  have hpl:ps.length=pre.length:=by have:=congrArg List.length m;simpa using this
  rw [L71x1s]
  repeat' (first|with_reducible (first|apply A3|apply A4|apply A5|apply A6)|((with_reducible (first|apply Db|apply Dc));exact h71 _ _ Cd;intro vv hh ee elo eold qq;(try simp only [Bp] at elo eold);obtain ⟨ww,rfl,qq⟩:=qq;obtain ⟨ob,cw⟩:=qq.ob)|(with_reducible (first|apply Cq|apply Cr|apply Cs|apply Ct);(conv=>lhs;simp (disch:=first|exact dA|fail) [lw, *,hlen,hp]);with_reducible (first|apply A3|apply A4|apply A5|apply A6|apply Cn|(refine Co (by simp) ?_)|(apply Cp<;>intro hc<;>(try simp only [Ar] at hc)<;>(try (exfalso;omega)))))|(with_reducible (first|apply Cu|apply Cv|apply Cw|apply Cx)<;>intro hc<;>(try simp only [Ar] at hc)<;>(try (exfalso;omega))))
  obtain ⟨v2,h',r1,r2,r3,r4,r5⟩:=(o.gr (h1:=hh.new (.cells (rc (Au a) ww) 67 .exact)) Ak).app (bytes:=56) (c':=rc (Au a) ww) (len':=1) (Sx.Sl.lit (h:=hh) (h1:=hh.new (.cells (rc (Au a) ww) 67 .exact)) (Sx.Eh _) rfl rfl) (by omega) (by simp [ob]) (by show h0.nx+2<=hh.nx+1;omega)
  refine Sx.B8 r1 ?_
  repeat' (first|with_reducible (first|apply A3|apply A4|apply A5|apply A6)|(with_reducible (first|apply Cq|apply Cr|apply Cs|apply Ct);(conv=>lhs;simp (disch:=first|exact dA|fail) [lw, *]);with_reducible (first|apply A3|apply A4|apply A5|apply A6|apply Cn|(refine Co (by simp) ?_)|(apply Cp<;>intro hc<;>(try simp only [Ar] at hc)<;>(try (exfalso;omega)))))|(with_reducible (first|apply Cu|apply Cv|apply Cw|apply Cx)<;>intro hc<;>(try simp only [Ar] at hc)<;>(try (exfalso;omega))))
  have hcast:(pre.length:Int)+1=((pre++[a]).length:Int):=by simp
  rw [hcast]
  have ek:Sx.A9 hh h':=Sx.A9.trans (Sx.Ai.keeps Ak) r2
  refine ih (pre++[a]) (ps++[(Au a,ww)]) h' v2 _ n2 (by rw [hp];simp) (by simp at hn ⊢;omega) ⟨r3 h0 (by omega) Ak,?_,?_,?_,?_,by simp [m],fun q hq=>?_⟩
  . have:=r2.lo
    have h9:hh.nx+1<=h'.nx:=this
    omega
  . rw [r5 _ (by omega)];exact Ep
  . rw [r5 _ (by omega)];exact Ep
  . show Sx.Own 4 (h0.nx+2) 67 h' v2 (ps++[(Au a,ww)]).length ((ps++[(Au a,ww)]).flatMap rcp)
    rw [List.length_append,List.flatMap_append]
    exact r4
  . rcases List.mem_append.1 hq with hq|hq
    . exact (tv q hq).B2 (Sx.A9.trans (Sx.Ai.keeps Ak) ek)
    . simp at hq
      subst hq
      exact qq.B2 ek
theorem r71 (h121:R121_1 ctx) (h122:R121_2 ctx) (h123:R121_3 ctx) (hN:10<=N) (hsz:∀ a,Reg a->size (Au a)<=size a) (t:Tr) (hst:size t<=1000) (hrec:∀ a∈kids t,R71 ctx a) (w:AV) (h:H) (ht:TV h t w):Sx.Af h (Am (Au t)) (An Tryz.prog ctx N true 71 [.agg (rc t w)] h):=by
 rw [e71]
 obtain ⟨ow,cw0⟩:=ht.ob
 obtain ⟨hlen,hel⟩:=ht.kid
 by_cases hk:kids t=[]
 . have hnt:Au t=t:=by cases t<;>simp [kids] at hk;rfl
   rw [hnt]
   repeat' (first|with_reducible (first|apply A3|apply A4|apply A5|apply A6)|(with_reducible (first|apply Cq|apply Cr|apply Cs|apply Ct);(conv=>lhs;simp (disch:=first|exact dA|fail) [lw, *,hlen,hk]);with_reducible (first|apply A3|apply A4|apply A5|apply A6|apply Cn|(refine Co (by simp) ?_)|(apply Cp<;>intro hc<;>(try simp only [Ar] at hc)<;>(try (exfalso;omega)))))|(with_reducible (first|apply Cu|apply Cv|apply Cw|apply Cx)<;>intro hc<;>(try simp only [Ar] at hc)<;>(try (exfalso;omega))))
   all_goals first|(refine zr ?_ (Am.of ?_ (Am.here (TV.C6 _ _)));exact Ak;(focus (first|exact specA|fail;done)))|(refine zr ?_ (Am.of ?_ (Am.here ?_));exact Ak;(focus (first|exact specA|fail;done));exact Cd)
 . have hkl:(kids t).length<=3:=by cases t<;>simp [kids]
   have hd0:¬ ((kids t).length:Int)=0:=fun hh=>hk (List.length_eq_zero_iff.1 (by omega))
   repeat' (first|with_reducible (first|apply A3|apply A4|apply A5|apply A6)|(with_reducible (first|apply Cq|apply Cr|apply Cs|apply Ct);(conv=>lhs;simp (disch:=first|exact dA|fail) [lw, *,hlen,hd0,hk]);with_reducible (first|apply A3|apply A4|apply A5|apply A6|apply Cn|(refine Co (by simp) ?_)|(apply Cp<;>intro hc<;>(try simp only [Ar] at hc)<;>(try (exfalso;omega)))))|(with_reducible (first|apply Cu|apply Cv|apply Cw|apply Cx)<;>intro hc<;>(try simp only [Ar] at hc)<;>(try (exfalso;omega))))
   exact loop71 ctx N h121 h122 h123 hsz t hst hrec hk ht (kids t) [] [] _ _ _ N rfl (by omega) ⟨Ak,Nat.le_refl _,Ep,Ep,Sx.Own.nil ..,rfl,fun p hp=>by cases hp⟩
end Go.Proofs
namespace Go.Proofs
open Go Go.Ev Go.Nm
attribute [local irreducible] Aa Aj Ah Ac
variable (ctx:Ae) (N:Nat)
def Es (op:Int):List Nat:=if op=1\/op=2\/op=3 then [] else if op=4\/op=5\/op=6 then [110,110] else if op=7 then [110] else if op=8 then [116,110,110] else if op=15\/op=16 then [116,116] else if op=17 then [116] else [110,110]
def tout (op:Int):List Nat:=if op=1\/op=2\/op=3\/op=4\/op=5\/op=6\/op=7\/op=8 then [110] else [116]
def R119:Prop:=∀ (op:Int) (h:H),Sx.Af h (fun r _=>r=.Bl [.str (Es op),.str (tout op)]) (ctx.call 119 [.int .i64 op] h)
def R120:Prop:=∀ (l:List Nd) (v:AV) (i:Nat) (x:Nd) (h:H),NdS h v l->l[i]?=some x->l.length<=3000->Sx.Af h (fun r _=>r=.bool (!bad1 x&&!Fg l i x)) (ctx.call 120 [v,.int .i64 (i:Int)] h)
theorem r119 (op:Int) (h:H):Sx.Af h (fun r _=>r=.Bl [.str (Es op),.str (tout op)]) (An Tryz.prog ctx N true 119 [.int .i64 op] h):=by
 rw [e119]
 by_cases h1:op=1\/op=2\/op=3
 . rcases h1 with rfl|rfl|rfl
   all_goals repeat' (first|with_reducible (first|apply A3|apply A4|apply A5|apply A6)|(with_reducible (first|apply Cq|apply Cr|apply Cs|apply Ct);(conv=>lhs;simp (disch:=first|exact dA|fail) [lw, *]);with_reducible (first|apply A3|apply A4|apply A5|apply A6|apply Cn|(refine Co (by simp) ?_)|(apply Cp<;>intro hc<;>(try simp only [Ar] at hc)<;>(try (exfalso;omega)))))|(with_reducible (first|apply Cu|apply Cv|apply Cw|apply Cx)<;>intro hc<;>(try simp only [Ar] at hc)<;>(try (exfalso;omega)))|(rw [J119x1s])|(rw [J119x2s])|(rw [J119x3s]))
   all_goals (refine zr ?_ ?_;exact Ak;(first|rfl|(simp [Es,tout, *];done)|(simp [Es,tout, *];omega)|(simp_all [Es,tout];done)))
 by_cases h2:op=4\/op=5\/op=6\/op=7\/op=8
 . rcases h2 with rfl|rfl|rfl|rfl|rfl
   all_goals repeat' (first|with_reducible (first|apply A3|apply A4|apply A5|apply A6)|(with_reducible (first|apply Cq|apply Cr|apply Cs|apply Ct);(conv=>lhs;simp (disch:=first|exact dA|fail) [lw, *]);with_reducible (first|apply A3|apply A4|apply A5|apply A6|apply Cn|(refine Co (by simp) ?_)|(apply Cp<;>intro hc<;>(try simp only [Ar] at hc)<;>(try (exfalso;omega)))))|(with_reducible (first|apply Cu|apply Cv|apply Cw|apply Cx)<;>intro hc<;>(try simp only [Ar] at hc)<;>(try (exfalso;omega)))|(rw [J119x1s])|(rw [J119x2s])|(rw [J119x3s]))
   all_goals (refine zr ?_ ?_;exact Ak;(first|rfl|(simp [Es,tout, *];done)|(simp [Es,tout, *];omega)|(simp_all [Es,tout];done)))
 by_cases h3:op=15\/op=16\/op=17
 . rcases h3 with rfl|rfl|rfl
   all_goals repeat' (first|with_reducible (first|apply A3|apply A4|apply A5|apply A6)|(with_reducible (first|apply Cq|apply Cr|apply Cs|apply Ct);(conv=>lhs;simp (disch:=first|exact dA|fail) [lw, *]);with_reducible (first|apply A3|apply A4|apply A5|apply A6|apply Cn|(refine Co (by simp) ?_)|(apply Cp<;>intro hc<;>(try simp only [Ar] at hc)<;>(try (exfalso;omega)))))|(with_reducible (first|apply Cu|apply Cv|apply Cw|apply Cx)<;>intro hc<;>(try simp only [Ar] at hc)<;>(try (exfalso;omega)))|(rw [J119x1s])|(rw [J119x2s])|(rw [J119x3s]))
   all_goals (refine zr ?_ ?_;exact Ak;(first|rfl|(simp [Es,tout, *];done)|(simp [Es,tout, *];omega)|(simp_all [Es,tout];done)))
 . have i1:¬ op=1:=by omega
   have i2:¬ op=2:=by omega
   have i3:¬ op=3:=by omega
   have i4:¬ op=4:=by omega
   have i5:¬ op=5:=by omega
   have i6:¬ op=6:=by omega
   have i7:¬ op=7:=by omega
   have i8:¬ op=8:=by omega
   have i15:¬ op=15:=by omega
   have i16:¬ op=16:=by omega
   have i17:¬ op=17:=by omega
   repeat' (first|with_reducible (first|apply A3|apply A4|apply A5|apply A6)|(with_reducible (first|apply Cq|apply Cr|apply Cs|apply Ct);(conv=>lhs;simp (disch:=first|exact dA|fail) [lw, *]);with_reducible (first|apply A3|apply A4|apply A5|apply A6|apply Cn|(refine Co (by simp) ?_)|(apply Cp<;>intro hc<;>(try simp only [Ar] at hc)<;>(try (exfalso;omega)))))|(with_reducible (first|apply Cu|apply Cv|apply Cw|apply Cx)<;>intro hc<;>(try simp only [Ar] at hc)<;>(try (exfalso;omega)))|(rw [J119x1s])|(rw [J119x2s])|(rw [J119x3s]))
   all_goals (refine zr ?_ ?_;exact Ak;(first|rfl|(simp [Es,tout, *];done)|(simp [Es,tout, *];omega)|(simp_all [Es,tout];done)))
theorem r120 (l:List Nd) (v:AV) (i:Nat) (x:Nd) (h:H) (hv:NdS h v l) (hx:l[i]?=some x) (hl:l.length<=3000):Sx.Af h (fun r _=>r=.bool (!bad1 x&&!Fg l i x)) (An Tryz.prog ctx N true 120 [v,.int .i64 (i:Int)] h):=by
 rw [e120]
 have hil:=(List.getElem?_eq_some_iff.1 hx).1
 obtain ⟨b,p,p1,p2,-,-,-⟩:=nd_get hv hx
 refine Sx.B8 (p1 h) ?_
 refine Sx.B8 (p2 h (Sx.A9.refl h)) ?_
 refine Sx.B8 (Sx.mk_ok ..) ?_
 refine Sx.B8 (v:=.Bl []) (h:=(h.new (.cells [.int .i64 0,.int .i64 0,.str []] 32 .exact)).put h.nx (.cells (Bq x) 32 .exact)) (by simp [lput_eq,Bq]) ?_
 have e1:Sx.Ai h ((h.new (.cells [.int .i64 0,.int .i64 0,.str []] 32 .exact)).put h.nx (.cells (Bq x) 32 .exact)):=Ak
 have g1:((h.new (.cells [.int .i64 0,.int .i64 0,.str []] 32 .exact)).put h.nx (.cells (Bq x) 32 .exact)).m.get h.nx=.cells (Bq x) 32 .exact:=Sx.Fw ..
 generalize ((h.new (.cells [.int .i64 0,.int .i64 0,.str []] 32 .exact)).put h.nx (.cells (Bq x) 32 .exact))=h5 at *
 repeat' (first|with_reducible apply Sx.gv_bind_ok|with_reducible apply Sx.gv_cond_t|with_reducible apply Sx.gv_cond_f|(with_reducible apply Sx.gvR;(conv=>arg 3;arg 1;simp (disch:=first|exact dA|fail) [lc,Sx.Ca,Sx.Bt,Sx.Bu,Sx.Bv,Sx.Bw,Sx.Cl,Sx.B9,g1,Bq]);with_reducible apply Sx.gv_bind_ok)|(with_reducible apply Sx.gv_wantG;· intro hc;first|((try simp only [Bool.not_or,Bool.not_and,Bool.not_not] at hc);(conv=>lhs;simp (disch:=first|exact dA|fail) [hc,lc,Sx.Ca,Sx.Bt,Sx.Bu,Sx.Bv,Sx.Bw,Sx.Cl,Sx.B9,g1,Bq]);try exact rfl;done)|((try simp only [Bool.and_eq_true,Bool.or_eq_false_iff,Bool.or_eq_true,Bool.and_eq_false_imp,Bool.not_eq_true',Bool.not_eq_false',decide_eq_true_eq,decide_eq_false_iff_not] at hc);(conv=>lhs;simp (disch:=first|exact dA|fail) [hc,lc,Sx.Ca,Sx.Bt,Sx.Bu,Sx.Bv,Sx.Bw,Sx.Cl,Sx.B9,g1,Bq]);try exact rfl;done))|(with_reducible apply Sx.gvR;(conv=>arg 3;arg 1;simp only [Sx.Bt,Sx.Bu,Sx.Bv,Sx.Bw]);with_reducible apply Sx.gv_wantG;· intro hc;first|((try simp only [Bool.not_or,Bool.not_and,Bool.not_not] at hc);(conv=>lhs;simp (disch:=first|exact dA|fail) [hc,lc,Sx.Ca,Sx.Bt,Sx.Bu,Sx.Bv,Sx.Bw,Sx.Cl,Sx.B9,g1,Bq]);try exact rfl;done)|((try simp only [Bool.and_eq_true,Bool.or_eq_false_iff,Bool.or_eq_true,Bool.and_eq_false_imp,Bool.not_eq_true',Bool.not_eq_false',decide_eq_true_eq,decide_eq_false_iff_not] at hc);(conv=>lhs;simp (disch:=first|exact dA|fail) [hc,lc,Sx.Ca,Sx.Bt,Sx.Bu,Sx.Bv,Sx.Bw,Sx.Cl,Sx.B9,g1,Bq]);try exact rfl;done))|(with_reducible apply Sx.gvC;(conv=>arg 3;arg 1;simp (disch:=first|exact dA|fail) [lc,Sx.Ca,Sx.Bt,Sx.Bu,Sx.Bv,Sx.Bw,Sx.Cl,Sx.B9,g1,Bq]);first|with_reducible apply Sx.gv_cond_t|with_reducible apply Sx.gv_cond_f))
 refine Sx.gv_cond (fun hc=>?_) (fun hc=>?_)
 . have hb1:bad1 x=true:=hc
   exact Sx.Cj e1 (by simp [hb1])
 . have hb1:bad1 x=false:=hc
   rw [hb1]
   have hlen1:∀ hh,Ft v hh=.ok (.int .i64 (l.length:Int)) hh:=fun hh=>hv.lenL
   have hwa:Ga .i64 ((i:Int)+1)=(i:Int)+1:=by rw [Sx.Cg]<;>omega
   by_cases h3:x.op=3
   . rcases Nat.eq_zero_or_pos i with rfl|hp0
     . repeat' (first|with_reducible (first|apply A3|apply A4|apply A5|apply A6)|(with_reducible (first|apply Cq|apply Cr|apply Cs|apply Ct);(conv=>lhs;simp (disch:=first|exact dA|fail) [lw, *,g1,Bq,h3]);with_reducible (first|apply A3|apply A4|apply A5|apply A6|apply Cn|(refine Co (by simp) ?_)|(apply Cp<;>intro hc<;>(try simp only [Ar] at hc)<;>(try (exfalso;omega)))))|(with_reducible (first|apply Cu|apply Cv|apply Cw|apply Cx)<;>intro hc<;>(try simp only [Ar] at hc)<;>(try (exfalso;omega))))
       all_goals (refine zr ?_ ?_;exact Ak;(first|rfl|(simp [Fg,h3, *];done)|(simp [Fg,h3, *];omega)|(simp_all [Fg,h3];done)))
     . have hi0:(0:Int)<(i:Int):=by omega
       have hi1:¬ i=0:=by omega
       have hws:Ga .i64 ((i:Int) - 1)=((i - 1:Nat):Int):=by rw [Sx.Cg]<;>omega
       obtain ⟨y,hy⟩:∃ y,l[i - 1]?=some y:=⟨l[i - 1]'(by omega),List.getElem?_eq_getElem (by omega)⟩
       have hya:opAt l (i - 1)=y.op:=by unfold opAt;rw [hy]
       obtain ⟨yb,yo,y1,-,y3,-,-⟩:=nd_get hv hy
       by_cases hrest:l.length<=i+1
       . have hd1:¬ (i:Int)+1<(l.length:Int):=by omega
         repeat' (first|with_reducible (first|apply A3|apply A4|apply A5|apply A6)|(with_reducible (first|apply Cq|apply Cr|apply Cs|apply Ct);(conv=>lhs;simp (disch:=first|exact dA|fail) [lw, *,g1,Bq,h3,hd1]);with_reducible (first|apply A3|apply A4|apply A5|apply A6|apply Cn|(refine Co (by simp) ?_)|(apply Cp<;>intro hc<;>(try simp only [Ar] at hc)<;>(try (exfalso;omega)))))|(with_reducible (first|apply Cu|apply Cv|apply Cw|apply Cx)<;>intro hc<;>(try simp only [Ar] at hc)<;>(try (exfalso;omega))))
         all_goals (refine zr ?_ ?_;exact Ak;(first|rfl|(simp [Fg,h3,hrest, *];done)|(simp [Fg,h3,hrest, *];omega)|(simp_all [Fg,h3,hrest];done)))
       . have hd1:(i:Int)+1<(l.length:Int):=by omega
         obtain ⟨z,hz⟩:∃ z,l[i+1]?=some z:=⟨l[i+1]'(by omega),List.getElem?_eq_getElem (by omega)⟩
         have hza:opAt l (i+1)=z.op:=by unfold opAt;rw [hz]
         obtain ⟨zb,zo,z1,-,z3,-,-⟩:=nd_get hv hz
         have z1':∀ hh,E3 3 v (.int .i64 ((i:Int)+1)) hh=.ok (.ptr zb zo) hh:=fun hh=>by simpa using z1 hh
         clear hx hy hz
         by_cases hy2:y.op=2
         . by_cases hz9:z.op=9
           . repeat' (first|with_reducible (first|apply A3|apply A4|apply A5|apply A6)|(with_reducible (first|apply Cq|apply Cr|apply Cs|apply Ct);(conv=>lhs;simp (disch:=first|exact dA|fail) [lw, *,g1,Bq,h3,hd1]);with_reducible (first|apply A3|apply A4|apply A5|apply A6|apply Cn|(refine Co (by simp) ?_)|(apply Cp<;>intro hc<;>(try simp only [Ar] at hc)<;>(try (exfalso;omega)))))|(with_reducible (first|apply Cu|apply Cv|apply Cw|apply Cx)<;>intro hc<;>(try simp only [Ar] at hc)<;>(try (exfalso;omega))))
             all_goals (refine zr ?_ ?_;exact Ak;(first|rfl|(simp [Fg,h3,hrest,hya,hza,hy2,hz9, *];done)|(simp [Fg,h3,hrest,hya,hza,hy2,hz9, *];omega)|(simp_all [Fg,h3,hrest,hya,hza,hy2,hz9];done)))
           . by_cases hz10:z.op=10
             . repeat' (first|with_reducible (first|apply A3|apply A4|apply A5|apply A6)|(with_reducible (first|apply Cq|apply Cr|apply Cs|apply Ct);(conv=>lhs;simp (disch:=first|exact dA|fail) [lw, *,g1,Bq,h3,hd1]);with_reducible (first|apply A3|apply A4|apply A5|apply A6|apply Cn|(refine Co (by simp) ?_)|(apply Cp<;>intro hc<;>(try simp only [Ar] at hc)<;>(try (exfalso;omega)))))|(with_reducible (first|apply Cu|apply Cv|apply Cw|apply Cx)<;>intro hc<;>(try simp only [Ar] at hc)<;>(try (exfalso;omega))))
               all_goals (refine zr ?_ ?_;exact Ak;(first|rfl|(simp [Fg,h3,hrest,hya,hza,hy2,hz10, *];done)|(simp [Fg,h3,hrest,hya,hza,hy2,hz10, *];omega)|(simp_all [Fg,h3,hrest,hya,hza,hy2,hz10];done)))
             . repeat' (first|with_reducible (first|apply A3|apply A4|apply A5|apply A6)|(with_reducible (first|apply Cq|apply Cr|apply Cs|apply Ct);(conv=>lhs;simp (disch:=first|exact dA|fail) [lw, *,g1,Bq,h3,hd1]);with_reducible (first|apply A3|apply A4|apply A5|apply A6|apply Cn|(refine Co (by simp) ?_)|(apply Cp<;>intro hc<;>(try simp only [Ar] at hc)<;>(try (exfalso;omega)))))|(with_reducible (first|apply Cu|apply Cv|apply Cw|apply Cx)<;>intro hc<;>(try simp only [Ar] at hc)<;>(try (exfalso;omega))))
               all_goals (refine zr ?_ ?_;exact Ak;(first|rfl|(simp [Fg,h3,hrest,hya,hza,hy2,hz9,hz10, *];done)|(simp [Fg,h3,hrest,hya,hza,hy2,hz9,hz10, *];omega)|(simp_all [Fg,h3,hrest,hya,hza,hy2,hz9,hz10];done)))
         . repeat' (first|with_reducible (first|apply A3|apply A4|apply A5|apply A6)|(with_reducible (first|apply Cq|apply Cr|apply Cs|apply Ct);(conv=>lhs;simp (disch:=first|exact dA|fail) [lw, *,g1,Bq,h3,hd1]);with_reducible (first|apply A3|apply A4|apply A5|apply A6|apply Cn|(refine Co (by simp) ?_)|(apply Cp<;>intro hc<;>(try simp only [Ar] at hc)<;>(try (exfalso;omega)))))|(with_reducible (first|apply Cu|apply Cv|apply Cw|apply Cx)<;>intro hc<;>(try simp only [Ar] at hc)<;>(try (exfalso;omega))))
           all_goals (refine zr ?_ ?_;exact Ak;(first|rfl|(simp [Fg,h3,hrest,hya,hza,hy2, *];done)|(simp [Fg,h3,hrest,hya,hza,hy2, *];omega)|(simp_all [Fg,h3,hrest,hya,hza,hy2];done)))
   . repeat' (first|with_reducible (first|apply A3|apply A4|apply A5|apply A6)|(with_reducible (first|apply Cq|apply Cr|apply Cs|apply Ct);(conv=>lhs;simp (disch:=first|exact dA|fail) [lw, *,g1,Bq,h3]);with_reducible (first|apply A3|apply A4|apply A5|apply A6|apply Cn|(refine Co (by simp) ?_)|(apply Cp<;>intro hc<;>(try simp only [Ar] at hc)<;>(try (exfalso;omega)))))|(with_reducible (first|apply Cu|apply Cv|apply Cw|apply Cx)<;>intro hc<;>(try simp only [Ar] at hc)<;>(try (exfalso;omega))))
     all_goals (refine zr ?_ ?_;exact Ak;(first|rfl|(simp [Fg,h3, *];done)|(simp [Fg,h3, *];omega)|(simp_all [Fg,h3];done)))
end Go.Proofs
