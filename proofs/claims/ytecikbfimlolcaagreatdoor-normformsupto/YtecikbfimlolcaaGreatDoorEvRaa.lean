/- The reference's walks: lists of nodes, comparing. -/
import Derived.Test.YtecikbfimlolcaaGreatDoorEvRa
set_option maxRecDepth 100000
set_option linter.unusedSimpArgs false
set_option linter.unusedVariables false
namespace Go.Proofs
open Go Go.Ev Go.Nm
attribute [local irreducible] Aa Aj Ah Ac
variable (ctx:Ae) (N:Nat)
abbrev NdS (h:H) (v:AV) (l:List Nd):Prop:=Sx.SlF 3 Bq h v l
abbrev NdO (lo:Nat) (h:H) (v:AV) (l:List Nd):Prop:=Sx.Own 3 lo 32 h v l.length (l.flatMap Bq)
theorem ndc3 (x:Nd):(Bq x).length=3:=rfl
abbrev R35 (t:Tr):Prop:=∀ (w:AV) (h:H),TV h t w->Sx.Af h (fun r h1=>NdO h.nx h1 r t.nodes) (ctx.call 35 [.agg (rc t w)] h)
def kids:Tr->List Tr
 |.leaf _=>[]
 |.one _ a=>[a]
 |.two _ a b=>[a,b]
 |.three c a b=>[c,a,b]
theorem nodes_kids (t:Tr) (hn:Reg t):t.nodes=(kids t).flatMap Tr.nodes++[hd t]:=by
 cases t<;>simp [kids,Tr.nodes,hd]
theorem TV.kid {h:H} {t:Tr} {v:AV} (ht:TV h t v):(∀ h1,Ft v h1=.ok (.int .i64 ((kids t).length:Int)) h1)/\∀ (i:Nat) (a:Tr),(kids t)[i]?=some a->∃ w b p,TV h a w/\El h v (i:Int) a w b p:=by
 cases t with
 |leaf x=>exact ⟨ht.leaf.1,fun i a hi=>by simp [kids] at hi⟩
 |one o a=>
  obtain ⟨h1,_,w,b,p,h2,h3⟩:=ht.one
  refine ⟨h1,fun i x hi=>?_⟩
  match i,hi with
  |0,hi=>simp [kids] at hi;subst hi;exact ⟨w,b,p,h2,h3⟩
  |i+1,hi=>simp [kids] at hi
 |two o a c=>
  obtain ⟨h1,_,w,b,p,w',b',p',h2,h3,h4,h5⟩:=ht.two
  refine ⟨h1,fun i x hi=>?_⟩
  match i,hi with
  |0,hi=>simp [kids] at hi;subst hi;exact ⟨w,b,p,h2,h4⟩
  |1,hi=>simp [kids] at hi;subst hi;exact ⟨w',b',p',h3,h5⟩
  |i+2,hi=>simp [kids] at hi
 |three a c d=>
  obtain ⟨h1,w,b,p,w',b',p',w2,b2,p2,h2,h3,h4,h5,h6,h7⟩:=ht.three
  refine ⟨h1,fun i x hi=>?_⟩
  match i,hi with
  |0,hi=>simp [kids] at hi;subst hi;exact ⟨w,b,p,h2,h5⟩
  |1,hi=>simp [kids] at hi;subst hi;exact ⟨w',b',p',h3,h6⟩
  |2,hi=>simp [kids] at hi;subst hi;exact ⟨w2,b2,p2,h4,h7⟩
  |i+3,hi=>simp [kids] at hi
theorem one_nd (l:List Nd):Bn (l.flatMap Bq)=true:=by
 induction l with
 |nil=>rfl
 |cons x l ih=>rw [List.flatMap_cons];simp [ih]
theorem nodes_le (t:Tr) (hs:size t<=1000):t.nodes.length<=1000:=by rw [B5];exact hs
theorem loop35 (t:Tr) (hsz:size t<=1000) (hk:∀ a∈kids t,R35 ctx a) {h0:H} {w:AV} (ht:TV h0 t w):
 ∀ (rest pre:List Tr) (h:H) (acc:AV) (f0:L2) (n1:Nat),kids t=pre++rest->rest.length+1<=n1->Sx.Ai h0 h->h0.nx+1<=h.nx->h.m.get h0.nx=.cells (rc t w) 67 .exact->NdO (h0.nx+1) h acc (pre.flatMap Tr.nodes) ->
  Sx.Af h0 (fun r h1=>NdO h0.nx h1 r t.nodes) (L35x1 ctx N n1 (.ptr h0.nx 0) acc (.int .i64 (pre.length:Int)) f0 h):=by
 obtain ⟨hlen,hel⟩:=ht.kid
 have hob:=ht.ob
 have hk3:(kids t).length<=3:=by cases t<;>simp [kids]
 intro rest
 induction rest with
 |nil=>
  intro pre h acc f0 n1 hp hn he hlo hg ho
  obtain ⟨n2,rfl⟩:∃ n2,n1=n2+1:=⟨n1 - 1,by omega⟩
  rw [List.append_nil] at hp
  have hd0:decide ((pre.length:Int)<((kids t).length:Int))=false:=by simp [hp]
  rw [L35x1s]
  repeat' (first|with_reducible (first|apply A3|apply A4|apply A5|apply A6)|(with_reducible (first|apply Cq|apply Cr|apply Cs|apply Ct);(conv=>lhs;simp (disch:=first|exact dA|fail) [lw, *,hlen,hp]);with_reducible (first|apply A3|apply A4|apply A5|apply A6|apply Cn|(refine Co (by simp) ?_)|(apply Cp<;>intro hc<;>(try simp only [Ar] at hc)<;>(try (exfalso;omega)))))|(with_reducible (first|apply Cu|apply Cv|apply Cw|apply Cx)<;>intro hc<;>(try simp only [Ar] at hc)<;>(try (exfalso;omega))))
  have hnl:t.nodes.length=(pre.flatMap Tr.nodes).length+1:=by rw [nodes_kids t ht.reg,hp];simp
  have hns:=nodes_le t hsz
  obtain ⟨v,h',r1,r2,r3,r4,r5⟩:=(ho.gr (h1:=h.new (.cells (Bq (hd t)) 32 .exact)) Ak).app (bytes:=32) (c':=Bq (hd t)) (len':=1) (Sx.Sl.lit (h:=h) (h1:=h.new (.cells (Bq (hd t)) 32 .exact)) (Sx.Eh _) rfl rfl) (by omega) (by simp) (by show h0.nx+1<=h.nx+1;omega)
  refine Sx.B8 r1 ?_
  refine Sx.Cj (r3 h0 (by omega) Ak) ?_
  have h9:NdO (h0.nx+1) h' v t.nodes:=by
   have e1:t.nodes=pre.flatMap Tr.nodes++[hd t]:=by rw [nodes_kids t ht.reg,hp]
   rw [NdO,hnl,e1,List.flatMap_append]
   simpa using r4
  exact h9.one (by omega)
 |cons a rest ih=>
  intro pre h acc f0 n1 hp hn he hlo hg ho
  obtain ⟨n2,rfl⟩:∃ n2,n1=n2+1:=⟨n1 - 1,by omega⟩
  have hkl:(kids t).length=pre.length+(rest.length+1):=by rw [hp];simp
  have hd0:decide ((pre.length:Int)<((kids t).length:Int))=true:=by simp [hkl];omega
  obtain ⟨wa,b,p,hta,hia,hal,-⟩:=hel pre.length a (by rw [hp];simp)
  have h35:=hk a (by rw [hp];simp)
  rw [L35x1s]
  rw [hkl] at hk3
  repeat' (first|with_reducible (first|apply A3|apply A4|apply A5|apply A6)|((with_reducible (first|apply Db|apply Dc));exact h35 _ _ Cd;intro vv hh ee elo eold qq;(try simp only [Bp] at elo eold);skip)|(with_reducible (first|apply Cq|apply Cr|apply Cs|apply Ct);(conv=>lhs;simp (disch:=first|exact dA|fail) [lw, *,hlen,hp]);with_reducible (first|apply A3|apply A4|apply A5|apply A6|apply Cn|(refine Co (by simp) ?_)|(apply Cp<;>intro hc<;>(try simp only [Ar] at hc)<;>(try (exfalso;omega)))))|(with_reducible (first|apply Cu|apply Cv|apply Cw|apply Cx)<;>intro hc<;>(try simp only [Ar] at hc)<;>(try (exfalso;omega))))
  have hnl:t.nodes.length=(pre.flatMap Tr.nodes).length+a.nodes.length+(rest.flatMap Tr.nodes).length+1:=by rw [nodes_kids t ht.reg,hp];simp;omega
  have hns:=nodes_le t hsz
  obtain ⟨v2,h',r1,r2,r3,r4,r5⟩:=(ho.gr Ak).app (bytes:=32) qq.sl (by omega) (one_nd _) (by omega)
  refine Sx.B8 r1 ?_
  repeat' (first|with_reducible (first|apply A3|apply A4|apply A5|apply A6)|(with_reducible (first|apply Cq|apply Cr|apply Cs|apply Ct);(conv=>lhs;simp (disch:=first|exact dA|fail) [lw, *]);with_reducible (first|apply A3|apply A4|apply A5|apply A6|apply Cn|(refine Co (by simp) ?_)|(apply Cp<;>intro hc<;>(try simp only [Ar] at hc)<;>(try (exfalso;omega)))))|(with_reducible (first|apply Cu|apply Cv|apply Cw|apply Cx)<;>intro hc<;>(try simp only [Ar] at hc)<;>(try (exfalso;omega))))
  have hcast:((pre++[a]).length:Int)=(pre.length:Int)+1:=by simp
  rw [<- hcast]
  refine ih (pre++[a]) h' v2 _ n2 (by rw [hp];simp) (by simp at hn ⊢;omega) (r3 h0 (by omega) Ak) (by have:=r2.lo;omega) (by rw [r5 _ (by omega),eold _ (by omega)];exact hg) ?_
  rw [NdO,List.flatMap_append,List.flatMap_append,List.length_append]
  simpa using r4
theorem r35 (t:Tr) (hsz:size t<=1000) (hN:10<=N) (hk:∀ a∈kids t,R35 ctx a) (w:AV) (h:H) (ht:TV h t w):Sx.Af h (fun r h1=>NdO h.nx h1 r t.nodes) (An Tryz.prog ctx N true 35 [.agg (rc t w)] h):=by
 rw [e35]
 have hkl:(kids t).length<=3:=by cases t<;>simp [kids]
 repeat' (first|with_reducible (first|apply A3|apply A4|apply A5|apply A6)|(with_reducible (first|apply Cq|apply Cr|apply Cs|apply Ct);(conv=>lhs;simp (disch:=first|exact dA|fail) [lw, *]);with_reducible (first|apply A3|apply A4|apply A5|apply A6|apply Cn|(refine Co (by simp) ?_)|(apply Cp<;>intro hc<;>(try simp only [Ar] at hc)<;>(try (exfalso;omega)))))|(with_reducible (first|apply Cu|apply Cv|apply Cw|apply Cx)<;>intro hc<;>(try simp only [Ar] at hc)<;>(try (exfalso;omega))))
 exact loop35 ctx N t hsz hk ht (kids t) [] _ _ _ N rfl (by omega) Ak (Nat.le_refl _) (Sx.Eh _) (Sx.Own.nil ..)
def R35s:Prop:=∀ t,size t<=1000->R35 ctx t
theorem nd_get {l:List Nd} {i:Nat} {x:Nd} {h:H} {v:AV} (hv:NdS h v l) (hi:l[i]?=some x):∃ b p,(∀ h1,E3 3 v (.int .i64 (i:Int)) h1=.ok (.ptr b p) h1)/\(∀ hh,Sx.A9 h hh->Ad (some (some 3)) (.ptr b p) hh=.ok (.agg (Bq x)) hh) /\
 (∀ hh,Sx.A9 h hh->Ad (some none) (.ptr b p) hh=.ok (.int .i64 x.op) hh)/\(∀ hh,Sx.A9 h hh->Ad (some none) (.ptr b (p+1)) hh=.ok (.int .i64 x.n) hh)/\(∀ hh,Sx.A9 h hh->Ad (some none) (.ptr b (p+2)) hh=.ok (.str x.col) hh):=by
 obtain ⟨b,p,e⟩:=Sx.SlF.elem ndc3 hv hi
 exact ⟨b,p,e.ia,e.all,e.part 0 _ rfl,e.part 1 _ rfl,e.part 2 _ rfl⟩
theorem loop264 (l m:List Nd) (hl:l.length<=1000) (hm:m.length<=1000) {h0:H} {v w:AV} (hv:NdS h0 v l) (hw:NdS h0 w m):
 ∀ (rest rest2 pre pre2:List Nd) (h:H) (f0:L2) (n1:Nat),l=pre++rest->m=pre2++rest2->pre2.length=pre.length->rest.length+1<=n1->Sx.Ai h0 h ->
  Sx.Af h0 (fun r _=>r=.bool (ltN rest rest2)) (L264x1 ctx N n1 v w (.int .i64 (pre.length:Int)) f0 h):=by
 have hlen1:∀ hh,Ft v hh=.ok (.int .i64 (l.length:Int)) hh:=fun _=>hv.lenL
 have hlen2:∀ hh,Ft w hh=.ok (.int .i64 (m.length:Int)) hh:=fun _=>hw.lenL
 intro rest
 induction rest with
 |nil=>
  intro rest2 pre pre2 h f0 n1 hp hp2 hpl hn he
  obtain ⟨n2,rfl⟩:∃ n2,n1=n2+1:=⟨n1 - 1,by omega⟩
  have hll:l.length=pre.length:=by rw [hp];simp
  have hml:m.length=pre.length+rest2.length:=by rw [hp2];simp [hpl]
  rw [L264x1s]
  repeat' (first|with_reducible (first|apply A3|apply A4|apply A5|apply A6)|(with_reducible (first|apply Cq|apply Cr|apply Cs|apply Ct);(conv=>lhs;simp (disch:=first|exact dA|fail) [lw, *,hlen1,hlen2,hll,hml]);with_reducible (first|apply A3|apply A4|apply A5|apply A6|apply Cn|(refine Co (by simp) ?_)|(apply Cp<;>intro hc<;>(try simp only [Ar] at hc)<;>(try (exfalso;omega)))))|(with_reducible (first|apply Cu|apply Cv|apply Cw|apply Cx)<;>intro hc<;>(try simp only [Ar] at hc)<;>(try (exfalso;omega))))
  cases rest2 with
  |nil=>all_goals (refine zr ?_ ?_;exact Ak;(first|rfl|(simp [ltN, *];done)|(simp [ltN, *];omega)|(simp_all [ltN];done)))
  |cons y rest2=>all_goals (refine zr ?_ ?_;exact Ak;(first|rfl|(simp [ltN, *];done)|(simp [ltN, *];omega)|(simp_all [ltN];done)))
 |cons x rest ih=>
  intro rest2 pre pre2 h f0 n1 hp hp2 hpl hn he
  obtain ⟨n2,rfl⟩:∃ n2,n1=n2+1:=⟨n1 - 1,by omega⟩
  have hll:l.length=pre.length+(rest.length+1):=by rw [hp];simp
  have hml:m.length=pre.length+rest2.length:=by rw [hp2];simp [hpl]
  obtain ⟨b,p,p1,p2,p3,p4,p5⟩:=nd_get hv (i:=pre.length) (x:=x) (by rw [hp];simp)
  rw [L264x1s]
  cases rest2 with
  |nil=>
   repeat' (first|with_reducible (first|apply A3|apply A4|apply A5|apply A6)|(with_reducible (first|apply Cq|apply Cr|apply Cs|apply Ct);(conv=>lhs;simp (disch:=first|exact dA|fail) [lw, *,hlen1,hlen2,hll,hml]);with_reducible (first|apply A3|apply A4|apply A5|apply A6|apply Cn|(refine Co (by simp) ?_)|(apply Cp<;>intro hc<;>(try simp only [Ar] at hc)<;>(try (exfalso;omega)))))|(with_reducible (first|apply Cu|apply Cv|apply Cw|apply Cx)<;>intro hc<;>(try simp only [Ar] at hc)<;>(try (exfalso;omega))))
   all_goals (refine zr ?_ ?_;exact Ak;(first|rfl|(simp [ltN, *];done)|(simp [ltN, *];omega)|(simp_all [ltN];done)))
  |cons y rest2=>
   obtain ⟨b2,o2,q1,q2,q3,q4,q5⟩:=nd_get hw (i:=pre.length) (x:=y) (by rw [hp2,<- hpl];simp)
   repeat' (first|with_reducible (first|apply A3|apply A4|apply A5|apply A6)|(with_reducible (first|apply Cq|apply Cr|apply Cs|apply Ct);(conv=>lhs;simp (disch:=first|exact dA|fail) [lw, *,hlen1,hlen2,hll,hml]);with_reducible (first|apply A3|apply A4|apply A5|apply A6|apply Cn|(refine Co (by simp) ?_)|(apply Cp<;>intro hc<;>(try simp only [Ar] at hc)<;>(try (exfalso;omega)))))|(with_reducible (first|apply Cu|apply Cv|apply Cw|apply Cx)<;>intro hc<;>(try simp only [Ar] at hc)<;>(try (exfalso;omega))))
   rotate_left 3
   . have hcast:(pre.length:Int)+1=((pre++[x]).length:Int):=by simp
     rw [hcast,show ltN (x::rest) (y::rest2)=ltN rest rest2 by simp [ltN, *]]
     exact ih rest2 (pre++[x]) (pre2++[y]) _ _ n2 (by rw [hp];simp) (by rw [hp2];simp) (by simp [hpl]) (by simp at hn ⊢;omega) Ak
   all_goals (refine zr ?_ ?_;exact Ak;(first|rfl|(simp [ltN, *];done)|(simp [ltN, *];omega)|(simp_all [ltN];done)))
theorem r264 (h35:R35s ctx) (hN:1001<=N) (a b:Tr) (wa wb:AV) (h:H) (ha:TV h a wa) (hb:TV h b wb) (hsa:size a<=1000) (hsb:size b<=1000):Sx.Af h (fun r _=>r=.bool (less a b)) (An Tryz.prog ctx N true 264 [.agg (rc a wa),.agg (rc b wb)] h):=by
 rw [e264]
 obtain ⟨oa,ca⟩:=ha.ob
 obtain ⟨obb,cb⟩:=hb.ob
 repeat' (first|with_reducible (first|apply A3|apply A4|apply A5|apply A6)|((with_reducible (first|apply Db|apply Dc));exact h35 _ (by omega) _ _ Cd;intro vv hh ee elo eold qq;(try simp only [Bp] at elo eold);skip)|(with_reducible (first|apply Cq|apply Cr|apply Cs|apply Ct);(conv=>lhs;simp (disch:=first|exact dA|fail) [lw, *]);with_reducible (first|apply A3|apply A4|apply A5|apply A6|apply Cn|(refine Co (by simp) ?_)|(apply Cp<;>intro hc<;>(try simp only [Ar] at hc)<;>(try (exfalso;omega)))))|(with_reducible (first|apply Cu|apply Cv|apply Cw|apply Cx)<;>intro hc<;>(try simp only [Ar] at hc)<;>(try (exfalso;omega))))
 rename_i v1 h1 e1 q1 _ _
 exact Sx.Af.of Ak (loop264 ctx N a.nodes b.nodes (nodes_le a hsa) (nodes_le b hsb) (h0:=Ap ((h.new (AO.cells (rc a wa) 67 CK.exact)).new (AO.cells (rc b wb) 67 CK.exact)).lg (Ab hh)) (v:=v1) (w:=vv) (Sx.Sl.B2 q1.sl E5) (Sx.Sl.B2 qq.sl E5) a.nodes b.nodes [] [] _ _ N rfl rfl rfl (by have:=nodes_le a hsa;omega) (Sx.Ai.refl _))
theorem r233 (h264:R264 ctx) (a b:Tr) (wa wb:AV) (h:H) (ha:TV h a wa) (hb:TV h b wb) (hsa:size a<=1000) (hsb:size b<=1000):Sx.Af h (fun r _=>r=.bool (equalR a b)) (An Tryz.prog ctx N true 233 [.agg (rc a wa),.agg (rc b wb)] h):=by
 rw [e233]
 obtain ⟨oa,ca⟩:=ha.ob
 obtain ⟨obb,cb⟩:=hb.ob
 cases h1:less a b<;>cases h2:less b a
 all_goals repeat' (first|with_reducible (first|apply A3|apply A4|apply A5|apply A6)|((with_reducible (first|apply Db|apply Dc));exact h264 _ _ _ _ _ Cd Cd (by omega) (by omega);intro vv hh ee elo eold qq;(try simp only [Bp] at elo eold);subst qq)|(with_reducible (first|apply Cq|apply Cr|apply Cs|apply Ct);(conv=>lhs;simp (disch:=first|exact dA|fail) [lw, *,h1,h2]);with_reducible (first|apply A3|apply A4|apply A5|apply A6|apply Cn|(refine Co (by simp) ?_)|(apply Cp<;>intro hc<;>(try simp only [Ar] at hc)<;>(try (exfalso;omega)))))|(with_reducible (first|apply ze1|apply ze2);(conv=>lhs;simp only [zw,h1,h2]))|(with_reducible (first|apply Cu|apply Cv|apply Cw|apply Cx)<;>intro hc<;>(try simp only [Ar] at hc)<;>(try (exfalso;omega))))
 all_goals (refine zr ?_ ?_;exact Ak;(first|rfl|(simp [equalR, *];done)|(simp [equalR, *];omega)|(simp_all [equalR];done)))
theorem r234 (h264:R264 ctx) (h72:R72 ctx) (n:Int) (a b:Tr) (wa wb:AV) (h:H) (hn:4<=n/\n<=16/\n≠7/\n≠8) (ha:TV h a wa) (hb:TV h b wb) (hsa:size a<=1000) (hsb:size b<=1000):Sx.Af h (Am (En n a b)) (An Tryz.prog ctx N true 234 [.int .i64 n,.agg (rc a wa),.agg (rc b wb)] h):=by
 rw [e234]
 obtain ⟨oa,ca⟩:=ha.ob
 obtain ⟨obb,cb⟩:=hb.ob
 repeat' (first|with_reducible (first|apply A3|apply A4|apply A5|apply A6)|((with_reducible (first|apply Db|apply Dc));exact h264 _ _ _ _ _ Cd Cd (by omega) (by omega);intro vv hh ee elo eold qq;(try simp only [Bp] at elo eold);subst qq)|((with_reducible (first|apply Db|apply Dc));exact h72 _ _ _ (by simp [*]) (by simp [*]);intro vv hh ee elo eold qq;(try simp only [Bp] at elo eold);subst qq)|(with_reducible (first|apply Cq|apply Cr|apply Cs|apply Ct);(conv=>lhs;simp (disch:=first|exact dA|fail) [lw, *]);with_reducible (first|apply A3|apply A4|apply A5|apply A6|apply Cn|(refine Co (by simp) ?_)|(apply Cp<;>intro hc<;>(try simp only [Ar] at hc)<;>(try (exfalso;omega)))))|(with_reducible (first|apply Cu|apply Cv|apply Cw|apply Cx)<;>intro hc<;>(try simp only [Ar] at hc)<;>(try (exfalso;omega))))
 all_goals first|(refine zr ?_ (Am.of ?_ (Am.two (a:=a) (c:=b) ?_ ?_ Cd Cd ?_));exact Ak;(focus (first|rfl|(simp [En, *];done)|(simp [En, *];omega)|(simp_all [En];done);done));exact Ep;exact Ch;omega)|(refine zr ?_ (Am.of ?_ (Am.two (a:=b) (c:=a) ?_ ?_ Cd Cd ?_));exact Ak;(focus (first|rfl|(simp [En, *];done)|(simp [En, *];omega)|(simp_all [En];done);done));exact Ep;exact Ch;omega)|(refine zr ?_ (Am.of ?_ (Am.here (TV.C6 _ _)));exact Ak;(focus (first|rfl|(simp [En, *];done)|(simp [En, *];omega)|(simp_all [En];done);done)))|(refine zr ?_ (Am.of ?_ (Am.here ?_));exact Ak;(focus (first|rfl|(simp [En, *];done)|(simp [En, *];omega)|(simp_all [En];done);done));exact Cd)
end Go.Proofs
