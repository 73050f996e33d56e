/- The reference's walks: operations. -/
import Derived.Test.YtecikbfimlolcaaGreatDoorEvRaa
set_option maxRecDepth 100000
set_option linter.unusedSimpArgs false
set_option linter.unusedVariables false
namespace Go.Proofs
open Go Go.Ev Go.Nm
attribute [local irreducible] Aa Aj Ah Ac
variable (ctx:Ae) (N:Nat)
theorem r180 (h72:R72 ctx) (h230:R230 ctx) (h231:R231 ctx) (a:Tr) (wa:AV) (h:H) (ha:TV h a wa):Sx.Af h (Am (Eu a)) (An Tryz.prog ctx N true 180 [.agg (rc a wa)] h):=by
 rw [e180]
 obtain ⟨oa,ca⟩:=ha.ob
 have hb:=valueR_bound a
 cases hv:(A0 a).2 with
 |true=>
  have hcn:=constant_in (n:=-(A0 a).1) (by omega) (by omega)
  repeat' (first|with_reducible (first|apply A3|apply A4|apply A5|apply A6)|((with_reducible (first|apply Db|apply Dc));exact h230 _ _ _ Cd;intro vv hh ee elo eold qq;(try simp only [Bp] at elo eold);subst qq)|((with_reducible (first|apply Db|apply Dc));exact h231 _ _ (by omega) (by omega);intro vv hh ee elo eold qq;(try simp only [Bp] at elo eold);rcases qq with ⟨hk,rfl⟩|⟨tt,ww,hk,rfl,qq,ob,cw⟩)|(with_reducible (first|apply Cq|apply Cr|apply Cs|apply Ct);(conv=>lhs;simp (disch:=first|exact dA|fail) [lw, *]);with_reducible (first|apply A3|apply A4|apply A5|apply A6|apply Cn|(refine Co (by simp) ?_)|(apply Cp<;>intro hc<;>(try simp only [Ar] at hc)<;>(try (exfalso;omega)))))|(with_reducible (first|apply Cu|apply Cv|apply Cw|apply Cx)<;>intro hc<;>(try simp only [Ar] at hc)<;>(try (exfalso;omega))))
  . exact absurd hk hcn
  . all_goals first|(refine zr ?_ (Am.of ?_ (Am.here (TV.C6 _ _)));exact Ak;(focus (first|rfl|(simp [Eu, *];done)|(simp [Eu, *];omega)|(simp_all [Eu];done);done)))|(refine zr ?_ (Am.of ?_ (Am.here ?_));exact Ak;(focus (first|rfl|(simp [Eu, *];done)|(simp [Eu, *];omega)|(simp_all [Eu];done);done));exact Cd)
 |false=>
  cases a with
  |leaf x=>
   obtain ⟨_,h1,h2⟩:=ha.leaf
   have h7:¬ x.op=7:=by omega
   repeat' (first|with_reducible (first|apply A3|apply A4|apply A5|apply A6)|((with_reducible (first|apply Db|apply Dc));exact h230 (.leaf x) _ _ Cd;intro vv hh ee elo eold qq;(try simp only [Bp] at elo eold);subst qq)|((with_reducible (first|apply Db|apply Dc));exact h72 _ _ _ (by simp [*]) (by simp [*]);intro vv hh ee elo eold qq;(try simp only [Bp] at elo eold);subst qq)|(with_reducible (first|apply Cq|apply Cr|apply Cs|apply Ct);(conv=>lhs;simp (disch:=first|exact dA|fail) [lw, *,Df]);with_reducible (first|apply A3|apply A4|apply A5|apply A6|apply Cn|(refine Co (by simp) ?_)|(apply Cp<;>intro hc<;>(try simp only [Ar] at hc)<;>(try (exfalso;omega)))))|(with_reducible (first|apply Cu|apply Cv|apply Cw|apply Cx)<;>intro hc<;>(try simp only [Ar] at hc)<;>(try (exfalso;omega))))
   all_goals first|(refine zr ?_ (Am.of ?_ (Am.one (a:=(.leaf x)) ?_ ?_ Cd ?_));exact Ak;(focus (first|rfl|(simp [Eu, *];done)|(simp [Eu, *];omega)|(simp_all [Eu];done);done));exact Ep;exact Ch;omega)|(refine zr ?_ (Am.of ?_ (Am.here (TV.C6 _ _)));exact Ak;(focus (first|rfl|(simp [Eu, *];done)|(simp [Eu, *];omega)|(simp_all [Eu];done);done)))|(refine zr ?_ (Am.of ?_ (Am.here ?_));exact Ak;(focus (first|rfl|(simp [Eu, *];done)|(simp [Eu, *];omega)|(simp_all [Eu];done);done));exact Cd)
  |one o a=>
   obtain ⟨_,ho,w',b,p,ha',q1,q2,q3,q4,q5,q6⟩:=ha.one
   obtain ⟨o1,c1⟩:=ha'.ob
   repeat' (first|with_reducible (first|apply A3|apply A4|apply A5|apply A6)|((with_reducible (first|apply Db|apply Dc));exact h230 (.one o a) _ _ Cd;intro vv hh ee elo eold qq;(try simp only [Bp] at elo eold);subst qq)|((with_reducible (first|apply Db|apply Dc));exact h72 _ _ _ (by simp [*]) (by simp [*]);intro vv hh ee elo eold qq;(try simp only [Bp] at elo eold);subst qq)|(with_reducible (first|apply Cq|apply Cr|apply Cs|apply Ct);(conv=>lhs;simp (disch:=first|exact dA|fail) [lw, *,E9]);with_reducible (first|apply A3|apply A4|apply A5|apply A6|apply Cn|(refine Co (by simp) ?_)|(apply Cp<;>intro hc<;>(try simp only [Ar] at hc)<;>(try (exfalso;omega)))))|(with_reducible (first|apply Cu|apply Cv|apply Cw|apply Cx)<;>intro hc<;>(try simp only [Ar] at hc)<;>(try (exfalso;omega))))
   all_goals first|(refine zr ?_ (Am.of ?_ (Am.one (a:=(.one o a)) ?_ ?_ Cd ?_));exact Ak;(focus (first|rfl|(simp [Eu, *];done)|(simp [Eu, *];omega)|(simp_all [Eu];done);done));exact Ep;exact Ch;omega)|(refine zr ?_ (Am.of ?_ (Am.here (TV.C6 _ _)));exact Ak;(focus (first|rfl|(simp [Eu, *];done)|(simp [Eu, *];omega)|(simp_all [Eu];done);done)))|(refine zr ?_ (Am.of ?_ (Am.here ?_));exact Ak;(focus (first|rfl|(simp [Eu, *];done)|(simp [Eu, *];omega)|(simp_all [Eu];done);done));exact Cd)
  |two o a c=>
   obtain ⟨_,ho,_⟩:=ha.two
   have h7:¬ o=7:=by omega
   repeat' (first|with_reducible (first|apply A3|apply A4|apply A5|apply A6)|((with_reducible (first|apply Db|apply Dc));exact h230 (.two o a c) _ _ Cd;intro vv hh ee elo eold qq;(try simp only [Bp] at elo eold);subst qq)|((with_reducible (first|apply Db|apply Dc));exact h72 _ _ _ (by simp [*]) (by simp [*]);intro vv hh ee elo eold qq;(try simp only [Bp] at elo eold);subst qq)|(with_reducible (first|apply Cq|apply Cr|apply Cs|apply Ct);(conv=>lhs;simp (disch:=first|exact dA|fail) [lw, *,Eg]);with_reducible (first|apply A3|apply A4|apply A5|apply A6|apply Cn|(refine Co (by simp) ?_)|(apply Cp<;>intro hc<;>(try simp only [Ar] at hc)<;>(try (exfalso;omega)))))|(with_reducible (first|apply Cu|apply Cv|apply Cw|apply Cx)<;>intro hc<;>(try simp only [Ar] at hc)<;>(try (exfalso;omega))))
   all_goals first|(refine zr ?_ (Am.of ?_ (Am.one (a:=(.two o a c)) ?_ ?_ Cd ?_));exact Ak;(focus (first|rfl|(simp [Eu, *];done)|(simp [Eu, *];omega)|(simp_all [Eu];done);done));exact Ep;exact Ch;omega)|(refine zr ?_ (Am.of ?_ (Am.here (TV.C6 _ _)));exact Ak;(focus (first|rfl|(simp [Eu, *];done)|(simp [Eu, *];omega)|(simp_all [Eu];done);done)))|(refine zr ?_ (Am.of ?_ (Am.here ?_));exact Ak;(focus (first|rfl|(simp [Eu, *];done)|(simp [Eu, *];omega)|(simp_all [Eu];done);done));exact Cd)
  |three a c d=>
   repeat' (first|with_reducible (first|apply A3|apply A4|apply A5|apply A6)|((with_reducible (first|apply Db|apply Dc));exact h230 (.three a c d) _ _ Cd;intro vv hh ee elo eold qq;(try simp only [Bp] at elo eold);subst qq)|((with_reducible (first|apply Db|apply Dc));exact h72 _ _ _ (by simp [*]) (by simp [*]);intro vv hh ee elo eold qq;(try simp only [Bp] at elo eold);subst qq)|(with_reducible (first|apply Cq|apply Cr|apply Cs|apply Ct);(conv=>lhs;simp (disch:=first|exact dA|fail) [lw, *,C0]);with_reducible (first|apply A3|apply A4|apply A5|apply A6|apply Cn|(refine Co (by simp) ?_)|(apply Cp<;>intro hc<;>(try simp only [Ar] at hc)<;>(try (exfalso;omega)))))|(with_reducible (first|apply Cu|apply Cv|apply Cw|apply Cx)<;>intro hc<;>(try simp only [Ar] at hc)<;>(try (exfalso;omega))))
   all_goals first|(refine zr ?_ (Am.of ?_ (Am.one (a:=(.three a c d)) ?_ ?_ Cd ?_));exact Ak;(focus (first|rfl|(simp [Eu, *];done)|(simp [Eu, *];omega)|(simp_all [Eu];done);done));exact Ep;exact Ch;omega)|(refine zr ?_ (Am.of ?_ (Am.here (TV.C6 _ _)));exact Ak;(focus (first|rfl|(simp [Eu, *];done)|(simp [Eu, *];omega)|(simp_all [Eu];done);done)))|(refine zr ?_ (Am.of ?_ (Am.here ?_));exact Ak;(focus (first|rfl|(simp [Eu, *];done)|(simp [Eu, *];omega)|(simp_all [Eu];done);done));exact Cd)
theorem gives_of {h0:H} {t t':Tr} {r:OR} (hr:Sx.Af h0 (Am t) r) (ht:t=t'):Sx.Af h0 (Am t') r:=ht ▸ hr
structure Box3 (h0 h:H) (a b:Tr) (wa wb:AV) (p4 p5 p6:Nat):Prop where
 e:Sx.Ai h0 h
 lo:h0.nx<=p6
 l4:p4<h.nx
 l5:p5<h.nx
 l6:p6<h.nx
 n4:p4≠p6
 n5:p5≠p6
 g4:h.m.get p4=.cells (rc a wa) 67 .exact
 g5:h.m.get p5=.cells (rc b wb) 67 .exact
 g6:h.m.get p6=.cells [.int .i64 0,.int .i64 0,.str [],.Cb] 67 .exact
 ta:TV h a wa
 tb:TV h b wb
noncomputable def arithR3 (n:Int) (a b:Tr) (c:Bool):Tr:=if c then num 0 else if n=5/\isR a 0=true then Eu b else if n=5 then .two n a b else En n a b
noncomputable def arithR2 (n:Int) (a b:Tr) (c:Bool):Tr:=if c then b else arithR3 n a b (decide ((n=6/\(isR a 0=true\/isR b 0=true))\/(n=5/\equalR a b=true)))
noncomputable def arithR1 (n:Int) (a b:Tr) (c:Bool):Tr:=if c then a else arithR2 n a b (decide ((n=4/\isR a 0=true)\/(n=6/\isR a 1=true)))
theorem j179x3 (h72:R72 ctx) (h73:R73 ctx) (h180:R180 ctx) (h232:R232 ctx) (h234:R234 ctx) {h0 h:H} {n:Int} {a b:Tr} {wa wb:AV} {p4 p5 p6:Nat} (hn:n=4\/n=5\/n=6) (hx:Box3 h0 h a b wa wb p4 p5 p6) (hsa:size a<=1000) (hsb:size b<=1000) (c:Bool) (f0:L2):
 Sx.Af h0 (Am (arithR3 n a b c)) (J179x3 ctx N (.int .i64 n) (.ptr p4 0) (.ptr p5 0) (.ptr p6 0) (.bool c) f0 h):=by
 obtain ⟨e,lo,l4,l5,l6,n4,n5,g4,g5,g6,ta,tb⟩:=hx
 obtain ⟨oa,ca⟩:=ta.ob
 obtain ⟨obb,cb⟩:=tb.ob
 rw [J179x3s]
 cases c<;>rcases hn with rfl|rfl|rfl
 all_goals repeat' (first|with_reducible (first|apply A3|apply A4|apply A5|apply A6)|((with_reducible (first|apply Db|apply Dc));exact h232 _ _ _ _ Cd;intro vv hh ee elo eold qq;(try simp only [Bp] at elo eold);subst qq)|((with_reducible (first|apply Db|apply Dc));exact h180 _ _ _ Cd;intro vv hh ee elo eold qq;(try simp only [Bp] at elo eold);obtain ⟨ww,rfl,qq⟩:=qq;obtain ⟨ob,cw⟩:=qq.ob)|((with_reducible (first|apply Db|apply Dc));exact h234 _ _ _ _ _ _ (by omega) Cd Cd (by omega) (by omega);intro vv hh ee elo eold qq;(try simp only [Bp] at elo eold);obtain ⟨ww,rfl,qq⟩:=qq;obtain ⟨ob,cw⟩:=qq.ob)|((with_reducible (first|apply Db|apply Dc));exact h73 _ _;intro vv hh ee elo eold qq;(try simp only [Bp] at elo eold);subst qq)|((with_reducible (first|apply Db|apply Dc));exact h72 _ _ _ (by simp [*]) (by simp [*]);intro vv hh ee elo eold qq;(try simp only [Bp] at elo eold);subst qq)|(with_reducible (first|apply Cq|apply Cr|apply Cs|apply Ct);(conv=>lhs;simp (disch:=first|exact dA|fail) [lw, *]);with_reducible (first|apply A3|apply A4|apply A5|apply A6|apply Cn|(refine Co (by simp) ?_)|(apply Cp<;>intro hc<;>(try simp only [Ar] at hc)<;>(try (exfalso;omega)))))|(with_reducible (first|apply Cu|apply Cv|apply Cw|apply Cx)<;>intro hc<;>(try simp only [Ar] at hc)<;>(try (exfalso;omega))))
 all_goals first|(refine zr ?_ (Am.of ?_ (Am.two (a:=a) (c:=b) ?_ ?_ Cd Cd ?_));exact Ak;(focus (first|rfl|(simp [arithR3, *];done)|(simp [arithR3, *];omega)|(simp_all [arithR3];done);done));exact Ep;exact Ch;omega)|(refine zr ?_ (Am.of ?_ (Am.here (TV.C6 _ _)));exact Ak;(focus (first|rfl|(simp [arithR3, *];done)|(simp [arithR3, *];omega)|(simp_all [arithR3];done);done)))|(refine zr ?_ (Am.of ?_ (Am.here ?_));exact Ak;(focus (first|rfl|(simp [arithR3, *];done)|(simp [arithR3, *];omega)|(simp_all [arithR3];done);done));exact Cd)
theorem j179x2 (h72:R72 ctx) (h73:R73 ctx) (h180:R180 ctx) (h232:R232 ctx) (h233:R233 ctx) (h234:R234 ctx) {h0 h:H} {n:Int} {a b:Tr} {wa wb:AV} {p4 p5 p6:Nat} (hn:n=4\/n=5\/n=6) (hx:Box3 h0 h a b wa wb p4 p5 p6) (hsa:size a<=1000) (hsb:size b<=1000) (c:Bool) (f0:L2):
 Sx.Af h0 (Am (arithR2 n a b c)) (J179x2 ctx N (.int .i64 n) (.ptr p4 0) (.ptr p5 0) (.ptr p6 0) (.bool c) f0 h):=by
 obtain ⟨e,lo,l4,l5,l6,n4,n5,g4,g5,g6,ta,tb⟩:=hx
 obtain ⟨oa,ca⟩:=ta.ob
 obtain ⟨obb,cb⟩:=tb.ob
 rw [J179x2s]
 cases c with
 |true=>
  rcases hn with rfl|rfl|rfl
  all_goals repeat' (first|with_reducible (first|apply A3|apply A4|apply A5|apply A6)|(with_reducible (first|apply Cq|apply Cr|apply Cs|apply Ct);(conv=>lhs;simp (disch:=first|exact dA|fail) [lw, *]);with_reducible (first|apply A3|apply A4|apply A5|apply A6|apply Cn|(refine Co (by simp) ?_)|(apply Cp<;>intro hc<;>(try simp only [Ar] at hc)<;>(try (exfalso;omega)))))|(with_reducible (first|apply Cu|apply Cv|apply Cw|apply Cx)<;>intro hc<;>(try simp only [Ar] at hc)<;>(try (exfalso;omega))))
  all_goals first|(refine zr ?_ (Am.of ?_ (Am.here (TV.C6 _ _)));exact Ak;(focus (first|rfl|(simp [arithR2, *];done)|(simp [arithR2, *];omega)|(simp_all [arithR2];done);done)))|(refine zr ?_ (Am.of ?_ (Am.here ?_));exact Ak;(focus (first|rfl|(simp [arithR2, *];done)|(simp [arithR2, *];omega)|(simp_all [arithR2];done);done));exact Cd)
 |false=>
  rcases hn with rfl|rfl|rfl
  . repeat' (first|with_reducible (first|apply A3|apply A4|apply A5|apply A6)|(with_reducible (first|apply Cq|apply Cr|apply Cs|apply Ct);(conv=>lhs;simp (disch:=first|exact dA|fail) [lw, *]);with_reducible (first|apply A3|apply A4|apply A5|apply A6|apply Cn|(refine Co (by simp) ?_)|(apply Cp<;>intro hc<;>(try simp only [Ar] at hc)<;>(try (exfalso;omega)))))|(with_reducible (first|apply Cu|apply Cv|apply Cw|apply Cx)<;>intro hc<;>(try simp only [Ar] at hc)<;>(try (exfalso;omega))))
    exact (j179x3 ctx N h72 h73 h180 h232 h234 (.inl rfl) ⟨e,lo,l4,l5,l6,n4,n5,g4,g5,g6,ta,tb⟩ hsa hsb _ _)
  . cases h1:equalR a b
    all_goals repeat' (first|with_reducible (first|apply A3|apply A4|apply A5|apply A6)|((with_reducible (first|apply Db|apply Dc));exact h233 _ _ _ _ _ Cd Cd (by omega) (by omega);intro vv hh ee elo eold qq;(try simp only [Bp] at elo eold);subst qq)|(with_reducible (first|apply Cq|apply Cr|apply Cs|apply Ct);(conv=>lhs;simp (disch:=first|exact dA|fail) [lw, *,h1]);with_reducible (first|apply A3|apply A4|apply A5|apply A6|apply Cn|(refine Co (by simp) ?_)|(apply Cp<;>intro hc<;>(try simp only [Ar] at hc)<;>(try (exfalso;omega)))))|(with_reducible (first|apply ze1|apply ze2);(conv=>lhs;simp only [zw,h1]))|(with_reducible (first|apply Cu|apply Cv|apply Cw|apply Cx)<;>intro hc<;>(try simp only [Ar] at hc)<;>(try (exfalso;omega))))
    all_goals refine gives_of (j179x3 ctx N h72 h73 h180 h232 h234 (h0:=h0) (h:=hh) (wa:=wa) (wb:=wb) (p4:=p4) (p5:=p5) (p6:=p6) (n:=5) (.inr (.inl rfl)) ⟨Ak,by omega,Ch,Ch,Ch,by omega,by omega,Ep,Ep,Ep,Cd,Cd⟩ hsa hsb _ _) ?_
    all_goals simp [arithR2,h1]
  . cases h1:isR a 0<;>cases h2:isR b 0
    all_goals repeat' (first|with_reducible (first|apply A3|apply A4|apply A5|apply A6)|((with_reducible (first|apply Db|apply Dc));exact h232 _ _ _ _ Cd;intro vv hh ee elo eold qq;(try simp only [Bp] at elo eold);subst qq)|(with_reducible (first|apply Cq|apply Cr|apply Cs|apply Ct);(conv=>lhs;simp (disch:=first|exact dA|fail) [lw, *,h1,h2]);with_reducible (first|apply A3|apply A4|apply A5|apply A6|apply Cn|(refine Co (by simp) ?_)|(apply Cp<;>intro hc<;>(try simp only [Ar] at hc)<;>(try (exfalso;omega)))))|(with_reducible (first|apply ze1|apply ze2);(conv=>lhs;simp only [zw,h1,h2]))|(with_reducible (first|apply Cu|apply Cv|apply Cw|apply Cx)<;>intro hc<;>(try simp only [Ar] at hc)<;>(try (exfalso;omega))))
    all_goals refine gives_of (j179x3 ctx N h72 h73 h180 h232 h234 (h0:=h0) (h:=hh) (wa:=wa) (wb:=wb) (p4:=p4) (p5:=p5) (p6:=p6) (n:=6) (.inr (.inr rfl)) ⟨Ak,by omega,Ch,Ch,Ch,by omega,by omega,Ep,Ep,Ep,Cd,Cd⟩ hsa hsb _ _) ?_
    all_goals simp [arithR2,h1,h2]
theorem j179x1 (h72:R72 ctx) (h73:R73 ctx) (h180:R180 ctx) (h232:R232 ctx) (h233:R233 ctx) (h234:R234 ctx) {h0 h:H} {n:Int} {a b:Tr} {wa wb:AV} {p4 p5 p6:Nat} (hn:n=4\/n=5\/n=6) (hx:Box3 h0 h a b wa wb p4 p5 p6) (hsa:size a<=1000) (hsb:size b<=1000) (c:Bool) (f0:L2):
 Sx.Af h0 (Am (arithR1 n a b c)) (J179x1 ctx N (.int .i64 n) (.ptr p4 0) (.ptr p5 0) (.ptr p6 0) (.bool c) f0 h):=by
 obtain ⟨e,lo,l4,l5,l6,n4,n5,g4,g5,g6,ta,tb⟩:=hx
 obtain ⟨oa,ca⟩:=ta.ob
 obtain ⟨obb,cb⟩:=tb.ob
 rw [J179x1s]
 cases c with
 |true=>
  rcases hn with rfl|rfl|rfl
  all_goals repeat' (first|with_reducible (first|apply A3|apply A4|apply A5|apply A6)|(with_reducible (first|apply Cq|apply Cr|apply Cs|apply Ct);(conv=>lhs;simp (disch:=first|exact dA|fail) [lw, *]);with_reducible (first|apply A3|apply A4|apply A5|apply A6|apply Cn|(refine Co (by simp) ?_)|(apply Cp<;>intro hc<;>(try simp only [Ar] at hc)<;>(try (exfalso;omega)))))|(with_reducible (first|apply Cu|apply Cv|apply Cw|apply Cx)<;>intro hc<;>(try simp only [Ar] at hc)<;>(try (exfalso;omega))))
  all_goals first|(refine zr ?_ (Am.of ?_ (Am.here (TV.C6 _ _)));exact Ak;(focus (first|rfl|(simp [arithR1, *];done)|(simp [arithR1, *];omega)|(simp_all [arithR1];done);done)))|(refine zr ?_ (Am.of ?_ (Am.here ?_));exact Ak;(focus (first|rfl|(simp [arithR1, *];done)|(simp [arithR1, *];omega)|(simp_all [arithR1];done);done));exact Cd)
 |false=>
  rcases hn with rfl|rfl|rfl
  . cases h1:isR a 0
    all_goals repeat' (first|with_reducible (first|apply A3|apply A4|apply A5|apply A6)|((with_reducible (first|apply Db|apply Dc));exact h232 _ _ _ _ Cd;intro vv hh ee elo eold qq;(try simp only [Bp] at elo eold);subst qq)|(with_reducible (first|apply Cq|apply Cr|apply Cs|apply Ct);(conv=>lhs;simp (disch:=first|exact dA|fail) [lw, *,h1]);with_reducible (first|apply A3|apply A4|apply A5|apply A6|apply Cn|(refine Co (by simp) ?_)|(apply Cp<;>intro hc<;>(try simp only [Ar] at hc)<;>(try (exfalso;omega)))))|(with_reducible (first|apply ze1|apply ze2);(conv=>lhs;simp only [zw,h1]))|(with_reducible (first|apply Cu|apply Cv|apply Cw|apply Cx)<;>intro hc<;>(try simp only [Ar] at hc)<;>(try (exfalso;omega))))
    all_goals refine gives_of (j179x2 ctx N h72 h73 h180 h232 h233 h234 (h0:=h0) (h:=hh) (wa:=wa) (wb:=wb) (p4:=p4) (p5:=p5) (p6:=p6) (n:=4) (.inl rfl) ⟨Ak,by omega,Ch,Ch,Ch,by omega,by omega,Ep,Ep,Ep,Cd,Cd⟩ hsa hsb _ _) ?_
    all_goals simp [arithR1,h1]
  . repeat' (first|with_reducible (first|apply A3|apply A4|apply A5|apply A6)|(with_reducible (first|apply Cq|apply Cr|apply Cs|apply Ct);(conv=>lhs;simp (disch:=first|exact dA|fail) [lw, *]);with_reducible (first|apply A3|apply A4|apply A5|apply A6|apply Cn|(refine Co (by simp) ?_)|(apply Cp<;>intro hc<;>(try simp only [Ar] at hc)<;>(try (exfalso;omega)))))|(with_reducible (first|apply Cu|apply Cv|apply Cw|apply Cx)<;>intro hc<;>(try simp only [Ar] at hc)<;>(try (exfalso;omega))))
    exact (j179x2 ctx N h72 h73 h180 h232 h233 h234 (.inr (.inl rfl)) ⟨e,lo,l4,l5,l6,n4,n5,g4,g5,g6,ta,tb⟩ hsa hsb _ _)
  . cases h1:isR a 1
    all_goals repeat' (first|with_reducible (first|apply A3|apply A4|apply A5|apply A6)|((with_reducible (first|apply Db|apply Dc));exact h232 _ _ _ _ Cd;intro vv hh ee elo eold qq;(try simp only [Bp] at elo eold);subst qq)|(with_reducible (first|apply Cq|apply Cr|apply Cs|apply Ct);(conv=>lhs;simp (disch:=first|exact dA|fail) [lw, *,h1]);with_reducible (first|apply A3|apply A4|apply A5|apply A6|apply Cn|(refine Co (by simp) ?_)|(apply Cp<;>intro hc<;>(try simp only [Ar] at hc)<;>(try (exfalso;omega)))))|(with_reducible (first|apply ze1|apply ze2);(conv=>lhs;simp only [zw,h1]))|(with_reducible (first|apply Cu|apply Cv|apply Cw|apply Cx)<;>intro hc<;>(try simp only [Ar] at hc)<;>(try (exfalso;omega))))
    all_goals refine gives_of (j179x2 ctx N h72 h73 h180 h232 h233 h234 (h0:=h0) (h:=hh) (wa:=wa) (wb:=wb) (p4:=p4) (p5:=p5) (p6:=p6) (n:=6) (.inr (.inr rfl)) ⟨Ak,by omega,Ch,Ch,Ch,by omega,by omega,Ep,Ep,Ep,Cd,Cd⟩ hsa hsb _ _) ?_
    all_goals simp [arithR1,h1]
theorem arithR_eq (n:Int) (a b:Tr):arithR n a b=if (constant (opR n (A0 a).1 (A0 b).1)).isSome&&(A0 a).2&&(A0 b).2 then (constant (opR n (A0 a).1 (A0 b).1)).getD (num 0) else arithR1 n a b (decide ((n≠6/\isR b 0=true)\/(n=6/\isR b 1=true))):=by
 simp only [arithR,arithR1,arithR2,arithR3,decide_eq_true_eq]
set_option maxHeartbeats 2000000 in
theorem r179_add (h72:R72 ctx) (h73:R73 ctx) (h180:R180 ctx) (h230:R230 ctx) (h231:R231 ctx) (h232:R232 ctx) (h233:R233 ctx) (h234:R234 ctx) (a b:Tr) (wa wb:AV) (h:H) (ha:TV h a wa) (hb:TV h b wb) (hsa:size a<=1000) (hsb:size b<=1000):
 Sx.Af h (Am (arithR 4 a b)) (An Tryz.prog ctx N true 179 [.int .i64 4,.agg (rc a wa),.agg (rc b wb)] h):=by
 rw [e179,arithR_eq]
 obtain ⟨oa,ca⟩:=ha.ob
 obtain ⟨obb,cb⟩:=hb.ob
 have h1:=valueR_bound a
 have h2:=valueR_bound b
 have hm:=mul_bound h1 h2
 have hj:=fun {h':H} (hx:Box3 h h' a b wa wb h.nx (h.nx+1) (h.nx+1+1)) (c:Bool) (f0:L2)=>j179x1 ctx N h72 h73 h180 h232 h233 h234 (.inl rfl) hx hsa hsb c f0
 clear h72 h73 h180 h233 h234
 cases k1:(A0 a).2<;>cases k2:(A0 b).2<;>cases k3:isR b 0
 all_goals repeat' (first|with_reducible (first|apply A3|apply A4|apply A5|apply A6)|((with_reducible (first|apply Db|apply Dc));exact h230 _ _ _ Cd;intro vv hh ee elo eold qq;(try simp only [Bp] at elo eold);subst qq)|((with_reducible (first|apply Db|apply Dc));exact h231 _ _ (by omega) (by omega);intro vv hh ee elo eold qq;(try simp only [Bp] at elo eold);rcases qq with ⟨hk,rfl⟩|⟨tt,ww,hk,rfl,qq,ob,cw⟩)|((with_reducible (first|apply Db|apply Dc));exact h232 _ _ _ _ Cd;intro vv hh ee elo eold qq;(try simp only [Bp] at elo eold);subst qq)|(with_reducible (first|apply Cq|apply Cr|apply Cs|apply Ct);(conv=>lhs;simp (disch:=first|exact dA|fail) [lw, *,kc3,ke3,mset,mfind,k1,k2,k3]);with_reducible (first|apply A3|apply A4|apply A5|apply A6|apply Cn|(refine Co (by simp) ?_)|(apply Cp<;>intro hc<;>(try simp only [Ar] at hc)<;>(try (exfalso;omega)))))|(with_reducible (first|apply ze1|apply ze2);(conv=>lhs;simp only [zw,k1,k2,k3]))|(with_reducible (first|apply Cu|apply Cv|apply Cw|apply Cx)<;>intro hc<;>(try simp only [Ar] at hc)<;>(try (exfalso;omega))))
 all_goals first
  |(all_goals first|(refine zr ?_ (Am.of ?_ (Am.here (TV.C6 _ _)));exact Ak;(focus (first|rfl|(simp [opR, *];done)|(simp [opR, *];omega)|(simp_all [opR];done);done)))|(refine zr ?_ (Am.of ?_ (Am.here ?_));exact Ak;(focus (first|rfl|(simp [opR, *];done)|(simp [opR, *];omega)|(simp_all [opR];done);done));exact Cd))
  |(refine gives_of (hj ⟨Ak,by omega,Ch,Ch,Ch,by omega,by omega,Ep,Ep,Ep,Cd,Cd⟩ _ _) ?_;simp [opR,k1,k2,k3, *])
set_option maxHeartbeats 2000000 in
theorem r179_sub (h72:R72 ctx) (h73:R73 ctx) (h180:R180 ctx) (h230:R230 ctx) (h231:R231 ctx) (h232:R232 ctx) (h233:R233 ctx) (h234:R234 ctx) (a b:Tr) (wa wb:AV) (h:H) (ha:TV h a wa) (hb:TV h b wb) (hsa:size a<=1000) (hsb:size b<=1000):
 Sx.Af h (Am (arithR 5 a b)) (An Tryz.prog ctx N true 179 [.int .i64 5,.agg (rc a wa),.agg (rc b wb)] h):=by
 rw [e179,arithR_eq]
 obtain ⟨oa,ca⟩:=ha.ob
 obtain ⟨obb,cb⟩:=hb.ob
 have h1:=valueR_bound a
 have h2:=valueR_bound b
 have hm:=mul_bound h1 h2
 have hj:=fun {h':H} (hx:Box3 h h' a b wa wb h.nx (h.nx+1) (h.nx+1+1)) (c:Bool) (f0:L2)=>j179x1 ctx N h72 h73 h180 h232 h233 h234 (.inr (.inl rfl)) hx hsa hsb c f0
 clear h72 h73 h180 h233 h234
 cases k1:(A0 a).2<;>cases k2:(A0 b).2<;>cases k3:isR b 0
 all_goals repeat' (first|with_reducible (first|apply A3|apply A4|apply A5|apply A6)|((with_reducible (first|apply Db|apply Dc));exact h230 _ _ _ Cd;intro vv hh ee elo eold qq;(try simp only [Bp] at elo eold);subst qq)|((with_reducible (first|apply Db|apply Dc));exact h231 _ _ (by omega) (by omega);intro vv hh ee elo eold qq;(try simp only [Bp] at elo eold);rcases qq with ⟨hk,rfl⟩|⟨tt,ww,hk,rfl,qq,ob,cw⟩)|((with_reducible (first|apply Db|apply Dc));exact h232 _ _ _ _ Cd;intro vv hh ee elo eold qq;(try simp only [Bp] at elo eold);subst qq)|(with_reducible (first|apply Cq|apply Cr|apply Cs|apply Ct);(conv=>lhs;simp (disch:=first|exact dA|fail) [lw, *,kc3,ke3,mset,mfind,k1,k2,k3]);with_reducible (first|apply A3|apply A4|apply A5|apply A6|apply Cn|(refine Co (by simp) ?_)|(apply Cp<;>intro hc<;>(try simp only [Ar] at hc)<;>(try (exfalso;omega)))))|(with_reducible (first|apply ze1|apply ze2);(conv=>lhs;simp only [zw,k1,k2,k3]))|(with_reducible (first|apply Cu|apply Cv|apply Cw|apply Cx)<;>intro hc<;>(try simp only [Ar] at hc)<;>(try (exfalso;omega))))
 all_goals first
  |(all_goals first|(refine zr ?_ (Am.of ?_ (Am.here (TV.C6 _ _)));exact Ak;(focus (first|rfl|(simp [opR, *];done)|(simp [opR, *];omega)|(simp_all [opR];done);done)))|(refine zr ?_ (Am.of ?_ (Am.here ?_));exact Ak;(focus (first|rfl|(simp [opR, *];done)|(simp [opR, *];omega)|(simp_all [opR];done);done));exact Cd))
  |(refine gives_of (hj ⟨Ak,by omega,Ch,Ch,Ch,by omega,by omega,Ep,Ep,Ep,Cd,Cd⟩ _ _) ?_;simp [opR,k1,k2,k3, *])
set_option maxHeartbeats 2000000 in
theorem r179_mul (h72:R72 ctx) (h73:R73 ctx) (h180:R180 ctx) (h230:R230 ctx) (h231:R231 ctx) (h232:R232 ctx) (h233:R233 ctx) (h234:R234 ctx) (a b:Tr) (wa wb:AV) (h:H) (ha:TV h a wa) (hb:TV h b wb) (hsa:size a<=1000) (hsb:size b<=1000):
 Sx.Af h (Am (arithR 6 a b)) (An Tryz.prog ctx N true 179 [.int .i64 6,.agg (rc a wa),.agg (rc b wb)] h):=by
 rw [e179,arithR_eq]
 obtain ⟨oa,ca⟩:=ha.ob
 obtain ⟨obb,cb⟩:=hb.ob
 have h1:=valueR_bound a
 have h2:=valueR_bound b
 have hm:=mul_bound h1 h2
 have hj:=fun {h':H} (hx:Box3 h h' a b wa wb h.nx (h.nx+1) (h.nx+1+1)) (c:Bool) (f0:L2)=>j179x1 ctx N h72 h73 h180 h232 h233 h234 (.inr (.inr rfl)) hx hsa hsb c f0
 clear h72 h73 h180 h233 h234
 cases k1:(A0 a).2<;>cases k2:(A0 b).2<;>cases k3:isR b 1
 all_goals repeat' (first|with_reducible (first|apply A3|apply A4|apply A5|apply A6)|((with_reducible (first|apply Db|apply Dc));exact h230 _ _ _ Cd;intro vv hh ee elo eold qq;(try simp only [Bp] at elo eold);subst qq)|((with_reducible (first|apply Db|apply Dc));exact h231 _ _ (by omega) (by omega);intro vv hh ee elo eold qq;(try simp only [Bp] at elo eold);rcases qq with ⟨hk,rfl⟩|⟨tt,ww,hk,rfl,qq,ob,cw⟩)|((with_reducible (first|apply Db|apply Dc));exact h232 _ _ _ _ Cd;intro vv hh ee elo eold qq;(try simp only [Bp] at elo eold);subst qq)|(with_reducible (first|apply Cq|apply Cr|apply Cs|apply Ct);(conv=>lhs;simp (disch:=first|exact dA|fail) [lw, *,kc3,ke3,mset,mfind,k1,k2,k3]);with_reducible (first|apply A3|apply A4|apply A5|apply A6|apply Cn|(refine Co (by simp) ?_)|(apply Cp<;>intro hc<;>(try simp only [Ar] at hc)<;>(try (exfalso;omega)))))|(with_reducible (first|apply ze1|apply ze2);(conv=>lhs;simp only [zw,k1,k2,k3]))|(with_reducible (first|apply Cu|apply Cv|apply Cw|apply Cx)<;>intro hc<;>(try simp only [Ar] at hc)<;>(try (exfalso;omega))))
 all_goals first
  |(all_goals first|(refine zr ?_ (Am.of ?_ (Am.here (TV.C6 _ _)));exact Ak;(focus (first|rfl|(simp [opR, *];done)|(simp [opR, *];omega)|(simp_all [opR];done);done)))|(refine zr ?_ (Am.of ?_ (Am.here ?_));exact Ak;(focus (first|rfl|(simp [opR, *];done)|(simp [opR, *];omega)|(simp_all [opR];done);done));exact Cd))
  |(refine gives_of (hj ⟨Ak,by omega,Ch,Ch,Ch,by omega,by omega,Ep,Ep,Ep,Cd,Cd⟩ _ _) ?_;simp [opR,k1,k2,k3, *])
theorem r179 (h72:R72 ctx) (h73:R73 ctx) (h180:R180 ctx) (h230:R230 ctx) (h231:R231 ctx) (h232:R232 ctx) (h233:R233 ctx) (h234:R234 ctx) (n:Int) (a b:Tr) (wa wb:AV) (h:H) (hn:n=4\/n=5\/n=6) (ha:TV h a wa) (hb:TV h b wb) (hsa:size a<=1000) (hsb:size b<=1000):
 Sx.Af h (Am (arithR n a b)) (An Tryz.prog ctx N true 179 [.int .i64 n,.agg (rc a wa),.agg (rc b wb)] h):=by
 rcases hn with rfl|rfl|rfl
 . exact r179_add ctx N h72 h73 h180 h230 h231 h232 h233 h234 a b wa wb h ha hb hsa hsb
 . exact r179_sub ctx N h72 h73 h180 h230 h231 h232 h233 h234 a b wa wb h ha hb hsa hsb
 . exact r179_mul ctx N h72 h73 h180 h230 h231 h232 h233 h234 a b wa wb h ha hb hsa hsb
end Go.Proofs
