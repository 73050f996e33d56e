/- The reference's walks: comparisons. -/
import Derived.Test.YtecikbfimlolcaaGreatDoorEvRc
set_option maxRecDepth 100000
set_option linter.unusedSimpArgs false
set_option linter.unusedVariables false
namespace Go.Proofs
open Go Go.Ev Go.Nm
attribute [local irreducible] Aa Aj Ah Ac
variable (ctx:Ae) (N:Nat)
def R184a:Prop:=∀ (n:Int) (a b:Tr) (wa wb:AV) (h:H),9<=n/\n<=12->TV h a wa->TV h b wb->size a<=1000->size b<=1000->Sx.Af h (Am (Cm n a b)) (ctx.call 184 [.int .i64 n,.agg (rc a wa),.agg (rc b wb)] h)
theorem r184b (h184:R184a ctx) (n:Int) (a b:Tr) (wa wb:AV) (h:H) (hn:n=13\/n=14) (ha:TV h a wa) (hb:TV h b wb) (hsa:size a<=1000) (hsb:size b<=1000):
 Sx.Af h (Am (F3 n a b)) (An Tryz.prog ctx N true 184 [.int .i64 n,.agg (rc a wa),.agg (rc b wb)] h):=by
 rw [e184]
 obtain ⟨oa,ca⟩:=ha.ob
 obtain ⟨obb,cb⟩:=hb.ob
 rcases hn with rfl|rfl
 all_goals repeat' (first|with_reducible (first|apply A3|apply A4|apply A5|apply A6)|((with_reducible (first|apply Db|apply Dc));exact h184 _ _ _ _ _ _ (by omega) Cd Cd (by omega) (by omega);intro vv hh ee elo eold qq;(try simp only [Bp] at elo eold);obtain ⟨ww,rfl,qq⟩:=qq;obtain ⟨ob,cw⟩:=qq.ob)|(with_reducible (first|apply Cq|apply Cr|apply Cs|apply Ct);(conv=>lhs;simp (disch:=first|exact dA|fail) [lw, *]);with_reducible (first|apply A3|apply A4|apply A5|apply A6|apply Cn|(refine Co (by simp) ?_)|(apply Cp<;>intro hc<;>(try simp only [Ar] at hc)<;>(try (exfalso;omega)))))|(with_reducible (first|apply Cu|apply Cv|apply Cw|apply Cx)<;>intro hc<;>(try simp only [Ar] at hc)<;>(try (exfalso;omega))))
 all_goals first|(refine zr ?_ (Am.of ?_ (Am.here (TV.C6 _ _)));exact Ak;(focus (first|rfl|(simp [F3, *];done)|(simp [F3, *];omega)|(simp_all [F3];done);done)))|(refine zr ?_ (Am.of ?_ (Am.here ?_));exact Ak;(focus (first|rfl|(simp [F3, *];done)|(simp [F3, *];omega)|(simp_all [F3];done);done));exact Cd)
set_option maxHeartbeats 1000000 in
theorem r184k (h34:R34 ctx) (h230:R230 ctx) (n:Int) (a b:Tr) (wa wb:AV) (h:H) (hn:n=9\/n=10\/n=11\/n=12) (ha:TV h a wa) (hb:TV h b wb) (hsa:size a<=1000) (hsb:size b<=1000) (k1:(A0 a).2=true) (k2:(A0 b).2=true):
 Sx.Af h (Am (Cm n a b)) (An Tryz.prog ctx N true 184 [.int .i64 n,.agg (rc a wa),.agg (rc b wb)] h):=by
 rw [e184]
 obtain ⟨oa,ca⟩:=ha.ob
 obtain ⟨obb,cb⟩:=hb.ob
 rcases hn with rfl|rfl|rfl|rfl
 all_goals repeat' (first|with_reducible (first|apply A3|apply A4|apply A5|apply A6)|((with_reducible (first|apply Db|apply Dc));exact h230 _ _ _ Cd;intro vv hh ee elo eold qq;(try simp only [Bp] at elo eold);subst qq)|((with_reducible (first|apply Db|apply Dc));exact h34 _ _;intro vv hh ee elo eold qq;(try simp only [Bp] at elo eold);obtain ⟨ww,rfl,qq⟩:=qq;obtain ⟨ob,cw⟩:=qq.ob)|(with_reducible (first|apply Cq|apply Cr|apply Cs|apply Ct);(conv=>lhs;simp (disch:=first|exact dA|fail) [lw, *,kc3,ke3,mset,mfind,k1,k2]);with_reducible (first|apply A3|apply A4|apply A5|apply A6|apply Cn|(refine Co (by simp) ?_)|(apply Cp<;>intro hc<;>(try simp only [Ar] at hc)<;>(try (exfalso;omega)))))|(with_reducible (first|apply ze1|apply ze2);(conv=>lhs;simp only [zw,k1,k2]))|(with_reducible (first|apply Cu|apply Cv|apply Cw|apply Cx)<;>intro hc<;>(try simp only [Ar] at hc)<;>(try (exfalso;omega))))
 all_goals first|(refine zr ?_ (Am.of ?_ (Am.here (TV.C6 _ _)));exact Ak;(focus (first|rfl|(simp [Cm, *];done)|(simp [Cm, *];omega)|(simp_all [Cm];done);done)))|(refine zr ?_ (Am.of ?_ (Am.here ?_));exact Ak;(focus (first|rfl|(simp [Cm, *];done)|(simp [Cm, *];omega)|(simp_all [Cm];done);done));exact Cd)
set_option maxHeartbeats 1000000 in
theorem r184e (h34:R34 ctx) (h230:R230 ctx) (h233:R233 ctx) (n:Int) (a b:Tr) (wa wb:AV) (h:H) (hn:n=9\/n=10\/n=11\/n=12) (ha:TV h a wa) (hb:TV h b wb) (hsa:size a<=1000) (hsb:size b<=1000) (k1:((A0 a).2&&(A0 b).2)=false) (k3:equalR a b=true):
 Sx.Af h (Am (Cm n a b)) (An Tryz.prog ctx N true 184 [.int .i64 n,.agg (rc a wa),.agg (rc b wb)] h):=by
 rw [e184]
 obtain ⟨oa,ca⟩:=ha.ob
 obtain ⟨obb,cb⟩:=hb.ob
 have hs:Cm n a b=fixed (decide (n=9)||decide (n=12)):=by simp [Cm,k1,k3]
 rw [hs]
 clear hs
 cases k4:(A0 a).2<;>cases k5:(A0 b).2
 all_goals first|(rw [k4,k5] at k1;cases k1;done)|(clear k1;rcases hn with rfl|rfl|rfl|rfl)
 all_goals repeat' (first|with_reducible (first|apply A3|apply A4|apply A5|apply A6)|((with_reducible (first|apply Db|apply Dc));exact h230 _ _ _ Cd;intro vv hh ee elo eold qq;(try simp only [Bp] at elo eold);subst qq)|((with_reducible (first|apply Db|apply Dc));exact h233 _ _ _ _ _ Cd Cd (by omega) (by omega);intro vv hh ee elo eold qq;(try simp only [Bp] at elo eold);subst qq)|((with_reducible (first|apply Db|apply Dc));exact h34 _ _;intro vv hh ee elo eold qq;(try simp only [Bp] at elo eold);obtain ⟨ww,rfl,qq⟩:=qq;obtain ⟨ob,cw⟩:=qq.ob)|(with_reducible (first|apply Cq|apply Cr|apply Cs|apply Ct);(conv=>lhs;simp (disch:=first|exact dA|fail) [lw, *,k3,k4,k5]);with_reducible (first|apply A3|apply A4|apply A5|apply A6|apply Cn|(refine Co (by simp) ?_)|(apply Cp<;>intro hc<;>(try simp only [Ar] at hc)<;>(try (exfalso;omega)))))|(with_reducible (first|apply ze1|apply ze2);(conv=>lhs;simp only [zw,k3,k4,k5]))|(with_reducible (first|apply Cu|apply Cv|apply Cw|apply Cx)<;>intro hc<;>(try simp only [Ar] at hc)<;>(try (exfalso;omega))))
 all_goals first|(refine zr ?_ (Am.of ?_ (Am.here (TV.C6 _ _)));exact Ak;(focus (first|exact specA|fail;done)))|(refine zr ?_ (Am.of ?_ (Am.here ?_));exact Ak;(focus (first|exact specA|fail;done));exact Cd)
set_option maxHeartbeats 4000000 in
theorem r184n (h72:R72 ctx) (h230:R230 ctx) (h233:R233 ctx) (h234:R234 ctx) (n:Int) (a b:Tr) (wa wb:AV) (h:H) (hn:n=9\/n=10\/n=11\/n=12) (ha:TV h a wa) (hb:TV h b wb) (hsa:size a<=1000) (hsb:size b<=1000) (k1:((A0 a).2&&(A0 b).2)=false) (k3:equalR a b=false):
 Sx.Af h (Am (Cm n a b)) (An Tryz.prog ctx N true 184 [.int .i64 n,.agg (rc a wa),.agg (rc b wb)] h):=by
 rw [e184]
 obtain ⟨oa,ca⟩:=ha.ob
 obtain ⟨obb,cb⟩:=hb.ob
 have hs:Cm n a b=if (decide (n=9)||decide (n=10))&&!decide ((hd b).op=3) then En n a b else .two n a b:=by simp [Cm,k1,k3]
 rw [hs]
 clear hs
 cases k6:decide ((hd b).op=3)
 all_goals cases k4:(A0 a).2<;>cases k5:(A0 b).2
 all_goals first|(rw [k4,k5] at k1;cases k1;done)|(clear k1;rcases hn with rfl|rfl|rfl|rfl)
 all_goals repeat' (first|with_reducible (first|apply A3|apply A4|apply A5|apply A6)|((with_reducible (first|apply Db|apply Dc));exact h230 _ _ _ Cd;intro vv hh ee elo eold qq;(try simp only [Bp] at elo eold);subst qq)|((with_reducible (first|apply Db|apply Dc));exact h233 _ _ _ _ _ Cd Cd (by omega) (by omega);intro vv hh ee elo eold qq;(try simp only [Bp] at elo eold);subst qq)|((with_reducible (first|apply Db|apply Dc));exact h234 _ _ _ _ _ _ (by omega) Cd Cd (by omega) (by omega);intro vv hh ee elo eold qq;(try simp only [Bp] at elo eold);obtain ⟨ww,rfl,qq⟩:=qq;obtain ⟨ob,cw⟩:=qq.ob)|((with_reducible (first|apply Db|apply Dc));exact h72 _ _ _ (by simp [*]) (by simp [*]);intro vv hh ee elo eold qq;(try simp only [Bp] at elo eold);subst qq)|(with_reducible (first|apply Cq|apply Cr|apply Cs|apply Ct);(conv=>lhs;simp (disch:=first|exact dA|fail) [lw, *,k3,k4,k5,k6]);with_reducible (first|apply A3|apply A4|apply A5|apply A6|apply Cn|(refine Co (by simp) ?_)|(apply Cp<;>intro hc<;>(try simp only [Ar] at hc)<;>(try (exfalso;omega)))))|(with_reducible (first|apply ze1|apply ze2);(conv=>lhs;simp only [zw,k3,k4,k5]))|(with_reducible (first|apply Cu|apply Cv|apply Cw|apply Cx)<;>intro hc<;>(try simp only [Ar] at hc)<;>(try (exfalso;omega))))
 all_goals first|(refine zr ?_ (Am.of ?_ (Am.two (a:=a) (c:=b) ?_ ?_ Cd Cd ?_));exact Ak;(focus (first|rfl|(simp [k6, *];done)|(simp [k6, *];omega)|(simp_all [k6];done);done));exact Ep;exact Ch;omega)|(refine zr ?_ (Am.of ?_ (Am.here (TV.C6 _ _)));exact Ak;(focus (first|rfl|(simp [k6, *];done)|(simp [k6, *];omega)|(simp_all [k6];done);done)))|(refine zr ?_ (Am.of ?_ (Am.here ?_));exact Ak;(focus (first|rfl|(simp [k6, *];done)|(simp [k6, *];omega)|(simp_all [k6];done);done));exact Cd)
theorem r184a (h34:R34 ctx) (h72:R72 ctx) (h230:R230 ctx) (h233:R233 ctx) (h234:R234 ctx) (n:Int) (a b:Tr) (wa wb:AV) (h:H) (hn:9<=n/\n<=12) (ha:TV h a wa) (hb:TV h b wb) (hsa:size a<=1000) (hsb:size b<=1000):
 Sx.Af h (Am (Cm n a b)) (An Tryz.prog ctx N true 184 [.int .i64 n,.agg (rc a wa),.agg (rc b wb)] h):=by
 have hn':n=9\/n=10\/n=11\/n=12:=by omega
 cases k1:(A0 a).2&&(A0 b).2
 . cases k3:equalR a b
   . exact r184n ctx N h72 h230 h233 h234 n a b wa wb h hn' ha hb hsa hsb k1 k3
   . exact r184e ctx N h34 h230 h233 n a b wa wb h hn' ha hb hsa hsb k1 k3
 . simp only [Bool.and_eq_true] at k1
   exact r184k ctx N h34 h230 n a b wa wb h hn' ha hb hsa hsb k1.1 k1.2
end Go.Proofs
