/- The walks of package norm's functions on plain values. -/
import Derived.Test.YtecikbfimlolcaaGreatDoorEvQa
import Derived.Test.YtecikbfimlolcaaGreatDoorEvQb
set_option maxRecDepth 100000
set_option linter.unusedSimpArgs false
set_option linter.unusedVariables false
noncomputable section
namespace Go.Proofs
open Go Go.Ev Go.Nm
attribute [local irreducible] Aa Al Af Ad
variable (ctx:Ac) (N:Nat)
abbrev L8 (g:FuncId) (args:List AV) (n:Nat) (h:H) (u:AV):Prop:=Sx.Comes (Ay Tryz.prog ctx N true g args h) (Sx.Out n h u)
theorem An4 {a b:Int} (ha:-1000000000<=a/\a<=1000000000) (hb:-1000000000<=b/\b<=1000000000):-1000000000000000000<=a * b/\a * b<=1000000000000000000:=by
 have h1:a.natAbs<=1000000000:=by omega
 have h2:b.natAbs<=1000000000:=by omega
 have h3:(a * b).natAbs<=1000000000 * 1000000000:=by rw [Int.natAbs_mul];exact Nat.mul_le_mul h1 h2
 omega
theorem A9D (o:Int) (x:AV) (h:H) (hr:h.nx+8<=Bq):L8 ctx N 350 [.agg [.int .i64 o,x]] 8 h (.int .i64 o):=by
 unfold L8;rw [A7J]
 have h1:h.nx<Bq:=by omega
 repeat' (first|with_reducible (first|apply Ee|apply Ef|apply Eg|apply Eh)|(with_reducible (first|apply Kv|apply Kw|apply Kx|apply K0);(conv=>lhs;simp (disch:=first|exact Ce|fail) [lc, *]);with_reducible (first|apply Ee|apply Ef|apply Eg|apply Eh|apply Ks|(refine Kt (by simp) ?_)|(apply Ku<;>intro hc)))|(with_reducible (first|apply K7|apply K8|apply K9|apply Ld)<;>intro hc))
 (all_goals with_reducible refine Sx.A0 ?_ ?_ ?_ ?_;all_goals exact Afw)
theorem A9G (o:Int) (x y:AV) (h:H) (hr:h.nx+8<=Bq):L8 ctx N 353 [.agg [.int .i64 o,x,y]] 8 h (.int .i64 o):=by
 unfold L8;rw [A7M]
 have h1:h.nx<Bq:=by omega
 repeat' (first|with_reducible (first|apply Ee|apply Ef|apply Eg|apply Eh)|(with_reducible (first|apply Kv|apply Kw|apply Kx|apply K0);(conv=>lhs;simp (disch:=first|exact Ce|fail) [lc, *]);with_reducible (first|apply Ee|apply Ef|apply Eg|apply Eh|apply Ks|(refine Kt (by simp) ?_)|(apply Ku<;>intro hc)))|(with_reducible (first|apply K7|apply K8|apply K9|apply Ld)<;>intro hc))
 (all_goals with_reducible refine Sx.A0 ?_ ?_ ?_ ?_;all_goals exact Afw)
theorem A9I (x y z:AV) (h:H) (hr:h.nx+8<=Bq):L8 ctx N 355 [.agg [x,y,z]] 8 h (.int .i64 8):=by
 unfold L8;rw [A7O]
 have h1:h.nx<Bq:=by omega
 repeat' (first|with_reducible (first|apply Ee|apply Ef|apply Eg|apply Eh)|(with_reducible (first|apply Kv|apply Kw|apply Kx|apply K0);(conv=>lhs;simp (disch:=first|exact Ce|fail) [lc, *]);with_reducible (first|apply Ee|apply Ef|apply Eg|apply Eh|apply Ks|(refine Kt (by simp) ?_)|(apply Ku<;>intro hc)))|(with_reducible (first|apply K7|apply K8|apply K9|apply Ld)<;>intro hc))
 (all_goals with_reducible refine Sx.A0 ?_ ?_ ?_ ?_;all_goals exact Afw)
theorem A9K (x:Nd) (h:H) (hr:h.nx+8<=Bq):L8 ctx N 357 [.agg (Bw x)] 8 h (.int .i64 x.op):=by
 unfold L8;rw [A7Q]
 have h1:h.nx<Bq:=by omega
 repeat' (first|with_reducible (first|apply Ee|apply Ef|apply Eg|apply Eh)|(with_reducible (first|apply Kv|apply Kw|apply Kx|apply K0);(conv=>lhs;simp (disch:=first|exact Ce|fail) [lc, *,Bw]);with_reducible (first|apply Ee|apply Ef|apply Eg|apply Eh|apply Ks|(refine Kt (by simp) ?_)|(apply Ku<;>intro hc)))|(with_reducible (first|apply K7|apply K8|apply K9|apply Ld)<;>intro hc))
 (all_goals with_reducible refine Sx.A0 ?_ ?_ ?_ ?_;all_goals exact Afw)
theorem Ark (x:Nd) (h:H) (hr:h.nx+8<=Bq):L8 ctx N 109 [A3 (.leaf x)] 8 h (.Bj [.int .i64 (value (.leaf x)).1,.bool (value (.leaf x)).2]):=by
 unfold L8;rw [Atr]
 have h1:h.nx<Bq:=by omega
 unfold A3
 repeat' (first|with_reducible (first|apply Ee|apply Ef|apply Eg|apply Eh)|(with_reducible (first|apply Kv|apply Kw|apply Kx|apply K0);(conv=>lhs;simp (disch:=first|exact Ce|fail) [lc, *,Bw]);with_reducible (first|apply Ee|apply Ef|apply Eg|apply Eh|apply Ks|(refine Kt (by simp) ?_)|(apply Ku<;>intro hc)))|(with_reducible (first|apply K7|apply K8|apply K9|apply Ld)<;>intro hc))
 (all_goals with_reducible refine Sx.A0 ?_ ?_ ?_ ?_;all_goals first|exact G9|(simp only [decide_eq_true_eq,decide_eq_false_iff_not] at *;simp [*,value];done)|(simp_all [value];done)|(simp_all [value];omega))
abbrev HOp:Prop:=∀(t:Tr) (h:H),Hn Tryz.prog ctx (A3 t) (mnm Tryz.prog 109 1) [] h=.ok (.int .i64 t.op) h
abbrev AoN:Prop:=∀(t:Tr) (h:H),ctx.call 109 [A3 t] h=.ok (.Bj [.int .i64 (value t).1,.bool (value t).2]) h
abbrev H69:Prop:=∀(n:Int) (h:H),ctx.call 69 [.int .i64 n] h=.ok (A3 (num n)) h
abbrev AwD:Prop:=∀(n:Int) (h:H),-9223372036854775808<n->n<=9223372036854775807->ctx.call 110 [.int .i64 n] h=.ok (Yy (constant n)) h
abbrev A1m:Prop:=∀(o:Int) (a b:Tr) (h:H),o=4\/o=5\/o=6->ctx.call 174 [.int .i64 o,A3 a,A3 b] h=.ok (Yy (arith o a b)) h
abbrev A1n:Prop:=∀(t:Tr) (n:Int) (h:H),ctx.call 175 [A3 t,.int .i64 n] h=.ok (.bool (isV t n)) h
abbrev H65:Prop:=∀(t:Tr) (h:H),ctx.call 65 [A3 t] h=.ok (A3 (neg t)) h
abbrev H66:Prop:=∀(t:Tr) (h:H),size t<=1000->ctx.call 66 [A3 t] h=.ok (A3 (Jl t)) h
abbrev H68:Prop:=∀(a b:Tr) (h:H),size a<=1000->size b<=1000->ctx.call 68 [A3 a,A3 b] h=.ok (.int .i64 (compare a b)) h
abbrev H30:Prop:=∀(a b:Tr) (h:H),size a<=1000->size b<=1000->ctx.call 30 [A3 a,A3 b] h=.ok (.bool (same a b)) h
abbrev H31:Prop:=∀(b:Bool) (h:H),ctx.call 31 [.bool b] h=.ok (A3 (fixed b)) h
abbrev AsV:Prop:=∀(o:Int) (a b:Tr) (h:H),size a<=1000->size b<=1000->ctx.call 176 [.int .i64 o,A3 a,A3 b] h=.ok (A3 (ordered o a b)) h
abbrev A1e:Prop:=∀(o:Int) (a b:Tr) (h:H),o=4\/o=5\/o=6->size a<=1000->size b<=1000->ctx.call 111 [.int .i64 o,A3 a,A3 b] h=.ok (A3 (Mw o a b)) h
abbrev A1f:Prop:=∀(o:Int) (a b:Tr) (h:H),9<=o/\o<=14->size a<=1000->size b<=1000->ctx.call 112 [.int .i64 o,A3 a,A3 b] h=.ok (A3 (Ek o a b)) h
abbrev A1g:Prop:=∀(o:Int) (a b:Tr) (h:H),o=15\/o=16->size a<=1000->size b<=1000->ctx.call 113 [.int .i64 o,A3 a,A3 b] h=.ok (A3 (Kg o a b)) h
theorem Aun (o:Int) (a:Tr) (De:HOp ctx) (Rx:∀h,ctx.call 109 [A3 a] h=.ok (.Bj [.int .i64 (value a).1,.bool (value a).2]) h) (h:H) (hr:h.nx+8<=Bq):
 L8 ctx N 109 [A3 (.one o a)] 8 h (.Bj [.int .i64 (value (.one o a)).1,.bool (value (.one o a)).2]):=by
 rw [show A3 (.one o a)=.I6 109 (.agg [.int .i64 o,A3 a]) from rfl]
 unfold L8;rw [Atr]
 have h1:h.nx<Bq:=by omega
 cases hv:(value a).2 with
 |false=>
  rw [hv] at Rx
  repeat' (first|with_reducible (first|apply Ee|apply Ef|apply Eg|apply Eh)|(with_reducible (first|apply Kv|apply Kw|apply Kx|apply K0);(conv=>lhs;simp (disch:=first|exact Ce|fail) [lc, *,De,Rx]);with_reducible (first|apply Ee|apply Ef|apply Eg|apply Eh|apply Ks|(refine Kt (by simp) ?_)|(apply Ku<;>intro hc)))|(with_reducible (first|apply K7|apply K8|apply K9|apply Ld)<;>intro hc))
  (all_goals with_reducible refine Sx.A0 ?_ ?_ ?_ ?_;all_goals first|exact G9|(simp only [decide_eq_true_eq,decide_eq_false_iff_not] at *;simp [*,value];done)|(simp_all [value];done)|(simp_all [value];omega))
 |true=>
  rw [hv] at Rx
  have hb:=Jx a hv
  have hw:E1 .i64 (-(value a).1)=-(value a).1:=by rw [Sx.Cr]<;>omega
  repeat' (first|with_reducible (first|apply Ee|apply Ef|apply Eg|apply Eh)|(with_reducible (first|apply Kv|apply Kw|apply Kx|apply K0);(conv=>lhs;simp (disch:=first|exact Ce|fail) [lc, *,De,Rx]);with_reducible (first|apply Ee|apply Ef|apply Eg|apply Eh|apply Ks|(refine Kt (by simp) ?_)|(apply Ku<;>intro hc)))|(with_reducible (first|apply K7|apply K8|apply K9|apply Ld)<;>intro hc))
  (all_goals with_reducible refine Sx.A0 ?_ ?_ ?_ ?_;all_goals first|exact G9|(simp only [decide_eq_true_eq,decide_eq_false_iff_not] at *;simp [*,value];done)|(simp_all [value];done)|(simp_all [value];omega))
theorem Auo (o:Int) (a b:Tr) (h:H) (hr:h.nx+8<=Bq):L8 ctx N 109 [A3 (.two o a b)] 8 h (.Bj [.int .i64 0,.bool false]):=by
 rw [show A3 (.two o a b)=.I6 111 (.agg [.int .i64 o,A3 a,A3 b]) from rfl]
 unfold L8;rw [Atr]
 have h1:h.nx<Bq:=by omega
 repeat' (first|with_reducible (first|apply Ee|apply Ef|apply Eg|apply Eh)|(with_reducible (first|apply Kv|apply Kw|apply Kx|apply K0);(conv=>lhs;simp (disch:=first|exact Ce|fail) [lc, *]);with_reducible (first|apply Ee|apply Ef|apply Eg|apply Eh|apply Ks|(refine Kt (by simp) ?_)|(apply Ku<;>intro hc)))|(with_reducible (first|apply K7|apply K8|apply K9|apply Ld)<;>intro hc))
 (all_goals with_reducible refine Sx.A0 ?_ ?_ ?_ ?_;all_goals exact Afw)
theorem An5 (c a b:Tr) (h:H) (hr:h.nx+8<=Bq):L8 ctx N 109 [A3 (.three c a b)] 8 h (.Bj [.int .i64 0,.bool false]):=by
 rw [show A3 (.three c a b)=.I6 116 (.agg [A3 c,A3 a,A3 b]) from rfl]
 unfold L8;rw [Atr]
 have h1:h.nx<Bq:=by omega
 repeat' (first|with_reducible (first|apply Ee|apply Ef|apply Eg|apply Eh)|(with_reducible (first|apply Kv|apply Kw|apply Kx|apply K0);(conv=>lhs;simp (disch:=first|exact Ce|fail) [lc, *]);with_reducible (first|apply Ee|apply Ef|apply Eg|apply Eh|apply Ks|(refine Kt (by simp) ?_)|(apply Ku<;>intro hc)))|(with_reducible (first|apply K7|apply K8|apply K9|apply Ld)<;>intro hc))
 (all_goals with_reducible refine Sx.A0 ?_ ?_ ?_ ?_;all_goals exact Afw)
theorem n69 (n:Int) (h:H) (hr:h.nx+8<=Bq):L8 ctx N 69 [.int .i64 n] 8 h (A3 (num n)):=by
 unfold L8;rw [e69]
 repeat' (first|with_reducible (first|apply Ee|apply Ef|apply Eg|apply Eh)|(with_reducible (first|apply Kv|apply Kw|apply Kx|apply K0);(conv=>lhs;simp (disch:=first|exact Ce|fail) [lc, *]);with_reducible (first|apply Ee|apply Ef|apply Eg|apply Eh|apply Ks|(refine Kt (by simp) ?_)|(apply Ku<;>intro hc)))|(with_reducible (first|apply K7|apply K8|apply K9|apply Ld)<;>intro hc))
 (all_goals with_reducible refine Sx.A0 ?_ ?_ ?_ ?_;all_goals first|exact G9|(simp only [decide_eq_true_eq,decide_eq_false_iff_not] at *;simp [*,A3,num];done)|(simp_all [A3,num];done)|(simp_all [A3,num];omega))
theorem n64 (De:HOp ctx) (t:Tr) (h:H) (hr:h.nx+8<=Bq):L8 ctx N 64 [A3 t] 8 h (.bool (decide (9<=t.op))):=by
 unfold L8;rw [e64]
 repeat' (first|with_reducible (first|apply Ee|apply Ef|apply Eg|apply Eh)|(with_reducible (first|apply Kv|apply Kw|apply Kx|apply K0);(conv=>lhs;simp (disch:=first|exact Ce|fail) [lc, *,De]);with_reducible (first|apply Ee|apply Ef|apply Eg|apply Eh|apply Ks|(refine Kt (by simp) ?_)|(apply Ku<;>intro hc)))|(with_reducible (first|apply K7|apply K8|apply K9|apply Ld)<;>intro hc))
 (all_goals with_reducible refine Sx.A0 ?_ ?_ ?_ ?_;all_goals exact Afw)
theorem n31 (h69:H69 ctx) (b:Bool) (h:H) (hr:h.nx+8<=Bq):L8 ctx N 31 [.bool b] 8 h (A3 (fixed b)):=by
 unfold L8;rw [e31]
 repeat' (first|with_reducible (first|apply Ee|apply Ef|apply Eg|apply Eh)|(with_reducible (first|apply Kv|apply Kw|apply Kx|apply K0);(conv=>lhs;simp (disch:=first|exact Ce|fail) [lc, *,h69]);with_reducible (first|apply Ee|apply Ef|apply Eg|apply Eh|apply Ks|(refine Kt (by simp) ?_)|(apply Ku<;>intro hc)))|(with_reducible (first|apply K7|apply K8|apply K9|apply Ld)<;>intro hc))
 (all_goals with_reducible refine Sx.A0 ?_ ?_ ?_ ?_;all_goals first|exact G9|(simp only [decide_eq_true_eq,decide_eq_false_iff_not] at *;simp [*,A3,fixed];done)|(simp_all [A3,fixed];done)|(simp_all [A3,fixed];omega))
theorem n30 (h68:H68 ctx) (a b:Tr) (ha:size a<=1000) (hb:size b<=1000) (h:H) (hr:h.nx+8<=Bq):L8 ctx N 30 [A3 a,A3 b] 8 h (.bool (same a b)):=by
 unfold L8;rw [e30]
 repeat' (first|with_reducible (first|apply Ee|apply Ef|apply Eg|apply Eh)|(with_reducible (first|apply Kv|apply Kw|apply Kx|apply K0);(conv=>lhs;simp (disch:=first|exact Ce|fail) [lc, *,h68]);with_reducible (first|apply Ee|apply Ef|apply Eg|apply Eh|apply Ks|(refine Kt (by simp) ?_)|(apply Ku<;>intro hc)))|(with_reducible (first|apply K7|apply K8|apply K9|apply Ld)<;>intro hc))
 (all_goals with_reducible refine Sx.A0 ?_ ?_ ?_ ?_;all_goals first|exact G9|(simp only [decide_eq_true_eq,decide_eq_false_iff_not] at *;simp [*,same];done)|(simp_all [same];done)|(simp_all [same];omega))
theorem n176 (h68:H68 ctx) (o:Int) (a b:Tr) (ha:size a<=1000) (hb:size b<=1000) (h:H) (hr:h.nx+8<=Bq):L8 ctx N 176 [.int .i64 o,A3 a,A3 b] 8 h (A3 (ordered o a b)):=by
 unfold L8;rw [A7E]
 repeat' (first|with_reducible (first|apply Ee|apply Ef|apply Eg|apply Eh)|(with_reducible (first|apply Kv|apply Kw|apply Kx|apply K0);(conv=>lhs;simp (disch:=first|exact Ce|fail) [lc, *,h68]);with_reducible (first|apply Ee|apply Ef|apply Eg|apply Eh|apply Ks|(refine Kt (by simp) ?_)|(apply Ku<;>intro hc)))|(with_reducible (first|apply K7|apply K8|apply K9|apply Ld)<;>intro hc))
 (all_goals with_reducible refine Sx.A0 ?_ ?_ ?_ ?_;all_goals first|exact G9|(simp only [decide_eq_true_eq,decide_eq_false_iff_not] at *;simp [*,ordered,A3];done)|(simp_all [ordered,A3];done)|(simp_all [ordered,A3];omega))
theorem n175 (Qw:AoN ctx) (t:Tr) (n:Int) (h:H) (hr:h.nx+8<=Bq):L8 ctx N 175 [A3 t,.int .i64 n] 8 h (.bool (isV t n)):=by
 unfold L8;rw [A7D]
 repeat' (first|with_reducible (first|apply Ee|apply Ef|apply Eg|apply Eh)|(with_reducible (first|apply Kv|apply Kw|apply Kx|apply K0);(conv=>lhs;simp (disch:=first|exact Ce|fail) [lc, *,Qw]);with_reducible (first|apply Ee|apply Ef|apply Eg|apply Eh|apply Ks|(refine Kt (by simp) ?_)|(apply Ku<;>intro hc)))|(with_reducible (first|apply K7|apply K8|apply K9|apply Ld)<;>intro hc))
 (all_goals with_reducible refine Sx.A0 ?_ ?_ ?_ ?_;all_goals first|exact G9|(simp only [decide_eq_true_eq,decide_eq_false_iff_not] at *;simp [*,isV];done)|(simp_all [isV];done)|(simp_all [isV];omega))
theorem n110 (h69:H69 ctx) (n:Int) (h1:-9223372036854775808<n) (h2:n<=9223372036854775807) (h:H) (hr:h.nx+8<=Bq):L8 ctx N 110 [.int .i64 n] 8 h (Yy (constant n)):=by
 have hw:E1 .i64 (-n)=-n:=by rw [Sx.Cr]<;>omega
 unfold L8;rw [A72]
 repeat' (first|with_reducible (first|apply Ee|apply Ef|apply Eg|apply Eh)|(with_reducible (first|apply Kv|apply Kw|apply Kx|apply K0);(conv=>lhs;simp (disch:=first|exact Ce|fail) [lc, *,h69]);with_reducible (first|apply Ee|apply Ef|apply Eg|apply Eh|apply Ks|(refine Kt (by simp) ?_)|(apply Ku<;>intro hc)))|(with_reducible (first|apply K7|apply K8|apply K9|apply Ld)<;>intro hc))
 (all_goals with_reducible refine Sx.A0 ?_ ?_ ?_ ?_;all_goals first|exact G9|(simp only [decide_eq_true_eq,decide_eq_false_iff_not] at *;simp [*,constant,D9,A3];done)|(simp_all [constant,D9,A3];done)|(simp_all [constant,D9,A3];omega))
theorem n174 (Qw:AoN ctx) (Ah7:AwD ctx) (o:Int) (ho:o=4\/o=5\/o=6) (a b:Tr) (h:H) (hr:h.nx+8<=Bq):L8 ctx N 174 [.int .i64 o,A3 a,A3 b] 8 h (Yy (arith o a b)):=by
 unfold L8;rw [A7C]
 cases hv:(value a).2 with
 |false=>
  repeat' (first|with_reducible (first|apply Ee|apply Ef|apply Eg|apply Eh)|(with_reducible (first|apply Kv|apply Kw|apply Kx|apply K0);(conv=>lhs;simp (disch:=first|exact Ce|fail) [lc, *,Qw,hv]);with_reducible (first|apply Ee|apply Ef|apply Eg|apply Eh|apply Ks|(refine Kt (by simp) ?_)|(apply Ku<;>intro hc)))|(with_reducible (first|apply K7|apply K8|apply K9|apply Ld)<;>intro hc))
  (all_goals with_reducible refine Sx.A0 ?_ ?_ ?_ ?_;all_goals first|exact G9|(simp only [decide_eq_true_eq,decide_eq_false_iff_not] at *;simp [*,arith,D9];done)|(simp_all [arith,D9];done)|(simp_all [arith,D9];omega))
 |true=>
  have hb:=Jx a hv
  cases hu:(value b).2 with
  |false=>
   repeat' (first|with_reducible (first|apply Ee|apply Ef|apply Eg|apply Eh)|(with_reducible (first|apply Kv|apply Kw|apply Kx|apply K0);(conv=>lhs;simp (disch:=first|exact Ce|fail) [lc, *,Qw,hv,hu]);with_reducible (first|apply Ee|apply Ef|apply Eg|apply Eh|apply Ks|(refine Kt (by simp) ?_)|(apply Ku<;>intro hc)))|(with_reducible (first|apply K7|apply K8|apply K9|apply Ld)<;>intro hc))
   (all_goals with_reducible refine Sx.A0 ?_ ?_ ?_ ?_;all_goals first|exact G9|(simp only [decide_eq_true_eq,decide_eq_false_iff_not] at *;simp [*,arith,D9];done)|(simp_all [arith,D9];done)|(simp_all [arith,D9];omega))
  |true=>
   have hc:=Jx b hu
   have hw1:E1 .i64 ((value a).1+(value b).1)=(value a).1+(value b).1:=by rw [Sx.Cr]<;>omega
   have hw2:E1 .i64 ((value a).1 - (value b).1)=(value a).1 - (value b).1:=by rw [Sx.Cr]<;>omega
   have hm:-1000000000000000000<=(value a).1 * (value b).1/\(value a).1 * (value b).1<=1000000000000000000:=An4 hb hc
   have hw3:E1 .i64 ((value a).1 * (value b).1)=(value a).1 * (value b).1:=by rw [Sx.Cr]<;>omega
   rcases ho with rfl|rfl|rfl
   . have AaE:=λh=>Ah7 ((value a).1+(value b).1) h (by omega) (by omega)
     repeat' (first|with_reducible (first|apply Ee|apply Ef|apply Eg|apply Eh)|(with_reducible (first|apply Kv|apply Kw|apply Kx|apply K0);(conv=>lhs;simp (disch:=first|exact Ce|fail) [lc, *,Qw,hv,hu,hw1,AaE]);with_reducible (first|apply Ee|apply Ef|apply Eg|apply Eh|apply Ks|(refine Kt (by simp) ?_)|(apply Ku<;>intro hc)))|(with_reducible (first|apply K7|apply K8|apply K9|apply Ld)<;>intro hc))
     (all_goals with_reducible refine Sx.A0 ?_ ?_ ?_ ?_;all_goals first|exact G9|(simp only [decide_eq_true_eq,decide_eq_false_iff_not] at *;simp [*,arith,D9];done)|(simp_all [arith,D9];done)|(simp_all [arith,D9];omega))
   . have AaE:=λh=>Ah7 ((value a).1 - (value b).1) h (by omega) (by omega)
     repeat' (first|with_reducible (first|apply Ee|apply Ef|apply Eg|apply Eh)|(with_reducible (first|apply Kv|apply Kw|apply Kx|apply K0);(conv=>lhs;simp (disch:=first|exact Ce|fail) [lc, *,Qw,hv,hu,hw2,AaE]);with_reducible (first|apply Ee|apply Ef|apply Eg|apply Eh|apply Ks|(refine Kt (by simp) ?_)|(apply Ku<;>intro hc)))|(with_reducible (first|apply K7|apply K8|apply K9|apply Ld)<;>intro hc))
     (all_goals with_reducible refine Sx.A0 ?_ ?_ ?_ ?_;all_goals first|exact G9|(simp only [decide_eq_true_eq,decide_eq_false_iff_not] at *;simp [*,arith,D9];done)|(simp_all [arith,D9];done)|(simp_all [arith,D9];omega))
   . have AaE:=λh=>Ah7 ((value a).1 * (value b).1) h (by omega) (by omega)
     repeat' (first|with_reducible (first|apply Ee|apply Ef|apply Eg|apply Eh)|(with_reducible (first|apply Kv|apply Kw|apply Kx|apply K0);(conv=>lhs;simp (disch:=first|exact Ce|fail) [lc, *,Qw,hv,hu,hw3,AaE]);with_reducible (first|apply Ee|apply Ef|apply Eg|apply Eh|apply Ks|(refine Kt (by simp) ?_)|(apply Ku<;>intro hc)))|(with_reducible (first|apply K7|apply K8|apply K9|apply Ld)<;>intro hc))
     (all_goals with_reducible refine Sx.A0 ?_ ?_ ?_ ?_;all_goals first|exact G9|(simp only [decide_eq_true_eq,decide_eq_false_iff_not] at *;simp [*,arith,D9];done)|(simp_all [arith,D9];done)|(simp_all [arith,D9];omega))
def Arp (a:Tr):Tr:=
 match a with
 |.one o x=>if o=7 then x else .one 7 a
 |_=>.one 7 a
theorem Arq {a:Tr} (hn:(if (value a).2 then constant (-(value a).1) else none)=none):neg a=Arp a:=by
 unfold neg Arp
 rw [hn]
 rfl
theorem A4I (a:Tr) (f0:L2) (hn:(if (value a).2 then constant (-(value a).1) else none)=none) (h:H) (hr:h.nx+8<=Bq):Sx.Comes (Alb ctx N (A3 a) f0 h) (Sx.Out 8 h (A3 (neg a))):=by
 rw [AwX,Arq hn]
 have h1:h.nx<Bq:=by omega
 cases a<;>simp only [A3]
 all_goals repeat' (first|with_reducible (first|apply Ee|apply Ef|apply Eg|apply Eh)|(with_reducible (first|apply Kv|apply Kw|apply Kx|apply K0);(conv=>lhs;simp (disch:=first|exact Ce|fail) [lc, *]);with_reducible (first|apply Ee|apply Ef|apply Eg|apply Eh|apply Ks|(refine Kt (by simp) ?_)|(apply Ku<;>intro hc)))|(with_reducible (first|apply K7|apply K8|apply K9|apply Ld)<;>intro hc))
 (all_goals with_reducible refine Sx.A0 ?_ ?_ ?_ ?_;all_goals first|exact G9|(simp only [decide_eq_true_eq,decide_eq_false_iff_not] at *;simp [*,A3,Arp];done)|(simp_all [A3,Arp];done)|(simp_all [A3,Arp];omega))
theorem n65 (Qw:AoN ctx) (Ah7:AwD ctx) (a:Tr) (h:H) (hr:h.nx+8<=Bq):L8 ctx N 65 [A3 a] 8 h (A3 (neg a)):=by
 unfold L8;rw [e65]
 have h1:h.nx<Bq:=by omega
 cases hv:(value a).2 with
 |false=>
  repeat' (first|with_reducible (first|apply Ee|apply Ef|apply Eg|apply Eh)|(with_reducible (first|apply Kv|apply Kw|apply Kx|apply K0);(conv=>lhs;simp (disch:=first|exact Ce|fail) [lc, *,Qw,hv]);with_reducible (first|apply Ee|apply Ef|apply Eg|apply Eh|apply Ks|(refine Kt (by simp) ?_)|(apply Ku<;>intro hc)))|(with_reducible (first|apply K7|apply K8|apply K9|apply Ld)<;>intro hc))
  exact A4I ctx N a _ (by rw [hv];rfl) h hr
 |true=>
  have hb:=Jx a hv
  have hw:E1 .i64 (-(value a).1)=-(value a).1:=by rw [Sx.Cr]<;>omega
  have AaE:=λh=>Ah7 (-(value a).1) h (by omega) (by omega)
  cases hk:constant (-(value a).1) with
  |none=>
   repeat' (first|with_reducible (first|apply Ee|apply Ef|apply Eg|apply Eh)|(with_reducible (first|apply Kv|apply Kw|apply Kx|apply K0);(conv=>lhs;simp (disch:=first|exact Ce|fail) [lc, *,Qw,hv,hw,AaE,hk]);with_reducible (first|apply Ee|apply Ef|apply Eg|apply Eh|apply Ks|(refine Kt (by simp) ?_)|(apply Ku<;>intro hc)))|(with_reducible (first|apply K7|apply K8|apply K9|apply Ld)<;>intro hc))
   exact A4I ctx N a _ (by rw [hv,hk];rfl) h hr
  |some t=>
   repeat' (first|with_reducible (first|apply Ee|apply Ef|apply Eg|apply Eh)|(with_reducible (first|apply Kv|apply Kw|apply Kx|apply K0);(conv=>lhs;simp (disch:=first|exact Ce|fail) [lc, *,Qw,hv,hw,AaE,hk]);with_reducible (first|apply Ee|apply Ef|apply Eg|apply Eh|apply Ks|(refine Kt (by simp) ?_)|(apply Ku<;>intro hc)))|(with_reducible (first|apply K7|apply K8|apply K9|apply Ld)<;>intro hc))
   (all_goals with_reducible refine Sx.A0 ?_ ?_ ?_ ?_;all_goals first|exact G9|(simp only [decide_eq_true_eq,decide_eq_false_iff_not] at *;simp [*,neg,D9];done)|(simp_all [neg,D9];done)|(simp_all [neg,D9];omega))
theorem n111 (J3:H30 ctx) (h65:H65 ctx) (h69:H69 ctx) (AmO:A1m ctx) (Af2:A1n ctx) (Qx:AsV ctx) (o:Int) (ho:o=4\/o=5\/o=6) (a b:Tr) (ha:size a<=1000) (hb:size b<=1000) (h:H) (hr:h.nx+8<=Bq):
 L8 ctx N 111 [.int .i64 o,A3 a,A3 b] 8 h (A3 (Mw o a b)):=by
 unfold L8;rw [A73]
 cases hk:arith o a b with
 |some t=>
  repeat' (first|with_reducible (first|apply Ee|apply Ef|apply Eg|apply Eh)|(with_reducible (first|apply Kv|apply Kw|apply Kx|apply K0);(conv=>lhs;simp (disch:=first|exact Ce|fail) [lc, *,AmO,hk]);with_reducible (first|apply Ee|apply Ef|apply Eg|apply Eh|apply Ks|(refine Kt (by simp) ?_)|(apply Ku<;>intro hc)))|(with_reducible (first|apply K7|apply K8|apply K9|apply Ld)<;>intro hc))
  (all_goals with_reducible refine Sx.A0 ?_ ?_ ?_ ?_;all_goals first|exact G9|(simp only [decide_eq_true_eq,decide_eq_false_iff_not] at *;simp [*,Mw,D9];done)|(simp_all [Mw,D9];done)|(simp_all [Mw,D9];omega))
 |none=>
  rcases ho with rfl|rfl|rfl
  . repeat' (first|with_reducible (first|apply Ee|apply Ef|apply Eg|apply Eh)|(with_reducible (first|apply Kv|apply Kw|apply Kx|apply K0);(conv=>lhs;simp (disch:=first|exact Ce|fail) [lc, *,AmO,hk,Af2,J3,h65,h69,Qx]);with_reducible (first|apply Ee|apply Ef|apply Eg|apply Eh|apply Ks|(refine Kt (by simp) ?_)|(apply Ku<;>intro hc)))|(with_reducible (first|apply K7|apply K8|apply K9|apply Ld)<;>intro hc))
    all_goals rw [AkU]
    all_goals repeat' (first|with_reducible (first|apply Ee|apply Ef|apply Eg|apply Eh)|(with_reducible (first|apply Kv|apply Kw|apply Kx|apply K0);(conv=>lhs;simp (disch:=first|exact Ce|fail) [lc, *,Af2,Qx]);with_reducible (first|apply Ee|apply Ef|apply Eg|apply Eh|apply Ks|(refine Kt (by simp) ?_)|(apply Ku<;>intro hc)))|(with_reducible (first|apply K7|apply K8|apply K9|apply Ld)<;>intro hc))
    all_goals try rw [AkV]
    all_goals repeat' (first|with_reducible (first|apply Ee|apply Ef|apply Eg|apply Eh)|(with_reducible (first|apply Kv|apply Kw|apply Kx|apply K0);(conv=>lhs;simp (disch:=first|exact Ce|fail) [lc, *,Af2,Qx,h69]);with_reducible (first|apply Ee|apply Ef|apply Eg|apply Eh|apply Ks|(refine Kt (by simp) ?_)|(apply Ku<;>intro hc)))|(with_reducible (first|apply K7|apply K8|apply K9|apply Ld)<;>intro hc))
    (all_goals with_reducible refine Sx.A0 ?_ ?_ ?_ ?_;all_goals first|exact G9|(simp only [decide_eq_true_eq,decide_eq_false_iff_not] at *;simp [*,Mw,D9];done)|(simp_all [Mw,D9];done)|(simp_all [Mw,D9];omega))
  . repeat' (first|with_reducible (first|apply Ee|apply Ef|apply Eg|apply Eh)|(with_reducible (first|apply Kv|apply Kw|apply Kx|apply K0);(conv=>lhs;simp (disch:=first|exact Ce|fail) [lc, *,AmO,hk,Af2,J3,h65,h69,Qx]);with_reducible (first|apply Ee|apply Ef|apply Eg|apply Eh|apply Ks|(refine Kt (by simp) ?_)|(apply Ku<;>intro hc)))|(with_reducible (first|apply K7|apply K8|apply K9|apply Ld)<;>intro hc))
    (all_goals with_reducible refine Sx.A0 ?_ ?_ ?_ ?_;all_goals first|exact G9|(simp only [decide_eq_true_eq,decide_eq_false_iff_not] at *;simp [*,Mw,D9,A3];done)|(simp_all [Mw,D9,A3];done)|(simp_all [Mw,D9,A3];omega))
  . repeat' (first|with_reducible (first|apply Ee|apply Ef|apply Eg|apply Eh)|(with_reducible (first|apply Kv|apply Kw|apply Kx|apply K0);(conv=>lhs;simp (disch:=first|exact Ce|fail) [lc, *,AmO,hk,Af2,J3,h65,h69,Qx]);with_reducible (first|apply Ee|apply Ef|apply Eg|apply Eh|apply Ks|(refine Kt (by simp) ?_)|(apply Ku<;>intro hc)))|(with_reducible (first|apply K7|apply K8|apply K9|apply Ld)<;>intro hc))
    all_goals rw [AkU]
    all_goals repeat' (first|with_reducible (first|apply Ee|apply Ef|apply Eg|apply Eh)|(with_reducible (first|apply Kv|apply Kw|apply Kx|apply K0);(conv=>lhs;simp (disch:=first|exact Ce|fail) [lc, *,Af2,Qx]);with_reducible (first|apply Ee|apply Ef|apply Eg|apply Eh|apply Ks|(refine Kt (by simp) ?_)|(apply Ku<;>intro hc)))|(with_reducible (first|apply K7|apply K8|apply K9|apply Ld)<;>intro hc))
    all_goals try rw [AkV]
    all_goals repeat' (first|with_reducible (first|apply Ee|apply Ef|apply Eg|apply Eh)|(with_reducible (first|apply Kv|apply Kw|apply Kx|apply K0);(conv=>lhs;simp (disch:=first|exact Ce|fail) [lc, *,Af2,Qx,h69]);with_reducible (first|apply Ee|apply Ef|apply Eg|apply Eh|apply Ks|(refine Kt (by simp) ?_)|(apply Ku<;>intro hc)))|(with_reducible (first|apply K7|apply K8|apply K9|apply Ld)<;>intro hc))
    (all_goals with_reducible refine Sx.A0 ?_ ?_ ?_ ?_;all_goals first|exact G9|(simp only [decide_eq_true_eq,decide_eq_false_iff_not] at *;simp [*,Mw,D9];done)|(simp_all [Mw,D9];done)|(simp_all [Mw,D9];omega))
theorem n113 (J3:H30 ctx) (N7:H31 ctx) (Qx:AsV ctx) (o:Int) (ho:o=15\/o=16) (a b:Tr) (ha:size a<=1000) (hb:size b<=1000) (h:H) (hr:h.nx+8<=Bq):L8 ctx N 113 [.int .i64 o,A3 a,A3 b] 8 h (A3 (Kg o a b)):=by
 unfold L8;rw [A74]
 have hf1:size (fixed true)<=1000:=by rw [Ct];omega
 have hf2:size (fixed false)<=1000:=by rw [Ct];omega
 rcases ho with rfl|rfl
 . repeat' (first|with_reducible (first|apply Ee|apply Ef|apply Eg|apply Eh)|(with_reducible (first|apply Kv|apply Kw|apply Kx|apply K0);(conv=>lhs;simp (disch:=first|exact Ce|fail) [lc, *,J3,N7,Qx]);with_reducible (first|apply Ee|apply Ef|apply Eg|apply Eh|apply Ks|(refine Kt (by simp) ?_)|(apply Ku<;>intro hc)))|(with_reducible (first|apply K7|apply K8|apply K9|apply Ld)<;>intro hc))
   all_goals try rw [AkW]
   all_goals repeat' (first|with_reducible (first|apply Ee|apply Ef|apply Eg|apply Eh)|(with_reducible (first|apply Kv|apply Kw|apply Kx|apply K0);(conv=>lhs;simp (disch:=first|exact Ce|fail) [lc, *,Qx]);with_reducible (first|apply Ee|apply Ef|apply Eg|apply Eh|apply Ks|(refine Kt (by simp) ?_)|(apply Ku<;>intro hc)))|(with_reducible (first|apply K7|apply K8|apply K9|apply Ld)<;>intro hc))
   (all_goals with_reducible refine Sx.A0 ?_ ?_ ?_ ?_;all_goals first|exact G9|(simp only [decide_eq_true_eq,decide_eq_false_iff_not] at *;simp [*,Kg];done)|(simp_all [Kg];done)|(simp_all [Kg];omega))
 . repeat' (first|with_reducible (first|apply Ee|apply Ef|apply Eg|apply Eh)|(with_reducible (first|apply Kv|apply Kw|apply Kx|apply K0);(conv=>lhs;simp (disch:=first|exact Ce|fail) [lc, *,J3,N7,Qx]);with_reducible (first|apply Ee|apply Ef|apply Eg|apply Eh|apply Ks|(refine Kt (by simp) ?_)|(apply Ku<;>intro hc)))|(with_reducible (first|apply K7|apply K8|apply K9|apply Ld)<;>intro hc))
   all_goals try rw [AkW]
   all_goals repeat' (first|with_reducible (first|apply Ee|apply Ef|apply Eg|apply Eh)|(with_reducible (first|apply Kv|apply Kw|apply Kx|apply K0);(conv=>lhs;simp (disch:=first|exact Ce|fail) [lc, *,Qx]);with_reducible (first|apply Ee|apply Ef|apply Eg|apply Eh|apply Ks|(refine Kt (by simp) ?_)|(apply Ku<;>intro hc)))|(with_reducible (first|apply K7|apply K8|apply K9|apply Ld)<;>intro hc))
   (all_goals with_reducible refine Sx.A0 ?_ ?_ ?_ ?_;all_goals first|exact G9|(simp only [decide_eq_true_eq,decide_eq_false_iff_not] at *;simp [*,Kg];done)|(simp_all [Kg];done)|(simp_all [Kg];omega))
theorem n66 (J3:H30 ctx) (N7:H31 ctx) (a:Tr) (ha:size a<=1000) (h:H) (hr:h.nx+8<=Bq):L8 ctx N 66 [A3 a] 8 h (A3 (Jl a)):=by
 unfold L8;rw [e66]
 have hf1:size (fixed true)<=1000:=by rw [Ct];omega
 have hf2:size (fixed false)<=1000:=by rw [Ct];omega
 have h1:h.nx<Bq:=by omega
 cases hs:same a (fixed true) with
 |true=>
  repeat' (first|with_reducible (first|apply Ee|apply Ef|apply Eg|apply Eh)|(with_reducible (first|apply Kv|apply Kw|apply Kx|apply K0);(conv=>lhs;simp (disch:=first|exact Ce|fail) [lc, *,J3,N7,hs]);with_reducible (first|apply Ee|apply Ef|apply Eg|apply Eh|apply Ks|(refine Kt (by simp) ?_)|(apply Ku<;>intro hc)))|(with_reducible (first|apply K7|apply K8|apply K9|apply Ld)<;>intro hc))
  (all_goals with_reducible refine Sx.A0 ?_ ?_ ?_ ?_;all_goals first|exact G9|(simp only [decide_eq_true_eq,decide_eq_false_iff_not] at *;simp [*,Jl];done)|(simp_all [Jl];done)|(simp_all [Jl];omega))
 |false=>
  cases hs2:same a (fixed false) with
  |true=>
   repeat' (first|with_reducible (first|apply Ee|apply Ef|apply Eg|apply Eh)|(with_reducible (first|apply Kv|apply Kw|apply Kx|apply K0);(conv=>lhs;simp (disch:=first|exact Ce|fail) [lc, *,J3,N7,hs,hs2]);with_reducible (first|apply Ee|apply Ef|apply Eg|apply Eh|apply Ks|(refine Kt (by simp) ?_)|(apply Ku<;>intro hc)))|(with_reducible (first|apply K7|apply K8|apply K9|apply Ld)<;>intro hc))
   (all_goals with_reducible refine Sx.A0 ?_ ?_ ?_ ?_;all_goals first|exact G9|(simp only [decide_eq_true_eq,decide_eq_false_iff_not] at *;simp [*,Jl];done)|(simp_all [Jl];done)|(simp_all [Jl];omega))
  |false=>
   repeat' (first|with_reducible (first|apply Ee|apply Ef|apply Eg|apply Eh)|(with_reducible (first|apply Kv|apply Kw|apply Kx|apply K0);(conv=>lhs;simp (disch:=first|exact Ce|fail) [lc, *,J3,N7,hs,hs2]);with_reducible (first|apply Ee|apply Ef|apply Eg|apply Eh|apply Ks|(refine Kt (by simp) ?_)|(apply Ku<;>intro hc)))|(with_reducible (first|apply K7|apply K8|apply K9|apply Ld)<;>intro hc))
   cases a<;>simp only [A3]
   all_goals repeat' (first|with_reducible (first|apply Ee|apply Ef|apply Eg|apply Eh)|(with_reducible (first|apply Kv|apply Kw|apply Kx|apply K0);(conv=>lhs;simp (disch:=first|exact Ce|fail) [lc, *]);with_reducible (first|apply Ee|apply Ef|apply Eg|apply Eh|apply Ks|(refine Kt (by simp) ?_)|(apply Ku<;>intro hc)))|(with_reducible (first|apply K7|apply K8|apply K9|apply Ld)<;>intro hc))
   (all_goals with_reducible refine Sx.A0 ?_ ?_ ?_ ?_;all_goals first|exact G9|(simp only [decide_eq_true_eq,decide_eq_false_iff_not] at *;simp [*,Jl,A3];done)|(simp_all [Jl,A3];done)|(simp_all [Jl,A3];omega))
theorem tk3:tk Tryz.prog 3=.int:=by kernel_rfl
theorem kc3 (x:AV):Fe Tryz.prog 3 x=true:=Sx.Aka tk3 x
theorem ke3 (a b:Int):Gy Tryz.prog 3 (.int .i64 a) (.int .i64 b)=some (decide (a=b)):=Sx.Anm tk3 a b
abbrev Avc:Prop:=∀(o:Int) (a b:Tr) (h:H),9<=o/\o<=12->size a<=1000->size b<=1000->ctx.call 112 [.int .i64 o,A3 a,A3 b] h=.ok (A3 (Dg o a b)) h
theorem Awq (De:HOp ctx) (Qw:AoN ctx) (J3:H30 ctx) (N7:H31 ctx) (Qx:AsV ctx) (o:Int) (ho:o=9\/o=10\/o=11\/o=12) (a b:Tr) (ha:size a<=1000) (hb:size b<=1000) (h:H) (hr:h.nx+8<=Bq):
 L8 ctx N 112 [.int .i64 o,A3 a,A3 b] 8 h (A3 (Dg o a b)):=by
 unfold L8;rw [A2P]
 have h1:h.nx<Bq:=by omega
 cases hv:(value a).2<;>cases hu:(value b).2<;>rcases ho with rfl|rfl|rfl|rfl
 all_goals repeat' (first|with_reducible (first|apply Ee|apply Ef|apply Eg|apply Eh)|(with_reducible (first|apply Kv|apply Kw|apply Kx|apply K0);(conv=>lhs;simp (disch:=first|exact Ce|fail) [lc, *,Qw,J3,N7,Qx,De,hv,hu,kc3,ke3,Z7,M1]);with_reducible (first|apply Ee|apply Ef|apply Eg|apply Eh|apply Ks|(refine Kt (by simp) ?_)|(apply Ku<;>intro hc)))|(with_reducible (first|apply K7|apply K8|apply K9|apply Ld)<;>intro hc))
 (all_goals with_reducible refine Sx.A0 ?_ ?_ ?_ ?_;all_goals first|exact G9|(simp only [decide_eq_true_eq,decide_eq_false_iff_not] at *;simp [*,Dg,A3];done)|(simp_all [Dg,A3];done)|(simp_all [Dg,A3];omega))
theorem A4F (AmN:Avc ctx) (o:Int) (ho:o=13\/o=14) (a b:Tr) (ha:size a<=1000) (hb:size b<=1000) (h:H) (hr:h.nx+8<=Bq):L8 ctx N 112 [.int .i64 o,A3 a,A3 b] 8 h (A3 (Ek o a b)):=by
 unfold L8;rw [A2P]
 have h2:=λa b h=>AmN 11 a b h (by omega)
 have h3:=λa b h=>AmN 12 a b h (by omega)
 rcases ho with rfl|rfl
 . repeat' (first|with_reducible (first|apply Ee|apply Ef|apply Eg|apply Eh)|(with_reducible (first|apply Kv|apply Kw|apply Kx|apply K0);(conv=>lhs;simp (disch:=first|exact Ce|fail) [lc, *,h2,h3]);with_reducible (first|apply Ee|apply Ef|apply Eg|apply Eh|apply Ks|(refine Kt (by simp) ?_)|(apply Ku<;>intro hc)))|(with_reducible (first|apply K7|apply K8|apply K9|apply Ld)<;>intro hc))
   (all_goals with_reducible refine Sx.A0 ?_ ?_ ?_ ?_;all_goals first|exact G9|(simp only [decide_eq_true_eq,decide_eq_false_iff_not] at *;simp [*,Ek];done)|(simp_all [Ek];done)|(simp_all [Ek];omega))
 . repeat' (first|with_reducible (first|apply Ee|apply Ef|apply Eg|apply Eh)|(with_reducible (first|apply Kv|apply Kw|apply Kx|apply K0);(conv=>lhs;simp (disch:=first|exact Ce|fail) [lc, *,h2,h3]);with_reducible (first|apply Ee|apply Ef|apply Eg|apply Eh|apply Ks|(refine Kt (by simp) ?_)|(apply Ku<;>intro hc)))|(with_reducible (first|apply K7|apply K8|apply K9|apply Ld)<;>intro hc))
   (all_goals with_reducible refine Sx.A0 ?_ ?_ ?_ ?_;all_goals first|exact G9|(simp only [decide_eq_true_eq,decide_eq_false_iff_not] at *;simp [*,Ek];done)|(simp_all [Ek];done)|(simp_all [Ek];omega))
abbrev fnA (g:FuncId):AV:=.fn (.func g) [] []
def Of:List AV:=[.Iy,.Iy,.Iy,.Iy,fnA 111,fnA 111,fnA 111,.Iy,.Iy,fnA 112,fnA 112,fnA 112,fnA 112,fnA 112,fnA 112,fnA 113,fnA 113,.Iy]
theorem n67 (h:H) (hr:h.nx+8<=Bq):L8 ctx N 67 [] 8 h (.agg Of):=by
 unfold L8;rw [e67]
 have h1:h.nx<Bq:=by omega
 repeat' (first|with_reducible (first|apply Ee|apply Ef|apply Eg|apply Eh)|(with_reducible (first|apply Kv|apply Kw|apply Kx|apply K0);(conv=>lhs;simp (disch:=first|exact Ce|fail) [lc, *]);with_reducible (first|apply Ee|apply Ef|apply Eg|apply Eh|apply Ks|(refine Kt (by simp) ?_)|(apply Ku<;>intro hc)))|(with_reducible (first|apply K7|apply K8|apply K9|apply Ld)<;>intro hc))
 (all_goals with_reducible refine Sx.A0 ?_ ?_ ?_ ?_;all_goals first|exact G9|(simp only [decide_eq_true_eq,decide_eq_false_iff_not] at *;simp [*,Of];done)|(simp_all [Of];done)|(simp_all [Of];omega))
def Wf:Tr->Prop
 |.leaf _=>True
 |.one _ a=>Wf a
 |.two o a b=>((o=4\/o=5\/o=6)\/(o=9\/o=10\/o=11\/o=12\/o=13\/o=14)\/(o=15\/o=16))/\Wf a/\Wf b
 |.three c a b=>Wf c/\Wf a/\Wf b
abbrev H67:Prop:=∀(h:H),ctx.call 67 [] h=.ok (.agg Of) h
abbrev H29 (t:Tr):Prop:=∀(h:H),ctx.call 29 [A3 t] h=.ok (A3 (normal t)) h
theorem AqU:Ft Tryz.prog 112=some none:=by kernel_rfl
theorem A7c:Bg Tryz.prog 111=true:=by kernel_rfl
theorem A7d:Bg Tryz.prog 112=true:=by kernel_rfl
theorem A7e:Bg Tryz.prog 113=true:=by kernel_rfl
theorem Aup (x:Nd) (h:H) (hr:h.nx+8<=Bq):L8 ctx N 29 [A3 (.leaf x)] 8 h (A3 (normal (.leaf x))):=by
 rw [show A3 (.leaf x)=.I6 170 (.agg (Bw x)) from rfl]
 unfold L8;rw [e29]
 have hf1:size (fixed true)<=1000:=by rw [Ct];omega
 have hf2:size (fixed false)<=1000:=by rw [Ct];omega
 repeat' (first|with_reducible (first|apply Ee|apply Ef|apply Eg|apply Eh)|(with_reducible (first|apply Kv|apply Kw|apply Kx|apply K0);(conv=>lhs;simp (disch:=first|exact Ce|fail) [lc, *]);with_reducible (first|apply Ee|apply Ef|apply Eg|apply Eh|apply Ks|(refine Kt (by simp) ?_)|(apply Ku<;>intro hc)))|(with_reducible (first|apply K7|apply K8|apply K9|apply Ld)<;>intro hc))
 (all_goals with_reducible refine Sx.A0 ?_ ?_ ?_ ?_;all_goals first|exact G9|(simp only [decide_eq_true_eq,decide_eq_false_iff_not] at *;simp [*,normal,A3];done)|(simp_all [normal,A3];done)|(simp_all [normal,A3];omega))
theorem Azs (h65:H65 ctx) (h66:H66 ctx) (o:Int) (a:Tr) (hsa:size (normal a)<=1000) (ha:H29 ctx a) (h:H) (hr:h.nx+8<=Bq):L8 ctx N 29 [A3 (.one o a)] 8 h (A3 (normal (.one o a))):=by
 rw [show A3 (.one o a)=.I6 109 (.agg [.int .i64 o,A3 a]) from rfl]
 unfold L8;rw [e29]
 have hf1:size (fixed true)<=1000:=by rw [Ct];omega
 have hf2:size (fixed false)<=1000:=by rw [Ct];omega
 have h1:h.nx<Bq:=by omega
 repeat' (first|with_reducible (first|apply Ee|apply Ef|apply Eg|apply Eh)|(with_reducible (first|apply Kv|apply Kw|apply Kx|apply K0);(conv=>lhs;simp (disch:=first|exact Ce|fail) [lc, *,ha,h65,h66]);with_reducible (first|apply Ee|apply Ef|apply Eg|apply Eh|apply Ks|(refine Kt (by simp) ?_)|(apply Ku<;>intro hc)))|(with_reducible (first|apply K7|apply K8|apply K9|apply Ld)<;>intro hc))
 (all_goals with_reducible refine Sx.A0 ?_ ?_ ?_ ?_;all_goals first|exact G9|(simp only [decide_eq_true_eq,decide_eq_false_iff_not] at *;simp [*,normal];done)|(simp_all [normal];done)|(simp_all [normal];omega))
theorem Azt (h67:H67 ctx) (Aya:A1e ctx) (AmN:A1f ctx) (Ayb:A1g ctx) (o:Int) (a b:Tr) (hw:Wf (.two o a b)) (hsa:size (normal a)<=1000) (hsb:size (normal b)<=1000) (ha:H29 ctx a) (hb:H29 ctx b) (h:H) (hr:h.nx+8<=Bq):
 L8 ctx N 29 [A3 (.two o a b)] 8 h (A3 (normal (.two o a b))):=by
 rw [show A3 (.two o a b)=.I6 111 (.agg [.int .i64 o,A3 a,A3 b]) from rfl]
 unfold L8;rw [e29]
 have hf1:size (fixed true)<=1000:=by rw [Ct];omega
 have hf2:size (fixed false)<=1000:=by rw [Ct];omega
 have h1:h.nx<Bq:=by omega
 rcases hw.1 with ho|ho|ho
 . have A3g:=λa b h=>Aya o a b h ho
   rcases ho with rfl|rfl|rfl
   all_goals repeat' (first|with_reducible (first|apply Ee|apply Ef|apply Eg|apply Eh)|(with_reducible (first|apply Kv|apply Kw|apply Kx|apply K0);(conv=>lhs;simp (disch:=first|exact Ce|fail) [lc, *,h67,ha,hb,Of,AqU,A7c,A3g]);with_reducible (first|apply Ee|apply Ef|apply Eg|apply Eh|apply Ks|(refine Kt (by simp) ?_)|(apply Ku<;>intro hc)))|(with_reducible (first|apply K7|apply K8|apply K9|apply Ld)<;>intro hc))
   (all_goals with_reducible refine Sx.A0 ?_ ?_ ?_ ?_;all_goals first|exact G9|(simp only [decide_eq_true_eq,decide_eq_false_iff_not] at *;simp [*,normal,L0];done)|(simp_all [normal,L0];done)|(simp_all [normal,L0];omega))
 . have A3h:=λa b h=>AmN o a b h (by omega)
   rcases ho with rfl|rfl|rfl|rfl|rfl|rfl
   all_goals repeat' (first|with_reducible (first|apply Ee|apply Ef|apply Eg|apply Eh)|(with_reducible (first|apply Kv|apply Kw|apply Kx|apply K0);(conv=>lhs;simp (disch:=first|exact Ce|fail) [lc, *,h67,ha,hb,Of,AqU,A7d,A3h]);with_reducible (first|apply Ee|apply Ef|apply Eg|apply Eh|apply Ks|(refine Kt (by simp) ?_)|(apply Ku<;>intro hc)))|(with_reducible (first|apply K7|apply K8|apply K9|apply Ld)<;>intro hc))
   (all_goals with_reducible refine Sx.A0 ?_ ?_ ?_ ?_;all_goals first|exact G9|(simp only [decide_eq_true_eq,decide_eq_false_iff_not] at *;simp [*,normal,L0];done)|(simp_all [normal,L0];done)|(simp_all [normal,L0];omega))
 . have A3j:=λa b h=>Ayb o a b h ho
   rcases ho with rfl|rfl
   all_goals repeat' (first|with_reducible (first|apply Ee|apply Ef|apply Eg|apply Eh)|(with_reducible (first|apply Kv|apply Kw|apply Kx|apply K0);(conv=>lhs;simp (disch:=first|exact Ce|fail) [lc, *,h67,ha,hb,Of,AqU,A7e,A3j]);with_reducible (first|apply Ee|apply Ef|apply Eg|apply Eh|apply Ks|(refine Kt (by simp) ?_)|(apply Ku<;>intro hc)))|(with_reducible (first|apply K7|apply K8|apply K9|apply Ld)<;>intro hc))
   (all_goals with_reducible refine Sx.A0 ?_ ?_ ?_ ?_;all_goals first|exact G9|(simp only [decide_eq_true_eq,decide_eq_false_iff_not] at *;simp [*,normal,L0];done)|(simp_all [normal,L0];done)|(simp_all [normal,L0];omega))
theorem Arl (J3:H30 ctx) (N7:H31 ctx) (c a b:Tr) (hsc:size (normal c)<=1000) (hsa:size (normal a)<=1000) (hsb:size (normal b)<=1000) (hc:H29 ctx c) (ha:H29 ctx a) (hb:H29 ctx b) (h:H) (hr:h.nx+8<=Bq):L8 ctx N 29 [A3 (.three c a b)] 8 h (A3 (normal (.three c a b))):=by
 rw [show A3 (.three c a b)=.I6 116 (.agg [A3 c,A3 a,A3 b]) from rfl]
 unfold L8;rw [e29]
 have hf1:size (fixed true)<=1000:=by rw [Ct];omega
 have hf2:size (fixed false)<=1000:=by rw [Ct];omega
 have h1:h.nx<Bq:=by omega
 repeat' (first|with_reducible (first|apply Ee|apply Ef|apply Eg|apply Eh)|(with_reducible (first|apply Kv|apply Kw|apply Kx|apply K0);(conv=>lhs;simp (disch:=first|exact Ce|fail) [lc, *,J3,N7,ha,hb,hc]);with_reducible (first|apply Ee|apply Ef|apply Eg|apply Eh|apply Ks|(refine Kt (by simp) ?_)|(apply Ku<;>intro hc)))|(with_reducible (first|apply K7|apply K8|apply K9|apply Ld)<;>intro hc))
 all_goals try rw [AwO]
 all_goals repeat' (first|with_reducible (first|apply Ee|apply Ef|apply Eg|apply Eh)|(with_reducible (first|apply Kv|apply Kw|apply Kx|apply K0);(conv=>lhs;simp (disch:=first|exact Ce|fail) [lc, *,J3,N7]);with_reducible (first|apply Ee|apply Ef|apply Eg|apply Eh|apply Ks|(refine Kt (by simp) ?_)|(apply Ku<;>intro hc)))|(with_reducible (first|apply K7|apply K8|apply K9|apply Ld)<;>intro hc))
 (all_goals with_reducible refine Sx.A0 ?_ ?_ ?_ ?_;all_goals first|exact G9|(simp only [decide_eq_true_eq,decide_eq_false_iff_not] at *;simp [*,normal,three,A3];done)|(simp_all [normal,three,A3];done)|(simp_all [normal,three,A3];omega))
end Go.Proofs
