/- The table of what package norm's functions come to, so far as package norm's comparing goes. -/
import Derived.Test.YtecikbfimlolcaaGreatDoorEvQa
import Derived.Test.YtecikbfimlolcaaGreatDoorEvQb
set_option linter.all false
set_option maxRecDepth 100000
noncomputable section
namespace Go.Proofs
open Go Go.Ev Go.Nm Tryz Go.Ev.Sx
attribute [local irreducible] Aa Al Af Ad
variable (ctx:Ac) (N:Nat)
abbrev L8 (g:FuncId) (args:List AV) (n:Nat) (h:H) (u:AV):Prop:=Sx.Comes (Ay prog ctx N true g args h) (Sx.Out n h u)
theorem An4 {a b:Int} (ha:-1000000000<=a/\a<=1000000000) (hb:-1000000000<=b/\b<=1000000000):-1000000000000000000<=a * b/\a * b<=1000000000000000000:=by
 have h1:a.natAbs<=1000000000:=by omega
 have h2:b.natAbs<=1000000000:=by omega
 have h3:(a * b).natAbs<=1000000000 * 1000000000:=by rw [Int.natAbs_mul];exact Nat.mul_le_mul h1 h2
 omega
theorem A9D (o:Int) (x:AV) (h:H) (hr:h.nx+8<=Bq):L8 ctx N 350 [.agg [.int .i64 o,x]] 8 h (.int .i64 o):=by
 unfold L8;rw [A7J]
 have h1:h.nx<Bq:=by omega
 refine yk ?_
 (all_goals with_reducible refine A0 ?_ ?_ ?_ ?_;all_goals exact Afw)
theorem A9G (o:Int) (x y:AV) (h:H) (hr:h.nx+8<=Bq):L8 ctx N 353 [.agg [.int .i64 o,x,y]] 8 h (.int .i64 o):=by
 unfold L8;rw [A7M]
 have h1:h.nx<Bq:=by omega
 refine yk ?_
 (all_goals with_reducible refine A0 ?_ ?_ ?_ ?_;all_goals exact Afw)
theorem A9I (x y z:AV) (h:H) (hr:h.nx+8<=Bq):L8 ctx N 355 [.agg [x,y,z]] 8 h (.int .i64 8):=by
 unfold L8;rw [A7O]
 have h1:h.nx<Bq:=by omega
 refine yk ?_
 (all_goals with_reducible refine A0 ?_ ?_ ?_ ?_;all_goals exact Afw)
theorem A9K (x:Nd) (h:H) (hr:h.nx+8<=Bq):L8 ctx N 357 [.agg (Bw x)] 8 h (.int .i64 x.op):=by
 unfold L8;rw [A7Q]
 have h1:h.nx<Bq:=by omega
 refine yk ?_
 (all_goals with_reducible refine A0 ?_ ?_ ?_ ?_;all_goals exact Afw)
theorem Ark (x:Nd) (h:H) (hr:h.nx+8<=Bq):L8 ctx N 109 [A3 (.leaf x)] 8 h (.Bj [.int .i64 (value (.leaf x)).1,.bool (value (.leaf x)).2]):=by
 unfold L8;rw [Atr]
 have h1:h.nx<Bq:=by omega
 unfold A3
 (repeat' (first|refine yk ?_|(with_reducible (first|apply K7|apply K8|apply K9|apply Ld|apply Ku)<;>intro hc<;>(try simp only [Bt] at hc)<;>(try (exfalso;omega)))))
 (all_goals with_reducible refine A0 ?_ ?_ ?_ ?_;all_goals first|exact G9|(simp only [decide_eq_true_eq,decide_eq_false_iff_not] at *;simp [*,value];done)|(simp_all [value];done)|(simp_all [value];omega))
abbrev HOp:Prop:=∀(t:Tr) (h:H),Hn prog ctx (A3 t) (mnm prog 109 1) [] h=.ok (.int .i64 t.op) h
abbrev AoN:Prop:=∀(t:Tr) (h:H),ctx.call 109 [A3 t] h=.ok (.Bj [.int .i64 (value t).1,.bool (value t).2]) h
abbrev H69:Prop:=∀(n:Int) (h:H),ctx.call 69 [.int .i64 n] h=.ok (A3 (num n)) h
abbrev AwD:Prop:=∀(n:Int) (h:H),-9223372036854775808<n->n<=9223372036854775807->ctx.call 110 [.int .i64 n] h=.ok (Yy (constant n)) h
abbrev A1m:Prop:=∀(o:Int) (a b:Tr) (h:H),o=4\/o=5\/o=6->ctx.call 174 [.int .i64 o,A3 a,A3 b] h=.ok (Yy (arith o a b)) h
abbrev A1n:Prop:=∀(t:Tr) (n:Int) (h:H),ctx.call 175 [A3 t,.int .i64 n] h=.ok (.bool (isV t n)) h
abbrev H65:Prop:=∀(t:Tr) (h:H),ctx.call 65 [A3 t] h=.ok (A3 (neg t)) h
abbrev H66:Prop:=∀(t:Tr) (h:H),size t<=1000->ctx.call 66 [A3 t] h=.ok (A3 (Jl t)) h
abbrev H68:Prop:=∀(a b:Tr) (h:H),size a<=1000->size b<=1000->ctx.call 68 [A3 a,A3 b] h=.ok (.int .i64 (compare a b)) h
abbrev H30:Prop:=∀(a b:Tr) (h:H),size a<=1000->size b<=1000->ctx.call 30 [A3 a,A3 b] h=.ok (.bool (same a b)) h
abbrev H31:Prop:=∀(b:Bool) (h:H),ctx.call 31 [.bool b] h=.ok (A3 (fixed b)) h
abbrev AsV:Prop:=∀(o:Int) (a b:Tr) (h:H),size a<=1000->size b<=1000->ctx.call 176 [.int .i64 o,A3 a,A3 b] h=.ok (A3 (ordered o a b)) h
abbrev A1e:Prop:=∀(o:Int) (a b:Tr) (h:H),o=4\/o=5\/o=6->size a<=1000->size b<=1000->ctx.call 111 [.int .i64 o,A3 a,A3 b] h=.ok (A3 (Mw o a b)) h
abbrev A1f:Prop:=∀(o:Int) (a b:Tr) (h:H),9<=o/\o<=14->size a<=1000->size b<=1000->ctx.call 112 [.int .i64 o,A3 a,A3 b] h=.ok (A3 (Ek o a b)) h
abbrev A1g:Prop:=∀(o:Int) (a b:Tr) (h:H),o=15\/o=16->size a<=1000->size b<=1000->ctx.call 113 [.int .i64 o,A3 a,A3 b] h=.ok (A3 (Kg o a b)) h
theorem Aun (o:Int) (a:Tr) (De:HOp ctx) (Rx:∀h,ctx.call 109 [A3 a] h=.ok (.Bj [.int .i64 (value a).1,.bool (value a).2]) h) (h:H) (hr:h.nx+8<=Bq):
 L8 ctx N 109 [A3 (.one o a)] 8 h (.Bj [.int .i64 (value (.one o a)).1,.bool (value (.one o a)).2]):=by
 rw [show A3 (.one o a)=.I6 109 (.agg [.int .i64 o,A3 a]) from rfl]
 unfold L8;rw [Atr]
 have h1:h.nx<Bq:=by omega
 cases hv:(value a).2 with
 |false=>
  rw [hv] at Rx
  (have zz0:=@De;refine yk ?_)
  (all_goals with_reducible refine A0 ?_ ?_ ?_ ?_;all_goals first|exact G9|(simp only [decide_eq_true_eq,decide_eq_false_iff_not] at *;simp [*,value];done)|(simp_all [value];done)|(simp_all [value];omega))
 |true=>
  rw [hv] at Rx
  have hb:=Jx a hv
  have hw:E1 .i64 (-(value a).1)=-(value a).1:=by rw [Cr]<;>omega
  repeat' (first|with_reducible (first|apply Ee|apply Ef|apply Eg|apply Eh)|(with_reducible (first|apply Kv|apply Kw|apply Kx|apply K0);(conv=>lhs;simp (disch:=first|exact Ce|fail) [lc, *,De,Rx]);with_reducible (first|apply Ee|apply Ef|apply Eg|apply Eh|apply Ks|(refine Kt (by simp) ?_)|(apply Ku<;>intro hc)))|(with_reducible (first|apply K7|apply K8|apply K9|apply Ld)<;>intro hc))
  (all_goals with_reducible refine A0 ?_ ?_ ?_ ?_;all_goals first|exact G9|(simp only [decide_eq_true_eq,decide_eq_false_iff_not] at *;simp [*,value];done)|(simp_all [value];done)|(simp_all [value];omega))
theorem Auo (o:Int) (a b:Tr) (h:H) (hr:h.nx+8<=Bq):L8 ctx N 109 [A3 (.two o a b)] 8 h (.Bj [.int .i64 0,.bool false]):=by
 rw [show A3 (.two o a b)=.I6 111 (.agg [.int .i64 o,A3 a,A3 b]) from rfl]
 unfold L8;rw [Atr]
 have h1:h.nx<Bq:=by omega
 refine yk ?_
 (all_goals with_reducible refine A0 ?_ ?_ ?_ ?_;all_goals exact Afw)
theorem An5 (c a b:Tr) (h:H) (hr:h.nx+8<=Bq):L8 ctx N 109 [A3 (.three c a b)] 8 h (.Bj [.int .i64 0,.bool false]):=by
 rw [show A3 (.three c a b)=.I6 116 (.agg [A3 c,A3 a,A3 b]) from rfl]
 unfold L8;rw [Atr]
 have h1:h.nx<Bq:=by omega
 refine yk ?_
 (all_goals with_reducible refine A0 ?_ ?_ ?_ ?_;all_goals exact Afw)
theorem n69 (n:Int) (h:H) (hr:h.nx+8<=Bq):L8 ctx N 69 [.int .i64 n] 8 h (A3 (num n)):=by
 unfold L8;rw [e69]
 refine yk ?_
 (all_goals with_reducible refine A0 ?_ ?_ ?_ ?_;all_goals first|exact G9|(simp only [decide_eq_true_eq,decide_eq_false_iff_not] at *;simp [*,A3,num];done)|(simp_all [A3,num];done)|(simp_all [A3,num];omega))
theorem n64 (De:HOp ctx) (t:Tr) (h:H) (hr:h.nx+8<=Bq):L8 ctx N 64 [A3 t] 8 h (.bool (decide (9<=t.op))):=by
 unfold L8;rw [e64]
 (have zz0:=@De;refine yk ?_)
 (all_goals with_reducible refine A0 ?_ ?_ ?_ ?_;all_goals exact Afw)
theorem n31 (h69:H69 ctx) (b:Bool) (h:H) (hr:h.nx+8<=Bq):L8 ctx N 31 [.bool b] 8 h (A3 (fixed b)):=by
 unfold L8;rw [e31]
 (have zz0:=@h69;repeat' (first|refine yk ?_|(with_reducible (first|apply K7|apply K8|apply K9|apply Ld|apply Ku)<;>intro hc<;>(try simp only [Bt] at hc)<;>(try (exfalso;omega)))))
 (all_goals with_reducible refine A0 ?_ ?_ ?_ ?_;all_goals first|exact G9|(simp only [decide_eq_true_eq,decide_eq_false_iff_not] at *;simp [*,A3,fixed];done)|(simp_all [A3,fixed];done)|(simp_all [A3,fixed];omega))
theorem n30 (h68:H68 ctx) (a b:Tr) (ha:size a<=1000) (hb:size b<=1000) (h:H) (hr:h.nx+8<=Bq):L8 ctx N 30 [A3 a,A3 b] 8 h (.bool (same a b)):=by
 unfold L8;rw [e30]
 (have zz0:=@h68;refine yk ?_)
 (all_goals with_reducible refine A0 ?_ ?_ ?_ ?_;all_goals first|exact G9|(simp only [decide_eq_true_eq,decide_eq_false_iff_not] at *;simp [*,same];done)|(simp_all [same];done)|(simp_all [same];omega))
theorem n176 (h68:H68 ctx) (o:Int) (a b:Tr) (ha:size a<=1000) (hb:size b<=1000) (h:H) (hr:h.nx+8<=Bq):L8 ctx N 176 [.int .i64 o,A3 a,A3 b] 8 h (A3 (ordered o a b)):=by
 unfold L8;rw [A7E]
 repeat' (first|with_reducible (first|apply Ee|apply Ef|apply Eg|apply Eh)|(with_reducible (first|apply Kv|apply Kw|apply Kx|apply K0);(conv=>lhs;simp (disch:=first|exact Ce|fail) [lc, *,h68]);with_reducible (first|apply Ee|apply Ef|apply Eg|apply Eh|apply Ks|(refine Kt (by simp) ?_)|(apply Ku<;>intro hc)))|(with_reducible (first|apply K7|apply K8|apply K9|apply Ld)<;>intro hc))
 (all_goals with_reducible refine A0 ?_ ?_ ?_ ?_;all_goals first|exact G9|(simp only [decide_eq_true_eq,decide_eq_false_iff_not] at *;simp [*,ordered,A3];done)|(simp_all [ordered,A3];done)|(simp_all [ordered,A3];omega))
theorem n175 (Qw:AoN ctx) (t:Tr) (n:Int) (h:H) (hr:h.nx+8<=Bq):L8 ctx N 175 [A3 t,.int .i64 n] 8 h (.bool (isV t n)):=by
 unfold L8;rw [A7D]
 (have zz0:=@Qw;repeat' (first|refine yk ?_|(with_reducible (first|apply K7|apply K8|apply K9|apply Ld|apply Ku)<;>intro hc<;>(try simp only [Bt] at hc)<;>(try (exfalso;omega)))))
 (all_goals with_reducible refine A0 ?_ ?_ ?_ ?_;all_goals first|exact G9|(simp only [decide_eq_true_eq,decide_eq_false_iff_not] at *;simp [*,isV];done)|(simp_all [isV];done)|(simp_all [isV];omega))
theorem n110 (h69:H69 ctx) (n:Int) (h1:-9223372036854775808<n) (h2:n<=9223372036854775807) (h:H) (hr:h.nx+8<=Bq):L8 ctx N 110 [.int .i64 n] 8 h (Yy (constant n)):=by
 have hw:E1 .i64 (-n)=-n:=by rw [Cr]<;>omega
 unfold L8;rw [A72]
 repeat' (first|with_reducible (first|apply Ee|apply Ef|apply Eg|apply Eh)|(with_reducible (first|apply Kv|apply Kw|apply Kx|apply K0);(conv=>lhs;simp (disch:=first|exact Ce|fail) [lc, *,h69]);with_reducible (first|apply Ee|apply Ef|apply Eg|apply Eh|apply Ks|(refine Kt (by simp) ?_)|(apply Ku<;>intro hc)))|(with_reducible (first|apply K7|apply K8|apply K9|apply Ld)<;>intro hc))
 (all_goals with_reducible refine A0 ?_ ?_ ?_ ?_;all_goals first|exact G9|(simp only [decide_eq_true_eq,decide_eq_false_iff_not] at *;simp [*,constant,D9,A3];done)|(simp_all [constant,D9,A3];done)|(simp_all [constant,D9,A3];omega))
theorem n174 (Qw:AoN ctx) (Ah7:AwD ctx) (o:Int) (ho:o=4\/o=5\/o=6) (a b:Tr) (h:H) (hr:h.nx+8<=Bq):L8 ctx N 174 [.int .i64 o,A3 a,A3 b] 8 h (Yy (arith o a b)):=by
 unfold L8;rw [A7C]
 cases hv:(value a).2 with
 |false=>
  (have zz0:=@Qw;refine yk ?_)
  (all_goals with_reducible refine A0 ?_ ?_ ?_ ?_;all_goals first|exact G9|(simp only [decide_eq_true_eq,decide_eq_false_iff_not] at *;simp [*,arith,D9];done)|(simp_all [arith,D9];done)|(simp_all [arith,D9];omega))
 |true=>
  have hb:=Jx a hv
  cases hu:(value b).2 with
  |false=>
   (have zz0:=@Qw;refine yk ?_)
   (all_goals with_reducible refine A0 ?_ ?_ ?_ ?_;all_goals first|exact G9|(simp only [decide_eq_true_eq,decide_eq_false_iff_not] at *;simp [*,arith,D9];done)|(simp_all [arith,D9];done)|(simp_all [arith,D9];omega))
  |true=>
   have hc:=Jx b hu
   have hw1:E1 .i64 ((value a).1+(value b).1)=(value a).1+(value b).1:=by rw [Cr]<;>omega
   have hw2:E1 .i64 ((value a).1 - (value b).1)=(value a).1 - (value b).1:=by rw [Cr]<;>omega
   have hm:-1000000000000000000<=(value a).1 * (value b).1/\(value a).1 * (value b).1<=1000000000000000000:=An4 hb hc
   have hw3:E1 .i64 ((value a).1 * (value b).1)=(value a).1 * (value b).1:=by rw [Cr]<;>omega
   rcases ho with rfl|rfl|rfl
   . have AaE:=λh=>Ah7 ((value a).1+(value b).1) h om om
     (have zz0:=@Qw;refine yk ?_)
     (all_goals with_reducible refine A0 ?_ ?_ ?_ ?_;all_goals first|exact G9|(simp only [decide_eq_true_eq,decide_eq_false_iff_not] at *;simp [*,arith,D9];done)|(simp_all [arith,D9];done)|(simp_all [arith,D9];omega))
   . have AaE:=λh=>Ah7 ((value a).1 - (value b).1) h om om
     (have zz0:=@Qw;refine yk ?_)
     (all_goals with_reducible refine A0 ?_ ?_ ?_ ?_;all_goals first|exact G9|(simp only [decide_eq_true_eq,decide_eq_false_iff_not] at *;simp [*,arith,D9];done)|(simp_all [arith,D9];done)|(simp_all [arith,D9];omega))
   . have AaE:=λh=>Ah7 ((value a).1 * (value b).1) h om om
     (have zz0:=@Qw;refine yk ?_)
     (all_goals with_reducible refine A0 ?_ ?_ ?_ ?_;all_goals first|exact G9|(simp only [decide_eq_true_eq,decide_eq_false_iff_not] at *;simp [*,arith,D9];done)|(simp_all [arith,D9];done)|(simp_all [arith,D9];omega))
def Arp (a:Tr):Tr:=
 match a with
 |.one o x=>if o=7 then x else .one 7 a
 |_=>.one 7 a
theorem Arq {a:Tr} (hn:(if (value a).2 then constant (-(value a).1) else none)=none):neg a=Arp a:=by
 unfold neg Arp
 rw [hn]
 rfl
theorem A4I (a:Tr) (f0:L2) (hn:(if (value a).2 then constant (-(value a).1) else none)=none) (h:H) (hr:h.nx+8<=Bq):Sx.Comes (Alb ctx N (A3 a) f0 h) (Sx.Out 8 h (A3 (neg a))):=by
 rw [AwX,Arq hn]
 have h1:h.nx<Bq:=by omega
 cases a<;>simp only [A3]
 all_goals (repeat' (first|refine yk ?_|(with_reducible (first|apply K7|apply K8|apply K9|apply Ld|apply Ku)<;>intro hc<;>(try simp only [Bt] at hc)<;>(try (exfalso;omega)))))
 (all_goals with_reducible refine A0 ?_ ?_ ?_ ?_;all_goals first|exact G9|(simp only [decide_eq_true_eq,decide_eq_false_iff_not] at *;simp [*,A3,Arp];done)|(simp_all [A3,Arp];done)|(simp_all [A3,Arp];omega))
theorem n65 (Qw:AoN ctx) (Ah7:AwD ctx) (a:Tr) (h:H) (hr:h.nx+8<=Bq):L8 ctx N 65 [A3 a] 8 h (A3 (neg a)):=by
 unfold L8;rw [e65]
 have h1:h.nx<Bq:=by omega
 cases hv:(value a).2 with
 |false=>
  (have zz0:=@Qw;refine yk ?_)
  exact A4I ctx N a _ (by rw [hv];rfl) h hr
 |true=>
  have hb:=Jx a hv
  have hw:E1 .i64 (-(value a).1)=-(value a).1:=by rw [Cr]<;>omega
  have AaE:=λh=>Ah7 (-(value a).1) h om om
  cases hk:constant (-(value a).1) with
  |none=>
   (have zz0:=@Qw;refine yk ?_)
   exact A4I ctx N a _ (by rw [hv,hk];rfl) h hr
  |some t=>
   (have zz0:=@Qw;refine yk ?_)
   (all_goals with_reducible refine A0 ?_ ?_ ?_ ?_;all_goals first|exact G9|(simp only [decide_eq_true_eq,decide_eq_false_iff_not] at *;simp [*,neg,D9];done)|(simp_all [neg,D9];done)|(simp_all [neg,D9];omega))
theorem n111 (J3:H30 ctx) (h65:H65 ctx) (h69:H69 ctx) (AmO:A1m ctx) (Af2:A1n ctx) (Qx:AsV ctx) (o:Int) (ho:o=4\/o=5\/o=6) (a b:Tr) (ha:size a<=1000) (hb:size b<=1000) (h:H) (hr:h.nx+8<=Bq):
 L8 ctx N 111 [.int .i64 o,A3 a,A3 b] 8 h (A3 (Mw o a b)):=by
 unfold L8;rw [A73]
 cases hk:arith o a b with
 |some t=>
  (have zz0:=@AmO;refine yk ?_)
  (all_goals with_reducible refine A0 ?_ ?_ ?_ ?_;all_goals first|exact G9|(simp only [decide_eq_true_eq,decide_eq_false_iff_not] at *;simp [*,Mw,D9];done)|(simp_all [Mw,D9];done)|(simp_all [Mw,D9];omega))
 |none=>
  rcases ho with rfl|rfl|rfl
  . (have zz0:=@AmO;have zz1:=@Af2;have zz2:=@J3;have zz3:=@h65;have zz4:=@h69;have zz5:=@Qx;repeat' (first|refine yk ?_|(with_reducible (first|apply K7|apply K8|apply K9|apply Ld|apply Ku)<;>intro hc<;>(try simp only [Bt] at hc)<;>(try (exfalso;omega)))))
    all_goals rw [AkU]
    all_goals repeat' (first|with_reducible (first|apply Ee|apply Ef|apply Eg|apply Eh)|(with_reducible (first|apply Kv|apply Kw|apply Kx|apply K0);(conv=>lhs;simp (disch:=first|exact Ce|fail) [lc, *,Af2,Qx]);with_reducible (first|apply Ee|apply Ef|apply Eg|apply Eh|apply Ks|(refine Kt (by simp) ?_)|(apply Ku<;>intro hc)))|(with_reducible (first|apply K7|apply K8|apply K9|apply Ld)<;>intro hc))
    all_goals try rw [AkV]
    all_goals repeat' (first|with_reducible (first|apply Ee|apply Ef|apply Eg|apply Eh)|(with_reducible (first|apply Kv|apply Kw|apply Kx|apply K0);(conv=>lhs;simp (disch:=first|exact Ce|fail) [lc, *,Af2,Qx,h69]);with_reducible (first|apply Ee|apply Ef|apply Eg|apply Eh|apply Ks|(refine Kt (by simp) ?_)|(apply Ku<;>intro hc)))|(with_reducible (first|apply K7|apply K8|apply K9|apply Ld)<;>intro hc))
    (all_goals with_reducible refine A0 ?_ ?_ ?_ ?_;all_goals first|exact G9|(simp only [decide_eq_true_eq,decide_eq_false_iff_not] at *;simp [*,Mw,D9];done)|(simp_all [Mw,D9];done)|(simp_all [Mw,D9];omega))
  . (have zz0:=@AmO;have zz1:=@Af2;have zz2:=@J3;have zz3:=@h65;have zz4:=@h69;have zz5:=@Qx;repeat' (first|refine yk ?_|(with_reducible (first|apply K7|apply K8|apply K9|apply Ld|apply Ku)<;>intro hc<;>(try simp only [Bt] at hc)<;>(try (exfalso;omega)))))
    (all_goals with_reducible refine A0 ?_ ?_ ?_ ?_;all_goals first|exact G9|(simp only [decide_eq_true_eq,decide_eq_false_iff_not] at *;simp [*,Mw,D9,A3];done)|(simp_all [Mw,D9,A3];done)|(simp_all [Mw,D9,A3];omega))
  . (have zz0:=@AmO;have zz1:=@Af2;have zz2:=@J3;have zz3:=@h65;have zz4:=@h69;have zz5:=@Qx;refine yk ?_)
    all_goals rw [AkU]
    all_goals (have zz0:=@Af2;have zz1:=@Qx;repeat' (first|refine yk ?_|(with_reducible (first|apply K7|apply K8|apply K9|apply Ld|apply Ku)<;>intro hc<;>(try simp only [Bt] at hc)<;>(try (exfalso;omega)))))
    all_goals try rw [AkV]
    all_goals (have zz0:=@Af2;have zz1:=@Qx;have zz2:=@h69;repeat' (first|refine yk ?_|(with_reducible (first|apply K7|apply K8|apply K9|apply Ld|apply Ku)<;>intro hc<;>(try simp only [Bt] at hc)<;>(try (exfalso;omega)))))
    (all_goals with_reducible refine A0 ?_ ?_ ?_ ?_;all_goals first|exact G9|(simp only [decide_eq_true_eq,decide_eq_false_iff_not] at *;simp [*,Mw,D9];done)|(simp_all [Mw,D9];done)|(simp_all [Mw,D9];omega))
theorem n113 (J3:H30 ctx) (N7:H31 ctx) (Qx:AsV ctx) (o:Int) (ho:o=15\/o=16) (a b:Tr) (ha:size a<=1000) (hb:size b<=1000) (h:H) (hr:h.nx+8<=Bq):L8 ctx N 113 [.int .i64 o,A3 a,A3 b] 8 h (A3 (Kg o a b)):=by
 unfold L8;rw [A74]
 have hf1:size (fixed true)<=1000:=by rw [Ct];omega
 have hf2:size (fixed false)<=1000:=by rw [Ct];omega
 rcases ho with rfl|rfl
 . (have zz0:=@J3;have zz1:=@N7;have zz2:=@Qx;repeat' (first|refine yk ?_|(with_reducible (first|apply K7|apply K8|apply K9|apply Ld|apply Ku)<;>intro hc<;>(try simp only [Bt] at hc)<;>(try (exfalso;omega)))))
   all_goals try rw [AkW]
   all_goals repeat' (first|with_reducible (first|apply Ee|apply Ef|apply Eg|apply Eh)|(with_reducible (first|apply Kv|apply Kw|apply Kx|apply K0);(conv=>lhs;simp (disch:=first|exact Ce|fail) [lc, *,Qx]);with_reducible (first|apply Ee|apply Ef|apply Eg|apply Eh|apply Ks|(refine Kt (by simp) ?_)|(apply Ku<;>intro hc)))|(with_reducible (first|apply K7|apply K8|apply K9|apply Ld)<;>intro hc))
   (all_goals with_reducible refine A0 ?_ ?_ ?_ ?_;all_goals first|exact G9|(simp only [decide_eq_true_eq,decide_eq_false_iff_not] at *;simp [*,Kg];done)|(simp_all [Kg];done)|(simp_all [Kg];omega))
 . (have zz0:=@J3;have zz1:=@N7;have zz2:=@Qx;repeat' (first|refine yk ?_|(with_reducible (first|apply K7|apply K8|apply K9|apply Ld|apply Ku)<;>intro hc<;>(try simp only [Bt] at hc)<;>(try (exfalso;omega)))))
   all_goals try rw [AkW]
   all_goals repeat' (first|with_reducible (first|apply Ee|apply Ef|apply Eg|apply Eh)|(with_reducible (first|apply Kv|apply Kw|apply Kx|apply K0);(conv=>lhs;simp (disch:=first|exact Ce|fail) [lc, *,Qx]);with_reducible (first|apply Ee|apply Ef|apply Eg|apply Eh|apply Ks|(refine Kt (by simp) ?_)|(apply Ku<;>intro hc)))|(with_reducible (first|apply K7|apply K8|apply K9|apply Ld)<;>intro hc))
   (all_goals with_reducible refine A0 ?_ ?_ ?_ ?_;all_goals first|exact G9|(simp only [decide_eq_true_eq,decide_eq_false_iff_not] at *;simp [*,Kg];done)|(simp_all [Kg];done)|(simp_all [Kg];omega))
theorem n66 (J3:H30 ctx) (N7:H31 ctx) (a:Tr) (ha:size a<=1000) (h:H) (hr:h.nx+8<=Bq):L8 ctx N 66 [A3 a] 8 h (A3 (Jl a)):=by
 unfold L8;rw [e66]
 have hf1:size (fixed true)<=1000:=by rw [Ct];omega
 have hf2:size (fixed false)<=1000:=by rw [Ct];omega
 have h1:h.nx<Bq:=by omega
 cases hs:same a (fixed true) with
 |true=>
  (have zz0:=@J3;have zz1:=@N7;refine yk ?_)
  (all_goals with_reducible refine A0 ?_ ?_ ?_ ?_;all_goals first|exact G9|(simp only [decide_eq_true_eq,decide_eq_false_iff_not] at *;simp [*,Jl];done)|(simp_all [Jl];done)|(simp_all [Jl];omega))
 |false=>
  cases hs2:same a (fixed false) with
  |true=>
   (have zz0:=@J3;have zz1:=@N7;refine yk ?_)
   (all_goals with_reducible refine A0 ?_ ?_ ?_ ?_;all_goals first|exact G9|(simp only [decide_eq_true_eq,decide_eq_false_iff_not] at *;simp [*,Jl];done)|(simp_all [Jl];done)|(simp_all [Jl];omega))
  |false=>
   (have zz0:=@J3;have zz1:=@N7;refine yk ?_)
   cases a<;>simp only [A3]
   all_goals (repeat' (first|refine yk ?_|(with_reducible (first|apply K7|apply K8|apply K9|apply Ld|apply Ku)<;>intro hc<;>(try simp only [Bt] at hc)<;>(try (exfalso;omega)))))
   (all_goals with_reducible refine A0 ?_ ?_ ?_ ?_;all_goals first|exact G9|(simp only [decide_eq_true_eq,decide_eq_false_iff_not] at *;simp [*,Jl,A3];done)|(simp_all [Jl,A3];done)|(simp_all [Jl,A3];omega))
theorem tk3:tk prog 3=.int:=by kernel_rfl
theorem kc3 (x:AV):Fe prog 3 x=true:=Aka tk3 x
theorem ke3 (a b:Int):Gy prog 3 (.int .i64 a) (.int .i64 b)=some (decide (a=b)):=Anm tk3 a b
abbrev Avc:Prop:=∀(o:Int) (a b:Tr) (h:H),9<=o/\o<=12->size a<=1000->size b<=1000->ctx.call 112 [.int .i64 o,A3 a,A3 b] h=.ok (A3 (Dg o a b)) h
theorem Awq (De:HOp ctx) (Qw:AoN ctx) (J3:H30 ctx) (N7:H31 ctx) (Qx:AsV ctx) (o:Int) (ho:o=9\/o=10\/o=11\/o=12) (a b:Tr) (ha:size a<=1000) (hb:size b<=1000) (h:H) (hr:h.nx+8<=Bq):
 L8 ctx N 112 [.int .i64 o,A3 a,A3 b] 8 h (A3 (Dg o a b)):=by
 unfold L8;rw [A2P]
 have h1:h.nx<Bq:=by omega
 cases hv:(value a).2<;>cases hu:(value b).2<;>rcases ho with rfl|rfl|rfl|rfl
 all_goals repeat' (first|with_reducible (first|apply Ee|apply Ef|apply Eg|apply Eh)|(with_reducible (first|apply Kv|apply Kw|apply Kx|apply K0);(conv=>lhs;simp (disch:=first|exact Ce|fail) [lc, *,Qw,J3,N7,Qx,De,hv,hu,kc3,ke3,Z7,M1]);with_reducible (first|apply Ee|apply Ef|apply Eg|apply Eh|apply Ks|(refine Kt (by simp) ?_)|(apply Ku<;>intro hc)))|(with_reducible (first|apply K7|apply K8|apply K9|apply Ld)<;>intro hc))
 (all_goals with_reducible refine A0 ?_ ?_ ?_ ?_;all_goals first|exact G9|(simp only [decide_eq_true_eq,decide_eq_false_iff_not] at *;simp [*,Dg,A3];done)|(simp_all [Dg,A3];done)|(simp_all [Dg,A3];omega))
theorem A4F (AmN:Avc ctx) (o:Int) (ho:o=13\/o=14) (a b:Tr) (ha:size a<=1000) (hb:size b<=1000) (h:H) (hr:h.nx+8<=Bq):L8 ctx N 112 [.int .i64 o,A3 a,A3 b] 8 h (A3 (Ek o a b)):=by
 unfold L8;rw [A2P]
 have h2:=λa b h=>AmN 11 a b h om
 have h3:=λa b h=>AmN 12 a b h om
 rcases ho with rfl|rfl
 . refine yk ?_
   (all_goals with_reducible refine A0 ?_ ?_ ?_ ?_;all_goals first|exact G9|(simp only [decide_eq_true_eq,decide_eq_false_iff_not] at *;simp [*,Ek];done)|(simp_all [Ek];done)|(simp_all [Ek];omega))
 . refine yk ?_
   (all_goals with_reducible refine A0 ?_ ?_ ?_ ?_;all_goals first|exact G9|(simp only [decide_eq_true_eq,decide_eq_false_iff_not] at *;simp [*,Ek];done)|(simp_all [Ek];done)|(simp_all [Ek];omega))
abbrev fnA (g:FuncId):AV:=.fn (.func g) [] []
def Of:List AV:=[.Iy,.Iy,.Iy,.Iy,fnA 111,fnA 111,fnA 111,.Iy,.Iy,fnA 112,fnA 112,fnA 112,fnA 112,fnA 112,fnA 112,fnA 113,fnA 113,.Iy]
theorem n67 (h:H) (hr:h.nx+8<=Bq):L8 ctx N 67 [] 8 h (.agg Of):=by
 unfold L8;rw [e67]
 have h1:h.nx<Bq:=by omega
 refine yk ?_
 (all_goals with_reducible refine A0 ?_ ?_ ?_ ?_;all_goals first|exact G9|(simp only [decide_eq_true_eq,decide_eq_false_iff_not] at *;simp [*,Of];done)|(simp_all [Of];done)|(simp_all [Of];omega))
def Wf:Tr->Prop
 |.leaf _=>True
 |.one _ a=>Wf a
 |.two o a b=>((o=4\/o=5\/o=6)\/(o=9\/o=10\/o=11\/o=12\/o=13\/o=14)\/(o=15\/o=16))/\Wf a/\Wf b
 |.three c a b=>Wf c/\Wf a/\Wf b
abbrev H67:Prop:=∀(h:H),ctx.call 67 [] h=.ok (.agg Of) h
abbrev H29 (t:Tr):Prop:=∀(h:H),ctx.call 29 [A3 t] h=.ok (A3 (normal t)) h
theorem AqU:Ft prog 112=some none:=by kernel_rfl
theorem A7c:Bg prog 111=true:=by kernel_rfl
theorem A7d:Bg prog 112=true:=by kernel_rfl
theorem A7e:Bg prog 113=true:=by kernel_rfl
theorem Aup (x:Nd) (h:H) (hr:h.nx+8<=Bq):L8 ctx N 29 [A3 (.leaf x)] 8 h (A3 (normal (.leaf x))):=by
 rw [show A3 (.leaf x)=.I6 170 (.agg (Bw x)) from rfl]
 unfold L8;rw [e29]
 have hf1:size (fixed true)<=1000:=by rw [Ct];omega
 have hf2:size (fixed false)<=1000:=by rw [Ct];omega
 refine yk ?_
 (all_goals with_reducible refine A0 ?_ ?_ ?_ ?_;all_goals first|exact G9|(simp only [decide_eq_true_eq,decide_eq_false_iff_not] at *;simp [*,normal,A3];done)|(simp_all [normal,A3];done)|(simp_all [normal,A3];omega))
theorem Azs (h65:H65 ctx) (h66:H66 ctx) (o:Int) (a:Tr) (hsa:size (normal a)<=1000) (ha:H29 ctx a) (h:H) (hr:h.nx+8<=Bq):L8 ctx N 29 [A3 (.one o a)] 8 h (A3 (normal (.one o a))):=by
 rw [show A3 (.one o a)=.I6 109 (.agg [.int .i64 o,A3 a]) from rfl]
 unfold L8;rw [e29]
 have hf1:size (fixed true)<=1000:=by rw [Ct];omega
 have hf2:size (fixed false)<=1000:=by rw [Ct];omega
 have h1:h.nx<Bq:=by omega
 (have zz0:=@h65;have zz1:=@h66;repeat' (first|refine yk ?_|(with_reducible (first|apply K7|apply K8|apply K9|apply Ld|apply Ku)<;>intro hc<;>(try simp only [Bt] at hc)<;>(try (exfalso;omega)))))
 (all_goals with_reducible refine A0 ?_ ?_ ?_ ?_;all_goals first|exact G9|(simp only [decide_eq_true_eq,decide_eq_false_iff_not] at *;simp [*,normal];done)|(simp_all [normal];done)|(simp_all [normal];omega))
theorem Azt (h67:H67 ctx) (Aya:A1e ctx) (AmN:A1f ctx) (Ayb:A1g ctx) (o:Int) (a b:Tr) (hw:Wf (.two o a b)) (hsa:size (normal a)<=1000) (hsb:size (normal b)<=1000) (ha:H29 ctx a) (hb:H29 ctx b) (h:H) (hr:h.nx+8<=Bq):
 L8 ctx N 29 [A3 (.two o a b)] 8 h (A3 (normal (.two o a b))):=by
 rw [show A3 (.two o a b)=.I6 111 (.agg [.int .i64 o,A3 a,A3 b]) from rfl]
 unfold L8;rw [e29]
 have hf1:size (fixed true)<=1000:=by rw [Ct];omega
 have hf2:size (fixed false)<=1000:=by rw [Ct];omega
 have h1:h.nx<Bq:=by omega
 rcases hw.1 with ho|ho|ho
 . have A3g:=λa b h=>Aya o a b h ho
   rcases ho with rfl|rfl|rfl
   all_goals repeat' (first|with_reducible (first|apply Ee|apply Ef|apply Eg|apply Eh)|(with_reducible (first|apply Kv|apply Kw|apply Kx|apply K0);(conv=>lhs;simp (disch:=first|exact Ce|fail) [lc, *,h67,ha,hb,Of,AqU,A7c,A3g]);with_reducible (first|apply Ee|apply Ef|apply Eg|apply Eh|apply Ks|(refine Kt (by simp) ?_)|(apply Ku<;>intro hc)))|(with_reducible (first|apply K7|apply K8|apply K9|apply Ld)<;>intro hc))
   (all_goals with_reducible refine A0 ?_ ?_ ?_ ?_;all_goals first|exact G9|(simp only [decide_eq_true_eq,decide_eq_false_iff_not] at *;simp [*,normal,L0];done)|(simp_all [normal,L0];done)|(simp_all [normal,L0];omega))
 . have A3h:=λa b h=>AmN o a b h om
   rcases ho with rfl|rfl|rfl|rfl|rfl|rfl
   all_goals repeat' (first|with_reducible (first|apply Ee|apply Ef|apply Eg|apply Eh)|(with_reducible (first|apply Kv|apply Kw|apply Kx|apply K0);(conv=>lhs;simp (disch:=first|exact Ce|fail) [lc, *,h67,ha,hb,Of,AqU,A7d,A3h]);with_reducible (first|apply Ee|apply Ef|apply Eg|apply Eh|apply Ks|(refine Kt (by simp) ?_)|(apply Ku<;>intro hc)))|(with_reducible (first|apply K7|apply K8|apply K9|apply Ld)<;>intro hc))
   (all_goals with_reducible refine A0 ?_ ?_ ?_ ?_;all_goals first|exact G9|(simp only [decide_eq_true_eq,decide_eq_false_iff_not] at *;simp [*,normal,L0];done)|(simp_all [normal,L0];done)|(simp_all [normal,L0];omega))
 . have A3j:=λa b h=>Ayb o a b h ho
   rcases ho with rfl|rfl
   all_goals repeat' (first|with_reducible (first|apply Ee|apply Ef|apply Eg|apply Eh)|(with_reducible (first|apply Kv|apply Kw|apply Kx|apply K0);(conv=>lhs;simp (disch:=first|exact Ce|fail) [lc, *,h67,ha,hb,Of,AqU,A7e,A3j]);with_reducible (first|apply Ee|apply Ef|apply Eg|apply Eh|apply Ks|(refine Kt (by simp) ?_)|(apply Ku<;>intro hc)))|(with_reducible (first|apply K7|apply K8|apply K9|apply Ld)<;>intro hc))
   (all_goals with_reducible refine A0 ?_ ?_ ?_ ?_;all_goals first|exact G9|(simp only [decide_eq_true_eq,decide_eq_false_iff_not] at *;simp [*,normal,L0];done)|(simp_all [normal,L0];done)|(simp_all [normal,L0];omega))
theorem Arl (J3:H30 ctx) (N7:H31 ctx) (c a b:Tr) (hsc:size (normal c)<=1000) (hsa:size (normal a)<=1000) (hsb:size (normal b)<=1000) (hc:H29 ctx c) (ha:H29 ctx a) (hb:H29 ctx b) (h:H) (hr:h.nx+8<=Bq):L8 ctx N 29 [A3 (.three c a b)] 8 h (A3 (normal (.three c a b))):=by
 rw [show A3 (.three c a b)=.I6 116 (.agg [A3 c,A3 a,A3 b]) from rfl]
 unfold L8;rw [e29]
 have hf1:size (fixed true)<=1000:=by rw [Ct];omega
 have hf2:size (fixed false)<=1000:=by rw [Ct];omega
 have h1:h.nx<Bq:=by omega
 (have zz0:=@J3;have zz1:=@N7;repeat' (first|refine yk ?_|(with_reducible (first|apply K7|apply K8|apply K9|apply Ld|apply Ku)<;>intro hc<;>(try simp only [Bt] at hc)<;>(try (exfalso;omega)))))
 all_goals try rw [AwO]
 all_goals repeat' (first|with_reducible (first|apply Ee|apply Ef|apply Eg|apply Eh)|(with_reducible (first|apply Kv|apply Kw|apply Kx|apply K0);(conv=>lhs;simp (disch:=first|exact Ce|fail) [lc, *,J3,N7]);with_reducible (first|apply Ee|apply Ef|apply Eg|apply Eh|apply Ks|(refine Kt (by simp) ?_)|(apply Ku<;>intro hc)))|(with_reducible (first|apply K7|apply K8|apply K9|apply Ld)<;>intro hc))
 (all_goals with_reducible refine A0 ?_ ?_ ?_ ?_;all_goals first|exact G9|(simp only [decide_eq_true_eq,decide_eq_false_iff_not] at *;simp [*,normal,three,A3];done)|(simp_all [normal,three,A3];done)|(simp_all [normal,three,A3];omega))
end Go.Proofs
namespace Go.Proofs
open Go Go.Ev Go.Nm Tryz Go.Ev.Sx
attribute [local irreducible] Aa Al Af Ad
variable [Ii]
variable (ctx:Ac) (N:Nat)
abbrev Iw (l:List Nd):List AV:=l.flatMap Bw
abbrev Zi (h:H) (v:AV) (l:List Nd):Prop:=Oq 3 h v l.length (Iw l)
def Wr (s:Nat) (et:TypeId) (lo:Nat) (h:H) (v:AV) (len:Nat):Prop:=len=0\/∃b off cap ex cs k,v=.sl b off len cap s ex/\h.m.get b=.cells cs et k/\off+len * s<=cs.length/\lo<=b/\b<h.nx/\(k=.exact\/∃c st,k=.Gt c/\h.m.get c=.Fb st/\lo<=c/\c<h.nx/\c≠b)
theorem Wr.mono {s lo Z6 len:Nat} {et:TypeId} {h:H} {v:AV} (hw:Wr s et lo h v len) (hh:Z6<=lo):Wr s et Z6 h v len:=by
 rcases hw with h1|⟨b,off,cap,ex,cs,k,h1,h2,h3,h4,h5,h6⟩
 . exact .inl h1
 . refine .inr ⟨b,off,cap,ex,cs,k,h1,h2,h3,by omega,h5,?_⟩
   rcases h6 with h6|⟨c,st,h6,h7,h8,h9,Fh⟩
   . exact .inl h6
   . exact .inr ⟨c,st,h6,h7,by omega,h9,Fh⟩
theorem Wr.Gt {s lo len:Nat} {et:TypeId} {c:List AV} {h:H} {v:AV} (ht:Rl s lo et h v len c):Wr s et lo h v len:=by
 obtain ⟨b,k,st,hv,h1,h2,h3,h4,h5,h6,h7⟩:=ht.at'
 have:=ht.Rv
 exact .inr ⟨b,0,len,false,c,.Gt k,hv,h1,by omega,h3,h5,.inr ⟨k,st,rfl,h2,h4,h6,λhh=>h7 hh.symm⟩⟩
abbrev AgF (lo:Nat) (h:H) (v:AV) (l:List Nd):Prop:=Zi h v l/\Wr 3 32 lo h v l.length
abbrev My (h:H) (v:AV) (l:List Tr):Prop:=Oq 1 h v l.length (l.map A3)
theorem Tk:∀l:List Nd,Bm (Iw l)=true
 |[]=>rfl
 |x::l=>by
  have ih:=Tk l
  simp only [Iw] at ih
  simp [Iw,ih]
abbrev Zh (t:Tr):Prop:=∀h:H,h.nx+12 * size t<=Bq->size t<=10000->Cb (12 * size t) h (λv h'=>AgF h.nx h' v t.nodes) (Hn prog ctx (A3 t) (mnm prog 109 0) [] h)
def cost:List Tr->Nat
 |[]=>4
 |t::l=>12 * size t+2+cost l
abbrev Acc (lo:Nat) (h:H) (v:AV) (l:List Nd):Prop:=(l=[]/\v=.Bv)\/Rl 3 lo 32 h v l.length (Iw l)
theorem ApU (l:List Nd):(Iw l).length=l.length * 3:=by
 induction l with
 |nil=>rfl
 |cons x l ih=>simp only [Iw,List.flatMap_cons,List.length_append] at ih ⊢;rw [ih];simp;omega
theorem AhQ:∀l:List Tr,l.length<=(l.flatMap Tr.nodes).length
 |[]=>Nat.le_refl _
 |t::l=>by
  have:=AhQ l
  have:=Ao t
  have:=size_pos t
  simp [Ao] at *
  omega
theorem Alv {h0 h:H} {m n lo:Nat} {x y:AV} {a l:List Nd} (ha:Acc lo h x a) (hy:Zi h y l) (hl:l≠[]) (hb:a.length+l.length<=20000) (hr:h.nx+2<=Bq) (he:Sx.Ext n h0 h) (Kf:h0.nx<=lo) (A3W:lo<=h.nx):
 Cb (n+2) h0 (λv h'=>Rl 3 lo 32 h' v (a++l).length (Iw (a++l))) (Ds 32 3 32 x y h):=by
 have hlp:0<l.length:=List.length_pos_iff.2 hl
 rcases ha with ⟨rfl,rfl⟩|ht
 . obtain ⟨v,h1,q1,q2,q3⟩:=Aa2 (bytes:=32) (et:=32) (lo:=lo) hy hlp om (Tk l) hr A3W
   exact ⟨v,h1,q1,he.trans q2,q3⟩
 . obtain ⟨v,h1,q1,q2,q3⟩:=AsZ (bytes:=32) ht hy hlp om (Tk l) om Kf he
   refine ⟨v,h1,q1,q2.mono om,?_⟩
   rw [List.length_append,Iw,List.flatMap_append]
   exact q3
theorem Auj (o:Int) (v:AV) (ts:List Tr) (hts:∀t∈ts,Zh ctx t) (h0:H) (M:Nat) (hv:My h0 v ts) (AeB:h0.nx+M<=Bq) (Fc:(ts.flatMap Tr.nodes).length+1<=10000):
 ∀(rest pre:List Tr) (h:H) (m:Nat) (t5:AV) (f0:L2) (n1:Nat),ts=pre++rest->rest.length+1<=n1->Sx.Ext m h0 h->m+cost rest<=M->Acc h0.nx h t5 (pre.flatMap Tr.nodes) ->
  Cb M h0 (λv h'=>AgF h0.nx h' v (ts.flatMap Tr.nodes++[⟨o,0,[]⟩])) (Afk ctx N n1 (.int .i64 o) t5 v (.int .i64 ts.length) (.int .i64 pre.length) f0 h):=by
 intro rest
 induction rest with
 |nil=>
  intro pre h m t5 f0 n1 Hk hn he hm Ayu
  obtain ⟨n2,rfl⟩:∃n2,n1=n2+1:=⟨n1 - 1,by omega⟩
  rw [List.append_nil] at Hk
  subst Hk
  simp only [cost] at hm
  have hhi:=he.hi
  have Kf:=he.lo
  rw [Ali]
  refine Ag (Hf ..) ?_
  rw [show decide ((ts.length:Int)<(ts.length:Int))=false by simp]
  rw [Dq]
  refine Ag (v:=.agg (Bw ⟨o,0,[]⟩)) (h:=h) (by simp [Bw]) ?_
  refine Ag (v:=.sl h.nx 0 1 1 3 true) (h:=h.new (.cells (Bw ⟨o,0,[]⟩) 32 .exact)) (by simp [Bw]) ?_
  have e2:=he.new (.cells (Bw ⟨o,0,[]⟩) 32 .exact) om
  have hy:Zi (h.new (.cells (Bw ⟨o,0,[]⟩) 32 .exact)) (.sl h.nx 0 1 1 3 true) [⟨o,0,[]⟩]:=
   ⟨.inr ⟨h.nx,0,1,true,Bw ⟨o,0,[]⟩,32,.exact,rfl,Nat.le_refl _,A6 _ om,trivial,by show h.nx<h.nx+1;omega,by simp [Bw],rfl⟩⟩
  have Aql:Acc h0.nx (h.new (.cells (Bw ⟨o,0,[]⟩) 32 .exact)) t5 (ts.flatMap Tr.nodes):=by
   rcases Ayu with hh|hh
   . exact .inl hh
   . exact .inr (hh.ext ((Sx.Ext.refl 0 h).new _ om))
  obtain ⟨w,h3,q1,q2,q3⟩:=Alv (m:=0) Aql hy (by simp) (by simp at Fc ⊢;omega) (by show h.nx+1+2<=Bq;omega) e2 (Nat.le_refl _) (by show h0.nx<=h.nx+1;omega)
  refine Ag q1 ?_
  exact B0 q2 om ⟨q3.sl,Wr.Gt q3⟩
 |cons t rest ih=>
  intro pre h m t5 f0 n1 Hk hn he hm Ayu
  obtain ⟨n2,rfl⟩:∃n2,n1=n2+1:=⟨n1 - 1,by omega⟩
  have hlen:ts.length=pre.length+(rest.length+1):=by rw [Hk];simp
  have hhi:=he.hi
  have Kf:=he.lo
  have hsp:=size_pos t
  simp only [cost] at hm
  have BeT:(pre.flatMap Tr.nodes).length+size t+(rest.flatMap Tr.nodes).length+1<=10000:=by
   rw [Hk] at Fc;simp [List.flatMap_append,Ao] at Fc ⊢;omega
  have Z1:=AhQ pre
  rw [Ali]
  refine Ag (Hf ..) ?_
  rw [show decide ((pre.length:Int)<(ts.length:Int))=true by simp [hlen];omega]
  rw [Ep]
  obtain ⟨b,o',cs,e,k,p1,p2,p3,p4,p5,p6⟩:=(hv.ext he).ia (i:=pre.length) om
  refine Ag (p1 h) ?_
  have hx:cs[o']?=some (A3 t):=by
   have h7:((cs.drop o').take 1)[0]?=(((ts.map A3).drop (pre.length * 1)).take 1)[0]?:=by rw [p6]
   rw [Hk] at h7
   simpa [List.getElem?_take,List.getElem?_drop] using h7
  refine Ag (Di p2 p3 hx) ?_
  have ht:=hts t (by rw [Hk];simp) h om om
  refine Ic he ht λw h1 e1 e1' q=>?_
  have Aql:Acc h0.nx h1 t5 (pre.flatMap Tr.nodes):=by
   rcases Ayu with hh|hh
   . exact .inl hh
   . exact .inr (hh.ext e1')
  have Beu:=e1.hi
  have BeA:=e1.lo
  obtain ⟨w2,h3,r1,r2,r3⟩:=Alv (m:=0) Aql q.1 (by intro hh;have:=Ao t;rw [hh] at this;simp at this;omega) (by rw [Ao];omega) om e1 (Nat.le_refl _) om
  refine Ag r1 ?_
  refine Ag (v:=.int .i64 ((pre++[t]).length:Int)) (h:=h3) (by rw [Uc,Cr];simp;omega;omega) ?_
  have:=λff=>ih (pre++[t]) h3 (m+12 * size t+2) w2 ff n2 (by rw [Hk];simp) (by simp at hn ⊢;omega) r2 om (.inr (by rw [List.flatMap_append];simpa using r3))
  exact this _
abbrev AkS (o:Int) (ts:List Tr):Prop:=∀(h:H) (v:AV),My h v ts->h.nx+cost ts<=Bq->(ts.flatMap Tr.nodes).length+1<=10000->Cb (cost ts) h (λv h'=>AgF h.nx h' v (ts.flatMap Tr.nodes++[⟨o,0,[]⟩])) (ctx.call 351 [.int .i64 o,v] h)
theorem A9E (o:Int) (ts:List Tr) (hN:ts.length+1<=N) (hts:∀t∈ts,Zh ctx t) (h:H) (v:AV) (hv:My h v ts) (hr:h.nx+cost ts<=Bq) (Fc:(ts.flatMap Tr.nodes).length+1<=10000):
 Cb (cost ts) h (λv h'=>AgF h.nx h' v (ts.flatMap Tr.nodes++[⟨o,0,[]⟩])) (Ay prog ctx N true 351 [.int .i64 o,v] h):=by
 rw [A7K]
 refine Ag hv.len ?_
 exact Auj ctx N o v ts hts h (cost ts) hv hr Fc ts [] h 0 .Bv _ N rfl hN (Sx.Ext.refl 0 h) om (.inl ⟨rfl,rfl⟩)
theorem AbT {h0 h:H} {n:Nat} (ts:List Tr) (he:Sx.Ext n h0 h) (hl:h.nx<Bq):Sx.Ext (n+1) h0 (h.new (.cells (ts.map A3) 56 .exact))/\My (h.new (.cells (ts.map A3) 56 .exact)) (.sl h.nx 0 ts.length ts.length 1 true) ts:=
 ⟨he.new _ hl,⟨.inr ⟨h.nx,0,ts.length,true,ts.map A3,56,.exact,rfl,Nat.le_refl _,A6 _ hl,trivial,by show h.nx<h.nx+1;omega,by simp,by rw [List.drop_zero,List.take_of_length_le (by simp)]⟩⟩⟩
theorem A9J (x:Nd) (h:H) (hr:h.nx+8<=Bq):Cb 8 h (λv h'=>AgF h.nx h' v [x]) (Ay prog ctx N true 356 [.agg (Bw x)] h):=by
 rw [A7P]
 have e1:=(Sx.Ext.refl 0 h).new (.cells (Bw x) 170 .exact) om
 refine Ag (Hg ..) ?_
 refine Ag (E3 ..) ?_
 refine Ag (Nr (A6 _ om) trivial (by simp [Bw])) ?_
 refine Ag (v:=.sl (h.nx+1) 0 1 1 3 true) (h:=(h.new (.cells (Bw x) 170 .exact)).new (.cells (Bw x) 32 .exact)) (by simp [Bw]) ?_
 refine B0 (e1.new _ (by show h.nx+1<Bq;omega)) om ⟨⟨.inr ⟨h.nx+1,0,1,true,Bw x,32,.exact,rfl,Nat.le_refl _,A6 (h:=h.new (.cells (Bw x) 170 .exact)) _ (by show h.nx+1<Bq;omega),trivial,by show h.nx+1<h.nx+1+1;omega,by simp [Bw],rfl⟩⟩,.inr ⟨h.nx+1,0,1,true,Bw x,.exact,rfl,A6 (h:=h.new (.cells (Bw x) 170 .exact)) _ (by show h.nx+1<Bq;omega),by simp [Bw],by omega,by show h.nx+1<h.nx+1+1;omega,.inl rfl⟩⟩
theorem A9C (o:Int) (a:Tr) (hj:AkS ctx o [a]) (h:H) (hr:h.nx+12 * size (.one o a)<=Bq) (hs:size (.one o a)<=10000):Cb (12 * size (.one o a)) h (λv h'=>AgF h.nx h' v (Tr.one o a).nodes) (Ay prog ctx N true 349 [.agg [.int .i64 o,A3 a]] h):=by
 rw [A7I]
 simp only [size] at hr hs
 have e1:=(Sx.Ext.refl 0 h).new (.cells [.int .i64 o,A3 a] 109 .exact) om
 have hg:(h.new (.cells [.int .i64 o,A3 a] 109 .exact)).m.get h.nx=.cells [.int .i64 o,A3 a] 109 .exact:=A6 _ om
 refine Ag (Hg ..) ?_
 refine Ag (E3 ..) ?_
 refine Ag (Di hg trivial rfl) ?_
 refine Ag (E3 ..) ?_
 refine Ag (Di hg trivial rfl) ?_
 obtain ⟨e2,ht⟩:=AbT [a] e1 (by show h.nx+1<Bq;omega)
 refine Ag (v:=.sl (h.nx+1) 0 1 1 1 true) (h:=(h.new (.cells [.int .i64 o,A3 a] 109 .exact)).new (.cells [A3 a] 56 .exact)) (by simp) ?_
 refine Ic e2 (hj _ _ ht (by simp only [cost];show h.nx+1+1+_<=Bq;omega) (by simp [Ao];omega)) λv h1 e3 _ q=>?_
 refine B0 e3 (by simp only [cost,size];omega) ⟨?_,?_⟩
 . simpa [Tr.nodes] using q.1
 . simpa [Tr.nodes] using q.2.mono (show h.nx<=h.nx+1+1 by omega)
theorem A9F (o:Int) (a b:Tr) (hj:AkS ctx o [a,b]) (h:H) (hr:h.nx+12 * size (.two o a b)<=Bq) (hs:size (.two o a b)<=10000):Cb (12 * size (.two o a b)) h (λv h'=>AgF h.nx h' v (Tr.two o a b).nodes) (Ay prog ctx N true 352 [.agg [.int .i64 o,A3 a,A3 b]] h):=by
 rw [A7L]
 simp only [size] at hr hs
 have hsa:=size_pos a
 have e1:=(Sx.Ext.refl 0 h).new (.cells [.int .i64 o,A3 a,A3 b] 111 .exact) om
 have hg:(h.new (.cells [.int .i64 o,A3 a,A3 b] 111 .exact)).m.get h.nx=.cells [.int .i64 o,A3 a,A3 b] 111 .exact:=A6 _ om
 refine Ag (Hg ..) ?_
 refine Ag (E3 ..) ?_
 refine Ag (Di hg trivial rfl) ?_
 refine Ag (E3 ..) ?_
 refine Ag (Di hg trivial rfl) ?_
 refine Ag (E3 ..) ?_
 refine Ag (Di hg trivial rfl) ?_
 obtain ⟨e2,ht⟩:=AbT [a,b] e1 (by show h.nx+1<Bq;omega)
 refine Ag (v:=.sl (h.nx+1) 0 2 2 1 true) (h:=(h.new (.cells [.int .i64 o,A3 a,A3 b] 111 .exact)).new (.cells [A3 a,A3 b] 56 .exact)) (by simp) ?_
 refine Ic e2 (hj _ _ ht (by simp only [cost];show h.nx+1+1+_<=Bq;omega) (by simp [Ao];omega)) λv h1 e3 _ q=>?_
 refine B0 e3 (by simp only [cost,size];omega) ⟨?_,?_⟩
 . simpa [Tr.nodes] using q.1
 . simpa [Tr.nodes] using q.2.mono (show h.nx<=h.nx+1+1 by omega)
theorem A9H (c a b:Tr) (hj:AkS ctx 8 [c,a,b]) (h:H) (hr:h.nx+12 * size (.three c a b)<=Bq) (hs:size (.three c a b)<=10000):Cb (12 * size (.three c a b)) h (λv h'=>AgF h.nx h' v (Tr.three c a b).nodes) (Ay prog ctx N true 354 [.agg [A3 c,A3 a,A3 b]] h):=by
 rw [A7N]
 simp only [size] at hr hs
 have hsa:=size_pos a
 have hsc:=size_pos c
 have e1:=(Sx.Ext.refl 0 h).new (.cells [A3 c,A3 a,A3 b] 116 .exact) om
 have hg:(h.new (.cells [A3 c,A3 a,A3 b] 116 .exact)).m.get h.nx=.cells [A3 c,A3 a,A3 b] 116 .exact:=A6 _ om
 refine Ag (Hg ..) ?_
 refine Ag (E3 ..) ?_
 refine Ag (Di hg trivial rfl) ?_
 refine Ag (E3 ..) ?_
 refine Ag (Di hg trivial rfl) ?_
 refine Ag (E3 ..) ?_
 refine Ag (Di hg trivial rfl) ?_
 obtain ⟨e2,ht⟩:=AbT [c,a,b] e1 (by show h.nx+1<Bq;omega)
 refine Ag (v:=.sl (h.nx+1) 0 3 3 1 true) (h:=(h.new (.cells [A3 c,A3 a,A3 b] 116 .exact)).new (.cells [A3 c,A3 a,A3 b] 56 .exact)) (by simp) ?_
 refine Ic e2 (hj _ _ ht (by simp only [cost];show h.nx+1+1+_<=Bq;omega) (by simp [Ao];omega)) λv h1 e3 _ q=>?_
 refine B0 e3 (by simp only [cost,size];omega) ⟨?_,?_⟩
 . simpa [Tr.nodes] using q.1
 . simpa [Tr.nodes] using q.2.mono (show h.nx<=h.nx+1+1 by omega)
abbrev Ad6 (g:FuncId) (args:List AV) (n:Nat) (h:H) (u:AV):Prop:=Sx.Comes (Ay prog ctx N true g args h) (Sx.Out n h u)
theorem n177 (n:Int) (h:H):Ad6 ctx N 177 [.int .i64 n] 8 h (.bool false):=by
 unfold Ad6;rw [A7F]
 refine yk ?_
 (all_goals with_reducible refine A0 ?_ ?_ ?_ ?_;all_goals exact Afw)
theorem n178 (s:List Nat) (h:H):Ad6 ctx N 178 [.str s] 8 h (.bool false):=by
 unfold Ad6;rw [A7G]
 refine yk ?_
 (all_goals with_reducible refine A0 ?_ ?_ ?_ ?_;all_goals exact Afw)
abbrev A1o:Prop:=∀(n:Int) (h:H),ctx.call 177 [.int .i64 n] h=.ok (.bool false) h
abbrev A1p:Prop:=∀(s:List Nat) (h:H),ctx.call 178 [.str s] h=.ok (.bool false) h
abbrev A1j:Prop:=∀(a b:Int) (h:H),ctx.call 117 [.int .i64 a,.int .i64 b] h=.ok (.int .i64 (V5 a b)) h
abbrev A1k:Prop:=∀(a b:List Nat) (h:H),ctx.call 118 [.str a,.str b] h=.ok (.int .i64 (Abg a b)) h
theorem n117 (Ayh:A1o ctx) (a b:Int) (h:H):Ad6 ctx N 117 [.int .i64 a,.int .i64 b] 8 h (.int .i64 (V5 a b)):=by
 unfold Ad6;rw [A78]
 (have zz0:=@Ayh;repeat' (first|refine yk ?_|(with_reducible (first|apply K7|apply K8|apply K9|apply Ld|apply Ku)<;>intro hc<;>(try simp only [Bt] at hc)<;>(try (exfalso;omega)))))
 (all_goals with_reducible refine A0 ?_ ?_ ?_ ?_;all_goals first|exact G9|(simp only [decide_eq_true_eq,decide_eq_false_iff_not] at *;simp [*,V5];done)|(simp_all [V5];done)|(simp_all [V5];omega))
theorem n118 (Ayi:A1p ctx) (a b:List Nat) (h:H):Ad6 ctx N 118 [.str a,.str b] 8 h (.int .i64 (Abg a b)):=by
 unfold Ad6;rw [A79]
 (have zz0:=@Ayi;repeat' (first|refine yk ?_|(with_reducible (first|apply K7|apply K8|apply K9|apply Ld|apply Ku)<;>intro hc<;>(try simp only [Bt] at hc)<;>(try (exfalso;omega)))))
 (all_goals with_reducible refine A0 ?_ ?_ ?_ ?_;all_goals first|exact G9|(simp only [decide_eq_true_eq,decide_eq_false_iff_not] at *;simp [*,Abg];done)|(simp_all [Abg];done)|(simp_all [Abg];omega))
abbrev Ajc (h:H) (v:AV) (l:List Int):Prop:=Oq 1 h v l.length (l.map (AV.int .i64))
theorem Aui (l:List Int) (h:H) (v:AV) (hv:Ajc h v l) (hl:l.length<=1000000):∀(rest pre:List Int) (f0:L2) (n1:Nat),l=pre++rest->(∀x∈pre,x=0)->rest.length+1<=n1 ->
 Afj ctx N n1 (.int .i64 0) v (.int .i64 l.length) (.int .i64 pre.length) f0 h=.ok (.int .i64 (orI rest)) h:=by
 intro rest
 induction rest with
 |nil=>
  intro pre f0 n1 Hk hz hn
  obtain ⟨n2,rfl⟩:∃n2,n1=n2+1:=⟨n1 - 1,by omega⟩
  rw [List.append_nil] at Hk
  subst Hk
  rw [Ale,Hf,N2,show decide ((l.length:Int)<(l.length:Int))=false by simp,Dq]
  rfl
 |cons x rest ih=>
  intro pre f0 n1 Hk hz hn
  obtain ⟨n2,rfl⟩:∃n2,n1=n2+1:=⟨n1 - 1,by omega⟩
  have hlen:l.length=pre.length+(rest.length+1):=by rw [Hk];simp
  obtain ⟨b,o',cs,e,k,p1,p2,p3,p4,p5,p6⟩:=hv.ia (i:=pre.length) om
  have hx:cs[o']?=some (.int .i64 x):=by
   have h7:((cs.drop o').take 1)[0]?=(((l.map (AV.int .i64)).drop (pre.length * 1)).take 1)[0]?:=by rw [p6]
   rw [Hk] at h7
   simpa [List.getElem?_take,List.getElem?_drop] using h7
  rw [Ale,Hf,N2,show decide ((pre.length:Int)<(l.length:Int))=true by simp [hlen];omega,Ep,p1,N2,Di p2 p3 hx,N2,Y6,N2]
  by_cases hx0:x=0
  . rw [show (!decide (x=0))=false by simp [hx0],Dq,Uc,Cr _ om om,N2]
    have:=λff=>ih (pre++[x]) ff n2 (by rw [Hk];simp) (by intro y hy;rcases List.mem_append.1 hy with hy|hy;exact hz y hy;simp at hy;omega) (by simp at hn ⊢;omega)
    rw [show ((pre++[x]).length:Int)=(pre.length:Int)+1 by simp] at this
    rw [show orI (x::rest)=orI rest by simp [orI,hx0]]
    exact this _
  . rw [show (!decide (x=0))=true by simp [hx0],Ep]
    simp [orI,hx0]
theorem n116 (l:List Int) (h:H) (v:AV) (hv:Ajc h v l) (hl:l.length<=1000000) (hN:l.length+1<=N):Ay prog ctx N true 116 [v] h=.ok (.int .i64 (orI l)) h:=by
 rw [A77,hv.len,N2]
 exact Aui ctx N l h v hv hl l [] _ N rfl (by simp) hN
abbrev A1i:Prop:=∀(l:List Int) (h:H) (v:AV),Ajc h v l->l.length<=1000->ctx.call 116 [v] h=.ok (.int .i64 (orI l)) h
theorem n115 (Ayd:A1i ctx) (Aye:A1j ctx) (Ayf:A1k ctx) (x y:Nd) (h:H) (hr:h.nx+8<=Bq):Ad6 ctx N 115 [.agg (Bw x),.agg (Bw y)] 8 h (.int .i64 (V6 x y)):=by
 unfold Ad6;rw [A76]
 have h1:h.nx<Bq:=by omega
 (have zz0:=@Aye;have zz1:=@Ayf;refine yk ?_)
 rw [Ayd [V5 x.op y.op,V5 x.n y.n,Abg x.Zn y.Zn]]
 . refine O5 ?_
   (all_goals with_reducible refine A0 ?_ ?_ ?_ ?_;all_goals first|exact G9|(simp only [decide_eq_true_eq,decide_eq_false_iff_not] at *;simp [*,V6];done)|(simp_all [V6];done)|(simp_all [V6];omega))
 . exact ⟨.inr ⟨h.nx+1+1,0,3,true,[.int .i64 (V5 x.op y.op),.int .i64 (V5 x.n y.n),.int .i64 (Abg x.Zn y.Zn)],3,.exact,rfl,Nat.le_refl _,by simp (disch:=first|omega|(simp only [Z9,ArH,AcQ,Ait];omega)) only [Auu,Sx.Ni,Z9,AcQ,if_true],trivial,by show h.nx+1+1<h.nx+1+1+1;omega,by simp,by simp⟩⟩
 . simp
abbrev AwE:Prop:=∀(x y:Nd) (h:H),ctx.call 115 [.agg (Bw x),.agg (Bw y)] h=.ok (.int .i64 (V6 x y)) h
theorem Xo {h0 h:H} {n:Nat} (he:Sx.Ext n h0 h) (o:AO) (c:AO) (hl:h.nx<Bq):Sx.Ext (n+1) h0 ((h.new o).put h.nx c):=by
 have:=he.lo
 exact (he.new o hl).put h.nx c om hl
theorem Afy (l:List Nd) (pre:List Nd) (x:Nd) (rest:List Nd) (hl:l=pre++x::rest):((Iw l).drop (pre.length * 3)).take 3=Bw x:=by
 subst hl
 have:Iw (pre++x::rest)=Iw pre++(Bw x++Iw rest):=by simp [Iw]
 rw [this,<- ApU pre,List.drop_left]
 rfl
theorem Auh (Aqe:AwE ctx) (hb:Bg prog 115=true) (l m:List Nd) (h0:H) (v w:AV) (hv:Zi h0 v l) (hw:Zi h0 w m) (M:Nat) (AeB:h0.nx+M<=Bq) (hl:l.length<=100000):
 ∀(rest pre m1 m2:List Nd) (h:H) (f0:L2) (n1 k:Nat),l=pre++rest->m=m1++m2->(m1.length=pre.length\/(m2=[]/\m.length<=pre.length/\False))->cmpL l m=cmpL rest m2->rest.length+1<=n1->Sx.Ext k h0 h->k+2 * rest.length<=M ->
  Cb M h0 (λu h'=>u=.int .i64 (cmpL l m)) (Afi ctx N n1 v w (.fn (.func 115) [] []) v (.int .i64 l.length) (.int .i64 pre.length) f0 h):=by
 intro rest
 induction rest with
 |nil=>
  intro pre m1 m2 h f0 n1 k Hk hm hml hc hn he hk
  obtain ⟨n2,rfl⟩:∃n2,n1=n2+1:=⟨n1 - 1,by omega⟩
  have AhC:m1.length=pre.length:=by rcases hml with hh|⟨_,_,hh⟩;exact hh;exact hh.elim
  have Z1:pre.length=l.length:=by rw [Hk];simp
  have hmm:m.length=m1.length+m2.length:=by rw [hm];simp
  rw [Ald]
  refine Ag (Hf ..) ?_
  rw [show decide ((pre.length:Int)<(l.length:Int))=false by simp [Z1],Dq]
  refine Ag hv.len ?_
  refine Ag hw.len ?_
  refine Ag (Hf ..) ?_
  cases m2 with
  |nil=>
   rw [show decide ((l.length:Int)<(m.length:Int))=false by simp [hmm,<- Z1,AhC],Dq]
   exact B0 he om (by rw [hc];rfl)
  |cons y m2=>
   rw [show decide ((l.length:Int)<(m.length:Int))=true by simp [hmm,<- Z1,AhC];omega,Ep]
   exact B0 he om (by rw [hc];rfl)
 |cons x rest ih=>
  intro pre m1 m2 h f0 n1 k Hk hm hml hc hn he hk
  obtain ⟨n2,rfl⟩:∃n2,n1=n2+1:=⟨n1 - 1,by omega⟩
  have AhC:m1.length=pre.length:=by rcases hml with hh|⟨_,_,hh⟩;exact hh;exact hh.elim
  have hlen:l.length=pre.length+(rest.length+1):=by rw [Hk];simp
  have hmm:m.length=m1.length+m2.length:=by rw [hm];simp
  have hhi:=he.hi
  have Kf:=he.lo
  simp only [List.length_cons] at hk hn
  rw [Ald]
  refine Ag (Hf ..) ?_
  rw [show decide ((pre.length:Int)<(l.length:Int))=true by simp [hlen];omega,Ep]
  obtain ⟨b,o',cs,e,kk,p1,p2,p3,p4,p5,p6⟩:=(hv.ext he).ia (i:=pre.length) om
  rw [Afy l pre x rest Hk] at p6
  refine Ag (p1 h) ?_
  refine Ag (Nr p2 p3 p5) ?_
  rw [p6]
  refine Ag (Sx.AeI ..) ?_
  refine Ag (v:=.Bj []) (h:=(h.new (.cells [.int .i64 0,.int .i64 0,.str []] 32 .exact)).put h.nx (.cells (Bw x) 32 .exact)) (by simp (disch:=first|omega|(simp only [Z9];omega)) [Kh,Bw]) ?_
  have e1:=Xo he (.cells [.int .i64 0,.int .i64 0,.str []] 32 .exact) (.cells (Bw x) 32 .exact) om
  have g1:((h.new (.cells [.int .i64 0,.int .i64 0,.str []] 32 .exact)).put h.nx (.cells (Bw x) 32 .exact)).m.get h.nx=.cells (Bw x) 32 .exact:=Dz _ _ om
  have hx1:((h.new (.cells [.int .i64 0,.int .i64 0,.str []] 32 .exact)).put h.nx (.cells (Bw x) 32 .exact)).nx=h.nx+1:=rfl
  generalize ((h.new (.cells [.int .i64 0,.int .i64 0,.str []] 32 .exact)).put h.nx (.cells (Bw x) 32 .exact))=h1 at e1 g1 hx1 ⊢
  refine Ag hw.len ?_
  refine Ag (As1 ..) ?_
  cases m2 with
  |nil=>
   rw [show decide ((m.length:Int)<=(pre.length:Int))=true by simp [hmm,AhC],Ep]
   exact B0 e1 om (by rw [hc];rfl)
  |cons y m2=>
   rw [show decide ((m.length:Int)<=(pre.length:Int))=false by simp [hmm,AhC];omega,Dq]
   obtain ⟨b2,o2,cs2,ee,k2,q1,q2,q3,q4,q5,q6⟩:=(hw.ext e1).ia (i:=pre.length) (by rw [hmm,AhC];simp)
   rw [<- AhC,Afy m m1 y m2 hm] at q6
   refine Ag (q1 _) ?_
   refine Ag (Nr q2 q3 q5) ?_
   rw [q6]
   refine Ag (Sx.AeI ..) ?_
   refine Ag (v:=.Bj []) (h:=(h1.new (.cells [.int .i64 0,.int .i64 0,.str []] 32 .exact)).put h1.nx (.cells (Bw y) 32 .exact)) (by simp (disch:=first|omega|(simp only [Z9];omega)) [Kh,Bw]) ?_
   have e2:=Xo e1 (.cells [.int .i64 0,.int .i64 0,.str []] 32 .exact) (.cells (Bw y) 32 .exact) om
   have g2:((h1.new (.cells [.int .i64 0,.int .i64 0,.str []] 32 .exact)).put h1.nx (.cells (Bw y) 32 .exact)).m.get h1.nx=.cells (Bw y) 32 .exact:=Dz _ _ om
   have g3:((h1.new (.cells [.int .i64 0,.int .i64 0,.str []] 32 .exact)).put h1.nx (.cells (Bw y) 32 .exact)).m.get h.nx=.cells (Bw x) 32 .exact:=by
    rw [Db _ _ _ om om om,H3 _ _ om om om,g1]
   generalize ((h1.new (.cells [.int .i64 0,.int .i64 0,.str []] 32 .exact)).put h1.nx (.cells (Bw y) 32 .exact))=h2 at e2 g2 g3 ⊢
   refine Ag (Nr g3 trivial (by simp [Bw])) ?_
   refine Ag (Nr g2 trivial (by simp [Bw])) ?_
   refine Ag (v:=.int .i64 (V6 x y)) (h:=h2) (by rw [AxK,if_pos hb];exact Aqe x y h2) ?_
   refine Ag (Y6 ..) ?_
   by_cases hz:V6 x y=0
   . rw [show (!decide (V6 x y=0))=false by simp [hz],Dq]
     refine Ag (v:=.int .i64 ((pre++[x]).length:Int)) (h:=h2) (by rw [Uc,Cr];simp;omega;omega) ?_
     refine ih (pre++[x]) (m1++[y]) m2 h2 _ n2 (k+1+1) (by rw [Hk];simp) (by rw [hm];simp) (.inl (by simp [AhC])) (by rw [hc];simp [cmpL,hz]) om e2 om
   . rw [show (!decide (V6 x y=0))=true by simp [hz],Ep]
     exact B0 e2 om (by rw [hc];simp [cmpL,hz])
theorem n114 (Aqe:AwE ctx) (hb:Bg prog 115=true) (l m:List Nd) (h:H) (v w:AV) (hv:Zi h v l) (hw:Zi h w m) (hr:h.nx+2 * l.length<=Bq) (hN:l.length+1<=N) (hl:l.length<=100000):
 Cb (2 * l.length) h (λu h'=>u=.int .i64 (cmpL l m)) (Ay prog ctx N true 114 [v,w,.fn (.func 115) [] []] h):=by
 rw [A75]
 refine Ag hv.len ?_
 exact Auh ctx N Aqe hb l m h v w hv hw (2 * l.length) hr hl l [] [] m h _ N 0 rfl rfl (.inl rfl) rfl hN (Sx.Ext.refl 0 h) om
abbrev A1h:Prop:=∀(l m:List Nd) (h:H) (v w:AV),Zi h v l->Zi h w m->h.nx+2 * l.length<=Bq->l.length<=100000->Cb (2 * l.length) h (λu h'=>u=.int .i64 (cmpL l m)) (ctx.call 114 [v,w,.fn (.func 115) [] []] h)
theorem n68 (a b:Tr) (ha:Zh ctx a) (hb:Zh ctx b) (Ayc:A1h ctx) (hsa:size a<=1000) (hsb:size b<=1000) (h:H) (hr:h.nx+30000<=Bq):Cb 30000 h (λu h'=>u=.int .i64 (Nm.compare a b)) (Ay prog ctx N true 68 [A3 a,A3 b] h):=by
 rw [e68]
 refine Ic (Sx.Ext.refl 0 h) (ha h om om) λv h1 e1 e1' q1=>?_
 have:=e1.hi
 refine Ic e1 (hb h1 om om) λw h2 e2 e2' q2=>?_
 have:=e2.hi
 refine Ic e2 (Ayc a.nodes b.nodes h2 v w (q1.1.ext e2') q2.1 (by rw [Ao];omega) (by rw [Ao];omega)) λu h3 e3 e3' q3=>?_
 refine B0 e3 (by rw [Ao];omega) q3
end Go.Proofs
namespace Go.Proofs
open Go Go.Ev Go.Nm Tryz Go.Ev.Sx
noncomputable abbrev PP:Program:=prog
theorem Fk:∀a b:Tr,A3 a=A3 b->a=b
 |.leaf x,.leaf y,h=>by
  cases x;cases y
  simpa [A3] using h
 |.one o a,.one p b,h=>by
  simp [A3] at h
  rw [h.1,Fk a b h.2]
 |.two o a b,.two p c d,h=>by
  simp [A3] at h
  rw [h.1,Fk a c h.2.1,Fk b d h.2.2]
 |.three a b c,.three d e f,h=>by
  simp [A3] at h
  rw [Fk a d h.1,Fk b e h.2.1,Fk c f h.2.2]
 |.leaf _,.one _ _,h=>by simp [A3] at h
 |.leaf _,.two _ _ _,h=>by simp [A3] at h
 |.leaf _,.three _ _ _,h=>by simp [A3] at h
 |.one _ _,.leaf _,h=>by simp [A3] at h
 |.one _ _,.two _ _ _,h=>by simp [A3] at h
 |.one _ _,.three _ _ _,h=>by simp [A3] at h
 |.two _ _ _,.leaf _,h=>by simp [A3] at h
 |.two _ _ _,.one _ _,h=>by simp [A3] at h
 |.two _ _ _,.three _ _ _,h=>by simp [A3] at h
 |.three _ _ _,.leaf _,h=>by simp [A3] at h
 |.three _ _ _,.one _ _,h=>by simp [A3] at h
 |.three _ _ _,.two _ _ _,h=>by simp [A3] at h
theorem Yq (x:Nd):Plain (.agg (Bw x)):=.agg λy hy=>by simp [Bw] at hy;rcases hy with rfl|rfl|rfl;exact .int _ _;exact .int _ _;exact .str _
theorem Bp:∀t:Tr,Plain (A3 t)
 |.leaf x=>.I6 (Yq x)
 |.one o a=>.I6 (.agg λy hy=>by simp at hy;rcases hy with rfl|rfl;exact .int _ _;exact Bp a)
 |.two o a b=>.I6 (.agg λy hy=>by simp at hy;rcases hy with rfl|rfl|rfl;exact .int _ _;exact Bp a;exact Bp b)
 |.three c a b=>.I6 (.agg λy hy=>by simp at hy;rcases hy with rfl|rfl|rfl;exact Bp c;exact Bp a;exact Bp b)
open Classical in
noncomputable def Dv {α:Type} (enc:α->List AV) (out:α->AV) (dom:α->Prop):List AV->Option AV:=λargs=>if hx:∃a,dom a/\enc a=args then some (out hx.choose) else none
theorem Cd {α:Type} {enc:α->List AV} {out:α->AV} {dom:α->Prop} (AyB:∀a b,enc a=enc b->a=b) {a:α} (hd:dom a):Dv enc out dom (enc a)=some (out a):=by
 have hx:∃b,dom b/\enc b=enc a:=⟨a,hd,rfl⟩
 unfold Dv
 rw [dif_pos hx,AyB _ _ hx.choose_spec.2]
theorem Acu {α:Type} {enc:α->List AV} {out:α->AV} {dom:α->Prop} {args:List AV} {v:AV} (h:Dv enc out dom args=some v):∃a,dom a/\enc a=args/\v=out a:=by
 unfold Dv at h
 split at h
 . rename_i hx
   cases h
   exact ⟨_,hx.choose_spec.1,hx.choose_spec.2,rfl⟩
 . cases h
theorem mixed:PP.follows .mixedOrders=true:=by kernel_rfl
theorem pok:Mv PP=true:=by kernel_rfl
theorem gsz:PP.globals.size<=100:=of_decide_eq_true (by kernel_rfl)
noncomputable abbrev Ql:H:=glH [] PP.globals.size
theorem Aqd:Ql.nx<=100:=gsz
theorem AfK:Bq=1000000000000000000:=rfl
theorem Ji {ctx:Ac} {q:Bool} {g:FuncId} {args:List AV} {h:H} {n:Nat} {Q:AV->H->Prop} (hc:Cb n h Q (Ay PP ctx 1048576 q g args h)):Cb n h Q (Fy PP ctx g args h):=by
 obtain ⟨v,h1,h2,h3⟩:=hc
 exact ⟨v,h1,Jn (Nat.le_refl _) h2,h3⟩
theorem Eo {T:Df} (ht:P3 PP T) {g:FuncId} {α:Type} {enc:α->List AV} {out:α->AV} {dom:α->Prop} {q:Bool} {n:Nat} (hb:Bg PP g=true) (hn:n<=200000) (Z1:∀a,I7 (enc a)) (hpv:∀a,Plain (out a))
 (Du:∀a,dom a->∃d,Sx.Comes (Ay PP (cD PP T d) 1048576 q g (enc a) Ql) (Sx.Out n Ql (out a))):P3 PP (T.ext g (Dv enc out dom)):=by
 refine P3.ext mixed pok (by have:=gsz;rw [AfK];omega) ht hb λargs v hs=>?_
 obtain ⟨a,h1,rfl,rfl⟩:=Acu hs
 obtain ⟨d,v,h2,h3,rfl,h4⟩:=Du a h1
 refine ⟨Z1 a,hpv a,d,h2,Jn (Nat.le_refl _) h3,?_,λx hx=>?_⟩
 . have:=h4.nx.2
   have:=Aqd
   rw [AfK]
   omega
 . rcases h4.lg x hx with h5|h5
   . cases h5
   . exact h5
theorem ApX {n:Nat} {h:H} {u:AV} {r:OR} (hg:Cb n h (λv _=>v=u) r):Sx.Comes r (Sx.Out n h u):=by
 obtain ⟨v,h1,h2,h3,h4⟩:=hg
 exact ⟨v,h1,h2,h4,h3.small⟩
noncomputable def A14:=Dv (λn:Int=>[.int .i64 n]) (λ_=>.bool false) (λ_=>True)
noncomputable def A15:=Dv (λs:List Nat=>[.str s]) (λ_=>.bool false) (λ_=>True)
noncomputable def A1z:=Dv (λp:Int × Int=>[.int .i64 p.1,.int .i64 p.2]) (λp=>.int .i64 (V5 p.1 p.2)) (λ_=>True)
noncomputable def A10:=Dv (λp:List Nat × List Nat=>[.str p.1,.str p.2]) (λp=>.int .i64 (Abg p.1 p.2)) (λ_=>True)
noncomputable def Axf:=Dv (λp:Nd × Nd=>[.agg (Bw p.1),.agg (Bw p.2)]) (λp=>.int .i64 (V6 p.1 p.2)) (λ_=>True)
noncomputable def A16:=Dv (λp:Int × Tr=>[.agg [.int .i64 p.1,A3 p.2]]) (λp=>.int .i64 p.1) (λ_=>True)
noncomputable def A17:=Dv (λp:Int × Tr × Tr=>[.agg [.int .i64 p.1,A3 p.2.1,A3 p.2.2]]) (λp=>.int .i64 p.1) (λ_=>True)
noncomputable def A18:=Dv (λp:Tr × Tr × Tr=>[.agg [A3 p.1,A3 p.2.1,A3 p.2.2]]) (λp=>.int .i64 8) (λ_=>True)
noncomputable def A19:=Dv (λx:Nd=>[.agg (Bw x)]) (λx=>.int .i64 x.op) (λ_=>True)
noncomputable def A1v:=Dv (λt:Tr=>[A3 t]) (λt=>.Bj [.int .i64 (value t).1,.bool (value t).2]) (λ_=>True)
noncomputable def S69:=Dv (λn:Int=>[.int .i64 n]) (λn=>A3 (num n)) (λ_=>True)
noncomputable def A1w:=Dv (λn:Int=>[.int .i64 n]) (λn=>Yy (constant n)) (λn=>-9223372036854775808<n/\n<=9223372036854775807)
noncomputable def S31:=Dv (λb:Bool=>[.bool b]) (λb=>A3 (fixed b)) (λ_=>True)
noncomputable def A12:=Dv (λp:Tr × Int=>[A3 p.1,.int .i64 p.2]) (λp=>.bool (isV p.1 p.2)) (λ_=>True)
noncomputable def S65:=Dv (λt:Tr=>[A3 t]) (λt=>A3 (neg t)) (λ_=>True)
noncomputable def A11:=Dv (λp:Int × Tr × Tr=>[.int .i64 p.1,A3 p.2.1,A3 p.2.2]) (λp=>Yy (arith p.1 p.2.1 p.2.2)) (λp=>p.1=4\/p.1=5\/p.1=6)
noncomputable def S68:=Dv (λp:Tr × Tr=>[A3 p.1,A3 p.2]) (λp=>.int .i64 (Nm.compare p.1 p.2)) (λp=>size p.1<=1000/\size p.2<=1000)
noncomputable def S30:=Dv (λp:Tr × Tr=>[A3 p.1,A3 p.2]) (λp=>.bool (same p.1 p.2)) (λp=>size p.1<=1000/\size p.2<=1000)
noncomputable abbrev Ahq (p:Int × Tr × Tr):List AV:=[.int .i64 p.1,A3 p.2.1,A3 p.2.2]
noncomputable def A13:=Dv Ahq (λp=>A3 (ordered p.1 p.2.1 p.2.2)) (λp=>size p.2.1<=1000/\size p.2.2<=1000)
noncomputable def A1x:=Dv Ahq (λp=>A3 (Mw p.1 p.2.1 p.2.2)) (λp=>(p.1=4\/p.1=5\/p.1=6)/\size p.2.1<=1000/\size p.2.2<=1000)
noncomputable def A1y:=Dv Ahq (λp=>A3 (Kg p.1 p.2.1 p.2.2)) (λp=>(p.1=15\/p.1=16)/\size p.2.1<=1000/\size p.2.2<=1000)
noncomputable def S66:=Dv (λt:Tr=>[A3 t]) (λt=>A3 (Jl t)) (λt=>size t<=1000)
noncomputable def Avh:=Dv Ahq (λp=>A3 (Dg p.1 p.2.1 p.2.2)) (λp=>(9<=p.1/\p.1<=12)/\size p.2.1<=1000/\size p.2.2<=1000)
noncomputable def Axe:=Dv Ahq (λp=>A3 (Ek p.1 p.2.1 p.2.2)) (λp=>(9<=p.1/\p.1<=14)/\size p.2.1<=1000/\size p.2.2<=1000)
noncomputable def S67:=Dv (λ_:Unit=>[]) (λ_=>.agg Of) (λ_=>True)
noncomputable def S29:=Dv (λt:Tr=>[A3 t]) (λt=>A3 (normal t)) (λt=>Wf t/\size t<=1000)
noncomputable def S64:=Dv (λt:Tr=>[A3 t]) (λt=>.bool (decide (9<=t.op))) (λ_=>True)
end Go.Proofs
