/- The walks of package norm's functions on plain values. -/
import Derived.Test.YtecikbfimlolcaaGreatDoorEvQa
import Derived.Test.YtecikbfimlolcaaGreatDoorEvQb
import Derived.Test.YtecikbfimlolcaaGreatDoorEvG
set_option maxRecDepth 100000
set_option linter.unusedSimpArgs false
set_option linter.unusedVariables false
namespace Go.Proofs
open Go Go.Ev Go.Nm
attribute [local irreducible] Aa Aj Ah Ac
variable (ctx:Ae) (N:Nat)
abbrev Run (g:FuncId) (args:List AV) (n:Nat) (h:H) (u:AV):Prop:=Sx.Comes (An Tryz.prog ctx N true g args h) (Sx.Out n h u)
theorem mul_bound {a b:Int} (ha:-1000000000<=a/\a<=1000000000) (hb:-1000000000<=b/\b<=1000000000):-1000000000000000000<=a * b/\a * b<=1000000000000000000:=by
 have h1:a.natAbs<=1000000000:=by omega
 have h2:b.natAbs<=1000000000:=by omega
 have h3:(a * b).natAbs<=1000000000 * 1000000000:=by rw [Int.natAbs_mul];exact Nat.mul_le_mul h1 h2
 omega
theorem n350 (o:Int) (x:AV) (h:H) (hr:h.nx+8<=Bh):Run ctx N 350 [.agg [.int .i64 o,x]] 8 h (.int .i64 o):=by
 unfold Run;rw [e350]
 have h1:h.nx<Bh:=by omega
 repeat' (first|with_reducible (first|apply D3|apply D4|apply D5|apply D6)|(with_reducible (first|apply yb1|apply yb2|apply yb3|apply yb4);(conv=>lhs;simp (disch:=first|exact Ch|fail) [lc, *]);with_reducible (first|apply D3|apply D4|apply D5|apply D6|apply ya5|(refine ya6 (by simp) ?_)|(apply ya7<;>intro hc)))|(with_reducible (first|apply yd1|apply yd2|apply yd3|apply yd4)<;>intro hc))
 (all_goals with_reducible refine Sx.At ?_ ?_ ?_ ?_;all_goals exact finB)
theorem n353 (o:Int) (x y:AV) (h:H) (hr:h.nx+8<=Bh):Run ctx N 353 [.agg [.int .i64 o,x,y]] 8 h (.int .i64 o):=by
 unfold Run;rw [e353]
 have h1:h.nx<Bh:=by omega
 repeat' (first|with_reducible (first|apply D3|apply D4|apply D5|apply D6)|(with_reducible (first|apply yb1|apply yb2|apply yb3|apply yb4);(conv=>lhs;simp (disch:=first|exact Ch|fail) [lc, *]);with_reducible (first|apply D3|apply D4|apply D5|apply D6|apply ya5|(refine ya6 (by simp) ?_)|(apply ya7<;>intro hc)))|(with_reducible (first|apply yd1|apply yd2|apply yd3|apply yd4)<;>intro hc))
 (all_goals with_reducible refine Sx.At ?_ ?_ ?_ ?_;all_goals exact finB)
theorem n355 (x y z:AV) (h:H) (hr:h.nx+8<=Bh):Run ctx N 355 [.agg [x,y,z]] 8 h (.int .i64 8):=by
 unfold Run;rw [e355]
 have h1:h.nx<Bh:=by omega
 repeat' (first|with_reducible (first|apply D3|apply D4|apply D5|apply D6)|(with_reducible (first|apply yb1|apply yb2|apply yb3|apply yb4);(conv=>lhs;simp (disch:=first|exact Ch|fail) [lc, *]);with_reducible (first|apply D3|apply D4|apply D5|apply D6|apply ya5|(refine ya6 (by simp) ?_)|(apply ya7<;>intro hc)))|(with_reducible (first|apply yd1|apply yd2|apply yd3|apply yd4)<;>intro hc))
 (all_goals with_reducible refine Sx.At ?_ ?_ ?_ ?_;all_goals exact finB)
theorem n357 (x:Nd) (h:H) (hr:h.nx+8<=Bh):Run ctx N 357 [.agg (Bq x)] 8 h (.int .i64 x.op):=by
 unfold Run;rw [e357]
 have h1:h.nx<Bh:=by omega
 repeat' (first|with_reducible (first|apply D3|apply D4|apply D5|apply D6)|(with_reducible (first|apply yb1|apply yb2|apply yb3|apply yb4);(conv=>lhs;simp (disch:=first|exact Ch|fail) [lc, *,Bq]);with_reducible (first|apply D3|apply D4|apply D5|apply D6|apply ya5|(refine ya6 (by simp) ?_)|(apply ya7<;>intro hc)))|(with_reducible (first|apply yd1|apply yd2|apply yd3|apply yd4)<;>intro hc))
 (all_goals with_reducible refine Sx.At ?_ ?_ ?_ ?_;all_goals exact finB)
theorem n109leaf (x:Nd) (h:H) (hr:h.nx+8<=Bh):Run ctx N 109 [Ax (.leaf x)] 8 h (.Bl [.int .i64 (value (.leaf x)).1,.bool (value (.leaf x)).2]):=by
 unfold Run;rw [e109]
 have h1:h.nx<Bh:=by omega
 unfold Ax
 repeat' (first|with_reducible (first|apply D3|apply D4|apply D5|apply D6)|(with_reducible (first|apply yb1|apply yb2|apply yb3|apply yb4);(conv=>lhs;simp (disch:=first|exact Ch|fail) [lc, *,Bq]);with_reducible (first|apply D3|apply D4|apply D5|apply D6|apply ya5|(refine ya6 (by simp) ?_)|(apply ya7<;>intro hc)))|(with_reducible (first|apply yd1|apply yd2|apply yd3|apply yd4)<;>intro hc))
 (all_goals with_reducible refine Sx.At ?_ ?_ ?_ ?_;all_goals first|exact finA|(simp only [decide_eq_true_eq,decide_eq_false_iff_not] at *;simp [*,value];done)|(simp_all [value];done)|(simp_all [value];omega))
abbrev HOp:Prop:=∀ (t:Tr) (h:H),aMeth Tryz.prog ctx (Ax t) (mnm Tryz.prog 109 1) [] h=.ok (.int .i64 t.op) h
abbrev H109:Prop:=∀ (t:Tr) (h:H),ctx.call 109 [Ax t] h=.ok (.Bl [.int .i64 (value t).1,.bool (value t).2]) h
abbrev H69:Prop:=∀ (n:Int) (h:H),ctx.call 69 [.int .i64 n] h=.ok (Ax (num n)) h
abbrev H110:Prop:=∀ (n:Int) (h:H),-9223372036854775808<n->n<=9223372036854775807->ctx.call 110 [.int .i64 n] h=.ok (repO (constant n)) h
abbrev H174:Prop:=∀ (o:Int) (a b:Tr) (h:H),o=4\/o=5\/o=6->ctx.call 174 [.int .i64 o,Ax a,Ax b] h=.ok (repO (arith o a b)) h
abbrev H175:Prop:=∀ (t:Tr) (n:Int) (h:H),ctx.call 175 [Ax t,.int .i64 n] h=.ok (.bool (isV t n)) h
abbrev H65:Prop:=∀ (t:Tr) (h:H),ctx.call 65 [Ax t] h=.ok (Ax (neg t)) h
abbrev H66:Prop:=∀ (t:Tr) (h:H),size t<=1000->ctx.call 66 [Ax t] h=.ok (Ax (nott t)) h
abbrev H68:Prop:=∀ (a b:Tr) (h:H),size a<=1000->size b<=1000->ctx.call 68 [Ax a,Ax b] h=.ok (.int .i64 (compare a b)) h
abbrev H30:Prop:=∀ (a b:Tr) (h:H),size a<=1000->size b<=1000->ctx.call 30 [Ax a,Ax b] h=.ok (.bool (same a b)) h
abbrev H31:Prop:=∀ (b:Bool) (h:H),ctx.call 31 [.bool b] h=.ok (Ax (fixed b)) h
abbrev H176:Prop:=∀ (o:Int) (a b:Tr) (h:H),size a<=1000->size b<=1000->ctx.call 176 [.int .i64 o,Ax a,Ax b] h=.ok (Ax (ordered o a b)) h
abbrev H111:Prop:=∀ (o:Int) (a b:Tr) (h:H),o=4\/o=5\/o=6->size a<=1000->size b<=1000->ctx.call 111 [.int .i64 o,Ax a,Ax b] h=.ok (Ax (sums o a b)) h
abbrev H112:Prop:=∀ (o:Int) (a b:Tr) (h:H),9<=o/\o<=14->size a<=1000->size b<=1000->ctx.call 112 [.int .i64 o,Ax a,Ax b] h=.ok (Ax (Ea o a b)) h
abbrev H113:Prop:=∀ (o:Int) (a b:Tr) (h:H),o=15\/o=16->size a<=1000->size b<=1000->ctx.call 113 [.int .i64 o,Ax a,Ax b] h=.ok (Ax (joins o a b)) h
theorem n109one (o:Int) (a:Tr) (C2:HOp ctx) (hrec:∀ h,ctx.call 109 [Ax a] h=.ok (.Bl [.int .i64 (value a).1,.bool (value a).2]) h) (h:H) (hr:h.nx+8<=Bh):
 Run ctx N 109 [Ax (.one o a)] 8 h (.Bl [.int .i64 (value (.one o a)).1,.bool (value (.one o a)).2]):=by
 rw [show Ax (.one o a)=.ifc 109 (.agg [.int .i64 o,Ax a]) from rfl]
 unfold Run;rw [e109]
 have h1:h.nx<Bh:=by omega
 cases hv:(value a).2 with
 |false=>
  rw [hv] at hrec
  repeat' (first|with_reducible (first|apply D3|apply D4|apply D5|apply D6)|(with_reducible (first|apply yb1|apply yb2|apply yb3|apply yb4);(conv=>lhs;simp (disch:=first|exact Ch|fail) [lc, *,C2,hrec]);with_reducible (first|apply D3|apply D4|apply D5|apply D6|apply ya5|(refine ya6 (by simp) ?_)|(apply ya7<;>intro hc)))|(with_reducible (first|apply yd1|apply yd2|apply yd3|apply yd4)<;>intro hc))
  (all_goals with_reducible refine Sx.At ?_ ?_ ?_ ?_;all_goals first|exact finA|(simp only [decide_eq_true_eq,decide_eq_false_iff_not] at *;simp [*,value];done)|(simp_all [value];done)|(simp_all [value];omega))
 |true=>
  rw [hv] at hrec
  have hb:=Gm a hv
  have hw:Ga .i64 (-(value a).1)=-(value a).1:=by rw [Sx.Cg]<;>omega
  repeat' (first|with_reducible (first|apply D3|apply D4|apply D5|apply D6)|(with_reducible (first|apply yb1|apply yb2|apply yb3|apply yb4);(conv=>lhs;simp (disch:=first|exact Ch|fail) [lc, *,C2,hrec]);with_reducible (first|apply D3|apply D4|apply D5|apply D6|apply ya5|(refine ya6 (by simp) ?_)|(apply ya7<;>intro hc)))|(with_reducible (first|apply yd1|apply yd2|apply yd3|apply yd4)<;>intro hc))
  (all_goals with_reducible refine Sx.At ?_ ?_ ?_ ?_;all_goals first|exact finA|(simp only [decide_eq_true_eq,decide_eq_false_iff_not] at *;simp [*,value];done)|(simp_all [value];done)|(simp_all [value];omega))
theorem n109two (o:Int) (a b:Tr) (h:H) (hr:h.nx+8<=Bh):Run ctx N 109 [Ax (.two o a b)] 8 h (.Bl [.int .i64 0,.bool false]):=by
 rw [show Ax (.two o a b)=.ifc 111 (.agg [.int .i64 o,Ax a,Ax b]) from rfl]
 unfold Run;rw [e109]
 have h1:h.nx<Bh:=by omega
 repeat' (first|with_reducible (first|apply D3|apply D4|apply D5|apply D6)|(with_reducible (first|apply yb1|apply yb2|apply yb3|apply yb4);(conv=>lhs;simp (disch:=first|exact Ch|fail) [lc, *]);with_reducible (first|apply D3|apply D4|apply D5|apply D6|apply ya5|(refine ya6 (by simp) ?_)|(apply ya7<;>intro hc)))|(with_reducible (first|apply yd1|apply yd2|apply yd3|apply yd4)<;>intro hc))
 (all_goals with_reducible refine Sx.At ?_ ?_ ?_ ?_;all_goals exact finB)
theorem n109three (c a b:Tr) (h:H) (hr:h.nx+8<=Bh):Run ctx N 109 [Ax (.three c a b)] 8 h (.Bl [.int .i64 0,.bool false]):=by
 rw [show Ax (.three c a b)=.ifc 116 (.agg [Ax c,Ax a,Ax b]) from rfl]
 unfold Run;rw [e109]
 have h1:h.nx<Bh:=by omega
 repeat' (first|with_reducible (first|apply D3|apply D4|apply D5|apply D6)|(with_reducible (first|apply yb1|apply yb2|apply yb3|apply yb4);(conv=>lhs;simp (disch:=first|exact Ch|fail) [lc, *]);with_reducible (first|apply D3|apply D4|apply D5|apply D6|apply ya5|(refine ya6 (by simp) ?_)|(apply ya7<;>intro hc)))|(with_reducible (first|apply yd1|apply yd2|apply yd3|apply yd4)<;>intro hc))
 (all_goals with_reducible refine Sx.At ?_ ?_ ?_ ?_;all_goals exact finB)
theorem n69 (n:Int) (h:H) (hr:h.nx+8<=Bh):Run ctx N 69 [.int .i64 n] 8 h (Ax (num n)):=by
 unfold Run;rw [e69]
 repeat' (first|with_reducible (first|apply D3|apply D4|apply D5|apply D6)|(with_reducible (first|apply yb1|apply yb2|apply yb3|apply yb4);(conv=>lhs;simp (disch:=first|exact Ch|fail) [lc, *]);with_reducible (first|apply D3|apply D4|apply D5|apply D6|apply ya5|(refine ya6 (by simp) ?_)|(apply ya7<;>intro hc)))|(with_reducible (first|apply yd1|apply yd2|apply yd3|apply yd4)<;>intro hc))
 (all_goals with_reducible refine Sx.At ?_ ?_ ?_ ?_;all_goals first|exact finA|(simp only [decide_eq_true_eq,decide_eq_false_iff_not] at *;simp [*,Ax,num];done)|(simp_all [Ax,num];done)|(simp_all [Ax,num];omega))
theorem n64 (C2:HOp ctx) (t:Tr) (h:H) (hr:h.nx+8<=Bh):Run ctx N 64 [Ax t] 8 h (.bool (decide (9<=t.op))):=by
 unfold Run;rw [e64]
 repeat' (first|with_reducible (first|apply D3|apply D4|apply D5|apply D6)|(with_reducible (first|apply yb1|apply yb2|apply yb3|apply yb4);(conv=>lhs;simp (disch:=first|exact Ch|fail) [lc, *,C2]);with_reducible (first|apply D3|apply D4|apply D5|apply D6|apply ya5|(refine ya6 (by simp) ?_)|(apply ya7<;>intro hc)))|(with_reducible (first|apply yd1|apply yd2|apply yd3|apply yd4)<;>intro hc))
 (all_goals with_reducible refine Sx.At ?_ ?_ ?_ ?_;all_goals exact finB)
theorem n31 (h69:H69 ctx) (b:Bool) (h:H) (hr:h.nx+8<=Bh):Run ctx N 31 [.bool b] 8 h (Ax (fixed b)):=by
 unfold Run;rw [e31]
 repeat' (first|with_reducible (first|apply D3|apply D4|apply D5|apply D6)|(with_reducible (first|apply yb1|apply yb2|apply yb3|apply yb4);(conv=>lhs;simp (disch:=first|exact Ch|fail) [lc, *,h69]);with_reducible (first|apply D3|apply D4|apply D5|apply D6|apply ya5|(refine ya6 (by simp) ?_)|(apply ya7<;>intro hc)))|(with_reducible (first|apply yd1|apply yd2|apply yd3|apply yd4)<;>intro hc))
 (all_goals with_reducible refine Sx.At ?_ ?_ ?_ ?_;all_goals first|exact finA|(simp only [decide_eq_true_eq,decide_eq_false_iff_not] at *;simp [*,Ax,fixed];done)|(simp_all [Ax,fixed];done)|(simp_all [Ax,fixed];omega))
theorem n30 (h68:H68 ctx) (a b:Tr) (ha:size a<=1000) (hb:size b<=1000) (h:H) (hr:h.nx+8<=Bh):Run ctx N 30 [Ax a,Ax b] 8 h (.bool (same a b)):=by
 unfold Run;rw [e30]
 repeat' (first|with_reducible (first|apply D3|apply D4|apply D5|apply D6)|(with_reducible (first|apply yb1|apply yb2|apply yb3|apply yb4);(conv=>lhs;simp (disch:=first|exact Ch|fail) [lc, *,h68]);with_reducible (first|apply D3|apply D4|apply D5|apply D6|apply ya5|(refine ya6 (by simp) ?_)|(apply ya7<;>intro hc)))|(with_reducible (first|apply yd1|apply yd2|apply yd3|apply yd4)<;>intro hc))
 (all_goals with_reducible refine Sx.At ?_ ?_ ?_ ?_;all_goals first|exact finA|(simp only [decide_eq_true_eq,decide_eq_false_iff_not] at *;simp [*,same];done)|(simp_all [same];done)|(simp_all [same];omega))
theorem n176 (h68:H68 ctx) (o:Int) (a b:Tr) (ha:size a<=1000) (hb:size b<=1000) (h:H) (hr:h.nx+8<=Bh):Run ctx N 176 [.int .i64 o,Ax a,Ax b] 8 h (Ax (ordered o a b)):=by
 unfold Run;rw [e176]
 repeat' (first|with_reducible (first|apply D3|apply D4|apply D5|apply D6)|(with_reducible (first|apply yb1|apply yb2|apply yb3|apply yb4);(conv=>lhs;simp (disch:=first|exact Ch|fail) [lc, *,h68]);with_reducible (first|apply D3|apply D4|apply D5|apply D6|apply ya5|(refine ya6 (by simp) ?_)|(apply ya7<;>intro hc)))|(with_reducible (first|apply yd1|apply yd2|apply yd3|apply yd4)<;>intro hc))
 (all_goals with_reducible refine Sx.At ?_ ?_ ?_ ?_;all_goals first|exact finA|(simp only [decide_eq_true_eq,decide_eq_false_iff_not] at *;simp [*,ordered,Ax];done)|(simp_all [ordered,Ax];done)|(simp_all [ordered,Ax];omega))
theorem n175 (h109:H109 ctx) (t:Tr) (n:Int) (h:H) (hr:h.nx+8<=Bh):Run ctx N 175 [Ax t,.int .i64 n] 8 h (.bool (isV t n)):=by
 unfold Run;rw [e175]
 repeat' (first|with_reducible (first|apply D3|apply D4|apply D5|apply D6)|(with_reducible (first|apply yb1|apply yb2|apply yb3|apply yb4);(conv=>lhs;simp (disch:=first|exact Ch|fail) [lc, *,h109]);with_reducible (first|apply D3|apply D4|apply D5|apply D6|apply ya5|(refine ya6 (by simp) ?_)|(apply ya7<;>intro hc)))|(with_reducible (first|apply yd1|apply yd2|apply yd3|apply yd4)<;>intro hc))
 (all_goals with_reducible refine Sx.At ?_ ?_ ?_ ?_;all_goals first|exact finA|(simp only [decide_eq_true_eq,decide_eq_false_iff_not] at *;simp [*,isV];done)|(simp_all [isV];done)|(simp_all [isV];omega))
theorem n110 (h69:H69 ctx) (n:Int) (h1:-9223372036854775808<n) (h2:n<=9223372036854775807) (h:H) (hr:h.nx+8<=Bh):Run ctx N 110 [.int .i64 n] 8 h (repO (constant n)):=by
 have hw:Ga .i64 (-n)=-n:=by rw [Sx.Cg]<;>omega
 unfold Run;rw [e110]
 repeat' (first|with_reducible (first|apply D3|apply D4|apply D5|apply D6)|(with_reducible (first|apply yb1|apply yb2|apply yb3|apply yb4);(conv=>lhs;simp (disch:=first|exact Ch|fail) [lc, *,h69]);with_reducible (first|apply D3|apply D4|apply D5|apply D6|apply ya5|(refine ya6 (by simp) ?_)|(apply ya7<;>intro hc)))|(with_reducible (first|apply yd1|apply yd2|apply yd3|apply yd4)<;>intro hc))
 (all_goals with_reducible refine Sx.At ?_ ?_ ?_ ?_;all_goals first|exact finA|(simp only [decide_eq_true_eq,decide_eq_false_iff_not] at *;simp [*,constant,Dv,Ax];done)|(simp_all [constant,Dv,Ax];done)|(simp_all [constant,Dv,Ax];omega))
theorem n174 (h109:H109 ctx) (h110:H110 ctx) (o:Int) (ho:o=4\/o=5\/o=6) (a b:Tr) (h:H) (hr:h.nx+8<=Bh):Run ctx N 174 [.int .i64 o,Ax a,Ax b] 8 h (repO (arith o a b)):=by
 unfold Run;rw [e174]
 cases hv:(value a).2 with
 |false=>
  repeat' (first|with_reducible (first|apply D3|apply D4|apply D5|apply D6)|(with_reducible (first|apply yb1|apply yb2|apply yb3|apply yb4);(conv=>lhs;simp (disch:=first|exact Ch|fail) [lc, *,h109,hv]);with_reducible (first|apply D3|apply D4|apply D5|apply D6|apply ya5|(refine ya6 (by simp) ?_)|(apply ya7<;>intro hc)))|(with_reducible (first|apply yd1|apply yd2|apply yd3|apply yd4)<;>intro hc))
  (all_goals with_reducible refine Sx.At ?_ ?_ ?_ ?_;all_goals first|exact finA|(simp only [decide_eq_true_eq,decide_eq_false_iff_not] at *;simp [*,arith,Dv];done)|(simp_all [arith,Dv];done)|(simp_all [arith,Dv];omega))
 |true=>
  have hb:=Gm a hv
  cases hu:(value b).2 with
  |false=>
   repeat' (first|with_reducible (first|apply D3|apply D4|apply D5|apply D6)|(with_reducible (first|apply yb1|apply yb2|apply yb3|apply yb4);(conv=>lhs;simp (disch:=first|exact Ch|fail) [lc, *,h109,hv,hu]);with_reducible (first|apply D3|apply D4|apply D5|apply D6|apply ya5|(refine ya6 (by simp) ?_)|(apply ya7<;>intro hc)))|(with_reducible (first|apply yd1|apply yd2|apply yd3|apply yd4)<;>intro hc))
   (all_goals with_reducible refine Sx.At ?_ ?_ ?_ ?_;all_goals first|exact finA|(simp only [decide_eq_true_eq,decide_eq_false_iff_not] at *;simp [*,arith,Dv];done)|(simp_all [arith,Dv];done)|(simp_all [arith,Dv];omega))
  |true=>
   have hc:=Gm b hu
   have hw1:Ga .i64 ((value a).1+(value b).1)=(value a).1+(value b).1:=by rw [Sx.Cg]<;>omega
   have hw2:Ga .i64 ((value a).1 - (value b).1)=(value a).1 - (value b).1:=by rw [Sx.Cg]<;>omega
   have hm:-1000000000000000000<=(value a).1 * (value b).1/\(value a).1 * (value b).1<=1000000000000000000:=mul_bound hb hc
   have hw3:Ga .i64 ((value a).1 * (value b).1)=(value a).1 * (value b).1:=by rw [Sx.Cg]<;>omega
   rcases ho with rfl|rfl|rfl
   . have h110':=fun h=>h110 ((value a).1+(value b).1) h (by omega) (by omega)
     repeat' (first|with_reducible (first|apply D3|apply D4|apply D5|apply D6)|(with_reducible (first|apply yb1|apply yb2|apply yb3|apply yb4);(conv=>lhs;simp (disch:=first|exact Ch|fail) [lc, *,h109,hv,hu,hw1,h110']);with_reducible (first|apply D3|apply D4|apply D5|apply D6|apply ya5|(refine ya6 (by simp) ?_)|(apply ya7<;>intro hc)))|(with_reducible (first|apply yd1|apply yd2|apply yd3|apply yd4)<;>intro hc))
     (all_goals with_reducible refine Sx.At ?_ ?_ ?_ ?_;all_goals first|exact finA|(simp only [decide_eq_true_eq,decide_eq_false_iff_not] at *;simp [*,arith,Dv];done)|(simp_all [arith,Dv];done)|(simp_all [arith,Dv];omega))
   . have h110':=fun h=>h110 ((value a).1 - (value b).1) h (by omega) (by omega)
     repeat' (first|with_reducible (first|apply D3|apply D4|apply D5|apply D6)|(with_reducible (first|apply yb1|apply yb2|apply yb3|apply yb4);(conv=>lhs;simp (disch:=first|exact Ch|fail) [lc, *,h109,hv,hu,hw2,h110']);with_reducible (first|apply D3|apply D4|apply D5|apply D6|apply ya5|(refine ya6 (by simp) ?_)|(apply ya7<;>intro hc)))|(with_reducible (first|apply yd1|apply yd2|apply yd3|apply yd4)<;>intro hc))
     (all_goals with_reducible refine Sx.At ?_ ?_ ?_ ?_;all_goals first|exact finA|(simp only [decide_eq_true_eq,decide_eq_false_iff_not] at *;simp [*,arith,Dv];done)|(simp_all [arith,Dv];done)|(simp_all [arith,Dv];omega))
   . have h110':=fun h=>h110 ((value a).1 * (value b).1) h (by omega) (by omega)
     repeat' (first|with_reducible (first|apply D3|apply D4|apply D5|apply D6)|(with_reducible (first|apply yb1|apply yb2|apply yb3|apply yb4);(conv=>lhs;simp (disch:=first|exact Ch|fail) [lc, *,h109,hv,hu,hw3,h110']);with_reducible (first|apply D3|apply D4|apply D5|apply D6|apply ya5|(refine ya6 (by simp) ?_)|(apply ya7<;>intro hc)))|(with_reducible (first|apply yd1|apply yd2|apply yd3|apply yd4)<;>intro hc))
     (all_goals with_reducible refine Sx.At ?_ ?_ ?_ ?_;all_goals first|exact finA|(simp only [decide_eq_true_eq,decide_eq_false_iff_not] at *;simp [*,arith,Dv];done)|(simp_all [arith,Dv];done)|(simp_all [arith,Dv];omega))
noncomputable def negJ (a:Tr):Tr:=
 match a with
 |.one o x=>if o=7 then x else .one 7 a
 |_=>.one 7 a
theorem neg_none {a:Tr} (hn:(if (value a).2 then constant (-(value a).1) else none)=none):neg a=negJ a:=by
 unfold neg negJ
 rw [hn]
 rfl
theorem nJ65 (a:Tr) (f0:L2) (hn:(if (value a).2 then constant (-(value a).1) else none)=none) (h:H) (hr:h.nx+8<=Bh):Sx.Comes (J65x1 ctx N (Ax a) f0 h) (Sx.Out 8 h (Ax (neg a))):=by
 rw [J65x1s,neg_none hn]
 have h1:h.nx<Bh:=by omega
 cases a<;>simp only [Ax]
 all_goals repeat' (first|with_reducible (first|apply D3|apply D4|apply D5|apply D6)|(with_reducible (first|apply yb1|apply yb2|apply yb3|apply yb4);(conv=>lhs;simp (disch:=first|exact Ch|fail) [lc, *]);with_reducible (first|apply D3|apply D4|apply D5|apply D6|apply ya5|(refine ya6 (by simp) ?_)|(apply ya7<;>intro hc)))|(with_reducible (first|apply yd1|apply yd2|apply yd3|apply yd4)<;>intro hc))
 (all_goals with_reducible refine Sx.At ?_ ?_ ?_ ?_;all_goals first|exact finA|(simp only [decide_eq_true_eq,decide_eq_false_iff_not] at *;simp [*,Ax,negJ];done)|(simp_all [Ax,negJ];done)|(simp_all [Ax,negJ];omega))
theorem n65 (h109:H109 ctx) (h110:H110 ctx) (a:Tr) (h:H) (hr:h.nx+8<=Bh):Run ctx N 65 [Ax a] 8 h (Ax (neg a)):=by
 unfold Run;rw [e65]
 have h1:h.nx<Bh:=by omega
 cases hv:(value a).2 with
 |false=>
  repeat' (first|with_reducible (first|apply D3|apply D4|apply D5|apply D6)|(with_reducible (first|apply yb1|apply yb2|apply yb3|apply yb4);(conv=>lhs;simp (disch:=first|exact Ch|fail) [lc, *,h109,hv]);with_reducible (first|apply D3|apply D4|apply D5|apply D6|apply ya5|(refine ya6 (by simp) ?_)|(apply ya7<;>intro hc)))|(with_reducible (first|apply yd1|apply yd2|apply yd3|apply yd4)<;>intro hc))
  exact nJ65 ctx N a _ (by rw [hv];rfl) h hr
 |true=>
  have hb:=Gm a hv
  have hw:Ga .i64 (-(value a).1)=-(value a).1:=by rw [Sx.Cg]<;>omega
  have h110':=fun h=>h110 (-(value a).1) h (by omega) (by omega)
  cases hk:constant (-(value a).1) with
  |none=>
   repeat' (first|with_reducible (first|apply D3|apply D4|apply D5|apply D6)|(with_reducible (first|apply yb1|apply yb2|apply yb3|apply yb4);(conv=>lhs;simp (disch:=first|exact Ch|fail) [lc, *,h109,hv,hw,h110',hk]);with_reducible (first|apply D3|apply D4|apply D5|apply D6|apply ya5|(refine ya6 (by simp) ?_)|(apply ya7<;>intro hc)))|(with_reducible (first|apply yd1|apply yd2|apply yd3|apply yd4)<;>intro hc))
   exact nJ65 ctx N a _ (by rw [hv,hk];rfl) h hr
  |some t=>
   repeat' (first|with_reducible (first|apply D3|apply D4|apply D5|apply D6)|(with_reducible (first|apply yb1|apply yb2|apply yb3|apply yb4);(conv=>lhs;simp (disch:=first|exact Ch|fail) [lc, *,h109,hv,hw,h110',hk]);with_reducible (first|apply D3|apply D4|apply D5|apply D6|apply ya5|(refine ya6 (by simp) ?_)|(apply ya7<;>intro hc)))|(with_reducible (first|apply yd1|apply yd2|apply yd3|apply yd4)<;>intro hc))
   (all_goals with_reducible refine Sx.At ?_ ?_ ?_ ?_;all_goals first|exact finA|(simp only [decide_eq_true_eq,decide_eq_false_iff_not] at *;simp [*,neg,Dv];done)|(simp_all [neg,Dv];done)|(simp_all [neg,Dv];omega))
abbrev H1:Prop:=H109 ctx/\H30 ctx/\H65 ctx/\H69 ctx/\H174 ctx/\H175 ctx/\H176 ctx
theorem n111 (h30:H30 ctx) (h65:H65 ctx) (h69:H69 ctx) (h174:H174 ctx) (h175:H175 ctx) (h176:H176 ctx) (o:Int) (ho:o=4\/o=5\/o=6) (a b:Tr) (ha:size a<=1000) (hb:size b<=1000) (h:H) (hr:h.nx+8<=Bh):
 Run ctx N 111 [.int .i64 o,Ax a,Ax b] 8 h (Ax (sums o a b)):=by
 unfold Run;rw [e111]
 cases hk:arith o a b with
 |some t=>
  repeat' (first|with_reducible (first|apply D3|apply D4|apply D5|apply D6)|(with_reducible (first|apply yb1|apply yb2|apply yb3|apply yb4);(conv=>lhs;simp (disch:=first|exact Ch|fail) [lc, *,h174,hk]);with_reducible (first|apply D3|apply D4|apply D5|apply D6|apply ya5|(refine ya6 (by simp) ?_)|(apply ya7<;>intro hc)))|(with_reducible (first|apply yd1|apply yd2|apply yd3|apply yd4)<;>intro hc))
  (all_goals with_reducible refine Sx.At ?_ ?_ ?_ ?_;all_goals first|exact finA|(simp only [decide_eq_true_eq,decide_eq_false_iff_not] at *;simp [*,sums,Dv];done)|(simp_all [sums,Dv];done)|(simp_all [sums,Dv];omega))
 |none=>
  rcases ho with rfl|rfl|rfl
  . repeat' (first|with_reducible (first|apply D3|apply D4|apply D5|apply D6)|(with_reducible (first|apply yb1|apply yb2|apply yb3|apply yb4);(conv=>lhs;simp (disch:=first|exact Ch|fail) [lc, *,h174,hk,h175,h30,h65,h69,h176]);with_reducible (first|apply D3|apply D4|apply D5|apply D6|apply ya5|(refine ya6 (by simp) ?_)|(apply ya7<;>intro hc)))|(with_reducible (first|apply yd1|apply yd2|apply yd3|apply yd4)<;>intro hc))
    all_goals rw [J111x1s]
    all_goals repeat' (first|with_reducible (first|apply D3|apply D4|apply D5|apply D6)|(with_reducible (first|apply yb1|apply yb2|apply yb3|apply yb4);(conv=>lhs;simp (disch:=first|exact Ch|fail) [lc, *,h175,h176]);with_reducible (first|apply D3|apply D4|apply D5|apply D6|apply ya5|(refine ya6 (by simp) ?_)|(apply ya7<;>intro hc)))|(with_reducible (first|apply yd1|apply yd2|apply yd3|apply yd4)<;>intro hc))
    all_goals try rw [J111x2s]
    all_goals repeat' (first|with_reducible (first|apply D3|apply D4|apply D5|apply D6)|(with_reducible (first|apply yb1|apply yb2|apply yb3|apply yb4);(conv=>lhs;simp (disch:=first|exact Ch|fail) [lc, *,h175,h176,h69]);with_reducible (first|apply D3|apply D4|apply D5|apply D6|apply ya5|(refine ya6 (by simp) ?_)|(apply ya7<;>intro hc)))|(with_reducible (first|apply yd1|apply yd2|apply yd3|apply yd4)<;>intro hc))
    (all_goals with_reducible refine Sx.At ?_ ?_ ?_ ?_;all_goals first|exact finA|(simp only [decide_eq_true_eq,decide_eq_false_iff_not] at *;simp [*,sums,Dv];done)|(simp_all [sums,Dv];done)|(simp_all [sums,Dv];omega))
  . repeat' (first|with_reducible (first|apply D3|apply D4|apply D5|apply D6)|(with_reducible (first|apply yb1|apply yb2|apply yb3|apply yb4);(conv=>lhs;simp (disch:=first|exact Ch|fail) [lc, *,h174,hk,h175,h30,h65,h69,h176]);with_reducible (first|apply D3|apply D4|apply D5|apply D6|apply ya5|(refine ya6 (by simp) ?_)|(apply ya7<;>intro hc)))|(with_reducible (first|apply yd1|apply yd2|apply yd3|apply yd4)<;>intro hc))
    (all_goals with_reducible refine Sx.At ?_ ?_ ?_ ?_;all_goals first|exact finA|(simp only [decide_eq_true_eq,decide_eq_false_iff_not] at *;simp [*,sums,Dv,Ax];done)|(simp_all [sums,Dv,Ax];done)|(simp_all [sums,Dv,Ax];omega))
  . repeat' (first|with_reducible (first|apply D3|apply D4|apply D5|apply D6)|(with_reducible (first|apply yb1|apply yb2|apply yb3|apply yb4);(conv=>lhs;simp (disch:=first|exact Ch|fail) [lc, *,h174,hk,h175,h30,h65,h69,h176]);with_reducible (first|apply D3|apply D4|apply D5|apply D6|apply ya5|(refine ya6 (by simp) ?_)|(apply ya7<;>intro hc)))|(with_reducible (first|apply yd1|apply yd2|apply yd3|apply yd4)<;>intro hc))
    all_goals rw [J111x1s]
    all_goals repeat' (first|with_reducible (first|apply D3|apply D4|apply D5|apply D6)|(with_reducible (first|apply yb1|apply yb2|apply yb3|apply yb4);(conv=>lhs;simp (disch:=first|exact Ch|fail) [lc, *,h175,h176]);with_reducible (first|apply D3|apply D4|apply D5|apply D6|apply ya5|(refine ya6 (by simp) ?_)|(apply ya7<;>intro hc)))|(with_reducible (first|apply yd1|apply yd2|apply yd3|apply yd4)<;>intro hc))
    all_goals try rw [J111x2s]
    all_goals repeat' (first|with_reducible (first|apply D3|apply D4|apply D5|apply D6)|(with_reducible (first|apply yb1|apply yb2|apply yb3|apply yb4);(conv=>lhs;simp (disch:=first|exact Ch|fail) [lc, *,h175,h176,h69]);with_reducible (first|apply D3|apply D4|apply D5|apply D6|apply ya5|(refine ya6 (by simp) ?_)|(apply ya7<;>intro hc)))|(with_reducible (first|apply yd1|apply yd2|apply yd3|apply yd4)<;>intro hc))
    (all_goals with_reducible refine Sx.At ?_ ?_ ?_ ?_;all_goals first|exact finA|(simp only [decide_eq_true_eq,decide_eq_false_iff_not] at *;simp [*,sums,Dv];done)|(simp_all [sums,Dv];done)|(simp_all [sums,Dv];omega))
theorem n113 (h30:H30 ctx) (h31:H31 ctx) (h176:H176 ctx) (o:Int) (ho:o=15\/o=16) (a b:Tr) (ha:size a<=1000) (hb:size b<=1000) (h:H) (hr:h.nx+8<=Bh):Run ctx N 113 [.int .i64 o,Ax a,Ax b] 8 h (Ax (joins o a b)):=by
 unfold Run;rw [e113]
 have hf1:size (fixed true)<=1000:=by rw [A2];omega
 have hf2:size (fixed false)<=1000:=by rw [A2];omega
 rcases ho with rfl|rfl
 . repeat' (first|with_reducible (first|apply D3|apply D4|apply D5|apply D6)|(with_reducible (first|apply yb1|apply yb2|apply yb3|apply yb4);(conv=>lhs;simp (disch:=first|exact Ch|fail) [lc, *,h30,h31,h176]);with_reducible (first|apply D3|apply D4|apply D5|apply D6|apply ya5|(refine ya6 (by simp) ?_)|(apply ya7<;>intro hc)))|(with_reducible (first|apply yd1|apply yd2|apply yd3|apply yd4)<;>intro hc))
   all_goals try rw [J113x1s]
   all_goals repeat' (first|with_reducible (first|apply D3|apply D4|apply D5|apply D6)|(with_reducible (first|apply yb1|apply yb2|apply yb3|apply yb4);(conv=>lhs;simp (disch:=first|exact Ch|fail) [lc, *,h176]);with_reducible (first|apply D3|apply D4|apply D5|apply D6|apply ya5|(refine ya6 (by simp) ?_)|(apply ya7<;>intro hc)))|(with_reducible (first|apply yd1|apply yd2|apply yd3|apply yd4)<;>intro hc))
   (all_goals with_reducible refine Sx.At ?_ ?_ ?_ ?_;all_goals first|exact finA|(simp only [decide_eq_true_eq,decide_eq_false_iff_not] at *;simp [*,joins];done)|(simp_all [joins];done)|(simp_all [joins];omega))
 . repeat' (first|with_reducible (first|apply D3|apply D4|apply D5|apply D6)|(with_reducible (first|apply yb1|apply yb2|apply yb3|apply yb4);(conv=>lhs;simp (disch:=first|exact Ch|fail) [lc, *,h30,h31,h176]);with_reducible (first|apply D3|apply D4|apply D5|apply D6|apply ya5|(refine ya6 (by simp) ?_)|(apply ya7<;>intro hc)))|(with_reducible (first|apply yd1|apply yd2|apply yd3|apply yd4)<;>intro hc))
   all_goals try rw [J113x1s]
   all_goals repeat' (first|with_reducible (first|apply D3|apply D4|apply D5|apply D6)|(with_reducible (first|apply yb1|apply yb2|apply yb3|apply yb4);(conv=>lhs;simp (disch:=first|exact Ch|fail) [lc, *,h176]);with_reducible (first|apply D3|apply D4|apply D5|apply D6|apply ya5|(refine ya6 (by simp) ?_)|(apply ya7<;>intro hc)))|(with_reducible (first|apply yd1|apply yd2|apply yd3|apply yd4)<;>intro hc))
   (all_goals with_reducible refine Sx.At ?_ ?_ ?_ ?_;all_goals first|exact finA|(simp only [decide_eq_true_eq,decide_eq_false_iff_not] at *;simp [*,joins];done)|(simp_all [joins];done)|(simp_all [joins];omega))
theorem n66 (h30:H30 ctx) (h31:H31 ctx) (a:Tr) (ha:size a<=1000) (h:H) (hr:h.nx+8<=Bh):Run ctx N 66 [Ax a] 8 h (Ax (nott a)):=by
 unfold Run;rw [e66]
 have hf1:size (fixed true)<=1000:=by rw [A2];omega
 have hf2:size (fixed false)<=1000:=by rw [A2];omega
 have h1:h.nx<Bh:=by omega
 cases hs:same a (fixed true) with
 |true=>
  repeat' (first|with_reducible (first|apply D3|apply D4|apply D5|apply D6)|(with_reducible (first|apply yb1|apply yb2|apply yb3|apply yb4);(conv=>lhs;simp (disch:=first|exact Ch|fail) [lc, *,h30,h31,hs]);with_reducible (first|apply D3|apply D4|apply D5|apply D6|apply ya5|(refine ya6 (by simp) ?_)|(apply ya7<;>intro hc)))|(with_reducible (first|apply yd1|apply yd2|apply yd3|apply yd4)<;>intro hc))
  (all_goals with_reducible refine Sx.At ?_ ?_ ?_ ?_;all_goals first|exact finA|(simp only [decide_eq_true_eq,decide_eq_false_iff_not] at *;simp [*,nott];done)|(simp_all [nott];done)|(simp_all [nott];omega))
 |false=>
  cases hs2:same a (fixed false) with
  |true=>
   repeat' (first|with_reducible (first|apply D3|apply D4|apply D5|apply D6)|(with_reducible (first|apply yb1|apply yb2|apply yb3|apply yb4);(conv=>lhs;simp (disch:=first|exact Ch|fail) [lc, *,h30,h31,hs,hs2]);with_reducible (first|apply D3|apply D4|apply D5|apply D6|apply ya5|(refine ya6 (by simp) ?_)|(apply ya7<;>intro hc)))|(with_reducible (first|apply yd1|apply yd2|apply yd3|apply yd4)<;>intro hc))
   (all_goals with_reducible refine Sx.At ?_ ?_ ?_ ?_;all_goals first|exact finA|(simp only [decide_eq_true_eq,decide_eq_false_iff_not] at *;simp [*,nott];done)|(simp_all [nott];done)|(simp_all [nott];omega))
  |false=>
   repeat' (first|with_reducible (first|apply D3|apply D4|apply D5|apply D6)|(with_reducible (first|apply yb1|apply yb2|apply yb3|apply yb4);(conv=>lhs;simp (disch:=first|exact Ch|fail) [lc, *,h30,h31,hs,hs2]);with_reducible (first|apply D3|apply D4|apply D5|apply D6|apply ya5|(refine ya6 (by simp) ?_)|(apply ya7<;>intro hc)))|(with_reducible (first|apply yd1|apply yd2|apply yd3|apply yd4)<;>intro hc))
   cases a<;>simp only [Ax]
   all_goals repeat' (first|with_reducible (first|apply D3|apply D4|apply D5|apply D6)|(with_reducible (first|apply yb1|apply yb2|apply yb3|apply yb4);(conv=>lhs;simp (disch:=first|exact Ch|fail) [lc, *]);with_reducible (first|apply D3|apply D4|apply D5|apply D6|apply ya5|(refine ya6 (by simp) ?_)|(apply ya7<;>intro hc)))|(with_reducible (first|apply yd1|apply yd2|apply yd3|apply yd4)<;>intro hc))
   (all_goals with_reducible refine Sx.At ?_ ?_ ?_ ?_;all_goals first|exact finA|(simp only [decide_eq_true_eq,decide_eq_false_iff_not] at *;simp [*,nott,Ax];done)|(simp_all [nott,Ax];done)|(simp_all [nott,Ax];omega))
theorem tk3:tk Tryz.prog 3=.int:=by kernel_rfl
theorem kc3 (x:AV):E0 Tryz.prog 3 x=true:=Sx.keyChk_int tk3 x
theorem ke3 (a b:Int):Gh Tryz.prog 3 (.int .i64 a) (.int .i64 b)=some (decide (a=b)):=Sx.keyEq_int tk3 a b
abbrev H112a:Prop:=∀ (o:Int) (a b:Tr) (h:H),9<=o/\o<=12->size a<=1000->size b<=1000->ctx.call 112 [.int .i64 o,Ax a,Ax b] h=.ok (Ax (Dq o a b)) h
theorem n112a (C2:HOp ctx) (h109:H109 ctx) (h30:H30 ctx) (h31:H31 ctx) (h176:H176 ctx) (o:Int) (ho:o=9\/o=10\/o=11\/o=12) (a b:Tr) (ha:size a<=1000) (hb:size b<=1000) (h:H) (hr:h.nx+8<=Bh):
 Run ctx N 112 [.int .i64 o,Ax a,Ax b] 8 h (Ax (Dq o a b)):=by
 unfold Run;rw [e112]
 have h1:h.nx<Bh:=by omega
 cases hv:(value a).2<;>cases hu:(value b).2<;>rcases ho with rfl|rfl|rfl|rfl
 all_goals repeat' (first|with_reducible (first|apply D3|apply D4|apply D5|apply D6)|(with_reducible (first|apply yb1|apply yb2|apply yb3|apply yb4);(conv=>lhs;simp (disch:=first|exact Ch|fail) [lc, *,h109,h30,h31,h176,C2,hv,hu,kc3,ke3,mset,mfind]);with_reducible (first|apply D3|apply D4|apply D5|apply D6|apply ya5|(refine ya6 (by simp) ?_)|(apply ya7<;>intro hc)))|(with_reducible (first|apply yd1|apply yd2|apply yd3|apply yd4)<;>intro hc))
 (all_goals with_reducible refine Sx.At ?_ ?_ ?_ ?_;all_goals first|exact finA|(simp only [decide_eq_true_eq,decide_eq_false_iff_not] at *;simp [*,Dq,Ax];done)|(simp_all [Dq,Ax];done)|(simp_all [Dq,Ax];omega))
theorem n112b (h112:H112a ctx) (o:Int) (ho:o=13\/o=14) (a b:Tr) (ha:size a<=1000) (hb:size b<=1000) (h:H) (hr:h.nx+8<=Bh):Run ctx N 112 [.int .i64 o,Ax a,Ax b] 8 h (Ax (Ea o a b)):=by
 unfold Run;rw [e112]
 have h2:=fun a b h=>h112 11 a b h (by omega)
 have h3:=fun a b h=>h112 12 a b h (by omega)
 rcases ho with rfl|rfl
 . repeat' (first|with_reducible (first|apply D3|apply D4|apply D5|apply D6)|(with_reducible (first|apply yb1|apply yb2|apply yb3|apply yb4);(conv=>lhs;simp (disch:=first|exact Ch|fail) [lc, *,h2,h3]);with_reducible (first|apply D3|apply D4|apply D5|apply D6|apply ya5|(refine ya6 (by simp) ?_)|(apply ya7<;>intro hc)))|(with_reducible (first|apply yd1|apply yd2|apply yd3|apply yd4)<;>intro hc))
   (all_goals with_reducible refine Sx.At ?_ ?_ ?_ ?_;all_goals first|exact finA|(simp only [decide_eq_true_eq,decide_eq_false_iff_not] at *;simp [*,Ea];done)|(simp_all [Ea];done)|(simp_all [Ea];omega))
 . repeat' (first|with_reducible (first|apply D3|apply D4|apply D5|apply D6)|(with_reducible (first|apply yb1|apply yb2|apply yb3|apply yb4);(conv=>lhs;simp (disch:=first|exact Ch|fail) [lc, *,h2,h3]);with_reducible (first|apply D3|apply D4|apply D5|apply D6|apply ya5|(refine ya6 (by simp) ?_)|(apply ya7<;>intro hc)))|(with_reducible (first|apply yd1|apply yd2|apply yd3|apply yd4)<;>intro hc))
   (all_goals with_reducible refine Sx.At ?_ ?_ ?_ ?_;all_goals first|exact finA|(simp only [decide_eq_true_eq,decide_eq_false_iff_not] at *;simp [*,Ea];done)|(simp_all [Ea];done)|(simp_all [Ea];omega))
abbrev fnA (g:FuncId):AV:=.fn (.func g) [] []
noncomputable def rulesA:List AV:=[.nfn,.nfn,.nfn,.nfn,fnA 111,fnA 111,fnA 111,.nfn,.nfn,fnA 112,fnA 112,fnA 112,fnA 112,fnA 112,fnA 112,fnA 113,fnA 113,.nfn]
theorem n67 (h:H) (hr:h.nx+8<=Bh):Run ctx N 67 [] 8 h (.agg rulesA):=by
 unfold Run;rw [e67]
 have h1:h.nx<Bh:=by omega
 repeat' (first|with_reducible (first|apply D3|apply D4|apply D5|apply D6)|(with_reducible (first|apply yb1|apply yb2|apply yb3|apply yb4);(conv=>lhs;simp (disch:=first|exact Ch|fail) [lc, *]);with_reducible (first|apply D3|apply D4|apply D5|apply D6|apply ya5|(refine ya6 (by simp) ?_)|(apply ya7<;>intro hc)))|(with_reducible (first|apply yd1|apply yd2|apply yd3|apply yd4)<;>intro hc))
 (all_goals with_reducible refine Sx.At ?_ ?_ ?_ ?_;all_goals first|exact finA|(simp only [decide_eq_true_eq,decide_eq_false_iff_not] at *;simp [*,rulesA];done)|(simp_all [rulesA];done)|(simp_all [rulesA];omega))
def Wf:Tr->Prop
 |.leaf _=>True
 |.one _ a=>Wf a
 |.two o a b=>((o=4\/o=5\/o=6)\/(o=9\/o=10\/o=11\/o=12\/o=13\/o=14)\/(o=15\/o=16))/\Wf a/\Wf b
 |.three c a b=>Wf c/\Wf a/\Wf b
abbrev H67:Prop:=∀ (h:H),ctx.call 67 [] h=.ok (.agg rulesA) h
abbrev H29 (t:Tr):Prop:=∀ (h:H),ctx.call 29 [Ax t] h=.ok (Ax (normal t)) h
theorem ld112:Fh Tryz.prog 112=some none:=by kernel_rfl
theorem b111:Ba Tryz.prog 111=true:=by kernel_rfl
theorem b112:Ba Tryz.prog 112=true:=by kernel_rfl
theorem b113:Ba Tryz.prog 113=true:=by kernel_rfl
theorem n29leaf (x:Nd) (h:H) (hr:h.nx+8<=Bh):Run ctx N 29 [Ax (.leaf x)] 8 h (Ax (normal (.leaf x))):=by
 rw [show Ax (.leaf x)=.ifc 170 (.agg (Bq x)) from rfl]
 unfold Run;rw [e29]
 have hf1:size (fixed true)<=1000:=by rw [A2];omega
 have hf2:size (fixed false)<=1000:=by rw [A2];omega
 repeat' (first|with_reducible (first|apply D3|apply D4|apply D5|apply D6)|(with_reducible (first|apply yb1|apply yb2|apply yb3|apply yb4);(conv=>lhs;simp (disch:=first|exact Ch|fail) [lc, *]);with_reducible (first|apply D3|apply D4|apply D5|apply D6|apply ya5|(refine ya6 (by simp) ?_)|(apply ya7<;>intro hc)))|(with_reducible (first|apply yd1|apply yd2|apply yd3|apply yd4)<;>intro hc))
 (all_goals with_reducible refine Sx.At ?_ ?_ ?_ ?_;all_goals first|exact finA|(simp only [decide_eq_true_eq,decide_eq_false_iff_not] at *;simp [*,normal,Ax];done)|(simp_all [normal,Ax];done)|(simp_all [normal,Ax];omega))
theorem n29one (h65:H65 ctx) (h66:H66 ctx) (o:Int) (a:Tr) (hsa:size (normal a)<=1000) (ha:H29 ctx a) (h:H) (hr:h.nx+8<=Bh):Run ctx N 29 [Ax (.one o a)] 8 h (Ax (normal (.one o a))):=by
 rw [show Ax (.one o a)=.ifc 109 (.agg [.int .i64 o,Ax a]) from rfl]
 unfold Run;rw [e29]
 have hf1:size (fixed true)<=1000:=by rw [A2];omega
 have hf2:size (fixed false)<=1000:=by rw [A2];omega
 have h1:h.nx<Bh:=by omega
 repeat' (first|with_reducible (first|apply D3|apply D4|apply D5|apply D6)|(with_reducible (first|apply yb1|apply yb2|apply yb3|apply yb4);(conv=>lhs;simp (disch:=first|exact Ch|fail) [lc, *,ha,h65,h66]);with_reducible (first|apply D3|apply D4|apply D5|apply D6|apply ya5|(refine ya6 (by simp) ?_)|(apply ya7<;>intro hc)))|(with_reducible (first|apply yd1|apply yd2|apply yd3|apply yd4)<;>intro hc))
 (all_goals with_reducible refine Sx.At ?_ ?_ ?_ ?_;all_goals first|exact finA|(simp only [decide_eq_true_eq,decide_eq_false_iff_not] at *;simp [*,normal];done)|(simp_all [normal];done)|(simp_all [normal];omega))
theorem n29two (h67:H67 ctx) (h111:H111 ctx) (h112:H112 ctx) (h113:H113 ctx) (o:Int) (a b:Tr) (hw:Wf (.two o a b)) (hsa:size (normal a)<=1000) (hsb:size (normal b)<=1000) (ha:H29 ctx a) (hb:H29 ctx b) (h:H) (hr:h.nx+8<=Bh):
 Run ctx N 29 [Ax (.two o a b)] 8 h (Ax (normal (.two o a b))):=by
 rw [show Ax (.two o a b)=.ifc 111 (.agg [.int .i64 o,Ax a,Ax b]) from rfl]
 unfold Run;rw [e29]
 have hf1:size (fixed true)<=1000:=by rw [A2];omega
 have hf2:size (fixed false)<=1000:=by rw [A2];omega
 have h1:h.nx<Bh:=by omega
 rcases hw.1 with ho|ho|ho
 . have h111':=fun a b h=>h111 o a b h ho
   rcases ho with rfl|rfl|rfl
   all_goals repeat' (first|with_reducible (first|apply D3|apply D4|apply D5|apply D6)|(with_reducible (first|apply yb1|apply yb2|apply yb3|apply yb4);(conv=>lhs;simp (disch:=first|exact Ch|fail) [lc, *,h67,ha,hb,rulesA,ld112,b111,h111']);with_reducible (first|apply D3|apply D4|apply D5|apply D6|apply ya5|(refine ya6 (by simp) ?_)|(apply ya7<;>intro hc)))|(with_reducible (first|apply yd1|apply yd2|apply yd3|apply yd4)<;>intro hc))
   (all_goals with_reducible refine Sx.At ?_ ?_ ?_ ?_;all_goals first|exact finA|(simp only [decide_eq_true_eq,decide_eq_false_iff_not] at *;simp [*,normal,rule];done)|(simp_all [normal,rule];done)|(simp_all [normal,rule];omega))
 . have h112':=fun a b h=>h112 o a b h (by omega)
   rcases ho with rfl|rfl|rfl|rfl|rfl|rfl
   all_goals repeat' (first|with_reducible (first|apply D3|apply D4|apply D5|apply D6)|(with_reducible (first|apply yb1|apply yb2|apply yb3|apply yb4);(conv=>lhs;simp (disch:=first|exact Ch|fail) [lc, *,h67,ha,hb,rulesA,ld112,b112,h112']);with_reducible (first|apply D3|apply D4|apply D5|apply D6|apply ya5|(refine ya6 (by simp) ?_)|(apply ya7<;>intro hc)))|(with_reducible (first|apply yd1|apply yd2|apply yd3|apply yd4)<;>intro hc))
   (all_goals with_reducible refine Sx.At ?_ ?_ ?_ ?_;all_goals first|exact finA|(simp only [decide_eq_true_eq,decide_eq_false_iff_not] at *;simp [*,normal,rule];done)|(simp_all [normal,rule];done)|(simp_all [normal,rule];omega))
 . have h113':=fun a b h=>h113 o a b h ho
   rcases ho with rfl|rfl
   all_goals repeat' (first|with_reducible (first|apply D3|apply D4|apply D5|apply D6)|(with_reducible (first|apply yb1|apply yb2|apply yb3|apply yb4);(conv=>lhs;simp (disch:=first|exact Ch|fail) [lc, *,h67,ha,hb,rulesA,ld112,b113,h113']);with_reducible (first|apply D3|apply D4|apply D5|apply D6|apply ya5|(refine ya6 (by simp) ?_)|(apply ya7<;>intro hc)))|(with_reducible (first|apply yd1|apply yd2|apply yd3|apply yd4)<;>intro hc))
   (all_goals with_reducible refine Sx.At ?_ ?_ ?_ ?_;all_goals first|exact finA|(simp only [decide_eq_true_eq,decide_eq_false_iff_not] at *;simp [*,normal,rule];done)|(simp_all [normal,rule];done)|(simp_all [normal,rule];omega))
theorem n29three (h30:H30 ctx) (h31:H31 ctx) (c a b:Tr) (hsc:size (normal c)<=1000) (hsa:size (normal a)<=1000) (hsb:size (normal b)<=1000) (hc:H29 ctx c) (ha:H29 ctx a) (hb:H29 ctx b) (h:H) (hr:h.nx+8<=Bh):Run ctx N 29 [Ax (.three c a b)] 8 h (Ax (normal (.three c a b))):=by
 rw [show Ax (.three c a b)=.ifc 116 (.agg [Ax c,Ax a,Ax b]) from rfl]
 unfold Run;rw [e29]
 have hf1:size (fixed true)<=1000:=by rw [A2];omega
 have hf2:size (fixed false)<=1000:=by rw [A2];omega
 have h1:h.nx<Bh:=by omega
 repeat' (first|with_reducible (first|apply D3|apply D4|apply D5|apply D6)|(with_reducible (first|apply yb1|apply yb2|apply yb3|apply yb4);(conv=>lhs;simp (disch:=first|exact Ch|fail) [lc, *,h30,h31,ha,hb,hc]);with_reducible (first|apply D3|apply D4|apply D5|apply D6|apply ya5|(refine ya6 (by simp) ?_)|(apply ya7<;>intro hc)))|(with_reducible (first|apply yd1|apply yd2|apply yd3|apply yd4)<;>intro hc))
 all_goals try rw [J29x1s]
 all_goals repeat' (first|with_reducible (first|apply D3|apply D4|apply D5|apply D6)|(with_reducible (first|apply yb1|apply yb2|apply yb3|apply yb4);(conv=>lhs;simp (disch:=first|exact Ch|fail) [lc, *,h30,h31]);with_reducible (first|apply D3|apply D4|apply D5|apply D6|apply ya5|(refine ya6 (by simp) ?_)|(apply ya7<;>intro hc)))|(with_reducible (first|apply yd1|apply yd2|apply yd3|apply yd4)<;>intro hc))
 (all_goals with_reducible refine Sx.At ?_ ?_ ?_ ?_;all_goals first|exact finA|(simp only [decide_eq_true_eq,decide_eq_false_iff_not] at *;simp [*,normal,three,Ax];done)|(simp_all [normal,three,Ax];done)|(simp_all [normal,three,Ax];omega))
end Go.Proofs
