/- The table of what package norm's functions come to, so far as package norm's comparing goes. -/
import Derived.Test.YtecikbfimlolcaaGreatDoorEvQa
import Derived.Test.YtecikbfimlolcaaGreatDoorEvQb
set_option linter.all false
set_option maxRecDepth 100000
noncomputable section
namespace Go.Proofs
open Go Go.Ev Go.Nm Tryz Go.Ev.Sx
attribute [local irreducible] Aa Al Af Ad
variable (Z:Ac)(N:Nat)
abbrev L8(g:FuncId)(args:List AV)(n:Nat)(h:H)(u:AV):Prop:=Sx.Comes (Ay prog Z N true g args h) (Sx.Out n h u)
def An4{a b}(e:-1000000000<=a/\a<=1000000000)(c:-1000000000<=b/\b<=1000000000):-1000000000000000000<=a*b/\a*b<=1000000000000000000:=by
 have d:(a*b).natAbs<=1000000000*1000000000:=by rw[Int.natAbs_mul];exact Nat.mul_le_mul (by omega) (by omega)
 omega
def A9D o x h(a:h.nx+8<=Bq):L8 Z N 350 [.agg [iI o,x]] 8 h (iI o):=by unfold L8;rw[A7J];refine yk ?_;(all_goals with_reducible apply A0 ?_ ?_ ?_;all_goals simp_all)
def A9G o x y h(a:h.nx+8<=Bq):L8 Z N 353 [.agg [iI o,x,y]] 8 h (iI o):=by unfold L8;rw[A7M];refine yk ?_;(all_goals with_reducible apply A0 ?_ ?_ ?_;all_goals simp_all)
def A9I x y z h(a:h.nx+8<=Bq):L8 Z N 355 [.agg [x,y,z]] 8 h (iI 8):=by unfold L8;rw[A7O];refine yk ?_;(all_goals with_reducible apply A0 ?_ ?_ ?_;all_goals simp_all)
def A9K x h(a:h.nx+8<=Bq):L8 Z N 357 [.agg (Bw x)] 8 h (iI x.op):=by unfold L8;rw[A7Q];refine yk ?_;(all_goals with_reducible apply A0 ?_ ?_ ?_;all_goals simp_all)
def Ark(x:Nd)(h:H)(a:h.nx+8<=Bq):L8 Z N 109 [A3 (.leaf x)] 8 h (.Bj [iI (value (.leaf x)).1,.bool (value (.leaf x)).2]):=by
 unfold L8;rw[Atr];have h1:h.nx<Bq:=by omega
 unfold A3;(repeat' (first|refine yk ?_|(with_reducible (first|apply K7|apply K8|apply K9|apply Ld|apply Ku)<;>intro hc<;>(simp)<;>(try (exfalso;omega)))));(all_goals with_reducible refine A0 ?_ ?_ ?_ ?_;all_goals first|exact G9|omega|(simp_all [value];done)|(simp_all [value];omega))
abbrev HOp:Prop:=∀(t:Tr) (h:H),Hn prog Z (A3 t) (mnm prog 109 1) [] h=.ok (iI t.op) h
abbrev AoN:Prop:=∀(t:Tr) (h:H),Z.call 109 [A3 t] h=.ok (.Bj [iI (value t).1,.bool (value t).2]) h
abbrev H69:Prop:=∀(n:Int) (h:H),Z.call 69 [iI n] h=.ok (A3 (num n)) h
abbrev AwD:Prop:=∀(n:Int) (h:H),-9223372036854775808<n->n<=9223372036854775807->Z.call 110 [iI n] h=.ok (Yy (constant n)) h
abbrev A1m:Prop:=∀(o:Int) (a b:Tr) (h:H),o=4\/o=5\/o=6->Z.call 174 [iI o,A3 a,A3 b] h=.ok (Yy (arith o a b)) h
abbrev A1n:Prop:=∀(t:Tr) (n:Int) (h:H),Z.call 175 [A3 t,iI n] h=.ok (.bool (isV t n)) h
abbrev H65:Prop:=∀(t:Tr) (h:H),Z.call 65 [A3 t] h=.ok (A3 (neg t)) h
abbrev H66:Prop:=∀(t:Tr) (h:H),size t<=1000->Z.call 66 [A3 t] h=.ok (A3 (Jl t)) h
abbrev H68:Prop:=∀(a b:Tr) (h:H),size a<=1000->size b<=1000->Z.call 68 [A3 a,A3 b] h=.ok (iI (compare a b)) h
abbrev H30:Prop:=∀(a b:Tr) (h:H),size a<=1000->size b<=1000->Z.call 30 [A3 a,A3 b] h=.ok (.bool (same a b)) h
abbrev H31:Prop:=∀(b:Bool) (h:H),Z.call 31 [.bool b] h=.ok (A3 (fixed b)) h
abbrev AsV:Prop:=∀(o:Int) (a b:Tr) (h:H),size a<=1000->size b<=1000->Z.call 176 [iI o,A3 a,A3 b] h=.ok (A3 (ordered o a b)) h
abbrev A1e:Prop:=∀(o:Int) (a b:Tr) (h:H),o=4\/o=5\/o=6->size a<=1000->size b<=1000->Z.call 111 [iI o,A3 a,A3 b] h=.ok (A3 (Mw o a b)) h
abbrev A1f:Prop:=∀(o:Int) (a b:Tr) (h:H),9<=o/\o<=14->size a<=1000->size b<=1000->Z.call 112 [iI o,A3 a,A3 b] h=.ok (A3 (Ek o a b)) h
abbrev A1g:Prop:=∀(o:Int) (a b:Tr) (h:H),o=15\/o=16->size a<=1000->size b<=1000->Z.call 113 [iI o,A3 a,A3 b] h=.ok (A3 (Kg o a b)) h
def Aun(o:Int)(a:Tr)(De:HOp Z)(b:∀h,Z.call 109 [A3 a] h=.ok (.Bj [iI (value a).1,.bool (value a).2]) h)(h:H)(g:h.nx+8<=Bq):
 L8 Z N 109 [A3 (.one o a)] 8 h (.Bj [iI (value (.one o a)).1,.bool (value (.one o a)).2]):=by
 rw[show A3 (.one o a)=.I6 109 (.agg [iI o,A3 a])from rfl];unfold L8;rw[Atr];have h1:h.nx<Bq:=by omega
 cases c:(value a).2 with
 |false=>rw[c]at b;(have d:=@De;refine yk ?_);(all_goals with_reducible refine A0 ?_ ?_ ?_ ?_;all_goals first|exact G9|(simp only[W8,X9]at *;simp[*,value];done)|(simp_all [value];done)|(simp_all [value];omega))
 |true=>
  rw[c]at b;have e:=Jx a c;have f:E1 .i64 (-(value a).1)=-(value a).1:=by rw[Cr]<;>omega
  repeat' (first|with_reducible (first|apply Ee|apply Ef|apply Eg|apply Eh)|(with_reducible (first|apply Kv|apply Kw|apply Kx|apply K0);(conv=>lhs;simp(disch:=first|exact Ce|fail) [lc, *,De,b]);with_reducible (first|apply Ee|apply Ef|apply Eg|apply Eh|apply Ks|(refine Kt (by simp) ?_)|(apply Ku<;>intro hc)))|(with_reducible (first|apply K7|apply K8|apply K9|apply Ld)<;>intro hc))
  (all_goals with_reducible refine A0 ?_ ?_ ?_ ?_;all_goals first|exact G9|(simp only[W8,X9]at *;simp[*,value];done)|(simp_all [value];done)|(simp_all [value];omega))
def Auo o a b h(c:h.nx+8<=Bq):L8 Z N 109 [A3 (.two o a b)] 8 h (.Bj [iI 0,.bool false]):=by rw[show A3 _=.I6 .. from rfl];unfold L8;rw[Atr];refine yk ?_;(all_goals with_reducible apply A0 ?_ ?_ ?_;all_goals grind)
def An5 c a b h(d:h.nx+8<=Bq):L8 Z N 109 [A3 (.three c a b)] 8 h (.Bj [iI 0,.bool false]):=by rw[show A3 _=.I6 .. from rfl];unfold L8;rw[Atr];refine yk ?_;(all_goals with_reducible apply A0 ?_ ?_ ?_;all_goals grind)
def n69 n h(a:h.nx+8<=Bq):L8 Z N 69 [iI n] 8 h (A3 (num n)):=by unfold L8;rw[e69];refine yk ?_;(all_goals with_reducible apply A0 ?_ ?_ ?_;all_goals first|(simp_all [A3,num]))
def n64(De:HOp Z) t h(a:h.nx+8<=Bq):L8 Z N 64 [A3 t] 8 h (.bool (decide (9<=t.op))):=by unfold L8;rw[e64];(refine yk ?_);(all_goals with_reducible apply A0 ?_ ?_ ?_;all_goals grind)
def n31(h69:H69 Z)(b:Bool)(h:H)(c:h.nx+8<=Bq):L8 Z N 31 [.bool b] 8 h (A3 (fixed b)):=by unfold L8;rw[e31];(have a:=@h69;repeat' (first|refine yk ?_|(with_reducible (first|grind|apply K8|rfl|simp|apply Ku)<;>intro hc<;>(simp_all)<;>(try grind))));(all_goals with_reducible refine A0 ?_ ?_ ?_ ?_;all_goals first|grind|simp|(simp_all [A3,fixed];done)|omega)
def n30(h68:H68 Z) a b(e:size a<=1000)(c:size b<=1000) h(d:h.nx+8<=Bq):L8 Z N 30 [A3 a,A3 b] 8 h (.bool (same a b)):=by unfold L8;rw[e30];(refine yk ?_);(all_goals with_reducible apply A0 ?_ ?_ ?_;all_goals first|(simp_all [same]))
def n176(h68:H68 Z)(o:Int)(a b:Tr)(e:size a<=1000)(c:size b<=1000)(h:H)(d:h.nx+8<=Bq):L8 Z N 176 [iI o,A3 a,A3 b] 8 h (A3 (ordered o a b)):=by
 unfold L8;rw[A7E];repeat' (first|simp|(with_reducible (first|apply Kv|grind|apply Kx|omega);(conv=>lhs;simp(disch:=omega) [lc, *,h68]);with_reducible (first|omega|apply Ef|apply Eg|apply Eh|apply Ks|simp|(apply Ku<;>intro hc)))|rfl)
 (all_goals with_reducible refine A0 ?_ ?_ ?_ ?_;all_goals first|grind|(simp only[W8,X9]at *;simp[*,ordered,A3];done)|simp|grind)
def n175(Qw:AoN Z)(t:Tr)(n:Int)(h:H)(b:h.nx+8<=Bq):L8 Z N 175 [A3 t,iI n] 8 h (.bool (isV t n)):=by unfold L8;rw[A7D];(have a:=@Qw;repeat' (first|refine yk ?_|(with_reducible (first|apply K7|apply K8|apply K9|apply Ld|apply Ku)<;>intro hc<;>(simp_all)<;>(try omega))));(all_goals with_reducible refine A0 ?_ ?_ ?_ ?_;all_goals first|exact G9|omega|(simp_all [isV];done)|omega)
def n110(h69:H69 Z)(n:Int)(h1:-9223372036854775808<n)(h2:n<=9223372036854775807)(h:H)(a:h.nx+8<=Bq):L8 Z N 110 [iI n] 8 h (Yy (constant n)):=by
 have b:E1 .i64 (-n)=-n:=by rw[Cr]<;>omega
 unfold L8;rw[A72];repeat' (first|rfl|(with_reducible (first|apply Kv|apply Kw|apply Kx|apply K0);(conv=>lhs;simp(disch:=first|exact Ce|fail) [lc, *,h69]);with_reducible (first|apply Ee|apply Ef|apply Eg|apply Eh|apply Ks|omega|(apply Ku<;>intro hc)))|(with_reducible (first|apply K7|apply K8|apply K9|apply Ld)<;>intro hc))
 (all_goals with_reducible refine A0 ?_ ?_ ?_ ?_;all_goals first|exact G9|(simp only[W8,X9]at *;simp[*,constant,D9,A3];done)|omega|grind)
def n174(Qw:AoN Z)(Ah7:AwD Z)(o:Int)(i:o=4\/o=5\/o=6)(a b:Tr)(h:H)(m:h.nx+8<=Bq):L8 Z N 174 [iI o,A3 a,A3 b] 8 h (Yy (arith o a b)):=by unfold L8;rw[A7C];cases j:(value a).2 with
|false=>(have c:=@Qw;refine yk ?_);(all_goals with_reducible refine A0 ?_ ?_ ?_ ?_;all_goals first|exact G9|(simp only[W8,X9]at *;simp[*,arith,D9];done)|(simp_all [arith,D9];done)|(simp_all [arith,D9];omega))
|true=>have e:=Jx a j;cases k:(value b).2 with
 |false=>(have c:=@Qw;refine yk ?_);(all_goals with_reducible refine A0 ?_ ?_ ?_ ?_;all_goals first|exact G9|(simp only[W8,X9]at *;simp[*,arith,D9];done)|(simp_all [arith,D9];done)|(simp_all [arith,D9];omega))
 |true=>
  have hc:=Jx b k;have l:E1 .i64 ((value a).1+(value b).1)=(value a).1+(value b).1:=by rw[Cr]<;>omega
  have f:E1 .i64 ((value a).1-(value b).1)=(value a).1-(value b).1:=by rw[Cr]<;>omega
  have n:-1000000000000000000<=(value a).1*(value b).1/\(value a).1*(value b).1<=1000000000000000000:=An4 e hc;have g:E1 .i64 ((value a).1*(value b).1)=(value a).1*(value b).1:=by rw[Cr]<;>omega
  rcases i with rfl|rfl|rfl;. have d:=λh=>Ah7 ((value a).1+(value b).1) h om om;(have c:=@Qw;refine yk ?_);(all_goals with_reducible refine A0 ?_ ?_ ?_ ?_;all_goals first|exact G9|(simp only[W8,X9]at *;simp[*,arith,D9];done)|(simp_all [arith,D9];done)|(simp_all [arith,D9];omega))
  .have d:=λh=>Ah7 ((value a).1-(value b).1) h om om;(have c:=@Qw;refine yk ?_);(all_goals with_reducible refine A0 ?_ ?_ ?_ ?_;all_goals first|exact G9|(simp only[W8,X9]at *;simp[*,arith,D9];done)|(simp_all [arith,D9];done)|(simp_all [arith,D9];omega))
  .have d:=λh=>Ah7 ((value a).1*(value b).1) h om om;(have c:=@Qw;refine yk ?_);(all_goals with_reducible refine A0 ?_ ?_ ?_ ?_;all_goals first|exact G9|(simp only[W8,X9]at *;simp[*,arith,D9];done)|(simp_all [arith,D9];done)|(simp_all [arith,D9];omega))
def Arp(a:Tr):Tr:=
 match a with
 |.one o x=>if o=7 then x else .one 7 a
 |_=>.one 7 a
def Arq{a}(hn:(if(value a).2 then constant (-(value a).1)else none)=none):neg a=Arp a:=by unfold neg Arp;grind
def A4I(a:Tr)(f0:L2)(hn:(if(value a).2 then constant (-(value a).1)else none)=none)(h:H)(b:h.nx+8<=Bq):Sx.Comes (Alb Z N (A3 a) f0 h) (Sx.Out 8 h (A3 (neg a))):=by
 rw[AwX,Arq hn];have h1:h.nx<Bq:=by omega
 cases a<;>simp only[A3];all_goals (repeat' (first|refine yk ?_|(with_reducible (first|apply K7|apply K8|apply K9|apply Ld|apply Ku)<;>intro hc<;>(try simp only[Bt]at hc)<;>(try (exfalso;omega)))));(all_goals with_reducible refine A0 ?_ ?_ ?_ ?_;all_goals first|exact G9|(simp only[W8,X9]at *;simp[*,A3,Arp];done)|(simp_all [A3,Arp];done)|(simp_all [A3,Arp];omega))
def n65(Qw:AoN Z)(Ah7:AwD Z)(a:Tr)(h:H)(d:h.nx+8<=Bq):L8 Z N 65 [A3 a] 8 h (A3 (neg a)):=by
 unfold L8;rw[e65];have h1:h.nx<Bq:=by omega
 cases c:(value a).2 with
 |false=>(have b:=@Qw;refine yk ?_);exact A4I Z N a _ (by rw[c];rfl) h d
 |true=>
  have g:=Jx a c;have i:E1 .i64 (-(value a).1)=-(value a).1:=by rw[Cr]<;>omega
  have f:=λh=>Ah7 (-(value a).1) h om om;cases e:constant (-(value a).1)with
  |none=>(have b:=@Qw;refine yk ?_);exact A4I Z N a _ (by rw[c,e];rfl) h d
  |some t=>(have b:=@Qw;refine yk ?_);(all_goals with_reducible refine A0 ?_ ?_ ?_ ?_;all_goals first|exact G9|omega|(simp_all [neg,D9];done)|(simp_all [neg,D9];omega))
def n111(J3:H30 Z)(h65:H65 Z)(h69:H69 Z)(AmO:A1m Z)(Af2:A1n Z)(Qx:AsV Z)(o:Int)(j:o=4\/o=5\/o=6)(a b:Tr)(l:size a<=1000)(k:size b<=1000)(h:H)(m:h.nx+8<=Bq):
 L8 Z N 111 [iI o,A3 a,A3 b] 8 h (A3 (Mw o a b)):=by unfold L8;rw[A73];cases n:arith o a b with
 |some t=>(have c:=@AmO;refine yk ?_);(all_goals with_reducible refine A0 ?_ ?_ ?_ ?_;all_goals first|exact G9|(simp only[W8,X9]at *;simp[*,Mw,D9];done)|(simp_all [Mw,D9];done)|(simp_all [Mw,D9];omega))
 |none=>
  rcases j with rfl|rfl|rfl
  . (have c:=@AmO;have d:=@Af2;have e:=@J3;have g:=@h65;have i:=@h69;have f:=@Qx;repeat' (first|refine yk ?_|(with_reducible (first|apply K7|apply K8|apply K9|apply Ld|apply Ku)<;>intro hc<;>(try simp only[Bt]at hc)<;>(try (exfalso;omega)))));all_goals rw[AkU];all_goals repeat' (first|with_reducible (first|apply Ee|apply Ef|apply Eg|apply Eh)|(with_reducible (first|apply Kv|apply Kw|apply Kx|apply K0);(conv=>lhs;simp(disch:=first|exact Ce|fail) [lc, *,Af2,Qx]);with_reducible (first|apply Ee|apply Ef|apply Eg|apply Eh|apply Ks|(refine Kt (by simp) ?_)|(apply Ku<;>intro hc)))|(with_reducible (first|apply K7|apply K8|apply K9|apply Ld)<;>intro hc));all_goals try rw[AkV];all_goals repeat' (first|with_reducible (first|apply Ee|apply Ef|apply Eg|apply Eh)|(with_reducible (first|apply Kv|apply Kw|apply Kx|apply K0);(conv=>lhs;simp(disch:=first|exact Ce|fail) [lc, *,Af2,Qx,h69]);with_reducible (first|apply Ee|apply Ef|apply Eg|apply Eh|apply Ks|(refine Kt (by simp) ?_)|(apply Ku<;>intro hc)))|(with_reducible (first|apply K7|apply K8|apply K9|apply Ld)<;>intro hc))
    (all_goals with_reducible refine A0 ?_ ?_ ?_ ?_;all_goals first|exact G9|(simp only[W8,X9]at *;simp[*,Mw,D9];done)|(simp_all [Mw,D9];done)|(simp_all [Mw,D9];omega))
  . (have c:=@AmO;have d:=@Af2;have e:=@J3;have g:=@h65;have i:=@h69;have f:=@Qx;repeat' (first|refine yk ?_|(with_reducible (first|apply K7|apply K8|apply K9|apply Ld|apply Ku)<;>intro hc<;>(try simp only[Bt]at hc)<;>(try (exfalso;omega)))));(all_goals with_reducible refine A0 ?_ ?_ ?_ ?_;all_goals first|exact G9|(simp only[W8,X9]at *;simp[*,Mw,D9,A3];done)|(simp_all [Mw,D9,A3];done)|(simp_all [Mw,D9,A3];omega))
  . (have c:=@AmO;have d:=@Af2;have e:=@J3;have g:=@h65;have i:=@h69;have f:=@Qx;refine yk ?_);all_goals rw[AkU];all_goals (have c:=@Af2;have d:=@Qx;repeat' (first|refine yk ?_|(with_reducible (first|apply K7|apply K8|apply K9|apply Ld|apply Ku)<;>intro hc<;>(try simp only[Bt]at hc)<;>(try (exfalso;omega)))));all_goals try rw[AkV]
    all_goals (have c:=@Af2;have d:=@Qx;have e:=@h69;repeat' (first|refine yk ?_|(with_reducible (first|apply K7|apply K8|apply K9|apply Ld|apply Ku)<;>intro hc<;>(try simp only[Bt]at hc)<;>(try (exfalso;omega)))));(all_goals with_reducible refine A0 ?_ ?_ ?_ ?_;all_goals first|exact G9|(simp only[W8,X9]at *;simp[*,Mw,D9];done)|(simp_all [Mw,D9];done)|(simp_all [Mw,D9];omega))
def n113(J3:H30 Z)(N7:H31 Z)(Qx:AsV Z)(o:Int)(g:o=15\/o=16)(a b:Tr)(k:size a<=1000)(j:size b<=1000)(h:H)(l:h.nx+8<=Bq):L8 Z N 113 [iI o,A3 a,A3 b] 8 h (A3 (Kg o a b)):=by
 unfold L8;rw[A74];have i:size (fixed true)<=1000:=by rw[Ct];omega
 have f:size (fixed false)<=1000:=by rw[Ct];omega
 rcases g with rfl|rfl
 . (have c:=@J3;have d:=@N7;have e:=@Qx;repeat' (first|refine yk ?_|(with_reducible (first|apply K7|apply K8|apply K9|apply Ld|apply Ku)<;>intro hc<;>(try simp only[Bt]at hc)<;>(try (exfalso;omega)))));all_goals try rw[AkW];all_goals repeat' (first|with_reducible (first|apply Ee|apply Ef|apply Eg|apply Eh)|(with_reducible (first|apply Kv|apply Kw|apply Kx|apply K0);(conv=>lhs;simp(disch:=first|exact Ce|fail) [lc, *,Qx]);with_reducible (first|apply Ee|apply Ef|apply Eg|apply Eh|apply Ks|(refine Kt (by simp) ?_)|(apply Ku<;>intro hc)))|(with_reducible (first|apply K7|apply K8|apply K9|apply Ld)<;>intro hc))
   (all_goals with_reducible refine A0 ?_ ?_ ?_ ?_;all_goals first|exact G9|(simp only[W8,X9]at *;simp[*,Kg];done)|(simp_all [Kg];done)|(simp_all [Kg];omega))
 . (have c:=@J3;have d:=@N7;have e:=@Qx;repeat' (first|refine yk ?_|(with_reducible (first|apply K7|apply K8|apply K9|apply Ld|apply Ku)<;>intro hc<;>(try simp only[Bt]at hc)<;>(try (exfalso;omega)))));all_goals try rw[AkW];all_goals repeat' (first|with_reducible (first|apply Ee|apply Ef|apply Eg|apply Eh)|(with_reducible (first|apply Kv|apply Kw|apply Kx|apply K0);(conv=>lhs;simp(disch:=first|exact Ce|fail) [lc, *,Qx]);with_reducible (first|apply Ee|apply Ef|apply Eg|apply Eh|apply Ks|(refine Kt (by simp) ?_)|(apply Ku<;>intro hc)))|(with_reducible (first|apply K7|apply K8|apply K9|apply Ld)<;>intro hc))
   (all_goals with_reducible refine A0 ?_ ?_ ?_ ?_;all_goals first|exact G9|(simp only[W8,X9]at *;simp[*,Kg];done)|(simp_all [Kg];done)|(simp_all [Kg];omega))
def n66(J3:H30 Z)(N7:H31 Z)(a:Tr)(g:size a<=1000)(h:H)(i:h.nx+8<=Bq):L8 Z N 66 [A3 a] 8 h (A3 (Jl a)):=by
 unfold L8;rw[e66];have e:size (fixed true)<=1000:=by rw[Ct];omega
 have d:size (fixed false)<=1000:=by rw[Ct];omega
 have h1:h.nx<Bq:=by omega
 cases j:same a (fixed true)with
 |true=>(have b:=@J3;have c:=@N7;refine yk ?_);(all_goals with_reducible refine A0 ?_ ?_ ?_ ?_;all_goals first|exact G9|(simp only[W8,X9]at *;simp[*,Jl];done)|(simp_all [Jl];done)|(simp_all [Jl];omega))
 |false=>cases f:same a (fixed false)with
  |true=>(have b:=@J3;have c:=@N7;refine yk ?_);(all_goals with_reducible refine A0 ?_ ?_ ?_ ?_;all_goals first|exact G9|(simp only[W8,X9]at *;simp[*,Jl];done)|(simp_all [Jl];done)|(simp_all [Jl];omega))
  |false=>(have b:=@J3;have c:=@N7;refine yk ?_);cases a<;>simp only[A3];all_goals (repeat' (first|refine yk ?_|(with_reducible (first|apply K7|apply K8|apply K9|apply Ld|apply Ku)<;>intro hc<;>(try simp only[Bt]at hc)<;>(try (exfalso;omega)))));(all_goals with_reducible refine A0 ?_ ?_ ?_ ?_;all_goals first|exact G9|(simp only[W8,X9]at *;simp[*,Jl,A3];done)|(simp_all [Jl,A3];done)|(simp_all [Jl,A3];omega))
def tk3:tk prog 3=.int:=rfl
def ke3 a b:Gy prog 3 (iI a) (iI b)=some (decide (a=b)):=Anm tk3 a b
abbrev Avc:Prop:=∀(o:Int) (a b:Tr) (h:H),9<=o/\o<=12->size a<=1000->size b<=1000->Z.call 112 [iI o,A3 a,A3 b] h=.ok (A3 (Dg o a b)) h
def Awq(De:HOp Z)(Qw:AoN Z)(J3:H30 Z)(N7:H31 Z)(Qx:AsV Z)(o:Int)(c:o=9\/o=10\/o=11\/o=12)(a b:Tr)(g:size a<=1000)(f:size b<=1000)(h:H)(i:h.nx+8<=Bq):
 L8 Z N 112 [iI o,A3 a,A3 b] 8 h (A3 (Dg o a b)):=by
 unfold L8;rw[A2P];have h1:h.nx<Bq:=by omega
 cases d:(value a).2<;>cases e:(value b).2<;>rcases c with rfl|rfl|rfl|rfl;all_goals repeat' (first|with_reducible (first|apply Ee|apply Ef|apply Eg|apply Eh)|(with_reducible (first|apply Kv|apply Kw|apply Kx|apply K0);(conv=>lhs;simp(disch:=first|exact Ce|fail) [lc, *,Qw,J3,N7,Qx,De,d,e,ke3,Z7,M1]);with_reducible (first|apply Ee|apply Ef|apply Eg|apply Eh|apply Ks|(refine Kt (by simp) ?_)|(apply Ku<;>intro hc)))|(with_reducible (first|apply K7|apply K8|apply K9|apply Ld)<;>intro hc))
 (all_goals with_reducible refine A0 ?_ ?_ ?_ ?_;all_goals first|exact G9|(simp only[W8,X9]at *;simp[*,Dg,A3];done)|(simp_all [Dg,A3];done)|(simp_all [Dg,A3];omega))
def A4F(AmN:Avc Z)(o:Int)(c:o=13\/o=14)(a b:Tr)(e:size a<=1000)(d:size b<=1000)(h:H)(f:h.nx+8<=Bq):L8 Z N 112 [iI o,A3 a,A3 b] 8 h (A3 (Ek o a b)):=by
 unfold L8;rw[A2P];have h2:=λa b h=>AmN 11 a b h om;have g:=λa b h=>AmN 12 a b h om;rcases c with rfl|rfl;. refine yk ?_;(all_goals with_reducible refine A0 ?_ ?_ ?_ ?_;all_goals first|exact G9|simp|(simp_all [Ek];done)|omega)
 .refine yk ?_;(all_goals with_reducible refine A0 ?_ ?_ ?_ ?_;all_goals first|exact G9|rfl|(simp_all [Ek];done)|simp)
abbrev fnA(g:FuncId):AV:=.fn (.func g) [] []
def Of:List AV:=[.Iy,.Iy,.Iy,.Iy,fnA 111,fnA 111,fnA 111,.Iy,.Iy,fnA 112,fnA 112,fnA 112,fnA 112,fnA 112,fnA 112,fnA 113,fnA 113,.Iy]
def n67(h:H)(a:h.nx+8<=Bq):L8 Z N 67 [] 8 h (.agg Of):=by
 unfold L8;rw[e67];have h1:h.nx<Bq:=by omega
 refine yk ?_;(all_goals with_reducible refine A0 ?_ ?_ ?_ ?_;all_goals first|omega|omega|(simp_all [Of];done)|omega)
def Wf:Tr->Prop
|.leaf _=>True
|.one _ a=>Wf a
|.two o a b=>((o=4\/o=5\/o=6)\/(o=9\/o=10\/o=11\/o=12\/o=13\/o=14)\/(o=15\/o=16))/\Wf a/\Wf b
|.three c a b=>Wf c/\Wf a/\Wf b
abbrev H67:Prop:=∀(h:H),Z.call 67 [] h=.ok (.agg Of) h
abbrev H29(t:Tr):Prop:=∀(h:H),Z.call 29 [A3 t] h=.ok (A3 (normal t)) h
def AqU:Ft prog 112=some none:=rfl
def A7c:Bg prog 111=true:=rfl
def A7d:Bg prog 112=true:=rfl
def A7e:Bg prog 113=true:=rfl
def Aup(x:Nd)(h:H)(a:h.nx+8<=Bq):L8 Z N 29 [A3 (.leaf x)] 8 h (A3 (normal (.leaf x))):=by rw[show A3 _=.I6 .. from rfl];unfold L8;rw[e29];refine yk ?_;(all_goals with_reducible apply A0 ?_ ?_ ?_;all_goals first|(simp_all [normal,A3]))
def Azs(h65:H65 Z)(h66:H66 Z)(o:Int)(a:Tr)(b:size (normal a)<=1000)(g:H29 Z a)(h:H)(i:h.nx+8<=Bq):L8 Z N 29 [A3 (.one o a)] 8 h (A3 (normal (.one o a))):=by
 rw[show A3 (.one o a)=.I6 109 (.agg [iI o,A3 a])from rfl];unfold L8;rw[e29];have e:size (fixed true)<=1000:=by rw[Ct];omega
 have c:size (fixed false)<=1000:=by rw[Ct];omega
 have h1:h.nx<Bq:=by omega
 (have d:=@h65;have f:=@h66;repeat' (first|refine yk ?_|(with_reducible (first|apply K7|apply K8|apply K9|apply Ld|apply Ku)<;>intro hc<;>(simp_all)<;>(try (exfalso;omega)))));(all_goals with_reducible refine A0 ?_ ?_ ?_ ?_;all_goals first|exact G9|omega|(simp_all [normal];done)|omega)
def Azt(h67:H67 Z)(Aya:A1e Z)(AmN:A1f Z)(Ayb:A1g Z)(o:Int)(a b:Tr)(l:Wf (.two o a b))(j:size (normal a)<=1000)(k:size (normal b)<=1000)(e:H29 Z a)(d:H29 Z b)(h:H)(p:h.nx+8<=Bq):
 L8 Z N 29 [A3 (.two o a b)] 8 h (A3 (normal (.two o a b))):=by
 rw[show A3 (.two o a b)=.I6 111 (.agg [iI o,A3 a,A3 b])from rfl]
 unfold L8;rw[e29];have n:size (fixed true)<=1000:=by rw[Ct];omega
 have m:size (fixed false)<=1000:=by rw[Ct];omega
 have h1:h.nx<Bq:=by omega
 rcases l.1 with c|c|c
 .have f:=λa b h=>Aya o a b h c;rcases c with rfl|rfl|rfl
  all_goals repeat' (first|with_reducible (first|apply Ee|apply Ef|apply Eg|apply Eh)|(with_reducible (first|apply Kv|apply Kw|apply Kx|apply K0);(conv=>lhs;simp(disch:=first|exact Ce|fail) [lc, *,h67,e,d,Of,AqU,A7c,f]);with_reducible (first|apply Ee|apply Ef|apply Eg|apply Eh|apply Ks|(refine Kt (by simp) ?_)|(apply Ku<;>intro hc)))|(with_reducible (first|apply K7|apply K8|apply K9|apply Ld)<;>intro hc))
  (all_goals with_reducible refine A0 ?_ ?_ ?_ ?_;all_goals first|exact G9|(simp only[W8,X9]at *;simp[*,normal,L0];done)|(simp_all [normal,L0];done)|(simp_all [normal,L0];omega))
 .have i:=λa b h=>AmN o a b h om;rcases c with rfl|rfl|rfl|rfl|rfl|rfl;all_goals repeat' (first|with_reducible (first|apply Ee|apply Ef|apply Eg|apply Eh)|(with_reducible (first|apply Kv|apply Kw|apply Kx|apply K0);(conv=>lhs;simp(disch:=first|exact Ce|fail) [lc, *,h67,e,d,Of,AqU,A7d,i]);with_reducible (first|apply Ee|apply Ef|apply Eg|apply Eh|apply Ks|(refine Kt (by simp) ?_)|(apply Ku<;>intro hc)))|(with_reducible (first|apply K7|apply K8|apply K9|apply Ld)<;>intro hc))
  (all_goals with_reducible refine A0 ?_ ?_ ?_ ?_;all_goals first|exact G9|(simp only[W8,X9]at *;simp[*,normal,L0];done)|(simp_all [normal,L0];done)|(simp_all [normal,L0];omega))
 .have g:=λa b h=>Ayb o a b h c;rcases c with rfl|rfl;all_goals repeat' (first|with_reducible (first|apply Ee|apply Ef|apply Eg|apply Eh)|(with_reducible (first|apply Kv|apply Kw|apply Kx|apply K0);(conv=>lhs;simp(disch:=first|exact Ce|fail) [lc, *,h67,e,d,Of,AqU,A7e,g]);with_reducible (first|apply Ee|apply Ef|apply Eg|apply Eh|apply Ks|(refine Kt (by simp) ?_)|(apply Ku<;>intro hc)))|(with_reducible (first|apply K7|apply K8|apply K9|apply Ld)<;>intro hc))
  (all_goals with_reducible refine A0 ?_ ?_ ?_ ?_;all_goals first|exact G9|(simp only[W8,X9]at *;simp[*,normal,L0];done)|(simp_all [normal,L0];done)|(simp_all [normal,L0];omega))
def Arl(J3:H30 Z)(N7:H31 Z)(c a b:Tr)(e:size (normal c)<=1000)(d:size (normal a)<=1000)(f:size (normal b)<=1000)(hc:H29 Z c)(m:H29 Z a)(l:H29 Z b)(h:H)(n:h.nx+8<=Bq):L8 Z N 29 [A3 (.three c a b)] 8 h (A3 (normal (.three c a b))):=by
 rw[show A3 (.three c a b)=.I6 116 (.agg [A3 c,A3 a,A3 b])from rfl];unfold L8;rw[e29];have j:size (fixed true)<=1000:=by rw[Ct];omega
 have g:size (fixed false)<=1000:=by rw[Ct];omega
 have h1:h.nx<Bq:=by omega
 (have i:=@J3;have k:=@N7;repeat' (first|refine yk ?_|(with_reducible (first|apply K7|apply K8|apply K9|apply Ld|apply Ku)<;>intro hc<;>(try simp only[Bt]at hc)<;>(try (exfalso;omega)))));all_goals try rw[AwO];all_goals repeat' (first|with_reducible (first|apply Ee|apply Ef|apply Eg|apply Eh)|(with_reducible (first|apply Kv|apply Kw|apply Kx|apply K0);(conv=>lhs;simp(disch:=first|exact Ce|fail) [lc, *,J3,N7]);with_reducible (first|apply Ee|apply Ef|apply Eg|apply Eh|apply Ks|(refine Kt (by simp) ?_)|(apply Ku<;>intro hc)))|(with_reducible (first|apply K7|apply K8|apply K9|apply Ld)<;>intro hc))
 (all_goals with_reducible refine A0 ?_ ?_ ?_ ?_;all_goals first|exact G9|(simp only[W8,X9]at *;simp[*,normal,three,A3];done)|(simp_all [normal,three,A3];done)|(simp_all [normal,three,A3];omega))
end Go.Proofs
namespace Go.Proofs
open Go Go.Ev Go.Nm Tryz Go.Ev.Sx
attribute [local irreducible] Aa Al Af Ad
variable {j:H}{o:AV}
variable [Ii]
variable (Z:Ac)(N:Nat)
abbrev Iw(l:List Nd):List AV:=l.flatMap Bw
abbrev Zi(h:H)(v:AV)(l:List Nd):Prop:=Oq 3 h v l.length (Iw l)
def Wr(s:Nat)(et:TypeId)(lo:Nat)(h:H)(v:AV)(len:Nat):Prop:=len=0\/∃b off cap ex cs k,v=.sl b off len cap s ex/\h.m.get b=.cells cs et k/\off+len*s<=cs.length/\lo<=b/\b<h.nx/\(k=.exact\/∃c st,k=.Gt c/\h.m.get c=.Fb st/\lo<=c/\c<h.nx/\c≠b)
def Wr.mono{s lo d len:Nat}{et:TypeId}(e:Wr s et lo j o len)(m:d<=lo):Wr s et d j o len:=by
 rcases e with h1|⟨b,off,cap,ex,cs,k,h1,h2,l,h,i,a⟩
 .exact .inl h1
 .refine .inr ⟨b,off,cap,ex,cs,k,h1,h2,l,by omega,i,?_⟩;rcases a with a|⟨c,st,a,g,n,f,v⟩
  .exact .inl a
  .exact .inr ⟨c,st,a,g,by omega,f,v⟩
def Wr.Gt{s lo len:Nat}{et:TypeId}{c:List AV}(a:Rl s lo et j o len c):Wr s et lo j o len:=by obtain⟨b,k,st,h,h1,h2,i,l,g,d,f⟩:=a.at';have:=a.Rv;exact .inr ⟨b,0,len,false,c,.Gt k,h,h1,by omega,i,g,.inr ⟨k,st,rfl,h2,l,d,λe=>f e.symm⟩⟩
abbrev AgF(lo:Nat)(h:H)(v:AV)(l:List Nd):Prop:=Zi h v l/\Wr 3 32 lo h v l.length
abbrev My(h:H)(v:AV)(l:List Tr):Prop:=Oq 1 h v l.length (l.map A3)
def Tk:∀l,Bm (Iw l)=true
|[]=>rfl
|x::l=>by have a:=Tk l;simp_all
abbrev Zh(t:Tr):Prop:=∀h:H,h.nx+12*size t<=Bq->size t<=10000->Cb (12*size t) h (λv h'=>AgF h.nx h' v t.nodes) (Hn prog Z (A3 t) (mnm prog 109 0) [] h)
def cost:List Tr->Nat
|[]=>4
|t::l=>12*size t+2+cost l
abbrev Acc(lo:Nat)(h:H)(v:AV)(l:List Nd):Prop:=(l=[]/\v=.Bv)\/Rl 3 lo 32 h v l.length (Iw l)
def ApU(l:List Nd):(Iw l).length=l.length*3:=by
 induction l with
 |nil=>rfl
 |cons x l a=>simp only[Iw,dh,X8]at a ⊢;rw[a];simp;omega
def AhQ:∀l:List Tr,l.length<=(l.flatMap Tr.nodes).length
|[]=>Yw _
|t::l=>by
 have:=AhQ l;have:=Ao t;have:=size_pos t;simp[Ao]at *
 omega
def Alv{h0 h}{m n lo:Nat}{x y}{a l}(j:Acc lo h x a)(hy:Zi h y l)(o:l≠[])(p:a.length+l.length<=20000)(k:h.nx+2<=Bq)(f:Sx.Ext n h0 h)(i:h0.nx<=lo)(e:lo<=h.nx):
 Cb (n+2) h0 (λv h'=>Rl 3 lo 32 h' v (a++l).length (Iw (a++l))) (Ds 32 3 32 x y h):=by
 have b:=Kd.2 o;rcases j with⟨rfl,rfl⟩|ht;. obtain⟨v,h1,c,d,g⟩:=Aa2 (bytes:=32) hy b om (Tk l) k e;exact⟨v,_,c,f.trans d,g⟩
 .have⟨v,_,c,d,_⟩:=AsZ (bytes:=32) ht hy b om (Tk l) om i f;refine⟨v,_,c,d.mono om,?_⟩;grind
def Auj(o:Int)(v:AV)(ts:List Tr)(x:∀t∈ts,Zh Z t)(h0:H)(M:Nat)(J:My h0 v ts)(K:h0.nx+M<=Bq)(u:(ts.flatMap Tr.nodes).length+1<=10000):
 ∀(rest pre:List Tr) (h:H) (m:Nat) (t5:AV) (f0:L2) (c:Nat),ts=pre++rest->rest.length+1<=c->Sx.Ext m h0 h->m+cost rest<=M->Acc h0.nx h t5 (pre.flatMap Tr.nodes) ->
  Cb M h0 (λv h'=>AgF h0.nx h' v (ts.flatMap Tr.nodes++[⟨o,0,[]⟩])) (Afk Z N c (iI o) t5 v (iI ts.length) (iI pre.length) f0 h):=by
 intro rest;induction rest with
 |nil=>
  intro pre h m t5 f0 c f hn d r g;obtain⟨l,rfl⟩:∃l,c=l+1:=⟨c-1,by omega⟩;rw[F0]at f;subst f;simp only[cost]at r;have s:=d.hi;have P:=d.lo;rw[Ali];refine Ag (Hf ..) ?_;rw[show decide ((ts.length:Int)<(ts.length:Int))=false by simp]
  rw[Dq];refine Ag (v:=.agg (Bw ⟨o,0,[]⟩)) (h:=h) (by simp[Bw]) ?_;refine Ag (v:=.sl h.nx 0 1 1 3 true) (h:=h.new (.cells (Bw ⟨o,0,[]⟩) 32 .exact)) (by simp[Bw]) ?_;have G:=d.new (.cells (Bw ⟨o,0,[]⟩) 32 .exact) om;have hy:Zi (h.new (.cells (Bw ⟨o,0,[]⟩) 32 .exact)) (.sl h.nx 0 1 1 3 true) [⟨o,0,[]⟩]:=
   ⟨.inr ⟨h.nx,0,1,true,Bw ⟨o,0,[]⟩,32,.exact,rfl,Yw _,A6 _ om,trivial,by show h.nx<h.nx+1;omega,by simp[Bw],rfl⟩⟩
  have j:Acc h0.nx (h.new (.cells (Bw ⟨o,0,[]⟩) 32 .exact)) t5 (ts.flatMap Tr.nodes):=by
   rcases g with a|a
   .exact .inl a
   .exact .inr (a.ext ((Sx.Ext.refl 0 h).new _ om))
  obtain⟨w,y,Q,D,z⟩:=Alv (m:=0) j hy (by simp) (by simp at u ⊢;omega) (by show h.nx+1+2<=Bq;omega) G (Yw _) (by show h0.nx<=h.nx+1;omega)
  refine Ag Q ?_;exact B0 D om ⟨z.sl,Wr.Gt z⟩
 |cons t rest C=>
  intro pre h m t5 f0 c f hn d r g;obtain⟨l,rfl⟩:∃l,c=l+1:=⟨c-1,by omega⟩;have n:ts.length=pre.length+(rest.length+1):=by rw[f];simp
  have s:=d.hi;have P:=d.lo;have V:=size_pos t;simp only[cost]at r;have S:(pre.flatMap Tr.nodes).length+size t+(rest.flatMap Tr.nodes).length+1<=10000:=by rw[f]at u;simp[Qm,Ao]at u ⊢;omega
  have Z1:=AhQ pre;rw[Ali];refine Ag (Hf ..) ?_;rw[show decide ((pre.length:Int)<(ts.length:Int))=true by simp[n];omega]
  rw[Ep];obtain⟨b,B,cs,e,k,O,F,p3,Y,p5,X⟩:=(J.ext d).ia (i:=pre.length) om;refine Ag (O h) ?_;have U:cs[B]?=some (A3 t):=by
   have A:((cs.drop B).take 1)[0]?=(((ts.map A3).drop (pre.length*1)).take 1)[0]?:=by rw[X]
   rw[f]at A;simpa[cy,da]using A
  refine Ag (Di F p3 U) ?_;have E:=x t (by rw[f];simp) h om om;refine Ic d E λw h1 e1 p q=>?_;have j:Acc h0.nx h1 t5 (pre.flatMap Tr.nodes):=by
   rcases g with a|a
   .exact .inl a
   .exact .inr (a.ext p)
  have L:=e1.hi;have R:=e1.lo;obtain⟨w2,y,r1,I,W⟩:=Alv (m:=0) j q.1 (by intro a;have:=Ao t;rw[a]at this;simp at this;omega) (by rw[Ao];omega) om e1 (Yw _) om;refine Ag r1 ?_;refine Ag (v:=iI ((pre++[t]).length:Int)) (h:=y) (by rw[Uc,Cr];simp;omega;omega) ?_;have:=λT=>C (pre++[t]) y (m+12*size t+2) w2 T l (by rw[f];simp) (by simp at hn ⊢;omega) I om (.inr (by rw[Qm];simpa using W));exact this _
abbrev AkS(o:Int)(ts:List Tr):Prop:=∀(h:H) (v:AV),My h v ts->h.nx+cost ts<=Bq->(ts.flatMap Tr.nodes).length+1<=10000->Cb (cost ts) h (λv h'=>AgF h.nx h' v (ts.flatMap Tr.nodes++[⟨o,0,[]⟩])) (Z.call 351 [iI o,v] h)
def A9E(o:Int)(ts:List Tr)(d:ts.length+1<=N)(a:∀t∈ts,Zh Z t)(h:H)(v:AV)(b:My h v ts)(c:h.nx+cost ts<=Bq)(e:(ts.flatMap Tr.nodes).length+1<=10000):
 Cb (cost ts) h (λv h'=>AgF h.nx h' v (ts.flatMap Tr.nodes++[⟨o,0,[]⟩])) (Ay prog Z N true 351 [iI o,v] h):=by
 rw[A7K];refine Ag b.len ?_;exact Auj Z N o v ts a h (cost ts) b c e ts [] h 0 .Bv _ N rfl d (Sx.Ext.refl 0 h) om (.inl ⟨rfl,rfl⟩)
def AbT{h0:H}{n:Nat}(ts:List Tr)(b:Sx.Ext n h0 j)(a:j.nx<Bq):Sx.Ext (n+1) h0 (j.new (.cells (ts.map A3) 56 .exact))/\My (j.new (.cells (ts.map A3) 56 .exact)) (.sl j.nx 0 ts.length ts.length 1 true) ts:=
 ⟨b.new _ a,⟨.inr ⟨j.nx,0,ts.length,true,ts.map A3,56,.exact,rfl,Yw _,A6 _ a,trivial,by show j.nx<j.nx+1;omega,by simp,by rw[Cp,Qa (by simp)]⟩⟩⟩
def A9J(x:Nd)(h:H)(a:h.nx+8<=Bq):Cb 8 h (λv h'=>AgF h.nx h' v [x]) (Ay prog Z N true 356 [.agg (Bw x)] h):=by rw[A7P];have e1:=(Sx.Ext.refl 0 h).new (.cells (Bw x) 170 .exact) om;refine Ag (Hg ..) ?_;refine Ag (E3 ..) ?_;refine Ag (Nr (A6 _ om) trivial (by simp[Bw])) ?_;refine Ag (v:=.sl (h.nx+1) 0 1 1 3 true) (h:=(h.new (.cells (Bw x) 170 .exact)).new (.cells (Bw x) 32 .exact)) (by simp[Bw]) ?_;refine B0 (e1.new _ (by show h.nx+1<Bq;omega)) om ⟨⟨.inr ⟨h.nx+1,0,1,true,Bw x,32,.exact,rfl,Yw _,A6 (h:=h.new (.cells (Bw x) 170 .exact)) _ (by show h.nx+1<Bq;omega),trivial,by show h.nx+1<h.nx+1+1;omega,by simp[Bw],rfl⟩⟩,.inr ⟨h.nx+1,0,1,true,Bw x,.exact,rfl,A6 (h:=h.new (.cells (Bw x) 170 .exact)) _ (by show h.nx+1<Bq;omega),by simp[Bw],by omega,by show h.nx+1<h.nx+1+1;omega,.inl rfl⟩⟩
def A9C(o:Int)(a:Tr)(hj:AkS Z o [a])(h:H)(c:h.nx+12*size (.one o a)<=Bq)(g:size (.one o a)<=10000):Cb (12*size (.one o a)) h (λv h'=>AgF h.nx h' v (Tr.one o a).nodes) (Ay prog Z N true 349 [.agg [iI o,A3 a]] h):=by
 rw[A7I];simp only[size]at c g;have e1:=(Sx.Ext.refl 0 h).new (.cells [iI o,A3 a] 109 .exact) om;have b:(h.new (.cells [iI o,A3 a] 109 .exact)).m.get h.nx=.cells [iI o,A3 a] 109 .exact:=A6 _ om;refine Ag (Hg ..) ?_;refine Ag (E3 ..) ?_;refine Ag (Di b trivial rfl) ?_;refine Ag (E3 ..) ?_;refine Ag (Di b trivial rfl) ?_;obtain⟨f,d⟩:=AbT [a] e1 (by show h.nx+1<Bq;omega)
 refine Ag (v:=.sl (h.nx+1) 0 1 1 1 true) (h:=(h.new (.cells [iI o,A3 a] 109 .exact)).new (.cells [A3 a] 56 .exact)) (by simp) ?_;refine Ic f (hj _ _ d (by simp only[cost];show h.nx+1+1+_<=Bq;omega) (by simp[Ao];omega)) λv h1 e _ q=>?_;refine B0 e (by simp only[cost,size];omega) ⟨?_,?_⟩
 .simpa[Tr.nodes]using q.1
 .simpa[Tr.nodes]using q.2.mono (show h.nx<=h.nx+1+1 by omega)
def A9F(o:Int)(a b:Tr)(hj:AkS Z o [a,b])(h:H)(e:h.nx+12*size (.two o a b)<=Bq)(j:size (.two o a b)<=10000):Cb (12*size (.two o a b)) h (λv h'=>AgF h.nx h' v (Tr.two o a b).nodes) (Ay prog Z N true 352 [.agg [iI o,A3 a,A3 b]] h):=by
 rw[A7L];simp only[size]at e j;have d:=size_pos a;have e1:=(Sx.Ext.refl 0 h).new (.cells [iI o,A3 a,A3 b] 111 .exact) om;have c:(h.new (.cells [iI o,A3 a,A3 b] 111 .exact)).m.get h.nx=.cells [iI o,A3 a,A3 b] 111 .exact:=A6 _ om;refine Ag (Hg ..) ?_;refine Ag (E3 ..) ?_;refine Ag (Di c trivial rfl) ?_;refine Ag (E3 ..) ?_;refine Ag (Di c trivial rfl) ?_;refine Ag (E3 ..) ?_;refine Ag (Di c trivial rfl) ?_;obtain⟨i,f⟩:=AbT [a,b] e1 (by show h.nx+1<Bq;omega)
 refine Ag (v:=.sl (h.nx+1) 0 2 2 1 true) (h:=(h.new (.cells [iI o,A3 a,A3 b] 111 .exact)).new (.cells [A3 a,A3 b] 56 .exact)) (by simp) ?_;refine Ic i (hj _ _ f (by simp only[cost];show h.nx+1+1+_<=Bq;omega) (by simp[Ao];omega)) λv h1 g _ q=>?_;refine B0 g (by simp only[cost,size];omega) ⟨?_,?_⟩
 .simpa[Tr.nodes]using q.1
 .simpa[Tr.nodes]using q.2.mono (show h.nx<=h.nx+1+1 by omega)
def A9H(c a b:Tr)(hj:AkS Z 8 [c,a,b])(h:H)(g:h.nx+12*size (.three c a b)<=Bq)(l:size (.three c a b)<=10000):Cb (12*size (.three c a b)) h (λv h'=>AgF h.nx h' v (Tr.three c a b).nodes) (Ay prog Z N true 354 [.agg [A3 c,A3 a,A3 b]] h):=by
 rw[A7N];simp only[size]at g l;have e:=size_pos a;have f:=size_pos c;have e1:=(Sx.Ext.refl 0 h).new (.cells [A3 c,A3 a,A3 b] 116 .exact) om;have d:(h.new (.cells [A3 c,A3 a,A3 b] 116 .exact)).m.get h.nx=.cells [A3 c,A3 a,A3 b] 116 .exact:=A6 _ om;refine Ag (Hg ..) ?_;refine Ag (E3 ..) ?_;refine Ag (Di d trivial rfl) ?_;refine Ag (E3 ..) ?_;refine Ag (Di d trivial rfl) ?_;refine Ag (E3 ..) ?_;refine Ag (Di d trivial rfl) ?_;obtain⟨k,i⟩:=AbT [c,a,b] e1 (by show h.nx+1<Bq;omega)
 refine Ag (v:=.sl (h.nx+1) 0 3 3 1 true) (h:=(h.new (.cells [A3 c,A3 a,A3 b] 116 .exact)).new (.cells [A3 c,A3 a,A3 b] 56 .exact)) (by simp) ?_;refine Ic k (hj _ _ i (by simp only[cost];show h.nx+1+1+_<=Bq;omega) (by simp[Ao];omega)) λv h1 j _ q=>?_;refine B0 j (by simp only[cost,size];omega) ⟨?_,?_⟩
 .simpa[Tr.nodes]using q.1
 .simpa[Tr.nodes]using q.2.mono (show h.nx<=h.nx+1+1 by omega)
abbrev Ad6(g:FuncId)(args:List AV)(n:Nat)(h:H)(u:AV):Prop:=Sx.Comes (Ay prog Z N true g args h) (Sx.Out n h u)
def n177(n:Int)(h:H):Ad6 Z N 177 [iI n] 8 h (.bool false):=by unfold Ad6;rw[A7F];refine yk ?_;(all_goals with_reducible refine A0 ?_ ?_ ?_ ?_;all_goals exact Afw)
def n178(s:List Nat)(h:H):Ad6 Z N 178 [.str s] 8 h (.bool false):=by unfold Ad6;rw[A7G];refine yk ?_;(all_goals with_reducible refine A0 ?_ ?_ ?_ ?_;all_goals exact Afw)
abbrev A1o:Prop:=∀(n:Int) (h:H),Z.call 177 [iI n] h=.ok (.bool false) h
abbrev A1p:Prop:=∀(s:List Nat) (h:H),Z.call 178 [.str s] h=.ok (.bool false) h
abbrev A1j:Prop:=∀(a b:Int) (h:H),Z.call 117 [iI a,iI b] h=.ok (iI (V5 a b)) h
abbrev A1k:Prop:=∀(a b:List Nat) (h:H),Z.call 118 [.str a,.str b] h=.ok (iI (Abg a b)) h
def n117(Ayh:A1o Z)(a b:Int)(h:H):Ad6 Z N 117 [iI a,iI b] 8 h (iI (V5 a b)):=by
 unfold Ad6;rw[A78];(have c:=@Ayh;repeat' (first|refine yk ?_|(with_reducible (first|apply K7|apply K8|apply K9|apply Ld|apply Ku)<;>intro hc<;>(try simp only[Bt]at hc)<;>(try (exfalso;omega)))))
 (all_goals with_reducible refine A0 ?_ ?_ ?_ ?_;all_goals first|exact G9|(simp only[W8,X9]at *;simp[*,V5];done)|(simp_all [V5];done)|(simp_all [V5];omega))
def n118(Ayi:A1p Z)(a b:List Nat)(h:H):Ad6 Z N 118 [.str a,.str b] 8 h (iI (Abg a b)):=by
 unfold Ad6;rw[A79];(have c:=@Ayi;repeat' (first|refine yk ?_|(with_reducible (first|apply K7|apply K8|apply K9|apply Ld|apply Ku)<;>intro hc<;>(try simp only[Bt]at hc)<;>(try (exfalso;omega)))))
 (all_goals with_reducible refine A0 ?_ ?_ ?_ ?_;all_goals first|exact G9|(simp only[W8,X9]at *;simp[*,Abg];done)|(simp_all [Abg];done)|(simp_all [Abg];omega))
abbrev Ajc(h:H)(v:AV)(l:List Int):Prop:=Oq 1 h v l.length (l.map (AV.int .i64))
def Aui(l:List Int)(h:H)(v:AV)(q:Ajc h v l)(z:l.length<=1000000):∀(rest pre:List Int) (f0:L2) (c:Nat),l=pre++rest->(∀x∈pre,x=0)->rest.length+1<=c ->
 Afj Z N c (iI 0) v (iI l.length) (iI pre.length) f0 h=.ok (iI (orI rest)) h:=by
 intro rest;induction rest with
 |nil=>
  intro pre f0 c f n hn;obtain⟨d,rfl⟩:∃d,c=d+1:=⟨c-1,by omega⟩;rw[F0]at f;subst f;rw[Ale,Hf,N2,show decide ((l.length:Int)<(l.length:Int))=false by simp,Dq]
  rfl
 |cons x rest o=>
  intro pre f0 c f n hn;obtain⟨d,rfl⟩:∃d,c=d+1:=⟨c-1,by omega⟩;have g:l.length=pre.length+(rest.length+1):=by rw[f];simp
  obtain⟨b,m,cs,e,k,r,p,p3,w,A,u⟩:=q.ia (i:=pre.length) om;have t:cs[m]?=some (iI x):=by
   have j:((cs.drop m).take 1)[0]?=(((l.map (AV.int .i64)).drop (pre.length*1)).take 1)[0]?:=by rw[u]
   rw[f]at j;simpa[cy,da]using j
  rw[Ale,Hf,N2,show decide ((pre.length:Int)<(l.length:Int))=true by simp[g];omega,Ep,r,N2,Di p p3 t,N2,Y6,N2]
  by_cases a:x=0
  .rw[show(!decide (x=0))=false by simp[a],Dq,Uc,Cr _ om om,N2]
   have:=λs=>o (pre++[x]) s d (by rw[f];simp) (by intro y hy;rcases U0.1 hy with hy|hy;exact n y hy;simp at hy;omega) (by simp at hn ⊢;omega);rw[show((pre++[x]).length:Int)=(pre.length:Int)+1 by simp]at this
   rw[show orI (x::rest)=orI rest by simp[orI,a]]
   exact this _
  .rw[show(!decide (x=0))=true by simp[a],Ep]
   simp[orI,a]
def n116(l:List Int)(h:H)(v:AV)(a:Ajc h v l)(c:l.length<=1000000)(b:l.length+1<=N):Ay prog Z N true 116 [v] h=.ok (iI (orI l)) h:=by rw[A77,a.len,N2];exact Aui Z N l h v a c l [] _ N rfl (by simp) b
abbrev A1i:Prop:=∀(l:List Int) (h:H) (v:AV),Ajc h v l->l.length<=1000->Z.call 116 [v] h=.ok (iI (orI l)) h
def n115(Ayd:A1i Z)(Aye:A1j Z)(Ayf:A1k Z)(x y:Nd)(h:H)(c:h.nx+8<=Bq):Ad6 Z N 115 [.agg (Bw x),.agg (Bw y)] 8 h (iI (V6 x y)):=by
 unfold Ad6;rw[A76];have h1:h.nx<Bq:=by omega
 (have a:=@Aye;have b:=@Ayf;refine yk ?_)
 rw[Ayd [V5 x.op y.op,V5 x.n y.n,Abg x.Zn y.Zn]]
 .refine O5 ?_;(all_goals with_reducible refine A0 ?_ ?_ ?_ ?_;all_goals first|exact G9|(simp only[W8,X9]at *;simp[*,V6];done)|(simp_all [V6];done)|(simp_all [V6];omega))
 .exact⟨.inr ⟨h.nx+1+1,0,3,true,[iI (V5 x.op y.op),iI (V5 x.n y.n),iI (Abg x.Zn y.Zn)],3,.exact,rfl,Yw _,by simp(disch:=first|omega|(simp only[Z9,ArH,AcQ,Ait];omega)) only[Auu,Sx.Ni,Z9,AcQ,Jr],trivial,by show h.nx+1+1<h.nx+1+1+1;omega,by simp,by simp⟩⟩
 .simp
abbrev AwE:Prop:=∀(x y:Nd) (h:H),Z.call 115 [.agg (Bw x),.agg (Bw y)] h=.ok (iI (V6 x y)) h
def Xo{h0:H}{n:Nat}(a:Sx.Ext n h0 j)(o:AO)(c:AO)(b:j.nx<Bq):Sx.Ext (n+1) h0 ((j.new o).put j.nx c):=by have:=a.lo;exact(a.new o b).put j.nx c om b
def Afy(l:List Nd)(pre:List Nd)(x:Nd)(rest:List Nd)(a:l=pre++x::rest):((Iw l).drop (pre.length*3)).take 3=Bw x:=by
 subst a;have:Iw (pre++x::rest)=Iw pre++(Bw x++Iw rest):=by simp[Iw]
 rw[this,<- ApU pre,di];rfl
def Auh(Aqe:AwE Z)(P:Bg prog 115=true)(l m:List Nd)(h0:H)(v w:AV)(F:Zi h0 v l)(B:Zi h0 w m)(M:Nat)(S:h0.nx+M<=Bq)(hl:l.length<=100000):
 ∀(rest pre m1 c:List Nd) (h:H) (f0:L2) (f k:Nat),l=pre++rest->m=m1++c->(m1.length=pre.length\/(c=[]/\m.length<=pre.length/\False))->cmpL l m=cmpL rest c->rest.length+1<=f->Sx.Ext k h0 h->k+2*rest.length<=M ->
  Cb M h0 (λu h'=>u=iI (cmpL l m)) (Afi Z N f v w (.fn (.func 115) [] []) v (iI l.length) (iI pre.length) f0 h):=by
 intro rest;induction rest with
 |nil=>
  intro pre m1 c h f0 f k q p g hc hn n I;obtain⟨o,rfl⟩:∃o,f=o+1:=⟨f-1,by omega⟩;have a:m1.length=pre.length:=by rcases g with j|⟨_,_,j⟩;exact j;exact j.elim
  have t:pre.length=l.length:=by rw[q];simp
  have d:m.length=m1.length+c.length:=by rw[p];simp
  rw[Ald];refine Ag (Hf ..) ?_;rw[show decide ((pre.length:Int)<(l.length:Int))=false by simp[t],Dq]
  refine Ag F.len ?_;refine Ag B.len ?_;refine Ag (Hf ..) ?_;cases c with
  |nil=>
   rw[show decide ((l.length:Int)<(m.length:Int))=false by simp[d,<- t,a],Dq]
   exact B0 n om (by rw[hc];rfl)
  |cons y c=>
   rw[show decide ((l.length:Int)<(m.length:Int))=true by simp[d,<- t,a];omega,Ep]
   exact B0 n om (by rw[hc];rfl)
 |cons x rest K=>
  intro pre m1 c h f0 f k q p g hc hn n I;obtain⟨o,rfl⟩:∃o,f=o+1:=⟨f-1,by omega⟩;have a:m1.length=pre.length:=by rcases g with j|⟨_,_,j⟩;exact j;exact j.elim
  have r:l.length=pre.length+(rest.length+1):=by rw[q];simp
  have d:m.length=m1.length+c.length:=by rw[p];simp
  have R:=n.hi;have Kf:=n.lo;simp only[R6]at I hn;rw[Ald];refine Ag (Hf ..) ?_;rw[show decide ((pre.length:Int)<(l.length:Int))=true by simp[r];omega,Ep]
  obtain⟨b,o',cs,e,kk,U,O,p3,X,V,J⟩:=(F.ext n).ia (i:=pre.length) om;rw[Afy l pre x rest q]at J;refine Ag (U h) ?_;refine Ag (Nr O p3 V) ?_;rw[J];refine Ag (Sx.AeI ..) ?_;refine Ag (v:=.Bj []) (h:=(h.new (.cells [iI 0,iI 0,.str []] 32 .exact)).put h.nx (.cells (Bw x) 32 .exact)) (by simp(disch:=first|omega|(simp only[Z9];omega)) [Kh,Bw]) ?_;have e1:=Xo n (.cells [iI 0,iI 0,.str []] 32 .exact) (.cells (Bw x) 32 .exact) om;have G:((h.new (.cells [iI 0,iI 0,.str []] 32 .exact)).put h.nx (.cells (Bw x) 32 .exact)).m.get h.nx=.cells (Bw x) 32 .exact:=Dz _ _ om;have A:((h.new (.cells [iI 0,iI 0,.str []] 32 .exact)).put h.nx (.cells (Bw x) 32 .exact)).nx=h.nx+1:=rfl;generalize ((h.new (.cells [iI 0,iI 0,.str []] 32 .exact)).put h.nx (.cells (Bw x) 32 .exact))=h1 at e1 G A ⊢;refine Ag B.len ?_;refine Ag (As1 ..) ?_;cases c with
  |nil=>
   rw[show decide ((m.length:Int)<=(pre.length:Int))=true by simp[d,a],Ep]
   exact B0 e1 om (by rw[hc];rfl)
  |cons y c=>
   rw[show decide ((m.length:Int)<=(pre.length:Int))=false by simp[d,a];omega,Dq]
   obtain⟨b2,Y,Q,ee,k2,W,L,T,q4,q5,D⟩:=(B.ext e1).ia (i:=pre.length) (by rw[d,a];simp);rw[<- a,Afy m m1 y c p]at D;refine Ag (W _) ?_;refine Ag (Nr L T q5) ?_;rw[D];refine Ag (Sx.AeI ..) ?_;refine Ag (v:=.Bj []) (h:=(h1.new (.cells [iI 0,iI 0,.str []] 32 .exact)).put h1.nx (.cells (Bw y) 32 .exact)) (by simp(disch:=first|omega|(simp only[Z9];omega)) [Kh,Bw]) ?_;have z:=Xo e1 (.cells [iI 0,iI 0,.str []] 32 .exact) (.cells (Bw y) 32 .exact) om;have E:((h1.new (.cells [iI 0,iI 0,.str []] 32 .exact)).put h1.nx (.cells (Bw y) 32 .exact)).m.get h1.nx=.cells (Bw y) 32 .exact:=Dz _ _ om;have C:((h1.new (.cells [iI 0,iI 0,.str []] 32 .exact)).put h1.nx (.cells (Bw y) 32 .exact)).m.get h.nx=.cells (Bw x) 32 .exact:=by rw[Db _ _ _ om om om,H3 _ _ om om om,G]
   generalize ((h1.new (.cells [iI 0,iI 0,.str []] 32 .exact)).put h1.nx (.cells (Bw y) 32 .exact))=h2 at z E C ⊢;refine Ag (Nr C trivial (by simp[Bw])) ?_;refine Ag (Nr E trivial (by simp[Bw])) ?_;refine Ag (v:=iI (V6 x y)) (h:=h2) (by rw[AxK,W5 P];exact Aqe x y h2) ?_;refine Ag (Y6 ..) ?_;by_cases s:V6 x y=0
   .rw[show(!decide (V6 x y=0))=false by simp[s],Dq]
    refine Ag (v:=iI ((pre++[x]).length:Int)) (h:=h2) (by rw[Uc,Cr];simp;omega;omega) ?_;refine K (pre++[x]) (m1++[y]) c h2 _ o (k+1+1) (by rw[q];simp) (by rw[p];simp) (.inl (by simp[a])) (by rw[hc];simp[cmpL,s]) om z om
   .rw[show(!decide (V6 x y=0))=true by simp[s],Ep]
    exact B0 z om (by rw[hc];simp[cmpL,s])
def n114(Aqe:AwE Z)(b:Bg prog 115=true)(l m:List Nd)(h:H)(v w:AV)(a:Zi h v l)(c:Zi h w m)(d:h.nx+2*l.length<=Bq)(e:l.length+1<=N)(f:l.length<=100000):
 Cb (2*l.length) h (λu h'=>u=iI (cmpL l m)) (Ay prog Z N true 114 [v,w,.fn (.func 115) [] []] h):=by
 rw[A75];refine Ag a.len ?_;exact Auh Z N Aqe b l m h v w a c (2*l.length) d f l [] [] m h _ N 0 rfl rfl (.inl rfl) rfl e (Sx.Ext.refl 0 h) om
abbrev A1h:Prop:=∀(l m:List Nd) (h:H) (v w:AV),Zi h v l->Zi h w m->h.nx+2*l.length<=Bq->l.length<=100000->Cb (2*l.length) h (λu h'=>u=iI (cmpL l m)) (Z.call 114 [v,w,.fn (.func 115) [] []] h)
def n68(a b:Tr)(j:Zh Z a)(e:Zh Z b)(Ayc:A1h Z)(f:size a<=1000)(i:size b<=1000)(h:H)(p:h.nx+30000<=Bq):Cb 30000 h (λu h'=>u=iI (Nm.compare a b)) (Ay prog Z N true 68 [A3 a,A3 b] h):=by rw[e68];refine Ic (Sx.Ext.refl 0 h) (j h om om) λv h1 e1 o k=>?_;have:=e1.hi;refine Ic e1 (e h1 om om) λw h2 d c m=>?_;have:=d.hi;refine Ic d (Ayc a.nodes b.nodes h2 v w (k.1.ext c) m.1 (by rw[Ao];omega) (by rw[Ao];omega)) λu q n l g=>?_;refine B0 n (by rw[Ao];omega) g
end Go.Proofs
namespace Go.Proofs
open Go Go.Ev Go.Nm Tryz Go.Ev.Sx
variable {j:Type}{o:FuncId}{p:Nat}{C:AV}{I:H}
noncomputable abbrev PP:Program:=prog
def Fk:∀a b:Tr,A3 a=A3 b->a=b
|.leaf x,.leaf y,h=>by cases x;cases y;simpa[A3]using h
|.one o a,.one p b,h=>by simp[A3]at h;rw[h.1,Fk a b h.2]
|.two o a b,.two p c d,h=>by simp[A3]at h;rw[h.1,Fk a c h.2.1,Fk b d h.2.2]
|.three a b c,.three d e f,h=>by simp[A3]at h;rw[Fk a d h.1,Fk b e h.2.1,Fk c f h.2.2]
|.leaf _,.one _ _,h=>by simp[A3]at h
|.leaf _,.two _ _ _,h=>by simp[A3]at h
|.leaf _,.three _ _ _,h=>by simp[A3]at h
|.one _ _,.leaf _,h=>by simp[A3]at h
|.one _ _,.two _ _ _,h=>by simp[A3]at h
|.one _ _,.three _ _ _,h=>by simp[A3]at h
|.two _ _ _,.leaf _,h=>by simp[A3]at h
|.two _ _ _,.one _ _,h=>by simp[A3]at h
|.two _ _ _,.three _ _ _,h=>by simp[A3]at h
|.three _ _ _,.leaf _,h=>by simp[A3]at h
|.three _ _ _,.one _ _,h=>by simp[A3]at h
|.three _ _ _,.two _ _ _,h=>by simp[A3]at h
def Yq(x:Nd):Plain (.agg (Bw x)):=.agg λy hy=>by simp[Bw]at hy;rcases hy with rfl|rfl|rfl;exact .int _ _;exact .int _ _;exact .str _
def Bp:∀t:Tr,Plain (A3 t)
|.leaf x=>.I6 (Yq x)
|.one o a=>.I6 (.agg λy hy=>by simp at hy;rcases hy with rfl|rfl;exact .int _ _;exact Bp a)
|.two o a b=>.I6 (.agg λy hy=>by simp at hy;rcases hy with rfl|rfl|rfl;exact .int _ _;exact Bp a;exact Bp b)
|.three c a b=>.I6 (.agg λy hy=>by simp at hy;rcases hy with rfl|rfl|rfl;exact Bp c;exact Bp a;exact Bp b)
open Classical in
noncomputable def Dv{α:Type}(enc:α->List AV)(out:α->AV)(dom:α->Prop):List AV->Option AV:=λargs=>if hx:∃a,dom a/\enc a=args then some (out hx.choose)else none
def Cd{enc:j->List AV}{out:j->AV}{dom:j->Prop}(c:∀a b,enc a=enc b->a=b){a:j}(hd:dom a):Dv enc out dom (enc a)=some (out a):=by have d:∃b,dom b/\enc b=enc a:=⟨a,hd,rfl⟩;unfold Dv;rw[dif_pos d,c _ _ d.choose_spec.2]
def Acu{enc:j->List AV}{out:j->AV}{dom:j->Prop}{args:List AV}(h:Dv enc out dom args=some C):∃a,dom a/\enc a=args/\C=out a:=by
 unfold Dv at h;split at h
 .rename_i b;cases h;exact⟨_,b.choose_spec.1,b.choose_spec.2,rfl⟩
 .cases h
def mixed:PP.follows .mixedOrders=true:=by kernel_rfl
def pok:Mv PP=true:=by kernel_rfl
def gsz:PP.globals.size<=100:=az (by kernel_rfl)
noncomputable abbrev Ql:H:=glH [] PP.globals.size
def Aqd:Ql.nx<=100:=gsz
def AfK:Bq=1000000000000000000:=rfl
def Ji{Z:Ac}{q:Bool}{args:List AV}{Q:AV->H->Prop}(hc:Cb p I Q (Ay PP Z 1048576 q o args I)):Cb p I Q (Fy PP Z o args I):=by obtain⟨v,h1,h2,a⟩:=hc;exact⟨v,h1,Jn (Yw _) h2,a⟩
def Eo{T:Df}(g:P3 PP T){enc:j->List AV}{out:j->AV}{dom:j->Prop}{q:Bool}{n:Nat}(f:Bg PP o=true)(hn:n<=200000)(h:∀a,I7 (enc a))(c:∀a,Plain (out a))
 (Du:∀a,dom a->∃d,Sx.Comes (Ay PP (cD PP T d) 1048576 q o (enc a) Ql) (Sx.Out n Ql (out a))):P3 PP (T.ext o (Dv enc out dom)):=by
 refine P3.ext mixed pok (by have:=gsz;rw[AfK];omega) g f λargs v k=>?_
 obtain⟨a,h1,rfl,rfl⟩:=Acu k;obtain⟨d,v,h2,l,rfl,e⟩:=Du a h1;refine⟨h a,c a,d,h2,Jn (Yw _) l,?_,λx i=>?_⟩
 .have:=e.nx.2;have:=Aqd;rw[AfK];omega
 .rcases e.lg x i with b|b
  .cases b
  .exact b
def ApX{r:OR}(b:Cb p I (λv _=>v=C) r):Sx.Comes r (Sx.Out p I C):=by obtain⟨v,h1,h2,a,c⟩:=b;exact⟨v,h1,h2,c,a.small⟩
noncomputable def A14:=Dv (λn:Int=>[iI n]) (λ_=>.bool false) (λ_=>True)
noncomputable def A15:=Dv (λs:List Nat=>[.str s]) (λ_=>.bool false) (λ_=>True)
noncomputable def A1z:=Dv (λp:Int × Int=>[iI p.1,iI p.2]) (λp=>iI (V5 p.1 p.2)) (λ_=>True)
noncomputable def A10:=Dv (λp:List Nat × List Nat=>[.str p.1,.str p.2]) (λp=>iI (Abg p.1 p.2)) (λ_=>True)
noncomputable def Axf:=Dv (λp:Nd × Nd=>[.agg (Bw p.1),.agg (Bw p.2)]) (λp=>iI (V6 p.1 p.2)) (λ_=>True)
noncomputable def A16:=Dv (λp:Int × Tr=>[.agg [iI p.1,A3 p.2]]) (λp=>iI p.1) (λ_=>True)
noncomputable def A17:=Dv (λp:Int × Tr × Tr=>[.agg [iI p.1,A3 p.2.1,A3 p.2.2]]) (λp=>iI p.1) (λ_=>True)
noncomputable def A18:=Dv (λp:Tr × Tr × Tr=>[.agg [A3 p.1,A3 p.2.1,A3 p.2.2]]) (λp=>iI 8) (λ_=>True)
noncomputable def A19:=Dv (λx:Nd=>[.agg (Bw x)]) (λx=>iI x.op) (λ_=>True)
noncomputable def A1v:=Dv (λt:Tr=>[A3 t]) (λt=>.Bj [iI (value t).1,.bool (value t).2]) (λ_=>True)
noncomputable def S69:=Dv (λn:Int=>[iI n]) (λn=>A3 (num n)) (λ_=>True)
noncomputable def A1w:=Dv (λn:Int=>[iI n]) (λn=>Yy (constant n)) (λn=>-9223372036854775808<n/\n<=9223372036854775807)
noncomputable def S31:=Dv (λb:Bool=>[.bool b]) (λb=>A3 (fixed b)) (λ_=>True)
noncomputable def A12:=Dv (λp:Tr × Int=>[A3 p.1,iI p.2]) (λp=>.bool (isV p.1 p.2)) (λ_=>True)
noncomputable def S65:=Dv (λt:Tr=>[A3 t]) (λt=>A3 (neg t)) (λ_=>True)
noncomputable def A11:=Dv (λp:Int × Tr × Tr=>[iI p.1,A3 p.2.1,A3 p.2.2]) (λp=>Yy (arith p.1 p.2.1 p.2.2)) (λp=>p.1=4\/p.1=5\/p.1=6)
noncomputable def S68:=Dv (λp:Tr × Tr=>[A3 p.1,A3 p.2]) (λp=>iI (Nm.compare p.1 p.2)) (λp=>size p.1<=1000/\size p.2<=1000)
noncomputable def S30:=Dv (λp:Tr × Tr=>[A3 p.1,A3 p.2]) (λp=>.bool (same p.1 p.2)) (λp=>size p.1<=1000/\size p.2<=1000)
noncomputable abbrev Ahq(p:Int × Tr × Tr):List AV:=[iI p.1,A3 p.2.1,A3 p.2.2]
noncomputable def A13:=Dv Ahq (λp=>A3 (ordered p.1 p.2.1 p.2.2)) (λp=>size p.2.1<=1000/\size p.2.2<=1000)
noncomputable def A1x:=Dv Ahq (λp=>A3 (Mw p.1 p.2.1 p.2.2)) (λp=>(p.1=4\/p.1=5\/p.1=6)/\size p.2.1<=1000/\size p.2.2<=1000)
noncomputable def A1y:=Dv Ahq (λp=>A3 (Kg p.1 p.2.1 p.2.2)) (λp=>(p.1=15\/p.1=16)/\size p.2.1<=1000/\size p.2.2<=1000)
noncomputable def S66:=Dv (λt:Tr=>[A3 t]) (λt=>A3 (Jl t)) (λt=>size t<=1000)
noncomputable def Avh:=Dv Ahq (λp=>A3 (Dg p.1 p.2.1 p.2.2)) (λp=>(9<=p.1/\p.1<=12)/\size p.2.1<=1000/\size p.2.2<=1000)
noncomputable def Axe:=Dv Ahq (λp=>A3 (Ek p.1 p.2.1 p.2.2)) (λp=>(9<=p.1/\p.1<=14)/\size p.2.1<=1000/\size p.2.2<=1000)
noncomputable def S67:=Dv (λ_:Unit=>[]) (λ_=>.agg Of) (λ_=>True)
noncomputable def S29:=Dv (λt:Tr=>[A3 t]) (λt=>A3 (normal t)) (λt=>Wf t/\size t<=1000)
noncomputable def S64:=Dv (λt:Tr=>[A3 t]) (λt=>.bool (decide (9<=t.op))) (λ_=>True)
end Go.Proofs
