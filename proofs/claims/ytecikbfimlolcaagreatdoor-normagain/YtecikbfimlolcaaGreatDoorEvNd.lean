/- The builder of expressions: push, add. -/
import Derived.Test.YtecikbfimlolcaaGreatDoorEvNa
set_option linter.all false
set_option maxRecDepth 100000
noncomputable section
namespace Go.Proofs
open Go Go.Ev Go.Nm Go.Ev.Sx
variable {j:Nat}{o:FuncId}{I p:AV}{C:Type}
def Zt(T:Df)(g b:FuncId)(S:List AV->Option AV)(args:List AV):T.ext g S b args=if b=g then S args else T b args:=by
 by_cases a:b=g
 .rw[W5 a,a,Ahs]
 .rw[X2 a,Aew _ _ a]
def Bb(T:Df)(g a:FuncId)(S:List AV->Option AV):T.ext g S a=if a=g then S else T a:=by funext args;rw[Zt];split<;>rfl
abbrev T0:Df:=λ_ _=>none
def A1P:Bg PP 177=true:=by kernel_rfl
def A1Q:Bg PP 178=true:=by kernel_rfl
def A1K:Bg PP 117=true:=by kernel_rfl
def A1L:Bg PP 118=true:=by kernel_rfl
def Avl:Bg PP 115=true:=by kernel_rfl
def Avm:Bg PP 350=true:=by kernel_rfl
def Avn:Bg PP 353=true:=by kernel_rfl
def Avo:Bg PP 355=true:=by kernel_rfl
def Avp:Bg PP 357=true:=by kernel_rfl
def A1G:Bg PP 109=true:=by kernel_rfl
def A7r:Bg PP 69=true:=by kernel_rfl
def A1H:Bg PP 110=true:=by kernel_rfl
def A7l:Bg PP 31=true:=by kernel_rfl
def A1N:Bg PP 175=true:=by kernel_rfl
def A7n:Bg PP 65=true:=by kernel_rfl
def A1M:Bg PP 174=true:=by kernel_rfl
def A7q:Bg PP 68=true:=by kernel_rfl
def A7k:Bg PP 30=true:=by kernel_rfl
def A1O:Bg PP 176=true:=by kernel_rfl
def A1I:Bg PP 111=true:=by kernel_rfl
def A1J:Bg PP 113=true:=by kernel_rfl
def A7o:Bg PP 66=true:=by kernel_rfl
def Avk:Bg PP 112=true:=by kernel_rfl
def A7p:Bg PP 67=true:=by kernel_rfl
def A7j:Bg PP 29=true:=by kernel_rfl
def A7m:Bg PP 64=true:=by kernel_rfl
def A1R:Bg PP 349=true:=by kernel_rfl
def A1S:Bg PP 352=true:=by kernel_rfl
def A1T:Bg PP 354=true:=by kernel_rfl
def A1U:Bg PP 356=true:=by kernel_rfl
def T1:Df:=T0.ext 177 A14
def T2:Df:=T1.ext 178 A15
def T3:Df:=T2.ext 117 A1z
def T4:Df:=T3.ext 118 A10
def T5:Df:=T4.ext 115 Axf
def T6:Df:=T5.ext 350 A16
def T7:Df:=T6.ext 353 A17
def T8:Df:=T7.ext 355 A18
def T9:Df:=T8.ext 357 A19
def Iq:Df:=T9.ext 109 A1v
def Ir:Df:=Iq.ext 69 S69
def Is:Df:=Ir.ext 110 A1w
def I2:Df:=Is.ext 31 S31
def I8:Df:=I2.ext 175 A12
def Jy:Df:=I8.ext 65 S65
def J2:Df:=Jy.ext 174 A11
def Ol:Df:=J2.ext 68 S68
def Ot:Df:=Ol.ext 30 S30
def O1:Df:=Ot.ext 176 A13
def Rk:Df:=O1.ext 111 A1x
def Sa:Df:=Rk.ext 113 A1y
def U4:Df:=Sa.ext 66 S66
def T23:Df:=U4.ext 112 Avh
def T24:Df:=T23.ext 112 Axe
def T25:Df:=T24.ext 67 S67
def T26:Df:=T25.ext 29 S29
def T27:Df:=T26.ext 64 S64
def tQ{a b:C}(q:a=b:=by simp[T1,T2,T3,T4,T5,T6,T7,T8,T9,Iq,Ir,Is,I2,I8,Jy,J2,Ol,Ot,O1,Rk,Sa,U4,T23,T24,T25,T26,T27,Bb]):a=b:=q
def Xi{T:Df}{S:List AV->Option AV}{args:List AV}(b:T o=S)(a:S args=some p)(h:H):(cD PP T (j+1)).call o args h=.ok p h:=Ate h (by rw[b];exact a)
def cdN{T:Df}{args:List AV}(a:T o=λ_=>none)(h:H):(cD PP T (j+1)).call o args h=Fy PP (cD PP T j) o args h:=Atd h (by rw[a])
def Ayh{T:Df}{d:Nat}(e:T 177=A14):A1o (cD PP T (d+1)):=λn h=>Xi e (Cd (enc:=λn:Int=>[AV.int .i64 n]) (λa b c=>by simpa using c) (a:=n) trivial) h
def Ayi{T:Df}{d:Nat}(e:T 178=A15):A1p (cD PP T (d+1)):=λn h=>Xi e (Cd (enc:=λn:List Nat=>[AV.str n]) (λa b c=>by simpa using c) (a:=n) trivial) h
def Aye{T:Df}{d:Nat}(e:T 117=A1z):A1j (cD PP T (d+1)):=λa b h=>Xi e (Cd (enc:=λp:Int × Int=>[AV.int .i64 p.1,AV.int .i64 p.2]) (λa b c=>by simp at c;exact bx c.1 c.2) (a:=(a,b)) trivial) h
def Ayf{T:Df}{d:Nat}(e:T 118=A10):A1k (cD PP T (d+1)):=λa b h=>Xi e (Cd (enc:=λp:List Nat × List Nat=>[AV.str p.1,AV.str p.2]) (λa b c=>by simp at c;exact bx c.1 c.2) (a:=(a,b)) trivial) h
def AfU(x y:Nd)(a:Bw x=Bw y):x=y:=by cases x;cases y;simpa using a
def Aqe{T:Df}(e:T 115=Axf):AwE (cD PP T (j+1)):=λa b h=>Xi e (Cd (enc:=λp:Nd × Nd=>[AV.agg (Bw p.1),AV.agg (Bw p.2)]) (λa b c=>by have h1:=ct c;have h2:=ct h1.2;exact bx (AfU _ _ (AV.agg.inj h1.1)) (AfU _ _ (AV.agg.inj h2.1))) (a:=(a,b)) trivial) h
def Ki(a:Plain p):I7 [p]:=.cons a .nil
def Aaf(a:Plain p)(hy:Plain I):I7 [p,I]:=.cons a (.cons hy .nil)
def AzB{z:AV}(a:Plain p)(hy:Plain I)(b:Plain z):I7 [p,I,z]:=.cons a (.cons hy (.cons b .nil))
def Fq(n:Nat)(hn:n<=200000):Ql.nx+n<=Bq:=by have:=Aqd;rw[AfK];omega
def t1:P3 PP T1:=Eo (q:=true) (n:=8) P3.none A1P om (λa=>Ki (.int _ _)) (λa=>.bool _) λa _=>⟨0,n177 _ _ a Ql⟩
def t2:P3 PP T2:=Eo (q:=true) (n:=8) t1 A1Q om (λa=>Ki (.str _)) (λa=>.bool _) λa _=>⟨0,n178 _ _ a Ql⟩
def t3:P3 PP T3:=Eo (q:=true) (n:=8) t2 A1K om (λa=>Aaf (.int _ _) (.int _ _)) (λa=>.int _ _) λa _=>⟨1,n117 _ _ (Ayh tQ) a.1 a.2 Ql⟩
def t4:P3 PP T4:=Eo (q:=true) (n:=8) t3 A1L om (λa=>Aaf (.str _) (.str _)) (λa=>.int _ _) λa _=>⟨1,n118 _ _ (Ayi tQ) a.1 a.2 Ql⟩
def Ayd{T:Df}(b:T 116=λ_=>none):A1i (cD PP T (j+1)):=λl h v a c=>by rw[cdN b];exact Jn (Yw _) (n116 _ 1048576 l h v a om om)
def t5:P3 PP T5:=Eo (q:=true) (n:=8) t4 Avl om (λa=>Aaf (Yq _) (Yq _)) (λa=>.int _ _) λa _=>⟨1,n115 _ _ (Ayd tQ) (Aye tQ) (Ayf tQ) a.1 a.2 Ql (Fq _ om)⟩
def Akt(o:Int)(a:Tr):Plain (.agg [iI o,A3 a]):=.agg λy hy=>by simp at hy;rcases hy with rfl|rfl;exact .int _ _;exact Bp a
def Aku(o:Int)(a b:Tr):Plain (.agg [iI o,A3 a,A3 b]):=.agg λy hy=>by simp at hy;rcases hy with rfl|rfl|rfl;exact .int _ _;exact Bp a;exact Bp b
def Akv(c a b:Tr):Plain (.agg [A3 c,A3 a,A3 b]):=.agg λy hy=>by simp at hy;rcases hy with rfl|rfl|rfl;exact Bp c;exact Bp a;exact Bp b
def t6:P3 PP T6:=Eo (q:=true) (n:=8) t5 Avm om (λa=>Ki (Akt _ _)) (λa=>.int _ _) λa _=>⟨0,A9D _ _ a.1 (A3 a.2) Ql (Fq _ om)⟩
def t7:P3 PP T7:=Eo (q:=true) (n:=8) t6 Avn om (λa=>Ki (Aku _ _ _)) (λa=>.int _ _) λa _=>⟨0,A9G _ _ a.1 (A3 a.2.1) (A3 a.2.2) Ql (Fq _ om)⟩
def t8:P3 PP T8:=Eo (q:=true) (n:=8) t7 Avo om (λa=>Ki (Akv _ _ _)) (λa=>.int _ _) λa _=>⟨0,A9I _ _ (A3 a.1) (A3 a.2.1) (A3 a.2.2) Ql (Fq _ om)⟩
def t9:P3 PP T9:=Eo (q:=true) (n:=8) t8 Avp om (λa=>Ki (Yq _)) (λa=>.int _ _) λa _=>⟨0,A9K _ _ a Ql (Fq _ om)⟩
def Azn:Ls PP 109 (mnm PP 109 1)=some 350:=by kernel_rfl
def Azo:Ls PP 111 (mnm PP 109 1)=some 353:=by kernel_rfl
def Azp:Ls PP 116 (mnm PP 109 1)=some 355:=by kernel_rfl
def Azq:Ls PP 170 (mnm PP 109 1)=some 357:=by kernel_rfl
def Azj:Ls PP 109 (mnm PP 109 0)=some 349:=by kernel_rfl
def Azk:Ls PP 111 (mnm PP 109 0)=some 352:=by kernel_rfl
def Azl:Ls PP 116 (mnm PP 109 0)=some 354:=by kernel_rfl
def Azm:Ls PP 170 (mnm PP 109 0)=some 356:=by kernel_rfl
def Pc{Z:Ac}{t:TypeId}{nm:String}(args:List AV)(h:H)(b:Ls PP t nm=some o)(a:Bg PP o=true):Hn PP Z (.I6 t p) nm args h=Z.call o (p::args) h:=by show(match Ls PP t nm with|some f=>Aeg PP Z f (p::args) h|none=>.bad 109)=_;rw[b];show(@Bool.rec (λ_=>OR) _ _ (Bg PP o):OR)=_;rw[a]
def De{T:Df}{d:Nat}(i:T 350=A16)(g:T 353=A17)(j:T 355=A18)(f:T 357=A19):HOp (cD PP T (d+1)):=by
 intro t h;cases t with
 |leaf x=>exact(Pc [] h Azq Avp).trans (Xi f (Cd (enc:=λx:Nd=>[AV.agg (Bw x)]) (λa b e=>AfU _ _ (AV.agg.inj (ct e).1)) (a:=x) trivial) h)
 |one o a=>exact(Pc [] h Azn Avm).trans (Xi i (Cd (enc:=λp:Int × Tr=>[AV.agg [iI p.1,A3 p.2]]) (λa b e=>by simp at e;exact bx e.1 (Fk _ _ e.2)) (a:=(o,a)) trivial) h)
 |two o a b=>exact(Pc [] h Azo Avn).trans (Xi g (Cd (enc:=λp:Int × Tr × Tr=>[AV.agg [iI p.1,A3 p.2.1,A3 p.2.2]]) (λa b e=>by simp at e;exact bx e.1 (bx (Fk _ _ e.2.1) (Fk _ _ e.2.2))) (a:=(o,a,b)) trivial) h)
 |three c a b=>exact(Pc [] h Azp Avo).trans (Xi j (Cd (enc:=λp:Tr × Tr × Tr=>[AV.agg [A3 p.1,A3 p.2.1,A3 p.2.2]]) (λa b e=>by simp at e;exact bx (Fk _ _ e.1) (bx (Fk _ _ e.2.1) (Fk _ _ e.2.2))) (a:=(c,a,b)) trivial) h)
def Atw(T:Df)(g:FuncId)(S a:List AV->Option AV):(T.ext g S).ext g a=T.ext g a:=by funext g' args;rw[Zt,Zt,Zt];split<;>rfl
def ArL{T:Df}(s:P3 PP T){enc:C->List AV}{out:C->AV}{dom:C->Prop}{q:Bool}{n:Nat}(l:∀a b,enc a=enc b->a=b)(c:C->Nat)(i:∀a,1<=c a)(p:Bg PP o=true)(hn:n<=200000)(r:∀a,I7 (enc a))(e:∀a,Plain (out a))
 (Du:∀k a,dom a->c a<=k+1->∃d,Sx.Comes (Ay PP (cD PP (T.ext o (Dv enc out (λb=>dom b/\c b<=k))) d) 1048576 q o (enc a) Ql) (Sx.Out n Ql (out a))):P3 PP (T.ext o (Dv enc out dom)):=by
 have m:∀k,P3 PP (T.ext o (Dv enc out (λb=>dom b/\c b<=k))):=by
  intro k;induction k with
  |zero=>exact Eo (q:=q) s p hn r e λa h=>by have:=i a;omega
  |succ k t=>rw[<- Atw T o (Dv enc out (λb=>dom b/\c b<=k))];exact Eo (q:=q) t p hn r e λa h=>Du k a h.1 h.2
 refine⟨λg args v f=>?_⟩;rw[Zt]at f;by_cases j:g=o
 .rw[W5 j]at f;obtain⟨a,h1,rfl,rfl⟩:=Acu f;refine(m (c a)).ok g _ _ ?_;rw[Zt,W5 j];exact Cd l (dom:=λb=>dom b/\c b<=c a) ⟨h1,Yw _⟩
 .rw[X2 j]at f;exact s.ok g args v f
def Nc(a b:Tr)(c:[A3 a]=[A3 b]):a=b:=Fk _ _ (ct c).1
def AhI(a b:Tr × Tr)(c:[A3 a.1,A3 a.2]=[A3 b.1,A3 b.2]):a=b:=by simp at c;exact bx (Fk _ _ c.1) (Fk _ _ c.2)
def P9(a b:Int × Tr × Tr)(c:Ahq a=Ahq b):a=b:=by simp at c;exact bx c.1 (bx (Fk _ _ c.2.1) (Fk _ _ c.2.2))
def AyU(a b:Tr × Int)(c:[A3 a.1,AV.int .i64 a.2]=[A3 b.1,AV.int .i64 b.2]):a=b:=by simp at c;exact bx (Fk _ _ c.1) c.2
def Adb(b:Plain p)(hy:Plain I):Plain (.Bj [p,I]):=.Bj λz a=>by simp at a;rcases a with rfl|rfl;exact b;exact hy
def Ada(x:Option Tr):Plain (Yy x):=Adb (by cases x;exact .B3;exact Bp _) (.bool _)
def Lx(p:Int × Tr × Tr):I7 (Ahq p):=AzB (.int _ _) (Bp _) (Bp _)
def t10:P3 PP Iq:=by
 refine ArL (q:=true) (n:=8) t9 Nc size size_pos A1G om (λa=>Ki (Bp a)) (λa=>Adb (.int _ _) (.bool _)) λk t _ d=>⟨1,?_⟩;have f:∀a,size a<=k->∀h,(cD PP (T9.ext 109 (Dv (λt:Tr=>[A3 t]) (λt=>.Bj [iI (value t).1,.bool (value t).2]) (λb=>True/\size b<=k))) 1).call 109 [A3 a] h=.ok (.Bj [iI (value a).1,.bool (value a).2]) h:=λa e h=>Xi (S:=Dv (λt:Tr=>[A3 t]) (λt=>.Bj [iI (value t).1,.bool (value t).2]) (λb=>True/\size b<=k)) (by simp[Bb]) (Cd Nc (dom:=λb=>True/\size b<=k) ⟨trivial,e⟩) h;cases t with
 |leaf x=>exact Ark _ _ x Ql (Fq _ om)
 |one o a=>exact Aun _ _ o a (De tQ tQ tQ tQ) (f a (by simp[size]at d;omega)) Ql (Fq _ om)
 |two o a b=>exact Auo _ _ o a b Ql (Fq _ om)
 |three c a b=>exact An5 _ _ c a b Ql (Fq _ om)
def Qw{T:Df}{d:Nat}(b:T 109=A1v):AoN (cD PP T (d+1)):=λt h=>Xi b (Cd Nc (a:=t) trivial) h
def h69{T:Df}{d:Nat}(e:T 69=S69):H69 (cD PP T (d+1)):=λn h=>Xi e (Cd (enc:=λn:Int=>[AV.int .i64 n]) (λa b c=>by simpa using c) (a:=n) trivial) h
def Ah7{T:Df}(e:T 110=A1w):AwD (cD PP T (j+1)):=λn h h1 h2=>Xi e (Cd (enc:=λn:Int=>[AV.int .i64 n]) (λa b c=>by simpa using c) (a:=n) ⟨h1,h2⟩) h
def N7{T:Df}{d:Nat}(e:T 31=S31):H31 (cD PP T (d+1)):=λn h=>Xi e (Cd (enc:=λn:Bool=>[AV.bool n]) (λa b c=>by simpa using c) (a:=n) trivial) h
def Af2{T:Df}{d:Nat}(b:T 175=A12):A1n (cD PP T (d+1)):=λt n h=>Xi b (Cd AyU (a:=(t,n)) trivial) h
def h65{T:Df}{d:Nat}(b:T 65=S65):H65 (cD PP T (d+1)):=λt h=>Xi b (Cd Nc (a:=t) trivial) h
def AmO{T:Df}{d:Nat}(c:T 174=A11):A1m (cD PP T (d+1)):=λo a b h e=>Xi c (Cd P9 (a:=(o,a,b)) e) h
def h68{T:Df}(e:T 68=S68):H68 (cD PP T (j+1)):=λa b h f c=>Xi e (Cd AhI (a:=(a,b)) ⟨f,c⟩) h
def J3{T:Df}{d:Nat}(e:T 30=S30):H30 (cD PP T (d+1)):=λa b h f c=>Xi e (Cd AhI (a:=(a,b)) ⟨f,c⟩) h
def Qx{T:Df}{d:Nat}(e:T 176=A13):AsV (cD PP T (d+1)):=λo a b h f c=>Xi e (Cd P9 (a:=(o,a,b)) ⟨f,c⟩) h
def Aya{T:Df}(e:T 111=A1x):A1e (cD PP T (j+1)):=λo a b h g f c=>Xi e (Cd P9 (a:=(o,a,b)) ⟨g,f,c⟩) h
def Ayb{T:Df}(e:T 113=A1y):A1g (cD PP T (j+1)):=λo a b h g f c=>Xi e (Cd P9 (a:=(o,a,b)) ⟨g,f,c⟩) h
def h66{T:Df}{d:Nat}(c:T 66=S66):H66 (cD PP T (d+1)):=λt h b=>Xi c (Cd Nc (a:=t) b) h
def A3i{T:Df}(e:T 112=Avh):Avc (cD PP T (j+1)):=λo a b h g f c=>Xi e (Cd P9 (a:=(o,a,b)) ⟨g,f,c⟩) h
def AmN{T:Df}(e:T 112=Axe):A1f (cD PP T (j+1)):=λo a b h g f c=>Xi e (Cd P9 (a:=(o,a,b)) ⟨g,f,c⟩) h
def h67{T:Df}(c:T 67=S67):H67 (cD PP T (j+1)):=λh=>Xi c (Cd (enc:=λ_:Unit=>([]:List AV)) (λa b _=>rfl) (a:=()) trivial) h
def t11:P3 PP Ir:=Eo (q:=true) (n:=8) t10 A7r om (λa=>Ki (.int _ _)) (λa=>Bp _) λn _=>⟨0,n69 _ _ n Ql (Fq _ om)⟩
def t12:P3 PP Is:=Eo (q:=true) (n:=8) t11 A1H om (λa=>Ki (.int _ _)) (λa=>Ada _) λn hn=>⟨1,n110 _ _ (h69 tQ) n hn.1 hn.2 Ql (Fq _ om)⟩
def t13:P3 PP I2:=Eo (q:=true) (n:=8) t12 A7l om (λa=>Ki (.bool _)) (λa=>Bp _) λb _=>⟨1,n31 _ _ (h69 tQ) b Ql (Fq _ om)⟩
def t14:P3 PP I8:=Eo (q:=true) (n:=8) t13 A1N om (λa=>Aaf (Bp _) (.int _ _)) (λa=>.bool _) λp _=>⟨1,n175 _ _ (Qw tQ) p.1 p.2 Ql (Fq _ om)⟩
def t15:P3 PP Jy:=Eo (q:=true) (n:=8) t14 A7n om (λa=>Ki (Bp _)) (λa=>Bp _) λt _=>⟨1,n65 _ _ (Qw tQ) (Ah7 tQ) t Ql (Fq _ om)⟩
def t16:P3 PP J2:=Eo (q:=true) (n:=8) t15 A1M om Lx (λa=>Ada _) λp b=>⟨1,n174 _ _ (Qw tQ) (Ah7 tQ) p.1 b p.2.1 p.2.2 Ql (Fq _ om)⟩
def AjR[Ii]{T:Df}(l:T 351=λ_=>none)(p:T 349=λ_=>none)(n:T 352=λ_=>none)(r:T 354=λ_=>none)(m:T 356=λ_=>none):∀(t:Tr) (d:Nat),2*size t<=d->Zh (cD PP T d) t:=by
 have j:∀(o:Int) (ts:List Tr) (d:Nat),ts.length<=10->(∀t∈ts,Zh (cD PP T d) t)->AkS (cD PP T (d+1)) o ts:=by intro o ts d w s h v y f g;rw[cdN l];exact Ji (A9E _ 1048576 o ts om s h v y f g)
 intro t;induction t with
 |leaf x=>
  intro d hd h f g;obtain⟨e,rfl⟩:∃e,d=e+2:=⟨d-2,by simp[size]at hd;omega⟩;rw[show A3 (.leaf x)=.I6 170 (.agg (Bw x))from rfl,Pc [] h Azm A1U,cdN m]
  simp only[size]at f;exact(Ji (A9J _ 1048576 x h om)).mono (by simp[size]) λv h q=>q
 |one o a k=>
  intro d hd h f g;simp only[size]at hd;obtain⟨e,rfl⟩:∃e,d=e+2:=⟨d-2,by omega⟩;rw[show A3 (.one o a)=.I6 109 (.agg [iI o,A3 a])from rfl,Pc [] h Azj A1R,cdN p]
  exact Ji (A9C _ 1048576 o a (j o [a] e (by simp) (by simp;exact k e om)) h f g)
 |two o a b k i=>
  intro d hd h f g;simp only[size]at hd;obtain⟨e,rfl⟩:∃e,d=e+2:=⟨d-2,by omega⟩;rw[show A3 (.two o a b)=.I6 111 (.agg [iI o,A3 a,A3 b])from rfl,Pc [] h Azk A1S,cdN n]
  exact Ji (A9F _ 1048576 o a b (j o [a,b] e (by simp) (by simp;exact⟨k e om,i e om⟩)) h f g)
 |three c a b u k i=>
  intro d hd h f g;simp only[size]at hd;obtain⟨e,rfl⟩:∃e,d=e+2:=⟨d-2,by omega⟩;rw[show A3 (.three c a b)=.I6 116 (.agg [A3 c,A3 a,A3 b])from rfl,Pc [] h Azl A1T,cdN r]
  exact Ji (A9H _ 1048576 c a b (j 8 [c,a,b] e (by simp) (by simp;exact⟨u e om,k e om,i e om⟩)) h f g)
def Ayc{T:Df}(f:T 114=λ_=>none)(a:T 115=Axf):A1h (cD PP T (j+2)):=λl m h v w e b c g=>by rw[cdN f];exact Ji (n114 _ 1048576 (Aqe a) Avl l m h v w e b c om g)
def t17:P3 PP Ol:=Eo (q:=true) (n:=30000) t16 A7q om (λa=>Aaf (Bp _) (Bp _)) (λa=>.int _ _) λp b=>⟨2000+2,ApX (n68 _ _ p.1 p.2 (AjR tQ tQ tQ tQ tQ p.1 _ om) (AjR tQ tQ tQ tQ tQ p.2 _ om) (Ayc tQ tQ) b.1 b.2 Ql (Fq _ om))⟩
def t18:P3 PP Ot:=Eo (q:=true) (n:=8) t17 A7k om (λa=>Aaf (Bp _) (Bp _)) (λa=>.bool _) λp b=>⟨1,n30 _ _ (h68 tQ) p.1 p.2 b.1 b.2 Ql (Fq _ om)⟩
def t19:P3 PP O1:=Eo (q:=true) (n:=8) t18 A1O om Lx (λa=>Bp _) λp b=>⟨1,n176 _ _ (h68 tQ) p.1 p.2.1 p.2.2 b.1 b.2 Ql (Fq _ om)⟩
def t20:P3 PP Rk:=Eo (q:=true) (n:=8) t19 A1I om Lx (λa=>Bp _) λp b=>⟨1,n111 _ _ (J3 tQ) (h65 tQ) (h69 tQ) (AmO tQ) (Af2 tQ) (Qx tQ) p.1 b.1 p.2.1 p.2.2 b.2.1 b.2.2 Ql (Fq _ om)⟩
def t21:P3 PP Sa:=Eo (q:=true) (n:=8) t20 A1J om Lx (λa=>Bp _) λp b=>⟨1,n113 _ _ (J3 tQ) (N7 tQ) (Qx tQ) p.1 b.1 p.2.1 p.2.2 b.2.1 b.2.2 Ql (Fq _ om)⟩
def t22:P3 PP U4:=Eo (q:=true) (n:=8) t21 A7o om (λa=>Ki (Bp _)) (λa=>Bp _) λt b=>⟨1,n66 _ _ (J3 tQ) (N7 tQ) t b Ql (Fq _ om)⟩
def t23:P3 PP T23:=Eo (q:=true) (n:=8) t22 Avk om Lx (λa=>Bp _) λp b=>⟨1,Awq _ _ (De tQ tQ tQ tQ) (Qw tQ) (J3 tQ) (N7 tQ) (Qx tQ) p.1 (by have:=b.1;omega) p.2.1 p.2.2 b.2.1 b.2.2 Ql (Fq _ om)⟩
def AxI(o:Int)(a b:Tr)(h1:o<=12):Ek o a b=Dg o a b:=by unfold Ek;rw[X2 om,X2 om]
def t24:P3 PP T24:=by
 unfold T24;have c:P3 PP (T23.ext 112 Axe):=by
  refine Eo (q:=true) (n:=8) t23 Avk om Lx (λa=>Bp _) λp b=>?_;by_cases hq:p.1<=12
  .rw[AxI _ _ _ hq];exact⟨1,Awq _ _ (De tQ tQ tQ tQ) (Qw tQ) (J3 tQ) (N7 tQ) (Qx tQ) p.1 (by have:=b.1;omega) p.2.1 p.2.2 b.2.1 b.2.2 Ql (Fq _ om)⟩
  .exact⟨1,A4F _ _ (A3i tQ) p.1 (by have:=b.1;omega) p.2.1 p.2.2 b.2.1 b.2.2 Ql (Fq _ om)⟩
 exact c
def Aip:Plain (.agg Of):=.agg λx a=>by
 have b:∀g,Plain (fnA g):=λg=>.fn (λl h=>by cases h) (λy hy=>by cases hy) (λy hy=>by cases hy);simp[Of]at a;rcases a with rfl|rfl|rfl|rfl|rfl|rfl
 all_goals first|exact .Iy|exact b _
def t25:P3 PP T25:=Eo (q:=true) (n:=8) t24 A7p om (λ_=>.nil) (λ_=>Aip) λ_ _=>⟨0,n67 _ _ Ql (Fq _ om)⟩
def t26:P3 PP T26:=by
 refine ArL (q:=true) (n:=8) t25 Nc size size_pos A7j om (λa=>Ki (Bp a)) (λa=>Bp _) λk t j g=>⟨1,?_⟩;have e:∀a,Wf a->size a<=k->size a<=1000->H29 (cD PP (T25.ext 29 (Dv (λt:Tr=>[A3 t]) (λt=>A3 (normal t)) (λb=>(Wf b/\size b<=1000)/\size b<=k))) 1) a:=λa d i f h=>Xi (S:=Dv (λt:Tr=>[A3 t]) (λt=>A3 (normal t)) (λb=>(Wf b/\size b<=1000)/\size b<=k)) (by simp[Bb]) (Cd Nc (dom:=λb=>(Wf b/\size b<=1000)/\size b<=k) ⟨⟨d,f⟩,i⟩) h;obtain⟨d,f⟩:=j;cases t with
 |leaf x=>exact Aup _ _ x Ql (Fq _ om)
 |one o a=>simp only[size]at g f;have:=Ea a;exact Azs _ _ (h65 tQ) (h66 tQ) o a om (e a d om om) Ql (Fq _ om)
 |two o a b=>simp only[size]at g f;have:=Ea a;have:=Ea b;exact Azt _ _ (h67 tQ) (Aya tQ) (AmN tQ) (Ayb tQ) o a b d om om (e a d.2.1 om om) (e b d.2.2 om om) Ql (Fq _ om)
 |three c a b=>simp only[size]at g f;have:=Ea a;have:=Ea b;have:=Ea c;exact Arl _ _ (J3 tQ) (N7 tQ) c a b om om om (e c d.1 om om) (e a d.2.1 om om) (e b d.2.2 om om) Ql (Fq _ om)
def t27:P3 PP T27:=Eo (q:=true) (n:=8) t26 A7m om (λa=>Ki (Bp _)) (λa=>.bool _) λt _=>⟨1,n64 _ _ (De tQ tQ tQ tQ) t Ql (Fq _ om)⟩
end Go.Proofs
namespace Go.Proofs
open Go Go.Ev Go.Nm Go.Ev.Sx
attribute [local irreducible] Aa Al Af Ad
variable [Ii]
variable (Z:Ac)(N:Nat)
def As7:Hp PP 103=.sl ⟨56,1,16⟩:=by kernel_rfl
def A5l:tk PP 103=.slice:=by kernel_rfl
abbrev H64:Prop:=∀(t:Tr) (h:H),Z.call 64 [A3 t] h=.ok (.bool (decide (9<=t.op))) h
def F4(t:Tr):Bool:=decide (9<=t.op)
def Gf(st:List Tr)(ts:List Bool):Option (List Tr × List Tr):=
 if ts.length<=st.length/\(st.drop (st.length-ts.length)).map F4=ts then some (st.take (st.length-ts.length),st.drop (st.length-ts.length))else none
def Fa(st:List Tr)(x:Nd):Option (List Tr):=
 if x.op<=3 then some (st++[.leaf x])
 else if x.op=7\/x.op=17 then(match Gf st [decide (x.op=17)]with|some (r,[a])=>some (r++[.one x.op a])|_=>none)
 else if x.op=8 then(match Gf st [true,false,false]with|some (r,[c,a,b])=>some (r++[.three c a b])|_=>none)
 else(match Gf st [decide (x.op=15)||decide (x.op=16),decide (x.op=15)||decide (x.op=16)]with|some (r,[a,b])=>some (r++[.two x.op a b])|_=>none)
def Akw{z a lo:Nat}(b:lo<=a)(h:z∈a::([]:List Nat)):lo<=z:=by
 rcases Tu.1 h with rfl|h
 .exact b
 .cases h
end Go.Proofs
