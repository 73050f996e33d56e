/- The builder of expressions: push, add. -/
import Derived.Test.YtecikbfimlolcaaGreatDoorEvNa
set_option linter.all false
set_option maxRecDepth 100000
noncomputable section
namespace Go.Proofs
open Go Go.Ev Go.Nm Go.Ev.Sx
theorem Zt (T:Df) (g g':FuncId) (S:List AV->Option AV) (args:List AV):T.ext g S g' args=if g'=g then S args else T g' args:=by
 by_cases hh:g'=g
 . rw [if_pos hh,hh,Ahs]
 . rw [if_neg hh,Aew _ _ hh]
theorem Bb (T:Df) (g g':FuncId) (S:List AV->Option AV):T.ext g S g'=if g'=g then S else T g':=by
 funext args
 rw [Zt]
 split<;>rfl
abbrev T0:Df:=λ_ _=>none
theorem A1P:Bg PP 177=true:=by kernel_rfl
theorem A1Q:Bg PP 178=true:=by kernel_rfl
theorem A1K:Bg PP 117=true:=by kernel_rfl
theorem A1L:Bg PP 118=true:=by kernel_rfl
theorem Avl:Bg PP 115=true:=by kernel_rfl
theorem Avm:Bg PP 350=true:=by kernel_rfl
theorem Avn:Bg PP 353=true:=by kernel_rfl
theorem Avo:Bg PP 355=true:=by kernel_rfl
theorem Avp:Bg PP 357=true:=by kernel_rfl
theorem A1G:Bg PP 109=true:=by kernel_rfl
theorem A7r:Bg PP 69=true:=by kernel_rfl
theorem A1H:Bg PP 110=true:=by kernel_rfl
theorem A7l:Bg PP 31=true:=by kernel_rfl
theorem A1N:Bg PP 175=true:=by kernel_rfl
theorem A7n:Bg PP 65=true:=by kernel_rfl
theorem A1M:Bg PP 174=true:=by kernel_rfl
theorem A7q:Bg PP 68=true:=by kernel_rfl
theorem A7k:Bg PP 30=true:=by kernel_rfl
theorem A1O:Bg PP 176=true:=by kernel_rfl
theorem A1I:Bg PP 111=true:=by kernel_rfl
theorem A1J:Bg PP 113=true:=by kernel_rfl
theorem A7o:Bg PP 66=true:=by kernel_rfl
theorem Avk:Bg PP 112=true:=by kernel_rfl
theorem A7p:Bg PP 67=true:=by kernel_rfl
theorem A7j:Bg PP 29=true:=by kernel_rfl
theorem A7m:Bg PP 64=true:=by kernel_rfl
theorem A1R:Bg PP 349=true:=by kernel_rfl
theorem A1S:Bg PP 352=true:=by kernel_rfl
theorem A1T:Bg PP 354=true:=by kernel_rfl
theorem A1U:Bg PP 356=true:=by kernel_rfl
def T1:Df:=T0.ext 177 A14
def T2:Df:=T1.ext 178 A15
def T3:Df:=T2.ext 117 A1z
def T4:Df:=T3.ext 118 A10
def T5:Df:=T4.ext 115 Axf
def T6:Df:=T5.ext 350 A16
def T7:Df:=T6.ext 353 A17
def T8:Df:=T7.ext 355 A18
def T9:Df:=T8.ext 357 A19
def Iq:Df:=T9.ext 109 A1v
def Ir:Df:=Iq.ext 69 S69
def Is:Df:=Ir.ext 110 A1w
def I2:Df:=Is.ext 31 S31
def I8:Df:=I2.ext 175 A12
def Jy:Df:=I8.ext 65 S65
def J2:Df:=Jy.ext 174 A11
def Ol:Df:=J2.ext 68 S68
def Ot:Df:=Ol.ext 30 S30
def O1:Df:=Ot.ext 176 A13
def Rk:Df:=O1.ext 111 A1x
def Sa:Df:=Rk.ext 113 A1y
def U4:Df:=Sa.ext 66 S66
def T23:Df:=U4.ext 112 Avh
def T24:Df:=T23.ext 112 Axe
def T25:Df:=T24.ext 67 S67
def T26:Df:=T25.ext 29 S29
def T27:Df:=T26.ext 64 S64
theorem tQ {α:Type} {a b:α} (q:a=b:=by simp [T1,T2,T3,T4,T5,T6,T7,T8,T9,Iq,Ir,Is,I2,I8,Jy,J2,Ol,Ot,O1,Rk,Sa,U4,T23,T24,T25,T26,T27,Bb]):a=b:=q
theorem Xi {T:Df} {d:Nat} {g:FuncId} {S:List AV->Option AV} {args:List AV} {v:AV} (hT:T g=S) (hs:S args=some v) (h:H):(cD PP T (d+1)).call g args h=.ok v h:=Ate h (by rw [hT];exact hs)
theorem cdN {T:Df} {d:Nat} {g:FuncId} {args:List AV} (hT:T g=λ_=>none) (h:H):(cD PP T (d+1)).call g args h=Fy PP (cD PP T d) g args h:=Atd h (by rw [hT])
theorem Ayh {T:Df} {d:Nat} (hT:T 177=A14):A1o (cD PP T (d+1)):=λn h=>Xi hT (Cd (enc:=λn:Int=>[AV.int .i64 n]) (λa b hh=>by simpa using hh) (a:=n) trivial) h
theorem Ayi {T:Df} {d:Nat} (hT:T 178=A15):A1p (cD PP T (d+1)):=λn h=>Xi hT (Cd (enc:=λn:List Nat=>[AV.str n]) (λa b hh=>by simpa using hh) (a:=n) trivial) h
theorem Aye {T:Df} {d:Nat} (hT:T 117=A1z):A1j (cD PP T (d+1)):=λa b h=>Xi hT (Cd (enc:=λp:Int × Int=>[AV.int .i64 p.1,AV.int .i64 p.2]) (λa b hh=>by simp at hh;exact Prod.ext hh.1 hh.2) (a:=(a,b)) trivial) h
theorem Ayf {T:Df} {d:Nat} (hT:T 118=A10):A1k (cD PP T (d+1)):=λa b h=>Xi hT (Cd (enc:=λp:List Nat × List Nat=>[AV.str p.1,AV.str p.2]) (λa b hh=>by simp at hh;exact Prod.ext hh.1 hh.2) (a:=(a,b)) trivial) h
theorem AfU (x y:Nd) (hh:Bw x=Bw y):x=y:=by cases x;cases y;simpa using hh
theorem Aqe {T:Df} {d:Nat} (hT:T 115=Axf):AwE (cD PP T (d+1)):=λa b h=>Xi hT (Cd (enc:=λp:Nd × Nd=>[AV.agg (Bw p.1),AV.agg (Bw p.2)]) (λa b hh=>by
 have h1:=List.cons.inj hh
 have h2:=List.cons.inj h1.2
 exact Prod.ext (AfU _ _ (AV.agg.inj h1.1)) (AfU _ _ (AV.agg.inj h2.1))) (a:=(a,b)) trivial) h
theorem Ki {x:AV} (hx:Plain x):I7 [x]:=.cons hx .nil
theorem Aaf {x y:AV} (hx:Plain x) (hy:Plain y):I7 [x,y]:=.cons hx (.cons hy .nil)
theorem AzB {x y z:AV} (hx:Plain x) (hy:Plain y) (hz:Plain z):I7 [x,y,z]:=.cons hx (.cons hy (.cons hz .nil))
theorem Fq (n:Nat) (hn:n<=200000):Ql.nx+n<=Bq:=by have:=Aqd;rw [AfK];omega
theorem t1:P3 PP T1:=Eo (q:=true) (n:=8) P3.none A1P om (λa=>Ki (.int _ _)) (λa=>.bool _) λa _=>⟨0,n177 _ _ a Ql⟩
theorem t2:P3 PP T2:=Eo (q:=true) (n:=8) t1 A1Q om (λa=>Ki (.str _)) (λa=>.bool _) λa _=>⟨0,n178 _ _ a Ql⟩
theorem t3:P3 PP T3:=Eo (q:=true) (n:=8) t2 A1K om (λa=>Aaf (.int _ _) (.int _ _)) (λa=>.int _ _) λa _=>⟨1,n117 _ _ (Ayh tQ) a.1 a.2 Ql⟩
theorem t4:P3 PP T4:=Eo (q:=true) (n:=8) t3 A1L om (λa=>Aaf (.str _) (.str _)) (λa=>.int _ _) λa _=>⟨1,n118 _ _ (Ayi tQ) a.1 a.2 Ql⟩
theorem Ayd {T:Df} {d:Nat} (hT:T 116=λ_=>none):A1i (cD PP T (d+1)):=λl h v hv hl=>by
 rw [cdN hT]
 exact Jn (Nat.le_refl _) (n116 _ 1048576 l h v hv om om)
theorem t5:P3 PP T5:=Eo (q:=true) (n:=8) t4 Avl om (λa=>Aaf (Yq _) (Yq _)) (λa=>.int _ _) λa _=>⟨1,n115 _ _ (Ayd tQ) (Aye tQ) (Ayf tQ) a.1 a.2 Ql (Fq _ om)⟩
theorem Akt (o:Int) (a:Tr):Plain (.agg [.int .i64 o,A3 a]):=.agg λy hy=>by simp at hy;rcases hy with rfl|rfl;exact .int _ _;exact Bp a
theorem Aku (o:Int) (a b:Tr):Plain (.agg [.int .i64 o,A3 a,A3 b]):=.agg λy hy=>by simp at hy;rcases hy with rfl|rfl|rfl;exact .int _ _;exact Bp a;exact Bp b
theorem Akv (c a b:Tr):Plain (.agg [A3 c,A3 a,A3 b]):=.agg λy hy=>by simp at hy;rcases hy with rfl|rfl|rfl;exact Bp c;exact Bp a;exact Bp b
theorem t6:P3 PP T6:=Eo (q:=true) (n:=8) t5 Avm om (λa=>Ki (Akt _ _)) (λa=>.int _ _) λa _=>⟨0,A9D _ _ a.1 (A3 a.2) Ql (Fq _ om)⟩
theorem t7:P3 PP T7:=Eo (q:=true) (n:=8) t6 Avn om (λa=>Ki (Aku _ _ _)) (λa=>.int _ _) λa _=>⟨0,A9G _ _ a.1 (A3 a.2.1) (A3 a.2.2) Ql (Fq _ om)⟩
theorem t8:P3 PP T8:=Eo (q:=true) (n:=8) t7 Avo om (λa=>Ki (Akv _ _ _)) (λa=>.int _ _) λa _=>⟨0,A9I _ _ (A3 a.1) (A3 a.2.1) (A3 a.2.2) Ql (Fq _ om)⟩
theorem t9:P3 PP T9:=Eo (q:=true) (n:=8) t8 Avp om (λa=>Ki (Yq _)) (λa=>.int _ _) λa _=>⟨0,A9K _ _ a Ql (Fq _ om)⟩
theorem Azn:Ls PP 109 (mnm PP 109 1)=some 350:=by kernel_rfl
theorem Azo:Ls PP 111 (mnm PP 109 1)=some 353:=by kernel_rfl
theorem Azp:Ls PP 116 (mnm PP 109 1)=some 355:=by kernel_rfl
theorem Azq:Ls PP 170 (mnm PP 109 1)=some 357:=by kernel_rfl
theorem Azj:Ls PP 109 (mnm PP 109 0)=some 349:=by kernel_rfl
theorem Azk:Ls PP 111 (mnm PP 109 0)=some 352:=by kernel_rfl
theorem Azl:Ls PP 116 (mnm PP 109 0)=some 354:=by kernel_rfl
theorem Azm:Ls PP 170 (mnm PP 109 0)=some 356:=by kernel_rfl
theorem Pc {ctx:Ac} {t:TypeId} {v:AV} {nm:String} {g:FuncId} (args:List AV) (h:H) (hm:Ls PP t nm=some g) (hb:Bg PP g=true):Hn PP ctx (.I6 t v) nm args h=ctx.call g (v::args) h:=by
 show (match Ls PP t nm with|some f=>Aeg PP ctx f (v::args) h|none=>.bad 109)=_
 rw [hm]
 show (Bool.rec (motive:=λ_=>OR) _ _ (Bg PP g):OR)=_
 rw [hb]
theorem De {T:Df} {d:Nat} (A8f:T 350=A16) (A8i:T 353=A17) (A8k:T 355=A18) (A8m:T 357=A19):HOp (cD PP T (d+1)):=by
 intro t h
 cases t with
 |leaf x=>exact (Pc [] h Azq Avp).trans (Xi A8m (Cd (enc:=λx:Nd=>[AV.agg (Bw x)]) (λa b hh=>AfU _ _ (AV.agg.inj (List.cons.inj hh).1)) (a:=x) trivial) h)
 |one o a=>exact (Pc [] h Azn Avm).trans (Xi A8f (Cd (enc:=λp:Int × Tr=>[AV.agg [.int .i64 p.1,A3 p.2]]) (λa b hh=>by simp at hh;exact Prod.ext hh.1 (Fk _ _ hh.2)) (a:=(o,a)) trivial) h)
 |two o a b=>exact (Pc [] h Azo Avn).trans (Xi A8i (Cd (enc:=λp:Int × Tr × Tr=>[AV.agg [.int .i64 p.1,A3 p.2.1,A3 p.2.2]]) (λa b hh=>by simp at hh;exact Prod.ext hh.1 (Prod.ext (Fk _ _ hh.2.1) (Fk _ _ hh.2.2))) (a:=(o,a,b)) trivial) h)
 |three c a b=>exact (Pc [] h Azp Avo).trans (Xi A8k (Cd (enc:=λp:Tr × Tr × Tr=>[AV.agg [A3 p.1,A3 p.2.1,A3 p.2.2]]) (λa b hh=>by simp at hh;exact Prod.ext (Fk _ _ hh.1) (Prod.ext (Fk _ _ hh.2.1) (Fk _ _ hh.2.2))) (a:=(c,a,b)) trivial) h)
theorem Atw (T:Df) (g:FuncId) (S S':List AV->Option AV):(T.ext g S).ext g S'=T.ext g S':=by
 funext g' args
 rw [Zt,Zt,Zt]
 split<;>rfl
theorem ArL {T:Df} (ht:P3 PP T) {g:FuncId} {α:Type} {enc:α->List AV} {out:α->AV} {dom:α->Prop} {q:Bool} {n:Nat} (AyB:∀a b,enc a=enc b->a=b) (sz:α->Nat) (AhE:∀a,1<=sz a) (hb:Bg PP g=true) (hn:n<=200000) (Z1:∀a,I7 (enc a)) (hpv:∀a,Plain (out a))
 (Du:∀k a,dom a->sz a<=k+1->∃d,Sx.Comes (Ay PP (cD PP (T.ext g (Dv enc out (λb=>dom b/\sz b<=k))) d) 1048576 q g (enc a) Ql) (Sx.Out n Ql (out a))):P3 PP (T.ext g (Dv enc out dom)):=by
 have key:∀k,P3 PP (T.ext g (Dv enc out (λb=>dom b/\sz b<=k))):=by
  intro k
  induction k with
  |zero=>exact Eo (q:=q) ht hb hn Z1 hpv λa ha=>by have:=AhE a;omega
  |succ k ih=>
   rw [<- Atw T g (Dv enc out (λb=>dom b/\sz b<=k))]
   exact Eo (q:=q) ih hb hn Z1 hpv λa ha=>Du k a ha.1 ha.2
 refine ⟨λg' args v hv=>?_⟩
 rw [Zt] at hv
 by_cases hg:g'=g
 . rw [if_pos hg] at hv
   obtain ⟨a,h1,rfl,rfl⟩:=Acu hv
   refine (key (sz a)).ok g' _ _ ?_
   rw [Zt,if_pos hg]
   exact Cd AyB (dom:=λb=>dom b/\sz b<=sz a) ⟨h1,Nat.le_refl _⟩
 . rw [if_neg hg] at hv
   exact ht.ok g' args v hv
theorem Nc (a b:Tr) (hh:[A3 a]=[A3 b]):a=b:=Fk _ _ (List.cons.inj hh).1
theorem AhI (a b:Tr × Tr) (hh:[A3 a.1,A3 a.2]=[A3 b.1,A3 b.2]):a=b:=by simp at hh;exact Prod.ext (Fk _ _ hh.1) (Fk _ _ hh.2)
theorem P9 (a b:Int × Tr × Tr) (hh:Ahq a=Ahq b):a=b:=by simp at hh;exact Prod.ext hh.1 (Prod.ext (Fk _ _ hh.2.1) (Fk _ _ hh.2.2))
theorem AyU (a b:Tr × Int) (hh:[A3 a.1,AV.int .i64 a.2]=[A3 b.1,AV.int .i64 b.2]):a=b:=by simp at hh;exact Prod.ext (Fk _ _ hh.1) hh.2
theorem Adb {x y:AV} (hx:Plain x) (hy:Plain y):Plain (.Bj [x,y]):=.Bj λz hz=>by simp at hz;rcases hz with rfl|rfl;exact hx;exact hy
theorem Ada (x:Option Tr):Plain (Yy x):=Adb (by cases x;exact .B3;exact Bp _) (.bool _)
theorem Lx (p:Int × Tr × Tr):I7 (Ahq p):=AzB (.int _ _) (Bp _) (Bp _)
theorem t10:P3 PP Iq:=by
 refine ArL (q:=true) (n:=8) t9 Nc size size_pos A1G om (λa=>Ki (Bp a)) (λa=>Adb (.int _ _) (.bool _)) λk t _ hk=>⟨1,?_⟩
 have Rx:∀a,size a<=k->∀h,(cD PP (T9.ext 109 (Dv (λt:Tr=>[A3 t]) (λt=>.Bj [.int .i64 (value t).1,.bool (value t).2]) (λb=>True/\size b<=k))) 1).call 109 [A3 a] h=.ok (.Bj [.int .i64 (value a).1,.bool (value a).2]) h:=λa ha h=>
  Xi (S:=Dv (λt:Tr=>[A3 t]) (λt=>.Bj [.int .i64 (value t).1,.bool (value t).2]) (λb=>True/\size b<=k)) (by simp [Bb]) (Cd Nc (dom:=λb=>True/\size b<=k) ⟨trivial,ha⟩) h
 cases t with
 |leaf x=>exact Ark _ _ x Ql (Fq _ om)
 |one o a=>exact Aun _ _ o a (De tQ tQ tQ tQ) (Rx a (by simp [size] at hk;omega)) Ql (Fq _ om)
 |two o a b=>exact Auo _ _ o a b Ql (Fq _ om)
 |three c a b=>exact An5 _ _ c a b Ql (Fq _ om)
theorem Qw {T:Df} {d:Nat} (hT:T 109=A1v):AoN (cD PP T (d+1)):=λt h=>Xi hT (Cd Nc (a:=t) trivial) h
theorem h69 {T:Df} {d:Nat} (hT:T 69=S69):H69 (cD PP T (d+1)):=λn h=>Xi hT (Cd (enc:=λn:Int=>[AV.int .i64 n]) (λa b hh=>by simpa using hh) (a:=n) trivial) h
theorem Ah7 {T:Df} {d:Nat} (hT:T 110=A1w):AwD (cD PP T (d+1)):=λn h h1 h2=>Xi hT (Cd (enc:=λn:Int=>[AV.int .i64 n]) (λa b hh=>by simpa using hh) (a:=n) ⟨h1,h2⟩) h
theorem N7 {T:Df} {d:Nat} (hT:T 31=S31):H31 (cD PP T (d+1)):=λn h=>Xi hT (Cd (enc:=λn:Bool=>[AV.bool n]) (λa b hh=>by simpa using hh) (a:=n) trivial) h
theorem Af2 {T:Df} {d:Nat} (hT:T 175=A12):A1n (cD PP T (d+1)):=λt n h=>Xi hT (Cd AyU (a:=(t,n)) trivial) h
theorem h65 {T:Df} {d:Nat} (hT:T 65=S65):H65 (cD PP T (d+1)):=λt h=>Xi hT (Cd Nc (a:=t) trivial) h
theorem AmO {T:Df} {d:Nat} (hT:T 174=A11):A1m (cD PP T (d+1)):=λo a b h ho=>Xi hT (Cd P9 (a:=(o,a,b)) ho) h
theorem h68 {T:Df} {d:Nat} (hT:T 68=S68):H68 (cD PP T (d+1)):=λa b h ha hb=>Xi hT (Cd AhI (a:=(a,b)) ⟨ha,hb⟩) h
theorem J3 {T:Df} {d:Nat} (hT:T 30=S30):H30 (cD PP T (d+1)):=λa b h ha hb=>Xi hT (Cd AhI (a:=(a,b)) ⟨ha,hb⟩) h
theorem Qx {T:Df} {d:Nat} (hT:T 176=A13):AsV (cD PP T (d+1)):=λo a b h ha hb=>Xi hT (Cd P9 (a:=(o,a,b)) ⟨ha,hb⟩) h
theorem Aya {T:Df} {d:Nat} (hT:T 111=A1x):A1e (cD PP T (d+1)):=λo a b h ho ha hb=>Xi hT (Cd P9 (a:=(o,a,b)) ⟨ho,ha,hb⟩) h
theorem Ayb {T:Df} {d:Nat} (hT:T 113=A1y):A1g (cD PP T (d+1)):=λo a b h ho ha hb=>Xi hT (Cd P9 (a:=(o,a,b)) ⟨ho,ha,hb⟩) h
theorem h66 {T:Df} {d:Nat} (hT:T 66=S66):H66 (cD PP T (d+1)):=λt h ht=>Xi hT (Cd Nc (a:=t) ht) h
theorem A3i {T:Df} {d:Nat} (hT:T 112=Avh):Avc (cD PP T (d+1)):=λo a b h ho ha hb=>Xi hT (Cd P9 (a:=(o,a,b)) ⟨ho,ha,hb⟩) h
theorem AmN {T:Df} {d:Nat} (hT:T 112=Axe):A1f (cD PP T (d+1)):=λo a b h ho ha hb=>Xi hT (Cd P9 (a:=(o,a,b)) ⟨ho,ha,hb⟩) h
theorem h67 {T:Df} {d:Nat} (hT:T 67=S67):H67 (cD PP T (d+1)):=λh=>Xi hT (Cd (enc:=λ_:Unit=>([]:List AV)) (λa b _=>rfl) (a:=()) trivial) h
theorem t11:P3 PP Ir:=Eo (q:=true) (n:=8) t10 A7r om (λa=>Ki (.int _ _)) (λa=>Bp _) λn _=>⟨0,n69 _ _ n Ql (Fq _ om)⟩
theorem t12:P3 PP Is:=Eo (q:=true) (n:=8) t11 A1H om (λa=>Ki (.int _ _)) (λa=>Ada _) λn hn=>⟨1,n110 _ _ (h69 tQ) n hn.1 hn.2 Ql (Fq _ om)⟩
theorem t13:P3 PP I2:=Eo (q:=true) (n:=8) t12 A7l om (λa=>Ki (.bool _)) (λa=>Bp _) λb _=>⟨1,n31 _ _ (h69 tQ) b Ql (Fq _ om)⟩
theorem t14:P3 PP I8:=Eo (q:=true) (n:=8) t13 A1N om (λa=>Aaf (Bp _) (.int _ _)) (λa=>.bool _) λp _=>⟨1,n175 _ _ (Qw tQ) p.1 p.2 Ql (Fq _ om)⟩
theorem t15:P3 PP Jy:=Eo (q:=true) (n:=8) t14 A7n om (λa=>Ki (Bp _)) (λa=>Bp _) λt _=>⟨1,n65 _ _ (Qw tQ) (Ah7 tQ) t Ql (Fq _ om)⟩
theorem t16:P3 PP J2:=Eo (q:=true) (n:=8) t15 A1M om Lx (λa=>Ada _) λp hp=>⟨1,n174 _ _ (Qw tQ) (Ah7 tQ) p.1 hp p.2.1 p.2.2 Ql (Fq _ om)⟩
theorem AjR [Ii] {T:Df} (A8g:T 351=λ_=>none) (A8e:T 349=λ_=>none) (A8h:T 352=λ_=>none) (A8j:T 354=λ_=>none) (A8l:T 356=λ_=>none):∀(t:Tr) (d:Nat),2 * size t<=d->Zh (cD PP T d) t:=by
 have Aq2:∀(o:Int) (ts:List Tr) (d:Nat),ts.length<=10->(∀t∈ts,Zh (cD PP T d) t)->AkS (cD PP T (d+1)) o ts:=by
  intro o ts d hlen hts h v hv hr hs
  rw [cdN A8g]
  exact Ji (A9E _ 1048576 o ts om hts h v hv hr hs)
 intro t
 induction t with
 |leaf x=>
  intro d hd h hr hs
  obtain ⟨e,rfl⟩:∃e,d=e+2:=⟨d - 2,by simp [size] at hd;omega⟩
  rw [show A3 (.leaf x)=.I6 170 (.agg (Bw x)) from rfl,Pc [] h Azm A1U,cdN A8l]
  simp only [size] at hr
  exact (Ji (A9J _ 1048576 x h om)).mono (by simp [size]) λv h q=>q
 |one o a Rs=>
  intro d hd h hr hs
  simp only [size] at hd
  obtain ⟨e,rfl⟩:∃e,d=e+2:=⟨d - 2,by omega⟩
  rw [show A3 (.one o a)=.I6 109 (.agg [.int .i64 o,A3 a]) from rfl,Pc [] h Azj A1R,cdN A8e]
  exact Ji (A9C _ 1048576 o a (Aq2 o [a] e (by simp) (by simp;exact Rs e om)) h hr hs)
 |two o a b Rs ihb=>
  intro d hd h hr hs
  simp only [size] at hd
  obtain ⟨e,rfl⟩:∃e,d=e+2:=⟨d - 2,by omega⟩
  rw [show A3 (.two o a b)=.I6 111 (.agg [.int .i64 o,A3 a,A3 b]) from rfl,Pc [] h Azk A1S,cdN A8h]
  exact Ji (A9F _ 1048576 o a b (Aq2 o [a,b] e (by simp) (by simp;exact ⟨Rs e om,ihb e om⟩)) h hr hs)
 |three c a b ihc Rs ihb=>
  intro d hd h hr hs
  simp only [size] at hd
  obtain ⟨e,rfl⟩:∃e,d=e+2:=⟨d - 2,by omega⟩
  rw [show A3 (.three c a b)=.I6 116 (.agg [A3 c,A3 a,A3 b]) from rfl,Pc [] h Azl A1T,cdN A8j]
  exact Ji (A9H _ 1048576 c a b (Aq2 8 [c,a,b] e (by simp) (by simp;exact ⟨ihc e om,Rs e om,ihb e om⟩)) h hr hs)
theorem Ayc {T:Df} {d:Nat} (hT:T 114=λ_=>none) (A3k:T 115=Axf):A1h (cD PP T (d+2)):=λl m h v w hv hw hr hl=>by
 rw [cdN hT]
 exact Ji (n114 _ 1048576 (Aqe A3k) Avl l m h v w hv hw hr om hl)
theorem t17:P3 PP Ol:=Eo (q:=true) (n:=30000) t16 A7q om (λa=>Aaf (Bp _) (Bp _)) (λa=>.int _ _) λp hp=>⟨2000+2,ApX (n68 _ _ p.1 p.2 (AjR tQ tQ tQ tQ tQ p.1 _ om) (AjR tQ tQ tQ tQ tQ p.2 _ om) (Ayc tQ tQ) hp.1 hp.2 Ql (Fq _ om))⟩
theorem t18:P3 PP Ot:=Eo (q:=true) (n:=8) t17 A7k om (λa=>Aaf (Bp _) (Bp _)) (λa=>.bool _) λp hp=>⟨1,n30 _ _ (h68 tQ) p.1 p.2 hp.1 hp.2 Ql (Fq _ om)⟩
theorem t19:P3 PP O1:=Eo (q:=true) (n:=8) t18 A1O om Lx (λa=>Bp _) λp hp=>⟨1,n176 _ _ (h68 tQ) p.1 p.2.1 p.2.2 hp.1 hp.2 Ql (Fq _ om)⟩
theorem t20:P3 PP Rk:=Eo (q:=true) (n:=8) t19 A1I om Lx (λa=>Bp _) λp hp=>⟨1,n111 _ _ (J3 tQ) (h65 tQ) (h69 tQ) (AmO tQ) (Af2 tQ) (Qx tQ) p.1 hp.1 p.2.1 p.2.2 hp.2.1 hp.2.2 Ql (Fq _ om)⟩
theorem t21:P3 PP Sa:=Eo (q:=true) (n:=8) t20 A1J om Lx (λa=>Bp _) λp hp=>⟨1,n113 _ _ (J3 tQ) (N7 tQ) (Qx tQ) p.1 hp.1 p.2.1 p.2.2 hp.2.1 hp.2.2 Ql (Fq _ om)⟩
theorem t22:P3 PP U4:=Eo (q:=true) (n:=8) t21 A7o om (λa=>Ki (Bp _)) (λa=>Bp _) λt ht=>⟨1,n66 _ _ (J3 tQ) (N7 tQ) t ht Ql (Fq _ om)⟩
theorem t23:P3 PP T23:=Eo (q:=true) (n:=8) t22 Avk om Lx (λa=>Bp _) λp hp=>⟨1,Awq _ _ (De tQ tQ tQ tQ) (Qw tQ) (J3 tQ) (N7 tQ) (Qx tQ) p.1 (by have:=hp.1;omega) p.2.1 p.2.2 hp.2.1 hp.2.2 Ql (Fq _ om)⟩
theorem AxI (o:Int) (a b:Tr) (h1:o<=12):Ek o a b=Dg o a b:=by
 unfold Ek
 rw [if_neg om,if_neg om]
theorem t24:P3 PP T24:=by
 unfold T24
 have Y9:P3 PP (T23.ext 112 Axe):=by
  refine Eo (q:=true) (n:=8) t23 Avk om Lx (λa=>Bp _) λp hp=>?_
  by_cases hq:p.1<=12
  . rw [AxI _ _ _ hq]
    exact ⟨1,Awq _ _ (De tQ tQ tQ tQ) (Qw tQ) (J3 tQ) (N7 tQ) (Qx tQ) p.1 (by have:=hp.1;omega) p.2.1 p.2.2 hp.2.1 hp.2.2 Ql (Fq _ om)⟩
  . exact ⟨1,A4F _ _ (A3i tQ) p.1 (by have:=hp.1;omega) p.2.1 p.2.2 hp.2.1 hp.2.2 Ql (Fq _ om)⟩
 exact Y9
theorem Aip:Plain (.agg Of):=.agg λx hx=>by
 have hf:∀g,Plain (fnA g):=λg=>.fn (λl h=>by cases h) (λy hy=>by cases hy) (λy hy=>by cases hy)
 simp [Of] at hx
 rcases hx with rfl|rfl|rfl|rfl|rfl|rfl
 all_goals first|exact .Iy|exact hf _
theorem t25:P3 PP T25:=Eo (q:=true) (n:=8) t24 A7p om (λ_=>.nil) (λ_=>Aip) λ_ _=>⟨0,n67 _ _ Ql (Fq _ om)⟩
theorem t26:P3 PP T26:=by
 refine ArL (q:=true) (n:=8) t25 Nc size size_pos A7j om (λa=>Ki (Bp a)) (λa=>Bp _) λk t ht hk=>⟨1,?_⟩
 have Rx:∀a,Wf a->size a<=k->size a<=1000->H29 (cD PP (T25.ext 29 (Dv (λt:Tr=>[A3 t]) (λt=>A3 (normal t)) (λb=>(Wf b/\size b<=1000)/\size b<=k))) 1) a:=λa hw ha hs h=>
  Xi (S:=Dv (λt:Tr=>[A3 t]) (λt=>A3 (normal t)) (λb=>(Wf b/\size b<=1000)/\size b<=k)) (by simp [Bb]) (Cd Nc (dom:=λb=>(Wf b/\size b<=1000)/\size b<=k) ⟨⟨hw,hs⟩,ha⟩) h
 obtain ⟨hw,hs⟩:=ht
 cases t with
 |leaf x=>exact Aup _ _ x Ql (Fq _ om)
 |one o a=>
  simp only [size] at hk hs
  have:=Ea a
  exact Azs _ _ (h65 tQ) (h66 tQ) o a om (Rx a hw om om) Ql (Fq _ om)
 |two o a b=>
  simp only [size] at hk hs
  have:=Ea a
  have:=Ea b
  exact Azt _ _ (h67 tQ) (Aya tQ) (AmN tQ) (Ayb tQ) o a b hw om om (Rx a hw.2.1 om om) (Rx b hw.2.2 om om) Ql (Fq _ om)
 |three c a b=>
  simp only [size] at hk hs
  have:=Ea a
  have:=Ea b
  have:=Ea c
  exact Arl _ _ (J3 tQ) (N7 tQ) c a b om om om (Rx c hw.1 om om) (Rx a hw.2.1 om om) (Rx b hw.2.2 om om) Ql (Fq _ om)
theorem t27:P3 PP T27:=Eo (q:=true) (n:=8) t26 A7m om (λa=>Ki (Bp _)) (λa=>.bool _) λt _=>⟨1,n64 _ _ (De tQ tQ tQ tQ) t Ql (Fq _ om)⟩
end Go.Proofs
namespace Go.Proofs
open Go Go.Ev Go.Nm Tryz Go.Ev.Sx
attribute [local irreducible] Aa Al Af Ad
variable [Ii]
variable (ctx:Ac) (N:Nat)
theorem As7:Hp PP 103=.sl ⟨56,1,16⟩:=by kernel_rfl
theorem A5l:tk PP 103=.slice:=by kernel_rfl
theorem tk4:tk PP 4=.bool:=by kernel_rfl
theorem Tl:∀l:List Tr,Bm (l.map A3)=true
 |[]=>rfl
 |t::l=>by simp [Tl l]
theorem n173 (h:H) (v:AV) (ts:List Tr) (hv:My h v ts) (hp:ts≠[]) (Fc:ts.length<=50000) (hr:h.nx+3<=Bq):
 Cb 3 h (λv h'=>My h' v ts) (Ay prog ctx N true 173 [v] h):=by
 rw [A7B]
 have hlp:0<ts.length:=List.length_pos_iff.2 hp
 have hv':=hv
 rcases hv.at' with ⟨h1,_,_⟩|⟨b,off,cap,ex,cs,e,k,rfl,_⟩
 . omega
 . refine Ag (Atv A5l ..) ?_
   rw [Dq]
   refine Ag (v:=.sl h.nx 0 0 0 1 true) (h:=h.new (.cells [] 56 .exact)) (by simp) ?_
   have e1:=(Sx.Ext.refl 0 h).new (.cells [] 56 .exact) om
   refine Ic e1 (Amx (lo:=0) (A6 _ om) (hv'.ext e1) hlp om (Tl ts) (by show h.nx+1+2<=Bq;omega) om) λv h1 e2 _ q=>?_
   exact B0 e2 om q.sl
structure Ew (lo:Nat) (h:H) (bp:Nat) (st:List Tr):Prop where
 p1:lo<=bp
 p2:bp<h.nx
 at':∃sv,h.m.get bp=.cells [sv] 105 .exact/\((st=[]/\sv=.Bv)\/∃b cap c k n,sv=.sl b 0 st.length cap 1 false/\h.m.get b=.cells c 56 (.Gt k)/\h.m.get k=.Fb n/\c.length=cap/\st.length<=cap/\0<cap /\
  c.take st.length=st.map A3/\lo<=b/\lo<=k/\b<h.nx/\k<h.nx/\b≠k/\b≠bp/\k≠bp)
theorem Ew.ext {lo n bp:Nat} {h h1:H} {st:List Tr} (hb:Ew lo h bp st) (e:Sx.Ext n h h1):Ew lo h1 bp st:=by
 obtain ⟨sv,q1,q2⟩:=hb.at'
 refine ⟨hb.p1,Nat.lt_of_lt_of_le hb.p2 e.lo,sv,by rw [e.Cf bp hb.p2];exact q1,?_⟩
 rcases q2 with q2|⟨b,cap,c,k,n,r1,r2,r3,r4,r5,r6,r7,r8,r9,r10,r11,r12⟩
 . exact .inl q2
 . exact .inr ⟨b,cap,c,k,n,r1,by rw [e.Cf b r10];exact r2,by rw [e.Cf k r11];exact r3,r4,r5,r6,r7,r8,r9,Nat.lt_of_lt_of_le r10 e.lo,Nat.lt_of_lt_of_le r11 e.lo,r12⟩
abbrev Afc (h:H) (v:AV) (l:List Bool):Prop:=Oq 1 h v l.length (l.map AV.bool)
abbrev A1l:Prop:=∀(h:H) (v:AV) (ts:List Tr),My h v ts->ts≠[]->ts.length<=50000->h.nx+3<=Bq->Cb 3 h (λv h'=>My h' v ts) (ctx.call 173 [v] h)
abbrev H64:Prop:=∀(t:Tr) (h:H),ctx.call 64 [A3 t] h=.ok (.bool (decide (9<=t.op))) h
def F4 (t:Tr):Bool:=decide (9<=t.op)
theorem Ia {α:Type} {f:α->AV} {h:H} {v:AV} {l:List α} (hs:Oq 1 h v l.length (l.map f)) {i:Nat} {x:α} (hx:l[i]?=some x):
 ∃b o cs e k,(∀h1,Gc 1 v (.int .i64 (i:Int)) h1=.ok (.ptr b o) h1)/\h.m.get b=.cells cs e k/\Sx.readable k/\b<h.nx/\cs[o]?=some (f x):=by
 have hi:i<l.length:=(List.getElem?_eq_some_iff.1 hx).1
 obtain ⟨b,o,cs,e,k,p1,p2,p3,p4,p5,p6⟩:=hs.ia hi
 refine ⟨b,o,cs,e,k,p1,p2,p3,p4,?_⟩
 have h7:((cs.drop o).take 1)[0]?=(((l.map f).drop (i * 1)).take 1)[0]?:=by rw [p6]
 simpa [List.getElem?_take,List.getElem?_drop,hx] using h7
theorem Am9 {h0 h:H} {bp n m:Nat} {st:List Tr} (hb:Ew h0.nx h bp st) (hn:n<st.length) (he:Sx.Ext m h0 h) (hl:h.nx<=Bq):
 ∃sv sv' h',h.m.get bp=.cells [sv] 105 .exact/\xSl prog 103 sv none (some (.int .i64 (n:Int))) h=.ok sv' h/\A4 1 (.ptr bp 0) sv' h=.ok (.Bj []) h'/\Sx.Ext m h0 h'/\Ew h0.nx h' bp (st.take n)/\h'.nx=h.nx/\∀c,c<h.nx->c≠bp->h'.m.get c=h.m.get c:=by
 obtain ⟨sv,q1,q2⟩:=hb.at'
 rcases q2 with ⟨rfl,_⟩|⟨b,cap,c,k,n',rfl,r2,r3,r4,r5,r6,r7,r8,r9,r10,r11,r12,r13,r14⟩
 . simp at hn
 . have h2:=hb.p2
   have h1:=hb.p1
   have Kf:=he.lo
   refine ⟨_,.sl b 0 n cap 1 false,h.put bp (.cells [.sl b 0 n cap 1 false] 105 .exact),q1,?_,?_,he.put bp _ h1 om,⟨h1,h2,_,Dz _ _ om,.inr ⟨b,cap,c,k,n',?_,?_,?_,r4,?_,r6,?_,r8,r9,r10,r11,r12,r13,r14⟩⟩,rfl,λc hc Hr=>Db _ _ _ om om Hr⟩
   . rw [Aau As7,Sx.Y1 om om r6]
     simp
   . simp [q1,Kh]
   . simp [List.length_take];omega
   . rw [Db _ _ _ om om om,r2]
   . rw [Db _ _ _ om om om,r3]
   . simp [List.length_take];omega
   . rw [List.length_take,Nat.min_eq_left om,List.map_take,<- r7,List.take_take,Nat.min_eq_left om]
theorem Au6 (t:Tr):∃u x,A3 t=.I6 u x:=by cases t<;>exact ⟨_,_,rfl⟩
theorem AuT {h:H} {bp:Nat} {v sv:AV} {o:AO} {ts:List Tr} (hts:ts≠[]) (hv:My h v ts) (hg:h.m.get bp=.cells [sv] 105 .exact) (hsv:∀u x,sv≠.I6 u x) (hl:h.nx<=Bq) (hbp:bp<h.nx):My (h.put bp o) v ts:=by
 rcases hv.at' with h1|⟨b,off,cap,ex,cs,e,k,rfl,q2,q3,q4,q5,q6,q7⟩
 . exact ⟨.inl h1⟩
 . by_cases hb:b=bp
   . subst hb
     rw [hg] at q3
     cases q3
     cases ts with
     |nil=>exact absurd rfl hts
     |cons t ts=>
      exfalso
      obtain ⟨u,x,hx⟩:=Au6 t
      simp only [List.length_cons,List.length_nil,List.map_cons] at q6 q7
      have h0:off=0:=by omega
      subst h0
      rw [List.drop_zero] at q7
      have h8:=congrArg (λl=>l[0]?) q7
      simp [List.getElem?_take] at h8
      exact hsv u x (h8.trans hx)
   . exact ⟨.inr ⟨b,off,cap,ex,cs,e,k,rfl,q2,by rw [Db _ _ _ om om hb];exact q3,q4,q5,q6,q7⟩⟩
def Ajo (lo bp:Nat) (st:List Tr) (ts:List Bool) (hi:H) (r:AV) (h:H):Prop:=
 (hi.nx<=h.nx/\∀c,c<hi.nx->c≠bp->h.m.get c=hi.m.get c) /\
 ((∃v,r=.Bj [v,.bool true]/\ts.length<=st.length/\(st.drop (st.length - ts.length)).map F4=ts/\My h v (st.drop (st.length - ts.length))/\Ew lo h bp (st.take (st.length - ts.length))) \/
 (∃v,r=.Bj [v,.bool false]/\¬ (ts.length<=st.length/\(st.drop (st.length - ts.length)).map F4=ts)))
theorem Aug (h64:H64 ctx) {h0 h hi:H} {bp m M n:Nat} {st:List Tr} {ts:List Bool} {v w:AV} (hb:Ew h0.nx h bp st) (hts:ts≠[]) (hn:n+ts.length=st.length) (hv:My h v (st.drop n)) (hw:Afc h w ts) (he:Sx.Ext m h0 h) (hl:h.nx<=Bq) (hm:m<=M) (Fc:st.length<=100000) (hk:hi.nx<=h.nx/\∀c,c<hi.nx->c≠bp->h.m.get c=hi.m.get c):
 ∀(rest pre:List Bool) (f0:L2) (n1:Nat),ts=pre++rest->((st.drop n).map F4).take pre.length=pre->rest.length+1<=n1 ->
  Cb M h0 (Ajo h0.nx bp st ts hi) (Afh ctx N n1 (.ptr bp 0) w (.int .i64 (n:Int)) v v (.int .i64 (ts.length:Int)) (.int .i64 (pre.length:Int)) f0 h):=by
 have hol:(st.drop n).length=ts.length:=by rw [List.length_drop];omega
 have Zo:st.length - ts.length=n:=by omega
 have htl:0<ts.length:=List.length_pos_iff.2 hts
 intro rest
 induction rest with
 |nil=>
  intro pre f0 n1 Hk htk hn1
  obtain ⟨n2,rfl⟩:∃n2,n1=n2+1:=⟨n1 - 1,by omega⟩
  rw [List.append_nil] at Hk
  subst Hk
  rw [Alc]
  refine Ag (Hf ..) ?_
  rw [show decide ((ts.length:Int)<(ts.length:Int))=false by simp,Dq]
  refine Ag (I0 ..) ?_
  refine Ag (E3 ..) ?_
  obtain ⟨sv,sv',h',p1,p2,p3,p4,p5,p6,p7⟩:=Am9 hb (n:=n) om he hl
  refine Ag (Di p1 trivial rfl) ?_
  refine Ag p2 ?_
  refine Ag (I0 ..) ?_
  refine Ag (E3 ..) ?_
  refine Ag p3 ?_
  have hv2:My h' v (st.drop n):=by
   have h2:h'=h.put bp (.cells [sv'] 105 .exact):=by
    have h3:=p3
    obtain ⟨svx,q1,q2⟩:=hb.at'
    rw [p1] at q1
    cases q1
    have hc:cellsOf sv'=some [sv']/\Bm [sv']=true:=by
     have Vt:0<st.length:=by omega
     rcases q2 with ⟨h5,_⟩|⟨b,cap,c,k,n',rfl,_,_,_,_,r6,_⟩
     . rw [h5] at Vt;simp at Vt
     . rw [Aau As7,Sx.Y1 om om r6] at p2
       cases p2
       exact ⟨rfl,rfl⟩
    rw [Adt,hc.1,AiA,if_pos ⟨rfl,hc.2⟩,As0,p1,Afa,Kh,if_pos (by simp),AiK,Sx.Agc] at h3
    simpa using (B4 h3).2.symm
   rw [h2]
   refine AuT (by intro hh;rw [hh] at hol;simp at hol;omega) hv p1 (λu x hx=>?_) hl hb.p2
   obtain ⟨svx,q1,q2⟩:=hb.at'
   rw [p1] at q1
   cases q1
   rcases q2 with ⟨_,h5⟩|⟨b,cap,c,k,n',h5,_⟩
   . rw [h5] at hx;cases hx
   . rw [h5] at hx;cases hx
  refine B0 p4 hm ⟨⟨by rw [p6];exact hk.1,λc hc Hr=>by rw [p7 c (by have:=hk.1;omega) Hr,hk.2 c hc Hr]⟩,.inl ⟨v,rfl,by omega,?_,by rw [Zo];exact hv2,by rw [Zo];exact p5⟩⟩
  rw [Zo,<- htk]
  rw [List.take_of_length_le (by simp;omega)]
 |cons b rest ih=>
  intro pre f0 n1 Hk htk hn1
  obtain ⟨n2,rfl⟩:∃n2,n1=n2+1:=⟨n1 - 1,by omega⟩
  have hlen:ts.length=pre.length+(rest.length+1):=by rw [Hk];simp
  simp only [List.length_cons] at hn1
  obtain ⟨t,ht⟩:∃t,(st.drop n)[pre.length]?=some t:=⟨(st.drop n)[pre.length]' om,List.getElem?_eq_getElem om⟩
  have ht':st[n+pre.length]?=some t:=by simpa [List.getElem?_drop] using ht
  obtain ⟨c1,o1,cs1,e1,k1,p1,p2,p3,p4,p5⟩:=Ia hv ht
  obtain ⟨c2,o2,cs2,e2,k2,q1,q2,q3,q4,q5⟩:=Ia hw (i:=pre.length) (x:=b) (by rw [Hk];simp)
  rw [Alc]
  refine Ag (Hf ..) ?_
  rw [show decide ((pre.length:Int)<(ts.length:Int))=true by simp [hlen];omega,Ep]
  refine Ag (p1 h) ?_
  refine Ag (Di p2 p3 p5) ?_
  rw [h64,Hv,Te,q1,Hv,Te,Di (h:=Ab h) q2 q3 q5,Hv,Te,Aig tk4,Hv,Ais]
  by_cases hbt:F4 t=b
  . rw [show (true != (decide (9<=t.op) == b))=false by rw [<- hbt];simp [F4],Dq]
    refine Ag (v:=.int .i64 ((pre++[b]).length:Int)) (h:=h) (by rw [Uc,Cr];simp;omega;omega) ?_
    refine ih (pre++[b]) _ n2 (by rw [Hk];simp) ?_ om
    rw [List.length_append,List.length_singleton,List.take_add_one,htk]
    simp [ht',hbt]
  . rw [show (true != (decide (9<=t.op) == b))=true by
     have:(decide (9<=t.op) == b)=false:=by simpa [F4] using hbt
     rw [this];rfl,Ep]
    refine B0 he hm ⟨hk,.inr ⟨.Bv,rfl,λhh=>hbt ?_⟩⟩
    have h9:=congrArg (λl=>l[pre.length]?) hh.2
    rw [Zo,Hk] at h9
    simpa [ht'] using h9
theorem n108 (h64:H64 ctx) (A8d:A1l ctx) {h0 h:H} {bp m:Nat} {st:List Tr} {ts:List Bool} {w:AV} (hb:Ew h0.nx h bp st) (hts:ts≠[]) (hw:Afc h w ts) (he:Sx.Ext m h0 h) (hl:h.nx+3<=Bq) (Fc:st.length<=50000) (htl:ts.length<=50000) (hN:ts.length+1<=N):
 Cb (m+3) h0 (Ajo h0.nx bp st ts h) (Ay prog ctx N true 108 [.ptr bp 0,w] h):=by
 have htp:0<ts.length:=List.length_pos_iff.2 hts
 obtain ⟨sv,q1,q2⟩:=hb.at'
 have Z3:∀h1:H,Fo sv h1=.ok (.int .i64 (st.length:Int)) h1:=by
  intro h1
  rcases q2 with ⟨rfl,rfl⟩|⟨b,cap,c,k,n',rfl,_⟩<;>rfl
 rw [A71]
 refine Ag (I0 ..) ?_
 refine Ag (E3 ..) ?_
 refine Ag (Di q1 trivial rfl) ?_
 refine Ag (Z3 h) ?_
 refine Ag hw.len ?_
 refine Ag (v:=.int .i64 ((st.length:Int) - (ts.length:Int))) (h:=h) (by rw [As3,Cr];omega;omega) ?_
 refine Ag (Hf ..) ?_
 by_cases B6:st.length<ts.length
 . rw [show decide ((st.length:Int) - (ts.length:Int)<0)=true by simp;omega,Ep]
   exact B0 he om ⟨⟨Nat.le_refl _,λ_ _ _=>rfl⟩,.inr ⟨.Bv,rfl,λhh=>by omega⟩⟩
 . rw [show decide ((st.length:Int) - (ts.length:Int)<0)=false by simp;omega,Dq]
   obtain ⟨n,hn⟩:∃n,n+ts.length=st.length:=⟨st.length - ts.length,by omega⟩
   rw [show (st.length:Int) - (ts.length:Int)=(n:Int) by omega]
   refine Ag (I0 ..) ?_
   refine Ag (E3 ..) ?_
   refine Ag (Di q1 trivial rfl) ?_
   rcases q2 with ⟨h5,_⟩|⟨b,cap,c,k,n',rfl,r2,r3,r4,r5,r6,r7,r8⟩
   . have h6:=congrArg List.length h5
     simp only [List.length_nil] at h6
     omega
   . refine Ag (v:=.sl b (0+n * 1) (st.length - n) (cap - n) 1 false) (h:=h) (by rw [Aav As7,Sx.Y1 om om om]) ?_
     have hv:My h (.sl b (0+n * 1) (st.length - n) (cap - n) 1 false) (st.drop n):=by
      refine ⟨.inr ⟨b,0+n * 1,cap - n,false,c,56,.Gt k,by simp [List.length_drop],by simp [List.length_drop];omega,r2,trivial,r8.2.2.1,by simp [List.length_drop];omega,?_⟩⟩
      rw [List.map_drop,<- r7,List.length_drop,Nat.zero_add,Nat.mul_one,Nat.mul_one,<- List.drop_take]
     refine Ic he (A8d h _ (st.drop n) hv (by intro hh;have:=congrArg List.length hh;simp [List.length_drop] at this;omega) (by simp [List.length_drop];omega) hl) λv h1 e1 e1' q=>?_
     have:=e1'.hi
     refine Ag q.len ?_
     rw [show (st.drop n).length=ts.length by rw [List.length_drop];omega]
     exact Aug ctx N h64 (hb.ext e1') hts hn q (hw.ext e1') e1 om om om ⟨e1'.lo,λc hc _=>e1'.Cf c hc⟩ ts [] _ N rfl (by simp) hN
theorem Ck (n x:Nat):∀l:List Nat,x∈wrote n l->x∈l
 |[],hx=>hx
 |b::l,hx=>by
  have hx':x∈(Bool.rec (motive:=λ_=>List Nat) (wrote n l) (b::wrote n l) (Nat.blt b n):List Nat):=hx
  cases hb:Nat.blt b n with
  |false=>rw [hb] at hx';exact List.mem_cons_of_mem _ (Ck n x l hx')
  |true=>
   rw [hb] at hx'
   rcases List.mem_cons.1 hx' with rfl|h
   . exact List.mem_cons_self ..
   . exact List.mem_cons_of_mem _ (Ck n x l h)
theorem Aeu (all:List EF):∀l:List EF,(∀e∈l,Q6 e.w=true\/E2 e all=true)->Iu all l=true
 |[],_=>rfl
 |e::l,h=>by
  have ih:=Aeu all l λx hx=>h x (List.mem_cons_of_mem _ hx)
  show (Bool.rec (motive:=λ_=>Bool) (Bool.rec (motive:=λ_=>Bool) false (Iu all l) (E2 e all)) (Iu all l) (Q6 e.w):Bool)=true
  rcases h e (List.mem_cons_self ..) with h1|h1
  . rw [h1];exact ih
  . rw [h1]
    cases Q6 e.w<;>exact ih
theorem Lm (l:List EF) (h:∀e∈l,Q6 e.w=true\/E2 e l=true):Lh l=true:=Aeu l l h
theorem ArF {h0 h:H} {bp m:Nat} {st:List Tr} {t:Tr} {y sv:AV} (hb:Ew h0.nx h bp st) (hg:h.m.get bp=.cells [sv] 105 .exact) (hy:My h y [t]) (he:Sx.Ext m h0 h) (hl:h.nx+2<=Bq) (Fc:st.length<=40000):
 ∃sv2 h2,Ds 56 1 16 sv y h=.ok sv2 h2/\Sx.Ext (m+2) h0 h2/\h.nx<=h2.nx/\(∀x∈h2.lg,x∈h.lg\/h0.nx<=x)/\h2.m.get bp=.cells [sv] 105 .exact/\cellsOf sv2=some [sv2]/\Bm [sv2]=true /\
  Ew h0.nx (h2.put bp (.cells [sv2] 105 .exact)) bp (st++[t]):=by
 have h1:=hb.p1
 have h2:=hb.p2
 have Kf:=he.lo
 obtain ⟨svx,q1,q2⟩:=hb.at'
 rw [hg] at q1
 cases q1
 rcases q2 with ⟨rfl,rfl⟩|⟨b,cap,c,k,n,rfl,r2,r3,r4,r5,r6,r7,r8,r9,r10,r11,r12,r13,r14⟩
 . obtain ⟨v,h3,s1,s2,s3⟩:=Aa2 (bytes:=16) (et:=56) (lo:=h.nx) hy (by simp) (by simp) (Tl [t]) om (Nat.le_refl _)
   have BeB:=s2.lo
   obtain ⟨b,k,n,rfl,t2,t3,t4,t5,t6,t7,t8⟩:=s3.at'
   refine ⟨_,h3,s1,he.trans s2,s2.lo,λx hx=>?_,by rw [s2.Cf bp h2];exact hg,rfl,rfl,⟨h1,by show bp<h3.nx;omega,_,Dz _ _ om,.inr ⟨b,1,[t].map A3,k,n,rfl,?_,?_,rfl,Nat.le_refl _,by omega,rfl,by omega,by omega,t6,t7,t8,by omega,by omega⟩⟩⟩
   . rcases s2.lg x hx with h5|h5
     . exact .inl h5
     . exact .inr om
   . have:=s2.hi
     rw [Db _ _ _ om om om];exact t2
   . have:=s2.hi
     rw [Db _ _ _ om om om];exact t3
 . by_cases hc:st.length+1<=cap
   . -- in place
     have Jr:st.length+1<=c.length:=by omega
     have Du:Ds 56 1 16 (.sl b 0 st.length cap 1 false) y h=.ok (.sl b 0 (st.length+1) cap 1 false) ((h.put b (.cells (c.take st.length++[A3 t]++c.drop (st.length+1)) 56 (.Gt k))).put k (.Fb (n+1))):=by
      show (match Hd h 1 y with
       |some (n,new)=>C6 (.bad 121) (C6 (.bad 121) (C6 (.bad 121) (Lg ⟨56,1,16⟩ b 0 st.length cap 1 false n new h) (Nat.beq 1 1)) (Bm new)) (Gj ((st.length+n) * (16+1)))
       |none=>.bad 123)=_
      rw [hy.src]
      have h3:Nat.ble (Nat.add st.length [t].length) cap=true:=Nat.ble_eq_true_of_le (by simpa using hc)
      simp only [Tl,Fi,decide_eq_true (show (st.length+[t].length) * (16+1)<1000000000000 by simp;omega),Nat.beq_refl]
      show (C6 _ _ (Nat.ble (Nat.add st.length [t].length) cap):OR)=_
      rw [h3]
      show AgN b 0 st.length cap (Nat.add st.length [t].length) 1 false ([t].map A3) h=_
      unfold AgN
      rw [As0,r2,AuX,r3,Sn,Kh]
      simp only [Nat.zero_add,Nat.mul_one,List.map_cons,List.map_nil,List.length_cons,List.length_nil]
      rw [if_pos Jr,Asz]
     refine ⟨_,_,Du,((he.put b _ r8 om).put k _ r9 om).mono om,Nat.le_refl _,λx hx=>?_,?_,rfl,rfl,⟨h1,h2,_,Dz _ _ om,.inr ⟨b,cap,c.take st.length++[A3 t]++c.drop (st.length+1),k,n+1,by simp,?_,?_,?_,by simpa using hc,r6,?_,r8,r9,r10,r11,r12,r13,r14⟩⟩⟩
     . rcases List.mem_cons.1 hx with rfl|hx
       . exact .inr r9
       . rcases List.mem_cons.1 hx with rfl|hx
         . exact .inr r8
         . exact .inl hx
     . rw [Db _ _ _ om om (Ne.symm r14),Db _ _ _ om om (Ne.symm r13),hg]
     . rw [Db _ _ _ om om r13,Db _ _ _ om om r12,Dz _ _ om]
     . rw [Db _ _ _ om om r14,Dz _ _ om]
     . simp [List.length_take,List.length_drop];omega
     . rw [List.length_append,List.length_singleton,List.map_append,<- r7]
       rw [List.take_append_of_le_length (by simp [List.length_take];omega),List.take_of_length_le (by simp [List.length_take];omega)]
       rfl
   . have Ox:st.length=cap:=by omega
     have Du:=AgO (h:=h) (y:=y) (bytes:=16) (len:=st.length) (c:=c) r2 r3 om hy (by simp) (by simp;omega) (Tl [t])
     rw [<- Ox]
     have e1:Sx.Ext m h0 ((h.put b (.cells c 56 (.Cf k n))).put k (.Fb n)):=(he.put b _ r8 om).put k _ r9 om
     have hx:((h.put b (.cells c 56 (.Cf k n))).put k (.Fb n)).nx=h.nx:=rfl
     have hk:((h.put b (.cells c 56 (.Cf k n))).put k (.Fb n)).m.get k=.Fb n:=Dz _ _ om
     have hbp:((h.put b (.cells c 56 (.Cf k n))).put k (.Fb n)).m.get bp=.cells [.sl b 0 cap cap 1 false] 105 .exact:=by
      rw [Db _ _ _ om om (Ne.symm r14),Db _ _ _ om om (Ne.symm r13),hg,Ox]
     have hlg:∀x∈((h.put b (.cells c 56 (.Cf k n))).put k (.Fb n)).lg,x∈h.lg\/h0.nx<=x:=λx hx=>by
      rcases List.mem_cons.1 hx with rfl|hx
      . exact .inr r9
      . rcases List.mem_cons.1 hx with rfl|hx
        . exact .inr r8
        . exact .inl hx
     generalize ((h.put b (.cells c 56 (.Cf k n))).put k (.Fb n))=h3 at *
     refine ⟨_,_,Du,(e1.new _ om).mono om,by show h.nx<=h3.nx+1;omega,hlg,?_,rfl,rfl,⟨h1,by show bp<h3.nx+1;omega,_,Dz _ _ om,.inr ⟨h.nx,st.length+1,c++[t].map A3,k,n,by simp,?_,?_,?_,by simp,by omega,?_,by omega,r9,by show h.nx<h3.nx+1;omega,by show k<h3.nx+1;omega,by omega,by omega,r14⟩⟩⟩
     . rw [H3 _ _ om om om,hbp,Ox]
     . rw [Db _ _ _ om om om,<- hx]
       exact A6 _ om
     . rw [Db _ _ _ om om r14,H3 _ _ om om om,hk]
     . simp;omega
     . rw [List.length_append,List.length_singleton,List.map_append,<- r7,List.take_of_length_le (by simp;omega),List.take_of_length_le om]
theorem Ew.Ab {lo bp:Nat} {h:H} {st:List Tr} (hb:Ew lo h bp st):Ew lo (Ab h) bp st:=⟨hb.p1,hb.p2,hb.at'⟩
theorem Ew.Be {lo bp:Nat} {h:H} {st:List Tr} (hb:Ew lo h bp st) (lg:List Nat):Ew lo (Be lg h) bp st:=⟨hb.p1,hb.p2,hb.at'⟩
theorem Od {h0 h:H} {bp m M:Nat} {st:List Tr} {t:Tr} {sv:AV} {Q:AV->H->Prop} {K:AV->H->AV->H->AV->H->AV->H->OR} (hb:Ew h0.nx h bp st) (hg:h.m.get bp=.cells [sv] 105 .exact) (he:Sx.Ext m h0 (Ab h)) (hl:h.nx+3<=Bq) (Fc:st.length<=40000)
 (hK:∀(sv2:AV) (h2:H),Sx.Ext (m+3) h0 ((Ab h2).put bp (.cells [sv2] 105 .exact))->(∀x∈h2.lg,h0.nx<=x)->Ew h0.nx ((Ab h2).put bp (.cells [sv2] 105 .exact)) bp (st++[t]) ->
  Cb M h0 Q (K sv2 h2 (.ptr bp 0) (Ab h2) (.ptr bp 0) (Ab h2) (.Bj []) ((Ab h2).put bp (.cells [sv2] 105 .exact)))):
 Cb M h0 Q (Aa (Ds 56 1 16 sv (.sl h.nx 0 1 1 1 true) (Ab ((Ab h).new (.cells [A3 t] 56 .exact)))) λv11 Kc=>Aa (Fu (.ptr bp 0) (Ab Kc)) λv12 Gd=>Aa (Bs v12 0 (Ab Gd)) λE0 It=>Aa (A4 1 E0 v11 (Ab It)) λEr Jz=>K v11 Kc v12 Gd E0 It Er Jz):=by
 have hp2:=hb.p2
 have hp1:=hb.p1
 have e1:=he.new (.cells [A3 t] 56 .exact) (by show h.nx<Bq;omega)
 have hy:My (Ab ((Ab h).new (.cells [A3 t] 56 .exact))) (.sl h.nx 0 1 1 1 true) [t]:=
  ⟨.inr ⟨h.nx,0,1,true,[t].map A3,56,.exact,rfl,Nat.le_refl _,A6 (h:=Ab h) _ (by show h.nx<Bq;omega),trivial,by show h.nx<h.nx+1;omega,by simp,by simp⟩⟩
 have Wg:Ew h0.nx (Ab ((Ab h).new (.cells [A3 t] 56 .exact))) bp st:=(hb.Ab.ext ((Sx.Ext.refl 0 (Ab h)).new _ (by show h.nx<Bq;omega))).Ab
 have hg2:(Ab ((Ab h).new (.cells [A3 t] 56 .exact))).m.get bp=.cells [sv] 105 .exact:=by
  show ((Ab h).new (.cells [A3 t] 56 .exact)).m.get bp=_
  rw [H3 _ _ (by show h.nx<Bq;omega) om (by show bp≠h.nx;omega)]
  exact hg
 obtain ⟨sv2,h2,p1,p2,p3,p4,p5,p6,p7,p8⟩:=ArF Wg hg2 hy e1.Ab (by show h.nx+1+2<=Bq;omega) Fc
 refine Ag p1 ?_
 refine Ag (I0 ..) ?_
 refine Ag (E3 ..) ?_
 refine Ag (v:=.Bj []) (h:=(Ab h2).put bp (.cells [sv2] 105 .exact)) (by rw [Adt,p6,AiA,if_pos ⟨rfl,p7⟩,As0];show AnU (wrO (h2.m.get bp) bp (0+0) [sv2] (Ab h2))=_;rw [p5,Afa,Kh,if_pos (by simp),AiK];rfl) ?_
 have hbn:=p8.p2
 refine hK _ h2 (p2.Ab.put bp _ hp1 ?_) (λx hx=>?_) ⟨p8.p1,p8.p2,p8.at'⟩
 . have:=p2.hi
   have:=e1.hi
   have h3:h.nx+1<=h2.nx:=p3
   omega
 . rcases p4 x hx with h5|h5
   . cases h5
   . exact h5
def Gf (st:List Tr) (ts:List Bool):Option (List Tr × List Tr):=
 if ts.length<=st.length/\(st.drop (st.length - ts.length)).map F4=ts then some (st.take (st.length - ts.length),st.drop (st.length - ts.length)) else none
def Fa (st:List Tr) (x:Nd):Option (List Tr):=
 if x.op<=3 then some (st++[.leaf x])
 else if x.op=7\/x.op=17 then (match Gf st [decide (x.op=17)] with|some (r,[a])=>some (r++[.one x.op a])|_=>none)
 else if x.op=8 then (match Gf st [true,false,false] with|some (r,[c,a,b])=>some (r++[.three c a b])|_=>none)
 else (match Gf st [decide (x.op=15)||decide (x.op=16),decide (x.op=15)||decide (x.op=16)] with|some (r,[a,b])=>some (r++[.two x.op a b])|_=>none)
def Vl (lo bp:Nat) (o:Option (List Tr)) (v:AV) (h:H):Prop:=
 match o with
 |some st=>v=.bool true/\Ew lo h bp st
 |none=>v=.bool false
theorem AcR {z:Nat} (h:z∈([]:List Nat)):False:=by cases h
theorem Akw {z bp lo:Nat} (hl:lo<=bp) (h:z∈bp::([]:List Nat)):lo<=z:=by
 rcases List.mem_cons.1 h with rfl|h
 . exact hl
 . cases h
theorem Auq {h0 h:H} {bp m:Nat} {st:List Tr} {x:Nd} (hx:x.op<=3) (hb:Ew h0.nx h bp st) (he:Sx.Ext m h0 h) (hl:h0.nx+m+20<=Bq) (Fc:st.length<=40000):
 Cb (m+10) h0 (Vl h0.nx bp (Fa st x)) (Ay prog ctx N false 63 [.ptr bp 0,.agg (Bw x)] h):=by
 have hp2:=hb.p2
 have AmZ:=he.hi
 have Lp:Fa st x=some (st++[.leaf x]):=by unfold Fa;rw [if_pos hx]
 rw [Lp,e63]
 have e1:=he.new (.cells (Bw x) 32 .exact) om
 have Qy:=hb.ext ((Sx.Ext.refl 0 h).new (.cells (Bw x) 32 .exact) om)
 have hg1:(h.new (.cells (Bw x) 32 .exact)).m.get h.nx=.cells (Bw x) 32 .exact:=A6 _ om
 have hn1:(h.new (.cells (Bw x) 32 .exact)).nx=h.nx+1:=rfl
 refine Ag (Hg ..) ?_
 generalize h.new (.cells (Bw x) 32 .exact)=h4 at *
 obtain ⟨sv,q1,q2⟩:=Qy.at'
 refine Ag (E3 ..) ?_
 refine Ag (Di hg1 trivial rfl) ?_
 refine Ag (As2 ..) ?_
 rw [decide_eq_true hx,Ep]
 refine Ag (I0 ..) ?_
 refine Ag (E3 ..) ?_
 refine Ag (Di (h:=Ab (Ab h4)) q1 trivial rfl) ?_
 refine Ag (Nr (h:=Ab (Ab (Ab h4))) hg1 trivial (by simp [Bw])) ?_
 refine Ag (v:=.agg (Bw x)) (h:=Ab h4) (by simp [Bw]) ?_
 refine Ag (v:=.sl h4.nx 0 1 1 1 true) (h:=(Ab (Ab h4)).new (.cells [A3 (.leaf x)] 56 .exact)) (by simp [A3]) ?_
 refine Od (h:=Ab h4) (t:=.leaf x) Qy.Ab q1 e1.Ab.Ab (by show h4.nx+3<=Bq;omega) Fc λsv2 h2 f1 f2 f3=>?_
 refine Jj ?_ ?_
 . refine Lm _ λe he=>?_
   simp only [List.mem_cons,List.not_mem_nil,or_false] at he
   rcases he with rfl|rfl|rfl|rfl|rfl|rfl|rfl|rfl|rfl|rfl|rfl|rfl|rfl
   all_goals first|exact .inl rfl|exact .inr (by simp (disch:=decide) only [Fz,Hw,Ci,Ar,Ax,Bool.and_self])
 . refine B0 (f1.Be _ λz hz=>?_) om ⟨rfl,f3.Be _⟩
   simp only [Ap,At,List.mem_append,List.not_mem_nil,false_or] at hz
   rcases hz with hz|hz|hz|hz|hz|hz|hz|hz|hz|hz|hz
   all_goals first|exact (AcR (Ck _ _ _ hz)).elim|exact .inr (f2 z (Ck _ _ _ hz))|exact .inr (Akw hb.p1 (Ck _ _ _ hz))|exact e1.lg z hz
abbrev Ad5:Prop:=∀{h0 h:H} {bp m:Nat} {st:List Tr} {ts:List Bool} {w:AV},Ew h0.nx h bp st->ts≠[]->Afc h w ts->Sx.Ext m h0 h->h.nx+3<=Bq->st.length<=40000->ts.length<=10->Cb (m+3) h0 (Ajo h0.nx bp st ts h) (ctx.call 108 [.ptr bp 0,w] h)
theorem A49 {α:Type} {l:List α} (h:l.length=1):∃a,l=[a]:=List.length_eq_one_iff.1 h
theorem AyZ {α:Type} {l:List α} (h:l.length=2):∃a b,l=[a,b]:=by
 match l,h with
 |[a,b],_=>exact ⟨a,b,rfl⟩
theorem A96 {α:Type} {l:List α} (h:l.length=3):∃a b c,l=[a,b,c]:=by
 match l,h with
 |[a,b,c],_=>exact ⟨a,b,c,rfl⟩
theorem Azv (Ov:Ad5 ctx) {h0 h:H} {bp m:Nat} {st:List Tr} {x:Nd} (hx:x.op=7) (hb:Ew h0.nx h bp st) (he:Sx.Ext m h0 h) (hl:h0.nx+m+20<=Bq) (Fc:st.length<=40000):
 Cb (m+10) h0 (Vl h0.nx bp (Fa st x)) (Ay prog ctx N false 63 [.ptr bp 0,.agg (Bw x)] h):=by
 have hp2:=hb.p2
 have AmZ:=he.hi
 have Aq6:=he.lo
 have Lp:Fa st x=(match Gf st [decide (x.op=17)] with|some (r,[a])=>some (r++[.one x.op a])|_=>none):=by unfold Fa;rw [if_neg om,if_pos om]
 rw [Lp,e63]
 have e1:=he.new (.cells (Bw x) 32 .exact) om
 have Qy:=hb.ext ((Sx.Ext.refl 0 h).new (.cells (Bw x) 32 .exact) om)
 have hg1:(h.new (.cells (Bw x) 32 .exact)).m.get h.nx=.cells (Bw x) 32 .exact:=A6 _ om
 have hn1:(h.new (.cells (Bw x) 32 .exact)).nx=h.nx+1:=rfl
 refine Ag (Hg ..) ?_
 generalize h.new (.cells (Bw x) 32 .exact)=h4 at *
 have hno:¬ x.op<=3:=by omega
 have hd:decide (x.op=17)=false:=by simp [hx]
 refine xs (aa hg1 (aa Bw.eq_1 hx)) ?_
 rw [hd]
 have e2:=e1.new (.cells [.bool false] 4 .exact) om
 have e2':=(Sx.Ext.refl 0 h4).new (.cells [.bool false] 4 .exact) om
 have hw:Afc (h4.new (.cells [.bool false] 4 .exact)) (.sl h4.nx 0 1 1 1 true) [false]:=⟨.inr ⟨h4.nx,0,1,true,[.bool false],4,.exact,rfl,Nat.le_refl _,A6 _ om,trivial,by show h4.nx<h4.nx+1;omega,by simp,rfl⟩⟩
 have hg5:(h4.new (.cells [.bool false] 4 .exact)).m.get h.nx=.cells (Bw x) 32 .exact:=by rw [e2'.Cf _ om];exact hg1
 refine Jh (Ov (Qy.ext e2') (by simp) hw e2 (by show h4.nx+1+3<=Bq;omega) Fc (by simp)) λr Kr e3 Mh=>?_
 obtain ⟨⟨AhB,Pa⟩,Mh⟩:=Mh
 have Ac3:Kr.m.get h.nx=.cells (Bw x) 32 .exact:=by rw [Pa _ (by show h.nx<h4.nx+1;omega) om];exact hg5
 have hhi:=e3.hi
 rcases Mh with ⟨v,rfl,hle,heq,Zc,G8⟩|⟨v,rfl,Ac5⟩
 . have hlen:(st.drop (st.length - [false].length)).length=1:=by rw [List.length_drop];simp at hle ⊢;omega
   obtain ⟨a,ha⟩:∃a,st.drop (st.length - [false].length)=[a]:=A49 hlen
   have Hz:Gf st [false]=some (st.take (st.length - [false].length),[a]):=by unfold Gf;rw [if_pos ⟨hle,heq⟩,ha]
   rw [Hz]
   rw [ha] at Zc
   obtain ⟨b0,o0,cs0,ee0,k0,p10,p20,p30,p40,p50⟩:=Ia Zc (i:=0) (x:=a) rfl
   have p60:∀h1,Gc 1 v (.int .i64 0) h1=.ok (.ptr b0 o0) h1:=p10
   have p70:∀hh,rdO (.cells cs0 ee0 k0) hh=some cs0:=λhh=>Dc p30
   obtain ⟨sv,q1,q2⟩:=G8.at'
   refine xs (aa Ac3 (aa q1 (aa p60 (aa p20 (aa p70 (aa p50 Bw.eq_1)))))) ?_
   refine Od (h:=Kr) (t:=.one x.op a) G8 q1 e3.Ab om (by rw [List.length_take];omega) λsv2 h2 f1 f2 f3=>?_
   refine Jj ?_ ?_
   . refine Lm _ λe he=>?_
     simp only [List.mem_cons,List.not_mem_nil,or_false] at he
     rcases he with rfl|rfl|rfl|rfl|rfl|rfl|rfl|rfl|rfl|rfl|rfl|rfl|rfl|rfl|rfl|rfl|rfl
     all_goals first|exact .inl rfl|exact .inr (by simp (disch:=decide) only [Fz,Hw,Ci,Ar,Ax,Bool.and_self])
   . refine B0 (f1.Be _ λz hz=>?_) om ⟨rfl,f3.Be _⟩
     simp only [Ap,At,List.mem_append,List.not_mem_nil,false_or] at hz
     repeat' (rcases hz with hz|hz)
     all_goals first|exact (AcR (Ck _ _ _ hz)).elim|exact .inr (f2 z (Ck _ _ _ hz))|exact .inr (Akw hb.p1 (Ck _ _ _ hz))|exact e3.lg z hz
 . have Hz:Gf st [false]=none:=by unfold Gf;rw [if_neg Ac5]
   rw [Hz]
   refine xs trivial ?_
   exact B0 e3 om rfl
theorem Azw (Ov:Ad5 ctx) {h0 h:H} {bp m:Nat} {st:List Tr} {x:Nd} (hx:x.op=17) (hb:Ew h0.nx h bp st) (he:Sx.Ext m h0 h) (hl:h0.nx+m+20<=Bq) (Fc:st.length<=40000):
 Cb (m+10) h0 (Vl h0.nx bp (Fa st x)) (Ay prog ctx N false 63 [.ptr bp 0,.agg (Bw x)] h):=by
 have hp2:=hb.p2
 have AmZ:=he.hi
 have Aq6:=he.lo
 have Lp:Fa st x=(match Gf st [decide (x.op=17)] with|some (r,[a])=>some (r++[.one x.op a])|_=>none):=by unfold Fa;rw [if_neg om,if_pos om]
 rw [Lp,e63]
 have e1:=he.new (.cells (Bw x) 32 .exact) om
 have Qy:=hb.ext ((Sx.Ext.refl 0 h).new (.cells (Bw x) 32 .exact) om)
 have hg1:(h.new (.cells (Bw x) 32 .exact)).m.get h.nx=.cells (Bw x) 32 .exact:=A6 _ om
 have hn1:(h.new (.cells (Bw x) 32 .exact)).nx=h.nx+1:=rfl
 refine Ag (Hg ..) ?_
 generalize h.new (.cells (Bw x) 32 .exact)=h4 at *
 have hno:¬ x.op<=3:=by omega
 have hd:decide (x.op=17)=true:=by simp [hx]
 refine xs (aa hg1 (aa Bw.eq_1 hx)) ?_
 rw [hd]
 have e2:=e1.new (.cells [.bool true] 4 .exact) om
 have e2':=(Sx.Ext.refl 0 h4).new (.cells [.bool true] 4 .exact) om
 have hw:Afc (h4.new (.cells [.bool true] 4 .exact)) (.sl h4.nx 0 1 1 1 true) [true]:=⟨.inr ⟨h4.nx,0,1,true,[.bool true],4,.exact,rfl,Nat.le_refl _,A6 _ om,trivial,by show h4.nx<h4.nx+1;omega,by simp,rfl⟩⟩
 have hg5:(h4.new (.cells [.bool true] 4 .exact)).m.get h.nx=.cells (Bw x) 32 .exact:=by rw [e2'.Cf _ om];exact hg1
 refine Jh (Ov (Qy.ext e2') (by simp) hw e2 (by show h4.nx+1+3<=Bq;omega) Fc (by simp)) λr Kr e3 Mh=>?_
 obtain ⟨⟨AhB,Pa⟩,Mh⟩:=Mh
 have Ac3:Kr.m.get h.nx=.cells (Bw x) 32 .exact:=by rw [Pa _ (by show h.nx<h4.nx+1;omega) om];exact hg5
 have hhi:=e3.hi
 rcases Mh with ⟨v,rfl,hle,heq,Zc,G8⟩|⟨v,rfl,Ac5⟩
 . have hlen:(st.drop (st.length - [true].length)).length=1:=by rw [List.length_drop];simp at hle ⊢;omega
   obtain ⟨a,ha⟩:∃a,st.drop (st.length - [true].length)=[a]:=A49 hlen
   have Hz:Gf st [true]=some (st.take (st.length - [true].length),[a]):=by unfold Gf;rw [if_pos ⟨hle,heq⟩,ha]
   rw [Hz]
   rw [ha] at Zc
   obtain ⟨b0,o0,cs0,ee0,k0,p10,p20,p30,p40,p50⟩:=Ia Zc (i:=0) (x:=a) rfl
   have p60:∀h1,Gc 1 v (.int .i64 0) h1=.ok (.ptr b0 o0) h1:=p10
   have p70:∀hh,rdO (.cells cs0 ee0 k0) hh=some cs0:=λhh=>Dc p30
   obtain ⟨sv,q1,q2⟩:=G8.at'
   refine xs (aa Ac3 (aa q1 (aa p60 (aa p20 (aa p70 (aa p50 Bw.eq_1)))))) ?_
   refine Od (h:=Kr) (t:=.one x.op a) G8 q1 e3.Ab om (by rw [List.length_take];omega) λsv2 h2 f1 f2 f3=>?_
   refine Jj ?_ ?_
   . refine Lm _ λe he=>?_
     simp only [List.mem_cons,List.not_mem_nil,or_false] at he
     rcases he with rfl|rfl|rfl|rfl|rfl|rfl|rfl|rfl|rfl|rfl|rfl|rfl|rfl|rfl|rfl|rfl|rfl
     all_goals first|exact .inl rfl|exact .inr (by simp (disch:=decide) only [Fz,Hw,Ci,Ar,Ax,Bool.and_self])
   . refine B0 (f1.Be _ λz hz=>?_) om ⟨rfl,f3.Be _⟩
     simp only [Ap,At,List.mem_append,List.not_mem_nil,false_or] at hz
     repeat' (rcases hz with hz|hz)
     all_goals first|exact (AcR (Ck _ _ _ hz)).elim|exact .inr (f2 z (Ck _ _ _ hz))|exact .inr (Akw hb.p1 (Ck _ _ _ hz))|exact e3.lg z hz
 . have Hz:Gf st [true]=none:=by unfold Gf;rw [if_neg Ac5]
   rw [Hz]
   refine xs trivial ?_
   exact B0 e3 om rfl
theorem A4G (Ov:Ad5 ctx) {h0 h:H} {bp m:Nat} {st:List Tr} {x:Nd} (hx:x.op=8) (hb:Ew h0.nx h bp st) (he:Sx.Ext m h0 h) (hl:h0.nx+m+20<=Bq) (Fc:st.length<=40000):
 Cb (m+10) h0 (Vl h0.nx bp (Fa st x)) (Ay prog ctx N false 63 [.ptr bp 0,.agg (Bw x)] h):=by
 have hp2:=hb.p2
 have AmZ:=he.hi
 have Aq6:=he.lo
 have Lp:Fa st x=(match Gf st [true,false,false] with|some (r,[c,a,b])=>some (r++[.three c a b])|_=>none):=by unfold Fa;rw [if_neg om,if_neg om,if_pos hx]
 rw [Lp,e63]
 have e1:=he.new (.cells (Bw x) 32 .exact) om
 have Qy:=hb.ext ((Sx.Ext.refl 0 h).new (.cells (Bw x) 32 .exact) om)
 have hg1:(h.new (.cells (Bw x) 32 .exact)).m.get h.nx=.cells (Bw x) 32 .exact:=A6 _ om
 have hn1:(h.new (.cells (Bw x) 32 .exact)).nx=h.nx+1:=rfl
 refine Ag (Hg ..) ?_
 generalize h.new (.cells (Bw x) 32 .exact)=h4 at *
 have hno:¬ x.op<=3:=by omega
 refine xs (aa hg1 (aa Bw.eq_1 hx)) ?_
 have e2:=e1.new (.cells [.bool true,.bool false,.bool false] 4 .exact) om
 have e2':=(Sx.Ext.refl 0 h4).new (.cells [.bool true,.bool false,.bool false] 4 .exact) om
 have hw:Afc (h4.new (.cells [.bool true,.bool false,.bool false] 4 .exact)) (.sl h4.nx 0 3 3 1 true) [true,false,false]:=⟨.inr ⟨h4.nx,0,3,true,[.bool true,.bool false,.bool false],4,.exact,rfl,Nat.le_refl _,A6 _ om,trivial,by show h4.nx<h4.nx+1;omega,by simp,rfl⟩⟩
 have hg5:(h4.new (.cells [.bool true,.bool false,.bool false] 4 .exact)).m.get h.nx=.cells (Bw x) 32 .exact:=by rw [e2'.Cf _ om];exact hg1
 refine Jh (Ov (Qy.ext e2') (by simp) hw e2 (by show h4.nx+1+3<=Bq;omega) Fc (by simp)) λr Kr e3 Mh=>?_
 obtain ⟨⟨AhB,Pa⟩,Mh⟩:=Mh
 have Ac3:Kr.m.get h.nx=.cells (Bw x) 32 .exact:=by rw [Pa _ (by show h.nx<h4.nx+1;omega) om];exact hg5
 have hhi:=e3.hi
 rcases Mh with ⟨v,rfl,hle,heq,Zc,G8⟩|⟨v,rfl,Ac5⟩
 . have hlen:(st.drop (st.length - [true,false,false].length)).length=3:=by rw [List.length_drop];simp at hle ⊢;omega
   obtain ⟨c,a,b,ha⟩:∃c a b,st.drop (st.length - [true,false,false].length)=[c,a,b]:=A96 hlen
   have Hz:Gf st [true,false,false]=some (st.take (st.length - [true,false,false].length),[c,a,b]):=by unfold Gf;rw [if_pos ⟨hle,heq⟩,ha]
   rw [Hz]
   rw [ha] at Zc
   obtain ⟨b0,o0,cs0,ee0,k0,p10,p20,p30,p40,p50⟩:=Ia Zc (i:=0) (x:=c) rfl
   have p60:∀h1,Gc 1 v (.int .i64 0) h1=.ok (.ptr b0 o0) h1:=p10
   have p70:∀hh,rdO (.cells cs0 ee0 k0) hh=some cs0:=λhh=>Dc p30
   obtain ⟨b1,o1,cs1,ee1,k1,p11,p21,p31,p41,p51⟩:=Ia Zc (i:=1) (x:=a) rfl
   have p61:∀h1,Gc 1 v (.int .i64 1) h1=.ok (.ptr b1 o1) h1:=p11
   have p71:∀hh,rdO (.cells cs1 ee1 k1) hh=some cs1:=λhh=>Dc p31
   obtain ⟨b2,o2,cs2,ee2,k2,p12,p22,p32,p42,p52⟩:=Ia Zc (i:=2) (x:=b) rfl
   have p62:∀h1,Gc 1 v (.int .i64 2) h1=.ok (.ptr b2 o2) h1:=p12
   have p72:∀hh,rdO (.cells cs2 ee2 k2) hh=some cs2:=λhh=>Dc p32
   obtain ⟨sv,q1,q2⟩:=G8.at'
   refine xs (aa Ac3 (aa q1 (aa p60 (aa p20 (aa p70 (aa p50 (aa p61 (aa p21 (aa p71 (aa p51 (aa p62 (aa p22 (aa p72 (aa p52 Bw.eq_1)))))))))))))) ?_
   refine Od (h:=Kr) (t:=.three c a b) G8 q1 e3.Ab om (by rw [List.length_take];omega) λsv2 h2 f1 f2 f3=>?_
   refine Jj ?_ ?_
   . refine Lm _ λe he=>?_
     simp only [List.mem_cons,List.not_mem_nil,or_false] at he
     rcases he with rfl|rfl|rfl|rfl|rfl|rfl|rfl|rfl|rfl|rfl|rfl|rfl|rfl|rfl|rfl|rfl|rfl|rfl|rfl|rfl|rfl
     all_goals first|exact .inl rfl|exact .inr (by simp (disch:=decide) only [Fz,Hw,Ci,Ar,Ax,Bool.and_self])
   . refine B0 (f1.Be _ λz hz=>?_) om ⟨rfl,f3.Be _⟩
     simp only [Ap,At,List.mem_append,List.not_mem_nil,false_or] at hz
     repeat' (rcases hz with hz|hz)
     all_goals first|exact (AcR (Ck _ _ _ hz)).elim|exact .inr (f2 z (Ck _ _ _ hz))|exact .inr (Akw hb.p1 (Ck _ _ _ hz))|exact e3.lg z hz
 . have Hz:Gf st [true,false,false]=none:=by unfold Gf;rw [if_neg Ac5]
   rw [Hz]
   refine xs trivial ?_
   exact B0 e3 om rfl
end Go.Proofs
