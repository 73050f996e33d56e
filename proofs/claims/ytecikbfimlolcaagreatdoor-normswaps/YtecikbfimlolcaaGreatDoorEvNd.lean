/- The table of what package norm's functions come to: to the normal form of an expression. -/
import Derived.Test.YtecikbfimlolcaaGreatDoorEvNc
set_option maxRecDepth 100000
set_option linter.unusedSimpArgs false
set_option linter.unusedVariables false
noncomputable section
namespace Go.Proofs
open Go Go.Ev Go.Nm
theorem Zt (T:Df) (g g':FuncId) (S:List AV->Option AV) (args:List AV):T.ext g S g' args=if g'=g then S args else T g' args:=by
 by_cases hh:g'=g
 . rw [if_pos hh,hh,Ahs]
 . rw [if_neg hh,Aew _ _ hh]
theorem Bb (T:Df) (g g':FuncId) (S:List AV->Option AV):T.ext g S g'=if g'=g then S else T g':=by
 funext args
 rw [Zt]
 split<;>rfl
abbrev T0:Df:=λ_ _=>none
theorem A1P:Bg PP 177=true:=by kernel_rfl
theorem A1Q:Bg PP 178=true:=by kernel_rfl
theorem A1K:Bg PP 117=true:=by kernel_rfl
theorem A1L:Bg PP 118=true:=by kernel_rfl
theorem Avl:Bg PP 115=true:=by kernel_rfl
theorem Avm:Bg PP 350=true:=by kernel_rfl
theorem Avn:Bg PP 353=true:=by kernel_rfl
theorem Avo:Bg PP 355=true:=by kernel_rfl
theorem Avp:Bg PP 357=true:=by kernel_rfl
theorem A1G:Bg PP 109=true:=by kernel_rfl
theorem A7r:Bg PP 69=true:=by kernel_rfl
theorem A1H:Bg PP 110=true:=by kernel_rfl
theorem A7l:Bg PP 31=true:=by kernel_rfl
theorem A1N:Bg PP 175=true:=by kernel_rfl
theorem A7n:Bg PP 65=true:=by kernel_rfl
theorem A1M:Bg PP 174=true:=by kernel_rfl
theorem A7q:Bg PP 68=true:=by kernel_rfl
theorem A7k:Bg PP 30=true:=by kernel_rfl
theorem A1O:Bg PP 176=true:=by kernel_rfl
theorem A1I:Bg PP 111=true:=by kernel_rfl
theorem A1J:Bg PP 113=true:=by kernel_rfl
theorem A7o:Bg PP 66=true:=by kernel_rfl
theorem Avk:Bg PP 112=true:=by kernel_rfl
theorem A7p:Bg PP 67=true:=by kernel_rfl
theorem A7j:Bg PP 29=true:=by kernel_rfl
theorem A7m:Bg PP 64=true:=by kernel_rfl
theorem A1R:Bg PP 349=true:=by kernel_rfl
theorem A1S:Bg PP 352=true:=by kernel_rfl
theorem A1T:Bg PP 354=true:=by kernel_rfl
theorem A1U:Bg PP 356=true:=by kernel_rfl
def T1:Df:=T0.ext 177 A14
def T2:Df:=T1.ext 178 A15
def T3:Df:=T2.ext 117 A1z
def T4:Df:=T3.ext 118 A10
def T5:Df:=T4.ext 115 Axf
def T6:Df:=T5.ext 350 A16
def T7:Df:=T6.ext 353 A17
def T8:Df:=T7.ext 355 A18
def T9:Df:=T8.ext 357 A19
def Iq:Df:=T9.ext 109 A1v
def Ir:Df:=Iq.ext 69 S69
def Is:Df:=Ir.ext 110 A1w
def I2:Df:=Is.ext 31 S31
def I8:Df:=I2.ext 175 A12
def Jy:Df:=I8.ext 65 S65
def J2:Df:=Jy.ext 174 A11
def Ol:Df:=J2.ext 68 S68
def Ot:Df:=Ol.ext 30 S30
def O1:Df:=Ot.ext 176 A13
def Rk:Df:=O1.ext 111 A1x
def Sa:Df:=Rk.ext 113 A1y
def U4:Df:=Sa.ext 66 S66
def T23:Df:=U4.ext 112 Avh
def T24:Df:=T23.ext 112 Axe
def T25:Df:=T24.ext 67 S67
def T26:Df:=T25.ext 29 S29
def T27:Df:=T26.ext 64 S64
theorem Xi {T:Df} {d:Nat} {g:FuncId} {S:List AV->Option AV} {args:List AV} {v:AV} (hT:T g=S) (hs:S args=some v) (h:H):(cD PP T (d+1)).call g args h=.ok v h:=Ate h (by rw [hT];exact hs)
theorem cdN {T:Df} {d:Nat} {g:FuncId} {args:List AV} (hT:T g=λ_=>none) (h:H):(cD PP T (d+1)).call g args h=Fy PP (cD PP T d) g args h:=Atd h (by rw [hT])
theorem Ayh {T:Df} {d:Nat} (hT:T 177=A14):A1o (cD PP T (d+1)):=λn h=>Xi hT (Cd (enc:=λn:Int=>[AV.int .i64 n]) (λa b hh=>by simpa using hh) (a:=n) trivial) h
theorem Ayi {T:Df} {d:Nat} (hT:T 178=A15):A1p (cD PP T (d+1)):=λn h=>Xi hT (Cd (enc:=λn:List Nat=>[AV.str n]) (λa b hh=>by simpa using hh) (a:=n) trivial) h
theorem Aye {T:Df} {d:Nat} (hT:T 117=A1z):A1j (cD PP T (d+1)):=λa b h=>Xi hT (Cd (enc:=λp:Int × Int=>[AV.int .i64 p.1,AV.int .i64 p.2]) (λa b hh=>by simp at hh;exact Prod.ext hh.1 hh.2) (a:=(a,b)) trivial) h
theorem Ayf {T:Df} {d:Nat} (hT:T 118=A10):A1k (cD PP T (d+1)):=λa b h=>Xi hT (Cd (enc:=λp:List Nat × List Nat=>[AV.str p.1,AV.str p.2]) (λa b hh=>by simp at hh;exact Prod.ext hh.1 hh.2) (a:=(a,b)) trivial) h
theorem AfU (x y:Nd) (hh:Bw x=Bw y):x=y:=by cases x;cases y;simpa using hh
theorem Aqe {T:Df} {d:Nat} (hT:T 115=Axf):AwE (cD PP T (d+1)):=λa b h=>Xi hT (Cd (enc:=λp:Nd × Nd=>[AV.agg (Bw p.1),AV.agg (Bw p.2)]) (λa b hh=>by
 have h1:=List.cons.inj hh
 have h2:=List.cons.inj h1.2
 exact Prod.ext (AfU _ _ (AV.agg.inj h1.1)) (AfU _ _ (AV.agg.inj h2.1))) (a:=(a,b)) trivial) h
theorem Ki {x:AV} (hx:Plain x):I7 [x]:=.cons hx .nil
theorem Aaf {x y:AV} (hx:Plain x) (hy:Plain y):I7 [x,y]:=.cons hx (.cons hy .nil)
theorem AzB {x y z:AV} (hx:Plain x) (hy:Plain y) (hz:Plain z):I7 [x,y,z]:=.cons hx (.cons hy (.cons hz .nil))
theorem Fq (n:Nat) (hn:n<=200000):Ql.nx+n<=Bq:=by have:=Aqd;rw [AfK];omega
theorem t1:P3 PP T1:=Eo (q:=true) (n:=8) P3.none A1P (by omega) (λa=>Ki (.int _ _)) (λa=>.bool _) λa _=>⟨0,n177 _ _ a Ql⟩
theorem t2:P3 PP T2:=Eo (q:=true) (n:=8) t1 A1Q (by omega) (λa=>Ki (.str _)) (λa=>.bool _) λa _=>⟨0,n178 _ _ a Ql⟩
theorem t3:P3 PP T3:=Eo (q:=true) (n:=8) t2 A1K (by omega) (λa=>Aaf (.int _ _) (.int _ _)) (λa=>.int _ _) λa _=>⟨1,n117 _ _ (Ayh (by simp [T1,T2,Bb])) a.1 a.2 Ql⟩
theorem t4:P3 PP T4:=Eo (q:=true) (n:=8) t3 A1L (by omega) (λa=>Aaf (.str _) (.str _)) (λa=>.int _ _) λa _=>⟨1,n118 _ _ (Ayi (by simp [T1,T2,T3,Bb])) a.1 a.2 Ql⟩
theorem Ayd {T:Df} {d:Nat} (hT:T 116=λ_=>none):A1i (cD PP T (d+1)):=λl h v hv hl=>by
 rw [cdN hT]
 exact Jn (Nat.le_refl _) (n116 _ 1048576 l h v hv (by omega) (by omega))
theorem t5:P3 PP T5:=Eo (q:=true) (n:=8) t4 Avl (by omega) (λa=>Aaf (Yq _) (Yq _)) (λa=>.int _ _) λa _=>⟨1,n115 _ _ (Ayd (by simp [T1,T2,T3,T4,Bb])) (Aye (by simp [T1,T2,T3,T4,Bb])) (Ayf (by simp [T1,T2,T3,T4,Bb])) a.1 a.2 Ql (Fq _ (by omega))⟩
theorem Akt (o:Int) (a:Tr):Plain (.agg [.int .i64 o,A3 a]):=.agg λy hy=>by simp at hy;rcases hy with rfl|rfl;exact .int _ _;exact Bp a
theorem Aku (o:Int) (a b:Tr):Plain (.agg [.int .i64 o,A3 a,A3 b]):=.agg λy hy=>by simp at hy;rcases hy with rfl|rfl|rfl;exact .int _ _;exact Bp a;exact Bp b
theorem Akv (c a b:Tr):Plain (.agg [A3 c,A3 a,A3 b]):=.agg λy hy=>by simp at hy;rcases hy with rfl|rfl|rfl;exact Bp c;exact Bp a;exact Bp b
theorem t6:P3 PP T6:=Eo (q:=true) (n:=8) t5 Avm (by omega) (λa=>Ki (Akt _ _)) (λa=>.int _ _) λa _=>⟨0,A9D _ _ a.1 (A3 a.2) Ql (Fq _ (by omega))⟩
theorem t7:P3 PP T7:=Eo (q:=true) (n:=8) t6 Avn (by omega) (λa=>Ki (Aku _ _ _)) (λa=>.int _ _) λa _=>⟨0,A9G _ _ a.1 (A3 a.2.1) (A3 a.2.2) Ql (Fq _ (by omega))⟩
theorem t8:P3 PP T8:=Eo (q:=true) (n:=8) t7 Avo (by omega) (λa=>Ki (Akv _ _ _)) (λa=>.int _ _) λa _=>⟨0,A9I _ _ (A3 a.1) (A3 a.2.1) (A3 a.2.2) Ql (Fq _ (by omega))⟩
theorem t9:P3 PP T9:=Eo (q:=true) (n:=8) t8 Avp (by omega) (λa=>Ki (Yq _)) (λa=>.int _ _) λa _=>⟨0,A9K _ _ a Ql (Fq _ (by omega))⟩
theorem Azn:Ls PP 109 (mnm PP 109 1)=some 350:=by kernel_rfl
theorem Azo:Ls PP 111 (mnm PP 109 1)=some 353:=by kernel_rfl
theorem Azp:Ls PP 116 (mnm PP 109 1)=some 355:=by kernel_rfl
theorem Azq:Ls PP 170 (mnm PP 109 1)=some 357:=by kernel_rfl
theorem Azj:Ls PP 109 (mnm PP 109 0)=some 349:=by kernel_rfl
theorem Azk:Ls PP 111 (mnm PP 109 0)=some 352:=by kernel_rfl
theorem Azl:Ls PP 116 (mnm PP 109 0)=some 354:=by kernel_rfl
theorem Azm:Ls PP 170 (mnm PP 109 0)=some 356:=by kernel_rfl
theorem Pc {ctx:Ac} {t:TypeId} {v:AV} {nm:String} {g:FuncId} (args:List AV) (h:H) (hm:Ls PP t nm=some g) (hb:Bg PP g=true):Hn PP ctx (.I6 t v) nm args h=ctx.call g (v::args) h:=by
 show (match Ls PP t nm with|some f=>Aeg PP ctx f (v::args) h|none=>.bad 109)=_
 rw [hm]
 show (Bool.rec (motive:=λ_=>OR) _ _ (Bg PP g):OR)=_
 rw [hb]
theorem De {T:Df} {d:Nat} (A8f:T 350=A16) (A8i:T 353=A17) (A8k:T 355=A18) (A8m:T 357=A19):HOp (cD PP T (d+1)):=by
 intro t h
 cases t with
 |leaf x=>exact (Pc [] h Azq Avp).trans (Xi A8m (Cd (enc:=λx:Nd=>[AV.agg (Bw x)]) (λa b hh=>AfU _ _ (AV.agg.inj (List.cons.inj hh).1)) (a:=x) trivial) h)
 |one o a=>exact (Pc [] h Azn Avm).trans (Xi A8f (Cd (enc:=λp:Int × Tr=>[AV.agg [.int .i64 p.1,A3 p.2]]) (λa b hh=>by simp at hh;exact Prod.ext hh.1 (Fk _ _ hh.2)) (a:=(o,a)) trivial) h)
 |two o a b=>exact (Pc [] h Azo Avn).trans (Xi A8i (Cd (enc:=λp:Int × Tr × Tr=>[AV.agg [.int .i64 p.1,A3 p.2.1,A3 p.2.2]]) (λa b hh=>by simp at hh;exact Prod.ext hh.1 (Prod.ext (Fk _ _ hh.2.1) (Fk _ _ hh.2.2))) (a:=(o,a,b)) trivial) h)
 |three c a b=>exact (Pc [] h Azp Avo).trans (Xi A8k (Cd (enc:=λp:Tr × Tr × Tr=>[AV.agg [A3 p.1,A3 p.2.1,A3 p.2.2]]) (λa b hh=>by simp at hh;exact Prod.ext (Fk _ _ hh.1) (Prod.ext (Fk _ _ hh.2.1) (Fk _ _ hh.2.2))) (a:=(c,a,b)) trivial) h)
theorem Atw (T:Df) (g:FuncId) (S S':List AV->Option AV):(T.ext g S).ext g S'=T.ext g S':=by
 funext g' args
 rw [Zt,Zt,Zt]
 split<;>rfl
theorem ArL {T:Df} (ht:P3 PP T) {g:FuncId} {α:Type} {enc:α->List AV} {out:α->AV} {dom:α->Prop} {q:Bool} {n:Nat} (AyB:∀a b,enc a=enc b->a=b) (sz:α->Nat) (AhE:∀a,1<=sz a) (hb:Bg PP g=true) (hn:n<=200000) (Z1:∀a,I7 (enc a)) (hpv:∀a,Plain (out a))
 (Du:∀k a,dom a->sz a<=k+1->∃d,Sx.Comes (Ay PP (cD PP (T.ext g (Dv enc out (λb=>dom b/\sz b<=k))) d) 1048576 q g (enc a) Ql) (Sx.Out n Ql (out a))):P3 PP (T.ext g (Dv enc out dom)):=by
 have key:∀k,P3 PP (T.ext g (Dv enc out (λb=>dom b/\sz b<=k))):=by
  intro k
  induction k with
  |zero=>exact Eo (q:=q) ht hb hn Z1 hpv λa ha=>by have:=AhE a;omega
  |succ k ih=>
   rw [<- Atw T g (Dv enc out (λb=>dom b/\sz b<=k))]
   exact Eo (q:=q) ih hb hn Z1 hpv λa ha=>Du k a ha.1 ha.2
 refine ⟨λg' args v hv=>?_⟩
 rw [Zt] at hv
 by_cases hg:g'=g
 . rw [if_pos hg] at hv
   obtain ⟨a,h1,rfl,rfl⟩:=Acu hv
   refine (key (sz a)).ok g' _ _ ?_
   rw [Zt,if_pos hg]
   exact Cd AyB (dom:=λb=>dom b/\sz b<=sz a) ⟨h1,Nat.le_refl _⟩
 . rw [if_neg hg] at hv
   exact ht.ok g' args v hv
theorem Nc (a b:Tr) (hh:[A3 a]=[A3 b]):a=b:=Fk _ _ (List.cons.inj hh).1
theorem AhI (a b:Tr × Tr) (hh:[A3 a.1,A3 a.2]=[A3 b.1,A3 b.2]):a=b:=by simp at hh;exact Prod.ext (Fk _ _ hh.1) (Fk _ _ hh.2)
theorem P9 (a b:Int × Tr × Tr) (hh:Ahq a=Ahq b):a=b:=by simp at hh;exact Prod.ext hh.1 (Prod.ext (Fk _ _ hh.2.1) (Fk _ _ hh.2.2))
theorem AyU (a b:Tr × Int) (hh:[A3 a.1,AV.int .i64 a.2]=[A3 b.1,AV.int .i64 b.2]):a=b:=by simp at hh;exact Prod.ext (Fk _ _ hh.1) hh.2
theorem Adb {x y:AV} (hx:Plain x) (hy:Plain y):Plain (.Bj [x,y]):=.Bj λz hz=>by simp at hz;rcases hz with rfl|rfl;exact hx;exact hy
theorem Ada (x:Option Tr):Plain (Yy x):=Adb (by cases x;exact .B3;exact Bp _) (.bool _)
theorem Lx (p:Int × Tr × Tr):I7 (Ahq p):=AzB (.int _ _) (Bp _) (Bp _)
theorem t10:P3 PP Iq:=by
 refine ArL (q:=true) (n:=8) t9 Nc size size_pos A1G (by omega) (λa=>Ki (Bp a)) (λa=>Adb (.int _ _) (.bool _)) λk t _ hk=>⟨1,?_⟩
 have Rx:∀a,size a<=k->∀h,(cD PP (T9.ext 109 (Dv (λt:Tr=>[A3 t]) (λt=>.Bj [.int .i64 (value t).1,.bool (value t).2]) (λb=>True/\size b<=k))) 1).call 109 [A3 a] h=.ok (.Bj [.int .i64 (value a).1,.bool (value a).2]) h:=λa ha h=>
  Xi (S:=Dv (λt:Tr=>[A3 t]) (λt=>.Bj [.int .i64 (value t).1,.bool (value t).2]) (λb=>True/\size b<=k)) (by simp [Bb]) (Cd Nc (dom:=λb=>True/\size b<=k) ⟨trivial,ha⟩) h
 cases t with
 |leaf x=>exact Ark _ _ x Ql (Fq _ (by omega))
 |one o a=>exact Aun _ _ o a (De (by simp [T1,T2,T3,T4,T5,T6,T7,T8,T9,Bb]) (by simp [T1,T2,T3,T4,T5,T6,T7,T8,T9,Bb]) (by simp [T1,T2,T3,T4,T5,T6,T7,T8,T9,Bb]) (by simp [T1,T2,T3,T4,T5,T6,T7,T8,T9,Bb])) (Rx a (by simp [size] at hk;omega)) Ql (Fq _ (by omega))
 |two o a b=>exact Auo _ _ o a b Ql (Fq _ (by omega))
 |three c a b=>exact An5 _ _ c a b Ql (Fq _ (by omega))
theorem Qw {T:Df} {d:Nat} (hT:T 109=A1v):AoN (cD PP T (d+1)):=λt h=>Xi hT (Cd Nc (a:=t) trivial) h
theorem h69 {T:Df} {d:Nat} (hT:T 69=S69):H69 (cD PP T (d+1)):=λn h=>Xi hT (Cd (enc:=λn:Int=>[AV.int .i64 n]) (λa b hh=>by simpa using hh) (a:=n) trivial) h
theorem Ah7 {T:Df} {d:Nat} (hT:T 110=A1w):AwD (cD PP T (d+1)):=λn h h1 h2=>Xi hT (Cd (enc:=λn:Int=>[AV.int .i64 n]) (λa b hh=>by simpa using hh) (a:=n) ⟨h1,h2⟩) h
theorem N7 {T:Df} {d:Nat} (hT:T 31=S31):H31 (cD PP T (d+1)):=λn h=>Xi hT (Cd (enc:=λn:Bool=>[AV.bool n]) (λa b hh=>by simpa using hh) (a:=n) trivial) h
theorem Af2 {T:Df} {d:Nat} (hT:T 175=A12):A1n (cD PP T (d+1)):=λt n h=>Xi hT (Cd AyU (a:=(t,n)) trivial) h
theorem h65 {T:Df} {d:Nat} (hT:T 65=S65):H65 (cD PP T (d+1)):=λt h=>Xi hT (Cd Nc (a:=t) trivial) h
theorem AmO {T:Df} {d:Nat} (hT:T 174=A11):A1m (cD PP T (d+1)):=λo a b h ho=>Xi hT (Cd P9 (a:=(o,a,b)) ho) h
theorem h68 {T:Df} {d:Nat} (hT:T 68=S68):H68 (cD PP T (d+1)):=λa b h ha hb=>Xi hT (Cd AhI (a:=(a,b)) ⟨ha,hb⟩) h
theorem J3 {T:Df} {d:Nat} (hT:T 30=S30):H30 (cD PP T (d+1)):=λa b h ha hb=>Xi hT (Cd AhI (a:=(a,b)) ⟨ha,hb⟩) h
theorem Qx {T:Df} {d:Nat} (hT:T 176=A13):AsV (cD PP T (d+1)):=λo a b h ha hb=>Xi hT (Cd P9 (a:=(o,a,b)) ⟨ha,hb⟩) h
theorem Aya {T:Df} {d:Nat} (hT:T 111=A1x):A1e (cD PP T (d+1)):=λo a b h ho ha hb=>Xi hT (Cd P9 (a:=(o,a,b)) ⟨ho,ha,hb⟩) h
theorem Ayb {T:Df} {d:Nat} (hT:T 113=A1y):A1g (cD PP T (d+1)):=λo a b h ho ha hb=>Xi hT (Cd P9 (a:=(o,a,b)) ⟨ho,ha,hb⟩) h
theorem h66 {T:Df} {d:Nat} (hT:T 66=S66):H66 (cD PP T (d+1)):=λt h ht=>Xi hT (Cd Nc (a:=t) ht) h
theorem A3i {T:Df} {d:Nat} (hT:T 112=Avh):Avc (cD PP T (d+1)):=λo a b h ho ha hb=>Xi hT (Cd P9 (a:=(o,a,b)) ⟨ho,ha,hb⟩) h
theorem AmN {T:Df} {d:Nat} (hT:T 112=Axe):A1f (cD PP T (d+1)):=λo a b h ho ha hb=>Xi hT (Cd P9 (a:=(o,a,b)) ⟨ho,ha,hb⟩) h
theorem h67 {T:Df} {d:Nat} (hT:T 67=S67):H67 (cD PP T (d+1)):=λh=>Xi hT (Cd (enc:=λ_:Unit=>([]:List AV)) (λa b _=>rfl) (a:=()) trivial) h
theorem t11:P3 PP Ir:=Eo (q:=true) (n:=8) t10 A7r (by omega) (λa=>Ki (.int _ _)) (λa=>Bp _) λn _=>⟨0,n69 _ _ n Ql (Fq _ (by omega))⟩
theorem t12:P3 PP Is:=Eo (q:=true) (n:=8) t11 A1H (by omega) (λa=>Ki (.int _ _)) (λa=>Ada _) λn hn=>⟨1,n110 _ _ (h69 (by simp [T1,T2,T3,T4,T5,T6,T7,T8,T9,Iq,Ir,Bb])) n hn.1 hn.2 Ql (Fq _ (by omega))⟩
theorem t13:P3 PP I2:=Eo (q:=true) (n:=8) t12 A7l (by omega) (λa=>Ki (.bool _)) (λa=>Bp _) λb _=>⟨1,n31 _ _ (h69 (by simp [T1,T2,T3,T4,T5,T6,T7,T8,T9,Iq,Ir,Is,Bb])) b Ql (Fq _ (by omega))⟩
theorem t14:P3 PP I8:=Eo (q:=true) (n:=8) t13 A1N (by omega) (λa=>Aaf (Bp _) (.int _ _)) (λa=>.bool _) λp _=>⟨1,n175 _ _ (Qw (by simp [T1,T2,T3,T4,T5,T6,T7,T8,T9,Iq,Ir,Is,I2,Bb])) p.1 p.2 Ql (Fq _ (by omega))⟩
theorem t15:P3 PP Jy:=Eo (q:=true) (n:=8) t14 A7n (by omega) (λa=>Ki (Bp _)) (λa=>Bp _) λt _=>⟨1,n65 _ _ (Qw (by simp [T1,T2,T3,T4,T5,T6,T7,T8,T9,Iq,Ir,Is,I2,I8,Bb])) (Ah7 (by simp [T1,T2,T3,T4,T5,T6,T7,T8,T9,Iq,Ir,Is,I2,I8,Bb])) t Ql (Fq _ (by omega))⟩
theorem t16:P3 PP J2:=Eo (q:=true) (n:=8) t15 A1M (by omega) Lx (λa=>Ada _) λp hp=>⟨1,n174 _ _ (Qw (by simp [T1,T2,T3,T4,T5,T6,T7,T8,T9,Iq,Ir,Is,I2,I8,Jy,Bb])) (Ah7 (by simp [T1,T2,T3,T4,T5,T6,T7,T8,T9,Iq,Ir,Is,I2,I8,Jy,Bb])) p.1 hp p.2.1 p.2.2 Ql (Fq _ (by omega))⟩
theorem AjR [Ii] {T:Df} (A8g:T 351=λ_=>none) (A8e:T 349=λ_=>none) (A8h:T 352=λ_=>none) (A8j:T 354=λ_=>none) (A8l:T 356=λ_=>none):∀(t:Tr) (d:Nat),2 * size t<=d->Zh (cD PP T d) t:=by
 have Aq2:∀(o:Int) (ts:List Tr) (d:Nat),ts.length<=10->(∀t∈ts,Zh (cD PP T d) t)->AkS (cD PP T (d+1)) o ts:=by
  intro o ts d hlen hts h v hv hr hs
  rw [cdN A8g]
  exact Ji (A9E _ 1048576 o ts (by omega) hts h v hv hr hs)
 intro t
 induction t with
 |leaf x=>
  intro d hd h hr hs
  obtain ⟨e,rfl⟩:∃e,d=e+2:=⟨d - 2,by simp [size] at hd;omega⟩
  rw [show A3 (.leaf x)=.I6 170 (.agg (Bw x)) from rfl,Pc [] h Azm A1U,cdN A8l]
  simp only [size] at hr
  exact (Ji (A9J _ 1048576 x h (by omega))).mono (by simp [size]) λv h q=>q
 |one o a Rs=>
  intro d hd h hr hs
  simp only [size] at hd
  obtain ⟨e,rfl⟩:∃e,d=e+2:=⟨d - 2,by omega⟩
  rw [show A3 (.one o a)=.I6 109 (.agg [.int .i64 o,A3 a]) from rfl,Pc [] h Azj A1R,cdN A8e]
  exact Ji (A9C _ 1048576 o a (Aq2 o [a] e (by simp) (by simp;exact Rs e (by omega))) h hr hs)
 |two o a b Rs ihb=>
  intro d hd h hr hs
  simp only [size] at hd
  obtain ⟨e,rfl⟩:∃e,d=e+2:=⟨d - 2,by omega⟩
  rw [show A3 (.two o a b)=.I6 111 (.agg [.int .i64 o,A3 a,A3 b]) from rfl,Pc [] h Azk A1S,cdN A8h]
  exact Ji (A9F _ 1048576 o a b (Aq2 o [a,b] e (by simp) (by simp;exact ⟨Rs e (by omega),ihb e (by omega)⟩)) h hr hs)
 |three c a b ihc Rs ihb=>
  intro d hd h hr hs
  simp only [size] at hd
  obtain ⟨e,rfl⟩:∃e,d=e+2:=⟨d - 2,by omega⟩
  rw [show A3 (.three c a b)=.I6 116 (.agg [A3 c,A3 a,A3 b]) from rfl,Pc [] h Azl A1T,cdN A8j]
  exact Ji (A9H _ 1048576 c a b (Aq2 8 [c,a,b] e (by simp) (by simp;exact ⟨ihc e (by omega),Rs e (by omega),ihb e (by omega)⟩)) h hr hs)
theorem Ayc {T:Df} {d:Nat} (hT:T 114=λ_=>none) (A3k:T 115=Axf):A1h (cD PP T (d+2)):=λl m h v w hv hw hr hl=>by
 rw [cdN hT]
 exact Ji (n114 _ 1048576 (Aqe A3k) Avl l m h v w hv hw hr (by omega) hl)
theorem t17:P3 PP Ol:=Eo (q:=true) (n:=30000) t16 A7q (by omega) (λa=>Aaf (Bp _) (Bp _)) (λa=>.int _ _) λp hp=>⟨2000+2,ApX (n68 _ _ p.1 p.2 (AjR (by simp [T1,T2,T3,T4,T5,T6,T7,T8,T9,Iq,Ir,Is,I2,I8,Jy,J2,Bb]) (by simp [T1,T2,T3,T4,T5,T6,T7,T8,T9,Iq,Ir,Is,I2,I8,Jy,J2,Bb]) (by simp [T1,T2,T3,T4,T5,T6,T7,T8,T9,Iq,Ir,Is,I2,I8,Jy,J2,Bb]) (by simp [T1,T2,T3,T4,T5,T6,T7,T8,T9,Iq,Ir,Is,I2,I8,Jy,J2,Bb]) (by simp [T1,T2,T3,T4,T5,T6,T7,T8,T9,Iq,Ir,Is,I2,I8,Jy,J2,Bb]) p.1 _ (by omega)) (AjR (by simp [T1,T2,T3,T4,T5,T6,T7,T8,T9,Iq,Ir,Is,I2,I8,Jy,J2,Bb]) (by simp [T1,T2,T3,T4,T5,T6,T7,T8,T9,Iq,Ir,Is,I2,I8,Jy,J2,Bb]) (by simp [T1,T2,T3,T4,T5,T6,T7,T8,T9,Iq,Ir,Is,I2,I8,Jy,J2,Bb]) (by simp [T1,T2,T3,T4,T5,T6,T7,T8,T9,Iq,Ir,Is,I2,I8,Jy,J2,Bb]) (by simp [T1,T2,T3,T4,T5,T6,T7,T8,T9,Iq,Ir,Is,I2,I8,Jy,J2,Bb]) p.2 _ (by omega)) (Ayc (by simp [T1,T2,T3,T4,T5,T6,T7,T8,T9,Iq,Ir,Is,I2,I8,Jy,J2,Bb]) (by simp [T1,T2,T3,T4,T5,T6,T7,T8,T9,Iq,Ir,Is,I2,I8,Jy,J2,Bb])) hp.1 hp.2 Ql (Fq _ (by omega)))⟩
theorem t18:P3 PP Ot:=Eo (q:=true) (n:=8) t17 A7k (by omega) (λa=>Aaf (Bp _) (Bp _)) (λa=>.bool _) λp hp=>⟨1,n30 _ _ (h68 (by simp [T1,T2,T3,T4,T5,T6,T7,T8,T9,Iq,Ir,Is,I2,I8,Jy,J2,Ol,Bb])) p.1 p.2 hp.1 hp.2 Ql (Fq _ (by omega))⟩
theorem t19:P3 PP O1:=Eo (q:=true) (n:=8) t18 A1O (by omega) Lx (λa=>Bp _) λp hp=>⟨1,n176 _ _ (h68 (by simp [T1,T2,T3,T4,T5,T6,T7,T8,T9,Iq,Ir,Is,I2,I8,Jy,J2,Ol,Ot,Bb])) p.1 p.2.1 p.2.2 hp.1 hp.2 Ql (Fq _ (by omega))⟩
theorem t20:P3 PP Rk:=Eo (q:=true) (n:=8) t19 A1I (by omega) Lx (λa=>Bp _) λp hp=>⟨1,n111 _ _ (J3 (by simp [T1,T2,T3,T4,T5,T6,T7,T8,T9,Iq,Ir,Is,I2,I8,Jy,J2,Ol,Ot,O1,Bb])) (h65 (by simp [T1,T2,T3,T4,T5,T6,T7,T8,T9,Iq,Ir,Is,I2,I8,Jy,J2,Ol,Ot,O1,Bb])) (h69 (by simp [T1,T2,T3,T4,T5,T6,T7,T8,T9,Iq,Ir,Is,I2,I8,Jy,J2,Ol,Ot,O1,Bb])) (AmO (by simp [T1,T2,T3,T4,T5,T6,T7,T8,T9,Iq,Ir,Is,I2,I8,Jy,J2,Ol,Ot,O1,Bb])) (Af2 (by simp [T1,T2,T3,T4,T5,T6,T7,T8,T9,Iq,Ir,Is,I2,I8,Jy,J2,Ol,Ot,O1,Bb])) (Qx (by simp [T1,T2,T3,T4,T5,T6,T7,T8,T9,Iq,Ir,Is,I2,I8,Jy,J2,Ol,Ot,O1,Bb])) p.1 hp.1 p.2.1 p.2.2 hp.2.1 hp.2.2 Ql (Fq _ (by omega))⟩
theorem t21:P3 PP Sa:=Eo (q:=true) (n:=8) t20 A1J (by omega) Lx (λa=>Bp _) λp hp=>⟨1,n113 _ _ (J3 (by simp [T1,T2,T3,T4,T5,T6,T7,T8,T9,Iq,Ir,Is,I2,I8,Jy,J2,Ol,Ot,O1,Rk,Bb])) (N7 (by simp [T1,T2,T3,T4,T5,T6,T7,T8,T9,Iq,Ir,Is,I2,I8,Jy,J2,Ol,Ot,O1,Rk,Bb])) (Qx (by simp [T1,T2,T3,T4,T5,T6,T7,T8,T9,Iq,Ir,Is,I2,I8,Jy,J2,Ol,Ot,O1,Rk,Bb])) p.1 hp.1 p.2.1 p.2.2 hp.2.1 hp.2.2 Ql (Fq _ (by omega))⟩
theorem t22:P3 PP U4:=Eo (q:=true) (n:=8) t21 A7o (by omega) (λa=>Ki (Bp _)) (λa=>Bp _) λt ht=>⟨1,n66 _ _ (J3 (by simp [T1,T2,T3,T4,T5,T6,T7,T8,T9,Iq,Ir,Is,I2,I8,Jy,J2,Ol,Ot,O1,Rk,Sa,Bb])) (N7 (by simp [T1,T2,T3,T4,T5,T6,T7,T8,T9,Iq,Ir,Is,I2,I8,Jy,J2,Ol,Ot,O1,Rk,Sa,Bb])) t ht Ql (Fq _ (by omega))⟩
theorem t23:P3 PP T23:=Eo (q:=true) (n:=8) t22 Avk (by omega) Lx (λa=>Bp _) λp hp=>⟨1,Awq _ _ (De (by simp [T1,T2,T3,T4,T5,T6,T7,T8,T9,Iq,Ir,Is,I2,I8,Jy,J2,Ol,Ot,O1,Rk,Sa,U4,Bb]) (by simp [T1,T2,T3,T4,T5,T6,T7,T8,T9,Iq,Ir,Is,I2,I8,Jy,J2,Ol,Ot,O1,Rk,Sa,U4,Bb]) (by simp [T1,T2,T3,T4,T5,T6,T7,T8,T9,Iq,Ir,Is,I2,I8,Jy,J2,Ol,Ot,O1,Rk,Sa,U4,Bb]) (by simp [T1,T2,T3,T4,T5,T6,T7,T8,T9,Iq,Ir,Is,I2,I8,Jy,J2,Ol,Ot,O1,Rk,Sa,U4,Bb])) (Qw (by simp [T1,T2,T3,T4,T5,T6,T7,T8,T9,Iq,Ir,Is,I2,I8,Jy,J2,Ol,Ot,O1,Rk,Sa,U4,Bb])) (J3 (by simp [T1,T2,T3,T4,T5,T6,T7,T8,T9,Iq,Ir,Is,I2,I8,Jy,J2,Ol,Ot,O1,Rk,Sa,U4,Bb])) (N7 (by simp [T1,T2,T3,T4,T5,T6,T7,T8,T9,Iq,Ir,Is,I2,I8,Jy,J2,Ol,Ot,O1,Rk,Sa,U4,Bb])) (Qx (by simp [T1,T2,T3,T4,T5,T6,T7,T8,T9,Iq,Ir,Is,I2,I8,Jy,J2,Ol,Ot,O1,Rk,Sa,U4,Bb])) p.1 (by have:=hp.1;omega) p.2.1 p.2.2 hp.2.1 hp.2.2 Ql (Fq _ (by omega))⟩
theorem AxI (o:Int) (a b:Tr) (h1:o<=12):Ek o a b=Dg o a b:=by
 unfold Ek
 rw [if_neg (by omega),if_neg (by omega)]
theorem t24:P3 PP T24:=by
 unfold T24
 have Y9:P3 PP (T23.ext 112 Axe):=by
  refine Eo (q:=true) (n:=8) t23 Avk (by omega) Lx (λa=>Bp _) λp hp=>?_
  by_cases hq:p.1<=12
  . rw [AxI _ _ _ hq]
    exact ⟨1,Awq _ _ (De (by simp [T1,T2,T3,T4,T5,T6,T7,T8,T9,Iq,Ir,Is,I2,I8,Jy,J2,Ol,Ot,O1,Rk,Sa,U4,T23,Bb]) (by simp [T1,T2,T3,T4,T5,T6,T7,T8,T9,Iq,Ir,Is,I2,I8,Jy,J2,Ol,Ot,O1,Rk,Sa,U4,T23,Bb]) (by simp [T1,T2,T3,T4,T5,T6,T7,T8,T9,Iq,Ir,Is,I2,I8,Jy,J2,Ol,Ot,O1,Rk,Sa,U4,T23,Bb]) (by simp [T1,T2,T3,T4,T5,T6,T7,T8,T9,Iq,Ir,Is,I2,I8,Jy,J2,Ol,Ot,O1,Rk,Sa,U4,T23,Bb])) (Qw (by simp [T1,T2,T3,T4,T5,T6,T7,T8,T9,Iq,Ir,Is,I2,I8,Jy,J2,Ol,Ot,O1,Rk,Sa,U4,T23,Bb])) (J3 (by simp [T1,T2,T3,T4,T5,T6,T7,T8,T9,Iq,Ir,Is,I2,I8,Jy,J2,Ol,Ot,O1,Rk,Sa,U4,T23,Bb])) (N7 (by simp [T1,T2,T3,T4,T5,T6,T7,T8,T9,Iq,Ir,Is,I2,I8,Jy,J2,Ol,Ot,O1,Rk,Sa,U4,T23,Bb])) (Qx (by simp [T1,T2,T3,T4,T5,T6,T7,T8,T9,Iq,Ir,Is,I2,I8,Jy,J2,Ol,Ot,O1,Rk,Sa,U4,T23,Bb])) p.1 (by have:=hp.1;omega) p.2.1 p.2.2 hp.2.1 hp.2.2 Ql (Fq _ (by omega))⟩
  . exact ⟨1,A4F _ _ (A3i (by simp [T1,T2,T3,T4,T5,T6,T7,T8,T9,Iq,Ir,Is,I2,I8,Jy,J2,Ol,Ot,O1,Rk,Sa,U4,T23,Bb])) p.1 (by have:=hp.1;omega) p.2.1 p.2.2 hp.2.1 hp.2.2 Ql (Fq _ (by omega))⟩
 exact Y9
theorem Aip:Plain (.agg Of):=.agg λx hx=>by
 have hf:∀g,Plain (fnA g):=λg=>.fn (λl h=>by cases h) (λy hy=>by cases hy) (λy hy=>by cases hy)
 simp [Of] at hx
 rcases hx with rfl|rfl|rfl|rfl|rfl|rfl
 all_goals first|exact .Iy|exact hf _
theorem t25:P3 PP T25:=Eo (q:=true) (n:=8) t24 A7p (by omega) (λ_=>.nil) (λ_=>Aip) λ_ _=>⟨0,n67 _ _ Ql (Fq _ (by omega))⟩
theorem t26:P3 PP T26:=by
 refine ArL (q:=true) (n:=8) t25 Nc size size_pos A7j (by omega) (λa=>Ki (Bp a)) (λa=>Bp _) λk t ht hk=>⟨1,?_⟩
 have Rx:∀a,Wf a->size a<=k->size a<=1000->H29 (cD PP (T25.ext 29 (Dv (λt:Tr=>[A3 t]) (λt=>A3 (normal t)) (λb=>(Wf b/\size b<=1000)/\size b<=k))) 1) a:=λa hw ha hs h=>
  Xi (S:=Dv (λt:Tr=>[A3 t]) (λt=>A3 (normal t)) (λb=>(Wf b/\size b<=1000)/\size b<=k)) (by simp [Bb]) (Cd Nc (dom:=λb=>(Wf b/\size b<=1000)/\size b<=k) ⟨⟨hw,hs⟩,ha⟩) h
 obtain ⟨hw,hs⟩:=ht
 cases t with
 |leaf x=>exact Aup _ _ x Ql (Fq _ (by omega))
 |one o a=>
  simp only [size] at hk hs
  have:=Ea a
  exact Azs _ _ (h65 (by simp [T1,T2,T3,T4,T5,T6,T7,T8,T9,Iq,Ir,Is,I2,I8,Jy,J2,Ol,Ot,O1,Rk,Sa,U4,T23,T24,T25,Bb])) (h66 (by simp [T1,T2,T3,T4,T5,T6,T7,T8,T9,Iq,Ir,Is,I2,I8,Jy,J2,Ol,Ot,O1,Rk,Sa,U4,T23,T24,T25,Bb])) o a (by omega) (Rx a hw (by omega) (by omega)) Ql (Fq _ (by omega))
 |two o a b=>
  simp only [size] at hk hs
  have:=Ea a
  have:=Ea b
  exact Azt _ _ (h67 (by simp [T1,T2,T3,T4,T5,T6,T7,T8,T9,Iq,Ir,Is,I2,I8,Jy,J2,Ol,Ot,O1,Rk,Sa,U4,T23,T24,T25,Bb])) (Aya (by simp [T1,T2,T3,T4,T5,T6,T7,T8,T9,Iq,Ir,Is,I2,I8,Jy,J2,Ol,Ot,O1,Rk,Sa,U4,T23,T24,T25,Bb])) (AmN (by simp [T1,T2,T3,T4,T5,T6,T7,T8,T9,Iq,Ir,Is,I2,I8,Jy,J2,Ol,Ot,O1,Rk,Sa,U4,T23,T24,T25,Bb])) (Ayb (by simp [T1,T2,T3,T4,T5,T6,T7,T8,T9,Iq,Ir,Is,I2,I8,Jy,J2,Ol,Ot,O1,Rk,Sa,U4,T23,T24,T25,Bb])) o a b hw (by omega) (by omega) (Rx a hw.2.1 (by omega) (by omega)) (Rx b hw.2.2 (by omega) (by omega)) Ql (Fq _ (by omega))
 |three c a b=>
  simp only [size] at hk hs
  have:=Ea a
  have:=Ea b
  have:=Ea c
  exact Arl _ _ (J3 (by simp [T1,T2,T3,T4,T5,T6,T7,T8,T9,Iq,Ir,Is,I2,I8,Jy,J2,Ol,Ot,O1,Rk,Sa,U4,T23,T24,T25,Bb])) (N7 (by simp [T1,T2,T3,T4,T5,T6,T7,T8,T9,Iq,Ir,Is,I2,I8,Jy,J2,Ol,Ot,O1,Rk,Sa,U4,T23,T24,T25,Bb])) c a b (by omega) (by omega) (by omega) (Rx c hw.1 (by omega) (by omega)) (Rx a hw.2.1 (by omega) (by omega)) (Rx b hw.2.2 (by omega) (by omega)) Ql (Fq _ (by omega))
theorem t27:P3 PP T27:=Eo (q:=true) (n:=8) t26 A7m (by omega) (λa=>Ki (Bp _)) (λa=>.bool _) λt _=>⟨1,n64 _ _ (De (by simp [T1,T2,T3,T4,T5,T6,T7,T8,T9,Iq,Ir,Is,I2,I8,Jy,J2,Ol,Ot,O1,Rk,Sa,U4,T23,T24,T25,T26,Bb]) (by simp [T1,T2,T3,T4,T5,T6,T7,T8,T9,Iq,Ir,Is,I2,I8,Jy,J2,Ol,Ot,O1,Rk,Sa,U4,T23,T24,T25,T26,Bb]) (by simp [T1,T2,T3,T4,T5,T6,T7,T8,T9,Iq,Ir,Is,I2,I8,Jy,J2,Ol,Ot,O1,Rk,Sa,U4,T23,T24,T25,T26,Bb]) (by simp [T1,T2,T3,T4,T5,T6,T7,T8,T9,Iq,Ir,Is,I2,I8,Jy,J2,Ol,Ot,O1,Rk,Sa,U4,T23,T24,T25,T26,Bb])) t Ql (Fq _ (by omega))⟩
end Go.Proofs
