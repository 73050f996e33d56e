/- Queries: norm's normal form. -/
import Derived.Test.YtecikbfimlolcaaGreatDoorEvNf
set_option linter.all false
set_option maxRecDepth 100000
noncomputable section
namespace Go.Proofs
open Go Go.Ev Go.Nm Go.Ev.Sx
variable {p:Prop}{j:H}{o:AV}
abbrev rc(t:Tr)(w:AV):List AV:=[iI (hd t).op,iI (hd t).n,.str (hd t).Zn,w]
def B2{s:Nat}{len:Nat}{c:List AV}(a:Sl s j o len c):Ge o=true/\cellsOf o=some [o]:=by rcases a with⟨_,_,rfl⟩|⟨b,off,cap,ex,cs,rfl,_⟩<;>exact⟨rfl,rfl⟩
def Ah0{Z:Ac}{q:Bool}{g:FuncId}{args:List AV}{Q:AV->H->Prop}(hc:Ah j Q (Ay PP Z 1048576 q g args j)):Ah j Q (Fy PP Z g args j):=by obtain⟨v,h1,h2,a⟩:=hc;exact⟨v,h1,Jn (Yw _) h2,a⟩
section
variable (Z:Ac)
end
def N4(q:p:=by first|(simp(disch:=first|omega|(simp only[C9];omega)) [AtB,Ay3,Ay4,Aqt, *];done)|fail):p:=q
def A2O(q:p:=by first|rfl|(simp[*];done)|(simp[*];omega)|(simp_all [];done)|fail):p:=q
attribute [local irreducible] Aa Al Af Ad
variable (Z:Ac)(N:Nat)
abbrev Ue(h:H)(v:AV)(l:List Nd):Prop:=R0 3 Bw h v l
abbrev NdO(lo:Nat)(h:H)(v:AV)(l:List Nd):Prop:=Fm 3 lo 32 h v l.length (l.flatMap Bw)
def B15(x:Nd):(Bw x).length=3:=rfl
def Bi5{l:List Nd}{i:Nat}{x:Nd}(c:Ue j o l)(hi:l[i]?=some x):∃b p,(∀h1,Gc 3 o (iI (i:Int)) h1=.ok (.ptr b p) h1)/\(∀a,Bi j a->Ae (some (some 3)) (.ptr b p) a=.ok (.agg (Bw x)) a) /\
 (∀a,Bi j a->Ae (some none) (.ptr b p) a=.ok (iI x.op) a)/\(∀a,Bi j a->Ae (some none) (.ptr b (p+1)) a=.ok (iI x.n) a)/\(∀a,Bi j a->Ae (some none) (.ptr b (p+2)) a=.ok (.str x.Zn) a):=by
 obtain⟨b,p,e⟩:=R0.elem B15 c hi;exact⟨b,p,e.ia,e.all,e.part 0 _ rfl,e.part 1 _ rfl,e.part 2 _ rfl⟩
def Pz(op:Int):List Nat:=if op=1\/op=2\/op=3 then[]else if op=4\/op=5\/op=6 then[110,110]else if op=7 then[110]else if op=8 then[116,110,110]else if op=15\/op=16 then[116,116]else if op=17 then[116]else[110,110]
end Go.Proofs
namespace Go.Proofs
open Go Go.Ev Go.Nm Go.Ev.Sx
variable {j:Nd}{o:List Nd}
def ty(t:Tr):Nat:=if F4 t then 116 else 110
def mkT(x:Nd):List Tr->Tr
|[a]=>.one x.op a
|[a,b]=>.two x.op a b
|[c,a,b]=>.three c a b
|_=>.leaf x
def Alw(h:Qt j=false):1<=j.op/\j.op<=17/\(j.op≠1->j.n=0)/\(j.op≠2->j.op≠3->j.Zn=[]):=by
 simp only[Qt,dq,X9,Bool.and_eq_false_imp,eg,Bool.not_eq_false',W8,X9]at h;obtain⟨⟨⟨h1,h2⟩,c⟩,d⟩:=h;refine⟨by omega,by omega,λe=>?_,λb a=>?_⟩
 .by_cases hn:j.n=0
  .exact hn
  .have:=c hn;omega
 .by_cases hn:j.Zn=[]
  .exact hn
  .exfalso;simp[hn,b,a]at d
def Apq{st:List Tr}(h1:1<=j.op)(h2:j.op<=17):Fa st j=if(Pz j.op).length<=st.length/\(st.drop (st.length-(Pz j.op).length)).map ty=Pz j.op then some (st.take (st.length-(Pz j.op).length)++[mkT j (st.drop (st.length-(Pz j.op).length))])else none:=by
 have v:∀(ts:List Bool) (l:List Nat),l=ts.map (λb=>if b then 116 else 110)->∀q:List Tr,q.map F4=ts ↔ q.map ty=l:=by
  intro ts l o q;subst o;constructor
  .intro hq;rw[<- hq];simp[ty]
  .intro hq;have h:q.map (λt=>if F4 t then 116 else 110)=ts.map (λb=>if b then 116 else 110):=hq;clear hq;induction q generalizing ts with
   |nil=>cases ts with|nil=>rfl|cons a ts=>simp at h
   |cons t q w=>
    cases ts with
    |nil=>simp at h
    |cons a ts=>simp only[Co,Ll]at h ⊢;refine⟨?_,w ts h.2⟩;cases d:F4 t<;>cases a<;>simp[d]at h ⊢
 have m:∀(ts:List Bool),Pz j.op=ts.map (λb=>if b then 116 else 110)->∀(f:List Tr->List Tr->Option (List Tr)),(match Gf st ts with|some (r,q)=>f r q|none=>none) =
  if(Pz j.op).length<=st.length/\(st.drop (st.length-(Pz j.op).length)).map ty=Pz j.op then f (st.take (st.length-(Pz j.op).length)) (st.drop (st.length-(Pz j.op).length))else none:=by
  intro ts g f;have o:(Pz j.op).length=ts.length:=by rw[g];simp
  unfold Gf;rw[o];by_cases hc:ts.length<=st.length/\(st.drop (st.length-ts.length)).map F4=ts
  .rw[W5 hc,W5 ⟨hc.1,(v ts _ g _).1 hc.2⟩]
  .rw[X2 hc,X2 (λs=>hc ⟨s.1,(v ts _ g _).2 s.2⟩)]
 have e:∀k,k<=st.length->(st.drop (st.length-k)).length=k:=λk z=>by rw[bg];omega
 by_cases c1:j.op<=3
 .have d:Pz j.op=[]:=by unfold Pz;rw[W5 om]
  unfold Fa;rw[W5 c1,d];simp[mkT]
 by_cases c2:j.op=7\/j.op=17
 .have d:Pz j.op=[decide (j.op=17)].map (λb=>if b then 116 else 110):=by rcases c2 with c2|c2<;>rw[c2]<;>rfl
  have i:=m [decide (j.op=17)] d (λr q=>match q with|[a]=>some (r++[.one j.op a])|_=>none);unfold Fa;rw[X2 c1,W5 c2];have x:(Pz j.op).length=1:=by rw[d];rfl
  refine Eq.trans ?_ (i.trans ?_)
  .cases Gf st [decide (j.op=17)]with
   |none=>rfl
   |some p=>obtain⟨r,q⟩:=p;cases q with|nil=>rfl|cons a q=>cases q<;>rfl
  .by_cases hc:(Pz j.op).length<=st.length/\(st.drop (st.length-(Pz j.op).length)).map ty=Pz j.op
   .rw[W5 hc,W5 hc];obtain⟨a,y⟩:=List.length_eq_one_iff.1 ((e _ hc.1).trans x);rw[y];rfl
   .rw[X2 hc,X2 hc]
 by_cases c3:j.op=8
 .have d:Pz j.op=[true,false,false].map (λb=>if b then 116 else 110):=by rw[c3];rfl
  have i:=m [true,false,false] d (λr q=>match q with|[c,a,b]=>some (r++[.three c a b])|_=>none);unfold Fa;rw[X2 c1,X2 c2,W5 c3];have x:(Pz j.op).length=3:=by rw[d];rfl
  refine Eq.trans ?_ (i.trans ?_)
  .cases Gf st [true,false,false]with
   |none=>rfl
   |some p=>obtain⟨r,q⟩:=p;match q with|[]=>rfl|[_]=>rfl|[_,_]=>rfl|[_,_,_]=>rfl|_::_::_::_::_=>rfl
  .by_cases hc:(Pz j.op).length<=st.length/\(st.drop (st.length-(Pz j.op).length)).map ty=Pz j.op
   .rw[W5 hc,W5 hc];have n:=(e _ hc.1).trans x;match hq:st.drop (st.length-(Pz j.op).length),n with
    |[c,a,b],_=>rfl
   .rw[X2 hc,X2 hc]
 .have d:Pz j.op=[decide (j.op=15)||decide (j.op=16),decide (j.op=15)||decide (j.op=16)].map (λb=>if b then 116 else 110):=by
   by_cases c4:j.op=15\/j.op=16
   .rcases c4 with c4|c4<;>rw[c4]<;>rfl
   .have e1:¬ j.op=15:=by omega
    have u:¬ j.op=16:=by omega
    unfold Pz;rw[X2 om];by_cases c5:j.op=4\/j.op=5\/j.op=6
    .rw[W5 c5];simp[e1,u]
    .rw[X2 c5,X2 om,X2 om,X2 om,X2 om];simp[e1,u]
  have i:=m _ d (λr q=>match q with|[a,b]=>some (r++[.two j.op a b])|_=>none);unfold Fa;rw[X2 c1,X2 c2,X2 c3];have x:(Pz j.op).length=2:=by rw[d];rfl
  refine Eq.trans ?_ (i.trans ?_)
  .cases Gf st [decide (j.op=15)||decide (j.op=16),decide (j.op=15)||decide (j.op=16)]with
   |none=>rfl
   |some p=>obtain⟨r,q⟩:=p;match q with|[]=>rfl|[_]=>rfl|[_,_]=>rfl|_::_::_::_=>rfl
  .by_cases hc:(Pz j.op).length<=st.length/\(st.drop (st.length-(Pz j.op).length)).map ty=Pz j.op
   .rw[W5 hc,W5 hc];have n:=(e _ hc.1).trans x;match hq:st.drop (st.length-(Pz j.op).length),n with
    |[a,b],_=>rfl
   .rw[X2 hc,X2 hc]
open Tryz
attribute [local irreducible] Aa Al Af Ad
variable (Z:Ac)(N:Nat)
def xi9:Hp prog 9=.str:=by kernel_rfl
def AgV{st a:List Tr}{i:Nat}{rest:List Nd}(h1:Qt j=false)(h2:Ou o i j=false)(b:Fa st j=some a):Dm o st i (j::rest)=Dm o a (i+1) rest:=by simp[Dm,h1,h2,b]
def AgU{st:List Tr}{i:Nat}{rest:List Nd}(h1:Qt j=false)(h2:Ou o i j=false)(a:Fa st j=none):Dm o st i (j::rest)=none:=by simp[Dm,h1,h2,a]
def F5(p:Prop):Prop:=p
end Go.Proofs
namespace Go.Proofs
open Go Go.Ev Go.Nm Tryz Go.Ev.Sx
variable {j:List AV}{I o:AV}{p:H}{C:AO}
def B38:tk prog 32=.struct [(3,0),(3,1),(9,2)]:=by kernel_rfl
def B39:tk prog 33=.array 2 3 1:=by kernel_rfl
def tk9:tk prog 9=.string:=by kernel_rfl
def ld3:Ft prog 3=some none:=by kernel_rfl
def ld9:Ft prog 9=some none:=by kernel_rfl
def B0i:Nq prog 32=true:=by kernel_rfl
def B0j:Nq prog 33=true:=by kernel_rfl
def Bp0(d:Nat)(a b:Int):aeq prog (d+1) 3 (iI a) (iI b)=some (decide (a=b)):=by show Dy _ _ _ _ _=_;unfold Dy;rw[tk3,<- X7];rfl
def Bp1(d:Nat)(a b:List Nat):aeq prog (d+1) 9 (.str a) (.str b)=some (decide (a=b)):=by show Dy _ _ _ _ _=_;unfold Dy;rw[tk9,<- Aap];rfl
def Bud(x y:Nd):aeq prog 20 32 (.agg (Bw x)) (.agg (Bw y))=some (decide (x=y)):=by
 show Dy _ _ _ _ _=_;unfold Dy;rw[B38];show Amw _ _ [(3,0),(3,1),(9,2)] (Bw x) (Bw y)=_;have e:∀z:Nd,Hc prog 3 (Bw z) 0=some (iI z.op):=λz=>by unfold Hc;rw[ld3];rfl
 have h:∀z:Nd,Hc prog 3 (Bw z) 1=some (iI z.n):=λz=>by unfold Hc;rw[ld3];rfl
 have g:∀z:Nd,Hc prog 9 (Bw z) 2=some (.str z.Zn):=λz=>by unfold Hc;rw[ld9];rfl
 obtain⟨a,b,c⟩:=x;obtain⟨f,d,i⟩:=y;simp only[Amw,e,h,g,Bp0,Bp1];by_cases h1:a=f
 .by_cases h2:b=d
  .by_cases j:c=i<;>simp[h1,h2,j]
  .simp[h1,h2]
 .simp[h1]
abbrev Zd(x:Int × Int):List AV:=[iI x.1,iI x.2]
def Bue(x y:Int × Int):aeq prog 20 33 (.agg (Zd x)) (.agg (Zd y))=some (decide (x=y)):=by
 show Dy _ _ _ _ _=_;unfold Dy;rw[B39];show Amv _ _ 3 1 2 0 (Zd x) (Zd y)=_;have d:∀z:Int × Int,Hc prog 3 (Zd z) 0=some (iI z.1):=λz=>by unfold Hc;rw[ld3];rfl
 have f:∀z:Int × Int,Hc prog 3 (Zd z) 1=some (iI z.2):=λz=>by unfold Hc;rw[ld3];rfl
 obtain⟨a,b⟩:=x;obtain⟨e,c⟩:=y;simp only[Amv,d,f,Bp0,ep,Rx,Nat.one_mul];by_cases h1:a=e
 .by_cases h2:b=c<;>simp[h1,h2]
 .simp[h1]
def Bo7(x y:Nd)(h:H):Aj prog .neq 32 false (.agg (Bw x)) (.agg (Bw y)) h=.ok (.bool (decide (x≠y))) h:=by show Xe true prog 32 (.agg (Bw x)) (.agg (Bw y)) false h=_;unfold Xe;show @Bool.rec (λ_=>OR) _ _ (Nq prog 32)=_;rw[B0i,Bud];by_cases h1:x=y<;>simp[h1]
def Bo8(x y:Int × Int)(h:H):Aj prog .neq 33 false (.agg (Zd x)) (.agg (Zd y)) h=.ok (.bool (decide (x≠y))) h:=by show Xe true prog 33 (.agg (Zd x)) (.agg (Zd y)) false h=_;unfold Xe;have e:Xm prog 33 false (O6 (AV.agg (Zd x))) (O6 (AV.agg (Zd y)))=true:=B0j;rw[e,Bue];by_cases h1:x=y<;>simp[h1]
attribute [local irreducible] Aa Al Af Ad
variable (Z:Ac)(N:Nat)
abbrev OkS(h:H)(v:AV)(l:List (Int × Int)):Prop:=R0 2 Zd h v l
def B1D(x:Int × Int):(Zd x).length=2:=rfl
def Bjc{l:List (Int × Int)}{i:Nat}{x:Int × Int}(c:OkS p o l)(hi:l[i]?=some x):∃b h,(∀h1,Gc 2 o (iI (i:Int)) h1=.ok (.ptr b h) h1)/\(∀a,Bi p a->Ae (some (some 2)) (.ptr b h) a=.ok (.agg (Zd x)) a):=by obtain⟨b,h,e⟩:=R0.elem B1D c hi;exact⟨b,h,e.ia,e.all⟩
def BrM(l m:List Nd)(O:l.length<=3000)(j:l.length=m.length){h0:H}(s:Ue h0 o l)(u:Ue h0 I m):
 ∀(rest a pre d:List Nd) (h:H) (f0:L2) (g:Nat),l=pre++rest->m=d++a->d.length=pre.length->rest.length+1<=g->Ai h0 h ->
  Ah h0 (λr _=>r=.bool (decide (rest=a))) (Bdm Z N g o I (iI (pre.length:Int)) f0 h):=by
 have P:∀n,Fo o n=.ok (iI (l.length:Int)) n:=λ_=>s.Gs;intro rest;induction rest with
 |nil=>
  intro a pre d h f0 g f c w hn v;obtain⟨k,rfl⟩:∃k,g=k+1:=⟨g-1,by omega⟩;have E:l.length=pre.length:=by rw[f];simp
  have C:a=[]:=by
   have:m.length=pre.length+a.length:=by rw[c];simp[w]
   exact M8.1 om
  subst C;clear s u f c j;rw[Bao];refine wk ?_;all_goals (refine zr ?_ ?_;exact Ex;exact A2O)
 |cons x rest z=>
  intro a pre d h f0 g f c w hn v;obtain⟨k,rfl⟩:∃k,g=k+1:=⟨g-1,by omega⟩;have E:l.length=pre.length+(rest.length+1):=by rw[f];simp
  have F:m.length=pre.length+a.length:=by rw[c];simp[w]
  obtain⟨b,p,Q,M,-,-,-⟩:=Bi5 s (i:=pre.length) (x:=x) (by rw[f];simp);cases a with
  |nil=>simp at F;omega
  |cons y a=>
   obtain⟨b2,K,R,L,-,-,-⟩:=Bi5 u (i:=pre.length) (x:=y) (by rw[c,<- w];simp);have t:∀n,Aj prog .neq 32 false (.agg (Bw x)) (.agg (Bw y)) n=.ok (.bool (decide (x≠y))) n:=Bo7 x y;by_cases e:x=y
   .have A:=z a (pre++[x]) (d++[y]);have hd:decide (x≠y)=false:=by simp[e]
    rw[hd]at t;have q:decide (x::rest=y::a)=decide (rest=a):=by simp[e]
    rw[q];replace z:True:=trivial;replace A:F5 _:=A;have B:F5 (l=(pre++[x])++rest):=(by rw[f];simp:l=(pre++[x])++rest);have D:F5 (m=(d++[y])++a):=(by rw[c];simp:m=(d++[y])++a);have G:(pre.length:Int)<(l.length:Int):=by omega
    clear f c e q hd E s u j;generalize Bw x=X at *
    generalize Bw y=Y at *
    rw[Bao];refine wk ?_;have J:(pre.length:Int)+1=((pre++[x]).length:Int):=by simp
    rw[J];exact A _ _ k B D (by simp[w]) (by simp at hn;omega) Ex
   .have hd:decide (x≠y)=true:=by simp[e]
    rw[hd]at t;have q:decide (x::rest=y::a)=false:=by simp[e]
    rw[q];have G:(pre.length:Int)<(l.length:Int):=by omega
    clear f c e q hd E s u j z;generalize Bw x=X at *
    generalize Bw y=Y at *
    rw[Bao];refine wk ?_;all_goals (refine zr ?_ ?_;exact Ex;exact A2O)
def R33:Prop:=∀(l m:List Nd) (v w:AV) (h:H),Ue h v l->Ue h w m->l.length<=3000->m.length<=3000->Ah h (λr _=>r=.bool (decide (l=m))) (Z.call 33 [v,w] h)
def r33(n:3001<=N)(l m:List Nd)(v w:AV)(h:H)(g:Ue h v l)(e:Ue h w m)(k:l.length<=3000)(o:m.length<=3000):Ah h (λr _=>r=.bool (decide (l=m))) (Ay prog Z N true 33 [v,w] h):=by
 rw[e33];have p:∀b,Fo v b=.ok (iI (l.length:Int)) b:=λ_=>g.Gs;have j:∀b,Fo w b=.ok (iI (m.length:Int)) b:=λ_=>e.Gs;by_cases a:l.length=m.length
 .have c:=λf=>BrM Z N l m k a g e l m [] [] h f N rfl rfl rfl om (Ai.refl h);replace c:=(show F5 _ from c)
  have d:(l.length:Int)=(m.length:Int):=by omega
  refine wk ?_;rw[<- a]at *
  exact(show ∀f,_ from c) _
 .have d:¬ (l.length:Int)=(m.length:Int):=by omega
  have i:decide (l=m)=false:=by rw[X9];intro b;exact a (by rw[b])
  rw[i];refine wk ?_;all_goals (refine zr ?_ ?_;exact Ex;exact A2O)
def BrN(l m:List (Int × Int))(O:l.length<=3000)(j:l.length=m.length){h0:H}(s:OkS h0 o l)(u:OkS h0 I m):
 ∀(rest a pre d:List (Int × Int)) (h:H) (f0:L2) (g:Nat),l=pre++rest->m=d++a->d.length=pre.length->rest.length+1<=g->Ai h0 h ->
  Ah h0 (λr _=>r=.bool (decide (rest=a))) (Bdn Z N g o I (iI (pre.length:Int)) f0 h):=by
 have P:∀n,Fo o n=.ok (iI (l.length:Int)) n:=λ_=>s.Gs;intro rest;induction rest with
 |nil=>
  intro a pre d h f0 g f c w hn v;obtain⟨k,rfl⟩:∃k,g=k+1:=⟨g-1,by omega⟩;have E:l.length=pre.length:=by rw[f];simp
  have C:a=[]:=by
   have:m.length=pre.length+a.length:=by rw[c];simp[w]
   exact M8.1 om
  subst C;clear s u f c j;rw[Bap];refine wk ?_;all_goals (refine zr ?_ ?_;exact Ex;exact A2O)
 |cons x rest z=>
  intro a pre d h f0 g f c w hn v;obtain⟨k,rfl⟩:∃k,g=k+1:=⟨g-1,by omega⟩;have E:l.length=pre.length+(rest.length+1):=by rw[f];simp
  have F:m.length=pre.length+a.length:=by rw[c];simp[w]
  obtain⟨b,p,Q,M⟩:=Bjc s (i:=pre.length) (x:=x) (by rw[f];simp);cases a with
  |nil=>simp at F;omega
  |cons y a=>
   obtain⟨b2,K,R,L⟩:=Bjc u (i:=pre.length) (x:=y) (by rw[c,<- w];simp);have t:∀n,Aj prog .neq 33 false (.agg (Zd x)) (.agg (Zd y)) n=.ok (.bool (decide (x≠y))) n:=Bo8 x y;by_cases e:x=y
   .have A:=z a (pre++[x]) (d++[y]);have hd:decide (x≠y)=false:=by simp[e]
    rw[hd]at t;have q:decide (x::rest=y::a)=decide (rest=a):=by simp[e]
    rw[q];replace z:True:=trivial;replace A:F5 _:=A;have B:F5 (l=(pre++[x])++rest):=(by rw[f];simp:l=(pre++[x])++rest);have D:F5 (m=(d++[y])++a):=(by rw[c];simp:m=(d++[y])++a);have G:(pre.length:Int)<(l.length:Int):=by omega
    clear f c e q hd E s u j;generalize Zd x=X at *
    generalize Zd y=Y at *
    rw[Bap];refine wk ?_;have J:(pre.length:Int)+1=((pre++[x]).length:Int):=by simp
    rw[J];exact A _ _ k B D (by simp[w]) (by simp at hn;omega) Ex
   .have hd:decide (x≠y)=true:=by simp[e]
    rw[hd]at t;have q:decide (x::rest=y::a)=false:=by simp[e]
    rw[q];have G:(pre.length:Int)<(l.length:Int):=by omega
    clear f c e q hd E s u j z;generalize Zd x=X at *
    generalize Zd y=Y at *
    rw[Bap];refine wk ?_;all_goals (refine zr ?_ ?_;exact Ex;exact A2O)
def R36:Prop:=∀(l m:List (Int × Int)) (v w:AV) (h:H),OkS h v l->OkS h w m->l.length<=3000->m.length<=3000->Ah h (λr _=>r=.bool (decide (l=m))) (Z.call 36 [v,w] h)
def r36(n:3001<=N)(l m:List (Int × Int))(v w:AV)(h:H)(g:OkS h v l)(e:OkS h w m)(k:l.length<=3000)(o:m.length<=3000):Ah h (λr _=>r=.bool (decide (l=m))) (Ay prog Z N true 36 [v,w] h):=by
 rw[e36];have p:∀b,Fo v b=.ok (iI (l.length:Int)) b:=λ_=>g.Gs;have j:∀b,Fo w b=.ok (iI (m.length:Int)) b:=λ_=>e.Gs;by_cases a:l.length=m.length
 .have c:=λf=>BrN Z N l m k a g e l m [] [] h f N rfl rfl rfl om (Ai.refl h);replace c:=(show F5 _ from c)
  have d:(l.length:Int)=(m.length:Int):=by omega
  refine wk ?_;rw[<- a]at *
  exact(show ∀f,_ from c) _
 .have d:¬ (l.length:Int)=(m.length:Int):=by omega
  have i:decide (l=m)=false:=by rw[X9];intro b;exact a (by rw[b])
  rw[i];refine wk ?_;all_goals (refine zr ?_ ?_;exact Ex;exact A2O)
def W7(s lo:Nat)(v:AV):Prop:=∀b off len cap z ex,v=.sl b off len cap z ex->0<len->lo<=b
def W7.mono{s lo a:Nat}(e:W7 s lo o)(c:a<=lo):W7 s a o:=λb off len cap z ex d h0=>Vr c (e b off len cap z ex d h0)
def W7.Bv(s lo:Nat):W7 s lo .Bv:=λb off len cap z ex a=>by cases a
def W7.own{s lo len:Nat}{et:TypeId}(f:Fm s lo et p o len j):W7 s lo o:=by
 intro b off i cap z ex a h0;rcases f with⟨_,_,h1⟩|⟨_,_,d,h,cs,h1,_⟩|⟨d,k,st,h1,l,g,e,_⟩
 .rw[h1]at a;cases a
 .rw[h1]at a;cases a;exact absurd h0 om
 .rw[h1]at a;cases a;exact e
def A2Z:Nat->TypeId
|3=>32
|_=>33
def Wr.gr{s lo len:Nat}{et:TypeId}{h1:H}(f:Wr s et lo p o len)(e:Ai p h1):Wr s et lo h1 o len:=by
 rcases f with d|⟨b,off,cap,ex,cs,k,d,h2,n,h,l,a⟩
 .exact .inl d
 .have:=e.lo;refine .inr ⟨b,off,cap,ex,cs,k,d,by rw[e.Cf b l];exact h2,n,h,by omega,?_⟩;rcases a with a|⟨c,st,a,i,j,g,m⟩
  .exact .inl a
  .exact .inr ⟨c,st,a,by rw[e.Cf c g];exact i,j,by omega,m⟩
def Wr.put{s lo len c:Nat}{et:TypeId}(e:Wr s et lo p o len)(hc:c<lo):Wr s et lo (p.put c C) o len:=by
 rcases e with d|⟨b,off,cap,ex,cs,k,d,h2,n,h,j,a⟩
 .exact .inl d
 .refine .inr ⟨b,off,cap,ex,cs,k,d,by rw[Aq _ _ _ om];exact h2,n,h,j,?_⟩;rcases a with a|⟨m,st,a,g,i,f,l⟩
  .exact .inl a
  .exact .inr ⟨m,st,a,by rw[Aq _ _ _ om];exact g,i,f,l⟩
def Wr.own{s lo len:Nat}{et:TypeId}(g:Fm s lo et p o len j):Wr s et lo p o len:=by
 rcases g with⟨h0,_⟩|⟨h0,_⟩|⟨b,k,st,h1,f,a,d,q5,i,h,l,m⟩
 .exact .inl h0
 .exact .inl h0
 .exact .inr ⟨b,0,len,false,j,.Gt k,h1,f,by omega,d,i,.inr ⟨k,st,rfl,a,q5,h,λe=>l e.symm⟩⟩
structure Safe(s lo:Nat)(h:H)(v:AV)(len:Nat)(c:List AV):Prop where
 sl:Sl s h v len c
 beh:W7 s lo v
 wr:Wr s (A2Z s) lo h v len
def Safe.nil{s lo len:Nat}(h1:len=0)(h2:j=[]):Safe s lo p .Bv len j:=⟨.inl ⟨h1,h2,rfl⟩,W7.Bv s lo,.inl h1⟩
def Safe.own{s lo len:Nat}(a:Fm s lo (A2Z s) p o len j):Safe s lo p o len j:=⟨a.sl,W7.own a,Wr.own a⟩
def Safe.base{s lo len:Nat}{h1:H}(a:Safe s lo p o len j)(e:Ai p h1):Safe s lo h1 o len j:=⟨a.sl.By e.keeps,a.beh,a.wr.gr e⟩
def Safe.Y5{s lo a len:Nat}(b:Safe s a p o len j)(d:lo<=a):Safe s lo p o len j:=⟨b.sl,b.beh.mono d,b.wr.mono d⟩
def Safe.nl{s lo len:Nat}(a:Safe s lo p o len j):Safe s lo (Ab p) o len j:=a.base (Ai.refl p).nl
def Safe.rl{s lo len:Nat}{l:List Nat}(a:Safe s lo p o len j):Safe s lo (Be l p) o len j:=⟨a.sl.By ((Bi.refl p).Be l),a.beh,a.wr⟩
def Safe.new{s lo len:Nat}{h:H}(a:Safe s lo h o len j):Safe s lo (h.new C) o len j:=a.base ((Ai.refl h).new C)
def Sl.AnO{s c len:Nat}{cs l0:List AV}{h e1:TypeId}(u:Sl s p o len cs)(v:p.m.get c=.cells l0 h .exact)(w:j.length=l0.length)(r:0<len->∀b off n cap z ex,o=.sl b off n cap z ex->b≠c):Sl s (p.put c (.cells j e1 .exact)) o len cs:=by
 rcases u with h1|⟨b,off,cap,ex,bs,rfl,i,a,t,q5⟩
 .exact .inl h1
 .by_cases g:b=c
  .subst g;obtain⟨e,k,f,d⟩:=a.cells;rw[v]at f;cases f;rcases cu len with h0|h0
   .subst h0;refine .inr ⟨b,off,cap,ex,j,rfl,i,⟨a.lt,_,.exact,A2 ..,trivial⟩,by omega,?_⟩;rw[<- q5];simp
   .exact absurd rfl (r h0 b off len cap s ex rfl)
  .refine .inr ⟨b,off,cap,ex,bs,rfl,i,⟨a.lt,?_⟩,t,q5⟩;obtain⟨e,k,f,d⟩:=a.cells;refine⟨e,k,by rw[Aq _ _ _ g];exact f,?_⟩;cases k with
   |Cf k st=>
    have q:k≠c:=λl=>by have:=d.2;rw[l,v]at this;cases this
    exact⟨d.1,by rw[Aq _ _ _ q];exact d.2⟩
   |_=>trivial
def Vu(n:Nat):AO->Bool
|.cells l _ .exact=>Nat.beq l.length n
|_=>false
@[simp] theorem A0y(n:Nat)(l:List AV)(e:TypeId):Vu n (.cells l e .exact)=Nat.beq l.length n:=rfl
def Pb{n:Nat}(a:Vu n C=true):∃l e,C=.cells l e .exact/\n=l.length:=by
 match C,a with
 |.cells l e .exact,a=>exact⟨l,e,rfl,(ao a).symm⟩
def Safe.put{s lo c len:Nat}{cs:List AV}{e1:TypeId}(a:Safe s lo p o len cs)(hc:c<lo)(e:Vu j.length (p.m.get c)=true):Safe s lo (p.put c (.cells j e1 .exact)) o len cs:=by
 obtain⟨l0,v,e,g⟩:=Pb e;refine⟨Sl.AnO a.sl e g λh0 b off n cap z ex d=>?_,a.beh,a.wr.put hc⟩;rcases a.sl with⟨_,_,h1⟩|⟨i,k,h,f,bs,h1,l,_⟩
 .rw[h1]at d;cases d
 .have h2:=a.beh b off n cap z ex d;rw[h1]at d;cases d;have:=h2 h0;omega
abbrev FrN(lo:Nat)(h:H)(v:AV)(l:List Nd):Prop:=Safe 3 lo h v l.length (l.flatMap Bw)
abbrev FrO(lo:Nat)(h:H)(v:AV)(l:List (Int × Int)):Prop:=Safe 2 lo h v l.length (l.flatMap Zd)
def Ar0:∀l:List (Int × Int),Bm (l.flatMap Zd)=true
|[]=>rfl
|x::l=>by have a:=Ar0 l;simp[a]
def R26:Prop:=∀(l:List Nd) (v:AV) (h:H),Ue h v l->l.length<=10000000->Ah h (λr h1=>FrN h.nx h1 r l) (Z.call 26 [v] h)
def R27:Prop:=∀(l:List (Int × Int)) (v:AV) (h:H),OkS h v l->l.length<=10000000->Ah h (λr h1=>FrO h.nx h1 r l) (Z.call 27 [v] h)
def cp{s bytes lo:Nat}{et:TypeId}{len:Nat}(d:len*(bytes+1)<1000000000000)(h:Sl s p o len j)(h1:Bm j=true)(k:lo<=p.nx):
 ∃w h',Ds et s bytes (.sl p.nx 0 0 0 s true) o (p.new (.cells [] et .exact))=.ok w h'/\Ai p h'/\Fm s lo et h' w len j:=by
 have e:Ai p (p.new (.cells [] et .exact)):=(Ai.refl p).new _;have a:=h.By e.keeps;obtain⟨w,h',g,i,f⟩:=Sg (h:=p.new (.cells [] et .exact)) (b:=p.nx) (off:=0) (cs:=[]) (bytes:=bytes) (et:=et) (lo:=lo) ⟨by show p.nx<p.nx+1;omega,et,.exact,Bf _,trivial⟩ (Yw _) a.src a.Rv d h1 (by show lo<=p.nx+1;omega)
 exact⟨w,h',g,e.trans i,f⟩
def A2V(h:H):Aj prog .eql 22 true .Bv .Bv h=.ok (.bool true) h:=by kernel_rfl
def A2X(b o l c s:Nat)(ex:Bool)(h:H):Aj prog .eql 22 true (.sl b o l c s ex) .Bv h=.ok (.bool false) h:=by kernel_rfl
def A2W(h:H):Aj prog .eql 23 true .Bv .Bv h=.ok (.bool true) h:=by kernel_rfl
def A2Y(b o l c s:Nat)(ex:Bool)(h:H):Aj prog .eql 23 true (.sl b o l c s ex) .Bv h=.ok (.bool false) h:=by kernel_rfl
def r26(l:List Nd)(v:AV)(h:H)(e:Ue h v l)(f:l.length<=10000000):Ah h (λr h1=>FrN h.nx h1 r l) (Ay prog Z N true 26 [v] h):=by
 rw[e26];rcases e with⟨h1,h2,rfl⟩|⟨b,off,cap,ex,cs,rfl,h2⟩
 .refine Ey (A2V h) (Zx ?_);exact Lo (Ai.refl h) (Safe.nil h1 h2)
 .obtain⟨w,h',c,d,a⟩:=cp (bytes:=32) (et:=32) (lo:=h.nx) om (show Ue h _ l from .inr ⟨b,off,cap,ex,cs,rfl,h2⟩) (Tk l) (Yw _)
  refine Ey (A2X ..) (Ae5 ?_);refine Ey (v:=.sl h.nx 0 0 0 3 true) (h:=h.new (.cells [] 32 .exact)) rfl ?_;exact Ey c (Lo d (Safe.own a))
def r27(l:List (Int × Int))(v:AV)(h:H)(e:OkS h v l)(f:l.length<=10000000):Ah h (λr h1=>FrO h.nx h1 r l) (Ay prog Z N true 27 [v] h):=by
 rw[e27];rcases e with⟨h1,h2,rfl⟩|⟨b,off,cap,ex,cs,rfl,h2⟩
 .refine Ey (A2W h) (Zx ?_);exact Lo (Ai.refl h) (Safe.nil h1 h2)
 .obtain⟨w,h',c,d,a⟩:=cp (bytes:=16) (et:=33) (lo:=h.nx) om (show OkS h _ l from .inr ⟨b,off,cap,ex,cs,rfl,h2⟩) (Ar0 l) (Yw _)
  refine Ey (A2Y ..) (Ae5 ?_);refine Ey (v:=.sl h.nx 0 0 0 2 true) (h:=h.new (.cells [] 33 .exact)) rfl ?_;exact Ey c (Lo d (Safe.own a))
def Li{s lo len:Nat}(q:Safe s lo p o len j:=by first|(apply Safe.Y5;(focus (repeat' (first|with_reducible apply Safe.nl|with_reducible apply Safe.rl|with_reducible apply Safe.new|with_reducible apply Safe.put|(refine Safe.base (by assumption) ?_;exact Ex)|(apply Safe.base;rotate_left;assumption)|exact Ce|exact N4|fail)));exact Ce)|fail):Safe s lo p o len j:=q
structure Qr where
 c0:Int
 code:List Nd
 c2:Int
 c3:Int
 c4:Int
 c5:Int
 s6:List Nat
 c7:Int
 ord:List (Int × Int)
 c9:Int
 Wz:Bool
 Uw:List Nat
 W0:Int
 Wu:List Nat
 s14:List Nat
 s15:List Nat
 c16:Int
 E9:List Nd
 Oi:List Nat
 Mg:Int
abbrev qc(q:Qr)(vc vo vm:AV):List AV:=[iI q.c0,vc,iI q.c2,iI q.c3,iI q.c4,iI q.c5,.str q.s6,iI q.c7,vo,iI q.c9,.bool q.Wz,.str q.Uw,iI q.W0,.str q.Wu,.str q.s14,.str q.s15,iI q.c16,vm,.str q.Oi,iI q.Mg]
structure QV(h:H)(q:Qr)(vc vo vm:AV):Prop where
 c:Ue h vc q.code
 o:OkS h vo q.ord
 m:Ue h vm q.E9
def QV.By{h1:H}{q:Qr}{d:AV}(hq:QV p q o I d)(e:Bi p h1):QV h1 q o I d:=⟨hq.c.By e,hq.o.By e,hq.m.By e⟩
structure QS(lo:Nat)(h:H)(q:Qr)(vc vo vm:AV):Prop where
 c:FrN lo h vc q.code
 o:FrO lo h vo q.ord
 m:FrN lo h vm q.E9
def QS.qv{lo:Nat}{q:Qr}{d:AV}(hq:QS lo p q o I d):QV p q o I d:=⟨hq.c.sl,hq.o.sl,hq.m.sl⟩
def AgG(lo:Nat)(q:Qr)(r:AV)(h:H):Prop:=∃b a c,r=.agg (qc q b a c)/\QS lo h q b a c
def R12:Prop:=∀(q:Qr) (e b f a d c:AV) (h:H),QV h q e b f->QV h q a d c->q.code.length<=3000->q.ord.length<=3000->q.E9.length<=3000->Ah h (λr _=>r=.bool true) (Z.call 12 [.agg (qc q e b f),.agg (qc q a d c)] h)
def B1A(h:H):Aj prog .neq 4 false (.bool true) (.bool true) h=.ok (.bool false) h:=by kernel_rfl
def B18(h:H):Aj prog .neq 4 false (.bool false) (.bool false) h=.ok (.bool false) h:=by kernel_rfl
def B16(b:Bool)(h:H):Aj prog .neq 4 false (.bool b) (.bool b) h=.ok (.bool false) h:=by cases b;exact B18 h;exact B1A h
def R33.same{Z:Ac}(d:R33 Z)(l:List Nd)(v w:AV)(h:H)(c:Ue h v l)(b:Ue h w l)(a:l.length<=3000):Ah h (λr _=>r=.bool true) (Z.call 33 [v,w] h):=by have:=d l l v w h c b a a;rwa[Ws (rfl:l=l)]at this
def R36.same{Z:Ac}(c:R36 Z)(l:List (Int × Int))(v w:AV)(h:H)(b:OkS h v l)(d:OkS h w l)(a:l.length<=3000):Ah h (λr _=>r=.bool true) (Z.call 36 [v,w] h):=by have:=c l l v w h b d a a;rwa[Ws (rfl:l=l)]at this
set_option maxHeartbeats 2000000 in
def r12(t:R33 Z)(G:R36 Z)(q:Qr)(m k p n l o:AV)(h:H)(hq:QV h q m k p)(K:QV h q n l o)(x:q.code.length<=3000)(w:q.ord.length<=3000)(d:q.E9.length<=3000):Ah h (λr _=>r=.bool true) (Ay prog Z N true 12 [.agg (qc q m k p),.agg (qc q n l o)] h):=by
 rw[e12];obtain⟨hc,i,f⟩:=hq;obtain⟨c,a,b⟩:=K;obtain⟨E,A⟩:=B2 hc;obtain⟨I,C⟩:=B2 i;obtain⟨M,J⟩:=B2 f;obtain⟨y,O⟩:=B2 c;obtain⟨z,B⟩:=B2 a;obtain⟨F,D⟩:=B2 b;obtain⟨c0,code,c2,c3,c4,c5,s6,c7,ord,c9,Wz,Uw,W0,Wu,s14,s15,c16,E9,Oi,Mg⟩:=q;simp only at hc i f c a b x w d;replace hc:=(show F5 _ from hc)
 replace i:=(show F5 _ from i)
 replace f:=(show F5 _ from f)
 replace c:=(show F5 _ from c)
 replace a:=(show F5 _ from a)
 replace b:=(show F5 _ from b)
 (have L:=@B16;repeat' (first|refine wk ?_|((with_reducible (first|apply Fj|apply zc2));exact t.same code m n _ (Sl.By hc M0) (Sl.By c M0) x;intro s u v g e j;(try simp only[C9]at g e);subst j)|((with_reducible (first|apply Fj|apply zc2));exact t.same E9 p o _ (Sl.By f M0) (Sl.By b M0) d;intro s u v g e j;(try simp only[C9]at g e);subst j)|((with_reducible (first|apply Fj|apply zc2));exact G.same ord k l _ (Sl.By i M0) (Sl.By a M0) w;intro s u v g e j;(try simp only[C9]at g e);subst j)))
 refine Lo ?_ ?_
 .exact Ex
 .rfl
def Rn(l:List Nd):List Nd:=match Je l false with|some t=>if l.length<=200 then(normal t).nodes else l|none=>l
def Tb(l:List Nd):List Nd:=match Je l true with|some t=>if l.length<=200 then(if same (normal t) (fixed true)=true then[]else(normal t).nodes)else l|none=>l
def Oa(q:Qr):Qr:={ q with code:=Rn q.code,E9:=Tb q.E9 }
def Yg(c:Bool)(l:List Nd):Prop:=l=[]\/∃t,Je l c=some t
def N28:Prop:=∀(c:Bool) (l:List Nd) (v:AV) (h:H) (lo:Nat),Yg c l->FrN lo h v l->l.length<=3000->Ah h (λr _=>r=Yy (Je l c)) (Z.call 28 [v,.bool c] h)
def N29:Prop:=∀(t:Tr) (h:H),Kq t->size t<=200->Z.call 29 [A3 t] h=.ok (A3 (normal t)) h
def N31:Prop:=∀(h:H),Z.call 31 [.bool true] h=.ok (A3 (fixed true)) h
def N30:Prop:=∀(a b:Tr) (h:H),size a<=1000->size b<=1000->Z.call 30 [A3 a,A3 b] h=.ok (.bool (same a b)) h
def NNd:Prop:=∀(t:Tr) (h:H),size t<=1000->Ah h (λr h1=>FrN h.nx h1 r t.nodes) (Hn prog Z (A3 t) (mnm prog 109 0) [] h)
abbrev zq:List AV:=[(iI 0),.Bv,(iI 0),(iI 0),(iI 0),(iI 0),(.str []),(iI 0),.Bv,(iI 0),(.bool false),(.str []),(iI 0),(.str []),(.str []),(.str []),(iI 0),.Bv,(.str []),(iI 0)]
set_option maxHeartbeats 2000000 in
def j10(u:N28 Z)(s:N29 Z)(J3:N30 Z)(N7:N31 Z)(e:NNd Z)(b:∀l c t,Je l c=some t->size t=l.length/\Kq t)(d:∀t,Kq t->size (normal t)<=size t)(q:Qr)(j g n:AV)(f0:L2){h0 h:H}(he:Ai h0 h)(Kf:h0.nx+2<=h.nx)(hg:h.m.get h0.nx=.cells (qc q j g n) 26 .exact)(R:h.m.get (h0.nx+1)=.cells zq 26 .exact)(J:QS (h0.nx+2) h q j g n)(v:q.E9.length<=3000)(y:Yg true q.E9):
 Ah h0 (AgG h0.nx { q with E9:=Tb q.E9 }) (AkT Z N (.ptr h0.nx 0) (.ptr (h0.nx+1) 0) f0 h):=by
 obtain⟨M,s2,s3⟩:=J;obtain⟨V,X⟩:=B2 M.sl;obtain⟨E,p22⟩:=B2 s2.sl;obtain⟨P,O⟩:=B2 s3.sl;have C:∀a,Fo n a=.ok (iI (q.E9.length:Int)) a:=λ_=>s3.sl.Gs;rw[AwG];refine wk ?_;refine X0 (u true q.E9 n _ _ y s3 v) λv3 h3 z Q=>?_;subst Q;have D:=z.lo;have Bbc:=z.Cf;cases i:Je q.E9 true with
 |none=>
  have f:Tb q.E9=q.E9:=by unfold Tb;rw[i]
  rw[show Yy none=.Bj [.B3,.bool false]from rfl]
  clear b d u s J3 N7 e;refine wk ?_;refine Lo ?_ ⟨j,g,n,rfl,?_,?_,?_⟩
  .exact Ex
  . (exact Li)
  . (exact Li)
  .show FrN _ _ _ (Tb q.E9);rw[f];(exact Li)
 |some t=>
  obtain⟨b1,b2⟩:=b _ _ _ i;have A:=d t b2;rw[show Yy (some t)=.Bj [A3 t,.bool true]from rfl]
  by_cases k:(q.E9.length:Int)<=200
  .have G:=Ws k;have Fc:size t<=200:=by omega
   have p:size (normal t)<=1000:=by omega
   have I:∀a,Z.call 29 [A3 t] a=.ok (A3 (normal t)) a:=λa=>s t a b2 Fc;have U:∀a,Z.call 31 [.bool true] a=.ok (A3 (fixed true)) a:=N7;have Ayj:∀a,Z.call 30 [A3 (normal t),A3 (fixed true)] a=.ok (.bool (same (normal t) (fixed true))) a:=λa=>J3 _ _ a p (by rw[Ct];omega);have o:∀a,Ah a (λr h1=>FrN a.nx h1 r (normal t).nodes) (Hn prog Z (A3 (normal t)) (mnm prog 109 0) [] a):=λa=>e _ a p;have f:Tb q.E9=if same (normal t) (fixed true)=true then[]else(normal t).nodes:=by unfold Tb;rw[i];exact W5 om
   clear b d u s J3 N7 e k i A b1 b2;generalize A3 t=T at *
   generalize hT':A3 (normal t)=T' at *
   generalize A3 (fixed true)=F at *
   generalize same (normal t) (fixed true)=B at *
   generalize (normal t).nodes=L at *
   refine wk ?_;refine X0 (o _) λw Gd e12 x=>?_;obtain⟨S,W⟩:=B2 x.sl;have K:=e12.lo;have Y:=e12.Cf;clear o;cases B
   .rw[X2 fe]at f;refine wk ?_;refine Lo ?_ ⟨j,g,w,rfl,?_,?_,?_⟩
    .exact Ex
    . (exact Li)
    . (exact Li)
    .show FrN _ _ _ (Tb q.E9);rw[f];(exact Li)
   .rw[W5 rfl]at f;refine wk ?_;refine Lo ?_ ⟨j,g,.Bv,rfl,?_,?_,?_⟩
    .exact Ex
    . (exact Li)
    . (exact Li)
    .show FrN _ _ _ (Tb q.E9);rw[f];exact Safe.nil rfl rfl
  .have G:=Xn k;have f:Tb q.E9=q.E9:=by unfold Tb;rw[i];exact X2 om
   clear b d u s J3 N7 e k i A b1 b2;generalize A3 t=T at *
   refine wk ?_;refine Lo ?_ ⟨j,g,n,rfl,?_,?_,?_⟩
   .exact Ex
   . (exact Li)
   . (exact Li)
   .show FrN _ _ _ (Tb q.E9);rw[f];(exact Li)
def R10:Prop:=∀(q:Qr) (b a c:AV) (h:H),QV h q b a c->q.code.length<=3000->q.ord.length<=3000->q.E9.length<=3000->Yg false q.code->Yg true q.E9->Ah h (AgG h.nx (Oa q)) (Z.call 10 [.agg (qc q b a c)] h)
set_option maxHeartbeats 4000000 in
def r10(U7:R26 Z)(U8:R27 Z)(K:N28 Z)(G:N29 Z)(J3:N30 Z)(N7:N31 Z)(e:NNd Z)(b:∀l c t,Je l c=some t->size t=l.length/\Kq t)(d:∀t,Kq t->size (normal t)<=size t)(q:Qr)(Y U vm:AV)(h:H)(hq:QV h q Y U vm)(Vs:q.code.length<=3000)(P4:q.ord.length<=3000)(j:q.E9.length<=3000)(E:Yg false q.code)(o:Yg true q.E9):Ah h (AgG h.nx (Oa q)) (Ay prog Z N false 10 [.agg (qc q Y U vm)] h):=by
 rw[e10];obtain⟨hc,S,R⟩:=hq;obtain⟨oc1,oc2⟩:=B2 hc;obtain⟨oo1,oo2⟩:=B2 S;obtain⟨om1,om2⟩:=B2 R;have I:=λ(q':Qr) (g Q i:AV) (f0:L2) (h1:H)=>j10 Z N K G J3 N7 e b d q' g Q i f0 (h0:=h) (h:=h1);replace I:=(show F5 _ from I)
 obtain⟨c0,code,c2,c3,c4,c5,s6,c7,ord,c9,Wz,Uw,W0,Wu,s14,s15,c16,E9,Oi,Mg⟩:=q;simp only at hc S R Vs P4 j E o;replace b:=(show F5 _ from b)
 replace d:=(show F5 _ from d)
 (repeat' (first|refine wd ?_|((with_reducible (first|apply Fj|apply zc2));exact U7 code Y _ (Sl.By hc M0) om;intro w a D u s v;(first|(have f:=Ai.quiet D;try simp only[C9]at u s f)|(try simp only[C9]at u s));obtain⟨ob,cw⟩:=B2 v.1;have C:=v;(try simp only[C9]at C))|((with_reducible (first|apply Fj|apply zc2));exact U7 E9 vm _ (Sl.By R M0) om;intro w a D u s v;(first|(have f:=Ai.quiet D;try simp only[C9]at u s f)|(try simp only[C9]at u s));obtain⟨ob,cw⟩:=B2 v.1;have C:=v;(try simp only[C9]at C))|((with_reducible (first|apply Fj|apply zc2));exact U8 ord U _ (Sl.By S M0) om;intro w a D u s v;(first|(have f:=Ai.quiet D;try simp only[C9]at u s f)|(try simp only[C9]at u s));obtain⟨ob,cw⟩:=B2 v.1;have C:=v;(try simp only[C9]at C))))
 clear hc S R;refine X0 (K false code _ _ 0 E ?_ Vs) λv21 n x q21=>?_
 . (exact Li)
 subst q21;have M:=x.lo;have X:=x.Cf;rename_i g _ _ _ _ _ V _ _ _ i _ _ _ _ _ W _ _ _;simp only[Z9,ArH,AcQ,Ait]at M;have F:n.m.get h.nx=.cells (qc ⟨c0,code,c2,c3,c4,c5,s6,c7,ord,c9,Wz,Uw,W0,Wu,s14,s15,c16,E9,Oi,Mg⟩ g w i) 26 .exact:=N4;have P:n.m.get (h.nx+1)=.cells zq 26 .exact:=N4;have p:FrN (h.nx+2) n g code:=Li;have O:FrN (h.nx+2) n i E9:=Li;have J:FrO (h.nx+2) n w ord:=Li;have gR:Ai h n:=Ex;have z:h.nx+2<=n.nx:=by omega
 have hlen:∀a,Fo g a=.ok (iI (code.length:Int)) a:=λ_=>p.sl.Gs;unfold Oa;simp only;obtain⟨p11,p12⟩:=B2 p.sl;clear X x M V W;cases y:Je code false with
 |none=>
  have B:Rn code=code:=by unfold Rn;rw[y]
  rw[B,show Yy none=.Bj [.B3,.bool false]from rfl]
  clear b d K G J3 N7 e;refine wk ?_;exact(show ∀(q':Qr) (g Q i:AV) (f0:L2) (h1:H),_ from I) ⟨c0,code,c2,c3,c4,c5,s6,c7,ord,c9,Wz,Uw,W0,Wu,s14,s15,c16,E9,Oi,Mg⟩ g w i _ n gR z F P ⟨p,J,O⟩ j o
 |some t=>
  obtain⟨b1,b2⟩:=(show ∀l c t,Je l c=some t->size t=l.length/\Kq t from b) _ _ _ y
  have b3:=(show ∀t,Kq t->size (normal t)<=size t from d) t b2
  rw[show Yy (some t)=.Bj [A3 t,.bool true]from rfl]
  by_cases k:(code.length:Int)<=200
  .have k1:=Ws k;have Fc:size t<=200:=by omega
   have AdN:size (normal t)<=1000:=by omega
   have Aqf:∀a,Z.call 29 [A3 t] a=.ok (A3 (normal t)) a:=λa=>G t a b2 Fc;have A:∀a,Ah a (λr h1=>FrN a.nx h1 r (normal t).nodes) (Hn prog Z (A3 (normal t)) (mnm prog 109 0) [] a):=λa=>e _ a AdN;have B:Rn code=(normal t).nodes:=by unfold Rn;rw[y];exact W5 om
   rw[B];clear b d K G J3 N7 e k y b3 b1 b2;generalize A3 t=T at *
   generalize A3 (normal t)=T' at *
   generalize (normal t).nodes=L at *
   refine wk ?_;refine X0 (A _) λv12 Gd e12 AzL=>?_;obtain⟨p41,p42⟩:=B2 AzL.sl;have A2U:=e12.lo;have AxO:=e12.Cf;clear A;refine wk ?_;exact(show ∀(q':Qr) (g Q i:AV) (f0:L2) (h1:H),_ from I) ⟨c0,L,c2,c3,c4,c5,s6,c7,ord,c9,Wz,Uw,W0,Wu,s14,s15,c16,E9,Oi,Mg⟩ v12 w i _ _ Ex Ce N4 N4 ⟨Li,Li,Li⟩ j o
  .have k1:=Xn k;have B:Rn code=code:=by unfold Rn;rw[y];exact X2 om
   rw[B];clear b d K G J3 N7 e k y b3 b1 b2;generalize A3 t=T at *
   refine wk ?_;exact(show ∀(q':Qr) (g Q i:AV) (f0:L2) (h1:H),_ from I) ⟨c0,code,c2,c3,c4,c5,s6,c7,ord,c9,Wz,Uw,W0,Wu,s14,s15,c16,E9,Oi,Mg⟩ g w i _ n gR z F P ⟨p,J,O⟩ j o
end Go.Proofs
