/- Names that are no reserved words. -/
import Derived.Test.YtmjmhajonaelcaaGreatDoorEvQa
import Derived.Test.YtmjmhajonaelcaaGreatDoorEvQb
set_option linter.all false
set_option maxRecDepth 100000
noncomputable section
namespace Go.Proofs
open Go Go.Ev Go.Nm Tryz Go.Ev.Sx
abbrev Ql:H:=glH [] prog.globals.size
def Bhh(r:OR):Option (AV × Bool):=match r with|.ok v h=>some (v,Nat.ble h.nx 100&&h.lg.all λx=>Nat.ble 9 x)|_=>none
def Bll{r:OR}{v:AV}(h:Bhh r=some (v,true)):∃h1,r=.ok v h1/\h1.nx<=100/\∀x∈h1.lg,9<=x:=by
 cases r with
 |ok u h1=>unfold Bhh at h;simp only[ef,Vn,Wx,Od]at h;obtain⟨rfl,b,a⟩:=h;exact⟨h1,rfl,Ew b,λx c=>Ew (a x c)⟩
 |_=>cases h
variable (Z:Ac)
abbrev L8(g:FuncId)(args:uw)(u:AV):Prop:=Bhh (mr Z 1048576 g args Ql)=some (u,true)
def A9D(o:Int)(x:AV):L8 Z 234 [.agg [iI o,x]] (iI o):=by unfold L8;kernel_rfl
def A9G(o:Int)(x y:AV):L8 Z 237 [.agg [iI o,x,y]] (iI o):=by unfold L8;kernel_rfl
def A9I(x y z:AV):L8 Z 239 [.agg [x,y,z]] (iI 8):=by unfold L8;kernel_rfl
def A9K(x:Nd):L8 Z 232 [.agg (Bw x)] (iI x.op):=by unfold L8;kernel_rfl
abbrev HOp:Prop:=∀(t:Tr) (h:H),Hn prog Z (A3 t) (mnm prog 142 1) [] h=.ok (iI t.op) h
def n64(De:HOp Z)(t:Tr):L8 Z 86 [A3 t] (.bool (decide (9<=t.op))):=by unfold L8;rw[e64];show Bhh (Aa (Hn prog Z (A3 t) (mnm prog 142 1) [] Ql) _)=_;rw[De];show Bhh (Aa (Aj prog .geq 3 true (iI t.op) (iI 9) Ql) _)=_;rw[As1];kernel_rfl
def tk3:tk prog 3=.int:=rfl
end Go.Proofs
namespace Go.Proofs
open Go Go.Ev Go.Nm Go.Ev.Sx
attribute [local irreducible] Aa Al Af Ad
variable [Ii]
variable (Z:Ac)(N:Nat)
abbrev Iw(l:List Nd):uw:=l.flatMap Bw
def Tk:∀l,Bm (Iw l)=true
|[]=>rfl
|x::l=>by have a:=Tk l;simp_all
end Go.Proofs
namespace Go.Proofs
open Go Go.Ev Go.Nm Tryz Go.Ev.Sx
variable {j:FuncId}{o:Nat}{p:AV}
noncomputable abbrev PP:Program:=prog
def Fk:∀a b:Tr,A3 a=A3 b->a=b
|.leaf x,.leaf y,h=>by cases x;cases y;simpa[A3]using h
|.one o a,.one p b,h=>by simp[A3]at h;rw[h.1,Fk a b h.2]
|.two o a b,.two p c d,h=>by simp[A3]at h;rw[h.1,Fk a c h.2.1,Fk b d h.2.2]
|.three a b c,.three d e f,h=>by simp[A3]at h;rw[Fk a d h.1,Fk b e h.2.1,Fk c f h.2.2]
|.leaf _,.one _ _,h=>by simp[A3]at h
|.leaf _,.two _ _ _,h=>by simp[A3]at h
|.leaf _,.three _ _ _,h=>by simp[A3]at h
|.one _ _,.leaf _,h=>by simp[A3]at h
|.one _ _,.two _ _ _,h=>by simp[A3]at h
|.one _ _,.three _ _ _,h=>by simp[A3]at h
|.two _ _ _,.leaf _,h=>by simp[A3]at h
|.two _ _ _,.one _ _,h=>by simp[A3]at h
|.two _ _ _,.three _ _ _,h=>by simp[A3]at h
|.three _ _ _,.leaf _,h=>by simp[A3]at h
|.three _ _ _,.one _ _,h=>by simp[A3]at h
|.three _ _ _,.two _ _ _,h=>by simp[A3]at h
open Classical in
noncomputable def Dv{α:Type}(enc:α->uw)(out:α->AV)(dom:α->Prop):uw->Option AV:=λargs=>if hx:∃a,dom a/\enc a=args then some (out hx.choose)else none
def Cd{α:Type}{enc:α->uw}{out:α->AV}{dom:α->Prop}(c:∀a b,enc a=enc b->a=b){a:α}(hd:dom a):Dv enc out dom (enc a)=some (out a):=by have d:∃b,dom b/\enc b=enc a:=⟨a,hd,rfl⟩;unfold Dv;rw[dif_pos d,c _ _ d.choose_spec.2]
noncomputable def A16:=Dv (λp:Int × Tr=>[.agg [iI p.1,A3 p.2]]) (λp=>iI p.1) (λ_=>True)
noncomputable def A17:=Dv (λp:Int × Tr × Tr=>[.agg [iI p.1,A3 p.2.1,A3 p.2.2]]) (λp=>iI p.1) (λ_=>True)
noncomputable def A18:=Dv (λp:Tr × Tr × Tr=>[.agg [A3 p.1,A3 p.2.1,A3 p.2.2]]) (λp=>iI 8) (λ_=>True)
noncomputable def A19:=Dv (λx:Nd=>[.agg (Bw x)]) (λx=>iI x.op) (λ_=>True)
noncomputable def S64:=Dv (λt:Tr=>[A3 t]) (λt=>.bool (decide (9<=t.op))) (λ_=>True)
def Avm:Bg PP 234=true:=by kernel_rfl
def Avn:Bg PP 237=true:=by kernel_rfl
def Avo:Bg PP 239=true:=by kernel_rfl
def Avp:Bg PP 232=true:=by kernel_rfl
def Xi{T:Df}{S:uw->Option AV}{args:uw}(b:T j=S)(a:S args=some p)(h:H):(cD PP T (o+1)).call j args h=.ok p h:=Ate h (by rw[b];exact a)
def AfU(x y:Nd)(a:Bw x=Bw y):x=y:=by cases x;cases y;simpa using a
def Azn:Ls PP 144 (mnm PP 142 1)=some 234:=by kernel_rfl
def Azo:Ls PP 149 (mnm PP 142 1)=some 237:=by kernel_rfl
def Azp:Ls PP 151 (mnm PP 142 1)=some 239:=by kernel_rfl
def Azq:Ls PP 142 (mnm PP 142 1)=some 232:=by kernel_rfl
def Pc{Z:Ac}{t:TypeId}{nm:String}(args:uw)(h:H)(a:Ls PP t nm=some j)(b:Bg PP j=true):Hn PP Z (.I6 t p) nm args h=Z.call j (p::args) h:=by show(match Ls PP t nm with|some f=>Aeg PP Z f (p::args) h|none=>.bad 109)=_;rw[a];show(@Bool.rec (λ_=>OR) _ _ (Bg PP j):OR)=_;rw[b]
def De{T:Df}(i:T 234=A16)(j:T 237=A17)(g:T 239=A18)(f:T 232=A19):HOp (cD PP T (o+1)):=by
 intro t h;cases t with
 |leaf x=>exact(Pc [] h Azq Avp).trans (Xi f (Cd (enc:=λx:Nd=>[AV.agg (Bw x)]) (λa b e=>AfU _ _ (AV.agg.inj (List.cons.inj e).1)) (a:=x) trivial) h)
 |one d a=>exact(Pc [] h Azn Avm).trans (Xi i (Cd (enc:=λp:Int × Tr=>[AV.agg [iI p.1,A3 p.2]]) (λa b e=>by simp at e;exact R8 e.1 (Fk _ _ e.2)) (a:=(d,a)) trivial) h)
 |two d a b=>exact(Pc [] h Azo Avn).trans (Xi j (Cd (enc:=λp:Int × Tr × Tr=>[AV.agg [iI p.1,A3 p.2.1,A3 p.2.2]]) (λa b e=>by simp at e;exact R8 e.1 (R8 (Fk _ _ e.2.1) (Fk _ _ e.2.2))) (a:=(d,a,b)) trivial) h)
 |three c a b=>exact(Pc [] h Azp Avo).trans (Xi g (Cd (enc:=λp:Tr × Tr × Tr=>[AV.agg [A3 p.1,A3 p.2.1,A3 p.2.2]]) (λa b e=>by simp at e;exact R8 (Fk _ _ e.1) (R8 (Fk _ _ e.2.1) (Fk _ _ e.2.2))) (a:=(c,a,b)) trivial) h)
end Go.Proofs
namespace Go.Proofs
open Go Go.Ev Go.Nm Go.Ev.Sx
attribute [local irreducible] Aa Al Af Ad
variable [Ii]
variable (Z:Ac)(N:Nat)
def As7:Hp PP 136=.sl ⟨90,1,16⟩:=by kernel_rfl
def A5l:tk PP 136=.slice:=by kernel_rfl
abbrev H64:Prop:=∀(t:Tr) (h:H),Z.call 86 [A3 t] h=.ok (.bool (decide (9<=t.op))) h
def F4(t:Tr):Bool:=decide (9<=t.op)
def Gf(st:List Tr)(ts:List Bool):Option (List Tr × List Tr):=
 if ts.length<=st.length/\(st.drop (st.length-ts.length)).map F4=ts then some (st.take (st.length-ts.length),st.drop (st.length-ts.length))else none
def Fa(st:List Tr)(x:Nd):Option (List Tr):=
 if x.op<=3 then some (st++[.leaf x])
 else if x.op=7\/x.op=17 then(match Gf st [decide (x.op=17)]with|some (r,[a])=>some (r++[.one x.op a])|_=>none)
 else if x.op=8 then(match Gf st [true,false,false]with|some (r,[c,a,b])=>some (r++[.three c a b])|_=>none)
 else(match Gf st [decide (x.op=15)||decide (x.op=16),decide (x.op=15)||decide (x.op=16)]with|some (r,[a,b])=>some (r++[.two x.op a b])|_=>none)
def AcU(l:List Nd)(j:Nat):Int:=match l[j]? with|some y=>y.op|none=>0
def Qt(x:Nd):Bool:=decide (x.op<1)||decide (17<x.op)||(!decide (x.n=0)&&!decide (x.op=1))||(!decide (x.Zn=[])&&!decide (x.op=2)&&!decide (x.op=3))
def Ou(l:List Nd)(i:Nat)(x:Nd):Bool:=decide (x.op=3)&&(decide (i=0)||!decide (AcU l (i-1)=2)||decide (l.length<=i+1)||(!decide (AcU l (i+1)=9)&&!decide (AcU l (i+1)=10)))
def Dm(l:List Nd):List Tr->Nat->List Nd->Option (List Tr)
|st,_,[]=>some st
|st,i,x::rest=>if Qt x||Ou l i x then none else match Fa st x with|some a=>Dm l a (i+1) rest|none=>none
def Je(l:List Nd)(c:Bool):Option Tr:=match Dm l [] 0 l with|some [t]=>if F4 t=c then some t else none|_=>none
def AbP{st e:List Tr}{x:Nd}(h:Fa st x=some e):e.length<=st.length+1:=by
 have d:∀(ts:List Bool) (r q:List Tr),Gf st ts=some (r,q)->r.length<=st.length:=by
  intro ts r q hq;unfold Gf at hq;split at hq
  .cases hq;simp[Cm]
  .cases hq
 unfold Fa at h;split at h
 .cases h;simp
 .split at h
  .split at h
   .rename_i r a hq;cases h;have:=d _ _ _ hq;simp;omega
   .cases h
  .split at h
   .split at h
    .rename_i r c a b hq;cases h;have:=d _ _ _ hq;simp;omega
    .cases h
   .split at h
    .rename_i r a b hq;cases h;have:=d _ _ _ hq;simp;omega
    .cases h
end Go.Proofs
namespace Go.Proofs
open Go Go.Ev Go.Nm Go.Ev.Sx
def B2{s:Nat}{h:H}{v:AV}{len:Nat}{c:uw}(a:Sl s h v len c):Ge v=true/\cellsOf v=some [v]:=by rcases a with⟨_,_,rfl⟩|⟨b,off,cap,ex,cs,rfl,_⟩<;>exact⟨rfl,rfl⟩
section
variable (Z:Ac)
end
attribute [local irreducible] Aa Al Af Ad
variable (Z:Ac)(N:Nat)
abbrev Ue(h:H)(v:AV)(l:List Nd):Prop:=R0 3 Bw h v l
abbrev NdO(lo:Nat)(h:H)(v:AV)(l:List Nd):Prop:=Fm 3 lo 64 h v l.length (l.flatMap Bw)
open Tryz
def xi9:Hp prog 9=.str:=by kernel_rfl
def F5(p:Prop):Prop:=p
end Go.Proofs
namespace Go.Proofs
open Go Go.Ev Go.Nm Tryz Go.Ev.Sx
variable {j:List (Int × Int)}{J o:AV}{p:H}{C:List Nd}{I:uw}
def B38:tk prog 64=.struct [(3,0),(3,1),(9,2)]:=by kernel_rfl
def B39:tk prog 66=.array 2 3 1:=by kernel_rfl
def tk9:tk prog 9=.string:=by kernel_rfl
def ld3:Ft prog 3=some none:=by kernel_rfl
def ld9:Ft prog 9=some none:=by kernel_rfl
def B0i:Nq prog 64=true:=by kernel_rfl
def B0j:Nq prog 66=true:=by kernel_rfl
def Bp0(d:Nat)(a b:Int):aeq prog (d+1) 3 (iI a) (iI b)=some (decide (a=b)):=by show Dy _ _ _ _ _=_;unfold Dy;rw[tk3,<- X7];rfl
def Bp1(d:Nat)(a b:uq):aeq prog (d+1) 9 (.str a) (.str b)=some (decide (a=b)):=by show Dy _ _ _ _ _=_;unfold Dy;rw[tk9,<- Aap];rfl
def Bud(x y:Nd):aeq prog 20 64 (.agg (Bw x)) (.agg (Bw y))=some (decide (x=y)):=by
 show Dy _ _ _ _ _=_;unfold Dy;rw[B38];show Amw _ _ [(3,0),(3,1),(9,2)] (Bw x) (Bw y)=_;have e:∀z:Nd,Hc prog 3 (Bw z) 0=some (iI z.op):=λz=>by unfold Hc;rw[ld3];rfl
 have d:∀z:Nd,Hc prog 3 (Bw z) 1=some (iI z.n):=λz=>by unfold Hc;rw[ld3];rfl
 have g:∀z:Nd,Hc prog 9 (Bw z) 2=some (.str z.Zn):=λz=>by unfold Hc;rw[ld9];rfl
 obtain⟨a,b,c⟩:=x;obtain⟨f,j,i⟩:=y;simp only[Amw,e,d,g,Bp0,Bp1];by_cases h1:a=f
 .by_cases h2:b=j
  .by_cases k:c=i<;>simp[h1,h2,k]
  .simp[h1,h2]
 .simp[h1]
abbrev Zd(x:Int × Int):uw:=[iI x.1,iI x.2]
def Bue(x y:Int × Int):aeq prog 20 66 (.agg (Zd x)) (.agg (Zd y))=some (decide (x=y)):=by
 show Dy _ _ _ _ _=_;unfold Dy;rw[B39];show Amv _ _ 3 1 2 0 (Zd x) (Zd y)=_;have d:∀z:Int × Int,Hc prog 3 (Zd z) 0=some (iI z.1):=λz=>by unfold Hc;rw[ld3];rfl
 have c:∀z:Int × Int,Hc prog 3 (Zd z) 1=some (iI z.2):=λz=>by unfold Hc;rw[ld3];rfl
 obtain⟨a,b⟩:=x;obtain⟨e,f⟩:=y;simp only[Amv,d,c,Bp0,ep,Rx,Nat.one_mul];by_cases h1:a=e
 .by_cases h2:b=f<;>simp[h1,h2]
 .simp[h1]
def Bo7(x y:Nd)(h:H):Aj prog .neq 64 false (.agg (Bw x)) (.agg (Bw y)) h=.ok (.bool (decide (x≠y))) h:=by show Xe true prog 64 (.agg (Bw x)) (.agg (Bw y)) false h=_;unfold Xe;show @Bool.rec (λ_=>OR) _ _ (Nq prog 64)=_;rw[B0i,Bud];by_cases h1:x=y<;>simp[h1]
def Bo8(x y:Int × Int)(h:H):Aj prog .neq 66 false (.agg (Zd x)) (.agg (Zd y)) h=.ok (.bool (decide (x≠y))) h:=by show Xe true prog 66 (.agg (Zd x)) (.agg (Zd y)) false h=_;unfold Xe;have e:Xm prog 66 false (O6 (AV.agg (Zd x))) (O6 (AV.agg (Zd y)))=true:=B0j;rw[e,Bue];by_cases h1:x=y<;>simp[h1]
attribute [local irreducible] Aa Al Af Ad
variable (Z:Ac)(N:Nat)
abbrev OkS(h:H)(v:AV)(l:List (Int × Int)):Prop:=R0 2 Zd h v l
def BrM(c:Ue p o C)(e:Ue p J C)(q:C.length<=3000):∀(u i n:Nat) (hd:H) (f0:L2),i+u=C.length->u<n->Ai p hd->Ah p (λr _=>r=uz) (Bdm Z N n o J (iI i) f0 hd)
|0,i,n,hd,f0,hi,hn,g=>by obtain⟨n1,rfl⟩:∃n1,n=n1+1:=⟨n-1,by omega⟩;have l1:∀a:H,Fo o a=.ok (iI (C.length:Int)) a:=λa=>c.Gs;have m:decide ((i:Int)<(C.length:Int))=false:=df;have l:decide (i<C.length)=false:=df;rw[Bao];refine wk ?_;exact Lo g rfl
|u+1,i,n,hd,f0,hi,hn,g=>by
 obtain⟨n1,rfl⟩:∃n1,n=n1+1:=⟨n-1,by omega⟩;have k:=BrM c e q u (i+1) n1;have l1:∀a:H,Fo o a=.ok (iI (C.length:Int)) a:=λa=>c.Gs;have m:decide ((i:Int)<(C.length:Int))=true:=dt;have l:decide (i<C.length)=true:=dt;obtain⟨x,j⟩:∃x,C[i]?=some x:=⟨_,Oh om⟩;obtain⟨y,v,d⟩:=R0.elem (f:=Bw) (s:=3) (λ_=>rfl) (Sl.By c g.keeps) j;obtain⟨b2,B,b⟩:=R0.elem (f:=Bw) (s:=3) (λ_=>rfl) (Sl.By e g.keeps) j;have F:=d.ia;have E:=d.all;have A:=b.ia;have z:=b.all;have t:∀a,Aj prog .neq 64 false (.agg (Bw x)) (.agg (Bw x)) a=.ok ux a:=λa=>by rw[Bo7];simp
 have go:=λhd f0 g=>k hd f0 om om g;replace go:=(show F5 _ from go)
 have w:i<=3000:=by omega
 clear d b k j c e;generalize Bw x=X at *
 rw[Bao];refine wk ?_;rw[show(i:Int)+1=((i+1:Nat):Int)by omega]
 exact(show ∀hd f0 g,_ from go) _ _ (g.trans Ex)
def R33:Prop:=∀(l:List Nd) (v w:AV) (h:H),Ue h v l->Ue h w l->l.length<=3000->Ah h (λr _=>r=uz) (Z.call 23 [v,w] h)
def r33(d:4000<N)(b:Ue p o C)(a:Ue p J C)(c:C.length<=3000):Ah p (λr _=>r=uz) (mr Z N 23 [o,J] p):=by rw[e33];refine Ey b.Gs (Ey a.Gs (Ey (Y6 ..) ?_));rw[Ws rfl];exact Ae5 (BrM Z N b a c C.length 0 N p _ om om (Ai.refl p))
def BrN(c:OkS p o j)(e:OkS p J j)(q:j.length<=3000):∀(u i n:Nat) (hd:H) (f0:L2),i+u=j.length->u<n->Ai p hd->Ah p (λr _=>r=uz) (Bdn Z N n o J (iI i) f0 hd)
|0,i,n,hd,f0,hi,hn,g=>by obtain⟨n1,rfl⟩:∃n1,n=n1+1:=⟨n-1,by omega⟩;have l1:∀a:H,Fo o a=.ok (iI (j.length:Int)) a:=λa=>c.Gs;have m:decide ((i:Int)<(j.length:Int))=false:=df;have l:decide (i<j.length)=false:=df;rw[Bap];refine wk ?_;exact Lo g rfl
|u+1,i,n,hd,f0,hi,hn,g=>by
 obtain⟨n1,rfl⟩:∃n1,n=n1+1:=⟨n-1,by omega⟩;have k:=BrN c e q u (i+1) n1;have l1:∀a:H,Fo o a=.ok (iI (j.length:Int)) a:=λa=>c.Gs;have m:decide ((i:Int)<(j.length:Int))=true:=dt;have l:decide (i<j.length)=true:=dt;obtain⟨x,v⟩:∃x,j[i]?=some x:=⟨_,Oh om⟩;obtain⟨y,C,d⟩:=R0.elem (f:=Zd) (s:=2) (λ_=>rfl) (Sl.By c g.keeps) v;obtain⟨b2,B,b⟩:=R0.elem (f:=Zd) (s:=2) (λ_=>rfl) (Sl.By e g.keeps) v;have F:=d.ia;have E:=d.all;have A:=b.ia;have z:=b.all;have t:∀a,Aj prog .neq 66 false (.agg (Zd x)) (.agg (Zd x)) a=.ok ux a:=λa=>by rw[Bo8];simp
 have go:=λhd f0 g=>k hd f0 om om g;replace go:=(show F5 _ from go)
 have w:i<=3000:=by omega
 clear d b k v c e;generalize Zd x=X at *
 rw[Bap];refine wk ?_;rw[show(i:Int)+1=((i+1:Nat):Int)by omega]
 exact(show ∀hd f0 g,_ from go) _ _ (g.trans Ex)
def R36:Prop:=∀(l:List (Int × Int)) (v w:AV) (h:H),OkS h v l->OkS h w l->l.length<=3000->Ah h (λr _=>r=uz) (Z.call 24 [v,w] h)
def r36(d:4000<N)(b:OkS p o j)(a:OkS p J j)(c:j.length<=3000):Ah p (λr _=>r=uz) (mr Z N 24 [o,J] p):=by rw[e36];refine Ey b.Gs (Ey a.Gs (Ey (Y6 ..) ?_));rw[Ws rfl];exact Ae5 (BrN Z N b a c j.length 0 N p _ om om (Ai.refl p))
def Sl.AnO{s c len:Nat}{cs l0:uw}{v e1:TypeId}(x:Sl s p o len cs)(j:p.m.get c=cz l0 v)(y:I.length=l0.length)(u:0<len->∀b off n cap z ex,o=.sl b off n cap z ex->b≠c):Sl s (p.put c (cz I e1)) o len cs:=by
 rcases x with h1|⟨b,off,cap,ex,w,rfl,h,a,r,q5⟩
 .exact .inl h1
 .by_cases i:b=c
  .subst i;obtain⟨e,k,d,f⟩:=a.cells;rw[j]at d;cases d;rcases cu len with g|g
   .subst g;refine .inr ⟨b,off,cap,ex,I,rfl,h,⟨a.lt,_,.exact,A2 ..,trivial⟩,by omega,?_⟩;rw[<- q5];simp
   .exact absurd rfl (u g b off len cap s ex rfl)
  .refine .inr ⟨b,off,cap,ex,w,rfl,h,⟨a.lt,?_⟩,r,q5⟩;obtain⟨e,k,d,f⟩:=a.cells;refine⟨e,k,by rw[Aq _ _ _ i];exact d,?_⟩;cases k with
   |Cf k st=>
    have q:k≠c:=λt=>by have:=f.2;rw[t,j]at this;cases this
    exact⟨f.1,by rw[Aq _ _ _ q];exact f.2⟩
   |_=>trivial
def Vu(n:Nat):AO->Bool
|.cells l _ .exact=>Nat.beq l.length n
|_=>false
@[simp]def A0y(n:Nat)(l:uw)(e:TypeId):Vu n (cz l e)=Nat.beq l.length n:=rfl
def Pb{n:Nat}{o:AO}(a:Vu n o=true):∃l e,o=cz l e/\n=l.length:=by
 match o,a with
 |.cells l e .exact,a=>exact⟨l,e,rfl,(ao a).symm⟩
def cp{s bytes lo:Nat}{et:TypeId}{len:Nat}(g:len*(bytes+1)<1000000000000)(d:Sl s p o len I)(h1:Bm I=true)(k:lo<=p.nx):
 ∃w h',Ds et s bytes (.sl p.nx 0 0 0 s true) o (p.new (cz [] et))=.ok w h'/\Ai p h'/\Fm s lo et h' w len I:=by
 have e:Ai p (p.new (cz [] et)):=(Ai.refl p).new _;have a:=d.By e.keeps;obtain⟨w,h',f,j,i⟩:=Sg (h:=p.new (cz [] et)) (b:=p.nx) (off:=0) (cs:=[]) (bytes:=bytes) (et:=et) (lo:=lo) ⟨by show p.nx<p.nx+1;omega,et,.exact,Bf _,trivial⟩ (Ye _) a.src a.Rv g h1 (by show lo<=p.nx+1;omega)
 exact⟨w,h',f,e.trans j,i⟩
abbrev Aeb(s:uq):uw:=[.str s]
def Ama:∀l:List uq,Bm (l.flatMap Aeb)=true
|[]=>rfl
|x::l=>by have a:=Ama l;simp[a]
abbrev Ig(h:H)(v:AV)(l:List uq):Prop:=R0 1 Aeb h v l
def R2:List uq:=[[112,101,111,112,108,101],[118,105,115,105,116,115],[112,108,97,99,101,115],[110,111,116,101,115]]
def N1:List uq:=[[97,103,101],[99,111,108,111,117,114],[104,101,105,103,104,116],[112,108,97,99,101],[115,99,111,114,101]]
def R9:List uq:=[[114,101,100],[103,114,101,101,110],[98,108,117,101],[103,114,101,121],[112,105,110,107]]
def Yp{s lo e len:Nat}{et:TypeId}(f:Fm s lo et p o len I)(d:e<=lo):Fm s e et p o len I:=by
 rcases f with a|a|⟨b,k,st,h1,l,j,g,q5,i⟩
 .exact .inl a
 .exact .inr (.inl a)
 .exact .inr (.inr ⟨b,k,st,h1,l,j,Ol d g,Ol d q5,i⟩)
end Go.Proofs
namespace Go.Proofs
open Go Go.Ev Go.Nm Go.Ev.Sx
variable {j:List Nd}{o:Type}{p:Bool}{C:Tr}{I:Int}{J:Nd}
def Wd:Tr->Tr->Prop
|.leaf x,.leaf y=>(x.op=2/\x.n=0)/\y.op=3/\y.n=0
|_,_=>False
def Ty:Bool->Tr->Prop
|b,.leaf x=>b=false/\((x.op=1/\x.Zn=[])\/x.op=2/\x.n=0)
|b,.one o a=>(b=false/\o=7/\Ty false a)\/(b=true/\o=17/\Ty true a)
|b,.two o a c=>(b=false/\(o=4\/o=5\/o=6)/\Ty false a/\Ty false c)\/(b=true/\(9<=o/\o<=14)/\Ty false a/\Ty false c)\/(b=true/\(o=9\/o=10)/\Wd a c)\/(b=true/\(o=15\/o=16)/\Ty true a/\Ty true c)
|b,.three p a c=>b=false/\Ty true p/\Ty false a/\Ty false c
def Pr:∀{a c:Tr},Wd a c->∃x y,a=.leaf x/\c=.leaf y/\x.op=2/\y.op=3
|.leaf x,.leaf y,h=>⟨x,y,rfl,rfl,h.1.1,h.2.1⟩
|.leaf _,.one _ _,h=>h.elim
|.leaf _,.two _ _ _,h=>h.elim
|.leaf _,.three _ _ _,h=>h.elim
|.one _ _,_,h=>h.elim
|.two _ _ _,_,h=>h.elim
|.three _ _ _,_,h=>h.elim
def dbl(o:Int):Int:=if 9<=o then 17 else 7
def Ast(h:Ty p C):dbl C.op=if p then 17 else 7:=by
 unfold dbl;cases C with
 |leaf x=>
  obtain⟨rfl,⟨q,_⟩|q⟩:=h
  .rw[X2 (by show ¬ (9<=x.op);omega)];rfl
  .rw[X2 (by show ¬ (9<=x.op);omega)];rfl
 |one o a=>
  rcases h with⟨rfl,q,_⟩|⟨rfl,q,_⟩
  .rw[X2 (by show ¬ (9<=o);omega)];rfl
  .rw[Xo (by show(9<=o);omega)];rfl
 |two o a c=>
  rcases h with⟨rfl,q,_⟩|⟨rfl,q,_⟩|⟨rfl,q,_⟩|⟨rfl,q,_⟩
  .rw[X2 (by show ¬ (9<=o);omega)];rfl
  .rw[Xo (by show(9<=o);omega)];rfl
  .rw[Xo (by show(9<=o);omega)];rfl
  .rw[Xo (by show(9<=o);omega)];rfl
 |three a c d=>rw[X2 (by show ¬ ((9:Int)<=8);omega),h.1];rfl
def Oj(h:Ty p C):F4 C=p:=by
 have:=Ast h;unfold dbl at this;unfold F4;by_cases a:9<=C.op
 .rw[Xo a]at this;rw[Ws a];cases p
  .cases this
  .rfl
 .rw[X2 a]at this;rw[Yc a];cases p
  .rfl
  .cases this
def Agb(st ts:List Tr)(a:List Bool)(h:ts.map F4=a):Gf (st++ts) a=some (st,ts):=by subst h;unfold Gf;rw[ez,Yl,Nat.add_sub_cancel,di,eb];rw[Xo ⟨by omega,rfl⟩]
def Aws(pre a:List Nd)(x:Nd):AcU (pre++x::a) pre.length=x.op:=by unfold AcU;simp
def Jf{st a:List Tr}{i:Nat}{rest:List Nd}(h1:Qt J=false)(h2:Ou j i J=false)(b:Fa st J=some a):Dm j st i (J::rest)=Dm j a (i+1) rest:=by show(if(Qt J||Ou j i J)=true then none else match Fa st J with|some a=>Dm j a (i+1) rest|none=>none)=_;rw[h1,h2,b];rfl
def Abv(h:1<=I)(h2:I<=17):Qt ⟨I,0,[]⟩=false:=by have e1:decide (I<1)=false:=df;have a:decide (17<I)=false:=df;simp[Qt,e1,a]
def Uh{i:Nat}(h:J.op≠3):Ou j i J=false:=by simp[Ou,h]
def Jg:∀(t:Tr) (k:Bool),Ty k t->∀(l pre b:List Nd) (st:List Tr),l=pre++(t.nodes++b)->Dm l st pre.length (t.nodes++b)=Dm l (st++[t]) (pre++t.nodes).length b
|.leaf x,k,m,l,pre,b,st,g=>by
 obtain⟨_,h⟩:=m;have h1:Qt x=false:=by rcases h with⟨h1,h2⟩|⟨h1,h2⟩<;>simp[Qt,h1,h2]
 have I:x.op≠3:=by rcases h with⟨h1,_⟩|⟨h1,_⟩<;>omega
 have q:Fa st x=some (st++[.leaf x]):=by unfold Fa;rw[Xo (by rcases h with⟨h1,_⟩|⟨h1,_⟩<;>omega)]
 show Dm l st pre.length (x::b)=_;rw[Jf h1 (Uh I) q];simp[Tr.nodes]
|.one o a,k,m,l,pre,b,st,g=>by
 obtain⟨j,f,G⟩:∃j,Ty j a/\((o=7/\j=false)\/(o=17/\j=true)):=by
  rcases m with⟨_,h1,h2⟩|⟨_,h1,h2⟩
  .exact⟨_,h2,.inl ⟨h1,rfl⟩⟩
  .exact⟨_,h2,.inr ⟨h1,rfl⟩⟩
 have n:=Jg a j f l pre (⟨o,0,[]⟩::b) st (by rw[g];simp[Tr.nodes]);have e:(Tr.one o a).nodes++b=a.nodes++(⟨o,0,[]⟩::b):=by simp[Tr.nodes]
 rw[e,n];have q:Fa (st++[a]) ⟨o,0,[]⟩=some (st++[.one o a]):=by unfold Fa;rw[X2 (by show ¬ (o<=3);omega),Xo (by show o=7\/o=17;omega),Agb st [a] _ (by rw[Co,List.map_nil,Oj f];rcases G with⟨rfl,rfl⟩|⟨rfl,rfl⟩<;>rfl)]
 rw[Jf (Abv om om) (Uh (by show o≠3;omega)) q]
 simp[Tr.nodes];rfl
|.three p a c,k,m,l,pre,b,st,g=>by
 obtain⟨_,w,f,i⟩:=m;have n:=Jg p true w l pre (a.nodes++(c.nodes++(⟨8,0,[]⟩::b))) st (by rw[g];simp[Tr.nodes]);have h1:=Jg a false f l (pre++p.nodes) (c.nodes++(⟨8,0,[]⟩::b)) (st++[p]) (by rw[g];simp[Tr.nodes]);have h2:=Jg c false i l (pre++p.nodes++a.nodes) (⟨8,0,[]⟩::b) (st++[p]++[a]) (by rw[g];simp[Tr.nodes]);have e:(Tr.three p a c).nodes++b=p.nodes++(a.nodes++(c.nodes++(⟨8,0,[]⟩::b))):=by simp[Tr.nodes]
 rw[e,n,h1,h2];have q:Fa (st++[p]++[a]++[c]) ⟨8,0,[]⟩=some (st++[.three p a c]):=by unfold Fa;rw[X2 (by show ¬ ((8:Int)<=3);decide),X2 (by show ¬ ((8:Int)=7\/(8:Int)=17);decide),Xo rfl,show st++[p]++[a]++[c]=st++[p,a,c]by simp,Agb st [p,a,c] _ (by simp only[Co,List.map_nil,Oj w,Oj f,Oj i])]
 rw[Jf (Abv om om) (Uh (by show(8:Int)≠3;decide)) q]
 simp[Tr.nodes];rfl
|.two o a c,k,m,l,pre,b,st,g=>by
 have M:4<=o/\o<=16/\o≠7/\o≠8:=by rcases m with⟨_,h,_⟩|⟨_,h,_⟩|⟨_,h,_⟩|⟨_,h,_⟩<;>omega
 have s:F4 a=(decide (o=15)||decide (o=16))->F4 c=(decide (o=15)||decide (o=16))->Fa (st++[a]++[c]) ⟨o,0,[]⟩=some (st++[.two o a c]):=by intro h1 h2;unfold Fa;rw[X2 (by show ¬ (o<=3);omega),X2 (by show ¬ (o=7\/o=17);omega),X2 (by show ¬ (o=8);omega),show st++[a]++[c]=st++[a,c]by simp,Agb st [a,c] _ (by simp only[Co,List.map_nil,h1,h2])]
 have e:(Tr.two o a c).nodes++b=a.nodes++(c.nodes++(⟨o,0,[]⟩::b)):=by simp[Tr.nodes]
 have d:∀j,Ty j a->Ty j c->j=(decide (o=15)||decide (o=16))->Dm l st pre.length ((Tr.two o a c).nodes++b)=Dm l (st++[.two o a c]) (pre++(Tr.two o a c).nodes).length b:=by
  intro j f i hj;have n:=Jg a j f l pre (c.nodes++(⟨o,0,[]⟩::b)) st (by rw[g];simp[Tr.nodes]);have h1:=Jg c j i l (pre++a.nodes) (⟨o,0,[]⟩::b) (st++[a]) (by rw[g];simp[Tr.nodes]);rw[e,n,h1,Jf (Abv om om) (Uh (by show o≠3;omega)) (s (by rw[Oj f];exact hj) (by rw[Oj i];exact hj))]
  simp[Tr.nodes];rfl
 rcases m with⟨_,h,f,i⟩|⟨_,h,f,i⟩|⟨_,h,u⟩|⟨_,h,f,i⟩
 .exact d false f i (by
  have h1:o≠15:=by omega
  have h2:o≠16:=by omega
  simp[h1,h2])
 .exact d false f i (by
  have h1:o≠15:=by omega
  have h2:o≠16:=by omega
  simp[h1,h2])
 .have r:=u;obtain⟨x,y,rfl,rfl,z,v⟩:=Pr u;obtain⟨⟨_,B⟩,_,C⟩:=r;have A:Qt x=false:=by simp[Qt,z,B]
  have b2:Qt y=false:=by simp[Qt,v,C]
  have E:Ou l (pre.length+1) y=false:=by
   have e1:AcU l pre.length=2:=by rw[g,show pre++((Tr.two o (.leaf x) (.leaf y)).nodes++b)=pre++x::(y::⟨o,0,[]⟩::b)by simp[Tr.nodes],Aws,z]
   have F:AcU l (pre.length+1+1)=o:=by
    have:=Aws (pre++[x,y]) b ⟨o,0,[]⟩;rw[g,show pre++((Tr.two o (.leaf x) (.leaf y)).nodes++b)=(pre++[x,y])++(⟨o,0,[]⟩::b)by simp[Tr.nodes]]
    simpa using this
   have J:¬ l.length<=pre.length+1+1:=by rw[g];simp[Tr.nodes];omega
   rcases h with rfl|rfl<;>simp[Ou,v,e1,F,J]
  have K:Fa st x=some (st++[.leaf x]):=by unfold Fa;rw[Xo om]
  have a2:Fa (st++[.leaf x]) y=some (st++[.leaf x]++[.leaf y]):=by unfold Fa;rw[Xo om]
  have L:F4 (.leaf x)=false:=Yc (by show ¬ (9<=x.op);omega)
  have ty:F4 (.leaf y)=false:=Yc (by show ¬ (9<=y.op);omega)
  have hj:false=(decide (o=15)||decide (o=16)):=by
   have h1:o≠15:=by omega
   have h2:o≠16:=by omega
   simp[h1,h2]
  rw[show(Tr.two o (.leaf x) (.leaf y)).nodes++b=x::y::⟨o,0,[]⟩::b by simp[Tr.nodes],Jf A (Uh om) K,Jf b2 E a2,Jf (Abv om om) (Uh (by show o≠3;omega)) (s (by rw[L];exact hj) (by rw[ty];exact hj))]
  simp[Tr.nodes]
 .exact d true f i (by rcases h with h|h<;>simp[h])
def Y3(h:Ty p C):Je C.nodes p=some C:=by unfold Je;have:=Jg C p h C.nodes [] [] [] (by simp);simp only[F0,Gx,I3]at this;rw[this];show(if F4 C=p then some C else none)=some C;rw[Xo (Oj h)]
structure Dom where
 Zn:List Nat->Prop
 word:List Nat->List Nat->Prop
variable {D:Dom}
def WdC(D:Dom):Tr->Tr->Prop
|.leaf x,.leaf y=>(x.op=2/\x.n=0/\D.Zn x.Zn)/\y.op=3/\y.n=0/\D.word x.Zn y.Zn
|_,_=>False
def E7(D:Dom):Bool->Tr->Prop
|b,.leaf x=>b=false/\((x.op=1/\x.Zn=[]/\0<=x.n/\x.n<=1000000000)\/x.op=2/\x.n=0/\D.Zn x.Zn)
|b,.one o a=>(b=false/\o=7/\E7 D false a)\/(b=true/\o=17/\E7 D true a)
|b,.two o a c=>(b=false/\(o=4\/o=5\/o=6)/\E7 D false a/\E7 D false c)\/(b=true/\(9<=o/\o<=14)/\E7 D false a/\E7 D false c)\/(b=true/\(o=9\/o=10)/\WdC D a c)\/(b=true/\(o=15\/o=16)/\E7 D true a/\E7 D true c)
|b,.three p a c=>b=false/\E7 D true p/\E7 D false a/\E7 D false c
def Agn:∀{a c},WdC D a c->∃x y,a=.leaf x/\c=.leaf y/\(x.op=2/\x.n=0/\D.Zn x.Zn)/\y.op=3/\y.n=0/\D.word x.Zn y.Zn
|.leaf x,.leaf y,h=>⟨x,y,rfl,rfl,h⟩
|.leaf _,.one ..,h=>h.elim
|.leaf _,.two ..,h=>h.elim
|.leaf _,.three ..,h=>h.elim
|.one ..,_,h=>h.elim
|.two ..,_,h=>h.elim
|.three ..,_,h=>h.elim
attribute [local irreducible] Aa Al Af Ad
variable (Z:Ac)(N:Nat)
def Ahy{s len a bytes b off lo:Nat}{et:TypeId}{h:H}{y:AV}{c d cs:uw}(p:Nv h b cs)(i:off+len*s<=cs.length)(hc:(cs.drop off).take (len*s)=c)(j:Hd h s y=some (a,d))(l:d.length=a*s)(q:(len+a)*(bytes+1)<1000000000000)(h1:Bm d=true)(t:0<a)(m:lo<=h.nx):
 ∃v h',Ds et s bytes (.sl b off len len s true) y h=.ok v h'/\Ai h h'/\Fm s lo et h' v (len+a) (c++d):=by
 have hn:(c++d).length=(len+a)*s:=by rw[Yl,l,<- hc,Cm,bg,ag];omega
 have e:grow h et s (c++d) (len+a)=.ok (.sl (Nat.succ h.nx) 0 (len+a) (len+a) s false) ((h.new (.Fb 0)).new (.cells (c++d) et (.Gt h.nx))):=rfl;have f:Fm s lo et ((h.new (.Fb 0)).new (.cells (c++d) et (.Gt h.nx))) (.sl (Nat.succ h.nx) 0 (len+a) (len+a) s false) (len+a) (c++d):=by
  refine .inr (.inr ⟨h.nx+1,h.nx,0,rfl,Bf (h:=h.new (.Fb 0)) _,?_,by omega,m,by show h.nx+1<h.nx+1+1;omega,by show h.nx<h.nx+1+1;omega,by omega,hn⟩)
  rw[Cq (h:=h.new (.Fb 0)) _ h.nx (by show h.nx≠h.nx+1;omega)]
  exact Bf _
 have o:Ds et s bytes (.sl b off len len s true) y h=(match Hd h s y with
  |some (n,new)=>C6 (.bad 121) (C6 (.bad 121) (C6 (.bad 121) (Lg ⟨et,s,bytes⟩ b off len len s true n new h) (Nat.beq s s)) (Bm new)) (Gj ((len+n)*(bytes+1)))
  |none=>.bad 123):=rfl
 have k:Nat.ble (Nat.add len a) len=false:=by
  cases r:Nat.ble (Nat.add len a) len with
  |false=>rfl
  |true=>have:len+a<=len:=Ew r;omega
 have g:(C6 (.bad 121) (C6 (.bad 121) (C6 (.bad 121) (Lg ⟨et,s,bytes⟩ b off len len s true a d h) true) true) true:OR)=grow h et s (c++d) (len+a):=by show(C6 _ _ (Nat.ble (Nat.add len a) len):OR)=_;rw[k];show Sf ⟨et,s,bytes⟩ b off len (Nat.add len a) d h=_;unfold Sf;rw[AaS,p.rd];simp only[E5,i,Jr,Dl,hc];rfl
 rw[o,j];simp only[h1,Fi,Ws q,Fe];rw[g];exact⟨_,_,e,((Ai.refl h).new _).new _,f⟩
def Oo(lo:Nat)(h:H)(v:AV)(l:List Nd):Prop:=NdO lo h v l\/∃b off cs,v=.sl b off l.length l.length 3 true/\Nv h b cs/\off+l.length*3<=cs.length/\(cs.drop off).take (l.length*3)=l.flatMap Bw/\lo<=b
def Oo.sl{lo:Nat}{h:H}{v:AV}(a:Oo lo h v j):Ue h v j:=by
 rcases a with a|⟨b,off,cs,rfl,c,e,d,f⟩
 .exact a.sl
 .exact .inr ⟨b,off,_,true,cs,rfl,Ye _,c,e,d⟩
def Oo.Y5{lo d:Nat}{h:H}{v:AV}(a:Oo lo h v j)(c:d<=lo):Oo d h v j:=by
 rcases a with a|⟨b,off,cs,rfl,f,i,g,e⟩
 .exact .inl (Yp a c)
 .exact .inr ⟨b,off,cs,rfl,f,i,g,Ol c e⟩
def Oo.gr{lo:Nat}{h h1:H}{v:AV}(a:Oo lo h v j)(e:Ai h h1):Oo lo h1 v j:=by
 rcases a with a|⟨b,off,cs,rfl,d,g,f,c⟩
 .exact .inl (a.gr e)
 .exact .inr ⟨b,off,cs,rfl,e.keeps.cont b cs d,g,f,c⟩
def Oo.rl{lo:Nat}{h:H}{v:AV}{lg:uq}(a:Oo lo h v j):Oo lo (Be lg h) v j:=by
 rcases a with(h3|⟨h1,h2,b,off,cs,h4,h5,h6⟩|h3)|⟨b,off,cs,rfl,q1,q2,q3,q4⟩
 .exact .inl (.inl h3)
 .exact .inl (.inr (.inl ⟨h1,h2,b,off,cs,h4,((Bi.refl h).Be lg).cont b cs h5,h6⟩))
 .exact .inl (.inr (.inr h3))
 .exact .inr ⟨b,off,cs,rfl,((Bi.refl h).Be lg).cont b cs q1,q2,q3,q4⟩
def Oo.one{lo:Nat}{h:H}{v:AV}(a:Oo lo h v j):Ge v=true/\cellsOf v=some [v]:=B2 a.sl
def Ab9:∀l:List Nd,Bm (l.flatMap Bw)=true:=Tk
def Wl{lo:Nat}{h h1:H}(l:List Nd)(n:Nat)(hn:n=l.length)(b:h1.m.get h.nx=cz (l.flatMap Bw) 64)(d:h1.nx=h.nx+1)(a:lo<=h.nx):Oo lo h1 (.sl h.nx 0 n n 3 true) l:=by subst hn;have c:=Aa9 (f:=Bw) (s:=3) (λ_=>rfl) l;refine .inr ⟨h.nx,0,_,rfl,⟨by omega,64,.exact,b,trivial⟩,by omega,?_,a⟩;rw[Cp,Qa om]
def Tf(t:Tr):t.nodes≠[]:=by intro a;have h1:=Ao t;have h2:=size_pos t;rw[a]at h1;simp at h1;omega
structure Qr where
 c0:Int
 code:List Nd
 c2:Int
 c3:Int
 c4:Int
 c5:Int
 s6:List Nat
 c7:Int
 ord:List (Int × Int)
 c9:Int
 Wz:Bool
 Uw:List Nat
 W0:Int
 Wu:List Nat
 s14:List Nat
 s15:List Nat
 c16:Int
 E9:List Nd
 Oi:List Nat
 Mg:Int
abbrev qc(q:Qr)(vc vo vm:AV):uw:=[iI q.c0,vc,iI q.c2,iI q.c3,iI q.c4,iI q.c5,.str q.s6,iI q.c7,vo,iI q.c9,.bool q.Wz,.str q.Uw,iI q.W0,.str q.Wu,.str q.s14,.str q.s15,iI q.c16,vm,.str q.Oi,iI q.Mg]
structure QV(h:H)(q:Qr)(vc vo vm:AV):Prop where
 c:Ue h vc q.code
 o:OkS h vo q.ord
 m:Ue h vm q.E9
def QV.By{h h1:H}{q:Qr}{b a d:AV}(hq:QV h q b a d)(e:Bi h h1):QV h1 q b a d:=⟨hq.c.By e,hq.o.By e,hq.m.By e⟩
open Tryz
def R12:Prop:=∀(q:Qr) (b c d f a e:AV) (h:H),QV h q b c d->QV h q f a e->q.code.length<=3000->q.ord.length<=3000->q.E9.length<=3000->Ah h (λr _=>r=uz) (Z.call 7 [.agg (qc q b c d),.agg (qc q f a e)] h)
def B1A(h:H):Aj prog .neq 4 false uz uz h=.ok ux h:=by kernel_rfl
def B18(h:H):Aj prog .neq 4 false ux ux h=.ok ux h:=by kernel_rfl
def B16(b:Bool)(h:H):Aj prog .neq 4 false (.bool b) (.bool b) h=.ok ux h:=by cases b;exact B18 h;exact B1A h
set_option maxHeartbeats 2000000 in
def r12(w:R33 Z)(C:R36 Z)(q:Qr)(o n p k l m:AV)(h:H)(hq:QV h q o n p)(R:QV h q k l m)(y:q.code.length<=3000)(t:q.ord.length<=3000)(i:q.E9.length<=3000):Ah h (λr _=>r=uz) (mr Z N 7 [.agg (qc q o n p),.agg (qc q k l m)] h):=by
 rw[e12];obtain⟨hc,g,j⟩:=hq;obtain⟨f,b,a⟩:=R;obtain⟨B,P⟩:=B2 hc;obtain⟨A,Q⟩:=B2 g;obtain⟨F,J⟩:=B2 j;obtain⟨K,U⟩:=B2 f;obtain⟨z,L⟩:=B2 b;obtain⟨M,E⟩:=B2 a;obtain⟨c0,code,c2,c3,c4,c5,s6,c7,ord,c9,Wz,Uw,W0,Wu,s14,s15,c16,E9,Oi,Mg⟩:=q;simp only at hc g j f b a y t i;replace hc:=(show F5 _ from hc)
 replace g:=(show F5 _ from g)
 replace j:=(show F5 _ from j)
 replace f:=(show F5 _ from f)
 replace b:=(show F5 _ from b)
 replace a:=(show F5 _ from a)
 refine wk ?_;refine Fj (w code o k _ (Sl.By hc M0) (Sl.By f M0) y) λX h1 e1 l1 c G=>?_;subst G;simp only[C9]at l1 c;have s:=(c h.nx om).trans ((Cq _ _ ml).trans (Bf _));have v:=(c (h.nx+1) om).trans (Bf (h:=h.new _) _);have g1:Ai h h1:=Ai.trans Ex e1;clear e1 c;refine wk ?_;refine Fj (w E9 p m _ (Sl.By j (Ai.keeps (g1.trans Ex))) (Sl.By a (Ai.keeps (g1.trans Ex))) i) λv2 h2 u l2 e S=>?_;subst S;have b2:=(e h.nx om).trans s;have c2:=(e (h.nx+1) om).trans v;have g2:Ai h h2:=g1.trans (Ai.trans Ex u);clear u e s v;refine wk ?_;refine Fj (C ord n l _ (Sl.By g (Ai.keeps (g2.trans Ex))) (Sl.By b (Ai.keeps (g2.trans Ex))) t) λV O x Y d I=>?_;subst I;have W:=(d h.nx om).trans b2;have c3:=(d (h.nx+1) om).trans c2;have T:Ai h O:=g2.trans (Ai.trans Ex x);clear x d b2 c2;have n4:=B16 Wz;refine wk ?_;exact zr T rfl
def Av(c:Bool)(l:List Nd):Prop:=l=[]\/∃t,Je l c=some t
def N28:Prop:=∀(c:Bool) (l:List Nd) (v:AV) (h:H),Av c l->Ue h v l->l.length<=3000->Ah h (λr _=>r=Yy (Je l c)) (Z.call 51 [v,.bool c] h)
abbrev zq:uw:=[iI 0,.Bv,iI 0,iI 0,iI 0,iI 0,.str [],iI 0,.Bv,iI 0,ux,.str [],iI 0,.str [],.str [],.str [],iI 0,.Bv,.str [],iI 0]
variable {h h1 h2:H}{tk bq:Nat}{vl:AV}
def Acx{Φ:OR->Prop}{m:H}{b:List EF}{lg:uq}{k:H->OR}(tk bq lo:Nat)(f:∀e∈b,e.w=[]\/((∀x∈e.w,x=tk\/x=bq\/lo<=x)/\∀a∈b,Jo e a=true))(i:∀L,(∀z∈L,z∈lg\/z=tk\/z=bq\/lo<=z)->Φ (k (Be L m))):Φ (Ff lg b m k):=by
 have l:Lh b=true:=V9 b b λe h1=>by
  rcases f e h1 with d|d
  .rw[d];exact .inl rfl
  .exact .inr (V4 e b d.2)
 rw[So l];refine i _ ?_;have j:∀e∈b,∀x∈e.w,x=tk\/x=bq\/lo<=x:=λe h1 x g=>by
  rcases f e h1 with d|d
  .rw[d]at g;cases g
  .exact d.1 x g
 clear f l i;induction b with
 |nil=>exact λz c=>.inl c
 |cons e es n=>
  intro z c;rw[Ap]at c;rcases W7.1 c with c|c
  .exact .inr (j e (Wm ..) z c)
  .exact n (λe h1=>j e (Vo _ h1)) z c
def Fm.To{s lo c len:Nat}{et e1}{h}{v}{cs l}(n:Fm s lo et h v len cs)(hc:c<lo)(a:Vu l.length (h.m.get c)=true):Fm s lo et (h.put c (cz l e1)) v len cs:=by
 rcases n with f|⟨rfl,rfl,b,off,D7,rfl,h2,f⟩|⟨b,k,st,rfl,u,g,d,q5,o,q,r,j⟩;. exact .inl f
 .have⟨l0,w,a,p⟩:=Pb a;rcases Sl.AnO (.inr ⟨b,_,0,_,_,rfl,Ye _,h2,by omega,by simp⟩:Sl s h (.sl b off 0 0 s true) 0 []) a p λt=>absurd t om with⟨_,_,e⟩|⟨y,x,cap,ex,i,e,u,g,d,q5⟩;. grind
  .cases e;exact .inr (.inl ⟨rfl,rfl,b,_,_,rfl,g,by omega⟩)
 .exact .inr (.inr ⟨b,k,st,rfl,by rw[Aq _ _ _ om];omega,by rw[Aq _ _ _ om];grind,d,q5,o,q,r,j⟩)
def Fm.rl{s lo len}{et}{h}{v}{cs}{lg}(d:Fm s lo et h v len cs):Fm s lo et (Be lg h) v len cs:=by
 rcases d with a|⟨h1,h2,b,off,cs,e,f,c⟩|a;. exact .inl a
 .exact .inr (.inl ⟨h1,h2,b,_,_,e,((Bi.refl h).Be _).cont b _ f,c⟩)
 .exact .inr (.inr a)
def Abs{α:Type}(p:α->Bool):List α->Int->Int
|[],_=>-1
|x::l,i=>if p x=true then i else Abs p l (i+1)
def AjH{p:o->Bool}:∀{l:List o} {i:Int},(∀x∈l,p x=false)->Abs p l i=-1
|[],i,h=>rfl
|x::l,i,h=>by unfold Abs;rw[X2 (by rw[h x (Wm ..)];decide)];exact AjH λy a=>h y (Vo _ a)
def Agx{p:o->Bool}:∀{l:List o} {i:Int},(∃x∈l,p x=true)->∃(m:Nat) (x:o),Abs p l i=i+m/\l[m]?=some x/\p x=true
|[],i,h=>by obtain⟨x,a,_⟩:=h;cases a
|y::l,i,h=>by
 unfold Abs;by_cases b:p y=true
 .rw[Xo b];exact⟨0,y,by omega,rfl,b⟩
 .rw[X2 b];obtain⟨x,a,c⟩:=h;rcases Tu.1 a with rfl|a
  .exact absurd c b
  .obtain⟨m,z,h1,h2,d⟩:=Agx (l:=l) (i:=i+1) ⟨x,a,c⟩;exact⟨m+1,z,by omega,h2,d⟩
def AeY{P:Program}{Z:Ac}{h:H}(g:FuncId)(a c args:uw):cvV (.fn (.func g) a c) args P Z h=if Bg P g=true then Z.call g ((a++args)++c) h else AgK (Uk P g) ((a++args)++c) h:=by show(@Bool.rec (λ_=>OR) (AgK (Uk P g) (J0 (J0 a args) c) h) (Z.call g (J0 (J0 a args) c) h) (Bg P g):OR)=_;rw[Dl,Dl];cases Bg P g<;>rfl
def AuZ{p:o->Bool}{l:List o}:decide (0<=Abs p l 0)=decide (∃x∈l,p x=true):=by
 rw[cj];constructor
 .intro h;apply Classical.byContradiction;intro hn;have:=AjH (p:=p) (l:=l) (i:=0) λx b=>by
   cases a:p x with
   |false=>rfl
   |true=>exact absurd ⟨x,b,a⟩ hn
  omega
 .intro h;obtain⟨m,x,h1,_⟩:=Agx (i:=0) h;omega
def Be2:Prop:=∀(y:uq) (v:AV) (l:List uq) (h:H),Ig h v l->l.length<=50->Ah h (λr _=>r=.bool (decide (y∈l))) (Z.call 83 [v,.str y] h)
def BeF:Prop:=∀(y:uq) (v:AV) (l:List uq) (h:H),Ig h v l->l.length<=50->Ah h (λr _=>r=iI (Abs (λx:uq=>decide (y=x)) l 0)) (Z.call 119 [v,.str y] h)
def Amt{l:List o}{x:o}(a:0<=I)(h:l[I.toNat]?=some x):l.drop I.toNat=x::l.drop (I+1).toNat:=by
 rw[show(I+1).toNat=I.toNat+1 by omega]
 obtain⟨h1,h2⟩:=Wp.1 h;rw[bc h1,h2]
def AzY(y:uq)(v:AV)(l:List uq)(h:H)(d:Ig h v l)(m:l.length<=1000000000):
 ∀(k:Nat) (i:Int) (n:Nat) (hd:H) (f0:L2),i+(k:Int)=(l.length:Int)->0<=i->k<n->Ai h hd->Ah h (λr _=>r=iI (Abs (λx:uq=>decide (y=x)) (l.drop i.toNat) i)) (Asv Z N n v (.str y) (iI (l.length:Int)) (iI i) f0 hd)
 |0,i,n,hd,f0,o,b,hn,a=>by obtain⟨n1,rfl⟩:∃n1,n=n1+1:=⟨n-1,by omega⟩;have j:decide (i<(l.length:Int))=false:=df;rw[Ays];refine wk ?_;exact zr a (by rw[Ts om];rfl)
 |k+1,i,n,hd,f0,o,b,hn,a=>by
  obtain⟨n1,rfl⟩:∃n1,n=n1+1:=⟨n-1,by omega⟩;have p:=AzY y v l h d m k (i+1) n1;have j:decide (i<(l.length:Int))=true:=dt;have g:((i.toNat:Nat):Int)=i:=Tb b;obtain⟨x,e⟩:∃x,l[i.toNat]?=some x:=⟨_,Oh om⟩;obtain⟨u,w,c⟩:=R0.elem (f:=Aeb) (s:=1) (λ_=>rfl) (Sl.By d a.keeps) e;have q:=c.ia;rw[g]at q;have t:=c.part 0 _ rfl;rw[Vw]at t;rw[Ays,Amt b e,Abs];clear c g e d;by_cases hc:y=x
  .have k2:decide (y=x)=true:=Ws hc;refine wk ?_;refine zr a ?_;rw[Xo k2]
  .have k2:decide (y=x)=false:=Yc hc;refine wk ?_;rw[X2 (by rw[k2];decide)];exact p _ _ om om om a
def Bly(c:100<N)(y:uq)(v:AV)(l:List uq)(h:H)(a:Ig h v l)(b:l.length<=50):Ah h (λr _=>r=iI (Abs (λx:uq=>decide (y=x)) l 0)) (mr Z N 119 [v,.str y] h):=by rw[Bj7];refine Ey (a.Gs) ?_;exact AzY Z N y v l h a om l.length 0 N h _ om om om (Ai.refl h)
def Blk(a:BeF Z)(y:uq)(v:AV)(l:List uq)(h:H)(d:Ig h v l)(b:l.length<=50):Ah h (λr _=>r=.bool (decide (y∈l))) (mr Z N 83 [v,.str y] h):=by rw[Bjv];refine Fj (a y v l _ d b) λf h1 e1 l1 e c=>?_;subst c;refine wk ?_;refine zr e1 ?_;rw[AuZ];congr 1;rw[cj];simp
def BjO{h:H}(e:TypeId)(k:IntKind)(n:Int):Oy e (.int k n) h=.ok (.ptr h.nx 0) (h.new (cz [.int k n] e)):=rfl
def W35:List uq:=[us,bm,wh,wv,tv,[98,121],uh,uy,ug,wq,tf,uv,ud,[105,102],tn,tg,[108,97,116,101],tz,um,[110,111,110,101],ur,[111,102],[111,110],[111,114],wy,wj,uj,uc,ul,uf,ub,tj,tq,bn,wb]
def S0(h:H):Prop:=Nv h 0 (W35.flatMap Aeb)
def S0.By{h h1:H}(g:S0 h)(e:Bi h h1):S0 h1:=e.cont 0 _ g
def S0.ws{h:H}(g:S0 h):Ig h (.sl 0 0 35 35 1 true) W35:=.inr ⟨0,0,35,true,_,rfl,by decide,g,by decide,rfl⟩
def Be1:Prop:=∀(s:uq) (h:H),Ah h (λr _=>r=ux) (Z.call 163 [.str s] h)
def Bbx:Prop:=∀(s:uq) (h:H),Ah h (λr _=>r=ux) (Z.call 166 [.str s] h)
def Bl7(s:uq)(h:H):Ah h (λr _=>r=ux) (mr Z N 166 [.str s] h):=by rw[BjG];refine wk ?_;exact zr Ex (by simp)
def Bbw:Prop:=∀(s t:uq) (h:H),Ah h (λr _=>∃b,r=.bool b) (Z.call 165 [.str s,.str t] h)
def Bl6(a:Be1 Z)(s t:uq)(h:H):Ah h (λr _=>∃b,r=.bool b) (mr Z N 165 [.str s,.str t] h):=by rw[BjF];refine Fj (a s h) λe h1 e1 l1 c d=>?_;subst d;refine wk ?_;exact zr Ex ⟨_,rfl⟩
def Awb{h:H}(k k':IntKind)(n:Int):A6r k (.int k' n) h=.ok (.int k (E1 k n)) h:=rfl
def A1c(n:Int)(h1:0<=n)(h2:n<=1000):E1 .u64 n=n:=by
 unfold E1 fits;rw[Il,Il];have e1:¬ (n<IntKind.min .u64):=by show ¬ (n<0);omega
 have a:¬ (IntKind.max .u64<n):=by show ¬ ((18446744073709551615:Int)<n);omega
 rw[Yc e1,Yc a]
def BlC{h:H}(m:Nat):Aj prog .shr 222 true (cn (m:Int)) (cn 1) h=.ok (cn ((m/2:Nat):Int)) h:=by kernel_rfl
abbrev Bbo(r:AV)(_:H):Prop:=∃i,r=.Bj [iI i,ux]
def Bbu:Prop:=∀(v:AV) (ws:List uq) (s:uq) (h:H),Ig h v ws->ws.length<=50->s ∉ ws->Ah h Bbo (Z.call 138 [v,.str s] h)
def A9A(I:Bbw Z)(C:Bbx Z)(v:AV)(ws:List uq)(s:uq)(h:H)(t:Ig h v ws)(hl:ws.length<=50)(S:s ∉ ws):
 ∀(u:Nat) (a b:Nat) (n:Nat) (hd:H) (f0:L2),b=a+u->b<=ws.length->u<n->Ai h hd->Ah h Bbo (Anb Z N n v (.str s) (iI (ws.length:Int)) (iI (a:Int)) (iI (b:Int)) f0 hd):=by
 intro u;induction u using Nat.strongRecOn with
 |_ u A=>
 intro a b n hd f0 i P hn B;obtain⟨n1,rfl⟩:∃n1,n=n1+1:=⟨n-1,by omega⟩;have U:=B.lo;obtain⟨x,o⟩:∃x:Int,x=(a:Int):=⟨_,rfl⟩;obtain⟨y,q⟩:∃x:Int,x=(b:Int):=⟨_,rfl⟩;obtain⟨z,k⟩:∃x:Int,x=(ws.length:Int):=⟨_,rfl⟩;rw[<- o,<- q,<- k];cases u with
 |zero=>
  have M:decide (x<y)=false:=df;rw[Ayt];by_cases J:a<ws.length
  .have k2:decide (x<z)=true:=dt;obtain⟨w,l⟩:∃w,ws[a]?=some w:=⟨_,Oh J⟩;obtain⟨O,R,j⟩:=R0.elem (f:=Aeb) (s:=1) (λ_=>rfl) (Sl.By t B.keeps) l;have K:=j.ia;rw[<- o]at K;have G:=j.part 0 _ rfl;rw[Vw]at G;have X:decide (w=s)=false:=Yc λc=>S (c ▸ Vl l);clear j l t A o q k i;refine wk ?_;refine Fj (C w _) λQ h1 e1 l1 F E=>?_;subst E;refine wk ?_;exact zr Ex ⟨_,rfl⟩
  .have k2:decide (x<z)=false:=df;have xt:∀(w:Bool) (r:OR) (c:H),Ad (.Bj []) w r c=.ok (.Bj []) c:=λ_ _ _=>by kernel_rfl
   clear t A o q k i;refine wk ?_;exact zr Ex ⟨_,rfl⟩
 |succ u=>
  have M:decide (x<y)=true:=dt;obtain⟨m,L⟩:∃m:Nat,m=(a+b)/2:=⟨_,rfl⟩;obtain⟨p,e⟩:∃x:Int,x=(m:Int):=⟨_,rfl⟩;obtain⟨w,l⟩:∃w,ws[m]?=some w:=⟨_,Oh om⟩;obtain⟨O,R,j⟩:=R0.elem (f:=Aeb) (s:=1) (λ_=>rfl) (Sl.By t B.keeps) l;have K:=j.ia;rw[<- e]at K;have G:=j.part 0 _ rfl;rw[Vw]at G;have V:∀c:H,A6r .u64 (iI (x+y)) c=.ok (cn (x+y)) c:=λc=>by rw[Awb,A1c _ om om]
  have y2:∀c:H,Aj prog .shr 222 true (cn (x+y)) (cn 1) c=.ok (cn p) c:=λc=>by rw[show x+y=((a+b:Nat):Int)by omega,BlC,<- L,<- e]
  have Y:∀c:H,A6r .i64 (cn p) c=.ok (iI p) c:=λc=>by rw[Awb,lw.2.2 _ om om]
  have r1:0<=x:=by omega
  have r2:x<y:=by omega
  have T:y<=50:=by omega
  have W:0<=p:=by omega
  have r5:p<=50:=by omega
  have d:=λhd f0=>A (b-(m+1)) om (m+1) b n1 hd f0 om P om;have g:=λhd f0=>A (m-a) om a m n1 hd f0 om om om;rw[show((m+1:Nat):Int)=p+1 by omega,<- q,<- k]at d
  rw[<- o,<- e,<- k]at g;replace d:=(show F5 _ from d)
  replace g:=(show F5 _ from g)
  clear j l t A o q k i L e;rw[Ayt];refine wk ?_;refine Fj (I w s _) λQ h1 e1 l1 F E=>?_;obtain⟨bb,rfl⟩:=E;cases bb
  .refine wk ?_;exact(show ∀(hd:H) (f0:L2),_ from g) _ _ Ex
  .refine wk ?_;exact(show ∀(hd:H) (f0:L2),_ from d) _ _ Ex
def Bl2(f:100<N)(b:Bbw Z)(a:Bbx Z)(v:AV)(ws:List uq)(s:uq)(h:H)(c:Ig h v ws)(d:ws.length<=50)(e:s ∉ ws):Ah h Bbo (mr Z N 138 [v,.str s] h):=by rw[BjB];refine Ey c.Gs ?_;exact A9A Z N b a v ws s h c d e ws.length 0 ws.length N h _ om (Ye _) om (Ai.refl h)
def A0l{h:H}{s:uq}{i:Nat}{c:Nat}(hc:s[i]?=some c):xIx prog .str (.str s) (iI (i:Int)) h=.ok (cw (c:Int)) h:=by show Uv (AuN s i) h=_;rw[AuO,hc];rfl
def BlD(h:H):xSl prog 197 (.ptr 0 0) none none h=.ok (.sl 0 0 35 35 1 true) h:=by kernel_rfl
end Go.Proofs
