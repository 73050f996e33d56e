/- The parser: what an opening token begins, to its end. -/
import Derived.Test.YtecikbfimlolcaaGreatDoorEvTc
import Derived.Test.YtecikbfimlolcaaGreatDoorEvQd
set_option linter.all false
set_option maxRecDepth 100000
noncomputable section
namespace Go.Proofs
open Go Go.Ev Go.Nm Go.Ev.Sx
variable {D:Dom}
def Apm:∀t,1<=wt t:=by intro t;cases t<;>simp[wt]
def AtF b:wt (fixed b)=4:=rfl
def A9n{v}{t}(h:constant v=some t):wt t<=4:=by
 unfold constant at h;split at h;. grind
 .split at h;. cases h;simp[wt,num]
  .cases h;simp[wt,num]
def Bk9 a:wt (neg a)<=3*wt a+1:=by
 have h1:=Apm a;unfold neg;split
 .rename_i t f;split at f;. have:=A9n f;omega
  grind
 .cases a with
  |one o x=>simp;split<;>simp[wt]<;>omega
  |_=>simp[wt]
def AsE op a b:wt (ordered op a b)=3*max (wt a) (wt b)+1:=by unfold ordered;split<;>simp[wt]<;>omega
def Bn9(a:Tr):wt (Jl a)<=3*wt a+1:=by
 have h1:=Apm a;unfold Jl;split;. rw[AtF];omega
 .split;. rw[AtF];omega
  .cases a with
   |one o x=>simp only;split<;>simp only[wt]<;>omega
   |two o x y=>
    simp only;repeat' split
    all_goals simp only[wt];all_goals omega
   |_=>simp[wt]
def BnB(op:Int)(a b:Tr):wt (Mw op a b)<=3*max (wt a) (wt b)+1:=by
 have h1:=Apm a;have h2:=Apm b;have g:=Bk9 b;unfold Mw;split
 .rename_i t f;unfold arith at f;split at f;. have:=A9n f;omega
  .cases f
 .repeat' split
  all_goals first|omega|(rw[AsE];omega)|(simp only[wt,num];omega)
def Bk8 op a b:wt (Kg op a b)<=3*max (wt a) (wt b)+1:=by
 have h1:=Apm a;unfold Kg;repeat' split
 all_goals first|(rw[AtF];omega)|omega|(rw[AsE];omega)
def AnW(op:Int)(a b:Tr):wt (Dg op a b)<=3*max (wt a) (wt b)+1:=by
 have h1:=Apm a;have h2:=Apm b;unfold Dg;repeat' split
 all_goals first|(rw[AtF];omega)|(rw[AsE];simp)|simp[wt]
def BnA op a b:wt (L0 op a b)<=3*max (wt a) (wt b)+1:=by
 unfold L0;repeat' split
 .exact BnB _ a b
 .exact Bk8 _ a b
 .unfold Ek;repeat' split
  .have:=AnW 11 b a;omega
  .have:=AnW 12 b a;omega
  .exact AnW _ a b
def BkB c a b:wt (three c a b)<=3*max (wt c) (max (wt a) (wt b))+1:=by
 unfold three;repeat' split
 all_goals first|omega|simp[wt]
def Ajb:∀t,wt (normal t)<=wt t
|.leaf _=>Yw _
|.one o a=>by have h1:=Ajb a;have h2:=Bk9 (normal a);have f:=Bn9 (normal a);simp[normal,wt];grind
|.two o a b=>by have h1:=Ajb a;have h2:=Ajb b;have f:=BnA o (normal a) (normal b);simp[normal,wt];omega
|.three c a b=>by have h1:=Ajb a;have h2:=Ajb b;have g:=Ajb c;have f:=BkB (normal c) (normal a) (normal b);simp[normal,wt];omega
def hgt:Tr->Nat
|.leaf _=>0
|.one _ a=>hgt a+1
|.two _ a b=>max (hgt a) (hgt b)+1
|.three c a b=>max (hgt c) (max (hgt a) (hgt b))+1
def Yr a b:3^max a b=max (3^a) (3^b):=by
 by_cases h:a<=b;. have:=aq (n:=3) (by grind) h;grind
 .have:=aq (n:=3) (by simp) (show b<=a by omega);grind
def Arv:∀t,3^hgt t<=wt t
|.leaf _=>Yw _
|.one o a=>by have:=Arv a;simp[hgt,wt,er];omega
|.two o a b=>by have h1:=Arv a;have h2:=Arv b;simp[hgt,wt,er,Yr];omega
|.three c a b=>by have h1:=Arv a;have h2:=Arv b;have f:=Arv c;simp[hgt,wt,er,Yr];omega
def BhN{t}(h:wt t<=Sd 3):hgt t<=4:=by
 have h1:=Arv t;have h2:Sd 3=121:=rfl;by_cases a:5<=hgt t;. have f:=aq (n:=3) (by grind) a;grind
 omega
open Tryz
attribute [local irreducible] Aa Al Af Ad
variable (Z:Ac)(N:Nat)
structure Tok where
 k:Int
 t:List Nat
 n:Int
 a:Int
abbrev Aez(x:Tok):List AV:=[iI x.k,.str x.t,iI x.n,iI x.a]
@[simp] abbrev AiM:Tok:=⟨0,[],0,0⟩
abbrev psC(v:AV)(i e o:Int)(q:List AV):AO:=.cells (v::iI i::iI e::iI o::q) 158 .exact
structure PsR(b:Nat)(v:AV)(l:List Tok)(i e o:Int)(q:List AV)(h:H):Prop where
 get:h.m.get b=psC v i e o q
 lt:b<h.nx
 AsD:R0 4 Aez h v l
 av:∀b' off n cap z ex,v=.sl b' off n cap z ex->b'≠b
 one:Ge v=true/\cellsOf v=some [v]
 i0:0<=i
 Mu:l.length<=2000
 ql:q.length=20
variable {b:Nat}{v:AV}{l:List Tok}{i e o:Int}{q:List AV}{h h1:H}
def PsR.gr(p:PsR b v l i e o q h)(g:Ai h h1):PsR b v l i e o q h1:=
 ⟨(g.Cf b p.lt).trans p.get,Xq p.lt g.lo,p.AsD.gr g,p.av,p.one,p.i0,p.Mu,p.ql⟩
def PsR.pg(p:PsR b v l i e o q h){a e' j:Int}{q':List AV}(g:PG b (psC v a e' j q') h h1)(hi:0<=a)(hq:q'.length=20):PsR b v l a e' j q' h1:=
 ⟨g.get p.lt,Xq p.lt g.lo,Sl.pg p.AsD p.lt (λst f=>by rw[p.get]at f;cases f) p.av g,p.av,p.one,hi,p.Mu,hq⟩
def AeL(l:List Tok)(i:Int)(a:List Int):Option Tok:=match l[i.toNat]? with
|some t=>if t.k∈a then some t else none
|none=>none
abbrev Ane(n:Int):List AV:=[iI n]
def BdK(w:AV)(a:List Int)(x:Tok)(h:H)(L:R0 1 Ane h w a)(p j:Nat)(C:h.nx<=p)(S:h.nx<=j)(G:p≠j)(Q:a.length<=5):
 ∀(k i n:Nat) (hd:H) (f0:L2),i+k=a.length->k<n->Ai h hd->hd.m.get p=.cells (Aez AiM) 160 .exact->hd.m.get j=.cells (Aez x) 160 .exact->p<hd.nx->j<hd.nx ->
  Ah h (λr _=>r=.Bj [.agg (Aez (if x.k∈a.drop i then x else AiM)),.bool (decide (x.k∈a.drop i))]) (A3x Z N n (.ptr p 0) (.ptr j 0) w (iI a.length) (iI i) f0 hd)
 |0,i,n,hd,f0,R,hn,u,g4,g6,K,J=>by obtain⟨g,rfl⟩:∃g,n=g+1:=⟨n-1,by omega⟩;have O:decide ((i:Int)<(a.length:Int))=false:=df;rw[BcP];have B:a.drop i=[]:=List.drop_eq_nil_of_le om;rw[B];refine wk ?_;exact zr (u.put _ _ C) rfl
 |k+1,i,n,hd,f0,R,hn,u,g4,g6,K,J=>by
  obtain⟨g,rfl⟩:∃g,n=g+1:=⟨n-1,by omega⟩;have M:=BdK w a x h L p j C S G Q k (i+1) g;have O:decide ((i:Int)<(a.length:Int))=true:=dt;obtain⟨y,hy⟩:∃y,a[i]?=some y:=⟨_,Xs om⟩;obtain⟨b1,V,F⟩:=R0.elem (f:=Ane) (s:=1) (λ_=>rfl) (Sl.By L u.keeps) hy;have U:=F.ia;have P:=F.part 0 _ rfl;rw[Mz]at P;have E:a.drop i=y::a.drop (i+1):=by obtain⟨hi,I⟩:=R4.1 hy;rw[bc hi,I]
  rw[E];rw[BcP];clear F hy;by_cases z:x.k=y
  .have T:decide (x.k=y)=true:=Ws z;have A:x.k∈y::a.drop (i+1):=by rw[z];exact Uq ..
   rw[W5 A,Ws A];refine wk ?_;exact zr (u.put _ _ C) (by rw[<- z])
  .have T:decide (x.k=y)=false:=Xn z;have A:(x.k∈y::a.drop (i+1)) ↔ x.k∈a.drop (i+1):=by simp[z]
   simp only[A];refine wk ?_;exact M _ _ om om u g4 g6 K J
def AsK:Prop:=∀(b:Nat) (v:AV) (l:List Tok) (i e o:Int) (q:List AV) (w:AV) (a:List Int) (h:H),PsR b v l i e o q h->R0 1 Ane h w a->a.length<=5 ->
 Ah h (λr _=>r=.Bj [.agg (Aez ((AeL l i a).getD AiM)),.bool (AeL l i a).isSome]) (Z.call 102 [.ptr b 0,w] h)
def B2x(O:10<N){w:AV}{a:List Int}(p:PsR b v l i e o q h)(B:R0 1 Ane h w a)(G:a.length<=5):Ah h (λr _=>r=.Bj [.agg (Aez ((AeL l i a).getD AiM)),.bool (AeL l i a).isSome]) (Ay prog Z N false 102 [.ptr b 0,w] h):=by
 rw[ByO];have Q:=p.get;have M:=p.lt;have J:=p.i0;have E:=p.Mu;have A:∀j,Fo v j=.ok (iI (l.length:Int)) j:=λ_=>p.AsD.Gs;have I:∀j,Fo w j=.ok (iI (a.length:Int)) j:=λ_=>B.Gs;have u:((i.toNat:Nat):Int)=i:=Qy J;obtain⟨P,K⟩:=p.one;by_cases hi:i<(l.length:Int)
 .have F:decide ((l.length:Int)<=i)=false:=df;obtain⟨x,z⟩:∃x,l[i.toNat]?=some x:=⟨_,Xs om⟩;obtain⟨b1,R,y⟩:=R0.elem (f:=Aez) (s:=4) (λ_=>rfl) p.AsD z;have C:=y.ia;rw[u]at C;have L:=y.all;have g:AeL l i a=if x.k∈a then some x else none:=by unfold AeL;rw[z]
  rw[g];clear y z g u p;refine wd ?_;refine(BdK Z N w a x h B _ _ ?_ ?_ ?_ G a.length 0 N _ _ ?_ ?_ Ex (by simp(disch:=first|exact Ce|fail) [Aez]) (by simp(disch:=first|exact Ce|fail) [Aez]) ?_ ?_).mono ?_;. exact Yw _
  .omega
  .omega
  .omega
  .omega
  .simp only[C9];omega
  .simp only[C9];omega
  grind
 .have F:decide ((l.length:Int)<=i)=true:=dt;have g:AeL l i a=none:=by unfold AeL;rw[ak om]
  rw[g];clear p u;refine wd ?_;exact zr Ex rfl
def Bm3:Prop:=∀(b:Nat) (v:AV) (l:List Tok) (i e o:Int) (q:List AV) (h:H),PsR b v l i e o q h->Ah h (λr _=>∃n,r=iI n) (Z.call 105 [.ptr b 0] h)
def B2z(p:PsR b v l i e o q h):Ah h (λr _=>∃n,r=iI n) (Ay prog Z N true 105 [.ptr b 0] h):=by
 rw[ByQ];have C:=p.get;have G:=p.lt;have A:=p.i0;have z:=p.Mu;have k:∀j,Fo v j=.ok (iI (l.length:Int)) j:=λ_=>p.AsD.Gs;have g:((i.toNat:Nat):Int)=i:=Qy A;by_cases hi:i<(l.length:Int);. have B:decide (i<(l.length:Int))=true:=Ws hi;obtain⟨x,u⟩:∃x,l[i.toNat]?=some x:=⟨_,Xs om⟩;obtain⟨b1,E,a⟩:=R0.elem (f:=Aez) (s:=4) (λ_=>rfl) p.AsD u;have y:=a.ia;rw[g]at y;have F:=a.part 3 _ rfl;clear a u g p;refine wk ?_;exact zr Ex ⟨_,rfl⟩
 .have B:decide (i<l.length)=false:=Xn hi;refine wk ?_;exact zr Ex ⟨_,rfl⟩
def AfM(l:List Tok)(i:Int)(s:List Nat):Bool:=match l[i.toNat]? with
|some t=>decide (t.k=2\/t.k=5)&&decide (t.t=s)
|none=>false
def Av6:Prop:=∀(b:Nat) (v:AV) (l:List Tok) (i e o:Int) (q:List AV) (s:List Nat) (h:H),PsR b v l i e o q h->Ah h (λr _=>r=.bool (AfM l i s)) (Z.call 222 [.ptr b 0,.str s] h)
def B3e(a:AsK Z)(s:List Nat)(p:PsR b v l i e o q h):Ah h (λr _=>r=.bool (AfM l i s)) (Ay prog Z N true 222 [.ptr b 0,.str s] h):=by
 rw[Bz7];refine wk ?_;refine Fj (a b v l i e o q (.sl h.nx 0 2 2 1 true) [2,5] _ (p.gr Ex) (Sl.lit (Bf _) rfl rfl) (by simp)) λu h2 x k g f=>?_;subst f;simp[C9]at k;have j:AfM l i s=match AeL l i [2,5]with|some t=>decide (t.t=s)|none=>false:=by unfold AfM AeL;grind
 rw[j];cases AeL l i _ with
 |none=>refine wk ?_;exact zr Ex rfl
 |some t=>refine wk ?_;exact zr Ex rfl
def AlT:Prop:=∀(b:Nat) (v:AV) (l:List Tok) (i e o:Int) (q:List AV) (s:List Nat) (h:H),PsR b v l i e o q h->AfM l i s=false->Ah h (λr _=>r=.bool false) (Z.call 165 [.ptr b 0,.str s] h)
def Bw1(a:Av6 Z){s}(p:PsR b v l i e o q h)(j:AfM l i s=false):Ah h (λr _=>r=.bool false) (Ay prog Z N true 165 [.ptr b 0,.str s] h):=by rw[BuI];have h1:=a b v l i e o q s h p;rw[j]at h1;refine Fj h1 λk h2 u x g f=>?_;subst f;exact wk (zr Ex rfl)
def Bkq{l}{i}{s}(h0:0<=i)(a:AfM l i s=true):i<l.length:=by unfold AfM at a;grind
def Al5:Prop:=∀(b:Nat) (v:AV) (l:List Tok) (i e o:Int) (q:List AV) (s:List Nat) (h:H),PsR b v l i e o q h->AfM l i s=true->AjT b (psC v (i+1) e o q) h (λr _=>r=.bool true) (Z.call 165 [.ptr b 0,.str s] h)
def Bw2(a:Av6 Z){s:List Nat}(p:PsR b v l i e o q h)(j:AfM l i s=true):AjT b (psC v (i+1) e o q) h (λr _=>r=.bool true) (Ay prog Z N true 165 [.ptr b 0,.str s] h):=by refine AeN ?_;rw[BuI];have h1:=a b v l i e o q s h p;rw[j]at h1;have g:=p.get;have E:=p.lt;have C:=p.i0;have k:=p.Mu;have z:=Bkq C j;have y:=p.ql;refine Fj h1 λF h2 B G f A=>?_;subst A;have x:=(f b E).trans g;have u:PG b (psC v i e o q) h h2:=(PG.refl g).gr B;clear p h1;refine wk ?_;exact zr (Ed _) ⟨u.put _,rfl⟩
def AmR:Prop:=∀(b:Nat) (v:AV) (l:List Tok) (i e o:Int) (q:List AV) (s:List Nat) (h:H),PsR b v l i e o q h->AfM l i s=true->AjT b (psC v (i+1) e o q) h (λr _=>r=.Bj []) (Z.call 163 [.ptr b 0,.str s] h)
def B2N(a:Al5 Z){s:List Nat}(p:PsR b v l i e o q h)(u:AfM l i s=true):AjT b (psC v (i+1) e o q) h (λr _=>r=.Bj []) (Ay prog Z N true 163 [.ptr b 0,.str s] h):=by refine AeN ?_;rw[Bzo];refine zu1 (a b v l i e o q s h p u) λx h2 k y j g f=>?_;subst f;refine wk ?_;exact zr (Ed _) ⟨k,rfl⟩
def AlY(l:List Tok)(i:Int)(k:Int)(t:Tok):Prop:=l[i.toNat]?=some t/\t.k=k
def AlY.lt{k}{t}(hi:0<=i)(a:AlY l i k t):i<l.length:=by have:=(R4.1 a.1).1;omega
def Bpm:Prop:=∀(b:Nat) (v:AV) (l:List Tok) (i e o:Int) (q:List AV) (k:Int) (t:Tok) (h:H),PsR b v l i e o q h->AlY l i k t->AjT b (psC v (i+1) e o q) h (λr _=>r=.agg (Aez t)) (Z.call 221 [.ptr b 0,iI k] h)
def B3d(j:AsK Z){k:Int}{t:Tok}(p:PsR b v l i e o q h)(s:AlY l i k t):AjT b (psC v (i+1) e o q) h (λr _=>r=.agg (Aez t)) (Ay prog Z N true 221 [.ptr b 0,iI k] h):=by
 refine AeN ?_;rw[Bz6];have x:=p.get;have G:=p.lt;have F:=p.i0;have y:=p.Mu;have B:=s.lt F;have A:=p.ql;have f:AeL l i [k]=some t:=by unfold AeL;rw[s.1];simp[s.2]
 refine wk ?_;have g:Ai h ((h.new (.cells (Aez AiM) 160 .exact)).new (.cells [iI k] 3 .exact)):=((Ai.refl h).new _).new _;have h1:=j b v l i e o q (.sl (h.nx+1) 0 1 1 1 true) [k] _ (p.gr g) (Sl.lit (Bf _) rfl rfl) (by simp);rw[f]at h1;refine Fj h1 λJ h2 u E a C=>?_;subst C;have z:h2.m.get b=psC v i e o q:=((g.trans u).Cf b G).trans x;have I:PG b (psC v i e o q) h h2:=(PG.refl x).gr (g.trans u);have K:h2.m.get h.nx=.cells (Aez AiM) 160 .exact:=by rw[a h.nx (by simp only[C9];omega)];simp(disch:=first|exact Ce|fail)
 simp only[C9]at E;clear p h1 f g a u;refine wk ?_;exact zr (Ed _) ⟨pgA,rfl⟩
def Bar:Prop:=∀(b:Nat) (v:AV) (l:List Tok) (i e o:Int) (q:List AV) (t:Tok) (h:H),PsR b v l i e o q h->AlY l i 1 t->AjT b (psC v (i+1) e o q) h (λr _=>r=.str t.t) (Z.call 164 [.ptr b 0] h)
def B2O(a:Bpm Z){t:Tok}(p:PsR b v l i e o q h)(g:AlY l i 1 t):AjT b (psC v (i+1) e o q) h (λr _=>r=.str t.t) (Ay prog Z N true 164 [.ptr b 0] h):=by refine AeN ?_;rw[Bzp];have y:∀f:H,BlW (some none) 1 (.agg (Aez t)) f=.ok (.str t.t) f:=λ_=>rfl;refine zu1 (a b v l i e o q 1 t h p g) λx h2 u z s k j=>?_;subst j;refine wk ?_;exact zr (Ed _) ⟨u,rfl⟩
def Beo:Prop:=∀(b:Nat) (v:AV) (l:List Tok) (i e o:Int) (q:List AV) (t:Tok) (h:H),PsR b v l i e o q h->AlY l i 3 t->AjT b (psC v (i+1) e o q) h (λr _=>r=iI t.n) (Z.call 171 [.ptr b 0] h)
def B2S(a:Bpm Z){t:Tok}(p:PsR b v l i e o q h)(g:AlY l i 3 t):AjT b (psC v (i+1) e o q) h (λr _=>r=iI t.n) (Ay prog Z N true 171 [.ptr b 0] h):=by refine AeN ?_;rw[Bzv];have y:∀f:H,BlW (some none) 2 (.agg (Aez t)) f=.ok (iI t.n) f:=λ_=>rfl;refine zu1 (a b v l i e o q 3 t h p g) λx h2 u z s k j=>?_;subst j;refine wk ?_;exact zr (Ed _) ⟨u,rfl⟩
def BgU(l:List Tok)(i:Int)(n m:Int):Prop:=∃t,0<=t.n/\t.n<=1000000000000000000/\((AfM l i [45]=false/\AlY l i 3 t/\n=t.n/\m=1)\/(AfM l i [45]=true/\AlY l (i+1) 3 t/\n=-t.n/\m=2))
def Bav:Prop:=∀(b:Nat) (v:AV) (l:List Tok) (i e o:Int) (q:List AV) (n m:Int) (h:H),PsR b v l i e o q h->BgU l i n m->AjT b (psC v (i+m) e o q) h (λr _=>r=iI n) (Z.call 220 [.ptr b 0] h)
def B3c(z:AlT Z)(B:Al5 Z)(f:Beo Z){n m:Int}(p:PsR b v l i e o q h)(G:BgU l i n m):AjT b (psC v (i+m) e o q) h (λr _=>r=iI n) (Ay prog Z N true 220 [.ptr b 0] h):=by
 refine AeN ?_;rw[Bz5];have L:=p.i0;obtain⟨t,K,t1,⟨u,x,rfl,rfl⟩|⟨u,x,rfl,rfl⟩⟩:=G
 .refine Fj (z b v l i e o q [45] h p u) λA h2 a I s g=>?_;subst g;refine wk ?_;refine zu1 (f b v l i e o q t h2 (p.gr a) x) λA E k F y j C=>?_;subst C;exact zr (Ed _) ⟨((PG.refl p.get).gr a).trans k,rfl⟩
 .refine zu1 (B b v l i e o q [45] h p u) λA h2 a I s J g=>?_;subst g;refine wk ?_;refine zu1 (f b v l (i+1) e o q t h2 (p.pg a om p.ql) x) λA E k F y j C=>?_;subst C;refine wk ?_;have e4:PG b (psC v (i+1+1) e o q) h E:=a.trans k;rw[show i+1+1=i+2 by omega]at e4
  exact zr (Ed _) ⟨e4,by simp⟩
def Bas:Prop:=∀(b:Nat) (v:AV) (l:List Tok) (i e o:Int) (q:List AV) (t:Tok) (h:H),PsR b v l i e o q h->AlY l i 3 t->t.n≠0->AjT b (psC v (i+1) e o q) h (λr _=>r=iI t.n) (Z.call 166 [.ptr b 0] h)
def B2P(a:Bm3 Z)(f:Beo Z){t:Tok}(p:PsR b v l i e o q h)(s:AlY l i 3 t)(hn:t.n≠0):AjT b (psC v (i+1) e o q) h (λr _=>r=iI t.n) (Ay prog Z N true 166 [.ptr b 0] h):=by refine AeN ?_;rw[Bzq];refine Fj (a b v l i e o q h p) λA h2 g G y C=>?_;refine zu1 (f b v l i e o q t h2 (p.gr g) s) λz F u B k x j=>?_;subst j;have E:decide (t.n=0)=false:=Xn hn;refine wk ?_;exact zr (Ed _) ⟨((PG.refl p.get).gr g).trans u,rfl⟩
def lvO:Bool->Nat->List (List Nat × Int)
|false,0=>[([43],4),([45],5)]
|false,_=>[([42],6)]
|true,0=>[([111,114],16)]
|true,_=>[([97,110,100],15)]
abbrev lvE(c:Bool)(k:Nat):List (AV × AV):=(lvO c k).map λp=>(.str p.1,iI p.2)
def lvS(bb:Nat):Nat->AV
|0=>.sl bb 0 2 2 1 true
|1=>.sl bb 1 1 1 1 true
|_=>.sl bb 1 0 0 1 true
structure LvR(c:Bool)(bb r0 r1:Nat)(h:H):Prop where
 g:h.m.get bb=.cells [.map r0,.map r1] 317 .exact
 m0:h.m.get r0=.map (lvE c 0)
 m1:h.m.get r1=.map (lvE c 1)
 lb:bb<h.nx
 l0:r0<h.nx
 l1:r1<h.nx
def Bpn:Prop:=∀(h:H),Ah h (λr h1=>∃a k f b1 j g,r=.Bj [lvS a 0,lvS b1 0]/\LvR false a k f h1/\LvR true b1 j g h1/\(∀x∈[a,k,f,b1,j,g],h.nx<=x)) (Z.call 223 [] h)
def Bi3 f k x:Z7 f k x []=some [(k,x)]:=rfl
def Bi4 f k x a y(g:f a=some false):Z7 f k x [(a,y)]=some [(a,y),(k,x)]:=by unfold Z7;simp[g];rfl
def B3f:Ah h (λr h1=>∃a k f b1 j g,r=.Bj [lvS a 0,lvS b1 0]/\LvR false a k f h1/\LvR true b1 j g h1/\(∀x∈[a,k,f,b1,j,g],h.nx<=x)) (Ay prog Z N true 223 [] h):=by rw[Bz8];have u:Z7 (Gy prog 9 (.str [45])) (.str [45]) (iI 5) [(.str [43],iI 4)]=some [(.str [43],iI 4),(.str [45],iI 5)]:=Bi4 _ _ _ _ _ (by kernel_rfl);have s:=@Bi3;refine wk ?_;refine zr Ex ⟨h.nx+2,h.nx,h.nx+1,h.nx+5,h.nx+3,h.nx+4,rfl,⟨?_,?_,?_,?_,?_,?_⟩,⟨?_,?_,?_,?_,?_,?_⟩,?_⟩;all_goals first|(simp only[C9];omega)|(simp(disch:=first|exact Ce|fail) [lvE,lvO];done)|(intro x p;simp at p;omega)
end Go.Proofs
namespace Go.Nm
inductive L3 where
|sg (s:List Nat)
|kw (s:List Nat)
|nm (s:List Nat)
|nu (n:Int)
|wd (s:List Nat)
inductive NT where
|ex|un|cd|ng|cm
|ch (c:Bool) (k:Nat)
def opW:Bool->Nat->Int->Option L3
|false,0,4=>some (.sg [43])
|false,0,5=>some (.sg [45])
|false,1,6=>some (.sg [42])
|true,0,16=>some (.kw [111,114])
|true,1,15=>some (.kw [97,110,100])
|_,_,_=>none
def cmW:Int->Option (List Nat)
|9=>some [61]
|10=>some [33,61]
|11=>some [60]
|12=>some [60,61]
|13=>some [62]
|14=>some [62,61]
|_=>none
inductive Aan:NT->Nat->Nat->Tr->List L3->Prop
|num (n:Int):Aan .un 0 0 (.leaf ⟨1,n,[]⟩) [.nu n]
|Zn (c:List Nat):Aan .un 0 0 (.leaf ⟨2,0,c⟩) [.nm c]
|neg {d:Nat} {m:Nat} {a:Tr} {la:List L3}:Aan .un d m a la->Aan .un (d+1) (m+1) (.one 7 a) (.sg [45]::la)
|par {d:Nat} {m:Nat} {a:Tr} {la:List L3}:Aan .ex d m a la->Aan .un (d+1) (m+1) a (.sg [40]::la++[.sg [41]])
|opn {d:Nat} {m:Nat} {t:Tr} {l:List L3}:Aan .un d m t l->Aan (.ch false 2) d (m+1) t l
|opc {d:Nat} {m:Nat} {t:Tr} {l:List L3}:Aan .ng d m t l->Aan (.ch true 2) d (m+1) t l
|up {c:Bool} {k:Nat} {d:Nat} {m:Nat} {t:Tr} {l:List L3}:k<2->Aan (.ch c (k+1)) d m t l->Aan (.ch c k) d (m+1) t l
|bin {c:Bool} {k:Nat} {d1:Nat} {d2:Nat} {m1:Nat} {m2:Nat} {a:Tr} {la:List L3} {b:Tr} {lb:List L3} {op:Int} {x:L3}:k<2->opW c k op=some x->Aan (.ch c k) d1 m1 a la->Aan (.ch c (k+1)) d2 m2 b lb->Aan (.ch c k) (max d1 d2) (m1+m2+1) (.two op a b) (la++x::lb)
|ext {d:Nat} {m:Nat} {t:Tr} {l:List L3}:Aan (.ch false 0) d m t l->Aan .ex d (m+1) t l
|iff {d1:Nat} {d2:Nat} {d3:Nat} {m1:Nat} {m2:Nat} {m3:Nat} {c:Tr} {lc:List L3} {a:Tr} {la:List L3} {b:Tr} {lb:List L3}:Aan .cd d1 m1 c lc->Aan .ex d2 m2 a la->Aan .ex d3 m3 b lb->Aan .ex (max d1 (max d2 d3)+1) (m1+m2+m3+1) (.three c a b) (.kw [105,102]::lc++.kw [116,104,101,110]::la++.kw [101,108,115,101]::lb)
|cnd {d:Nat} {m:Nat} {t:Tr} {l:List L3}:Aan (.ch true 0) d m t l->Aan .cd d (m+1) t l
|not {d:Nat} {m:Nat} {a:Tr} {la:List L3}:Aan .ng d m a la->Aan .ng (d+1) (m+1) (.one 17 a) (.kw [110,111,116]::la)
|bra {d:Nat} {m:Nat} {a:Tr} {la:List L3}:Aan .cd d m a la->Aan .ng (d+1) (m+1) a (.sg [91]::la++[.sg [93]])
|cmp {d:Nat} {m:Nat} {t:Tr} {l:List L3}:Aan .cm d m t l->Aan .ng d (m+1) t l
|two {d1:Nat} {d2:Nat} {m1:Nat} {m2:Nat} {a:Tr} {la:List L3} {b:Tr} {lb:List L3} {op:Int} {s:List Nat}:cmW op=some s->Aan .ex d1 m1 a la->Aan .ex d2 m2 b lb->Aan .cm (max d1 d2) (m1+m2+1) (.two op a b) (la++.sg s::lb)
|wrd {m:Nat} (op:Int) (s c w:List Nat):op=9\/op=10->cmW op=some s->Aan .ex 0 m (.leaf ⟨2,0,c⟩) [.nm c]->Aan .cm 0 (m+1) (.two op (.leaf ⟨2,0,c⟩) (.leaf ⟨3,0,w⟩)) [.nm c,.sg s,.wd w]
end Go.Nm
namespace Go.Proofs
open Go Go.Ev Go.Nm Go.Ev.Sx
variable {j:Tr}
variable {D:Dom}
def Ag1(op o:Int)(right:Bool):Bool:=
 if o=8 then decide (4<=op/\op<=7)
 else if o=4\/o=5 then decide (op=6\/op=7)||right&&decide (op=4\/op=5)
 else if o=6 then decide (op=7)||right&&decide (op=6)
 else if o=16 then decide (op=15\/op=17)||right&&decide (op=16)
 else if o=15 then decide (op=17)||right&&decide (op=15)
 else false
def brk(c a:Bool)(l:List L3):List L3:=if c then(if a then .sg [91]::l++[.sg [93]]else .sg [40]::l++[.sg [41]])else l
def opX(o:Int):L3:=
 if o=4 then .sg [43]else if o=5\/o=7 then .sg [45]else if o=6 then .sg [42]
 else if o=15 then .kw [97,110,100]else if o=16 then .kw [111,114]else if o=17 then .kw [110,111,116]
 else .sg ((cmW o).getD [])
def wr:Tr->List L3
|.leaf x=>if x.op=1 then[.nu x.n]else if x.op=3 then[.wd x.Zn]else[.nm x.Zn]
|.one o a=>opX o::brk (Ag1 o a.op false) (decide (9<=a.op)) (wr a)
|.two o a b=>brk (Ag1 o a.op false) (decide (9<=a.op)) (wr a)++opX o::brk (Ag1 o b.op true) (decide (9<=b.op)) (wr b)
|.three c a b=>.kw [105,102]::wr c++.kw [116,104,101,110]::wr a++.kw [101,108,115,101]::wr b
def nl(o:Int):NT:=
 if o=8 then .ex else if o=4\/o=5 then .ch false 0 else if o=6 then .ch false 1
 else if o=16 then .ch true 0 else if o=15 then .ch true 1 else if o=17 then .ng else if 9<=o then .cm else .un
def RdB(nt:NT)(t:Tr)(l:List L3)(N M:Nat):Prop:=∃d m,d<=N/\m<=M/\Aan nt d m t l
def RdB.le{nt}{t}{l}{N M a f}(h:RdB nt t l N M)(h1:N<=a)(h2:M<=f):RdB nt t l a f:=by have⟨d,m,_,_,g⟩:=h;exact⟨d,m,by omega,by omega,g⟩
def RdB.s{nt a}{t t'}{l l'}{N M k}(h:RdB nt t l N M)(f:∀d m,Aan nt d m t l->Aan a (d+k) (m+1) t' l'):RdB a t' l' (N+k) (M+1):=by have⟨d,m,_,_,g⟩:=h;exact⟨_,_,by omega,by omega,f d m g⟩
def RdB.up{c}{t}{l}{N M}:∀{k j},RdB (.ch c k) t l N M->k<=2->j<=k->RdB (.ch c j) t l N (M+2)
|k,j,h,h2,hj=>by
 by_cases e:j=k;. subst e;exact h.le (Yw _) om
 .by_cases a:j+1=k;. subst a;exact(h.s (k:=0) λd m=>.up om).le (Yw _) om
  .obtain⟨rfl,rfl⟩:k=2/\j=0:=by omega
   exact((h.s (k:=0) λd m=>.up om).s (k:=0) λd m=>.up om).le (Yw _) om
def lvA(o:Int):Nat:=if o=4\/o=5 then 0 else if o=6 then 1 else 2
def lvT(o:Int):Nat:=if o=16 then 0 else if o=15 then 1 else 2
def Bay{t}(h:E7 D false t):t.op=1\/t.op=2\/t.op=4\/t.op=5\/t.op=6\/t.op=7\/t.op=8:=by cases t with
|leaf x=>obtain⟨_,h|h⟩:=h<;>(simp[Tr.op];omega)
|one o a=>rcases h with h|⟨h,_⟩;(simp[Tr.op];omega);grind
|two o a c=>rcases h with h|⟨h,_⟩|⟨h,_⟩|⟨h,_⟩;(simp[Tr.op];omega);all_goals cases h
|three p a c=>simp[Tr.op]
def Bcz{t}(h:E7 D true t):9<=t.op/\t.op<=17:=by cases t with
|leaf x=>cases h.1
|one o a=>rcases h with⟨h,_⟩|h;cases h;(simp[Tr.op];omega)
|two o a c=>rcases h with⟨h,_⟩|h|h|h;cases h;all_goals (simp[Tr.op];omega)
|three p a c=>cases h.1
def BoF{t}{l}{N M}(f:t.op=1\/t.op=2\/t.op=4\/t.op=5\/t.op=6\/t.op=7)(h:RdB (nl t.op) t l N M){k}(a:k<=lvA t.op):RdB (.ch false k) t l N (M+3):=by
 have h2:RdB (.ch false (lvA t.op)) t l N (M+1):=by
  rcases f with e|e|e|e|e|e<;>rw[e]at h ⊢;. exact h.s (k:=0) λd m=>.opn
  .exact h.s (k:=0) λd m=>.opn
  .exact h.le (Yw _) om
  .exact h.le (Yw _) om
  .exact h.le (Yw _) om
  .exact h.s (k:=0) λd m=>.opn
 exact h2.up (by unfold lvA;grind) a
def A2B{t}{l}{N M}(a:E7 D false t)(h:RdB (nl t.op) t l N M):RdB .ex t l N (M+4):=by
 by_cases e:t.op=8;. rw[e]at h;exact h.le (Yw _) om
 .exact(BoF (by have:=Bay a;omega) h (Jv _)).s (k:=0) λd m=>.ext
def Bkm{t}{l}{N M}(a:E7 D false t)(h:RdB (nl t.op) t l N M):RdB .un t (.sg [40]::l++[.sg [41]]) (N+1) (M+5):=
 (A2B a h).s λd m=>.par
def Bkk{N M:Nat}(a:E7 D false j)(h:RdB (nl j.op) j (wr j) N M){o:Int}(f:o=4\/o=5\/o=6)(r:Bool):RdB (.ch false (lvA o+r.toNat)) j (brk (Ag1 o j.op r) (decide (9<=j.op)) (wr j)) (N+1) (M+8):=by
 have t:lvA o+r.toNat<=2:=by unfold lvA;cases r<;>(grind)<;>decide
 have g:=Bay a;cases hc:Ag1 o _ r with
 |true=>rw[(df:decide (9<=j.op)=false)];exact(((Bkm a h).s (k:=0) λd m=>.opn).up (Yw _) t).le (Yw _) om
 |false=>
  have p:j.op≠8:=λe=>by rw[e]at hc;rcases f with rfl|rfl|rfl<;>cases hc
  refine(BoF om h ?_).le om om;rcases f with rfl|rfl|rfl<;>(rcases g with e|e|e|e|e|e|e)<;>rw[e]at hc ⊢<;>cases r<;>revert hc<;>decide
def Bkn{l:List L3}{N M:Nat}(f:E7 D true j)(h:RdB (nl j.op) j l N M){k:Nat}(g:k<=lvT j.op):RdB (.ch true k) j l N (M+4):=by
 have t:=Bcz f;have a:lvT j.op<=2:=by unfold lvT;grind
 have h2:RdB (.ch true (lvT j.op)) j l N (M+2):=by
  have:j.op=15\/j.op=16\/j.op=17\/(9<=j.op/\j.op<=14):=by omega
  rcases this with e|e|e|e;. rw[e]at h ⊢;exact h.le (Yw _) om
  .rw[e]at h ⊢;exact h.le (Yw _) om
  .rw[e]at h ⊢;exact(h.s (k:=0) λd m q=>.opc q).le (Yw _) om
  .rw[(by unfold nl;grind:nl j.op=.cm)]at h;rw[(by unfold lvT;grind:lvT j.op=2)];exact(h.s (k:=0) λd m=>.cmp).s (k:=0) λd m=>.opc
 exact h2.up a g
def Bki{t}{l}{N M}(a:E7 D true t)(h:RdB (nl t.op) t l N M):RdB .cd t l N (M+5):=
 (Bkn a h (Jv _)).s (k:=0) λd m=>.cnd
def Bkh{t}{l}{N M}(a:E7 D true t)(h:RdB (nl t.op) t l N M):RdB .ng t (.sg [91]::l++[.sg [93]]) (N+1) (M+6):=
 (Bki a h).s λd m=>.bra
def Bkl{N M:Nat}(a:E7 D true j)(h:RdB (nl j.op) j (wr j) N M){o}(f:o=15\/o=16) r:RdB (.ch true (lvT o+r.toNat)) j (brk (Ag1 o j.op r) (decide (9<=j.op)) (wr j)) (N+1) (M+9):=by
 have t:lvT o+r.toNat<=2:=by unfold lvT;cases r<;>(grind)
 have g:=Bcz a;cases hc:Ag1 o _ r with
 |true=>rw[(Ws g.1)];exact((Bkh a h).s (k:=0) λd m=>.opc).up (Yw _) t
 |false=>
  refine(Bkn a h ?_).le om om;have:j.op=15\/j.op=16\/9<=j.op/\j.op≠15/\j.op≠16:=by omega
  rcases this with e|e|e;. rw[e]at hc ⊢;rcases f with rfl|rfl<;>cases r<;>revert hc<;>decide
  .rw[e]at hc ⊢;rcases f with rfl|rfl<;>cases r<;>revert hc<;>decide
  .rw[show lvT j.op=2 by unfold lvT;grind];omega
def Bns{c}{k}{o}(h:c=false/\(o=4\/o=5\/o=6)/\k=lvA o\/c=true/\(o=15\/o=16)/\k=lvT o):opW c k o=some (opX o)/\k<2:=by rcases h with⟨rfl,rfl|rfl|rfl,rfl⟩|⟨rfl,rfl|rfl,rfl⟩<;>exact⟨rfl,by decide⟩
def Bkg{c}{k}{o}{a b}{la lb}{N1 R9 f g}(h:c=false/\(o=4\/o=5\/o=6)/\k=lvA o\/c=true/\(o=15\/o=16)/\k=lvT o)(r:RdB (.ch c k) a la N1 f)(j:RdB (.ch c (k+1)) b lb R9 g):RdB (.ch c k) (.two o a b) (la++opX o::lb) (max N1 R9) (f+g+1):=by have⟨h1,h2⟩:=Bns h;have⟨_,_,_,_,p⟩:=r;have⟨_,_,_,_,s⟩:=j;exact⟨_,_,by omega,by omega,.bin h2 h1 p s⟩
def A6K{o}(h:9<=o/\o<=14):cmW o=some ((cmW o).getD [])/\opX o=.sg ((cmW o).getD []):=by
 have:o=9\/o=10\/o=11\/o=12\/o=13\/o=14:=by omega
 rcases this with rfl|rfl|rfl|rfl|rfl|rfl<;>exact⟨rfl,rfl⟩
def Avg{o p}(h:9<=o/\o<=14) r:Ag1 o p r=false:=by
 unfold Ag1;repeat' split
 all_goals simp;all_goals omega
def AmD:∀{t:Tr} {b:Bool},E7 D b t->RdB (nl t.op) t (wr t) (2*hgt t) (20*size t-18)
|.leaf x,b,h=>by
 obtain⟨_,⟨h1,h2,f,h4⟩|⟨h1,h2,f⟩⟩:=h
 .obtain⟨o,n,c⟩:=x;simp only at h1 h2;subst h1;subst h2;exact⟨0,0,Jv _,Jv _,.num n⟩
 .obtain⟨o,n,c⟩:=x;simp only at h1 h2;subst h1;subst h2;exact⟨0,0,Jv _,Jv _,.Zn c⟩
|.one o a,b,h=>by
 have G:=size_pos a;rcases h with⟨rfl,rfl,h2⟩|⟨rfl,rfl,h2⟩
 .have g:=AmD h2;have r:=Bay h2;have u:decide (9<=a.op)=false:=df;have C:RdB .un a (brk (Ag1 7 a.op false) (decide (9<=a.op)) (wr a)) (2*hgt a+1) (20*size a-18+5):=by
   cases hc:Ag1 7 a.op false with
   |true=>rw[u];exact Bkm h2 g
   |false=>refine RdB.le (N:=2*hgt a) (M:=20*size a-18) ?_ om om;rcases r with e|e|e|e|e|e|e<;>rw[e]at hc g<;>first|exact g|cases hc
  exact(C.s (k:=1) (t':=.one 7 a) (l':=.sg [45]::brk (Ag1 7 a.op false) (decide (9<=a.op)) (wr a)) λd m q=>.neg q).le (by simp only[hgt];omega) (by simp only[size];omega)
 .have g:=AmD h2;have r:=Bcz h2;have u:decide (9<=a.op)=true:=Ws r.1;have C:RdB .ng a (brk (Ag1 17 a.op false) (decide (9<=a.op)) (wr a)) (2*hgt a+1) (20*size a-18+6):=by cases hc:Ag1 17 a.op false with
   |true=>rw[u];exact Bkh h2 g
   |false=>
    have:a.op=15\/a.op=16\/a.op=17\/(9<=a.op/\a.op<=14):=by omega
    rcases this with e|e|e|e;. rw[e]at hc;cases hc
    .rw[e]at hc;cases hc
    .rw[e]at g;exact g.le om om
    .have e1:nl a.op=.cm:=by unfold nl;rw[X2 om,X2 om,X2 om,X2 om,X2 om,X2 om,W5 om]
     rw[e1]at g;exact(g.s (k:=0) λd m q=>.cmp q).le om om
  exact(C.s (k:=1) (t':=.one 17 a) (l':=.kw [110,111,116]::brk (Ag1 17 a.op false) (decide (9<=a.op)) (wr a)) λd m q=>.not q).le (by simp only[hgt];omega) (by simp only[size];omega)
|.two o a c,b,h=>by
 have G:=size_pos a;have B:=size_pos c;rcases h with⟨rfl,h1,h2,f⟩|⟨rfl,h1,h2,f⟩|⟨rfl,h1,h2⟩|⟨rfl,h1,h2,f⟩
 .have hn:nl o=.ch false (lvA o):=by rcases h1 with rfl|rfl|rfl<;>rfl
  show RdB (nl o) _ _ _ _;rw[hn];exact(Bkg (.inl ⟨rfl,h1,rfl⟩) (Bkk h2 (AmD h2) h1 false) (Bkk f (AmD f) h1 true)).le (by simp only[hgt];omega) (by simp only[size];omega)
 .have hn:nl o=.cm:=by unfold nl;rw[X2 om,X2 om,X2 om,X2 om,X2 om,X2 om,W5 om]
  show RdB (nl o) _ _ _ _;rw[hn];obtain⟨d1,m1,R,L,z⟩:=A2B h2 (AmD h2);obtain⟨d2,A,r1,O,E⟩:=A2B f (AmD f);obtain⟨e1,j⟩:=A6K h1;refine⟨max d1 d2,m1+A+1,by simp only[hgt];omega,by simp only[size];omega,?_⟩;show Aan .cm _ _ _ (brk (Ag1 o a.op false) _ (wr a)++opX o::brk (Ag1 o c.op true) _ (wr c));rw[Avg h1,Avg h1,j];exact .two e1 z E
 .obtain⟨x,y,rfl,rfl,⟨F,I,x3⟩,J,K,U⟩:=Agn h2;obtain⟨Y,V,c1⟩:=x;obtain⟨T,S,c2⟩:=y;simp only at F I J K;subst F I J K;obtain⟨e1,j⟩:=A6K (o:=o) om;refine⟨0,5,Jv _,by simp only[size];omega,?_⟩;have hn:nl o=.cm:=by rcases h1 with rfl|rfl<;>rfl
  show Aan (nl o) 0 5 _ (brk (Ag1 o 2 false) _ [.nm c1]++opX o::brk (Ag1 o 3 true) _ [.wd c2]);rw[hn,Avg om,Avg om,j];exact .wrd o _ c1 c2 h1 e1 (.ext (.up fe (.up fe (.opn (.Zn c1)))))
 .have hn:nl o=.ch true (lvT o):=by rcases h1 with rfl|rfl<;>rfl
  show RdB (nl o) _ _ _ _;rw[hn];exact(Bkg (.inr ⟨rfl,h1,rfl⟩) (Bkl h2 (AmD h2) h1 false) (Bkl f (AmD f) h1 true)).le (by simp only[hgt];omega) (by simp only[size];omega)
|.three p a c,b,h=>by obtain⟨rfl,h1,h2,f⟩:=h;obtain⟨d1,m1,R,L,z⟩:=Bki h1 (AmD h1);obtain⟨d2,A,r1,O,E⟩:=A2B h2 (AmD h2);obtain⟨d3,P,W,s2,s3⟩:=A2B f (AmD f);have G:=size_pos a;have B:=size_pos c;have Q:=size_pos p;exact⟨max d1 (max d2 d3)+1,m1+A+P+1,by simp only[hgt];omega,by simp only[size];omega,.iff z E s3⟩
open Tryz
attribute [local irreducible] Aa Al Af Ad
variable (Z:Ac)(N:Nat)
variable {b:Nat}{v:AV}{l:List Tok}{i e o:Int}{q:List AV}{h h1:H}
def ke9(a b:List Nat):Gy prog 9 (.str a) (.str b)=some (decide (a=b)):=Bp1 2 a b
def lvF:List (List Nat × Int)->List Nat->Int × Bool
|[],_=>(0,false)
|p::r,t=>if t=p.1 then(p.2,true)else lvF r t
def Atb t:∀r,M1 (Gy prog 9 (.str t)) (r.map λp=>(.str p.1,iI p.2))=some (if(lvF r t).2=true then some (iI (lvF r t).1)else none)
|[]=>rfl
|p::r=>by have a:=Atb t r;unfold M1 lvF;simp[ke9];grind
def Bo5(c:Bool)(k:Nat)(t:List Nat)(a:H)(r:Nat)(f:a.m.get r=.map (lvE c k)):xLk prog 9 (iI 0) true (.map r) (.str t) a=.ok (.Bj [iI (if(lvF (lvO c k) t).2=true then(lvF (lvO c k) t).1 else 0),.bool (lvF (lvO c k) t).2]) a:=by rw[A6J,f,Auf,Atb];cases g:(lvF (lvO c k) t).2<;>rfl
end Go.Proofs
namespace Go.Proofs
open Go Go.Ev Go.Nm Go.Ev.Sx
variable {b:Nat}{X:AO}{h hc h1:H}{v w:AV}{l m:List Nd}{lo:Nat}
def Oo.pg(p:Oo lo h v l)(s:l≠[])(r:b<h.nx)(hn:∀st,h.m.get b≠.Fb st)(u:b<lo)(e:PG b X h h1):Oo lo h1 v l:=by
 have y:=Kd.2 s;rcases p with(h3|h3|⟨b',k,st,rfl,q2,q3,q4,q5,f,a,g,q9⟩)|⟨b',off,cs,rfl,q1,q2,q3,q4⟩;. omega
 .omega
 .exact .inl (.inr (.inr ⟨_,k,_,rfl,by rw[e.Cf _ f om];grind,by rw[e.Cf k a om];omega,q4,q5,Xq f e.lo,Xq a e.lo,g,q9⟩))
 .rcases Sl.pg (.inr ⟨_,_,_,_,_,rfl,Yw _,q1,q2,q3⟩:Sl 3 h (.sl _ _ _ _ 3 true) ..) r hn λb2 off len cap z ex p=>by grind e with⟨_,_,j⟩|⟨b2,x,cap,ex,D7,j,q5,f,a,g⟩;. omega
  .cases j;exact .inr ⟨_,_,_,rfl,f,a,g,q4⟩
def Aw6(k:PG b X h hc)(s:h.nx<=lo)(p:lo<=hc.nx)(j:Oo lo hc v l)(f:Ue hc w m)(y:m≠[])(C:l.length+m.length<=1000):
 ∃v' h',Ds 32 3 32 v w hc=.ok v' h'/\PG b X h h'/\Oo lo h' v' (l++m)/\hc.nx<=h'.nx/\∀c,c<lo->h'.m.get c=hc.m.get c:=by
 rcases j with j|⟨A,off,cs,rfl,x,z,r,B⟩;. have⟨_,_,g,a,p3,_,u⟩:=Fm.AbQ (bytes:=32) j f.src f.Rv om (Ab9 m) p;refine⟨_,_,g,p3 _ s k,.inl ?_,a.lo,u⟩;grind
 .obtain⟨v',h',g,a,p3⟩:=Ahy (bytes:=32) x z r f.src f.Rv om (Ab9 m) (Kd.2 y) p;refine⟨_,_,g,k.gr a,.inl ?_,a.lo,λc hc=>a.Cf c om⟩;grind
def AoI x(k:PG b X h hc)(g:h.nx<=lo)(s:lo<=hc.nx)(u:Oo lo hc v l)(y:l.length<=900):
 ∃v' h',Ds 32 3 32 v (.sl hc.nx 0 1 1 3 true) (hc.new (.cells (Bw x) 32 .exact))=.ok v' h'/\PG b X h h'/\Oo lo h' v' (l++[x])/\hc.nx<=h'.nx/\∀c,c<lo->h'.m.get c=hc.m.get c:=by obtain⟨v',h',r,p,p3,f,j⟩:=Aw6 (m:=[x]) (k.new _) g (Nat.le_succ_of_le s) (u.gr ((Ai.refl _).new _)) (Sl.lit (Bf _) rfl rfl) (by simp) (by grind);exact⟨_,_,r,p,p3,Vr (Et _) f,λc a=>by rw[j c a];exact Cq _ _ om⟩
open Tryz
attribute [local irreducible] Aa Al Af Ad
variable (Z:Ac)(N:Nat)
variable {l:List Tok}{i e o:Int}{q:List AV}
def LvR.Cf{c}{bb r0 r1}(L:LvR c bb r0 r1 h)(hn:h.nx<=h1.nx)(a:∀x,x<h.nx->x≠b->h1.m.get x=h.m.get x)(k:bb≠b)(f:r0≠b)(j:r1≠b):LvR c bb r0 r1 h1:=
 ⟨(a _ L.lb k).trans L.g,(a _ L.l0 f).trans L.m0,(a _ L.l1 j).trans L.m1,Xq L.lb hn,Xq L.l0 hn,Xq L.l1 hn⟩
def Boo bb k(a:k<2) hh:Gc 1 (lvS bb k) (iI 0) hh=.ok (.ptr bb k) hh:=by
 have:k=0\/k=1:=by omega
 rcases this with rfl|rfl<;>rfl
def BoJ(bb k:Nat)(f:k<2) a:xSl prog 281 (lvS bb k) (some (iI 1)) none a=.ok (lvS bb (k+1)) a:=by
 have:k=0\/k=1:=by omega
 have h0:∀bb a,xSl prog 281 (.sl bb 0 2 2 1 true) (some (iI 1)) none a=.ok (.sl bb 1 1 1 1 true) a:=λbb a=>by kernel_rfl
 have h1:∀bb a,xSl prog 281 (.sl bb 1 1 1 1 true) (some (iI 1)) none a=.ok (.sl bb 1 0 0 1 true) a:=λbb a=>by kernel_rfl
 rcases this with rfl|rfl;. exact h0 ..
 .exact h1 ..
def AqN(l:List Tok)(i:Int):List Nat:=((AeL l i [2,5]).getD AiM).t
def Bo4{c}{bb r0 r1 k}(f:k<2):∃r,(r=r0\/r=r1)/\∀a,LvR c bb r0 r1 a->Ae (some none) (.ptr bb k) a=.ok (.map r) a/\∀t,xLk prog 9 (iI 0) true (.map r) (.str t) a=.ok (.Bj [iI (if(lvF (lvO c k) t).2=true then(lvF (lvO c k) t).1 else 0),.bool (lvF (lvO c k) t).2]) a:=by
 have:k=0\/k=1:=by omega
 rcases this with rfl|rfl;. exact⟨_,.inl rfl,λa L=>⟨by rw[Nu,L.g];rfl,λt=>Bo5 c 0 t _ _ L.m0⟩⟩
 .exact⟨_,.inr rfl,λa L=>⟨by rw[Nu,L.g];rfl,λt=>Bo5 c 1 t _ _ L.m1⟩⟩
def BqP(s:AsK Z){hd:H}{c:Bool}{k:Nat}{bb r0 r1:Nat}{f x:AV}{n:Nat}{f0:L2}(p:PsR b v l i e o q hd)(L:LvR c bb r0 r1 hd)(B:bb≠b)(y:r0≠b)(z:r1≠b)(A:k<2)
 (De:(lvF (lvO c k) (AqN l i)).2=false):Ah hd (λr _=>r=x) (Aro Z N (n+1) (.ptr b 0) (lvS bb k) f x f0 hd):=by rw[BcY];refine wk ?_;have C:Ai hd (hd.new (.cells [iI 2,iI 5] 3 .exact)):=(Ai.refl hd).new _;refine Fj (s b v l i e o q (.sl hd.nx 0 2 2 1 true) [2,5] _ (p.gr C) (Sl.lit (Bf _) rfl rfl) (by simp)) λK h2 M I G F=>?_;subst F;obtain⟨r,J,j⟩:=Bo4 A;have O:∀a,Ai _ a->Ae _ ..=.ok ..:=λa g=>(j _ (L.Cf g.lo (λx u _=>g.Cf x u) B y z)).1;have LK:∀a t,Ai _ a->xLk _ 9 _ _ _ ..=.ok ..:=λa t g=>(j _ (L.Cf g.lo (λx u _=>g.Cf x u) B y z)).2 t;have E:=Boo bb k A;unfold AqN at De;simp[C9]at I;refine wk ?_;exact zr Ex rfl
def Bsl(I:AsK Z){hd:H}{c:Bool}{k:Nat}{bb r0 r1:Nat}{f x:AV}{n:Nat}{f0:L2}{A ms:List Nd}{op j e':Int}{Q:AV->H->Prop}(g:PG b (psC v i e o q) h hd)(hb:b<h.nx)(p:PsR b v l i e o q hd)(L:LvR c bb r0 r1 h)(E:bb≠b)(B:r0≠b)(C:r1≠b)(K:k<2)
 (De:lvF (lvO c k) (AqN l i)=(op,true)) (y:Oo h.nx hd x A) (hn:A≠[]) (hms:ms≠[]) (Fc:A.length+ms.length<=800)
 (hc:∀h2,PG b (psC v (i+1) e o q) h h2->PsR b v l (i+1) e o q h2->AjT b (psC v j e o q) h2 (λr z=>Oo h2.nx z r ms) (Z.call 224 [.ptr b 0,lvS bb (k+1),f] h2))
 (next:∀x' h' J,PG b (psC v j e o q) h h'->Oo h.nx h' x' (A++ms++[⟨op,0,[]⟩])->Ah H0 Q (Aro Z N n (.ptr b 0) (lvS bb k) f x' J h')):
 Ah H0 Q (Aro Z N (n+1) (.ptr b 0) (lvS bb k) f x f0 hd):=by
 rw[BcY];refine wk ?_;have S:Ai hd (hd.new (.cells [iI 2,iI 5] 3 .exact)):=(Ai.refl hd).new _;refine Fj (I b v l i e o q (.sl hd.nx 0 2 2 1 true) [2,5] _ (p.gr S) (Sl.lit (Bf _) rfl rfl) (by simp)) λv1 h2 e2 l2 F Y=>?_;subst Y;have P:=S.trans e2;have ge:=g.gr P;have u:LvR c bb r0 r1 hd:=L.Cf (b:=b) g.lo g.Cf E B C;obtain⟨r,V,s⟩:=Bo4 (c:=c) (bb:=bb) (r0:=r0) (r1:=r1) K;have LL:∀a,Ai hd a->Ae (some none) (.ptr bb k) a=.ok (.map r) a:=λa g=>(s a (u.Cf (b:=b) g.lo (λx y _=>g.Cf x y) E B C)).1;have LK:∀a t,Ai hd a->xLk prog 9 (iI 0) true (.map r) (.str t) a=.ok (.Bj [iI (if(lvF (lvO c k) t).2=true then(lvF (lvO c k) t).1 else 0),.bool (lvF (lvO c k) t).2]) a:=λa t g=>(s a (u.Cf (b:=b) g.lo (λx y _=>g.Cf x y) E B C)).2 t;have hia:=Boo bb k K;have Z3:=BoJ bb k K;have hg2:h2.m.get b=psC v i e o q:=(P.Cf b p.lt).trans p.get;have B6:=p.lt;have H4:=p.i0;have T:=p.Mu;have W:=p.ql;have hil:i<(l.length:Int):=by
  by_cases hi:i<(l.length:Int)
  .exact hi
  .exfalso;have:AqN l i=[]:=by unfold AqN AeL;rw[ak om];rfl
   rw[this]at De;have:k=0\/k=1:=by omega
   rcases this with rfl|rfl<;>cases c<;>cases De
 unfold AqN at De;simp only[C9]at l2;generalize AeL l i [2,5]=po at De;have B9k:(lvF (lvO c k) (po.getD AiM).t).2=true:=by rw[De]
 have B9j:(lvF (lvO c k) (po.getD AiM).t).1=op:=by rw[De]
 clear s V De F;refine wk ?_;refine zu1 (hc _ ?_ ?_) λv1 z M l3 Ary A1s q3=>?_
 .exact(g.gr Ex).put _
 .exact p.pg (((PG.refl p.get).gr Ex).put _) om p.ql
 have R:PG b (psC v j e o q) h z:=PG.trans ((g.gr Ex).put _) M;have U:PG b (psC v j e o q) hd z:=PG.trans (((PG.refl p.get).gr Ex).put _) M;have G:=y.pg hn B6 (λst a=>by rw[p.get]at a;cases a) hb U;obtain⟨v2,h4,p1,O,p3,p4,p5⟩:=Aw6 R (Yw _) R.lo G q3.sl hms om;refine Ey p1 ?_;refine wk ?_;obtain⟨v5,h5,s1,s2,s3,s4,s5⟩:=AoI ⟨op,0,[]⟩ O (Yw _) O.lo p3 (by rw[X8];omega);refine Ey s1 ?_;exact next _ _ _ s2 s3
def AeT(t:Tok):L3->Prop
|.sg s=>t.k=5/\t.t=s
|.kw s=>t.k=2/\t.t=s
|.nm s=>t.k=1/\t.t=s
|.nu n=>t.k=3/\t.n=n
|.wd s=>t.k=4/\t.t=s
def AaO(l:List Tok):Nat->List L3->Prop
|_,[]=>True
|i,x::r=>(∃t,l[i]?=some t/\AeT t x)/\AaO l (i+1) r
def AaO.app{l}:∀{a b} {i},AaO l i (a++b) ↔ AaO l i a/\AaO l (i+a.length) b
|[],b,i=>by simp[AaO]
|x::a,b,i=>by have f:=AaO.app (l:=l) (a:=a) (b:=b) (i:=i+1);show(∃t,l[i]?=some t/\AeT t x)/\AaO l _ (a++b) ↔ ((∃t,l[i]?=some t/\AeT t x)/\AaO l _ a)/\AaO l _ b;grind
def AmQ(c:Bool)(k:Nat)(l:List Tok)(j:Nat):Prop:=∀k',k<=k'->k'<2->(lvF (lvO c k') (AqN l j)).2=false
def Stop:NT->List Tok->Nat->Prop
|.un,_,_=>True
|.ch false k,l,j=>AmQ false k l j
|.ch true k,l,j=>AmQ false 0 l j/\AmQ true k l j
|.cd,l,j=>AmQ false 0 l j/\AmQ true 0 l j
|_,l,j=>AmQ false 0 l j
def fnO(b:Nat):Bool->AV
|false=>.fn (.func 288) [.ptr b 0] []
|true=>.fn (.func 225) [.ptr b 0] []
def Reads(run:Nat->H->OR)(nt:NT)(t:Tr)(xs:List L3)(d:Nat):Prop:=∀(b:Nat) (v:AV) (l:List Tok) (n:Nat) (e o:Int) (q:List AV) (h:H),
 PsR b v l n e o q h->AaO l n xs->Stop nt l (n+xs.length)->0<=o->o+d<=50->t.nodes.length<=200->AjT b (psC v ((n+xs.length:Nat):Int) e o q) h (λr h1=>Oo h.nx h1 r t.nodes) (run b h)
def AlB(run:Nat->Nat->H->OR)(c:Bool)(k:Nat)(t:Tr)(xs:List L3)(d:Nat):Prop:=∀(bb r0 r1:Nat),∀(b:Nat) (v:AV) (l:List Tok) (n:Nat) (e o:Int) (q:List AV) (h:H),LvR c bb r0 r1 h->bb≠b->r0≠b->r1≠b ->
 PsR b v l n e o q h->AaO l n xs->Stop (.ch c k) l (n+xs.length)->0<=o->o+d<=50->t.nodes.length<=200->AjT b (psC v ((n+xs.length:Nat):Int) e o q) h (λr h1=>Oo h.nx h1 r t.nodes) (run bb b h)
abbrev call224(Z:Ac)(c:Bool)(k:Nat):Nat->Nat->H->OR:=λbb b h=>Z.call 224 [.ptr b 0,lvS bb k,fnO b c] h
def Reach(c:Bool)(k:Nat)(t:Tr)(xs:List L3)(d:Nat):Prop:=∀(bb r0 r1:Nat),∀(b:Nat) (v:AV) (l:List Tok) (n:Nat) (e o:Int) (q:List AV) (h:H),LvR c bb r0 r1 h->bb≠b->r0≠b->r1≠b ->
 PsR b v l n e o q h->AaO l n xs->AmQ c (k+1) l (n+xs.length)->(c=true->AmQ false 0 l (n+xs.length))->0<=o->o+d<=50->t.nodes.length<=200->∀Q:AV->H->Prop,
 (∀x' h' a m,N<=m+t.nodes.length->PG b (psC v ((n+xs.length:Nat):Int) e o q) h h'->Oo h.nx h' x' t.nodes->Ah H0 Q (Aro Z N m (.ptr b 0) (lvS bb k) (fnO b c) x' a h')) ->
 Ah H0 Q (Ay prog Z N true 224 [.ptr b 0,lvS bb k,fnO b c] h)
def BrK bb k(a:k<2) hh:Fo (lvS bb k) hh=.ok (iI (2-k:Nat)) hh:=by
 have:k=0\/k=1:=by omega
 rcases this with rfl|rfl<;>rfl
def Bko{c}{k}{t}{xs}{d}(j:k<2)(u:AlB (call224 Z c (k+1)) c (k+1) t xs d):Reach Z N c k t xs d:=by intro bb r0 r1 b v l n e o q h L y r s p A a f h0 hd z Q next;rw[BqL];have g:=BrK bb k j;have I:=BoJ bb k j;refine wk (zu1 (u _ _ _ b v l n e o q h L y r s p A (by cases c with|false=>exact a|true=>exact⟨f rfl,a⟩) h0 hd z) λF J E C B x G=>?_);grind
def AoJ{l}{n:Nat}{t}(h1:l[n]?=some t)(h2:t.k=2\/t.k=5):AqN l n=t.t:=by unfold AqN AeL;grind
def Bnt{c:Bool}{k:Nat}{op:Int}{x:L3}(De:opW c k op=some x){l:List Tok}{n:Nat}{t:Tok}(h1:l[n]?=some t)(h2:AeT t x):
 lvF (lvO c k) (AqN l (n:Int))=(op,true)/\AmQ c (k+1) l n/\(c=true->AmQ false 0 l n):=by unfold opW at De;split at De;all_goals first|cases De;all_goals
  have⟨j,f⟩:=h2;have hn:=AoJ h1 (by omega);rw[f]at hn;refine⟨by rw[hn];rfl,λk' a g=>?_,λhc k' a g=>?_⟩;all_goals first|grind|skip;all_goals
  rw[hn];have:k'=0\/k'=1:=by omega
  rcases this with rfl|rfl<;>first|omega|rfl
def Bge(hN:300<=N){c:Bool}{k:Nat}{op:Int}{x:L3}{a g:Tr}{la lb:List L3}{d1 d2:Nat}(hk:k<2)(De:opW c k op=some x)(E:AsK Z)(Y:Reach Z N c k a la d1)(M:AlB (call224 Z c (k+1)) c (k+1) g lb d2):
 Reach Z N c k (.two op a g) (la++x::lb) (max d1 d2):=by
 intro bb r0 r1 b v l n e o q h L z u y p R f r h0 hd hs Q next;obtain⟨A,⟨t,P,C⟩,B⟩:=AaO.app.1 R;obtain⟨V,K,W⟩:=Bnt De P C;have s:n+(la++x::lb).length=n+la.length+1+lb.length:=by grind
 rw[s]at f r next;have Bba:(Tr.two op a g).nodes=a.nodes++g.nodes++[⟨op,0,[]⟩]:=rfl;have Fc:(Tr.two op a g).nodes.length=a.nodes.length+g.nodes.length+1:=by grind
 refine Y bb r0 r1 b v l n e o q h L z u y p A K W h0 om om Q λx' h' f0' m hm J F=>?_;obtain⟨G,rfl⟩:∃G,m=G+1:=⟨m-1,by omega⟩;have p':=p.pg J om p.ql;refine Bsl Z N E J p.lt p' L z u y hk V F (Tf a) (Tf g) om (e':=e) (j:=((n+la.length+1+lb.length:Nat):Int)) (λh2 I p2=>?_) λO U T S nd=>?_;. have L2:LvR c bb r0 r1 h2:=L.Cf (b:=b) I.lo I.Cf z u y;refine M bb r0 r1 b v l (n+la.length+1) e o q h2 L2 z u y (by grind) B ?_ h0 om om;cases c with
   |false=>exact f
   |true=>exact⟨r rfl,f⟩
 grind
def A8W(J:300<=N){c}{k}{t}{xs}{d}(A:k<2)(x:AsK Z)(B:Reach Z N c k t xs d):AlB (λbb b h=>Ay prog Z N true 224 [.ptr b 0,lvS bb k,fnO b c] h) c k t xs d:=by
 intro bb r0 r1 b v l n e o q h L s g j p E u h0 hd C;apply AeN;have a:AmQ c k l (n+xs.length)/\(c=true->AmQ false 0 l (n+xs.length)):=by cases c with
  |false=>exact⟨u,λhc=>by grind⟩
  |true=>exact⟨u.2,λ_=>u.1⟩
 refine B _ _ _ b v l n e o q h L s g j p E (λk' h1=>a.1 _ om) a.2 h0 hd C _ λx' h' F m K f y=>?_;obtain⟨z,rfl⟩:∃z,m=z+1:=⟨m-1,by omega⟩;obtain⟨I,h1,r,e1,G⟩:=BqP Z N x (p.pg f om p.ql) (L.Cf f.lo f.Cf s g j) s g j A (a.1 k (Yw _) A);exact⟨_,_,r,Ed _,f.gr e1,by rw[G];exact y.gr e1⟩
def cvF{P}{Z}{h} g a c args(f:Bg P g=true):cvV (.fn (.func g) a c) args P Z h=Z.call g (a++args++c) h:=by show @Bool.rec _ _ ..=_;rw[Dl,Dl,f]
def BuC x y h:cvV (.fn (.func 313) [] [x,y]) [] prog Z h=Z.call 313 [x,y] h:=cvF _ _ _ _ rfl
def BuD x y h:cvV (.fn (.func 314) [] [x,y]) [] prog Z h=Z.call 314 [x,y] h:=cvF _ _ _ _ rfl
def Bu9 x y h:cvV (.fn (.func 257) [] [x,y]) [] prog Z h=Z.call 257 [x,y] h:=cvF _ _ _ _ rfl
def BuA x y h:cvV (.fn (.func 258) [] [x,y]) [] prog Z h=Z.call 258 [x,y] h:=cvF _ _ _ _ rfl
def BuB x y h:cvV (.fn (.func 289) [] [x,y]) [] prog Z h=Z.call 289 [x,y] h:=cvF _ _ _ _ rfl
def BnT x h:cvV (.fn (.func 288) [x] []) [] prog Z h=Z.call 288 [x] h:=cvF _ _ _ _ rfl
def Bu8 x h:cvV (.fn (.func 225) [x] []) [] prog Z h=Z.call 225 [x] h:=cvF _ _ _ _ rfl
variable {pb c:Nat}{n d:Nat}{t:Tr}{xs:List L3}
structure AsJ(b pb c:Nat)(v:AV)(h:H):Prop where
 p:h.m.get pb=.cells [.ptr b 0] 156 .exact
 w:∃w,h.m.get c=AeK 22 w
 pl:pb<h.nx
 cl:c<h.nx
 np:pb≠b
 nc:c≠b
 npc:pb≠c
 av:∀b' off n cap z ex,v=.sl b' off n cap z ex->b'≠c
def AsJ.pg{X}(k:AsJ b pb c v h)(g:PG b X h h1):AsJ b pb c v h1:=by have⟨w,a⟩:=k.w;exact⟨(g.Cf _ k.pl k.np).trans k.p,⟨w,(g.Cf _ k.cl k.nc).trans a⟩,Xq k.pl g.lo,Xq k.cl g.lo,k.np,k.nc,k.npc,k.av⟩
def Oo.AnO{lo}{a}{v w:AV}(f:Oo lo h v a)(hn:a≠[])(hc:c<lo)(g:c<h.nx)(j:∃w,h.m.get c=AeK 22 w) Y:Oo lo (h.put c Y) v a:=by exact f.pg hn g λst k=>by grind hc ((PG.refl rfl).put Y)
def Bu5{g:FuncId}{nt:NT}(x:Reads (λb h=>Z.call g [.ptr b 0] h) nt t xs d)(p:PsR b v l n e o q h)(K:AsJ b pb c v h)(A:AaO l n xs)(z:Stop nt l (n+xs.length))(h0:0<=o)(hd:o+d<=50)(G:t.nodes.length<=200):
 Ao8 b (psC v ((n+xs.length:Nat):Int) e o q) c 22 h (λw h1=>Oo h.nx h1 w t.nodes) ((mM (lN (.ptr pb 0)) λa=>mM (Z.call g [a]) λE=>mM (A4 1 (.ptr c 0) E) λM=>.ok (.Bj [])) h):=by
 refine Ats ?_;have kp:=K.p;obtain⟨w0,kw⟩:=K.w;have C:=K.pl;have r:=K.cl;have F:=K.nc;refine wk ?_;refine zu1 (x b v l n e o q h p A z h0 hd G) λa O s J j y u=>?_;have K3:=K.pg s;obtain⟨P,f⟩:=K3.w;have B:=B2 u.sl;obtain⟨I,L⟩:=B;have k:=K3.cl;clear j kw;refine wk ?_;exact zr (Ed _) ⟨a,PG2.of s _,u.AnO (w:=a) (Tf t) r k ⟨_,f⟩ _⟩
def Ajl{l}{n:Nat}{s}(h1:∃t,l[n]?=some t/\AeT t (.sg s)):AfM l n s=true:=by have⟨t,_,_,_⟩:=h1;unfold AfM;grind
def An8{l}{n:Nat}{s}(h1:∃t,l[n]?=some t/\AeT t (.kw s)):AfM l n s=true:=by have⟨t,_,_,_⟩:=h1;unfold AfM;grind
def Bu6{g:FuncId}{nt:NT}{s:List Nat}(M:Reads (λb h=>Z.call g [.ptr b 0] h) nt t xs d)(C:AmR Z)(p:PsR b v l n e o q h)(K:AsJ b pb c v h)(S:AaO l n (xs++[.sg s]))(R:Stop nt l (n+xs.length))(h0:0<=o)(hd:o+d<=50)(hz:t.nodes.length<=200):
 Ao8 b (psC v ((n+xs.length+1:Nat):Int) e o q) c 22 h (λw h1=>Oo h.nx h1 w t.nodes) ((mM (lN (.ptr pb 0)) λf=>mM (Z.call g [f]) λU=>mM (A4 1 (.ptr c 0) U) λv3=>mM (lN (.ptr pb 0)) λP=>mM (Z.call 163 [P,(.str s)]) λL=>.ok (.Bj [])) h):=by
 refine Ats ?_;obtain⟨z,A,_⟩:=AaO.app.1 S;have kp:=K.p;obtain⟨w0,kw⟩:=K.w;have T:=K.pl;have B:=K.cl;have r:=K.nc;refine wk ?_;refine zu1 (M b v l n e o q h p z R h0 hd hz) λf E x l3 y O G=>?_;have K3:=K.pg x;have p3:=p.pg x om p.ql;obtain⟨w3,j⟩:=K3.w;obtain⟨o2,o3⟩:=B2 G.sl;have k:=K3.cl;have Q:=K3.p;have V:=K.npc;clear y kw kp;refine wk ?_;have q4:=G.AnO (w:=f) (Tf t) B k ⟨_,j⟩ (AeK 22 f);have J:PG c (AeK 22 f) E (E.put c (AeK 22 f)):=(PG.refl rfl).put _;have u:PsR b v l ((n+xs.length:Nat):Int) e o q (E.put c (AeK 22 f)):=⟨(J.Cf b p3.lt (λa=>r a.symm)).trans p3.get,p3.lt,Sl.pg p3.AsD k (λst a=>by rw[j]at a;cases a) ?_ J,p3.av,p3.one,p3.i0,p3.Mu,p3.ql⟩
 .refine zu1 (C b v l _ e o q s _ u (Ajl A)) λL h5 F l5 Y W q5=>?_;have I:=(PG2.of x (AeK 22 f)).trP (λa=>r a.symm) F;rw[show((n+xs.length:Nat):Int)+1=((n+xs.length+1:Nat):Int)by omega]at I
  exact zr (Ed _) ⟨f,I,q4.pg (Tf t) u.lt (λst a=>by rw[u.get]at a;cases a) p.lt F⟩
 .exact K.av
def B3m{E:List Nd}(z:E≠[]){s:List Nat}{f:AV}{j:Nat}{W:H->AV->H->Prop}(C:AmR Z)(p:PsR b v l n e o q h)(hc:c≠b)(V:c<h.nx)(L:AfM l (n:Int) s=true)(h0:0<=o)(M:o<50)
 (hf:∀h2,PG b (psC v ((n+1:Nat):Int) e (o+1) q) h h2->Ao8 b (psC v (j:Int) e (o+1) q) c 22 h2 (λw F=>Oo h2.nx F w E) (cvV f [] prog Z h2)):
 Ao8 b (psC v (j:Int) e o q) c 22 h (λw h1=>Oo h.nx h1 w E) (Ay prog Z N true 256 [.ptr b 0,.str s,f] h):=by
 refine Ats ?_;rw[BzF];have P:=p.get;have y:=p.lt;have Q:=p.ql;have J:decide ((50:Int)<=o)=false:=df;refine wk ?_;rw[Bmt];clear J;refine wk ?_;have G:PG b (psC v n e (o+1) q) h (h.put b (psC v n e (o+1) q)):=(PG.refl rfl).put _;have I:=p.pg G om p.ql;refine zu1 (C b v l n e (o+1) q s _ I L) λT h2 K U u B S=>?_;have g:PG b (psC v ((n+1:Nat):Int) e (o+1) q) h h2:=G.trans K;refine zu2 (hf h2 g) λw Y F r R O=>?_;have x:=r.B0m (Xq y g.lo) (λa=>hc a.symm);have A:b<F.nx:=Xq y (Vr g.lo r.lo);clear P u B I;refine wk ?_;have k:h.nx<=h2.nx:=g.lo;exact zr (Ed _) ⟨w,(PG2.pre g r).To (λa=>hc a.symm) _,(O.Y5 k).pg z A (λst a=>by rw[x]at a;cases a) y ((PG.refl rfl).put _)⟩
end Go.Proofs
