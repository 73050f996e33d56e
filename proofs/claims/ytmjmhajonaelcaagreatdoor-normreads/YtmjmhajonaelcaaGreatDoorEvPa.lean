/- The parser: comparisons. -/
import Derived.Test.YtmjmhajonaelcaaGreatDoorEvNa
import Derived.Test.YtmjmhajonaelcaaGreatDoorEvQd
set_option linter.all false
set_option maxRecDepth 100000
noncomputable section
namespace Go.Proofs
open Go Go.Ev Go.Nm Tryz Go.Ev.Sx
attribute [local irreducible] Aa Al Af Ad
variable (Z:Ac)(N:Nat)
structure Tok where
 k:Int
 t:List Nat
 n:Int
 a:Int
abbrev Aez(x:Tok):uw:=[iI x.k,.str x.t,iI x.n,iI x.a]
@[simp] abbrev AiM:Tok:=⟨0,[],0,0⟩
abbrev Yg(v:AV)(i e o:Int)(q:uw):AO:=cz (v::iI i::iI e::iI o::q) 46
structure PsR(b:Nat)(v:AV)(l:List Tok)(i e o:Int)(q:List AV)(h:H):Prop where
 get:h.m.get b=Yg v i e o q
 lt:b<h.nx
 AsD:R0 4 Aez h v l
 av:∀b' off n cap z ex,v=.sl b' off n cap z ex->b'≠b
 one:Ge v=true/\cellsOf v=some [v]
 i0:0<=i
 Mu:l.length<=2000
 ql:q.length=20
variable {b:Nat}{v:AV}{l:List Tok}{i e o:Int}{q:uw}{h h1:H}
def PsR.gr(p:PsR b v l i e o q h)(g:Ai h h1):PsR b v l i e o q h1:=
 ⟨(g.Cf b p.lt).trans p.get,Xq p.lt g.lo,p.AsD.gr g,p.av,p.one,p.i0,p.Mu,p.ql⟩
def PsR.pg(p:PsR b v l i e o q h){f k r}{j}(g:PG b (Yg v f k r j) h h1)(hi:0<=f)(hq:j.length=20):PsR b v l f k r j h1:=
 ⟨g.get p.lt,Xq p.lt g.lo,Sl.pg p.AsD p.lt λst s=>by rw[p.get]at s;grind p.av g,p.av,p.one,hi,p.Mu,hq⟩
def AeL(l:List Tok)(i:Int)(f:List Int):Option Tok:=match l[i.toNat]? with
|some t=>if t.k∈f then some t else none
|none=>none
abbrev Ane(n:Int):uw:=[iI n]
def BdK(w:AV)(g:List Int)(x:Tok)(h:H)(J:R0 1 Ane h w g)(p j:Nat)(C:h.nx<=p)(R:h.nx<=j)(F:p≠j)(P:g.length<=5):
 ∀(k i n:Nat) (hd:H) (f0:L2),i+k=g.length->k<n->Ai h hd->hd.m.get p=cz (Aez AiM) 48->hd.m.get j=cz (Aez x) 48->p<hd.nx->j<hd.nx ->
  Ah h (λr _=>r=.Bj [.agg (Aez (if x.k∈g.drop i then x else AiM)),.bool (decide (x.k∈g.drop i))]) (A3x Z N n (.ptr p 0) (.ptr j 0) w (iI g.length) (iI i) f0 hd)
 |0,i,n,hd,f0,S,hn,u,g4,g6,K,L=>by obtain⟨n1,rfl⟩:∃n1,n=n1+1:=⟨n-1,by omega⟩;have M:decide ((i:Int)<(g.length:Int))=false:=df;rw[BcP];have I:g.drop i=[]:=S1 om;rw[I];refine wk ?_;exact zr (u.put _ _ C) rfl
 |k+1,i,n,hd,f0,S,hn,u,g4,g6,K,L=>by
  obtain⟨n1,rfl⟩:∃n1,n=n1+1:=⟨n-1,by omega⟩;have T:=BdK w g x h J p j C R F P k (i+1) n1;have M:decide ((i:Int)<(g.length:Int))=true:=dt;obtain⟨y,E⟩:∃y,g[i]?=some y:=⟨_,Oh om⟩;obtain⟨U,V,B⟩:=R0.elem (f:=Ane) (s:=1) (λ_=>rfl) (Sl.By J u.keeps) E;have W:=B.ia;have Q:=B.part 0 _ rfl;rw[Vw]at Q;have G:g.drop i=y::g.drop (i+1):=by obtain⟨hi,A⟩:=Wp.1 E;rw[bc hi,A]
  rw[G];rw[BcP];clear B E;by_cases k2:x.k=y
  .have O:decide (x.k=y)=true:=Ws k2;have z:x.k∈y::g.drop (i+1):=by rw[k2];exact Wm ..
   rw[Xo z,Ws z];refine wk ?_;exact zr (u.put _ _ C) (by rw[<- k2])
  .have O:decide (x.k=y)=false:=Yc k2;have z:(x.k∈y::g.drop (i+1)) ↔ x.k∈g.drop (i+1):=by simp[k2]
   simp only[z];refine wk ?_;exact T _ _ om om u g4 g6 K L
def AsK:Prop:=∀(b:Nat) (v:AV) (l:List Tok) (i e o:Int) (q:uw) (w:AV) (f:List Int) (h:H),PsR b v l i e o q h->R0 1 Ane h w f->f.length<=5 ->
 Ah h (λr _=>r=.Bj [.agg (Aez ((AeL l i f).getD AiM)),.bool (AeL l i f).isSome]) (Z.call 13 [.ptr b 0,w] h)
def B2x(T:10<N){w:AV}{g:List Int}(p:PsR b v l i e o q h)(C:R0 1 Ane h w g)(G:g.length<=5):Ah h (λr _=>r=.Bj [.agg (Aez ((AeL l i g).getD AiM)),.bool (AeL l i g).isSome]) (Ay prog Z N false 13 [.ptr b 0,w] h):=by
 rw[ByO];have M:=p.get;have S:=p.lt;have F:=p.i0;have K:=p.Mu;have B:∀u,Fo v u=.ok (iI (l.length:Int)) u:=λ_=>p.AsD.Gs;have J:∀u,Fo w u=.ok (iI (g.length:Int)) u:=λ_=>C.Gs;have z:((i.toNat:Nat):Int)=i:=Tb F;obtain⟨P,O⟩:=p.one;by_cases hi:i<(l.length:Int)
 .have E:decide ((l.length:Int)<=i)=false:=df;obtain⟨x,A⟩:∃x,l[i.toNat]?=some x:=⟨_,Oh om⟩;obtain⟨L,Q,y⟩:=R0.elem (f:=Aez) (s:=4) (λ_=>rfl) p.AsD A;have I:=y.ia;rw[z]at I;have R:=y.all;have j:AeL l i g=if x.k∈g then some x else none:=by unfold AeL;rw[A]
  rw[j];clear y A j z p;refine wd ?_;refine(BdK Z N w g x h C _ _ ?_ ?_ ?_ G g.length 0 N _ _ ?_ ?_ Ex (by simp(disch:=first|exact Ce|fail) [Aez]) (by simp(disch:=first|exact Ce|fail) [Aez]) ?_ ?_).mono ?_;. exact Ye _
  .omega
  .omega
  .omega
  .omega
  .simp only[C9];omega
  .simp only[C9];omega
  grind
 .have E:decide ((l.length:Int)<=i)=true:=dt;have j:AeL l i g=none:=by unfold AeL;rw[ak om]
  rw[j];clear p z;refine wd ?_;exact zr Ex rfl
def Bm3:Prop:=∀(b:Nat) (v:AV) (l:List Tok) (i e o:Int) (q:uw) (h:H),PsR b v l i e o q h->Ah h (λr _=>∃n,r=iI n) (Z.call 16 [.ptr b 0] h)
def B2z(p:PsR b v l i e o q h):Ah h (λr _=>∃n,r=iI n) (mr Z N 16 [.ptr b 0] h):=by
 rw[ByQ];have I:=p.get;have G:=p.lt;have A:=p.i0;have C:=p.Mu;have u:∀j,Fo v j=.ok (iI (l.length:Int)) j:=λ_=>p.AsD.Gs;have k:((i.toNat:Nat):Int)=i:=Tb A;by_cases hi:i<(l.length:Int);. have z:decide (i<(l.length:Int))=true:=Ws hi;obtain⟨x,y⟩:∃x,l[i.toNat]?=some x:=⟨_,Oh om⟩;obtain⟨F,E,g⟩:=R0.elem (f:=Aez) (s:=4) (λ_=>rfl) p.AsD y;have B:=g.ia;rw[k]at B;have J:=g.part 3 _ rfl;clear g y k p;refine wk ?_;exact zr Ex ⟨_,rfl⟩
 .have z:decide (i<l.length)=false:=Yc hi;refine wk ?_;exact zr Ex ⟨_,rfl⟩
def AfM(l:List Tok)(i:Int)(s:uq):Bool:=match l[i.toNat]? with
|some t=>decide (t.k=2\/t.k=5)&&decide (t.t=s)
|none=>false
def Av6:Prop:=∀(b:Nat) (v:AV) (l:List Tok) (i e o:Int) (q:uw) (s:uq) (h:H),PsR b v l i e o q h->Ah h (λr _=>r=.bool (AfM l i s)) (Z.call 73 [.ptr b 0,.str s] h)
def B3e(f:AsK Z)(s:uq)(p:PsR b v l i e o q h):Ah h (λr _=>r=.bool (AfM l i s)) (mr Z N 73 [.ptr b 0,.str s] h):=by
 rw[Bz7];refine wk ?_;refine Fj (f b v l i e o q (.sl h.nx 0 2 2 1 true) [2,5] _ (p.gr Ex) (Sl.lit (Bf _) rfl rfl) (by simp)) λy x z j g u=>?_;subst u;simp[C9]at j;have k:AfM l i s=match AeL l i [2,5]with|some t=>decide (t.t=s)|none=>false:=by unfold AfM AeL;grind
 rw[k];cases AeL l i _ with
 |none=>refine wk ?_;exact zr Ex rfl
 |some t=>refine wk ?_;exact zr Ex rfl
def AlT:Prop:=∀(b:Nat) (v:AV) (l:List Tok) (i e o:Int) (q:uw) (s:uq) (h:H),PsR b v l i e o q h->AfM l i s=false->Ah h (λr _=>r=ux) (Z.call 40 [.ptr b 0,.str s] h)
def Bw1(f:Av6 Z){s}(p:PsR b v l i e o q h)(j:AfM l i s=false):Ah h (λr _=>r=ux) (mr Z N 40 [.ptr b 0,.str s] h):=by rw[BuI];have h1:=f b v l i e o q s h p;rw[j]at h1;refine Fj h1 λy u z x g k=>?_;subst k;exact wk (zr Ex rfl)
def Bkq{l}{i}{s}(g:0<=i)(f:AfM l i s=true):i<l.length:=by unfold AfM at f;grind
def Al5:Prop:=∀(b:Nat) (v:AV) (l:List Tok) (i e o:Int) (q:uw) (s:uq) (h:H),PsR b v l i e o q h->AfM l i s=true->AjT b (Yg v (i+1) e o q) h (λr _=>r=uz) (Z.call 40 [.ptr b 0,.str s] h)
def Bw2(f:Av6 Z){s}(p:PsR b v l i e o q h)(g:AfM l i s=true):AjT b (Yg v (i+1) e o q) h (λr _=>r=uz) (mr Z N 40 [.ptr b 0,.str s] h):=by apply AeN;rw[BuI];have h1:=f b v l i e o q s h p;rw[g]at h1;have x:=p.get;have F:=p.lt;have j:=p.i0;have A:=p.Mu;have u:=Bkq j g;refine Fj h1 λE B z C k y=>?_;subst y;refine wk ?_;exact zr (Ed _) ⟨((PG.refl x).gr z).put _,rfl⟩
def AmR:Prop:=∀(b:Nat) (v:AV) (l:List Tok) (i e o:Int) (q:uw) (s:uq) (h:H),PsR b v l i e o q h->AfM l i s=true->AjT b (Yg v (i+1) e o q) h (λr _=>r=.Bj []) (Z.call 38 [.ptr b 0,.str s] h)
def B2N(f:Al5 Z){s}(p:PsR b v l i e o q h)(k:AfM l i s=true):AjT b (Yg v (i+1) e o q) h (λr _=>r=.Bj []) (mr Z N 38 [.ptr b 0,.str s] h):=by apply AeN;rw[Bzo];refine zu1 (f b v l i e o q s h p k) λz x u y j g A=>wk ?_;exact zr (Ed _) ⟨u,rfl⟩
def AlY(l:List Tok)(i:Int)(k:Int)(t:Tok):Prop:=l[i.toNat]?=some t/\t.k=k
def AlY.lt{k}{t}(hi:0<=i)(f:AlY l i k t):i<l.length:=by have:=(Wp.1 f.1).1;omega
def B3d(u:AsK Z){k:Int}{t:Tok}(p:PsR b v l i e o q h)(s:AlY l i k t):AjT b (Yg v (i+1) e o q) h (λr _=>r=.agg (Aez t)) (mr Z N 72 [.ptr b 0,iI k] h):=by
 refine AeN ?_;rw[Bz6];have x:=p.get;have C:=p.lt;have z:=p.i0;have G:=p.Mu;have E:=s.lt z;have F:=p.ql;have j:AeL l i [k]=some t:=by unfold AeL;rw[s.1];simp[s.2]
 refine wk ?_;have g1:Ai h ((h.new (cz (Aez AiM) 48)).new (cz [iI k] 3)):=((Ai.refl h).new _).new _;have h1:=u b v l i e o q (.sl (h.nx+1) 0 1 1 1 true) [k] _ (p.gr g1) (Sl.lit (Bf _) rfl rfl) (by simp);rw[j]at h1;refine Fj h1 λJ g y B f I=>?_;subst I;have A:g.m.get b=Yg v i e o q:=((g1.trans y).Cf b C).trans x;have g2:PG b (Yg v i e o q) h g:=(PG.refl x).gr (g1.trans y);have K:g.m.get h.nx=cz (Aez AiM) 48:=by rw[f h.nx ml];simp(disch:=first|exact Ce)
 simp[C9]at B;refine wk ?_;exact zr (Ed _) ⟨pgA,rfl⟩
def Aoj(v:AV):Prop:=∃e a:Int,v=.I6 42 (.agg [iI e,iI a])/\e≠0
@[simp]def Bjz(t:TypeId)(x:AV)(h:H):Aga (.I6 t x) h=.Hb (.I6 t x) h:=rfl
def AsQ:Prop:=∀(e a:Int) (h:H),e≠0->A3Y h (λv _=>Aoj v) (Z.call 15 [iI e,iI a] h)
def CbE{a:Int}(f:e≠0):A3Y h (λv _=>Aoj v) (mr Z N 15 [iI e,iI a] h):=by rw[B82];refine Ey (Φ:=A3Y h _) (v:=.agg [iI e,iI a]) (h:=h) rfl ?_;exact B5m (Bjz ..) (Ai.refl h) ⟨e,a,rfl,f⟩
def B5x(g:AlT Z)(f:Bm3 Z)(j:AsQ Z){s:uq}(p:PsR b v l i e o q h)(A:AfM l i s=false):A3Y h (λv _=>Aoj v) (mr Z N 38 [.ptr b 0,.str s] h):=by rw[Bzo];refine Fj (g b v l i e o q s h p A) λJ u k M B F=>?_;subst F;refine wk ?_;refine Fj (f b v l i e o q u (p.gr k)) λG z C K r x=>?_;obtain⟨n,rfl⟩:=x;refine Bn8 (j 11 n z fe) λL I E y=>⟨(k.trans C).trans E,y⟩
def lvO:Bool->Nat->List (uq × Int)
|false,0=>[([43],4),([45],5)]
|false,_=>[([42],6)]
|true,0=>[([111,114],16)]
|true,_=>[(bm,15)]
abbrev lvE(c:Bool)(k:Nat):List (AV × AV):=(lvO c k).map λp=>(.str p.1,iI p.2)
def lvS(bb:Nat):Nat->AV
|0=>.sl bb 0 2 2 1 true
|1=>.sl bb 1 1 1 1 true
|_=>.sl bb 1 0 0 1 true
structure LvR(c:Bool)(bb r0 r1:Nat)(h:H):Prop where
 g:h.m.get bb=.cells [.map r0,.map r1] 166 .exact
 m0:h.m.get r0=.map (lvE c 0)
 m1:h.m.get r1=.map (lvE c 1)
 lb:bb<h.nx
 l0:r0<h.nx
 l1:r1<h.nx
def Bpn:Prop:=∀(h:H),Ah h (λr h1=>∃g k p f j s,r=.Bj [lvS g 0,lvS f 0]/\LvR false g k p h1/\LvR true f j s h1/\(∀x∈[g,k,p,f,j,s],h.nx<=x)) (Z.call 74 [] h)
def Bi3 f k x:Z7 f k x []=some [(k,x)]:=rfl
def Bi4 f k x a y(g:f a=some false):Z7 f k x [(a,y)]=some [(a,y),(k,x)]:=by unfold Z7;simp[g];rfl
def B3f:Ah h (λr h1=>∃g k p f j s,r=.Bj [lvS g 0,lvS f 0]/\LvR false g k p h1/\LvR true f j s h1/\(∀x∈[g,k,p,f,j,s],h.nx<=x)) (mr Z N 74 [] h):=by rw[Bz8];have z:Z7 (Gy prog 9 (.str [45])) (.str [45]) (iI 5) [(.str [43],iI 4)]=some [(.str [43],iI 4),(.str [45],iI 5)]:=Bi4 _ _ _ _ _ (by kernel_rfl);have y:=@Bi3;refine wk ?_;refine zr Ex ⟨h.nx+2,h.nx,h.nx+1,h.nx+5,h.nx+3,h.nx+4,rfl,⟨?_,?_,?_,?_,?_,?_⟩,⟨?_,?_,?_,?_,?_,?_⟩,?_⟩;all_goals first|(simp only[C9];omega)|(simp(disch:=first|exact Ce|fail) [lvE,lvO];done)|(intro x u;simp at u;omega)
end Go.Proofs
namespace Go.Nm
inductive L3 where
|sg (s:List Nat)
|kw (s:List Nat)
|nm (s:List Nat)
|nu (n:Int)
|wd (s:List Nat)
inductive NT where
|ex|un|cd|ng|cm
|ch (c:Bool) (k:Nat)
def opW:Bool->Nat->Int->Option L3
|false,0,4=>some (.sg [43])
|false,0,5=>some (.sg [45])
|false,1,6=>some (.sg [42])
|true,0,16=>some (.kw [111,114])
|true,1,15=>some (.kw [97,110,100])
|_,_,_=>none
def cmW:Int->Option (List Nat)
|9=>some [61]
|10=>some [33,61]
|11=>some [60]
|12=>some [60,61]
|13=>some [62]
|14=>some [62,61]
|_=>none
inductive Aan:NT->Nat->Nat->Tr->List L3->Prop
|num (n:Int):Aan .un 0 0 (.leaf ⟨1,n,[]⟩) [.nu n]
|Zn (c:List Nat):Aan .un 0 0 (.leaf ⟨2,0,c⟩) [.nm c]
|neg {d:Nat} {m:Nat} {a:Tr} {la:List L3}:Aan .un d m a la->Aan .un (d+1) (m+1) (.one 7 a) (.sg [45]::la)
|par {d:Nat} {m:Nat} {a:Tr} {la:List L3}:Aan .ex d m a la->Aan .un (d+1) (m+1) a (.sg [40]::la++[.sg [41]])
|opn {d:Nat} {m:Nat} {t:Tr} {l:List L3}:Aan .un d m t l->Aan (.ch false 2) d (m+1) t l
|opc {d:Nat} {m:Nat} {t:Tr} {l:List L3}:Aan .ng d m t l->Aan (.ch true 2) d (m+1) t l
|up {c:Bool} {k:Nat} {d:Nat} {m:Nat} {t:Tr} {l:List L3}:k<2->Aan (.ch c (k+1)) d m t l->Aan (.ch c k) d (m+1) t l
|bin {c:Bool} {k:Nat} {d1:Nat} {d2:Nat} {m1:Nat} {m2:Nat} {a:Tr} {la:List L3} {b:Tr} {lb:List L3} {op:Int} {x:L3}:k<2->opW c k op=some x->Aan (.ch c k) d1 m1 a la->Aan (.ch c (k+1)) d2 m2 b lb->Aan (.ch c k) (max d1 d2) (m1+m2+1) (.two op a b) (la++x::lb)
|ext {d:Nat} {m:Nat} {t:Tr} {l:List L3}:Aan (.ch false 0) d m t l->Aan .ex d (m+1) t l
|iff {d1:Nat} {d2:Nat} {d3:Nat} {m1:Nat} {m2:Nat} {m3:Nat} {c:Tr} {lc:List L3} {a:Tr} {la:List L3} {b:Tr} {lb:List L3}:Aan .cd d1 m1 c lc->Aan .ex d2 m2 a la->Aan .ex d3 m3 b lb->Aan .ex (max d1 (max d2 d3)+1) (m1+m2+m3+1) (.three c a b) (.kw [105,102]::lc++.kw [116,104,101,110]::la++.kw [101,108,115,101]::lb)
|cnd {d:Nat} {m:Nat} {t:Tr} {l:List L3}:Aan (.ch true 0) d m t l->Aan .cd d (m+1) t l
|not {d:Nat} {m:Nat} {a:Tr} {la:List L3}:Aan .ng d m a la->Aan .ng (d+1) (m+1) (.one 17 a) (.kw [110,111,116]::la)
|bra {d:Nat} {m:Nat} {a:Tr} {la:List L3}:Aan .cd d m a la->Aan .ng (d+1) (m+1) a (.sg [91]::la++[.sg [93]])
|cmp {d:Nat} {m:Nat} {t:Tr} {l:List L3}:Aan .cm d m t l->Aan .ng d (m+1) t l
|two {d1:Nat} {d2:Nat} {m1:Nat} {m2:Nat} {a:Tr} {la:List L3} {b:Tr} {lb:List L3} {op:Int} {s:List Nat}:cmW op=some s->Aan .ex d1 m1 a la->Aan .ex d2 m2 b lb->Aan .cm (max d1 d2) (m1+m2+1) (.two op a b) (la++.sg s::lb)
|wrd {m:Nat} (op:Int) (s c w:List Nat):op=9\/op=10->cmW op=some s->Aan .ex 0 m (.leaf ⟨2,0,c⟩) [.nm c]->Aan .cm 0 (m+1) (.two op (.leaf ⟨2,0,c⟩) (.leaf ⟨3,0,w⟩)) [.nm c,.sg s,.wd w]
end Go.Nm
namespace Go.Proofs
open Go Go.Ev Go.Nm Go.Ev.Sx
variable {D:Dom}
def Ag1(op o:Int)(right:Bool):Bool:=
 if o=8 then decide (4<=op/\op<=7)
 else if o=4\/o=5 then decide (op=6\/op=7)||right&&decide (op=4\/op=5)
 else if o=6 then decide (op=7)||right&&decide (op=6)
 else if o=16 then decide (op=15\/op=17)||right&&decide (op=16)
 else if o=15 then decide (op=17)||right&&decide (op=15)
 else false
def brk(c f:Bool)(l:List L3):List L3:=if c then(if f then .sg [91]::l++[.sg [93]]else .sg [40]::l++[.sg [41]])else l
def opX(o:Int):L3:=
 if o=4 then .sg [43]else if o=5\/o=7 then .sg [45]else if o=6 then .sg [42]
 else if o=15 then .kw bm else if o=16 then .kw [111,114]else if o=17 then .kw ur
 else .sg ((cmW o).getD [])
def wr:Tr->List L3
|.leaf x=>if x.op=1 then[.nu x.n]else if x.op=3 then[.wd x.Zn]else[.nm x.Zn]
|.one o a=>opX o::brk (Ag1 o a.op false) (decide (9<=a.op)) (wr a)
|.two o a b=>brk (Ag1 o a.op false) (decide (9<=a.op)) (wr a)++opX o::brk (Ag1 o b.op true) (decide (9<=b.op)) (wr b)
|.three c a b=>.kw [105,102]::wr c++.kw uf::wr a++.kw ug::wr b
def nl(o:Int):NT:=
 if o=8 then .ex else if o=4\/o=5 then .ch false 0 else if o=6 then .ch false 1
 else if o=16 then .ch true 0 else if o=15 then .ch true 1 else if o=17 then .ng else if 9<=o then .cm else .un
def Bay{t}(h:E7 D false t):t.op=1\/t.op=2\/t.op=4\/t.op=5\/t.op=6\/t.op=7\/t.op=8:=by cases t with
|leaf x=>obtain⟨_,h|h⟩:=h<;>(simp[Tr.op];omega)
|one o a=>rcases h with h|⟨h,_⟩;(simp[Tr.op];omega);grind
|two o a c=>rcases h with h|⟨h,_⟩|⟨h,_⟩|⟨h,_⟩;(simp[Tr.op];omega);all_goals cases h
|three p a c=>simp[Tr.op]
def Bcz{t}(h:E7 D true t):9<=t.op/\t.op<=17:=by cases t with
|leaf x=>cases h.1
|one o a=>rcases h with⟨h,_⟩|h;cases h;(simp[Tr.op];omega)
|two o a c=>rcases h with⟨h,_⟩|h|h|h;cases h;all_goals (simp[Tr.op];omega)
|three p a c=>cases h.1
def A6K{o}(h:9<=o/\o<=14):cmW o=some ((cmW o).getD [])/\opX o=.sg ((cmW o).getD []):=by
 have:o=9\/o=10\/o=11\/o=12\/o=13\/o=14:=by omega
 rcases this with rfl|rfl|rfl|rfl|rfl|rfl<;>exact⟨rfl,rfl⟩
def Avg{o p}(h:9<=o/\o<=14) r:Ag1 o p r=false:=by
 unfold Ag1;repeat' split
 all_goals simp;all_goals omega
open Tryz
attribute [local irreducible] Aa Al Af Ad
variable (Z:Ac)(N:Nat)
variable {b:Nat}{v:AV}{l:List Tok}{i e o:Int}{q:uw}{h h1:H}
def ke9(a b:uq):Gy prog 9 (.str a) (.str b)=some (decide (a=b)):=Bp1 2 a b
def lvF:List (uq × Int)->uq->Int × Bool
|[],_=>(0,false)
|p::r,t=>if t=p.1 then(p.2,true)else lvF r t
def Atb t:∀r,M1 (Gy prog 9 (.str t)) (r.map λp=>(.str p.1,iI p.2))=some (if(lvF r t).2=true then some (iI (lvF r t).1)else none)
|[]=>rfl
|p::r=>by have f:=Atb t r;unfold M1 lvF;simp[ke9];grind
def Bo5(c:Bool)(k:Nat)(t:uq)(f:H)(r:Nat)(g:f.m.get r=.map (lvE c k)):xLk prog 9 (iI 0) true (.map r) (.str t) f=.ok (.Bj [iI (if(lvF (lvO c k) t).2=true then(lvF (lvO c k) t).1 else 0),.bool (lvF (lvO c k) t).2]) f:=by rw[A6J,g,Auf,Atb];cases j:(lvF (lvO c k) t).2<;>rfl
end Go.Proofs
namespace Go.Proofs
open Go Go.Ev Go.Nm Go.Ev.Sx
variable {b:Nat}{X:AO}{h hc h1:H}{v w:AV}{l m:List Nd}{lo:Nat}
def Oo.pg(p:Oo lo h v l)(s:l≠[])(u:b<h.nx)(hn:∀st,h.m.get b≠.Fb st)(y:b<lo)(e:PG b X h h1):Oo lo h1 v l:=by
 have x:=Kd.2 s;rcases p with(h3|h3|⟨b',k,st,rfl,q2,q3,q4,q5,f,g,j,q9⟩)|⟨b',off,cs,rfl,q1,q2,q3,q4⟩;. omega
 .omega
 .exact .inl (.inr (.inr ⟨_,k,_,rfl,by rw[e.Cf _ f om];grind,by rw[e.Cf k g om];omega,q4,q5,Xq f e.lo,Xq g e.lo,j,q9⟩))
 .rcases Sl.pg (.inr ⟨_,_,_,_,_,rfl,Ye _,q1,q2,q3⟩:Sl 3 h (.sl _ _ _ _ 3 true) ..) u hn λb2 off len cap z ex p=>by grind e with⟨_,_,r⟩|⟨b2,A,cap,ex,D7,r,q5,f,g,j⟩;. omega
  .cases r;exact .inr ⟨_,_,_,rfl,f,g,j,q4⟩
def Aw6(p:PG b X h hc)(A:h.nx<=lo)(r:lo<=hc.nx)(k:Oo lo hc v l)(g:Ue hc w m)(y:m≠[])(F:l.length+m.length<=8000):
 ∃v' h',Ds 64 3 32 v w hc=.ok v' h'/\PG b X h h'/\Oo lo h' v' (l++m)/\hc.nx<=h'.nx/\(∀c,c<lo->h'.m.get c=hc.m.get c):=by
 have x:0<m.length:=Kd.2 y;rcases k with k|⟨G,off,cs,rfl,z,C,B,E⟩
 .obtain⟨v',h',j,f,p3,u,s⟩:=Fm.AbQ (bytes:=32) (lo:=lo) k g.src g.Rv om (Ab9 m) r;refine⟨v',h',j,p3 _ A p,.inl ?_,f.lo,s⟩;rw[NdO,Yl,V5];exact u
 .obtain⟨v',h',j,f,p3⟩:=Ahy (bytes:=32) (et:=64) (lo:=lo) z C B g.src g.Rv om (Ab9 m) x r;refine⟨v',h',j,p.gr f,.inl ?_,f.lo,λc hc=>f.Cf c om⟩;rw[NdO,Yl,V5];exact p3
def AoI(x:Nd)(p:PG b X h hc)(u:h.nx<=lo)(y:lo<=hc.nx)(r:Oo lo hc v l)(z:l.length<=7900):
 ∃v' h',Ds 64 3 32 v (.sl hc.nx 0 1 1 3 true) (hc.new (cz (Bw x) 64))=.ok v' h'/\PG b X h h'/\Oo lo h' v' (l++[x])/\hc.nx<=h'.nx/\(∀c,c<lo->h'.m.get c=hc.m.get c):=by
 obtain⟨v',h',k,s,p3,j,g⟩:=Aw6 (m:=[x]) (p.new (cz (Bw x) 64)) u (Nat.le_succ_of_le y) (r.gr ((Ai.refl hc).new _)) (Sl.lit (h:=hc) (Bf _) rfl rfl) (by simp) (by simp;omega);exact⟨v',h',k,s,p3,Ol (U3 _) j,λc f=>by rw[g c f];exact Cq _ _ om⟩
open Tryz
attribute [local irreducible] Aa Al Af Ad
variable (Z:Ac)(N:Nat)
variable {l:List Tok}{i e o:Int}{q:uw}
def LvR.Cf{c}{bb r0 r1}(L:LvR c bb r0 r1 h)(hn:h.nx<=h1.nx)(f:∀x,x<h.nx->x≠b->h1.m.get x=h.m.get x)(n1:bb≠b)(k:r0≠b)(j:r1≠b):LvR c bb r0 r1 h1:=
 ⟨(f _ L.lb n1).trans L.g,(f _ L.l0 k).trans L.m0,(f _ L.l1 j).trans L.m1,Xq L.lb hn,Xq L.l0 hn,Xq L.l1 hn⟩
def Boo bb k(f:k<2) hh:Gc 1 (lvS bb k) (iI 0) hh=.ok (.ptr bb k) hh:=by
 have:k=0\/k=1:=by omega
 rcases this with rfl|rfl<;>rfl
def BoJ(bb k:Nat)(j:k<2) f:xSl prog 119 (lvS bb k) (some (iI 1)) none f=.ok (lvS bb (k+1)) f:=by
 have:k=0\/k=1:=by omega
 have g:∀bb f,xSl prog 119 (.sl bb 0 2 2 1 true) (some (iI 1)) none f=.ok (.sl bb 1 1 1 1 true) f:=λbb f=>by kernel_rfl
 have h1:∀bb f,xSl prog 119 (.sl bb 1 1 1 1 true) (some (iI 1)) none f=.ok (.sl bb 1 0 0 1 true) f:=λbb f=>by kernel_rfl
 rcases this with rfl|rfl;. exact g ..
 .exact h1 ..
def AqN(l:List Tok)(i:Int):uq:=((AeL l i [2,5]).getD AiM).t
def Bo4{c}{bb r0 r1 k}(j:k<2):∃r,(r=r0\/r=r1)/\∀f,LvR c bb r0 r1 f->Ae (some none) (.ptr bb k) f=.ok (.map r) f/\∀t,xLk prog 9 (iI 0) true (.map r) (.str t) f=.ok (.Bj [iI (if(lvF (lvO c k) t).2=true then(lvF (lvO c k) t).1 else 0),.bool (lvF (lvO c k) t).2]) f:=by
 have:k=0\/k=1:=by omega
 rcases this with rfl|rfl;. exact⟨_,.inl rfl,λf L=>⟨by rw[Nu,L.g];rfl,λt=>Bo5 c 0 t _ _ L.m0⟩⟩
 .exact⟨_,.inr rfl,λf L=>⟨by rw[Nu,L.g];rfl,λt=>Bo5 c 1 t _ _ L.m1⟩⟩
def BqP(u:AsK Z){hd:H}{c:Bool}{k:Nat}{bb r0 r1:Nat}{f x:AV}{n:Nat}{f0:L2}(p:PsR b v l i e o q hd)(L:LvR c bb r0 r1 hd)(n1:bb≠b)(A:r0≠b)(B:r1≠b)(z:k<2)
 (De:(lvF (lvO c k) (AqN l i)).2=false):Ah hd (λr _=>r=x) (Aro Z N (n+1) (.ptr b 0) (lvS bb k) f x f0 hd):=by rw[BcY];refine wk ?_;have g1:Ai hd (hd.new (cz [iI 2,iI 5] 3)):=(Ai.refl hd).new _;refine Fj (u b v l i e o q (.sl hd.nx 0 2 2 1 true) [2,5] _ (p.gr g1) (Sl.lit (Bf _) rfl rfl) (by simp)) λK I M F C G=>?_;subst G;obtain⟨r,J,s⟩:=Bo4 z;have O:∀j,Ai _ j->Ae _ ..=.ok ..:=λj g=>(s _ (L.Cf g.lo (λx y _=>g.Cf x y) n1 A B)).1;have LK:∀j t,Ai _ j->xLk _ 9 _ _ _ ..=.ok ..:=λj t g=>(s _ (L.Cf g.lo (λx y _=>g.Cf x y) n1 A B)).2 t;have E:=Boo bb k z;unfold AqN at De;simp[C9]at F;refine wk ?_;exact zr Ex rfl
def AeT(t:Tok):L3->Prop
|.sg s=>t.k=5/\t.t=s
|.kw s=>t.k=2/\t.t=s
|.nm s=>t.k=1/\t.t=s
|.nu n=>t.k=3/\t.n=n
|.wd s=>t.k=4/\t.t=s
def AaO(l:List Tok):Nat->List L3->Prop
|_,[]=>True
|i,x::r=>(∃t,l[i]?=some t/\AeT t x)/\AaO l (i+1) r
def AaO.app{l}:∀{a b} {i},AaO l i (a++b) ↔ AaO l i a/\AaO l (i+a.length) b
|[],b,i=>by simp[AaO]
|x::a,b,i=>by have f:=AaO.app (l:=l) (a:=a) (b:=b) (i:=i+1);show(∃t,l[i]?=some t/\AeT t x)/\AaO l _ (a++b) ↔ ((∃t,l[i]?=some t/\AeT t x)/\AaO l _ a)/\AaO l _ b;grind
def AmQ(c:Bool)(k:Nat)(l:List Tok)(j:Nat):Prop:=∀k',k<=k'->k'<2->(lvF (lvO c k') (AqN l j)).2=false
def fnO(b:Nat):Bool->AV
|false=>.fn (.func 139) [.ptr b 0] []
|true=>.fn (.func 76) [.ptr b 0] []
def BrK bb k(f:k<2) hh:Fo (lvS bb k) hh=.ok (iI (2-k:Nat)) hh:=by
 have:k=0\/k=1:=by omega
 rcases this with rfl|rfl<;>rfl
def cvF{P}{Z}{h} g a c args(f:Bg P g=true):cvV (.fn (.func g) a c) args P Z h=Z.call g (a++args++c) h:=by show @Bool.rec _ _ ..=_;rw[Dl,Dl,f]
def BuC x y h:cvV (.fn (.func 167) [] [x,y]) [] prog Z h=Z.call 167 [x,y] h:=cvF _ _ _ _ rfl
def BuD x y h:cvV (.fn (.func 168) [] [x,y]) [] prog Z h=Z.call 168 [x,y] h:=cvF _ _ _ _ rfl
def Bu9 x y h:cvV (.fn (.func 104) [] [x,y]) [] prog Z h=Z.call 104 [x,y] h:=cvF _ _ _ _ rfl
def BuA x y h:cvV (.fn (.func 105) [] [x,y]) [] prog Z h=Z.call 105 [x,y] h:=cvF _ _ _ _ rfl
def BuB x y h:cvV (.fn (.func 140) [] [x,y]) [] prog Z h=Z.call 140 [x,y] h:=cvF _ _ _ _ rfl
def BnT x h:cvV (.fn (.func 139) [x] []) [] prog Z h=Z.call 139 [x] h:=cvF _ _ _ _ rfl
def Bu8 x h:cvV (.fn (.func 76) [x] []) [] prog Z h=Z.call 76 [x] h:=cvF _ _ _ _ rfl
variable {pb c:Nat}{n d:Nat}{t:Tr}{xs:List L3}
structure AsJ(b pb c:Nat)(v:AV)(h:H):Prop where
 p:h.m.get pb=.cells [.ptr b 0] 44 .exact
 w:∃w,h.m.get c=AeK 23 w
 pl:pb<h.nx
 cl:c<h.nx
 np:pb≠b
 nc:c≠b
 npc:pb≠c
 av:∀b' off n cap z ex,v=.sl b' off n cap z ex->b'≠c
def AsJ.pg{X}(k:AsJ b pb c v h)(g:PG b X h h1):AsJ b pb c v h1:=by have⟨w,f⟩:=k.w;exact⟨(g.Cf _ k.pl k.np).trans k.p,⟨w,(g.Cf _ k.cl k.nc).trans f⟩,Xq k.pl g.lo,Xq k.cl g.lo,k.np,k.nc,k.npc,k.av⟩
def Oo.AnO{lo}{ns}{v w:AV}(f:Oo lo h v ns)(hn:ns≠[])(hc:c<lo)(g:c<h.nx)(j:∃w,h.m.get c=AeK 23 w) Y:Oo lo (h.put c Y) v ns:=by exact f.pg hn g λst k=>by grind hc ((PG.refl rfl).put Y)
variable (Z cx:Ac)(N:Nat)
variable {a:Tr}{la:List L3}
def Bsr{s len:Nat}{v:AV}{cs:uw}(y:Sl s h v len cs):∀f off n cap z ex,v=.sl f off n cap z ex->f<h.nx:=by
 intro f off n cap z ex k;subst k;rcases y with⟨C,g,u⟩|⟨b2,p,r,A,j,g,E,x,B,q5⟩
 .cases u
 .cases g;exact x.lt
def AgJ{f:H}(p:PsR b v l n e o q h)(g:Ai ((h.new (cz [.ptr b 0] 44)).new (AeK 23 .Bv)) f):AsJ b h.nx (h.nx+1) v f:=by
 have s:=p.lt;have k:=g.lo;simp only[C9]at k;refine⟨?_,⟨.Bv,?_⟩,by omega,by omega,by omega,by omega,by omega,λr off n cap z ex j=>by have:=Bsr p.AsD r off n cap z ex j;omega⟩
 .rw[g.Cf h.nx ml,Cq _ _ ml];exact Bf _
 .rw[g.Cf (h.nx+1) ml];exact Bf (h:=h.new _) _
def AiE{h:H}(e:TypeId)(b o:Nat):Oy e (.ptr b o) h=.ok (.ptr h.nx 0) (h.new (cz [.ptr b o] e)):=rfl
def AkG{h:H}{b:Nat}{e:TypeId}{x:AV}(f:h.m.get b=cz [x] e):Vk [.c (some none) (.ptr b 0)] h=.ok x h:=by
 have h1:h.rd b=some [x]:=by rw[AaS,f];rfl
 have g:AyY (some none) (.ptr b 0) h=some x:=by show(match h.rd b with|some c=>Tn (some none) c 0|none=>none)=some x;rw[h1];rfl
 show(match (match AyY (some none) (.ptr b 0) h,(some []:Option uw)with|some v,some l=>some (v::l)|_,_=>none)with|some l=>OR.ok (single l) h|none=>.bad 197)=_;rw[g];rfl
def Bps:Prop:=∀(b:Nat) (v:AV) (l:List Tok) (i e o:Int) (q:uw) (j:Nat) (k:Int) (h:H),PsR b v l i e o q h->Ah h (λr _=>r=.Bj [.agg (Aez ((AeL l j [k]).getD AiM)),.bool (AeL l j [k]).isSome]) (Z.call 141 [.ptr b 0,iI j,iI k] h)
def B3q{i:Int}{j:Nat}{k:Int}(p:PsR b v l i e o q h):Ah h (λr _=>r=.Bj [.agg (Aez ((AeL l j [k]).getD AiM)),.bool (AeL l j [k]).isSome]) (mr Z N 141 [.ptr b 0,iI j,iI k] h):=by
 rw[BzM];have L:=p.get;have K:=p.lt;have F:=p.Mu;have A:∀z,Fo v z=.ok (iI (l.length:Int)) z:=λ_=>p.AsD.Gs;by_cases hi:(j:Int)<(l.length:Int)
 .have B:decide ((j:Int)<(l.length:Int))=true:=Ws hi;obtain⟨x,y⟩:∃x,l[j]?=some x:=⟨_,Oh om⟩;obtain⟨I,G,u⟩:=R0.elem (f:=Aez) (s:=4) (λ_=>rfl) p.AsD y;have J:=u.ia;have M:=u.all;have E:=u.part 0 _ rfl;rw[Vw]at E;have g:AeL l j [k]=if x.k=k then some x else none:=by unfold AeL;rw[Lm,y];simp
  rw[g];clear u y g p;by_cases k2:x.k=k
  .have C:decide (x.k=k)=true:=Ws k2;rw[Xo k2];refine wk ?_;exact zr Ex (by rw[<- k2];rfl)
  .have C:decide (x.k=k)=false:=Yc k2;rw[X2 k2];refine wk ?_;exact zr Ex rfl
 .have B:decide ((j:Int)<(l.length:Int))=false:=Yc hi;have g:AeL l j [k]=none:=by unfold AeL;rw[Lm,ak om]
  rw[g];clear p g;refine wk ?_;exact zr Ex rfl
variable {d1 d2:Nat}{tb:Tr}{lb:List L3}
def BmG:List (uq × Int):=[([61],9),([33,61],10),([60],11),([60,61],12),([62],13),([62,61],14)]
abbrev BqH:List (AV × AV):=BmG.map λp=>(.str p.1,iI p.2)
abbrev mS(k:uq)(x:Int)(es:List (AV × AV)):Option (List (AV × AV)):=Z7 (Gy prog 9 (.str k)) (.str k) (iI x) es
def ms1:mS [61] 9 []=some [(.str [61],iI 9)]:=by kernel_rfl
def ms2:mS [33,61] 10 [(.str [61],iI 9)]=some [(.str [61],iI 9),(.str [33,61],iI 10)]:=by kernel_rfl
def ms3:mS [60] 11 [(.str [61],iI 9),(.str [33,61],iI 10)]=some [(.str [61],iI 9),(.str [33,61],iI 10),(.str [60],iI 11)]:=by kernel_rfl
def ms4:mS [60,61] 12 [(.str [61],iI 9),(.str [33,61],iI 10),(.str [60],iI 11)]=some [(.str [61],iI 9),(.str [33,61],iI 10),(.str [60],iI 11),(.str [60,61],iI 12)]:=by kernel_rfl
def ms5:mS [62] 13 [(.str [61],iI 9),(.str [33,61],iI 10),(.str [60],iI 11),(.str [60,61],iI 12)]=some [(.str [61],iI 9),(.str [33,61],iI 10),(.str [60],iI 11),(.str [60,61],iI 12),(.str [62],iI 13)]:=by kernel_rfl
def ms6:mS [62,61] 14 [(.str [61],iI 9),(.str [33,61],iI 10),(.str [60],iI 11),(.str [60,61],iI 12),(.str [62],iI 13)]=some BqH:=by kernel_rfl
end Go.Proofs
