/- From a call of the evaluator to the row of a law without arguments. -/
import Derived.Test.YtmjmhajonaelcaaGreatDoorEvE
import Derived.ChangeArms
import Derived.Lib.LaidU8
import GoSem.ClaimJoined
import Derived.Handed
import Derived.LaidLaws
import Derived.Lay
import Derived.ProofKit
import Derived.OpenShut
import Derived.LaidMore
import Derived.SevenTiedAt
import Derived.Stop.Joined
set_option linter.all false
noncomputable section
namespace Go.Ev
variable [Ii]
variable {P:Program}{G:Nat}{σ σ':Dx}{h h':H}{w w':World}{v:AV}{nt:Nat}{f f':L2}{a a':Act}{Z:Ac}{b:FB}{cs:List Frame}
def P7(P:Program)(e:TypeId->DataW Unit->Option uw)(c:Nat):List (TypeId × Nat)->Nat->List (DataW Unit)->Option uw
|[],o,[]=>if o=c then some []else none
|(t,off)::g,o,d::ds=>
 if off=o then
  match e t d with
  |some l=>match P7 P e c g (o+P.cellsOf t) ds with
   |some r=>some (l++r)
   |none=>none
  |none=>none
 else none
|_,_,_=>none
def Iw(P:Program):Nat->TypeId->DataW Unit->Option uw
|0,_,_=>none
|k+1,t,d=>
 match P.underlying t,d with
 |some .bool,.lit (.bool b)=>some [.bool b]
 |some (.int _),.lit (.int k' n)=>some [.int k' n]
 |some .string,.lit (.string g)=>some [.str (g.map UInt8.toNat)]
 |some (.struct c),.agg ds=>P7 P (Iw P k) (P.cellsOf t) (c.toList.map λf=>(f.type,f.offset)) 0 ds
 |some (.array n e),.agg ds=>P7 P (Iw P k) (P.cellsOf t) ((List.range n).map λi=>(e,i*P.cellsOf e)) 0 ds
 |_,_=>none
def Ara{α β:Type}{g:α->Option β}:∀{l:List α} {xs:List β},l.mapM g=some xs->xs.length=l.length/\∀(i:Nat) (a:α),l[i]?=some a->∃b,xs[i]?=some b/\g a=some b:=by
 intro l;induction l with
 |nil=>intro xs h;simp at h;subst h;exact⟨rfl,λi a hi=>by simp at hi⟩
 |cons x l e=>
  intro xs h;rw[P9]at h;cases c:g x with
  |none=>simp[c]at h
  |some y=>
   cases d:l.mapM g with
   |none=>simp[c,d]at h
   |some n=>
    simp[c,d]at h;subst h;obtain⟨h1,j⟩:=e d;refine⟨by simp[h1],λi a hi=>?_⟩;cases i with
    |zero=>simp at hi;subst hi;exact⟨y,by simp,c⟩
    |succ i=>simp at hi;obtain⟨z,m,k⟩:=j i a hi;exact⟨z,by simpa using m,k⟩
abbrev Reads(P:Program)(w:World)(Me:Nat)(t:TypeId)(cs:List Value):=DataW.trod (λ_=>()) P w 0 (λ_=>true) false Me t cs
def Aey{y:TypeId->DataW Unit->Option uw}{w:World}{σ:Dx}(m:∀t d l g cs p,y t d=some l->Reads P w g t cs=some (d,p)->Bk σ l cs)(e:Nat):
 ∀(j:List (TypeId × Nat)) (o:Nat) (ds:List (DataW Unit)) (l:uw) (cs:List Value),P7 P y e j o ds=some l->cs.length=e->ds.length=j.length ->
  (∀(i:Nat) (f:TypeId × Nat),j[i]?=some f->∃g d p,ds[i]?=some d/\Reads P w g f.1 ((cs.drop f.2).take (P.cellsOf f.1))=some (d,p))->Bk σ l (cs.drop o):=by
 intro j;induction j with
 |nil=>
  intro o ds l cs h u c k;cases ds with
  |nil=>
   simp only[P7]at h;split at h
   .rename_i E;cases h;rw[Ts om];exact .nil σ
   .cases h
  |cons d ds=>simp at c
 |cons f j s=>
  intro o ds l cs h u c k;cases ds with
  |nil=>simp at c
  |cons d ds=>
   obtain⟨t,off⟩:=f;simp only[P7]at h;split at h
   .rename_i n;subst n;split at h
    .rename_i l1 C;split at h
     .rename_i r B;cases h;obtain⟨g,x,p,hd,q⟩:=k 0 (t,off) rfl;simp at hd;subst hd;have A:=m t d l1 g _ p C q;have D:=s (off+P.cellsOf t) ds r cs B u (by simpa using c) (λi f z=>by obtain⟨g,x,p,hd,q⟩:=k (i+1) f (by simpa using z);exact⟨g,x,p,by simpa using hd,q⟩);have:=A.append D;rw[<- au,Dt]at this;exact this
     .cases h
    .cases h
   .cases h
def ApV(w:World)(σ:Dx):∀(k:Nat) (t:TypeId) (d:DataW Unit) (l:uw) (o:Nat) (cs:List Value) (p:List MemPlace),Iw P k t d=some l->Reads P w o t cs=some (d,p)->Bk σ l cs:=by intro k;induction k with
|zero=>intro t d l o cs p h;simp[Iw]at h
|succ k u=>
 intro t d l o cs p h c;simp only[Iw]at h;split at h;. rename_i b g;cases h;obtain⟨C,rfl,m⟩:=DataW.trod_bool g c;cases m;exact .cons (.bool _) (.nil σ)
 .rename_i B k' n g;cases h;obtain⟨A,rfl,m,_⟩:=DataW.trod_int g c;cases m;exact .cons (.int _ _) (.nil σ)
 .rename_i D g;cases h;obtain⟨s,rfl,m,_⟩:=DataW.trod_string g c;cases m;exact .cons (.str s) (.nil σ)
 .rename_i z ds g;obtain⟨xs,n,rfl,m,r,q,y⟩:=DataW.trod_struct g c;have j:ds=xs.map (·.1):=by simp_all
  have:=Aey u (P.cellsOf t) (z.toList.map λf=>(f.type,f.offset)) 0 ds l cs h r (by simp[j,q]) (by grind);simpa using this
 .rename_i n e ds g;cases o with
  |zero=>simp[DataW.trod]at c
  |succ o=>
   unfold Reads at c;simp only[DataW.trod,g]at c;split at c
   .rename_i r;obtain⟨xs,x,m⟩:=Sw.1 c;have j:ds=xs.map (·.1):=by grind
    obtain⟨q,y⟩:=Ara x;have:=Aey u (P.cellsOf t) ((List.range n).map λi=>(e,i*P.cellsOf e)) 0 ds l cs h r (by simp[j,q]) (by grind);simpa using this
   .cases c
 .cases h
def leN:Nat->AV->AV->Bool
|0,_,_=>false
|d+1,x,y=>
 match y with
 |.top=>true
 |.bool b=>(match x with|.bool a=>Aju a b|_=>false)
 |.int k' b=>(match x with|.int k a=>Bool.rec false (ieq a b) (kEq k k')|_=>false)
 |.str b=>(match x with|.str a=>Qh a b|_=>false)
 |.Ob=>(match x with|.Ob=>true|_=>false)
 |.Bv=>(match x with|.Bv=>true|_=>false)
 |.Td=>(match x with|.Td=>true|_=>false)
 |.Iy=>(match x with|.Iy=>true|_=>false)
 |.B3=>(match x with|.B3=>true|_=>false)
 |.I6 g v=>(match x with|.I6 t u=>Bool.rec false (leN d u v) (Nat.beq t g)|_=>false)
 |.agg c=>(match x with|.agg xs=>List.rec (λc=>List.rec true (λ_ _ _=>false) c) (λx _ e c=>List.rec false (λy c _=>Bool.rec false (e c) (leN d x y)) c) xs c|_=>false)
 |.Bj c=>(match x with|.Bj xs=>List.rec (λc=>List.rec true (λ_ _ _=>false) c) (λx _ e c=>List.rec false (λy c _=>Bool.rec false (e c) (leN d x y)) c) xs c|_=>false)
 |_=>false
def AfJ(d:Nat)(xs c:uw):Bool:=List.rec (λc=>List.rec true (λ_ _ _=>false) c) (λx _ e c=>List.rec false (λy c _=>Bool.rec false (e c) (leN d x y)) c) xs c
def Ano(d:Nat)(x y:AV)(xs c:uw):AfJ d (x::xs) (y::c)=Bool.rec false (AfJ d xs c) (leN d x y):=rfl
def Yb{d}(hd:∀x y v σ e,leN d x y=true->Au σ x v->Au e y v):∀xs c g σ e,AfJ d xs c=true->Bk σ xs g->Bk e c g:=by intro xs;induction xs with
|nil=>intro c g σ e h i;cases c with
 |nil=>have:=i.Rt;subst this;exact .nil _
 |cons y c=>cases h
|cons x xs j=>intro c g σ e h i;cases c with
 |nil=>cases h
 |cons y c=>obtain⟨h1,k⟩:=Q2 h;obtain⟨v,n,rfl,l,m⟩:=i.F8;exact .cons (hd x y v _ _ h1 l) (j _ _ _ _ k m)
def AfH:∀(d:Nat) (x y:AV) (v:Value) (σ j:Dx),leN d x y=true->Au σ x v->Au j y v:=by intro d;induction d with
|zero=>intro x y v σ j h;cases h
|succ d n=>intro x y v σ j h g;cases y with
 |top=>exact .top v
 |bool b=>
  cases x<;>first|(cases h;done)|skip;rename_i a;have h':Aju a b=true:=h;rw[Afn]at h';have:a=b:=by simpa using h'
  subst this;cases g;exact .bool _
 |int k' b=>
  cases x<;>first|(cases h;done)|skip;rename_i k a;obtain⟨h1,m⟩:=Q2 (show(Bool.rec false (ieq a b) (kEq k k'):Bool)=true from h);have:=(Q3 k k').1 h1;subst this;rw[Q1]at m;have:a=b:=by simpa using m
  subst this;cases g;exact .int _ _
 |str b=>
  cases x<;>first|(cases h;done)|skip;rename_i a;have h':Qh a b=true:=h;rw[Qi]at h';have:a=b:=by simpa using h'
  subst this;cases g;exact .str _
 |Ob=>cases x<;>first|(cases h;done)|skip;cases g;exact .Ob
 |Bv=>cases x<;>first|(cases h;done)|skip;cases g;exact .Bv
 |Td=>cases x<;>first|(cases h;done)|skip;cases g;exact .Td
 |Iy=>cases x<;>first|(cases h;done)|skip;cases g;exact .Iy
 |B3=>cases x<;>first|(cases h;done)|skip;cases g;exact .B3
 |I6 B s=>cases x<;>first|(cases h;done)|skip;rename_i t u;obtain⟨h1,m⟩:=Q2 (show(Bool.rec false (leN d u s) (Nat.beq t B):Bool)=true from h);have:=Ch h1;subst this;cases g;rename_i v' A;exact .I6 _ _ _ (n u s v' σ j m A)
 |agg i=>cases x<;>first|(cases h;done)|skip;rename_i xs;have h':AfJ d xs i=true:=h;cases g;rename_i D7 p q;have:=Yb n xs i D7.toList σ j h' ⟨p,q⟩;exact .agg i D7 this.1 this.2
 |Bj i=>cases x<;>first|(cases h;done)|skip;rename_i xs;have h':AfJ d xs i=true:=h;cases g;rename_i D7 p q;have:=Yb n xs i D7.toList σ j h' ⟨p,q⟩;exact .Bj i D7 this.1 this.2
 |ptr b o=>cases h
 |sl b o l c z e=>cases h
 |map r=>cases h
 |fn f a c=>cases h
def Aex{x:AV}{y:Value}(c:AaA x=true)(h:Au σ x y)(d:Dx):Au d x y:=by
 cases h<;>first|(cases c;done)|skip
 .exact .bool _
 .exact .int _ _
 .exact .str _
def AmF{l}{c}(e:l.all AaA=true)(h:Bk σ l c) σ':Bk σ' l c:=
 ⟨h.1,λi x y d g=>Aex (Od.1 e x (Vl d)) (h.2 i x y d g) _⟩
structure GE where
 g:Nat
 l:List AV
 t:TypeId
def Rw(gl:List GE):KM:=List.rec KM.new (λe _ c=>c.set e.g (cz e.l e.t)) gl
def glH(gl:List GE)(n:Nat):H:=⟨Rw gl,n,[]⟩
def P8(n:Nat):List GE->Bool
|[]=>true
|e::gl=>Nat.blt e.g n&&(gl.all λc=>Ib (Nat.beq c.g e.g))&&e.l.all AaA&&P8 n gl
def Xx{n}(hn:n<=Bq):∀gl,P8 n gl=true->∀j,j<Bq->(∃e∈gl,e.g=j/\(Rw gl).get j=cz e.l e.t)\/(∀e∈gl,e.g≠j)/\(Rw gl).get j=.none:=by intro gl;induction gl with
|nil=>intro _ j hj;exact .inr ⟨λe i=>by grind,KM.Xw j⟩
|cons e gl k=>intro c j hj;simp only[P8,Wx]at c;obtain⟨⟨⟨h1,m⟩,p⟩,o⟩:=c;have d:=Xq (Ec h1) hn;have q:(Rw (e::gl)).get j=if j=e.g then .cells _ .. else(Rw _).get j:=KM.Dh _ _ j _ d hj;grind
def Mf{n}:∀{gl},P8 n gl=true->∀e∈gl,e.g<n/\e.l.all AaA=true:=by intro gl;induction gl with
|nil=>simp
|cons x gl j=>
 intro c e d;simp only[P8,Wx]at c;obtain⟨⟨⟨h1,k⟩,i⟩,m⟩:=c;rcases Tu.1 d with rfl|d;. exact⟨Ec h1,i⟩
 grind
def At0{n:Nat}{gl:List GE}(hn:n<=Bq)(d:P8 n gl=true):Om (glH gl n):=by
 have c:=Xx hn gl d;have p:∀j,j<Bq->Ej ((glH gl n).m.get j)=none/\M2 ((glH gl n).m.get j)=none/\∀l t k st,(glH gl n).m.get j≠.cells l t (.Cf k st):=by
  intro j hj;show Ej ((Rw gl).get j)=none/\M2 ((Rw gl).get j)=none/\∀l t k st,(Rw gl).get j≠.cells l t (.Cf k st);rcases c j hj with⟨e,_,_,q⟩|⟨_,q⟩;. rw[q];exact⟨rfl,rfl,λl t k st g=>by cases g⟩
  .rw[q];exact⟨rfl,rfl,λl t k st g=>by grind⟩
 refine⟨hn,?_,?_,?_,?_,?_⟩
 .intro j h1 i;show(Rw gl).get j=.none;rcases c j i with⟨e,o,r,_⟩|⟨_,q⟩;. have:=(Mf d e o).1;have s:n<=j:=h1;omega
  omega
 .grind
 .grind
 .simp_all
 grind
def Hj(gl:List GE)(h:H):Bool:=
 match gl with
 |[]=>true
 |e::gl=>match h.m.get e.g with
  |.cells l t .exact=>Bool.rec false (Bool.rec false (Hj gl h) (Nat.beq t e.t)) (Sh l e.l)
  |_=>false
def AjB:∀{gl},Hj gl h=true->∀e∈gl,h.m.get e.g=cz e.l e.t:=by intro gl;induction gl with
|nil=>grind
|cons x gl k=>
 intro c e j;unfold Hj at c;split at c;. obtain⟨h1,d⟩:=Q2 c;obtain⟨i,n⟩:=Q2 d;have:=(Xd h1).1;have:=Ch i;grind
 grind
def Aza(n:Nat)(l:uq):Bool:=List.rec true (λx _ c=>Bool.rec false c (Nat.ble n x)) l
def AqW{n}:∀{l},Aza n l=true->∀x∈l,n<=x:=by intro l;induction l with
|nil=>simp
|cons y l e=>
 intro d x c;obtain⟨h1,g⟩:=Q2 (show Bool.rec _ (Aza n l) _=true from d);rcases Tu.1 c with rfl|c;. simp_all
 grind
end Go.Ev
namespace Go.Ev
variable {P:Program}{G:Nat}{σ σ':Dx}{h h':H}{w w':World}{v:AV}{nt:Nat}{f f':L2}{a a':Act}{Z:Ac}{b:FB}{cs:List Frame}
def Yt(n:Nat)(v:AV)(r:OR):Bool:=match r with
|.ok u h=>Bool.rec false (Bool.rec false (Aza n h.lg) (Nat.ble h.nx 1000000000000000000)) (leN 8 u v)
|.bad _=>false
|.Hb _ _=>false
def AnP{n}{r}(c:Yt n v r=true):∃u h',r=.ok u h'/\h'.nx<=Bq/\(∀x∈h'.lg,n<=x)/\leN 8 u v=true:=by
 unfold Yt at c;split at c;. rename_i u h';obtain⟨h1,d⟩:=Q2 c;obtain⟨e,g⟩:=Q2 d;exact⟨u,_,rfl,G2 e,AqW g,h1⟩
 .grind
 grind
end Go.Ev
namespace Go.Ev
variable [Ii]
variable {P:Program}{G:Nat}{σ σ':Dx}{h h':H}{w w':World}{v:AV}{nt:Nat}{f f':L2}{a a':Act}{Z:Ac}{b:FB}{cs:List Frame}{gl:List GE}
structure WOk(P:Program)(gl:List GE)(w:World):Prop where
 size:P.globals.size<=w.heap.size
 vars:∀e∈gl,∃(arr:Array Value) (lo hi:Nat),w.heap[e.g]?=some (.cells arr e.t (lo,hi))/\(∀i,i<arr.size->¬ (lo<=i/\i<hi))/\∀σ,Bk σ e.l arr.toList
structure Kept(w w':World):Prop where
 grow:w.heap.size<=w'.heap.size
 same:∀c,c<w.heap.size->w'.heap[c]?=w.heap[c]?
 io:w'.os=w.os/\w'.output=w.output
def Y0(G:Nat)(w:World):Dx:=λb=>if b<G then some ⟨b,(match w.heap[b]? with|some (.cells arr _ _)=>arr.size|_=>0),none⟩else none
def Gm{b:Nat}{e:SE}(d:Y0 G w b=some e):b<G/\e.c=b/\e.k=none/\e.N=(match w.heap[b]? with|some (.cells arr _ _)=>arr.size|_=>0):=by
 unfold Y0 at d;split at d
 .cases d;exact⟨by assumption,rfl,rfl,rfl⟩
 .cases d
def AkL(k:WOk P gl w)(hn:P.globals.size<=Bq)(d:P8 P.globals.size gl=true):Ms P.globals.size (Y0 P.globals.size w) (glH gl P.globals.size) w/\Vm P.globals.size (Y0 P.globals.size w):=by
 refine⟨⟨At0 hn d,⟨?_,?_,?_⟩,?_⟩,?_⟩;. intro x y e F h1 o J;have t:=(Gm h1).2.1;have E:=(Gm o).2.1;grind
 .intro x e h1;have q:=Gm h1;have:=k.size;omega
 .intro x e h1;have q:=Gm h1;omega
 .intro x e h1;obtain⟨t,E,u,I⟩:=Gm h1;show Gr _ _ (Rw gl).get e w ((Rw gl).get x);rcases Xx hn gl d x om with⟨m,z,p,p3⟩|⟨_,p3⟩
  .rw[p3];obtain⟨arr,lo,hi,r1,C,n⟩:=k.vars m z;rw[p]at r1;have D:e.N=arr.size:=by grind
   have c:=n (Y0 P.globals.size w);have j:m.l.length=arr.size:=by have:=c.1;grind
   refine⟨u,λ_=>⟨arr,lo,hi,by grind,D.symm,by omega,λi x y B A=>c.Zm i x y B A,λ_=>by omega,λ_ i s=>C i om⟩⟩
  .rw[p3];trivial
 .intro g r;exact⟨_,Xo r,rfl⟩
def Akl(m:Ms P.globals.size σ h w)(k:Vm P.globals.size σ)(o:P8 P.globals.size gl=true)(g:Hj gl h=true):WOk P gl w:=by
 refine⟨?_,λe n=>?_⟩
 .rcases cu P.globals.size with p|p;. omega
  .obtain⟨e,h1,j⟩:=k (P.globals.size-1) om;have:=m.so.rng _ e h1;omega
 .obtain⟨h1,j⟩:=Mf o e n;obtain⟨s,z,r⟩:=k _ h1;have c:=m.ma _ s z;rw[AjB g e n]at c;obtain⟨_,c⟩:=c;obtain⟨arr,lo,hi,l,E,B,u,q5,q⟩:=c trivial;rw[r]at l;refine⟨_,_,_,l,λi t=>q trivial i om,λD=>?_⟩;have d:Bk _ _ arr.toList:=⟨by grind,λi x y A C=>u i x y A (by grind)⟩;exact AmF j d _
end Go.Ev
namespace Go.Ev
variable {P:Program}{G:Nat}{σ σ':Dx}{h h':H}{w w':World}{v:AV}{nt:Nat}{f f':L2}{a a':Act}{Z:Ac}{b:FB}{cs:List Frame}{gl:List GE}
structure Orc where
 g:FuncId
 args:List AV
 v:AV
def Nx(P:Program)(gl:List GE)(o:Orc):Prop:=∀(w:World) (An:Array Value) (kind:CallKind),WOk P gl w->(∀σ,Bk σ o.args An.toList) ->
 ∃v' w' a' fn,P.funcs[o.g]?=some fn/\(∀σ,Au σ o.v v')/\Kept w w'/\a'.defers=[]/\(results fn a'.tmps).run P w'=.ok v' w' /\
  ∀cs,Calm ⟨o.g,kind,none⟩ cs->∃k',Steps P (lone (Frame.enter P o.g An kind) cs w) (lone (FB.back ⟨o.g,kind,none⟩ a' k') cs w')
def Lv(hc:Bd P P.globals.size Z)(hn:P.globals.size<=Bq)(n:P8 P.globals.size gl=true) o(q:Bg P o.g=true)(E:Yt P.globals.size o.v (Z.call o.g o.args (glH gl P.globals.size))=true):
 Nx P gl o:=by
 obtain⟨u,h1,I,C,z,k⟩:=AnP E;intro w An kind A m;obtain⟨d,r⟩:=AkL A hn n;have l:Fx (Y0 P.globals.size w) (glH gl P.globals.size) h1:=by intro x p M;have K:P.globals.size<=x:=p;unfold Y0;grind
 obtain⟨O,v',w',a',fn,t,J,y,B,q5,s⟩:=hc.call _ _ _ _ u _ w _ _ I q (m _) d r C l;obtain⟨nw,F,s2,s3⟩:=y;have D:h1.lg=nw:=by rw[F.lg];simp[glH]
 refine⟨_,_,_,_,t,λσ=>AfH 8 u _ _ _ _ k J,⟨s2.grow,λc j=>s2.frame c j ?_,s2.io⟩,B,q5,s⟩;intro x Q e i;have L:=(Gm i).1;grind
def Ym:List Orc->FuncId->uw->Option AV
|[],_,_=>none
|o::os,g,args=>Bool.rec (Ym os g args) (Bool.rec (Ym os g args) (some o.v) (AfJ 8 args o.args)) (Nat.beq o.g g)
def Aio:∀{c} {g} {args} {v},Ym c g args=some v->∃o∈c,o.g=g/\AfJ 8 args o.args=true/\o.v=v:=by intro c;induction c with
|nil=>intro g args v h;cases h
|cons o os e=>intro g args v h;unfold Ym at h;cases h1:Nat.beq o.g g with
 |false=>simp_all
 |true=>cases d:AfJ 8 args o.args with
  |false=>simp_all
  |true=>simp_all
structure Tab where
 Azg:Nat
 l:List Orc
def Hl(c:Tab)(g:FuncId)(args:uw):Option AV:=Bool.rec (Ym c.l g args) none (Nat.beq (Nat.land c.Azg (Nat.pow 2 g)) 0)
def AcW{c}{g}{args}{v}(h:Hl c g args=some v):∃o∈c.l,o.g=g/\AfJ 8 args o.args=true/\o.v=v:=by unfold Hl at h;cases d:Nat.beq (Nat.land c.Azg (Nat.pow 2 g)) 0 with
|true=>simp_all
|false=>rw[d]at h;exact Aio h
def Abq(gl:List GE)(v:AV)(h:H):OR:=Bool.rec (.bad 300) (.ok v h) (Hj gl h)
def ApJ(gl:List GE)(c:Tab)(Z:Ac):Ac:=
 ⟨λg args h=>Option.rec (Z.call g args h) (λv=>Abq gl v h) (Hl c g args),Z.round⟩
def Acb(P:Program)(gl:List GE)(e:Tab)(d:Nat):Ac:=Nat.rec Q7 (λ_ c=>ApJ gl e ⟨Fy P c,Io P c⟩) d
def AfZ{v'}(c:Abq gl v h=.ok v' h'):Hj gl h=true/\v=v'/\h=h':=by
 rcases Bl c with⟨h1,d⟩|⟨_,d⟩;. simp_all
 grind
def Aer{e}(hc:Dw Z):Dw (ApJ gl e Z):=by refine⟨λg args h v h' i=>?_,hc.round⟩;have c:@Option.rec _ (λ_=>OR) _ ..=.ok v _:=i;cases d:Hl _ g _ with
|none=>rw[d]at c;exact hc.call g _ h v _ c
|some u=>rw[d]at c;obtain⟨_,_,rfl⟩:=AfZ c;simp
def Aj4{A}(hc:Bd P P.globals.size Z)(B:P8 P.globals.size gl=true)(q:∀o∈A.l,Nx P gl o):Bd P P.globals.size (ApJ gl A Z):=by
 refine⟨?_,λl args h h' v σ w An=>hc.round l _ h _ v _ w _,Aer hc.mono,?_,hc.Au7⟩;rotate_left;. intro g args h h' v σ w An z r m d n t s;have i:@Option.rec _ (λ_=>OR) _ ..=.Hb v _:=z;cases j:Hl _ g _ with
   |none=>rw[j]at i;exact hc.Hb g _ h _ v _ w _ i r m d n t s
   |some u=>rw[j]at i;rcases X8 i with⟨_,hq⟩|⟨_,hq⟩<;>cases hq
 intro g args h h' v σ w An kind z r m d n t s;have i:@Option.rec _ (λ_=>OR) _ ..=.ok v _:=z;cases j:Hl _ g _ with
 |none=>rw[j]at i;exact hc.call g _ h _ v _ w _ _ i r m d n t s
 |some u=>rw[j]at i;obtain⟨M,rfl,rfl⟩:=AfZ i;obtain⟨o,F,rfl,J,rfl⟩:=AcW j;obtain⟨v',w',a',fn,r1,L,k,E,I,D⟩:=q o F w _ _ (Akl d n B M) λO=>Yb (AfH 8) _ _ _ _ _ J m;refine⟨_,_,_,_,_,r1,L _,⟨_,J6.refl d.ai,⟨Qq.refl _,λx e h1 C=>by grind,⟨d.so.inj,λx e p=>Xq (d.so.rng x e p) k.grow,d.so.low⟩,k.grow,λc y _=>k.same c y,
   λx e h1 C=>by grind,k.io⟩,?_⟩,E,I,D⟩;intro x e p;exact Gr.congr (Qq.refl _) (k.same _ (d.so.rng x e p)) (λ_ _ _ _ _ K=>K) (d.ma x e p)
def Jp{i}(j:P.follows .mixedOrders=true)(g:Mv P=true)(k:P8 P.globals.size gl=true)(e:∀o∈i.l,Nx P gl o) d:Bd P P.globals.size (Acb P gl i d):=by induction d with
|zero=>exact Acd j g 0
|succ d c=>exact Aj4 (ApK c j g ⟨N9 c.mono,Mj c.mono⟩) k e
def ArQ(P:Program):Bool:=(List.range P.globals.size).all λg=>(((begin P (λ_ _=>0) default).world.heap[g]?).bind Obj.row?).isSome
def Asq(P:Program)(e:GE)(x:String × DataW Unit):Bool:=
 match P.globalNamed x.1,(P.globals[e.g]?).map (·.type),((begin P (λ_ _=>0) default).world.heap[e.g]?).bind Obj.row? with
 |some g,some t,some r=>Nat.beq g e.g&&Nat.beq r.2 e.t&&(match Iw P 4 t x.2 with|some l=>Sh l e.l|none=>false)
 |_,_,_=>false
def AvN(P:Program)(c:List (String × DataW Unit))(gl:List GE):Bool:=gl.all λe=>c.any (Asq P e)
def AiJ{j:List (String × DataW Unit)}(E:w.ShapedOpen P)(u:ArQ P=true)(T:laidMet P j w)(M:AvN P j gl=true):WOk P gl w:=by
 have A:∀g,g<P.globals.size->∃zero t cs,((begin P (λ_ _=>0) default).world.heap[g]?).bind Obj.row?=some (zero,t)/\w.heap[g]?=some (.cells cs t):=by intro g m;have:=Od.1 u g (Oa.2 m);obtain⟨⟨zero,t⟩,q⟩:=Option.isSome_iff_exists.1 this;obtain⟨cs,h1,_⟩:=E.1 g zero t m q;exact⟨zero,t,cs,q,h1⟩
 refine⟨?_,λe V=>?_⟩;. grind
 .obtain⟨x,U,c⟩:=List.any_eq_true.1 (Od.1 M e V);unfold Asq at c;split at c
  .rename_i g t r m D q;simp only[Wx]at c;obtain⟨⟨h1,y⟩,C⟩:=c;have h1:=Ch h1;have y:=Ch y;subst h1;split at C
   .rename_i l B;obtain⟨rfl,_⟩:=Xd C;obtain⟨Q,L,cs,O,p,I,K,o,R⟩:=Lib.laidMet.reads T (n:=x.1) (d:=x.2) U;have s:Q=e.g:=by rw[m]at I;cases I;rfl
    subst s;have z:L=t:=by rw[D]at K;cases K;rfl
    subst z;have F:e.g<P.globals.size:=by grind
    obtain⟨zero,W,k,r1,J⟩:=A e.g F;rw[q]at r1;cases r1;have S:k=cs:=by unfold World.var? at o;rw[m]at o;simp only[Yr,J]at o;cases o;rfl
    subst S;subst y;exact⟨k,0,0,J,λi _=>by omega,λσ=>ApV w σ 4 _ _ _ O _ p B R⟩
   .cases C
  .cases c
def laidMetH.plain{c}(e:(c.filter λx=>x.2.handleName?.isSome)=[])(d:laidMetH P c w):laidMet P c w:=by unfold laidMetH at d;grind
def Kept.but(c:Kept w w'):w.keptBut w' λ_=>False:=by refine⟨c.io.1,c.io.2,λi hi=>?_⟩;rw[c.same i hi];grind
open Go.ChangeShapes Go.WideShapes Go.ChangeAt Go.RowKit
section
variable {H:Type}{enc:TypeId × Value->H}
end
def AmJ{P:Program}(c:P.funcs.toList.all (λfn=>!fn.goes)=true) f:P.goes f=false:=by unfold Program.goes;grind
def Ah2{P}{c:OpenClaim}(d:c.start=.entering)(e:P.funcs.toList.all (λfn=>!fn.goes)=true):false=c.goesBy P:=by unfold OpenClaim.goesBy Program.goesAt Program.goesFrom;rw[d];cases P.funcNamed _ with
|none=>rfl
|some f=>simp[AmJ e f]
end Go.Ev
