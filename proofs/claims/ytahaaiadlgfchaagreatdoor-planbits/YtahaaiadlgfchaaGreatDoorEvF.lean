/- From a call of the -/
import Derived.Test.YtahaaiadlgfchaaGreatDoorEvE
import Derived.ChangeArms
import Derived.Lib.LaidU8
import GoSem.ClaimJoined
import Derived.Handed
import Derived.LaidLaws
import Derived.Lay
import Derived.ProofKit
import Derived.OpenShut
import Derived.LaidMore
import Derived.SevenTiedAt
import Derived.Stop.Joined
set_option linter.all false
noncomputable section
namespace Go.Ev
variable [Ii]
variable {P:Program}{G:Nat}{σ σ':Dx}{h h':H}{w w':World}{v:AV}{nt:Nat}{f f':L2}{a a':Act}{Z:Ac}{b:FB}{cs:List Frame}
def P7(P:Program)(c:TypeId->DataW Unit->Option uz)(total:Nat):List (TypeId × Nat)->Nat->List (DataW Unit)->Option uz
|[],o,[]=>if o=total then some []else none
|(t,off)::e,o,d::ds=>
 if off=o then
  match c t d with
  |some l=>match P7 P c total e (o+P.cellsOf t) ds with
   |some r=>some (l++r)
   |none=>none
  |none=>none
 else none
|_,_,_=>none
def Iw(P:Program):Nat->TypeId->DataW Unit->Option uz
|0,_,_=>none
|k+1,t,d=>
 match P.underlying t,d with
 |some .bool,.lit (.bool b)=>some [.bool b]
 |some (.int _),.lit (.int c n)=>some [.int c n]
 |some .string,.lit (.string bs)=>some [.str (bs.map UInt8.toNat)]
 |some (.struct g),.agg ds=>P7 P (Iw P k) (P.cellsOf t) (g.toList.map λf=>(f.type,f.offset)) 0 ds
 |some (.array n e),.agg ds=>P7 P (Iw P k) (P.cellsOf t) ((List.range n).map λi=>(e,i*P.cellsOf e)) 0 ds
 |_,_=>none
def Ara{α β:Type}{g:α->Option β}:∀{l:List α} {c:List β},l.mapM g=some c->c.length=l.length/\∀(i:Nat) (a:α),l[i]?=some a->∃b,c[i]?=some b/\g a=some b:=by
 intro l;induction l with
 |nil=>intro c h;simp at h;subst h;exact⟨rfl,λi a hi=>by simp at hi⟩
 |cons x l j=>
  intro c h;rw[Fq]at h;cases d:g x with
  |none=>simp[d]at h
  |some y=>
   cases e:l.mapM g with
   |none=>simp[d,e]at h
   |some n=>
    simp[d,e]at h;subst h;obtain⟨h1,h2⟩:=j e;refine⟨by simp[h1],λi a hi=>?_⟩;cases i with
    |zero=>simp at hi;subst hi;exact⟨y,by simp,d⟩
    |succ i=>simp at hi;obtain⟨z,m,k⟩:=h2 i a hi;exact⟨z,by simpa using m,k⟩
abbrev Reads(P:Program)(w:World)(Me:Nat)(t:TypeId)(cs:List Value):=DataW.trod (λ_=>()) P w 0 (λ_=>true) false Me t cs
def Aey{x:TypeId->DataW Unit->Option uz}{w:World}{σ:Dx}(k:∀t d l e cs p,x t d=some l->Reads P w e t cs=some (d,p)->Bk σ l cs)(total:Nat):
 ∀(g:List (TypeId × Nat)) (o:Nat) (ds:List (DataW Unit)) (l:uz) (cs:List Value),P7 P x total g o ds=some l->cs.length=total->ds.length=g.length ->
  (∀(i:Nat) (f:TypeId × Nat),g[i]?=some f->∃e d p,ds[i]?=some d/\Reads P w e f.1 ((cs.drop f.2).take (P.cellsOf f.1))=some (d,p))->Bk σ l (cs.drop o):=by
 intro g;induction g with
 |nil=>
  intro o ds l cs h s c j;cases ds with
  |nil=>
   simp only[P7]at h;split at h
   .rename_i D;cases h;rw[Ts om];exact .nil σ
   .cases h
  |cons d ds=>simp at c
 |cons f g q=>
  intro o ds l cs h s c j;cases ds with
  |nil=>simp at c
  |cons d ds=>
   obtain⟨t,off⟩:=f;simp only[P7]at h;split at h
   .rename_i m;subst m;split at h
    .rename_i l1 B;split at h
     .rename_i r A;cases h;obtain⟨e,u,p,hd,n⟩:=j 0 (t,off) rfl;simp at hd;subst hd;have z:=k t d l1 e _ p B n;have C:=q (off+P.cellsOf t) ds r cs A s (by simpa using c) (λi f y=>by obtain⟨e,u,p,hd,n⟩:=j (i+1) f (by simpa using y);exact⟨e,u,p,by simpa using hd,n⟩);have:=z.append C;rw[<- au,Dt]at this;exact this
     .cases h
    .cases h
   .cases h
def ApV(w:World)(σ:Dx):∀(k:Nat) (t:TypeId) (d:DataW Unit) (l:uz) (o:Nat) (cs:List Value) (p:List MemPlace),Iw P k t d=some l->Reads P w o t cs=some (d,p)->Bk σ l cs:=by intro k;induction k with
|zero=>intro t d l o cs p h;simp[Iw]at h
|succ k x=>
 intro t d l o cs p h c;simp only[Iw]at h;split at h;. rename_i b g;cases h;obtain⟨D,rfl,m⟩:=DataW.trod_bool g c;cases m;exact .cons (.bool _) (.nil σ)
 .rename_i C E n g;cases h;obtain⟨B,rfl,m,_⟩:=DataW.trod_int g c;cases m;exact .cons (.int _ _) (.nil σ)
 .rename_i bs g;cases h;obtain⟨s,rfl,m,_⟩:=DataW.trod_string g c;cases m;exact .cons (.str s) (.nil σ)
 .rename_i A ds g;obtain⟨u,n,rfl,m,r,q,z⟩:=DataW.trod_struct g c;have j:ds=u.map (·.1):=by simp_all
  have:=Aey x (P.cellsOf t) (A.toList.map λf=>(f.type,f.offset)) 0 ds l cs h r (by simp[j,q]) (by grind);simpa using this
 .rename_i n e ds g;cases o with
  |zero=>simp[DataW.trod]at c
  |succ o=>
   unfold Reads at c;simp only[DataW.trod,g]at c;split at c
   .rename_i r;obtain⟨u,y,m⟩:=Option.map_eq_some_iff.1 c;have j:ds=u.map (·.1):=by grind
    obtain⟨q,z⟩:=Ara y;have:=Aey x (P.cellsOf t) ((List.range n).map λi=>(e,i*P.cellsOf e)) 0 ds l cs h r (by simp[j,q]) (by grind);simpa using this
   .cases c
 .cases h
def leN:Nat->AV->AV->Bool
|0,_,_=>false
|d+1,x,y=>
 match y with
 |.top=>true
 |.bool b=>(match x with|.bool a=>Aju a b|_=>false)
 |.int i b=>(match x with|.int k a=>Bool.rec false (ieq a b) (kEq k i)|_=>false)
 |.str b=>(match x with|.str a=>Qh a b|_=>false)
 |.Ob=>(match x with|.Ob=>true|_=>false)
 |.Bv=>(match x with|.Bv=>true|_=>false)
 |.Td=>(match x with|.Td=>true|_=>false)
 |.Iy=>(match x with|.Iy=>true|_=>false)
 |.B3=>(match x with|.B3=>true|_=>false)
 |.I6 g v=>(match x with|.I6 t u=>Bool.rec false (leN d u v) (Nat.beq t g)|_=>false)
 |.agg c=>(match x with|.agg xs=>List.rec (λc=>List.rec true (λ_ _ _=>false) c) (λx _ e c=>List.rec false (λy c _=>Bool.rec false (e c) (leN d x y)) c) xs c|_=>false)
 |.Bj c=>(match x with|.Bj xs=>List.rec (λc=>List.rec true (λ_ _ _=>false) c) (λx _ e c=>List.rec false (λy c _=>Bool.rec false (e c) (leN d x y)) c) xs c|_=>false)
 |_=>false
def AfJ(d:Nat)(g c:uz):Bool:=List.rec (λc=>List.rec true (λ_ _ _=>false) c) (λx _ e c=>List.rec false (λy c _=>Bool.rec false (e c) (leN d x y)) c) g c
def Ano(d:Nat)(x y:AV)(c e:uz):AfJ d (x::c) (y::e)=Bool.rec false (AfJ d c e) (leN d x y):=rfl
def Yb{d}(hd:∀x y v σ g,leN d x y=true->Au σ x v->Au g y v):∀e c i σ g,AfJ d e c=true->Bk σ e i->Bk g c i:=by intro e;induction e with
|nil=>intro c i σ g h j;cases c with
 |nil=>have:=j.Rt;subst this;exact .nil _
 |cons y c=>cases h
|cons x e k=>intro c i σ g h j;cases c with
 |nil=>cases h
 |cons y c=>obtain⟨h1,h2⟩:=Q2 h;obtain⟨v,n,rfl,l,m⟩:=j.F8;exact .cons (hd x y v _ _ h1 l) (k _ _ _ _ h2 m)
def AfH:∀(d:Nat) (x y:AV) (v:Value) (σ j:Dx),leN d x y=true->Au σ x v->Au j y v:=by intro d;induction d with
|zero=>intro x y v σ j h;cases h
|succ d n=>intro x y v σ j h g;cases y with
 |top=>exact .top v
 |bool b=>
  cases x<;>first|(cases h;done)|skip;rename_i a;have h':Aju a b=true:=h;rw[Afn]at h';have:a=b:=by simpa using h'
  subst this;cases g;exact .bool _
 |int s b=>
  cases x<;>first|(cases h;done)|skip;rename_i k a;obtain⟨h1,h2⟩:=Q2 (show(Bool.rec false (ieq a b) (kEq k s):Bool)=true from h);have:=(Q3 k s).1 h1;subst this;rw[Q1]at h2;have:a=b:=by simpa using h2
  subst this;cases g;exact .int _ _
 |str b=>
  cases x<;>first|(cases h;done)|skip;rename_i a;have h':Qh a b=true:=h;rw[Qi]at h';have:a=b:=by simpa using h'
  subst this;cases g;exact .str _
 |Ob=>cases x<;>first|(cases h;done)|skip;cases g;exact .Ob
 |Bv=>cases x<;>first|(cases h;done)|skip;cases g;exact .Bv
 |Td=>cases x<;>first|(cases h;done)|skip;cases g;exact .Td
 |Iy=>cases x<;>first|(cases h;done)|skip;cases g;exact .Iy
 |B3=>cases x<;>first|(cases h;done)|skip;cases g;exact .B3
 |I6 C A=>cases x<;>first|(cases h;done)|skip;rename_i t u;obtain⟨h1,h2⟩:=Q2 (show(Bool.rec false (leN d u A) (Nat.beq t C):Bool)=true from h);have:=Ch h1;subst this;cases g;rename_i v' B;exact .I6 _ _ _ (n u A v' σ j h2 B)
 |agg i=>cases x<;>first|(cases h;done)|skip;rename_i m;have h':AfJ d m i=true:=h;cases g;rename_i D7 p q;have:=Yb n m i D7.toList σ j h' ⟨p,q⟩;exact .agg i D7 this.1 this.2
 |Bj i=>cases x<;>first|(cases h;done)|skip;rename_i m;have h':AfJ d m i=true:=h;cases g;rename_i D7 p q;have:=Yb n m i D7.toList σ j h' ⟨p,q⟩;exact .Bj i D7 this.1 this.2
 |ptr b o=>cases h
 |sl b o l c z e=>cases h
 |map r=>cases h
 |fn f a c=>cases h
def Aex{x:AV}{y:Value}(d:AaA x=true)(h:Au σ x y)(c:Dx):Au c x y:=by
 cases h<;>first|(cases d;done)|skip
 .exact .bool _
 .exact .int _ _
 .exact .str _
def AmF{l}{d}(e:l.all AaA=true)(h:Bk σ l d) σ':Bk σ' l d:=
 ⟨h.1,λi x y c hy=>Aex (Od.1 e x (Vl c)) (h.2 i x y c hy) _⟩
structure GE where
 g:Nat
 l:List AV
 t:TypeId
def Rw(gl:List GE):KM:=List.rec KM.new (λe _ c=>c.set e.g (cd e.l e.t)) gl
def glH(gl:List GE)(n:Nat):H:=⟨Rw gl,n,[]⟩
def P8(n:Nat):List GE->Bool
|[]=>true
|e::gl=>Nat.blt e.g n&&(gl.all λc=>Ib (Nat.beq c.g e.g))&&e.l.all AaA&&P8 n gl
def Xx{n}(hn:n<=Bq):∀gl,P8 n gl=true->∀j,j<Bq->(∃e∈gl,e.g=j/\(Rw gl).get j=cd e.l e.t)\/(∀e∈gl,e.g≠j)/\(Rw gl).get j=.none:=by intro gl;induction gl with
|nil=>intro _ j hj;exact .inr ⟨λe i=>by grind,KM.Xw j⟩
|cons e gl k=>intro c j hj;simp only[P8,Sc]at c;obtain⟨⟨⟨h1,h2⟩,o⟩,m⟩:=c;have d:=Yy (Ec h1) hn;have p:(Rw (e::gl)).get j=if j=e.g then .cells _ .. else(Rw _).get j:=KM.Dh _ _ j _ d hj;grind
def Mf{n}:∀{gl},P8 n gl=true->∀e∈gl,e.g<n/\e.l.all AaA=true:=by intro gl;induction gl with
|nil=>simp
|cons x gl j=>
 intro c e d;simp only[P8,Sc]at c;obtain⟨⟨⟨h1,h2⟩,i⟩,k⟩:=c;rcases Wf.1 d with rfl|d;. exact⟨Ec h1,i⟩
 grind
def At0{n:Nat}{gl:List GE}(hn:n<=Bq)(d:P8 n gl=true):Om (glH gl n):=by
 have c:=Xx hn gl d;have o:∀j,j<Bq->Ej ((glH gl n).m.get j)=none/\M2 ((glH gl n).m.get j)=none/\∀l t k st,(glH gl n).m.get j≠.cells l t (.Cf k st):=by
  intro j hj;show Ej ((Rw gl).get j)=none/\M2 ((Rw gl).get j)=none/\∀l t k st,(Rw gl).get j≠.cells l t (.Cf k st);rcases c j hj with⟨e,_,_,q⟩|⟨_,q⟩;. rw[q];exact⟨rfl,rfl,λl t k st g=>by cases g⟩
  .rw[q];exact⟨rfl,rfl,λl t k st g=>by grind⟩
 refine⟨hn,?_,?_,?_,?_,?_⟩
 .intro j h1 h2;show(Rw gl).get j=.none;rcases c j h2 with⟨e,i,p,_⟩|⟨_,q⟩;. have:=(Mf d e i).1;have r:n<=j:=h1;omega
  omega
 .grind
 .grind
 .simp_all
 grind
def Hj(gl:List GE)(h:H):Bool:=
 match gl with
 |[]=>true
 |e::gl=>match h.m.get e.g with
  |.cells l t .exact=>Bool.rec false (Bool.rec false (Hj gl h) (Nat.beq t e.t)) (Sh l e.l)
  |_=>false
def AjB:∀{gl},Hj gl h=true->∀e∈gl,h.m.get e.g=cd e.l e.t:=by intro gl;induction gl with
|nil=>grind
|cons x gl j=>
 intro c e i;unfold Hj at c;split at c;. obtain⟨h1,h2⟩:=Q2 c;obtain⟨d,k⟩:=Q2 h2;have:=(Xd h1).1;have:=Ch d;grind
 grind
def Aza(n:Nat)(l:uw):Bool:=List.rec true (λx _ c=>Bool.rec false c (Nat.ble n x)) l
def AqW{n}:∀{l},Aza n l=true->∀x∈l,n<=x:=by intro l;induction l with
|nil=>simp
|cons y l e=>
 intro d x c;obtain⟨h1,h2⟩:=Q2 (show Bool.rec _ (Aza n l) _=true from d);rcases Wf.1 c with rfl|c;. simp_all
 grind
end Go.Ev
namespace Go.Ev
variable {P:Program}{G:Nat}{σ σ':Dx}{h h':H}{w w':World}{v:AV}{nt:Nat}{f f':L2}{a a':Act}{Z:Ac}{b:FB}{cs:List Frame}
def Yt(n:Nat)(v:AV)(r:OR):Bool:=match r with
|.ok u h=>Bool.rec false (Bool.rec false (Aza n h.lg) (Nat.ble h.nx 1000000000000000000)) (leN 8 u v)
|.bad _=>false
def AnP{n:Nat}{r:OR}(c:Yt n v r=true):∃u h',r=.ok u h'/\h'.nx<=Bq/\(∀x∈h'.lg,n<=x)/\leN 8 u v=true:=by
 unfold Yt at c;split at c
 .rename_i u h';obtain⟨h1,h2⟩:=Q2 c;obtain⟨d,e⟩:=Q2 h2;exact⟨u,h',rfl,G2 d,AqW e,h1⟩
 .cases c
end Go.Ev
namespace Go.Ev
variable [Ii]
variable {P:Program}{G:Nat}{σ σ':Dx}{h h':H}{w w':World}{v:AV}{nt:Nat}{f f':L2}{a a':Act}{Z:Ac}{b:FB}{cs:List Frame}{gl:List GE}
structure WOk(P:Program)(gl:List GE)(w:World):Prop where
 size:P.globals.size<=w.heap.size
 vars:∀e∈gl,∃(arr:Array Value) (lo hi:Nat),w.heap[e.g]?=some (.cells arr e.t (lo,hi))/\(∀i,i<arr.size->¬ (lo<=i/\i<hi))/\∀σ,Bk σ e.l arr.toList
structure Kept(w w':World):Prop where
 grow:w.heap.size<=w'.heap.size
 same:∀c,c<w.heap.size->w'.heap[c]?=w.heap[c]?
 io:w'.os=w.os/\w'.output=w.output
def Y0(G:Nat)(w:World):Dx:=λb=>if b<G then some ⟨b,(match w.heap[b]? with|some (.cells arr _ _)=>arr.size|_=>0),none⟩else none
def Gm{b:Nat}{e:SE}(d:Y0 G w b=some e):b<G/\e.c=b/\e.k=none/\e.N=(match w.heap[b]? with|some (.cells arr _ _)=>arr.size|_=>0):=by
 unfold Y0 at d;split at d
 .cases d;exact⟨by assumption,rfl,rfl,rfl⟩
 .cases d
def AkL(d:WOk P gl w)(hn:P.globals.size<=Bq)(j:P8 P.globals.size gl=true):Ms P.globals.size (Y0 P.globals.size w) (glH gl P.globals.size) w/\Vm P.globals.size (Y0 P.globals.size w):=by
 refine⟨⟨At0 hn j,⟨?_,?_,?_⟩,?_⟩,?_⟩;. intro x y e E h1 h2 D;have s:=(Gm h1).2.1;have B:=(Gm h2).2.1;grind
 .intro x e h1;have q:=Gm h1;have:=d.size;omega
 .intro x e h1;have q:=Gm h1;omega
 .intro x e h1;obtain⟨s,B,t,C⟩:=Gm h1;show Gr _ _ (Rw gl).get e w ((Rw gl).get x);rcases Xx hn gl j x om with⟨k,p1,p2,p3⟩|⟨_,p3⟩
  .rw[p3];obtain⟨arr,lo,hi,r,n,o⟩:=d.vars k p1;rw[p2]at r;have A:e.N=arr.size:=by grind
   have c:=o (Y0 P.globals.size w);have m:k.l.length=arr.size:=by have:=c.1;grind
   refine⟨t,λ_=>⟨arr,lo,hi,by grind,A.symm,by omega,λi x y z hy=>c.Zm i x y z hy,λ_=>by omega,λ_ i p=>n i om⟩⟩
  .rw[p3];trivial
 .intro g u;exact⟨_,Xo u,rfl⟩
def Akl(j:Ms P.globals.size σ h w)(m:Vm P.globals.size σ)(n:P8 P.globals.size gl=true)(d:Hj gl h=true):WOk P gl w:=by
 refine⟨?_,λe k=>?_⟩
 .rcases cu P.globals.size with h0|h0;. omega
  .obtain⟨e,h1,h2⟩:=m (P.globals.size-1) om;have:=j.so.rng _ e h1;omega
 .obtain⟨h1,h2⟩:=Mf n e k;obtain⟨s,t,q⟩:=m _ h1;have c:=j.ma _ s t;rw[AjB d e k]at c;obtain⟨_,c⟩:=c;obtain⟨arr,lo,hi,l,B,A,p,C,o⟩:=c trivial;rw[q]at l;refine⟨_,_,_,l,λi r=>o trivial i om,λz=>?_⟩;have g:Bk _ _ arr.toList:=⟨by grind,λi x y u hy=>p i x y u (by grind)⟩;exact AmF h2 g _
end Go.Ev
namespace Go.Ev
variable {P:Program}{G:Nat}{σ σ':Dx}{h h':H}{w w':World}{v:AV}{nt:Nat}{f f':L2}{a a':Act}{Z:Ac}{b:FB}{cs:List Frame}{gl:List GE}
structure Orc where
 g:FuncId
 args:List AV
 v:AV
def Nx(P:Program)(gl:List GE)(o:Orc):Prop:=∀(w:World) (An:Array Value) (kind:CallKind),WOk P gl w->(∀σ,Bk σ o.args An.toList) ->
 ∃v' w' a' fn,P.funcs[o.g]?=some fn/\(∀σ,Au σ o.v v')/\Kept w w'/\a'.defers=[]/\(results fn a'.tmps).run P w'=.ok v' w' /\
  ∀cs,Calm ⟨o.g,kind,none⟩ cs->∃c,Steps P (lone (Frame.enter P o.g An kind) cs w) (lone (FB.back ⟨o.g,kind,none⟩ a' c) cs w')
def Lv(F:Bd P P.globals.size Z)(hn:P.globals.size<=Bq)(n:P8 P.globals.size gl=true) o(hb:Bg P o.g=true)(D:Yt P.globals.size o.v (Z.call o.g o.args (glH gl P.globals.size))=true):
 Nx P gl o:=by
 obtain⟨u,h1,E,B,t,k⟩:=AnP D;intro w An kind z m;obtain⟨d,p⟩:=AkL z hn n;have l:Fx (Y0 P.globals.size w) (glH gl P.globals.size) h1:=by intro x h2 L;have J:P.globals.size<=x:=h2;unfold Y0;grind
 obtain⟨M,v',w',a',fn,r,I,s,A,y,q⟩:=F.call _ _ _ _ u _ w _ _ E hb (m _) d p B l;obtain⟨nw,s1,s2,Q⟩:=s;have C:h1.lg=nw:=by rw[s1.lg];simp[glH]
 refine⟨_,_,_,_,r,λσ=>AfH 8 u _ _ _ _ k I,⟨s2.grow,λc j=>s2.frame c j ?_,s2.io⟩,A,y,q⟩;intro x O e i;have K:=(Gm i).1;grind
def Ym:List Orc->FuncId->uz->Option AV
|[],_,_=>none
|o::os,g,args=>Bool.rec (Ym os g args) (Bool.rec (Ym os g args) (some o.v) (AfJ 8 args o.args)) (Nat.beq o.g g)
def Aio:∀{c} {g} {args} {v},Ym c g args=some v->∃o∈c,o.g=g/\AfJ 8 args o.args=true/\o.v=v:=by intro c;induction c with
|nil=>intro g args v h;cases h
|cons o os d=>intro g args v h;unfold Ym at h;cases h1:Nat.beq o.g g with
 |false=>simp_all
 |true=>cases h2:AfJ 8 args o.args with
  |false=>simp_all
  |true=>simp_all
structure Tab where
 Azg:Nat
 l:List Orc
def Hl(c:Tab)(g:FuncId)(args:uz):Option AV:=Bool.rec (Ym c.l g args) none (Nat.beq (Nat.land c.Azg (Nat.pow 2 g)) 0)
def AcW{c}{g}{args}{v}(h:Hl c g args=some v):∃o∈c.l,o.g=g/\AfJ 8 args o.args=true/\o.v=v:=by unfold Hl at h;cases hb:Nat.beq (Nat.land c.Azg (Nat.pow 2 g)) 0 with
|true=>simp_all
|false=>rw[hb]at h;exact Aio h
def Abq(gl:List GE)(v:AV)(h:H):OR:=Bool.rec (.bad 300) (.ok v h) (Hj gl h)
def ApJ(gl:List GE)(c:Tab)(Z:Ac):Ac:=
 ⟨λg args h=>Option.rec (Z.call g args h) (λv=>Abq gl v h) (Hl c g args),Z.round⟩
def Acb(P:Program)(gl:List GE)(e:Tab)(d:Nat):Ac:=Nat.rec Q7 (λ_ c=>ApJ gl e ⟨Fy P c,Io P c⟩) d
def AfZ{v'}(c:Abq gl v h=.ok v' h'):Hj gl h=true/\v=v'/\h=h':=by
 rcases Bl c with⟨h1,h2⟩|⟨_,h2⟩;. simp_all
 grind
def Aer{i}(e:Dw Z):Dw (ApJ gl i Z):=by refine⟨λg args h v h' j=>?_,e.round⟩;have c:@Option.rec _ (λ_=>OR) _ ..=.ok v _:=j;cases d:Hl _ g _ with
|none=>rw[d]at c;exact e.call g _ h v _ c
|some u=>rw[d]at c;obtain⟨_,_,rfl⟩:=AfZ c;simp
def Aj4{m:Tab}(s:Bd P P.globals.size Z)(z:P8 P.globals.size gl=true)(n:∀o∈m.l,Nx P gl o):Bd P P.globals.size (ApJ gl m Z):=by
 refine⟨?_,λl args h h' v σ w An e r=>s.round l args h h' v σ w An e r,Aer s.mono⟩;intro g args h h' v σ w An kind r hb t d y J F;have j:(@Option.rec _ (λ_=>OR) (Z.call g args h) (λv=>Abq gl v h) (Hl m g args):OR)=.ok v h':=r;cases p:Hl m g args with
 |none=>rw[p]at j;exact s.call g args h h' v σ w An kind j hb t d y J F
 |some u=>
  rw[p]at j;obtain⟨O,rfl,rfl⟩:=AfZ j;obtain⟨o,D,rfl,I,rfl⟩:=AcW p;obtain⟨v',w',a',fn,A,M,i,C,E,B⟩:=n o D w An kind (Akl d y z O) (λL=>Yb (AfH 8) args o.args An.toList σ L I t);refine⟨σ,v',w',a',fn,A,M σ,⟨[],J6.refl d.ai,⟨Qq.refl σ,λx e h1 h2=>(by rw[h1]at h2;cases h2),⟨d.so.inj,λx e k=>Yy (d.so.rng x e k) i.grow,d.so.low⟩,i.grow,λc q _=>i.same c q,
   λx e h1 h2=>(by rw[h1]at h2;cases h2),i.io⟩,?_⟩,C,E,B⟩
  intro x e k;exact Gr.congr (Qq.refl σ) (i.same e.c (d.so.rng x e k)) (λ_ _ _ _ _ K=>K) (d.ma x e k)
def Jp{i}(j:P.follows .mixedOrders=true)(g:Mv P=true)(k:P8 P.globals.size gl=true)(e:∀o∈i.l,Nx P gl o) d:Bd P P.globals.size (Acb P gl i d):=by induction d with
|zero=>exact Acd j g 0
|succ d c=>exact Aj4 (ApK c j g ⟨N9 c.mono,Mj c.mono⟩) k e
def ArQ(P:Program):Bool:=(List.range P.globals.size).all λg=>(((begin P (λ_ _=>0) default).world.heap[g]?).bind Obj.row?).isSome
def Asq(P:Program)(e:GE)(x:String × DataW Unit):Bool:=
 match P.globalNamed x.1,(P.globals[e.g]?).map (·.type),((begin P (λ_ _=>0) default).world.heap[e.g]?).bind Obj.row? with
 |some g,some t,some r=>Nat.beq g e.g&&Nat.beq r.2 e.t&&(match Iw P 4 t x.2 with|some l=>Sh l e.l|none=>false)
 |_,_,_=>false
def AvN(P:Program)(c:List (String × DataW Unit))(gl:List GE):Bool:=gl.all λe=>c.any (Asq P e)
def AiJ{j:List (String × DataW Unit)}(D:w.ShapedOpen P)(u:ArQ P=true)(T:laidMet P j w)(M:AvN P j gl=true):WOk P gl w:=by
 have z:∀g,g<P.globals.size->∃zero t cs,((begin P (λ_ _=>0) default).world.heap[g]?).bind Obj.row?=some (zero,t)/\w.heap[g]?=some (.cells cs t):=by intro g m;have:=Od.1 u g (ec.2 m);obtain⟨⟨zero,t⟩,q⟩:=Mw.1 this;obtain⟨cs,h1,_⟩:=D.1 g zero t m q;exact⟨zero,t,cs,q,h1⟩
 refine⟨?_,λe V=>?_⟩;. grind
 .obtain⟨x,U,c⟩:=List.any_eq_true.1 (Od.1 M e V);unfold Asq at c;split at c
  .rename_i g t r m C q;simp only[Sc]at c;obtain⟨⟨h1,h2⟩,B⟩:=c;have h1:=Ch h1;have h2:=Ch h2;subst h1;split at B
   .rename_i l A;obtain⟨rfl,_⟩:=Xd B;obtain⟨Q,L,cs,O,p,I,K,o,R⟩:=Lib.laidMet.reads T (n:=x.1) (d:=x.2) U;have s:Q=e.g:=by rw[m]at I;cases I;rfl
    subst s;have y:L=t:=by rw[C]at K;cases K;rfl
    subst y;have E:e.g<P.globals.size:=by grind
    obtain⟨zero,t2,k,F,J⟩:=z e.g E;rw[q]at F;cases F;have S:k=cs:=by unfold World.var? at o;rw[m]at o;simp only[Option.bind_some,J]at o;cases o;rfl
    subst S;subst h2;exact⟨k,0,0,J,λi _=>by omega,λσ=>ApV w σ 4 _ _ _ O _ p A R⟩
   .cases B
  .cases c
def laidMetH.plain{c}(e:(c.filter λx=>x.2.handleName?.isSome)=[])(d:laidMetH P c w):laidMet P c w:=by unfold laidMetH at d;grind
def Kept.but(c:Kept w w'):w.keptBut w' λ_=>False:=by refine⟨c.io.1,c.io.2,λi hi=>?_⟩;rw[c.same i hi];grind
open Go.ChangeShapes Go.WideShapes Go.ChangeAt Go.RowKit
section
variable {H:Type}{enc:TypeId × Value->H}
end
def AmJ{P:Program}(ha:P.funcs.toList.all (λfn=>!fn.goes)=true) f:P.goes f=false:=by unfold Program.goes;grind
def Ah2{P}{c:OpenClaim}(d:c.start=.entering)(ha:P.funcs.toList.all (λfn=>!fn.goes)=true):false=c.goesBy P:=by unfold OpenClaim.goesBy Program.goesAt Program.goesFrom;rw[d];cases P.funcNamed _ with
|none=>rfl
|some f=>simp[AmJ ha f]
end Go.Ev
