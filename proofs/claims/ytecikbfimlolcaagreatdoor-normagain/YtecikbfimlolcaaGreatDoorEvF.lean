/- From a call of the evaluator to the row of a law without arguments. -/
import Derived.Test.YtecikbfimlolcaaGreatDoorEvE
import Derived.ChangeArms
import Derived.Lib.LaidU8
import GoSem.ClaimJoined
import Derived.Handed
import Derived.LaidLaws
import Derived.Lay
import Derived.ProofKit
import Derived.OpenShut
import Derived.LaidMore
import Derived.SevenTiedAt
import Derived.Stop.Joined
set_option linter.all false
noncomputable section
namespace Go.Ev
variable [Ii]
variable {P:Program}{G:Nat}{σ σ':Dx}{h h':H}{w w':World}{v:AV}{nt:Nat}{f f':L2}{a a':Act}{Z:Ac}{b:FB}{cs:List Frame}
def P7(P:Program)(e:TypeId->DataW Unit->Option (List AV))(c:Nat):List (TypeId × Nat)->Nat->List (DataW Unit)->Option (List AV)
|[],o,[]=>if o=c then some []else none
|(t,off)::g,o,d::ds=>
 if off=o then
  match e t d with
  |some l=>match P7 P e c g (o+P.cellsOf t) ds with
   |some r=>some (l++r)
   |none=>none
  |none=>none
 else none
|_,_,_=>none
def Iw(P:Program):Nat->TypeId->DataW Unit->Option (List AV)
|0,_,_=>none
|k+1,t,d=>
 match P.underlying t,d with
 |some .bool,.lit (.bool b)=>some [.bool b]
 |some (.int _),.lit (.int k' n)=>some [.int k' n]
 |some .string,.lit (.string bs)=>some [.str (bs.map UInt8.toNat)]
 |some (.struct c),.agg ds=>P7 P (Iw P k) (P.cellsOf t) (c.toList.map λf=>(f.type,f.offset)) 0 ds
 |some (.array n e),.agg ds=>P7 P (Iw P k) (P.cellsOf t) ((List.range n).map λi=>(e,i*P.cellsOf e)) 0 ds
 |_,_=>none
def Ara{α β:Type}{g:α->Option β}:∀{l:List α} {xs:List β},l.mapM g=some xs->xs.length=l.length/\∀(i:Nat) (a:α),l[i]?=some a->∃b,xs[i]?=some b/\g a=some b:=by
 intro l;induction l with
 |nil=>intro xs h;simp at h;subst h;exact⟨rfl,λi a hi=>by simp at hi⟩
 |cons x l e=>
  intro xs h;rw[fc]at h;cases c:g x with
  |none=>simp[c]at h
  |some y=>
   cases d:l.mapM g with
   |none=>simp[c,d]at h
   |some ys=>
    simp[c,d]at h;subst h;obtain⟨h1,h2⟩:=e d;refine⟨by simp[h1],λi a hi=>?_⟩;cases i with
    |zero=>simp at hi;subst hi;exact⟨y,by simp,c⟩
    |succ i=>simp at hi;obtain⟨z,j,k⟩:=h2 i a hi;exact⟨z,by simpa using j,k⟩
abbrev Reads(P:Program)(w:World)(Me:Nat)(t:TypeId)(cs:List Value):=DataW.trod (λ_=>()) P w 0 (λ_=>true) false Me t cs
def Aey{u:TypeId->DataW Unit->Option (List AV)}{w:World}{σ:Dx}(q:∀t d l g cs p,u t d=some l->Reads P w g t cs=some (d,p)->Bk σ l cs)(e:Nat):
 ∀(j:List (TypeId × Nat)) (o:Nat) (ds:List (DataW Unit)) (l:List AV) (cs:List Value),P7 P u e j o ds=some l->cs.length=e->ds.length=j.length ->
  (∀(i:Nat) (f:TypeId × Nat),j[i]?=some f->∃g d p,ds[i]?=some d/\Reads P w g f.1 ((cs.drop f.2).take (P.cellsOf f.1))=some (d,p))->Bk σ l (cs.drop o):=by
 intro j;induction j with
 |nil=>
  intro o ds l cs h y c m;cases ds with
  |nil=>
   simp only[P7]at h;split at h
   .rename_i E;cases h;rw[bi om];exact .nil σ
   .cases h
  |cons d ds=>simp at c
 |cons f j s=>
  intro o ds l cs h y c m;cases ds with
  |nil=>simp at c
  |cons d ds=>
   obtain⟨t,off⟩:=f;simp only[P7]at h;split at h
   .rename_i k;subst k;split at h
    .rename_i l1 D;split at h
     .rename_i r A;cases h;obtain⟨g,x,p,hd,n⟩:=m 0 (t,off) rfl;simp at hd;subst hd;have z:=q t d l1 g _ p D n;have B:=s (off+P.cellsOf t) ds r cs A y (by simpa using c) (λi f C=>by obtain⟨g,x,p,hd,n⟩:=m (i+1) f (by simpa using C);exact⟨g,x,p,by simpa using hd,n⟩);have:=z.append B;rw[<- au,Dt]at this;exact this
     .cases h
    .cases h
   .cases h
def ApV(w:World)(σ:Dx):∀(k:Nat) (t:TypeId) (d:DataW Unit) (l:List AV) (o:Nat) (cs:List Value) (p:List MemPlace),Iw P k t d=some l->Reads P w o t cs=some (d,p)->Bk σ l cs:=by intro k;induction k with
|zero=>intro t d l o cs p h;simp[Iw]at h
|succ k u=>
 intro t d l o cs p h c;simp only[Iw]at h;split at h;. rename_i b g;cases h;obtain⟨A,rfl,m⟩:=DataW.trod_bool g c;cases m;exact .cons (.bool _) (.nil σ)
 .rename_i C k' n g;cases h;obtain⟨B,rfl,m,_⟩:=DataW.trod_int g c;cases m;exact .cons (.int _ _) (.nil σ)
 .rename_i bs g;cases h;obtain⟨s,rfl,m,_⟩:=DataW.trod_string g c;cases m;exact .cons (.str s) (.nil σ)
 .rename_i z ds g;obtain⟨xs,n,rfl,m,r,q,x⟩:=DataW.trod_struct g c;have j:ds=xs.map (·.1):=by simp_all
  have:=Aey u (P.cellsOf t) (z.toList.map λf=>(f.type,f.offset)) 0 ds l cs h r (by simp[j,q]) (by grind);simpa using this
 .rename_i n e ds g;cases o with
  |zero=>simp[DataW.trod]at c
  |succ o=>
   unfold Reads at c;simp only[DataW.trod,g]at c;split at c
   .rename_i r;obtain⟨xs,y,m⟩:=Option.map_eq_some_iff.1 c;have j:ds=xs.map (·.1):=by grind
    obtain⟨q,x⟩:=Ara y;have:=Aey u (P.cellsOf t) ((List.range n).map λi=>(e,i*P.cellsOf e)) 0 ds l cs h r (by simp[j,q]) (by grind);simpa using this
   .cases c
 .cases h
def leN:Nat->AV->AV->Bool
|0,_,_=>false
|d+1,x,y=>
 match y with
 |.top=>true
 |.bool b=>(match x with|.bool a=>Aju a b|_=>false)
 |.int k' b=>(match x with|.int k a=>@Bool.rec (λ_=>Bool) false (ieq a b) (kEq k k')|_=>false)
 |.str b=>(match x with|.str a=>Qh a b|_=>false)
 |.Ob=>(match x with|.Ob=>true|_=>false)
 |.Bv=>(match x with|.Bv=>true|_=>false)
 |.Td=>(match x with|.Td=>true|_=>false)
 |.Iy=>(match x with|.Iy=>true|_=>false)
 |.B3=>(match x with|.B3=>true|_=>false)
 |.I6 t' v=>(match x with|.I6 t u=>@Bool.rec (λ_=>Bool) false (leN d u v) (Nat.beq t t')|_=>false)
 |.agg ys=>(match x with|.agg xs=>@List.rec _ (λ_=>List AV->Bool) (λys=>@List.rec _ (λ_=>Bool) true (λ_ _ _=>false) ys) (λx _ c ys=>@List.rec _ (λ_=>Bool) false (λy ys _=>@Bool.rec (λ_=>Bool) false (c ys) (leN d x y)) ys) xs ys|_=>false)
 |.Bj ys=>(match x with|.Bj xs=>@List.rec _ (λ_=>List AV->Bool) (λys=>@List.rec _ (λ_=>Bool) true (λ_ _ _=>false) ys) (λx _ c ys=>@List.rec _ (λ_=>Bool) false (λy ys _=>@Bool.rec (λ_=>Bool) false (c ys) (leN d x y)) ys) xs ys|_=>false)
 |_=>false
def AfJ(d:Nat)(xs ys:List AV):Bool:=@List.rec _ (λ_=>List AV->Bool) (λys=>@List.rec _ (λ_=>Bool) true (λ_ _ _=>false) ys) (λx _ c ys=>@List.rec _ (λ_=>Bool) false (λy ys _=>@Bool.rec (λ_=>Bool) false (c ys) (leN d x y)) ys) xs ys
def Ano(d:Nat)(x y:AV)(xs ys:List AV):AfJ d (x::xs) (y::ys)=@Bool.rec (λ_=>Bool) false (AfJ d xs ys) (leN d x y):=rfl
def Yb{d}(hd:∀x y v σ c,leN d x y=true->Au σ x v->Au c y v):∀xs ys e σ c,AfJ d xs ys=true->Bk σ xs e->Bk c ys e:=by intro xs;induction xs with
|nil=>intro ys e σ c h g;cases ys with
 |nil=>have:=g.Rt;subst this;exact .nil _
 |cons y ys=>cases h
|cons x xs i=>intro ys e σ c h g;cases ys with
 |nil=>cases h
 |cons y ys=>obtain⟨h1,h2⟩:=Q2 h;obtain⟨v,l,rfl,j,k⟩:=g.F8;exact .cons (hd x y v _ _ h1 j) (i _ _ _ _ h2 k)
def AfH:∀(d:Nat) (x y:AV) (v:Value) (σ i:Dx),leN d x y=true->Au σ x v->Au i y v:=by intro d;induction d with
|zero=>intro x y v σ i h;cases h
|succ d j=>intro x y v σ i h g;cases y with
 |top=>exact .top v
 |bool b=>
  cases x<;>first|(cases h;done)|skip;rename_i a;have h':Aju a b=true:=h;rw[Afn]at h';have:a=b:=by simpa using h'
  subst this;cases g;exact .bool _
 |int k' b=>
  cases x<;>first|(cases h;done)|skip;rename_i k a;obtain⟨h1,h2⟩:=Q2 (show(@Bool.rec (λ_=>Bool) false (ieq a b) (kEq k k'):Bool)=true from h);have:=(Q3 k k').1 h1;subst this;rw[Q1]at h2;have:a=b:=by simpa using h2
  subst this;cases g;exact .int _ _
 |str b=>
  cases x<;>first|(cases h;done)|skip;rename_i a;have h':Qh a b=true:=h;rw[Qi]at h';have:a=b:=by simpa using h'
  subst this;cases g;exact .str _
 |Ob=>cases x<;>first|(cases h;done)|skip;cases g;exact .Ob
 |Bv=>cases x<;>first|(cases h;done)|skip;cases g;exact .Bv
 |Td=>cases x<;>first|(cases h;done)|skip;cases g;exact .Td
 |Iy=>cases x<;>first|(cases h;done)|skip;cases g;exact .Iy
 |B3=>cases x<;>first|(cases h;done)|skip;cases g;exact .B3
 |I6 t' p=>cases x<;>first|(cases h;done)|skip;rename_i t u;obtain⟨h1,h2⟩:=Q2 (show(@Bool.rec (λ_=>Bool) false (leN d u p) (Nat.beq t t'):Bool)=true from h);have:=Ch h1;subst this;cases g;rename_i v' q;exact .I6 _ _ _ (j u p v' σ i h2 q)
 |agg ys=>cases x<;>first|(cases h;done)|skip;rename_i xs;have h':AfJ d xs ys=true:=h;cases g;rename_i D7 n m;have:=Yb j xs ys D7.toList σ i h' ⟨n,m⟩;exact .agg ys D7 this.1 this.2
 |Bj ys=>cases x<;>first|(cases h;done)|skip;rename_i xs;have h':AfJ d xs ys=true:=h;cases g;rename_i D7 n m;have:=Yb j xs ys D7.toList σ i h' ⟨n,m⟩;exact .Bj ys D7 this.1 this.2
 |ptr b o=>cases h
 |sl b o l c z e=>cases h
 |map r=>cases h
 |fn f a c=>cases h
def Aex{x:AV}{y:Value}(d:AaA x=true)(h:Au σ x y)(c:Dx):Au c x y:=by
 cases h<;>first|(cases d;done)|skip
 .exact .bool _
 .exact .int _ _
 .exact .str _
def AmF{l}{d}(e:l.all AaA=true)(h:Bk σ l d) σ':Bk σ' l d:=
 ⟨h.1,λi x y c hy=>Aex (Od.1 e x (Vl c)) (h.2 i x y c hy) _⟩
structure GE where
 g:Nat
 l:List AV
 t:TypeId
def Rw(gl:List GE):KM:=@List.rec _ (λ_=>KM) KM.new (λe _ c=>c.set e.g (.cells e.l e.t .exact)) gl
def glH(gl:List GE)(n:Nat):H:=⟨Rw gl,n,[]⟩
def P8(n:Nat):List GE->Bool
|[]=>true
|e::gl=>Nat.blt e.g n&&(gl.all λe'=>Ib (Nat.beq e'.g e.g))&&e.l.all AaA&&P8 n gl
def Xx{n}(hn:n<=Bq):∀gl,P8 n gl=true->∀j,j<Bq->(∃e∈gl,e.g=j/\(Rw gl).get j=.cells e.l e.t .exact)\/(∀e∈gl,e.g≠j)/\(Rw gl).get j=.none:=by intro gl;induction gl with
|nil=>intro _ j hj;exact .inr ⟨λe k=>by grind,KM.Xw j⟩
|cons e gl i=>intro c j hj;simp only[P8,Em]at c;obtain⟨⟨⟨h1,h2⟩,o⟩,p⟩:=c;have d:=Xq (Ec h1) hn;have m:(Rw (e::gl)).get j=if j=e.g then .cells _ .. else(Rw _).get j:=KM.Dh _ _ j _ d hj;grind
def Mf{n}:∀{gl},P8 n gl=true->∀e∈gl,e.g<n/\e.l.all AaA=true:=by intro gl;induction gl with
|nil=>simp
|cons x gl j=>
 intro c e d;simp only[P8,Em]at c;obtain⟨⟨⟨h1,h2⟩,i⟩,k⟩:=c;rcases Tu.1 d with rfl|d;. exact⟨Ec h1,i⟩
 grind
def At0{n:Nat}{gl:List GE}(hn:n<=Bq)(d:P8 n gl=true):Om (glH gl n):=by
 have c:=Xx hn gl d;have r:∀j,j<Bq->Ej ((glH gl n).m.get j)=none/\M2 ((glH gl n).m.get j)=none/\∀l t k st,(glH gl n).m.get j≠.cells l t (.Cf k st):=by
  intro j hj;show Ej ((Rw gl).get j)=none/\M2 ((Rw gl).get j)=none/\∀l t k st,(Rw gl).get j≠.cells l t (.Cf k st);rcases c j hj with⟨e,_,_,q⟩|⟨_,q⟩;. rw[q];exact⟨rfl,rfl,λl t k st g=>by cases g⟩
  .rw[q];exact⟨rfl,rfl,λl t k st g=>by grind⟩
 refine⟨hn,?_,?_,?_,?_,?_⟩
 .intro j h1 h2;show(Rw gl).get j=.none;rcases c j h2 with⟨e,i,p,_⟩|⟨_,q⟩;. have:=(Mf d e i).1;have o:n<=j:=h1;omega
  omega
 .grind
 .grind
 .simp_all
 grind
def Hj(gl:List GE)(h:H):Bool:=
 match gl with
 |[]=>true
 |e::gl=>match h.m.get e.g with
  |.cells l t .exact=>@Bool.rec (λ_=>Bool) false (@Bool.rec (λ_=>Bool) false (Hj gl h) (Nat.beq t e.t)) (Sh l e.l)
  |_=>false
def AjB:∀{gl},Hj gl h=true->∀e∈gl,h.m.get e.g=.cells e.l e.t .exact:=by intro gl;induction gl with
|nil=>grind
|cons x gl i=>
 intro c e j;unfold Hj at c;split at c;. obtain⟨h1,h2⟩:=Q2 c;obtain⟨d,k⟩:=Q2 h2;have:=(Xd h1).1;have:=Ch d;grind
 grind
def Aza(n:Nat)(l:List Nat):Bool:=@List.rec _ (λ_=>Bool) true (λx _ c=>@Bool.rec (λ_=>Bool) false c (Nat.ble n x)) l
def AqW{n}:∀{l},Aza n l=true->∀x∈l,n<=x:=by intro l;induction l with
|nil=>simp
|cons y l e=>
 intro d x c;obtain⟨h1,h2⟩:=Q2 (show Bool.rec _ (Aza n l) _=true from d);rcases Tu.1 c with rfl|c;. simp_all
 grind
end Go.Ev
namespace Go.Ev
variable {P:Program}{G:Nat}{σ σ':Dx}{h h':H}{w w':World}{v:AV}{nt:Nat}{f f':L2}{a a':Act}{Z:Ac}{b:FB}{cs:List Frame}
def Yt(n:Nat)(v:AV)(r:OR):Bool:=match r with
|.ok u h=>@Bool.rec (λ_=>Bool) false (@Bool.rec (λ_=>Bool) false (Aza n h.lg) (Nat.ble h.nx 1000000000000000000)) (leN 8 u v)
|.bad _=>false
def AnP{n:Nat}{r:OR}(c:Yt n v r=true):∃u h',r=.ok u h'/\h'.nx<=Bq/\(∀x∈h'.lg,n<=x)/\leN 8 u v=true:=by
 unfold Yt at c;split at c
 .rename_i u h';obtain⟨h1,h2⟩:=Q2 c;obtain⟨d,e⟩:=Q2 h2;exact⟨u,h',rfl,G2 d,AqW e,h1⟩
 .cases c
end Go.Ev
namespace Go.Ev
variable [Ii]
variable {P:Program}{G:Nat}{σ σ':Dx}{h h':H}{w w':World}{v:AV}{nt:Nat}{f f':L2}{a a':Act}{Z:Ac}{b:FB}{cs:List Frame}{gl:List GE}
structure WOk(P:Program)(gl:List GE)(w:World):Prop where
 size:P.globals.size<=w.heap.size
 vars:∀e∈gl,∃(arr:Array Value) (lo hi:Nat),w.heap[e.g]?=some (.cells arr e.t (lo,hi))/\(∀i,i<arr.size->¬ (lo<=i/\i<hi))/\∀σ,Bk σ e.l arr.toList
structure Kept(w w':World):Prop where
 grow:w.heap.size<=w'.heap.size
 same:∀c,c<w.heap.size->w'.heap[c]?=w.heap[c]?
 io:w'.os=w.os/\w'.output=w.output
def Y0(G:Nat)(w:World):Dx:=λb=>if b<G then some ⟨b,(match w.heap[b]? with|some (.cells arr _ _)=>arr.size|_=>0),none⟩else none
def Gm{b:Nat}{e:SE}(d:Y0 G w b=some e):b<G/\e.c=b/\e.k=none/\e.N=(match w.heap[b]? with|some (.cells arr _ _)=>arr.size|_=>0):=by
 unfold Y0 at d;split at d
 .cases d;exact⟨by assumption,rfl,rfl,rfl⟩
 .cases d
def AkL(m:WOk P gl w)(hn:P.globals.size<=Bq)(k:P8 P.globals.size gl=true):Ms P.globals.size (Y0 P.globals.size w) (glH gl P.globals.size) w/\Vm P.globals.size (Y0 P.globals.size w):=by
 refine⟨⟨At0 hn k,⟨?_,?_,?_⟩,?_⟩,?_⟩;. intro x y e e' h1 h2 E;have A:=(Gm h1).2.1;have n:=(Gm h2).2.1;grind
 .intro x e h1;have q:=Gm h1;have:=m.size;omega
 .intro x e h1;have q:=Gm h1;omega
 .intro x e h1;obtain⟨A,n,s,D⟩:=Gm h1;show Gr _ _ (Rw gl).get e w ((Rw gl).get x);rcases Xx hn gl k x om with⟨d,z,o,p3⟩|⟨_,p3⟩
  .rw[p3];obtain⟨arr,lo,hi,r1,p,C⟩:=m.vars d z;rw[o]at r1;have r:e.N=arr.size:=by grind
   have c:=C (Y0 P.globals.size w);have j:d.l.length=arr.size:=by have:=c.1;grind
   refine⟨s,λ_=>⟨arr,lo,hi,by grind,r.symm,by omega,λi x y B hy=>c.Zm i x y B hy,λ_=>by omega,λ_ i t=>p i om⟩⟩
  .rw[p3];trivial
 .intro g u;exact⟨_,W5 u,rfl⟩
def Akl(l:Ms P.globals.size σ h w)(m:Vm P.globals.size σ)(n:P8 P.globals.size gl=true)(g:Hj gl h=true):WOk P gl w:=by
 refine⟨?_,λe k=>?_⟩
 .rcases cu P.globals.size with h0|h0;. omega
  .obtain⟨e,h1,h2⟩:=m (P.globals.size-1) om;have:=l.so.rng _ e h1;omega
 .obtain⟨h1,h2⟩:=Mf n e k;obtain⟨s,o,u⟩:=m _ h1;have c:=l.ma _ s o;rw[AjB g e k]at c;obtain⟨_,c⟩:=c;obtain⟨arr,lo,hi,j,A,z,q,q5,t⟩:=c trivial;rw[u]at j;refine⟨_,_,_,j,λi p=>t trivial i om,λB=>?_⟩;have d:Bk _ _ arr.toList:=⟨by grind,λi x y r hy=>q i x y r (by grind)⟩;exact AmF h2 d _
end Go.Ev
namespace Go.Ev
variable {P:Program}{G:Nat}{σ σ':Dx}{h h':H}{w w':World}{v:AV}{nt:Nat}{f f':L2}{a a':Act}{Z:Ac}{b:FB}{cs:List Frame}{gl:List GE}
structure Orc where
 g:FuncId
 args:List AV
 v:AV
def Nx(P:Program)(gl:List GE)(o:Orc):Prop:=∀(w:World) (An:Array Value) (kind:CallKind),WOk P gl w->(∀σ,Bk σ o.args An.toList) ->
 ∃v' w' a' fn,P.funcs[o.g]?=some fn/\(∀σ,Au σ o.v v')/\Kept w w'/\a'.defers=[]/\(results fn a'.tmps).run P w'=.ok v' w' /\
  ∀cs,Calm ⟨o.g,kind,none⟩ cs->∃k',Steps P (lone (Frame.enter P o.g An kind) cs w) (lone (FB.back ⟨o.g,kind,none⟩ a' k') cs w')
def Lv(hc:Bd P P.globals.size Z)(hn:P.globals.size<=Bq)(B:P8 P.globals.size gl=true) o(s:Bg P o.g=true)(n:Yt P.globals.size o.v (Z.call o.g o.args (glH gl P.globals.size))=true):
 Nx P gl o:=by
 obtain⟨u,h1,t,r,C,i⟩:=AnP n;intro w An kind E F;obtain⟨j,A⟩:=AkL E hn B;have k:Fx (Y0 P.globals.size w) (glH gl P.globals.size) h1:=by intro x h2 O;have K:P.globals.size<=x:=h2;unfold Y0;grind
 obtain⟨J,v',w',a',fn,D,p,z,I,q5,q⟩:=hc.call _ _ _ _ u _ w _ _ t s (F _) j A r k;obtain⟨nw,y,s2,s3⟩:=z;have m:h1.lg=nw:=by rw[y.lg];simp[glH]
 refine⟨_,_,_,_,D,λσ=>AfH 8 u _ _ _ _ i p,⟨s2.grow,λc d=>s2.frame c d ?_,s2.io⟩,I,q5,q⟩;intro x M e l;have L:=(Gm l).1;grind
def Ym:List Orc->FuncId->List AV->Option AV
|[],_,_=>none
|o::os,g,args=>@Bool.rec (λ_=>Option AV) (Ym os g args) (@Bool.rec (λ_=>Option AV) (Ym os g args) (some o.v) (AfJ 8 args o.args)) (Nat.beq o.g g)
def Aio:∀{c} {g} {args} {v},Ym c g args=some v->∃o∈c,o.g=g/\AfJ 8 args o.args=true/\o.v=v:=by intro c;induction c with
|nil=>intro g args v h;cases h
|cons o os d=>intro g args v h;unfold Ym at h;cases h1:Nat.beq o.g g with
 |false=>simp_all
 |true=>cases h2:AfJ 8 args o.args with
  |false=>simp_all
  |true=>simp_all
structure Tab where
 Azg:Nat
 l:List Orc
def Hl(c:Tab)(g:FuncId)(args:List AV):Option AV:=@Bool.rec (λ_=>Option AV) (Ym c.l g args) none (Nat.beq (Nat.land c.Azg (Nat.pow 2 g)) 0)
def AcW{c}{g}{args}{v}(h:Hl c g args=some v):∃o∈c.l,o.g=g/\AfJ 8 args o.args=true/\o.v=v:=by unfold Hl at h;cases d:Nat.beq (Nat.land c.Azg (Nat.pow 2 g)) 0 with
|true=>simp_all
|false=>rw[d]at h;exact Aio h
def Abq(gl:List GE)(v:AV)(h:H):OR:=@Bool.rec (λ_=>OR) (.bad 300) (.ok v h) (Hj gl h)
def ApJ(gl:List GE)(c:Tab)(Z:Ac):Ac:=
 ⟨λg args h=>@Option.rec _ (λ_=>OR) (Z.call g args h) (λv=>Abq gl v h) (Hl c g args),Z.round⟩
def Acb(P:Program)(gl:List GE)(e:Tab)(d:Nat):Ac:=@Nat.rec (λ_=>Ac) Q7 (λ_ c=>ApJ gl e ⟨Fy P c,Io P c⟩) d
def AfZ{v'}(c:Abq gl v h=.ok v' h'):Hj gl h=true/\v=v'/\h=h':=by
 rcases Bl c with⟨h1,h2⟩|⟨_,h2⟩;. simp_all
 grind
def Aer{i}(hc:Dw Z):Dw (ApJ gl i Z):=by refine⟨λg args h v h' e=>?_,hc.round⟩;have c:@Option.rec _ (λ_=>OR) _ ..=.ok v _:=e;cases d:Hl _ g _ with
|none=>rw[d]at c;exact hc.call g _ h v _ c
|some u=>rw[d]at c;obtain⟨_,_,rfl⟩:=AfZ c;simp
def Aj4{k:Tab}(hc:Bd P P.globals.size Z)(I:P8 P.globals.size gl=true)(p:∀o∈k.l,Nx P gl o):Bd P P.globals.size (ApJ gl k Z):=by
 refine⟨?_,λl args h h' v σ w An e q=>hc.round l args h h' v σ w An e q,Aer hc.mono⟩;intro g args h h' v σ w An kind q D t d s B L;have j:(@Option.rec _ (λ_=>OR) (Z.call g args h) (λv=>Abq gl v h) (Hl k g args):OR)=.ok v h':=q;cases r:Hl k g args with
 |none=>rw[r]at j;exact hc.call g args h h' v σ w An kind j D t d s B L
 |some u=>
  rw[r]at j;obtain⟨y,rfl,rfl⟩:=AfZ j;obtain⟨o,J,rfl,K,rfl⟩:=AcW r;obtain⟨v',w',a',fn,r1,C,i,r4,F,E⟩:=p o J w An kind (Akl d s I y) (λA=>Yb (AfH 8) args o.args An.toList σ A K t);refine⟨σ,v',w',a',fn,r1,C σ,⟨[],J6.refl d.ai,⟨Qq.refl σ,λx e h1 h2=>(by rw[h1]at h2;cases h2),⟨d.so.inj,λx e m=>Xq (d.so.rng x e m) i.grow,d.so.low⟩,i.grow,λc n _=>i.same c n,
   λx e h1 h2=>(by rw[h1]at h2;cases h2),i.io⟩,?_⟩,r4,F,E⟩
  intro x e m;exact Gr.congr (Qq.refl σ) (i.same e.c (d.so.rng x e m)) (λ_ _ _ _ _ z=>z) (d.ma x e m)
def Jp{g}(i:P.follows .mixedOrders=true)(j:Mv P=true)(k:P8 P.globals.size gl=true)(e:∀o∈g.l,Nx P gl o) d:Bd P P.globals.size (Acb P gl g d):=by induction d with
|zero=>exact Acd i j 0
|succ d c=>exact Aj4 (ApK c i j ⟨N9 c.mono,Mj c.mono⟩) k e
def ArQ(P:Program):Bool:=(List.range P.globals.size).all λg=>(((begin P (λ_ _=>0) default).world.heap[g]?).bind Obj.row?).isSome
def Asq(P:Program)(e:GE)(x:String × DataW Unit):Bool:=
 match P.globalNamed x.1,(P.globals[e.g]?).map (·.type),((begin P (λ_ _=>0) default).world.heap[e.g]?).bind Obj.row? with
 |some g,some t,some r=>Nat.beq g e.g&&Nat.beq r.2 e.t&&(match Iw P 4 t x.2 with|some l=>Sh l e.l|none=>false)
 |_,_,_=>false
def AvN(P:Program)(c:List (String × DataW Unit))(gl:List GE):Bool:=gl.all λe=>c.any (Asq P e)
def AiJ{j:List (String × DataW Unit)}(B:w.ShapedOpen P)(u:ArQ P=true)(L:laidMet P j w)(K:AvN P j gl=true):WOk P gl w:=by
 have z:∀g,g<P.globals.size->∃zero t cs,((begin P (λ_ _=>0) default).world.heap[g]?).bind Obj.row?=some (zero,t)/\w.heap[g]?=some (.cells cs t):=by intro g m;have:=Od.1 u g (ec.2 m);obtain⟨⟨zero,t⟩,o⟩:=Option.isSome_iff_exists.1 this;obtain⟨cs,h1,_⟩:=B.1 g zero t m o;exact⟨zero,t,cs,o,h1⟩
 refine⟨?_,λe M=>?_⟩;. grind
 .obtain⟨x,T,c⟩:=List.any_eq_true.1 (Od.1 K e M);unfold Asq at c;split at c
  .rename_i g t r m y o;simp only[Em]at c;obtain⟨⟨h1,h2⟩,E⟩:=c;have h1:=Ch h1;have h2:=Ch h2;subst h1;split at E
   .rename_i l D;obtain⟨rfl,_⟩:=Xd E;obtain⟨Q,t',cs,O,p,J,F,q,R⟩:=Lib.laidMet.reads L (n:=x.1) (d:=x.2) T;have s:Q=e.g:=by rw[m]at J;cases J;rfl
    subst s;have C:t'=t:=by rw[y]at F;cases F;rfl
    subst C;have A:e.g<P.globals.size:=by grind
    obtain⟨zero,t2,k,r1,I⟩:=z e.g A;rw[o]at r1;cases r1;have S:k=cs:=by unfold World.var? at q;rw[m]at q;simp only[Option.bind_some,I]at q;cases q;rfl
    subst S;subst h2;exact⟨k,0,0,I,λi _=>by omega,λσ=>ApV w σ 4 _ _ _ O _ p D R⟩
   .cases E
  .cases c
def laidMetH.plain{c}(e:(c.filter λx=>x.2.handleName?.isSome)=[])(d:laidMetH P c w):laidMet P c w:=by unfold laidMetH at d;grind
def Kept.but(c:Kept w w'):w.keptBut w' λ_=>False:=by refine⟨c.io.1,c.io.2,λi hi=>?_⟩;rw[c.same i hi];grind
open Go.ChangeShapes Go.WideShapes Go.ChangeAt Go.RowKit
section
variable {H:Type}{enc:TypeId × Value->H}
end
def AmJ{P:Program}(c:P.funcs.toList.all (λfn=>!fn.goes)=true) f:P.goes f=false:=by unfold Program.goes;grind
def Ah2{P}{c:OpenClaim}(d:c.start=.entering)(e:P.funcs.toList.all (λfn=>!fn.goes)=true):false=c.goesBy P:=by unfold OpenClaim.goesBy Program.goesAt Program.goesFrom;rw[d];cases P.funcNamed _ with
|none=>rfl
|some f=>simp[AmJ e f]
end Go.Ev
