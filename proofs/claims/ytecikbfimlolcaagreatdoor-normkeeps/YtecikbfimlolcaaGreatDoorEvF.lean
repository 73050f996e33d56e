/- From a call of the evaluator to the row of a law without arguments. -/
import Derived.Test.YtecikbfimlolcaaGreatDoorEvE
import Derived.ChangeArms
import Derived.Lib.LaidU8
import GoSem.ClaimJoined
import Derived.Handed
import Derived.LaidLaws
import Derived.Lay
import Derived.ProofKit
import Derived.OpenShut
import Derived.LaidMore
import Derived.SevenTiedAt
import Derived.Stop.Joined
set_option linter.all false
noncomputable section
namespace Go.Ev
variable [Ii]
variable {P:Program} {G:Nat} {σ σ':Dx} {h h':H} {w w':World} {v:AV} {nt:Nat} {f f':L2} {a a':Act} {ctx:Ac} {b:FB} {cs:List Frame}
def P7 (P:Program) (fl:TypeId->DataW Unit->Option (List AV)) (total:Nat):List (TypeId × Nat)->Nat->List (DataW Unit)->Option (List AV)
 |[],o,[]=>if o=total then some [] else none
 |(t,off)::fs,o,d::ds=>
  if off=o then
   match fl t d with
   |some l=>match P7 P fl total fs (o+P.cellsOf t) ds with
    |some r=>some (l++r)
    |none=>none
   |none=>none
  else none
 |_,_,_=>none
def Iw (P:Program):Nat->TypeId->DataW Unit->Option (List AV)
 |0,_,_=>none
 |k+1,t,d=>
  match P.underlying t,d with
  |some .bool,.lit (.bool b)=>some [.bool b]
  |some (.int _),.lit (.int k' n)=>some [.int k' n]
  |some .string,.lit (.string bs)=>some [.str (bs.map UInt8.toNat)]
  |some (.struct fs),.agg ds=>P7 P (Iw P k) (P.cellsOf t) (fs.toList.map λf=>(f.type,f.offset)) 0 ds
  |some (.array n e),.agg ds=>P7 P (Iw P k) (P.cellsOf t) ((List.range n).map λi=>(e,i * P.cellsOf e)) 0 ds
  |_,_=>none
theorem Ara {α β:Type} {g:α->Option β}:∀{l:List α} {xs:List β},l.mapM g=some xs->xs.length=l.length/\∀(i:Nat) (a:α),l[i]?=some a->∃b,xs[i]?=some b/\g a=some b:=by
 intro l
 induction l with
 |nil=>intro xs h;simp at h;subst h;exact ⟨rfl,λi a hi=>by simp at hi⟩
 |cons x l ih=>
  intro xs h
  rw [List.mapM_cons] at h
  cases hx:g x with
  |none=>simp [hx] at h
  |some y=>
   cases hl:l.mapM g with
   |none=>simp [hx,hl] at h
   |some ys=>
    simp [hx,hl] at h
    subst h
    obtain ⟨h1,h2⟩:=ih hl
    refine ⟨by simp [h1],λi a hi=>?_⟩
    cases i with
    |zero=>simp at hi;subst hi;exact ⟨y,by simp,hx⟩
    |succ i=>simp at hi;obtain ⟨z,h3,h4⟩:=h2 i a hi;exact ⟨z,by simpa using h3,h4⟩
abbrev Reads (P:Program) (w:World) (Me:Nat) (t:TypeId) (cs:List Value):=DataW.trod (λ_=>()) P w 0 (λ_=>true) false Me t cs
theorem Aey {fl:TypeId->DataW Unit->Option (List AV)} {w:World} {σ:Dx} (hfl:∀t d l Me cs p,fl t d=some l->Reads P w Me t cs=some (d,p)->Bk σ l cs) (total:Nat):
 ∀(fs:List (TypeId × Nat)) (o:Nat) (ds:List (DataW Unit)) (l:List AV) (cs:List Value),P7 P fl total fs o ds=some l->cs.length=total->ds.length=fs.length ->
  (∀(i:Nat) (f:TypeId × Nat),fs[i]?=some f->∃Me d p,ds[i]?=some d/\Reads P w Me f.1 ((cs.drop f.2).take (P.cellsOf f.1))=some (d,p))->Bk σ l (cs.drop o):=by
 intro fs
 induction fs with
 |nil=>
  intro o ds l cs h X3 hlen Fs
  cases ds with
  |nil=>
   simp only [P7] at h
   split at h
   . rename_i ho
     cases h
     rw [List.drop_of_length_le om]
     exact .nil σ
   . cases h
  |cons d ds=>simp at hlen
 |cons f fs ihf=>
  intro o ds l cs h X3 hlen Fs
  cases ds with
  |nil=>simp at hlen
  |cons d ds=>
   obtain ⟨t,off⟩:=f
   simp only [P7] at h
   split at h
   . rename_i A8O
     subst A8O
     split at h
     . rename_i l1 Vs
       split at h
       . rename_i r hr
         cases h
         obtain ⟨Me,d',p,hd,Zc⟩:=Fs 0 (t,off) rfl
         simp at hd
         subst hd
         have q1:=hfl t d l1 Me _ p Vs Zc
         have q2:=ihf (off+P.cellsOf t) ds r cs hr X3 (by simpa using hlen) (λi f hf=>by
          obtain ⟨Me,d',p,hd,Zc⟩:=Fs (i+1) f (by simpa using hf)
          exact ⟨Me,d',p,by simpa using hd,Zc⟩)
         have:=q1.append q2
         rw [<- List.drop_drop,List.take_append_drop] at this
         exact this
       . cases h
     . cases h
   . cases h
theorem ApV (w:World) (σ:Dx):∀(k:Nat) (t:TypeId) (d:DataW Unit) (l:List AV) (Me:Nat) (cs:List Value) (p:List MemPlace),Iw P k t d=some l->Reads P w Me t cs=some (d,p)->Bk σ l cs:=by intro k;induction k with
 |zero=>intro t d l Me cs p h;simp [Iw] at h
 |succ k ih=>
  intro t d l Me cs p h ht;simp only [Iw] at h;split at h;. rename_i b hu;cases h;obtain ⟨b',rfl,hx⟩:=DataW.trod_bool hu ht;cases hx;exact .cons (.bool _) (.nil σ)
  . rename_i kk k' n hu;cases h;obtain ⟨n',rfl,hx,_⟩:=DataW.trod_int hu ht;cases hx;exact .cons (.int _ _) (.nil σ)
  . rename_i bs hu;cases h;obtain ⟨s,rfl,hx,_⟩:=DataW.trod_string hu ht;cases hx;exact .cons (.str s) (.nil σ)
  . rename_i fs ds hu;obtain ⟨xs,n,rfl,hx,hl,X6,Fs⟩:=DataW.trod_struct hu ht;have hds:ds=xs.map (·.1):=by simp_all
    have:=Aey ih (P.cellsOf t) (fs.toList.map λf=>(f.type,f.offset)) 0 ds l cs h hl (by simp [hds,X6]) (by grind);simpa using this
  . rename_i n e ds hu;cases Me with
    |zero=>simp [DataW.trod] at ht
    |succ Me=>
     unfold Reads at ht;simp only [DataW.trod,hu] at ht;split at ht
     . rename_i hl;obtain ⟨xs,hm,hx⟩:=Option.map_eq_some_iff.1 ht;have hds:ds=xs.map (·.1):=by grind
       obtain ⟨X6,Fs⟩:=Ara hm;have:=Aey ih (P.cellsOf t) ((List.range n).map λi=>(e,i * P.cellsOf e)) 0 ds l cs h hl (by simp [hds,X6]) (by grind);simpa using this
     . cases ht
  . cases h
def leN:Nat->AV->AV->Bool
 |0,_,_=>false
 |d+1,x,y=>
  match y with
  |.top=>true
  |.bool b=>(match x with|.bool a=>Aju a b|_=>false)
  |.int k' b=>(match x with|.int k a=>Bool.rec (motive:=λ_=>Bool) false (ieq a b) (kEq k k')|_=>false)
  |.str b=>(match x with|.str a=>Qh a b|_=>false)
  |.Ob=>(match x with|.Ob=>true|_=>false)
  |.Bv=>(match x with|.Bv=>true|_=>false)
  |.Td=>(match x with|.Td=>true|_=>false)
  |.Iy=>(match x with|.Iy=>true|_=>false)
  |.B3=>(match x with|.B3=>true|_=>false)
  |.I6 t' v=>(match x with|.I6 t u=>Bool.rec (motive:=λ_=>Bool) false (leN d u v) (Nat.beq t t')|_=>false)
  |.agg ys=>(match x with|.agg xs=>List.rec (motive:=λ_=>List AV->Bool) (λys=>List.rec (motive:=λ_=>Bool) true (λ_ _ _=>false) ys) (λx _ ih ys=>List.rec (motive:=λ_=>Bool) false (λy ys _=>Bool.rec (motive:=λ_=>Bool) false (ih ys) (leN d x y)) ys) xs ys|_=>false)
  |.Bj ys=>(match x with|.Bj xs=>List.rec (motive:=λ_=>List AV->Bool) (λys=>List.rec (motive:=λ_=>Bool) true (λ_ _ _=>false) ys) (λx _ ih ys=>List.rec (motive:=λ_=>Bool) false (λy ys _=>Bool.rec (motive:=λ_=>Bool) false (ih ys) (leN d x y)) ys) xs ys|_=>false)
  |_=>false
def AfJ (d:Nat) (xs ys:List AV):Bool:=List.rec (motive:=λ_=>List AV->Bool) (λys=>List.rec (motive:=λ_=>Bool) true (λ_ _ _=>false) ys) (λx _ ih ys=>List.rec (motive:=λ_=>Bool) false (λy ys _=>Bool.rec (motive:=λ_=>Bool) false (ih ys) (leN d x y)) ys) xs ys
theorem Ano (d:Nat) (x y:AV) (xs ys:List AV):AfJ d (x::xs) (y::ys)=Bool.rec (motive:=λ_=>Bool) false (AfJ d xs ys) (leN d x y):=rfl
theorem Yb {d} (hd:∀x y v σ σ',leN d x y=true->Au σ x v->Au σ' y v):∀xs ys vs σ σ',AfJ d xs ys=true->Bk σ xs vs->Bk σ' ys vs:=by intro xs;induction xs with
 |nil=>intro ys vs σ σ' h hr;cases ys with
  |nil=>have:=hr.Rt;subst this;exact .nil _
  |cons y ys=>cases h
 |cons x xs ih=>intro ys vs σ σ' h hr;cases ys with
  |nil=>cases h
  |cons y ys=>obtain ⟨h1,h2⟩:=Q2 h;obtain ⟨v,vs',rfl,q1,q2⟩:=hr.F8;exact .cons (hd x y v _ _ h1 q1) (ih _ _ _ _ h2 q2)
theorem AfH:∀(d:Nat) (x y:AV) (v:Value) (σ σ':Dx),leN d x y=true->Au σ x v->Au σ' y v:=by intro d;induction d with
 |zero=>intro x y v σ σ' h;cases h
 |succ d ih=>intro x y v σ σ' h hr;cases y with
  |top=>exact .top v
  |bool b=>
   cases x<;>first|(cases h;done)|skip;rename_i a;have h':Aju a b=true:=h;rw [Afn] at h';have:a=b:=by simpa using h'
   subst this;cases hr;exact .bool _
  |int k' b=>
   cases x<;>first|(cases h;done)|skip;rename_i k a;obtain ⟨h1,h2⟩:=Q2 (show (Bool.rec (motive:=λ_=>Bool) false (ieq a b) (kEq k k'):Bool)=true from h);have:=(Q3 k k').1 h1;subst this;rw [Q1] at h2;have:a=b:=by simpa using h2
   subst this;cases hr;exact .int _ _
  |str b=>
   cases x<;>first|(cases h;done)|skip;rename_i a;have h':Qh a b=true:=h;rw [Qi] at h';have:a=b:=by simpa using h'
   subst this;cases hr;exact .str _
  |Ob=>cases x<;>first|(cases h;done)|skip;cases hr;exact .Ob
  |Bv=>cases x<;>first|(cases h;done)|skip;cases hr;exact .Bv
  |Td=>cases x<;>first|(cases h;done)|skip;cases hr;exact .Td
  |Iy=>cases x<;>first|(cases h;done)|skip;cases hr;exact .Iy
  |B3=>cases x<;>first|(cases h;done)|skip;cases hr;exact .B3
  |I6 t' u'=>cases x<;>first|(cases h;done)|skip;rename_i t u;obtain ⟨h1,h2⟩:=Q2 (show (Bool.rec (motive:=λ_=>Bool) false (leN d u u') (Nat.beq t t'):Bool)=true from h);have:=Ch h1;subst this;cases hr;rename_i v' hv;exact .I6 _ _ _ (ih u u' v' σ σ' h2 hv)
  |agg ys=>cases x<;>first|(cases h;done)|skip;rename_i xs;have h':AfJ d xs ys=true:=h;cases hr;rename_i D7 hl hh;have:=Yb ih xs ys D7.toList σ σ' h' ⟨hl,hh⟩;exact .agg ys D7 this.1 this.2
  |Bj ys=>cases x<;>first|(cases h;done)|skip;rename_i xs;have h':AfJ d xs ys=true:=h;cases hr;rename_i D7 hl hh;have:=Yb ih xs ys D7.toList σ σ' h' ⟨hl,hh⟩;exact .Bj ys D7 this.1 this.2
  |ptr b o=>cases h
  |sl b o l c z e=>cases h
  |map r=>cases h
  |fn f a c=>cases h
theorem Aex {x:AV} {y:Value} (hf:AaA x=true) (h:Au σ x y) (σ':Dx):Au σ' x y:=by
 cases h<;>first|(cases hf;done)|skip
 . exact .bool _
 . exact .int _ _
 . exact .str _
theorem AmF {l} {vs} (hf:l.all AaA=true) (h:Bk σ l vs) σ':Bk σ' l vs:=
 ⟨h.1,λi x y hx hy=>Aex (List.all_eq_true.1 hf x (List.mem_of_getElem? hx)) (h.2 i x y hx hy) _⟩
structure GE where
 g:Nat
 l:List AV
 t:TypeId
def Rw (gl:List GE):KM:=List.rec (motive:=λ_=>KM) KM.new (λe _ ih=>ih.set e.g (.cells e.l e.t .exact)) gl
def glH (gl:List GE) (n:Nat):H:=⟨Rw gl,n,[]⟩
def P8 (n:Nat):List GE->Bool
 |[]=>true
 |e::gl=>Nat.blt e.g n&&(gl.all λe'=>Ib (Nat.beq e'.g e.g))&&e.l.all AaA&&P8 n gl
theorem Xx {n} (hn:n<=Bq):∀gl,P8 n gl=true->∀j,j<Bq->(∃e∈gl,e.g=j/\(Rw gl).get j=.cells e.l e.t .exact)\/(∀e∈gl,e.g≠j)/\(Rw gl).get j=.none:=by intro gl;induction gl with
 |nil=>intro _ j hj;exact .inr ⟨λe he=>by grind,KM.Xw j⟩
 |cons e gl ih=>intro Ga j hj;simp only [P8,Bool.and_eq_true] at Ga;obtain ⟨⟨⟨h1,h2⟩,h3⟩,h4⟩:=Ga;have B6:=Nat.lt_of_lt_of_le (Ec h1) hn;have hg:(Rw (e::gl)).get j=if j=e.g then .cells _ .. else (Rw _).get j:=KM.Dh _ _ j _ B6 hj;grind
theorem Mf {n}:∀{gl},P8 n gl=true->∀e∈gl,e.g<n/\e.l.all AaA=true:=by intro gl;induction gl with
 |nil=>simp
 |cons x gl ih=>
  intro Ga e he;simp only [P8,Bool.and_eq_true] at Ga;obtain ⟨⟨⟨h1,h2⟩,h3⟩,h4⟩:=Ga;rcases List.mem_cons.1 he with rfl|he;. exact ⟨Ec h1,h3⟩
  grind
theorem At0 {n:Nat} {gl:List GE} (hn:n<=Bq) (Ga:P8 n gl=true):Om (glH gl n):=by
 have Al8:=Xx hn gl Ga;have Vb:∀j,j<Bq->Ej ((glH gl n).m.get j)=none/\M2 ((glH gl n).m.get j)=none/\∀l t k st,(glH gl n).m.get j≠.cells l t (.Cf k st):=by
  intro j hj;show Ej ((Rw gl).get j)=none/\M2 ((Rw gl).get j)=none/\∀l t k st,(Rw gl).get j≠.cells l t (.Cf k st);rcases Al8 j hj with ⟨e,_,_,q⟩|⟨_,q⟩;. rw [q];exact ⟨rfl,rfl,λl t k st hh=>by cases hh⟩
  . rw [q];exact ⟨rfl,rfl,λl t k st hh=>by grind⟩
 refine ⟨hn,?_,?_,?_,?_,?_⟩
 . intro j h1 h2;show (Rw gl).get j=.none;rcases Al8 j h2 with ⟨e,q1,q2,_⟩|⟨_,q⟩;. have:=(Mf Ga e q1).1;have W2:n<=j:=h1;omega
   omega
 . grind
 . grind
 . simp_all
 grind
def Hj (gl:List GE) (h:H):Bool:=
 match gl with
 |[]=>true
 |e::gl=>match h.m.get e.g with
  |.cells l t .exact=>Bool.rec (motive:=λ_=>Bool) false (Bool.rec (motive:=λ_=>Bool) false (Hj gl h) (Nat.beq t e.t)) (Sh l e.l)
  |_=>false
theorem AjB:∀{gl},Hj gl h=true->∀e∈gl,h.m.get e.g=.cells e.l e.t .exact:=by intro gl;induction gl with
 |nil=>grind
 |cons x gl ih=>
  intro hh e he;unfold Hj at hh;split at hh;. obtain ⟨h1,h2⟩:=Q2 hh;obtain ⟨h3,h4⟩:=Q2 h2;have:=(Xd h1).1;have:=Ch h3;grind
  grind
def Aza (n:Nat) (l:List Nat):Bool:=List.rec (motive:=λ_=>Bool) true (λx _ ih=>Bool.rec (motive:=λ_=>Bool) false ih (Nat.ble n x)) l
theorem AqW {n}:∀{l},Aza n l=true->∀x∈l,n<=x:=by intro l;induction l with
 |nil=>simp
 |cons y l ih=>
  intro hh x hx;obtain ⟨h1,h2⟩:=Q2 (show Bool.rec _ (Aza n l) _=true from hh);rcases List.mem_cons.1 hx with rfl|hx;. simp_all
  grind
end Go.Ev
namespace Go.Ev
variable {P:Program} {G:Nat} {σ σ':Dx} {h h':H} {w w':World} {v:AV} {nt:Nat} {f f':L2} {a a':Act} {ctx:Ac} {b:FB} {cs:List Frame}
def Yt (n:Nat) (v:AV) (r:OR):Bool:=match r with
 |.ok u h=>Bool.rec (motive:=λ_=>Bool) false (Bool.rec (motive:=λ_=>Bool) false (Aza n h.lg) (Nat.ble h.nx 1000000000000000000)) (leN 8 u v)
 |.bad _=>false
 |.Hb _ _=>false
theorem AnP {n} {r} (hh:Yt n v r=true):∃u h',r=.ok u h'/\h'.nx<=Bq/\(∀x∈h'.lg,n<=x)/\leN 8 u v=true:=by
 unfold Yt at hh;split at hh;. rename_i u h';obtain ⟨h1,h2⟩:=Q2 hh;obtain ⟨h3,h4⟩:=Q2 h2;exact ⟨u,_,rfl,G2 h3,AqW h4,h1⟩
 . grind
 grind
end Go.Ev
namespace Go.Ev
variable [Ii]
variable {P:Program} {G:Nat} {σ σ':Dx} {h h':H} {w w':World} {v:AV} {nt:Nat} {f f':L2} {a a':Act} {ctx:Ac} {b:FB} {cs:List Frame} {gl:List GE}
structure WOk (P:Program) (gl:List GE) (w:World):Prop where
 size:P.globals.size<=w.heap.size
 vars:∀e∈gl,∃(arr:Array Value) (lo hi:Nat),w.heap[e.g]?=some (.cells arr e.t (lo,hi))/\(∀i,i<arr.size->¬ (lo<=i/\i<hi))/\∀σ,Bk σ e.l arr.toList
structure Kept (w w':World):Prop where
 grow:w.heap.size<=w'.heap.size
 same:∀c,c<w.heap.size->w'.heap[c]?=w.heap[c]?
 io:w'.os=w.os/\w'.output=w.output
def Y0 (G:Nat) (w:World):Dx:=λb=>if b<G then some ⟨b,(match w.heap[b]? with|some (.cells arr _ _)=>arr.size|_=>0),none⟩ else none
theorem Gm {b:Nat} {e:SE} (hh:Y0 G w b=some e):b<G/\e.c=b/\e.k=none/\e.N=(match w.heap[b]? with|some (.cells arr _ _)=>arr.size|_=>0):=by
 unfold Y0 at hh
 split at hh
 . cases hh;exact ⟨by assumption,rfl,rfl,rfl⟩
 . cases hh
theorem AkL (hw:WOk P gl w) (hn:P.globals.size<=Bq) (Ga:P8 P.globals.size gl=true):Ms P.globals.size (Y0 P.globals.size w) (glH gl P.globals.size) w/\Vm P.globals.size (Y0 P.globals.size w):=by
 refine ⟨⟨At0 hn Ga,⟨?_,?_,?_⟩,?_⟩,?_⟩;. intro x y e e' h1 h2 h3;have q1:=(Gm h1).2.1;have q2:=(Gm h2).2.1;grind
 . intro x e h1;have q:=Gm h1;have:=hw.size;omega
 . intro x e h1;have q:=Gm h1;omega
 . intro x e h1;obtain ⟨q1,q2,q3,q4⟩:=Gm h1;show Gr _ _ (Rw gl).get e w ((Rw gl).get x);rcases Xx hn gl Ga x om with ⟨ge,p1,p2,p3⟩|⟨_,p3⟩
   . rw [p3];obtain ⟨arr,lo,hi,r1,r2,r3⟩:=hw.vars ge p1;rw [p2] at r1;have hN:e.N=arr.size:=by grind
     have hlr:=r3 (Y0 P.globals.size w);have hlen:ge.l.length=arr.size:=by have:=hlr.1;grind
     refine ⟨q3,λ_=>⟨arr,lo,hi,by grind,hN.symm,by omega,λi x y hx hy=>hlr.Zm i x y hx hy,λ_=>by omega,λ_ i hi2=>r2 i om⟩⟩
   . rw [p3];trivial
 . intro g hg;exact ⟨_,if_pos hg,rfl⟩
theorem Akl (hm:Ms P.globals.size σ h w) (hg:Vm P.globals.size σ) (Ga:P8 P.globals.size gl=true) (hgl:Hj gl h=true):WOk P gl w:=by
 refine ⟨?_,λe he=>?_⟩
 . rcases Nat.eq_zero_or_pos P.globals.size with h0|h0;. omega
   . obtain ⟨e,h1,h2⟩:=hg (P.globals.size - 1) om;have:=hm.so.rng _ e h1;omega
 . obtain ⟨h1,h2⟩:=Mf Ga e he;obtain ⟨s,h3,h4⟩:=hg _ h1;have Ha:=hm.ma _ s h3;rw [AjB hgl e he] at Ha;obtain ⟨_,Ha⟩:=Ha;obtain ⟨arr,lo,hi,q1,q2,q3,q4,q5,q6⟩:=Ha trivial;rw [h4] at q1;refine ⟨_,_,_,q1,λi hi2=>q6 trivial i om,λσ'=>?_⟩;have hlr:Bk _ _ arr.toList:=⟨by grind,λi x y hx hy=>q4 i x y hx (by grind)⟩;exact AmF h2 hlr _
end Go.Ev
namespace Go.Ev
variable {P:Program} {G:Nat} {σ σ':Dx} {h h':H} {w w':World} {v:AV} {nt:Nat} {f f':L2} {a a':Act} {ctx:Ac} {b:FB} {cs:List Frame} {gl:List GE}
structure Orc where
 g:FuncId
 args:List AV
 v:AV
def Nx (P:Program) (gl:List GE) (o:Orc):Prop:=∀(w:World) (An:Array Value) (kind:CallKind),WOk P gl w->(∀σ,Bk σ o.args An.toList) ->
 ∃v' w' a' fn,P.funcs[o.g]?=some fn/\(∀σ,Au σ o.v v')/\Kept w w'/\a'.defers=[]/\(results fn a'.tmps).run P w'=.ok v' w' /\
  ∀cs,Calm ⟨o.g,kind,none⟩ cs->∃k',Steps P (lone (Frame.enter P o.g An kind) cs w) (lone (FB.back ⟨o.g,kind,none⟩ a' k') cs w')
theorem Lv (hc:Bd P P.globals.size ctx) (hn:P.globals.size<=Bq) (Ga:P8 P.globals.size gl=true) o (hb:Bg P o.g=true) (hr:Yt P.globals.size o.v (ctx.call o.g o.args (glH gl P.globals.size))=true):
 Nx P gl o:=by
 obtain ⟨u,h1,he,hl,hlg,hle⟩:=AnP hr;intro w An kind hw Ow;obtain ⟨hms,hg⟩:=AkL hw hn Ga;have Ac2:Fx (Y0 P.globals.size w) (glH gl P.globals.size) h1:=by intro x h2 h3;have R3:P.globals.size<=x:=h2;unfold Y0;grind
 obtain ⟨σ',v',w',a',fn,q1,q2,q3,q4,q5,q6⟩:=hc.call _ _ _ _ u _ w _ _ he hb (Ow _) hms hg hl Ac2;obtain ⟨nw,s1,s2,s3⟩:=q3;have hnw:h1.lg=nw:=by rw [s1.lg];simp [glH]
 refine ⟨_,_,_,_,q1,λσ=>AfH 8 u _ _ _ _ hle q2,⟨s2.grow,λc hc2=>s2.frame c hc2 ?_,s2.io⟩,q4,q5,q6⟩;intro x hx e hxe;have h5:=(Gm hxe).1;grind
def Ym:List Orc->FuncId->List AV->Option AV
 |[],_,_=>none
 |o::os,g,args=>Bool.rec (motive:=λ_=>Option AV) (Ym os g args) (Bool.rec (motive:=λ_=>Option AV) (Ym os g args) (some o.v) (AfJ 8 args o.args)) (Nat.beq o.g g)
theorem Aio:∀{R4} {g} {args} {v},Ym R4 g args=some v->∃o∈R4,o.g=g/\AfJ 8 args o.args=true/\o.v=v:=by intro R4;induction R4 with
 |nil=>intro g args v h;cases h
 |cons o os ih=>intro g args v h;unfold Ym at h;cases h1:Nat.beq o.g g with
  |false=>simp_all
  |true=>cases h2:AfJ 8 args o.args with
   |false=>simp_all
   |true=>simp_all
structure Tab where
 Azg:Nat
 l:List Orc
def Hl (R4:Tab) (g:FuncId) (args:List AV):Option AV:=Bool.rec (motive:=λ_=>Option AV) (Ym R4.l g args) none (Nat.beq (Nat.land R4.Azg (Nat.pow 2 g)) 0)
theorem AcW {R4} {g} {args} {v} (h:Hl R4 g args=some v):∃o∈R4.l,o.g=g/\AfJ 8 args o.args=true/\o.v=v:=by unfold Hl at h;cases hb:Nat.beq (Nat.land R4.Azg (Nat.pow 2 g)) 0 with
 |true=>simp_all
 |false=>rw [hb] at h;exact Aio h
def Abq (gl:List GE) (v:AV) (h:H):OR:=Bool.rec (motive:=λ_=>OR) (.bad 300) (.ok v h) (Hj gl h)
def ApJ (gl:List GE) (R4:Tab) (ctx:Ac):Ac:=
 ⟨λg args h=>Option.rec (motive:=λ_=>OR) (ctx.call g args h) (λv=>Abq gl v h) (Hl R4 g args),ctx.round⟩
def Acb (P:Program) (gl:List GE) (R4:Tab) (d:Nat):Ac:=Nat.rec (motive:=λ_=>Ac) Q7 (λ_ ih=>ApJ gl R4 ⟨Fy P ih,Io P ih⟩) d
theorem AfZ {v'} (he:Abq gl v h=.ok v' h'):Hj gl h=true/\v=v'/\h=h':=by
 rcases Bl he with ⟨h1,h2⟩|⟨_,h2⟩;. simp_all
 grind
theorem Aer {R4} (hc:Dw ctx):Dw (ApJ gl R4 ctx):=by refine ⟨λg args h v h' he=>?_,hc.round⟩;have Ak:Option.rec (motive:=λ_=>OR) _ ..=.ok v _:=he;cases ho:Hl _ g _ with
 |none=>rw [ho] at Ak;exact hc.call g _ h v _ Ak
 |some u=>rw [ho] at Ak;obtain ⟨_,_,rfl⟩:=AfZ Ak;simp
theorem Aj4 {R4} (hc:Bd P P.globals.size ctx) (Ga:P8 P.globals.size gl=true) (AqK:∀o∈R4.l,Nx P gl o):Bd P P.globals.size (ApJ gl R4 ctx):=by
 refine ⟨?_,λl args h h' v σ w An=>hc.round l _ h _ v _ w _,Aer hc.mono,?_,hc.Au7⟩;rotate_left;. intro g args h h' v σ w An he hb Ow hm hg hl hf;have Ak:Option.rec (motive:=λ_=>OR) _ ..=.Hb v _:=he;cases ho:Hl _ g _ with
   |none=>rw [ho] at Ak;exact hc.Hb g _ h _ v _ w _ Ak hb Ow hm hg hl hf
   |some u=>rw [ho] at Ak;rcases X8 Ak with ⟨_,hq⟩|⟨_,hq⟩<;>cases hq
 intro g args h h' v σ w An kind he hb Ow hm hg hl hf;have Ak:Option.rec (motive:=λ_=>OR) _ ..=.ok v _:=he;cases ho:Hl _ g _ with
 |none=>rw [ho] at Ak;exact hc.call g _ h _ v _ w _ _ Ak hb Ow hm hg hl hf
 |some u=>rw [ho] at Ak;obtain ⟨Vr,rfl,rfl⟩:=AfZ Ak;obtain ⟨o,q1,rfl,q4,rfl⟩:=AcW ho;obtain ⟨v',w',a',fn,r1,r2,r3,r4,r5,r6⟩:=AqK o q1 w _ _ (Akl hm hg Ga Vr) λσ'=>Yb (AfH 8) _ _ _ _ _ q4 Ow;refine ⟨_,_,_,_,_,r1,r2 _,⟨_,J6.refl hm.ai,⟨Qq.refl _,λx e h1 h2=>by grind,⟨hm.so.inj,λx e hx=>Nat.lt_of_lt_of_le (hm.so.rng x e hx) r3.grow,hm.so.low⟩,r3.grow,λc hc2 _=>r3.same c hc2,
   λx e h1 h2=>by grind,r3.io⟩,?_⟩,r4,r5,r6⟩;intro x e hx;exact Gr.congr (Qq.refl _) (r3.same _ (hm.so.rng x e hx)) (λ_ _ _ _ _ hh=>hh) (hm.ma x e hx)
theorem Jp {R4} (P5:P.follows .mixedOrders=true) (hp:Mv P=true) (Ga:P8 P.globals.size gl=true) (AqK:∀o∈R4.l,Nx P gl o) d:Bd P P.globals.size (Acb P gl R4 d):=by induction d with
 |zero=>exact Acd P5 hp 0
 |succ d ih=>exact Aj4 (ApK ih P5 hp ⟨N9 ih.mono,Mj ih.mono⟩) Ga AqK
def ArQ (P:Program):Bool:=(List.range P.globals.size).all λg=>(((begin P (λ_ _=>0) default).world.heap[g]?).bind Obj.row?).isSome
def Asq (P:Program) (e:GE) (x:String × DataW Unit):Bool:=
 match P.globalNamed x.1,(P.globals[e.g]?).map (·.type),((begin P (λ_ _=>0) default).world.heap[e.g]?).bind Obj.row? with
 |some g,some t,some r=>Nat.beq g e.g&&Nat.beq r.2 e.t&&(match Iw P 4 t x.2 with|some l=>Sh l e.l|none=>false)
 |_,_,_=>false
def AvN (P:Program) (laid:List (String × DataW Unit)) (gl:List GE):Bool:=gl.all λe=>laid.any (Asq P e)
theorem AiJ {laid:List (String × DataW Unit)} (hsh:w.ShapedOpen P) (A4n:ArQ P=true) (hl:laidMet P laid w) (ht:AvN P laid gl=true):WOk P gl w:=by
 have A4m:∀g,g<P.globals.size->∃zero t cs,((begin P (λ_ _=>0) default).world.heap[g]?).bind Obj.row?=some (zero,t)/\w.heap[g]?=some (.cells cs t):=by intro g hg;have:=List.all_eq_true.1 A4n g (List.mem_range.2 hg);obtain ⟨⟨zero,t⟩,hr⟩:=Option.isSome_iff_exists.1 this;obtain ⟨cs,h1,_⟩:=hsh.1 g zero t hg hr;exact ⟨zero,t,cs,hr,h1⟩
 refine ⟨?_,λe he=>?_⟩;. grind
 . obtain ⟨x,hx,AqL⟩:=List.any_eq_true.1 (List.all_eq_true.1 ht e he);unfold Asq at AqL;split at AqL
   . rename_i g t r hg hty hr;simp only [Bool.and_eq_true] at AqL;obtain ⟨⟨h1,h2⟩,h3⟩:=AqL;have h1:=Ch h1;have h2:=Ch h2;subst h1;split at h3
     . rename_i l hfl;obtain ⟨rfl,_⟩:=Xd h3;obtain ⟨g',t',cs,Me,p,q1,q2,q3,q4⟩:=Lib.laidMet.reads hl (n:=x.1) (d:=x.2) hx;have hge:g'=e.g:=by rw [hg] at q1;cases q1;rfl
       subst hge;have hte:t'=t:=by rw [hty] at q2;cases q2;rfl
       subst hte;have hgl:e.g<P.globals.size:=by grind
       obtain ⟨zero,t2,cs2,r1,r2⟩:=A4m e.g hgl;rw [hr] at r1;cases r1;have X3:cs2=cs:=by unfold World.var? at q3;rw [hg] at q3;simp only [Option.bind_some,r2] at q3;cases q3;rfl
       subst X3;subst h2;exact ⟨cs2,0,0,r2,λi _=>by omega,λσ=>ApV w σ 4 _ _ _ Me _ p hfl q4⟩
     . cases h3
   . cases AqL
theorem laidMetH.plain {laid} (hh:(laid.filter λx=>x.2.handleName?.isSome)=[]) (hl:laidMetH P laid w):laidMet P laid w:=by unfold laidMetH at hl;grind
theorem Kept.but (hk:Kept w w'):w.keptBut w' λ_=>False:=by refine ⟨hk.io.1,hk.io.2,λi hi=>?_⟩;rw [hk.same i hi];grind
end Go.Ev
namespace Go.Ev
open Go.ChangeShapes Go.WideShapes Go.ChangeAt Go.RowKit
section
variable {H:Type} {enc:TypeId × Value->H}
end
theorem AmJ {P:Program} (ha:P.funcs.toList.all (λfn=>!fn.goes)=true) f:P.goes f=false:=by unfold Program.goes;grind
theorem Ah2 {P} {c:OpenClaim} (hs:c.start=.entering) (ha:P.funcs.toList.all (λfn=>!fn.goes)=true):false=c.goesBy P:=by unfold OpenClaim.goesBy Program.goesAt Program.goesFrom;rw [hs];cases P.funcNamed _ with
 |none=>rfl
 |some f=>simp [AmJ ha f]
end Go.Ev
