/- From a run of the evaluator to a call of the model. Runs that are told apart, and the call of the model. From a call of the evaluator to the row of a law without arguments. -/
import Derived.Test.YtecikbfimlolcaaGreatDoorEvE
import Derived.ChangeArms
import Derived.Lib.LaidU8
import GoSem.ClaimJoined
import Derived.Handed
import Derived.LaidLaws
import Derived.Lay
import Derived.ProofKit
import Derived.OpenShut
import Derived.LaidMore
import Derived.SevenTiedAt
import Derived.Stop.Joined
set_option linter.unusedSimpArgs false
set_option linter.unusedVariables false
set_option linter.unusedSectionVars false
namespace Go.Ev
variable [Lim]
variable {P:Program} {G:Nat} {σ σ':Dj} {h h':H} {w w':World} {v:AV} {nt:Nat} {f f':L2} {a a':Act} {ctx:Ae} {b:FB} {cs:List Frame}
def flatEach (P:Program) (fl:TypeId->DataW Unit->Option (List AV)) (total:Nat):List (TypeId × Nat)->Nat->List (DataW Unit)->Option (List AV)
 |[],o,[]=>if o=total then some [] else none
 |(t,off)::fs,o,d::ds=>
  if off=o then
   match fl t d with
   |some l=>match flatEach P fl total fs (o+P.cellsOf t) ds with
    |some r=>some (l++r)
    |none=>none
   |none=>none
  else none
 |_,_,_=>none
def flatN (P:Program):Nat->TypeId->DataW Unit->Option (List AV)
 |0,_,_=>none
 |k+1,t,d=>
  match P.underlying t,d with
  |some .bool,.lit (.bool b)=>some [.bool b]
  |some (.int _),.lit (.int k' n)=>some [.int k' n]
  |some .string,.lit (.string bs)=>some [.str (bs.map UInt8.toNat)]
  |some (.struct fs),.agg ds=>flatEach P (flatN P k) (P.cellsOf t) (fs.toList.map fun f=>(f.type,f.offset)) 0 ds
  |some (.array n e),.agg ds=>flatEach P (flatN P k) (P.cellsOf t) ((List.range n).map fun i=>(e,i * P.cellsOf e)) 0 ds
  |_,_=>none
theorem mapM_get {α β:Type} {g:α->Option β}:∀ {l:List α} {xs:List β},l.mapM g=some xs->xs.length=l.length/\∀ (i:Nat) (a:α),l[i]?=some a->∃ b,xs[i]?=some b/\g a=some b:=by
 intro l
 induction l with
 |nil=>intro xs h;simp at h;subst h;exact ⟨rfl,fun i a hi=>by simp at hi⟩
 |cons x l ih=>
  intro xs h
  rw [List.mapM_cons] at h
  cases hx:g x with
  |none=>simp [hx] at h
  |some y=>
   cases hl:l.mapM g with
   |none=>simp [hx,hl] at h
   |some ys=>
    simp [hx,hl] at h
    subst h
    obtain ⟨h1,h2⟩:=ih hl
    refine ⟨by simp [h1],fun i a hi=>?_⟩
    cases i with
    |zero=>simp at hi;subst hi;exact ⟨y,by simp,hx⟩
    |succ i=>simp at hi;obtain ⟨z,h3,h4⟩:=h2 i a hi;exact ⟨z,by simpa using h3,h4⟩
abbrev Reads (P:Program) (w:World) (fuel:Nat) (t:TypeId) (cs:List Value):=DataW.trod (fun _=>()) P w 0 (fun _=>true) false fuel t cs
theorem flat_each {fl:TypeId->DataW Unit->Option (List AV)} {w:World} {σ:Dj} (hfl:∀ t d l fuel cs p,fl t d=some l->Reads P w fuel t cs=some (d,p)->Bd σ l cs) (total:Nat):
 ∀ (fs:List (TypeId × Nat)) (o:Nat) (ds:List (DataW Unit)) (l:List AV) (cs:List Value),flatEach P fl total fs o ds=some l->cs.length=total->ds.length=fs.length ->
  (∀ (i:Nat) (f:TypeId × Nat),fs[i]?=some f->∃ fuel d p,ds[i]?=some d/\Reads P w fuel f.1 ((cs.drop f.2).take (P.cellsOf f.1))=some (d,p))->Bd σ l (cs.drop o):=by
 intro fs
 induction fs with
 |nil=>
  intro o ds l cs h hcs hlen hall
  cases ds with
  |nil=>
   simp only [flatEach] at h
   split at h
   . rename_i ho
     cases h
     rw [List.drop_of_length_le (by omega)]
     exact .nil σ
   . cases h
  |cons d ds=>simp at hlen
 |cons f fs ihf=>
  intro o ds l cs h hcs hlen hall
  cases ds with
  |nil=>simp at hlen
  |cons d ds=>
   obtain ⟨t,off⟩:=f
   simp only [flatEach] at h
   split at h
   . rename_i hoff
     subst hoff
     split at h
     . rename_i l1 hl1
       split at h
       . rename_i r hr
         cases h
         obtain ⟨fuel,d',p,hd,htr⟩:=hall 0 (t,off) rfl
         simp at hd
         subst hd
         have q1:=hfl t d l1 fuel _ p hl1 htr
         have q2:=ihf (off+P.cellsOf t) ds r cs hr hcs (by simpa using hlen) (fun i f hf=>by
          obtain ⟨fuel,d',p,hd,htr⟩:=hall (i+1) f (by simpa using hf)
          exact ⟨fuel,d',p,by simpa using hd,htr⟩)
         have:=q1.append q2
         rw [<- List.drop_drop,List.take_append_drop] at this
         exact this
       . cases h
     . cases h
   . cases h
theorem flat_rel (w:World) (σ:Dj):∀ (k:Nat) (t:TypeId) (d:DataW Unit) (l:List AV) (fuel:Nat) (cs:List Value) (p:List MemPlace),flatN P k t d=some l->Reads P w fuel t cs=some (d,p)->Bd σ l cs:=by
 intro k
 induction k with
 |zero=>intro t d l fuel cs p h;simp [flatN] at h
 |succ k ih=>
  intro t d l fuel cs p h ht
  simp only [flatN] at h
  split at h
  . rename_i b hu
    cases h
    obtain ⟨b',rfl,hx⟩:=DataW.trod_bool hu ht
    cases hx
    exact .cons (.bool _) (.nil σ)
  . rename_i kk k' n hu
    cases h
    obtain ⟨n',rfl,hx,_⟩:=DataW.trod_int hu ht
    cases hx
    exact .cons (.int _ _) (.nil σ)
  . rename_i bs hu
    cases h
    obtain ⟨s,rfl,hx,_⟩:=DataW.trod_string hu ht
    cases hx
    exact .cons (.str s) (.nil σ)
  . rename_i fs ds hu
    obtain ⟨xs,n,rfl,hx,hl,hxl,hall⟩:=DataW.trod_struct hu ht
    have hds:ds=xs.map (·.1):=by have:=congrArg Prod.fst hx;simpa using this
    have:=flat_each ih (P.cellsOf t) (fs.toList.map fun f=>(f.type,f.offset)) 0 ds l cs h hl (by simp [hds,hxl]) (by
     intro i f hf
     rw [List.getElem?_map,Option.map_eq_some_iff] at hf
     obtain ⟨fd,hfd,rfl⟩:=hf
     have hfd':fs[i]?=some fd:=by simpa using hfd
     have h3:=hall i fd hfd'
     have hi:i<xs.length:=by rw [hxl];exact (Array.getElem?_eq_some_iff.1 hfd').1
     rw [List.getElem?_eq_getElem hi] at h3
     exact ⟨n,(xs[i]).1,(xs[i]).2,by rw [hds,List.getElem?_map,List.getElem?_eq_getElem hi];rfl,h3⟩)
    simpa using this
  . rename_i n e ds hu
    cases fuel with
    |zero=>simp [DataW.trod] at ht
    |succ fuel=>
     unfold Reads at ht
     simp only [DataW.trod,hu] at ht
     split at ht
     . rename_i hl
       obtain ⟨xs,hm,hx⟩:=Option.map_eq_some_iff.1 ht
       have hds:ds=xs.map (·.1):=by have:=congrArg Prod.fst hx;simpa using this.symm
       obtain ⟨hxl,hall⟩:=mapM_get hm
       have:=flat_each ih (P.cellsOf t) ((List.range n).map fun i=>(e,i * P.cellsOf e)) 0 ds l cs h hl (by simp [hds,hxl]) (by
        intro i f hf
        rw [List.getElem?_map,Option.map_eq_some_iff] at hf
        obtain ⟨j,hj,rfl⟩:=hf
        obtain ⟨y,h3,h4⟩:=hall i j hj
        exact ⟨fuel,y.1,y.2,by rw [hds,List.getElem?_map,h3];rfl,h4⟩)
       simpa using this
     . cases ht
  . cases h
noncomputable def leN:Nat->AV->AV->Bool
 |0,_,_=>false
 |d+1,x,y=>
  match y with
  |.top=>true
  |.bool b=>(match x with|.bool a=>beqB a b|_=>false)
  |.int k' b=>(match x with|.int k a=>Bool.rec (motive:=fun _=>Bool) false (ieq a b) (kEq k k')|_=>false)
  |.str b=>(match x with|.str a=>strEq a b|_=>false)
  |.nptr=>(match x with|.nptr=>true|_=>false)
  |.Cb=>(match x with|.Cb=>true|_=>false)
  |.nmap=>(match x with|.nmap=>true|_=>false)
  |.nfn=>(match x with|.nfn=>true|_=>false)
  |.Bx=>(match x with|.Bx=>true|_=>false)
  |.ifc t' v=>(match x with|.ifc t u=>Bool.rec (motive:=fun _=>Bool) false (leN d u v) (Nat.beq t t')|_=>false)
  |.agg ys=>(match x with|.agg xs=>List.rec (motive:=fun _=>List AV->Bool) (fun ys=>List.rec (motive:=fun _=>Bool) true (fun _ _ _=>false) ys) (fun x _ ih ys=>List.rec (motive:=fun _=>Bool) false (fun y ys _=>Bool.rec (motive:=fun _=>Bool) false (ih ys) (leN d x y)) ys) xs ys|_=>false)
  |.Bl ys=>(match x with|.Bl xs=>List.rec (motive:=fun _=>List AV->Bool) (fun ys=>List.rec (motive:=fun _=>Bool) true (fun _ _ _=>false) ys) (fun x _ ih ys=>List.rec (motive:=fun _=>Bool) false (fun y ys _=>Bool.rec (motive:=fun _=>Bool) false (ih ys) (leN d x y)) ys) xs ys|_=>false)
  |_=>false
noncomputable def lesN (d:Nat) (xs ys:List AV):Bool:=List.rec (motive:=fun _=>List AV->Bool) (fun ys=>List.rec (motive:=fun _=>Bool) true (fun _ _ _=>false) ys) (fun x _ ih ys=>List.rec (motive:=fun _=>Bool) false (fun y ys _=>Bool.rec (motive:=fun _=>Bool) false (ih ys) (leN d x y)) ys) xs ys
theorem lesN_cons (d:Nat) (x y:AV) (xs ys:List AV):lesN d (x::xs) (y::ys)=Bool.rec (motive:=fun _=>Bool) false (lesN d xs ys) (leN d x y):=rfl
theorem lesN_rel {d:Nat} (hd:∀ (x y:AV) (v:Value) (σ σ':Dj),leN d x y=true->Aq σ x v->Aq σ' y v):∀ (xs ys:List AV) (vs:List Value) (σ σ':Dj),lesN d xs ys=true->Bd σ xs vs->Bd σ' ys vs:=by
 intro xs
 induction xs with
 |nil=>
  intro ys vs σ σ' h hr
  cases ys with
  |nil=>have:=hr.unnil;subst this;exact .nil σ'
  |cons y ys=>cases h
 |cons x xs ih=>
  intro ys vs σ σ' h hr
  cases ys with
  |nil=>cases h
  |cons y ys=>
   rw [lesN_cons] at h
   obtain ⟨h1,h2⟩:=iteB h
   obtain ⟨v,vs',rfl,q1,q2⟩:=hr.Fy
   exact .cons (hd x y v σ σ' h1 q1) (ih ys vs' σ σ' h2 q2)
theorem leN_rel:∀ (d:Nat) (x y:AV) (v:Value) (σ σ':Dj),leN d x y=true->Aq σ x v->Aq σ' y v:=by
 intro d
 induction d with
 |zero=>intro x y v σ σ' h;cases h
 |succ d ih=>
  intro x y v σ σ' h hr
  cases y with
  |top=>exact .top v
  |bool b=>
   cases x<;>first|(cases h;done)|skip
   rename_i a
   have h':beqB a b=true:=h
   rw [beqB_eq] at h'
   have:a=b:=by simpa using h'
   subst this
   cases hr;exact .bool _
  |int k' b=>
   cases x<;>first|(cases h;done)|skip
   rename_i k a
   obtain ⟨h1,h2⟩:=iteB (show (Bool.rec (motive:=fun _=>Bool) false (ieq a b) (kEq k k'):Bool)=true from h)
   have:=(kEq_eq k k').1 h1
   subst this
   rw [ieq_eq] at h2
   have:a=b:=by simpa using h2
   subst this
   cases hr;exact .int _ _
  |str b=>
   cases x<;>first|(cases h;done)|skip
   rename_i a
   have h':strEq a b=true:=h
   rw [strEq_eq] at h'
   have:a=b:=by simpa using h'
   subst this
   cases hr;exact .str _
  |nptr=>cases x<;>first|(cases h;done)|skip;cases hr;exact .nptr
  |Cb=>cases x<;>first|(cases h;done)|skip;cases hr;exact .Cb
  |nmap=>cases x<;>first|(cases h;done)|skip;cases hr;exact .nmap
  |nfn=>cases x<;>first|(cases h;done)|skip;cases hr;exact .nfn
  |Bx=>cases x<;>first|(cases h;done)|skip;cases hr;exact .Bx
  |ifc t' u'=>
   cases x<;>first|(cases h;done)|skip
   rename_i t u
   obtain ⟨h1,h2⟩:=iteB (show (Bool.rec (motive:=fun _=>Bool) false (leN d u u') (Nat.beq t t'):Bool)=true from h)
   have:=Cf h1
   subst this
   cases hr
   rename_i v' hv
   exact .ifc _ _ _ (ih u u' v' σ σ' h2 hv)
  |agg ys=>
   cases x<;>first|(cases h;done)|skip
   rename_i xs
   have h':lesN d xs ys=true:=h
   cases hr
   rename_i cs' hl hh
   have:=lesN_rel ih xs ys cs'.toList σ σ' h' ⟨hl,hh⟩
   exact .agg ys cs' this.1 this.2
  |Bl ys=>
   cases x<;>first|(cases h;done)|skip
   rename_i xs
   have h':lesN d xs ys=true:=h
   cases hr
   rename_i cs' hl hh
   have:=lesN_rel ih xs ys cs'.toList σ σ' h' ⟨hl,hh⟩
   exact .Bl ys cs' this.1 this.2
  |ptr b o=>cases h
  |sl b o l c z e=>cases h
  |map r=>cases h
  |fn f a c=>cases h
theorem flatV_rel {x:AV} {y:Value} (hf:flatV x=true) (h:Aq σ x y) (σ':Dj):Aq σ' x y:=by
 cases h<;>first|(cases hf;done)|skip
 . exact .bool _
 . exact .int _ _
 . exact .str _
theorem flatL_rel {l:List AV} {vs:List Value} (hf:l.all flatV=true) (h:Bd σ l vs) (σ':Dj):Bd σ' l vs:=
 ⟨h.1,fun i x y hx hy=>flatV_rel (List.all_eq_true.1 hf x (List.mem_of_getElem? hx)) (h.2 i x y hx hy) σ'⟩
structure GE where
 g:Nat
 l:List AV
 t:TypeId
noncomputable def glM (gl:List GE):KM:=List.rec (motive:=fun _=>KM) KM.new (fun e _ ih=>ih.set e.g (.cells e.l e.t .exact)) gl
noncomputable def glH (gl:List GE) (n:Nat):H:=⟨glM gl,n,[]⟩
noncomputable def glOk (n:Nat):List GE->Bool
 |[]=>true
 |e::gl=>Nat.blt e.g n&&(gl.all fun e'=>bnot (Nat.beq e'.g e.g))&&e.l.all flatV&&glOk n gl
theorem glM_get {n:Nat} (hn:n<=Bh):∀ (gl:List GE),glOk n gl=true->∀ j,j<Bh->(∃ e∈gl,e.g=j/\(glM gl).get j=.cells e.l e.t .exact)\/((∀ e∈gl,e.g≠j)/\(glM gl).get j=.none):=by
 intro gl
 induction gl with
 |nil=>intro _ j hj;exact .inr ⟨fun e he=>(by cases he),KM.get_new j⟩
 |cons e gl ih=>
  intro hok j hj
  simp only [glOk,Bool.and_eq_true] at hok
  obtain ⟨⟨⟨h1,h2⟩,h3⟩,h4⟩:=hok
  have hlt:e.g<Bh:=Nat.lt_of_lt_of_le (Ee h1) hn
  have hg:(glM (e::gl)).get j=if j=e.g then .cells e.l e.t .exact else (glM gl).get j:=KM.C9 (glM gl) e.g j _ hlt hj
  rw [hg]
  by_cases hje:j=e.g
  . rw [if_pos hje]
    exact .inl ⟨e,by simp,hje.symm,rfl⟩
  . rw [if_neg hje]
    rcases ih h4 j hj with ⟨e',q1,q2,q3⟩|⟨q1,q2⟩
    . exact .inl ⟨e',by simp [q1],q2,q3⟩
    . refine .inr ⟨fun e' he'=>?_,q2⟩
      rcases List.mem_cons.1 he' with rfl|he'
      . exact fun hh=>hje hh.symm
      . exact q1 e' he'
theorem glOk_get {n:Nat}:∀ {gl:List GE},glOk n gl=true->∀ e∈gl,e.g<n/\e.l.all flatV=true:=by
 intro gl
 induction gl with
 |nil=>intro _ e he;cases he
 |cons x gl ih=>
  intro hok e he
  simp only [glOk,Bool.and_eq_true] at hok
  obtain ⟨⟨⟨h1,h2⟩,h3⟩,h4⟩:=hok
  rcases List.mem_cons.1 he with rfl|he
  . exact ⟨Ee h1,h3⟩
  . exact ih h4 e he
theorem glH_inv {n:Nat} {gl:List GE} (hn:n<=Bh) (hok:glOk n gl=true):AInv (glH gl n):=by
 have hcase:=glM_get hn gl hok
 have hcls:∀ j,j<Bh->D9 ((glH gl n).m.get j)=none/\tipOf ((glH gl n).m.get j)=none/\∀ l t k st,(glH gl n).m.get j≠.cells l t (.old k st):=by
  intro j hj
  show D9 ((glM gl).get j)=none/\tipOf ((glM gl).get j)=none/\∀ l t k st,(glM gl).get j≠.cells l t (.old k st)
  rcases hcase j hj with ⟨e,_,_,q⟩|⟨_,q⟩
  . rw [q];exact ⟨rfl,rfl,fun l t k st hh=>by cases hh⟩
  . rw [q];exact ⟨rfl,rfl,fun l t k st hh=>by cases hh⟩
 refine ⟨hn,?_,?_,?_,?_,?_⟩
 . intro j h1 h2
   show (glM gl).get j=.none
   rcases hcase j h2 with ⟨e,q1,q2,_⟩|⟨_,q⟩
   . have:=(glOk_get hok e q1).1
     have h1':n<=j:=h1
     omega
   . exact q
 . intro j k h1 h2;rw [(hcls j h1).1] at h2;cases h2
 . intro j j' k h1 h2 h3;rw [(hcls j h1).2.1] at h3;cases h3
 . intro j l t k st n h1 h2;exact absurd h2 ((hcls j h1).2.2 l t k st)
 . intro j j' l t k st l' t' h1 h2 h3;exact absurd h3 ((hcls j h1).2.2 l t k st)
noncomputable def Gs (gl:List GE) (h:H):Bool:=
 match gl with
 |[]=>true
 |e::gl=>match h.m.get e.g with
  |.cells l t .exact=>Bool.rec (motive:=fun _=>Bool) false (Bool.rec (motive:=fun _=>Bool) false (Gs gl h) (Nat.beq t e.t)) (avsEq l e.l)
  |_=>false
theorem globOk_get:∀ {gl:List GE},Gs gl h=true->∀ e∈gl,h.m.get e.g=.cells e.l e.t .exact:=by
 intro gl
 induction gl with
 |nil=>intro _ e he;cases he
 |cons x gl ih=>
  intro hh e he
  unfold Gs at hh
  split at hh
  . rename_i l t hg
    obtain ⟨h1,h2⟩:=iteB hh
    obtain ⟨h3,h4⟩:=iteB h2
    have:=(avsEq_eq h1).1
    subst this
    have:=Cf h3
    subst this
    rcases List.mem_cons.1 he with rfl|he
    . exact hg
    . exact ih h4 e he
  . cases hh
noncomputable def lgOk (n:Nat) (l:List Nat):Bool:=List.rec (motive:=fun _=>Bool) true (fun x _ ih=>Bool.rec (motive:=fun _=>Bool) false ih (Nat.ble n x)) l
theorem lgOk_get {n:Nat}:∀ {l:List Nat},lgOk n l=true->∀ x∈l,n<=x:=by
 intro l
 induction l with
 |nil=>intro _ x hx;cases hx
 |cons y l ih=>
  intro hh x hx
  obtain ⟨h1,h2⟩:=iteB (show (Bool.rec (motive:=fun _=>Bool) false (lgOk n l) (Nat.ble n y):Bool)=true from hh)
  rcases List.mem_cons.1 hx with rfl|hx
  . exact ble_le h1
  . exact ih h2 x hx
end Go.Ev
namespace Go.Ev
variable {P:Program} {G:Nat} {σ σ':Dj} {h h':H} {w w':World} {v:AV} {nt:Nat} {f f':L2} {a a':Act} {ctx:Ae} {b:FB} {cs:List Frame}
noncomputable def ranTo (n:Nat) (v:AV) (r:OR):Bool:=match r with
 |.ok u h=>Bool.rec (motive:=fun _=>Bool) false (Bool.rec (motive:=fun _=>Bool) false (lgOk n h.lg) (Nat.ble h.nx 1000000000000000000)) (leN 8 u v)
 |.bad _=>false
 |.pan _ _=>false
theorem ranTo_get {n:Nat} {r:OR} (hh:ranTo n v r=true):∃ u h',r=.ok u h'/\h'.nx<=Bh/\(∀ x∈h'.lg,n<=x)/\leN 8 u v=true:=by
 unfold ranTo at hh
 split at hh
 . rename_i u h'
   obtain ⟨h1,h2⟩:=iteB hh
   obtain ⟨h3,h4⟩:=iteB h2
   exact ⟨u,h',rfl,ble_le h3,lgOk_get h4,h1⟩
 . cases hh
 . cases hh
end Go.Ev
namespace Go.Ev
variable [Lim]
variable {P:Program} {G:Nat} {σ σ':Dj} {h h':H} {w w':World} {v:AV} {nt:Nat} {f f':L2} {a a':Act} {ctx:Ae} {b:FB} {cs:List Frame} {gl:List GE}
structure WOk (P:Program) (gl:List GE) (w:World):Prop where
 size:P.globals.size<=w.heap.size
 vars:∀ e∈gl,∃ (arr:Array Value) (lo hi:Nat),w.heap[e.g]?=some (.cells arr e.t (lo,hi))/\(∀ i,i<arr.size->¬ (lo<=i/\i<hi))/\∀ σ,Bd σ e.l arr.toList
structure Kept (w w':World):Prop where
 grow:w.heap.size<=w'.heap.size
 same:∀ c,c<w.heap.size->w'.heap[c]?=w.heap[c]?
 io:w'.os=w.os/\w'.output=w.output
theorem WOk.kept (hw:WOk P gl w) (hk:Kept w w'):WOk P gl w':=by
 refine ⟨Nat.le_trans hw.size hk.grow,fun e he=>?_⟩
 obtain ⟨arr,lo,hi,h1,h2⟩:=hw.vars e he
 exact ⟨arr,lo,hi,by rw [hk.same e.g (Dd h1)];exact h1,h2⟩
noncomputable def sig0 (G:Nat) (w:World):Dj:=fun b=>if b<G then some ⟨b,(match w.heap[b]? with|some (.cells arr _ _)=>arr.size|_=>0),none⟩ else none
theorem F8 {b:Nat} {e:SE} (hh:sig0 G w b=some e):b<G/\e.c=b/\e.k=none/\e.N=(match w.heap[b]? with|some (.cells arr _ _)=>arr.size|_=>0):=by
 unfold sig0 at hh
 split at hh
 . cases hh;exact ⟨by assumption,rfl,rfl,rfl⟩
 . cases hh
theorem wok_ms (hw:WOk P gl w) (hn:P.globals.size<=Bh) (hok:glOk P.globals.size gl=true):Ms P.globals.size (sig0 P.globals.size w) (glH gl P.globals.size) w/\GOk P.globals.size (sig0 P.globals.size w):=by
 refine ⟨⟨glH_inv hn hok,⟨?_,?_,?_⟩,?_⟩,?_⟩
 . intro x y e e' h1 h2 h3
   have q1:=(F8 h1).2.1
   have q2:=(F8 h2).2.1
   exact .inl (by omega)
 . intro x e h1
   have q:=F8 h1
   have:=hw.size
   omega
 . intro x e h1
   have q:=F8 h1
   omega
 . intro x e h1
   obtain ⟨q1,q2,q3,q4⟩:=F8 h1
   show Gb _ _ (glM gl).get e w ((glM gl).get x)
   rcases glM_get hn gl hok x (by omega) with ⟨ge,p1,p2,p3⟩|⟨_,p3⟩
   . rw [p3]
     obtain ⟨arr,lo,hi,r1,r2,r3⟩:=hw.vars ge p1
     rw [p2] at r1
     have hN:e.N=arr.size:=by rw [q4,r1]
     have hlr:=r3 (sig0 P.globals.size w)
     have hlen:ge.l.length=arr.size:=by have:=hlr.1;simpa using this
     refine ⟨q3,fun _=>⟨arr,lo,hi,by rw [q2];exact r1,hN.symm,by omega,fun i x y hx hy=>hlr.cells_rel i x y hx hy,fun _=>by omega,fun _ i hi2=>r2 i (by omega)⟩⟩
   . rw [p3];trivial
 . intro g hg
   exact ⟨_,if_pos hg,rfl⟩
theorem ms_wok (hm:Ms P.globals.size σ h w) (hg:GOk P.globals.size σ) (hok:glOk P.globals.size gl=true) (hgl:Gs gl h=true):WOk P gl w:=by
 refine ⟨?_,fun e he=>?_⟩
 . rcases Nat.eq_zero_or_pos P.globals.size with h0|h0
   . omega
   . obtain ⟨e,h1,h2⟩:=hg (P.globals.size - 1) (by omega)
     have:=hm.so.rng _ e h1
     omega
 . obtain ⟨h1,h2⟩:=glOk_get hok e he
   obtain ⟨s,h3,h4⟩:=hg e.g h1
   have hbr:=hm.ma e.g s h3
   rw [globOk_get hgl e he] at hbr
   obtain ⟨_,hbr⟩:=hbr
   obtain ⟨arr,lo,hi,q1,q2,q3,q4,q5,q6⟩:=hbr trivial
   rw [h4] at q1
   have hlen:=q5 rfl
   refine ⟨arr,lo,hi,q1,fun i hi2=>q6 trivial i (by omega),fun σ'=>?_⟩
   have hlr:Bd σ e.l arr.toList:=⟨by simp;omega,fun i x y hx hy=>q4 i x y hx (by simpa using hy)⟩
   exact flatL_rel h2 hlr σ'
end Go.Ev
namespace Go.Ev
variable {P:Program} {G:Nat} {σ σ':Dj} {h h':H} {w w':World} {v:AV} {nt:Nat} {f f':L2} {a a':Act} {ctx:Ae} {b:FB} {cs:List Frame} {gl:List GE}
structure Orc where
 g:FuncId
 args:List AV
 v:AV
def OrcOk (P:Program) (gl:List GE) (o:Orc):Prop:=∀ (w:World) (args':Array Value) (kind:CallKind),WOk P gl w->(∀ σ,Bd σ o.args args'.toList) ->
 ∃ v' w' a' fn,P.funcs[o.g]?=some fn/\(∀ σ,Aq σ o.v v')/\Kept w w'/\a'.defers=[]/\(results fn a'.tmps).run P w'=.ok v' w' /\
  ∀ cs,Calm ⟨o.g,kind,none⟩ cs->∃ k',Steps P (lone (Frame.enter P o.g args' kind) cs w) (lone (FB.back ⟨o.g,kind,none⟩ a' k') cs w')
theorem orc_of_run (hc:A7 P P.globals.size ctx) (hn:P.globals.size<=Bh) (hok:glOk P.globals.size gl=true) (o:Orc) (hb:Ba P o.g=true) (hr:ranTo P.globals.size o.v (ctx.call o.g o.args (glH gl P.globals.size))=true):
 OrcOk P gl o:=by
 obtain ⟨u,h1,he,hl,hlg,hle⟩:=ranTo_get hr
 intro w args' kind hw har
 obtain ⟨hms,hg⟩:=wok_ms hw hn hok
 have hfree:Fk (sig0 P.globals.size w) (glH gl P.globals.size) h1:=by
  intro x h2 h3
  have h2':P.globals.size<=x:=h2
  unfold sig0
  rw [if_neg (by omega)]
 obtain ⟨σ',v',w',a',fn,q1,q2,q3,q4,q5,q6⟩:=hc.call o.g o.args _ h1 u _ w args' kind he hb (har _) hms hg hl hfree
 obtain ⟨nw,s1,s2,s3⟩:=q3
 have hnw:h1.lg=nw:=by rw [s1.lg];simp [glH]
 refine ⟨v',w',a',fn,q1,fun σ=>leN_rel 8 u o.v v' _ σ hle q2,⟨s2.grow,fun c hc2=>s2.frame c hc2 ?_,s2.io⟩,q4,q5,q6⟩
 intro x hx e hxe
 have h5:=(F8 hxe).1
 have h6:=hlg x (by rw [hnw];exact hx)
 omega
noncomputable def orcFind:List Orc->FuncId->List AV->Option AV
 |[],_,_=>none
 |o::os,g,args=>Bool.rec (motive:=fun _=>Option AV) (orcFind os g args) (Bool.rec (motive:=fun _=>Option AV) (orcFind os g args) (some o.v) (lesN 8 args o.args)) (Nat.beq o.g g)
theorem orcFind_get:∀ {tab:List Orc} {g:FuncId} {args:List AV} {v:AV},orcFind tab g args=some v->∃ o∈tab,o.g=g/\lesN 8 args o.args=true/\o.v=v:=by
 intro tab
 induction tab with
 |nil=>intro g args v h;cases h
 |cons o os ih=>
  intro g args v h
  unfold orcFind at h
  cases h1:Nat.beq o.g g with
  |false=>
   rw [h1] at h
   obtain ⟨o',q1,q2⟩:=ih h
   exact ⟨o',by simp [q1],q2⟩
  |true=>
   rw [h1] at h
   cases h2:lesN 8 args o.args with
   |false=>
    rw [h2] at h
    obtain ⟨o',q1,q2⟩:=ih h
    exact ⟨o',by simp [q1],q2⟩
   |true=>
    rw [h2] at h
    cases h
    exact ⟨o,by simp,Cf h1,h2,rfl⟩
structure Tab where
 mask:Nat
 l:List Orc
noncomputable def orcTry (tab:Tab) (g:FuncId) (args:List AV):Option AV:=Bool.rec (motive:=fun _=>Option AV) (orcFind tab.l g args) none (Nat.beq (Nat.land tab.mask (Nat.pow 2 g)) 0)
theorem orcTry_get {tab:Tab} {g:FuncId} {args:List AV} {v:AV} (h:orcTry tab g args=some v):∃ o∈tab.l,o.g=g/\lesN 8 args o.args=true/\o.v=v:=by
 unfold orcTry at h
 cases hb:Nat.beq (Nat.land tab.mask (Nat.pow 2 g)) 0 with
 |true=>rw [hb] at h;cases h
 |false=>rw [hb] at h;exact orcFind_get h
noncomputable def orcV (gl:List GE) (v:AV) (h:H):OR:=Bool.rec (motive:=fun _=>OR) (.bad 300) (.ok v h) (Gs gl h)
noncomputable def ctxO (gl:List GE) (tab:Tab) (ctx:Ae):Ae:=
 ⟨fun g args h=>Option.rec (motive:=fun _=>OR) (ctx.call g args h) (fun v=>orcV gl v h) (orcTry tab g args),ctx.round⟩
noncomputable def ctxDO (P:Program) (gl:List GE) (tab:Tab) (d:Nat):Ae:=Nat.rec (motive:=fun _=>Ae) noCall (fun _ ih=>ctxO gl tab ⟨Fc P ih,roundF P ih⟩) d
theorem orcV_ok {v':AV} (he:orcV gl v h=.ok v' h'):Gs gl h=true/\v=v'/\h=h':=by
 unfold orcV at he
 rcases Be he with ⟨h1,h2⟩|⟨_,h2⟩
 . obtain ⟨h3,h4⟩:=By h2
   exact ⟨h1,h3,h4⟩
 . cases h2
theorem ctxO_mono {tab:Tab} (hc:Dk ctx):Dk (ctxO gl tab ctx):=by
 refine ⟨fun g args h v h' he=>?_,hc.round⟩
 have he':(Option.rec (motive:=fun _=>OR) (ctx.call g args h) (fun v=>orcV gl v h) (orcTry tab g args):OR)=.ok v h':=he
 cases ho:orcTry tab g args with
 |none=>rw [ho] at he';exact hc.call g args h v h' he'
 |some u=>
  rw [ho] at he'
  obtain ⟨_,_,rfl⟩:=orcV_ok he'
  exact Nat.le_refl _
theorem ctxO_sound {tab:Tab} (hc:A7 P P.globals.size ctx) (hok:glOk P.globals.size gl=true) (htab:∀ o∈tab.l,OrcOk P gl o):A7 P P.globals.size (ctxO gl tab ctx):=by
 refine ⟨?_,fun l args h h' v σ w args' e he=>hc.round l args h h' v σ w args' e he,ctxO_mono hc.mono,?_,hc.rpan⟩
 rotate_left
 . intro g args h h' v σ w args' he hb har hm hg hl hf
   have he':(Option.rec (motive:=fun _=>OR) (ctx.call g args h) (fun v=>orcV gl v h) (orcTry tab g args):OR)=.pan v h':=he
   cases ho:orcTry tab g args with
   |none=>rw [ho] at he';exact hc.pan g args h h' v σ w args' he' hb har hm hg hl hf
   |some u=>
    rw [ho] at he'
    rcases ite_pan he' with ⟨_,hq⟩|⟨_,hq⟩<;>cases hq
 intro g args h h' v σ w args' kind he hb har hm hg hl hf
 have he':(Option.rec (motive:=fun _=>OR) (ctx.call g args h) (fun v=>orcV gl v h) (orcTry tab g args):OR)=.ok v h':=he
 cases ho:orcTry tab g args with
 |none=>rw [ho] at he';exact hc.call g args h h' v σ w args' kind he' hb har hm hg hl hf
 |some u=>
  rw [ho] at he'
  obtain ⟨hgo,rfl,rfl⟩:=orcV_ok he'
  obtain ⟨o,q1,rfl,q4,rfl⟩:=orcTry_get ho
  obtain ⟨v',w',a',fn,r1,r2,r3,r4,r5,r6⟩:=htab o q1 w args' kind (ms_wok hm hg hok hgo) (fun σ'=>lesN_rel (leN_rel 8) args o.args args'.toList σ σ' q4 har)
  refine ⟨σ,v',w',a',fn,r1,r2 σ,⟨[],AStep.refl hm.ai,⟨Sle.refl σ,fun x e h1 h2=>(by rw [h1] at h2;cases h2),⟨hm.so.inj,fun x e hx=>Nat.lt_of_lt_of_le (hm.so.rng x e hx) r3.grow,hm.so.low⟩,r3.grow,fun c hc2 _=>r3.same c hc2,
   fun x e h1 h2=>(by rw [h1] at h2;cases h2),r3.io⟩,?_⟩,r4,r5,r6⟩
  intro x e hx
  exact Gb.congr (Sle.refl σ) (r3.same e.c (hm.so.rng x e hx)) (fun _ _ _ _ _ hh=>hh) (hm.ma x e hx)
theorem ctxDO_sound {tab:Tab} (hmx:P.follows .mixedOrders=true) (hp:progOk P=true) (hok:glOk P.globals.size gl=true) (htab:∀ o∈tab.l,OrcOk P gl o) (d:Nat):A7 P P.globals.size (ctxDO P gl tab d):=by
 induction d with
 |zero=>exact ctxD_sound hmx hp 0
 |succ d ih=>exact ctxO_sound (ctxS ih hmx hp ⟨mono_callF ih.mono,mono_roundF ih.mono⟩) hok htab
theorem OrcOk.calls {o:Orc} (ho:OrcOk P gl o) (hw:WOk P gl w) {args':Array Value} (har:∀ σ,Bd σ o.args args'.toList):Calls P o.g args' w fun e w'=>∃ v',e=.returned v'/\(∀ σ,Aq σ o.v v')/\Kept w w':=by
 intro cs
 obtain ⟨v',w',a',fn,r1,r2,r3,r4,r5,r6⟩:=ho w args' .normal hw har
 obtain ⟨k',hs⟩:=r6 cs (.inl rfl)
 exact ⟨.returned v',w',_,⟨v',rfl,r2,r3⟩,hs,rfl,rfl,r4,rfl,fn,r1,r5⟩
def rowsOk (P:Program):Bool:=(List.range P.globals.size).all fun g=>(((begin P (fun _ _=>0) default).world.heap[g]?).bind Obj.row?).isSome
noncomputable def tieOne (P:Program) (e:GE) (x:String × DataW Unit):Bool:=
 match P.globalNamed x.1,(P.globals[e.g]?).map (·.type),((begin P (fun _ _=>0) default).world.heap[e.g]?).bind Obj.row? with
 |some g,some t,some r=>Nat.beq g e.g&&Nat.beq r.2 e.t&&(match flatN P 4 t x.2 with|some l=>avsEq l e.l|none=>false)
 |_,_,_=>false
noncomputable def glTie (P:Program) (laid:List (String × DataW Unit)) (gl:List GE):Bool:=gl.all fun e=>laid.any (tieOne P e)
theorem wok_of_laid {laid:List (String × DataW Unit)} (hsh:w.ShapedOpen P) (hrows:rowsOk P=true) (hl:laidMet P laid w) (ht:glTie P laid gl=true):WOk P gl w:=by
 have hrow:∀ g,g<P.globals.size->∃ zero t cs,((begin P (fun _ _=>0) default).world.heap[g]?).bind Obj.row?=some (zero,t)/\w.heap[g]?=some (.cells cs t):=by
  intro g hg
  have:=List.all_eq_true.1 hrows g (List.mem_range.2 hg)
  obtain ⟨⟨zero,t⟩,hr⟩:=Option.isSome_iff_exists.1 this
  obtain ⟨cs,h1,_⟩:=hsh.1 g zero t hg hr
  exact ⟨zero,t,cs,hr,h1⟩
 refine ⟨?_,fun e he=>?_⟩
 . rcases Nat.eq_zero_or_pos P.globals.size with h0|h0
   . omega
   . obtain ⟨_,_,cs,_,h1⟩:=hrow (P.globals.size - 1) (by omega)
     have:=Dd h1
     omega
 . obtain ⟨x,hx,htie⟩:=List.any_eq_true.1 (List.all_eq_true.1 ht e he)
   unfold tieOne at htie
   split at htie
   . rename_i g t r hg hty hr
     simp only [Bool.and_eq_true] at htie
     obtain ⟨⟨h1,h2⟩,h3⟩:=htie
     have h1:=Cf h1
     have h2:=Cf h2
     subst h1
     split at h3
     . rename_i l hfl
       obtain ⟨rfl,_⟩:=avsEq_eq h3
       obtain ⟨g',t',cs,fuel,p,q1,q2,q3,q4⟩:=Lib.laidMet.reads hl (n:=x.1) (d:=x.2) hx
       have hge:g'=e.g:=by rw [hg] at q1;cases q1;rfl
       subst hge
       have hte:t'=t:=by rw [hty] at q2;cases q2;rfl
       subst hte
       have hgl:e.g<P.globals.size:=by
        cases hq:P.globals[e.g]? with
        |none=>rw [hq] at hty;cases hty
        |some y=>exact (Array.getElem?_eq_some_iff.1 hq).1
       obtain ⟨zero,t2,cs2,r1,r2⟩:=hrow e.g hgl
       rw [hr] at r1
       cases r1
       have hcs:cs2=cs:=by
        unfold World.var? at q3
        rw [hg] at q3
        simp only [Option.bind_some,r2] at q3
        cases q3;rfl
       subst hcs
       subst h2
       exact ⟨cs2,0,0,r2,fun i _=>by omega,fun σ=>flat_rel w σ 4 _ _ _ fuel _ p hfl q4⟩
     . cases h3
   . cases htie
theorem laidMetH.plain {laid:List (String × DataW Unit)} (hh:(laid.filter fun x=>x.2.handleName?.isSome)=[]) (hl:laidMetH P laid w):laidMet P laid w:=by
 unfold laidMetH at hl
 rw [hh] at hl
 exact hl
theorem Kept.but (hk:Kept w w'):w.keptBut w' (fun _=>False):=by
 refine ⟨hk.io.1,hk.io.2,fun i hi=>?_⟩
 rw [hk.same i hi]
 cases w.heap[i]? with
 |none=>rfl
 |some o=>cases o<;>first|exact ⟨rfl,rfl,rfl,fun _ _=>rfl⟩|exact .inr ⟨rfl,rfl⟩|rfl
end Go.Ev
namespace Go.Ev
open Go.ChangeShapes Go.WideShapes Go.ChangeAt Go.RowKit
section
variable {H:Type} {enc:TypeId × Value->H}
end
theorem goes_none {P:Program} (ha:P.funcs.toList.all (fun fn=>!fn.goes)=true) (f:FuncId):P.goes f=false:=by
 have h0:∀ g:FuncId,((P.funcs[g]?).any Func.goes)=false:=by
  intro g
  cases hg:P.funcs[g]? with
  |none=>rfl
  |some fn=>
   have:=List.all_eq_true.1 ha fn (Array.mem_toList_iff.2 (Array.mem_of_getElem? hg))
   simpa using this
 have h1:P.funcs.any Func.goes=false:=by
  rw [<- Array.any_toList]
  rw [List.any_eq_false]
  intro fn hf
  have:=List.all_eq_true.1 ha fn hf
  simpa using this
 unfold Program.goes
 simp [h0,h1]
theorem goesBy_none {P:Program} {c:OpenClaim} (hs:c.start=.entering) (ha:P.funcs.toList.all (fun fn=>!fn.goes)=true):false=c.goesBy P:=by
 unfold OpenClaim.goesBy Program.goesAt Program.goesFrom
 rw [hs]
 cases P.funcNamed c.func with
 |none=>rfl
 |some f=>simp [goes_none ha f]
end Go.Ev
