/- The reference's walks: a list of nodes read as an expression. -/
import Derived.Test.YtecikbfimlolcaaGreatDoorEvRf
set_option maxRecDepth 100000
set_option linter.unusedSimpArgs false
set_option linter.unusedVariables false
noncomputable section
namespace Go.Proofs
open Go Go.Ev Go.Nm
def ty (t:Tr):Nat:=if F4 t then 116 else 110
def mkT (x:Nd):List Tr->Tr
 |[a]=>.one x.op a
 |[a,b]=>.two x.op a b
 |[c,a,b]=>.three c a b
 |_=>.leaf x
theorem Alw {x:Nd} (h:Qt x=false):1<=x.op/\x.op<=17/\(x.op≠1->x.n=0)/\(x.op≠2->x.op≠3->x.Zn=[]):=by
 simp only [Qt,Bool.or_eq_false_iff,decide_eq_false_iff_not,Bool.and_eq_false_imp,Bool.not_eq_true',Bool.not_eq_false',decide_eq_true_eq,decide_eq_false_iff_not] at h
 obtain ⟨⟨⟨h1,h2⟩,h3⟩,h4⟩:=h
 refine ⟨by omega,by omega,λhh=>?_,λh5 h6=>?_⟩
 . by_cases hn:x.n=0
   . exact hn
   . have:=h3 hn;omega
 . by_cases hn:x.Zn=[]
   . exact hn
   . exfalso
     simp [hn,h5,h6] at h4
theorem Apq {st:List Tr} {x:Nd} (h1:1<=x.op) (h2:x.op<=17):Fa st x=if (Pz x.op).length<=st.length/\(st.drop (st.length - (Pz x.op).length)).map ty=Pz x.op then some (st.take (st.length - (Pz x.op).length)++[mkT x (st.drop (st.length - (Pz x.op).length))]) else none:=by
 have Mh:∀(ts:List Bool) (l:List Nat),l=ts.map (λb=>if b then 116 else 110)->∀q:List Tr,q.map F4=ts ↔ q.map ty=l:=by
  intro ts l hl q
  subst hl
  constructor
  . intro hq;rw [<- hq];simp [ty]
  . intro hq
    have h3:q.map (λt=>if F4 t then 116 else 110)=ts.map (λb=>if b then 116 else 110):=hq
    clear hq
    induction q generalizing ts with
    |nil=>cases ts with|nil=>rfl|cons a ts=>simp at h3
    |cons t q ih=>
     cases ts with
     |nil=>simp at h3
     |cons a ts=>
      simp only [List.map_cons,List.cons.injEq] at h3 ⊢
      refine ⟨?_,ih ts h3.2⟩
      cases ht:F4 t<;>cases a<;>simp [ht] at h3 ⊢
 have Vr:∀(ts:List Bool),Pz x.op=ts.map (λb=>if b then 116 else 110)->∀(f:List Tr->List Tr->Option (List Tr)),(match Gf st ts with|some (r,q)=>f r q|none=>none) =
  if (Pz x.op).length<=st.length/\(st.drop (st.length - (Pz x.op).length)).map ty=Pz x.op then f (st.take (st.length - (Pz x.op).length)) (st.drop (st.length - (Pz x.op).length)) else none:=by
  intro ts hts f
  have hl:(Pz x.op).length=ts.length:=by rw [hts];simp
  unfold Gf
  rw [hl]
  by_cases hc:ts.length<=st.length/\(st.drop (st.length - ts.length)).map F4=ts
  . rw [if_pos hc,if_pos ⟨hc.1,(Mh ts _ hts _).1 hc.2⟩]
  . rw [if_neg hc,if_neg (λhh=>hc ⟨hh.1,(Mh ts _ hts _).2 hh.2⟩)]
 have hlen:∀k,k<=st.length->(st.drop (st.length - k)).length=k:=λk hk=>by rw [List.length_drop];omega
 by_cases c1:x.op<=3
 . have ht:Pz x.op=[]:=by unfold Pz;rw [if_pos (by omega)]
   unfold Fa
   rw [if_pos c1,ht]
   simp [mkT]
 by_cases c2:x.op=7\/x.op=17
 . have ht:Pz x.op=[decide (x.op=17)].map (λb=>if b then 116 else 110):=by
    rcases c2 with c2|c2<;>rw [c2]<;>rfl
   have hg:=Vr [decide (x.op=17)] ht (λr q=>match q with|[a]=>some (r++[.one x.op a])|_=>none)
   unfold Fa
   rw [if_neg c1,if_pos c2]
   have Vs:(Pz x.op).length=1:=by rw [ht];rfl
   refine Eq.trans ?_ (hg.trans ?_)
   . cases Gf st [decide (x.op=17)] with
     |none=>rfl
     |some p=>obtain ⟨r,q⟩:=p;cases q with|nil=>rfl|cons a q=>cases q<;>rfl
   . by_cases hc:(Pz x.op).length<=st.length/\(st.drop (st.length - (Pz x.op).length)).map ty=Pz x.op
     . rw [if_pos hc,if_pos hc]
       obtain ⟨a,ha⟩:=List.length_eq_one_iff.1 ((hlen _ hc.1).trans Vs)
       rw [ha]
       rfl
     . rw [if_neg hc,if_neg hc]
 by_cases c3:x.op=8
 . have ht:Pz x.op=[true,false,false].map (λb=>if b then 116 else 110):=by rw [c3];rfl
   have hg:=Vr [true,false,false] ht (λr q=>match q with|[c,a,b]=>some (r++[.three c a b])|_=>none)
   unfold Fa
   rw [if_neg c1,if_neg c2,if_pos c3]
   have Vs:(Pz x.op).length=3:=by rw [ht];rfl
   refine Eq.trans ?_ (hg.trans ?_)
   . cases Gf st [true,false,false] with
     |none=>rfl
     |some p=>obtain ⟨r,q⟩:=p;match q with|[]=>rfl|[_]=>rfl|[_,_]=>rfl|[_,_,_]=>rfl|_::_::_::_::_=>rfl
   . by_cases hc:(Pz x.op).length<=st.length/\(st.drop (st.length - (Pz x.op).length)).map ty=Pz x.op
     . rw [if_pos hc,if_pos hc]
       have h9:=(hlen _ hc.1).trans Vs
       match hq:st.drop (st.length - (Pz x.op).length),h9 with
       |[c,a,b],_=>rfl
     . rw [if_neg hc,if_neg hc]
 . have ht:Pz x.op=[decide (x.op=15)||decide (x.op=16),decide (x.op=15)||decide (x.op=16)].map (λb=>if b then 116 else 110):=by
    by_cases c4:x.op=15\/x.op=16
    . rcases c4 with c4|c4<;>rw [c4]<;>rfl
    . have e1:¬ x.op=15:=by omega
      have e2:¬ x.op=16:=by omega
      unfold Pz
      rw [if_neg (by omega)]
      by_cases c5:x.op=4\/x.op=5\/x.op=6
      . rw [if_pos c5];simp [e1,e2]
      . rw [if_neg c5,if_neg (by omega),if_neg (by omega),if_neg (by omega),if_neg (by omega)];simp [e1,e2]
   have hg:=Vr _ ht (λr q=>match q with|[a,b]=>some (r++[.two x.op a b])|_=>none)
   unfold Fa
   rw [if_neg c1,if_neg c2,if_neg c3]
   have Vs:(Pz x.op).length=2:=by rw [ht];rfl
   refine Eq.trans ?_ (hg.trans ?_)
   . cases Gf st [decide (x.op=15)||decide (x.op=16),decide (x.op=15)||decide (x.op=16)] with
     |none=>rfl
     |some p=>obtain ⟨r,q⟩:=p;match q with|[]=>rfl|[_]=>rfl|[_,_]=>rfl|_::_::_::_=>rfl
   . by_cases hc:(Pz x.op).length<=st.length/\(st.drop (st.length - (Pz x.op).length)).map ty=Pz x.op
     . rw [if_pos hc,if_pos hc]
       have h9:=(hlen _ hc.1).trans Vs
       match hq:st.drop (st.length - (Pz x.op).length),h9 with
       |[a,b],_=>rfl
     . rw [if_neg hc,if_neg hc]
end Go.Proofs
namespace Go.Proofs
open Go Go.Ev Go.Nm
attribute [local irreducible] Aa Al Af Ad
variable (ctx:Ac) (N:Nat)
def A46 (c:Bool):List Nat:=[if c then 116 else 110]
theorem AgV {l:List Nd} {st U0:List Tr} {i:Nat} {x:Nd} {rest:List Nd} (h1:Qt x=false) (h2:Ou l i x=false) (hs:Fa st x=some U0):Dm l st i (x::rest)=Dm l U0 (i+1) rest:=by simp [Dm,h1,h2,hs]
theorem AgU {l:List Nd} {st:List Tr} {i:Nat} {x:Nd} {rest:List Nd} (h1:Qt x=false) (h2:Ou l i x=false) (hs:Fa st x=none):Dm l st i (x::rest)=none:=by simp [Dm,h1,h2,hs]
theorem A3f {h0 hF:H} {Q:AV->H->Prop} {Fl:List EF} {lg:List Nat} {k:H->OR} (gF:Sx.Ai h0 hF) (h1:∀z∈lg,z∈h0.lg\/h0.nx<=z) (he:Lh Fl=true) (h2:∀e∈Fl,e.w=[]\/∃n,e.w=wrote n hF.lg) (hk:∀L,Sx.Ai h0 (Be L hF)->Sx.Bi hF (Be L hF)->Sx.Ah h0 Q (k (Be L hF))):Sx.Ah h0 Q (Ff lg Fl (Ab hF) k):=by
 rw [Sx.So he]
 refine hk _ ⟨gF.lo,gF.Cf,?_⟩ ⟨Nat.le_refl _,λb cs hc=>⟨hc.lt,hc.cells⟩⟩
 show ∀z∈En Fl lg,_
 clear he hk
 induction Fl with
 |nil=>exact h1
 |cons e es ih=>
  intro z hz
  rw [Sx.Ap] at hz
  rcases List.mem_append.1 hz with hz|hz
  . rcases h2 e (List.mem_cons_self ..) with h3|⟨n,h3⟩
    . rw [h3] at hz;cases hz
    . rw [h3] at hz
      exact gF.lg z (Ck n z _ hz)
  . exact ih (λe he=>h2 e (List.mem_cons_of_mem _ he)) z hz
def F5 (p:Prop):Prop:=p
end Go.Proofs
