/- The plain law of the normal forms: what is read, and how large it is. -/
import Derived.Test.YtecikbfimlolcaaGreatDoorEvRfa
set_option maxRecDepth 100000
set_option linter.unusedSimpArgs false
set_option linter.unusedVariables false
namespace Go.Proofs
open Go Go.Ev Go.Nm
def sumS:List Tr->Nat
 |[]=>0
 |t::l=>size t+sumS l
theorem sumS_app:∀ l m:List Tr,sumS (l++m)=sumS l+sumS m
 |[],m=>by simp [sumS]
 |t::l,m=>by simp [sumS,sumS_app l m];omega
theorem tin_case {x:Nd} (h1:1<=x.op) (h2:x.op<=17):((Es x.op).length=0/\x.op<=3)\/((Es x.op).length=1/\(x.op=7\/x.op=17))\/((Es x.op).length=3/\x.op=8)\/((Es x.op).length=2/\(4<=x.op/\x.op<=16/\x.op≠7/\x.op≠8)):=by
 unfold Es
 split
 . exact .inl ⟨rfl,by omega⟩
 split
 . exact .inr (.inr (.inr ⟨rfl,by omega⟩))
 split
 . exact .inr (.inl ⟨rfl,by omega⟩)
 split
 . exact .inr (.inr (.inl ⟨rfl,by omega⟩))
 split
 . exact .inr (.inr (.inr ⟨rfl,by omega⟩))
 split
 . exact .inr (.inl ⟨rfl,by omega⟩)
 . exact .inr (.inr (.inr ⟨rfl,by omega⟩))
theorem mk_reg {x:Nd} {qs:List Tr} (hb:bad1 x=false) (hl:qs.length=(Es x.op).length) (hr:∀ t∈qs,Reg t):Reg (mkT x qs)/\size (mkT x qs)=sumS qs+1/\(mkT x qs).nodes=qs.flatMap Tr.nodes++[x]:=by
 obtain ⟨h1,h2,h3,h4⟩:=bad1_op hb
 have hx:∀ o,x.op=o->o≠1->o≠2->o≠3->(⟨o,0,[]⟩:Nd)=x:=fun o ho a b c=>by
  obtain ⟨xo,xn,xc⟩:=x
  simp only at ho h3 h4
  subst ho
  rw [h3 a,h4 b c]
 rcases tin_case h1 h2 with ⟨e1,e2⟩|⟨e1,e2⟩|⟨e1,e2⟩|⟨e1,e2⟩
 . rw [e1] at hl
   obtain rfl:=List.length_eq_zero_iff.1 hl
   exact ⟨⟨h1,e2⟩,rfl,rfl⟩
 . rw [e1] at hl
   obtain ⟨a,rfl⟩:=List.length_eq_one_iff.1 hl
   refine ⟨⟨e2,hr a (by simp)⟩,by simp [mkT,size,sumS],?_⟩
   simp [mkT,Tr.nodes,hx x.op rfl (by omega) (by omega) (by omega)]
 . rw [e1] at hl
   match qs,hl with
   |[c,a,b],_=>
    refine ⟨⟨hr c (by simp),hr a (by simp),hr b (by simp)⟩,by simp [mkT,size,sumS]<;>omega,?_⟩
    simp [mkT,Tr.nodes,hx 8 e2 (by omega) (by omega) (by omega)]
 . rw [e1] at hl
   match qs,hl with
   |[a,b],_=>
    refine ⟨⟨e2,hr a (by simp),hr b (by simp)⟩,by simp [mkT,size,sumS]<;>omega,?_⟩
    simp [mkT,Tr.nodes,hx x.op rfl (by omega) (by omega) (by omega)]
theorem buildL_law (l:List Nd):∀ (rest:List Nd) (st:List Tr) (i:Nat) (st':List Tr),Dy l st i rest=some st'->(∀ t∈st,Reg t)->(∀ t∈st',Reg t)/\sumS st'=sumS st+rest.length/\st'.flatMap Tr.nodes=st.flatMap Tr.nodes++rest
 |[],st,i,st',h,hr=>by
  simp only [Dy,Option.some.injEq] at h
  subst h
  exact ⟨hr,rfl,by simp⟩
 |x::rest,st,i,st',h,hr=>by
  cases hb:bad1 x||Fg l i x with
  |true=>simp [Dy,hb] at h
  |false=>
   obtain ⟨hb1,hb2⟩:=Bool.or_eq_false_iff.1 hb
   obtain ⟨o1,o2,-,-⟩:=bad1_op hb1
   have hadd:=addS_tin (st:=st) o1 o2
   by_cases hc:(Es x.op).length<=st.length/\(st.drop (st.length - (Es x.op).length)).map ty=Es x.op
   . rw [if_pos hc] at hadd
     rw [buildL_some hb1 hb2 hadd] at h
     generalize hk:st.length - (Es x.op).length=k at hadd h
     have hlen:(st.drop k).length=(Es x.op).length:=by rw [List.length_drop];omega
     obtain ⟨m1,m2,m3⟩:=mk_reg hb1 hlen (fun t ht=>hr t (List.mem_of_mem_drop ht))
     obtain ⟨q1,q2,q3⟩:=buildL_law l rest _ _ st' h (fun t ht=>by
      rcases List.mem_append.1 ht with ht|ht
      . exact hr t (List.mem_of_mem_take ht)
      . rcases List.mem_singleton.1 ht with rfl
        exact m1)
     have hs:sumS st=sumS (st.take k)+sumS (st.drop k):=by rw [<- sumS_app,List.take_append_drop]
     have hn:st.flatMap Tr.nodes=(st.take k).flatMap Tr.nodes++(st.drop k).flatMap Tr.nodes:=by rw [<- List.flatMap_append,List.take_append_drop]
     refine ⟨q1,?_,?_⟩
     . rw [q2,sumS_app,hs]
       simp only [sumS,m2,List.length_cons]
       omega
     . rw [q3,List.flatMap_append,hn]
       simp [m3]
   . rw [if_neg hc] at hadd
     rw [buildL_none hb1 hb2 hadd] at h
     cases h
theorem build_law {l:List Nd} {c:Bool} {t:Tr} (h:E7 l c=some t):size t=l.length/\Reg t/\t.nodes=l:=by
 unfold E7 at h
 cases hb:Dy l [] 0 l with
 |none=>rw [hb] at h;cases h
 |some st=>
  rw [hb] at h
  obtain ⟨q1,q2,q3⟩:=buildL_law l l [] 0 st hb (fun t ht=>by cases ht)
  match st,h with
  |[a],h=>
   simp only at h
   split at h
   . cases h
     refine ⟨by simpa [sumS] using q2,q1 _ (by simp),by simpa using q3⟩
   . cases h
theorem build_true (b:Bool):E7 (fixed b).nodes true=some (fixed b):=by cases b<;>rfl
end Go.Proofs
