/- The plain law of the normal forms: they are the same. -/
import Derived.Test.YtecikbfimlolcaaGreatDoorEvRha
set_option maxRecDepth 100000
set_option linter.unusedSimpArgs false
set_option linter.unusedVariables false
namespace Go.Proofs
open Go Go.Ev Go.Nm
theorem nodes_inj:∀ (a b:Tr) (l m:List Nd),Reg a->Reg b->l++a.nodes=m++b.nodes->a=b/\l=m:=by
 intro a
 induction a with
 |leaf x=>
  intro b l m ha hb h
  cases b with
  |leaf y=>
   have:=List.append_inj' h rfl
   simp only [Tr.nodes,List.cons.injEq,and_true] at this
   exact ⟨by rw [this.2],this.1⟩
  |one o b=>
   have h2:=(List.append_inj' (by simpa [Tr.nodes] using h:l++[x]=(m++b.nodes)++[⟨o,0,[]⟩]) rfl).2
   simp only [List.cons.injEq,and_true] at h2
   have:=ha.1;have:=ha.2;have h3:=hb.1;rw [h2] at *;simp only at *;omega
  |two o b c=>
   have h2:=(List.append_inj' (by simpa [Tr.nodes] using h:l++[x]=(m++(b.nodes++c.nodes))++[⟨o,0,[]⟩]) rfl).2
   simp only [List.cons.injEq,and_true] at h2
   have:=ha.1;have:=ha.2;have h3:=hb.1;rw [h2] at *;simp only at *;omega
  |three d b c=>
   have h2:=(List.append_inj' (by simpa [Tr.nodes] using h:l++[x]=(m++(d.nodes++(b.nodes++c.nodes)))++[⟨8,0,[]⟩]) rfl).2
   simp only [List.cons.injEq,and_true] at h2
   have:=ha.1;have:=ha.2;rw [h2] at *;simp only at *;omega
 |one o a ih=>
  intro b l m ha hb h
  cases b with
  |leaf y=>
   have h2:=(List.append_inj' (by simpa [Tr.nodes] using h:(l++a.nodes)++[⟨o,0,[]⟩]=m++[y]) rfl).2
   simp only [List.cons.injEq,and_true] at h2
   have:=hb.1;have:=hb.2;have h3:=ha.1;rw [<- h2] at *;simp only at *;omega
  |one o' b=>
   have h2:=(List.append_inj' (by simpa [Tr.nodes] using h:(l++a.nodes)++[⟨o,0,[]⟩]=(m++b.nodes)++[⟨o',0,[]⟩]) rfl)
   obtain ⟨h3,h4⟩:=h2
   simp only [List.cons.injEq,and_true,Nd.mk.injEq] at h4
   obtain ⟨rfl,rfl⟩:=ih b l m ha.2 hb.2 h3
   exact ⟨by rw [h4],rfl⟩
  |two o' b c=>
   have h2:=(List.append_inj' (by simpa [Tr.nodes] using h:(l++a.nodes)++[⟨o,0,[]⟩]=(m++(b.nodes++c.nodes))++[⟨o',0,[]⟩]) rfl).2
   simp only [List.cons.injEq,and_true,Nd.mk.injEq] at h2
   have:=ha.1;have:=hb.1;omega
  |three d b c=>
   have h2:=(List.append_inj' (by simpa [Tr.nodes] using h:(l++a.nodes)++[⟨o,0,[]⟩]=(m++(d.nodes++(b.nodes++c.nodes)))++[⟨8,0,[]⟩]) rfl).2
   simp only [List.cons.injEq,and_true,Nd.mk.injEq] at h2
   have:=ha.1;omega
 |two o a c iha ihc=>
  intro b l m ha hb h
  cases b with
  |leaf y=>
   have h2:=(List.append_inj' (by simpa [Tr.nodes] using h:(l++(a.nodes++c.nodes))++[⟨o,0,[]⟩]=m++[y]) rfl).2
   simp only [List.cons.injEq,and_true] at h2
   have:=hb.1;have:=hb.2;have h3:=ha.1;rw [<- h2] at *;simp only at *;omega
  |one o' b=>
   have h2:=(List.append_inj' (by simpa [Tr.nodes] using h:(l++(a.nodes++c.nodes))++[⟨o,0,[]⟩]=(m++b.nodes)++[⟨o',0,[]⟩]) rfl).2
   simp only [List.cons.injEq,and_true,Nd.mk.injEq] at h2
   have:=ha.1;have:=hb.1;omega
  |two o' b d=>
   obtain ⟨h3,h4⟩:=(List.append_inj' (by simpa [Tr.nodes] using h:((l++a.nodes)++c.nodes)++[⟨o,0,[]⟩]=((m++b.nodes)++d.nodes)++[⟨o',0,[]⟩]) rfl)
   simp only [List.cons.injEq,and_true,Nd.mk.injEq] at h4
   obtain ⟨rfl,h5⟩:=ihc d _ _ ha.2.2 hb.2.2 h3
   obtain ⟨rfl,rfl⟩:=iha b _ _ ha.2.1 hb.2.1 h5
   exact ⟨by rw [h4],rfl⟩
  |three e b d=>
   have h2:=(List.append_inj' (by simpa [Tr.nodes] using h:(l++(a.nodes++c.nodes))++[⟨o,0,[]⟩]=(m++(e.nodes++(b.nodes++d.nodes)))++[⟨8,0,[]⟩]) rfl).2
   simp only [List.cons.injEq,and_true,Nd.mk.injEq] at h2
   have:=ha.1;omega
 |three e a c ihe iha ihc=>
  intro b l m ha hb h
  cases b with
  |leaf y=>
   have h2:=(List.append_inj' (by simpa [Tr.nodes] using h:(l++(e.nodes++(a.nodes++c.nodes)))++[⟨8,0,[]⟩]=m++[y]) rfl).2
   simp only [List.cons.injEq,and_true] at h2
   have:=hb.1;have:=hb.2;rw [<- h2] at *;simp only at *;omega
  |one o' b=>
   have h2:=(List.append_inj' (by simpa [Tr.nodes] using h:(l++(e.nodes++(a.nodes++c.nodes)))++[⟨8,0,[]⟩]=(m++b.nodes)++[⟨o',0,[]⟩]) rfl).2
   simp only [List.cons.injEq,and_true,Nd.mk.injEq] at h2
   have:=hb.1;omega
  |two o' b d=>
   have h2:=(List.append_inj' (by simpa [Tr.nodes] using h:(l++(e.nodes++(a.nodes++c.nodes)))++[⟨8,0,[]⟩]=(m++(b.nodes++d.nodes))++[⟨o',0,[]⟩]) rfl).2
   simp only [List.cons.injEq,and_true,Nd.mk.injEq] at h2
   have:=hb.1;omega
  |three f b d=>
   obtain ⟨h3,h4⟩:=(List.append_inj' (by simpa [Tr.nodes] using h:(((l++e.nodes)++a.nodes)++c.nodes)++[⟨8,0,[]⟩]=(((m++f.nodes)++b.nodes)++d.nodes)++[⟨8,0,[]⟩]) rfl)
   obtain ⟨rfl,h5⟩:=ihc d _ _ ha.2.2 hb.2.2 h3
   obtain ⟨rfl,h6⟩:=iha b _ _ ha.2.1 hb.2.1 h5
   obtain ⟨rfl,rfl⟩:=ihe f _ _ ha.1 hb.1 h6
   exact ⟨rfl,rfl⟩
theorem same_eq {a b:Tr} (ha:Reg a) (hb:Reg b) (h:same a b=true):a=b:=by
 rw [same_law,decide_eq_true_eq] at h
 exact (nodes_inj a b [] [] ha hb (by simpa using h)).1
theorem reg_fixed (b:Bool):Reg (fixed b):=by cases b<;>exact ⟨⟨by decide,by decide,by decide,by decide⟩,⟨by decide,by decide⟩,⟨by decide,by decide⟩⟩
theorem value_law {t:Tr} (hr:Reg t):(A0 t).2=(value t).2/\((value t).2=true->(A0 t).1=(value t).1):=by
 cases t with
 |leaf x=>
  obtain ⟨h1,h2⟩:=hr
  by_cases h:x.op=1/\0<=x.n/\x.n<=1000000000
  . simp [A0,value,hd,h]
  . have h7:¬ x.op=7:=by omega
    simp only [A0,value,hd,if_neg h,kidT,h7,false_and,if_false]
    refine ⟨?_,?_⟩
    . symm;simp only [Bool.and_eq_false_iff,decide_eq_false_iff_not];omega
    . intro hh;simp only [Bool.and_eq_true,decide_eq_true_eq] at hh;omega
 |one o a=>
  obtain ⟨h1,h2⟩:=hr
  have ho:¬ o=1:=by omega
  simp only [A0,value,hd,ho,false_and,if_false,kidT]
  cases a with
  |leaf y=>
   obtain ⟨g1,g2⟩:=h2
   by_cases a3:0<y.n
   . have g:0<=y.n:=by omega
     by_cases a1:o=7<;>by_cases a2:y.op=1<;>by_cases a4:y.n<=1000000000<;>simp [value,hd,Tr.op,a1,a2,a3,a4,g]
   . by_cases a1:o=7<;>simp [value,hd,Tr.op,a1,a3]
  |one p b=>
   obtain ⟨g1,g2⟩:=h2
   have g:¬ p=1:=by omega
   simp [hd,g,Tr.op]
  |two p b c=>
   obtain ⟨g1,g2⟩:=h2
   have g:¬ p=1:=by omega
   simp [hd,g,Tr.op]
  |three d b c=>simp [hd,Tr.op]
 |two o a b=>
  obtain ⟨h1,h2⟩:=hr
  have ho:¬ o=1:=by omega
  have h7:¬ o=7:=by omega
  simp [A0,value,hd,ho,h7]
 |three c a b=>simp [A0,value,hd]
end Go.Proofs
