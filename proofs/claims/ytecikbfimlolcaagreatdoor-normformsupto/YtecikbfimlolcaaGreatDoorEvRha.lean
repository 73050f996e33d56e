/- The plain law of the normal forms: the order of expressions. -/
import Derived.Test.YtecikbfimlolcaaGreatDoorEvRh
import Derived.Test.YtecikbfimlolcaaGreatDoorEvB
set_option maxRecDepth 100000
set_option linter.unusedSimpArgs false
set_option linter.unusedVariables false
namespace Go.Proofs
open Go Go.Ev Go.Nm
theorem strLt_irr:∀ l:List Nat,F9 l l=false
 |[]=>rfl
 |x::l=>by rw [strLt_cons,strLt_irr l];simp
theorem strLt_tri (a b:List Nat):(F9 a b=true/\F9 b a=false/\a≠b)\/(F9 a b=false/\F9 b a=true/\a≠b)\/(F9 a b=false/\F9 b a=false/\a=b):=by
 have h:=strLt_total a b
 by_cases he:a=b
 . subst he
   exact .inr (.inr ⟨strLt_irr a,strLt_irr a,rfl⟩)
 . have hb:(a == b)=false:=by simpa using he
   rw [hb,Bool.or_false] at h
   cases h1:F9 a b<;>rw [h1] at h<;>simp only [Bool.not_eq_true',Bool.not_eq_false'] at h
   . exact .inr (.inl ⟨rfl,by simpa using h,he⟩)
   . exact .inl ⟨rfl,by simpa using h,he⟩
theorem cmpS_law (a b:List Nat):(cmpS a b=0 ↔ a=b)/\(cmpS a b<0 ↔ F9 a b=true):=by
 unfold cmpS
 rcases strLt_tri a b with ⟨h1,h2,h3⟩|⟨h1,h2,h3⟩|⟨h1,h2,h3⟩<;>simp [h1,h2,h3,strLt_irr]
theorem cmpI_law (a b:Int):(cmpI a b=0 ↔ a=b)/\(cmpI a b<0 ↔ a<b):=by
 unfold cmpI
 by_cases h1:a<b
 . simp [h1];omega
 . by_cases h2:b<a
   . simp [h1,h2];omega
   . simp [h1,h2];omega
noncomputable def ndLt (x y:Nd):Bool:=if x.op=y.op then (if x.n=y.n then F9 x.col y.col else decide (x.n<y.n)) else decide (x.op<y.op)
theorem cmpN_law (x y:Nd):(cmpN x y=0 ↔ x=y)/\(cmpN x y<0 ↔ ndLt x y=true):=by
 obtain ⟨a,b,c⟩:=x
 obtain ⟨a',b',c'⟩:=y
 obtain ⟨h1,h2⟩:=cmpI_law a a'
 obtain ⟨h3,h4⟩:=cmpI_law b b'
 obtain ⟨h5,h6⟩:=cmpS_law c c'
 simp only [cmpN,orI,ndLt,Nd.mk.injEq]
 by_cases e1:a=a'
 . rw [if_pos (h1.2 e1),if_pos e1]
   by_cases e2:b=b'
   . rw [if_pos (h3.2 e2),if_pos e2]
     by_cases e3:c=c'
     . rw [if_pos (h5.2 e3)]
       subst e3
       simp [e1,e2,strLt_irr]
     . rw [if_neg (fun hh=>e3 (h5.1 hh))]
       exact ⟨⟨fun hh=>absurd (h5.1 hh) e3,fun hh=>absurd hh.2.2 e3⟩,h6⟩
   . rw [if_neg (fun hh=>e2 (h3.1 hh)),if_neg e2,decide_eq_true_eq]
     exact ⟨⟨fun hh=>absurd (h3.1 hh) e2,fun hh=>absurd hh.2.1 e2⟩,h4⟩
 . rw [if_neg (fun hh=>e1 (h1.1 hh)),if_neg e1,decide_eq_true_eq]
   exact ⟨⟨fun hh=>absurd (h1.1 hh) e1,fun hh=>absurd hh.1 e1⟩,h2⟩
theorem ltN_cons (x y:Nd) (l m:List Nd):ltN (x::l) (y::m)=if x=y then ltN l m else ndLt x y:=by
 obtain ⟨a,b,c⟩:=x
 obtain ⟨a',b',c'⟩:=y
 simp only [ltN,ndLt,Nd.mk.injEq]
 by_cases e1:a=a'
 . by_cases e2:b=b'
   . by_cases e3:c=c'<;>simp [e1,e2,e3]
   . simp [e1,e2]
 . simp [e1]
theorem cmpL_law:∀ l m:List Nd,(cmpL l m=0 ↔ l=m)/\(cmpL l m<0 ↔ ltN l m=true)
 |[],[]=>by simp [cmpL,ltN]
 |[],y::m=>by simp [cmpL,ltN]
 |x::l,[]=>by simp [cmpL,ltN]
 |x::l,y::m=>by
  obtain ⟨h1,h2⟩:=cmpN_law x y
  obtain ⟨h3,h4⟩:=cmpL_law l m
  rw [ltN_cons]
  simp only [cmpL]
  by_cases e:x=y
  . rw [if_pos (h1.2 e),if_pos e]
    exact ⟨⟨fun hh=>by rw [e,h3.1 hh],fun hh=>h3.2 (List.cons.inj hh).2⟩,h4⟩
  . rw [if_neg (fun hh=>e (h1.1 hh)),if_neg e]
    exact ⟨⟨fun hh=>absurd (h1.1 hh) e,fun hh=>absurd (List.cons.inj hh).1 e⟩,h2⟩
theorem same_law (a b:Tr):same a b=decide (a.nodes=b.nodes):=by
 unfold same Nm.compare
 rw [decide_eq_decide]
 exact (cmpL_law _ _).1
theorem ndLt_asym (x y:Nd) (h:x≠y):ndLt x y=!ndLt y x:=by
 obtain ⟨a,b,c⟩:=x
 obtain ⟨a',b',c'⟩:=y
 simp only [ndLt]
 by_cases e1:a=a'
 . subst e1
   by_cases e2:b=b'
   . subst e2
     have e3:c≠c':=fun hh=>h (by rw [hh])
     rcases strLt_tri c c' with ⟨h1,h2,h3⟩|⟨h1,h2,h3⟩|⟨h1,h2,h3⟩
     . simp [h1,h2]
     . simp [h1,h2]
     . exact absurd h3 e3
   . have e2':¬ b'=b:=fun hh=>e2 hh.symm
     simp only [if_pos,if_neg e2,if_neg e2']
     by_cases k:b<b'
     . have:¬ b'<b:=by omega
       simp [k,this]
     . have:b'<b:=by omega
       simp [k,this]
 . have e1':¬ a'=a:=fun hh=>e1 hh.symm
   rw [if_neg e1,if_neg e1']
   by_cases k:a<a'
   . have:¬ a'<a:=by omega
     simp [k,this]
   . have:a'<a:=by omega
     simp [k,this]
theorem ltN_tri:∀ l m:List Nd,(!ltN l m&&!ltN m l)=decide (l=m)
 |[],[]=>rfl
 |[],y::m=>by simp [ltN]
 |x::l,[]=>by simp [ltN]
 |x::l,y::m=>by
  rw [ltN_cons,ltN_cons]
  by_cases e:x=y
  . subst e
    rw [if_pos rfl,if_pos rfl,ltN_tri l m]
    simp
  . have e':¬ y=x:=fun hh=>e hh.symm
    rw [if_neg e,if_neg e',ndLt_asym x y e]
    cases ndLt y x<;>simp [e]
theorem equal_law (a b:Tr):equalR a b=decide (a.nodes=b.nodes):=ltN_tri _ _
theorem equal_same (a b:Tr):equalR a b=same a b:=by rw [equal_law,same_law]
theorem less_law (a b:Tr):(Nm.compare a b<0) ↔ less a b=true:=(cmpL_law _ _).2
theorem sorted_law (n:Int) (a b:Tr):En n a b=ordered n a b:=by
 unfold En ordered
 by_cases h:less b a=true
 . rw [if_pos h,if_pos ((less_law b a).2 h)]
 . rw [if_neg h,if_neg (fun hh=>h ((less_law b a).1 hh))]
end Go.Proofs
