/- The plain law of the normal forms: of queries. -/
import Derived.Test.YtecikbfimlolcaaGreatDoorEvRhc
import Derived.Test.YtecikbfimlolcaaGreatDoorEvRgd
set_option maxRecDepth 100000
set_option linter.unusedSimpArgs false
set_option linter.unusedVariables false
namespace Go.Proofs
open Go Go.Ev Go.Nm
theorem normL_len (l:List Nd) (c:Bool):(normL l c).length<=l.length:=by
 unfold normL
 cases hb:E7 l c with
 |none=>exact Nat.le_refl _
 |some t=>
  obtain ⟨q1,q2,-⟩:=build_law hb
  simp only
  split
  . rw [B5,<- q1]
    exact normalR_size t q2
  . exact Nat.le_refl _
theorem code_law (l:List Nd):codeM l=normL l false:=by
 unfold codeM normL
 cases hb:E7 l false with
 |none=>rfl
 |some t=>simp only [Gu t (build_law hb).2.1]
theorem mat_law (l:List Nd):matM l=matN l:=by
 unfold matM matN normL
 have key:∀ m:List Nd,m=(fixed true).nodes->E7 m true=some (fixed true):=fun m hm=>by rw [hm];exact build_true true
 cases hb:E7 l true with
 |none=>
  simp only
  rw [if_neg]
  intro hh
  rw [key l hh] at hb
  cases hb
 |some t=>
  obtain ⟨q1,q2,-⟩:=build_law hb
  simp only [Gu t q2]
  by_cases h:l.length<=200
  . simp only [if_pos h,same_law,decide_eq_true_eq]
  . simp only [if_neg h]
    rw [if_neg]
    intro hh
    apply h
    rw [hh,B5,A2]
    omega
theorem query_law (q:Qr) (hv:vast q=false):normM q=normQ q/\(normM q).code.length<=3000/\(normM q).mat.length<=3000:=by
 have e:normM q=normQ q:=by unfold normM normQ;rw [code_law,mat_law]
 simp only [vast,Bool.or_eq_false_iff,decide_eq_false_iff_not] at hv
 refine ⟨e,?_,?_⟩
 . rw [e]
   have:=normL_len q.code false
   show (normL q.code false).length<=3000
   omega
 . rw [e]
   have:=normL_len q.mat true
   show (matN q.mat).length<=3000
   unfold matN
   split
   . exact Nat.zero_le _
   . omega
end Go.Proofs
