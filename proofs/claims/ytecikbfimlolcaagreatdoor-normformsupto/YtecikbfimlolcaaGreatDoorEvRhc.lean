/- The plain law of the normal forms: one normal form. -/
import Derived.Test.YtecikbfimlolcaaGreatDoorEvRhb
set_option maxRecDepth 100000
set_option linter.unusedSimpArgs false
set_option linter.unusedVariables false
namespace Go.Proofs
open Go Go.Ev Go.Nm
def RS (n:Nat) (t:Tr):Prop:=Reg t/\size t<=n
theorem rs_num (n:Int) (k:Nat) (hk:1<=k):RS k (num n):=⟨⟨Int.le_refl 1,(by decide:(1:Int)<=3)⟩,hk⟩
theorem rs_const {v:Int} {t:Tr} (h:constant v=some t) (k:Nat) (hk:2<=k):RS k t:=by
 unfold constant at h
 split at h
 . cases h
 . split at h
   . cases h
     exact ⟨⟨.inl rfl,Int.le_refl 1,(by decide:(1:Int)<=3)⟩,hk⟩
   . cases h
     exact rs_num _ _ (by omega)
theorem rs_fixed (b:Bool) (k:Nat) (hk:3<=k):RS k (fixed b):=⟨reg_fixed b,hk⟩
theorem same_size {a b:Tr} (h:same a b=true):size a=size b:=by
 rw [same_law,decide_eq_true_eq] at h
 rw [<- B5,h,B5]
theorem rs_ordered {o:Int} {a b:Tr} (ho:4<=o/\o<=16/\o≠7/\o≠8) (ha:Reg a) (hb:Reg b) (k:Nat) (hk:size a+size b+1<=k):RS k (ordered o a b):=by
 unfold ordered
 split
 . exact ⟨⟨ho,hb,ha⟩,by simp only [size];omega⟩
 . exact ⟨⟨ho,ha,hb⟩,by simp only [size];omega⟩
theorem rs_neg {a:Tr} (ha:Reg a):RS (size a+1) (neg a):=by
 unfold neg
 have hp:=size_pos a
 split
 . rename_i t ht
   split at ht
   . exact rs_const ht _ (by omega)
   . cases ht
 . split
   . rename_i o x
     obtain ⟨h1,h2⟩:=ha
     split
     . exact ⟨h2,by simp only [size];omega⟩
     . exact ⟨⟨.inl rfl,h1,h2⟩,by simp only [size];omega⟩
   . exact ⟨⟨.inl rfl,ha⟩,by simp only [size];omega⟩
theorem rs_nott {a:Tr} (ha:Reg a):RS (size a+1) (nott a):=by
 unfold nott
 split
 . rename_i h
   have:=same_size h
   rw [A2] at this
   exact rs_fixed _ _ (by omega)
 split
 . rename_i h
   have:=same_size h
   rw [A2] at this
   exact rs_fixed _ _ (by omega)
 split
 . rename_i o x
   obtain ⟨h1,h2⟩:=ha
   split
   . exact ⟨h2,by simp only [size];omega⟩
   . exact ⟨⟨.inr rfl,h1,h2⟩,by simp only [size];omega⟩
 . rename_i o x y
   obtain ⟨h1,h2,h3⟩:=ha
   split
   . exact ⟨⟨by omega,h2,h3⟩,by simp only [size];omega⟩
   split
   . exact ⟨⟨by omega,h2,h3⟩,by simp only [size];omega⟩
   split
   . exact ⟨⟨by omega,h3,h2⟩,by simp only [size];omega⟩
   split
   . exact ⟨⟨by omega,h3,h2⟩,by simp only [size];omega⟩
   . exact ⟨⟨.inr rfl,h1,h2,h3⟩,by simp only [size];omega⟩
 . exact ⟨⟨.inr rfl,ha⟩,by simp only [size];omega⟩
theorem rs_sums {o:Int} {a b:Tr} (ho:o=4\/o=5\/o=6) (ha:Reg a) (hb:Reg b):RS (size a+size b+1) (sums o a b):=by
 have h1:=size_pos a
 have h2:=size_pos b
 unfold sums
 split
 . rename_i t ht
   unfold arith at ht
   split at ht
   . exact rs_const ht _ (by omega)
   . cases ht
 . split
   . exact ⟨ha,by omega⟩
   split
   . exact rs_num _ _ (by omega)
   split
   . obtain ⟨q1,q2⟩:=rs_neg hb
     exact ⟨q1,by omega⟩
   split
   . exact ⟨⟨by omega,ha,hb⟩,Nat.le_refl _⟩
   split
   . exact ⟨hb,by omega⟩
   split
   . exact ⟨ha,by omega⟩
   split
   . exact rs_num _ _ (by omega)
   . exact rs_ordered (by omega) ha hb _ (Nat.le_refl _)
theorem rs_joins {o:Int} {a b:Tr} (ho:o=15\/o=16) (ha:Reg a) (hb:Reg b):RS (size a+size b+1) (joins o a b):=by
 have h1:=size_pos a
 have h2:=size_pos b
 unfold joins
 split
 . exact rs_fixed _ _ (by omega)
 split
 . exact ⟨hb,by omega⟩
 split
 . exact ⟨ha,by omega⟩
 . exact rs_ordered (by omega) ha hb _ (Nat.le_refl _)
theorem rs_compares1 {o:Int} {a b:Tr} (ho:9<=o/\o<=14) (ha:Reg a) (hb:Reg b) (k:Nat) (hk:size a+size b+1<=k):RS k (Dq o a b):=by
 have h1:=size_pos a
 have h2:=size_pos b
 unfold Dq
 split
 . exact rs_fixed _ _ (by omega)
 split
 . exact rs_fixed _ _ (by omega)
 split
 . exact rs_ordered (by omega) ha hb _ hk
 . exact ⟨⟨by omega,ha,hb⟩,by simp only [size];omega⟩
theorem rs_compares {o:Int} {a b:Tr} (ho:9<=o/\o<=14) (ha:Reg a) (hb:Reg b):RS (size a+size b+1) (Ea o a b):=by
 unfold Ea
 split
 . exact rs_compares1 (by omega) hb ha _ (by omega)
 split
 . exact rs_compares1 (by omega) hb ha _ (by omega)
 . exact rs_compares1 ho ha hb _ (Nat.le_refl _)
theorem rs_three {c a b:Tr} (hc:Reg c) (ha:Reg a) (hb:Reg b):RS (size c+size a+size b+1) (three c a b):=by
 unfold three
 split
 . exact ⟨ha,by omega⟩
 split
 . exact ⟨hb,by omega⟩
 . exact ⟨⟨hc,ha,hb⟩,Nat.le_refl _⟩
theorem rs_rule {o:Int} {a b:Tr} (ho:4<=o/\o<=16/\o≠7/\o≠8) (ha:Reg a) (hb:Reg b):RS (size a+size b+1) (rule o a b):=by
 unfold rule
 split
 . exact rs_sums (by assumption) ha hb
 split
 . exact rs_joins (by assumption) ha hb
 . exact rs_compares (by omega) ha hb
theorem E6:∀ t:Tr,Reg t->RS (size t) (normal t)
 |.leaf x,h=>⟨h,Nat.le_refl _⟩
 |.one o a,h=>by
  obtain ⟨q1,q2⟩:=E6 a h.2
  simp only [normal,size]
  split
  . obtain ⟨r1,r2⟩:=rs_neg q1
    exact ⟨r1,by omega⟩
  . obtain ⟨r1,r2⟩:=rs_nott q1
    exact ⟨r1,by omega⟩
 |.two o a b,h=>by
  obtain ⟨q1,q2⟩:=E6 a h.2.1
  obtain ⟨p1,p2⟩:=E6 b h.2.2
  obtain ⟨r1,r2⟩:=rs_rule h.1 q1 p1
  exact ⟨r1,by simp only [size];exact Nat.le_trans r2 (by omega)⟩
 |.three c a b,h=>by
  obtain ⟨q1,q2⟩:=E6 c h.1
  obtain ⟨q3,q4⟩:=E6 a h.2.1
  obtain ⟨q5,q6⟩:=E6 b h.2.2
  obtain ⟨r1,r2⟩:=rs_three q1 q3 q5
  exact ⟨r1,by simp only [size];exact Nat.le_trans r2 (by omega)⟩
theorem is_law {t:Tr} (hr:Reg t) (v:Int):isR t v=isV t v:=by
 obtain ⟨h1,h2⟩:=value_law hr
 unfold isR isV
 cases h:(value t).2 with
 |false=>rw [h1,h];rfl
 |true=>rw [h1,h,h2 h]
theorem const_in {v:Int} (h1:-1000000000<=v) (h2:v<=1000000000):(constant v).isSome=true:=by
 unfold constant
 rw [if_neg (by omega)]
 split<;>rfl
theorem neg_law {a:Tr} (hr:Reg a):Eu a=neg a:=by
 obtain ⟨h1,h2⟩:=value_law hr
 unfold Eu neg
 cases h:(value a).2 with
 |false=>
  rw [h1,h]
  simp only [Bool.false_eq_true,if_false]
  all_goals (cases a<;>rfl)
 |true=>
  obtain ⟨b1,b2⟩:=Gm a h
  have hs:=const_in (v:=-(value a).1) (by omega) (by omega)
  rw [h1,h,h2 h]
  simp only [if_true]
  cases hc:constant (-(value a).1) with
  |none=>rw [hc] at hs;cases hs
  |some t=>rfl
theorem not_law (a:Tr):Ck a=nott a:=by
 unfold Ck nott
 rw [equal_same,equal_same]
 all_goals (cases a<;>rfl)
theorem both_law (o:Int) (a b:Tr) (ho:o=15\/o=16):Ei o (decide (o=15)) a b=joins o a b:=by
 unfold Ei joins
 simp only [equal_same,sorted_law]
 all_goals (rcases ho with rfl|rfl<;>rfl)
theorem compare1_law {o:Int} {a b:Tr} (ha:Reg a) (hb:Reg b):Cm o a b=Dq o a b:=by
 obtain ⟨h1,h2⟩:=value_law ha
 obtain ⟨h3,h4⟩:=value_law hb
 have C2:(hd b).op=b.op:=by cases b<;>rfl
 unfold Cm Dq
 rw [equal_same,sorted_law,C2,h1,h3]
 cases ha2:(value a).2 with
 |false=>rfl
 |true=>
  cases hb2:(value b).2 with
  |false=>rfl
  |true=>rw [h2 ha2,h4 hb2]
theorem compare_law {o:Int} {a b:Tr} (ha:Reg a) (hb:Reg b):F3 o a b=Ea o a b:=by
 unfold F3 Ea
 rw [compare1_law hb ha,compare1_law hb ha,compare1_law ha hb]
theorem choice_law {c a b:Tr} (ha:Reg a) (hb:Reg b):Cy c a b=three c a b:=by
 unfold Cy three
 simp only [equal_same]
 cases h1:same c (fixed true) with
 |true=>rfl
 |false=>
  cases h2:same c (fixed false) with
  |false=>rfl
  |true=>
   cases h3:same a b with
   |false=>rfl
   |true=>
    obtain rfl:=same_eq ha hb h3
    rfl
theorem opR_law (o x y:Int):opR o x y=(if o=4 then x+y else if o=5 then x - y else x * y):=rfl
theorem arith_law {o:Int} {a b:Tr} (ho:o=4\/o=5\/o=6) (ha:Reg a) (hb:Reg b):arithR o a b=sums o a b:=by
 obtain ⟨h1,h2⟩:=value_law ha
 obtain ⟨h3,h4⟩:=value_law hb
 unfold arithR sums arith
 simp only [is_law ha,is_law hb,equal_same,sorted_law,neg_law hb,opR_law,h1,h3]
 cases ha2:(value a).2 with
 |false=>
  have ia:∀ v,isV a v=false:=fun v=>by unfold isV;rw [ha2];rfl
  simp only [ia,Bool.and_false,Bool.false_and,Bool.false_eq_true,if_false,and_false,or_false,false_or]
  rcases ho with rfl|rfl|rfl<;>simp
 |true=>
  cases hb2:(value b).2 with
  |false=>
   have ib:∀ v,isV b v=false:=fun v=>by unfold isV;rw [hb2];rfl
   simp only [ib,Bool.and_false,Bool.false_and,Bool.false_eq_true,if_false,and_false,or_false,false_or]
   rcases ho with rfl|rfl|rfl<;>simp
  |true=>
   rw [h2 ha2,h4 hb2]
   obtain ⟨a1,a2⟩:=Gm a ha2
   obtain ⟨b1,b2⟩:=Gm b hb2
   have ia:∀ v,isV a v=decide ((value a).1=v):=fun v=>by unfold isV;rw [ha2];rfl
   have ib:∀ v,isV b v=decide ((value b).1=v):=fun v=>by unfold isV;rw [hb2];rfl
   simp only [ia,ib,Bool.and_true,if_true,decide_eq_true_eq]
   generalize (value a).1=x at *
   generalize (value b).1=y at *
   cases hc:constant (if o=4 then x+y else if o=5 then x - y else x * y) with
   |some t=>simp
   |none=>
    simp only [Option.isSome_none,Bool.false_eq_true,if_false]
    have hn:∀ v,(if o=4 then x+y else if o=5 then x - y else x * y)=v->¬ (-1000000000<=v/\v<=1000000000):=by
     intro v hv hh
     have:=const_in hh.1 hh.2
     rw [hv] at hc
     rw [hc] at this
     cases this
    rcases ho with rfl|rfl|rfl
    . have hn':=hn (x+y) rfl
      have hx:¬ x=0:=by omega
      have hy:¬ y=0:=by omega
      simp [hx,hy]
    . have hn':=hn (x - y) rfl
      have hx:¬ y=0:=by omega
      simp [hx]
    . have hn':=hn (x * y) rfl
      have hx0:¬ x=0:=fun hh=>hn' (by rw [hh];simp)
      have hy0:¬ y=0:=fun hh=>hn' (by rw [hh];simp)
      have hx1:¬ x=1:=fun hh=>hn' (by rw [hh];simp;omega)
      have hy1:¬ y=1:=fun hh=>hn' (by rw [hh];simp;omega)
      simp [hx0,hy0,hx1,hy1]
theorem join_law {o:Int} {a b:Tr} (ha:Reg a) (hb:Reg b):joinR2 o a b=rule o a b:=by
 unfold joinR2 rule
 by_cases h1:o=4\/o=5\/o=6
 . rw [if_pos h1,if_pos h1,arith_law h1 ha hb]
 . rw [if_neg h1,if_neg h1]
   by_cases h2:o=15
   . subst h2
     rw [if_pos rfl,if_pos (.inl rfl)]
     exact both_law 15 a b (.inl rfl)
   . rw [if_neg h2]
     by_cases h3:o=16
     . subst h3
       rw [if_pos rfl,if_pos (.inr rfl)]
       exact both_law 16 a b (.inr rfl)
     . rw [if_neg h3,if_neg (by omega),compare_law ha hb]
theorem Gu:∀ t:Tr,Reg t->Au t=normal t
 |.leaf x,h=>rfl
 |.one o a,h=>by
  simp only [Au,normal,Gu a h.2]
  rw [neg_law (E6 a h.2).1,not_law]
 |.two o a b,h=>by
  simp only [Au,normal,Gu a h.2.1,Gu b h.2.2]
  exact join_law (E6 a h.2.1).1 (E6 b h.2.2).1
 |.three c a b,h=>by
  simp only [Au,normal,Gu c h.1,Gu a h.2.1,Gu b h.2.2]
  exact choice_law (E6 a h.2.1).1 (E6 b h.2.2).1
theorem normalR_size (t:Tr) (h:Reg t):size (Au t)<=size t:=by rw [Gu t h];exact (E6 t h).2
end Go.Proofs
