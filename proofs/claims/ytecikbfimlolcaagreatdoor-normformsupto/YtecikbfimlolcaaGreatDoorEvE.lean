/- Regions whose order is open: what must run before what, and what may not. The run in the order of the text, and what the look behind it says. What a run in another order sees. One operation of a run in another order. A region whose order is open. A region whose order is open, in every order. Code. Loops over functions. The evaluator is right. -/
import Derived.Test.YtecikbfimlolcaaGreatDoorEvD
set_option linter.unusedSimpArgs false
set_option linter.unusedVariables false
set_option linter.unusedSectionVars false
namespace Go.Ev
variable [Lim]
noncomputable def accL:List Oper->List Nat->List Nat
 |[],acc=>acc
 |o::os,acc=>accL os (acc++[Er acc o.after.toList])
theorem accL_take:∀ (l:List Oper) (acc:List Nat),(accL l acc).take acc.length=acc/\(accL l acc).length=acc.length+l.length:=by
 intro l
 induction l with
 |nil=>intro acc;exact ⟨by simp [accL],by simp [accL]⟩
 |cons o l ih=>
  intro acc
  obtain ⟨h1,h2⟩:=ih (acc++[Er acc o.after.toList])
  refine ⟨?_,?_⟩
  . show (accL l (acc++[Er acc o.after.toList])).take acc.length=acc
    have:=congrArg (List.take acc.length) h1
    rw [List.take_take] at this
    have e:min acc.length (acc++[Er acc o.after.toList]).length=acc.length:=by simp
    rw [e] at this
    rw [this]
    simp
  . show (accL l (acc++[Er acc o.after.toList])).length=_
    rw [h2];simp;omega
theorem mget_take {l:List Nat} {i j:Nat} (hij:i<j):mget (l.take j) i=mget l i:=by
 unfold mget
 rw [List.getElem?_take,if_pos hij]
theorem accL_get:∀ (l:List Oper) (acc:List Nat) (k:Nat) (o:Oper),l[k]?=some o->mget (accL l acc) (acc.length+k)=Er ((accL l acc).take (acc.length+k)) o.after.toList:=by
 intro l
 induction l with
 |nil=>intro acc k o hk;simp at hk
 |cons o l ih=>
  intro acc k x hk
  cases k with
  |zero=>
   simp at hk
   subst hk
   have h1:=(accL_take l (acc++[Er acc o.after.toList])).1
   show mget (accL l (acc++[Er acc o.after.toList])) (acc.length+0)=Er ((accL l (acc++[Er acc o.after.toList])).take (acc.length+0)) o.after.toList
   have h2:=(accL_take (o::l) acc).1
   have h3:(accL l (acc++[Er acc o.after.toList])).take acc.length=acc:=h2
   rw [Nat.add_zero,h3]
   have:=mget_take (l:=accL l (acc++[Er acc o.after.toList])) (i:=acc.length) (j:=(acc++[Er acc o.after.toList]).length) (by simp)
   rw [<- this,h1]
   simp [mget]
  |succ k=>
   have:=ih (acc++[Er acc o.after.toList]) k x (by simpa using hk)
   have e:(acc++[Er acc o.after.toList]).length+k=acc.length+(k+1):=by simp;omega
   rw [e] at this
   exact this
noncomputable def PR (ops:Array Oper):List Nat:=accL ops.toList []
def Bef (ops:Array Oper) (j i:Nat):Prop:=(mget (PR ops) i).testBit j=true
theorem preds_bit {acc:List Nat} {j:Nat}:∀ (es:List Edge),(Er acc es).testBit j=true->∃ e∈es,Region.binds .any e=true/\(e.on=j\/(mget acc e.on).testBit j=true):=by
 intro es
 induction es with
 |nil=>intro h;simp [Er] at h
 |cons e es ih=>
  intro h
  unfold Er at h
  cases hb:Region.binds .any e with
  |false=>
   rw [hb] at h
   obtain ⟨e',h1,h2⟩:=ih h
   exact ⟨e',by simp [h1],h2⟩
  |true=>
   rw [hb] at h
   have h':((bitOf e.on ||| mget acc e.on) ||| Er acc es).testBit j=true:=h
   rw [Nat.testBit_or,Nat.testBit_or,Bool.or_eq_true,Bool.or_eq_true] at h'
   rcases h' with (h'|h')|h'
   . refine ⟨e,by simp,hb,.inl ?_⟩
     have:(2 ^ e.on).testBit j=true:=h'
     rw [Nat.testBit_two_pow] at this
     simpa using this
   . exact ⟨e,by simp,hb,.inr h'⟩
   . obtain ⟨e',h1,h2⟩:=ih h'
     exact ⟨e',by simp [h1],h2⟩
theorem Bef.edge {ops:Array Oper} (hb:backward ops) {i j:Nat} {o:Oper} (ho:ops[i]?=some o) (h:Bef ops j i):∃ e∈o.after.toList,Region.binds .any e=true/\e.on<i/\(e.on=j\/Bef ops j e.on):=by
 have h1:=accL_get ops.toList [] i o (by simpa using ho)
 simp only [List.length_nil,Nat.zero_add] at h1
 unfold Bef PR at h
 rw [h1] at h
 obtain ⟨e,q1,q2,q3⟩:=preds_bit _ h
 have hlt:=hb i o ho e q1 q2
 refine ⟨e,q1,q2,hlt,?_⟩
 rcases q3 with q3|q3
 . exact .inl q3
 . rw [mget_take hlt] at q3
   exact .inr q3
theorem Bef.lt {ops:Array Oper} (hb:backward ops):∀ {i j:Nat},i<ops.size->Bef ops j i->j<i:=by
 intro i
 induction i using Nat.strongRecOn with
 |_ i ih=>
  intro j hi h
  obtain ⟨e,q1,q2,q3,q4⟩:=h.edge hb (Array.getElem?_eq_getElem hi)
  rcases q4 with q4|q4
  . omega
  . have:=ih e.on q3 (by omega) q4
    omega
def EdgeClosed (ops:Array Oper) (D:Nat->Bool):Prop:=∀ (x:Nat) (o:Oper),ops[x]?=some o->D x=true->∀ e∈o.after.toList,Region.binds .any e=true->D e.on=true
theorem Bef.done {ops:Array Oper} (hb:backward ops) {D:Nat->Bool} (hD:EdgeClosed ops D):∀ {i:Nat} {o:Oper},ops[i]?=some o->(∀ e∈o.after.toList,Region.binds .any e=true->D e.on=true)->∀ j,Bef ops j i->D j=true:=by
 intro i
 induction i using Nat.strongRecOn with
 |_ i ih=>
  intro o ho he j h
  obtain ⟨e,q1,q2,q3,q4⟩:=h.edge hb ho
  rcases q4 with rfl|q4
  . exact he e q1 q2
  . have hi:e.on<ops.size:=by
     have:=(Array.getElem?_eq_some_iff.1 ho).1
     omega
    exact ih e.on q3 (Array.getElem?_eq_getElem hi) (hD e.on _ (Array.getElem?_eq_getElem hi) (he e q1 q2)) j q4
theorem dops_get:∀ (l:List Oper) (acc:List Nat) (k:Nat) (d:DO),(dops l acc.length acc)[k]?=some d->l[k]?=some d.o/\d.bit=bitOf (acc.length+k)/\d.pr=mget (accL l acc) (acc.length+k):=by
 intro l
 induction l with
 |nil=>intro acc k d hk;simp [dops] at hk
 |cons o l ih=>
  intro acc k d hk
  cases k with
  |zero=>
   simp only [dops,List.getElem?_cons_zero,Option.some.injEq] at hk
   subst hk
   refine ⟨rfl,rfl,?_⟩
   have:=accL_get (o::l) acc 0 o rfl
   rw [this,Nat.add_zero,(accL_take (o::l) acc).1]
  |succ k=>
   simp only [dops,List.getElem?_cons_succ] at hk
   have e:Nat.succ acc.length=(acc++[Er acc o.after.toList]).length:=by simp
   rw [e] at hk
   obtain ⟨h1,h2,h3⟩:=ih _ k d hk
   have e2:(acc++[Er acc o.after.toList]).length+k=acc.length+(k+1):=by simp;omega
   rw [e2] at h2 h3
   exact ⟨by simpa using h1,h2,h3⟩
theorem dops_len:∀ (l:List Oper) (i:Nat) (acc:List Nat),(dops l i acc).length=l.length:=by
 intro l
 induction l with
 |nil=>intro i acc;rfl
 |cons o l ih=>intro i acc;simp [dops,ih]
def Apart (pr:Nat) (o:Oper) (ops:Array Oper) (ob:OB):Prop:=
 Nat.land pr ob.bit≠0\/(Nat.land ob.dst (Nat.lor (dstBits o) (readBits ops o))=0/\Nat.land (dstBits o) ob.rd=0)
theorem apart1_all {pr dst rd:Nat} {df:Bool}:∀ (obs:List OB),apart1 pr dst rd df obs=true->∀ ob∈obs,Nat.land pr ob.bit≠0\/(Nat.land ob.dst (Nat.lor dst rd)=0/\Nat.land dst ob.rd=0):=by
 intro obs
 induction obs with
 |nil=>intro _ ob hob;cases hob
 |cons x obs ih=>
  intro h ob hob
  unfold apart1 at h
  cases hc:(Bool.rec (motive:=fun _=>Bool) true (Bool.rec (motive:=fun _=>Bool) false (bnot (Bool.rec (motive:=fun _=>Bool) df true x.df)) (zeroN (Nat.lor (Nat.land x.dst (Nat.lor dst rd)) (Nat.land dst x.rd)))) (zeroN (Nat.land pr x.bit)):Bool) with
  |false=>rw [hc] at h;cases h
  |true=>
   rw [hc] at h
   cases hob with
   |head=>
    cases hz:zeroN (Nat.land pr x.bit) with
    |false=>exact .inl (beq_neN hz)
    |true=>
     rw [hz] at hc
     cases hz2:zeroN (Nat.lor (Nat.land x.dst (Nat.lor dst rd)) (Nat.land dst x.rd)) with
     |false=>rw [hz2] at hc;cases hc
     |true=>
      have h0:(x.dst &&& (dst ||| rd)) ||| (dst &&& x.rd)=0:=Cf hz2
      refine .inr ?_
      have:=Nat.or_eq_zero_iff.1 h0
      exact this
   |tail _ hm=>exact ih h ob hm
theorem regGo_get {ops:Array Oper}:∀ (l:List Oper) (acc:List Nat) (obs:List OB),regGo ops l acc.length acc obs=true->∀ (k:Nat) (o:Oper),l[k]?=some o ->
 (∀ e∈o.after.toList,Region.binds .any e=true->e.on<acc.length+k)/\(∀ ob∈obs,Apart (mget (accL l acc) (acc.length+k)) o ops ob) /\
  ∀ k' o',k'<k->l[k']?=some o'->Apart (mget (accL l acc) (acc.length+k)) o ops ⟨bitOf (acc.length+k'),dstBits o',readBits ops o',isDf o'.op⟩:=by
 intro l
 induction l with
 |nil=>intro acc obs _ k o hk;simp at hk
 |cons x l ih=>
  intro acc obs h k o hk
  unfold regGo at h
  cases hc:(Bool.rec (motive:=fun _=>Bool) false (apart1 (Er acc x.after.toList) (dstBits x) (readBits ops x) (isDf x.op) obs) (x.after.toList.all fun e=>bnot (Region.binds .any e)||Nat.blt e.on acc.length):Bool) with
  |false=>rw [hc] at h;cases h
  |true=>
   rw [hc] at h
   have h':regGo ops l (Nat.succ acc.length) (acc++[Er acc x.after.toList]) (⟨bitOf acc.length,dstBits x,readBits ops x,isDf x.op⟩::obs)=true:=h
   have e:Nat.succ acc.length=(acc++[Er acc x.after.toList]).length:=by simp
   rw [e] at h'
   cases ha:(x.after.toList.all fun e=>bnot (Region.binds .any e)||Nat.blt e.on acc.length) with
   |false=>rw [ha] at hc;cases hc
   |true=>
    rw [ha] at hc
    have hap:apart1 (Er acc x.after.toList) (dstBits x) (readBits ops x) (isDf x.op) obs=true:=hc
    cases k with
    |zero=>
     simp at hk
     subst hk
     have hpr:mget (accL (x::l) acc) (acc.length+0)=Er acc x.after.toList:=by
      rw [accL_get (x::l) acc 0 x rfl,Nat.add_zero,(accL_take (x::l) acc).1]
     refine ⟨?_,?_,?_⟩
     . intro e he hbe
       have:=List.all_eq_true.1 ha e he
       rw [bnot_eq,hbe] at this
       exact Ee (by simpa using this)
     . intro ob hob
       rw [hpr]
       exact apart1_all obs hap ob hob
     . intro k' o' hk';omega
    |succ k=>
     obtain ⟨q1,q2,q3⟩:=ih _ _ h' k o (by simpa using hk)
     have e2:(acc++[Er acc x.after.toList]).length+k=acc.length+(k+1):=by simp;omega
     rw [e2] at q1 q2 q3
     refine ⟨q1,fun ob hob=>q2 ob (by simp [hob]),?_⟩
     intro k' o' hk' ho'
     cases k' with
     |zero=>
      simp at ho'
      subst ho'
      exact q2 _ (by simp)
     |succ k'=>
      have:=q3 k' o' (by omega) (by simpa using ho')
      have e3:(acc++[Er acc x.after.toList]).length+k'=acc.length+(k'+1):=by simp;omega
      rw [e3] at this
      exact this
theorem land_bit {x i:Nat}:Nat.land x (bitOf i)≠0->x.testBit i=true:=by
 intro h
 cases hb:x.testBit i with
 |true=>rfl
 |false=>
  refine absurd ?_ h
  show x &&& 2 ^ i=0
  apply Nat.eq_of_testBit_eq
  intro j
  rw [Nat.testBit_and,Nat.testBit_two_pow,Nat.zero_testBit]
  by_cases hj:i=j
  . subst hj;rw [hb];rfl
  . simp [hj]
theorem regOk_backward {ops:Array Oper} (h:regOk ops=true):backward ops:=by
 intro i o ho e he hb
 have:=(regGo_get ops.toList [] [] h i o (by simpa using ho)).1 e he hb
 simpa using this
def readsSlot (ops:Array Oper) (o:Oper) (t:Nat):Prop:=(.tmp t)∈o.op.operands.toList\/∃ w,guardOf ops o=.on t w
theorem tmpBits_get {l:List Operand} {t:Nat} (h:.tmp t∈l):(tmpBits l).testBit t=true:=by
 induction l with
 |nil=>cases h
 |cons x l ih=>
  show ((Operand.rec (motive:=fun _=>Nat) bitOf (fun _=>0) (fun _=>0) (fun _=>0) x:Nat) ||| tmpBits l).testBit t=true
  rw [Nat.testBit_or,Bool.or_eq_true]
  cases h with
  |head=>exact .inl (by show (2 ^ t).testBit t=true;rw [Nat.testBit_two_pow];simp)
  |tail _ hm=>exact .inr (ih hm)
theorem readBits_get {ops:Array Oper} {o:Oper} {t:Nat} (h:readsSlot ops o t):(readBits ops o).testBit t=true:=by
 show (tmpBits o.op.operands.toList ||| (match guardOf ops o with|.on t _=>bitOf t|_=>0)).testBit t=true
 rw [Nat.testBit_or,Bool.or_eq_true]
 rcases h with h|⟨w,h⟩
 . exact .inl (tmpBits_get h)
 . rw [h]
   exact .inr (by show (2 ^ t).testBit t=true;rw [Nat.testBit_two_pow];simp)
theorem dstBits_get {o:Oper} {t:Nat} (h:o.dst=some t):(dstBits o).testBit t=true:=by
 unfold dstBits
 rw [h]
 show (2 ^ t).testBit t=true
 rw [Nat.testBit_two_pow];simp
theorem land_zero {x y t:Nat} (h:Nat.land x y=0) (hx:x.testBit t=true) (hy:y.testBit t=true):False:=by
 have:(x &&& y).testBit t=true:=by rw [Nat.testBit_and,hx,hy];rfl
 rw [show x &&& y=0 from h] at this
 simp at this
theorem regOk_slots {ops:Array Oper} (h:regOk ops=true) {i j:Nat} {o p:Oper} {t:Nat} (ho:ops[i]?=some o) (hp:ops[j]?=some p) (hij:i≠j) (hd:o.dst=some t) (hr:p.dst=some t\/readsSlot ops p t):
 Bef ops i j\/Bef ops j i:=by
 rcases Nat.lt_or_ge i j with hlt|hge
 . have:=(regGo_get ops.toList [] [] h j p (by simpa using hp)).2.2 i o hlt (by simpa using ho)
   simp only [List.length_nil,Nat.zero_add] at this
   rcases this with h1|⟨h1,h2⟩
   . exact .inl (land_bit h1)
   . exfalso
     refine land_zero h1 (dstBits_get hd) (t:=t) ?_
     show (dstBits p ||| readBits ops p).testBit t=true
     rw [Nat.testBit_or,Bool.or_eq_true]
     rcases hr with hr|hr
     . exact .inl (dstBits_get hr)
     . exact .inr (readBits_get hr)
 . have:=(regGo_get ops.toList [] [] h i o (by simpa using ho)).2.2 j p (by omega) (by simpa using hp)
   simp only [List.length_nil,Nat.zero_add] at this
   rcases this with h1|⟨h1,h2⟩
   . exact .inr (land_bit h1)
   . exfalso
     rcases hr with hr|hr
     . refine land_zero h1 (dstBits_get hr) (t:=t) ?_
       show (dstBits o ||| readBits ops o).testBit t=true
       rw [Nat.testBit_or,Bool.or_eq_true]
       exact .inl (dstBits_get hd)
     . exact land_zero h2 (dstBits_get hd) (readBits_get hr)
end Go.Ev
namespace Go.Ev
variable [Lim]
variable {P:Program} {G:Nat} {σ σ':Dj} {h h':H} {w w':World} {v:AV} {nt:Nat} {f f':L2} {a:Act} {ctx:Ae} {b:FB} {cs:List Frame}
theorem memN_spec (x:Nat) (l:List Nat):memN x l=true ↔ x∈l:=by
 induction l with
 |nil=>exact ⟨fun hh=>(by cases hh),fun hh=>(by cases hh)⟩
 |cons y l ih=>
  show (Bool.rec (motive:=fun _=>Bool) (memN x l) true (Nat.beq y x):Bool)=true ↔ _
  cases hb:Nat.beq y x with
  |true=>have:=Cf hb;subst this;simp
  |false=>
   have hne:=beq_neN hb
   show memN x l=true ↔ _
   rw [ih,List.mem_cons]
   exact ⟨.inr,fun hh=>hh.resolve_left (fun h2=>hne h2.symm)⟩
theorem memN_false {x:Nat} {l:List Nat} (hh:memN x l=false):x ∉ l:=by
 intro hm
 rw [(memN_spec x l).2 hm] at hh
 cases hh
theorem wrote_spec (n x:Nat) (l:List Nat):x∈wrote n l ↔ x∈l/\x<n:=by
 induction l with
 |nil=>exact ⟨fun hh=>(by cases hh),fun hh=>(by cases hh.1)⟩
 |cons y l ih=>
  show x∈(Bool.rec (motive:=fun _=>List Nat) (wrote n l) (y::wrote n l) (Nat.blt y n):List Nat) ↔ _
  cases hb:Nat.blt y n with
  |true=>
   have:=Ee hb
   show x∈y::wrote n l ↔ _
   rw [List.mem_cons,List.mem_cons,ih]
   constructor
   . rintro (rfl|⟨h1,h2⟩)
     . exact ⟨.inl rfl,this⟩
     . exact ⟨.inr h1,h2⟩
   . rintro ⟨rfl|h1,h2⟩
     . exact .inl rfl
     . exact .inr ⟨h1,h2⟩
  |false=>
   have:=blt_ge hb
   show x∈wrote n l ↔ _
   rw [List.mem_cons,ih]
   constructor
   . rintro ⟨h1,h2⟩;exact ⟨.inr h1,h2⟩
   . rintro ⟨rfl|h1,h2⟩
     . omega
     . exact ⟨h1,h2⟩
theorem outside_spec {l:List Nat} {lo hi:Nat} (hh:outside l lo hi=true):∀ x∈l,¬ (lo<=x/\x<hi):=by
 induction l with
 |nil=>intro x hx;cases hx
 |cons y l ih=>
  intro x hx hc
  have h1:(Bool.rec (motive:=fun _=>Bool) (outside l lo hi) false (Bool.rec (motive:=fun _=>Bool) false (Nat.blt y hi) (Nat.ble lo y):Bool):Bool)=true:=hh
  cases hq:(Bool.rec (motive:=fun _=>Bool) false (Nat.blt y hi) (Nat.ble lo y):Bool) with
  |true=>rw [hq] at h1;cases h1
  |false=>
   rw [hq] at h1
   cases hx with
   |head=>
    have e1:Nat.ble lo y=true:=by simpa using hc.1
    have e2:Nat.blt y hi=true:=by rw [Nat.blt_eq];exact hc.2
    rw [e1] at hq
    have hq':Nat.blt y hi=false:=hq
    rw [e2] at hq'
    cases hq'
   |tail _ hm=>exact ih h1 x hm hc
theorem classOf_eq (o:AO):classOf o=D9 o:=by
 cases o with
 |cells l t k=>cases k<;>rfl
 |_=>rfl
theorem clear_blk {x:Nat} {l:List Nat} {h:H} (hh:clear (.blk x) l h=true):x ∉ l/\∀ k,D9 (h.m.get x)=some k->k ∉ l:=by
 have h1:(Bool.rec (motive:=fun _=>Bool) (clearB l (classOf (h.m.get x))) false (memN x l):Bool)=true:=hh
 cases hm:memN x l with
 |true=>rw [hm] at h1;cases h1
 |false=>
  rw [hm] at h1
  refine ⟨memN_false hm,fun k hk=>?_⟩
  have h2:clearB l (classOf (h.m.get x))=true:=h1
  rw [classOf_eq,hk] at h2
  have h3:bnot (memN k l)=true:=h2
  rw [bnot_eq] at h3
  exact memN_false (by simpa using h3)
theorem nilN_spec {l:List Nat} (hh:l≠[]):nilN l=false:=by
 cases l with
 |nil=>exact absurd rfl hh
 |cons x l=>rfl
theorem calmAll_get {e:EF}:∀ {l:List EF},Fm e l=true->∀ x∈l,calm1 e x=true:=by
 intro l
 induction l with
 |nil=>intro _ x hx;cases hx
 |cons y l ih=>
  intro hh x hx
  have h1:(Bool.rec (motive:=fun _=>Bool) false (Fm e l) (calm1 e y):Bool)=true:=hh
  cases hc:calm1 e y with
  |false=>rw [hc] at h1;cases h1
  |true=>
   rw [hc] at h1
   cases hx with
   |head=>exact hc
   |tail _ hm=>exact ih h1 x hm
theorem effGo_get {all:List EF}:∀ {l:List EF},effGo all l=true->∀ e∈l,e.w≠[]->∀ x∈all,calm1 e x=true:=by
 intro l
 induction l with
 |nil=>intro _ x hx;cases hx
 |cons y l ih=>
  intro hh e he hne x hx
  have h1:(Bool.rec (motive:=fun _=>Bool) (Bool.rec (motive:=fun _=>Bool) false (effGo all l) (Fm y all)) (effGo all l) (nilN y.w):Bool)=true:=hh
  cases hn:nilN y.w with
  |true=>
   rw [hn] at h1
   cases he with
   |head=>rw [nilN_spec hne] at hn;cases hn
   |tail _ hm=>exact ih h1 e hm hne x hx
  |false=>
   rw [hn] at h1
   have h2:(Bool.rec (motive:=fun _=>Bool) false (effGo all l) (Fm y all):Bool)=true:=h1
   cases hc:Fm y all with
   |false=>rw [hc] at h2;cases h2
   |true=>
    rw [hc] at h2
    cases he with
    |head=>exact calmAll_get hc x hx
    |tail _ hm=>exact ih h2 e hm hne x hx
theorem calm1_get {e x:EF} (hh:calm1 e x=true):Nat.land e.pr x.bit≠0\/Nat.land x.pr e.bit≠0\/e.bit=x.bit\/(clear x.r e.w x.h=true/\outside e.w x.h.nx x.n1=true):=by
 unfold calm1 at hh
 cases hz:zeroN (Nat.lor (Nat.land e.pr x.bit) (Nat.land x.pr e.bit)) with
 |false=>
  have hne:(e.pr &&& x.bit) ||| (x.pr &&& e.bit)≠0:=beq_neN hz
  by_cases h1:e.pr &&& x.bit=0
  . refine .inr (.inl fun h2=>hne ?_)
    rw [h1,show x.pr &&& e.bit=0 from h2];rfl
  . exact .inl h1
 |true=>
  rw [hz] at hh
  cases hb:Nat.beq e.bit x.bit with
  |true=>exact .inr (.inr (.inl (Cf hb)))
  |false=>
   rw [hb] at hh
   cases hd:disj e.w x.w with
   |false=>rw [hd] at hh;cases hh
   |true=>
    rw [hd] at hh
    cases hc:clear x.r e.w x.h with
    |false=>rw [hc] at hh;cases hh
    |true=>rw [hc] at hh;exact .inr (.inr (.inr ⟨rfl,hh⟩))
theorem drOps_trace {ops:Array Oper} {lg:List Nat}:∀ (l:List DO) (efs:List EF) (f:L2) (h:H) (f':L2) (h':H),drOps P ctx ops lg l efs f h=.Ar f' h' ->
 ∃ (F:Nat->L2) (Hs:Nat->H) (es:List EF),F 0=f/\Hs 0=h/\(∀ i d,l[i]?=some d->Fe ops d.o P ctx (F i) (Ab (Hs i))=.Ar (F (i+1)) (Hs (i+1)) /\
  es[i]?=some ⟨d.bit,d.pr,wrote (Hs i).nx (Hs (i+1)).lg,F2 d.o.op (F i),Hs i,(Hs (i+1)).nx⟩)/\es.length=l.length/\effOk (es.reverse++efs)=true/\f'=F l.length /\
   h'=Ap (Ec (es.reverse++efs) lg) (Hs l.length):=by
 intro l
 induction l with
 |nil=>
  intro efs f h f' h' he
  have h1:(Bool.rec (motive:=fun _=>RC) (.bad 183) (.Ar f (Ap (Ec efs lg) h)) (effOk efs):RC)=.Ar f' h':=he
  cases hc:effOk efs with
  |false=>rw [hc] at h1;cases h1
  |true=>
   rw [hc] at h1
   cases h1
   exact ⟨fun _=>f,fun _=>h,[],rfl,rfl,fun i d hi=>by simp at hi,rfl,hc,rfl,rfl⟩
 |cons d l ih=>
  intro efs f h f' h' he
  have h1:(RC.rec (motive:=fun _=>RC) RC.bad (fun f' h'=>drOps P ctx ops lg l (⟨d.bit,d.pr,wrote h.nx h'.lg,F2 d.o.op f,h,h'.nx⟩::efs) f' h') (fun _ _ _=>.bad 184) (fun _ _=>.bad 184) (Fe ops d.o P ctx f (Ab h)):RC)=.Ar f' h':=he
  cases ho:Fe ops d.o P ctx f (Ab h) with
  |bad n=>rw [ho] at h1;cases h1
  |ext id f1 h1'=>rw [ho] at h1;cases h1
  |ret f1 h1'=>rw [ho] at h1;cases h1
  |Ar f1 h1'=>
   rw [ho] at h1
   obtain ⟨F,Hs,es,q1,q2,q3,q4,q5,q6,q7⟩:=ih _ f1 h1' f' h' h1
   refine ⟨fun i=>Nat.casesOn i f F,fun i=>Nat.casesOn i h Hs,⟨d.bit,d.pr,wrote h.nx h1'.lg,F2 d.o.op f,h,h1'.nx⟩::es,rfl,rfl,?_,by simp [q4],?_,q6,?_⟩
   . intro i d' hi
     cases i with
     |zero=>
      simp at hi
      subst hi
      dsimp only
      rw [q1,q2]
      exact ⟨ho,rfl⟩
     |succ i=>
      have:=q3 i d' (by simpa using hi)
      exact ⟨this.1,by simpa using this.2⟩
   . rw [List.reverse_cons,List.append_assoc]
     exact q5
   . rw [List.reverse_cons,List.append_assoc]
     exact q7
structure Dr (P:Program) (G:Nat) (ctx:Ae) (ops:Array Oper) (nt:Nat) (F:Nat->L2) (Hs:Nat->H):Prop where
 reg:regOk ops=true
 run:∀ (i:Nat) (o:Oper),ops[i]?=some o->Fe ops o P ctx (F i) (Ab (Hs i))=.Ar (F (i+1)) (Hs (i+1))
 calm:∀ (i j:Nat) (p:Oper),i<ops.size->ops[j]?=some p->i≠j->(∃ x,x∈(Hs (i+1)).lg/\x<(Hs i).nx)->Bef ops i j\/Bef ops j i \/
  (clear (F2 p.op (F j)) (wrote (Hs i).nx (Hs (i+1)).lg) (Hs j)=true/\outside (wrote (Hs i).nx (Hs (i+1)).lg) (Hs j).nx (Hs (j+1)).nx=true)
 step:∀ i,i<ops.size->AStep (Ab (Hs i)) (Hs (i+1)) (Hs (i+1)).lg
 inv:∀ i,i<=ops.size->AInv (Hs i)
 nodf:∀ o∈ops.toList,isDefer o.op=none
 all:∀ o∈ops.toList,F7 G nt o=true
 nt:nt<250
 top:(Hs ops.size).nx<=Bh
theorem reverse_mem {es:List EF} {i:Nat} {x:EF} (hh:es[i]?=some x):x∈es.reverse++[]:=by
 simp only [List.append_nil,List.mem_reverse]
 exact List.mem_of_getElem? hh
theorem AInv.Ab (hi:AInv h):AInv (Ab h):=⟨hi.top,hi.bound,hi.cls,hi.Fz,hi.stamp,hi.len⟩
theorem AInv.Ap (hi:AInv h) (lg:List Nat):AInv (Ap lg h):=⟨hi.top,hi.bound,hi.cls,hi.Fz,hi.stamp,hi.len⟩
theorem St.Ab (hs:St G σ nt f a h w):St G σ nt f a (Ab h) w:=⟨hs.fr,hs.gl,hs.ai.Ab,hs.so,hs.ma⟩
theorem Dr.of_run (hc:A7 P G ctx) {ops:Array Oper} (hreg:regOk ops=true) (hall:∀ x∈ops.toList,F7 G nt x=true) (hnt:nt<250) (he:F5 P ctx ops f h=.Ar f' h')
 (hs:St G σ nt f a h w) (hb:RBk b σ f) (hl:h'.nx<=Bh) (hf:Fk σ h h'):
 ∃ F Hs es,Dr P G ctx ops nt F Hs/\F 0=f/\Hs 0=h/\f'=F ops.size/\h'=Ap (Ec es h.lg) (Hs ops.size) /\
  (es.reverse).length=ops.size/\∀ i,i<ops.size->∃ x,es.reverse[i]?=some x/\x.w=wrote (Hs i).nx (Hs (i+1)).lg:=by
 unfold F5 at he
 cases hd:noDf ops with
 |false=>rw [hd] at he;cases he
 |true=>
  rw [hd] at he
  obtain ⟨F,Hs,es,q1,q2,q3,q4,q5,q6,q7⟩:=drOps_trace _ _ f h f' h' he
  have hlen:(dops ops.toList 0 []).length=ops.size:=by rw [dops_len];simp
  have hdo:∀ (i:Nat) (o:Oper),ops[i]?=some o->∃ d,(dops ops.toList 0 [])[i]?=some d/\d.o=o/\d.bit=bitOf i/\d.pr=mget (PR ops) i:=by
   intro i o ho
   have hi:i<(dops ops.toList 0 []).length:=by rw [hlen];exact (Array.getElem?_eq_some_iff.1 ho).1
   obtain ⟨h1,h2,h3⟩:=dops_get ops.toList [] i _ (List.getElem?_eq_getElem hi)
   refine ⟨_,List.getElem?_eq_getElem hi,?_,by simpa using h2,by simpa [PR] using h3⟩
   have:ops.toList[i]?=some o:=by simpa using ho
   rw [this] at h1
   cases h1
   rfl
  have hrun:∀ (i:Nat) (o:Oper),ops[i]?=some o->Fe ops o P ctx (F i) (Ab (Hs i))=.Ar (F (i+1)) (Hs (i+1)):=by
   intro i o ho
   obtain ⟨d,h1,rfl,h2,h3⟩:=hdo i o ho
   exact (q3 i d h1).1
  have hnx1:∀ i,i<ops.size->(Hs i).nx<=(Hs (i+1)).nx:=by
   intro i hi
   have:=mono_oper1 (P:=P) (f:=F i) (h:=Ab (Hs i)) hc.mono ops ops[i]
   exact this _ _ (.inl (hrun i _ (Array.getElem?_eq_getElem hi)))
  have hnx:∀ j,j<=ops.size->(Hs j).nx<=(Hs ops.size).nx:=by
   intro j hj
   have key:∀ m,j+m<=ops.size->(Hs j).nx<=(Hs (j+m)).nx:=by
    intro m
    induction m with
    |zero=>intro _;exact Nat.le_refl _
    |succ m ih=>
     intro hm
     have:=ih (by omega)
     have h2:=hnx1 (j+m) (by omega)
     exact Nat.le_trans this h2
   have:=key (ops.size - j) (by omega)
   rwa [show j+(ops.size - j)=ops.size by omega] at this
  rw [hlen] at q6 q7
  have htop:(Hs ops.size).nx<=Bh:=by rw [q7] at hl;exact hl
  have hf0:Fk σ (Hs 0) (Hs ops.size):=by rw [q2];rw [q7] at hf;exact hf
  have ghost:∀ i,i<=ops.size->(∃ σ a w,St G σ nt (F i) a (Hs i) w/\RBk b σ (F i)/\Fk σ (Hs i) (Hs ops.size))/\∀ j,j<i->AStep (Ab (Hs j)) (Hs (j+1)) (Hs (j+1)).lg:=by
   intro i
   induction i with
   |zero=>
    intro _
    refine ⟨⟨σ,a,w,?_,?_,hf0⟩,fun j hj=>absurd hj (by omega)⟩
    . rw [q1,q2];exact hs
    . rw [q1];exact hb
   |succ i ih=>
    intro hi
    obtain ⟨⟨σ1,a1,w1,g1,g2,g3⟩,g4⟩:=ih (by omega)
    have ho:ops[i]?=some ops[i]:=Array.getElem?_eq_getElem hi
    have hmem:ops[i]∈ops.toList:=by simp
    obtain ⟨f2,h2,e2,s2⟩:=oper_sound hc hall hnt (hall _ hmem) (hrun i _ ho) (fun n hn=>by cases hn) (fun _ _ _ hn=>by cases hn) g1.Ab g2
    cases e2
    have hle:=hnx (i+1) hi
    obtain ⟨σ2,a2,w2,t1,t2,t3,_⟩:=s2 (by omega) (g3.left hle)
    refine ⟨⟨σ2,a2,w2,t1,t2,Fk.right (h:=Ab (Hs i)) g3 t3⟩,fun j hj=>?_⟩
    by_cases hji:j=i
    . subst hji
      obtain ⟨nw,a1,_,_⟩:=t3
      have:(Hs (j+1)).lg=nw:=by rw [a1.lg];simp [Ab]
      rw [this]
      exact a1
    . exact g4 j (by omega)
  have hfx:∀ (i:Nat) (o:Oper),ops[i]?=some o->es[i]?=some ⟨bitOf i,mget (PR ops) i,wrote (Hs i).nx (Hs (i+1)).lg,F2 o.op (F i),Hs i,(Hs (i+1)).nx⟩:=by
   intro i o ho
   obtain ⟨d,h1,rfl,h2,h3⟩:=hdo i o ho
   rw [<- h2,<- h3]
   exact (q3 i d h1).2
  refine ⟨F,Hs,es.reverse,⟨hreg,hrun,?_,fun i hi=>(ghost (i+1) hi).2 i (by omega),fun i hi=>?_,?_,hall,hnt,htop⟩,q1,q2,q6,by simpa using q7,by simp [q4,hlen],?_⟩
  . intro i j p hi hp hij hne
    have e1:=hfx i _ (Array.getElem?_eq_getElem hi)
    have e2:=hfx j p hp
    have hnw:wrote (Hs i).nx (Hs (i+1)).lg≠[]:=by
     obtain ⟨x,h1,h2⟩:=hne
     exact List.ne_nil_of_mem ((wrote_spec _ x _).2 ⟨h1,h2⟩)
    have hcm:=effGo_get q5 _ (reverse_mem e1) hnw _ (reverse_mem e2)
    rcases calm1_get hcm with h1|h1|h1|⟨h1,h2⟩
    . exact .inr (.inl (land_bit h1))
    . exact .inl (land_bit h1)
    . exact absurd ((Nat.pow_right_inj (by omega:1<2)).1 h1) hij
    . exact .inr (.inr ⟨h1,h2⟩)
  . obtain ⟨⟨σ1,a1,w1,g1,_⟩,_⟩:=ghost i hi
    exact g1.ai
  . intro o ho
    have:=List.all_eq_true.1 hd o ho
    rw [bnot_eq] at this
    unfold isDf at this
    cases hq:isDefer o.op with
    |none=>rfl
    |some c=>rw [hq] at this;cases this
  . intro i hi
    rw [List.reverse_reverse]
    exact ⟨_,hfx i _ (Array.getElem?_eq_getElem hi),rfl⟩
end Go.Ev
namespace Go.Ev
variable [Lim]
variable {P:Program} {G:Nat} {σ σ':Dj} {h h':H} {w w':World} {v:AV} {nt:Nat} {f f':L2} {a:Act} {ctx:Ae} {b:FB} {cs:List Frame} {ops:Array Oper} {F:Nat->L2} {Hs:Nat->H}
def T (Hs:Nat->H) (x y:Nat):Prop:=y∈(Hs (x+1)).lg\/((Hs x).nx<=y/\y<(Hs (x+1)).nx)
def Wt (ops:Array Oper) (x t:Nat):Prop:=∃ o,ops[x]?=some o/\o.dst=some t
theorem Dr.nx (dr:Dr P G ctx ops nt F Hs) {i j:Nat} (hij:i<=j) (hj:j<=ops.size):(Hs i).nx<=(Hs j).nx:=by
 have key:∀ m,i+m<=ops.size->(Hs i).nx<=(Hs (i+m)).nx:=by
  intro m
  induction m with
  |zero=>intro _;exact Nat.le_refl _
  |succ m ih=>
   intro hm
   exact Nat.le_trans (ih (by omega)) (dr.step (i+m) (by omega)).nx
 have:=key (j - i) (by omega)
 rwa [show i+(j - i)=j by omega] at this
theorem Dr.nxl (dr:Dr P G ctx ops nt F Hs) {i:Nat} (hi:i<=ops.size):(Hs i).nx<=Bh:=Nat.le_trans (dr.nx hi (Nat.le_refl _)) dr.top
theorem Dr.low (dr:Dr P G ctx ops nt F Hs) {x y:Nat} (hx:x<ops.size) (ht:T Hs x y):y<(Hs (x+1)).nx:=by
 rcases ht with ht|ht
 . exact (dr.step x hx).low y ht
 . exact ht.2
theorem Dr.quiet1 (dr:Dr P G ctx ops nt F Hs) {x y:Nat} (hx:x<ops.size) (hy:y<Bh) (ht:¬ T Hs x y):(Hs (x+1)).m.get y=(Hs x).m.get y:=by
 have hst:=dr.step x hx
 by_cases h1:y<(Hs x).nx
 . exact hst.B2 y hy h1 (fun hh=>ht (.inl hh))
 . have h2:(Hs (x+1)).nx<=y:=by
    rcases Nat.lt_or_ge y (Hs (x+1)).nx with h3|h3
    . exact absurd (.inr ⟨by omega,h3⟩) ht
    . exact h3
   rw [(dr.inv (x+1) hx).bound y h2 hy,(dr.inv x (by omega)).bound y (by omega) hy]
theorem Dr.quiet (dr:Dr P G ctx ops nt F Hs) {i j y:Nat} (hi:i<=ops.size) (hj:j<=ops.size) (hy:y<Bh) (ht:∀ x,x<ops.size->T Hs x y->(x<i ↔ x<j)):(Hs i).m.get y=(Hs j).m.get y:=by
 have key:∀ m i,i+m<=ops.size->(∀ x,i<=x->x<i+m->¬ T Hs x y)->(Hs i).m.get y=(Hs (i+m)).m.get y:=by
  intro m
  induction m with
  |zero=>intro i _ _;rfl
  |succ m ih=>
   intro i hm hn
   rw [ih i (by omega) (fun x h1 h2=>hn x h1 (by omega))]
   exact (dr.quiet1 (by omega) hy (hn (i+m) (by omega) (by omega))).symm
 rcases Nat.le_total i j with h1|h1
 . have:=key (j - i) i (by omega) (fun x h2 h3 h4=>by have:=ht x (by omega) h4;omega)
   rwa [show i+(j - i)=j by omega] at this
 . have:=key (i - j) j (by omega) (fun x h2 h3 h4=>by have:=ht x (by omega) h4;omega)
   rw [show j+(i - j)=i by omega] at this
   exact this.symm
theorem Dr.frame (dr:Dr P G ctx ops nt F Hs) {x:Nat} {o:Oper} (ho:ops[x]?=some o):(∀ t:Nat,o.dst=some t->t<nt)/\∃ v,F (x+1)=putD o.dst v (F x):=by
 have hmem:o∈ops.toList:=by simpa using Array.mem_of_getElem? ho
 refine ⟨(operOk_dst (dr.all o hmem)).2,?_⟩
 rcases oper1_cases (dr.run x o ho) (fun n hn=>by cases hn) (fun _ _ _ hn=>by cases hn) with ⟨_,he⟩|⟨_,_,v,h',_,he⟩|⟨_,c,hd,_⟩
 . injection he with h1 h2;exact ⟨_,h1⟩
 . injection he with h1 h2;exact ⟨_,h1⟩
 . rw [dr.nodf o hmem] at hd;cases hd
theorem Dr.fquiet1 (dr:Dr P G ctx ops nt F Hs) {x t:Nat} (hx:x<ops.size) (ht:t<256) (hw:¬ Wt ops x t):(F (x+1)).get t=(F x).get t:=by
 have ho:ops[x]?=some ops[x]:=Array.getElem?_eq_getElem hx
 obtain ⟨hd,v,he⟩:=dr.frame ho
 have hnt:=dr.nt
 rw [he,putD_get (fun u hu=>Nat.lt_trans (hd u hu) hnt) t ht,if_neg (fun hh=>hw ⟨_,ho,hh⟩)]
theorem Dr.fquiet (dr:Dr P G ctx ops nt F Hs) {i j t:Nat} (hi:i<=ops.size) (hj:j<=ops.size) (ht:t<256) (hw:∀ x,x<ops.size->Wt ops x t->(x<i ↔ x<j)):(F i).get t=(F j).get t:=by
 have key:∀ m i,i+m<=ops.size->(∀ x,i<=x->x<i+m->¬ Wt ops x t)->(F i).get t=(F (i+m)).get t:=by
  intro m
  induction m with
  |zero=>intro i _ _;rfl
  |succ m ih=>
   intro i hm hn
   rw [ih i (by omega) (fun x h1 h2=>hn x h1 (by omega))]
   exact (dr.fquiet1 (by omega) ht (hn (i+m) (by omega) (by omega))).symm
 rcases Nat.le_total i j with h1|h1
 . have:=key (j - i) i (by omega) (fun x h2 h3 h4=>by have:=hw x (by omega) h4;omega)
   rwa [show i+(j - i)=j by omega] at this
 . have:=key (i - j) j (by omega) (fun x h2 h3 h4=>by have:=hw x (by omega) h4;omega)
   rw [show j+(i - j)=i by omega] at this
   exact this.symm
theorem Dr.made_once (dr:Dr P G ctx ops nt F Hs) {x y z:Nat} (hx:x<ops.size) (hz:z<ops.size) (h1:(Hs x).nx<=y/\y<(Hs (x+1)).nx) (h2:(Hs z).nx<=y/\y<(Hs (z+1)).nx):x=z:=by
 rcases Nat.lt_trichotomy x z with h3|h3|h3
 . have:=dr.nx (i:=x+1) (j:=z) h3 (by omega);omega
 . exact h3
 . have:=dr.nx (i:=z+1) (j:=x) h3 (by omega);omega
theorem Dr.same (dr:Dr P G ctx ops nt F Hs) {i j y k:Nat} (hij:i<=j) (hj:j<=ops.size) (hy:y<(Hs i).nx) (hk:D9 ((Hs j).m.get y)=some k):D9 ((Hs i).m.get y)=some k:=by
 have hyl:y<Bh:=Nat.lt_of_lt_of_le hy (dr.nxl (by omega))
 have key:∀ m,i+m<=ops.size->D9 ((Hs (i+m)).m.get y)=some k->D9 ((Hs i).m.get y)=some k:=by
  intro m
  induction m with
  |zero=>intro _ hh;exact hh
  |succ m ih=>
   intro hm hh
   refine ih (by omega) ((dr.step (i+m) (by omega)).same y k ?_ hyl hh)
   exact Nat.lt_of_lt_of_le hy (dr.nx (by omega) (by omega))
 exact key (j - i) (by omega) (by rwa [show i+(j - i)=j by omega])
structure Iv (G:Nat) (ops:Array Oper) (nt:Nat) (F:Nat->L2) (Hs:Nat->H) (σ0:Dj) (w0:World) (NW:List Nat) (D:Nat->Bool) (σ:Dj) (g:L2) (a:Act) (w:World):Prop where
 edges:EdgeClosed ops D
 fr:FRel σ nt g a
 slots:∀ t,t<250->∃ j,j<=ops.size/\(∀ x,x<ops.size->Wt ops x t->(D x=true ↔ x<j))/\g.get t=(F j).get t
 ds:g.get Bi=(F 0).get Bi
 gl:GOk G σ
 so:SOk σ w
 cst:CStep σ0 σ (Hs 0) (Hs ops.size) w0 w NW
 dom:∀ y e,σ y=some e->(y<(Hs 0).nx\/(Hs ops.size).nx<=y)\/∃ x,x<ops.size/\D x=true/\(Hs x).nx<=y/\y<(Hs (x+1)).nx
 mem:∀ y e,σ y=some e->∃ j,j<=ops.size/\(∀ x,x<ops.size->T Hs x y->(D x=true ↔ x<j)) /\
  (∀ k,D9 ((Hs j).m.get y)=some k->∀ x,x<ops.size->T Hs x k->(D x=true ↔ x<j))/\Gb G σ (Hs j).m.get e w ((Hs j).m.get y)
theorem Dr.move (dr:Dr P G ctx ops nt F Hs) {i j y:Nat} {e:SE} (hi:i<=ops.size) (hj:j<=ops.size) (hy:y<Bh) (h1:∀ x,x<ops.size->T Hs x y->(x<j ↔ x<i))
 (h2:∀ k,D9 ((Hs j).m.get y)=some k->∀ x,x<ops.size->T Hs x k->(x<j ↔ x<i)) (hb:Gb G σ (Hs j).m.get e w ((Hs j).m.get y)):
 (Hs i).m.get y=(Hs j).m.get y/\Gb G σ (Hs i).m.get e w ((Hs i).m.get y):=by
 have he:=dr.quiet hj hi hy h1
 refine ⟨he.symm,?_⟩
 rw [<- he]
 refine Gb.congr (Sle.refl σ) rfl ?_ hb
 intro l t k st ho hk
 have hcls:D9 ((Hs j).m.get y)=some k:=by rw [ho];rfl
 have hkl:k<Bh:=by
  have:=((dr.inv j hj).cls y k hy hcls).1
  have:=dr.nxl hj
  omega
 rw [dr.quiet hj hi hkl (h2 k hcls)]
 exact hk
section step
variable {σ0:Dj} {w0:World} {NW:List Nat} {D:Nat->Bool} {g:L2} {i:Nat} {o:Oper}
def D1 (D:Nat->Bool) (i:Nat):Nat->Bool:=fun j=>if j=i then true else D j
theorem D1_self:D1 D i i=true:=if_pos rfl
theorem D1_ne {x:Nat} (hx:x≠i):D1 D i x=D x:=if_neg hx
theorem Iv.side (dr:Dr P G ctx ops nt F Hs) (iv:Iv G ops nt F Hs σ0 w0 NW D σ g a w) (ho:ops[i]?=some o) (hd:D i=false) (he:∀ e∈o.after.toList,Region.binds .any e=true->D e.on=true)
 {x:Nat} (hx:x<ops.size) (hor:Bef ops x i\/Bef ops i x):(D x=true ↔ x<i):=by
 have hb:=regOk_backward dr.reg
 have hi:i<ops.size:=(Array.getElem?_eq_some_iff.1 ho).1
 rcases hor with hor|hor
 . exact ⟨fun _=>hor.lt hb hi,fun _=>Bef.done hb iv.edges ho he x hor⟩
 . have hlt:=hor.lt hb hx
   refine ⟨fun hD=>?_,fun hh=>absurd hh (by omega)⟩
   have:=Bef.done hb iv.edges (Array.getElem?_eq_getElem hx) (iv.edges x _ (Array.getElem?_eq_getElem hx) hD) i hor
   rw [hd] at this
   cases this
theorem Iv.edges1 (iv:Iv G ops nt F Hs σ0 w0 NW D σ g a w) (ho:ops[i]?=some o) (he:∀ e∈o.after.toList,Region.binds .any e=true->D e.on=true):EdgeClosed ops (D1 D i):=by
 intro x p hp hx e hm hb
 have hup:∀ z,D z=true->D1 D i z=true:=by
  intro z hz
  by_cases hzi:z=i
  . subst hzi;exact D1_self
  . rw [D1_ne hzi];exact hz
 by_cases hxi:x=i
 . subst hxi
   rw [ho] at hp
   cases hp
   exact hup _ (he e hm hb)
 . rw [D1_ne hxi] at hx
   exact hup _ (iv.edges x p hp hx e hm hb)
theorem Iv.reads (dr:Dr P G ctx ops nt F Hs) (iv:Iv G ops nt F Hs σ0 w0 NW D σ g a w) (ho:ops[i]?=some o) (hd:D i=false) (he:∀ e∈o.after.toList,Region.binds .any e=true->D e.on=true)
 {t:Nat} (ht:t<250) (hr:readsSlot ops o t):g.get t=(F i).get t:=by
 have hi:i<ops.size:=(Array.getElem?_eq_some_iff.1 ho).1
 obtain ⟨j,h1,h2,h3⟩:=iv.slots t ht
 rw [h3]
 refine dr.fquiet h1 (by omega) (by omega) (fun x hx hw=>?_)
 have h4:=h2 x hx hw
 by_cases hxi:x=i
 . subst hxi
   rw [hd] at h4
   simp at h4
   omega
 . obtain ⟨p,hp,hpd⟩:=hw
   have:=iv.side dr ho hd he hx (regOk_slots dr.reg hp ho hxi hpd (.inr hr))
   rw [<- h4,this]
theorem Iv.slots1 (dr:Dr P G ctx ops nt F Hs) (iv:Iv G ops nt F Hs σ0 w0 NW D σ g a w) (ho:ops[i]?=some o) (hd:D i=false) (he:∀ e∈o.after.toList,Region.binds .any e=true->D e.on=true)
 {v:AV} (hF:F (i+1)=putD o.dst v (F i)):∀ t,t<250->∃ j,j<=ops.size/\(∀ x,x<ops.size->Wt ops x t->(D1 D i x=true ↔ x<j))/\(putD o.dst v g).get t=(F j).get t:=by
 intro t ht
 have hi:i<ops.size:=(Array.getElem?_eq_some_iff.1 ho).1
 have hdst:=(dr.frame ho).1
 have hnt:=dr.nt
 have hg:∀ f:L2,(putD o.dst v f).get t=if o.dst=some t then v else f.get t:=fun f=>putD_get (fun u hu=>Nat.lt_trans (hdst u hu) hnt) t (by omega)
 by_cases hot:o.dst=some t
 . refine ⟨i+1,hi,fun x hx hw=>?_,?_⟩
   . by_cases hxi:x=i
     . subst hxi;rw [D1_self];simp
     . rw [D1_ne hxi]
       obtain ⟨p,hp,hpd⟩:=hw
       rw [iv.side dr ho hd he hx (regOk_slots dr.reg hp ho hxi hpd (.inl hot))]
       omega
   . rw [hF,hg g,hg (F i),if_pos hot,if_pos hot]
 . obtain ⟨j,h1,h2,h3⟩:=iv.slots t ht
   refine ⟨j,h1,fun x hx hw=>?_,?_⟩
   . by_cases hxi:x=i
     . subst hxi
       obtain ⟨p,hp,hpd⟩:=hw
       rw [ho] at hp
       cases hp
       exact absurd hpd hot
     . rw [D1_ne hxi];exact h2 x hx hw
   . rw [hg g,if_neg hot,h3]
theorem Iv.ds1 (dr:Dr P G ctx ops nt F Hs) (iv:Iv G ops nt F Hs σ0 w0 NW D σ g a w) (ho:ops[i]?=some o) (v:AV):(putD o.dst v g).get Bi=(F 0).get Bi:=by
 have hdst:=(dr.frame ho).1
 have hnt:=dr.nt
 rw [putD_get (fun u hu=>Nat.lt_trans (hdst u hu) hnt) Bi (by decide),if_neg (fun hh=>by have h1:(255:Nat)<nt:=hdst 255 hh;omega)]
 exact iv.ds
theorem Iv.free (dr:Dr P G ctx ops nt F Hs) (iv:Iv G ops nt F Hs σ0 w0 NW D σ g a w) (hi:i<ops.size) (hd:D i=false):Fk σ (Ab (Hs i)) (Hs (i+1)):=by
 intro y h1 h2
 cases hy:σ y with
 |none=>rfl
 |some e=>
  have h1':(Hs i).nx<=y:=h1
  rcases iv.dom y e hy with h3|⟨x,h3,h4,h5⟩
  . have:=dr.nx (i:=0) (j:=i) (by omega) (by omega)
    have:=dr.nx (i:=i+1) (j:=ops.size) hi (Nat.le_refl _)
    omega
  . have:=dr.made_once h3 hi h5 ⟨h1',h2⟩
    subst this
    rw [hd] at h4;cases h4
theorem Iv.still (dr:Dr P G ctx ops nt F Hs) (iv:Iv G ops nt F Hs σ0 w0 NW D σ g a w) (ho:ops[i]?=some o) (hd:D i=false) (he:∀ e∈o.after.toList,Region.binds .any e=true->D e.on=true)
 {v:AV} {v':Value} (hF:F (i+1)=putD o.dst v (F i)) (hH:Hs (i+1)=Ab (Hs i)) (hv:Aq σ v v'):Iv G ops nt F Hs σ0 w0 NW (D1 D i) σ (putD o.dst v g) (a.put o.dst v') w:=by
 have hi:i<ops.size:=(Array.getElem?_eq_some_iff.1 ho).1
 have hdst:=(dr.frame ho).1
 have hT:∀ y,¬ T Hs i y:=by
  intro y hy
  unfold T at hy
  rw [hH] at hy
  rcases hy with hy|⟨h1,h2⟩
  . cases hy
  . have h2':y<(Hs i).nx:=h2
    omega
 have hside:∀ x y,T Hs x y->D1 D i x=D x:=by
  intro x y hxy
  refine D1_ne ?_
  rintro rfl
  exact hT y hxy
 refine ⟨iv.edges1 ho he,iv.fr.put hdst dr.nt hv,iv.slots1 dr ho hd he hF,iv.ds1 dr ho v,iv.gl,iv.so,iv.cst,?_,?_⟩
 . intro y e hy
   rcases iv.dom y e hy with h1|⟨x,h1,h2,h3⟩
   . exact .inl h1
   . refine .inr ⟨x,h1,?_,h3⟩
     rw [hside x y (.inr h3)];exact h2
 . intro y e hy
   obtain ⟨j,h1,h2,h3,h4⟩:=iv.mem y e hy
   refine ⟨j,h1,fun x hx hT=>?_,fun k hk x hx hT=>?_,h4⟩
   . rw [hside x y hT];exact h2 x hx hT
   . rw [hside x k hT];exact h3 k hk x hx hT
end step
end Go.Ev
namespace Go.Ev
variable [Lim]
variable {P:Program} {G:Nat} {σ σ':Dj} {h h':H} {w w':World} {v:AV} {nt:Nat} {f f':L2} {a:Act} {ctx:Ae} {b:FB} {cs:List Frame} {ops:Array Oper} {F:Nat->L2} {Hs:Nat->H}
theorem Gb.cls {g:Nat->AO} {e:SE} {o:AO} {k:Nat} (hb:Gb G σ g e w o) (hk:e.k=some k):o=.none\/D9 o=some k:=by
 cases o with
 |none=>exact .inl rfl
 |ctr n=>have:e.k=none:=hb;rw [hk] at this;cases this
 |cells l t kk=>have:=hb.1;rw [hk] at this;exact .inr this.symm
 |map es=>have:=hb.1;rw [hk] at this;cases this
 |loop a1 a2 a3 a4 a5 a6=>have:=hb.1;rw [hk] at this;cases this
 |dfr t=>have:=hb.1;rw [hk] at this;cases this
theorem CStep.join {σ1 σ2:Dj} {hn hi hj:H} {w1 w2:World} {NW nw:List Nat} (a:CStep σ σ1 h hn w w1 NW) (b:CStep σ1 σ2 hi hj w1 w2 nw) (e1:h.nx<=hi.nx) (e2:hj.nx<=hn.nx)
 (hsub:∀ y∈nw,∀ e,σ1 y=some e->y∈NW):CStep σ σ2 h hn w w2 NW:=by
 refine ⟨a.le.trans b.le,?_,b.ok,Nat.le_trans a.grow b.grow,?_,?_,⟨b.io.1.trans a.io.1,b.io.2.trans a.io.2⟩⟩
 . intro x e h3 h4
   cases h5:σ1 x with
   |none=>have:=b.fresh x e h5 h4;omega
   |some e'=>exact a.fresh x e' h3 h5
 . intro c h3 h4
   have g1:=a.frame c h3 h4
   have g2:=b.frame c (by have:=a.grow;omega) (fun x hx e he hc=>?_)
   . rw [g2,g1]
   . have hxN:=hsub x hx e he
     cases h5:σ x with
     |some e'=>
      have:=a.le x e' h5
      rw [he] at this
      cases this
      exact h4 x hxN e h5 hc
     |none=>
      rcases a.newc x e h5 he with h6|⟨b0,hb0,e0,h7,h8⟩
      . omega
      . exact h4 b0 hb0 e0 h7 (by omega)
 . intro x e h3 h4
   cases h5:σ1 x with
   |some e'=>
    have:=b.le x e' h5
    rw [h4] at this
    cases this
    exact a.newc x e h3 h5
   |none=>
    rcases b.newc x e h5 h4 with h6|⟨b0,hb0,e0,h7,h8⟩
    . exact .inl (by have:=a.grow;omega)
    . have hbN:=hsub b0 hb0 e0 h7
      cases h9:σ b0 with
      |some e9=>
       have:=a.le b0 e9 h9
       rw [h7] at this
       cases this
       exact .inr ⟨b0,hbN,e0,h9,h8⟩
      |none=>
       rcases a.newc b0 e0 h9 h7 with h6|⟨b1,hb1,e1,h10,h11⟩
       . exact .inl (by omega)
       . exact .inr ⟨b1,hb1,e1,h10,by omega⟩
section step
variable {σ0:Dj} {w0:World} {NW:List Nat} {D:Nat->Bool} {g:L2} {i:Nat} {o:Oper}
theorem T.cases {x y:Nat} (dr:Dr P G ctx ops nt F Hs) (hx:x<ops.size) (ht:T Hs x y):(y∈(Hs (x+1)).lg/\y<(Hs x).nx)\/((Hs x).nx<=y/\y<(Hs (x+1)).nx):=by
 have hlow:=dr.low hx ht
 rcases Nat.lt_or_ge y (Hs x).nx with h1|h1
 . rcases ht with ht|ht
   . exact .inl ⟨ht,h1⟩
   . omega
 . exact .inr ⟨h1,hlow⟩
theorem Iv.here (dr:Dr P G ctx ops nt F Hs) (iv:Iv G ops nt F Hs σ0 w0 NW D σ g a w) (ho:ops[i]?=some o) (hd:D i=false) (he:∀ e∈o.after.toList,Region.binds .any e=true->D e.on=true)
 {y:Nat} {e:SE} (hy:σ y=some e) (hyn:y<(Hs i).nx)
 (hw:∀ x z,x<ops.size->x≠i->(z=y\/D9 ((Hs i).m.get y)=some z)->z∈(Hs (x+1)).lg->z<(Hs x).nx->Bef ops x i\/Bef ops i x):
 (∀ x,x<ops.size->T Hs x y->(D x=true ↔ x<i))/\(∀ k,D9 ((Hs i).m.get y)=some k->∀ x,x<ops.size->T Hs x k->(D x=true ↔ x<i))/\Gb G σ (Hs i).m.get e w ((Hs i).m.get y):=by
 have hi:i<ops.size:=(Array.getElem?_eq_some_iff.1 ho).1
 have hyl:=iv.so.low y e hy
 have hself:D i=true ↔ i<i:=by rw [hd];simp
 have h1:∀ x,x<ops.size->T Hs x y->(D x=true ↔ x<i):=by
  intro x hx ht
  by_cases hxi:x=i
  . subst hxi;exact hself
  . rcases ht.cases dr hx with ⟨q1,q2⟩|q
    . exact iv.side dr ho hd he hx (hw x y hx hxi (.inl rfl) q1 q2)
    . have hlt:x<i:=by
       rcases Nat.lt_or_ge x i with h3|h3
       . exact h3
       . have:=dr.nx h3 (by omega);omega
      refine ⟨fun _=>hlt,fun _=>?_⟩
      rcases iv.dom y e hy with h3|⟨z,h3,h4,h5⟩
      . have:=dr.nx (i:=0) (j:=x) (by omega) (by omega)
        have:=dr.nx (i:=i) (j:=ops.size) (by omega) (Nat.le_refl _)
        omega
      . have:=dr.made_once h3 hx h5 q
        subst this
        exact h4
 obtain ⟨j,k1,k2,k3,k4⟩:=iv.mem y e hy
 have h1':∀ x,x<ops.size->T Hs x y->(x<j ↔ x<i):=fun x hx ht=>by rw [<- k2 x hx ht,h1 x hx ht]
 have hsame:=dr.quiet k1 (by omega) hyl h1'
 have h2:∀ k,D9 ((Hs i).m.get y)=some k->∀ x,x<ops.size->T Hs x k->(D x=true ↔ x<i):=by
  intro k hk x hx ht
  by_cases hxi:x=i
  . subst hxi;exact hself
  . rcases ht.cases dr hx with ⟨q1,q2⟩|q
    . exact iv.side dr ho hd he hx (hw x k hx hxi (.inr hk) q1 q2)
    . have hkn:=((dr.inv i (by omega)).cls y k hyl hk).1
      have hlt:x<i:=by
       rcases Nat.lt_or_ge x i with h3|h3
       . exact h3
       . have:=dr.nx h3 (by omega);omega
      refine ⟨fun _=>hlt,fun _=>?_⟩
      have hkj:D9 ((Hs j).m.get y)=some k:=by rw [hsame];exact hk
      have hkn2:=((dr.inv j k1).cls y k hyl hkj).1
      refine (k3 k hkj x hx ht).2 ?_
      rcases Nat.lt_or_ge x j with h3|h3
      . exact h3
      . have:=dr.nx h3 (by omega);omega
 refine ⟨h1,h2,(dr.move (by omega) k1 hyl h1' ?_ k4).2⟩
 intro k hk x hx ht
 rw [<- k3 k hk x hx ht]
 rw [hsame] at hk
 rw [h2 k hk x hx ht]
theorem Iv.make (dr:Dr P G ctx ops nt F Hs) (iv:Iv G ops nt F Hs σ0 w0 NW D σ g a w) (ho:ops[i]?=some o) (hd:D i=false) (he:∀ e∈o.after.toList,Region.binds .any e=true->D e.on=true)
 {v:AV} {v':Value} {l:List AV} {l':Array Value} {t:TypeId} (hF:F (i+1)=putD o.dst v (F i)) (hH:Hs (i+1)=(Ab (Hs i)).new (.cells l t .exact)) (hl:Bd σ l l'.toList)
 (hv:Aq (Gd σ (Hs i).nx ⟨w.heap.size,l.length,none⟩) v v'):Iv G ops nt F Hs σ0 w0 NW (D1 D i) (Gd σ (Hs i).nx ⟨w.heap.size,l.length,none⟩) (putD o.dst v g) (a.put o.dst v') (C5 w (.cells l' t)):=by
 have hi:i<ops.size:=(Array.getElem?_eq_some_iff.1 ho).1
 have hdst:=(dr.frame ho).1
 have hnx:(Hs (i+1)).nx=(Hs i).nx+1:=by rw [hH];rfl
 have hlt:(Hs i).nx<Bh:=by have:=dr.nxl (i:=i+1) hi;omega
 have hlg:(Hs (i+1)).lg=[]:=by rw [hH];rfl
 have hT:∀ y,T Hs i y->y=(Hs i).nx:=by
  intro y hy
  rcases hy with hy|⟨h1,h2⟩
  . rw [hlg] at hy;cases hy
  . omega
 have hf:σ (Hs i).nx=none:=iv.free dr hi hd _ (Nat.le_refl _) (by rw [hnx];exact Nat.lt_succ_self _)
 have hle:=upd_le (e:=⟨w.heap.size,l.length,none⟩) hf
 have hso:=iv.so.push (b:=(Hs i).nx) (e:=⟨w.heap.size,l.length,none⟩) (.cells l' t) hlt rfl
 have hup:∀ z,D z=true->D1 D i z=true:=by
  intro z hz
  by_cases hzi:z=i
  . subst hzi;exact D1_self
  . rw [D1_ne hzi];exact hz
 have hget:(Hs (i+1)).m.get (Hs i).nx=.cells l t .exact:=by
  rw [hH]
  have:=new_get (Ab (Hs i)) (.cells l t .exact) hlt (Hs i).nx hlt
  rw [this]
  exact if_pos rfl
 refine ⟨iv.edges1 ho he,(iv.fr.mono hle).put hdst dr.nt hv,iv.slots1 dr ho hd he hF,iv.ds1 dr ho v,iv.gl.mono hle,hso,?_,?_,?_⟩
 . refine iv.cst.join (hi:=Hs i) (hj:=Hs (i+1)) (nw:=[]) ⟨hle,?_,hso,?_,?_,?_,⟨rfl,rfl⟩⟩ (dr.nx (by omega) (by omega)) (dr.nx hi (Nat.le_refl _)) (fun y hy=>by cases hy)
   . intro y e h1 h2
     unfold Gd at h2
     split at h2
     . omega
     . rw [h1] at h2;cases h2
   . rw [size_push];omega
   . intro c h1 _;exact heap_push w _ c h1
   . intro y e h1 h2
     unfold Gd at h2
     split at h2
     . cases h2;exact .inl (Nat.le_refl _)
     . rw [h1] at h2;cases h2
 . intro y e hy
   unfold Gd at hy
   split at hy
   . rename_i hyi
     exact .inr ⟨i,hi,D1_self,by omega,by omega⟩
   . rcases iv.dom y e hy with h1|⟨x,h1,h2,h3⟩
     . exact .inl h1
     . exact .inr ⟨x,h1,hup x h2,h3⟩
 . intro y e hy
   unfold Gd at hy
   split at hy
   . rename_i hyi
     subst hyi
     cases hy
     refine ⟨i+1,hi,?_,?_,?_⟩
     . intro x hx ht
       by_cases hxi:x=i
       . subst hxi;rw [D1_self];simp
       . rw [D1_ne hxi]
         rcases ht.cases dr hx with ⟨q1,q2⟩|q
         . rcases dr.calm x i o hx ho hxi ⟨_,q1,q2⟩ with h1|h1|⟨_,h1⟩
           . rw [iv.side dr ho hd he hx (.inl h1)];omega
           . rw [iv.side dr ho hd he hx (.inr h1)];omega
           . exact absurd ⟨Nat.le_refl _,by omega⟩ (outside_spec h1 _ ((wrote_spec _ _ _).2 ⟨q1,q2⟩))
         . exact absurd (dr.made_once hx hi q ⟨Nat.le_refl _,by omega⟩) hxi
     . intro k hk
       rw [hget] at hk
       cases hk
     . rw [hget]
       have hsz:l'.size=l.length:=by have:=hl.1;simpa using this.symm
       exact ⟨rfl,fun _=>⟨l',0,0,Fp w _,hsz,Nat.le_refl _,fun j x y hx hy=>(hl.cells_rel j x y hx hy).mono hle,fun _=>rfl,fun _ j hj=>by omega⟩⟩
   . rename_i hyi
     obtain ⟨j,k1,k2,k3,k4⟩:=iv.mem y e hy
     refine ⟨j,k1,?_,?_,?_⟩
     . intro x hx ht
       by_cases hxi:x=i
       . subst hxi;exact absurd (hT y ht) hyi
       . rw [D1_ne hxi];exact k2 x hx ht
     . intro k hk x hx ht
       by_cases hxi:x=i
       . subst hxi
         have h5:=k3 k hk x hx ht
         rw [hd] at h5
         have h6:j<=x:=by simp at h5;omega
         have h7:=((dr.inv j k1).cls y k (iv.so.low y e hy) hk).1
         have h8:=dr.nx h6 (by omega)
         have h9:=hT k ht
         omega
       . rw [D1_ne hxi];exact k3 k hk x hx ht
     . exact Gb.congr hle (heap_push w _ _ (iv.so.rng y e hy)) (fun _ _ _ _ _ hh=>hh) k4
end step
end Go.Ev
namespace Go.Ev
variable [Lim]
variable {P:Program} {G:Nat} {σ σ':Dj} {h h':H} {w w':World} {v:AV} {nt:Nat} {f f':L2} {a:Act} {ctx:Ae} {b:FB} {cs:List Frame} {ops:Array Oper} {F:Nat->L2} {Hs:Nat->H}
section step
variable {σ0:Dj} {w0:World} {NW:List Nat} {D:Nat->Bool} {g:L2} {i:Nat} {o:Oper}
theorem Iv.whole (dr:Dr P G ctx ops nt F Hs) (iv:Iv G ops nt F Hs σ0 w0 NW D σ g a w) (ho:ops[i]?=some o) (hd:D i=false) (he:∀ e∈o.after.toList,Region.binds .any e=true->D e.on=true)
 (hNW:∀ x y,x<ops.size->y∈(Hs (x+1)).lg->y<(Hs x).nx->y∈NW) (hord:∀ x,x<ops.size->x≠i->(∃ z,z∈(Hs (x+1)).lg/\z<(Hs x).nx)->Bef ops x i\/Bef ops i x):
 MAll G σ (Hs i).m.get w/\∀ (v:AV) (v':Value) (σ':Dj) (w':World),F (i+1)=putD o.dst v (F i)->Aq σ' v v'->Out G σ (Ab (Hs i)) w σ' (Hs (i+1)) w' ->
  Iv G ops nt F Hs σ0 w0 NW (D1 D i) σ' (putD o.dst v g) (a.put o.dst v') w':=by
 have hi:i<ops.size:=(Array.getElem?_eq_some_iff.1 ho).1
 have hdst:=(dr.frame ho).1
 have hinv:=dr.inv i (by omega)
 have hfree:=iv.free dr hi hd
 have hhere:∀ y e,σ y=some e->y<(Hs i).nx->_:=fun y e hy hyn=>iv.here dr ho hd he hy hyn (fun x z hx hxi _ q1 q2=>hord x hx hxi ⟨z,q1,q2⟩)
 have hma:MAll G σ (Hs i).m.get w:=by
  intro y e hy
  rcases Nat.lt_or_ge y (Hs i).nx with h1|h1
  . exact (hhere y e hy h1).2.2
  . rw [hinv.bound y h1 (iv.so.low y e hy)];trivial
 refine ⟨hma,?_⟩
 intro v v' σ' w' hF hv hout
 have hout0:=hout
 obtain ⟨nw,ast,cst,ma'⟩:=hout
 have hnw:(Hs (i+1)).lg=nw:=by rw [ast.lg];simp [Ab]
 have hnin:∀ y∈nw,∀ e,σ y=some e->y<(Hs i).nx:=by
  intro y hy e hye
  rcases Nat.lt_or_ge y (Hs i).nx with h1|h1
  . exact h1
  . rw [hfree y h1 (ast.low y hy)] at hye;cases hye
 have hup:∀ z,D z=true->D1 D i z=true:=by
  intro z hz
  by_cases hzi:z=i
  . subst hzi;exact D1_self
  . rw [D1_ne hzi];exact hz
 have hfresh:∀ y e,σ y=none->σ' y=some e->(Hs i).nx<=y/\y<(Hs (i+1)).nx:=fun y e h1 h2=>cst.fresh y e h1 h2
 have hstill:∀ y e j,σ y=some e->¬ T Hs i y->(∀ k,D9 ((Hs j).m.get y)=some k->¬ T Hs i k)->Gb G σ (Hs j).m.get e w ((Hs j).m.get y)->Gb G σ' (Hs j).m.get e w' ((Hs j).m.get y):=by
  intro y e j hy hty htk hb
  by_cases hnone:(Hs j).m.get y=.none
  . rw [hnone];trivial
  . refine Gb.congr cst.le (cst.frame e.c (iv.so.rng y e hy) ?_) (fun _ _ _ _ _ hh=>hh) hb
    intro y0 hy0 e0 he0 hc
    rcases iv.so.inj y0 y e0 e he0 hy hc with h1|⟨h1,h2⟩
    . subst h1
      exact hty (.inl (by rw [hnw];exact hy0))
    . cases hk:e0.k with
      |none=>exact h2 hk
      |some k=>
       have hlt0:=hnin y0 hy0 e0 he0
       have hlive:=ast.live y0 hy0 hlt0 (iv.so.low y0 e0 he0)
       have hb0:=hma y0 e0 he0
       have hc0:D9 ((Hs i).m.get y0)=some k:=(hb0.cls hk).resolve_left hlive
       have hkin:=ast.cls y0 hy0 k hlt0 hc0
       have hcy:D9 ((Hs j).m.get y)=some k:=(hb.cls (by rw [<- h1];exact hk)).resolve_left hnone
       exact htk k hcy (.inl (by rw [hnw];exact hkin))
 refine ⟨iv.edges1 ho he,(iv.fr.mono cst.le).put hdst dr.nt hv,iv.slots1 dr ho hd he hF,iv.ds1 dr ho v,iv.gl.mono cst.le,cst.ok,?_,?_,?_⟩
 . refine iv.cst.join cst (dr.nx (by omega) (by omega)) (dr.nx hi (Nat.le_refl _)) ?_
   intro y hy e hye
   exact hNW i y hi (by rw [hnw];exact hy) (hnin y hy e hye)
 . intro y e hy
   cases hyo:σ y with
   |none=>
    have:=hfresh y e hyo hy
    exact .inr ⟨i,hi,D1_self,this⟩
   |some e'=>
    rcases iv.dom y e' hyo with h1|⟨x,h1,h2,h3⟩
    . exact .inl h1
    . exact .inr ⟨x,h1,hup x h2,h3⟩
 . intro y e hy
   cases hyo:σ y with
   |some e'=>
    have hee:e'=e:=by
     have:=cst.le y e' hyo
     rw [hy] at this
     cases this;rfl
    subst hee
    rcases Nat.lt_or_ge y (Hs i).nx with h1|h1
    . obtain ⟨q1,q2,q3⟩:=hhere y e' hyo h1
      by_cases hto:T Hs i y\/∃ k,D9 ((Hs i).m.get y)=some k/\T Hs i k
      . refine ⟨i+1,hi,?_,?_,ma' y e' hy⟩
        . intro x hx ht
          by_cases hxi:x=i
          . subst hxi;rw [D1_self];simp
          . rw [D1_ne hxi,q1 x hx ht];omega
        . intro k hk x hx ht
          have hk':=dr.same (i:=i) (j:=i+1) (by omega) hi h1 hk
          by_cases hxi:x=i
          . subst hxi;rw [D1_self];simp
          . rw [D1_ne hxi,q2 k hk' x hx ht];omega
      . rw [not_or] at hto
        have hto2:∀ k,D9 ((Hs i).m.get y)=some k->¬ T Hs i k:=fun k hk ht=>hto.2 ⟨k,hk,ht⟩
        refine ⟨i,by omega,?_,?_,hstill y e' i hyo hto.1 hto2 q3⟩
        . intro x hx ht
          by_cases hxi:x=i
          . subst hxi;exact absurd ht hto.1
          . rw [D1_ne hxi];exact q1 x hx ht
        . intro k hk x hx ht
          by_cases hxi:x=i
          . subst hxi;exact absurd ht (hto2 k hk)
          . rw [D1_ne hxi];exact q2 k hk x hx ht
    by_cases hfar:(Hs ops.size).nx<=y
    . have hnt:∀ x,x<ops.size->¬ T Hs x y:=by
       intro x hx ht
       have h5:=dr.low hx ht
       have h6:=dr.nx (i:=x+1) (j:=ops.size) hx (Nat.le_refl _)
       omega
      have hnone:(Hs i).m.get y=.none:=hinv.bound y h1 (iv.so.low y e' hyo)
      refine ⟨i,by omega,fun x hx ht=>absurd ht (hnt x hx),fun k hk=>?_,?_⟩
      . rw [hnone] at hk;cases hk
      . rw [hnone];trivial
    . -- made by an operation behind i in the text
      obtain ⟨x0,p1,p2,p3⟩:∃ x,x<ops.size/\D x=true/\(Hs x).nx<=y/\y<(Hs (x+1)).nx:=by
       rcases iv.dom y e' hyo with h2|h2
       . have:=dr.nx (i:=0) (j:=i) (by omega) (by omega);omega
       . exact h2
      have hx0i:x0≠i:=by rintro rfl;rw [hd] at p2;cases p2
      have hgt:i<x0:=by
       rcases Nat.lt_or_ge i x0 with h2|h2
       . exact h2
       . have h3:x0+1<=i:=by omega
         have:=dr.nx h3 (by omega);omega
      have hnxx:=dr.nx (i:=i+1) (j:=x0) hgt (by omega)
      obtain ⟨j,k1,k2,k3,k4⟩:=iv.mem y e' hyo
      have hty:¬ T Hs i y:=by
       intro ht
       have:=dr.low hi ht
       omega
      have htk:∀ k,D9 ((Hs j).m.get y)=some k->¬ T Hs i k:=by
       intro k hk ht
       have hkl:=dr.low hi ht
       have hxj:x0<j:=(k2 x0 p1 (.inr p3)).1 p2
       have hk2:=dr.same (i:=x0+1) (j:=j) hxj k1 p3.2 hk
       rcases (dr.step x0 p1).newc y k p3.1 p3.2 (iv.so.low y e' hyo) hk2 with h5|h5
       . have hor:=hord x0 p1 hx0i ⟨k,h5,by omega⟩
         have:=(iv.side dr ho hd he p1 hor).1 p2
         omega
       . have h5':(Hs x0).nx<=k:=h5
         omega
      refine ⟨j,k1,?_,?_,hstill y e' j hyo hty htk k4⟩
      . intro x hx ht
        by_cases hxi:x=i
        . subst hxi;exact absurd ht hty
        . rw [D1_ne hxi];exact k2 x hx ht
      . intro k hk x hx ht
        by_cases hxi:x=i
        . subst hxi;exact absurd ht (htk k hk)
        . rw [D1_ne hxi];exact k3 k hk x hx ht
   |none=>
    have hin:=hfresh y e hyo hy
    have hyl:=cst.ok.low y e hy
    refine ⟨i+1,hi,?_,?_,ma' y e hy⟩
    . intro x hx ht
      by_cases hxi:x=i
      . subst hxi;rw [D1_self];simp
      . rw [D1_ne hxi]
        rcases ht.cases dr hx with ⟨q1,q2⟩|q
        . rw [iv.side dr ho hd he hx (hord x hx hxi ⟨y,q1,q2⟩)];omega
        . exact absurd (dr.made_once hx hi q hin) hxi
    . intro k hk x hx ht
      by_cases hxi:x=i
      . subst hxi;rw [D1_self];simp
      . rw [D1_ne hxi]
        rcases ht.cases dr hx with ⟨q1,q2⟩|q
        . rw [iv.side dr ho hd he hx (hord x hx hxi ⟨k,q1,q2⟩)];omega
        . have hkn:=((dr.inv (i+1) hi).cls y k hyl hk).1
          have hlt:x<i:=by
           rcases Nat.lt_or_ge x i with h3|h3
           . exact h3
           . have h4:i+1<=x:=by omega
             have:=dr.nx h4 (by omega);omega
          have hnxx:=dr.nx (i:=x+1) (j:=i) hlt (by omega)
          rcases ast.newc y k hin.1 hin.2 hyl hk with h5|h5
          . have hkw:k<(Hs i).nx:=by omega
            obtain ⟨p,hp⟩:∃ p,ops[x]?=some p:=⟨_,Array.getElem?_eq_getElem hx⟩
            rcases dr.calm i x p hi hp (Ne.symm hxi) ⟨k,by rw [hnw];exact h5,hkw⟩ with h6|h6|⟨_,h6⟩
            . rw [iv.side dr ho hd he hx (.inr h6)];omega
            . rw [iv.side dr ho hd he hx (.inl h6)];omega
            . exact absurd q (outside_spec h6 k ((wrote_spec _ _ _).2 ⟨by rw [hnw];exact h5,hkw⟩))
          . have h5':(Hs i).nx<=k:=h5
            omega
end step
end Go.Ev
namespace Go.Ev
variable [Lim]
variable {P:Program} {G:Nat} {σ σ':Dj} {h h':H} {w w':World} {v:AV} {nt:Nat} {f f':L2} {a:Act} {ctx:Ae} {b:FB} {cs:List Frame} {ops:Array Oper} {F:Nat->L2} {Hs:Nat->H}
def Good1At (P:Program) (G:Nat) (o:Oper) (f:L2):Prop:=∀ (σ:Dj) (nt:Nat) (a:Act) (h h':H) (w:World) (v:AV) (ctx:Ae),
 opD o.op o.type P ctx f h=.ok v h'->o.op.operands.toList.all (Ej G)=true->FRel σ nt f a->GOk G σ->∃ v' w',Ran P (execOp a.eval o) w v' w'/\Eff1 σ h w v v' h' w'
theorem Good1.at {o:Oper} (hg:Good1 P G o) (f:L2):Good1At P G o f:=fun σ nt a h h' w v ctx=>hg σ nt f a h h' w v ctx
theorem reads_cases (o:Oper) (f:L2):F2 o.op f=.all\/Good1At P G o f\/∃ t x,o.op=.load t x:=by
 obtain ⟨dst,op,ty,pos,af,gd⟩:=o
 cases op
 case move x=>exact .inr (.inl ((good_move x).at f))
 case assign x=>exact .inr (.inl ((good_assign x).at f))
 case pick c x y=>exact .inr (.inl ((good_pick c x y).at f))
 case alloc e=>exact .inr (.inl ((good_alloc e).at f))
 case box e x=>exact .inr (.inl ((good_box e x).at f))
 case build t p=>exact .inr (.inl ((good_build t p).at f))
 case buildSlice t n p=>exact .inr (.inl ((good_buildSlice t n p).at f))
 case load t x=>exact .inr (.inr ⟨t,x,rfl⟩)
 case nilCheck x=>exact .inr (.inl ((good_nilCheck x).at f))
 case binOp op t x y yt=>exact .inr (.inl ((good_binOp op t x y yt).at f))
 case unOp op t x=>exact .inr (.inl ((good_unOp op t x).at f))
 case makeInterface t x=>exact .inr (.inl ((good_makeIface t x).at f))
 case makeFunc fn x y=>exact .inr (.inl ((good_makeFunc fn x y).at f))
 case slice t x lo hi mx=>exact .inr (.inl ((good_slice t x lo hi mx).at f))
 case fieldAddr t x i=>exact .inr (.inl ((good_fieldAddr t x i).at f))
 case field t x i=>exact .inr (.inl ((good_field t x i).at f))
 case indexAddr t x i=>exact .inr (.inl ((good_indexAddr t x i).at f))
 case index t x i=>exact .inr (.inl ((good_index t x i).at f))
 case typeAssert x xt t ok=>exact .inr (.inl ((good_typeAssert x xt t ok).at f))
 case extract x i=>exact .inr (.inl ((good_extract x i).at f))
 case call c=>
  obtain ⟨callee,args,argTypes⟩:=c
  cases callee with
  |value g=>exact .inl rfl
  |invoke r name=>exact .inl rfl
  |builtin bi=>
   cases bi
   case len=>
    obtain ⟨l⟩:=args
    match l with
    |[]=>exact .inl rfl
    |x::y::l=>exact .inl rfl
    |[x]=>
     by_cases hm:∃ r,ev x f=.map r
     . obtain ⟨r,hr⟩:=hm
       left
       show (match ev x f with|.map _=>RS.all|_=>RS.none)=RS.all
       rw [hr]
     . refine .inr (.inl ?_)
       intro σ nt a h h' w v ctx he C2 hfr hg
       have hx:Aq σ (ev x f) (a.eval x):=Ce hfr hg x (by
        rw [List.all_eq_true] at C2
        exact C2 x (by simp [Op.operands,Call.operands]))
       have he1:aBuiltin .len argTypes.toList [ev x f] P h=.ok v h':=he
       unfold aBuiltin at he1
       dsimp only at he1
       cases hts:argTypes.toList with
       |nil=>rw [hts] at he1;cases he1
       |cons t ts=>
        rw [hts] at he1
        have he2:lnK (lkInfo P t) (ev x f) h=.ok v h':=he1
        obtain ⟨v',h1,h2,rfl⟩:=len_quiet (ty:=ty) hx (fun r hr=>hm ⟨r,hr⟩) he2 w argTypes (by rw [<- Array.getElem?_toList,hts];rfl)
        refine ⟨v',w,.inl ?_,.quiet _ _ h2⟩
        simp [execOp,resolve,invoke,builtin,h1]
   all_goals exact .inl rfl
 all_goals exact .inl rfl
theorem readsOf_congr {f g:L2} (o:Op) (hev:∀ x∈o.operands.toList,ev x f=ev x g):F2 o f=F2 o g:=by
 cases o
 case load t x=>
  have:=hev x (by simp [Op.operands])
  show Bz _=Bz _
  rw [this]
 case call c=>
  obtain ⟨callee,args,argTypes⟩:=c
  cases callee with
  |value g=>rfl
  |invoke r name=>rfl
  |builtin bi=>
   cases bi
   case len=>
    obtain ⟨l⟩:=args
    match l,hev with
    |[],_=>rfl
    |x::y::l,_=>rfl
    |[x],hev=>
     have:=hev x (by simp [Op.operands,Call.operands])
     show (match ev x f with|.map _=>RS.all|_=>RS.none)=(match ev x g with|.map _=>RS.all|_=>RS.none)
     rw [this]
   all_goals rfl
 all_goals rfl
section step
variable {σ0:Dj} {w0:World} {NW:List Nat} {D:Nat->Bool} {g:L2} {i:Nat} {o:Oper}
theorem gv_congr (hh:∀ t w,guardOf ops o=.on t w->f.get t=g.get t):gv ops o f=gv ops o g:=by
 unfold gv
 cases hg:guardOf ops o with
 |always=>rfl
 |bad=>rfl
 |on t w=>dsimp only;rw [hh t w hg]
theorem guard_lt (hall:∀ x∈ops.toList,F7 G nt x=true) {t:Nat} {w:Bool} (hg:guardOf ops o=.on t w):t<nt:=by
 unfold guardOf at hg
 split at hg
 . cases hg
 . rename_i j want hgd
   split at hg
   . rename_i t' hj
     cases hg
     cases hoj:ops[j]? with
     |none=>rw [hoj] at hj;cases hj
     |some x=>
      rw [hoj] at hj
      have hx:x∈ops.toList:=by simpa using Array.mem_of_getElem? hoj
      exact (operOk_dst (hall x hx)).2 t hj
   . cases hg
theorem Iv.step (hc:A7 P G ctx) (dr:Dr P G ctx ops nt F Hs) (iv:Iv G ops nt F Hs σ0 w0 NW D σ g a w) (ho:ops[i]?=some o) (hd:D i=false) (he:∀ e∈o.after.toList,Region.binds .any e=true->D e.on=true)
 (hNW:∀ x y,x<ops.size->y∈(Hs (x+1)).lg->y<(Hs x).nx->y∈NW) (hb:RBk b σ g):∃ σ' g' a' w',Iv G ops nt F Hs σ0 w0 NW (D1 D i) σ' g' a' w'/\RBk b σ' g' /\
  ∀ rest k cs,Calm b cs->Steps P (lone (b.at a (.inRegion ops (i::rest)::k)) cs w) (lone (b.at a' (.inRegion ops rest::k)) cs w'):=by
 have hi:i<ops.size:=(Array.getElem?_eq_some_iff.1 ho).1
 have hmem:o∈ops.toList:=by simpa using Array.mem_of_getElem? ho
 obtain ⟨C2,hdst⟩:=operOk_dst (dr.all o hmem)
 have hnt:=dr.nt
 have hev:∀ x∈o.op.operands.toList,ev x (F i)=ev x g:=by
  intro x hx
  cases x with
  |tmp t=>
   have ht:t<250:=by
    have:=List.all_eq_true.1 C2 _ hx
    exact Ee this
   exact (iv.reads dr ho hd he ht (.inl hx)).symm
  |_=>rfl
 have hgv:gv ops o (F i)=gv ops o g:=gv_congr fun t w hg=>(iv.reads dr ho hd he (Nat.lt_trans (guard_lt dr.all hg) hnt) (.inr ⟨w,hg⟩)).symm
 have hds:(F i).get Bi=g.get Bi:=by
  rw [iv.ds]
  refine dr.fquiet (by omega) (by omega) (by decide) (fun x hx hw=>?_)
  obtain ⟨p,hp,hpd⟩:=hw
  have h1:(255:Nat)<nt:=(dr.frame hp).1 255 hpd
  omega
 have hwant:=gv_wanted (o:=o) dr.all iv.fr hnt
 rw [<- hgv] at hwant
 have hgs:∀ v,(putD o.dst v g).get Bi=g.get Bi:=fun v=>by rw [iv.ds1 dr ho v,iv.ds]
 have hndf:=dr.nodf o hmem
 have hnd:∀ c,o.op≠.defer c:=by
  intro c hcc
  rw [hcc] at hndf
  cases hndf
 rcases oper1_cases (dr.run i o ho) (fun n hn=>by cases hn) (fun _ _ _ hn=>by cases hn) with ⟨hg,hq⟩|⟨hg,_,v,h',hv,hq⟩|⟨_,c,hq,_⟩
 . injection hq with hF hH
   refine ⟨σ,_,_,w,iv.still dr ho hd he hF hH (undef_rel σ),hb.mono (Sle.refl σ) (hgs _),?_⟩
   intro rest k cs hcm
   have:=s_pass (P:=P) (b:=b) (a:=a) (k:=k) (cs:=cs) (w:=w) (ops:=ops) (i:=i) (rest:=rest) (by rw [ho];simpa using hwant.2 hg)
   rw [ho] at this
   exact .one this
 . injection hq with hF hH
   subst hH
   have hw:=hwant.1 hg
   have hvg:opD o.op o.type P ctx g (Ab (Hs i))=.ok v (Hs (i+1)):=by
    rw [<- hv]
    exact (opD_congr o.op o.type hds hev).symm
   have hlim:(Hs (i+1)).nx<=Bh:=dr.nxl hi
   rcases reads_cases (P:=P) (G:=G) o g with hr|hr|⟨t,x,hr⟩
   . -- it may look at all
     have hrF:F2 o.op (F i)=.all:=by
      rw [<- hr]
      exact readsOf_congr o.op hev
     have hord:∀ x,x<ops.size->x≠i->(∃ z,z∈(Hs (x+1)).lg/\z<(Hs x).nx)->Bef ops x i\/Bef ops i x:=by
      intro x hx hxi hz
      rcases dr.calm x i o hx ho hxi hz with h1|h1|⟨h1,_⟩
      . exact .inl h1
      . exact .inr h1
      . rw [hrF] at h1;cases h1
     obtain ⟨hma,hnext⟩:=iv.whole dr ho hd he hNW hord
     have hst:St G σ nt g a (Ab (Hs i)) w:=⟨iv.fr,iv.gl,(dr.inv i (by omega)).Ab,iv.so,hma⟩
     obtain ⟨σ',v',w',h1,h2,h3⟩:=op_sound hc o σ nt g a (Ab (Hs i)) (Hs (i+1)) w v b hvg C2 hst hb hlim (iv.free dr hi hd)
     exact ⟨σ',_,_,w',hnext v v' σ' w' hF h1 h2,hb.mono h2.le (hgs _),fun rest k cs hcm=>h3 ops i rest k cs ho hw hcm⟩
   . obtain ⟨v',w',h1,h2⟩:=hr σ nt a (Ab (Hs i)) (Hs (i+1)) w v ctx hvg C2 iv.fr iv.gl
     have hrun:=OpRun.ran (b:=b) hnd h1
     generalize hH':Hs (i+1)=h' at h2
     cases h2 with
     |quiet v v' hvr=>exact ⟨σ,_,_,w,iv.still dr ho hd he hF hH' hvr,hb.mono (Sle.refl σ) (hgs _),fun rest k cs hcm=>hrun ops i rest k cs ho hw hcm⟩
     |ptr l l' t hl=>
      have hf:σ (Hs i).nx=none:=iv.free dr hi hd _ (Nat.le_refl _) (by rw [hH'];exact Nat.lt_succ_self _)
      exact ⟨_,_,_,_,iv.make dr ho hd he hF hH' hl (.ptr _ 0 ⟨w.heap.size,l.length,none⟩ (by show Gd σ (Hs i).nx _ (Hs i).nx=_;simp [Gd])),hb.mono (upd_le hf) (hgs _),fun rest k cs hcm=>hrun ops i rest k cs ho hw hcm⟩
     |sl l l' t len cap sz hle hl=>
      have hf:σ (Hs i).nx=none:=iv.free dr hi hd _ (Nat.le_refl _) (by rw [hH'];exact Nat.lt_succ_self _)
      exact ⟨_,_,_,_,iv.make dr ho hd he hF hH' hl (.sl _ 0 len cap sz true ⟨w.heap.size,l.length,none⟩ cap (by show Gd σ (Hs i).nx _ (Hs i).nx=_;simp [Gd]) hle (Nat.le_refl _) (fun _=>rfl) (fun hh=>by cases hh)),hb.mono (upd_le hf) (hgs _),fun rest k cs hcm=>hrun ops i rest k cs ho hw hcm⟩
   . -- a load
     obtain ⟨dst,op,ty,pos,af,gd⟩:=o
     dsimp only at hr
     subst hr
     have hxx:ev x (F i)=ev x g:=hev x (by simp [Op.operands])
     obtain ⟨v',h1,h2,h3⟩:=good_load (P:=P) (w:=w) (dst:=dst) (pos:=pos) (af:=af) (gd:=gd) t x hvg (by simpa [Op.operands] using C2) iv.fr iv.gl (by
      intro y off e hy hye
      by_cases hnone:(Hs i).m.get y=.none
      . show Gb G σ (Hs i).m.get e w ((Hs i).m.get y)
        rw [hnone];trivial
      have hyn:y<(Hs i).nx:=live_lt (dr.inv i (by omega)) (iv.so.low y e hye) hnone
      refine (iv.here dr ho hd he hye hyn ?_).2.2
      intro z u hz hzi hu q1 q2
      rcases dr.calm z i _ hz ho hzi ⟨u,q1,q2⟩ with h1|h1|⟨h1,_⟩
      . exact .inl h1
      . exact .inr h1
      . exfalso
        have hrs:F2 (.load t x) (F i)=.blk y:=by
         show Bz (ev x (F i))=_
         rw [hxx,hy];rfl
        dsimp only at h1
        rw [hrs] at h1
        obtain ⟨c1,c2⟩:=clear_blk h1
        have hin:=(wrote_spec (Hs z).nx u (Hs (z+1)).lg).2 ⟨q1,q2⟩
        rcases hu with rfl|hu
        . exact c1 hin
        . exact c2 u hu hin)
     exact ⟨σ,_,_,w,iv.still dr ho hd he hF h3 h2,hb.mono (Sle.refl σ) (hgs _),fun rest k cs hcm=>OpRun.ran (b:=b) hnd h1 ops i rest k cs ho hw hcm⟩
 . rw [hndf] at hq;cases hq
theorem Iv.go (hc:A7 P G ctx) (dr:Dr P G ctx ops nt F Hs) (hNW:∀ x y,x<ops.size->y∈(Hs (x+1)).lg->y<(Hs x).nx->y∈NW):∀ (l:List Nat) (D:Nat->Bool),Sched ops D l->∀ (σ:Dj) (g:L2) (a:Act) (w:World),
 Iv G ops nt F Hs σ0 w0 NW D σ g a w->RBk b σ g->∃ D' σ' g' a' w',(∀ i,i<ops.size->D' i=true)/\Iv G ops nt F Hs σ0 w0 NW D' σ' g' a' w'/\RBk b σ' g' /\
  ∀ k cs,Calm b cs->Steps P (lone (b.at a (.inRegion ops l::k)) cs w) (lone (b.at a' (.inRegion ops []::k)) cs w'):=by
 intro l D hsch
 induction hsch with
 |nil D hall=>exact fun σ g a w iv hb=>⟨D,σ,g,a,w,hall,iv,hb,fun k cs _=>.refl P _⟩
 |cons D i o rest ho hd he hr ih=>
  intro σ g a w iv hb
  obtain ⟨σ1,g1,a1,w1,iv1,hb1,s1⟩:=iv.step hc dr ho hd he hNW hb
  obtain ⟨D2,σ2,g2,a2,w2,q1,q2,q3,s2⟩:=ih σ1 g1 a1 w1 iv1 hb1
  exact ⟨D2,σ2,g2,a2,w2,q1,q2,q3,fun k cs hcm=>(s1 rest k cs hcm).trans (s2 k cs hcm)⟩
end step
theorem AStep.cut (hi:AInv h) (hs:AStep (Ab h) h' h'.lg) (l:List Nat):AStep (Ap l h) (Ap (wrote h.nx h'.lg++l) h') (wrote h.nx h'.lg):=by
 have hin:∀ y,y∈wrote h.nx h'.lg ↔ y∈h'.lg/\y<h.nx:=fun y=>wrote_spec _ _ _
 refine ⟨rfl,hs.nx,fun y hy=>hs.low y ((hin y).1 hy).1,?_,?_,?_,hs.same,hs.inv.Ap _,fun y hy h1 h2=>hs.live y ((hin y).1 hy).1 h1 h2⟩
 . intro y h1 h2 h3
   exact hs.B2 y h1 h2 (fun hh=>h3 ((hin y).2 ⟨hh,h2⟩))
 . intro y hy k h1 h2
   have hyl:y<Bh:=Nat.lt_of_lt_of_le h1 hi.top
   exact (hin k).2 ⟨hs.cls y ((hin y).1 hy).1 k h1 h2,(hi.cls y k hyl h2).1⟩
 . intro y k h1 h2 h3 h4
   rcases hs.newc y k h1 h2 h3 h4 with h5|h5
   . rcases Nat.lt_or_ge k h.nx with h6|h6
     . exact .inl ((hin k).2 ⟨h5,h6⟩)
     . exact .inr h6
   . exact .inr h5
theorem wroteAll_eq (lg:List Nat):∀ es:List EF,Ec es lg=es.flatMap (·.w)++lg:=by
 intro es
 induction es with
 |nil=>rfl
 |cons e es ih=>
  show napp e.w (Ec es lg)=_
  rw [napp_eq,ih]
  simp
theorem drawn_sound (hc:A7 P G ctx) (hmx:P.follows .mixedOrders=true) (hreg:regOk ops=true) (hall:∀ x∈ops.toList,F7 G nt x=true) (hnt:nt<250) (he:F5 P ctx ops f h=.Ar f' h')
 (hs:St G σ nt f a h w) (hb:RBk b σ f) (hl:h'.nx<=Bh) (hf:Fk σ h h') (id:Nat):∃ σ' a' w',St G σ' nt f' a' h' w'/\RBk b σ' f'/\Out G σ h w σ' h' w' /\
  ∀ k cs,Calm b cs->Steps P (lone (b.at a (.code (.region id ops true)::k)) cs w) (lone (b.at a' k) cs w'):=by
 have hs1:=hs.draw (w.drawn+1)
 obtain ⟨F,Hs,es,dr,q1,q2,q3,q4,q5,q6⟩:=Dr.of_run hc hreg hall hnt he hs1 hb hl hf
 have hNW:∀ x y,x<ops.size->y∈(Hs (x+1)).lg->y<(Hs x).nx->y∈es.flatMap (·.w):=by
  intro x y hx h1 h2
  obtain ⟨z,h3,h4⟩:=q6 x hx
  have hz:z∈es:=by
   have:=List.mem_of_getElem? h3
   simpa using this
  rw [List.mem_flatMap]
  exact ⟨z,hz,by rw [h4];exact (wrote_spec _ _ _).2 ⟨h1,h2⟩⟩
 have hback:=regOk_backward hreg
 have hD0:∀ x,x<ops.size->(Array.replicate ops.size false).getD x true=false:=by
  intro x hx
  simp [Array.getD,hx]
 have hnx:h'.nx=(Hs ops.size).nx:=by rw [q4];rfl
 have iv0:Iv G ops nt F Hs σ { w with drawn:=w.drawn+1 } (es.flatMap (·.w)) (fun i=>(Array.replicate ops.size false).getD i true) σ f a { w with drawn:=w.drawn+1 }:=by
  refine ⟨?_,hs1.fr,?_,by rw [q1],hs1.gl,hs1.so,⟨Sle.refl σ,fun y e h1 h2=>(by rw [h1] at h2;cases h2),hs1.so,Nat.le_refl _,fun _ _ _=>rfl,fun y e h1 h2=>(by rw [h1] at h2;cases h2),⟨rfl,rfl⟩⟩,?_,?_⟩
  . intro x o ho hx
    have hx':(Array.replicate ops.size false).getD x true=true:=hx
    rw [hD0 x (Array.getElem?_eq_some_iff.1 ho).1] at hx'
    cases hx'
  . intro t ht
    refine ⟨0,by omega,fun x hx _=>?_,by rw [q1]⟩
    show (Array.replicate ops.size false).getD x true=true ↔ _
    rw [hD0 x hx]
    simp
  . intro y e hy
    left
    rw [q2]
    rcases Nat.lt_or_ge y h.nx with h1|h1
    . exact .inl h1
    . rcases Nat.lt_or_ge y h'.nx with h2|h2
      . rw [hf y h1 h2] at hy;cases hy
      . exact .inr (by omega)
  . intro y e hy
    refine ⟨0,by omega,fun x hx _=>?_,fun k _ x hx _=>?_,by rw [q2];exact hs1.ma y e hy⟩
    . show (Array.replicate ops.size false).getD x true=true ↔ _
      rw [hD0 x hx];simp
    . show (Array.replicate ops.size false).getD x true=true ↔ _
      rw [hD0 x hx];simp
 have hsch:=sched_all hback (w.tape w.drawn (.order b.fn id))
 obtain ⟨D',σ',g',a',w',p1,iv,p3,p4⟩:=Iv.go hc dr hNW _ _ hsch _ _ _ _ iv0 hb
 have hfr:FRel σ' nt (F ops.size) a':=by
  refine ⟨iv.fr.size,?_,?_⟩
  . intro t ht
    obtain ⟨j,h1,h2,h3⟩:=iv.slots t ht
    have e:(F j).get t=(F ops.size).get t:=dr.fquiet h1 (Nat.le_refl _) (by omega) (fun x hx hw=>by rw [<- h2 x hx hw,p1 x hx];simp [hx])
    rw [<- e,<- h3]
    exact iv.fr.slot t ht
  . have e:(F ops.size).get Bi=(F 0).get Bi:=by
     refine dr.fquiet (Nat.le_refl _) (by omega) (by decide) (fun x hx hw=>?_)
     obtain ⟨p,hp,hpd⟩:=hw
     have h1:(255:Nat)<nt:=(dr.frame hp).1 255 hpd
     omega
    rw [e,<- iv.ds]
    exact iv.fr.defers
 have hma:MAll G σ' (Hs ops.size).m.get w':=by
  intro y e hy
  obtain ⟨j,h1,h2,h3,h4⟩:=iv.mem y e hy
  refine (dr.move (Nat.le_refl _) h1 (iv.so.low y e hy) ?_ ?_ h4).2
  . intro x hx ht
    rw [<- h2 x hx ht,p1 x hx];simp [hx]
  . intro k hk x hx ht
    rw [<- h3 k hk x hx ht,p1 x hx];simp [hx]
 have hchain:∀ k,k<=ops.size->AStep h (Ap (((es.reverse.take k).reverse).flatMap (·.w)++h.lg) (Hs k)) (((es.reverse.take k).reverse).flatMap (·.w)):=by
  intro k
  induction k with
  |zero=>
   intro _
   rw [q2]
   exact AStep.refl hs1.ai
  |succ k ih=>
   intro hk
   have h1:=ih (by omega)
   obtain ⟨z,h3,h4⟩:=q6 k hk
   have e:(es.reverse.take (k+1)).reverse=z::(es.reverse.take k).reverse:=by
    rw [List.take_add_one,h3]
    simp
   rw [e,List.flatMap_cons,h4,List.append_assoc]
   have h5:=AStep.cut (dr.inv k (by omega)) (dr.step k hk) (((es.reverse.take k).reverse).flatMap (·.w)++h.lg)
   refine h1.trans h5 ?_
   exact dr.nxl hk
 have hast:=hchain ops.size (Nat.le_refl _)
 have e:(es.reverse.take ops.size).reverse=es:=by
  rw [List.take_of_length_le (by rw [q5];exact Nat.le_refl _),List.reverse_reverse]
 rw [e,<- wroteAll_eq,<- q4] at hast
 have hcst:CStep σ σ' h h' w w' (es.flatMap (·.w)):=by
  have hcst:=iv.cst
  refine ⟨hcst.le,?_,hcst.ok,hcst.grow,hcst.frame,hcst.newc,hcst.io⟩
  intro y e h1 h2
  have:=hcst.fresh y e h1 h2
  rw [q2] at this
  rw [hnx]
  exact this
 have hma':MAll G σ' h'.m.get w':=by
  rw [q4];exact hma
 have hout:Out G σ h w σ' h' w':=⟨_,hast,hcst,hma'⟩
 refine ⟨σ',a',w',?_,?_,hout,?_⟩
 . rw [q3]
   exact hs.next hout hfr
 . have e:f'.get Bi=g'.get Bi:=by
    rw [q3,iv.ds]
    refine dr.fquiet (Nat.le_refl _) (by omega) (by decide) (fun x hx hw=>?_)
    obtain ⟨p,hp,hpd⟩:=hw
    have h1:(255:Nat)<nt:=(dr.frame hp).1 255 hpd
    omega
   exact p3.mono (Sle.refl σ') e
 . intro k cs hcm
   refine .head s_draw ?_
   rw [hmx]
   exact (p4 k cs hcm).trans (.one s_regionEnd)
end Go.Ev
namespace Go.Ev
variable [Lim]
variable {P:Program} {G:Nat} {σ σ':Dj} {h h':H} {w w':World} {v:AV} {nt:Nat} {f f':L2} {a a':Act} {ctx:Ae} {b:FB} {cs:List Frame}
def Fin (r:RC) (f':L2) (h':H):Prop:=r=.Ar f' h'\/(∃ i,r=.ext i f' h')\/r=.ret f' h'
def FB.leave (b:FB) (a:Act) (id:Nat) (pv:Value) (k:List Item):Frame:=if id=Eb then b.pan a k pv false else b.at a (.code (.exit id)::k)
theorem FB.leave_exit {b:FB} {a:Act} {id:Nat} {pv:Value} {k:List Item} (h:id≠Eb):b.leave a id pv k=b.at a (.code (.exit id)::k):=if_neg h
theorem FB.leave_pan {b:FB} {a:Act} {pv:Value} {k:List Item}:b.leave a Eb pv k=b.pan a k pv false:=if_pos rfl
def Ends (P:Program) (b:FB) (src dst:List Item->List Item) (a:Act) (w:World) (σ':Dj) (r:RC) (a':Act) (w':World):Prop:=
 match r with
 |.Ar _ _=>∀ k cs,Calm b cs->Steps P (lone (b.at a (src k)) cs w) (lone (b.at a' (dst k)) cs w')
 |.ext id f1 _=>∃ pv,(id=Eb->Aq σ' (f1.get pslot) pv)/\∀ k cs,Calm b cs->∃ k',exitTo id k'=exitTo id k/\Steps P (lone (b.at a (src k)) cs w) (lone (b.leave a' id pv k') cs w')
 |.ret _ _=>∀ k cs,Calm b cs->∃ k',Steps P (lone (b.at a (src k)) cs w) (lone (b.at a' (.code .ret::k')) cs w')
 |.bad _=>True
def Dx (P:Program) (G:Nat) (nt:Nat) (b:FB) (src dst:List Item->List Item) (go:L2->H->RC):Prop:=
 ∀ (σ:Dj) (f:L2) (a:Act) (h:H) (w:World) (f':L2) (h':H) (r:RC),go f h=r->Fin r f' h'->St G σ nt f a h w->RBk b σ f->h'.nx<=Bh->Fk σ h h' ->
  ∃ σ' a' w',St G σ' nt f' a' h' w'/\RBk b σ' f'/\Out G σ h w σ' h' w'/\Ends P b src dst a w σ' r a' w'
theorem Ends.head {src src' dst:List Item->List Item} {r:RC} (hs:∀ k cs,step P (lone (b.at a (src k)) cs w)=.next (lone (b.at a (src' k)) cs w)) (he:Ends P b src' dst a w σ' r a' w'):Ends P b src dst a w σ' r a' w':=by
 cases r with
 |bad n=>trivial
 |Ar f h=>exact fun k cs hc=>.head (hs k cs) (he k cs hc)
 |ext id f h=>
  obtain ⟨pv,hpv,he⟩:=he
  exact ⟨pv,hpv,fun k cs hc=>by obtain ⟨k',h1,h2⟩:=he k cs hc;exact ⟨k',h1,.head (hs k cs) h2⟩⟩
 |ret f h=>exact fun k cs hc=>by obtain ⟨k',h2⟩:=he k cs hc;exact ⟨k',.head (hs k cs) h2⟩
theorem Ends.pre {src mid dst:List Item->List Item} {r:RC} {a1:Act} {w1:World} (hs:∀ k cs,Calm b cs->Steps P (lone (b.at a (src k)) cs w) (lone (b.at a1 (mid k)) cs w1)) (he:Ends P b mid dst a1 w1 σ' r a' w'):Ends P b src dst a w σ' r a' w':=by
 cases r with
 |bad n=>trivial
 |Ar f h=>exact fun k cs hc=>(hs k cs hc).trans (he k cs hc)
 |ext id f h=>
  obtain ⟨pv,hpv,he⟩:=he
  exact ⟨pv,hpv,fun k cs hc=>by obtain ⟨k',h1,h2⟩:=he k cs hc;exact ⟨k',h1,(hs k cs hc).trans h2⟩⟩
 |ret f h=>exact fun k cs hc=>by obtain ⟨k',h2⟩:=he k cs hc;exact ⟨k',(hs k cs hc).trans h2⟩
theorem Dx.head {src src' dst:List Item->List Item} {go:L2->H->RC} (hs:∀ a w k cs,step P (lone (b.at a (src k)) cs w)=.next (lone (b.at a (src' k)) cs w)) (hr:Dx P G nt b src' dst go):Dx P G nt b src dst go:=by
 intro σ f a h w f' h' r h1 h2 h3 h4 h5 h6
 obtain ⟨σ',a',w',q1,q2,q3,q4⟩:=hr σ f a h w f' h' r h1 h2 h3 h4 h5 h6
 exact ⟨σ',a',w',q1,q2,q3,q4.head (hs a w)⟩
theorem Dx.andThen {src mid dst:List Item->List Item} {go next:L2->H->RC} (hgo:Dx P G nt b src mid go)
 (hnx:∀ f h,D7 h (next f h)) (hnext:Dx P G nt b mid dst next):Dx P G nt b src dst (fun f h=>andThen next (go f h)):=by
 intro σ f a h w f' h' r he hfin hs hb hl hf
 dsimp only at he
 cases hg:go f h with
 |bad n=>rw [hg] at he;subst he;rcases hfin with hq|⟨_,hq⟩|hq<;>cases hq
 |Ar f1 h1=>
  rw [hg] at he
  have he':next f1 h1=r:=he
  have hle:h1.nx<=h'.nx:=by
   refine hnx f1 h1 f' h' ?_
   rw [he'];exact hfin
  obtain ⟨σ1,a1,w1,q1,q2,q3,q4⟩:=hgo σ f a h w f1 h1 _ hg (.inl rfl) hs hb (by omega) (hf.left hle)
  obtain ⟨σ2,a2,w2,p1,p2,p3,p4⟩:=hnext σ1 f1 a1 h1 w1 f' h' r he' hfin q1 q2 hl (hf.right q3)
  exact ⟨σ2,a2,w2,p1,p2,q3.trans p3 hl,Ends.pre q4 p4⟩
 |ext id f1 h1=>
  rw [hg] at he
  have he':RC.ext id f1 h1=r:=he
  subst he'
  have hff:f1=f'/\h1=h':=by rcases hfin with hq|⟨_,hq⟩|hq<;>cases hq;exact ⟨rfl,rfl⟩
  obtain ⟨rfl,rfl⟩:=hff
  exact hgo σ f a h w f1 h1 _ hg (.inr (.inl ⟨id,rfl⟩)) hs hb hl hf
 |ret f1 h1=>
  rw [hg] at he
  have he':RC.ret f1 h1=r:=he
  subst he'
  have hff:f1=f'/\h1=h':=by rcases hfin with hq|⟨_,hq⟩|hq<;>cases hq;exact ⟨rfl,rfl⟩
  obtain ⟨rfl,rfl⟩:=hff
  exact hgo σ f a h w f1 h1 _ hg (.inr (.inr rfl)) hs hb hl hf
theorem fin_nrm {f1:L2} {h1:H} (hh:Fin (.Ar f1 h1) f' h'):f'=f1/\h'=h1:=by rcases hh with hq|⟨_,hq⟩|hq<;>cases hq;exact ⟨rfl,rfl⟩
theorem fin_ext {i:Nat} {f1:L2} {h1:H} (hh:Fin (.ext i f1 h1) f' h'):f'=f1/\h'=h1:=by rcases hh with hq|⟨_,hq⟩|hq<;>cases hq;exact ⟨rfl,rfl⟩
theorem fin_ret {f1:L2} {h1:H} (hh:Fin (.ret f1 h1) f' h'):f'=f1/\h'=h1:=by rcases hh with hq|⟨_,hq⟩|hq<;>cases hq;exact ⟨rfl,rfl⟩
theorem fin_bad {n:Nat} (hh:Fin (.bad n) f' h'):False:=by rcases hh with hq|⟨_,hq⟩|hq<;>cases hq
def Code.src (c:Code) (k:List Item):List Item:=.code c::k
theorem nrm_runs {src dst:List Item->List Item} (hs:∀ a w k cs,step P (lone (b.at a (src k)) cs w)=.next (lone (b.at a (dst k)) cs w)):Dx P G nt b src dst RC.Ar:=by
 intro σ f a h w f' h' r he hfin hst hb hl hf
 subst he
 obtain ⟨rfl,rfl⟩:=fin_nrm hfin
 exact ⟨σ,a,w,hst,hb,Out.refl hst.ai hst.so hst.ma,fun k cs _=>.one (hs a w k cs)⟩
theorem region_runs (hc:A7 P G ctx) (hmx:P.follows .mixedOrders=true) {id:Nat} {ops:Array Oper} {dr:Bool} (hok:codeOk G nt (.region id ops dr)=true) (hnt:nt<250):
 Dx P G nt b (Code.src (.region id ops dr)) (fun k=>k) (exec (.region id ops dr) P ctx):=by
 have hok':(Bool.rec (motive:=fun _=>Bool) false (Bool.rec (motive:=fun _=>Bool) true (regOk ops) dr) (ops.toList.all (F7 G nt)):Bool)=true:=hok
 cases hall:ops.toList.all (F7 G nt) with
 |false=>rw [hall] at hok';cases hok'
 |true=>
  rw [hall] at hok'
  have hall':∀ x∈ops.toList,F7 G nt x=true:=List.all_eq_true.1 hall
  intro σ f a h w f' h' r he hfin hs hb hl hf
  cases dr with
  |false=>
   have he':Gr P ctx ops ops.toList f h=r:=he
   have hr:∀ n,r≠.bad n:=fun n hn=>by subst hn;exact fin_bad hfin
   by_cases hx:∃ i f' h',r=.ext i f' h'
   . obtain ⟨i,f1,h1,rfl⟩:=hx
     obtain ⟨rfl,rfl⟩:=fin_ext hfin
     obtain ⟨rfl,σ',a',w',pv,q1,q2,q3,q4,q5⟩:=ops_pan (b:=b) hc hall' hnt ops.toList 0 rfl σ f a h w _ _ _ he' hs hb hl hf
     refine ⟨σ',a',w',q1,q2,q3,pv,fun _=>q4,fun k cs hcm=>?_⟩
     obtain ⟨rest,q6⟩:=q5 k cs hcm
     rw [Nat.sub_zero,<- List.range_eq_range'] at q6
     exact ⟨.inRegion ops rest::k,rfl,.head s_region (by rw [FB.leave_pan];exact q6)⟩
   obtain ⟨f1,h1,rfl,hgo⟩:=ops_sound (b:=b) hc hall' hnt ops.toList 0 rfl σ f a h w r he' hr (fun i f' h' hn=>hx ⟨i,f',h',hn⟩) hs hb
   obtain ⟨rfl,rfl⟩:=fin_nrm hfin
   obtain ⟨σ',a',w',q1,q2,q3,q4⟩:=hgo hl hf
   refine ⟨σ',a',w',q1,q2,q3,fun k cs hcm=>?_⟩
   refine .head s_region ?_
   have:=q4 k cs hcm
   rw [Nat.sub_zero,<- List.range_eq_range'] at this
   exact this.trans (.one s_regionEnd)
  |true=>
   have he':F5 P ctx ops f h=r:=he
   have hreg:regOk ops=true:=hok'
   have hrn:∃ f1 h1,r=.Ar f1 h1:=by
    cases r with
    |Ar f1 h1=>exact ⟨f1,h1,rfl⟩
    |bad n=>exact (fin_bad hfin).elim
    |ext i f1 h1=>exact (drawn_nrm he' (fun _ _ hh=>by cases hh) (fun _ hh=>by cases hh)).elim
    |ret f1 h1=>exact (drawn_nrm he' (fun _ _ hh=>by cases hh) (fun _ hh=>by cases hh)).elim
   obtain ⟨f1,h1,rfl⟩:=hrn
   obtain ⟨rfl,rfl⟩:=fin_nrm hfin
   obtain ⟨σ',a',w',q1,q2,q3,q4⟩:=drawn_sound hc hmx hreg hall' hnt he' hs hb hl hf id
   exact ⟨σ',a',w',q1,q2,q3,q4⟩
where
 drawn_nrm {ops:Array Oper} {f:L2} {h:H} {r:RC} (he:F5 P ctx ops f h=r) (h1:∀ f' h',r≠.Ar f' h') (h2:∀ n,r≠.bad n):False:=by
  unfold F5 at he
  cases hd:noDf ops with
  |false=>rw [hd] at he;exact h2 _ he.symm
  |true=>
   rw [hd] at he
   have key:∀ (l:List DO) (efs:List EF) (f:L2) (h:H) (lg:List Nat),drOps P ctx ops lg l efs f h≠r:=by
    intro l
    induction l with
    |nil=>
     intro efs f h lg he
     have hq:(Bool.rec (motive:=fun _=>RC) (.bad 183) (.Ar f (Ap (Ec efs lg) h)) (effOk efs):RC)=r:=he
     cases hc:effOk efs with
     |false=>rw [hc] at hq;exact h2 _ hq.symm
     |true=>rw [hc] at hq;exact h1 _ _ hq.symm
    |cons d l ih=>
     intro efs f h lg he
     have hq:(RC.rec (motive:=fun _=>RC) RC.bad (fun f' h'=>drOps P ctx ops lg l (⟨d.bit,d.pr,wrote h.nx h'.lg,F2 d.o.op f,h,h'.nx⟩::efs) f' h') (fun _ _ _=>.bad 184) (fun _ _=>.bad 184) (Fe ops d.o P ctx f (Ab h)):RC)=r:=he
     cases ho:Fe ops d.o P ctx f (Ab h) with
     |bad n=>rw [ho] at hq;exact h2 _ hq.symm
     |ext id f1 h1'=>rw [ho] at hq;exact h2 _ hq.symm
     |ret f1 h1'=>rw [ho] at hq;exact h2 _ hq.symm
     |Ar f1 h1'=>rw [ho] at hq;exact ih _ _ _ _ hq
   exact key _ _ _ _ _ he
theorem cond_runs {c:Operand} {x y:Code} (C2:Ej G c=true) (hx:Dx P G nt b (Code.src x) (fun k=>k) (exec x P ctx)) (hy:Dx P G nt b (Code.src y) (fun k=>k) (exec y P ctx)):
 Dx P G nt b (Code.src (.cond c x y)) (fun k=>k) (exec (.cond c x y) P ctx):=by
 intro σ f a h w f' h' r he hfin hs hb hl hf
 have he':condV (ev c f) (exec x) (exec y) P ctx f h=r:=he
 have hv:=Ce hs.fr hs.gl c C2
 generalize ev c f=u at *
 generalize hcc:a.eval c=cc at *
 cases hv
 case bool t=>
  cases t with
  |true=>
   obtain ⟨σ',a',w',q1,q2,q3,q4⟩:=hx σ f a h w f' h' r he' hfin hs hb hl hf
   exact ⟨σ',a',w',q1,q2,q3,q4.head (fun k cs=>s_cond hcc)⟩
  |false=>
   obtain ⟨σ',a',w',q1,q2,q3,q4⟩:=hy σ f a h w f' h' r he' hfin hs hb hl hf
   exact ⟨σ',a',w',q1,q2,q3,q4.head (fun k cs=>s_cond hcc)⟩
 all_goals exact (fin_bad (by rw [<- he'] at hfin;exact hfin)).elim
theorem block_gen {id:Nat} {src:List Item->List Item} {go:L2->H->RC} (hid:id≠Eb) (hx:Dx P G nt b src (fun k=>k) go):Dx P G nt b (fun k=>src (.inBlock id::k)) (fun k=>k) (fun f h=>inBlock id (go f h)):=by
 intro σ f a h w f' h' r he hfin hs hb hl hf
 have he':inBlock id (go f h)=r:=he
 cases hg:go f h with
 |bad n=>rw [hg] at he';subst he';exact (fin_bad hfin).elim
 |Ar f1 h1=>
  rw [hg] at he'
  subst he'
  obtain ⟨rfl,rfl⟩:=fin_nrm hfin
  obtain ⟨σ',a',w',q1,q2,q3,q4⟩:=hx σ f a h w _ _ _ hg (.inl rfl) hs hb hl hf
  exact ⟨σ',a',w',q1,q2,q3,fun k cs hcm=>(q4 (.inBlock id::k) cs hcm).trans (.one s_inBlock)⟩
 |ext i f1 h1=>
  rw [hg] at he'
  have he2:(Bool.rec (motive:=fun _=>RC) (RC.ext i f1 h1) (RC.Ar f1 h1) (Nat.beq i id):RC)=r:=he'
  cases hib:Nat.beq i id with
  |true=>
   rw [hib] at he2
   have hii:=Cf hib
   subst hii
   subst he2
   obtain ⟨rfl,rfl⟩:=fin_nrm hfin
   obtain ⟨σ',a',w',q1,q2,q3,q4⟩:=hx σ f a h w _ _ _ hg (.inr (.inl ⟨i,rfl⟩)) hs hb hl hf
   obtain ⟨pv,_,q4⟩:=q4
   refine ⟨σ',a',w',q1,q2,q3,fun k cs hcm=>?_⟩
   obtain ⟨k',h1,h2⟩:=q4 (.inBlock i::k) cs hcm
   rw [FB.leave_exit hid] at h2
   have hex:exitTo i k'=some k:=by rw [h1];simp [exitTo]
   exact h2.trans (.one (s_exit hex))
  |false=>
   rw [hib] at he2
   have hne:=beq_neN hib
   subst he2
   obtain ⟨rfl,rfl⟩:=fin_ext hfin
   obtain ⟨σ',a',w',q1,q2,q3,q4⟩:=hx σ f a h w _ _ _ hg (.inr (.inl ⟨i,rfl⟩)) hs hb hl hf
   obtain ⟨pv,hpv,q4⟩:=q4
   refine ⟨σ',a',w',q1,q2,q3,pv,hpv,fun k cs hcm=>?_⟩
   obtain ⟨k',h1,h2⟩:=q4 (.inBlock id::k) cs hcm
   refine ⟨k',?_,h2⟩
   rw [h1]
   simp [exitTo,Ne.symm hne]
 |ret f1 h1=>
  rw [hg] at he'
  subst he'
  obtain ⟨rfl,rfl⟩:=fin_ret hfin
  obtain ⟨σ',a',w',q1,q2,q3,q4⟩:=hx σ f a h w _ _ _ hg (.inr (.inr rfl)) hs hb hl hf
  exact ⟨σ',a',w',q1,q2,q3,fun k cs hcm=>by obtain ⟨k',h2⟩:=q4 (.inBlock id::k) cs hcm;exact ⟨k',h2⟩⟩
theorem block_runs {id:Nat} {c:Code} (hid:id≠Eb) (hx:Dx P G nt b (Code.src c) (fun k=>k) (exec c P ctx)):Dx P G nt b (Code.src (.block id c)) (fun k=>k) (exec (.block id c) P ctx):=
 Dx.head (fun a w k cs=>s_block) (block_gen hid hx)
theorem Dx.under {src dst:List Item->List Item} {go:L2->H->RC} (i:Item) (hi:∀ id,i≠.inBlock id) (hr:Dx P G nt b src dst go):Dx P G nt b (fun k=>src (i::k)) (fun k=>dst (i::k)) go:=by
 intro σ f a h w f' h' r h1 h2 h3 h4 h5 h6
 obtain ⟨σ',a',w',q1,q2,q3,q4⟩:=hr σ f a h w f' h' r h1 h2 h3 h4 h5 h6
 refine ⟨σ',a',w',q1,q2,q3,?_⟩
 cases r with
 |bad n=>trivial
 |Ar f h=>exact fun k cs hc=>q4 (i::k) cs hc
 |ext id f h=>
  obtain ⟨pv,hpv,q4⟩:=q4
  refine ⟨pv,hpv,fun k cs hc=>?_⟩
  obtain ⟨k',p1,p2⟩:=q4 (i::k) cs hc
  refine ⟨k',?_,p2⟩
  rw [p1]
  cases i<;>first|rfl|(exact absurd rfl (hi _))
 |ret f h=>exact fun k cs hc=>q4 (i::k) cs hc
theorem loop_runs (hc:Dk ctx) {c:Code} (hx:Dx P G nt b (Code.src c) (fun k=>k) (exec c P ctx)) (n:Nat):
 Dx P G nt b (fun k=>.code c::.inLoop c::k) (fun k=>.inLoop c::k) (loopK (exec c) P ctx n):=by
 induction n with
 |zero=>exact hx.under (.inLoop c) (fun id hh=>by cases hh)
 |succ n ih=>
  exact Dx.andThen (mid:=fun k=>.inLoop c::k) ih (fun f h=>mono_loopK (fun f h=>mono_exec hc c f h) n f h) (ih.head (fun a w k cs=>s_inLoop))
end Go.Ev
namespace Go.Ev
variable [Lim]
variable {P:Program} {G:Nat} {σ σ':Dj} {h h':H} {w w':World} {v:AV} {nt:Nat} {f f':L2} {a a':Act} {ctx:Ae} {b:FB} {cs:List Frame}
def JumpSays (pend:Option Code) (f:L2) (h:H) (r:RC):Prop:=
 match pend with
 |none=>r=.Ar f h
 |some .ret=>r=.ret f h
 |some (.exit id)=>id≠Eb/\r=.ext id f h
 |_=>False
theorem jump_says {pend:Option Code} {r:RC} (he:jumpOf pend f h=r) (hr:∀ n,r≠.bad n):JumpSays pend f h r:=by
 unfold jumpOf at he
 unfold JumpSays
 split at he
 . exact he.symm
 . exact he.symm
 . rename_i id
   cases hid:Nat.beq id Eb with
   |true=>rw [hid] at he;exact absurd he.symm (hr _)
   |false=>rw [hid] at he;exact ⟨beq_neN hid,he.symm⟩
 . exact absurd he.symm (hr _)
theorem range_core (hc:A7 P G ctx) {g:FuncId} {args:List AV} {args':Array Value} {fr:L2} {tmps:Array Value} {ps:Array Tmp} {as bd:Code} {fnid:FuncId} {dfb:Nat} {r:RC} (hbod:Ba P g=true)
 (hs:Ms G σ h w) (hg:GOk G σ) (hsl:∀ t,t<250->Aq σ (fr.get t) (tmps.getD t undef)) (hsz:tmps.size<250) (hps:∀ d∈ps.toList,d<tmps.size) (h1:codeOk G tmps.size as=true) (h2:codeOk G tmps.size bd=true)
 (he:rangeEnd f h.nx (ctx.call g args (h.new (.loop 0 none fr ps.toList as bd)))=r) (hfin:Fin r f' h') (hl:h'.nx<=Bh) (hf:Fk σ h h')
 (har:∀ σ1 e,Sle σ σ1->σ1 h.nx=some e->e.c=w.heap.size->Bd σ1 args args'.toList):
 f'=f/\∃ σ' w' w2 v2 lp,Out G σ h w σ' h' w'/\(∀ c cs,Steps P (lone (Frame.enter P g args' .normal) (c::cs) (C5 w (.loop { state:=.ready,pending:=none,fn:=fnid,tmps,params:=ps,assign:=as,body:=bd,defers:=dfb }))) (lone (c.finish v2) cs w2)) /\
  w2.heap[w.heap.size]?=some (.loop lp)/\lp.state≠.busy/\w'=B6 w2 w.heap.size (.loop { lp with state:=.exhausted })/\JumpSays lp.pending f h' r:=by
 have hrb:∀ n,r≠.bad n:=fun n hn=>by subst hn;exact fin_bad hfin
 unfold rangeEnd at he
 split at he
 . rename_i v2 h2' hcall
   split at he
   . rename_i st pend fr2 ps2 as2 bd2 hget
     rcases (show (Nat.beq st 1=true/\RC.bad 189=r)\/(Nat.beq st 1=false/\jumpOf pend f (h2'.put h.nx (.loop 3 pend fr2 ps2 as2 bd2))=r) by
      cases hb:Nat.beq st 1 with
      |true=>rw [hb] at he;exact .inl ⟨rfl,he⟩
      |false=>rw [hb] at he;exact .inr ⟨rfl,he⟩) with ⟨_,hq⟩|⟨hst,hq⟩
     . exact absurd hq.symm (hrb _)
     . have hj:=jump_says hq hrb
       have hfh:f'=f/\h'=h2'.put h.nx (.loop 3 pend fr2 ps2 as2 bd2):=by
        unfold JumpSays at hj
        split at hj
        . subst hj;exact fin_nrm hfin
        . subst hj;exact fin_ret hfin
        . obtain ⟨_,rfl⟩:=hj;exact fin_ext hfin
        . exact hj.elim
       obtain ⟨rfl,rfl⟩:=hfh
       refine ⟨rfl,?_⟩
       have hnx2:(h.new (.loop 0 none fr ps.toList as bd)).nx<=h2'.nx:=hc.mono.call _ _ _ _ _ hcall
       have hnx2':h.nx+1<=h2'.nx:=hnx2
       have hl2:h2'.nx<=Bh:=hl
       have hlt:h.nx<Bh:=by omega
       have hfx:σ h.nx=none:=hf h.nx (Nat.le_refl _) (by show h.nx<h2'.nx;omega)
       have hle:=upd_le (e:=⟨w.heap.size,0,none⟩) hfx
       have hnew:Out G σ h w (Gd σ h.nx ⟨w.heap.size,0,none⟩) (h.new (.loop 0 none fr ps.toList as bd)) (C5 w (.loop { state:=.ready,pending:=none,fn:=fnid,tmps,params:=ps,assign:=as,body:=bd,defers:=dfb })):=by
        refine new_step hs.ai hs.so hs.ma hlt hfx rfl rfl ?_
        refine ⟨rfl,_,Fp w _,rfl,rfl,fun t ht=>(hsl t ht).mono hle,rfl,rfl,rfl,hsz,h1,h2,hps⟩
       have hfree1:Fk (Gd σ h.nx ⟨w.heap.size,0,none⟩) (h.new (.loop 0 none fr ps.toList as bd)) h2':=Fk.right (h:=h) (h':=h2') (fun x p1 p2=>hf x p1 p2) hnew
       have hare:=har (Gd σ h.nx ⟨w.heap.size,0,none⟩) ⟨w.heap.size,0,none⟩ hle (by simp [Gd]) rfl
       obtain ⟨σ2,v2',w2,a2,fn,p1,p2,p3,p4,p5,p6⟩:=hc.call g args _ h2' v2 _ _ args' .normal hcall hbod hare hnew.ms (hg.mono hle) hl2 hfree1
       have hσ2:σ2 h.nx=some ⟨w.heap.size,0,none⟩:=p3.le _ _ (by simp [Gd])
       have hbr:=p3.ms.ma h.nx _ hσ2
       rw [hget] at hbr
       obtain ⟨hk,lp,b1,b2,b3,b4,b5,b6,b7,b8,b9,b10,b11⟩:=hbr
       have hput:Out G σ2 h2' w2 σ2 (h2'.put h.nx (.loop 3 pend fr2 ps2 as2 bd2)) (B6 w2 w.heap.size (.loop { lp with state:=.exhausted })):=by
        refine put_self_step (e:=⟨w.heap.size,0,none⟩) p3.ms.ai p3.ms.so p3.ms.ma hσ2 hget (by intro hh;cases hh) (by intro n hh;cases hh) rfl rfl hk (by intro n hh;cases hh) ?_
        refine ⟨hk,{ lp with state:=.exhausted },?_,rfl,b3,b4,b5,b6,b7,b8,b9,b10,b11⟩
        rw [C1,if_pos ⟨rfl,Dd b1⟩]
       refine ⟨σ2,_,w2,v2',lp,?_,?_,b1,?_,rfl,?_⟩
       . exact (hnew.trans p3 hl2).trans hput hl
       . intro c cs
         obtain ⟨k',p7⟩:=p6 (c::cs) (.inl rfl)
         exact p7.trans (.one (s_back p4 rfl p1 p5))
       . rw [b2]
         intro hh
         unfold loopSt at hh
         split at hh<;>first|(cases hh;done)|skip
         cases hst
       . rw [b3]
         exact hj
   . exact absurd he.symm (hrb _)
 . exact absurd he.symm (hrb _)
 . exact absurd he.symm (hrb _)
theorem finish_range (b:FB) (a:Act) (l:Nat) (k:List Item) (v:Value):(b.at a (.inRangeFunc l::k)).finish v=b.at a (.endRangeFunc l::k):=rfl
theorem ends_jump {pend:Option Code} {r:RC} {src:List Item->List Item} (hj:JumpSays pend f h r) (hs:∀ k cs,Calm b cs->Steps P (lone (b.at a (src k)) cs w) (lone (b.at a' ((pend.map Item.code).toList++k)) cs w')):
 Ends P b src (fun k=>k) a w σ' r a' w':=by
 unfold JumpSays at hj
 split at hj
 . subst hj;exact hs
 . subst hj;exact fun k cs hc=>⟨k,hs k cs hc⟩
 . obtain ⟨hid,rfl⟩:=hj;exact ⟨undef,fun hh=>absurd hh hid,fun k cs hc=>⟨k,rfl,by rw [FB.leave_exit hid];exact hs k cs hc⟩⟩
 . exact hj.elim
theorem mono_rangeEnd (hc:Dk ctx) {g:FuncId} {args:List AV} {l:Nat} {r:RC} (he:rangeEnd f l (ctx.call g args h)=r) (hfin:Fin r f' h'):h.nx<=h'.nx:=by
 have hrb:∀ n,r≠.bad n:=fun n hn=>by subst hn;exact fin_bad hfin
 unfold rangeEnd at he
 split at he
 . rename_i v2 h2' hcall
   have hm:h.nx<=h2'.nx:=hc.call _ _ _ _ _ hcall
   split at he
   . rename_i st pend fr2 ps2 as2 bd2 hget
     cases hb:Nat.beq st 1 with
     |true=>rw [hb] at he;exact absurd he.symm (hrb _)
     |false=>
      rw [hb] at he
      have hj:=jump_says (show jumpOf pend f (h2'.put l (.loop 3 pend fr2 ps2 as2 bd2))=r from he) hrb
      have hfh:f'=f/\h'=h2'.put l (.loop 3 pend fr2 ps2 as2 bd2):=by
       unfold JumpSays at hj
       split at hj
       . subst hj;exact fin_nrm hfin
       . subst hj;exact fin_ret hfin
       . obtain ⟨_,rfl⟩:=hj;exact fin_ext hfin
       . exact hj.elim
      rw [hfh.2]
      exact hm
   . exact absurd he.symm (hrb _)
 . exact absurd he.symm (hrb _)
 . exact absurd he.symm (hrb _)
theorem range_runs (hc:A7 P G ctx) {x:Operand} {ps:Array Tmp} {as bd:Code} (hnt:nt<250) (hox:Ej G x=true) (hps:∀ d∈ps.toList,d<nt) (h1:codeOk G nt as=true) (h2:codeOk G nt bd=true):
 Dx P G nt b (Code.src (.rangeFunc x ps as bd)) (fun k=>k) (exec (.rangeFunc x ps as bd) P ctx):=by
 intro σ f a h w f' h' r he hfin hs hb hl hf
 have hrb:∀ n,r≠.bad n:=fun n hn=>by subst hn;exact fin_bad hfin
 have he':cRange x ps as bd (exec as) (exec bd) P ctx f h=r:=he
 have hv:=Ce hs.fr hs.gl x hox
 have hsz:a.tmps.size=nt:=hs.fr.size
 unfold cRange at he'
 split at he'
 . -- outside rounds
   rename_i g fs cap ds hvf hvt
   have hvf:=vF_yes hvf
   have hvt:=vT_yes hvt
   rw [hvf] at hv
   generalize hxx:a.eval x=xx at hv
   cases hv
   rename_i fs' cap' hy ha ha' hca hca'
   have hro:b.ro=none:=by
    rcases hb with ⟨q,_⟩|⟨_,c,l2,e,q1,q2,_⟩
    . exact q
    . rw [q2] at hvt;cases hvt
   unfold rangeGo at he'
   cases hbod:Ba P g with
   |false=>rw [hbod] at he';exact absurd he'.symm (hrb _)
   |true=>
    rw [hbod] at he'
    have he2:rangeEnd (f.set Bi (.Bl (.map h.nx::ds))) (h.new (.dfr false)).nx (ctx.call g (lapp (lapp fs [.fn (.yield (h.new (.dfr false)).nx) [] []]) cap) ((h.new (.dfr false)).new (.loop 0 none f ps.toList as bd)))=r:=he'
    have hmono:=mono_range (P:=P) (h:=h) (f:=f) hc.mono x ps as bd (exec as) (exec bd)
    have hnx1:h.nx+1<=h'.nx:=by
     have:=mono_rangeEnd hc.mono he2 hfin
     exact Nat.le_trans (Nat.le_succ _) this
    have hlt:h.nx<Bh:=by omega
    have hfx:σ h.nx=none:=hf h.nx (Nat.le_refl _) (by omega)
    have hle:=upd_le (e:=⟨w.heap.size,0,none⟩) hfx
    have hnew:Out G σ h w (Gd σ h.nx ⟨w.heap.size,0,none⟩) (h.new (.dfr false)) (C5 w (.deferred (some []))):=by
     refine new_step hs.ai hs.so hs.ma hlt hfx rfl rfl ?_
     exact ⟨rfl,Fp w _⟩
    have hfree1:Fk (Gd σ h.nx ⟨w.heap.size,0,none⟩) (h.new (.dfr false)) h':=hf.right hnew
    obtain ⟨rfl,σ',w',w2,v2,lp,q1,q2,q3,q4,q5,q6⟩:=range_core (fnid:=b.fn) (dfb:=w.heap.size) (args':=fs'.push (.func (.yield (w.heap.size+1)) #[] #[])++cap') (tmps:=a.tmps) hc hbod hnew.ms (hs.gl.mono hle)
     (fun t ht=>(hs.fr.slot t ht).mono hle) (by rw [hsz];exact hnt) (by rw [hsz];exact hps) (by rw [hsz];exact h1) (by rw [hsz];exact h2) he2 hfin hl hfree1 (by
      intro σ1 e s1 s2 s3
      have s3':e.c=w.heap.size+1:=by rw [s3,size_push]
      rw [Dn,Dn]
      have l1:Bd σ1 fs fs'.toList:=Bd.mono (hle.trans s1) ⟨ha,ha'⟩
      have l2:Bd σ1 cap cap'.toList:=Bd.mono (hle.trans s1) ⟨hca,hca'⟩
      have l3:Bd σ1 [.fn (.yield (h.new (.dfr false)).nx) [] []] [.func (.yield (w.heap.size+1)) #[] #[]]:=by
       refine .cons ?_ (.nil _)
       rw [<- s3']
       exact .yld _ e s2
      simpa using (l1.append l3).append l2)
    have hwsz:(C5 w (.deferred (some []))).heap.size=w.heap.size+1:=size_push w _
    rw [hwsz] at q3 q5
    have hout:=hnew.trans q1 hl
    refine ⟨σ',⟨a.tmps,{ target:=.collected w.heap.size,args:=#[] }::a.defers⟩,w',?_,?_,hout,?_⟩
    . refine hs.next hout ⟨hs.fr.size,?_,?_⟩
      . intro t ht
        rw [L2.C9 Bi t _ f (by decide) (by omega),if_neg (by intro hh;have h1:t=255:=hh;omega)]
        exact (hs.fr.slot t ht).mono hout.le
      . rw [L2.C9 Bi Bi _ f (by decide) (by decide),if_pos rfl]
        have hdr:=hs.fr.defers
        rw [hvt] at hdr
        refine .cons _ _ _ _ (.mk h.nx ⟨w.heap.size,0,none⟩ (q1.le _ _ (by simp [Gd]))) (hdr.mono hout.le)
    . exact .inl ⟨hro,_,by rw [L2.C9 Bi Bi _ f (by decide) (by decide),if_pos rfl]⟩
    . refine ends_jump q6 (fun k cs hcm=>?_)
      refine .head (s_range (args:=fs'.push (.func (.yield (w.heap.size+1)) #[] #[])++cap') (w2:=C5 (C5 w (.deferred (some []))) (.loop { state:=.ready,pending:=none,fn:=b.fn,tmps:=a.tmps,params:=ps,assign:=as,body:=bd,defers:=w.heap.size })) hro hxx (fun w1 hw1=>?_)) ?_
      . rw [hw1];exact run_callFunc hbod _ _
      . refine (q2 _ cs).trans ?_
        rw [finish_range,q5]
        exact .one (s_endLoop q3 q4)
 . -- inside a round
   rename_i g fs cap hvf hvt
   have hvf:=vF_yes hvf
   rw [hvf] at hv
   generalize hxx:a.eval x=xx at hv
   cases hv
   rename_i fs' cap' hy ha ha' hca hca'
   split at he'
   . rename_i hin
     unfold rangeGo at he'
     cases hbod:Ba P g with
     |false=>rw [hbod] at he';exact absurd he'.symm (hrb _)
     |true=>
      rw [hbod] at he'
      have he2:rangeEnd f h.nx (ctx.call g (lapp (lapp fs [.fn (.yield h.nx) [] []]) cap) (h.new (.loop 0 none f ps.toList as bd)))=r:=he'
      rcases hb with ⟨q,ds,hds⟩|⟨hkn,c,l,e,hro,hdl,hsl,hec⟩
      . rw [hds] at hvt;cases hvt
      . have hb':RBk b σ f:=.inr ⟨hkn,c,l,e,hro,hdl,hsl,hec⟩
        have hlp:∃ lp0,w.heap[c]?=some (.loop lp0):=by
         unfold inRound at hin
         rw [hdl] at hin
         have hin':isLoop (h.m.get l)=true:=hin
         have hbr:=hs.ma l e hsl
         cases hgl:h.m.get l with
         |loop st pend fr2 ps2 as2 bd2=>
          rw [hgl] at hbr
          obtain ⟨_,lp0,b1,_⟩:=hbr
          rw [hec] at b1
          exact ⟨lp0,b1⟩
         |_=>rw [hgl] at hin';cases hin'
        obtain ⟨lp0,hlp0⟩:=hlp
        obtain ⟨rfl,σ',w',w2,v2,lp,q1,q2,q3,q4,q5,q6⟩:=range_core (fnid:=b.fn) (dfb:=lp0.defers) (args':=fs'.push (.func (.yield w.heap.size) #[] #[])++cap') (tmps:=a.tmps) hc hbod hs.ms hs.gl
         hs.fr.slot (by rw [hsz];exact hnt) (by rw [hsz];exact hps) (by rw [hsz];exact h1) (by rw [hsz];exact h2) he2 hfin hl hf (by
          intro σ1 e1 s1 s2 s3
          rw [Dn,Dn]
          have l1:Bd σ1 fs fs'.toList:=Bd.mono s1 ⟨ha,ha'⟩
          have l2:Bd σ1 cap cap'.toList:=Bd.mono s1 ⟨hca,hca'⟩
          have l3:Bd σ1 [.fn (.yield h.nx) [] []] [.func (.yield w.heap.size) #[] #[]]:=by
           refine .cons ?_ (.nil _)
           rw [<- s3]
           exact .yld _ e1 s2
          simpa using (l1.append l3).append l2)
        refine ⟨σ',a,w',hs.next q1 (hs.fr.mono q1.le),hb'.mono q1.le rfl,q1,?_⟩
        refine ends_jump q6 (fun k cs hcm=>?_)
        refine .head (s_rangeIn (args:=fs'.push (.func (.yield w.heap.size) #[] #[])++cap') (w2:=C5 w (.loop { state:=.ready,pending:=none,fn:=b.fn,tmps:=a.tmps,params:=ps,assign:=as,body:=bd,defers:=lp0.defers })) hro hlp0 hxx (fun w1 hw1=>?_)) ?_
        . rw [hw1];exact run_callFunc hbod _ _
        . refine (q2 _ cs).trans ?_
          rw [finish_range,q5]
          exact .one (s_endLoop q3 q4)
   . exact absurd he'.symm (hrb _)
 . exact absurd he'.symm (hrb _)
end Go.Ev
namespace Go.Ev
variable [Lim]
variable {P:Program} {G:Nat} {σ σ':Dj} {h h':H} {w w':World} {v:AV} {nt:Nat} {f f':L2} {a a':Act} {ctx:Ae} {b:FB} {cs:List Frame}
theorem iteB {c x:Bool} (hh:(Bool.rec (motive:=fun _=>Bool) false x c:Bool)=true):c=true/\x=true:=by
 cases c with
 |false=>cases hh
 |true=>exact ⟨rfl,hh⟩
theorem code_runs (hc:A7 P G ctx) (hmx:P.follows .mixedOrders=true) (hnt:nt<250) (c:Code):codeOk G nt c=true->Dx P G nt b (Code.src c) (fun k=>k) (exec c P ctx):=by
 induction c with
 |skip=>exact fun _=>nrm_runs (fun a w k cs=>s_skip)
 |region id ops dr=>exact fun hok=>region_runs hc hmx hok hnt
 |seq x y ihx ihy=>
  intro hok
  obtain ⟨h1,h2⟩:=iteB (show (Bool.rec (motive:=fun _=>Bool) false (codeOk G nt y) (codeOk G nt x):Bool)=true from hok)
  have hx:=(ihx h1).under (.code y) (fun id hh=>by cases hh)
  have:=Dx.andThen (mid:=Code.src y) hx (fun f h=>mono_exec hc.mono y f h) (ihy h2)
  exact this.head (fun a w k cs=>s_seq)
 |cond c x y ihx ihy=>
  intro hok
  obtain ⟨h0,h12⟩:=iteB (show (Bool.rec (motive:=fun _=>Bool) false (Bool.rec (motive:=fun _=>Bool) false (codeOk G nt y) (codeOk G nt x)) (Ej G c):Bool)=true from hok)
  obtain ⟨h1,h2⟩:=iteB h12
  exact cond_runs h0 (ihx h1) (ihy h2)
 |block id c ih=>
  intro hok
  have hok':(Bool.rec (motive:=fun _=>Bool) (codeOk G nt c) false (Nat.beq id Eb):Bool)=true:=hok
  cases hid:Nat.beq id Eb with
  |true=>rw [hid] at hok';cases hok'
  |false=>rw [hid] at hok';exact block_runs (beq_neN hid) (ih hok')
 |loop c ih=>
  intro hok
  have hl:=loop_runs hc.mono (ih hok) 20
  intro σ f a h w f' h' r he hfin hs hb hl' hf
  have he':andThen (fun _ _=>.bad 187) (loopK (exec c) P ctx 20 f h)=r:=he
  cases hg:loopK (exec c) P ctx 20 f h with
  |bad n=>rw [hg] at he';subst he';exact (fin_bad hfin).elim
  |Ar f1 h1=>rw [hg] at he';subst he';exact (fin_bad hfin).elim
  |ext i f1 h1=>
   rw [hg] at he'
   obtain ⟨σ',a',w',q1,q2,q3,q4⟩:=hl σ f a h w f' h' r (by rw [hg];exact he') hfin hs hb hl' hf
   refine ⟨σ',a',w',q1,q2,q3,?_⟩
   subst he'
   obtain ⟨pv,hpv,q4⟩:=q4
   exact ⟨pv,hpv,fun k cs hcm=>by obtain ⟨k',p1,p2⟩:=q4 k cs hcm;exact ⟨k',p1,.head s_loop p2⟩⟩
  |ret f1 h1=>
   rw [hg] at he'
   obtain ⟨σ',a',w',q1,q2,q3,q4⟩:=hl σ f a h w f' h' r (by rw [hg];exact he') hfin hs hb hl' hf
   refine ⟨σ',a',w',q1,q2,q3,?_⟩
   subst he'
   exact fun k cs hcm=>by obtain ⟨k',p2⟩:=q4 k cs hcm;exact ⟨k',.head s_loop p2⟩
 |rangeFunc x ps as bd iha ihb=>
  intro hok
  obtain ⟨h0,h12⟩:=iteB (show (Bool.rec (motive:=fun _=>Bool) false (Bool.rec (motive:=fun _=>Bool) false (Bool.rec (motive:=fun _=>Bool) false (codeOk G nt bd) (codeOk G nt as)) (ps.toList.all (fun d=>Nat.blt d nt))) (Ej G x):Bool)=true from hok)
  obtain ⟨h1,h2⟩:=iteB h12
  obtain ⟨h3,h4⟩:=iteB h2
  exact range_runs hc hnt h0 (fun d hd=>Ee (List.all_eq_true.1 h1 d hd)) h3 h4
 |exit id=>
  intro hok σ f a h w f' h' r he hfin hs hb hl hf
  have hid:id≠Eb:=by
   have hok':bnot (Nat.beq id Eb)=true:=hok
   intro hh
   subst hh
   rw [show Nat.beq Eb Eb=true from rfl] at hok'
   cases hok'
  have he':RC.ext id f h=r:=he
  subst he'
  obtain ⟨rfl,rfl⟩:=fin_ext hfin
  exact ⟨σ,a,w,hs,hb,Out.refl hs.ai hs.so hs.ma,undef,fun hh=>absurd hh hid,fun k cs _=>⟨k,rfl,by rw [FB.leave_exit hid];exact .refl P _⟩⟩
 |scope c ih=>
  intro hok σ f a h w f' h' r he hfin hs hb hl hf
  obtain ⟨σ',a',w',q1,q2,q3,q4⟩:=(ih hok).under (.inScope c) (fun id hh=>by cases hh) σ f a h w f' h' r he hfin hs hb hl hf
  refine ⟨σ',a',w',q1,q2,q3,?_⟩
  cases r with
  |bad n=>trivial
  |Ar f1 h1=>exact fun k cs hcm=>.head s_scope ((q4 k cs hcm).trans (.one s_inScope))
  |ext i f1 h1=>
   obtain ⟨pv,hpv,q4⟩:=q4
   exact ⟨pv,hpv,fun k cs hcm=>by obtain ⟨k',p1,p2⟩:=q4 k cs hcm;exact ⟨k',p1,.head s_scope p2⟩⟩
  |ret f1 h1=>exact fun k cs hcm=>by obtain ⟨k',p2⟩:=q4 k cs hcm;exact ⟨k',.head s_scope p2⟩
 |label l=>exact fun _=>nrm_runs (fun a w k cs=>s_label)
 |goto l=>
  intro _ σ f a h w f' h' r he hfin hs hb hl hf
  have he':RC.bad 193=r:=he
  subst he'
  exact (fin_bad hfin).elim
 |ret=>
  intro _ σ f a h w f' h' r he hfin hs hb hl hf
  have he':RC.ret f h=r:=he
  subst he'
  obtain ⟨rfl,rfl⟩:=fin_ret hfin
  exact ⟨σ,a,w,hs,hb,Out.refl hs.ai hs.so hs.ma,fun k cs _=>⟨k,.refl P _⟩⟩
 |refuse why=>
  intro _ σ f a h w f' h' r he hfin hs hb hl hf
  have he':RC.bad 194=r:=he
  subst he'
  exact (fin_bad hfin).elim
theorem putArgs_get:∀ (l:List AV) (n:Nat) (f:L2),n+l.length<=250->∀ t,t<256->(Em l n f).get t=if n<=t/\t<n+l.length then (l[t - n]?).getD .top else f.get t:=by
 intro l
 induction l with
 |nil=>intro n f _ t _;rw [if_neg (by simp)];rfl
 |cons x l ih=>
  intro n f hn t ht
  simp at hn
  show (Em l (Nat.succ n) (f.set n x)).get t=_
  rw [ih (n+1) (f.set n x) (by omega) t ht,L2.C9 n t x f (by omega) ht]
  by_cases h1:t=n
  . subst h1
    rw [if_neg (by omega),if_pos rfl,if_pos (by simp)]
    simp
  . by_cases h2:n+1<=t/\t<n+1+l.length
    . rw [if_pos h2,if_pos (by simp;omega)]
      have:t - n=(t - (n+1))+1:=by omega
      rw [this]
      simp
    . rw [if_neg h2,if_neg h1,if_neg (by simp;omega)]
theorem enter_rel {args:List AV} {args':Array Value} (hr:Bd σ args args'.toList) (hle:args.length<=nt) (hnt:nt<250):FRel σ nt (Em args 0 As) ⟨args'++Array.replicate (nt - args'.size) undef,[]⟩:=by
 have hsz:args'.size=args.length:=by have:=hr.1;simp at this;exact this.symm
 refine ⟨by simp;omega,?_,?_⟩
 . intro t ht
   rw [putArgs_get args 0 As (by omega) t (by omega)]
   by_cases h1:t<args.length
   . rw [if_pos (by omega),Nat.sub_zero,List.getElem?_eq_getElem h1,Option.getD_some]
     have h2:(args'++Array.replicate (nt - args'.size) undef).getD t undef=args'[t]'(by omega):=by
      rw [Array.getD_eq_getD_getElem?,Array.getElem?_append_left (by omega),Array.getElem?_eq_getElem (by omega),Option.getD_some]
     rw [h2]
     exact hr.2 t _ _ (List.getElem?_eq_getElem h1) (by simp [show t<args'.size by omega])
   . rw [if_neg (by omega)]
     have h2:(args'++Array.replicate (nt - args'.size) undef).getD t undef=undef:=by
      rw [Array.getD_eq_getD_getElem?,Array.getElem?_append_right (by omega)]
      rw [Array.getElem?_replicate]
      split<;>rfl
     rw [h2]
     unfold As
     rw [L2.C9 Bi t _ _ (by decide) (by omega),if_neg (by intro hh;have h1:t=255:=hh;omega),L2.get_new]
     exact undef_rel σ
 . rw [putArgs_get args 0 As (by omega) Bi (by decide),if_neg (by intro hh;have h1:(255:Nat)<0+args.length:=hh.2;omega)]
   unfold As
   rw [L2.C9 Bi Bi _ _ (by decide) (by decide),if_pos rfl]
   exact .nil
theorem finR {rs:List ResultVar} {r:RC} (he:finishR P ctx rs r=.ok v h'):∃ f1 h1,((r=.Ar f1 h1\/r=.ret f1 h1)/\finish P ctx rs f1 h1=.ok v h')\/(∃ id,r=.ext id f1 h1/\finishX P ctx rs id f1 h1=.ok v h'):=by
 cases r with
 |bad n=>cases he
 |Ar f1 h1=>exact ⟨f1,h1,.inl ⟨.inl rfl,he⟩⟩
 |ext i f1 h1=>exact ⟨f1,h1,.inr ⟨i,rfl,he⟩⟩
 |ret f1 h1=>exact ⟨f1,h1,.inl ⟨.inr rfl,he⟩⟩
theorem finish_pan {rs:List ResultVar} (he:finish P ctx rs f h=.pan v h'):False:=by
 unfold finish at he
 split at he
 . rename_i ds _
   cases hr:Dt P ctx ds h with
   |bad n=>rw [hr] at he;cases he
   |ok h2=>rw [hr] at he;exact finish2_pan he
 . cases he
theorem finR_pan {rs:List ResultVar} {r:RC} (he:finishR P ctx rs r=.pan v h'):∃ f1,r=.ext Eb f1 h'/\f1.get Bi=.Bl []/\v=f1.get pslot:=by
 cases r with
 |bad n=>cases he
 |Ar f1 h1=>exact (finish_pan he).elim
 |ext i f1 h1=>
  obtain ⟨rfl,h2,h3,rfl⟩:=finishX_pan he
  exact ⟨f1,rfl,h2,h3⟩
 |ret f1 h1=>exact (finish_pan he).elim
theorem defers_run (hc:A7 P G ctx) (tmps:Array Value):∀ (ds:List AV) (σ:Dj) (h h':H) (w:World) (dl:List Deferred),Dt P ctx ds h=.ok h'->DRel σ (.Bl ds) dl->Ms G σ h w->GOk G σ->h'.nx<=Bh->Fk σ h h' ->
 ∃ σ' w',Out G σ h w σ' h' w'/\∀ (b:FB) k cs,Steps P (lone (b.back ⟨tmps,dl⟩ k) cs w) (lone (b.back ⟨tmps,[]⟩ k) cs w'):=by
 intro ds
 induction ds with
 |nil=>
  intro σ h h' w dl he hd hm hg hl hf
  cases he
  cases hd
  exact ⟨σ,w,Out.refl hm.ai hm.so hm.ma,fun b k cs=>.refl P _⟩
 |cons d ds ih=>
  intro σ h h' w dl he hd hm hg hl hf
  cases hd
  rename_i d' ds' hde hdr
  unfold Dt at he
  cases hde with
  |fn g as cs as' cs' ha hca=>
   have he1:(Bool.rec (motive:=fun _=>RH) (.bad 195) (match ctx.call g (lapp as cs) h with|.ok _ h'=>Dt P ctx ds h'|.bad n=>.bad n|.pan _ _=>.bad 211) (Ba P g):RH)=.ok h':=he
   cases hbod:Ba P g with
   |false=>rw [hbod] at he1;cases he1
   |true=>
    rw [hbod] at he1
    cases hcall:ctx.call g (lapp as cs) h with
    |bad n=>rw [hcall] at he1;cases he1
    |pan v1 h1=>rw [hcall] at he1;cases he1
    |ok v1 h1=>
     rw [hcall] at he1
     have he2:Dt P ctx ds h1=.ok h':=he1
     have hle:h1.nx<=h'.nx:=mono_runDefers hc.mono ds h1 h' he2
     have hle0:h.nx<=h1.nx:=hc.mono.call _ _ _ _ _ hcall
     obtain ⟨σ1,v',w1,a1,fn,p1,p2,p3,p4,p5,p6⟩:=hc.call g (lapp as cs) h h1 v1 σ w (as'++cs') .deferred hcall hbod (by rw [Dn];simpa using ha.append hca) hm hg (by omega) (hf.left hle)
     obtain ⟨σ2,w2,q1,q2⟩:=ih σ1 h1 h' w1 ds' he2 (hdr.mono p3.le) p3.ms (hg.mono p3.le) hl (hf.right p3)
     refine ⟨σ2,w2,p3.trans q1 hl,fun b k cs0=>?_⟩
     refine .head (s_defer rfl (run_callFunc hbod _ _)) ?_
     obtain ⟨k',p7⟩:=p6 (b.back ⟨tmps,ds'⟩ k::cs0) (.inr ⟨rfl,_,_,rfl,.inl rfl⟩)
     exact p7.trans (.head (s_backD p4 rfl rfl p1 p5) (q2 b k cs0))
  |mk r e hr=>
   have he1:(match h.m.get r with|.dfr false=>Dt P ctx ds (h.put r (.dfr true))|_=>.bad 194)=RH.ok h':=he
   split at he1
   . rename_i hget
     have hbr:=hm.ma r e hr
     rw [hget] at hbr
     obtain ⟨hk,hh⟩:=hbr
     have hh':w.heap[e.c]?=some (.deferred (some [])):=hh
     have hput:Out G σ h w σ (h.put r (.dfr true)) (B6 w e.c (.deferred none)):=by
      refine put_self_step hm.ai hm.so hm.ma hr hget (by intro q;cases q) (by intro n q;cases q) rfl rfl hk (by intro n q;cases q) ?_
      refine ⟨hk,?_⟩
      rw [C1,if_pos ⟨rfl,Dd hh'⟩]
      rfl
     have hle:(h.put r (.dfr true)).nx<=h'.nx:=mono_runDefers hc.mono ds _ h' he1
     obtain ⟨σ2,w2,q1,q2⟩:=ih σ (h.put r (.dfr true)) h' _ ds' he1 hdr hput.ms hg hl (hf.right hput)
     exact ⟨σ2,w2,hput.trans q1 hl,fun b k cs0=>.head (s_taken rfl hh') (q2 b k cs0)⟩
   . cases he1
noncomputable def resOne (tmps:Array Value) (r:ResultVar):Sem Value:=match r with|.tmp t=>pure (tmps.getD t undef)|.cell x t=>do loadVar t (<- asAddr (tmps.getD x undef))
theorem results_eq (fn:Func) (tmps:Array Value):results fn tmps=(do let vs <- fn.results.mapM (resOne tmps);pure (if h:vs.size=1 then vs[0] else .tuple vs)):=by
 unfold results resOne
 rfl
theorem results_list (hfr:∀ t,t<250->Aq σ (f.get t) (a.tmps.getD t undef)) (hm:Ms G σ h w):∀ (rs:List ResultVar) (l:List AV),(∀ r∈rs,resOk r=true)->resultsA P f h rs=some l ->
 ∃ l':List Value,Bd σ l l'/\(rs.mapM (resOne a.tmps)).run P w=.ok l' w:=by
 intro rs
 induction rs with
 |nil=>
  intro l _ he
  cases he
  exact ⟨[],.nil σ,by simp⟩
 |cons r rs ih=>
  intro l hok he
  cases r with
  |tmp t=>
   unfold resultsA at he
   split at he
   . rename_i l1 hl1
     cases he
     obtain ⟨l',q1,q2⟩:=ih l1 (fun r hr=>hok r (by simp [hr])) hl1
     have ht:t<250:=Ee (show Nat.blt t 250=true from hok (.tmp t) (by simp))
     refine ⟨_::l',.cons (hfr t ht) q1,?_⟩
     simp [List.mapM_cons,resOne,q2]
   . cases he
  |cell x t=>
   unfold resultsA at he
   split at he
   . rename_i v1 l1 hv1 hl1
     cases he
     obtain ⟨l',q1,q2⟩:=ih l1 (fun r hr=>hok r (by simp [hr])) hl1
     have hx:x<250:=Ee (show Nat.blt x 250=true from hok (.cell x t) (by simp))
     have hs:=hfr x hx
     unfold ldAt at hv1
     split at hv1
     . rename_i y off hp
       have hp:=vP_yes hp
       rw [hp] at hs
       generalize hxx:a.tmps.getD x undef=xx at hs
       cases hs
       rename_i e hye
       split at hv1
       . rename_i c hrd
         obtain ⟨arr,tt,fz,h1,h2,h3,h4⟩:=blk_of_rd hrd (hm.ma y e hye)
         obtain ⟨v',hr,hv⟩:=ldAt_run (P:=P) (e:=e) hv1 h1 (by omega) h4
         refine ⟨v'::l',.cons hv q1,?_⟩
         have hone:(resOne a.tmps (.cell x t)).run P w=.ok v' w:=by
          simp only [resOne,hxx]
          simpa [asAddr] using hr
         simp [List.mapM_cons,Sem.run_bind,hone,q2]
       . cases hv1
     . cases hv1
   . cases he
theorem single_rel {l:List AV} {l':List Value} (hr:Bd σ l l'):Aq σ (single l) (if h:l'.toArray.size=1 then l'.toArray[0] else .tuple l'.toArray):=by
 unfold single
 split
 . rename_i x
   obtain ⟨y,l2,rfl,hv,hl⟩:=hr.Fy
   have:=hl.unnil
   subst this
   exact hv
 . rename_i hne
   have hl:=hr.1
   rw [dif_neg]
   . exact .Bl l l'.toArray (by simpa using hl) (fun i x y hx hy=>hr.2 i x y hx (by simpa using hy))
   . intro h1
     have h1':l'.length=1:=by simpa using h1
     match l,hl,hne with
     |[x],_,hne=>exact hne x rfl
     |[],hl,_=>rw [h1'] at hl;cases hl
     |x::y::l,hl,_=>rw [h1'] at hl;cases hl
theorem results_run {fn:Func} {l:List AV} (hfr:∀ t,t<250->Aq σ (f.get t) (a.tmps.getD t undef)) (hm:Ms G σ h w) (hok:∀ r∈fn.results.toList,resOk r=true) (he:resultsA P f h fn.results.toList=some l):
 ∃ v',(results fn a.tmps).run P w=.ok v' w/\Aq σ (single l) v':=by
 obtain ⟨l',q1,q2⟩:=results_list hfr hm _ l hok he
 refine ⟨_,?_,single_rel q1⟩
 rw [results_eq,Sem.run_bind,Array.mapM_eq_mapM_toList]
 simp [q2]
theorem progOk_fn {g:FuncId} {fn:Func} {c:Code} (hp:progOk P=true) (hf:P.funcs[g]?=some fn) (hb:fn.body=some c):fn.ntmps<250/\(∀ r∈fn.results.toList,resOk r=true)/\codeOk P.globals.size fn.ntmps c=true:=by
 have hmem:fn∈P.funcs.toList:=by simpa using Array.mem_of_getElem? hf
 have:=List.all_eq_true.1 hp fn hmem
 unfold fnOk at this
 rw [hb] at this
 obtain ⟨h1,h2⟩:=iteB this
 obtain ⟨h3,h4⟩:=iteB h2
 exact ⟨Ee h1,List.all_eq_true.1 h3,h4⟩
theorem tagF_ok {g:Nat} {r:OR} (he:tagF g r=.ok v h'):r=.ok v h':=by
 cases r with
 |bad n=>cases he
 |ok v1 h1=>exact he
 |pan v1 h1=>cases he
theorem tagF_pan {g:Nat} {r:OR} (he:tagF g r=.pan v h'):r=.pan v h':=by
 cases r with
 |bad n=>cases he
 |ok v1 h1=>cases he
 |pan v1 h1=>exact he
theorem frame_ds {args:List AV} (hle:args.length<=nt) (hnt:nt<250):(Em args 0 As).get Bi=.Bl []:=by
 rw [putArgs_get args 0 As (by omega) Bi (by decide),if_neg (by intro hh;have h1:(255:Nat)<0+args.length:=hh.2;omega)]
 unfold As
 rw [L2.C9 Bi Bi _ _ (by decide) (by decide),if_pos rfl]
def recK:Code->List Item->List Item
 |.seq a b,k=>recK a (.code b::k)
 |.scope a,k=>recK a (.inScope a::k)
 |.block id a,k=>recK a (.inBlock id::k)
 |_,k=>k
def recOps:Code->Array Oper
 |.region _ ops _=>ops
 |.seq a _=>recOps a
 |.scope a=>recOps a
 |.block _ a=>recOps a
 |_=>#[]
theorem rec_enter {d:Option Tmp}:∀ (c:Code),recOf c=some d->∀ (a:Act) (k:List Item) (cs:List Frame) (w:World),
 Steps P (lone (b.at a (.code c::k)) cs w) (lone (b.at a (.inRegion (recOps c) (List.range (recOps c).size)::recK c k)) cs w):=by
 intro c
 induction c with
 |region id ops dr=>
  intro hr a k cs w
  cases dr with
  |false=>exact .one s_region
  |true=>cases hr
 |seq x y ihx _=>exact fun hr a k cs w=>.head s_seq (ihx hr a (.code y::k) cs w)
 |scope x ih=>exact fun hr a k cs w=>.head s_scope (ih hr a (.inScope x::k) cs w)
 |block id x ih=>exact fun hr a k cs w=>.head s_block (ih hr a (.inBlock id::k) cs w)
 |_=>intro hr;cases hr
theorem rec_op {d:Option Tmp}:∀ (c:Code),recOf c=some d->∃ o,(recOps c)[0]?=some o/\recOp o=some d:=by
 intro c
 induction c with
 |region id ops dr=>
  intro hr
  cases dr with
  |false=>
   have hr':(match ops.toList with|o::_=>recOp o|[]=>none)=some d:=hr
   split at hr'
   . rename_i o l ho
     refine ⟨o,?_,hr'⟩
     show ops[0]?=some o
     rw [<- Array.getElem?_toList,ho]
     rfl
   . cases hr'
  |true=>cases hr
 |seq x y ihx _=>exact fun hr=>ihx hr
 |scope x ih=>exact fun hr=>ih hr
 |block id x ih=>exact fun hr=>ih hr
 |_=>intro hr;cases hr
theorem rec_ok {d:Option Tmp}:∀ (c:Code),recOf c=some d->codeOk G nt c=true->∀ x∈(recOps c).toList,F7 G nt x=true:=by
 intro c
 induction c with
 |region id ops dr=>
  intro hr hok
  have hok':(Bool.rec (motive:=fun _=>Bool) false (Bool.rec (motive:=fun _=>Bool) true (regOk ops) dr) (ops.toList.all (F7 G nt)):Bool)=true:=hok
  exact List.all_eq_true.1 (iteB hok').1
 |seq x y ihx _=>
  intro hr hok
  exact ihx hr (iteB (show (Bool.rec (motive:=fun _=>Bool) false (codeOk G nt y) (codeOk G nt x):Bool)=true from hok)).1
 |scope x ih=>exact fun hr hok=>ih hr hok
 |block id x ih=>
  intro hr hok
  have hok':(Bool.rec (motive:=fun _=>Bool) (codeOk G nt x) false (Nat.beq id Eb):Bool)=true:=hok
  cases hid:Nat.beq id Eb with
  |true=>rw [hid] at hok';cases hok'
  |false=>rw [hid] at hok';exact ih hr hok'
 |_=>intro hr;cases hr
theorem exec1_runs (hc:A7 P G ctx) (hmx:P.follows .mixedOrders=true) (hnt:nt<250) {d:Option Tmp}:∀ (c:Code),recOf c=some d->codeOk G nt c=true ->
 Dx P G nt b (fun k=>.inRegion (recOps c) (List.range' 1 ((recOps c).size - 1))::recK c k) (fun k=>k) (exec1 c P ctx):=by
 intro c
 induction c with
 |region id ops dr=>
  intro hr hok
  have hall':=rec_ok (G:=G) (nt:=nt) _ hr hok
  cases dr with
  |true=>cases hr
  |false=>
   intro σ f a h w f' h' r he hfin hs hb hl hf
   have he':Gr P ctx ops (ops.toList.drop 1) f h=r:=he
   have hrb:∀ n,r≠.bad n:=fun n hn=>by subst hn;exact fin_bad hfin
   by_cases hx:∃ i f' h',r=.ext i f' h'
   . obtain ⟨i,f1,h1,rfl⟩:=hx
     obtain ⟨rfl,rfl⟩:=fin_ext hfin
     obtain ⟨rfl,σ',a',w',pv,q1,q2,q3,q4,q5⟩:=ops_pan (b:=b) hc hall' hnt _ 1 rfl σ f a h w _ _ _ he' hs hb hl hf
     refine ⟨σ',a',w',q1,q2,q3,pv,fun _=>q4,fun k cs hcm=>?_⟩
     obtain ⟨rest,q6⟩:=q5 k cs hcm
     exact ⟨.inRegion ops rest::k,rfl,by rw [FB.leave_pan];exact q6⟩
   obtain ⟨f1,h1,rfl,hgo⟩:=ops_sound (b:=b) hc hall' hnt _ 1 rfl σ f a h w r he' hrb (fun i f' h' hn=>hx ⟨i,f',h',hn⟩) hs hb
   obtain ⟨rfl,rfl⟩:=fin_nrm hfin
   obtain ⟨σ',a',w',q1,q2,q3,q4⟩:=hgo hl hf
   exact ⟨σ',a',w',q1,q2,q3,fun k cs hcm=>(q4 k cs hcm).trans (.one s_regionEnd)⟩
 |seq x y ihx _=>
  intro hr hok
  obtain ⟨h1,h2⟩:=iteB (show (Bool.rec (motive:=fun _=>Bool) false (codeOk G nt y) (codeOk G nt x):Bool)=true from hok)
  have hx:=(ihx hr h1).under (.code y) (fun id hh=>by cases hh)
  exact Dx.andThen (mid:=Code.src y) hx (fun f h=>mono_exec hc.mono y f h) (code_runs hc hmx hnt y h2)
 |scope x ih=>
  intro hr hok
  have hx:=(ih hr hok).under (.inScope x) (fun id hh=>by cases hh)
  intro σ f a h w f' h' r he hfin hs hb hl hf
  obtain ⟨σ',a',w',q1,q2,q3,q4⟩:=hx σ f a h w f' h' r he hfin hs hb hl hf
  refine ⟨σ',a',w',q1,q2,q3,?_⟩
  cases r with
  |bad n=>trivial
  |Ar f1 h1=>exact fun k cs hcm=>(q4 k cs hcm).trans (.one s_inScope)
  |ext i f1 h1=>exact q4
  |ret f1 h1=>exact q4
 |block id x ih=>
  intro hr hok
  have hok':(Bool.rec (motive:=fun _=>Bool) (codeOk G nt x) false (Nat.beq id Eb):Bool)=true:=hok
  cases hid:Nat.beq id Eb with
  |true=>rw [hid] at hok';cases hok'
  |false=>rw [hid] at hok';exact block_gen (beq_neN hid) (ih hr hok')
 |_=>intro hr;cases hr
theorem callR_sound (hc:A7 P P.globals.size ctx) (hmx:P.follows .mixedOrders=true) (hp:progOk P=true) {g:FuncId} {args:List AV} {args':Array Value} {v1:AV} {pv:Value} (he:callR P ctx g args v h=.ok v1 h') (hbod:Ba P g=true)
 (har:Bd σ args args'.toList) (hv:Aq σ v pv) (hm:Ms P.globals.size σ h w) (hg:GOk P.globals.size σ) (hl:h'.nx<=Bh) (hf:Fk σ h h'):
 ∃ σ' w',Out P.globals.size σ h w σ' h' w'/\∀ (b2:FB) (a2:Act) (k2:List Item) (cs:List Frame),b2.ro=none->Steps P (lone (Frame.enter P g args' .deferred) (b2.pan a2 k2 pv false::cs) w) (lone (b2.back a2 k2) cs w'):=by
 obtain ⟨fn,c,hfn,hbody,_⟩:=bodied_some hbod
 obtain ⟨hnt,hres,hcode⟩:=progOk_fn hp hfn hbody
 unfold callR at he
 have hfi:fnInfo P g=some ⟨c,fn.ntmps,fn.results.toList⟩:=by unfold fnInfo;rw [hfn];dsimp only;rw [hbody]
 rw [hfi] at he
 dsimp only at he
 split at he
 . rename_i d hrec
   rcases Be he with ⟨hle,he3⟩|⟨_,he3⟩
   . have hle':args.length<=fn.ntmps:=by have:=ble_le hle;rwa [Gt] at this
     have hfin0:∃ f1 h1,(exec1 c P ctx (putD d v (Em args 0 As)) h=.Ar f1 h1\/exec1 c P ctx (putD d v (Em args 0 As)) h=.ret f1 h1)/\finish P ctx fn.results.toList f1 h1=.ok v1 h':=by
      cases hq:exec1 c P ctx (putD d v (Em args 0 As)) h with
      |bad n=>rw [hq] at he3;cases he3
      |Ar f1 h1=>rw [hq] at he3;exact ⟨f1,h1,.inl rfl,he3⟩
      |ext i f1 h1=>rw [hq] at he3;cases he3
      |ret f1 h1=>rw [hq] at he3;exact ⟨f1,h1,.inr rfl,he3⟩
     obtain ⟨f1,h1,hr,hfinish⟩:=hfin0
     have hfr0:=enter_rel (nt:=fn.ntmps) har hle' hnt
     obtain ⟨o,ho0,hoo⟩:=rec_op c hrec
     have hallo:=rec_ok (G:=P.globals.size) (nt:=fn.ntmps) c hrec hcode
     have homem:o∈(recOps c).toList:=Array.mem_toList_iff.2 (Array.mem_of_getElem? ho0)
     obtain ⟨_,hdst⟩:=operOk_dst (hallo o homem)
     have hrop:o.dst=d/\o.guard=none/\∃ c:Call,o.op=.call c/\c.callee=.builtin .recover:=by
      unfold recOp at hoo
      split at hoo
      . rename_i args ts C2 hgd
        cases hoo
        exact ⟨rfl,hgd,_,C2,rfl⟩
      . cases hoo
     obtain ⟨rfl,hgd,cl,C2,hcl⟩:=hrop
     have hfr1:=hfr0.put hdst hnt hv
     have hfin:Fin (exec1 c P ctx (putD o.dst v (Em args 0 As)) h) f1 h1:=by
      rcases hr with hr|hr
      . exact .inl hr
      . exact .inr (.inr hr)
     have hds0:(putD o.dst v (Em args 0 As)).get Bi=.Bl []:=by
      rw [putD_get (fun u hu=>Nat.lt_trans (hdst u hu) hnt) Bi (by decide),if_neg (fun hh=>by have h1:(255:Nat)<fn.ntmps:=hdst 255 hh;omega)]
      exact frame_ds hle' hnt
     unfold finish at hfinish
     split at hfinish
     . rename_i ds hvt
       have hvt:=vT_yes hvt
       cases hrd:Dt P ctx ds h1 with
       |bad n=>rw [hrd] at hfinish;cases hfinish
       |ok h2=>
        rw [hrd] at hfinish
        have hf2:F1 P fn.results.toList f1 h2=.ok v1 h':=hfinish
        unfold F1 at hf2
        split at hf2
        . rename_i l hl0
          obtain ⟨rfl,rfl⟩:=By hf2
          have hle1:h1.nx<=h2.nx:=mono_runDefers hc.mono ds h1 h2 hrd
          obtain ⟨σ1,a1,w1,q1,q2,q3,q4⟩:=exec1_runs (b:=⟨g,.deferred,none⟩) hc hmx hnt c hrec hcode σ _ ((⟨args'++Array.replicate (fn.ntmps - args'.size) undef,[]⟩:Act).put o.dst pv) h w f1 h1 _ rfl hfin
           ⟨hfr1,hg,hm.ai,hm.so,hm.ma⟩ (.inl ⟨rfl,[],hds0⟩) (by omega) (hf.left hle1)
          have hdr:=q1.fr.defers
          rw [hvt] at hdr
          have henter:Frame.enter P g args' .deferred=FB.at ⟨g,.deferred,none⟩ ⟨args'++Array.replicate (fn.ntmps - args'.size) undef,[]⟩ [.code c]:=by
           simp [Frame.enter,FB.at,hfn,hbody]
          obtain ⟨σ2,w2,r1,r2⟩:=defers_run hc a1.tmps ds σ1 h1 h2 w1 a1.defers hrd hdr ⟨q1.ai,q1.so,q1.ma⟩ q1.gl hl (hf.right q3)
          obtain ⟨v',r3,r4⟩:=results_run (a:=⟨a1.tmps,[]⟩) (fun t ht=>(q1.fr.slot t ht).mono r1.le) r1.ms hres hl0
          refine ⟨σ2,w2,q3.trans r1 hl,fun b2 a2 k2 cs hb2=>?_⟩
          rw [henter]
          have hsz:0<(recOps c).size:=by
           rcases Nat.eq_zero_or_pos (recOps c).size with h0|h0
           . rw [Array.getElem?_eq_none (by omega)] at ho0;cases ho0
           . exact h0
          have hrange:List.range (recOps c).size=0::List.range' 1 ((recOps c).size - 1):=by
           rw [List.range_eq_range']
           have:(recOps c).size=((recOps c).size - 1)+1:=by omega
           rw [this,List.range'_succ]
           simp
          have hrun:∀ a:Act,(execOp a.eval o).run P w=.ok .recover w:=by
           intro a
           obtain ⟨dst,op,ty,pos,af,gd⟩:=o
           obtain ⟨cal,ca,ct⟩:=cl
           dsimp only at C2 hcl
           subst C2
           subst hcl
           simp [execOp,resolve,invoke,builtin]
          have e1:=rec_enter (P:=P) (b:=⟨g,.deferred,none⟩) c hrec ⟨args'++Array.replicate (fn.ntmps - args'.size) undef,[]⟩ [] (b2.pan a2 k2 pv false::cs) w
          rw [hrange] at e1
          have hwant:∀ y,Region.wanted o y=true:=by intro y;unfold Region.wanted;rw [hgd]
          have e2:=s_recovers (P:=P) (b:=⟨g,.deferred,none⟩) (a:=⟨args'++Array.replicate (fn.ntmps - args'.size) undef,[]⟩) (k:=recK c []) (cs:=cs) (w:=w) (rest:=List.range' 1 ((recOps c).size - 1)) (b2:=b2) (a2:=a2) (k2:=k2) (v:=pv) ho0 (hwant _) rfl rfl (hrun _)
          have hcalm:Calm ⟨g,.deferred,none⟩ (b2.pan a2 k2 pv true::cs):=.inr ⟨rfl,_,_,rfl,.inr ⟨pv,rfl⟩⟩
          refine e1.trans (.head e2 ?_)
          rcases hr with hr|hr
          . rw [hr] at q4
            exact (q4 [] _ hcalm).trans (.head (s_end rfl) ((r2 ⟨g,.deferred,none⟩ [] _).trans (.one (s_backR rfl rfl hfn r3 hb2))))
          . rw [hr] at q4
            obtain ⟨k',q5⟩:=q4 [] _ hcalm
            exact q5.trans (.head (s_ret rfl) ((r2 ⟨g,.deferred,none⟩ (.code .ret::k') _).trans (.one (s_backR rfl rfl hfn r3 hb2))))
        . cases hf2
     . cases hfinish
   . cases he3
 . cases he
theorem callF_pan (hc:A7 P P.globals.size ctx) (hmx:P.follows .mixedOrders=true) (hp:progOk P=true):CallPan P P.globals.size ⟨Fc P ctx,roundF P ctx⟩:=by
 intro g args h h' v σ w args' he hbod har hm hg hl hf
 obtain ⟨fn,c,hfn,hbody,_⟩:=bodied_some hbod
 obtain ⟨hnt,hres,hcode⟩:=progOk_fn hp hfn hbody
 have he1:Fc P ctx g args h=.pan v h':=he
 unfold Fc at he1
 have hfi:fnInfo P g=some ⟨c,fn.ntmps,fn.results.toList⟩:=by unfold fnInfo;rw [hfn];dsimp only;rw [hbody]
 rw [hfi] at he1
 have he2:callI P ctx g args h ⟨c,fn.ntmps,fn.results.toList⟩=.pan v h':=he1
 unfold callI at he2
 rcases ite_pan he2 with ⟨hle,he3⟩|⟨_,he3⟩
 . obtain ⟨f1,hr,hds,rfl⟩:=finR_pan (tagF_pan he3)
   have hle':args.length<=fn.ntmps:=by have:=ble_le hle;rwa [Gt] at this
   have hfr0:=enter_rel (nt:=fn.ntmps) har hle' hnt
   have henter:Frame.enter P g args' .normal=FB.at ⟨g,.normal,none⟩ ⟨args'++Array.replicate (fn.ntmps - args'.size) undef,[]⟩ [.code c]:=by
    simp [Frame.enter,FB.at,hfn,hbody]
   obtain ⟨σ1,a1,w1,q1,q2,q3,q4⟩:=code_runs (b:=⟨g,.normal,none⟩) hc hmx hnt c hcode σ (Em args 0 As) ⟨args'++Array.replicate (fn.ntmps - args'.size) undef,[]⟩ h w f1 h' _ hr (.inr (.inl ⟨_,rfl⟩))
    ⟨hfr0,hg,hm.ai,hm.so,hm.ma⟩ (.inl ⟨rfl,[],frame_ds hle' hnt⟩) hl hf
   obtain ⟨pv,hpv,q4⟩:=q4
   have hdr:=q1.fr.defers
   rw [hds] at hdr
   have hdn:a1.defers=[]:=by
    generalize a1.defers=dd at hdr
    cases hdr
    rfl
   refine ⟨σ1,pv,w1,hpv rfl,q3,fun cc cs=>?_⟩
   rw [henter]
   obtain ⟨k',_,q5⟩:=q4 [] (cc::cs) (.inl rfl)
   rw [FB.leave_pan] at q5
   exact q5.trans (.one (s_panOut hdn hfn))
 . cases he3
theorem callF_sound (hc:A7 P P.globals.size ctx) (hmx:P.follows .mixedOrders=true) (hp:progOk P=true):CallSound P P.globals.size ⟨Fc P ctx,roundF P ctx⟩:=by
 intro g args h h' v σ w args' kind he hbod har hm hg hl hf
 obtain ⟨fn,c,hfn,hbody,_⟩:=bodied_some hbod
 obtain ⟨hnt,hres,hcode⟩:=progOk_fn hp hfn hbody
 have he1:Fc P ctx g args h=.ok v h':=he
 unfold Fc at he1
 have hfi:fnInfo P g=some ⟨c,fn.ntmps,fn.results.toList⟩:=by unfold fnInfo;rw [hfn];dsimp only;rw [hbody]
 rw [hfi] at he1
 have he2:callI P ctx g args h ⟨c,fn.ntmps,fn.results.toList⟩=.ok v h':=he1
 unfold callI at he2
 rcases Be he2 with ⟨hle,he3⟩|⟨_,he3⟩
 . have he4:=tagF_ok he3
   have hle':args.length<=fn.ntmps:=by have:=ble_le hle;rwa [Gt] at this
   have hfr0:=enter_rel (nt:=fn.ntmps) har hle' hnt
   obtain ⟨f1,h1,⟨hr,hfinish⟩|⟨id,hr,hfx⟩⟩:=finR he4
   rotate_left
   . -- a panic that is recovered
     obtain ⟨rfl,g2,as2,cap2,ds,v1,h2,hds,hbod2,hcr,hle2,hrd,hle3,hfi2⟩:=finishX_ok hfx
     obtain ⟨σ1,a1,w1,q1,q2,q3,q4⟩:=code_runs (b:=⟨g,kind,none⟩) hc hmx hnt c hcode σ (Em args 0 As) ⟨args'++Array.replicate (fn.ntmps - args'.size) undef,[]⟩ h w f1 h1 _ hr (.inr (.inl ⟨_,rfl⟩))
      ⟨hfr0,hg,hm.ai,hm.so,hm.ma⟩ (.inl ⟨rfl,[],frame_ds hle' hnt⟩) (by omega) (hf.left (by omega))
     obtain ⟨pv,hpv,q4⟩:=q4
     have hdr:=q1.fr.defers
     rw [hds] at hdr
     generalize hdd:a1.defers=dd at hdr
     cases hdr
     rename_i d' ds' hde hdr
     cases hde
     rename_i as' cs' ha hca
     obtain ⟨σ2,w2,r1,r2⟩:=callR_sound (w:=w1) (args':=as'++cs') hc hmx hp hcr hbod2 (by rw [Dn];simpa using ha.append hca) (hpv rfl) ⟨q1.ai,q1.so,q1.ma⟩ q1.gl (by omega) ((hf.right q3).left hle3)
     obtain ⟨σ3,w3,s1,s2⟩:=defers_run hc a1.tmps ds σ2 h2 h' w2 ds' hrd (hdr.mono r1.le) r1.ms (q1.gl.mono r1.le) hl ((hf.right q3).right r1)
     unfold F1 at hfi2
     split at hfi2
     . rename_i l hl0
       obtain ⟨rfl,_⟩:=By hfi2
       obtain ⟨v',r3,r4⟩:=results_run (a:=⟨a1.tmps,[]⟩) (fun t ht=>((q1.fr.slot t ht).mono r1.le).mono s1.le) s1.ms hres hl0
       have henter:Frame.enter P g args' kind=FB.at ⟨g,kind,none⟩ ⟨args'++Array.replicate (fn.ntmps - args'.size) undef,[]⟩ [.code c]:=by
        simp [Frame.enter,FB.at,hfn,hbody]
       refine ⟨σ3,v',w3,⟨a1.tmps,[]⟩,fn,hfn,r4,(q3.trans r1 (by omega)).trans s1 hl,rfl,r3,fun cs hcm=>?_⟩
       rw [henter]
       obtain ⟨k',_,q5⟩:=q4 [] cs hcm
       rw [FB.leave_pan] at q5
       exact ⟨k',q5.trans (.head (s_panDefer hdd (run_callFunc hbod2 _ _)) ((r2 _ _ _ cs rfl).trans (s2 ⟨g,kind,none⟩ k' cs)))⟩
     . cases hfi2
   have hfin:Fin (exec c P ctx (Em args 0 As) h) f1 h1:=by
    rcases hr with hr|hr
    . exact .inl hr
    . exact .inr (.inr hr)
   have hds0:(Em args 0 As).get Bi=.Bl []:=by
    rw [putArgs_get args 0 As (by omega) Bi (by decide),if_neg (by intro hh;have h1:(255:Nat)<0+args.length:=hh.2;omega)]
    unfold As
    rw [L2.C9 Bi Bi _ _ (by decide) (by decide),if_pos rfl]
   unfold finish at hfinish
   split at hfinish
   . rename_i ds hvt
     have hvt:=vT_yes hvt
     cases hrd:Dt P ctx ds h1 with
     |bad n=>rw [hrd] at hfinish;cases hfinish
     |ok h2=>
      rw [hrd] at hfinish
      have hf2:F1 P fn.results.toList f1 h2=.ok v h':=hfinish
      unfold F1 at hf2
      split at hf2
      . rename_i l hl0
        obtain ⟨rfl,rfl⟩:=By hf2
        have hle1:h1.nx<=h2.nx:=mono_runDefers hc.mono ds h1 h2 hrd
        obtain ⟨σ1,a1,w1,q1,q2,q3,q4⟩:=code_runs (b:=⟨g,kind,none⟩) hc hmx hnt c hcode σ (Em args 0 As) ⟨args'++Array.replicate (fn.ntmps - args'.size) undef,[]⟩ h w f1 h1 _ rfl hfin
         ⟨hfr0,hg,hm.ai,hm.so,hm.ma⟩ (.inl ⟨rfl,[],hds0⟩) (by omega) (hf.left hle1)
        have hdr:=q1.fr.defers
        rw [hvt] at hdr
        have henter:Frame.enter P g args' kind=FB.at ⟨g,kind,none⟩ ⟨args'++Array.replicate (fn.ntmps - args'.size) undef,[]⟩ [.code c]:=by
         simp [Frame.enter,FB.at,hfn,hbody]
        obtain ⟨σ2,w2,r1,r2⟩:=defers_run hc a1.tmps ds σ1 h1 h2 w1 a1.defers hrd hdr ⟨q1.ai,q1.so,q1.ma⟩ q1.gl hl (hf.right q3)
        obtain ⟨v',r3,r4⟩:=results_run (a:=⟨a1.tmps,[]⟩) (fun t ht=>(q1.fr.slot t ht).mono r1.le) r1.ms hres hl0
        refine ⟨σ2,v',w2,⟨a1.tmps,[]⟩,fn,hfn,r4,q3.trans r1 hl,rfl,r3,fun cs hcm=>?_⟩
        rw [henter]
        rcases hr with hr|hr
        . rw [hr] at q4
          exact ⟨_,(q4 [] cs hcm).trans (.head (s_end rfl) (r2 _ _ cs))⟩
        . rw [hr] at q4
          obtain ⟨k',q5⟩:=q4 [] cs hcm
          exact ⟨_,q5.trans (.head (s_ret rfl) (r2 _ _ cs))⟩
      . cases hf2
   . cases hfinish
 . cases he3
theorem setParams_rel:∀ (ps:List Nat) (args:List AV) (vs:List Value) (f f':L2) (tmps:Array Value),setParams ps args f=some f'->Bd σ args vs->(∀ d∈ps,d<tmps.size)->tmps.size<250->(∀ t,t<250->Aq σ (f.get t) (tmps.getD t undef)) ->
 vs.length=ps.length/\((ps.zip vs).foldl (fun tmps (p:Nat × Value)=>tmps.setIfInBounds p.1 p.2) tmps).size=tmps.size /\
  (∀ t,t<250->Aq σ (f'.get t) (((ps.zip vs).foldl (fun tmps (p:Nat × Value)=>tmps.setIfInBounds p.1 p.2) tmps).getD t undef))/\f'.get Bi=f.get Bi:=by
 intro ps
 induction ps with
 |nil=>
  intro args vs f f' tmps he hr hd hsz hs
  cases args with
  |nil=>
   cases he
   have:=hr.unnil
   subst this
   exact ⟨rfl,rfl,hs,rfl⟩
  |cons x l=>cases he
 |cons t ps ih=>
  intro args vs f f' tmps he hr hd hsz hs
  cases args with
  |nil=>cases he
  |cons x l=>
   obtain ⟨y,vs',rfl,hv,hl⟩:=hr.Fy
   have he':setParams ps l (f.set t x)=some f':=he
   have ht:t<tmps.size:=hd t (by simp)
   obtain ⟨q1,q2,q3,q4⟩:=ih l vs' (f.set t x) f' (tmps.setIfInBounds t y) he' hl (fun d hd'=>by simp;exact hd d (by simp [hd'])) (by simpa using hsz) (by
    intro u hu
    rw [L2.C9 t u x f (by omega) (by omega)]
    by_cases hut:u=t
    . subst hut
      rw [if_pos rfl]
      have:(tmps.setIfInBounds u y).getD u undef=y:=by simp [Array.getD,ht]
      rw [this];exact hv
    . rw [if_neg hut]
      have:(tmps.setIfInBounds t y).getD u undef=tmps.getD u undef:=by
       simp only [Array.getD_eq_getD_getElem?]
       rw [Array.getElem?_setIfInBounds_ne (Ne.symm hut)]
      rw [this];exact hs u hu)
   refine ⟨by simp [q1],?_,?_,?_⟩
   . simp only [List.zip_cons_cons,List.foldl_cons]
     rw [q2];simp
   . simpa only [List.zip_cons_cons,List.foldl_cons] using q3
   . rw [q4,L2.C9 t Bi x f (by omega) (by decide),if_neg (by intro hh;have h1:(255:Nat)=t:=hh;omega)]
theorem roundX {l id:Nat} {f1:L2} {h1:H} (he:roundR l (.ext id f1 h1)=.ok v h'):id≠Eb/\endRound l (some (.exit id)) h1=.ok v h':=by
 have he':(Bool.rec (motive:=fun _=>OR) (endRound l (some (.exit id)) h1) (.bad 223) (Nat.beq id Eb):OR)=.ok v h':=he
 cases hid:Nat.beq id Eb with
 |true=>rw [hid] at he';cases he'
 |false=>rw [hid] at he';exact ⟨beq_neN hid,he'⟩
theorem endRound_pan {l:Nat} {j:Option Code} (he:endRound l j h=.pan v h'):False:=by
 unfold endRound at he
 split at he<;>cases he
theorem roundF_pan {l:Nat} {args:List AV} (he:roundF P ctx l args h=.pan v h'):False:=by
 unfold roundF at he
 split at he
 . split at he
   . rename_i f0 _
     generalize andThen _ _=r at he
     cases r with
     |bad n=>cases he
     |Ar f1 h1=>exact endRound_pan he
     |ext id f1 h1=>rcases ite_pan he with ⟨_,hq⟩|⟨_,hq⟩;cases hq;exact endRound_pan hq
     |ret f1 h1=>exact endRound_pan he
   . cases he
 . cases he
theorem roundF_sound (hc:A7 P P.globals.size ctx) (hmx:P.follows .mixedOrders=true):RoundSound P P.globals.size ⟨Fc P ctx,roundF P ctx⟩:=by
 intro l args h h' v σ w args' e he hsl har hm hg hl hf
 have he1:roundF P ctx l args h=.ok v h':=he
 unfold roundF at he1
 split at he1
 . rename_i st pend fr ps as bd0 hget
   split at he1
   . rename_i f0 hset
     have hbr:=hm.ma l e hsl
     rw [hget] at hbr
     obtain ⟨hk,lp,b1,b2,b3,b4,b5,b6,b7,b8,b9,b10,b11⟩:=hbr
     have hdfr:∀ t,t<250->Aq σ ((fr.set Bi (.map l)).get t) (lp.tmps.getD t undef):=by
      intro t ht
      rw [L2.C9 Bi t _ fr (by decide) (by omega),if_neg (by intro hh;have h1:t=255:=hh;omega)]
      exact b4 t ht
     obtain ⟨s1,s2,s3,s4⟩:=setParams_rel ps args args'.toList _ f0 lp.tmps hset har b11 b8 hdfr
     have hds:f0.get Bi=.map l:=by rw [s4,L2.C9 Bi Bi _ fr (by decide) (by decide),if_pos rfl]
     generalize htm:((ps.zip args'.toList).foldl (fun tmps (p:Nat × Value)=>tmps.setIfInBounds p.1 p.2) lp.tmps)=tm at s2 s3
     have hyield:(Instr.yield e.c args').run P w=.ok (.round e.c lp.fn tm lp.assign lp.body) w:=by
      have hsz:args'.size=lp.params.size:=by
       have h2:lp.params.toList.length=ps.length:=by rw [b5]
       simp at h2 s1
       omega
      have hfold:(lp.params.zip args').foldl (fun tmps (p:Tmp × Value)=>tmps.setIfInBounds p.1 p.2) lp.tmps=tm:=by
       rw [<- htm,<- b5,<- Array.foldl_toList,Array.toList_zip]
      simp [Instr.yield,Instr.getLoop,getObj,Sem.run,b1,hsz]
      rw [<- hfold]
      congr 1
      simp [hsz]
     have hst0:St P.globals.size σ lp.tmps.size f0 ⟨tm,[]⟩ h w:=⟨⟨s2,s3,by rw [hds];exact .round l e hsl⟩,hg,hm.ai,hm.so,hm.ma⟩
     have hb0:RBk ⟨lp.fn,.normal,some e.c⟩ σ f0:=.inr ⟨rfl,e.c,l,e,rfl,hds,hsl,rfl⟩
     have hround:Frame.round e.c lp.fn tm lp.assign lp.body .normal=FB.at ⟨lp.fn,.normal,some e.c⟩ ⟨tm,[]⟩ [.code as,.beginRound,.code bd0]:=by rw [b6,b7];rfl
     have hend:∀ (σ1:Dj) (h1:H) (w1:World) (a1:Act) (jump:Option Code),endRound l jump h1=.ok v h'->Out P.globals.size σ h w σ1 h1 w1 ->
      (∀ c cs,∃ k,(k=[]/\jump=none\/(∃ k',k=.code .ret::k'/\jump=some .ret)\/∃ id k',k=.code (.exit id)::k'/\exitTo id k'=none/\jump=some (.exit id)) /\
       Steps P (lone (FB.at ⟨lp.fn,.normal,some e.c⟩ ⟨tm,[]⟩ [.code as,.beginRound,.code bd0]) (c::cs) w) (lone (FB.at ⟨lp.fn,.normal,some e.c⟩ a1 k) (c::cs) w1)) ->
      ∃ σ' v' w' g tmps as bd,Aq σ' v v'/\Out P.globals.size σ h w σ' h' w'/\(Instr.yield e.c args').run P w=.ok (.round e.c g tmps as bd) w /\
       ∀ c cs,Steps P (lone (Frame.round e.c g tmps as bd .normal) (c::cs) w) (lone (c.finish v') cs w'):=by
      intro σ1 h1 w1 a1 jump hre ho hst
      unfold endRound at hre
      split at hre
      . rename_i st2 pend2 fr2 ps2 as2 bd2 hget2
        obtain ⟨n,hh',hn,hvv⟩:∃ n,h'=h1.put l (.loop n jump fr2 ps2 as2 bd2)/\loopSt n=(if jump.isNone then .ready else .done)/\v=.bool jump.isNone:=by
         obtain ⟨h2,h3⟩:=By hre
         exact ⟨_,h3.symm,by cases jump<;>rfl,h2.symm⟩
        have hsl1:=ho.le _ _ hsl
        have hbr1:=ho.ms.ma l e hsl1
        rw [hget2] at hbr1
        obtain ⟨hk1,lp1,c1,c2,c3,c4,c5,c6,c7,c8,c9,c10,c11⟩:=hbr1
        have hput:Out P.globals.size σ1 h1 w1 σ1 h' (B6 w1 e.c (.loop { lp1 with state:=if jump.isNone then .ready else .done,pending:=jump })):=by
         rw [hh']
         refine put_self_step ho.ms.ai ho.ms.so ho.ms.ma hsl1 hget2 (by intro q;cases q) (by intro n q;cases q) rfl rfl hk1 (by intro n q;cases q) ?_
         exact ⟨hk1,{ lp1 with state:=if jump.isNone then .ready else .done,pending:=jump },by rw [C1,if_pos ⟨rfl,Dd c1⟩],hn.symm,rfl,c4,c5,c6,c7,c8,c9,c10,c11⟩
        refine ⟨σ1,.bool jump.isNone,_,lp.fn,tm,lp.assign,lp.body,by rw [hvv];exact .bool _,ho.trans hput hl,hyield,fun c cs=>?_⟩
        rw [hround]
        obtain ⟨k,p1,p2⟩:=hst c cs
        exact p2.trans (.one (s_endRound rfl rfl c1 p1))
      . cases hre
     have hendnx:∀ (h1:H) (jump:Option Code),endRound l jump h1=.ok v h'->h1.nx<=h'.nx:=by
      intro h1 jump hre
      unfold endRound at hre
      split at hre
      . obtain ⟨_,rfl⟩:=By hre;exact Nat.le_refl _
      . cases hre
     have hcalm:∀ cs,Calm ⟨lp.fn,.normal,some e.c⟩ cs:=fun cs=>.inl rfl
     have hruns:=code_runs (b:=⟨lp.fn,.normal,some e.c⟩) hc hmx b8 as b9
     have hrunb:=code_runs (b:=⟨lp.fn,.normal,some e.c⟩) hc hmx b8 bd0 b10
     cases hA:exec as P ctx f0 h with
     |bad n=>rw [hA] at he1;cases he1
     |ext id f1 h1=>
      rw [hA] at he1
      obtain ⟨hid,he2⟩:=roundX he1
      have hle:=hendnx h1 _ he2
      obtain ⟨σ1,a1,w1,q1,q2,q3,pv,hpv,q4⟩:=hruns σ f0 ⟨tm,[]⟩ h w f1 h1 _ hA (.inr (.inl ⟨id,rfl⟩)) hst0 hb0 (by omega) (hf.left hle)
      refine hend σ1 h1 w1 a1 _ he2 q3 (fun c cs=>?_)
      obtain ⟨k',p1,p2⟩:=q4 [.beginRound,.code bd0] (c::cs) (hcalm _)
      rw [FB.leave_exit hid] at p2
      exact ⟨_,.inr (.inr ⟨id,k',rfl,by rw [p1];rfl,rfl⟩),p2⟩
     |ret f1 h1=>
      rw [hA] at he1
      have he2:endRound l (some .ret) h1=.ok v h':=he1
      have hle:=hendnx h1 _ he2
      obtain ⟨σ1,a1,w1,q1,q2,q3,q4⟩:=hruns σ f0 ⟨tm,[]⟩ h w f1 h1 _ hA (.inr (.inr rfl)) hst0 hb0 (by omega) (hf.left hle)
      refine hend σ1 h1 w1 a1 _ he2 q3 (fun c cs=>?_)
      obtain ⟨k',p2⟩:=q4 [.beginRound,.code bd0] (c::cs) (hcalm _)
      exact ⟨_,.inr (.inl ⟨k',rfl,rfl⟩),p2⟩
     |Ar f1 h1=>
      rw [hA] at he1
      have he2:roundR l (roundB P ctx l bd0 f1 h1)=.ok v h':=he1
      unfold roundB at he2
      split at he2
      . rename_i pend1 fr1 ps1 as1 bd1 hget1
        have hle1:h1.nx<=h'.nx:=by
         have:=mono_roundR (h:=h1.put l (.loop 1 pend1 fr1 ps1 as1 bd1)) l (mono_exec (P:=P) hc.mono bd0 f1 (h1.put l (.loop 1 pend1 fr1 ps1 as1 bd1)))
         exact this v h' he2
        obtain ⟨σ1,a1,w1,q1,q2,q3,q4⟩:=hruns σ f0 ⟨tm,[]⟩ h w f1 h1 _ hA (.inl rfl) hst0 hb0 (by omega) (hf.left hle1)
        have hsl1:=q3.le _ _ hsl
        have hbr1:=q3.ms.ma l e hsl1
        rw [hget1] at hbr1
        obtain ⟨hk1,lp1,c1,c2,c3,c4,c5,c6,c7,c8,c9,c10,c11⟩:=hbr1
        have hput:Out P.globals.size σ1 h1 w1 σ1 (h1.put l (.loop 1 pend1 fr1 ps1 as1 bd1)) (B6 w1 e.c (.loop { lp1 with state:=.busy })):=by
         refine put_self_step q3.ms.ai q3.ms.so q3.ms.ma hsl1 hget1 (by intro q;cases q) (by intro n q;cases q) rfl rfl hk1 (by intro n q;cases q) ?_
         exact ⟨hk1,{ lp1 with state:=.busy },by rw [C1,if_pos ⟨rfl,Dd c1⟩],rfl,c3,c4,c5,c6,c7,c8,c9,c10,c11⟩
        have hout2:=q3.trans hput (show (h1.put l (.loop 1 pend1 fr1 ps1 as1 bd1)).nx<=Bh from Nat.le_trans hle1 hl)
        have hst1:St P.globals.size σ1 lp.tmps.size f1 a1 (h1.put l (.loop 1 pend1 fr1 ps1 as1 bd1)) (B6 w1 e.c (.loop { lp1 with state:=.busy })):=q1.next hput q1.fr
        have hbeg:∀ c cs,Steps P (lone (FB.at ⟨lp.fn,.normal,some e.c⟩ ⟨tm,[]⟩ [.code as,.beginRound,.code bd0]) (c::cs) w) (lone (FB.at ⟨lp.fn,.normal,some e.c⟩ a1 [.code bd0]) (c::cs) (B6 w1 e.c (.loop { lp1 with state:=.busy }))):=
         fun c cs=>(q4 [.beginRound,.code bd0] (c::cs) (hcalm _)).trans (.one (s_beginRound rfl c1 c2))
        have hfree2:Fk σ1 (h1.put l (.loop 1 pend1 fr1 ps1 as1 bd1)) h':=hf.right hout2
        cases hB:exec bd0 P ctx f1 (h1.put l (.loop 1 pend1 fr1 ps1 as1 bd1)) with
        |bad n=>rw [hB] at he2;cases he2
        |Ar f2 h2=>
         rw [hB] at he2
         have he3:endRound l none h2=.ok v h':=he2
         have hle:=hendnx h2 _ he3
         obtain ⟨σ2,a2,w2,r1,r2,r3,r4⟩:=hrunb σ1 f1 a1 _ _ f2 h2 _ hB (.inl rfl) hst1 q2 (by omega) (hfree2.left hle)
         refine hend σ2 h2 w2 a2 _ he3 (hout2.trans r3 (by omega)) (fun c cs=>?_)
         exact ⟨_,.inl ⟨rfl,rfl⟩,(hbeg c cs).trans (r4 [] (c::cs) (hcalm _))⟩
        |ext id f2 h2=>
         rw [hB] at he2
         obtain ⟨hid,he3⟩:=roundX he2
         have hle:=hendnx h2 _ he3
         obtain ⟨σ2,a2,w2,r1,r2,r3,pv,hpv,r4⟩:=hrunb σ1 f1 a1 _ _ f2 h2 _ hB (.inr (.inl ⟨id,rfl⟩)) hst1 q2 (by omega) (hfree2.left hle)
         refine hend σ2 h2 w2 a2 _ he3 (hout2.trans r3 (by omega)) (fun c cs=>?_)
         obtain ⟨k',p1,p2⟩:=r4 [] (c::cs) (hcalm _)
         rw [FB.leave_exit hid] at p2
         exact ⟨_,.inr (.inr ⟨id,k',rfl,by rw [p1];rfl,rfl⟩),(hbeg c cs).trans p2⟩
        |ret f2 h2=>
         rw [hB] at he2
         have he3:endRound l (some .ret) h2=.ok v h':=he2
         have hle:=hendnx h2 _ he3
         obtain ⟨σ2,a2,w2,r1,r2,r3,r4⟩:=hrunb σ1 f1 a1 _ _ f2 h2 _ hB (.inr (.inr rfl)) hst1 q2 (by omega) (hfree2.left hle)
         refine hend σ2 h2 w2 a2 _ he3 (hout2.trans r3 (by omega)) (fun c cs=>?_)
         obtain ⟨k',p2⟩:=r4 [] (c::cs) (hcalm _)
         exact ⟨_,.inr (.inl ⟨k',rfl,rfl⟩),(hbeg c cs).trans p2⟩
      . cases he2
   . cases he1
 . cases he1
theorem ctxS (hc:A7 P P.globals.size ctx) (hmx:P.follows .mixedOrders=true) (hp:progOk P=true) (hm:Dk ⟨Fc P ctx,roundF P ctx⟩):A7 P P.globals.size ⟨Fc P ctx,roundF P ctx⟩:=
 ⟨callF_sound hc hmx hp,roundF_sound hc hmx,hm,callF_pan hc hmx hp,fun _ _ _ _ _ he=>roundF_pan he⟩
theorem noCall_sound:A7 P G noCall:=
 ⟨fun g args h h' v σ w args' kind he=>(by cases he),fun l args h h' v σ w args' e he=>(by cases he),mono_ctxD P 0,fun g args h h' v σ w args' he=>(by cases he),fun l args h v h' he=>(by cases he)⟩
theorem ctxD_sound (hmx:P.follows .mixedOrders=true) (hp:progOk P=true) (d:Nat):A7 P P.globals.size (ctxD P d):=by
 induction d with
 |zero=>exact noCall_sound
 |succ d ih=>exact ctxS ih hmx hp (mono_ctxD P (d+1))
end Go.Ev
