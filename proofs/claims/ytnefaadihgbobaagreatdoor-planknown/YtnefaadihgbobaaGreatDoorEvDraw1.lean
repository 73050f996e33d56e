/- Regions whose order is open: what must run before what, and what may not. -/
import Derived.Test.YtnefaadihgbobaaGreatDoorEvReg
set_option linter.unusedSimpArgs false
set_option linter.unusedVariables false
namespace Go.Ev

noncomputable def accL : List Oper → List Nat → List Nat
  | [], acc => acc
  | o :: os, acc => accL os (acc ++ [preds acc o.after.toList])
theorem accL_take : ∀ (l : List Oper) (acc : List Nat), (accL l acc).take acc.length = acc ∧ (accL l acc).length = acc.length + l.length := by
  intro l
  induction l with
  | nil => intro acc; exact ⟨by simp [accL], by simp [accL]⟩
  | cons o l ih =>
    intro acc
    obtain ⟨h1, h2⟩ := ih (acc ++ [preds acc o.after.toList])
    refine ⟨?_, ?_⟩
    · show (accL l (acc ++ [preds acc o.after.toList])).take acc.length = acc
      have := congrArg (List.take acc.length) h1
      rw [List.take_take] at this
      have e : min acc.length (acc ++ [preds acc o.after.toList]).length = acc.length := by simp
      rw [e] at this
      rw [this]
      simp
    · show (accL l (acc ++ [preds acc o.after.toList])).length = _
      rw [h2]; simp; omega
theorem mget_take {l : List Nat} {i j : Nat} (hij : i < j) : mget (l.take j) i = mget l i := by
  unfold mget
  rw [List.getElem?_take, if_pos hij]
theorem accL_get : ∀ (l : List Oper) (acc : List Nat) (k : Nat) (o : Oper), l[k]? = some o → mget (accL l acc) (acc.length + k) = preds ((accL l acc).take (acc.length + k)) o.after.toList := by
  intro l
  induction l with
  | nil => intro acc k o hk; simp at hk
  | cons o l ih =>
    intro acc k x hk
    cases k with
    | zero =>
      simp at hk
      subst hk
      have h1 := (accL_take l (acc ++ [preds acc o.after.toList])).1
      show mget (accL l (acc ++ [preds acc o.after.toList])) (acc.length + 0) = preds ((accL l (acc ++ [preds acc o.after.toList])).take (acc.length + 0)) o.after.toList
      have h2 := (accL_take (o :: l) acc).1
      have h3 : (accL l (acc ++ [preds acc o.after.toList])).take acc.length = acc := h2
      rw [Nat.add_zero, h3]
      have := mget_take (l := accL l (acc ++ [preds acc o.after.toList])) (i := acc.length) (j := (acc ++ [preds acc o.after.toList]).length) (by simp)
      rw [← this, h1]
      simp [mget]
    | succ k =>
      have := ih (acc ++ [preds acc o.after.toList]) k x (by simpa using hk)
      have e : (acc ++ [preds acc o.after.toList]).length + k = acc.length + (k + 1) := by simp; omega
      rw [e] at this
      exact this
noncomputable def PR (ops : Array Oper) : List Nat := accL ops.toList []
/-- j must run before i -/
def Bef (ops : Array Oper) (j i : Nat) : Prop := (mget (PR ops) i).testBit j = true
theorem preds_bit {acc : List Nat} {j : Nat} : ∀ (es : List Edge), (preds acc es).testBit j = true → ∃ e ∈ es, Region.binds .any e = true ∧ (e.on = j ∨ (mget acc e.on).testBit j = true) := by
  intro es
  induction es with
  | nil => intro h; simp [preds] at h
  | cons e es ih =>
    intro h
    unfold preds at h
    cases hb : Region.binds .any e with
    | false =>
      rw [hb] at h
      obtain ⟨e', h1, h2⟩ := ih h
      exact ⟨e', by simp [h1], h2⟩
    | true =>
      rw [hb] at h
      have h' : ((bitOf e.on ||| mget acc e.on) ||| preds acc es).testBit j = true := h
      rw [Nat.testBit_or, Nat.testBit_or, Bool.or_eq_true, Bool.or_eq_true] at h'
      rcases h' with (h' | h') | h'
      · refine ⟨e, by simp, hb, .inl ?_⟩
        have : (2 ^ e.on).testBit j = true := h'
        rw [Nat.testBit_two_pow] at this
        simpa using this
      · exact ⟨e, by simp, hb, .inr h'⟩
      · obtain ⟨e', h1, h2⟩ := ih h'
        exact ⟨e', by simp [h1], h2⟩
theorem Bef.edge {ops : Array Oper} (hb : backward ops) {i j : Nat} {o : Oper} (ho : ops[i]? = some o) (h : Bef ops j i) : ∃ e ∈ o.after.toList, Region.binds .any e = true ∧ e.on < i ∧ (e.on = j ∨ Bef ops j e.on) := by
  have h1 := accL_get ops.toList [] i o (by simpa using ho)
  simp only [List.length_nil, Nat.zero_add] at h1
  unfold Bef PR at h
  rw [h1] at h
  obtain ⟨e, q1, q2, q3⟩ := preds_bit _ h
  have hlt := hb i o ho e q1 q2
  refine ⟨e, q1, q2, hlt, ?_⟩
  rcases q3 with q3 | q3
  · exact .inl q3
  · rw [mget_take hlt] at q3
    exact .inr q3
theorem Bef.lt {ops : Array Oper} (hb : backward ops) : ∀ {i j : Nat}, i < ops.size → Bef ops j i → j < i := by
  intro i
  induction i using Nat.strongRecOn with
  | _ i ih =>
    intro j hi h
    obtain ⟨e, q1, q2, q3, q4⟩ := h.edge hb (Array.getElem?_eq_getElem hi)
    rcases q4 with q4 | q4
    · omega
    · have := ih e.on q3 (by omega) q4
      omega
def EdgeClosed (ops : Array Oper) (D : Nat → Bool) : Prop := ∀ (x : Nat) (o : Oper), ops[x]? = some o → D x = true → ∀ e ∈ o.after.toList, Region.binds .any e = true → D e.on = true
theorem Bef.done {ops : Array Oper} (hb : backward ops) {D : Nat → Bool} (hD : EdgeClosed ops D) : ∀ {i : Nat} {o : Oper}, ops[i]? = some o → (∀ e ∈ o.after.toList, Region.binds .any e = true → D e.on = true) → ∀ j, Bef ops j i → D j = true := by
  intro i
  induction i using Nat.strongRecOn with
  | _ i ih =>
    intro o ho he j h
    obtain ⟨e, q1, q2, q3, q4⟩ := h.edge hb ho
    rcases q4 with rfl | q4
    · exact he e q1 q2
    · have hi : e.on < ops.size := by
        have := (Array.getElem?_eq_some_iff.1 ho).1
        omega
      exact ih e.on q3 (Array.getElem?_eq_getElem hi) (hD e.on _ (Array.getElem?_eq_getElem hi) (he e q1 q2)) j q4
theorem dops_get : ∀ (l : List Oper) (acc : List Nat) (k : Nat) (d : DO), (dops l acc.length acc)[k]? = some d → l[k]? = some d.o ∧ d.bit = bitOf (acc.length + k) ∧ d.pr = mget (accL l acc) (acc.length + k) := by
  intro l
  induction l with
  | nil => intro acc k d hk; simp [dops] at hk
  | cons o l ih =>
    intro acc k d hk
    cases k with
    | zero =>
      simp only [dops, List.getElem?_cons_zero, Option.some.injEq] at hk
      subst hk
      refine ⟨rfl, rfl, ?_⟩
      have := accL_get (o :: l) acc 0 o rfl
      rw [this, Nat.add_zero, (accL_take (o :: l) acc).1]
    | succ k =>
      simp only [dops, List.getElem?_cons_succ] at hk
      have e : Nat.succ acc.length = (acc ++ [preds acc o.after.toList]).length := by simp
      rw [e] at hk
      obtain ⟨h1, h2, h3⟩ := ih _ k d hk
      have e2 : (acc ++ [preds acc o.after.toList]).length + k = acc.length + (k + 1) := by simp; omega
      rw [e2] at h2 h3
      exact ⟨by simpa using h1, h2, h3⟩
theorem dops_len : ∀ (l : List Oper) (i : Nat) (acc : List Nat), (dops l i acc).length = l.length := by
  intro l
  induction l with
  | nil => intro i acc; rfl
  | cons o l ih => intro i acc; simp [dops, ih]
/-- two operations that may run in either order do not look at each other's places -/
def Apart (pr : Nat) (o : Oper) (ops : Array Oper) (ob : OB) : Prop :=
  Nat.land pr ob.bit ≠ 0 ∨ (Nat.land ob.dst (Nat.lor (dstBits o) (readBits ops o)) = 0 ∧ Nat.land (dstBits o) ob.rd = 0)
theorem apart1_all {pr dst rd : Nat} {df : Bool} : ∀ (obs : List OB), apart1 pr dst rd df obs = true → ∀ ob ∈ obs, Nat.land pr ob.bit ≠ 0 ∨ (Nat.land ob.dst (Nat.lor dst rd) = 0 ∧ Nat.land dst ob.rd = 0) := by
  intro obs
  induction obs with
  | nil => intro _ ob hob; cases hob
  | cons x obs ih =>
    intro h ob hob
    unfold apart1 at h
    cases hc : (Bool.rec (motive := fun _ => Bool) true (Bool.rec (motive := fun _ => Bool) false (bnot (Bool.rec (motive := fun _ => Bool) df true x.df)) (zeroN (Nat.lor (Nat.land x.dst (Nat.lor dst rd)) (Nat.land dst x.rd)))) (zeroN (Nat.land pr x.bit)) : Bool) with
    | false => rw [hc] at h; cases h
    | true =>
      rw [hc] at h
      cases hob with
      | head =>
        cases hz : zeroN (Nat.land pr x.bit) with
        | false => exact .inl (beq_neN hz)
        | true =>
          rw [hz] at hc
          cases hz2 : zeroN (Nat.lor (Nat.land x.dst (Nat.lor dst rd)) (Nat.land dst x.rd)) with
          | false => rw [hz2] at hc; cases hc
          | true =>
            have h0 : (x.dst &&& (dst ||| rd)) ||| (dst &&& x.rd) = 0 := beq_eqN hz2
            refine .inr ?_
            have := Nat.or_eq_zero_iff.1 h0
            exact this
      | tail _ hm => exact ih h ob hm
theorem regGo_get {ops : Array Oper} : ∀ (l : List Oper) (acc : List Nat) (obs : List OB), regGo ops l acc.length acc obs = true → ∀ (k : Nat) (o : Oper), l[k]? = some o →
    (∀ e ∈ o.after.toList, Region.binds .any e = true → e.on < acc.length + k) ∧ (∀ ob ∈ obs, Apart (mget (accL l acc) (acc.length + k)) o ops ob) ∧
      ∀ k' o', k' < k → l[k']? = some o' → Apart (mget (accL l acc) (acc.length + k)) o ops ⟨bitOf (acc.length + k'), dstBits o', readBits ops o', isDf o'.op⟩ := by
  intro l
  induction l with
  | nil => intro acc obs _ k o hk; simp at hk
  | cons x l ih =>
    intro acc obs h k o hk
    unfold regGo at h
    cases hc : (Bool.rec (motive := fun _ => Bool) false (apart1 (preds acc x.after.toList) (dstBits x) (readBits ops x) (isDf x.op) obs) (x.after.toList.all fun e => bnot (Region.binds .any e) || Nat.blt e.on acc.length) : Bool) with
    | false => rw [hc] at h; cases h
    | true =>
      rw [hc] at h
      have h' : regGo ops l (Nat.succ acc.length) (acc ++ [preds acc x.after.toList]) (⟨bitOf acc.length, dstBits x, readBits ops x, isDf x.op⟩ :: obs) = true := h
      have e : Nat.succ acc.length = (acc ++ [preds acc x.after.toList]).length := by simp
      rw [e] at h'
      cases ha : (x.after.toList.all fun e => bnot (Region.binds .any e) || Nat.blt e.on acc.length) with
      | false => rw [ha] at hc; cases hc
      | true =>
        rw [ha] at hc
        have hap : apart1 (preds acc x.after.toList) (dstBits x) (readBits ops x) (isDf x.op) obs = true := hc
        cases k with
        | zero =>
          simp at hk
          subst hk
          have hpr : mget (accL (x :: l) acc) (acc.length + 0) = preds acc x.after.toList := by
            rw [accL_get (x :: l) acc 0 x rfl, Nat.add_zero, (accL_take (x :: l) acc).1]
          refine ⟨?_, ?_, ?_⟩
          · intro e he hbe
            have := List.all_eq_true.1 ha e he
            rw [bnot_eq, hbe] at this
            exact blt_lt (by simpa using this)
          · intro ob hob
            rw [hpr]
            exact apart1_all obs hap ob hob
          · intro k' o' hk'; omega
        | succ k =>
          obtain ⟨q1, q2, q3⟩ := ih _ _ h' k o (by simpa using hk)
          have e2 : (acc ++ [preds acc x.after.toList]).length + k = acc.length + (k + 1) := by simp; omega
          rw [e2] at q1 q2 q3
          refine ⟨q1, fun ob hob => q2 ob (by simp [hob]), ?_⟩
          intro k' o' hk' ho'
          cases k' with
          | zero =>
            simp at ho'
            subst ho'
            exact q2 _ (by simp)
          | succ k' =>
            have := q3 k' o' (by omega) (by simpa using ho')
            have e3 : (acc ++ [preds acc x.after.toList]).length + k' = acc.length + (k' + 1) := by simp; omega
            rw [e3] at this
            exact this
theorem land_bit {x i : Nat} : Nat.land x (bitOf i) ≠ 0 → x.testBit i = true := by
  intro h
  cases hb : x.testBit i with
  | true => rfl
  | false =>
    refine absurd ?_ h
    show x &&& 2 ^ i = 0
    apply Nat.eq_of_testBit_eq
    intro j
    rw [Nat.testBit_and, Nat.testBit_two_pow, Nat.zero_testBit]
    by_cases hj : i = j
    · subst hj; rw [hb]; rfl
    · simp [hj]
theorem regOk_backward {ops : Array Oper} (h : regOk ops = true) : backward ops := by
  intro i o ho e he hb
  have := (regGo_get ops.toList [] [] h i o (by simpa using ho)).1 e he hb
  simpa using this
/-- the slots that an operation reads -/
def readsSlot (ops : Array Oper) (o : Oper) (t : Nat) : Prop := (.tmp t) ∈ o.op.operands.toList ∨ ∃ w, guardOf ops o = .on t w
theorem tmpBits_get {l : List Operand} {t : Nat} (h : .tmp t ∈ l) : (tmpBits l).testBit t = true := by
  induction l with
  | nil => cases h
  | cons x l ih =>
    show ((Operand.rec (motive := fun _ => Nat) bitOf (fun _ => 0) (fun _ => 0) (fun _ => 0) x : Nat) ||| tmpBits l).testBit t = true
    rw [Nat.testBit_or, Bool.or_eq_true]
    cases h with
    | head => exact .inl (by show (2 ^ t).testBit t = true; rw [Nat.testBit_two_pow]; simp)
    | tail _ hm => exact .inr (ih hm)
theorem readBits_get {ops : Array Oper} {o : Oper} {t : Nat} (h : readsSlot ops o t) : (readBits ops o).testBit t = true := by
  show (tmpBits o.op.operands.toList ||| (match guardOf ops o with | .on t _ => bitOf t | _ => 0)).testBit t = true
  rw [Nat.testBit_or, Bool.or_eq_true]
  rcases h with h | ⟨w, h⟩
  · exact .inl (tmpBits_get h)
  · rw [h]
    exact .inr (by show (2 ^ t).testBit t = true; rw [Nat.testBit_two_pow]; simp)
theorem dstBits_get {o : Oper} {t : Nat} (h : o.dst = some t) : (dstBits o).testBit t = true := by
  unfold dstBits
  rw [h]
  show (2 ^ t).testBit t = true
  rw [Nat.testBit_two_pow]; simp
theorem land_zero {x y t : Nat} (h : Nat.land x y = 0) (hx : x.testBit t = true) (hy : y.testBit t = true) : False := by
  have : (x &&& y).testBit t = true := by rw [Nat.testBit_and, hx, hy]; rfl
  rw [show x &&& y = 0 from h] at this
  simp at this
/-- the order of two operations that share a place is fixed -/
theorem regOk_slots {ops : Array Oper} (h : regOk ops = true) {i j : Nat} {o p : Oper} {t : Nat} (ho : ops[i]? = some o) (hp : ops[j]? = some p) (hij : i ≠ j) (hd : o.dst = some t) (hr : p.dst = some t ∨ readsSlot ops p t) :
    Bef ops i j ∨ Bef ops j i := by
  rcases Nat.lt_or_ge i j with hlt | hge
  · have := (regGo_get ops.toList [] [] h j p (by simpa using hp)).2.2 i o hlt (by simpa using ho)
    simp only [List.length_nil, Nat.zero_add] at this
    rcases this with h1 | ⟨h1, h2⟩
    · exact .inl (land_bit h1)
    · exfalso
      refine land_zero h1 (dstBits_get hd) (t := t) ?_
      show (dstBits p ||| readBits ops p).testBit t = true
      rw [Nat.testBit_or, Bool.or_eq_true]
      rcases hr with hr | hr
      · exact .inl (dstBits_get hr)
      · exact .inr (readBits_get hr)
  · have := (regGo_get ops.toList [] [] h i o (by simpa using ho)).2.2 j p (by omega) (by simpa using hp)
    simp only [List.length_nil, Nat.zero_add] at this
    rcases this with h1 | ⟨h1, h2⟩
    · exact .inr (land_bit h1)
    · exfalso
      rcases hr with hr | hr
      · refine land_zero h1 (dstBits_get hr) (t := t) ?_
        show (dstBits o ||| readBits ops o).testBit t = true
        rw [Nat.testBit_or, Bool.or_eq_true]
        exact .inl (dstBits_get hd)
      · exact land_zero h2 (dstBits_get hd) (readBits_get hr)
end Go.Ev
