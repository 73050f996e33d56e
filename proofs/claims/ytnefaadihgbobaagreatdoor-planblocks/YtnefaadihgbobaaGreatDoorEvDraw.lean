/- Regions whose order is open: what must run before what, and what may not. -/
import Derived.Test.YtnefaadihgbobaaGreatDoorEvCall
set_option linter.unusedSimpArgs false
set_option linter.unusedVariables false
namespace Go.Ev

noncomputable def accL : List Oper → List Nat → List Nat
  | [], acc => acc
  | o :: os, acc => accL os (acc ++ [preds acc o.after.toList])
theorem accL_take : ∀ (l : List Oper) (acc : List Nat), (accL l acc).take acc.length = acc ∧ (accL l acc).length = acc.length + l.length := by
  intro l
  induction l with
  | nil => intro acc; exact ⟨by simp [accL], by simp [accL]⟩
  | cons o l ih =>
    intro acc
    obtain ⟨h1, h2⟩ := ih (acc ++ [preds acc o.after.toList])
    refine ⟨?_, ?_⟩
    · show (accL l (acc ++ [preds acc o.after.toList])).take acc.length = acc
      have := congrArg (List.take acc.length) h1
      rw [List.take_take] at this
      have e : min acc.length (acc ++ [preds acc o.after.toList]).length = acc.length := by simp
      rw [e] at this
      rw [this]
      simp
    · show (accL l (acc ++ [preds acc o.after.toList])).length = _
      rw [h2]; simp; omega
theorem mget_take {l : List Nat} {i j : Nat} (hij : i < j) : mget (l.take j) i = mget l i := by
  unfold mget
  rw [List.getElem?_take, if_pos hij]
theorem accL_get : ∀ (l : List Oper) (acc : List Nat) (k : Nat) (o : Oper), l[k]? = some o → mget (accL l acc) (acc.length + k) = preds ((accL l acc).take (acc.length + k)) o.after.toList := by
  intro l
  induction l with
  | nil => intro acc k o hk; simp at hk
  | cons o l ih =>
    intro acc k x hk
    cases k with
    | zero =>
      simp at hk
      subst hk
      have h1 := (accL_take l (acc ++ [preds acc o.after.toList])).1
      show mget (accL l (acc ++ [preds acc o.after.toList])) (acc.length + 0) = preds ((accL l (acc ++ [preds acc o.after.toList])).take (acc.length + 0)) o.after.toList
      have h2 := (accL_take (o :: l) acc).1
      have h3 : (accL l (acc ++ [preds acc o.after.toList])).take acc.length = acc := h2
      rw [Nat.add_zero, h3]
      have := mget_take (l := accL l (acc ++ [preds acc o.after.toList])) (i := acc.length) (j := (acc ++ [preds acc o.after.toList]).length) (by simp)
      rw [← this, h1]
      simp [mget]
    | succ k =>
      have := ih (acc ++ [preds acc o.after.toList]) k x (by simpa using hk)
      have e : (acc ++ [preds acc o.after.toList]).length + k = acc.length + (k + 1) := by simp; omega
      rw [e] at this
      exact this
noncomputable def PR (ops : Array Oper) : List Nat := accL ops.toList []
/-- j must run before i -/
def Bef (ops : Array Oper) (j i : Nat) : Prop := (mget (PR ops) i).testBit j = true
theorem preds_bit {acc : List Nat} {j : Nat} : ∀ (es : List Edge), (preds acc es).testBit j = true → ∃ e ∈ es, Region.binds .any e = true ∧ (e.on = j ∨ (mget acc e.on).testBit j = true) := by
  intro es
  induction es with
  | nil => intro h; simp [preds] at h
  | cons e es ih =>
    intro h
    unfold preds at h
    cases hb : Region.binds .any e with
    | false =>
      rw [hb] at h
      obtain ⟨e', h1, h2⟩ := ih h
      exact ⟨e', by simp [h1], h2⟩
    | true =>
      rw [hb] at h
      have h' : ((bitOf e.on ||| mget acc e.on) ||| preds acc es).testBit j = true := h
      rw [Nat.testBit_or, Nat.testBit_or, Bool.or_eq_true, Bool.or_eq_true] at h'
      rcases h' with (h' | h') | h'
      · refine ⟨e, by simp, hb, .inl ?_⟩
        have : (2 ^ e.on).testBit j = true := h'
        rw [Nat.testBit_two_pow] at this
        simpa using this
      · exact ⟨e, by simp, hb, .inr h'⟩
      · obtain ⟨e', h1, h2⟩ := ih h'
        exact ⟨e', by simp [h1], h2⟩
theorem Bef.edge {ops : Array Oper} (hb : backward ops) {i j : Nat} {o : Oper} (ho : ops[i]? = some o) (h : Bef ops j i) : ∃ e ∈ o.after.toList, Region.binds .any e = true ∧ e.on < i ∧ (e.on = j ∨ Bef ops j e.on) := by
  have h1 := accL_get ops.toList [] i o (by simpa using ho)
  simp only [List.length_nil, Nat.zero_add] at h1
  unfold Bef PR at h
  rw [h1] at h
  obtain ⟨e, q1, q2, q3⟩ := preds_bit _ h
  have hlt := hb i o ho e q1 q2
  refine ⟨e, q1, q2, hlt, ?_⟩
  rcases q3 with q3 | q3
  · exact .inl q3
  · rw [mget_take hlt] at q3
    exact .inr q3
theorem Bef.lt {ops : Array Oper} (hb : backward ops) : ∀ {i j : Nat}, i < ops.size → Bef ops j i → j < i := by
  intro i
  induction i using Nat.strongRecOn with
  | _ i ih =>
    intro j hi h
    obtain ⟨e, q1, q2, q3, q4⟩ := h.edge hb (Array.getElem?_eq_getElem hi)
    rcases q4 with q4 | q4
    · omega
    · have := ih e.on q3 (by omega) q4
      omega
def EdgeClosed (ops : Array Oper) (D : Nat → Bool) : Prop := ∀ (x : Nat) (o : Oper), ops[x]? = some o → D x = true → ∀ e ∈ o.after.toList, Region.binds .any e = true → D e.on = true
theorem Bef.done {ops : Array Oper} (hb : backward ops) {D : Nat → Bool} (hD : EdgeClosed ops D) : ∀ {i : Nat} {o : Oper}, ops[i]? = some o → (∀ e ∈ o.after.toList, Region.binds .any e = true → D e.on = true) → ∀ j, Bef ops j i → D j = true := by
  intro i
  induction i using Nat.strongRecOn with
  | _ i ih =>
    intro o ho he j h
    obtain ⟨e, q1, q2, q3, q4⟩ := h.edge hb ho
    rcases q4 with rfl | q4
    · exact he e q1 q2
    · have hi : e.on < ops.size := by
        have := (Array.getElem?_eq_some_iff.1 ho).1
        omega
      exact ih e.on q3 (Array.getElem?_eq_getElem hi) (hD e.on _ (Array.getElem?_eq_getElem hi) (he e q1 q2)) j q4
theorem dops_get : ∀ (l : List Oper) (acc : List Nat) (k : Nat) (d : DO), (dops l acc.length acc)[k]? = some d → l[k]? = some d.o ∧ d.bit = bitOf (acc.length + k) ∧ d.pr = mget (accL l acc) (acc.length + k) := by
  intro l
  induction l with
  | nil => intro acc k d hk; simp [dops] at hk
  | cons o l ih =>
    intro acc k d hk
    cases k with
    | zero =>
      simp only [dops, List.getElem?_cons_zero, Option.some.injEq] at hk
      subst hk
      refine ⟨rfl, rfl, ?_⟩
      have := accL_get (o :: l) acc 0 o rfl
      rw [this, Nat.add_zero, (accL_take (o :: l) acc).1]
    | succ k =>
      simp only [dops, List.getElem?_cons_succ] at hk
      have e : Nat.succ acc.length = (acc ++ [preds acc o.after.toList]).length := by simp
      rw [e] at hk
      obtain ⟨h1, h2, h3⟩ := ih _ k d hk
      have e2 : (acc ++ [preds acc o.after.toList]).length + k = acc.length + (k + 1) := by simp; omega
      rw [e2] at h2 h3
      exact ⟨by simpa using h1, h2, h3⟩
theorem dops_len : ∀ (l : List Oper) (i : Nat) (acc : List Nat), (dops l i acc).length = l.length := by
  intro l
  induction l with
  | nil => intro i acc; rfl
  | cons o l ih => intro i acc; simp [dops, ih]
/-- two operations that may run in either order do not look at each other's places -/
def Apart (pr : Nat) (o : Oper) (ops : Array Oper) (ob : OB) : Prop :=
  Nat.land pr ob.bit ≠ 0 ∨ (Nat.land ob.dst (Nat.lor (dstBits o) (readBits ops o)) = 0 ∧ Nat.land (dstBits o) ob.rd = 0)
theorem apart1_all {pr dst rd : Nat} {df : Bool} : ∀ (obs : List OB), apart1 pr dst rd df obs = true → ∀ ob ∈ obs, Nat.land pr ob.bit ≠ 0 ∨ (Nat.land ob.dst (Nat.lor dst rd) = 0 ∧ Nat.land dst ob.rd = 0) := by
  intro obs
  induction obs with
  | nil => intro _ ob hob; cases hob
  | cons x obs ih =>
    intro h ob hob
    unfold apart1 at h
    cases hc : (Bool.rec (motive := fun _ => Bool) true (Bool.rec (motive := fun _ => Bool) false (bnot (Bool.rec (motive := fun _ => Bool) df true x.df)) (zeroN (Nat.lor (Nat.land x.dst (Nat.lor dst rd)) (Nat.land dst x.rd)))) (zeroN (Nat.land pr x.bit)) : Bool) with
    | false => rw [hc] at h; cases h
    | true =>
      rw [hc] at h
      cases hob with
      | head =>
        cases hz : zeroN (Nat.land pr x.bit) with
        | false => exact .inl (beq_neN hz)
        | true =>
          rw [hz] at hc
          cases hz2 : zeroN (Nat.lor (Nat.land x.dst (Nat.lor dst rd)) (Nat.land dst x.rd)) with
          | false => rw [hz2] at hc; cases hc
          | true =>
            have h0 : (x.dst &&& (dst ||| rd)) ||| (dst &&& x.rd) = 0 := beq_eqN hz2
            refine .inr ?_
            have := Nat.or_eq_zero_iff.1 h0
            exact this
      | tail _ hm => exact ih h ob hm
theorem regGo_get {ops : Array Oper} : ∀ (l : List Oper) (acc : List Nat) (obs : List OB), regGo ops l acc.length acc obs = true → ∀ (k : Nat) (o : Oper), l[k]? = some o →
    (∀ e ∈ o.after.toList, Region.binds .any e = true → e.on < acc.length + k) ∧ (∀ ob ∈ obs, Apart (mget (accL l acc) (acc.length + k)) o ops ob) ∧
      ∀ k' o', k' < k → l[k']? = some o' → Apart (mget (accL l acc) (acc.length + k)) o ops ⟨bitOf (acc.length + k'), dstBits o', readBits ops o', isDf o'.op⟩ := by
  intro l
  induction l with
  | nil => intro acc obs _ k o hk; simp at hk
  | cons x l ih =>
    intro acc obs h k o hk
    unfold regGo at h
    cases hc : (Bool.rec (motive := fun _ => Bool) false (apart1 (preds acc x.after.toList) (dstBits x) (readBits ops x) (isDf x.op) obs) (x.after.toList.all fun e => bnot (Region.binds .any e) || Nat.blt e.on acc.length) : Bool) with
    | false => rw [hc] at h; cases h
    | true =>
      rw [hc] at h
      have h' : regGo ops l (Nat.succ acc.length) (acc ++ [preds acc x.after.toList]) (⟨bitOf acc.length, dstBits x, readBits ops x, isDf x.op⟩ :: obs) = true := h
      have e : Nat.succ acc.length = (acc ++ [preds acc x.after.toList]).length := by simp
      rw [e] at h'
      cases ha : (x.after.toList.all fun e => bnot (Region.binds .any e) || Nat.blt e.on acc.length) with
      | false => rw [ha] at hc; cases hc
      | true =>
        rw [ha] at hc
        have hap : apart1 (preds acc x.after.toList) (dstBits x) (readBits ops x) (isDf x.op) obs = true := hc
        cases k with
        | zero =>
          simp at hk
          subst hk
          have hpr : mget (accL (x :: l) acc) (acc.length + 0) = preds acc x.after.toList := by
            rw [accL_get (x :: l) acc 0 x rfl, Nat.add_zero, (accL_take (x :: l) acc).1]
          refine ⟨?_, ?_, ?_⟩
          · intro e he hbe
            have := List.all_eq_true.1 ha e he
            rw [bnot_eq, hbe] at this
            exact blt_lt (by simpa using this)
          · intro ob hob
            rw [hpr]
            exact apart1_all obs hap ob hob
          · intro k' o' hk'; omega
        | succ k =>
          obtain ⟨q1, q2, q3⟩ := ih _ _ h' k o (by simpa using hk)
          have e2 : (acc ++ [preds acc x.after.toList]).length + k = acc.length + (k + 1) := by simp; omega
          rw [e2] at q1 q2 q3
          refine ⟨q1, fun ob hob => q2 ob (by simp [hob]), ?_⟩
          intro k' o' hk' ho'
          cases k' with
          | zero =>
            simp at ho'
            subst ho'
            exact q2 _ (by simp)
          | succ k' =>
            have := q3 k' o' (by omega) (by simpa using ho')
            have e3 : (acc ++ [preds acc x.after.toList]).length + k' = acc.length + (k' + 1) := by simp; omega
            rw [e3] at this
            exact this
theorem land_bit {x i : Nat} : Nat.land x (bitOf i) ≠ 0 → x.testBit i = true := by
  intro h
  cases hb : x.testBit i with
  | true => rfl
  | false =>
    refine absurd ?_ h
    show x &&& 2 ^ i = 0
    apply Nat.eq_of_testBit_eq
    intro j
    rw [Nat.testBit_and, Nat.testBit_two_pow, Nat.zero_testBit]
    by_cases hj : i = j
    · subst hj; rw [hb]; rfl
    · simp [hj]
theorem regOk_backward {ops : Array Oper} (h : regOk ops = true) : backward ops := by
  intro i o ho e he hb
  have := (regGo_get ops.toList [] [] h i o (by simpa using ho)).1 e he hb
  simpa using this
/-- the slots that an operation reads -/
def readsSlot (ops : Array Oper) (o : Oper) (t : Nat) : Prop := (.tmp t) ∈ o.op.operands.toList ∨ ∃ w, guardOf ops o = .on t w
theorem tmpBits_get {l : List Operand} {t : Nat} (h : .tmp t ∈ l) : (tmpBits l).testBit t = true := by
  induction l with
  | nil => cases h
  | cons x l ih =>
    show ((Operand.rec (motive := fun _ => Nat) bitOf (fun _ => 0) (fun _ => 0) (fun _ => 0) x : Nat) ||| tmpBits l).testBit t = true
    rw [Nat.testBit_or, Bool.or_eq_true]
    cases h with
    | head => exact .inl (by show (2 ^ t).testBit t = true; rw [Nat.testBit_two_pow]; simp)
    | tail _ hm => exact .inr (ih hm)
theorem readBits_get {ops : Array Oper} {o : Oper} {t : Nat} (h : readsSlot ops o t) : (readBits ops o).testBit t = true := by
  show (tmpBits o.op.operands.toList ||| (match guardOf ops o with | .on t _ => bitOf t | _ => 0)).testBit t = true
  rw [Nat.testBit_or, Bool.or_eq_true]
  rcases h with h | ⟨w, h⟩
  · exact .inl (tmpBits_get h)
  · rw [h]
    exact .inr (by show (2 ^ t).testBit t = true; rw [Nat.testBit_two_pow]; simp)
theorem dstBits_get {o : Oper} {t : Nat} (h : o.dst = some t) : (dstBits o).testBit t = true := by
  unfold dstBits
  rw [h]
  show (2 ^ t).testBit t = true
  rw [Nat.testBit_two_pow]; simp
theorem land_zero {x y t : Nat} (h : Nat.land x y = 0) (hx : x.testBit t = true) (hy : y.testBit t = true) : False := by
  have : (x &&& y).testBit t = true := by rw [Nat.testBit_and, hx, hy]; rfl
  rw [show x &&& y = 0 from h] at this
  simp at this
/-- the order of two operations that share a place is fixed -/
theorem regOk_slots {ops : Array Oper} (h : regOk ops = true) {i j : Nat} {o p : Oper} {t : Nat} (ho : ops[i]? = some o) (hp : ops[j]? = some p) (hij : i ≠ j) (hd : o.dst = some t) (hr : p.dst = some t ∨ readsSlot ops p t) :
    Bef ops i j ∨ Bef ops j i := by
  rcases Nat.lt_or_ge i j with hlt | hge
  · have := (regGo_get ops.toList [] [] h j p (by simpa using hp)).2.2 i o hlt (by simpa using ho)
    simp only [List.length_nil, Nat.zero_add] at this
    rcases this with h1 | ⟨h1, h2⟩
    · exact .inl (land_bit h1)
    · exfalso
      refine land_zero h1 (dstBits_get hd) (t := t) ?_
      show (dstBits p ||| readBits ops p).testBit t = true
      rw [Nat.testBit_or, Bool.or_eq_true]
      rcases hr with hr | hr
      · exact .inl (dstBits_get hr)
      · exact .inr (readBits_get hr)
  · have := (regGo_get ops.toList [] [] h i o (by simpa using ho)).2.2 j p (by omega) (by simpa using hp)
    simp only [List.length_nil, Nat.zero_add] at this
    rcases this with h1 | ⟨h1, h2⟩
    · exact .inr (land_bit h1)
    · exfalso
      rcases hr with hr | hr
      · refine land_zero h1 (dstBits_get hr) (t := t) ?_
        show (dstBits o ||| readBits ops o).testBit t = true
        rw [Nat.testBit_or, Bool.or_eq_true]
        exact .inl (dstBits_get hd)
      · exact land_zero h2 (dstBits_get hd) (readBits_get hr)
end Go.Ev

/- The run in the order of the text, and what the look behind it says. -/
set_option linter.unusedSimpArgs false
set_option linter.unusedVariables false
namespace Go.Ev
variable {P : Program} {G : Nat} {σ σ' : Sig} {h h' : H} {w w' : World} {v : AV} {nt : Nat} {f f' : L2} {a : Act} {ctx : CallT} {b : FB} {cs : List Frame}

theorem memN_spec (x : Nat) (l : List Nat) : memN x l = true ↔ x ∈ l := by
  induction l with
  | nil => exact ⟨fun hh => (by cases hh), fun hh => (by cases hh)⟩
  | cons y l ih =>
    show (Bool.rec (motive := fun _ => Bool) (memN x l) true (Nat.beq y x) : Bool) = true ↔ _
    cases hb : Nat.beq y x with
    | true => have := beq_eqN hb; subst this; simp
    | false =>
      have hne := beq_neN hb
      show memN x l = true ↔ _
      rw [ih, List.mem_cons]
      exact ⟨.inr, fun hh => hh.resolve_left (fun h2 => hne h2.symm)⟩
theorem memN_false {x : Nat} {l : List Nat} (hh : memN x l = false) : x ∉ l := by
  intro hm
  rw [(memN_spec x l).2 hm] at hh
  cases hh
theorem wrote_spec (n x : Nat) (l : List Nat) : x ∈ wrote n l ↔ x ∈ l ∧ x < n := by
  induction l with
  | nil => exact ⟨fun hh => (by cases hh), fun hh => (by cases hh.1)⟩
  | cons y l ih =>
    show x ∈ (Bool.rec (motive := fun _ => List Nat) (wrote n l) (y :: wrote n l) (Nat.blt y n) : List Nat) ↔ _
    cases hb : Nat.blt y n with
    | true =>
      have := blt_lt hb
      show x ∈ y :: wrote n l ↔ _
      rw [List.mem_cons, List.mem_cons, ih]
      constructor
      · rintro (rfl | ⟨h1, h2⟩)
        · exact ⟨.inl rfl, this⟩
        · exact ⟨.inr h1, h2⟩
      · rintro ⟨rfl | h1, h2⟩
        · exact .inl rfl
        · exact .inr ⟨h1, h2⟩
    | false =>
      have := blt_ge hb
      show x ∈ wrote n l ↔ _
      rw [List.mem_cons, ih]
      constructor
      · rintro ⟨h1, h2⟩; exact ⟨.inr h1, h2⟩
      · rintro ⟨rfl | h1, h2⟩
        · omega
        · exact ⟨h1, h2⟩
theorem outside_spec {l : List Nat} {lo hi : Nat} (hh : outside l lo hi = true) : ∀ x ∈ l, ¬ (lo ≤ x ∧ x < hi) := by
  induction l with
  | nil => intro x hx; cases hx
  | cons y l ih =>
    intro x hx hc
    have h1 : (Bool.rec (motive := fun _ => Bool) (outside l lo hi) false (Bool.rec (motive := fun _ => Bool) false (Nat.blt y hi) (Nat.ble lo y) : Bool) : Bool) = true := hh
    cases hq : (Bool.rec (motive := fun _ => Bool) false (Nat.blt y hi) (Nat.ble lo y) : Bool) with
    | true => rw [hq] at h1; cases h1
    | false =>
      rw [hq] at h1
      cases hx with
      | head =>
        have e1 : Nat.ble lo y = true := by simpa using hc.1
        have e2 : Nat.blt y hi = true := by rw [Nat.blt_eq]; exact hc.2
        rw [e1] at hq
        have hq' : Nat.blt y hi = false := hq
        rw [e2] at hq'
        cases hq'
      | tail _ hm => exact ih h1 x hm hc
theorem classOf_eq (o : AO) : classOf o = clsAO o := by
  cases o with
  | cells l t k => cases k <;> rfl
  | _ => rfl
theorem clear_blk {x : Nat} {l : List Nat} {h : H} (hh : clear (.blk x) l h = true) : x ∉ l ∧ ∀ k, clsAO (h.m.get x) = some k → k ∉ l := by
  have h1 : (Bool.rec (motive := fun _ => Bool) (clearB l (classOf (h.m.get x))) false (memN x l) : Bool) = true := hh
  cases hm : memN x l with
  | true => rw [hm] at h1; cases h1
  | false =>
    rw [hm] at h1
    refine ⟨memN_false hm, fun k hk => ?_⟩
    have h2 : clearB l (classOf (h.m.get x)) = true := h1
    rw [classOf_eq, hk] at h2
    have h3 : bnot (memN k l) = true := h2
    rw [bnot_eq] at h3
    exact memN_false (by simpa using h3)
theorem nilN_spec {l : List Nat} (hh : l ≠ []) : nilN l = false := by
  cases l with
  | nil => exact absurd rfl hh
  | cons x l => rfl
theorem calmAll_get {e : EF} : ∀ {l : List EF}, calmAll e l = true → ∀ x ∈ l, calm1 e x = true := by
  intro l
  induction l with
  | nil => intro _ x hx; cases hx
  | cons y l ih =>
    intro hh x hx
    have h1 : (Bool.rec (motive := fun _ => Bool) false (calmAll e l) (calm1 e y) : Bool) = true := hh
    cases hc : calm1 e y with
    | false => rw [hc] at h1; cases h1
    | true =>
      rw [hc] at h1
      cases hx with
      | head => exact hc
      | tail _ hm => exact ih h1 x hm
theorem effGo_get {all : List EF} : ∀ {l : List EF}, effGo all l = true → ∀ e ∈ l, e.w ≠ [] → ∀ x ∈ all, calm1 e x = true := by
  intro l
  induction l with
  | nil => intro _ x hx; cases hx
  | cons y l ih =>
    intro hh e he hne x hx
    have h1 : (Bool.rec (motive := fun _ => Bool) (Bool.rec (motive := fun _ => Bool) false (effGo all l) (calmAll y all)) (effGo all l) (nilN y.w) : Bool) = true := hh
    cases hn : nilN y.w with
    | true =>
      rw [hn] at h1
      cases he with
      | head => rw [nilN_spec hne] at hn; cases hn
      | tail _ hm => exact ih h1 e hm hne x hx
    | false =>
      rw [hn] at h1
      have h2 : (Bool.rec (motive := fun _ => Bool) false (effGo all l) (calmAll y all) : Bool) = true := h1
      cases hc : calmAll y all with
      | false => rw [hc] at h2; cases h2
      | true =>
        rw [hc] at h2
        cases he with
        | head => exact calmAll_get hc x hx
        | tail _ hm => exact ih h2 e hm hne x hx
theorem calm1_get {e x : EF} (hh : calm1 e x = true) : Nat.land e.pr x.bit ≠ 0 ∨ Nat.land x.pr e.bit ≠ 0 ∨ e.bit = x.bit ∨ (clear x.r e.w x.h = true ∧ outside e.w x.h.nx x.n1 = true) := by
  unfold calm1 at hh
  cases hz : zeroN (Nat.lor (Nat.land e.pr x.bit) (Nat.land x.pr e.bit)) with
  | false =>
    have hne : (e.pr &&& x.bit) ||| (x.pr &&& e.bit) ≠ 0 := beq_neN hz
    by_cases h1 : e.pr &&& x.bit = 0
    · refine .inr (.inl fun h2 => hne ?_)
      rw [h1, show x.pr &&& e.bit = 0 from h2]; rfl
    · exact .inl h1
  | true =>
    rw [hz] at hh
    cases hb : Nat.beq e.bit x.bit with
    | true => exact .inr (.inr (.inl (beq_eqN hb)))
    | false =>
      rw [hb] at hh
      cases hd : disj e.w x.w with
      | false => rw [hd] at hh; cases hh
      | true =>
        rw [hd] at hh
        cases hc : clear x.r e.w x.h with
        | false => rw [hc] at hh; cases hh
        | true => rw [hc] at hh; exact .inr (.inr (.inr ⟨rfl, hh⟩))
/-- the run, taken apart -/
theorem drOps_trace {ops : Array Oper} {lg : List Nat} : ∀ (l : List DO) (efs : List EF) (f : L2) (h : H) (f' : L2) (h' : H), drOps P ctx ops lg l efs f h = .nrm f' h' →
    ∃ (F : Nat → L2) (Hs : Nat → H) (es : List EF), F 0 = f ∧ Hs 0 = h ∧ (∀ i d, l[i]? = some d → oper1 ops d.o P ctx (F i) (noLog (Hs i)) = .nrm (F (i + 1)) (Hs (i + 1)) ∧
      es[i]? = some ⟨d.bit, d.pr, wrote (Hs i).nx (Hs (i + 1)).lg, readsOf d.o.op (F i), Hs i, (Hs (i + 1)).nx⟩) ∧ es.length = l.length ∧ effOk (es.reverse ++ efs) = true ∧ f' = F l.length ∧
        h' = reLog (wroteAll (es.reverse ++ efs) lg) (Hs l.length) := by
  intro l
  induction l with
  | nil =>
    intro efs f h f' h' he
    have h1 : (Bool.rec (motive := fun _ => RC) (.bad 183) (.nrm f (reLog (wroteAll efs lg) h)) (effOk efs) : RC) = .nrm f' h' := he
    cases hc : effOk efs with
    | false => rw [hc] at h1; cases h1
    | true =>
      rw [hc] at h1
      cases h1
      exact ⟨fun _ => f, fun _ => h, [], rfl, rfl, fun i d hi => by simp at hi, rfl, hc, rfl, rfl⟩
  | cons d l ih =>
    intro efs f h f' h' he
    have h1 : (RC.rec (motive := fun _ => RC) RC.bad (fun f' h' => drOps P ctx ops lg l (⟨d.bit, d.pr, wrote h.nx h'.lg, readsOf d.o.op f, h, h'.nx⟩ :: efs) f' h') (fun _ _ _ => .bad 184) (fun _ _ => .bad 184) (oper1 ops d.o P ctx f (noLog h)) : RC) = .nrm f' h' := he
    cases ho : oper1 ops d.o P ctx f (noLog h) with
    | bad n => rw [ho] at h1; cases h1
    | ext id f1 h1' => rw [ho] at h1; cases h1
    | ret f1 h1' => rw [ho] at h1; cases h1
    | nrm f1 h1' =>
      rw [ho] at h1
      obtain ⟨F, Hs, es, q1, q2, q3, q4, q5, q6, q7⟩ := ih _ f1 h1' f' h' h1
      refine ⟨fun i => Nat.casesOn i f F, fun i => Nat.casesOn i h Hs, ⟨d.bit, d.pr, wrote h.nx h1'.lg, readsOf d.o.op f, h, h1'.nx⟩ :: es, rfl, rfl, ?_, by simp [q4], ?_, q6, ?_⟩
      · intro i d' hi
        cases i with
        | zero =>
          simp at hi
          subst hi
          dsimp only
          rw [q1, q2]
          exact ⟨ho, rfl⟩
        | succ i =>
          have := q3 i d' (by simpa using hi)
          exact ⟨this.1, by simpa using this.2⟩
      · rw [List.reverse_cons, List.append_assoc]
        exact q5
      · rw [List.reverse_cons, List.append_assoc]
        exact q7
/-- all that is known of the run -/
structure Dr (P : Program) (G : Nat) (ctx : CallT) (ops : Array Oper) (nt : Nat) (F : Nat → L2) (Hs : Nat → H) : Prop where
  reg : regOk ops = true
  run : ∀ (i : Nat) (o : Oper), ops[i]? = some o → oper1 ops o P ctx (F i) (noLog (Hs i)) = .nrm (F (i + 1)) (Hs (i + 1))
  calm : ∀ (i j : Nat) (p : Oper), i < ops.size → ops[j]? = some p → i ≠ j → (∃ x, x ∈ (Hs (i + 1)).lg ∧ x < (Hs i).nx) → Bef ops i j ∨ Bef ops j i ∨
    (clear (readsOf p.op (F j)) (wrote (Hs i).nx (Hs (i + 1)).lg) (Hs j) = true ∧ outside (wrote (Hs i).nx (Hs (i + 1)).lg) (Hs j).nx (Hs (j + 1)).nx = true)
  step : ∀ i, i < ops.size → AStep (noLog (Hs i)) (Hs (i + 1)) (Hs (i + 1)).lg
  inv : ∀ i, i ≤ ops.size → AInv (Hs i)
  nodf : ∀ o ∈ ops.toList, isDefer o.op = none
  all : ∀ o ∈ ops.toList, operOk G nt o = true
  nt : nt < 250
  top : (Hs ops.size).nx ≤ lim
theorem reverse_mem {es : List EF} {i : Nat} {x : EF} (hh : es[i]? = some x) : x ∈ es.reverse ++ [] := by
  simp only [List.append_nil, List.mem_reverse]
  exact List.mem_of_getElem? hh
theorem AInv.noLog (hi : AInv h) : AInv (noLog h) := ⟨hi.top, hi.bound, hi.cls, hi.tip, hi.stamp, hi.len⟩
theorem AInv.reLog (hi : AInv h) (lg : List Nat) : AInv (reLog lg h) := ⟨hi.top, hi.bound, hi.cls, hi.tip, hi.stamp, hi.len⟩
theorem St.noLog (hs : St G σ nt f a h w) : St G σ nt f a (noLog h) w := ⟨hs.fr, hs.gl, hs.ai.noLog, hs.so, hs.ma⟩
theorem Dr.of_run (hc : CtxSound P G ctx) {ops : Array Oper} (hreg : regOk ops = true) (hall : ∀ x ∈ ops.toList, operOk G nt x = true) (hnt : nt < 250) (he : execDrawn P ctx ops f h = .nrm f' h')
    (hs : St G σ nt f a h w) (hb : RBk b σ f) (hl : h'.nx ≤ lim) (hf : Free σ h h') :
    ∃ F Hs es, Dr P G ctx ops nt F Hs ∧ F 0 = f ∧ Hs 0 = h ∧ f' = F ops.size ∧ h' = reLog (wroteAll es h.lg) (Hs ops.size) ∧
      (es.reverse).length = ops.size ∧ ∀ i, i < ops.size → ∃ x, es.reverse[i]? = some x ∧ x.w = wrote (Hs i).nx (Hs (i + 1)).lg := by
  unfold execDrawn at he
  cases hd : noDf ops with
  | false => rw [hd] at he; cases he
  | true =>
    rw [hd] at he
    obtain ⟨F, Hs, es, q1, q2, q3, q4, q5, q6, q7⟩ := drOps_trace _ _ f h f' h' he
    have hlen : (dops ops.toList 0 []).length = ops.size := by rw [dops_len]; simp
    have hdo : ∀ (i : Nat) (o : Oper), ops[i]? = some o → ∃ d, (dops ops.toList 0 [])[i]? = some d ∧ d.o = o ∧ d.bit = bitOf i ∧ d.pr = mget (PR ops) i := by
      intro i o ho
      have hi : i < (dops ops.toList 0 []).length := by rw [hlen]; exact (Array.getElem?_eq_some_iff.1 ho).1
      obtain ⟨h1, h2, h3⟩ := dops_get ops.toList [] i _ (List.getElem?_eq_getElem hi)
      refine ⟨_, List.getElem?_eq_getElem hi, ?_, by simpa using h2, by simpa [PR] using h3⟩
      have : ops.toList[i]? = some o := by simpa using ho
      rw [this] at h1
      cases h1
      rfl
    have hrun : ∀ (i : Nat) (o : Oper), ops[i]? = some o → oper1 ops o P ctx (F i) (noLog (Hs i)) = .nrm (F (i + 1)) (Hs (i + 1)) := by
      intro i o ho
      obtain ⟨d, h1, rfl, h2, h3⟩ := hdo i o ho
      exact (q3 i d h1).1
    have hnx1 : ∀ i, i < ops.size → (Hs i).nx ≤ (Hs (i + 1)).nx := by
      intro i hi
      have := mono_oper1 (P := P) (f := F i) (h := noLog (Hs i)) hc.mono ops ops[i]
      exact this _ _ (.inl (hrun i _ (Array.getElem?_eq_getElem hi)))
    have hnx : ∀ j, j ≤ ops.size → (Hs j).nx ≤ (Hs ops.size).nx := by
      intro j hj
      have key : ∀ m, j + m ≤ ops.size → (Hs j).nx ≤ (Hs (j + m)).nx := by
        intro m
        induction m with
        | zero => intro _; exact Nat.le_refl _
        | succ m ih =>
          intro hm
          have := ih (by omega)
          have h2 := hnx1 (j + m) (by omega)
          exact Nat.le_trans this h2
      have := key (ops.size - j) (by omega)
      rwa [show j + (ops.size - j) = ops.size by omega] at this
    rw [hlen] at q6 q7
    have htop : (Hs ops.size).nx ≤ lim := by rw [q7] at hl; exact hl
    have hf0 : Free σ (Hs 0) (Hs ops.size) := by rw [q2]; rw [q7] at hf; exact hf
    -- the ghost
    have ghost : ∀ i, i ≤ ops.size → (∃ σ a w, St G σ nt (F i) a (Hs i) w ∧ RBk b σ (F i) ∧ Free σ (Hs i) (Hs ops.size)) ∧ ∀ j, j < i → AStep (noLog (Hs j)) (Hs (j + 1)) (Hs (j + 1)).lg := by
      intro i
      induction i with
      | zero =>
        intro _
        refine ⟨⟨σ, a, w, ?_, ?_, hf0⟩, fun j hj => absurd hj (by omega)⟩
        · rw [q1, q2]; exact hs
        · rw [q1]; exact hb
      | succ i ih =>
        intro hi
        obtain ⟨⟨σ1, a1, w1, g1, g2, g3⟩, g4⟩ := ih (by omega)
        have ho : ops[i]? = some ops[i] := Array.getElem?_eq_getElem hi
        have hmem : ops[i] ∈ ops.toList := by simp
        obtain ⟨f2, h2, e2, s2⟩ := oper_sound hc hall hnt (hall _ hmem) (hrun i _ ho) (fun n hn => by cases hn) (fun _ _ _ hn => by cases hn) g1.noLog g2
        cases e2
        have hle := hnx (i + 1) hi
        obtain ⟨σ2, a2, w2, t1, t2, t3, _⟩ := s2 (by omega) (g3.left hle)
        refine ⟨⟨σ2, a2, w2, t1, t2, Free.right (h := noLog (Hs i)) g3 t3⟩, fun j hj => ?_⟩
        by_cases hji : j = i
        · subst hji
          obtain ⟨nw, a1, _, _⟩ := t3
          have : (Hs (j + 1)).lg = nw := by rw [a1.lg]; simp [noLog]
          rw [this]
          exact a1
        · exact g4 j (by omega)
    have hfx : ∀ (i : Nat) (o : Oper), ops[i]? = some o → es[i]? = some ⟨bitOf i, mget (PR ops) i, wrote (Hs i).nx (Hs (i + 1)).lg, readsOf o.op (F i), Hs i, (Hs (i + 1)).nx⟩ := by
      intro i o ho
      obtain ⟨d, h1, rfl, h2, h3⟩ := hdo i o ho
      rw [← h2, ← h3]
      exact (q3 i d h1).2
    refine ⟨F, Hs, es.reverse, ⟨hreg, hrun, ?_, fun i hi => (ghost (i + 1) hi).2 i (by omega), fun i hi => ?_, ?_, hall, hnt, htop⟩, q1, q2, q6, by simpa using q7, by simp [q4, hlen], ?_⟩
    · intro i j p hi hp hij hne
      have e1 := hfx i _ (Array.getElem?_eq_getElem hi)
      have e2 := hfx j p hp
      have hnw : wrote (Hs i).nx (Hs (i + 1)).lg ≠ [] := by
        obtain ⟨x, h1, h2⟩ := hne
        exact List.ne_nil_of_mem ((wrote_spec _ x _).2 ⟨h1, h2⟩)
      have hcm := effGo_get q5 _ (reverse_mem e1) hnw _ (reverse_mem e2)
      rcases calm1_get hcm with h1 | h1 | h1 | ⟨h1, h2⟩
      · exact .inr (.inl (land_bit h1))
      · exact .inl (land_bit h1)
      · exact absurd ((Nat.pow_right_inj (by omega : 1 < 2)).1 h1) hij
      · exact .inr (.inr ⟨h1, h2⟩)
    · obtain ⟨⟨σ1, a1, w1, g1, _⟩, _⟩ := ghost i hi
      exact g1.ai
    · intro o ho
      have := List.all_eq_true.1 hd o ho
      rw [bnot_eq] at this
      unfold isDf at this
      cases hq : isDefer o.op with
      | none => rfl
      | some c => rw [hq] at this; cases this
    · intro i hi
      rw [List.reverse_reverse]
      exact ⟨_, hfx i _ (Array.getElem?_eq_getElem hi), rfl⟩
end Go.Ev

/- What a run in another order sees. -/
set_option linter.unusedSimpArgs false
set_option linter.unusedVariables false
namespace Go.Ev
variable {P : Program} {G : Nat} {σ σ' : Sig} {h h' : H} {w w' : World} {v : AV} {nt : Nat} {f f' : L2} {a : Act} {ctx : CallT} {b : FB} {cs : List Frame} {ops : Array Oper} {F : Nat → L2} {Hs : Nat → H}

/-- an operation writes a block, or makes it -/
def T (Hs : Nat → H) (x y : Nat) : Prop := y ∈ (Hs (x + 1)).lg ∨ ((Hs x).nx ≤ y ∧ y < (Hs (x + 1)).nx)
def Wt (ops : Array Oper) (x t : Nat) : Prop := ∃ o, ops[x]? = some o ∧ o.dst = some t
theorem Dr.nx (dr : Dr P G ctx ops nt F Hs) {i j : Nat} (hij : i ≤ j) (hj : j ≤ ops.size) : (Hs i).nx ≤ (Hs j).nx := by
  have key : ∀ m, i + m ≤ ops.size → (Hs i).nx ≤ (Hs (i + m)).nx := by
    intro m
    induction m with
    | zero => intro _; exact Nat.le_refl _
    | succ m ih =>
      intro hm
      exact Nat.le_trans (ih (by omega)) (dr.step (i + m) (by omega)).nx
  have := key (j - i) (by omega)
  rwa [show i + (j - i) = j by omega] at this
theorem Dr.nxl (dr : Dr P G ctx ops nt F Hs) {i : Nat} (hi : i ≤ ops.size) : (Hs i).nx ≤ lim := Nat.le_trans (dr.nx hi (Nat.le_refl _)) dr.top
theorem Dr.low (dr : Dr P G ctx ops nt F Hs) {x y : Nat} (hx : x < ops.size) (ht : T Hs x y) : y < (Hs (x + 1)).nx := by
  rcases ht with ht | ht
  · exact (dr.step x hx).low y ht
  · exact ht.2
theorem Dr.quiet1 (dr : Dr P G ctx ops nt F Hs) {x y : Nat} (hx : x < ops.size) (hy : y < lim) (ht : ¬ T Hs x y) : (Hs (x + 1)).m.get y = (Hs x).m.get y := by
  have hst := dr.step x hx
  by_cases h1 : y < (Hs x).nx
  · exact hst.keep y hy h1 (fun hh => ht (.inl hh))
  · have h2 : (Hs (x + 1)).nx ≤ y := by
      rcases Nat.lt_or_ge y (Hs (x + 1)).nx with h3 | h3
      · exact absurd (.inr ⟨by omega, h3⟩) ht
      · exact h3
    rw [(dr.inv (x + 1) hx).bound y h2 hy, (dr.inv x (by omega)).bound y (by omega) hy]
theorem Dr.quiet (dr : Dr P G ctx ops nt F Hs) {i j y : Nat} (hi : i ≤ ops.size) (hj : j ≤ ops.size) (hy : y < lim) (ht : ∀ x, x < ops.size → T Hs x y → (x < i ↔ x < j)) : (Hs i).m.get y = (Hs j).m.get y := by
  have key : ∀ m i, i + m ≤ ops.size → (∀ x, i ≤ x → x < i + m → ¬ T Hs x y) → (Hs i).m.get y = (Hs (i + m)).m.get y := by
    intro m
    induction m with
    | zero => intro i _ _; rfl
    | succ m ih =>
      intro i hm hn
      rw [ih i (by omega) (fun x h1 h2 => hn x h1 (by omega))]
      exact (dr.quiet1 (by omega) hy (hn (i + m) (by omega) (by omega))).symm
  rcases Nat.le_total i j with h1 | h1
  · have := key (j - i) i (by omega) (fun x h2 h3 h4 => by have := ht x (by omega) h4; omega)
    rwa [show i + (j - i) = j by omega] at this
  · have := key (i - j) j (by omega) (fun x h2 h3 h4 => by have := ht x (by omega) h4; omega)
    rw [show j + (i - j) = i by omega] at this
    exact this.symm
/-- a frame behind an operation -/
theorem Dr.frame (dr : Dr P G ctx ops nt F Hs) {x : Nat} {o : Oper} (ho : ops[x]? = some o) : (∀ t : Nat, o.dst = some t → t < nt) ∧ ∃ v, F (x + 1) = putD o.dst v (F x) := by
  have hmem : o ∈ ops.toList := by simpa using Array.mem_of_getElem? ho
  refine ⟨(operOk_dst (dr.all o hmem)).2, ?_⟩
  rcases oper1_cases (dr.run x o ho) (fun n hn => by cases hn) (fun _ _ _ hn => by cases hn) with ⟨_, he⟩ | ⟨_, _, v, h', _, he⟩ | ⟨_, c, hd, _⟩
  · injection he with h1 h2; exact ⟨_, h1⟩
  · injection he with h1 h2; exact ⟨_, h1⟩
  · rw [dr.nodf o hmem] at hd; cases hd
theorem Dr.fquiet1 (dr : Dr P G ctx ops nt F Hs) {x t : Nat} (hx : x < ops.size) (ht : t < 256) (hw : ¬ Wt ops x t) : (F (x + 1)).get t = (F x).get t := by
  have ho : ops[x]? = some ops[x] := Array.getElem?_eq_getElem hx
  obtain ⟨hd, v, he⟩ := dr.frame ho
  have hnt := dr.nt
  rw [he, putD_get (fun u hu => Nat.lt_trans (hd u hu) hnt) t ht, if_neg (fun hh => hw ⟨_, ho, hh⟩)]
theorem Dr.fquiet (dr : Dr P G ctx ops nt F Hs) {i j t : Nat} (hi : i ≤ ops.size) (hj : j ≤ ops.size) (ht : t < 256) (hw : ∀ x, x < ops.size → Wt ops x t → (x < i ↔ x < j)) : (F i).get t = (F j).get t := by
  have key : ∀ m i, i + m ≤ ops.size → (∀ x, i ≤ x → x < i + m → ¬ Wt ops x t) → (F i).get t = (F (i + m)).get t := by
    intro m
    induction m with
    | zero => intro i _ _; rfl
    | succ m ih =>
      intro i hm hn
      rw [ih i (by omega) (fun x h1 h2 => hn x h1 (by omega))]
      exact (dr.fquiet1 (by omega) ht (hn (i + m) (by omega) (by omega))).symm
  rcases Nat.le_total i j with h1 | h1
  · have := key (j - i) i (by omega) (fun x h2 h3 h4 => by have := hw x (by omega) h4; omega)
    rwa [show i + (j - i) = j by omega] at this
  · have := key (i - j) j (by omega) (fun x h2 h3 h4 => by have := hw x (by omega) h4; omega)
    rw [show j + (i - j) = i by omega] at this
    exact this.symm
theorem Dr.made_once (dr : Dr P G ctx ops nt F Hs) {x y z : Nat} (hx : x < ops.size) (hz : z < ops.size) (h1 : (Hs x).nx ≤ y ∧ y < (Hs (x + 1)).nx) (h2 : (Hs z).nx ≤ y ∧ y < (Hs (z + 1)).nx) : x = z := by
  rcases Nat.lt_trichotomy x z with h3 | h3 | h3
  · have := dr.nx (i := x + 1) (j := z) h3 (by omega); omega
  · exact h3
  · have := dr.nx (i := z + 1) (j := x) h3 (by omega); omega
/-- the class of a block that an operation makes -/
theorem Dr.same (dr : Dr P G ctx ops nt F Hs) {i j y k : Nat} (hij : i ≤ j) (hj : j ≤ ops.size) (hy : y < (Hs i).nx) (hk : clsAO ((Hs j).m.get y) = some k) : clsAO ((Hs i).m.get y) = some k := by
  have hyl : y < lim := Nat.lt_of_lt_of_le hy (dr.nxl (by omega))
  have key : ∀ m, i + m ≤ ops.size → clsAO ((Hs (i + m)).m.get y) = some k → clsAO ((Hs i).m.get y) = some k := by
    intro m
    induction m with
    | zero => intro _ hh; exact hh
    | succ m ih =>
      intro hm hh
      refine ih (by omega) ((dr.step (i + m) (by omega)).same y k ?_ hyl hh)
      exact Nat.lt_of_lt_of_le hy (dr.nx (by omega) (by omega))
  exact key (j - i) (by omega) (by rwa [show i + (j - i) = j by omega])

/-- the state of a run in which the operations of D are done -/
structure Iv (G : Nat) (ops : Array Oper) (nt : Nat) (F : Nat → L2) (Hs : Nat → H) (σ0 : Sig) (w0 : World) (NW : List Nat) (D : Nat → Bool) (σ : Sig) (g : L2) (a : Act) (w : World) : Prop where
  edges : EdgeClosed ops D
  fr : FRel σ nt g a
  slots : ∀ t, t < 250 → ∃ j, j ≤ ops.size ∧ (∀ x, x < ops.size → Wt ops x t → (D x = true ↔ x < j)) ∧ g.get t = (F j).get t
  ds : g.get dslot = (F 0).get dslot
  gl : GOk G σ
  so : SOk σ w
  cst : CStep σ0 σ (Hs 0) (Hs ops.size) w0 w NW
  dom : ∀ y e, σ y = some e → (y < (Hs 0).nx ∨ (Hs ops.size).nx ≤ y) ∨ ∃ x, x < ops.size ∧ D x = true ∧ (Hs x).nx ≤ y ∧ y < (Hs (x + 1)).nx
  mem : ∀ y e, σ y = some e → ∃ j, j ≤ ops.size ∧ (∀ x, x < ops.size → T Hs x y → (D x = true ↔ x < j)) ∧
    (∀ k, clsAO ((Hs j).m.get y) = some k → ∀ x, x < ops.size → T Hs x k → (D x = true ↔ x < j)) ∧ BRel G σ (Hs j).m.get e w ((Hs j).m.get y)
/-- the same block, at another place of the run -/
theorem Dr.move (dr : Dr P G ctx ops nt F Hs) {i j y : Nat} {e : SE} (hi : i ≤ ops.size) (hj : j ≤ ops.size) (hy : y < lim) (h1 : ∀ x, x < ops.size → T Hs x y → (x < j ↔ x < i))
    (h2 : ∀ k, clsAO ((Hs j).m.get y) = some k → ∀ x, x < ops.size → T Hs x k → (x < j ↔ x < i)) (hb : BRel G σ (Hs j).m.get e w ((Hs j).m.get y)) :
    (Hs i).m.get y = (Hs j).m.get y ∧ BRel G σ (Hs i).m.get e w ((Hs i).m.get y) := by
  have he := dr.quiet hj hi hy h1
  refine ⟨he.symm, ?_⟩
  rw [← he]
  refine BRel.congr (Sle.refl σ) rfl ?_ hb
  intro l t k st ho hk
  have hcls : clsAO ((Hs j).m.get y) = some k := by rw [ho]; rfl
  have hkl : k < lim := by
    have := ((dr.inv j hj).cls y k hy hcls).1
    have := dr.nxl hj
    omega
  rw [dr.quiet hj hi hkl (h2 k hcls)]
  exact hk
section step
variable {σ0 : Sig} {w0 : World} {NW : List Nat} {D : Nat → Bool} {g : L2} {i : Nat} {o : Oper}
def D1 (D : Nat → Bool) (i : Nat) : Nat → Bool := fun j => if j = i then true else D j
theorem D1_self : D1 D i i = true := if_pos rfl
theorem D1_ne {x : Nat} (hx : x ≠ i) : D1 D i x = D x := if_neg hx
/-- what is bound to i lies on its side -/
theorem Iv.side (dr : Dr P G ctx ops nt F Hs) (iv : Iv G ops nt F Hs σ0 w0 NW D σ g a w) (ho : ops[i]? = some o) (hd : D i = false) (he : ∀ e ∈ o.after.toList, Region.binds .any e = true → D e.on = true)
    {x : Nat} (hx : x < ops.size) (hor : Bef ops x i ∨ Bef ops i x) : (D x = true ↔ x < i) := by
  have hb := regOk_backward dr.reg
  have hi : i < ops.size := (Array.getElem?_eq_some_iff.1 ho).1
  rcases hor with hor | hor
  · exact ⟨fun _ => hor.lt hb hi, fun _ => Bef.done hb iv.edges ho he x hor⟩
  · have hlt := hor.lt hb hx
    refine ⟨fun hD => ?_, fun hh => absurd hh (by omega)⟩
    have := Bef.done hb iv.edges (Array.getElem?_eq_getElem hx) (iv.edges x _ (Array.getElem?_eq_getElem hx) hD) i hor
    rw [hd] at this
    cases this
theorem Iv.edges1 (iv : Iv G ops nt F Hs σ0 w0 NW D σ g a w) (ho : ops[i]? = some o) (he : ∀ e ∈ o.after.toList, Region.binds .any e = true → D e.on = true) : EdgeClosed ops (D1 D i) := by
  intro x p hp hx e hm hb
  have hup : ∀ z, D z = true → D1 D i z = true := by
    intro z hz
    by_cases hzi : z = i
    · subst hzi; exact D1_self
    · rw [D1_ne hzi]; exact hz
  by_cases hxi : x = i
  · subst hxi
    rw [ho] at hp
    cases hp
    exact hup _ (he e hm hb)
  · rw [D1_ne hxi] at hx
    exact hup _ (iv.edges x p hp hx e hm hb)
theorem Iv.reads (dr : Dr P G ctx ops nt F Hs) (iv : Iv G ops nt F Hs σ0 w0 NW D σ g a w) (ho : ops[i]? = some o) (hd : D i = false) (he : ∀ e ∈ o.after.toList, Region.binds .any e = true → D e.on = true)
    {t : Nat} (ht : t < 250) (hr : readsSlot ops o t) : g.get t = (F i).get t := by
  have hi : i < ops.size := (Array.getElem?_eq_some_iff.1 ho).1
  obtain ⟨j, h1, h2, h3⟩ := iv.slots t ht
  rw [h3]
  refine dr.fquiet h1 (by omega) (by omega) (fun x hx hw => ?_)
  have h4 := h2 x hx hw
  by_cases hxi : x = i
  · subst hxi
    rw [hd] at h4
    simp at h4
    omega
  · obtain ⟨p, hp, hpd⟩ := hw
    have := iv.side dr ho hd he hx (regOk_slots dr.reg hp ho hxi hpd (.inr hr))
    rw [← h4, this]
/-- the slots behind an operation -/
theorem Iv.slots1 (dr : Dr P G ctx ops nt F Hs) (iv : Iv G ops nt F Hs σ0 w0 NW D σ g a w) (ho : ops[i]? = some o) (hd : D i = false) (he : ∀ e ∈ o.after.toList, Region.binds .any e = true → D e.on = true)
    {v : AV} (hF : F (i + 1) = putD o.dst v (F i)) : ∀ t, t < 250 → ∃ j, j ≤ ops.size ∧ (∀ x, x < ops.size → Wt ops x t → (D1 D i x = true ↔ x < j)) ∧ (putD o.dst v g).get t = (F j).get t := by
  intro t ht
  have hi : i < ops.size := (Array.getElem?_eq_some_iff.1 ho).1
  have hdst := (dr.frame ho).1
  have hnt := dr.nt
  have hg : ∀ f : L2, (putD o.dst v f).get t = if o.dst = some t then v else f.get t := fun f => putD_get (fun u hu => Nat.lt_trans (hdst u hu) hnt) t (by omega)
  by_cases hot : o.dst = some t
  · refine ⟨i + 1, hi, fun x hx hw => ?_, ?_⟩
    · by_cases hxi : x = i
      · subst hxi; rw [D1_self]; simp
      · rw [D1_ne hxi]
        obtain ⟨p, hp, hpd⟩ := hw
        rw [iv.side dr ho hd he hx (regOk_slots dr.reg hp ho hxi hpd (.inl hot))]
        omega
    · rw [hF, hg g, hg (F i), if_pos hot, if_pos hot]
  · obtain ⟨j, h1, h2, h3⟩ := iv.slots t ht
    refine ⟨j, h1, fun x hx hw => ?_, ?_⟩
    · by_cases hxi : x = i
      · subst hxi
        obtain ⟨p, hp, hpd⟩ := hw
        rw [ho] at hp
        cases hp
        exact absurd hpd hot
      · rw [D1_ne hxi]; exact h2 x hx hw
    · rw [hg g, if_neg hot, h3]
theorem Iv.ds1 (dr : Dr P G ctx ops nt F Hs) (iv : Iv G ops nt F Hs σ0 w0 NW D σ g a w) (ho : ops[i]? = some o) (v : AV) : (putD o.dst v g).get dslot = (F 0).get dslot := by
  have hdst := (dr.frame ho).1
  have hnt := dr.nt
  rw [putD_get (fun u hu => Nat.lt_trans (hdst u hu) hnt) dslot (by decide), if_neg (fun hh => by have h1 : (255 : Nat) < nt := hdst 255 hh; omega)]
  exact iv.ds
theorem Iv.free (dr : Dr P G ctx ops nt F Hs) (iv : Iv G ops nt F Hs σ0 w0 NW D σ g a w) (hi : i < ops.size) (hd : D i = false) : Free σ (noLog (Hs i)) (Hs (i + 1)) := by
  intro y h1 h2
  cases hy : σ y with
  | none => rfl
  | some e =>
    have h1' : (Hs i).nx ≤ y := h1
    rcases iv.dom y e hy with h3 | ⟨x, h3, h4, h5⟩
    · have := dr.nx (i := 0) (j := i) (by omega) (by omega)
      have := dr.nx (i := i + 1) (j := ops.size) hi (Nat.le_refl _)
      omega
    · have := dr.made_once h3 hi h5 ⟨h1', h2⟩
      subst this
      rw [hd] at h4; cases h4
/-- an operation that makes and writes nothing -/
theorem Iv.still (dr : Dr P G ctx ops nt F Hs) (iv : Iv G ops nt F Hs σ0 w0 NW D σ g a w) (ho : ops[i]? = some o) (hd : D i = false) (he : ∀ e ∈ o.after.toList, Region.binds .any e = true → D e.on = true)
    {v : AV} {v' : Value} (hF : F (i + 1) = putD o.dst v (F i)) (hH : Hs (i + 1) = noLog (Hs i)) (hv : VRel σ v v') : Iv G ops nt F Hs σ0 w0 NW (D1 D i) σ (putD o.dst v g) (a.put o.dst v') w := by
  have hi : i < ops.size := (Array.getElem?_eq_some_iff.1 ho).1
  have hdst := (dr.frame ho).1
  have hT : ∀ y, ¬ T Hs i y := by
    intro y hy
    unfold T at hy
    rw [hH] at hy
    rcases hy with hy | ⟨h1, h2⟩
    · cases hy
    · have h2' : y < (Hs i).nx := h2
      omega
  have hside : ∀ x y, T Hs x y → D1 D i x = D x := by
    intro x y hxy
    refine D1_ne ?_
    rintro rfl
    exact hT y hxy
  refine ⟨iv.edges1 ho he, iv.fr.put hdst dr.nt hv, iv.slots1 dr ho hd he hF, iv.ds1 dr ho v, iv.gl, iv.so, iv.cst, ?_, ?_⟩
  · intro y e hy
    rcases iv.dom y e hy with h1 | ⟨x, h1, h2, h3⟩
    · exact .inl h1
    · refine .inr ⟨x, h1, ?_, h3⟩
      rw [hside x y (.inr h3)]; exact h2
  · intro y e hy
    obtain ⟨j, h1, h2, h3, h4⟩ := iv.mem y e hy
    refine ⟨j, h1, fun x hx hT => ?_, fun k hk x hx hT => ?_, h4⟩
    · rw [hside x y hT]; exact h2 x hx hT
    · rw [hside x k hT]; exact h3 k hk x hx hT
end step
end Go.Ev

/- One operation of a run in another order. -/
set_option linter.unusedSimpArgs false
set_option linter.unusedVariables false
namespace Go.Ev
variable {P : Program} {G : Nat} {σ σ' : Sig} {h h' : H} {w w' : World} {v : AV} {nt : Nat} {f f' : L2} {a : Act} {ctx : CallT} {b : FB} {cs : List Frame} {ops : Array Oper} {F : Nat → L2} {Hs : Nat → H}

theorem BRel.cls {g : Nat → AO} {e : SE} {o : AO} {k : Nat} (hb : BRel G σ g e w o) (hk : e.k = some k) : o = .none ∨ clsAO o = some k := by
  cases o with
  | none => exact .inl rfl
  | ctr n => have : e.k = none := hb; rw [hk] at this; cases this
  | cells l t kk => have := hb.1; rw [hk] at this; exact .inr this.symm
  | map es => have := hb.1; rw [hk] at this; cases this
  | loop a1 a2 a3 a4 a5 a6 => have := hb.1; rw [hk] at this; cases this
  | dfr t => have := hb.1; rw [hk] at this; cases this
theorem CStep.join {σ1 σ2 : Sig} {hn hi hj : H} {w1 w2 : World} {NW nw : List Nat} (a : CStep σ σ1 h hn w w1 NW) (b : CStep σ1 σ2 hi hj w1 w2 nw) (e1 : h.nx ≤ hi.nx) (e2 : hj.nx ≤ hn.nx)
    (hsub : ∀ y ∈ nw, ∀ e, σ1 y = some e → y ∈ NW) : CStep σ σ2 h hn w w2 NW := by
  refine ⟨a.le.trans b.le, ?_, b.ok, Nat.le_trans a.grow b.grow, ?_, ?_, ⟨b.io.1.trans a.io.1, b.io.2.trans a.io.2⟩⟩
  · intro x e h3 h4
    cases h5 : σ1 x with
    | none => have := b.fresh x e h5 h4; omega
    | some e' => exact a.fresh x e' h3 h5
  · intro c h3 h4
    have g1 := a.frame c h3 h4
    have g2 := b.frame c (by have := a.grow; omega) (fun x hx e he hc => ?_)
    · rw [g2, g1]
    · have hxN := hsub x hx e he
      cases h5 : σ x with
      | some e' =>
        have := a.le x e' h5
        rw [he] at this
        cases this
        exact h4 x hxN e h5 hc
      | none =>
        rcases a.newc x e h5 he with h6 | ⟨b0, hb0, e0, h7, h8⟩
        · omega
        · exact h4 b0 hb0 e0 h7 (by omega)
  · intro x e h3 h4
    cases h5 : σ1 x with
    | some e' =>
      have := b.le x e' h5
      rw [h4] at this
      cases this
      exact a.newc x e h3 h5
    | none =>
      rcases b.newc x e h5 h4 with h6 | ⟨b0, hb0, e0, h7, h8⟩
      · exact .inl (by have := a.grow; omega)
      · have hbN := hsub b0 hb0 e0 h7
        cases h9 : σ b0 with
        | some e9 =>
          have := a.le b0 e9 h9
          rw [h7] at this
          cases this
          exact .inr ⟨b0, hbN, e0, h9, h8⟩
        | none =>
          rcases a.newc b0 e0 h9 h7 with h6 | ⟨b1, hb1, e1, h10, h11⟩
          · exact .inl (by omega)
          · exact .inr ⟨b1, hb1, e1, h10, by omega⟩
section step
variable {σ0 : Sig} {w0 : World} {NW : List Nat} {D : Nat → Bool} {g : L2} {i : Nat} {o : Oper}
theorem T.cases {x y : Nat} (dr : Dr P G ctx ops nt F Hs) (hx : x < ops.size) (ht : T Hs x y) : (y ∈ (Hs (x + 1)).lg ∧ y < (Hs x).nx) ∨ ((Hs x).nx ≤ y ∧ y < (Hs (x + 1)).nx) := by
  have hlow := dr.low hx ht
  rcases Nat.lt_or_ge y (Hs x).nx with h1 | h1
  · rcases ht with ht | ht
    · exact .inl ⟨ht, h1⟩
    · omega
  · exact .inr ⟨h1, hlow⟩
/-- a block that i may look at is as the text's order has it -/
theorem Iv.here (dr : Dr P G ctx ops nt F Hs) (iv : Iv G ops nt F Hs σ0 w0 NW D σ g a w) (ho : ops[i]? = some o) (hd : D i = false) (he : ∀ e ∈ o.after.toList, Region.binds .any e = true → D e.on = true)
    {y : Nat} {e : SE} (hy : σ y = some e) (hyn : y < (Hs i).nx)
    (hw : ∀ x z, x < ops.size → x ≠ i → (z = y ∨ clsAO ((Hs i).m.get y) = some z) → z ∈ (Hs (x + 1)).lg → z < (Hs x).nx → Bef ops x i ∨ Bef ops i x) :
    (∀ x, x < ops.size → T Hs x y → (D x = true ↔ x < i)) ∧ (∀ k, clsAO ((Hs i).m.get y) = some k → ∀ x, x < ops.size → T Hs x k → (D x = true ↔ x < i)) ∧ BRel G σ (Hs i).m.get e w ((Hs i).m.get y) := by
  have hi : i < ops.size := (Array.getElem?_eq_some_iff.1 ho).1
  have hyl := iv.so.low y e hy
  have hself : D i = true ↔ i < i := by rw [hd]; simp
  have h1 : ∀ x, x < ops.size → T Hs x y → (D x = true ↔ x < i) := by
    intro x hx ht
    by_cases hxi : x = i
    · subst hxi; exact hself
    · rcases ht.cases dr hx with ⟨q1, q2⟩ | q
      · exact iv.side dr ho hd he hx (hw x y hx hxi (.inl rfl) q1 q2)
      · have hlt : x < i := by
          rcases Nat.lt_or_ge x i with h3 | h3
          · exact h3
          · have := dr.nx h3 (by omega); omega
        refine ⟨fun _ => hlt, fun _ => ?_⟩
        rcases iv.dom y e hy with h3 | ⟨z, h3, h4, h5⟩
        · have := dr.nx (i := 0) (j := x) (by omega) (by omega)
          have := dr.nx (i := i) (j := ops.size) (by omega) (Nat.le_refl _)
          omega
        · have := dr.made_once h3 hx h5 q
          subst this
          exact h4
  obtain ⟨j, k1, k2, k3, k4⟩ := iv.mem y e hy
  have h1' : ∀ x, x < ops.size → T Hs x y → (x < j ↔ x < i) := fun x hx ht => by rw [← k2 x hx ht, h1 x hx ht]
  have hsame := dr.quiet k1 (by omega) hyl h1'
  have h2 : ∀ k, clsAO ((Hs i).m.get y) = some k → ∀ x, x < ops.size → T Hs x k → (D x = true ↔ x < i) := by
    intro k hk x hx ht
    by_cases hxi : x = i
    · subst hxi; exact hself
    · rcases ht.cases dr hx with ⟨q1, q2⟩ | q
      · exact iv.side dr ho hd he hx (hw x k hx hxi (.inr hk) q1 q2)
      · have hkn := ((dr.inv i (by omega)).cls y k hyl hk).1
        have hlt : x < i := by
          rcases Nat.lt_or_ge x i with h3 | h3
          · exact h3
          · have := dr.nx h3 (by omega); omega
        refine ⟨fun _ => hlt, fun _ => ?_⟩
        have hkj : clsAO ((Hs j).m.get y) = some k := by rw [hsame]; exact hk
        have hkn2 := ((dr.inv j k1).cls y k hyl hkj).1
        refine (k3 k hkj x hx ht).2 ?_
        rcases Nat.lt_or_ge x j with h3 | h3
        · exact h3
        · have := dr.nx h3 (by omega); omega
  refine ⟨h1, h2, (dr.move (by omega) k1 hyl h1' ?_ k4).2⟩
  intro k hk x hx ht
  rw [← k3 k hk x hx ht]
  rw [hsame] at hk
  rw [h2 k hk x hx ht]
/-- an operation that makes one block and looks at nothing -/
theorem Iv.make (dr : Dr P G ctx ops nt F Hs) (iv : Iv G ops nt F Hs σ0 w0 NW D σ g a w) (ho : ops[i]? = some o) (hd : D i = false) (he : ∀ e ∈ o.after.toList, Region.binds .any e = true → D e.on = true)
    {v : AV} {v' : Value} {l : List AV} {l' : Array Value} {t : TypeId} (hF : F (i + 1) = putD o.dst v (F i)) (hH : Hs (i + 1) = (noLog (Hs i)).new (.cells l t .exact)) (hl : LRel σ l l'.toList)
    (hv : VRel (upd σ (Hs i).nx ⟨w.heap.size, l.length, none⟩) v v') : Iv G ops nt F Hs σ0 w0 NW (D1 D i) (upd σ (Hs i).nx ⟨w.heap.size, l.length, none⟩) (putD o.dst v g) (a.put o.dst v') (wpush w (.cells l' t)) := by
  have hi : i < ops.size := (Array.getElem?_eq_some_iff.1 ho).1
  have hdst := (dr.frame ho).1
  have hnx : (Hs (i + 1)).nx = (Hs i).nx + 1 := by rw [hH]; rfl
  have hlt : (Hs i).nx < lim := by have := dr.nxl (i := i + 1) hi; omega
  have hlg : (Hs (i + 1)).lg = [] := by rw [hH]; rfl
  have hT : ∀ y, T Hs i y → y = (Hs i).nx := by
    intro y hy
    rcases hy with hy | ⟨h1, h2⟩
    · rw [hlg] at hy; cases hy
    · omega
  have hf : σ (Hs i).nx = none := iv.free dr hi hd _ (Nat.le_refl _) (by rw [hnx]; exact Nat.lt_succ_self _)
  have hle := upd_le (e := ⟨w.heap.size, l.length, none⟩) hf
  have hso := iv.so.push (b := (Hs i).nx) (e := ⟨w.heap.size, l.length, none⟩) (.cells l' t) hlt rfl
  have hup : ∀ z, D z = true → D1 D i z = true := by
    intro z hz
    by_cases hzi : z = i
    · subst hzi; exact D1_self
    · rw [D1_ne hzi]; exact hz
  have hget : (Hs (i + 1)).m.get (Hs i).nx = .cells l t .exact := by
    rw [hH]
    have := new_get (noLog (Hs i)) (.cells l t .exact) hlt (Hs i).nx hlt
    rw [this]
    exact if_pos rfl
  refine ⟨iv.edges1 ho he, (iv.fr.mono hle).put hdst dr.nt hv, iv.slots1 dr ho hd he hF, iv.ds1 dr ho v, iv.gl.mono hle, hso, ?_, ?_, ?_⟩
  · refine iv.cst.join (hi := Hs i) (hj := Hs (i + 1)) (nw := []) ⟨hle, ?_, hso, ?_, ?_, ?_, ⟨rfl, rfl⟩⟩ (dr.nx (by omega) (by omega)) (dr.nx hi (Nat.le_refl _)) (fun y hy => by cases hy)
    · intro y e h1 h2
      unfold upd at h2
      split at h2
      · omega
      · rw [h1] at h2; cases h2
    · rw [size_push]; omega
    · intro c h1 _; exact heap_push w _ c h1
    · intro y e h1 h2
      unfold upd at h2
      split at h2
      · cases h2; exact .inl (Nat.le_refl _)
      · rw [h1] at h2; cases h2
  · intro y e hy
    unfold upd at hy
    split at hy
    · rename_i hyi
      exact .inr ⟨i, hi, D1_self, by omega, by omega⟩
    · rcases iv.dom y e hy with h1 | ⟨x, h1, h2, h3⟩
      · exact .inl h1
      · exact .inr ⟨x, h1, hup x h2, h3⟩
  · intro y e hy
    unfold upd at hy
    split at hy
    · rename_i hyi
      subst hyi
      cases hy
      refine ⟨i + 1, hi, ?_, ?_, ?_⟩
      · intro x hx ht
        by_cases hxi : x = i
        · subst hxi; rw [D1_self]; simp
        · rw [D1_ne hxi]
          rcases ht.cases dr hx with ⟨q1, q2⟩ | q
          · rcases dr.calm x i o hx ho hxi ⟨_, q1, q2⟩ with h1 | h1 | ⟨_, h1⟩
            · rw [iv.side dr ho hd he hx (.inl h1)]; omega
            · rw [iv.side dr ho hd he hx (.inr h1)]; omega
            · exact absurd ⟨Nat.le_refl _, by omega⟩ (outside_spec h1 _ ((wrote_spec _ _ _).2 ⟨q1, q2⟩))
          · exact absurd (dr.made_once hx hi q ⟨Nat.le_refl _, by omega⟩) hxi
      · intro k hk
        rw [hget] at hk
        cases hk
      · rw [hget]
        have hsz : l'.size = l.length := by have := hl.1; simpa using this.symm
        exact ⟨rfl, fun _ => ⟨l', 0, 0, heap_push_at w _, hsz, Nat.le_refl _, fun j x y hx hy => (hl.cells_rel j x y hx hy).mono hle, fun _ => rfl, fun _ j hj => by omega⟩⟩
    · rename_i hyi
      obtain ⟨j, k1, k2, k3, k4⟩ := iv.mem y e hy
      refine ⟨j, k1, ?_, ?_, ?_⟩
      · intro x hx ht
        by_cases hxi : x = i
        · subst hxi; exact absurd (hT y ht) hyi
        · rw [D1_ne hxi]; exact k2 x hx ht
      · intro k hk x hx ht
        by_cases hxi : x = i
        · subst hxi
          have h5 := k3 k hk x hx ht
          rw [hd] at h5
          have h6 : j ≤ x := by simp at h5; omega
          have h7 := ((dr.inv j k1).cls y k (iv.so.low y e hy) hk).1
          have h8 := dr.nx h6 (by omega)
          have h9 := hT k ht
          omega
        · rw [D1_ne hxi]; exact k3 k hk x hx ht
      · exact BRel.congr hle (heap_push w _ _ (iv.so.rng y e hy)) (fun _ _ _ _ _ hh => hh) k4
end step
end Go.Ev

/- A region whose order is open. -/
set_option linter.unusedSimpArgs false
set_option linter.unusedVariables false
namespace Go.Ev
variable {P : Program} {G : Nat} {σ σ' : Sig} {h h' : H} {w w' : World} {v : AV} {nt : Nat} {f f' : L2} {a : Act} {ctx : CallT} {b : FB} {cs : List Frame} {ops : Array Oper} {F : Nat → L2} {Hs : Nat → H}
section step
variable {σ0 : Sig} {w0 : World} {NW : List Nat} {D : Nat → Bool} {g : L2} {i : Nat} {o : Oper}
/-- an operation that may look at all -/
theorem Iv.whole (dr : Dr P G ctx ops nt F Hs) (iv : Iv G ops nt F Hs σ0 w0 NW D σ g a w) (ho : ops[i]? = some o) (hd : D i = false) (he : ∀ e ∈ o.after.toList, Region.binds .any e = true → D e.on = true)
    (hNW : ∀ x y, x < ops.size → y ∈ (Hs (x + 1)).lg → y < (Hs x).nx → y ∈ NW) (hord : ∀ x, x < ops.size → x ≠ i → (∃ z, z ∈ (Hs (x + 1)).lg ∧ z < (Hs x).nx) → Bef ops x i ∨ Bef ops i x) :
    MAll G σ (Hs i).m.get w ∧ ∀ (v : AV) (v' : Value) (σ' : Sig) (w' : World), F (i + 1) = putD o.dst v (F i) → VRel σ' v v' → Out G σ (noLog (Hs i)) w σ' (Hs (i + 1)) w' →
      Iv G ops nt F Hs σ0 w0 NW (D1 D i) σ' (putD o.dst v g) (a.put o.dst v') w' := by
  have hi : i < ops.size := (Array.getElem?_eq_some_iff.1 ho).1
  have hdst := (dr.frame ho).1
  have hinv := dr.inv i (by omega)
  have hfree := iv.free dr hi hd
  have hhere : ∀ y e, σ y = some e → y < (Hs i).nx → _ := fun y e hy hyn => iv.here dr ho hd he hy hyn (fun x z hx hxi _ q1 q2 => hord x hx hxi ⟨z, q1, q2⟩)
  have hma : MAll G σ (Hs i).m.get w := by
    intro y e hy
    rcases Nat.lt_or_ge y (Hs i).nx with h1 | h1
    · exact (hhere y e hy h1).2.2
    · rw [hinv.bound y h1 (iv.so.low y e hy)]; trivial
  refine ⟨hma, ?_⟩
  intro v v' σ' w' hF hv hout
  have hout0 := hout
  obtain ⟨nw, ast, cst, ma'⟩ := hout
  have hnw : (Hs (i + 1)).lg = nw := by rw [ast.lg]; simp [noLog]
  have hnin : ∀ y ∈ nw, ∀ e, σ y = some e → y < (Hs i).nx := by
    intro y hy e hye
    rcases Nat.lt_or_ge y (Hs i).nx with h1 | h1
    · exact h1
    · rw [hfree y h1 (ast.low y hy)] at hye; cases hye
  have hup : ∀ z, D z = true → D1 D i z = true := by
    intro z hz
    by_cases hzi : z = i
    · subst hzi; exact D1_self
    · rw [D1_ne hzi]; exact hz
  have hfresh : ∀ y e, σ y = none → σ' y = some e → (Hs i).nx ≤ y ∧ y < (Hs (i + 1)).nx := fun y e h1 h2 => cst.fresh y e h1 h2
  -- a block of which nothing is touched
  have hstill : ∀ y e j, σ y = some e → ¬ T Hs i y → (∀ k, clsAO ((Hs j).m.get y) = some k → ¬ T Hs i k) → BRel G σ (Hs j).m.get e w ((Hs j).m.get y) → BRel G σ' (Hs j).m.get e w' ((Hs j).m.get y) := by
    intro y e j hy hty htk hb
    by_cases hnone : (Hs j).m.get y = .none
    · rw [hnone]; trivial
    · refine BRel.congr cst.le (cst.frame e.c (iv.so.rng y e hy) ?_) (fun _ _ _ _ _ hh => hh) hb
      intro y0 hy0 e0 he0 hc
      rcases iv.so.inj y0 y e0 e he0 hy hc with h1 | ⟨h1, h2⟩
      · subst h1
        exact hty (.inl (by rw [hnw]; exact hy0))
      · cases hk : e0.k with
        | none => exact h2 hk
        | some k =>
          have hlt0 := hnin y0 hy0 e0 he0
          have hlive := ast.live y0 hy0 hlt0 (iv.so.low y0 e0 he0)
          have hb0 := hma y0 e0 he0
          have hc0 : clsAO ((Hs i).m.get y0) = some k := (hb0.cls hk).resolve_left hlive
          have hkin := ast.cls y0 hy0 k hlt0 hc0
          have hcy : clsAO ((Hs j).m.get y) = some k := (hb.cls (by rw [← h1]; exact hk)).resolve_left hnone
          exact htk k hcy (.inl (by rw [hnw]; exact hkin))
  refine ⟨iv.edges1 ho he, (iv.fr.mono cst.le).put hdst dr.nt hv, iv.slots1 dr ho hd he hF, iv.ds1 dr ho v, iv.gl.mono cst.le, cst.ok, ?_, ?_, ?_⟩
  · refine iv.cst.join cst (dr.nx (by omega) (by omega)) (dr.nx hi (Nat.le_refl _)) ?_
    intro y hy e hye
    exact hNW i y hi (by rw [hnw]; exact hy) (hnin y hy e hye)
  · intro y e hy
    cases hyo : σ y with
    | none =>
      have := hfresh y e hyo hy
      exact .inr ⟨i, hi, D1_self, this⟩
    | some e' =>
      rcases iv.dom y e' hyo with h1 | ⟨x, h1, h2, h3⟩
      · exact .inl h1
      · exact .inr ⟨x, h1, hup x h2, h3⟩
  · intro y e hy
    cases hyo : σ y with
    | some e' =>
      have hee : e' = e := by
        have := cst.le y e' hyo
        rw [hy] at this
        cases this; rfl
      subst hee
      rcases Nat.lt_or_ge y (Hs i).nx with h1 | h1
      · obtain ⟨q1, q2, q3⟩ := hhere y e' hyo h1
        by_cases hto : T Hs i y ∨ ∃ k, clsAO ((Hs i).m.get y) = some k ∧ T Hs i k
        · refine ⟨i + 1, hi, ?_, ?_, ma' y e' hy⟩
          · intro x hx ht
            by_cases hxi : x = i
            · subst hxi; rw [D1_self]; simp
            · rw [D1_ne hxi, q1 x hx ht]; omega
          · intro k hk x hx ht
            have hk' := dr.same (i := i) (j := i + 1) (by omega) hi h1 hk
            by_cases hxi : x = i
            · subst hxi; rw [D1_self]; simp
            · rw [D1_ne hxi, q2 k hk' x hx ht]; omega
        · rw [not_or] at hto
          have hto2 : ∀ k, clsAO ((Hs i).m.get y) = some k → ¬ T Hs i k := fun k hk ht => hto.2 ⟨k, hk, ht⟩
          refine ⟨i, by omega, ?_, ?_, hstill y e' i hyo hto.1 hto2 q3⟩
          · intro x hx ht
            by_cases hxi : x = i
            · subst hxi; exact absurd ht hto.1
            · rw [D1_ne hxi]; exact q1 x hx ht
          · intro k hk x hx ht
            by_cases hxi : x = i
            · subst hxi; exact absurd ht (hto2 k hk)
            · rw [D1_ne hxi]; exact q2 k hk x hx ht
      by_cases hfar : (Hs ops.size).nx ≤ y
      · have hnt : ∀ x, x < ops.size → ¬ T Hs x y := by
          intro x hx ht
          have h5 := dr.low hx ht
          have h6 := dr.nx (i := x + 1) (j := ops.size) hx (Nat.le_refl _)
          omega
        have hnone : (Hs i).m.get y = .none := hinv.bound y h1 (iv.so.low y e' hyo)
        refine ⟨i, by omega, fun x hx ht => absurd ht (hnt x hx), fun k hk => ?_, ?_⟩
        · rw [hnone] at hk; cases hk
        · rw [hnone]; trivial
      · -- made by an operation behind i in the text
        obtain ⟨x0, p1, p2, p3⟩ : ∃ x, x < ops.size ∧ D x = true ∧ (Hs x).nx ≤ y ∧ y < (Hs (x + 1)).nx := by
          rcases iv.dom y e' hyo with h2 | h2
          · have := dr.nx (i := 0) (j := i) (by omega) (by omega); omega
          · exact h2
        have hx0i : x0 ≠ i := by rintro rfl; rw [hd] at p2; cases p2
        have hgt : i < x0 := by
          rcases Nat.lt_or_ge i x0 with h2 | h2
          · exact h2
          · have h3 : x0 + 1 ≤ i := by omega
            have := dr.nx h3 (by omega); omega
        have hnxx := dr.nx (i := i + 1) (j := x0) hgt (by omega)
        obtain ⟨j, k1, k2, k3, k4⟩ := iv.mem y e' hyo
        have hty : ¬ T Hs i y := by
          intro ht
          have := dr.low hi ht
          omega
        have htk : ∀ k, clsAO ((Hs j).m.get y) = some k → ¬ T Hs i k := by
          intro k hk ht
          have hkl := dr.low hi ht
          have hxj : x0 < j := (k2 x0 p1 (.inr p3)).1 p2
          have hk2 := dr.same (i := x0 + 1) (j := j) hxj k1 p3.2 hk
          rcases (dr.step x0 p1).newc y k p3.1 p3.2 (iv.so.low y e' hyo) hk2 with h5 | h5
          · have hor := hord x0 p1 hx0i ⟨k, h5, by omega⟩
            have := (iv.side dr ho hd he p1 hor).1 p2
            omega
          · have h5' : (Hs x0).nx ≤ k := h5
            omega
        refine ⟨j, k1, ?_, ?_, hstill y e' j hyo hty htk k4⟩
        · intro x hx ht
          by_cases hxi : x = i
          · subst hxi; exact absurd ht hty
          · rw [D1_ne hxi]; exact k2 x hx ht
        · intro k hk x hx ht
          by_cases hxi : x = i
          · subst hxi; exact absurd ht (htk k hk)
          · rw [D1_ne hxi]; exact k3 k hk x hx ht
    | none =>
      have hin := hfresh y e hyo hy
      have hyl := cst.ok.low y e hy
      refine ⟨i + 1, hi, ?_, ?_, ma' y e hy⟩
      · intro x hx ht
        by_cases hxi : x = i
        · subst hxi; rw [D1_self]; simp
        · rw [D1_ne hxi]
          rcases ht.cases dr hx with ⟨q1, q2⟩ | q
          · rw [iv.side dr ho hd he hx (hord x hx hxi ⟨y, q1, q2⟩)]; omega
          · exact absurd (dr.made_once hx hi q hin) hxi
      · intro k hk x hx ht
        by_cases hxi : x = i
        · subst hxi; rw [D1_self]; simp
        · rw [D1_ne hxi]
          rcases ht.cases dr hx with ⟨q1, q2⟩ | q
          · rw [iv.side dr ho hd he hx (hord x hx hxi ⟨k, q1, q2⟩)]; omega
          · have hkn := ((dr.inv (i + 1) hi).cls y k hyl hk).1
            have hlt : x < i := by
              rcases Nat.lt_or_ge x i with h3 | h3
              · exact h3
              · have h4 : i + 1 ≤ x := by omega
                have := dr.nx h4 (by omega); omega
            have hnxx := dr.nx (i := x + 1) (j := i) hlt (by omega)
            rcases ast.newc y k hin.1 hin.2 hyl hk with h5 | h5
            · have hkw : k < (Hs i).nx := by omega
              obtain ⟨p, hp⟩ : ∃ p, ops[x]? = some p := ⟨_, Array.getElem?_eq_getElem hx⟩
              rcases dr.calm i x p hi hp (Ne.symm hxi) ⟨k, by rw [hnw]; exact h5, hkw⟩ with h6 | h6 | ⟨_, h6⟩
              · rw [iv.side dr ho hd he hx (.inr h6)]; omega
              · rw [iv.side dr ho hd he hx (.inl h6)]; omega
              · exact absurd q (outside_spec h6 k ((wrote_spec _ _ _).2 ⟨by rw [hnw]; exact h5, hkw⟩))
            · have h5' : (Hs i).nx ≤ k := h5
              omega
end step
end Go.Ev

/- A region whose order is open, in every order. -/
set_option linter.unusedSimpArgs false
set_option linter.unusedVariables false
namespace Go.Ev
variable {P : Program} {G : Nat} {σ σ' : Sig} {h h' : H} {w w' : World} {v : AV} {nt : Nat} {f f' : L2} {a : Act} {ctx : CallT} {b : FB} {cs : List Frame} {ops : Array Oper} {F : Nat → L2} {Hs : Nat → H}

def Good1At (P : Program) (G : Nat) (o : Oper) (f : L2) : Prop := ∀ (σ : Sig) (nt : Nat) (a : Act) (h h' : H) (w : World) (v : AV) (ctx : CallT),
  opD o.op o.type P ctx f h = .ok v h' → o.op.operands.toList.all (opdOk G) = true → FRel σ nt f a → GOk G σ → ∃ v' w', Ran P (execOp a.eval o) w v' w' ∧ Eff1 σ h w v v' h' w'
theorem Good1.at {o : Oper} (hg : Good1 P G o) (f : L2) : Good1At P G o f := fun σ nt a h h' w v ctx => hg σ nt f a h h' w v ctx
theorem reads_cases (o : Oper) (f : L2) : readsOf o.op f = .all ∨ Good1At P G o f ∨ ∃ t x, o.op = .load t x := by
  obtain ⟨dst, op, ty, pos, af, gd⟩ := o
  cases op
  case move x => exact .inr (.inl ((good_move x).at f))
  case assign x => exact .inr (.inl ((good_assign x).at f))
  case pick c x y => exact .inr (.inl ((good_pick c x y).at f))
  case alloc e => exact .inr (.inl ((good_alloc e).at f))
  case box e x => exact .inr (.inl ((good_box e x).at f))
  case build t p => exact .inr (.inl ((good_build t p).at f))
  case buildSlice t n p => exact .inr (.inl ((good_buildSlice t n p).at f))
  case load t x => exact .inr (.inr ⟨t, x, rfl⟩)
  case nilCheck x => exact .inr (.inl ((good_nilCheck x).at f))
  case binOp op t x y yt => exact .inr (.inl ((good_binOp op t x y yt).at f))
  case unOp op t x => exact .inr (.inl ((good_unOp op t x).at f))
  case makeInterface t x => exact .inr (.inl ((good_makeIface t x).at f))
  case makeFunc fn x y => exact .inr (.inl ((good_makeFunc fn x y).at f))
  case slice t x lo hi mx => exact .inr (.inl ((good_slice t x lo hi mx).at f))
  case fieldAddr t x i => exact .inr (.inl ((good_fieldAddr t x i).at f))
  case field t x i => exact .inr (.inl ((good_field t x i).at f))
  case indexAddr t x i => exact .inr (.inl ((good_indexAddr t x i).at f))
  case index t x i => exact .inr (.inl ((good_index t x i).at f))
  case typeAssert x xt t ok => exact .inr (.inl ((good_typeAssert x xt t ok).at f))
  case extract x i => exact .inr (.inl ((good_extract x i).at f))
  case call c =>
    obtain ⟨callee, args, argTypes⟩ := c
    cases callee with
    | value g => exact .inl rfl
    | invoke r name => exact .inl rfl
    | builtin bi =>
      cases bi
      case len =>
        obtain ⟨l⟩ := args
        match l with
        | [] => exact .inl rfl
        | x :: y :: l => exact .inl rfl
        | [x] =>
          by_cases hm : ∃ r, ev x f = .map r
          · obtain ⟨r, hr⟩ := hm
            left
            show (match ev x f with | .map _ => RS.all | _ => RS.none) = RS.all
            rw [hr]
          · refine .inr (.inl ?_)
            intro σ nt a h h' w v ctx he hop hfr hg
            have hx : VRel σ (ev x f) (a.eval x) := ev_rel hfr hg x (by
              rw [List.all_eq_true] at hop
              exact hop x (by simp [Op.operands, Call.operands]))
            have he1 : aBuiltin .len argTypes.toList [ev x f] P h = .ok v h' := he
            unfold aBuiltin at he1
            dsimp only at he1
            cases hts : argTypes.toList with
            | nil => rw [hts] at he1; cases he1
            | cons t ts =>
              rw [hts] at he1
              have he2 : lnK (lkInfo P t) (ev x f) h = .ok v h' := he1
              obtain ⟨v', h1, h2, rfl⟩ := len_quiet (ty := ty) hx (fun r hr => hm ⟨r, hr⟩) he2 w argTypes (by rw [← Array.getElem?_toList, hts]; rfl)
              refine ⟨v', w, .inl ?_, .quiet _ _ h2⟩
              simp [execOp, resolve, invoke, builtin, h1]
      all_goals exact .inl rfl
  all_goals exact .inl rfl
theorem readsOf_congr {f g : L2} (o : Op) (hev : ∀ x ∈ o.operands.toList, ev x f = ev x g) : readsOf o f = readsOf o g := by
  cases o
  case load t x =>
    have := hev x (by simp [Op.operands])
    show loadRS _ = loadRS _
    rw [this]
  case call c =>
    obtain ⟨callee, args, argTypes⟩ := c
    cases callee with
    | value g => rfl
    | invoke r name => rfl
    | builtin bi =>
      cases bi
      case len =>
        obtain ⟨l⟩ := args
        match l, hev with
        | [], _ => rfl
        | x :: y :: l, _ => rfl
        | [x], hev =>
          have := hev x (by simp [Op.operands, Call.operands])
          show (match ev x f with | .map _ => RS.all | _ => RS.none) = (match ev x g with | .map _ => RS.all | _ => RS.none)
          rw [this]
      all_goals rfl
  all_goals rfl
section step
variable {σ0 : Sig} {w0 : World} {NW : List Nat} {D : Nat → Bool} {g : L2} {i : Nat} {o : Oper}
theorem gv_congr (hh : ∀ t w, guardOf ops o = .on t w → f.get t = g.get t) : gv ops o f = gv ops o g := by
  unfold gv
  cases hg : guardOf ops o with
  | always => rfl
  | bad => rfl
  | on t w => dsimp only; rw [hh t w hg]
theorem guard_lt (hall : ∀ x ∈ ops.toList, operOk G nt x = true) {t : Nat} {w : Bool} (hg : guardOf ops o = .on t w) : t < nt := by
  unfold guardOf at hg
  split at hg
  · cases hg
  · rename_i j want hgd
    split at hg
    · rename_i t' hj
      cases hg
      cases hoj : ops[j]? with
      | none => rw [hoj] at hj; cases hj
      | some x =>
        rw [hoj] at hj
        have hx : x ∈ ops.toList := by simpa using Array.mem_of_getElem? hoj
        exact (operOk_dst (hall x hx)).2 t hj
    · cases hg
theorem Iv.step (hc : CtxSound P G ctx) (dr : Dr P G ctx ops nt F Hs) (iv : Iv G ops nt F Hs σ0 w0 NW D σ g a w) (ho : ops[i]? = some o) (hd : D i = false) (he : ∀ e ∈ o.after.toList, Region.binds .any e = true → D e.on = true)
    (hNW : ∀ x y, x < ops.size → y ∈ (Hs (x + 1)).lg → y < (Hs x).nx → y ∈ NW) (hb : RBk b σ g) : ∃ σ' g' a' w', Iv G ops nt F Hs σ0 w0 NW (D1 D i) σ' g' a' w' ∧ RBk b σ' g' ∧
      ∀ rest k cs, Calm b cs → Steps P (lone (b.at a (.inRegion ops (i :: rest) :: k)) cs w) (lone (b.at a' (.inRegion ops rest :: k)) cs w') := by
  have hi : i < ops.size := (Array.getElem?_eq_some_iff.1 ho).1
  have hmem : o ∈ ops.toList := by simpa using Array.mem_of_getElem? ho
  obtain ⟨hop, hdst⟩ := operOk_dst (dr.all o hmem)
  have hnt := dr.nt
  have hev : ∀ x ∈ o.op.operands.toList, ev x (F i) = ev x g := by
    intro x hx
    cases x with
    | tmp t =>
      have ht : t < 250 := by
        have := List.all_eq_true.1 hop _ hx
        exact blt_lt this
      exact (iv.reads dr ho hd he ht (.inl hx)).symm
    | _ => rfl
  have hgv : gv ops o (F i) = gv ops o g := gv_congr fun t w hg => (iv.reads dr ho hd he (Nat.lt_trans (guard_lt dr.all hg) hnt) (.inr ⟨w, hg⟩)).symm
  have hds : (F i).get dslot = g.get dslot := by
    rw [iv.ds]
    refine dr.fquiet (by omega) (by omega) (by decide) (fun x hx hw => ?_)
    obtain ⟨p, hp, hpd⟩ := hw
    have h1 : (255 : Nat) < nt := (dr.frame hp).1 255 hpd
    omega
  have hwant := gv_wanted (o := o) dr.all iv.fr hnt
  rw [← hgv] at hwant
  have hgs : ∀ v, (putD o.dst v g).get dslot = g.get dslot := fun v => by rw [iv.ds1 dr ho v, iv.ds]
  have hndf := dr.nodf o hmem
  have hnd : ∀ c, o.op ≠ .defer c := by
    intro c hcc
    rw [hcc] at hndf
    cases hndf
  rcases oper1_cases (dr.run i o ho) (fun n hn => by cases hn) (fun _ _ _ hn => by cases hn) with ⟨hg, hq⟩ | ⟨hg, _, v, h', hv, hq⟩ | ⟨_, c, hq, _⟩
  · injection hq with hF hH
    refine ⟨σ, _, _, w, iv.still dr ho hd he hF hH (undef_rel σ), hb.mono (Sle.refl σ) (hgs _), ?_⟩
    intro rest k cs hcm
    have := s_pass (P := P) (b := b) (a := a) (k := k) (cs := cs) (w := w) (ops := ops) (i := i) (rest := rest) (by rw [ho]; simpa using hwant.2 hg)
    rw [ho] at this
    exact .one this
  · injection hq with hF hH
    subst hH
    have hw := hwant.1 hg
    have hvg : opD o.op o.type P ctx g (noLog (Hs i)) = .ok v (Hs (i + 1)) := by
      rw [← hv]
      exact (opD_congr o.op o.type hds hev).symm
    have hlim : (Hs (i + 1)).nx ≤ lim := dr.nxl hi
    rcases reads_cases (P := P) (G := G) o g with hr | hr | ⟨t, x, hr⟩
    · -- it may look at all
      have hrF : readsOf o.op (F i) = .all := by
        rw [← hr]
        exact readsOf_congr o.op hev
      have hord : ∀ x, x < ops.size → x ≠ i → (∃ z, z ∈ (Hs (x + 1)).lg ∧ z < (Hs x).nx) → Bef ops x i ∨ Bef ops i x := by
        intro x hx hxi hz
        rcases dr.calm x i o hx ho hxi hz with h1 | h1 | ⟨h1, _⟩
        · exact .inl h1
        · exact .inr h1
        · rw [hrF] at h1; cases h1
      obtain ⟨hma, hnext⟩ := iv.whole dr ho hd he hNW hord
      have hst : St G σ nt g a (noLog (Hs i)) w := ⟨iv.fr, iv.gl, (dr.inv i (by omega)).noLog, iv.so, hma⟩
      obtain ⟨σ', v', w', h1, h2, h3⟩ := op_sound hc o σ nt g a (noLog (Hs i)) (Hs (i + 1)) w v b hvg hop hst hb hlim (iv.free dr hi hd)
      exact ⟨σ', _, _, w', hnext v v' σ' w' hF h1 h2, hb.mono h2.le (hgs _), fun rest k cs hcm => h3 ops i rest k cs ho hw hcm⟩
    · obtain ⟨v', w', h1, h2⟩ := hr σ nt a (noLog (Hs i)) (Hs (i + 1)) w v ctx hvg hop iv.fr iv.gl
      have hrun := OpRun.ran (b := b) hnd h1
      generalize hH' : Hs (i + 1) = h' at h2
      cases h2 with
      | quiet v v' hvr => exact ⟨σ, _, _, w, iv.still dr ho hd he hF hH' hvr, hb.mono (Sle.refl σ) (hgs _), fun rest k cs hcm => hrun ops i rest k cs ho hw hcm⟩
      | ptr l l' t hl =>
        have hf : σ (Hs i).nx = none := iv.free dr hi hd _ (Nat.le_refl _) (by rw [hH']; exact Nat.lt_succ_self _)
        exact ⟨_, _, _, _, iv.make dr ho hd he hF hH' hl (.ptr _ 0 ⟨w.heap.size, l.length, none⟩ (by show upd σ (Hs i).nx _ (Hs i).nx = _; simp [upd])), hb.mono (upd_le hf) (hgs _), fun rest k cs hcm => hrun ops i rest k cs ho hw hcm⟩
      | sl l l' t len cap sz hle hl =>
        have hf : σ (Hs i).nx = none := iv.free dr hi hd _ (Nat.le_refl _) (by rw [hH']; exact Nat.lt_succ_self _)
        exact ⟨_, _, _, _, iv.make dr ho hd he hF hH' hl (.sl _ 0 len cap sz true ⟨w.heap.size, l.length, none⟩ cap (by show upd σ (Hs i).nx _ (Hs i).nx = _; simp [upd]) hle (Nat.le_refl _) (fun _ => rfl) (fun hh => by cases hh)), hb.mono (upd_le hf) (hgs _), fun rest k cs hcm => hrun ops i rest k cs ho hw hcm⟩
    · -- a load
      obtain ⟨dst, op, ty, pos, af, gd⟩ := o
      dsimp only at hr
      subst hr
      have hxx : ev x (F i) = ev x g := hev x (by simp [Op.operands])
      obtain ⟨v', h1, h2, h3⟩ := good_load (P := P) (w := w) (dst := dst) (pos := pos) (af := af) (gd := gd) t x hvg (by simpa [Op.operands] using hop) iv.fr iv.gl (by
        intro y off e hy hye
        by_cases hnone : (Hs i).m.get y = .none
        · show BRel G σ (Hs i).m.get e w ((Hs i).m.get y)
          rw [hnone]; trivial
        have hyn : y < (Hs i).nx := live_lt (dr.inv i (by omega)) (iv.so.low y e hye) hnone
        refine (iv.here dr ho hd he hye hyn ?_).2.2
        intro z u hz hzi hu q1 q2
        rcases dr.calm z i _ hz ho hzi ⟨u, q1, q2⟩ with h1 | h1 | ⟨h1, _⟩
        · exact .inl h1
        · exact .inr h1
        · exfalso
          have hrs : readsOf (.load t x) (F i) = .blk y := by
            show loadRS (ev x (F i)) = _
            rw [hxx, hy]; rfl
          dsimp only at h1
          rw [hrs] at h1
          obtain ⟨c1, c2⟩ := clear_blk h1
          have hin := (wrote_spec (Hs z).nx u (Hs (z + 1)).lg).2 ⟨q1, q2⟩
          rcases hu with rfl | hu
          · exact c1 hin
          · exact c2 u hu hin)
      exact ⟨σ, _, _, w, iv.still dr ho hd he hF h3 h2, hb.mono (Sle.refl σ) (hgs _), fun rest k cs hcm => OpRun.ran (b := b) hnd h1 ops i rest k cs ho hw hcm⟩
  · rw [hndf] at hq; cases hq
/-- all operations, in the order that the tape names -/
theorem Iv.go (hc : CtxSound P G ctx) (dr : Dr P G ctx ops nt F Hs) (hNW : ∀ x y, x < ops.size → y ∈ (Hs (x + 1)).lg → y < (Hs x).nx → y ∈ NW) : ∀ (l : List Nat) (D : Nat → Bool), Sched ops D l → ∀ (σ : Sig) (g : L2) (a : Act) (w : World),
    Iv G ops nt F Hs σ0 w0 NW D σ g a w → RBk b σ g → ∃ D' σ' g' a' w', (∀ i, i < ops.size → D' i = true) ∧ Iv G ops nt F Hs σ0 w0 NW D' σ' g' a' w' ∧ RBk b σ' g' ∧
      ∀ k cs, Calm b cs → Steps P (lone (b.at a (.inRegion ops l :: k)) cs w) (lone (b.at a' (.inRegion ops [] :: k)) cs w') := by
  intro l D hsch
  induction hsch with
  | nil D hall => exact fun σ g a w iv hb => ⟨D, σ, g, a, w, hall, iv, hb, fun k cs _ => .refl P _⟩
  | cons D i o rest ho hd he hr ih =>
    intro σ g a w iv hb
    obtain ⟨σ1, g1, a1, w1, iv1, hb1, s1⟩ := iv.step hc dr ho hd he hNW hb
    obtain ⟨D2, σ2, g2, a2, w2, q1, q2, q3, s2⟩ := ih σ1 g1 a1 w1 iv1 hb1
    exact ⟨D2, σ2, g2, a2, w2, q1, q2, q3, fun k cs hcm => (s1 rest k cs hcm).trans (s2 k cs hcm)⟩
end step
theorem AStep.cut (hi : AInv h) (hs : AStep (noLog h) h' h'.lg) (l : List Nat) : AStep (reLog l h) (reLog (wrote h.nx h'.lg ++ l) h') (wrote h.nx h'.lg) := by
  have hin : ∀ y, y ∈ wrote h.nx h'.lg ↔ y ∈ h'.lg ∧ y < h.nx := fun y => wrote_spec _ _ _
  refine ⟨rfl, hs.nx, fun y hy => hs.low y ((hin y).1 hy).1, ?_, ?_, ?_, hs.same, hs.inv.reLog _, fun y hy h1 h2 => hs.live y ((hin y).1 hy).1 h1 h2⟩
  · intro y h1 h2 h3
    exact hs.keep y h1 h2 (fun hh => h3 ((hin y).2 ⟨hh, h2⟩))
  · intro y hy k h1 h2
    have hyl : y < lim := Nat.lt_of_lt_of_le h1 hi.top
    exact (hin k).2 ⟨hs.cls y ((hin y).1 hy).1 k h1 h2, (hi.cls y k hyl h2).1⟩
  · intro y k h1 h2 h3 h4
    rcases hs.newc y k h1 h2 h3 h4 with h5 | h5
    · rcases Nat.lt_or_ge k h.nx with h6 | h6
      · exact .inl ((hin k).2 ⟨h5, h6⟩)
      · exact .inr h6
    · exact .inr h5
theorem wroteAll_eq (lg : List Nat) : ∀ es : List EF, wroteAll es lg = es.flatMap (·.w) ++ lg := by
  intro es
  induction es with
  | nil => rfl
  | cons e es ih =>
    show napp e.w (wroteAll es lg) = _
    rw [napp_eq, ih]
    simp
theorem drawn_sound (hc : CtxSound P G ctx) (hmx : P.follows .mixedOrders = true) (hreg : regOk ops = true) (hall : ∀ x ∈ ops.toList, operOk G nt x = true) (hnt : nt < 250) (he : execDrawn P ctx ops f h = .nrm f' h')
    (hs : St G σ nt f a h w) (hb : RBk b σ f) (hl : h'.nx ≤ lim) (hf : Free σ h h') (id : Nat) : ∃ σ' a' w', St G σ' nt f' a' h' w' ∧ RBk b σ' f' ∧ Out G σ h w σ' h' w' ∧
      ∀ k cs, Calm b cs → Steps P (lone (b.at a (.code (.region id ops true) :: k)) cs w) (lone (b.at a' k) cs w') := by
  have hs1 := hs.draw (w.drawn + 1)
  obtain ⟨F, Hs, es, dr, q1, q2, q3, q4, q5, q6⟩ := Dr.of_run hc hreg hall hnt he hs1 hb hl hf
  have hNW : ∀ x y, x < ops.size → y ∈ (Hs (x + 1)).lg → y < (Hs x).nx → y ∈ es.flatMap (·.w) := by
    intro x y hx h1 h2
    obtain ⟨z, h3, h4⟩ := q6 x hx
    have hz : z ∈ es := by
      have := List.mem_of_getElem? h3
      simpa using this
    rw [List.mem_flatMap]
    exact ⟨z, hz, by rw [h4]; exact (wrote_spec _ _ _).2 ⟨h1, h2⟩⟩
  have hback := regOk_backward hreg
  have hD0 : ∀ x, x < ops.size → (Array.replicate ops.size false).getD x true = false := by
    intro x hx
    simp [Array.getD, hx]
  have hnx : h'.nx = (Hs ops.size).nx := by rw [q4]; rfl
  have iv0 : Iv G ops nt F Hs σ { w with drawn := w.drawn + 1 } (es.flatMap (·.w)) (fun i => (Array.replicate ops.size false).getD i true) σ f a { w with drawn := w.drawn + 1 } := by
    refine ⟨?_, hs1.fr, ?_, by rw [q1], hs1.gl, hs1.so, ⟨Sle.refl σ, fun y e h1 h2 => (by rw [h1] at h2; cases h2), hs1.so, Nat.le_refl _, fun _ _ _ => rfl, fun y e h1 h2 => (by rw [h1] at h2; cases h2), ⟨rfl, rfl⟩⟩, ?_, ?_⟩
    · intro x o ho hx
      have hx' : (Array.replicate ops.size false).getD x true = true := hx
      rw [hD0 x (Array.getElem?_eq_some_iff.1 ho).1] at hx'
      cases hx'
    · intro t ht
      refine ⟨0, by omega, fun x hx _ => ?_, by rw [q1]⟩
      show (Array.replicate ops.size false).getD x true = true ↔ _
      rw [hD0 x hx]
      simp
    · intro y e hy
      left
      rw [q2]
      rcases Nat.lt_or_ge y h.nx with h1 | h1
      · exact .inl h1
      · rcases Nat.lt_or_ge y h'.nx with h2 | h2
        · rw [hf y h1 h2] at hy; cases hy
        · exact .inr (by omega)
    · intro y e hy
      refine ⟨0, by omega, fun x hx _ => ?_, fun k _ x hx _ => ?_, by rw [q2]; exact hs1.ma y e hy⟩
      · show (Array.replicate ops.size false).getD x true = true ↔ _
        rw [hD0 x hx]; simp
      · show (Array.replicate ops.size false).getD x true = true ↔ _
        rw [hD0 x hx]; simp
  have hsch := sched_all hback (w.tape w.drawn (.order b.fn id))
  obtain ⟨D', σ', g', a', w', p1, iv, p3, p4⟩ := Iv.go hc dr hNW _ _ hsch _ _ _ _ iv0 hb
  -- the end: every block is as the text's order has it
  have hfr : FRel σ' nt (F ops.size) a' := by
    refine ⟨iv.fr.size, ?_, ?_⟩
    · intro t ht
      obtain ⟨j, h1, h2, h3⟩ := iv.slots t ht
      have e : (F j).get t = (F ops.size).get t := dr.fquiet h1 (Nat.le_refl _) (by omega) (fun x hx hw => by rw [← h2 x hx hw, p1 x hx]; simp [hx])
      rw [← e, ← h3]
      exact iv.fr.slot t ht
    · have e : (F ops.size).get dslot = (F 0).get dslot := by
        refine dr.fquiet (Nat.le_refl _) (by omega) (by decide) (fun x hx hw => ?_)
        obtain ⟨p, hp, hpd⟩ := hw
        have h1 : (255 : Nat) < nt := (dr.frame hp).1 255 hpd
        omega
      rw [e, ← iv.ds]
      exact iv.fr.defers
  have hma : MAll G σ' (Hs ops.size).m.get w' := by
    intro y e hy
    obtain ⟨j, h1, h2, h3, h4⟩ := iv.mem y e hy
    refine (dr.move (Nat.le_refl _) h1 (iv.so.low y e hy) ?_ ?_ h4).2
    · intro x hx ht
      rw [← h2 x hx ht, p1 x hx]; simp [hx]
    · intro k hk x hx ht
      rw [← h3 k hk x hx ht, p1 x hx]; simp [hx]
  -- the heap's steps, in the order of the text
  have hchain : ∀ k, k ≤ ops.size → AStep h (reLog (((es.reverse.take k).reverse).flatMap (·.w) ++ h.lg) (Hs k)) (((es.reverse.take k).reverse).flatMap (·.w)) := by
    intro k
    induction k with
    | zero =>
      intro _
      rw [q2]
      exact AStep.refl hs1.ai
    | succ k ih =>
      intro hk
      have h1 := ih (by omega)
      obtain ⟨z, h3, h4⟩ := q6 k hk
      have e : (es.reverse.take (k + 1)).reverse = z :: (es.reverse.take k).reverse := by
        rw [List.take_add_one, h3]
        simp
      rw [e, List.flatMap_cons, h4, List.append_assoc]
      have h5 := AStep.cut (dr.inv k (by omega)) (dr.step k hk) (((es.reverse.take k).reverse).flatMap (·.w) ++ h.lg)
      refine h1.trans h5 ?_
      exact dr.nxl hk
  have hast := hchain ops.size (Nat.le_refl _)
  have e : (es.reverse.take ops.size).reverse = es := by
    rw [List.take_of_length_le (by rw [q5]; exact Nat.le_refl _), List.reverse_reverse]
  rw [e, ← wroteAll_eq, ← q4] at hast
  have hcst : CStep σ σ' h h' w w' (es.flatMap (·.w)) := by
    have hcst := iv.cst
    refine ⟨hcst.le, ?_, hcst.ok, hcst.grow, hcst.frame, hcst.newc, hcst.io⟩
    intro y e h1 h2
    have := hcst.fresh y e h1 h2
    rw [q2] at this
    rw [hnx]
    exact this
  have hma' : MAll G σ' h'.m.get w' := by
    rw [q4]; exact hma
  have hout : Out G σ h w σ' h' w' := ⟨_, hast, hcst, hma'⟩
  refine ⟨σ', a', w', ?_, ?_, hout, ?_⟩
  · rw [q3]
    exact hs.next hout hfr
  · have e : f'.get dslot = g'.get dslot := by
      rw [q3, iv.ds]
      refine dr.fquiet (Nat.le_refl _) (by omega) (by decide) (fun x hx hw => ?_)
      obtain ⟨p, hp, hpd⟩ := hw
      have h1 : (255 : Nat) < nt := (dr.frame hp).1 255 hpd
      omega
    exact p3.mono (Sle.refl σ') e
  · intro k cs hcm
    refine .head s_draw ?_
    rw [hmx]
    exact (p4 k cs hcm).trans (.one s_regionEnd)
end Go.Ev
