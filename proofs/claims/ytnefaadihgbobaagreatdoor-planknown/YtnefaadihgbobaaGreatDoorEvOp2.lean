/- Operations that read no memory, continued: arithmetic, comparisons, strings. -/
import Derived.Test.YtnefaadihgbobaaGreatDoorEvOp1
import Derived.Laws.Strings
import Derived.Laws.StructEq
import Derived.ChangeKeysEq
set_option linter.unusedSimpArgs false
set_option linter.unusedVariables false
namespace Go.Ev
variable {P : Program} {G : Nat} {σ : Sig} {h h' : H} {w : World} {v : AV}
section ops
variable {dst : Option Tmp} {ty : TypeId} {pos : String} {af : Array Edge} {gd : Option (Nat × Bool)}

theorem toNat_inj {a b : UInt8} : a.toNat = b.toNat ↔ a = b := UInt8.toNat_inj
theorem map_beq (l m : List UInt8) : (l.map UInt8.toNat == m.map UInt8.toNat) = (l == m) := by
  rw [Bool.eq_iff_iff]
  simp only [beq_iff_eq]
  constructor
  · intro e
    induction l generalizing m with
    | nil => cases m with
      | nil => rfl
      | cons b m => simp at e
    | cons a l ih => cases m with
      | nil => simp at e
      | cons b m =>
        simp only [List.map_cons, List.cons.injEq] at e
        rw [toNat_inj.1 e.1, ih m e.2]
  · rintro rfl; rfl
theorem strLt_cons (x y : Nat) (a b : List Nat) : strLt (x :: a) (y :: b) = (decide (x < y) || (x == y && strLt a b)) := by
  have : strLt (x :: a) (y :: b) = Bool.rec (motive := fun _ => Bool) (Bool.rec (motive := fun _ => Bool) false (strLt a b) (Nat.beq x y)) true (Nat.blt x y) := rfl
  rw [this]
  have e1 : Nat.blt x y = decide (x < y) := by rw [Bool.eq_iff_iff]; simp [Nat.blt_eq]
  have e2 : Nat.beq x y = (x == y) := by rw [Bool.eq_iff_iff]; simp
  rw [e1, e2]
  cases decide (x < y) <;> cases (x == y) <;> rfl
theorem strLt_bytes : ∀ l m : List UInt8, strLt (l.map UInt8.toNat) (m.map UInt8.toNat) = Op.bytesLess l m
  | [], [] => rfl
  | [], _ :: _ => rfl
  | _ :: _, [] => rfl
  | a :: l, b :: m => by
    simp only [List.map_cons, strLt_cons, Op.bytesLess, strLt_bytes l m]
    congr 1
    congr 1
    rw [Bool.eq_iff_iff]
    simp only [beq_iff_eq]
    exact toNat_inj
theorem strLt_total : ∀ l m : List Nat, (!strLt m l) = (strLt l m || l == m)
  | [], [] => rfl
  | [], _ :: _ => rfl
  | _ :: _, [] => rfl
  | x :: l, y :: m => by
    rw [strLt_cons, strLt_cons, List.cons_beq_cons]
    have ih := strLt_total l m
    rcases Nat.lt_trichotomy x y with h | h | h
    · have h1 : ¬ y < x := by omega
      have h2 : (y == x) = false := by simp; omega
      simp [h, h1, h2]
    · subst h
      simp only [Nat.lt_irrefl, decide_false, beq_self_eq_true, Bool.true_and, Bool.false_or]
      exact ih
    · have h1 : ¬ x < y := by omega
      have h2 : (x == y) = false := by simp; omega
      simp [h, h1, h2]
theorem strEq_b (a b : ByteArray) : strEq (bytesOf a) (bytesOf b) = (a.toList == b.toList) := by
  rw [strEq_eq, ByteArray.toList_eq, ByteArray.toList_eq]
  exact map_beq _ _
theorem strLt_b (a b : ByteArray) : strLt (bytesOf a) (bytesOf b) = Op.bytesLess a.toList b.toList := by
  rw [ByteArray.toList_eq, ByteArray.toList_eq]
  exact strLt_bytes _ _
theorem bytesOf_append (a b : ByteArray) : bytesOf (a ++ b) = bytesOf a ++ bytesOf b := by
  unfold bytesOf
  simp [ByteArray.data_append]
theorem kmm (k : IntKind) : (k.bits : Int) ≤ 64 := by cases k <;> decide
theorem eqGuard_ints (op : BinOp) (t : TypeId) (x y : Operand) (k k' : IntKind) (m n : Int) (w : World) : (eqGuard op t x y (.int k m) (.int k' n)).run P w = .ok () w := by
  unfold eqGuard
  split <;> rfl
theorem eqGuard_strs (op : BinOp) (t : TypeId) (x y : Operand) (m n : ByteArray) (w : World) : (eqGuard op t x y (.string m) (.string n)).run P w = .ok () w := by
  unfold eqGuard
  split <;> rfl
theorem not_lt_dec (a b : Int) : (!decide (a < b)) = decide (b ≤ a) := by rw [← decide_not]; congr 1; rw [Int.not_lt]
theorem iAr_ok {g : Int → Int → Int} {k k' : IntKind} {m n : Int} (he : iAr g k m k' n h = .ok v h') : k = k' ∧ v = .int k (k.wrap (g m n)) ∧ h' = h := by
  rcases ite_ok he with ⟨hk, he⟩ | ⟨_, he⟩
  · obtain ⟨rfl, rfl⟩ := ok_inj he
    exact ⟨(kEq_eq k k').1 hk, by rw [wrapF_eq], rfl⟩
  · cases he
theorem iCmp_ok {g : Int → Int → Bool} {k k' : IntKind} {m n : Int} (he : iCmp g k m k' n h = .ok v h') : k = k' ∧ v = .bool (g m n) ∧ h' = h := by
  rcases ite_ok he with ⟨hk, he⟩ | ⟨_, he⟩
  · obtain ⟨rfl, rfl⟩ := ok_inj he
    exact ⟨(kEq_eq k k').1 hk, rfl, rfl⟩
  · cases he
theorem iQuo_ok {k k' : IntKind} {m n : Int} (he : iQuo k m k' n h = .ok v h') : k = k' ∧ n ≠ 0 ∧ v = .int k (k.wrap (m.tdiv n)) ∧ h' = h := by
  rcases ite_ok he with ⟨hk, he⟩ | ⟨_, he⟩
  · rcases ite_ok he with ⟨_, he⟩ | ⟨hz, he⟩
    · cases he
    · obtain ⟨rfl, rfl⟩ := ok_inj he
      rw [ieq_eq] at hz
      exact ⟨(kEq_eq k k').1 hk, by simpa using hz, by rw [wrapF_eq], rfl⟩
  · cases he
theorem iRem_ok {k k' : IntKind} {m n : Int} (he : iRem k m k' n h = .ok v h') : k = k' ∧ n ≠ 0 ∧ v = .int k (m.tmod n) ∧ h' = h := by
  rcases ite_ok he with ⟨hk, he⟩ | ⟨_, he⟩
  · rcases ite_ok he with ⟨_, he⟩ | ⟨hz, he⟩
    · cases he
    · obtain ⟨rfl, rfl⟩ := ok_inj he
      rw [ieq_eq] at hz
      exact ⟨(kEq_eq k k').1 hk, by simpa using hz, rfl, rfl⟩
  · cases he
theorem iBit_ok {g : Nat → Nat → Nat} {k k' : IntKind} {m n : Int} (he : iBit g k m k' n h = .ok v h') :
    ∃ a b : Nat, k = k' ∧ m = a ∧ n = b ∧ (a : Int) ≤ k.max ∧ (b : Int) ≤ k.max ∧ v = .int k (g a b : Nat) ∧ h' = h := by
  unfold iBit at he
  split at he
  · rename_i a b ha hb
    rcases ite_ok he with ⟨hk, he⟩ | ⟨_, he⟩
    · rcases ite_ok he with ⟨h1, he⟩ | ⟨_, he⟩
      · rcases ite_ok he with ⟨h2, he⟩ | ⟨_, he⟩
        · obtain ⟨rfl, rfl⟩ := ok_inj he
          have e1 := natI_some ha
          have e2 := natI_some hb
          subst e1
          subst e2
          exact ⟨a, b, (kEq_eq k k').1 hk, rfl, rfl, (fits_spec h1).2, (fits_spec h2).2, rfl, rfl⟩
        · cases he
      · cases he
    · cases he
  · cases he
theorem max_lt (k : IntKind) (a : Nat) (h : (a : Int) ≤ k.max) : a < 2 ^ k.bits := by
  cases k <;> simp [IntKind.max, IntKind.bits, IntKind.signed] at * <;> omega
theorem ofInt_toNat (k : IntKind) (a : Nat) (h : (a : Int) ≤ k.max) : (BitVec.ofInt k.bits a).toNat = a := by
  have := max_lt k a h
  simp
  exact Nat.mod_eq_of_lt this
theorem wrap_nat (k : IntKind) (a : Nat) (h : (a : Int) ≤ k.max) : k.wrap a = a := by
  apply wrap_in
  refine ⟨?_, h⟩
  cases k <;> simp [IntKind.min, IntKind.bits, IntKind.signed] <;> omega
theorem pow_max (k : IntKind) (a : Nat) (h : (a : Int) ≤ k.max) : a < 2 ^ (if k.signed then k.bits - 1 else k.bits) := by
  cases k <;> simp [IntKind.max, IntKind.bits, IntKind.signed] at * <;> omega
theorem max_pow (k : IntKind) (a : Nat) (h : a < 2 ^ (if k.signed then k.bits - 1 else k.bits)) : (a : Int) ≤ k.max := by
  cases k <;> simp [IntKind.max, IntKind.bits, IntKind.signed] at * <;> omega
theorem run_binII (op : BinOp) (t : TypeId) (k k' : IntKind) (m n : Int) (w : World) (he : iTab op k m k' n h = .ok v h') :
    ∃ v', (binOp op t (.int k m) (.int k' n)).run P w = .ok v' w ∧ VRel σ v v' ∧ h' = h := by
  cases op with
  | add => obtain ⟨rfl, rfl, rfl⟩ := iAr_ok he; exact ⟨.int k (k.wrap (m + n)), by simp [binOp, Op.intArith], .int _ _, rfl⟩
  | sub => obtain ⟨rfl, rfl, rfl⟩ := iAr_ok he; exact ⟨.int k (k.wrap (m - n)), by simp [binOp, Op.intArith], .int _ _, rfl⟩
  | mul => obtain ⟨rfl, rfl, rfl⟩ := iAr_ok he; exact ⟨.int k (k.wrap (m * n)), by simp [binOp, Op.intArith], .int _ _, rfl⟩
  | quo => obtain ⟨rfl, hz, rfl, rfl⟩ := iQuo_ok he; exact ⟨.int k (k.wrap (m.tdiv n)), by simp [binOp, Op.intDiv, hz], .int _ _, rfl⟩
  | rem => obtain ⟨rfl, hz, rfl, rfl⟩ := iRem_ok he; exact ⟨.int k (m.tmod n), by simp [binOp, Op.intDiv, hz], .int _ _, rfl⟩
  | eql => obtain ⟨rfl, rfl, rfl⟩ := iCmp_ok he; exact ⟨.bool (m == n), by simp [binOp, Op.intCmp], by rw [ieq_eq]; exact .bool _, rfl⟩
  | neq => obtain ⟨rfl, rfl, rfl⟩ := iCmp_ok (g := fun a b => bnot (ieq a b)) he; exact ⟨.bool (m != n), by simp [binOp, Op.intCmp], by rw [bnot_eq, ieq_eq]; exact .bool _, rfl⟩
  | lss => obtain ⟨rfl, rfl, rfl⟩ := iCmp_ok he; exact ⟨.bool (decide (m < n)), by simp [binOp, Op.intCmp], by rw [ilt_eq]; exact .bool _, rfl⟩
  | leq => obtain ⟨rfl, rfl, rfl⟩ := iCmp_ok (g := fun a b => bnot (ilt b a)) he; exact ⟨.bool (decide (m ≤ n)), by simp [binOp, Op.intCmp], by rw [bnot_eq, ilt_eq, not_lt_dec]; exact .bool _, rfl⟩
  | gtr => obtain ⟨rfl, rfl, rfl⟩ := iCmp_ok (g := fun a b => ilt b a) he; exact ⟨.bool (decide (m > n)), by simp [binOp, Op.intCmp], by rw [ilt_eq]; exact .bool _, rfl⟩
  | geq => obtain ⟨rfl, rfl, rfl⟩ := iCmp_ok (g := fun a b => bnot (ilt a b)) he; exact ⟨.bool (decide (m ≥ n)), by simp [binOp, Op.intCmp], by rw [bnot_eq, ilt_eq, not_lt_dec]; exact .bool _, rfl⟩
  | andNot => cases he
  | and =>
    obtain ⟨a, b, rfl, rfl, rfl, ha, hb, rfl, rfl⟩ := iBit_ok he
    refine ⟨.int k (a &&& b : Nat), ?_, .int _ _, rfl⟩
    have hle : ((a &&& b : Nat) : Int) ≤ k.max := max_pow k _ (Nat.and_lt_two_pow _ (pow_max k b hb))
    have e := wrap_nat k _ hle
    simp only [binOp, Op.intBits, ne_eq, not_true_eq_false, if_false, BitVec.toNat_and, ofInt_toNat k a ha, ofInt_toNat k b hb, e]
    rfl
  | or =>
    obtain ⟨a, b, rfl, rfl, rfl, ha, hb, rfl, rfl⟩ := iBit_ok he
    refine ⟨.int k (a ||| b : Nat), ?_, .int _ _, rfl⟩
    have hle : ((a ||| b : Nat) : Int) ≤ k.max := max_pow k _ (Nat.or_lt_two_pow (pow_max k a ha) (pow_max k b hb))
    have e := wrap_nat k _ hle
    simp only [binOp, Op.intBits, ne_eq, not_true_eq_false, if_false, BitVec.toNat_or, ofInt_toNat k a ha, ofInt_toNat k b hb, e]
    rfl
  | xor =>
    obtain ⟨a, b, rfl, rfl, rfl, ha, hb, rfl, rfl⟩ := iBit_ok he
    refine ⟨.int k (a ^^^ b : Nat), ?_, .int _ _, rfl⟩
    have hle : ((a ^^^ b : Nat) : Int) ≤ k.max := max_pow k _ (Nat.xor_lt_two_pow (pow_max k a ha) (pow_max k b hb))
    have e := wrap_nat k _ hle
    simp only [binOp, Op.intBits, ne_eq, not_true_eq_false, if_false, BitVec.toNat_xor, ofInt_toNat k a ha, ofInt_toNat k b hb, e]
    rfl
  | shl =>
    have he' : iShl k m k' n h = .ok v h' := he
    unfold iShl at he'
    split at he'
    · rename_i b hb
      obtain ⟨rfl, rfl⟩ := ok_inj he'
      have e := natI_some hb
      subst e
      refine ⟨.int k (k.wrap (m * 2 ^ (min b k.bits))), ?_, ?_, rfl⟩
      · simp [binOp, Op.shift]
        intro hlt
        omega
      · rw [wrapF_eq]
        have : Int.mul m (.ofNat (Nat.pow 2 (Nat.min b k.bits))) = m * 2 ^ (min b k.bits) := by
          show m * ((2 ^ (min b k.bits) : Nat) : Int) = _
          simp
        rw [this]
        exact .int _ _
    · cases he'
  | shr =>
    have he' : iShr k m k' n h = .ok v h' := he
    unfold iShr at he'
    split at he'
    · rename_i a b ha hb
      obtain ⟨rfl, rfl⟩ := ok_inj he'
      have e := natI_some ha
      subst e
      have e := natI_some hb
      subst e
      refine ⟨.int k ((a : Int).fdiv (2 ^ (min b k.bits))), ?_, ?_, rfl⟩
      · simp [binOp, Op.shift]
        intro hlt
        omega
      · have : (Int.ofNat (Nat.div a (Nat.pow 2 (Nat.min b k.bits)))) = (a : Int).fdiv (2 ^ (min b k.bits)) := by
          show ((a / 2 ^ (min b k.bits) : Nat) : Int) = _
          rw [Int.fdiv_eq_ediv_of_nonneg _ (by exact_mod_cast Nat.zero_le _)]
          simp
        rw [this]
        exact .int _ _
    · cases he'
theorem run_binSS (op : BinOp) (t : TypeId) (m n : ByteArray) (w : World) (he : sTab op (bytesOf m) (bytesOf n) h = .ok v h') :
    ∃ v', (binOp op t (.string m) (.string n)).run P w = .ok v' w ∧ VRel σ v v' ∧ h' = h := by
  cases op with
  | add =>
    rcases ite_ok he with ⟨hs, he⟩ | ⟨_, he⟩
    · obtain ⟨rfl, rfl⟩ := ok_inj he
      have hlt := blt_lt hs
      simp only [slen_eq, bytesOf_len] at hlt
      refine ⟨.string (m ++ n), ?_, ?_, rfl⟩
      · have hn : ¬ (((m.size + n.size : Nat) : Int) > IntKind.i64.max) := by
          have : IntKind.i64.max = 9223372036854775807 := by decide
          rw [this]
          have : Nat.add m.size n.size = m.size + n.size := rfl
          omega
        have : binOp .add t (.string m) (.string n) = Op.stringOp .add m n := by simp [binOp]
        rw [this]
        simp only [Op.stringOp, if_neg hn]
        rfl
      · rw [sapp_eq, ← bytesOf_append]; exact .str _
    · cases he
  | eql => cases he; exact ⟨.bool (m.toList == n.toList), by simp [binOp, Op.stringOp], by rw [strEq_b]; exact .bool _, rfl⟩
  | neq => cases he; exact ⟨.bool (!(m.toList == n.toList)), by simp [binOp, Op.stringOp], by simp only [bnot_eq, strEq_b]; exact .bool _, rfl⟩
  | lss => cases he; exact ⟨.bool (Op.bytesLess m.toList n.toList), by simp [binOp, Op.stringOp], by rw [strLt_b]; exact .bool _, rfl⟩
  | leq => cases he; exact ⟨.bool (Op.bytesLess m.toList n.toList || m.toList == n.toList), by simp [binOp, Op.stringOp], by simp only [bnot_eq, strLt_total]; rw [strLt_b, ← strEq_eq, strEq_b]; exact .bool _, rfl⟩
  | gtr => cases he; exact ⟨.bool (!(Op.bytesLess m.toList n.toList || m.toList == n.toList)), by simp [binOp, Op.stringOp], by
      have := strLt_total (bytesOf m) (bytesOf n)
      rw [strLt_b m n, ← strEq_eq, strEq_b] at this
      rw [← this, Bool.not_not]; exact .bool _, rfl⟩
  | geq => cases he; exact ⟨.bool (!Op.bytesLess m.toList n.toList), by simp [binOp, Op.stringOp], by simp only [bnot_eq, strLt_b]; exact .bool _, rfl⟩
  | _ => cases he

/- equality by type -/
def TKsays (P : Program) (t : TypeId) : TK → Prop
    | .bad => True
    | .bool => P.underlying t = some .bool
    | .int => ∃ i, P.underlying t = some (.int i)
    | .string => P.underlying t = some .string
    | .ptr => ∃ e inf, P.underlying t = some (.pointer e) ∧ P.info? e = some inf ∧ inf.size ≠ 0
    | .iface => ∃ m, P.underlying t = some (.interface m)
    | .struct fs => ∃ l, P.underlying t = some (.struct l) ∧ P.stoodInHeld t = false ∧ fs = ((l.toList.filter fun f => f.name != "_").map fun f => (f.type, f.offset))
    | .array n e s => ∃ inf, P.underlying t = some (.array n e) ∧ P.info? e = some inf ∧ inf.size = s
    | .slice => ∃ e, P.underlying t = some (.slice e)
    | .map => ∃ x e, P.underlying t = some (.map x e)
    | .func => ∃ x y z, P.underlying t = some (.func x y z)
theorem tk_says (P : Program) (t : TypeId) : TKsays P t (tk P t) := by
  unfold tk
  cases hu : P.underlying t with
  | none => trivial
  | some d =>
    cases d with
    | pointer e =>
      dsimp only
      cases hs : szInfo P e with
      | none => trivial
      | some n =>
        obtain ⟨inf, h1, h2⟩ := szInfo_some hs
        cases n with
        | zero => trivial
        | succ n => exact ⟨e, inf, hu, h1, by omega⟩
    | struct l =>
      dsimp only
      cases hs : P.stoodInHeld t
      · simp only [Bool.false_eq_true, if_false]; exact ⟨l, hu, hs, rfl⟩
      · simp only [if_true]; trivial
    | array n e =>
      dsimp only
      cases hs : szInfo P e with
      | none => trivial
      | some s =>
        obtain ⟨inf, h1, h2⟩ := szInfo_some hs
        exact ⟨inf, hu, h1, h2⟩
    | bool => exact hu
    | int i => exact ⟨i, hu⟩
    | string => exact hu
    | interface m => exact ⟨m, hu⟩
    | slice e => exact ⟨e, hu⟩
    | map x e => exact ⟨x, e, hu⟩
    | func x y z => exact ⟨x, y, z, hu⟩
    | _ => trivial

def EqSound (P : Program) (σ : Sig) (d : Nat) (eq : EqT) : Prop :=
  ∀ t x y b x' y', eq t x y = some b → VRel σ x x' → VRel σ y y' → ∀ (D : Nat) (w : World), d ≤ D → (Op.equalIn D t x' y').run P w = .ok b w
theorem aeqF_sound {d : Nat} {eq : EqT} (hs : EqSound P σ d eq) (D : Nat) (hD : d ≤ D) (xs ys : List AV) (xs' ys' : Array Value) (hx : LRel σ xs xs'.toList) (hy : LRel σ ys ys'.toList) (w : World) :
    ∀ (fs : List Field) (b : Bool), aeqF P eq ((fs.filter fun f => f.name != "_").map fun f => (f.type, f.offset)) xs ys = some b → (Op.eqFields D xs' ys' fs).run P w = .ok b w := by
  intro fs
  induction fs with
  | nil => intro b hb; cases hb; rfl
  | cons f fs ih =>
    intro b hb
    by_cases hn : f.name = "_"
    · have : (f.name != "_") = false := by simp [hn]
      rw [List.filter_cons_of_neg (by simp [hn])] at hb
      simp only [Op.eqFields, hn, ne_eq, not_true_eq_false, if_false]
      exact ih b hb
    · rw [List.filter_cons_of_pos (by simp [hn])] at hb
      simp only [List.map_cons, aeqF] at hb
      split at hb
      · rename_i u v hu hv
        obtain ⟨u', hu', ru⟩ := run_part (P := P) (σ := σ) hu (cs' := xs') hx w
        obtain ⟨v', hv', rv⟩ := run_part (P := P) (σ := σ) hv (cs' := ys') hy w
        split at hb
        · rename_i he
          have := hs _ _ _ _ _ _ he ru rv D w hD
          simp only [Op.eqFields, ne_eq, hn, not_false_eq_true, if_true, Sem.run_bind, hu', hv', this, Result.andThen_ok, Bool.not_true, Bool.false_eq_true, if_false]
          exact ih b hb
        · rename_i he
          cases hb
          have := hs _ _ _ _ _ _ he ru rv D w hD
          simp [Op.eqFields, hn, hu', hv', this]
        · cases hb
      · cases hb
theorem aeqA_sound {d : Nat} {eq : EqT} (hs : EqSound P σ d eq) (D : Nat) (hD : d ≤ D) (e : TypeId) (s : Nat) (xs ys : List AV) (xs' ys' : Array Value) (hx : LRel σ xs xs'.toList) (hy : LRel σ ys ys'.toList) (w : World) :
    ∀ (n i : Nat) (b : Bool), aeqA P eq e s n i xs ys = some b → (Op.eqItems D e s xs' ys' (List.range' i n)).run P w = .ok b w := by
  intro n
  induction n with
  | zero => intro i b hb; cases hb; simp [Op.eqItems]
  | succ n ih =>
    intro i b hb
    simp only [aeqA] at hb
    split at hb
    · rename_i u v hu hv
      obtain ⟨u', hu', ru⟩ := run_part (P := P) (σ := σ) hu (cs' := xs') hx w
      obtain ⟨v', hv', rv⟩ := run_part (P := P) (σ := σ) hv (cs' := ys') hy w
      split at hb
      · rename_i he
        have := hs _ _ _ _ _ _ he ru rv D w hD
        simp only [List.range'_succ, Op.eqItems, Sem.run_bind, hu', hv', this, Result.andThen_ok, Bool.not_true, Bool.false_eq_true, if_false]
        exact ih (i + 1) b hb
      · rename_i he
        cases hb
        have := hs _ _ _ _ _ _ he ru rv D w hD
        simp [List.range'_succ, Op.eqItems, hu', hv', this]
      · cases hb
    · cases hb
theorem addr_beq (c o o' : Nat) : ((⟨c, o, none⟩ : Addr) == ⟨c, o', none⟩) = (o == o') := by
  rw [Bool.eq_iff_iff]
  simp [Addr.mk.injEq]
set_option maxHeartbeats 2000000 in
theorem aeq_sound (P : Program) (σ : Sig) : ∀ d, EqSound P σ d (aeq P d) := by
  intro d
  induction d with
  | zero => intro t x y b x' y' h; cases h
  | succ d ih =>
    intro t x y b x' y' he hx hy D w hD
    obtain ⟨D, rfl⟩ : ∃ k, D = k + 1 := ⟨D - 1, by omega⟩
    have he' : aeqStep P (aeq P d) t x y = some b := he
    unfold aeqStep at he'
    have hk := tk_says P t
    split at he' <;> rename_i hc <;> rw [hc] at hk
    · cases he'
    · split at he'
      · rename_i a1 b1 h1 h2
        rw [vB_yes h1] at hx; rw [vB_yes h2] at hy
        cases hx; cases hy; cases he'
        have hu : P.underlying t = some .bool := hk
        exact run_equalIn_bool w D t _ _ hu
      · cases he'
    · obtain ⟨i, hu⟩ := hk
      split at he'
      · rename_i k a1 k' b1 h1 h2
        rw [vI_yes h1] at hx; rw [vI_yes h2] at hy
        cases hx; cases hy
        cases hq : kEq k k' with
        | false => rw [hq] at he'; cases he'
        | true =>
          rw [hq] at he'; cases he'
          have := (kEq_eq k k').1 hq
          subst this
          rw [ieq_eq]
          exact run_equalIn_int w D t k i _ _ hu
      · cases he'
    · split at he'
      · rename_i a1 b1 h1 h2
        rw [vS_yes h1] at hx; rw [vS_yes h2] at hy
        cases hx; cases hy; cases he'
        rw [strEq_b]
        exact run_equalIn_string w D t _ _ hk
      · cases he'
    · obtain ⟨e, inf, hu, hi, hs⟩ := hk
      split at he'
      · rename_i h1 h2
        rw [vP_nil h1] at hx; rw [vP_nil h2] at hy
        cases hx; cases hy; cases he'
        simp [Op.equalIn, run_underlying hu]
      · rename_i b0 o0 h1 h2
        rw [vP_nil h1] at hx; rw [vP_yes h2] at hy
        cases hx; cases hy; cases he'
        simp [Op.equalIn, run_underlying hu]
      · rename_i b0 o0 h1 h2
        rw [vP_yes h1] at hx; rw [vP_nil h2] at hy
        cases hx; cases hy; cases he'
        simp [Op.equalIn, run_underlying hu]
      · rename_i b0 o0 b1 o1 h1 h2
        rw [vP_yes h1] at hx; rw [vP_yes h2] at hy
        cases hx; cases hy
        rename_i e0 s0 e1 s1
        cases hq : Nat.beq b0 b1 with
        | false => rw [hq] at he'; cases he'
        | true =>
          rw [hq] at he'; cases he'
          have := beq_eqN hq
          subst this
          rw [s0] at s1
          cases s1
          have e2 : Nat.beq o0 o1 = (o0 == o1) := by rw [Bool.eq_iff_iff]; simp
          rw [e2]
          simp [Op.equalIn, run_underlying hu, sizeOf, typeInfo, hi, hs, sameAddr, addr_beq]
      · cases he'
    · obtain ⟨m, hu⟩ := hk
      split at he'
      · rename_i h1 h2
        rw [vIf_nil h1] at hx; rw [vIf_nil h2] at hy
        cases hx; cases hy; cases he'
        simp [Op.equalIn, run_underlying hu]
      · rename_i t0 v0 h1 h2
        rw [vIf_nil h1] at hx; rw [vIf_yes h2] at hy
        cases hx; cases hy; cases he'
        simp [Op.equalIn, run_underlying hu]
      · rename_i t0 v0 h1 h2
        rw [vIf_yes h1] at hx; rw [vIf_nil h2] at hy
        cases hx; cases hy; cases he'
        simp [Op.equalIn, run_underlying hu]
      · rename_i t0 v0 t1 v1 h1 h2
        rw [vIf_yes h1] at hx; rw [vIf_yes h2] at hy
        cases hx; cases hy
        rename_i u0 r0 u1 r1
        cases hq : Nat.beq t0 t1 with
        | false =>
          rw [hq] at he'; cases he'
          have hne := beq_neN hq
          simp [Op.equalIn, run_underlying hu, hne]
        | true =>
          rw [hq] at he'
          have := beq_eqN hq
          subst this
          cases hcmp : (P.info? t0).any (·.comparable) with
          | false => simp only [hcmp] at he'; cases he'
          | true =>
            simp only [hcmp] at he'
            have he2 : aeq P d t0 v0 v1 = some b := he'
            cases hi : P.info? t0 with
            | none => simp [hi] at hcmp
            | some inf =>
              simp [hi] at hcmp
              have := ih t0 v0 v1 b _ _ he2 r0 r1 D w (by omega)
              simp [Op.equalIn, run_underlying hu, typeInfo, hi, hcmp, this]
      · cases he'
    · rename_i fs
      obtain ⟨l, hu, hs, rfl⟩ := hk
      split at he'
      · rename_i a1 b1 h1 h2
        rw [vA_yes h1] at hx; rw [vA_yes h2] at hy
        cases hx; cases hy
        rename_i c1 l1 r1 c2 l2 r2
        have hfo : P.fieldsOf t = l := by simp [Program.fieldsOf, hu]
        rw [run_equalIn_struct w D t c1 c2 (by rw [hfo]; exact hu) hs, hfo]
        exact aeqF_sound ih D (by omega) a1 b1 c1 c2 ⟨l1, r1⟩ ⟨l2, r2⟩ w l.toList b he'
      · cases he'
    · rename_i n e s
      obtain ⟨inf, hu, hi, hs⟩ := hk
      split at he'
      · rename_i a1 b1 h1 h2
        rw [vA_yes h1] at hx; rw [vA_yes h2] at hy
        cases hx; cases hy
        rename_i c1 l1 r1 c2 l2 r2
        rw [run_equalIn_array w D c1 c2 hu hi]
        have hc : P.cellsOf e = s := by simp [Program.cellsOf, hi, hs]
        rw [hc, List.range_eq_range']
        exact aeqA_sound ih D (by omega) e s a1 b1 c1 c2 ⟨l1, r1⟩ ⟨l2, r2⟩ w n 0 b he'
      · cases he'
    · obtain ⟨e, hu⟩ := hk
      split at he'
      · rename_i h1 h2
        rw [vL_nil h1] at hx; rw [vL_nil h2] at hy
        cases hx; cases hy; cases he'
        simp [Op.equalIn, run_underlying hu]
      · rename_i h1 h2
        rw [vL_nil h1] at hx; rw [vL_yes h2] at hy
        cases hx; cases hy; cases he'
        simp [Op.equalIn, run_underlying hu]
      · rename_i h1 h2
        rw [vL_yes h1] at hx; rw [vL_nil h2] at hy
        cases hx; cases hy; cases he'
        simp [Op.equalIn, run_underlying hu]
      · cases he'
    · obtain ⟨x0, e, hu⟩ := hk
      split at he'
      · rename_i h1 h2
        rw [vM_nil h1] at hx; rw [vM_nil h2] at hy
        cases hx; cases hy; cases he'
        simp [Op.equalIn, run_underlying hu]
      · rename_i h1 h2
        rw [vM_nil h1] at hx; rw [vM_yes h2] at hy
        cases hx; cases hy; cases he'
        simp [Op.equalIn, run_underlying hu]
      · rename_i h1 h2
        rw [vM_yes h1] at hx; rw [vM_nil h2] at hy
        cases hx; cases hy; cases he'
        simp [Op.equalIn, run_underlying hu]
      · cases he'
    · obtain ⟨x0, y0, z0, hu⟩ := hk
      split at he'
      · rename_i h1 h2
        have e1 : x = .nfn := by cases x <;> cases h1; rfl
        have e2 : y = .nfn := by cases y <;> cases h2; rfl
        subst e1; subst e2
        cases hx; cases hy; cases he'
        simp [Op.equalIn, run_underlying hu]
      · rename_i h1 h2
        have e1 : x = .nfn := by cases x <;> cases h1; rfl
        subst e1
        rw [vF_yes h2] at hy
        cases hx; cases he'
        cases hy <;> simp [Op.equalIn, run_underlying hu]
      · rename_i h1 h2
        have e1 : y = .nfn := by cases y <;> cases h2; rfl
        subst e1
        rw [vF_yes h1] at hx
        cases hy; cases he'
        cases hx <;> simp [Op.equalIn, run_underlying hu]
      · cases he'

theorem run_eqGuard_ok (neg : Bool) (t : TypeId) (x y : Operand) {u v : AV} {u' v' : Value} (hu : VRel σ u u') (hv : VRel σ v v') (cst : Bool)
    (hc : cst = true → isConst x = true ∨ isConst y = true) (ha : eqAsk P t cst (eqCls u) (eqCls v) = true) (w : World) : (eqGuard (if neg then .neq else .eql) t x y u' v').run P w = .ok () w := by
  generalize (if neg then BinOp.neq else BinOp.eql) = op
  cases hu <;> cases hv <;> first
    | (exfalso; revert ha; simp [eqAsk, eqCls]; done)
    | (cases op <;> rfl)
    | skip
  · have : cst = true := by simpa [eqAsk, eqCls] using ha
    rcases hc this with h1 | h1
    · cases x <;> first | (cases h1; done) | (cases op <;> simp [eqGuard])
    · cases y <;> first | (cases h1; done) | (cases op <;> simp [eqGuard])
  · have hg : eqGuardOk P t = true := by simpa [eqAsk, eqCls] using ha
    unfold eqGuardOk at hg
    rw [bnot_eq] at hg
    exact run_eqGuard_agg w op t x y _ _ (by simpa using hg)
theorem binEq_ok {neg : Bool} {t : TypeId} {x y : AV} {cst : Bool} (he : binEq neg P t x y cst h = .ok v h') :
    eqAsk P t cst (eqCls x) (eqCls y) = true ∧ ∃ b, aeq P 20 t x y = some b ∧ v = .bool (neg != b) ∧ h' = h := by
  rcases ite_ok he with ⟨hk, he⟩ | ⟨_, he⟩
  · cases hq : aeq P 20 t x y with
    | none => rw [hq] at he; cases he
    | some b => rw [hq] at he; cases he; exact ⟨hk, b, rfl, rfl, rfl⟩
  · cases he
/-- '==' on values that are neither integers nor strings, as the model runs it -/
theorem run_binOp_eq (t : TypeId) {u v : AV} {u' v' : Value} (hu : VRel σ u u') (hv : VRel σ v v') (cst : Bool) (ha : eqAsk P t cst (eqCls u) (eqCls v) = true) (w : World) (b : Bool)
    (hb : (Op.equal t u' v').run P w = .ok b w) : (binOp .eql t u' v').run P w = .ok (.bool b) w ∧ (binOp .neq t u' v').run P w = .ok (.bool (!b)) w := by
  cases hu <;> cases hv <;> first
      | (exfalso; revert ha; simp [eqAsk, eqCls]; done)
      | (constructor <;> simp [binOp, hb])

theorem binI2_ok {y : AV} {k : IntKind} {n : Int} {op : BinOp} (he : binI2 y k n op h = .ok v h') : ∃ k' m, y = .int k' m ∧ iTab op k n k' m h = .ok v h' := by
  cases y <;> first | (cases he; done) | exact ⟨_, _, rfl, he⟩
theorem binS2_ok {y : AV} {s : List Nat} {op : BinOp} (he : binS2 y s op h = .ok v h') : ∃ s', y = .str s' ∧ sTab op s s' h = .ok v h' := by
  cases y <;> first | (cases he; done) | exact ⟨_, rfl, he⟩
theorem good_binOp (op : BinOp) (t : TypeId) (x y : Operand) (yt : TypeId) : Good1 P G ⟨dst, .binOp op t x y yt, ty, pos, af, gd⟩ := by
  intro σ nt f a h h' w v ctx he hop hf hg
  simp [Op.operands] at hop
  have hx := ev_rel hf hg x hop.1
  have hy := ev_rel hf hg y hop.2
  have he' : binD (ev x f) (ev x f) (ev y f) op t (Bool.rec (motive := fun _ => Bool) (isConst y) true (isConst x)) P h = .ok v h' := he
  have hcst : (Bool.rec (motive := fun _ => Bool) (isConst y) true (isConst x)) = true → isConst x = true ∨ isConst y = true := by
    intro hh
    cases hc : isConst x
    · rw [hc] at hh; exact .inr hh
    · exact .inl rfl
  generalize (Bool.rec (motive := fun _ => Bool) (isConst y) true (isConst x) : Bool) = cst at *
  generalize ev x f = u at *
  generalize ev y f = u2 at *
  have gen : binGen u u2 op t cst P h = .ok v h' → ∃ v' w', Ran P (execOp a.eval ⟨dst, .binOp op t x y yt, ty, pos, af, gd⟩) w v' w' ∧ Eff1 σ h w v v' h' w' := by
    intro hb
    have hb' : (op = .eql ∧ binEq false P t u u2 cst h = .ok v h') ∨ (op = .neq ∧ binEq true P t u u2 cst h = .ok v h') := by
      cases op <;> first | (cases hb; done) | exact .inl ⟨rfl, hb⟩ | exact .inr ⟨rfl, hb⟩
    rcases hb' with ⟨rfl, hb⟩ | ⟨rfl, hb⟩
    · obtain ⟨ha, b, hq, rfl, rfl⟩ := binEq_ok hb
      have h1 := run_eqGuard_ok (P := P) false t x y hx hy cst hcst ha w
      have h2 := run_binOp_eq (P := P) t hx hy cst ha w b (aeq_sound P σ 20 t u u2 b _ _ hq hx hy Op.maxDepth w (by decide))
      refine ⟨.bool b, w, .inl ?_, .quiet _ _ ?_⟩
      · simp only [Bool.false_eq_true, if_false] at h1
        simp [execOp, h1, h2.1]
      · cases b <;> exact .bool _
    · obtain ⟨ha, b, hq, rfl, rfl⟩ := binEq_ok hb
      have h1 := run_eqGuard_ok (P := P) true t x y hx hy cst hcst ha w
      have h2 := run_binOp_eq (P := P) t hx hy cst ha w b (aeq_sound P σ 20 t u u2 b _ _ hq hx hy Op.maxDepth w (by decide))
      refine ⟨.bool (!b), w, .inl ?_, .quiet _ _ ?_⟩
      · simp only [if_true] at h1
        simp [execOp, h1, h2.2]
      · cases b <;> exact .bool _
  cases u with
  | int k n =>
    obtain ⟨k', m, rfl, hi⟩ := binI2_ok (show binI2 u2 k n op h = .ok v h' from he')
    generalize hxx : a.eval x = xx at *
    generalize hyy : a.eval y = yy at *
    cases hx; cases hy
    obtain ⟨v', hr, hv, rfl⟩ := run_binII (P := P) (σ := σ) op t k k' n m w hi
    exact ⟨v', w, .inl (by simp [execOp, hxx, hyy, eqGuard_ints, hr]), .quiet _ _ hv⟩
  | str s =>
    obtain ⟨s', rfl, hi⟩ := binS2_ok (show binS2 u2 s op h = .ok v h' from he')
    generalize hxx : a.eval x = xx at *
    generalize hyy : a.eval y = yy at *
    cases hx; cases hy
    obtain ⟨v', hr, hv, rfl⟩ := run_binSS (P := P) (σ := σ) op t _ _ w hi
    exact ⟨v', w, .inl (by simp [execOp, hxx, hyy, eqGuard_strs, hr]), .quiet _ _ hv⟩
  | top => cases he'
  | _ => exact gen he'
end ops
end Go.Ev
