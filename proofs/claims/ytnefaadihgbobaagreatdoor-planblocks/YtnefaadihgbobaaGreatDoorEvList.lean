/- What the evaluator's small functions on lists, numbers and tries come to. -/
import Derived.Test.YtnefaadihgbobaaGreatDoorEvSem
import Derived.Calls
set_option linter.unusedSimpArgs false
set_option linter.unusedVariables false
namespace Go.Ev

theorem ldrop_eq (l : List AV) : ∀ n, ldrop l n = if n ≤ l.length then some (l.drop n) else none := by
  intro n
  induction n with
  | zero => simp; rfl
  | succ n ih =>
    have : ldrop l (n + 1) = ltl (ldrop l n) := rfl
    rw [this, ih]
    by_cases h : n ≤ l.length
    · rw [if_pos h]
      cases hd : l.drop n with
      | nil =>
        have hlen := congrArg List.length hd
        simp at hlen
        rw [if_neg (by omega)]
        rfl
      | cons a t =>
        have hlen := congrArg List.length hd
        simp at hlen
        rw [if_pos (by omega), show l.drop (n + 1) = t by rw [← List.drop_drop, hd]; rfl]
        rfl
    · rw [if_neg h, if_neg (by omega)]
      rfl
theorem lget_eq (l : List AV) : ∀ n, lget l n = l[n]? := by
  intro n
  have : lget l n = lhd (ldrop l n) := rfl
  rw [this, ldrop_eq]
  by_cases h : n ≤ l.length
  · rw [if_pos h]
    have h0 : (l.drop n)[0]? = l[n]? := by rw [List.getElem?_drop]; simp
    rw [← h0]
    cases l.drop n <;> rfl
  · rw [if_neg h, List.getElem?_eq_none (by omega)]
    rfl

theorem ltake_eq : ∀ (n : Nat) (l : List AV), ltake n l = if n ≤ l.length then some (l.take n) else none := by
  intro n
  induction n with
  | zero => intro l; simp; rfl
  | succ n ih =>
    intro l
    cases l with
    | nil => rfl
    | cons a l =>
      have : ltake (n + 1) (a :: l) = Option.rec (motive := fun _ => Option (List AV)) none (fun r => some (a :: r)) (ltake n l) := rfl
      rw [this, ih l]
      by_cases h : n ≤ l.length
      · simp [h]
      · simp [h]

theorem lcut_eq (l : List AV) (off n : Nat) : lcut l off n = if off + n ≤ l.length then some ((l.drop off).take n) else none := by
  have : lcut l off n = Option.rec (motive := fun _ => Option (List AV)) none (ltake n) (ldrop l off) := rfl
  rw [this, ldrop_eq]
  by_cases h : off ≤ l.length
  · simp only [h, if_true]
    rw [ltake_eq]
    simp only [List.length_drop]
    by_cases h2 : off + n ≤ l.length
    · rw [if_pos (by omega), if_pos h2]
    · rw [if_neg (by omega), if_neg h2]
  · simp only [h, if_false]
    rw [if_neg (by omega)]

theorem lcut_some {l : List AV} {off n : Nat} {r : List AV} (h : lcut l off n = some r) : off + n ≤ l.length ∧ r = (l.drop off).take n ∧ r.length = n := by
  rw [lcut_eq] at h
  split at h
  · rename_i hle
    injection h with h
    subst h
    refine ⟨hle, rfl, ?_⟩
    simp
    omega
  · cases h

theorem lover_eq (vs : List AV) : ∀ l, lover vs l = if vs.length ≤ l.length then some (vs ++ l.drop vs.length) else none := by
  induction vs with
  | nil => intro l; simp; rfl
  | cons v vs ih =>
    intro l
    cases l with
    | nil => rfl
    | cons a l =>
      have : lover (v :: vs) (a :: l) = Option.rec (motive := fun _ => Option (List AV)) none (fun r => some (v :: r)) (lover vs l) := rfl
      rw [this, ih l]
      by_cases h : vs.length ≤ l.length <;> simp [h]

theorem lput_eq (vs : List AV) (l : List AV) : ∀ off, lput l vs off = if off + vs.length ≤ l.length then some (l.take off ++ vs ++ l.drop (off + vs.length)) else none := by
  induction l with
  | nil =>
    intro off
    cases off with
    | zero =>
      have : lput [] vs 0 = lover vs [] := rfl
      rw [this, lover_eq]
      simp
    | succ n => 
      have : lput [] vs (n + 1) = none := rfl
      rw [this, if_neg (by simp)]
  | cons a l ih =>
    intro off
    cases off with
    | zero =>
      have : lput (a :: l) vs 0 = lover vs (a :: l) := rfl
      rw [this, lover_eq]
      simp
    | succ n =>
      have : lput (a :: l) vs (n + 1) = Option.rec (motive := fun _ => Option (List AV)) none (fun r => some (a :: r)) (lput l vs n) := rfl
      rw [this, ih n]
      by_cases h : n + vs.length ≤ l.length
      · have h' : n + 1 + vs.length ≤ (a :: l).length := by simp; omega
        rw [if_pos h, if_pos h']
        have e : n + 1 + vs.length = (n + vs.length) + 1 := by omega
        simp [e]
      · have h' : ¬ n + 1 + vs.length ≤ (a :: l).length := by simp; omega
        rw [if_neg h, if_neg h']

theorem lput_some {l vs : List AV} {off : Nat} {r : List AV} (h : lput l vs off = some r) :
    off + vs.length ≤ l.length ∧ r = l.take off ++ vs ++ l.drop (off + vs.length) := by
  rw [lput_eq] at h
  split at h
  · rename_i hle; injection h with h; exact ⟨hle, h.symm⟩
  · cases h

theorem lput_length {l vs : List AV} {off : Nat} {r : List AV} (h : lput l vs off = some r) : r.length = l.length := by
  obtain ⟨h1, rfl⟩ := lput_some h
  simp
  omega

theorem lput_get {l vs : List AV} {off : Nat} {r : List AV} (h : lput l vs off = some r) (i : Nat) :
    r[i]? = if off ≤ i ∧ i < off + vs.length then vs[i - off]? else l[i]? := by
  obtain ⟨h1, rfl⟩ := lput_some h
  by_cases h2 : i < off
  · rw [if_neg (by omega), List.append_assoc, List.getElem?_append_left (by simp; omega), List.getElem?_take_of_lt h2]
  · by_cases h3 : i < off + vs.length
    · rw [if_pos (by omega), List.append_assoc, List.getElem?_append_right (by simp; omega), List.getElem?_append_left (by simp; omega)]
      congr 1
      simp
      omega
    · rw [if_neg (by omega), List.getElem?_append_right (by simp; omega)]
      simp only [List.length_append, List.length_take, List.getElem?_drop]
      congr 1
      omega

theorem lapp_eq (x y : List AV) : lapp x y = x ++ y := by
  induction x with
  | nil => rfl
  | cons a x ih => show a :: lapp x y = _; rw [ih]; rfl

theorem llen_eq (x : List AV) : llen x = x.length := by
  induction x with
  | nil => rfl
  | cons a x ih => show Nat.succ (llen x) = _; rw [ih]; rfl

theorem lallOne_spec (x : List AV) : lallOne x = true ↔ ∀ a ∈ x, oneB a = true := by
  induction x with
  | nil => simp; rfl
  | cons a x ih =>
    have : lallOne (a :: x) = Bool.rec (motive := fun _ => Bool) false (lallOne x) (oneB a) := rfl
    rw [this]
    cases h : oneB a
    · simp [h]
    · simp only [List.forall_mem_cons, h, true_and]; exact ih

theorem sapp_eq (x y : List Nat) : sapp x y = x ++ y := by
  induction x with
  | nil => rfl
  | cons a x ih => show a :: sapp x y = _; rw [ih]; rfl
theorem napp_eq (x y : List Nat) : napp x y = x ++ y := by
  induction x with
  | nil => rfl
  | cons a x ih => show a :: napp x y = _; rw [ih]; rfl
theorem slen_eq (x : List Nat) : slen x = x.length := by
  induction x with
  | nil => rfl
  | cons a x ih => show Nat.succ (slen x) = _; rw [ih]; rfl
theorem sdropO_eq (l : List Nat) : ∀ n, sdropO l n = if n ≤ l.length then some (l.drop n) else none := by
  intro n
  induction n with
  | zero => simp; rfl
  | succ n ih =>
    have : sdropO l (n + 1) = stl (sdropO l n) := rfl
    rw [this, ih]
    by_cases h : n ≤ l.length
    · rw [if_pos h]
      cases hd : l.drop n with
      | nil =>
        have hlen := congrArg List.length hd
        simp at hlen
        rw [if_neg (by omega)]
        rfl
      | cons a t =>
        have hlen := congrArg List.length hd
        simp at hlen
        rw [if_pos (by omega), show l.drop (n + 1) = t by rw [← List.drop_drop, hd]; rfl]
        rfl
    · rw [if_neg h, if_neg (by omega)]
      rfl
theorem sget_eq (l : List Nat) : ∀ n, sget l n = l[n]? := by
  intro n
  have : sget l n = shd (sdropO l n) := rfl
  rw [this, sdropO_eq]
  by_cases h : n ≤ l.length
  · rw [if_pos h]
    have h0 : (l.drop n)[0]? = l[n]? := by rw [List.getElem?_drop]; simp
    rw [← h0]
    cases l.drop n <;> rfl
  · rw [if_neg h, List.getElem?_eq_none (by omega)]
    rfl
theorem sdrop_eq (l : List Nat) : ∀ n, sdrop l n = l.drop n := by
  induction l with
  | nil => intro n; simp; rfl
  | cons a l ih =>
    intro n
    cases n with
    | zero => rfl
    | succ n => rw [List.drop_succ_cons, ← ih n]; rfl
theorem stake_eq : ∀ (n : Nat) (l : List Nat), stake n l = l.take n := by
  intro n
  induction n with
  | zero => intro l; simp; rfl
  | succ n ih =>
    intro l
    cases l with
    | nil => rfl
    | cons a l => rw [List.take_succ_cons, ← ih l]; rfl

theorem ieq_eq (a b : Int) : ieq a b = (a == b) := by
  cases a <;> cases b
  · rename_i m n
    show Nat.beq m n = _
    rw [Bool.eq_iff_iff]
    simp [Nat.beq_eq]
    omega
  · rename_i m n; show false = _; symm; rw [beq_eq_false_iff_ne]; intro h; cases h
  · rename_i m n; show false = _; symm; rw [beq_eq_false_iff_ne]; intro h; cases h
  · rename_i m n
    show Nat.beq m n = _
    rw [Bool.eq_iff_iff]
    simp [Nat.beq_eq]
theorem ilt_eq (a b : Int) : ilt a b = decide (a < b) := by
  cases a <;> cases b
  · rename_i m n
    show Nat.blt m n = _
    rw [Bool.eq_iff_iff]
    simp [Nat.blt_eq]
  · rename_i m n; show false = _; symm; rw [decide_eq_false_iff_not]; simp only [Int.ofNat_eq_natCast]; omega
  · rename_i m n; show true = _; symm; rw [decide_eq_true_iff]; simp only [Int.ofNat_eq_natCast]; omega
  · rename_i m n
    show Nat.blt n m = _
    rw [Bool.eq_iff_iff]
    simp [Nat.blt_eq]
    omega
theorem bnot_eq (b : Bool) : bnot b = !b := by cases b <;> rfl
theorem beqB_eq (a b : Bool) : beqB a b = (a == b) := by cases a <;> cases b <;> rfl
theorem kEq_eq (a b : IntKind) : kEq a b = true ↔ a = b := by
  constructor
  · intro h; cases a <;> cases b <;> first | rfl | (exact absurd h (by decide +kernel))
  · rintro rfl; cases a <;> rfl
theorem strEq_eq (a : List Nat) : ∀ b, strEq a b = (a == b) := by
  induction a with
  | nil => intro b; cases b <;> rfl
  | cons x a ih =>
    intro b
    cases b with
    | nil => rfl
    | cons y b =>
      have : strEq (x :: a) (y :: b) = Bool.rec (motive := fun _ => Bool) false (strEq a b) (Nat.beq x y) := rfl
      rw [this, ih b]
      show _ = ((x == y) && (a == b))
      have e : Nat.beq x y = (x == y) := by rw [Bool.eq_iff_iff]; simp [Nat.beq_eq]
      rw [e]
      cases (x == y) <;> rfl
theorem fits_spec {k : IntKind} {n : Int} (h : fits k n = true) : k.min ≤ n ∧ n ≤ k.max := by
  unfold fits at h
  rw [ilt_eq, ilt_eq] at h
  by_cases h1 : n < k.min
  · rw [decide_eq_true h1] at h; cases h
  · rw [decide_eq_false h1] at h
    by_cases h2 : k.max < n
    · rw [decide_eq_true h2] at h; cases h
    · omega
theorem wrap_in (k : IntKind) (n : Int) (h : k.min ≤ n ∧ n ≤ k.max) : k.wrap n = n := by
  cases k <;> simp [IntKind.wrap, IntKind.min, IntKind.max, IntKind.bits, IntKind.signed] at * <;> omega
theorem wrapF_eq (k : IntKind) (n : Int) : wrapF k n = k.wrap n := by
  unfold wrapF
  cases h : fits k n
  · rfl
  · exact (wrap_in k n (fits_spec h)).symm

theorem dig16_inj : ∀ n m : Fin 16, dig16 n.1 = dig16 m.1 → n = m := by decide +kernel
theorem dig_inj : ∀ n m : Fin 8, dig n.1 = dig m.1 → n = m := by decide +kernel
theorem dig16_ne {n m : Nat} (hn : n < 16) (hm : m < 16) (h : n ≠ m) : dig16 n ≠ dig16 m :=
  fun e => h (congrArg Fin.val (dig16_inj ⟨n, hn⟩ ⟨m, hm⟩ e))
theorem dig_ne {n m : Nat} (hn : n < 8) (hm : m < 8) (h : n ≠ m) : dig n ≠ dig m :=
  fun e => h (congrArg Fin.val (dig_inj ⟨n, hn⟩ ⟨m, hm⟩ e))

theorem L2.get_set (t u : Nat) (v : AV) (f : L2) (ht : t < 256) (hu : u < 256) : (f.set t v).get u = if u = t then v else f.get u := by
  have e1 : ∀ n, Nat.div n 16 = n / 16 := fun _ => rfl
  have e2 : ∀ n, Nat.mod n 16 = n % 16 := fun _ => rfl
  unfold L2.set L2.get
  rw [L2.sel_upd]
  simp only [e1, e2]
  by_cases h : u / 16 = t / 16
  · rw [if_pos (by rw [h]), L1.sel_upd]
    by_cases h2 : u % 16 = t % 16
    · rw [if_pos (by rw [h2]), if_pos (by omega)]
    · rw [if_neg (dig16_ne (by omega) (by omega) h2), if_neg (by omega), h]
  · rw [if_neg (dig16_ne (by omega) (by omega) h), if_neg (by omega)]

theorem L2.get_new (t : Nat) : L2.new.get t = .tup [] := by
  unfold L2.get L2.new
  rw [L2.sel_all, L1.sel_all]

def lim : Nat := 262144
theorem K6.get_set (m : K6) (i j : Nat) (v : AO) (hi : i < lim) (hj : j < lim) : (m.set i v).get j = if j = i then v else m.get j := by
  unfold lim at hi hj
  have e1 : ∀ n d, Nat.div n d = n / d := fun _ _ => rfl
  have e2 : ∀ n d, Nat.mod n d = n % d := fun _ _ => rfl
  unfold K6.set K6.get
  simp only [e1, e2]
  rw [K6.sel_upd]
  by_cases h6 : j / 32768 = i / 32768
  · rw [if_pos (by rw [h6]), K5.sel_upd]
    by_cases h5 : j / 4096 % 8 = i / 4096 % 8
    · rw [if_pos (by rw [h5]), K4.sel_upd]
      by_cases h4 : j / 512 % 8 = i / 512 % 8
      · rw [if_pos (by rw [h4]), K3.sel_upd]
        by_cases h3 : j / 64 % 8 = i / 64 % 8
        · rw [if_pos (by rw [h3]), K2.sel_upd]
          by_cases h2 : j / 8 % 8 = i / 8 % 8
          · rw [if_pos (by rw [h2]), K1.sel_upd]
            by_cases h1 : j % 8 = i % 8
            · rw [if_pos (by rw [h1]), if_pos (by omega)]
            · rw [if_neg (dig_ne (by omega) (by omega) h1), if_neg (by omega), h2, h3, h4, h5, h6]
          · rw [if_neg (dig_ne (by omega) (by omega) h2), if_neg (by omega), h3, h4, h5, h6]
        · rw [if_neg (dig_ne (by omega) (by omega) h3), if_neg (by omega), h4, h5, h6]
      · rw [if_neg (dig_ne (by omega) (by omega) h4), if_neg (by omega), h5, h6]
    · rw [if_neg (dig_ne (by omega) (by omega) h5), if_neg (by omega), h6]
  · rw [if_neg (dig_ne (by omega) (by omega) h6), if_neg (by omega)]
theorem K6.get_new (i : Nat) : K6.new.get i = .none := by
  unfold K6.get K6.new
  rw [K6.sel_all, K5.sel_all, K4.sel_all, K3.sel_all, K2.sel_all, K1.sel_all]
theorem avEq_eq {x y : AV} (h : avEq x y = true) : x = y ∧ flatV x = true := by
  unfold avEq at h
  split at h
  · rw [beqB_eq] at h; exact ⟨by rw [show _ = _ from beq_iff_eq.1 h], rfl⟩
  · rename_i k a k' b
    cases hk : kEq k k' with
    | false => rw [hk] at h; cases h
    | true =>
      rw [hk] at h
      have h' : ieq a b = true := h
      rw [ieq_eq] at h'
      have := (kEq_eq k k').1 hk
      subst this
      exact ⟨by rw [show a = b from by simpa using h'], rfl⟩
  · rw [strEq_eq] at h; exact ⟨by rw [show _ = _ from beq_iff_eq.1 h], rfl⟩
  · cases h
theorem avsEq_eq : ∀ {l m : List AV}, avsEq l m = true → l = m ∧ l.all flatV = true := by
  intro l
  induction l with
  | nil => intro m h; cases m with | nil => exact ⟨rfl, rfl⟩ | cons y m => cases h
  | cons x l ih =>
    intro m h
    cases m with
    | nil => cases h
    | cons y m =>
      have h0 : (Bool.rec (motive := fun _ => Bool) false (avsEq l m) (avEq x y) : Bool) = true := h
      cases h1 : avEq x y with
      | false => rw [h1] at h0; cases h0
      | true =>
      rw [h1] at h0
      have h2 : avsEq l m = true := h0
      obtain ⟨rfl, h3⟩ := avEq_eq h1
      obtain ⟨rfl, h4⟩ := ih h2
      exact ⟨rfl, by simp [h3, h4]⟩
end Go.Ev

/- How an abstract state stands for a state of the model. -/
set_option linter.unusedSimpArgs false
set_option linter.unusedVariables false
namespace Go.Ev

/-- where an abstract block lies: the model's block, its number of cells, its class -/
structure SE where
  c : Nat
  N : Nat
  k : Option Nat
abbrev Sig := Nat → Option SE

inductive VRel (σ : Sig) : AV → Value → Prop where
  | top (v : Value) : VRel σ .top v
  | bool (b : Bool) : VRel σ (.bool b) (.bool b)
  | int (k : IntKind) (n : Int) : VRel σ (.int k n) (.int k n)
  | str (s : ByteArray) : VRel σ (.str (bytesOf s)) (.string s)
  | nptr : VRel σ .nptr (.pointer none)
  | ptr (b off : Nat) (e : SE) (h : σ b = some e) : VRel σ (.ptr b off) (.pointer (some ⟨e.c, off, none⟩))
  | nsl : VRel σ .nsl (.slice none 0 0)
  | sl (b off len cap sz : Nat) (ex : Bool) (e : SE) (cc : Nat) (h : σ b = some e) (h1 : len ≤ cap) (h2 : cap ≤ cc) (h3 : ex = true → cc = cap) (h4 : ex = false → off + cc * sz ≤ e.N) :
      VRel σ (.sl b off len cap sz ex) (.slice (some ⟨e.c, off, none⟩) len cc)
  | nmap : VRel σ .nmap (.map none)
  | map (r : Nat) (e : SE) (h : σ r = some e) : VRel σ (.map r) (.map (some e.c))
  | fn (f : Fn) (as cs : List AV) (as' cs' : Array Value) (hf : ∀ l, f ≠ .yield l)
      (ha : as.length = as'.toList.length) (ha' : ∀ (i : Nat) (x : AV) (y : Value), as[i]? = some x → as'.toList[i]? = some y → VRel σ x y)
      (hc : cs.length = cs'.toList.length) (hc' : ∀ (i : Nat) (x : AV) (y : Value), cs[i]? = some x → cs'.toList[i]? = some y → VRel σ x y) :
      VRel σ (.fn f as cs) (.func f as' cs')
  | yld (l : Nat) (e : SE) (h : σ l = some e) : VRel σ (.fn (.yield l) [] []) (.func (.yield e.c) #[] #[])
  | nfn : VRel σ .nfn .nilFunc
  | ifc (t : TypeId) (v : AV) (v' : Value) (h : VRel σ v v') : VRel σ (.ifc t v) (.iface t v')
  | nifc : VRel σ .nifc .nilIface
  | agg (cs : List AV) (cs' : Array Value) (hl : cs.length = cs'.toList.length) (h : ∀ (i : Nat) (x : AV) (y : Value), cs[i]? = some x → cs'.toList[i]? = some y → VRel σ x y) :
      VRel σ (.agg cs) (.agg cs')
  | tup (cs : List AV) (cs' : Array Value) (hl : cs.length = cs'.toList.length) (h : ∀ (i : Nat) (x : AV) (y : Value), cs[i]? = some x → cs'.toList[i]? = some y → VRel σ x y) :
      VRel σ (.tup cs) (.tuple cs')

def LRel (σ : Sig) (l : List AV) (a : List Value) : Prop :=
  l.length = a.length ∧ ∀ (i : Nat) (x : AV) (y : Value), l[i]? = some x → a[i]? = some y → VRel σ x y

def Sle (σ σ' : Sig) : Prop := ∀ b e, σ b = some e → σ' b = some e
theorem Sle.refl (σ : Sig) : Sle σ σ := fun _ _ h => h
theorem Sle.trans {a b c : Sig} (h : Sle a b) (h' : Sle b c) : Sle a c := fun x e hx => h' x e (h x e hx)

theorem VRel.mono {σ σ' : Sig} (hs : Sle σ σ') {x : AV} {v : Value} (h : VRel σ x v) : VRel σ' x v := by
  induction h with
  | top v => exact .top v
  | bool b => exact .bool b
  | int k n => exact .int k n
  | str s => exact .str s
  | nptr => exact .nptr
  | ptr b off e h => exact .ptr b off e (hs _ _ h)
  | nsl => exact .nsl
  | sl b off len cap sz ex e cc h h1 h2 h3 h4 => exact .sl b off len cap sz ex e cc (hs _ _ h) h1 h2 h3 h4
  | nmap => exact .nmap
  | map r e h => exact .map r e (hs _ _ h)
  | fn f as cs as' cs' hf ha ha' hc hc' iha ihc => exact .fn f as cs as' cs' hf ha iha hc ihc
  | yld l e h => exact .yld l e (hs _ _ h)
  | nfn => exact .nfn
  | ifc t v v' h ih => exact .ifc t v v' ih
  | nifc => exact .nifc
  | agg cs cs' hl h ih => exact .agg cs cs' hl ih
  | tup cs cs' hl h ih => exact .tup cs cs' hl ih

theorem LRel.mono {σ σ' : Sig} (hs : Sle σ σ') {l : List AV} {a : List Value} (h : LRel σ l a) : LRel σ' l a :=
  ⟨h.1, fun i x y hx hy => (h.2 i x y hx hy).mono hs⟩
theorem LRel.nil (σ : Sig) : LRel σ [] [] := ⟨rfl, fun i x y hx _ => by simp at hx⟩
theorem LRel.cons {σ : Sig} {x : AV} {y : Value} {l : List AV} {a : List Value} (h : VRel σ x y) (hl : LRel σ l a) : LRel σ (x :: l) (y :: a) := by
  refine ⟨by simp [hl.1], fun i u v hu hv => ?_⟩
  cases i with
  | zero => simp at hu hv; subst hu; subst hv; exact h
  | succ i => simp at hu hv; exact hl.2 i u v hu hv
theorem LRel.uncons {σ : Sig} {x : AV} {l : List AV} {a : List Value} (h : LRel σ (x :: l) a) : ∃ y a', a = y :: a' ∧ VRel σ x y ∧ LRel σ l a' := by
  cases a with
  | nil => have := h.1; simp at this
  | cons y a' =>
    refine ⟨y, a', rfl, h.2 0 x y (by simp) (by simp), by have := h.1; simpa using this, fun i u v hu hv => h.2 (i + 1) u v (by simpa using hu) (by simpa using hv)⟩
theorem LRel.unnil {σ : Sig} {a : List Value} (h : LRel σ [] a) : a = [] := by
  have := h.1
  cases a with
  | nil => rfl
  | cons y a' => simp at this
theorem LRel.append {σ : Sig} {l m : List AV} {a b : List Value} (h : LRel σ l a) (h' : LRel σ m b) : LRel σ (l ++ m) (a ++ b) := by
  induction l generalizing a with
  | nil => have := h.unnil; subst this; simpa using h'
  | cons x l ih =>
    obtain ⟨y, a', rfl, hv, hl⟩ := h.uncons
    exact .cons hv (ih hl)
theorem LRel.get {σ : Sig} {l : List AV} {a : List Value} (h : LRel σ l a) {i : Nat} {x : AV} (hx : l[i]? = some x) : ∃ y, a[i]? = some y ∧ VRel σ x y := by
  have hi : i < a.length := by
    have := h.1
    have := (List.getElem?_eq_some_iff.1 hx).1
    omega
  exact ⟨a[i], List.getElem?_eq_getElem hi, h.2 i x _ hx (List.getElem?_eq_getElem hi)⟩
theorem LRel.take {σ : Sig} {l : List AV} {a : List Value} (h : LRel σ l a) (n : Nat) : LRel σ (l.take n) (a.take n) := by
  refine ⟨by simp [h.1], fun i x y hx hy => ?_⟩
  rw [List.getElem?_take] at hx hy
  split at hx
  · rename_i hlt; rw [if_pos hlt] at hy; exact h.2 i x y hx hy
  · cases hx
theorem LRel.drop {σ : Sig} {l : List AV} {a : List Value} (h : LRel σ l a) (n : Nat) : LRel σ (l.drop n) (a.drop n) := by
  refine ⟨by simp [h.1], fun i x y hx hy => ?_⟩
  rw [List.getElem?_drop] at hx hy
  exact h.2 (n + i) x y hx hy

/- DEFERRED CALLS -/
inductive DEnt (σ : Sig) : AV → Deferred → Prop where
  | fn (g : FuncId) (as cs : List AV) (as' cs' : Array Value) (ha : LRel σ as as'.toList) (hc : LRel σ cs cs'.toList) :
      DEnt σ (.fn (.func g) as cs) { target := .fn (.func g) cs', args := as' }
  | mk (r : Nat) (e : SE) (h : σ r = some e) : DEnt σ (.map r) { target := .collected e.c, args := #[] }
inductive DRel (σ : Sig) : AV → List Deferred → Prop where
  | nil : DRel σ (.tup []) []
  | cons (x : AV) (l : List AV) (d : Deferred) (ds : List Deferred) (h : DEnt σ x d) (hl : DRel σ (.tup l) ds) : DRel σ (.tup (x :: l)) (d :: ds)
  | round (l : Nat) (e : SE) (h : σ l = some e) : DRel σ (.map l) []
theorem DEnt.mono {σ σ' : Sig} (hs : Sle σ σ') {x : AV} {d : Deferred} (h : DEnt σ x d) : DEnt σ' x d := by
  cases h with
  | fn g as cs as' cs' ha hc => exact .fn g as cs as' cs' (ha.mono hs) (hc.mono hs)
  | mk r e h => exact .mk r e (hs _ _ h)
theorem DRel.mono {σ σ' : Sig} (hs : Sle σ σ') {x : AV} {d : List Deferred} (h : DRel σ x d) : DRel σ' x d := by
  induction h with
  | nil => exact .nil
  | cons x l d ds h hl ih => exact .cons x l d ds (h.mono hs) ih
  | round l e h => exact .round l e (hs _ _ h)

/- FRAMES -/
structure FRel (σ : Sig) (nt : Nat) (f : L2) (a : Act) : Prop where
  size : a.tmps.size = nt
  slot : ∀ t, t < 250 → VRel σ (f.get t) (a.tmps.getD t undef)
  defers : DRel σ (f.get dslot) a.defers
theorem FRel.mono {σ σ' : Sig} (hs : Sle σ σ') {nt : Nat} {f : L2} {a : Act} (h : FRel σ nt f a) : FRel σ' nt f a :=
  ⟨h.size, fun t ht => (h.slot t ht).mono hs, h.defers.mono hs⟩

/- MEMORY -/
def clsK : CK → Option Nat
  | .exact => none
  | .fz k => some k
  | .tip k => some k
  | .old k _ => some k
def validK (g : Nat → AO) : CK → Prop
  | .old k st => g k = .ctr st
  | _ => True
def wrK? : CK → Prop
  | .exact => True
  | .tip _ => True
  | _ => False
def loopSt : Nat → LoopState
  | 0 => .ready
  | 1 => .busy
  | 2 => .done
  | _ => .exhausted
def BRel (G : Nat) (σ : Sig) (g : Nat → AO) (e : SE) (w : World) : AO → Prop
  | .none => True
  | .ctr _ => e.k = none
  | .cells l t k => e.k = clsK k ∧ (validK g k → ∃ (arr : Array Value) (lo hi : Nat), w.heap[e.c]? = some (.cells arr t (lo, hi)) ∧ arr.size = e.N ∧ l.length ≤ e.N ∧
      (∀ (i : Nat) (x : AV) (y : Value), l[i]? = some x → arr[i]? = some y → VRel σ x y) ∧ (k = .exact → l.length = e.N) ∧ (wrK? k → ∀ i, i < e.N → ¬ (lo ≤ i ∧ i < hi)))
  | .map es => e.k = none ∧ ∃ (es' : Array MapEntry) (clock : Nat), w.heap[e.c]? = some (.map es' clock) ∧ es.length = es'.toList.length ∧
      ∀ (i : Nat) (x : AV × AV) (y : MapEntry), es[i]? = some x → es'.toList[i]? = some y → VRel σ x.1 y.key ∧ VRel σ x.2 y.val
  | .loop st pend fr ps as bd => e.k = none ∧ ∃ r : Loop, w.heap[e.c]? = some (.loop r) ∧ r.state = loopSt st ∧ r.pending = pend ∧ (∀ t, t < 250 → VRel σ (fr.get t) (r.tmps.getD t undef)) ∧
      r.params.toList = ps ∧ r.assign = as ∧ r.body = bd ∧ r.tmps.size < 250 ∧ codeOk G r.tmps.size as = true ∧ codeOk G r.tmps.size bd = true ∧ ∀ d ∈ ps, d < r.tmps.size
  | .dfr taken => e.k = none ∧ w.heap[e.c]? = some (.deferred (if taken then none else some []))

theorem BRel.congr {G : Nat} {σ σ' : Sig} {g g' : Nat → AO} {e : SE} {w w' : World} {o : AO} (hs : Sle σ σ') (hw : w'.heap[e.c]? = w.heap[e.c]?)
    (hg : ∀ l t k st, o = .cells l t (.old k st) → g' k = .ctr st → g k = .ctr st) (h : BRel G σ g e w o) : BRel G σ' g' e w' o := by
  cases o with
  | none => trivial
  | ctr n => exact h
  | cells l t k =>
    refine ⟨h.1, fun hv => ?_⟩
    have hv' : validK g k := by
      cases k with
      | old k st => exact hg l t k st rfl hv
      | _ => trivial
    obtain ⟨arr, lo, hi, h1, h2, h3, h4, h5⟩ := h.2 hv'
    exact ⟨arr, lo, hi, hw.trans h1, h2, h3, fun i x y hx hy => (h4 i x y hx hy).mono hs, h5⟩
  | map es =>
    obtain ⟨hk, es', clock, h1, h2, h3⟩ := h
    exact ⟨hk, es', clock, hw.trans h1, h2, fun i x y hx hy => ⟨(h3 i x y hx hy).1.mono hs, (h3 i x y hx hy).2.mono hs⟩⟩
  | loop st pend fr ps as bd =>
    obtain ⟨hk, r, h1, h2, h3, h4, h5⟩ := h
    exact ⟨hk, r, hw.trans h1, h2, h3, fun t ht => (h4 t ht).mono hs, h5⟩
  | dfr taken => exact ⟨h.1, hw.trans h.2⟩

structure SOk (σ : Sig) (w : World) : Prop where
  inj : ∀ b b' e e', σ b = some e → σ b' = some e' → e.c = e'.c → b = b' ∨ (e.k = e'.k ∧ e.k ≠ none)
  rng : ∀ b e, σ b = some e → e.c < w.heap.size
  low : ∀ b e, σ b = some e → b < lim

def MAll (G : Nat) (σ : Sig) (g : Nat → AO) (w : World) : Prop := ∀ b e, σ b = some e → BRel G σ g e w (g b)
def GOk (G : Nat) (σ : Sig) : Prop := ∀ g, g < G → ∃ e, σ g = some e ∧ e.c = g

/-- what the evaluator does to the abstract heap -/
def clsAO : AO → Option Nat
  | .cells _ _ k => clsK k
  | _ => none
def tipOf : AO → Option Nat
  | .cells _ _ (.tip k) => some k
  | .cells _ _ (.fz k) => some k
  | _ => none
structure AInv (h : H) : Prop where
  top : h.nx ≤ lim
  bound : ∀ b, h.nx ≤ b → b < lim → h.m.get b = .none
  cls : ∀ b k, b < lim → clsAO (h.m.get b) = some k → k < h.nx ∧ ∃ n, h.m.get k = .ctr n
  tip : ∀ b b' k, b < lim → b' < lim → tipOf (h.m.get b) = some k → tipOf (h.m.get b') = some k → b = b'
  stamp : ∀ b l t k st n, b < lim → h.m.get b = .cells l t (.old k st) → h.m.get k = .ctr n → st ≤ n
  len : ∀ b b' l t k st l' t', b < lim → b' < lim → h.m.get b = .cells l t (.old k st) → h.m.get b' = .cells l' t' (.tip k) → l.length ≤ l'.length
structure AStep (h h' : H) (nw : List Nat) : Prop where
  lg : h'.lg = nw ++ h.lg
  nx : h.nx ≤ h'.nx
  low : ∀ b ∈ nw, b < h'.nx
  keep : ∀ b, b < lim → b < h.nx → b ∉ nw → h'.m.get b = h.m.get b
  cls : ∀ b ∈ nw, ∀ k, b < h.nx → clsAO (h.m.get b) = some k → k ∈ nw
  newc : ∀ b k, h.nx ≤ b → b < h'.nx → b < lim → clsAO (h'.m.get b) = some k → k ∈ nw ∨ h.nx ≤ k
  same : ∀ b k, b < h.nx → b < lim → clsAO (h'.m.get b) = some k → clsAO (h.m.get b) = some k
  inv : AInv h'
  live : ∀ b ∈ nw, b < h.nx → b < lim → h.m.get b ≠ .none
/-- what it does to the model's -/
structure CStep (σ σ' : Sig) (h h' : H) (w w' : World) (nw : List Nat) : Prop where
  le : Sle σ σ'
  fresh : ∀ b e, σ b = none → σ' b = some e → h.nx ≤ b ∧ b < h'.nx
  ok : SOk σ' w'
  grow : w.heap.size ≤ w'.heap.size
  frame : ∀ c, c < w.heap.size → (∀ b ∈ nw, ∀ e, σ b = some e → e.c ≠ c) → w'.heap[c]? = w.heap[c]?
  newc : ∀ b e, σ b = none → σ' b = some e → w.heap.size ≤ e.c ∨ ∃ b0 ∈ nw, ∃ e0, σ b0 = some e0 ∧ e0.c = e.c
  io : w'.os = w.os ∧ w'.output = w.output
theorem AStep.refl {h : H} (hi : AInv h) : AStep h h [] :=
  ⟨rfl, Nat.le_refl _, fun b hb => (by cases hb), fun _ _ _ _ => rfl, fun b hb => (by cases hb), fun b k h1 h2 => absurd h2 (by omega), fun _ _ _ _ hh => hh, hi, fun b hb => (by cases hb)⟩
theorem AStep.trans {h h1 h2 : H} {n1 n2 : List Nat} (a : AStep h h1 n1) (b : AStep h1 h2 n2) (hl : h2.nx ≤ lim) : AStep h h2 (n2 ++ n1) := by
  have e1 := a.nx
  have e2 := b.nx
  refine ⟨by rw [b.lg, a.lg, List.append_assoc], by omega, ?_, ?_, ?_, ?_, ?_, b.inv, ?_⟩
  · intro x hx
    rcases List.mem_append.1 hx with hx | hx
    · exact b.low x hx
    · have := a.low x hx; omega
  · intro x h3 h4 h5
    rw [List.mem_append, not_or] at h5
    rw [b.keep x h3 (by omega) h5.1, a.keep x h3 h4 h5.2]
  · intro x hx k h4 h5
    by_cases h6 : x ∈ n1
    · exact List.mem_append.2 (.inr (a.cls x h6 k h4 h5))
    · have hx2 : x ∈ n2 := (List.mem_append.1 hx).resolve_right h6
      refine List.mem_append.2 (.inl (b.cls x hx2 k (by omega) ?_))
      rw [a.keep x (by omega) h4 h6]; exact h5
  · intro x k h3 h4 h5 h6
    by_cases h7 : x < h1.nx
    · rcases a.newc x k h3 h7 h5 (b.same x k h7 h5 h6) with h8 | h8
      · exact .inl (List.mem_append.2 (.inr h8))
      · exact .inr h8
    · rcases b.newc x k (by omega) h4 h5 h6 with h8 | h8
      · exact .inl (List.mem_append.2 (.inl h8))
      · exact .inr (by omega)
  · intro x k h3 h4 h5
    exact a.same x k h3 h4 (b.same x k (by omega) h4 h5)
  · intro x hx h3 h4
    by_cases h6 : x ∈ n1
    · exact a.live x h6 h3 h4
    · have hx2 : x ∈ n2 := (List.mem_append.1 hx).resolve_right h6
      have := b.live x hx2 (by omega) h4
      rwa [a.keep x h4 h3 h6] at this
theorem CStep.refl {σ : Sig} {h : H} {w : World} (hs : SOk σ w) : CStep σ σ h h w w [] :=
  ⟨Sle.refl σ, fun b e h1 h2 => (by rw [h1] at h2; cases h2), hs, Nat.le_refl _, fun _ _ _ => rfl, fun b e h1 h2 => (by rw [h1] at h2; cases h2), ⟨rfl, rfl⟩⟩
theorem CStep.trans {σ σ1 σ2 : Sig} {h h1 h2 : H} {w w1 w2 : World} {n1 n2 : List Nat} (a : CStep σ σ1 h h1 w w1 n1) (b : CStep σ1 σ2 h1 h2 w1 w2 n2) (e1 : h.nx ≤ h1.nx) (e2 : h1.nx ≤ h2.nx) :
    CStep σ σ2 h h2 w w2 (n2 ++ n1) := by
  refine ⟨a.le.trans b.le, ?_, b.ok, Nat.le_trans a.grow b.grow, ?_, ?_, ⟨b.io.1.trans a.io.1, b.io.2.trans a.io.2⟩⟩
  · intro x e h3 h4
    cases h5 : σ1 x with
    | none => have := b.fresh x e h5 h4; omega
    | some e' => have := a.fresh x e' h3 h5; omega
  · intro c h3 h4
    have g1 := a.frame c h3 (fun x hx e he => h4 x (List.mem_append.2 (.inr hx)) e he)
    have g2 := b.frame c (by have := a.grow; omega) (fun x hx e he hc => ?_)
    · rw [g2, g1]
    · cases h5 : σ x with
      | some e' =>
        have := a.le x e' h5
        rw [he] at this
        cases this
        exact h4 x (List.mem_append.2 (.inl hx)) e h5 hc
      | none =>
        rcases a.newc x e h5 he with h6 | ⟨b0, hb0, e0, h7, h8⟩
        · omega
        · exact h4 b0 (List.mem_append.2 (.inr hb0)) e0 h7 (by omega)
  · intro x e h3 h4
    cases h5 : σ1 x with
    | some e' =>
      have := b.le x e' h5
      rw [h4] at this
      cases this
      rcases a.newc x e h3 h5 with h6 | ⟨b0, hb0, e0, h7, h8⟩
      · exact .inl h6
      · exact .inr ⟨b0, List.mem_append.2 (.inr hb0), e0, h7, h8⟩
    | none =>
      rcases b.newc x e h5 h4 with h6 | ⟨b0, hb0, e0, h7, h8⟩
      · exact .inl (by have := a.grow; omega)
      · cases h9 : σ b0 with
        | some e9 =>
          have := a.le b0 e9 h9
          rw [h7] at this
          cases this
          exact .inr ⟨b0, List.mem_append.2 (.inl hb0), e0, h9, h8⟩
        | none =>
          rcases a.newc b0 e0 h9 h7 with h6 | ⟨b1, hb1, e1, h10, h11⟩
          · exact .inl (by omega)
          · exact .inr ⟨b1, List.mem_append.2 (.inr hb1), e1, h10, by omega⟩
/-- both, and the memory behind it -/
def Out (G : Nat) (σ : Sig) (h : H) (w : World) (σ' : Sig) (h' : H) (w' : World) : Prop :=
  ∃ nw, AStep h h' nw ∧ CStep σ σ' h h' w w' nw ∧ MAll G σ' h'.m.get w'
theorem Out.refl {G : Nat} {σ : Sig} {h : H} {w : World} (hi : AInv h) (hs : SOk σ w) (hm : MAll G σ h.m.get w) : Out G σ h w σ h w :=
  ⟨[], AStep.refl hi, CStep.refl hs, hm⟩
theorem Out.trans {G : Nat} {σ σ1 σ2 : Sig} {h h1 h2 : H} {w w1 w2 : World} (a : Out G σ h w σ1 h1 w1) (b : Out G σ1 h1 w1 σ2 h2 w2) (hl : h2.nx ≤ lim) : Out G σ h w σ2 h2 w2 := by
  obtain ⟨n1, a1, a2, _⟩ := a
  obtain ⟨n2, b1, b2, b3⟩ := b
  exact ⟨n2 ++ n1, a1.trans b1 hl, a2.trans b2 a1.nx b1.nx, b3⟩
end Go.Ev
