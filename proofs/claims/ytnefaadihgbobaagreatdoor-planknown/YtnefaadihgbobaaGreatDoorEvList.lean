/- What the evaluator's small functions on lists, numbers and tries come to. -/
import Derived.Test.YtnefaadihgbobaaGreatDoorEvSem
set_option linter.unusedSimpArgs false
set_option linter.unusedVariables false
namespace Go.Ev

theorem lget_eq (l : List AV) : ∀ n, lget l n = l[n]? := by
  induction l with
  | nil => intro n; rfl
  | cons a l ih =>
    intro n
    cases n with
    | zero => rfl
    | succ n => rw [List.getElem?_cons_succ, ← ih n]; rfl

theorem ldrop_eq (l : List AV) : ∀ n, ldrop l n = if n ≤ l.length then some (l.drop n) else none := by
  induction l with
  | nil => intro n; cases n <;> rfl
  | cons a l ih =>
    intro n
    cases n with
    | zero => simp; rfl
    | succ n =>
      have : ldrop (a :: l) (n + 1) = ldrop l n := rfl
      rw [this, ih n]
      by_cases h : n ≤ l.length <;> simp [h]

theorem ltake_eq : ∀ (n : Nat) (l : List AV), ltake n l = if n ≤ l.length then some (l.take n) else none := by
  intro n
  induction n with
  | zero => intro l; simp; rfl
  | succ n ih =>
    intro l
    cases l with
    | nil => rfl
    | cons a l =>
      have : ltake (n + 1) (a :: l) = Option.rec (motive := fun _ => Option (List AV)) none (fun r => some (a :: r)) (ltake n l) := rfl
      rw [this, ih l]
      by_cases h : n ≤ l.length
      · simp [h]
      · simp [h]

theorem lcut_eq (l : List AV) (off n : Nat) : lcut l off n = if off + n ≤ l.length then some ((l.drop off).take n) else none := by
  have : lcut l off n = Option.rec (motive := fun _ => Option (List AV)) none (ltake n) (ldrop l off) := rfl
  rw [this, ldrop_eq]
  by_cases h : off ≤ l.length
  · simp only [h, if_true]
    rw [ltake_eq]
    simp only [List.length_drop]
    by_cases h2 : off + n ≤ l.length
    · rw [if_pos (by omega), if_pos h2]
    · rw [if_neg (by omega), if_neg h2]
  · simp only [h, if_false]
    rw [if_neg (by omega)]

theorem lcut_some {l : List AV} {off n : Nat} {r : List AV} (h : lcut l off n = some r) : off + n ≤ l.length ∧ r = (l.drop off).take n ∧ r.length = n := by
  rw [lcut_eq] at h
  split at h
  · rename_i hle
    injection h with h
    subst h
    refine ⟨hle, rfl, ?_⟩
    simp
    omega
  · cases h

theorem lover_eq (vs : List AV) : ∀ l, lover vs l = if vs.length ≤ l.length then some (vs ++ l.drop vs.length) else none := by
  induction vs with
  | nil => intro l; simp; rfl
  | cons v vs ih =>
    intro l
    cases l with
    | nil => rfl
    | cons a l =>
      have : lover (v :: vs) (a :: l) = Option.rec (motive := fun _ => Option (List AV)) none (fun r => some (v :: r)) (lover vs l) := rfl
      rw [this, ih l]
      by_cases h : vs.length ≤ l.length <;> simp [h]

theorem lput_eq (vs : List AV) (l : List AV) : ∀ off, lput l vs off = if off + vs.length ≤ l.length then some (l.take off ++ vs ++ l.drop (off + vs.length)) else none := by
  induction l with
  | nil =>
    intro off
    cases off with
    | zero =>
      have : lput [] vs 0 = lover vs [] := rfl
      rw [this, lover_eq]
      simp
    | succ n => 
      have : lput [] vs (n + 1) = none := rfl
      rw [this, if_neg (by simp)]
  | cons a l ih =>
    intro off
    cases off with
    | zero =>
      have : lput (a :: l) vs 0 = lover vs (a :: l) := rfl
      rw [this, lover_eq]
      simp
    | succ n =>
      have : lput (a :: l) vs (n + 1) = Option.rec (motive := fun _ => Option (List AV)) none (fun r => some (a :: r)) (lput l vs n) := rfl
      rw [this, ih n]
      by_cases h : n + vs.length ≤ l.length
      · have h' : n + 1 + vs.length ≤ (a :: l).length := by simp; omega
        rw [if_pos h, if_pos h']
        have e : n + 1 + vs.length = (n + vs.length) + 1 := by omega
        simp [e]
      · have h' : ¬ n + 1 + vs.length ≤ (a :: l).length := by simp; omega
        rw [if_neg h, if_neg h']

theorem lput_some {l vs : List AV} {off : Nat} {r : List AV} (h : lput l vs off = some r) :
    off + vs.length ≤ l.length ∧ r = l.take off ++ vs ++ l.drop (off + vs.length) := by
  rw [lput_eq] at h
  split at h
  · rename_i hle; injection h with h; exact ⟨hle, h.symm⟩
  · cases h

theorem lput_length {l vs : List AV} {off : Nat} {r : List AV} (h : lput l vs off = some r) : r.length = l.length := by
  obtain ⟨h1, rfl⟩ := lput_some h
  simp
  omega

theorem lput_get {l vs : List AV} {off : Nat} {r : List AV} (h : lput l vs off = some r) (i : Nat) :
    r[i]? = if off ≤ i ∧ i < off + vs.length then vs[i - off]? else l[i]? := by
  obtain ⟨h1, rfl⟩ := lput_some h
  by_cases h2 : i < off
  · rw [if_neg (by omega), List.append_assoc, List.getElem?_append_left (by simp; omega), List.getElem?_take_of_lt h2]
  · by_cases h3 : i < off + vs.length
    · rw [if_pos (by omega), List.append_assoc, List.getElem?_append_right (by simp; omega), List.getElem?_append_left (by simp; omega)]
      congr 1
      simp
      omega
    · rw [if_neg (by omega), List.getElem?_append_right (by simp; omega)]
      simp only [List.length_append, List.length_take, List.getElem?_drop]
      congr 1
      omega

theorem lapp_eq (x y : List AV) : lapp x y = x ++ y := by
  induction x with
  | nil => rfl
  | cons a x ih => show a :: lapp x y = _; rw [ih]; rfl

theorem llen_eq (x : List AV) : llen x = x.length := by
  induction x with
  | nil => rfl
  | cons a x ih => show Nat.succ (llen x) = _; rw [ih]; rfl

theorem lallOne_spec (x : List AV) : lallOne x = true ↔ ∀ a ∈ x, oneB a = true := by
  induction x with
  | nil => simp; rfl
  | cons a x ih =>
    have : lallOne (a :: x) = Bool.rec (motive := fun _ => Bool) false (lallOne x) (oneB a) := rfl
    rw [this]
    cases h : oneB a
    · simp [h]
    · simp only [List.forall_mem_cons, h, true_and]; exact ih

theorem sapp_eq (x y : List Nat) : sapp x y = x ++ y := by
  induction x with
  | nil => rfl
  | cons a x ih => show a :: sapp x y = _; rw [ih]; rfl
theorem napp_eq (x y : List Nat) : napp x y = x ++ y := by
  induction x with
  | nil => rfl
  | cons a x ih => show a :: napp x y = _; rw [ih]; rfl
theorem slen_eq (x : List Nat) : slen x = x.length := by
  induction x with
  | nil => rfl
  | cons a x ih => show Nat.succ (slen x) = _; rw [ih]; rfl
theorem sget_eq (l : List Nat) : ∀ n, sget l n = l[n]? := by
  induction l with
  | nil => intro n; rfl
  | cons a l ih =>
    intro n
    cases n with
    | zero => rfl
    | succ n => rw [List.getElem?_cons_succ, ← ih n]; rfl
theorem sdrop_eq (l : List Nat) : ∀ n, sdrop l n = l.drop n := by
  induction l with
  | nil => intro n; simp; rfl
  | cons a l ih =>
    intro n
    cases n with
    | zero => rfl
    | succ n => rw [List.drop_succ_cons, ← ih n]; rfl
theorem stake_eq : ∀ (n : Nat) (l : List Nat), stake n l = l.take n := by
  intro n
  induction n with
  | zero => intro l; simp; rfl
  | succ n ih =>
    intro l
    cases l with
    | nil => rfl
    | cons a l => rw [List.take_succ_cons, ← ih l]; rfl

theorem ieq_eq (a b : Int) : ieq a b = (a == b) := by
  cases a <;> cases b
  · rename_i m n
    show Nat.beq m n = _
    rw [Bool.eq_iff_iff]
    simp [Nat.beq_eq]
    omega
  · rename_i m n; show false = _; symm; rw [beq_eq_false_iff_ne]; intro h; cases h
  · rename_i m n; show false = _; symm; rw [beq_eq_false_iff_ne]; intro h; cases h
  · rename_i m n
    show Nat.beq m n = _
    rw [Bool.eq_iff_iff]
    simp [Nat.beq_eq]
theorem ilt_eq (a b : Int) : ilt a b = decide (a < b) := by
  cases a <;> cases b
  · rename_i m n
    show Nat.blt m n = _
    rw [Bool.eq_iff_iff]
    simp [Nat.blt_eq]
  · rename_i m n; show false = _; symm; rw [decide_eq_false_iff_not]; simp only [Int.ofNat_eq_natCast]; omega
  · rename_i m n; show true = _; symm; rw [decide_eq_true_iff]; simp only [Int.ofNat_eq_natCast]; omega
  · rename_i m n
    show Nat.blt n m = _
    rw [Bool.eq_iff_iff]
    simp [Nat.blt_eq]
    omega
theorem bnot_eq (b : Bool) : bnot b = !b := by cases b <;> rfl
theorem beqB_eq (a b : Bool) : beqB a b = (a == b) := by cases a <;> cases b <;> rfl
theorem kEq_eq (a b : IntKind) : kEq a b = true ↔ a = b := by
  constructor
  · intro h; cases a <;> cases b <;> first | rfl | (exact absurd h (by decide +kernel))
  · rintro rfl; cases a <;> rfl
theorem strEq_eq (a : List Nat) : ∀ b, strEq a b = (a == b) := by
  induction a with
  | nil => intro b; cases b <;> rfl
  | cons x a ih =>
    intro b
    cases b with
    | nil => rfl
    | cons y b =>
      have : strEq (x :: a) (y :: b) = Bool.rec (motive := fun _ => Bool) false (strEq a b) (Nat.beq x y) := rfl
      rw [this, ih b]
      show _ = ((x == y) && (a == b))
      have e : Nat.beq x y = (x == y) := by rw [Bool.eq_iff_iff]; simp [Nat.beq_eq]
      rw [e]
      cases (x == y) <;> rfl
theorem fits_spec {k : IntKind} {n : Int} (h : fits k n = true) : k.min ≤ n ∧ n ≤ k.max := by
  unfold fits at h
  rw [ilt_eq, ilt_eq] at h
  by_cases h1 : n < k.min
  · rw [decide_eq_true h1] at h; cases h
  · rw [decide_eq_false h1] at h
    by_cases h2 : k.max < n
    · rw [decide_eq_true h2] at h; cases h
    · omega
theorem wrap_in (k : IntKind) (n : Int) (h : k.min ≤ n ∧ n ≤ k.max) : k.wrap n = n := by
  cases k <;> simp [IntKind.wrap, IntKind.min, IntKind.max, IntKind.bits, IntKind.signed] at * <;> omega
theorem wrapF_eq (k : IntKind) (n : Int) : wrapF k n = k.wrap n := by
  unfold wrapF
  cases h : fits k n
  · rfl
  · exact (wrap_in k n (fits_spec h)).symm

theorem dig16_inj : ∀ n m : Fin 16, dig16 n.1 = dig16 m.1 → n = m := by decide +kernel
theorem dig_inj : ∀ n m : Fin 8, dig n.1 = dig m.1 → n = m := by decide +kernel
theorem dig16_ne {n m : Nat} (hn : n < 16) (hm : m < 16) (h : n ≠ m) : dig16 n ≠ dig16 m :=
  fun e => h (congrArg Fin.val (dig16_inj ⟨n, hn⟩ ⟨m, hm⟩ e))
theorem dig_ne {n m : Nat} (hn : n < 8) (hm : m < 8) (h : n ≠ m) : dig n ≠ dig m :=
  fun e => h (congrArg Fin.val (dig_inj ⟨n, hn⟩ ⟨m, hm⟩ e))

theorem L2.get_set (t u : Nat) (v : AV) (f : L2) (ht : t < 256) (hu : u < 256) : (f.set t v).get u = if u = t then v else f.get u := by
  have e1 : ∀ n, Nat.div n 16 = n / 16 := fun _ => rfl
  have e2 : ∀ n, Nat.mod n 16 = n % 16 := fun _ => rfl
  unfold L2.set L2.get
  rw [L2.sel_upd]
  simp only [e1, e2]
  by_cases h : u / 16 = t / 16
  · rw [if_pos (by rw [h]), L1.sel_upd]
    by_cases h2 : u % 16 = t % 16
    · rw [if_pos (by rw [h2]), if_pos (by omega)]
    · rw [if_neg (dig16_ne (by omega) (by omega) h2), if_neg (by omega), h]
  · rw [if_neg (dig16_ne (by omega) (by omega) h), if_neg (by omega)]

theorem L2.get_new (t : Nat) : L2.new.get t = .tup [] := by
  unfold L2.get L2.new
  rw [L2.sel_all, L1.sel_all]

def lim : Nat := 262144
theorem K6.get_set (m : K6) (i j : Nat) (v : AO) (hi : i < lim) (hj : j < lim) : (m.set i v).get j = if j = i then v else m.get j := by
  unfold lim at hi hj
  have e1 : ∀ n d, Nat.div n d = n / d := fun _ _ => rfl
  have e2 : ∀ n d, Nat.mod n d = n % d := fun _ _ => rfl
  unfold K6.set K6.get
  simp only [e1, e2]
  rw [K6.sel_upd]
  by_cases h6 : j / 32768 = i / 32768
  · rw [if_pos (by rw [h6]), K5.sel_upd]
    by_cases h5 : j / 4096 % 8 = i / 4096 % 8
    · rw [if_pos (by rw [h5]), K4.sel_upd]
      by_cases h4 : j / 512 % 8 = i / 512 % 8
      · rw [if_pos (by rw [h4]), K3.sel_upd]
        by_cases h3 : j / 64 % 8 = i / 64 % 8
        · rw [if_pos (by rw [h3]), K2.sel_upd]
          by_cases h2 : j / 8 % 8 = i / 8 % 8
          · rw [if_pos (by rw [h2]), K1.sel_upd]
            by_cases h1 : j % 8 = i % 8
            · rw [if_pos (by rw [h1]), if_pos (by omega)]
            · rw [if_neg (dig_ne (by omega) (by omega) h1), if_neg (by omega), h2, h3, h4, h5, h6]
          · rw [if_neg (dig_ne (by omega) (by omega) h2), if_neg (by omega), h3, h4, h5, h6]
        · rw [if_neg (dig_ne (by omega) (by omega) h3), if_neg (by omega), h4, h5, h6]
      · rw [if_neg (dig_ne (by omega) (by omega) h4), if_neg (by omega), h5, h6]
    · rw [if_neg (dig_ne (by omega) (by omega) h5), if_neg (by omega), h6]
  · rw [if_neg (dig_ne (by omega) (by omega) h6), if_neg (by omega)]
theorem K6.get_new (i : Nat) : K6.new.get i = .none := by
  unfold K6.get K6.new
  rw [K6.sel_all, K5.sel_all, K4.sel_all, K3.sel_all, K2.sel_all, K1.sel_all]
theorem avEq_eq {x y : AV} (h : avEq x y = true) : x = y ∧ flatV x = true := by
  unfold avEq at h
  split at h
  · rw [beqB_eq] at h; exact ⟨by rw [show _ = _ from beq_iff_eq.1 h], rfl⟩
  · rename_i k a k' b
    cases hk : kEq k k' with
    | false => rw [hk] at h; cases h
    | true =>
      rw [hk] at h
      have h' : ieq a b = true := h
      rw [ieq_eq] at h'
      have := (kEq_eq k k').1 hk
      subst this
      exact ⟨by rw [show a = b from by simpa using h'], rfl⟩
  · rw [strEq_eq] at h; exact ⟨by rw [show _ = _ from beq_iff_eq.1 h], rfl⟩
  · cases h
theorem avsEq_eq : ∀ {l m : List AV}, avsEq l m = true → l = m ∧ l.all flatV = true := by
  intro l
  induction l with
  | nil => intro m h; cases m with | nil => exact ⟨rfl, rfl⟩ | cons y m => cases h
  | cons x l ih =>
    intro m h
    cases m with
    | nil => cases h
    | cons y m =>
      have h0 : (Bool.rec (motive := fun _ => Bool) false (avsEq l m) (avEq x y) : Bool) = true := h
      cases h1 : avEq x y with
      | false => rw [h1] at h0; cases h0
      | true =>
      rw [h1] at h0
      have h2 : avsEq l m = true := h0
      obtain ⟨rfl, h3⟩ := avEq_eq h1
      obtain ⟨rfl, h4⟩ := ih h2
      exact ⟨rfl, by simp [h3, h4]⟩
end Go.Ev
