/- A region's order: every operation once, behind all that it must wait for. -/
import Derived.Test.YtnefaadihgbobaaGreatDoorEvOp9
set_option linter.unusedSimpArgs false
set_option linter.unusedVariables false
namespace Go.Ev

inductive Sched (ops : Array Oper) : (Nat → Bool) → List Nat → Prop where
  | nil (D : Nat → Bool) (h : ∀ i, i < ops.size → D i = true) : Sched ops D []
  | cons (D : Nat → Bool) (i : Nat) (o : Oper) (rest : List Nat) (ho : ops[i]? = some o) (hd : D i = false) (he : ∀ e ∈ o.after.toList, Region.binds .any e = true → D e.on = true)
      (hr : Sched ops (fun j => if j = i then true else D j) rest) : Sched ops D (i :: rest)
def backward (ops : Array Oper) : Prop := ∀ (i : Nat) (o : Oper), ops[i]? = some o → ∀ e ∈ o.after.toList, Region.binds .any e = true → e.on < i
def openCount (n : Nat) (D : Nat → Bool) : Nat := ((List.range n).filter fun i => !D i).length
theorem openCount_succ (n : Nat) (D : Nat → Bool) : openCount (n + 1) D = openCount n D + (if D n = true then 0 else 1) := by
  unfold openCount
  rw [List.range_succ, List.filter_append, List.length_append]
  cases hd : D n <;> simp [hd]
theorem openCount_pos {i n : Nat} {D : Nat → Bool} (hd : D i = false) (hi : i < n) : 0 < openCount n D := by
  unfold openCount
  exact List.length_pos_of_mem (List.mem_filter.2 ⟨List.mem_range.2 hi, by simp [hd]⟩)
theorem openCount_set (i : Nat) (D : Nat → Bool) (hd : D i = false) (n : Nat) : (i < n → openCount n (fun j => if j = i then true else D j) + 1 = openCount n D) ∧ (n ≤ i → openCount n (fun j => if j = i then true else D j) = openCount n D) := by
  induction n with
  | zero => exact ⟨fun hh => absurd hh (by omega), fun _ => rfl⟩
  | succ n ih =>
    rw [openCount_succ, openCount_succ]
    by_cases h1 : n = i
    · subst h1
      have := ih.2 (Nat.le_refl _)
      refine ⟨fun _ => ?_, fun hh => absurd hh (by omega)⟩
      rw [this, hd, if_pos (if_pos rfl), if_neg (by simp)]
    · rw [if_neg h1]
      refine ⟨fun h2 => ?_, fun h2 => ?_⟩
      · have := ih.1 (by omega); omega
      · have := ih.2 (by omega); omega
theorem openCount_zero {n : Nat} {D : Nat → Bool} (h : openCount n D = 0) : ∀ i, i < n → D i = true := by
  intro i hi
  cases hd : D i with
  | true => rfl
  | false =>
    have : 0 < openCount n D := by
      unfold openCount
      exact List.length_pos_of_mem (List.mem_filter.2 ⟨List.mem_range.2 hi, by simp [hd]⟩)
    omega
/-- the least that is open -/
theorem least_open {n : Nat} {D : Nat → Bool} (h : openCount n D ≠ 0) : ∃ i, i < n ∧ D i = false ∧ ∀ j, j < i → D j = true := by
  induction n with
  | zero => exact absurd rfl h
  | succ n ih =>
    by_cases h0 : openCount n D = 0
    · rw [openCount_succ, h0] at h
      cases hd : D n with
      | true => rw [hd] at h; simp at h
      | false => exact ⟨n, by omega, hd, openCount_zero h0⟩
    · obtain ⟨i, h1, h2, h3⟩ := ih h0
      exact ⟨i, by omega, h2, h3⟩
theorem sched_go {ops : Array Oper} (hb : backward ops) : ∀ (fuel t : Nat) (listed : Array Bool) (acc : List Nat), listed.size = ops.size → openCount ops.size (fun i => listed.getD i true) = fuel →
    ∃ l, Region.linearise.go .any ops fuel t listed acc = acc.reverse ++ l ∧ Sched ops (fun i => listed.getD i true) l := by
  intro fuel
  induction fuel with
  | zero =>
    intro t listed acc hs hc
    exact ⟨[], by simp [Region.linearise.go], .nil _ (openCount_zero hc)⟩
  | succ fuel ih =>
    intro t listed acc hs hc
    obtain ⟨m, m1, m2, m3⟩ := least_open (n := ops.size) (D := fun i => listed.getD i true) (by rw [hc]; simp)
    have hmo : ops[m]? = some ops[m] := Array.getElem?_eq_getElem m1
    have hread : ∀ (j : Nat), j < ops.size → listed.getD j true = listed.getD j false := by
      intro j hj
      have : j < listed.size := by omega
      simp [Array.getD, this]
    simp only [Region.linearise.go]
    generalize hrs : ((List.range ops.size).filter fun i => !listed.getD i true && ((ops[i]?).map (·.after.all fun e => !Region.binds .any e || listed.getD e.on false)).getD false) = rs
    have hin : ∀ i ∈ rs, ∃ o, ops[i]? = some o ∧ listed.getD i true = false ∧ ∀ e ∈ o.after.toList, Region.binds .any e = true → listed.getD e.on true = true := by
      intro i hi
      rw [← hrs, List.mem_filter, List.mem_range] at hi
      obtain ⟨h1, h2⟩ := hi
      rw [Bool.and_eq_true] at h2
      have ho : ops[i]? = some ops[i] := Array.getElem?_eq_getElem h1
      rw [ho] at h2
      refine ⟨_, ho, by simpa using h2.1, fun e he hbe => ?_⟩
      have h3 := h2.2
      simp only [Option.map_some, Option.getD_some] at h3
      have h4 := (Array.all_eq_true'.1 h3) e (by simpa using he)
      rw [hbe] at h4
      have hlt := hb i _ ho e he hbe
      rw [hread _ (by omega)]
      simpa using h4
    have hne : m ∈ rs := by
      rw [← hrs, List.mem_filter, List.mem_range]
      refine ⟨m1, ?_⟩
      rw [Bool.and_eq_true]
      refine ⟨by simpa using m2, ?_⟩
      rw [hmo]
      simp only [Option.map_some, Option.getD_some]
      refine Array.all_eq_true'.2 fun e he => ?_
      cases hbe : Region.binds .any e with
      | false => rfl
      | true =>
        have hlt := hb m _ hmo e (by simpa using he) hbe
        have := m3 e.on hlt
        rw [hread _ (by omega)] at this
        simpa using this
    have hpos : 0 < rs.length := List.length_pos_of_mem hne
    have hget : rs[t % rs.length]? = some (rs[t % rs.length]'(Nat.mod_lt _ hpos)) := List.getElem?_eq_getElem _
    rw [hget]
    generalize hi : rs[t % rs.length]'(Nat.mod_lt _ hpos) = i
    have him : i ∈ rs := by rw [← hi]; exact List.getElem_mem _
    obtain ⟨o, ho, hd, hed⟩ := hin i him
    have hil : i < ops.size := (Array.getElem?_eq_some_iff.1 ho).1
    have hfun : (fun j => (listed.setIfInBounds i true).getD j true) = fun j => if j = i then true else listed.getD j true := by
      funext j
      by_cases hj : j = i
      · subst hj
        have : j < listed.size := by omega
        simp [Array.getD, this]
      · simp only [Array.getD_eq_getD_getElem?, if_neg hj]
        rw [Array.getElem?_setIfInBounds_ne (Ne.symm hj)]
    dsimp only
    have hcount : openCount ops.size (fun j => (listed.setIfInBounds i true).getD j true) = fuel := by
      rw [hfun]
      have := (openCount_set i (fun j => listed.getD j true) hd ops.size).1 hil
      rw [hc] at this
      omega
    obtain ⟨l, q1, q2⟩ := ih (t / rs.length) (listed.setIfInBounds i true) (i :: acc) (by simp [hs]) hcount
    refine ⟨i :: l, by rw [q1]; simp, .cons _ i o l ho hd hed ?_⟩
    rw [hfun] at q2
    exact q2
theorem sched_all {ops : Array Oper} (hb : backward ops) (t : Nat) : Sched ops (fun i => (Array.replicate ops.size false).getD i true) (Region.schedule true ops t) := by
  have hc : openCount ops.size (fun i => (Array.replicate ops.size false).getD i true) = ops.size := by
    unfold openCount
    rw [List.filter_eq_self.2]
    · simp
    · intro i hi
      rw [List.mem_range] at hi
      simp [Array.getD, hi]
  obtain ⟨l, q1, q2⟩ := sched_go hb ops.size t (Array.replicate ops.size false) [] (by simp) hc
  have : Region.schedule true ops t = l := by
    simp only [Region.schedule, Bool.true_or, if_true, Region.linearise, q1]
    simp
  rw [this]
  exact q2
end Go.Ev
