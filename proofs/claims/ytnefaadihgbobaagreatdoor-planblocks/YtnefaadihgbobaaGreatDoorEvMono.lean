/- A region's order: every operation once, behind all that it must wait for. -/
import Derived.Test.YtnefaadihgbobaaGreatDoorEvOp5
set_option linter.unusedSimpArgs false
set_option linter.unusedVariables false
namespace Go.Ev

inductive Sched (ops : Array Oper) : (Nat → Bool) → List Nat → Prop where
  | nil (D : Nat → Bool) (h : ∀ i, i < ops.size → D i = true) : Sched ops D []
  | cons (D : Nat → Bool) (i : Nat) (o : Oper) (rest : List Nat) (ho : ops[i]? = some o) (hd : D i = false) (he : ∀ e ∈ o.after.toList, Region.binds .any e = true → D e.on = true)
      (hr : Sched ops (fun j => if j = i then true else D j) rest) : Sched ops D (i :: rest)
def backward (ops : Array Oper) : Prop := ∀ (i : Nat) (o : Oper), ops[i]? = some o → ∀ e ∈ o.after.toList, Region.binds .any e = true → e.on < i
def openCount (n : Nat) (D : Nat → Bool) : Nat := ((List.range n).filter fun i => !D i).length
theorem openCount_succ (n : Nat) (D : Nat → Bool) : openCount (n + 1) D = openCount n D + (if D n = true then 0 else 1) := by
  unfold openCount
  rw [List.range_succ, List.filter_append, List.length_append]
  cases hd : D n <;> simp [hd]
theorem openCount_pos {i n : Nat} {D : Nat → Bool} (hd : D i = false) (hi : i < n) : 0 < openCount n D := by
  unfold openCount
  exact List.length_pos_of_mem (List.mem_filter.2 ⟨List.mem_range.2 hi, by simp [hd]⟩)
theorem openCount_set (i : Nat) (D : Nat → Bool) (hd : D i = false) (n : Nat) : (i < n → openCount n (fun j => if j = i then true else D j) + 1 = openCount n D) ∧ (n ≤ i → openCount n (fun j => if j = i then true else D j) = openCount n D) := by
  induction n with
  | zero => exact ⟨fun hh => absurd hh (by omega), fun _ => rfl⟩
  | succ n ih =>
    rw [openCount_succ, openCount_succ]
    by_cases h1 : n = i
    · subst h1
      have := ih.2 (Nat.le_refl _)
      refine ⟨fun _ => ?_, fun hh => absurd hh (by omega)⟩
      rw [this, hd, if_pos (if_pos rfl), if_neg (by simp)]
    · rw [if_neg h1]
      refine ⟨fun h2 => ?_, fun h2 => ?_⟩
      · have := ih.1 (by omega); omega
      · have := ih.2 (by omega); omega
theorem openCount_zero {n : Nat} {D : Nat → Bool} (h : openCount n D = 0) : ∀ i, i < n → D i = true := by
  intro i hi
  cases hd : D i with
  | true => rfl
  | false =>
    have : 0 < openCount n D := by
      unfold openCount
      exact List.length_pos_of_mem (List.mem_filter.2 ⟨List.mem_range.2 hi, by simp [hd]⟩)
    omega
/-- the least that is open -/
theorem least_open {n : Nat} {D : Nat → Bool} (h : openCount n D ≠ 0) : ∃ i, i < n ∧ D i = false ∧ ∀ j, j < i → D j = true := by
  induction n with
  | zero => exact absurd rfl h
  | succ n ih =>
    by_cases h0 : openCount n D = 0
    · rw [openCount_succ, h0] at h
      cases hd : D n with
      | true => rw [hd] at h; simp at h
      | false => exact ⟨n, by omega, hd, openCount_zero h0⟩
    · obtain ⟨i, h1, h2, h3⟩ := ih h0
      exact ⟨i, by omega, h2, h3⟩
theorem sched_go {ops : Array Oper} (hb : backward ops) : ∀ (fuel t : Nat) (listed : Array Bool) (acc : List Nat), listed.size = ops.size → openCount ops.size (fun i => listed.getD i true) = fuel →
    ∃ l, Region.linearise.go .any ops fuel t listed acc = acc.reverse ++ l ∧ Sched ops (fun i => listed.getD i true) l := by
  intro fuel
  induction fuel with
  | zero =>
    intro t listed acc hs hc
    exact ⟨[], by simp [Region.linearise.go], .nil _ (openCount_zero hc)⟩
  | succ fuel ih =>
    intro t listed acc hs hc
    obtain ⟨m, m1, m2, m3⟩ := least_open (n := ops.size) (D := fun i => listed.getD i true) (by rw [hc]; simp)
    have hmo : ops[m]? = some ops[m] := Array.getElem?_eq_getElem m1
    have hread : ∀ (j : Nat), j < ops.size → listed.getD j true = listed.getD j false := by
      intro j hj
      have : j < listed.size := by omega
      simp [Array.getD, this]
    simp only [Region.linearise.go]
    generalize hrs : ((List.range ops.size).filter fun i => !listed.getD i true && ((ops[i]?).map (·.after.all fun e => !Region.binds .any e || listed.getD e.on false)).getD false) = rs
    have hin : ∀ i ∈ rs, ∃ o, ops[i]? = some o ∧ listed.getD i true = false ∧ ∀ e ∈ o.after.toList, Region.binds .any e = true → listed.getD e.on true = true := by
      intro i hi
      rw [← hrs, List.mem_filter, List.mem_range] at hi
      obtain ⟨h1, h2⟩ := hi
      rw [Bool.and_eq_true] at h2
      have ho : ops[i]? = some ops[i] := Array.getElem?_eq_getElem h1
      rw [ho] at h2
      refine ⟨_, ho, by simpa using h2.1, fun e he hbe => ?_⟩
      have h3 := h2.2
      simp only [Option.map_some, Option.getD_some] at h3
      have h4 := (Array.all_eq_true'.1 h3) e (by simpa using he)
      rw [hbe] at h4
      have hlt := hb i _ ho e he hbe
      rw [hread _ (by omega)]
      simpa using h4
    have hne : m ∈ rs := by
      rw [← hrs, List.mem_filter, List.mem_range]
      refine ⟨m1, ?_⟩
      rw [Bool.and_eq_true]
      refine ⟨by simpa using m2, ?_⟩
      rw [hmo]
      simp only [Option.map_some, Option.getD_some]
      refine Array.all_eq_true'.2 fun e he => ?_
      cases hbe : Region.binds .any e with
      | false => rfl
      | true =>
        have hlt := hb m _ hmo e (by simpa using he) hbe
        have := m3 e.on hlt
        rw [hread _ (by omega)] at this
        simpa using this
    have hpos : 0 < rs.length := List.length_pos_of_mem hne
    have hget : rs[t % rs.length]? = some (rs[t % rs.length]'(Nat.mod_lt _ hpos)) := List.getElem?_eq_getElem _
    rw [hget]
    generalize hi : rs[t % rs.length]'(Nat.mod_lt _ hpos) = i
    have him : i ∈ rs := by rw [← hi]; exact List.getElem_mem _
    obtain ⟨o, ho, hd, hed⟩ := hin i him
    have hil : i < ops.size := (Array.getElem?_eq_some_iff.1 ho).1
    have hfun : (fun j => (listed.setIfInBounds i true).getD j true) = fun j => if j = i then true else listed.getD j true := by
      funext j
      by_cases hj : j = i
      · subst hj
        have : j < listed.size := by omega
        simp [Array.getD, this]
      · simp only [Array.getD_eq_getD_getElem?, if_neg hj]
        rw [Array.getElem?_setIfInBounds_ne (Ne.symm hj)]
    dsimp only
    have hcount : openCount ops.size (fun j => (listed.setIfInBounds i true).getD j true) = fuel := by
      rw [hfun]
      have := (openCount_set i (fun j => listed.getD j true) hd ops.size).1 hil
      rw [hc] at this
      omega
    obtain ⟨l, q1, q2⟩ := ih (t / rs.length) (listed.setIfInBounds i true) (i :: acc) (by simp [hs]) hcount
    refine ⟨i :: l, by rw [q1]; simp, .cons _ i o l ho hd hed ?_⟩
    rw [hfun] at q2
    exact q2
theorem sched_all {ops : Array Oper} (hb : backward ops) (t : Nat) : Sched ops (fun i => (Array.replicate ops.size false).getD i true) (Region.schedule true ops t) := by
  have hc : openCount ops.size (fun i => (Array.replicate ops.size false).getD i true) = ops.size := by
    unfold openCount
    rw [List.filter_eq_self.2]
    · simp
    · intro i hi
      rw [List.mem_range] at hi
      simp [Array.getD, hi]
  obtain ⟨l, q1, q2⟩ := sched_go hb ops.size t (Array.replicate ops.size false) [] (by simp) hc
  have : Region.schedule true ops t = l := by
    simp only [Region.schedule, Bool.true_or, if_true, Region.linearise, q1]
    simp
  rw [this]
  exact q2
end Go.Ev

/- The heap's next number only grows. -/
set_option linter.unusedSimpArgs false
set_option linter.unusedVariables false
namespace Go.Ev
variable {P : Program} {h h' : H} {v : AV} {f : L2} {ctx : CallT}

def Mono (h : H) (r : OR) : Prop := ∀ v h', r = .ok v h' → h.nx ≤ h'.nx
theorem Mono.bad (n : Nat) : Mono h (.bad n) := fun v h' he => by cases he
theorem Mono.same (v : AV) : Mono h (.ok v h) := fun v h' he => by cases he; exact Nat.le_refl _
theorem Mono.put (v : AV) (b : Nat) (o : AO) : Mono h (.ok v (h.put b o)) := fun v h' he => by cases he; exact Nat.le_refl _
theorem Mono.put2 (v : AV) (b c : Nat) (o p : AO) : Mono h (.ok v ((h.put b o).put c p)) := fun v h' he => by cases he; exact Nat.le_refl _
theorem Mono.new (v : AV) (o : AO) : Mono h (.ok v (h.new o)) := fun v h' he => by cases he; exact Nat.le_succ _
theorem Mono.mk (o : AO) (v : AV) : Mono h (mk h o v) := Mono.new v o
theorem Mono.new2 (v : AV) (o p : AO) : Mono h (.ok v ((h.new o).new p)) := fun v h' he => by cases he; show h.nx ≤ h.nx + 1 + 1; omega
theorem Mono.ver (v : AV) (b c : Nat) (o p q : AO) : Mono h (.ok v (((h.put b o).put c p).new q)) := fun v h' he => by cases he; exact Nat.le_succ _
theorem Mono.ite {c : Bool} {x y : OR} (hx : Mono h x) (hy : Mono h y) : Mono h (Bool.rec (motive := fun _ => OR) y x c) := by cases c <;> assumption
theorem Mono.res1 (x : Option AV) : Mono h (res1 x h) := by cases x; exact .bad _; exact .same _
theorem Mono.resAgg (x : Option (List AV)) : Mono h (resAgg x h) := by cases x; exact .bad _; exact .same _
theorem Mono.resByte (x : Option Nat) : Mono h (resByte x h) := by cases x; exact .bad _; exact .same _
theorem Mono.newC (x : Option (List AV)) (e : TypeId) : Mono h (newC x e h) := by cases x; exact .bad _; exact .new _ _
theorem wr_nx {b off : Nat} {vs : List AV} (hw : h.wr b off vs = .ok h') : h'.nx = h.nx := by
  rcases wr_cases hw with ⟨c, t, c', _, _, rfl⟩ | ⟨c, t, k, n, c', _, _, _, rfl⟩ <;> rfl
theorem Mono.wr (b off : Nat) (vs : List AV) (g : H → AV) : Mono h (RH.rec (motive := fun _ => OR) OR.bad (fun h' => .ok (g h') h') (h.wr b off vs)) := by
  cases hw : h.wr b off vs with
  | bad n => exact .bad n
  | ok h2 => exact fun v h' he => by cases he; rw [wr_nx hw]; exact Nat.le_refl _
structure CtxMono (ctx : CallT) : Prop where
  call : ∀ g as h, Mono h (ctx.call g as h)
  round : ∀ l as h, Mono h (ctx.round l as h)
theorem mono_iTab (op : BinOp) (k : IntKind) (a : Int) (k' : IntKind) (b : Int) : Mono h (iTab op k a k' b h) := by
  cases op
  all_goals first
    | exact Mono.bad _
    | exact Mono.ite (.same _) (.bad _)
    | exact Mono.ite (.ite (.bad _) (.same _)) (.bad _)
    | skip
  all_goals (show Mono h _; dsimp only [iTab, iBit, iShl, iShr]; split)
  all_goals first
    | exact Mono.bad _
    | exact Mono.same _
    | exact Mono.ite (.ite (.ite (.same _) (.bad _)) (.bad _)) (.bad _)
theorem mono_sTab (op : BinOp) (a b : List Nat) : Mono h (sTab op a b h) := by
  cases op <;> first | exact Mono.bad _ | exact Mono.same _ | exact Mono.ite (.same _) (.bad _)
theorem mono_binGen (x y : AV) (op : BinOp) (t : TypeId) (c : Bool) : Mono h (binGen x y op t c P h) := by
  unfold binGen
  split
  · refine Mono.ite ?_ (.bad _); split; exact .same _; exact .bad _
  · refine Mono.ite ?_ (.bad _); split; exact .same _; exact .bad _
  · exact .bad _
theorem mono_binD (x y : AV) (op : BinOp) (t : TypeId) (c : Bool) : Mono h (binD x x y op t c P h) := by
  cases x
  case int k n => cases y <;> first | exact Mono.bad _ | exact mono_iTab _ _ _ _ _
  case str s => cases y <;> first | exact Mono.bad _ | exact mono_sTab _ _ _
  case top => exact .bad _
  all_goals exact mono_binGen _ _ _ _ _
theorem mono_load (x : AV) (i : Option (Option Nat)) : Mono h (ldV x i h) := by
  cases x
  case ptr b o =>
    show Mono h (ldC (h.rd b) i o h)
    cases h.rd b with
    | none => exact .bad _
    | some c =>
      cases i with
      | none => exact .bad _
      | some j => cases j; exact .res1 _; exact .resAgg _
  all_goals exact .bad _
theorem mono_store (x : AV) (cs : Option (List AV)) (n : Option Nat) : Mono h (stV x cs n h) := by
  cases x
  case ptr b o =>
    show Mono h (stC cs n b o h)
    unfold stC
    split
    · exact .ite (.ite (.wr _ _ _ (fun _ => .tup [])) (.bad _)) (.bad _)
    · exact .bad _
  all_goals exact .bad _
theorem mono_map (t : TypeId) (m k x : Operand) (ty : TypeId) : Mono h (oMapUpdate t m k x ty P ctx f h) := by
  unfold oMapUpdate
  repeat (first | exact Mono.bad _ | exact Mono.put _ _ _ | split)
theorem mono_convert (s d : TypeId) (x : Operand) (ty : TypeId) : Mono h (oConvert s d x ty P ctx f h) := by
  unfold oConvert
  repeat (first | exact Mono.bad _ | exact Mono.same _ | exact Mono.ite (.new2 _ _ _) (.bad _) | exact Mono.ite (.same _) (.bad _) | split)
theorem mono_slSl (b off cap sz : Nat) (ex : Bool) (l u : Nat) : Mono h (slSl b off cap sz ex l u h) :=
  .ite (.ite (.ite (.same _) (.ite (.same _) (.ite (.same _) (.bad _)))) (.bad _)) (.bad _)
theorem mono_slSl3 (b off cap sz l u c : Nat) : Mono h (slSl3 b off cap sz l u c h) := .ite (.ite (.ite (.same _) (.bad _)) (.bad _)) (.bad _)
theorem mono_slStr (s : List Nat) (l u : Option Nat) : Mono h (slStr s l u h) := by
  unfold slStr
  split
  · exact .ite (.ite (.same _) (.bad _)) (.bad _)
  · exact .bad _
theorem mono_slice (t : TypeId) (x : Operand) (lo hi mx : Option Operand) (ty : TypeId) : Mono h (oSlice t x lo hi mx ty P ctx f h) := by
  refine .ite ?_ (.bad _)
  unfold oSlice1
  repeat (first | exact Mono.bad _ | exact Mono.same _ | exact mono_slStr _ _ _ | exact Mono.ite (mono_slSl _ _ _ _ _ _ _) (.bad _) | exact Mono.ite (mono_slSl3 _ _ _ _ _ _ _) (.bad _) | exact mono_slSl3 _ _ _ _ _ _ _ | split)
theorem mono_iaX (i : XI) (x : AV) (n : Option Nat) : Mono h (iaX i x n h) := by
  cases i
  case sl i =>
    cases n with
    | none => exact .bad _
    | some n => cases x <;> first | exact Mono.bad _ | exact Mono.ite (.same _) (.bad _)
  case arr len i =>
    cases n with
    | none => exact .bad _
    | some n => cases x <;> first | exact Mono.bad _ | exact Mono.ite (.same _) (.bad _)
  all_goals exact .bad _
theorem mono_append (st : TypeId) (s x : AV) : Mono h (append1 P st s x h) := by
  unfold append1
  split
  · split
    · split
      · exact .ite (.same _) (.ite (.ite (.new2 _ _ _) (.bad _)) (.bad _))
      · refine .ite (.ite (.ite ?_ (.bad _)) (.bad _)) (.bad _)
        refine .ite (.wr _ _ _ (fun _ => _)) (.ite ?_ ?_)
        · unfold appEx
          repeat (first | exact Mono.bad _ | exact Mono.new2 _ _ _ | split)
        · unfold appTip
          repeat (first | exact Mono.bad _ | exact Mono.ite (.ite (.ite (.ver _ _ _ _ _ _) (.bad _)) (.bad _)) (.bad _) | split)
      · exact .bad _
    · exact .bad _
  · exact .bad _
theorem mono_lnK (k : LK) (x : AV) : Mono h (lnK k x h) := by
  cases k
  case str => cases x <;> first | exact Mono.bad _ | exact Mono.same _
  case sl => cases x <;> first | exact Mono.bad _ | exact Mono.same _
  case map =>
    show Mono h (lnM x h)
    unfold lnM
    split <;> first | exact Mono.bad _ | exact Mono.same _
  case bad => exact .bad _
theorem mono_mm (lt : Bool) (l : List AV) : Mono h (mm lt l h) := by
  unfold mm
  repeat (first | exact Mono.bad _ | exact Mono.same _ | split)
theorem mono_copy (dt : TypeId) (d x : AV) : Mono h (copyA P dt d x h) := by
  unfold copyA
  repeat (first | exact Mono.bad _ | exact Mono.same _ | exact Mono.ite (.wr _ _ _ (fun _ => _)) (.bad _) | split)
theorem mono_us (t : TypeId) (p n : AV) : Mono h (usV P t p n h) := by
  unfold usV
  repeat (first | exact Mono.bad _ | exact Mono.same _ | exact Mono.ite (.ite (.ite (.put2 _ _ _ _ _) (.bad _)) (.bad _)) (.bad _) | split)
theorem mono_builtin (b : Builtin) (ts : List TypeId) (args : List AV) : Mono h (aBuiltin b ts args P h) := by
  unfold aBuiltin
  split
  case h_1 => split; exact .ite (mono_append _ _ _) (.bad _); exact .bad _
  case h_2 => split; exact mono_lnK _ _; exact .bad _
  case h_3 => split; exact mono_copy _ _ _; exact .bad _
  case h_4 => exact mono_mm _ _
  case h_5 => exact mono_mm _ _
  case h_6 =>
    split
    · split
      · unfold capV; repeat (first | exact Mono.bad _ | exact Mono.same _ | split)
      · exact .bad _
    · exact .bad _
  case h_7 =>
    split
    · unfold sdV; repeat (first | exact Mono.bad _ | exact Mono.same _ | exact Mono.ite (.bad _) (.same _) | split)
    · exact .bad _
  case h_8 => split; exact mono_us _ _ _; exact .bad _
  case h_9 => exact .bad _
theorem mono_aCall (hc : CtxMono ctx) (g : FuncId) (args : List AV) : Mono h (aCall P ctx g args h) := by
  refine .ite (hc.call _ _ _) ?_
  unfold aExt
  repeat (first | exact Mono.bad _ | exact Mono.same _ | split)
theorem mono_aMeth (hc : CtxMono ctx) (r : AV) (name : String) (args : List AV) : Mono h (aMeth P ctx r name args h) := by
  unfold aMeth
  repeat (first | exact Mono.bad _ | exact mono_aCall hc _ _ | split)
theorem mono_aInvoke (hc : CtxMono ctx) (fn : Fn) (cap args : List AV) : Mono h (aInvoke P ctx fn cap args h) := by
  unfold aInvoke
  repeat (first | exact Mono.bad _ | exact mono_aCall hc _ _ | exact mono_aMeth hc _ _ _ | exact hc.round _ _ _ | split)
theorem mono_opD (hc : CtxMono ctx) (o : Op) (ty : TypeId) (h : H) : Mono h (opD o ty P ctx f h) := by
  cases o
  case move x => exact .same _
  case assign x => exact .same _
  case pick c a b =>
    show Mono h (pickV (ev c f) (ev a f) (ev b f) h)
    cases ev c f
    case bool q => cases q <;> exact .same _
    all_goals exact .bad _
  case alloc e => exact .newC _ _
  case box e x => exact .newC _ _
  case build t parts =>
    show Mono h (oBuild t parts ty P ctx f h)
    unfold oBuild
    split <;> first | exact .resAgg _ | exact .bad _
  case buildSlice t n parts =>
    show Mono h (oBuildSlice t n parts ty P ctx f h)
    unfold oBuildSlice
    repeat (first | exact Mono.bad _ | exact Mono.ite (.mk _ _) (.bad _) | split)
  case insert t m k x => exact mono_map (ctx := ctx) t m k x ty
  case mapUpdate t m k x => exact mono_map (ctx := ctx) t m k x ty
  case load t x => exact mono_load _ _
  case store t x y => exact mono_store _ _ _
  case nilCheck x => exact .ite (.same _) (.bad _)
  case binOp op t x y yt => exact mono_binD _ _ _ _ _
  case unOp op t x =>
    show Mono h (oUnOp op t x ty P ctx f h)
    unfold oUnOp
    repeat (first | exact Mono.bad _ | exact Mono.same _ | split)
  case convert s d x => exact mono_convert (ctx := ctx) s d x ty
  case makeInterface t x => exact .ite (.same _) (.bad _)
  case makeFunc fn x y =>
    show Mono h (oMakeFunc fn x y ty P ctx f h)
    unfold oMakeFunc
    repeat (first | exact Mono.bad _ | exact Mono.same _ | split)
  case makeMap t r => cases r; exact .mk _ _; exact .bad _
  case makeSlice t x y =>
    show Mono h (oMakeSlice t x y ty P ctx f h)
    unfold oMakeSlice
    repeat (first | exact Mono.bad _ | exact Mono.ite (.ite (.mk _ _) (.bad _)) (.bad _) | split)
  case slice t x lo hi mx => exact mono_slice (ctx := ctx) t x lo hi mx ty
  case fieldAddr t x i =>
    show Mono h (Option.rec (motive := fun _ => AV → H → OR) (fun _ _ => .bad 85) (fun d x h => faV x d h) (fldOff P t i) (ev x f) h)
    cases fldOff P t i with
    | none => exact .bad _
    | some d =>
      show Mono h (faV (ev x f) d h)
      cases ev x f <;> first | exact Mono.bad _ | exact Mono.same _
  case field t x i =>
    show Mono h (oField t x i ty P ctx f h)
    unfold oField
    split
    · exact .res1 _
    · exact .bad _
  case indexAddr t x i => exact mono_iaX _ _ _
  case index t x i =>
    show Mono h (oIndex t x i ty P ctx f h)
    unfold oIndex
    split
    · cases ev x f <;> first | exact Mono.bad _ | exact Mono.resByte _
    · split
      · exact .ite (.res1 _) (.bad _)
      · exact .bad _
    · exact .bad _
  case lookup t x i ok =>
    show Mono h (oLookup t x i ok ty P ctx f h)
    unfold oLookup
    repeat (first | exact Mono.bad _ | exact Mono.same _ | split)
  case typeAssert x t ast ok =>
    show Mono h (oTypeAssert x t ast ok ty P ctx f h)
    unfold oTypeAssert
    repeat (first | exact Mono.bad _ | exact Mono.ite (.same _) (.bad _) | exact Mono.ite (.same _) (.ite (.same _) (.bad _)) | split)
  case extract x i =>
    show Mono h (exV (ev x f) i h)
    cases ev x f <;> first | exact Mono.bad _ | exact Mono.res1 _
  case call c =>
    show Mono h (ceD c.callee c.args.toList c.argTypes.toList P ctx f h)
    cases c.callee with
    | value g =>
      show Mono h (cvV (ev g f) (evs c.args.toList f) P ctx h)
      cases ev g f <;> first | exact Mono.bad _ | exact mono_aInvoke hc _ _ _
    | invoke r name => exact mono_aMeth hc _ _ _
    | builtin b =>
      show Mono h (ceBui b c.args.toList c.argTypes.toList P ctx f h)
      unfold ceBui
      split
      · unfold recV; split; exact .same _; exact .bad _
      · exact mono_builtin _ _ _
  case panic x =>
    show Mono h (panV (ev x f) h)
    unfold panV
    split
    · exact fun v h' he => by cases he
    · exact .bad _
  all_goals exact .bad _

/- code -/
def MonoC (h : H) (r : RC) : Prop := ∀ f' h', (r = .nrm f' h' ∨ (∃ i, r = .ext i f' h') ∨ r = .ret f' h') → h.nx ≤ h'.nx
theorem MonoC.bad (n : Nat) : MonoC h (.bad n) := fun f' h' he => by rcases he with he | ⟨_, he⟩ | he <;> cases he
theorem MonoC.nrm (f : L2) (hl : h.nx ≤ h'.nx) : MonoC h (.nrm f h') := fun f' h2 he => by rcases he with he | ⟨_, he⟩ | he <;> cases he; exact hl
theorem MonoC.ext (i : Nat) (f : L2) (hl : h.nx ≤ h'.nx) : MonoC h (.ext i f h') := fun f' h2 he => by rcases he with he | ⟨_, he⟩ | he <;> cases he; exact hl
theorem MonoC.ret (f : L2) (hl : h.nx ≤ h'.nx) : MonoC h (.ret f h') := fun f' h2 he => by rcases he with he | ⟨_, he⟩ | he <;> cases he; exact hl
theorem MonoC.ite {c : Bool} {x y : RC} (hx : MonoC h x) (hy : MonoC h y) : MonoC h (Bool.rec (motive := fun _ => RC) y x c) := by cases c <;> assumption
theorem MonoC.andThen {r : RC} {k : L2 → H → RC} (hr : MonoC h r) (hk : ∀ f' h', MonoC h' (k f' h')) : MonoC h (andThen k r) := by
  cases r with
  | bad n => exact .bad n
  | nrm f' h' =>
    have := hr f' h' (.inl rfl)
    intro f2 h2 he
    exact Nat.le_trans this (hk f' h' f2 h2 he)
  | ext i f' h' => exact hr
  | ret f' h' => exact hr
theorem MonoC.putR {r : OR} {o : Op} (d : Option Tmp) (f : L2) (hr : Mono h r) : MonoC h (putR d f h o r) := by
  cases r with
  | bad n => exact .bad n
  | ok v h' => exact .nrm _ (hr v h' rfl)
  | pan v h' =>
    refine .ite ?_ (.bad _)
    cases hb : Nat.ble h.nx h'.nx with
    | false => exact .bad _
    | true => exact .ext _ _ (ble_le hb)
theorem mono_run (hc : CtxMono ctx) (o : Oper) : MonoC h (runIt o P ctx f h) := by
  show MonoC h (op1 o o.dst o.type P ctx f h)
  unfold op1
  cases isDefer o.op with
  | none => exact .putR _ _ (mono_opD hc _ _ _)
  | some c =>
    show MonoC h (oDefer c o.dst o.type P ctx f h)
    unfold oDefer
    split
    · unfold dfPush
      split
      · exact .nrm _ (Nat.le_refl _)
      · exact .bad _
    · exact .bad _
theorem mono_oper1 (hc : CtxMono ctx) (ops : Array Oper) (o : Oper) : MonoC h (oper1 ops o P ctx f h) := by
  show MonoC h (guardR (guardOf ops o) o P ctx f h)
  cases guardOf ops o with
  | always => exact mono_run hc o
  | on t want =>
    show MonoC h (wantR (wantV (f.get t) want) o P ctx f h)
    cases wantV (f.get t) want with
    | yes => exact mono_run hc o
    | no => exact .nrm _ (Nat.le_refl _)
    | bad => exact .bad _
  | bad => exact .bad _
theorem mono_execOps (hc : CtxMono ctx) (ops : Array Oper) (l : List Oper) : ∀ f h, MonoC h (execOps P ctx ops l f h) := by
  induction l with
  | nil => exact fun f h => .nrm _ (Nat.le_refl _)
  | cons o l ih => exact fun f h => .andThen (mono_oper1 hc ops o) ih
theorem mono_drOps (hc : CtxMono ctx) (ops : Array Oper) (lg : List Nat) (l : List DO) : ∀ efs f h, MonoC h (drOps P ctx ops lg l efs f h) := by
  induction l with
  | nil => exact fun efs f h => .ite (.nrm _ (Nat.le_refl _)) (.bad _)
  | cons o l ih =>
    intro efs f h
    show MonoC h (RC.rec (motive := fun _ => RC) RC.bad (fun f' h' => drOps P ctx ops lg l (⟨o.bit, o.pr, wrote h.nx h'.lg, readsOf o.o.op f, h, h'.nx⟩ :: efs) f' h') (fun _ _ _ => .bad 184) (fun _ _ => .bad 184) (oper1 ops o.o P ctx f (noLog h)))
    have hm := mono_oper1 (P := P) (f := f) (h := noLog h) hc ops o.o
    cases hr : oper1 ops o.o P ctx f (noLog h) with
    | bad n => exact .bad n
    | nrm f' h' =>
      rw [hr] at hm
      have h1 : h.nx ≤ h'.nx := hm f' h' (.inl rfl)
      intro f2 h2 he
      exact Nat.le_trans h1 (ih _ f' h' f2 h2 he)
    | ext i f' h' => exact .bad _
    | ret f' h' => exact .bad _
theorem mono_loopK {b : CodeT} (hb : ∀ f h, MonoC h (b P ctx f h)) (k : Nat) : ∀ f h, MonoC h (loopK b P ctx k f h) := by
  induction k with
  | zero => exact hb
  | succ k ih => exact fun f h => .andThen (ih f h) ih
theorem mono_range (hc : CtxMono ctx) (x : Operand) (ps : Array Tmp) (as bd : Code) (u v : CodeT) : MonoC h (cRange x ps as bd u v P ctx f h) := by
  have key : ∀ (g : FuncId) (a cap : List AV) (fr f : L2) (h1 : H), h.nx ≤ h1.nx → MonoC h (rangeGo P ctx g a cap ps.toList as bd fr f h1) := by
    intro g a cap fr f h1 hle
    refine .ite ?_ (.bad _)
    unfold rangeEnd
    split
    · rename_i v h2 hr
      have := hc.call _ _ _ v h2 hr
      have h3 : h1.nx + 1 ≤ h2.nx := this
      split
      · refine .ite (.bad _) ?_
        unfold jumpOf
        split
        · exact .nrm _ (show h.nx ≤ h2.nx by omega)
        · exact .ret _ (show h.nx ≤ h2.nx by omega)
        · exact .ite (.bad _) (.ext _ _ (show h.nx ≤ h2.nx by omega))
        · exact .bad _
      · exact .bad _
    · exact .bad _
    · exact .bad _
  unfold cRange
  split
  · exact key _ _ _ _ _ _ (Nat.le_succ _)
  · split
    · exact key _ _ _ _ _ _ (Nat.le_refl _)
    · exact .bad _
  · exact .bad _
theorem mono_exec (hc : CtxMono ctx) (c : Code) : ∀ f h, MonoC h (exec c P ctx f h) := by
  induction c with
  | skip => exact fun f h => .nrm _ (Nat.le_refl _)
  | region id ops dr =>
    intro f h
    cases dr with
    | false => exact mono_execOps hc ops ops.toList f h
    | true =>
      show MonoC h (execDrawn P ctx ops f h)
      unfold execDrawn
      exact .ite (mono_drOps hc ops h.lg _ _ f h) (.bad _)
  | seq a b iha ihb => exact fun f h => .andThen (iha f h) ihb
  | cond c a b iha ihb =>
    intro f h
    show MonoC h (condV (ev c f) (exec a) (exec b) P ctx f h)
    cases ev c f
    case bool q => cases q; exact ihb f h; exact iha f h
    all_goals exact .bad _
  | block id a ih =>
    intro f h
    show MonoC h (inBlock id (exec a P ctx f h))
    have := ih f h
    cases hr : exec a P ctx f h with
    | bad n => exact .bad n
    | nrm f' h' => rw [hr] at this; exact this
    | ext i f' h' => rw [hr] at this; exact .ite (.nrm _ (this f' h' (.inr (.inl ⟨i, rfl⟩)))) this
    | ret f' h' => rw [hr] at this; exact this
  | loop a ih => exact fun f h => .andThen (mono_loopK ih 20 f h) (fun _ _ => .bad _)
  | rangeFunc x ps as bd _ _ => exact fun f h => mono_range hc x ps as bd (exec as) (exec bd)
  | exit id => exact fun f h => .ext _ _ (Nat.le_refl _)
  | scope a ih => exact ih
  | label l => exact fun f h => .nrm _ (Nat.le_refl _)
  | goto l => exact fun f h => .bad _
  | ret => exact fun f h => .ret _ (Nat.le_refl _)
  | refuse w => exact fun f h => .bad _
theorem mono_runDefers (hc : CtxMono ctx) (ds : List AV) : ∀ h h', runDefers P ctx ds h = .ok h' → h.nx ≤ h'.nx := by
  induction ds with
  | nil => intro h h' he; cases he; exact Nat.le_refl _
  | cons d ds ih =>
    intro h h' he
    unfold runDefers at he
    split at he
    · rename_i _ _ g a cap _
      cases hb : bodied P g with
      | false => rw [hb] at he; cases he
      | true =>
        rw [hb] at he
        dsimp only at he
        split at he
        · rename_i v h2 hr
          exact Nat.le_trans (hc.call _ _ _ v h2 hr) (ih h2 h' he)
        · cases he
        · cases he
    · split at he
      · exact (show h.nx ≤ h'.nx from ih (h.put _ (.dfr true)) h' he)
      · cases he
    · cases he
theorem mono_finish (hc : CtxMono ctx) (rs : List ResultVar) : Mono h (finish P ctx rs f h) := by
  unfold finish
  split
  · rename_i ds _
    cases hr : runDefers P ctx ds h with
    | bad n => exact .bad _
    | ok h2 =>
      intro v h' he
      have he' : finish2 P rs f h2 = .ok v h' := he
      unfold finish2 at he'
      split at he'
      · cases he'; exact mono_runDefers hc ds h h2 hr
      · cases he'
  · exact .bad _
theorem finish2_ok {rs : List ResultVar} {h2 : H} (he : finish2 P rs f h2 = .ok v h') : h' = h2 := by
  unfold finish2 at he
  split at he
  · cases he; rfl
  · cases he
theorem finish2_pan {rs : List ResultVar} {h2 : H} (he : finish2 P rs f h2 = .pan v h') : False := by
  unfold finish2 at he
  split at he <;> cases he
/-- what a frame that panics comes to -/
theorem finishX_ok {rs : List ResultVar} {id : Nat} (he : finishX P ctx rs id f h = .ok v h') : id = panId ∧ ∃ g as cap ds v1 h1, f.get dslot = .tup (.fn (.func g) as cap :: ds) ∧ bodied P g = true ∧ callR P ctx g (lapp as cap) (f.get pslot) h = .ok v1 h1 ∧ h.nx ≤ h1.nx ∧
    runDefers P ctx ds h1 = .ok h' ∧ h1.nx ≤ h'.nx ∧ finish2 P rs f h' = .ok v h' := by
  unfold finishX at he
  cases hid : Nat.beq id panId with
  | false => rw [hid] at he; cases he
  | true =>
    rw [hid] at he
    refine ⟨beq_eqN hid, ?_⟩
    have he1 : finishP P ctx rs f h = .ok v h' := he
    unfold finishP at he1
    split at he1
    · cases he1
    · rename_i d ds hvt
      split at he1
      · rename_i g as cap hvf
        cases hbod : bodied P g with
        | false => rw [hbod] at he1; cases he1
        | true =>
          rw [hbod] at he1
          have he2 : recBack P ctx rs f ds h (callR P ctx g (lapp as cap) (f.get pslot) h) = .ok v h' := he1
          unfold recBack at he2
          split at he2
          · rename_i v1 h1 hcr
            cases hb1 : Nat.ble h.nx h1.nx with
            | false => rw [hb1] at he2; cases he2
            | true =>
              rw [hb1] at he2
              dsimp only at he2
              split at he2
              · rename_i h2 hrd
                cases hb2 : Nat.ble h1.nx h2.nx with
                | false => rw [hb2] at he2; cases he2
                | true =>
                  rw [hb2] at he2
                  have he3 : finish2 P rs f h2 = .ok v h' := he2
                  have := finish2_ok he3
                  subst this
                  have e1 := vT_yes hvt
                  have e2 := vF_yes hvf
                  rw [e2] at e1
                  exact ⟨g, as, cap, ds, v1, h1, e1, hbod, hcr, ble_le hb1, hrd, ble_le hb2, he3⟩
              · cases he2
          · cases he2
          · cases he2
      · cases he1
    · cases he1
theorem finishX_pan {rs : List ResultVar} {id : Nat} (he : finishX P ctx rs id f h = .pan v h') : id = panId ∧ f.get dslot = .tup [] ∧ v = f.get pslot ∧ h' = h := by
  unfold finishX at he
  cases hid : Nat.beq id panId with
  | false => rw [hid] at he; cases he
  | true =>
    rw [hid] at he
    refine ⟨beq_eqN hid, ?_⟩
    have he1 : finishP P ctx rs f h = .pan v h' := he
    unfold finishP at he1
    split at he1
    · rename_i hvt
      cases he1
      exact ⟨vT_yes hvt, rfl, rfl⟩
    · rename_i d ds hvt
      split at he1
      · rename_i g as cap hvf
        cases hbod : bodied P g with
        | false => rw [hbod] at he1; cases he1
        | true =>
          rw [hbod] at he1
          have he2 : recBack P ctx rs f ds h (callR P ctx g (lapp as cap) (f.get pslot) h) = .pan v h' := he1
          unfold recBack at he2
          split at he2
          · rename_i v1 h1 hcr
            cases hb1 : Nat.ble h.nx h1.nx with
            | false => rw [hb1] at he2; cases he2
            | true =>
              rw [hb1] at he2
              dsimp only at he2
              split at he2
              · rename_i h2 hrd
                cases hb2 : Nat.ble h1.nx h2.nx with
                | false => rw [hb2] at he2; cases he2
                | true =>
                  rw [hb2] at he2
                  exact (finish2_pan he2).elim
              · cases he2
          · cases he2
          · cases he2
      · cases he1
    · cases he1
theorem mono_finishX (ctx : CallT) (rs : List ResultVar) (id : Nat) : Mono h (finishX P ctx rs id f h) := by
  intro v h' he
  obtain ⟨_, g, as, cap, ds, v1, h1, _, _, _, h2, _, h3, _⟩ := finishX_ok he
  omega
theorem mono_callF (hc : CtxMono ctx) (g : FuncId) (as : List AV) (h : H) : Mono h (callF P ctx g as h) := by
  unfold callF
  cases fnInfo P g with
  | none => exact .bad _
  | some i =>
    refine .ite ?_ (.bad _)
    have hm := mono_exec (P := P) hc i.body (putArgs as 0 frame0) h
    intro v h' he
    cases hr : exec i.body P ctx (putArgs as 0 frame0) h with
    | bad n => rw [hr] at he; cases he
    | nrm f' h1 =>
      rw [hr] at he hm
      have h0 := hm f' h1 (.inl rfl)
      have hf := mono_finish (P := P) (h := h1) (f := f') hc i.rs
      have he' : tagF g (finish P ctx i.rs f' h1) = .ok v h' := he
      cases hq : finish P ctx i.rs f' h1 with
      | bad n => rw [hq] at he'; cases he'
      | ok v2 h2 => rw [hq] at he' hf; cases he'; exact Nat.le_trans h0 (hf _ _ rfl)
      | pan v2 h2 => rw [hq] at he'; cases he'
    | ext id f' h1 =>
      rw [hr] at he hm
      have h0 := hm f' h1 (.inr (.inl ⟨id, rfl⟩))
      have he' : tagF g (finishX P ctx i.rs id f' h1) = .ok v h' := he
      have hf := mono_finishX (P := P) (h := h1) (f := f') ctx i.rs id
      cases hq : finishX P ctx i.rs id f' h1 with
      | bad n => rw [hq] at he'; cases he'
      | ok v2 h2 => rw [hq] at he' hf; cases he'; exact Nat.le_trans h0 (hf _ _ rfl)
      | pan v2 h2 => rw [hq] at he'; cases he'
    | ret f' h1 =>
      rw [hr] at he hm
      have h0 := hm f' h1 (.inr (.inr rfl))
      have hf := mono_finish (P := P) (h := h1) (f := f') hc i.rs
      have he' : tagF g (finish P ctx i.rs f' h1) = .ok v h' := he
      cases hq : finish P ctx i.rs f' h1 with
      | bad n => rw [hq] at he'; cases he'
      | ok v2 h2 => rw [hq] at he' hf; cases he'; exact Nat.le_trans h0 (hf _ _ rfl)
      | pan v2 h2 => rw [hq] at he'; cases he'
theorem mono_roundR {r : RC} (l : Nat) (hr : MonoC h r) : Mono h (roundR l r) := by
  have key : ∀ j h1, h.nx ≤ h1.nx → Mono h (endRound l j h1) := by
    intro j h1 hle
    unfold endRound
    split
    · intro v h' he; cases he; exact hle
    · exact .bad _
  cases r with
  | bad n => exact .bad _
  | nrm f' h' => exact key _ _ (hr f' h' (.inl rfl))
  | ext i f' h' => exact .ite (.bad _) (key _ _ (hr f' h' (.inr (.inl ⟨i, rfl⟩))))
  | ret f' h' => exact key _ _ (hr f' h' (.inr (.inr rfl)))
theorem mono_roundF (hc : CtxMono ctx) (l : Nat) (as : List AV) (h : H) : Mono h (roundF P ctx l as h) := by
  unfold roundF
  split
  · split
    · refine mono_roundR l (.andThen (mono_exec hc _ _ _) ?_)
      intro f' h'
      unfold roundB
      split
      · intro f2 h2 he
        exact (show h'.nx ≤ h2.nx from mono_exec (P := P) hc _ _ (h'.put l (.loop 1 _ _ _ _ _)) f2 h2 he)
      · exact .bad _
    · exact .bad _
  · exact .bad _
theorem mono_ctxD (P : Program) (d : Nat) : CtxMono (ctxD P d) := by
  induction d with
  | zero => exact ⟨fun _ _ _ => .bad _, fun _ _ _ => .bad _⟩
  | succ d ih => exact ⟨mono_callF ih, mono_roundF ih⟩
end Go.Ev

/- An operation looks at its operands alone. -/
set_option linter.unusedSimpArgs false
set_option linter.unusedVariables false
namespace Go.Ev
variable {P : Program} {h h' : H} {v : AV} {f g : L2} {ctx : CallT}

theorem evs_congr {l : List Operand} (hh : ∀ x ∈ l, ev x f = ev x g) : evs l f = evs l g := by
  induction l with
  | nil => rfl
  | cons x l ih =>
    show ev x f :: evs l f = ev x g :: evs l g
    rw [hh x (by simp), ih (fun y hy => hh y (by simp [hy]))]
theorem fillA_congr {place : Nat → Option (Nat × Nat)} : ∀ (l : List (Nat × Operand)), (∀ p ∈ l, ev p.2 f = ev p.2 g) → ∀ cs, fillA place f l cs = fillA place g l cs := by
  intro l
  induction l with
  | nil => intro _ cs; rfl
  | cons p l ih =>
    intro hh cs
    obtain ⟨i, x⟩ := p
    have hx : ev x f = ev x g := hh (i, x) (by simp)
    have hi := ih (fun q hq => hh q (by simp [hq]))
    unfold fillA
    rw [hx]
    split
    · split
      · rename_i cs' _
        rw [hi cs']
      · rfl
    · rfl
theorem bnd_congr {x : Option Operand} (hh : ∀ y, x = some y → ev y f = ev y g) (d : Nat) : bnd f x d = bnd g x d := by
  cases x with
  | none => rfl
  | some y => show nat0 (ev y f) = nat0 (ev y g); rw [hh y rfl]
theorem opD_congr (o : Op) (ty : TypeId) (hd : f.get dslot = g.get dslot) (hh : ∀ x ∈ o.operands.toList, ev x f = ev x g) : opD o ty P ctx f h = opD o ty P ctx g h := by
  cases o
  case move x => have := hh x (by simp [Op.operands]); show OR.ok (ev x f) h = OR.ok (ev x g) h; rw [this]
  case assign x => have := hh x (by simp [Op.operands]); show OR.ok (ev x f) h = OR.ok (ev x g) h; rw [this]
  case pick c a b =>
    have h1 := hh c (by simp [Op.operands]); have h2 := hh a (by simp [Op.operands]); have h3 := hh b (by simp [Op.operands])
    show pickV (ev c f) (ev a f) (ev b f) h = pickV (ev c g) (ev a g) (ev b g) h
    rw [h1, h2, h3]
  case box e x => have := hh x (by simp [Op.operands]); show newC (cellsOf (ev x f)) e h = newC (cellsOf (ev x g)) e h; rw [this]
  case build t parts =>
    have hp : ∀ p ∈ parts.toList, ev p.2 f = ev p.2 g := fun p hp => hh p.2 (by simp only [Op.operands, List.mem_map]; exact ⟨p, hp, rfl⟩)
    show oBuild t parts ty P ctx f h = oBuild t parts ty P ctx g h
    unfold oBuild
    split
    · rw [fillA_congr _ hp]
    · rw [fillA_congr _ hp]
    · rfl
  case buildSlice t n parts =>
    have hp : ∀ p ∈ parts.toList, ev p.2 f = ev p.2 g := fun p hp => hh p.2 (by simp only [Op.operands, List.mem_map]; exact ⟨p, hp, rfl⟩)
    show oBuildSlice t n parts ty P ctx f h = oBuildSlice t n parts ty P ctx g h
    unfold oBuildSlice
    split
    · split
      · rw [fillA_congr _ hp]
      · rfl
    · rfl
  case insert t m k x =>
    have h1 := hh m (by simp [Op.operands]); have h2 := hh k (by simp [Op.operands]); have h3 := hh x (by simp [Op.operands])
    show oMapUpdate t m k x ty P ctx f h = oMapUpdate t m k x ty P ctx g h
    unfold oMapUpdate; rw [h1, h2, h3]
  case mapUpdate t m k x =>
    have h1 := hh m (by simp [Op.operands]); have h2 := hh k (by simp [Op.operands]); have h3 := hh x (by simp [Op.operands])
    show oMapUpdate t m k x ty P ctx f h = oMapUpdate t m k x ty P ctx g h
    unfold oMapUpdate; rw [h1, h2, h3]
  case load t x => have := hh x (by simp [Op.operands]); show ldV (ev x f) (ldInfo P t) h = ldV (ev x g) (ldInfo P t) h; rw [this]
  case store t x y =>
    have h1 := hh x (by simp [Op.operands]); have h2 := hh y (by simp [Op.operands])
    show stV (ev x f) (cellsOf (ev y f)) (szInfo P t) h = stV (ev x g) (cellsOf (ev y g)) (szInfo P t) h
    rw [h1, h2]
  case nilCheck x => have h1 := hh x (by simp [Op.operands]); show oNilCheck x ty P ctx f h = oNilCheck x ty P ctx g h; unfold oNilCheck; rw [h1]
  case binOp op t x y yt =>
    have h1 := hh x (by simp [Op.operands]); have h2 := hh y (by simp [Op.operands])
    show oBinOp op t x y yt ty P ctx f h = oBinOp op t x y yt ty P ctx g h
    unfold oBinOp; rw [h1, h2]
  case unOp op t x => have h1 := hh x (by simp [Op.operands]); show oUnOp op t x ty P ctx f h = oUnOp op t x ty P ctx g h; unfold oUnOp; rw [h1]
  case convert s d x => have h1 := hh x (by simp [Op.operands]); show oConvert s d x ty P ctx f h = oConvert s d x ty P ctx g h; unfold oConvert; rw [h1]
  case makeInterface t x => have h1 := hh x (by simp [Op.operands]); show oMakeIface t x ty P ctx f h = oMakeIface t x ty P ctx g h; unfold oMakeIface; rw [h1]
  case makeFunc fn x y =>
    have h1 : evs x.toList f = evs x.toList g := evs_congr (fun z hz => hh z (by simp only [Op.operands, Array.toList_append, List.mem_append]; exact .inl hz))
    have h2 : evs y.toList f = evs y.toList g := evs_congr (fun z hz => hh z (by simp only [Op.operands, Array.toList_append, List.mem_append]; exact .inr hz))
    show oMakeFunc fn x y ty P ctx f h = oMakeFunc fn x y ty P ctx g h
    unfold oMakeFunc; rw [h1, h2]
  case makeSlice t x y =>
    have h1 := hh x (by simp [Op.operands]); have h2 := hh y (by simp [Op.operands])
    show oMakeSlice t x y ty P ctx f h = oMakeSlice t x y ty P ctx g h
    unfold oMakeSlice; rw [h1, h2]
  case slice t x lo hi mx =>
    have h1 := hh x (by simp [Op.operands])
    have h2 : ∀ y, lo = some y → ev y f = ev y g := fun y hy => hh y (by simp [Op.operands, hy])
    have h3 : ∀ y, hi = some y → ev y f = ev y g := fun y hy => hh y (by simp [Op.operands, hy])
    have h4 : ∀ y, mx = some y → ev y f = ev y g := fun y hy => hh y (by simp [Op.operands, hy])
    have e : oSlice1 t x lo hi mx ty P ctx f h = oSlice1 t x lo hi mx ty P ctx g h := by
      unfold oSlice1
      rw [h1]
      simp only [bnd_congr h2, bnd_congr h3, bnd_congr h4]
      cases xInfo P t with
      | str => rfl
      | bad => rfl
      | arr n i => rfl
      | sl i =>
        cases vL (ev x g) with
        | nil => rfl
        | no => rfl
        | yes b off len cap sz ex =>
          dsimp only
          cases bnd g lo 0 with
          | none => rfl
          | some l =>
            cases bnd g hi len with
            | none => rfl
            | some u =>
              cases mx with
              | none => rfl
              | some m => dsimp only; rw [h4 m rfl]
    show oSlice t x lo hi mx ty P ctx f h = oSlice t x lo hi mx ty P ctx g h
    unfold oSlice; rw [e]
  case fieldAddr t x i => have h1 := hh x (by simp [Op.operands]); show oFieldAddr t x i ty P ctx f h = oFieldAddr t x i ty P ctx g h; unfold oFieldAddr; rw [h1]
  case field t x i => have h1 := hh x (by simp [Op.operands]); show oField t x i ty P ctx f h = oField t x i ty P ctx g h; unfold oField; rw [h1]
  case indexAddr t x i =>
    have h1 := hh x (by simp [Op.operands]); have h2 := hh i (by simp [Op.operands])
    show oIndexAddr t x i ty P ctx f h = oIndexAddr t x i ty P ctx g h
    unfold oIndexAddr; rw [h1, h2]
  case index t x i =>
    have h1 := hh x (by simp [Op.operands]); have h2 := hh i (by simp [Op.operands])
    show oIndex t x i ty P ctx f h = oIndex t x i ty P ctx g h
    unfold oIndex; rw [h1, h2]
  case lookup t x i ok =>
    have h1 := hh x (by simp [Op.operands]); have h2 := hh i (by simp [Op.operands])
    show oLookup t x i ok ty P ctx f h = oLookup t x i ok ty P ctx g h
    unfold oLookup; rw [h1, h2]
  case typeAssert x t ast ok => have h1 := hh x (by simp [Op.operands]); show oTypeAssert x t ast ok ty P ctx f h = oTypeAssert x t ast ok ty P ctx g h; unfold oTypeAssert; rw [h1]
  case extract x i => have h1 := hh x (by simp [Op.operands]); show oExtract x i ty P ctx f h = oExtract x i ty P ctx g h; unfold oExtract; rw [h1]
  case call c =>
    have h1 : evs c.args.toList f = evs c.args.toList g := evs_congr (fun z hz => hh z (by simp only [Op.operands, Call.operands, Array.toList_append, List.mem_append]; exact .inr hz))
    show ceD c.callee c.args.toList c.argTypes.toList P ctx f h = ceD c.callee c.args.toList c.argTypes.toList P ctx g h
    cases hc : c.callee with
    | value z =>
      have h2 : ev z f = ev z g := hh z (by simp [Op.operands, Call.operands, hc])
      show cvV (ev z f) (evs c.args.toList f) P ctx h = cvV (ev z g) (evs c.args.toList g) P ctx h
      rw [h1, h2]
    | invoke r name =>
      have h2 : ev r f = ev r g := hh r (by simp [Op.operands, Call.operands, hc])
      show aMeth P ctx (ev r f) name (evs c.args.toList f) h = aMeth P ctx (ev r g) name (evs c.args.toList g) h
      rw [h1, h2]
    | builtin b =>
      show ceBui b c.args.toList c.argTypes.toList P ctx f h = ceBui b c.args.toList c.argTypes.toList P ctx g h
      unfold ceBui
      split
      · show recV (vT (f.get dslot)) h = recV (vT (g.get dslot)) h; rw [hd]
      · show aBuiltin _ c.argTypes.toList (evs c.args.toList f) P h = aBuiltin _ c.argTypes.toList (evs c.args.toList g) P h; rw [h1]
  case panic x => have h1 := hh x (by simp [Op.operands]); show panV (ev x f) h = panV (ev x g) h; rw [h1]
  all_goals rfl
end Go.Ev

/- The machine's steps, in frames of either kind. -/
set_option linter.unusedSimpArgs false
set_option linter.unusedVariables false
namespace Go.Ev

/-- what of a frame does not change while it runs -/
structure FB where
  fn : FuncId
  kind : CallKind
  ro : Option Nat
def FB.at (b : FB) (a : Act) (todo : List Item) : Frame :=
  { fn := b.fn, tmps := a.tmps, todo, defers := a.defers, mode := .run, kind := b.kind, roundOf := b.ro }
theorem FB.eval_at (b : FB) (a : Act) (todo : List Item) : (b.at a todo).eval = a.eval := by
  funext x
  cases x <;> rfl
theorem FB.finish_at (b : FB) (a : Act) (ops : Array Oper) (i : Nat) (rest : List Nat) (k : List Item) (v : Value) :
    (b.at a (.inRegion ops (i :: rest) :: k)).finish v = b.at (a.put ((ops[i]?).bind (·.dst)) v) (.inRegion ops rest :: k) := by
  cases h : (ops[i]?).bind (·.dst) <;> simp [Frame.finish, FB.at, Act.put, h]
section moves
variable {P : Program} {b : FB} {a : Act} {k : List Item} {cs : List Frame} {w : World}
theorem s_skip : step P (lone (b.at a (.code .skip :: k)) cs w) = .next (lone (b.at a k) cs w) :=
  step_lone_go (by simp [stepG, stepG.exec, FB.at])
theorem s_label {l : Nat} : step P (lone (b.at a (.code (.label l) :: k)) cs w) = .next (lone (b.at a k) cs w) :=
  step_lone_go (by simp [stepG, stepG.exec, FB.at])
theorem s_inBlock {id : Nat} : step P (lone (b.at a (.inBlock id :: k)) cs w) = .next (lone (b.at a k) cs w) :=
  step_lone_go (by simp [stepG, stepG.exec, FB.at])
theorem s_inScope {c : Code} : step P (lone (b.at a (.inScope c :: k)) cs w) = .next (lone (b.at a k) cs w) :=
  step_lone_go (by simp [stepG, stepG.exec, FB.at])
theorem s_seq {x y : Code} : step P (lone (b.at a (.code (.seq x y) :: k)) cs w) = .next (lone (b.at a (.code x :: .code y :: k)) cs w) :=
  step_lone_go (by simp [stepG, stepG.exec, FB.at])
theorem s_cond {c : Operand} {x y : Code} {t : Bool} (h : a.eval c = .bool t) :
    step P (lone (b.at a (.code (.cond c x y) :: k)) cs w) = .next (lone (b.at a (.code (if t then x else y) :: k)) cs w) :=
  step_lone_go (by
    have := congrFun (FB.eval_at b a (.code (.cond c x y) :: k)) c
    simp only [FB.at] at this
    simp [stepG, stepG.exec, FB.at, this, h])
theorem s_block {id : Nat} {c : Code} : step P (lone (b.at a (.code (.block id c) :: k)) cs w) = .next (lone (b.at a (.code c :: .inBlock id :: k)) cs w) :=
  step_lone_go (by simp [stepG, stepG.exec, FB.at])
theorem s_loop {c : Code} : step P (lone (b.at a (.code (.loop c) :: k)) cs w) = .next (lone (b.at a (.code c :: .inLoop c :: k)) cs w) :=
  step_lone_go (by simp [stepG, stepG.exec, FB.at])
theorem s_inLoop {c : Code} : step P (lone (b.at a (.inLoop c :: k)) cs w) = .next (lone (b.at a (.code c :: .inLoop c :: k)) cs w) :=
  step_lone_go (by simp [stepG, stepG.exec, FB.at])
theorem s_scope {c : Code} : step P (lone (b.at a (.code (.scope c) :: k)) cs w) = .next (lone (b.at a (.code c :: .inScope c :: k)) cs w) :=
  step_lone_go (by simp [stepG, stepG.exec, FB.at])
theorem s_exit {id : Nat} {k' : List Item} (h : exitTo id k = some k') : step P (lone (b.at a (.code (.exit id) :: k)) cs w) = .next (lone (b.at a k') cs w) :=
  step_lone_go (by simp [stepG, stepG.exec, FB.at, h])
theorem s_region {id : Nat} {ops : Array Oper} :
    step P (lone (b.at a (.code (.region id ops false) :: k)) cs w) = .next (lone (b.at a (.inRegion ops (List.range ops.size) :: k)) cs w) :=
  step_lone_go (by simp [stepG, stepG.exec, FB.at])
theorem s_draw {id : Nat} {ops : Array Oper} :
    step P (lone (b.at a (.code (.region id ops true) :: k)) cs w) =
      .next (lone (b.at a (.inRegion ops (Region.schedule (P.follows .mixedOrders) ops (w.tape w.drawn (.order b.fn id))) :: k)) cs { w with drawn := w.drawn + 1 }) :=
  step_lone_go (by simp [stepG, stepG.exec, FB.at, choose, Sem.run, Question.forced, Question.cut])
theorem s_regionEnd {ops : Array Oper} : step P (lone (b.at a (.inRegion ops [] :: k)) cs w) = .next (lone (b.at a k) cs w) :=
  step_lone_go (by simp [stepG, stepG.exec, FB.at])
theorem s_pass {ops : Array Oper} {i : Nat} {rest : List Nat} (h : ((ops[i]?).map (Region.wanted · (yielded ops a.tmps))).getD false = false) :
    step P (lone (b.at a (.inRegion ops (i :: rest) :: k)) cs w) = .next (lone (b.at (a.put ((ops[i]?).bind (·.dst)) undef) (.inRegion ops rest :: k)) cs w) := by
  rw [← FB.finish_at]
  exact step_lone_go (by
    have h' := h
    simp only [FB.at] at *
    simp [stepG, stepG.exec, h'])
theorem s_op {ops : Array Oper} {i : Nat} {rest : List Nat} {o : Oper} (ho : ops[i]? = some o) (hw : Region.wanted o (yielded ops a.tmps) = true) (hd : b.ro = none ∨ ∀ c, o.op ≠ .defer c) :
    stepG P true { frame := b.at a (.inRegion ops (i :: rest) :: k), callers := cs, status := .running, dying := none } w =
      stepG.apply P true (b.at a (.inRegion ops (i :: rest) :: k)) cs none (execOp a.eval o) w := by
  have he := FB.eval_at b a (.inRegion ops (i :: rest) :: k)
  simp only [FB.at] at he
  rcases hd with hd | hd
  · rw [hd] at he
    simp [stepG, stepG.exec, stepG.oper, Frame.oper?, FB.at, ho, hw, he, hd]
  · simp only [FB.at] at *
    simp only [stepG, stepG.exec, stepG.oper, Frame.oper?, ho, hw, he, Option.map_some, Option.getD_some, if_true]
    split
    · rename_i c _ hc; exact absurd hc (hd c)
    · rfl
/-- an operation that yields a value, or nothing -/
theorem s_value {ops : Array Oper} {i : Nat} {rest : List Nat} {o : Oper} {v' : Value} {w' : World} (ho : ops[i]? = some o) (hw : Region.wanted o (yielded ops a.tmps) = true) (hd : b.ro = none ∨ ∀ c, o.op ≠ .defer c)
    (hr : Ran P (execOp a.eval o) w v' w') : step P (lone (b.at a (.inRegion ops (i :: rest) :: k)) cs w) = .next (lone (b.at (a.put o.dst v') (.inRegion ops rest :: k)) cs w') := by
  have hf := FB.finish_at b a ops i rest k v'
  rw [ho] at hf
  rcases hr with hr | ⟨hr, rfl⟩
  · refine step_lone_go ?_
    rw [s_op ho hw hd]
    simp only [stepG.apply, Sem.runT_eq, if_true, hr]
    simp [hf]
  · refine step_lone_go ?_
    rw [s_op ho hw hd]
    simp only [stepG.apply, Sem.runT_eq, if_true, hr]
    simp [hf]
/-- an operation that enters a function -/
theorem s_enter {ops : Array Oper} {i : Nat} {rest : List Nat} {o : Oper} {g : FuncId} {args : Array Value} {w' : World} (ho : ops[i]? = some o) (hw : Region.wanted o (yielded ops a.tmps) = true) (hd : b.ro = none ∨ ∀ c, o.op ≠ .defer c)
    (hr : (execOp a.eval o).run P w = .ok (.enter g args) w') : step P (lone (b.at a (.inRegion ops (i :: rest) :: k)) cs w) = .next (lone (Frame.enter P g args .normal) (b.at a (.inRegion ops (i :: rest) :: k) :: cs) w') := by
  refine step_lone_go ?_
  rw [s_op ho hw hd]
  simp only [stepG.apply, Sem.runT_eq, if_true, hr]
  simp [FB.at]
/-- an operation that enters a round of a loop over a function -/
theorem s_round {ops : Array Oper} {i : Nat} {rest : List Nat} {o : Oper} {l : Nat} {g : FuncId} {tmps : Array Value} {as bd : Code} {w' : World} (ho : ops[i]? = some o) (hw : Region.wanted o (yielded ops a.tmps) = true) (hd : b.ro = none ∨ ∀ c, o.op ≠ .defer c)
    (hr : (execOp a.eval o).run P w = .ok (.round l g tmps as bd) w') : step P (lone (b.at a (.inRegion ops (i :: rest) :: k)) cs w) = .next (lone (Frame.round l g tmps as bd .normal) (b.at a (.inRegion ops (i :: rest) :: k) :: cs) w') := by
  refine step_lone_go ?_
  rw [s_op ho hw hd]
  simp only [stepG.apply, Sem.runT_eq, if_true, hr]
  simp [FB.at]
/-- the end of the code, and a return, outside rounds -/
def FB.back (b : FB) (a : Act) (todo : List Item) : Frame :=
  { fn := b.fn, tmps := a.tmps, todo, defers := a.defers, mode := .returning, kind := b.kind, roundOf := none }
theorem s_ret (hr : b.ro = none) : step P (lone (b.at a (.code .ret :: k)) cs w) = .next (lone (b.back a (.code .ret :: k)) cs w) :=
  step_lone_go (by simp [stepG, stepG.exec, FB.at, FB.back, hr])
theorem s_end (hr : b.ro = none) : step P (lone (b.at a []) cs w) = .next (lone (b.back a []) cs w) :=
  step_lone_go (by simp [stepG, stepG.exec, FB.at, FB.back, hr])
/-- a frame that returns to its caller -/
theorem s_back {fn : Func} {v : Value} {c : Frame} (hd : a.defers = []) (hk : b.kind = .normal) (hf : P.funcs[b.fn]? = some fn) (hres : (results fn a.tmps).run P w = .ok v w) :
    step P (lone (b.back a k) (c :: cs) w) = .next (lone (c.finish v) cs w) :=
  step_lone_go (by simp [stepG, unwind, doReturn, FB.back, hd, hk, hf, hres])
/-- a deferred call that returns: its caller goes on returning -/
theorem s_backD {fn : Func} {v : Value} {c : Frame} (hd : a.defers = []) (hk : b.kind = .deferred) (hc : c.mode = .returning) (hf : P.funcs[b.fn]? = some fn) (hres : (results fn a.tmps).run P w = .ok v w) :
    step P (lone (b.back a k) (c :: cs) w) = .next (lone c cs w) :=
  step_lone_go (by simp [stepG, unwind, doReturn, FB.back, hd, hk, hf, hres, hc])
/-- the next deferred call -/
theorem s_defer {g : FuncId} {as caps : Array Value} {ds : List Deferred} {args : Array Value} {w' : World} (hd : a.defers = { target := .fn (.func g) caps, args := as } :: ds) (hr : (callFunc g (as ++ caps)).run P w = .ok (.enter g args) w') :
    step P (lone (b.back a k) cs w) = .next (lone (Frame.enter P g args .deferred) (b.back ⟨a.tmps, ds⟩ k :: cs) w') :=
  step_lone_go (by simp [stepG, unwind, callDeferred, FB.back, hd, invoke, Sem.runT_eq, hr])
/-- the mark of a loop over a function, among the deferred calls -/
theorem s_taken {r : Nat} {ds : List Deferred} (hd : a.defers = { target := .collected r, args := #[] } :: ds) (hr : w.heap[r]? = some (.deferred (some []))) :
    step P (lone (b.back a k) cs w) = .next (lone (b.back ⟨a.tmps, ds⟩ k) cs (setBlk w r (.deferred none))) := by
  have hlt := lt_of_get hr
  have hrun : (Instr.takeDeferred r).run P w = .ok [] (setBlk w r (.deferred none)) := by
    simp [Instr.takeDeferred, getObj, setObj, Sem.run, hr, setBlk]
  exact step_lone_go (by simp [stepG, unwind, FB.back, hd, Sem.runT_eq, hrun])
/-- the end of a round -/
theorem s_endRound {l : Nat} {lp : Loop} {c : Frame} {jump : Option Code} (hro : b.ro = some l) (hk : b.kind = .normal) (hl : w.heap[l]? = some (.loop lp))
    (htodo : k = [] ∧ jump = none ∨ (∃ k', k = .code .ret :: k' ∧ jump = some .ret) ∨ ∃ id k', k = .code (.exit id) :: k' ∧ exitTo id k' = none ∧ jump = some (.exit id)) :
    step P (lone (b.at a k) (c :: cs) w) = .next (lone (c.finish (.bool jump.isNone)) cs (setBlk w l (.loop { lp with state := if jump.isNone then .ready else .done, pending := jump }))) := by
  have hrun : ∀ j, (Instr.endRound l j).run P w = .ok (.bool j.isNone) (setBlk w l (.loop { lp with state := if j.isNone then .ready else .done, pending := j })) := by
    intro j
    simp [Instr.endRound, Instr.getLoop, getObj, setObj, Sem.run, hl, setBlk]
  rcases htodo with ⟨rfl, rfl⟩ | ⟨k', rfl, rfl⟩ | ⟨id, k', rfl, he, rfl⟩
  · exact step_lone_go (by simp [stepG, stepG.exec, FB.at, hro, Sem.runT_eq, hrun, doReturn, hk])
  · exact step_lone_go (by simp [stepG, stepG.exec, FB.at, hro, Sem.runT_eq, hrun, doReturn, hk])
  · exact step_lone_go (by simp [stepG, stepG.exec, FB.at, hro, Sem.runT_eq, hrun, doReturn, hk, he])
/-- the beginning of a round's body -/
theorem s_beginRound {l : Nat} {lp : Loop} (hro : b.ro = some l) (hl : w.heap[l]? = some (.loop lp)) (hs : lp.state = .ready) :
    step P (lone (b.at a (.beginRound :: k)) cs w) = .next (lone (b.at a k) cs (setBlk w l (.loop { lp with state := .busy }))) := by
  have hrun : (do Instr.beginRound l; pure Next.skip : Sem Next).run P w = .ok .skip (setBlk w l (.loop { lp with state := .busy })) := by
    simp [Instr.beginRound, Instr.getLoop, getObj, setObj, Sem.run, hl, hs, setBlk]
  refine step_lone_go ?_
  have e : stepG P true { frame := b.at a (.beginRound :: k), callers := cs, status := .running, dying := none } w = stepG.apply P true (b.at a (.beginRound :: k)) cs none (do Instr.beginRound l; pure Next.skip : Sem Next) w := by
    simp only [stepG, stepG.exec, FB.at, hro]
    rfl
  rw [e]
  simp only [stepG.apply, Sem.runT_eq, if_true, hrun]
  simp [FB.at, Frame.finish]
/-- the end of a loop over a function -/
theorem s_endLoop {l : Nat} {lp : Loop} (hl : w.heap[l]? = some (.loop lp)) (hs : lp.state ≠ .busy) :
    step P (lone (b.at a (.endRangeFunc l :: k)) cs w) = .next (lone (b.at a ((lp.pending.map Item.code).toList ++ k)) cs (setBlk w l (.loop { lp with state := .exhausted }))) := by
  have hb : (lp.state == LoopState.busy) = false := by cases hq : lp.state <;> first | rfl | exact absurd hq hs
  have hrun : (Instr.endLoop l).run P w = .ok lp.pending (setBlk w l (.loop { lp with state := .exhausted })) := by
    simp [Instr.endLoop, Instr.getLoop, getObj, setObj, Sem.run, hl, hb, setBlk]
    exact fun hh => absurd hh hs
  exact step_lone_go (by simp [stepG, stepG.exec, FB.at, Sem.runT_eq, hrun])
/-- the way into a loop over a function, outside rounds -/
theorem s_range {x : Operand} {ps : Array Tmp} {as bd : Code} {g : FuncId} {first caps args : Array Value} {w2 : World} (hro : b.ro = none) (hx : a.eval x = .func (.func g) first caps)
    (hr : ∀ w1, w1 = wpush (wpush w (.deferred (some []))) (.loop { state := .ready, pending := none, fn := b.fn, tmps := a.tmps, params := ps, assign := as, body := bd, defers := w.heap.size }) →
      (callFunc g (first.push (.func (.yield (w.heap.size + 1)) #[] #[]) ++ caps)).run P w1 = .ok (.enter g args) w2) :
    step P (lone (b.at a (.code (.rangeFunc x ps as bd) :: k)) cs w) =
      .next (lone (Frame.enter P g args .normal) (b.at ⟨a.tmps, { target := .collected w.heap.size, args := #[] } :: a.defers⟩ (.inRangeFunc (w.heap.size + 1) :: k) :: cs) w2) := by
  have hen : (Instr.enterLoop b.fn a.tmps ps as bd none).run P w = .ok (w.heap.size + 1, [{ target := .collected w.heap.size, args := #[] }]) (wpush (wpush w (.deferred (some []))) (.loop { state := .ready, pending := none, fn := b.fn, tmps := a.tmps, params := ps, assign := as, body := bd, defers := w.heap.size })) := by
    simp [Instr.enterLoop, newObj, Sem.run, wpush]
    rfl
  have hr := hr _ rfl
  generalize wpush (wpush w (.deferred (some []))) (.loop { state := .ready, pending := none, fn := b.fn, tmps := a.tmps, params := ps, assign := as, body := bd, defers := w.heap.size }) = w1 at *
  have hev : ∀ y todo ds, ({ fn := b.fn, tmps := a.tmps, todo := todo, defers := ds, mode := FrameMode.run, kind := b.kind, roundOf := none } : Frame).eval y = a.eval y := by intro y todo ds; cases y <;> rfl
  refine step_lone_go ?_
  simp only [stepG, stepG.exec, FB.at, hro, Sem.runT_eq, hen]
  simp only [stepG.apply, Sem.runT_eq, if_true]
  have hcn : ∀ v, a.eval (.const v) = v := fun _ => rfl
  simp [resolve, hev, hx, hcn, Deferred.ofValue, invoke, hr, Sem.run_bind, Result.andThen_ok]
  done
/-- the same, inside a round -/
theorem s_rangeIn {x : Operand} {ps : Array Tmp} {as bd : Code} {g : FuncId} {first caps args : Array Value} {w2 : World} {l : Nat} {lp : Loop} (hro : b.ro = some l) (hl : w.heap[l]? = some (.loop lp)) (hx : a.eval x = .func (.func g) first caps)
    (hr : ∀ w1, w1 = wpush w (.loop { state := .ready, pending := none, fn := b.fn, tmps := a.tmps, params := ps, assign := as, body := bd, defers := lp.defers }) →
      (callFunc g (first.push (.func (.yield w.heap.size) #[] #[]) ++ caps)).run P w1 = .ok (.enter g args) w2) :
    step P (lone (b.at a (.code (.rangeFunc x ps as bd) :: k)) cs w) = .next (lone (Frame.enter P g args .normal) (b.at a (.inRangeFunc w.heap.size :: k) :: cs) w2) := by
  have hen : (Instr.enterLoop b.fn a.tmps ps as bd (some l)).run P w = .ok (w.heap.size, []) (wpush w (.loop { state := .ready, pending := none, fn := b.fn, tmps := a.tmps, params := ps, assign := as, body := bd, defers := lp.defers })) := by
    simp [Instr.enterLoop, Instr.getLoop, getObj, newObj, Sem.run, wpush, hl]
  have hr := hr _ rfl
  generalize wpush w (.loop { state := .ready, pending := none, fn := b.fn, tmps := a.tmps, params := ps, assign := as, body := bd, defers := lp.defers }) = w1 at *
  have hev : ∀ y todo ds, ({ fn := b.fn, tmps := a.tmps, todo := todo, defers := ds, mode := FrameMode.run, kind := b.kind, roundOf := some l } : Frame).eval y = a.eval y := by intro y todo ds; cases y <;> rfl
  refine step_lone_go ?_
  simp only [stepG, stepG.exec, FB.at, hro, Sem.runT_eq, hen]
  simp only [stepG.apply, Sem.runT_eq, if_true]
  have hcn : ∀ v, a.eval (.const v) = v := fun _ => rfl
  simp [resolve, hev, hx, hcn, Deferred.ofValue, invoke, hr, Sem.run_bind, Result.andThen_ok]
/-- recover where nobody panics -/
theorem s_recover {ops : Array Oper} {i : Nat} {rest : List Nat} {o : Oper} {w' : World} (ho : ops[i]? = some o) (hw : Region.wanted o (yielded ops a.tmps) = true) (hd : b.ro = none) (hn : ∀ todo, tryRecover (b.at a todo) cs = none)
    (hr : (execOp a.eval o).run P w = .ok .recover w') : step P (lone (b.at a (.inRegion ops (i :: rest) :: k)) cs w) = .next (lone (b.at (a.put o.dst .nilIface) (.inRegion ops rest :: k)) cs w') := by
  have hf := FB.finish_at b a ops i rest k .nilIface
  rw [ho] at hf
  refine step_lone_go ?_
  rw [s_op ho hw (.inl hd)]
  have hro : (b.at a (.inRegion ops (i :: rest) :: k)).roundOf = none := hd
  simp only [stepG.apply, Sem.runT_eq, if_true, hr, hro, hn]
  simp [hf]
/-- an operation that defers a call -/
theorem s_putDefer {ops : Array Oper} {i : Nat} {rest : List Nat} {o : Oper} {d : Deferred} {w' : World} (ho : ops[i]? = some o) (hw : Region.wanted o (yielded ops a.tmps) = true) (hd : b.ro = none)
    (hr : (execOp a.eval o).run P w = .ok (.defer d) w') : step P (lone (b.at a (.inRegion ops (i :: rest) :: k)) cs w) = .next (lone (b.at ((⟨a.tmps, d :: a.defers⟩ : Act).put o.dst undef) (.inRegion ops rest :: k)) cs w') := by
  have hf := FB.finish_at b ⟨a.tmps, d :: a.defers⟩ ops i rest k undef
  rw [ho] at hf
  refine step_lone_go ?_
  rw [s_op ho hw (.inl hd)]
  simp only [stepG.apply, Sem.runT_eq, if_true, hr]
  simp only [FB.at] at hf ⊢
  simp [hf]
/- PANICS -/
/-- a frame that panics -/
def FB.pan (b : FB) (a : Act) (todo : List Item) (v : Value) (rec : Bool) : Frame :=
  { fn := b.fn, tmps := a.tmps, todo, defers := a.defers, mode := .panicking [{ v, recovered := rec }], kind := b.kind, roundOf := b.ro }
theorem FB.raise_at (b : FB) (a : Act) (todo : List Item) (v : Value) : (b.at a todo).raise [{ v, recovered := false }] = b.pan a todo v false := rfl
/-- an operation that panics -/
theorem s_panic {ops : Array Oper} {i : Nat} {rest : List Nat} {o : Oper} {v : Value} {w' : World} (ho : ops[i]? = some o) (hw : Region.wanted o (yielded ops a.tmps) = true) (hd : ∀ c, o.op ≠ .defer c)
    (hr : (execOp a.eval o).run P w = .halt (.panic v) w') : step P (lone (b.at a (.inRegion ops (i :: rest) :: k)) cs w) = .next (lone (b.pan a (.inRegion ops (i :: rest) :: k) v false) cs w') := by
  refine step_lone_go ?_
  rw [s_op ho hw (.inr hd)]
  simp only [stepG.apply, Sem.runT_eq, if_true, hr]
  simp [FB.raise_at]
/-- a panic leaves a frame -/
theorem s_panOut {v : Value} {c : Frame} {fn : Func} (hd : a.defers = []) (hf : P.funcs[b.fn]? = some fn) :
    step P (lone (b.pan a k v false) (c :: cs) w) = .next (lone (c.raise [{ v, recovered := false }]) cs w) :=
  step_lone_go (by simp [stepG, unwind, FB.pan, hd, Frame.catches, hf])
/-- a deferred call of a frame that panics -/
theorem s_panDefer {v : Value} {g : FuncId} {as caps : Array Value} {ds : List Deferred} {args : Array Value} {w' : World} (hd : a.defers = { target := .fn (.func g) caps, args := as } :: ds) (hr : (callFunc g (as ++ caps)).run P w = .ok (.enter g args) w') :
    step P (lone (b.pan a k v false) cs w) = .next (lone (Frame.enter P g args .deferred) (b.pan ⟨a.tmps, ds⟩ k v false :: cs) w') :=
  step_lone_go (by simp [stepG, unwind, callDeferred, FB.pan, hd, invoke, Sem.runT_eq, hr])
/-- recover, in a deferred call of a frame that panics -/
theorem s_recovers {ops : Array Oper} {i : Nat} {rest : List Nat} {o : Oper} {w' : World} {b2 : FB} {a2 : Act} {k2 : List Item} {v : Value} (ho : ops[i]? = some o) (hw : Region.wanted o (yielded ops a.tmps) = true) (hd : b.ro = none) (hk : b.kind = .deferred)
    (hr : (execOp a.eval o).run P w = .ok .recover w') : step P (lone (b.at a (.inRegion ops (i :: rest) :: k)) (b2.pan a2 k2 v false :: cs) w) = .next (lone (b.at (a.put o.dst v) (.inRegion ops rest :: k)) (b2.pan a2 k2 v true :: cs) w') := by
  have hf := FB.finish_at b a ops i rest k v
  rw [ho] at hf
  refine step_lone_go ?_
  rw [s_op ho hw (.inl hd)]
  have hro : (b.at a (.inRegion ops (i :: rest) :: k)).roundOf = none := hd
  have htr : tryRecover (b.at a (.inRegion ops (i :: rest) :: k)) (b2.pan a2 k2 v false :: cs) = some (v, b2.pan a2 k2 v true :: cs) := by
    unfold tryRecover
    simp [FB.at, FB.pan, hk]
  simp only [stepG.apply, Sem.runT_eq, if_true, hr, hro, htr]
  simp [hf]
/-- such a call returns: its caller goes on returning -/
theorem s_backR {fn : Func} {v v2 : Value} {b2 : FB} {a2 : Act} {k2 : List Item} (hd : a.defers = []) (hk : b.kind = .deferred) (hf : P.funcs[b.fn]? = some fn) (hres : (results fn a.tmps).run P w = .ok v w) (hro : b2.ro = none) :
    step P (lone (b.back a k) (b2.pan a2 k2 v2 true :: cs) w) = .next (lone (b2.back a2 k2) cs w) :=
  step_lone_go (by simp [stepG, unwind, doReturn, FB.back, FB.pan, hd, hk, hf, hres, hro])
end moves
end Go.Ev
