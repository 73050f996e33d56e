/- From a run of the evaluator to a call of the model. -/
import Derived.Test.YtnefaadihgbobaaGreatDoorEvMain
import Derived.ChangeArms
import Derived.Lib.LaidU8
import GoSem.ClaimJoined
set_option linter.unusedSimpArgs false
set_option linter.unusedVariables false
namespace Go.Ev
variable {P : Program} {G : Nat} {σ σ' : Sig} {h h' : H} {w w' : World} {v : AV} {nt : Nat} {f f' : L2} {a a' : Act} {ctx : CallT} {b : FB} {cs : List Frame}

/- FLAT DATA -/
def flatEach (P : Program) (fl : TypeId → DataW Unit → Option (List AV)) (total : Nat) : List (TypeId × Nat) → Nat → List (DataW Unit) → Option (List AV)
  | [], o, [] => if o = total then some [] else none
  | (t, off) :: fs, o, d :: ds =>
    if off = o then
      match fl t d with
      | some l => match flatEach P fl total fs (o + P.cellsOf t) ds with
        | some r => some (l ++ r)
        | none => none
      | none => none
    else none
  | _, _, _ => none
def flatN (P : Program) : Nat → TypeId → DataW Unit → Option (List AV)
  | 0, _, _ => none
  | k + 1, t, d =>
    match P.underlying t, d with
    | some .bool, .lit (.bool b) => some [.bool b]
    | some (.int _), .lit (.int k' n) => some [.int k' n]
    | some .string, .lit (.string bs) => some [.str (bs.map UInt8.toNat)]
    | some (.struct fs), .agg ds => flatEach P (flatN P k) (P.cellsOf t) (fs.toList.map fun f => (f.type, f.offset)) 0 ds
    | some (.array n e), .agg ds => flatEach P (flatN P k) (P.cellsOf t) ((List.range n).map fun i => (e, i * P.cellsOf e)) 0 ds
    | _, _ => none
theorem mapM_get {α β : Type} {g : α → Option β} : ∀ {l : List α} {xs : List β}, l.mapM g = some xs → xs.length = l.length ∧ ∀ (i : Nat) (a : α), l[i]? = some a → ∃ b, xs[i]? = some b ∧ g a = some b := by
  intro l
  induction l with
  | nil => intro xs h; simp at h; subst h; exact ⟨rfl, fun i a hi => by simp at hi⟩
  | cons x l ih =>
    intro xs h
    rw [List.mapM_cons] at h
    cases hx : g x with
    | none => simp [hx] at h
    | some y =>
      cases hl : l.mapM g with
      | none => simp [hx, hl] at h
      | some ys =>
        simp [hx, hl] at h
        subst h
        obtain ⟨h1, h2⟩ := ih hl
        refine ⟨by simp [h1], fun i a hi => ?_⟩
        cases i with
        | zero => simp at hi; subst hi; exact ⟨y, by simp, hx⟩
        | succ i => simp at hi; obtain ⟨z, h3, h4⟩ := h2 i a hi; exact ⟨z, by simpa using h3, h4⟩
/-- what reads as a flat datum holds its cells -/
abbrev Reads (P : Program) (w : World) (fuel : Nat) (t : TypeId) (cs : List Value) := DataW.trod (fun _ => ()) P w 0 (fun _ => true) false fuel t cs
theorem flat_each {fl : TypeId → DataW Unit → Option (List AV)} {w : World} {σ : Sig} (hfl : ∀ t d l fuel cs p, fl t d = some l → Reads P w fuel t cs = some (d, p) → LRel σ l cs) (total : Nat) :
    ∀ (fs : List (TypeId × Nat)) (o : Nat) (ds : List (DataW Unit)) (l : List AV) (cs : List Value), flatEach P fl total fs o ds = some l → cs.length = total → ds.length = fs.length →
      (∀ (i : Nat) (f : TypeId × Nat), fs[i]? = some f → ∃ fuel d p, ds[i]? = some d ∧ Reads P w fuel f.1 ((cs.drop f.2).take (P.cellsOf f.1)) = some (d, p)) → LRel σ l (cs.drop o) := by
  intro fs
  induction fs with
  | nil =>
    intro o ds l cs h hcs hlen hall
    cases ds with
    | nil =>
      simp only [flatEach] at h
      split at h
      · rename_i ho
        cases h
        rw [List.drop_of_length_le (by omega)]
        exact .nil σ
      · cases h
    | cons d ds => simp at hlen
  | cons f fs ihf =>
    intro o ds l cs h hcs hlen hall
    cases ds with
    | nil => simp at hlen
    | cons d ds =>
      obtain ⟨t, off⟩ := f
      simp only [flatEach] at h
      split at h
      · rename_i hoff
        subst hoff
        split at h
        · rename_i l1 hl1
          split at h
          · rename_i r hr
            cases h
            obtain ⟨fuel, d', p, hd, htr⟩ := hall 0 (t, off) rfl
            simp at hd
            subst hd
            have q1 := hfl t d l1 fuel _ p hl1 htr
            have q2 := ihf (off + P.cellsOf t) ds r cs hr hcs (by simpa using hlen) (fun i f hf => by
              obtain ⟨fuel, d', p, hd, htr⟩ := hall (i + 1) f (by simpa using hf)
              exact ⟨fuel, d', p, by simpa using hd, htr⟩)
            have := q1.append q2
            rw [← List.drop_drop, List.take_append_drop] at this
            exact this
          · cases h
        · cases h
      · cases h
theorem flat_rel (w : World) (σ : Sig) : ∀ (k : Nat) (t : TypeId) (d : DataW Unit) (l : List AV) (fuel : Nat) (cs : List Value) (p : List MemPlace), flatN P k t d = some l → Reads P w fuel t cs = some (d, p) → LRel σ l cs := by
  intro k
  induction k with
  | zero => intro t d l fuel cs p h; simp [flatN] at h
  | succ k ih =>
    intro t d l fuel cs p h ht
    simp only [flatN] at h
    split at h
    · rename_i b hu
      cases h
      obtain ⟨b', rfl, hx⟩ := DataW.trod_bool hu ht
      cases hx
      exact .cons (.bool _) (.nil σ)
    · rename_i kk k' n hu
      cases h
      obtain ⟨n', rfl, hx, _⟩ := DataW.trod_int hu ht
      cases hx
      exact .cons (.int _ _) (.nil σ)
    · rename_i bs hu
      cases h
      obtain ⟨s, rfl, hx, _⟩ := DataW.trod_string hu ht
      cases hx
      exact .cons (.str s) (.nil σ)
    · rename_i fs ds hu
      obtain ⟨xs, n, rfl, hx, hl, hxl, hall⟩ := DataW.trod_struct hu ht
      have hds : ds = xs.map (·.1) := by have := congrArg Prod.fst hx; simpa using this
      have := flat_each ih (P.cellsOf t) (fs.toList.map fun f => (f.type, f.offset)) 0 ds l cs h hl (by simp [hds, hxl]) (by
        intro i f hf
        rw [List.getElem?_map, Option.map_eq_some_iff] at hf
        obtain ⟨fd, hfd, rfl⟩ := hf
        have hfd' : fs[i]? = some fd := by simpa using hfd
        have h3 := hall i fd hfd'
        have hi : i < xs.length := by rw [hxl]; exact (Array.getElem?_eq_some_iff.1 hfd').1
        rw [List.getElem?_eq_getElem hi] at h3
        exact ⟨n, (xs[i]).1, (xs[i]).2, by rw [hds, List.getElem?_map, List.getElem?_eq_getElem hi]; rfl, h3⟩)
      simpa using this
    · rename_i n e ds hu
      cases fuel with
      | zero => simp [DataW.trod] at ht
      | succ fuel =>
        unfold Reads at ht
        simp only [DataW.trod, hu] at ht
        split at ht
        · rename_i hl
          obtain ⟨xs, hm, hx⟩ := Option.map_eq_some_iff.1 ht
          have hds : ds = xs.map (·.1) := by have := congrArg Prod.fst hx; simpa using this.symm
          obtain ⟨hxl, hall⟩ := mapM_get hm
          have := flat_each ih (P.cellsOf t) ((List.range n).map fun i => (e, i * P.cellsOf e)) 0 ds l cs h hl (by simp [hds, hxl]) (by
            intro i f hf
            rw [List.getElem?_map, Option.map_eq_some_iff] at hf
            obtain ⟨j, hj, rfl⟩ := hf
            obtain ⟨y, h3, h4⟩ := hall i j hj
            exact ⟨fuel, y.1, y.2, by rw [hds, List.getElem?_map, h3]; rfl, h4⟩)
          simpa using this
        · cases ht
    · cases h
/- VALUES WITHOUT AN ADDRESS, and what is weaker than a value -/
/-- y says no more than x, and bears no address -/
noncomputable def leN : Nat → AV → AV → Bool
  | 0, _, _ => false
  | d + 1, x, y =>
    match y with
    | .top => true
    | .bool b => (match x with | .bool a => beqB a b | _ => false)
    | .int k' b => (match x with | .int k a => Bool.rec (motive := fun _ => Bool) false (ieq a b) (kEq k k') | _ => false)
    | .str b => (match x with | .str a => strEq a b | _ => false)
    | .nptr => (match x with | .nptr => true | _ => false)
    | .nsl => (match x with | .nsl => true | _ => false)
    | .nmap => (match x with | .nmap => true | _ => false)
    | .nfn => (match x with | .nfn => true | _ => false)
    | .nifc => (match x with | .nifc => true | _ => false)
    | .ifc t' v => (match x with | .ifc t u => Bool.rec (motive := fun _ => Bool) false (leN d u v) (Nat.beq t t') | _ => false)
    | .agg ys => (match x with | .agg xs => List.rec (motive := fun _ => List AV → Bool) (fun ys => List.rec (motive := fun _ => Bool) true (fun _ _ _ => false) ys) (fun x _ ih ys => List.rec (motive := fun _ => Bool) false (fun y ys _ => Bool.rec (motive := fun _ => Bool) false (ih ys) (leN d x y)) ys) xs ys | _ => false)
    | .tup ys => (match x with | .tup xs => List.rec (motive := fun _ => List AV → Bool) (fun ys => List.rec (motive := fun _ => Bool) true (fun _ _ _ => false) ys) (fun x _ ih ys => List.rec (motive := fun _ => Bool) false (fun y ys _ => Bool.rec (motive := fun _ => Bool) false (ih ys) (leN d x y)) ys) xs ys | _ => false)
    | _ => false
noncomputable def lesN (d : Nat) (xs ys : List AV) : Bool := List.rec (motive := fun _ => List AV → Bool) (fun ys => List.rec (motive := fun _ => Bool) true (fun _ _ _ => false) ys) (fun x _ ih ys => List.rec (motive := fun _ => Bool) false (fun y ys _ => Bool.rec (motive := fun _ => Bool) false (ih ys) (leN d x y)) ys) xs ys
theorem lesN_cons (d : Nat) (x y : AV) (xs ys : List AV) : lesN d (x :: xs) (y :: ys) = Bool.rec (motive := fun _ => Bool) false (lesN d xs ys) (leN d x y) := rfl
theorem lesN_rel {d : Nat} (hd : ∀ (x y : AV) (v : Value) (σ σ' : Sig), leN d x y = true → VRel σ x v → VRel σ' y v) : ∀ (xs ys : List AV) (vs : List Value) (σ σ' : Sig), lesN d xs ys = true → LRel σ xs vs → LRel σ' ys vs := by
  intro xs
  induction xs with
  | nil =>
    intro ys vs σ σ' h hr
    cases ys with
    | nil => have := hr.unnil; subst this; exact .nil σ'
    | cons y ys => cases h
  | cons x xs ih =>
    intro ys vs σ σ' h hr
    cases ys with
    | nil => cases h
    | cons y ys =>
      rw [lesN_cons] at h
      obtain ⟨h1, h2⟩ := iteB h
      obtain ⟨v, vs', rfl, q1, q2⟩ := hr.uncons
      exact .cons (hd x y v σ σ' h1 q1) (ih ys vs' σ σ' h2 q2)
theorem leN_rel : ∀ (d : Nat) (x y : AV) (v : Value) (σ σ' : Sig), leN d x y = true → VRel σ x v → VRel σ' y v := by
  intro d
  induction d with
  | zero => intro x y v σ σ' h; cases h
  | succ d ih =>
    intro x y v σ σ' h hr
    cases y with
    | top => exact .top v
    | bool b =>
      cases x <;> first | (cases h; done) | skip
      rename_i a
      have h' : beqB a b = true := h
      rw [beqB_eq] at h'
      have : a = b := by simpa using h'
      subst this
      cases hr; exact .bool _
    | int k' b =>
      cases x <;> first | (cases h; done) | skip
      rename_i k a
      obtain ⟨h1, h2⟩ := iteB (show (Bool.rec (motive := fun _ => Bool) false (ieq a b) (kEq k k') : Bool) = true from h)
      have := (kEq_eq k k').1 h1
      subst this
      rw [ieq_eq] at h2
      have : a = b := by simpa using h2
      subst this
      cases hr; exact .int _ _
    | str b =>
      cases x <;> first | (cases h; done) | skip
      rename_i a
      have h' : strEq a b = true := h
      rw [strEq_eq] at h'
      have : a = b := by simpa using h'
      subst this
      cases hr; exact .str _
    | nptr => cases x <;> first | (cases h; done) | skip; cases hr; exact .nptr
    | nsl => cases x <;> first | (cases h; done) | skip; cases hr; exact .nsl
    | nmap => cases x <;> first | (cases h; done) | skip; cases hr; exact .nmap
    | nfn => cases x <;> first | (cases h; done) | skip; cases hr; exact .nfn
    | nifc => cases x <;> first | (cases h; done) | skip; cases hr; exact .nifc
    | ifc t' u' =>
      cases x <;> first | (cases h; done) | skip
      rename_i t u
      obtain ⟨h1, h2⟩ := iteB (show (Bool.rec (motive := fun _ => Bool) false (leN d u u') (Nat.beq t t') : Bool) = true from h)
      have := beq_eqN h1
      subst this
      cases hr
      rename_i v' hv
      exact .ifc _ _ _ (ih u u' v' σ σ' h2 hv)
    | agg ys =>
      cases x <;> first | (cases h; done) | skip
      rename_i xs
      have h' : lesN d xs ys = true := h
      cases hr
      rename_i cs' hl hh
      have := lesN_rel ih xs ys cs'.toList σ σ' h' ⟨hl, hh⟩
      exact .agg ys cs' this.1 this.2
    | tup ys =>
      cases x <;> first | (cases h; done) | skip
      rename_i xs
      have h' : lesN d xs ys = true := h
      cases hr
      rename_i cs' hl hh
      have := lesN_rel ih xs ys cs'.toList σ σ' h' ⟨hl, hh⟩
      exact .tup ys cs' this.1 this.2
    | ptr b o => cases h
    | sl b o l c z e => cases h
    | map r => cases h
    | fn f a c => cases h
/-- without an address at all: it says what it says in every state -/
noncomputable def ftV (x : AV) : Bool := leN 8 x x
theorem ftV_rel {x : AV} {y : Value} (hf : ftV x = true) (h : VRel σ x y) (σ' : Sig) : VRel σ' x y := leN_rel 8 x x y σ σ' hf h
theorem ftL_rel {l : List AV} {vs : List Value} (hf : l.all ftV = true) (h : LRel σ l vs) (σ' : Sig) : LRel σ' l vs :=
  ⟨h.1, fun i x y hx hy => ftV_rel (List.all_eq_true.1 hf x (List.mem_of_getElem? hx)) (h.2 i x y hx hy) σ'⟩
/- flat values: equality -/
theorem flatV_rel {x : AV} {y : Value} (hf : flatV x = true) (h : VRel σ x y) (σ' : Sig) : VRel σ' x y := by
  cases h <;> first | (cases hf; done) | skip
  · exact .bool _
  · exact .int _ _
  · exact .str _
theorem flatL_rel {l : List AV} {vs : List Value} (hf : l.all flatV = true) (h : LRel σ l vs) (σ' : Sig) : LRel σ' l vs :=
  ⟨h.1, fun i x y hx hy => flatV_rel (List.all_eq_true.1 hf x (List.mem_of_getElem? hx)) (h.2 i x y hx hy) σ'⟩
/- THE FIRST HEAP: the package-level variables whose contents are known -/
structure GE where
  g : Nat
  l : List AV
  t : TypeId
noncomputable def glM (gl : List GE) : K6 := List.rec (motive := fun _ => K6) K6.new (fun e _ ih => ih.set e.g (.cells e.l e.t .exact)) gl
noncomputable def glH (gl : List GE) (n : Nat) : H := ⟨glM gl, n, []⟩
/-- all lie below n, hold flat values, and no two are one -/
noncomputable def glOk (n : Nat) : List GE → Bool
  | [] => true
  | e :: gl => Nat.blt e.g n && (gl.all fun e' => bnot (Nat.beq e'.g e.g)) && e.l.all flatV && glOk n gl
theorem glM_get {n : Nat} (hn : n ≤ lim) : ∀ (gl : List GE), glOk n gl = true → ∀ j, j < lim → (∃ e ∈ gl, e.g = j ∧ (glM gl).get j = .cells e.l e.t .exact) ∨ ((∀ e ∈ gl, e.g ≠ j) ∧ (glM gl).get j = .none) := by
  intro gl
  induction gl with
  | nil => intro _ j hj; exact .inr ⟨fun e he => (by cases he), K6.get_new j⟩
  | cons e gl ih =>
    intro hok j hj
    simp only [glOk, Bool.and_eq_true] at hok
    obtain ⟨⟨⟨h1, h2⟩, h3⟩, h4⟩ := hok
    have hlt : e.g < lim := Nat.lt_of_lt_of_le (blt_lt h1) hn
    have hg : (glM (e :: gl)).get j = if j = e.g then .cells e.l e.t .exact else (glM gl).get j := K6.get_set (glM gl) e.g j _ hlt hj
    rw [hg]
    by_cases hje : j = e.g
    · rw [if_pos hje]
      exact .inl ⟨e, by simp, hje.symm, rfl⟩
    · rw [if_neg hje]
      rcases ih h4 j hj with ⟨e', q1, q2, q3⟩ | ⟨q1, q2⟩
      · exact .inl ⟨e', by simp [q1], q2, q3⟩
      · refine .inr ⟨fun e' he' => ?_, q2⟩
        rcases List.mem_cons.1 he' with rfl | he'
        · exact fun hh => hje hh.symm
        · exact q1 e' he'
theorem glOk_get {n : Nat} : ∀ {gl : List GE}, glOk n gl = true → ∀ e ∈ gl, e.g < n ∧ e.l.all flatV = true := by
  intro gl
  induction gl with
  | nil => intro _ e he; cases he
  | cons x gl ih =>
    intro hok e he
    simp only [glOk, Bool.and_eq_true] at hok
    obtain ⟨⟨⟨h1, h2⟩, h3⟩, h4⟩ := hok
    rcases List.mem_cons.1 he with rfl | he
    · exact ⟨blt_lt h1, h3⟩
    · exact ih h4 e he
theorem glH_inv {n : Nat} {gl : List GE} (hn : n ≤ lim) (hok : glOk n gl = true) : AInv (glH gl n) := by
  have hcase := glM_get hn gl hok
  have hcls : ∀ j, j < lim → clsAO ((glH gl n).m.get j) = none ∧ tipOf ((glH gl n).m.get j) = none ∧ ∀ l t k st, (glH gl n).m.get j ≠ .cells l t (.old k st) := by
    intro j hj
    show clsAO ((glM gl).get j) = none ∧ tipOf ((glM gl).get j) = none ∧ ∀ l t k st, (glM gl).get j ≠ .cells l t (.old k st)
    rcases hcase j hj with ⟨e, _, _, q⟩ | ⟨_, q⟩
    · rw [q]; exact ⟨rfl, rfl, fun l t k st hh => by cases hh⟩
    · rw [q]; exact ⟨rfl, rfl, fun l t k st hh => by cases hh⟩
  refine ⟨hn, ?_, ?_, ?_, ?_, ?_⟩
  · intro j h1 h2
    show (glM gl).get j = .none
    rcases hcase j h2 with ⟨e, q1, q2, _⟩ | ⟨_, q⟩
    · have := (glOk_get hok e q1).1
      have h1' : n ≤ j := h1
      omega
    · exact q
  · intro j k h1 h2; rw [(hcls j h1).1] at h2; cases h2
  · intro j j' k h1 h2 h3; rw [(hcls j h1).2.1] at h3; cases h3
  · intro j l t k st n h1 h2; exact absurd h2 ((hcls j h1).2.2 l t k st)
  · intro j j' l t k st l' t' h1 h2 h3; exact absurd h3 ((hcls j h1).2.2 l t k st)
/-- the variables are as they were -/
noncomputable def globOk (gl : List GE) (h : H) : Bool :=
  match gl with
  | [] => true
  | e :: gl => match h.m.get e.g with
    | .cells l t .exact => Bool.rec (motive := fun _ => Bool) false (Bool.rec (motive := fun _ => Bool) false (globOk gl h) (Nat.beq t e.t)) (avsEq l e.l)
    | _ => false
theorem globOk_get : ∀ {gl : List GE}, globOk gl h = true → ∀ e ∈ gl, h.m.get e.g = .cells e.l e.t .exact := by
  intro gl
  induction gl with
  | nil => intro _ e he; cases he
  | cons x gl ih =>
    intro hh e he
    unfold globOk at hh
    split at hh
    · rename_i l t hg
      obtain ⟨h1, h2⟩ := iteB hh
      obtain ⟨h3, h4⟩ := iteB h2
      have := (avsEq_eq h1).1
      subst this
      have := beq_eqN h3
      subst this
      rcases List.mem_cons.1 he with rfl | he
      · exact hg
      · exact ih h4 e he
    · cases hh
/-- nothing below n was written -/
noncomputable def lgOk (n : Nat) (l : List Nat) : Bool := List.rec (motive := fun _ => Bool) true (fun x _ ih => Bool.rec (motive := fun _ => Bool) false ih (Nat.ble n x)) l
theorem lgOk_get {n : Nat} : ∀ {l : List Nat}, lgOk n l = true → ∀ x ∈ l, n ≤ x := by
  intro l
  induction l with
  | nil => intro _ x hx; cases hx
  | cons y l ih =>
    intro hh x hx
    obtain ⟨h1, h2⟩ := iteB (show (Bool.rec (motive := fun _ => Bool) false (lgOk n l) (Nat.ble n y) : Bool) = true from hh)
    rcases List.mem_cons.1 hx with rfl | hx
    · exact ble_le h1
    · exact ih h2 x hx
/-- a run from the first heap gave v, or what says more, wrote no variable, and its heap did not run out -/
noncomputable def ranTo (n : Nat) (v : AV) (r : OR) : Bool := match r with
  | .ok u h => Bool.rec (motive := fun _ => Bool) false (Bool.rec (motive := fun _ => Bool) false (lgOk n h.lg) (Nat.ble h.nx 262144)) (leN 8 u v)
  | .bad _ => false
theorem ranTo_get {n : Nat} {r : OR} (hh : ranTo n v r = true) : ∃ u h', r = .ok u h' ∧ h'.nx ≤ lim ∧ (∀ x ∈ h'.lg, n ≤ x) ∧ leN 8 u v = true := by
  unfold ranTo at hh
  split at hh
  · rename_i u h'
    obtain ⟨h1, h2⟩ := iteB hh
    obtain ⟨h3, h4⟩ := iteB h2
    exact ⟨u, h', rfl, ble_le h3, lgOk_get h4, h1⟩
  · cases hh
end Go.Ev
