/- Maps. -/
import Derived.Test.YtnefaadihgbobaaGreatDoorEvOp6
set_option linter.unusedSimpArgs false
set_option linter.unusedVariables false
namespace Go.Ev
variable {P : Program} {G : Nat} {σ : Sig} {h h' : H} {w w' : World} {v : AV} {nt : Nat} {f : L2} {a : Act} {ctx : CallT}
section ops
variable {dst : Option Tmp} {ty : TypeId} {pos : String} {af : Array Edge} {gd : Option (Nat × Bool)}
theorem checkKey_scalar {kt : TypeId} {d : TypeDesc} (hu : P.underlying kt = some d) (h1 : ∀ m, d ≠ .interface m) (h2 : ∀ n e, d ≠ .array n e) (h3 : ∀ fs, d ≠ .struct fs) (e : Bool) (n : Nat) (x : Value) (w : World) :
    (Instr.checkKey e (n + 1) kt x).run P w = .ok () w := by
  simp only [Instr.checkKey, Sem.run_bind, run_underlying hu, Result.andThen_ok]
  cases d <;> first | rfl | (exact absurd rfl (h1 _)) | (exact absurd rfl (h2 _ _)) | (exact absurd rfl (h3 _))
/-- a scalar key: what '==' says is what the look-up sees, and equal keys are the same -/
theorem scalar_key {kt : TypeId} (hk : scalar P kt = true) : ∃ d, P.underlying kt = some d ∧ (∀ (x y : AV) (x' y' : Value) (b : Bool), aeq P 3 kt x y = some b → VRel σ x x' → VRel σ y y' →
      Instr.sameNow d x' y' = some b ∧ (b = true → Instr.sameBits 10000 y' x' = true)) ∧ (∀ (e : Bool) (x' : Value) (w : World), (Instr.checkKey e 10000 kt x').run P w = .ok () w) := by
  have hs := tk_says P kt
  unfold scalar at hk
  cases ht : tk P kt <;> rw [ht] at hk hs <;> first | (cases hk; done) | skip
  · have hu : P.underlying kt = some .bool := hs
    refine ⟨.bool, hu, ?_, fun e x' w => checkKey_scalar hu (by simp) (by simp) (by simp) e 9999 x' w⟩
    intro x y x' y' b hq hx hy
    have hq' : aeqStep P (aeq P 2) kt x y = some b := hq
    unfold aeqStep at hq'
    rw [ht] at hq'
    dsimp only at hq'
    split at hq'
    · rename_i b1 b2 h1 h2
      rw [vB_yes h1] at hx; rw [vB_yes h2] at hy
      cases hx; cases hy; cases hq'
      refine ⟨rfl, fun hb => ?_⟩
      have : b1 = b2 := by simpa using hb
      simp [Instr.sameBits, this]
    · cases hq'
  · obtain ⟨k, hu⟩ := hs
    refine ⟨.int k, hu, ?_, fun e x' w => checkKey_scalar hu (by simp) (by simp) (by simp) e 9999 x' w⟩
    intro x y x' y' b hq hx hy
    have hq' : aeqStep P (aeq P 2) kt x y = some b := hq
    unfold aeqStep at hq'
    rw [ht] at hq'
    dsimp only at hq'
    split at hq'
    · rename_i k1 n1 k2 n2 h1 h2
      rw [vI_yes h1] at hx; rw [vI_yes h2] at hy
      cases hx; cases hy
      cases hkk : kEq k1 k2 with
      | false => rw [hkk] at hq'; cases hq'
      | true =>
        rw [hkk] at hq'
        have e1 := (kEq_eq k1 k2).1 hkk
        subst e1
        cases hq'
        rw [ieq_eq]
        refine ⟨by simp [Instr.sameNow], fun hb => ?_⟩
        have : n1 = n2 := by simpa using hb
        simp [Instr.sameBits, this]
    · cases hq'
  · have hu : P.underlying kt = some .string := hs
    refine ⟨.string, hu, ?_, fun e x' w => checkKey_scalar hu (by simp) (by simp) (by simp) e 9999 x' w⟩
    intro x y x' y' b hq hx hy
    have hq' : aeqStep P (aeq P 2) kt x y = some b := hq
    unfold aeqStep at hq'
    rw [ht] at hq'
    dsimp only at hq'
    split at hq'
    · rename_i s1 s2 h1 h2
      rw [vS_yes h1] at hx; rw [vS_yes h2] at hy
      cases hx; cases hy; cases hq'
      rw [strEq_b]
      refine ⟨by simp [Instr.sameNow, beq_toListBytes], fun hb => ?_⟩
      rename_i c1 c2
      have e1 : (c2 == c1) = (c1 == c2) := by
        rw [beq_toListBytes, beq_toListBytes, Bool.eq_iff_iff]
        simp only [beq_iff_eq]
        exact ⟨fun hh => hh.symm, fun hh => hh.symm⟩
      simp only [Instr.sameBits, e1, beq_toListBytes]
      exact hb
    · cases hq'
theorem val_of_avs {a b : List AV} {a' b' : Array Value} (h : avsEq b a = true) (ha : LRel σ a a'.toList) (hb : LRel σ b b'.toList) : b' = a' := by
  obtain ⟨rfl, hf⟩ := avsEq_eq h
  apply Array.ext'
  apply List.ext_getElem?
  intro i
  cases hx : b[i]? with
  | none =>
    have h1 : b.length ≤ i := by simpa using hx
    have h2 := ha.1
    have h3 := hb.1
    rw [List.getElem?_eq_none (by omega), List.getElem?_eq_none (by omega)]
  | some x =>
    obtain ⟨y, q1, q2⟩ := hb.get hx
    obtain ⟨z, q3, q4⟩ := ha.get hx
    rw [q1, q3]
    have hfx := List.all_eq_true.1 hf x (List.mem_of_getElem? hx)
    cases x <;> first | (cases hfx; done) | skip
    · cases q2; cases q4; rfl
    · cases q2; cases q4; rfl
    · generalize hs : AV.str _ = u at q2 q4
      cases q2 <;> first | (cases hs; done) | skip
      rename_i s1
      generalize hs2 : AV.str (bytesOf s1) = u at q4
      cases q4 <;> first | (cases hs2; done) | skip
      rename_i s2
      injection hs2 with h5
      have : s1 = s2 := by
        apply ByteArray.ext
        apply Array.ext'
        exact (List.map_inj_right (fun x y hxy => UInt8.toNat_inj.1 hxy)).1 h5
      rw [this]
theorem sameBits_self : ∀ (l : List AV) (l' : List Value) (n : Nat), l.all flatV = true → LRel σ l l' → ((l'.zip l').all fun (p : Value × Value) => Instr.sameBits n p.1 p.2) = true := by
  intro l
  induction l with
  | nil => intro l' n _ hr; have := hr.unnil; subst this; rfl
  | cons x l ih =>
    intro l' n hf hr
    obtain ⟨y, l2, rfl, q1, q2⟩ := hr.uncons
    simp only [List.all_cons, Bool.and_eq_true] at hf
    simp only [List.zip_cons_cons, List.all_cons, Bool.and_eq_true]
    refine ⟨?_, ih l2 n hf.2 q2⟩
    have hfx := hf.1
    cases q1 <;> first | (cases hfx; done) | (cases n <;> simp [Instr.sameBits, beq_toListBytes])
theorem scalar_desc {t : TypeId} (hk : scalar P t = true) : ∃ d, P.underlying t = some d ∧ (∀ m, d ≠ .interface m) ∧ (∀ n e, d ≠ .array n e) ∧ (∀ fs, d ≠ .struct fs) := by
  have hs := tk_says P t
  unfold scalar at hk
  cases ht : tk P t <;> rw [ht] at hk hs <;> first | (cases hk; done) | skip
  · exact ⟨_, hs, by simp, by simp, by simp⟩
  · obtain ⟨k, hu⟩ := hs; exact ⟨_, hu, by simp, by simp, by simp⟩
  · exact ⟨_, hs, by simp, by simp, by simp⟩
theorem checkKey_part {t : TypeId} (hk : scalar P t = true) (e : Bool) (n : Nat) (x : Value) (w : World) : (Instr.checkKey e (n + 1) t x).run P w = .ok () w := by
  obtain ⟨d, hu, h1, h2, h3⟩ := scalar_desc hk
  exact checkKey_scalar hu h1 h2 h3 e n x w
theorem run_forIn_list {α : Type} (g : α → PUnit → Sem (ForInStep PUnit)) (w : World) : ∀ (l : List α), (∀ x ∈ l, (g x ⟨⟩).run P w = .ok (.yield ⟨⟩) w) → (forIn l ⟨⟩ g : Sem PUnit).run P w = .ok ⟨⟩ w := by
  intro l
  induction l with
  | nil => intro _; simp
  | cons x l ih =>
    intro hh
    rw [List.forIn_cons]
    simp only [Sem.run_bind, hh x (by simp), Result.andThen_ok]
    exact ih (fun y hy => hh y (by simp [hy]))
/-- keys: what '==' says is what the look-up finds -/
structure KSpec (P : Program) (σ : Sig) (kt : TypeId) (d : TypeDesc) : Prop where
  und : P.underlying kt = some d
  eq : (∀ (x y : AV) (x' y' : Value) (b : Bool), keyEq P kt x y = some b → VRel σ x x' → VRel σ y y' → Instr.sameNow d x' y' = some b) ∨
    ((∀ u v, Instr.sameNow d u v = none) ∧ ∀ (x y : AV) (x' y' : Value) (b : Bool), keyEq P kt x y = some b → VRel σ x x' → VRel σ y y' → ∀ w, (Op.equal kt x' y').run P w = .ok b w)
  bits : ∀ (x y : AV) (x' y' : Value), keyEq P kt x y = some true → VRel σ x x' → VRel σ y y' → Instr.sameBits 10000 y' x' = true
  chk : ∀ (x : AV) (x' : Value), keyChk P kt x = true → VRel σ x x' → ∀ (e : Bool) (w : World), (Instr.checkKey e 10000 kt x').run P w = .ok () w
theorem keyEq_aeq {kt : TypeId} {x y : AV} {b : Bool} (h : keyEq P kt x y = some b) : aeq P 3 kt x y = some b ∧ (b = true → keySame P kt x y = true) := by
  unfold keyEq at h
  split at h
  · rename_i he
    cases hs : keySame P kt x y with
    | false => rw [hs] at h; cases h
    | true => rw [hs] at h; cases h; exact ⟨he, fun _ => rfl⟩
  · rename_i he; cases h; exact ⟨he, fun hh => by cases hh⟩
  · cases h
theorem key_bits_agg {kt : TypeId} {x y : AV} {x' y' : Value} (hs : (match vA x, vA y with | .yes a, .yes b => avsEq b a | _, _ => false) = true) (hx : VRel σ x x') (hy : VRel σ y y') : Instr.sameBits 10000 y' x' = true := by
  split at hs
  · rename_i a b h1 h2
    rw [vA_yes h1] at hx
    rw [vA_yes h2] at hy
    cases hx; cases hy
    rename_i a' hl hh b' hl2 hh2
    have hab := val_of_avs hs (⟨hl, hh⟩ : LRel σ a a'.toList) (⟨hl2, hh2⟩ : LRel σ b b'.toList)
    subst hab
    obtain ⟨rfl, hf⟩ := avsEq_eq hs
    have := sameBits_self (σ := σ) b b'.toList 9999 hf ⟨hl2, hh2⟩
    simp only [Instr.sameBits, beq_self_eq_true, Bool.true_and]
    exact this
  · cases hs
theorem key_spec {kt : TypeId} (hk : keyOk P kt = true) : ∃ d, KSpec P σ kt d := by
  by_cases hsc : scalar P kt = true
  · obtain ⟨d, hud, hkey, hck⟩ := scalar_key (P := P) (σ := σ) hsc
    exact ⟨d, hud, .inl (fun x y x' y' b h hx hy => (hkey x y x' y' b (keyEq_aeq h).1 hx hy).1), fun x y x' y' h hx hy => (hkey x y x' y' true (keyEq_aeq h).1 hx hy).2 rfl, fun x x' _ _ e w => hck e x' w⟩
  · have hs := tk_says P kt
    have heq : ∀ (x y : AV) (x' y' : Value) (b : Bool), keyEq P kt x y = some b → VRel σ x x' → VRel σ y y' → ∀ w, (Op.equal kt x' y').run P w = .ok b w :=
      fun x y x' y' b h hx hy w => aeq_sound P σ 3 kt x y b x' y' (keyEq_aeq h).1 hx hy Op.maxDepth w (by decide)
    unfold keyOk at hk
    unfold scalar at hsc
    cases ht : tk P kt <;> rw [ht] at hk hsc hs <;> first | (cases hk; done) | (exact absurd rfl hsc) | skip
    · rename_i fs
      obtain ⟨l, hu, _, hfs⟩ := hs
      refine ⟨.struct l, hu, .inr ⟨fun u v => by simp [Instr.sameNow], heq⟩, ?_, ?_⟩
      · intro x y x' y' h hx hy
        have h2 := (keyEq_aeq h).2 rfl
        unfold keySame at h2
        rw [ht] at h2
        exact key_bits_agg (kt := kt) h2 hx hy
      · intro x x' hc hx e w
        unfold keyChk at hc
        rw [ht] at hc
        dsimp only at hc
        split at hc
        · rename_i cs hv
          rw [vA_yes hv] at hx
          cases hx
          rename_i cs' hl hh
          have key : ∀ n, (Instr.checkKey e (n + 2) kt (.agg cs')).run P w = .ok () w := by
            intro n
            rw [Instr.checkKey]
            simp only [Sem.run_bind, run_underlying hu, Result.andThen_ok]
            rw [← Array.forIn_toList]
            refine Eq.trans (congrArg (fun r => Result.andThen r (fun _ w' => Sem.run P (pure ()) w')) (run_forIn_list _ w _ (fun f hf => ?_))) (by simp)
            by_cases hn : f.name = "_"
            · simp [hn]
            · have hmem : (f.type, f.offset) ∈ fs := by
                rw [hfs, List.mem_map]
                exact ⟨f, List.mem_filter.2 ⟨hf, by simp [hn]⟩, rfl⟩
              have h3 := List.all_eq_true.1 hc _ hmem
              rw [Bool.and_eq_true] at h3
              obtain ⟨u, hu2⟩ := Option.isSome_iff_exists.1 h3.2
              obtain ⟨u', hu', _⟩ := run_part (P := P) (σ := σ) hu2 (cs' := cs') ⟨hl, hh⟩ w
              simp [hn, hu', checkKey_part h3.1]
          exact key 9998
        · cases hc
    · rename_i n e s
      obtain ⟨inf, hu, hi1, hi2⟩ := hs
      refine ⟨.array n e, hu, .inr ⟨fun u v => by simp [Instr.sameNow], heq⟩, ?_, ?_⟩
      · intro x y x' y' h hx hy
        have h2 := (keyEq_aeq h).2 rfl
        unfold keySame at h2
        rw [ht] at h2
        exact key_bits_agg (kt := kt) h2 hx hy
      · intro x x' hc hx e' w
        unfold keyChk at hc
        rw [ht] at hc
        dsimp only at hc
        split at hc
        · rename_i cs hv
          rw [vA_yes hv] at hx
          cases hx
          rename_i cs' hl hh
          rw [Bool.and_eq_true] at hc
          have key : ∀ m, (Instr.checkKey e' (m + 2) kt (.agg cs')).run P w = .ok () w := by
           intro m
           rw [Instr.checkKey]
           simp only [Sem.run_bind, run_underlying hu, Result.andThen_ok]
           rw [Std.Legacy.Range.forIn_eq_forIn_range']
           refine Eq.trans (congrArg (fun r => Result.andThen r (fun _ w' => Sem.run P (pure ()) w')) (run_forIn_list _ w _ (fun i hi => ?_))) (by simp)
           have hin : i < n := by
             rw [List.mem_range'] at hi
             obtain ⟨j, hj, rfl⟩ := hi
             simp [Std.Legacy.Range.size] at hj
             simp; omega
           have h3 := List.all_eq_true.1 hc.2 i (List.mem_range.2 hin)
           obtain ⟨u, hu2⟩ := Option.isSome_iff_exists.1 h3
           obtain ⟨u', hu', _⟩ := run_part (P := P) (σ := σ) hu2 (cs' := cs') ⟨hl, hh⟩ w
           have hsz : (sizeOf e).run P w = .ok s w := by simp [sizeOf, typeInfo, hi1, hi2]
           simp [hsz, hu', checkKey_part hc.1]
          exact key 9998
        · cases hc
def ERel (σ : Sig) (es : List (AV × AV)) (l : List MapEntry) : Prop :=
  es.length = l.length ∧ ∀ (i : Nat) (x : AV × AV) (y : MapEntry), es[i]? = some x → l[i]? = some y → VRel σ x.1 y.key ∧ VRel σ x.2 y.val
theorem ERel.uncons {x : AV × AV} {es : List (AV × AV)} {l : List MapEntry} (hr : ERel σ (x :: es) l) : ∃ y l', l = y :: l' ∧ VRel σ x.1 y.key ∧ VRel σ x.2 y.val ∧ ERel σ es l' := by
  cases l with
  | nil => have := hr.1; simp at this
  | cons y l' =>
    have h0 := hr.2 0 x y (by simp) (by simp)
    refine ⟨y, l', rfl, h0.1, h0.2, by have := hr.1; simpa using this, fun i u z hu hz => hr.2 (i + 1) u z (by simpa using hu) (by simpa using hz)⟩
theorem ERel.cons {x : AV × AV} {y : MapEntry} {es : List (AV × AV)} {l : List MapEntry} (h1 : VRel σ x.1 y.key) (h2 : VRel σ x.2 y.val) (hr : ERel σ es l) : ERel σ (x :: es) (y :: l) := by
  refine ⟨by simp [hr.1], fun i u z hu hz => ?_⟩
  cases i with
  | zero => simp at hu hz; subst hu; subst hz; exact ⟨h1, h2⟩
  | succ i => simp at hu hz; exact hr.2 i u z hu hz
/-- what the look-up of a key comes to -/
def FindRun (P : Program) (kt : TypeId) (k' : Value) (l : List MapEntry) (r : Option (Nat × Value)) : Prop := ∀ w, (Instr.findKey kt k' l).run P w = .ok r w
theorem find_now {d : TypeDesc} {kt : TypeId} (hu : P.underlying kt = some d) {k' : Value} {l : List MapEntry} {r : Option (Nat × Value)} (h : Instr.findNow d k' l 0 = some r) : FindRun P kt k' l r := by
  intro w
  simp [Instr.findKey, run_underlying hu, h]
theorem find_ask {d : TypeDesc} {kt : TypeId} (hu : P.underlying kt = some d) (hno : ∀ u v, Instr.sameNow d u v = none) {k' : Value} {l : List MapEntry} {r : Option (Nat × Value)} (h : ∀ w, (Instr.findAsking kt k' l 0).run P w = .ok r w) : FindRun P kt k' l r := by
  intro w
  cases l with
  | nil =>
    have := h w
    simp only [Instr.findAsking, Sem.run_pure] at this
    simp [Instr.findKey, run_underlying hu, Instr.findNow, this]
  | cons e l =>
    have hn : Instr.findNow d k' (e :: l) 0 = none := by simp [Instr.findNow, hno]
    simp only [Instr.findKey, Sem.run_bind, run_underlying hu, Result.andThen_ok, hn]
    exact h w
theorem mfind_now {eq : AV → Option Bool} {d : TypeDesc} {k' : Value} (hq : ∀ (y : AV) (y' : Value) (b : Bool), eq y = some b → VRel σ y y' → Instr.sameNow d k' y' = some b) :
    ∀ (es : List (AV × AV)) (l : List MapEntry) (i : Nat) (r : Option AV), mfind eq es = some r → ERel σ es l →
      match r with
      | some x => ∃ j y, Instr.findNow d k' l i = some (some (j, y)) ∧ VRel σ x y
      | none => Instr.findNow d k' l i = some none := by
  intro es
  induction es with
  | nil =>
    intro l i r hr he
    have : l = [] := by have := he.1; cases l; rfl; simp at this
    subst this
    cases hr
    rfl
  | cons x es ih =>
    intro l i r hr he
    obtain ⟨y, l', rfl, h1, h2, h3⟩ := he.uncons
    simp only [mfind] at hr
    split at hr
    · rename_i hb
      cases hr
      have := hq x.1 y.key true hb h1
      exact ⟨i, y.val, by simp [Instr.findNow, this], h2⟩
    · rename_i hb
      have h4 := hq x.1 y.key false hb h1
      have h5 := ih l' (i + 1) r hr h3
      cases r with
      | none => simp only [Instr.findNow, h4]; exact h5
      | some u => simp only [Instr.findNow, h4]; exact h5
    · cases hr
theorem mfind_ask {eq : AV → Option Bool} {kt : TypeId} {k' : Value} (hq : ∀ (y : AV) (y' : Value) (b : Bool), eq y = some b → VRel σ y y' → ∀ w, (Op.equal kt k' y').run P w = .ok b w) :
    ∀ (es : List (AV × AV)) (l : List MapEntry) (i : Nat) (r : Option AV), mfind eq es = some r → ERel σ es l →
      match r with
      | some x => ∃ j y, (∀ w, (Instr.findAsking kt k' l i).run P w = .ok (some (j, y)) w) ∧ VRel σ x y
      | none => ∀ w, (Instr.findAsking kt k' l i).run P w = .ok none w := by
  intro es
  induction es with
  | nil =>
    intro l i r hr he
    have : l = [] := by have := he.1; cases l; rfl; simp at this
    subst this
    cases hr
    intro w
    simp [Instr.findAsking]
  | cons x es ih =>
    intro l i r hr he
    obtain ⟨y, l', rfl, h1, h2, h3⟩ := he.uncons
    simp only [mfind] at hr
    split at hr
    · rename_i hb
      cases hr
      have := hq x.1 y.key true hb h1
      exact ⟨i, y.val, fun w => by simp [Instr.findAsking, this], h2⟩
    · rename_i hb
      have h4 := hq x.1 y.key false hb h1
      have h5 := ih l' (i + 1) r hr h3
      cases r with
      | none => intro w; simp only [Instr.findAsking, Sem.run_bind, h4, Result.andThen_ok, Bool.false_eq_true, if_false]; exact h5 w
      | some u =>
        obtain ⟨j, z, q1, q2⟩ := h5
        exact ⟨j, z, fun w => by simp only [Instr.findAsking, Sem.run_bind, h4, Result.andThen_ok, Bool.false_eq_true, if_false]; exact q1 w, q2⟩
    · cases hr
theorem mfind_rel {kt : TypeId} {d : TypeDesc} (ks : KSpec P σ kt d) {k : AV} {k' : Value} (hk : VRel σ k k') (es : List (AV × AV)) (l : List MapEntry) (r : Option AV) (hr : mfind (keyEq P kt k) es = some r) (he : ERel σ es l) :
    match r with
    | some x => ∃ j y, FindRun P kt k' l (some (j, y)) ∧ VRel σ x y
    | none => FindRun P kt k' l none := by
  rcases ks.eq with hq | ⟨hno, hq⟩
  · have := mfind_now (σ := σ) (d := d) (k' := k') (fun y y' b hb hy => hq k y k' y' b hb hk hy) es l 0 r hr he
    cases r with
    | none => exact find_now ks.und this
    | some x => obtain ⟨j, y, q1, q2⟩ := this; exact ⟨j, y, find_now ks.und q1, q2⟩
  · have := mfind_ask (σ := σ) (P := P) (kt := kt) (k' := k') (fun y y' b hb hy => hq k y k' y' b hb hk hy) es l 0 r hr he
    cases r with
    | none => exact find_ask ks.und hno this
    | some x => obtain ⟨j, y, q1, q2⟩ := this; exact ⟨j, y, find_ask ks.und hno q1, q2⟩
theorem mInfo_some {t : TypeId} {mi : MI} (hh : mInfo P t = some mi) : ∃ et, P.underlying t = some (.map mi.kt et) ∧ zeroVal P et = some mi.z ∧ keyOk P mi.kt = true := by
  unfold mInfo at hh
  split at hh
  · rename_i kt et hu
    split at hh
    · rename_i z hz hk
      cases hh
      exact ⟨et, hu, hz, hk⟩
    · cases hh
  · cases hh
theorem good3_lookup (t : TypeId) (x i : Operand) (ok : Bool) : Good3 P G ⟨dst, .lookup t x i ok, ty, pos, af, gd⟩ := by
  intro σ nt f a h h' w v ctx he hop hs hl hf
  simp [Op.operands] at hop
  have hx := ev_rel hs.fr hs.gl x hop.1
  have hi := ev_rel hs.fr hs.gl i hop.2
  have he' : oLookup t x i ok ty P ctx f h = .ok v h' := he
  unfold oLookup at he'
  split at he'
  · rename_i mi es hmi hes
    obtain ⟨et, hu, hz, hsc⟩ := mInfo_some hmi
    obtain ⟨inf, z', hi1, hzz, hzr⟩ := zeroVal_rel σ hz
    obtain ⟨d, ks⟩ := key_spec (P := P) (σ := σ) hsc
    have hent : ∃ l : List MapEntry, ERel σ es l ∧ ((a.eval x = .map none ∧ l = []) ∨ ∃ c clock, a.eval x = .map (some c) ∧ w.heap[c]? = some (.map l.toArray clock)) := by
      unfold entries at hes
      generalize a.eval x = xx at *
      split at hes
      · rename_i hv
        rw [vM_nil hv] at hx
        cases hx; cases hes
        exact ⟨[], ⟨rfl, fun i u y hu _ => by simp at hu⟩, .inl ⟨rfl, rfl⟩⟩
      · rename_i r hv
        rw [vM_yes hv] at hx
        cases hx
        rename_i e hb
        split at hes
        · rename_i es2 hgb
          cases hes
          have hbr := hs.ma r e hb
          rw [hgb] at hbr
          obtain ⟨_, es', clock, q1, q2, q3⟩ := hbr
          exact ⟨es'.toList, ⟨q2, q3⟩, .inr ⟨e.c, clock, rfl, by simpa using q1⟩⟩
        · cases hes
      · cases hes
    obtain ⟨l, hel, hx2⟩ := hent
    have run : ∀ (r : Option AV), (Bool.rec (motive := fun _ => Option (Option AV)) none (mfind (keyEq P mi.kt (ev i f)) es) (keyChk P mi.kt (ev i f)) : Option (Option AV)) = some r → ∃ z v1, (match r with | some u => VRel σ u v1 ∧ z = true | none => VRel σ mi.z v1 ∧ z = false) ∧
        (Instr.lookup t (a.eval x) (a.eval i) ok).run P w = .ok (if ok then .tuple #[v1, .bool z] else v1) w := by
      intro r hr0
      have hr1 : keyChk P mi.kt (ev i f) = true ∧ mfind (keyEq P mi.kt (ev i f)) es = some r := by
        cases hq : keyChk P mi.kt (ev i f) with
        | false => rw [hq] at hr0; cases hr0
        | true => rw [hq] at hr0; exact ⟨rfl, hr0⟩
      obtain ⟨hkc, hr⟩ := hr1
      have hck := ks.chk _ _ hkc hi
      have hm := mfind_rel ks hi es l r hr hel
      cases r with
      | none =>
        have hm' : FindRun P mi.kt (a.eval i) l none := hm
        refine ⟨false, z', ⟨hzr, rfl⟩, ?_⟩
        rcases hx2 with ⟨hxx, rfl⟩ | ⟨c, clock, hxx, hc⟩
        · simp only [Instr.lookup, hxx, Sem.run_bind, run_underlying hu, Result.andThen_ok, Sem.run_pure, hck, List.toList_toArray, hm' _, zeroValue, typeInfo, run_program, hi1, hzz]
        · have hgo : (getObj c).run P w = .ok (.map l.toArray clock) w := by simp [getObj, Sem.run, hc]
          simp only [Instr.lookup, hxx, Sem.run_bind, run_underlying hu, Result.andThen_ok, hgo, Sem.run_pure, hck, List.toList_toArray, hm' _, zeroValue, typeInfo, run_program, hi1, hzz]
      | some u =>
        obtain ⟨j, y, hj, hy⟩ := hm
        refine ⟨true, y, ⟨hy, rfl⟩, ?_⟩
        rcases hx2 with ⟨hxx, rfl⟩ | ⟨c, clock, hxx, hc⟩
        · have := hj w; simp [Instr.findKey, run_underlying ks.und, Instr.findNow] at this
        · have hgo : (getObj c).run P w = .ok (.map l.toArray clock) w := by simp [getObj, Sem.run, hc]
          simp only [Instr.lookup, hxx, Sem.run_bind, run_underlying hu, Result.andThen_ok, hgo, Sem.run_pure, hck, List.toList_toArray, hj _]
    split at he'
    · rename_i u hr
      obtain ⟨z, v1, ⟨h1, rfl⟩, h2⟩ := run _ hr
      obtain ⟨rfl, rfl⟩ := ok_inj he'
      refine ⟨σ, _, w, .inl (by simp [execOp, h2]; rfl), ?_, Out.refl hs.ai hs.so hs.ma⟩
      cases ok
      · exact h1
      · exact tup2 h1 (.bool true)
    · rename_i hr
      obtain ⟨z, v1, ⟨h1, rfl⟩, h2⟩ := run _ hr
      obtain ⟨rfl, rfl⟩ := ok_inj he'
      refine ⟨σ, _, w, .inl (by simp [execOp, h2]; rfl), ?_, Out.refl hs.ai hs.so hs.ma⟩
      cases ok
      · exact h1
      · exact tup2 h1 (.bool false)
    · cases he'
  · cases he'

theorem mset_now {eq : AV → Option Bool} {d : TypeDesc} {k x : AV} {k' x' : Value} (hk : VRel σ k k') (hx : VRel σ x x') (clock : Nat)
    (hq : ∀ (y : AV) (y' : Value) (b : Bool), eq y = some b → VRel σ y y' → Instr.sameNow d k' y' = some b ∧ (b = true → Instr.sameBits 10000 y' k' = true)) :
    ∀ (es es2 : List (AV × AV)) (l : List MapEntry) (i : Nat), mset eq k x es = some es2 → ERel σ es l →
      (∃ j y e, Instr.findNow d k' l i = some (some (i + j, y)) ∧ l[j]? = some e ∧ Instr.sameBits 10000 e.key k' = true ∧ ERel σ es2 (l.set j { e with key := k', val := x' })) ∨
      (Instr.findNow d k' l i = some none ∧ ERel σ es2 (l ++ [{ key := k', val := x', born := clock }])) := by
  intro es
  induction es with
  | nil =>
    intro es2 l i hm he
    have : l = [] := by have := he.1; cases l; rfl; simp at this
    subst this
    cases hm
    exact .inr ⟨rfl, ERel.cons hk hx ⟨rfl, fun i u y hu _ => by simp at hu⟩⟩
  | cons e0 es ih =>
    intro es2 l i hm he
    obtain ⟨y, l', rfl, h1, h2, h3⟩ := he.uncons
    simp only [mset] at hm
    split at hm
    · rename_i hb
      cases hm
      obtain ⟨q1, q2⟩ := hq e0.1 y.key true hb h1
      exact .inl ⟨0, y.val, y, by simp [Instr.findNow, q1], by simp, q2 rfl, ERel.cons hk hx h3⟩
    · rename_i hb
      obtain ⟨q1, _⟩ := hq e0.1 y.key false hb h1
      split at hm
      · rename_i r hr
        cases hm
        rcases ih r l' (i + 1) hr h3 with ⟨j, z, e, g1, g2, g3, g4⟩ | ⟨g1, g2⟩
        · refine .inl ⟨j + 1, z, e, ?_, by simpa using g2, g3, ?_⟩
          · simp only [Instr.findNow, q1]
            rw [g1]
            congr 3
            omega
          · simp only [List.set_cons_succ]
            exact ERel.cons h1 h2 g4
        · refine .inr ⟨?_, ERel.cons h1 h2 g2⟩
          simp only [Instr.findNow, q1]
          exact g1
      · cases hm
    · cases hm
theorem mset_ask {eq : AV → Option Bool} {kt : TypeId} {k x : AV} {k' x' : Value} (hk : VRel σ k k') (hx : VRel σ x x') (clock : Nat)
    (hq : ∀ (y : AV) (y' : Value) (b : Bool), eq y = some b → VRel σ y y' → (∀ w, (Op.equal kt k' y').run P w = .ok b w) ∧ (b = true → Instr.sameBits 10000 y' k' = true)) :
    ∀ (es es2 : List (AV × AV)) (l : List MapEntry) (i : Nat), mset eq k x es = some es2 → ERel σ es l →
      (∃ j y e, (∀ w, (Instr.findAsking kt k' l i).run P w = .ok (some (i + j, y)) w) ∧ l[j]? = some e ∧ Instr.sameBits 10000 e.key k' = true ∧ ERel σ es2 (l.set j { e with key := k', val := x' })) ∨
      ((∀ w, (Instr.findAsking kt k' l i).run P w = .ok none w) ∧ ERel σ es2 (l ++ [{ key := k', val := x', born := clock }])) := by
  intro es
  induction es with
  | nil =>
    intro es2 l i hm he
    have : l = [] := by have := he.1; cases l; rfl; simp at this
    subst this
    cases hm
    exact .inr ⟨fun w => by simp [Instr.findAsking], ERel.cons hk hx ⟨rfl, fun i u y hu _ => by simp at hu⟩⟩
  | cons e0 es ih =>
    intro es2 l i hm he
    obtain ⟨y, l', rfl, h1, h2, h3⟩ := he.uncons
    simp only [mset] at hm
    split at hm
    · rename_i hb
      cases hm
      obtain ⟨q1, q2⟩ := hq e0.1 y.key true hb h1
      exact .inl ⟨0, y.val, y, fun w => by simp [Instr.findAsking, q1], by simp, q2 rfl, ERel.cons hk hx h3⟩
    · rename_i hb
      obtain ⟨q1, _⟩ := hq e0.1 y.key false hb h1
      split at hm
      · rename_i r hr
        cases hm
        rcases ih r l' (i + 1) hr h3 with ⟨j, z, e, g1, g2, g3, g4⟩ | ⟨g1, g2⟩
        · refine .inl ⟨j + 1, z, e, ?_, by simpa using g2, g3, ?_⟩
          · intro w
            simp only [Instr.findAsking, Sem.run_bind, q1, Result.andThen_ok, Bool.false_eq_true, if_false]
            rw [g1 w, show i + 1 + j = i + (j + 1) by omega]
          · simp only [List.set_cons_succ]
            exact ERel.cons h1 h2 g4
        · refine .inr ⟨?_, ERel.cons h1 h2 g2⟩
          intro w
          simp only [Instr.findAsking, Sem.run_bind, q1, Result.andThen_ok, Bool.false_eq_true, if_false]
          exact g1 w
      · cases hm
    · cases hm
theorem mset_rel {kt : TypeId} {d : TypeDesc} (ks : KSpec P σ kt d) {k x : AV} {k' x' : Value} (hk : VRel σ k k') (hx : VRel σ x x') (clock : Nat) (es es2 : List (AV × AV)) (l : List MapEntry) (hm : mset (keyEq P kt k) k x es = some es2) (he : ERel σ es l) :
    (∃ j y e, FindRun P kt k' l (some (j, y)) ∧ l[j]? = some e ∧ Instr.sameBits 10000 e.key k' = true ∧ ERel σ es2 (l.set j { e with key := k', val := x' })) ∨
      (FindRun P kt k' l none ∧ ERel σ es2 (l ++ [{ key := k', val := x', born := clock }])) := by
  rcases ks.eq with hq | ⟨hno, hq⟩
  · rcases mset_now (σ := σ) (d := d) hk hx clock (fun y y' b hb hy => ⟨hq k y k' y' b hb hk hy, fun hb' => by subst hb'; exact ks.bits k y k' y' hb hk hy⟩) es es2 l 0 hm he with ⟨j, y, e, g1, g2⟩ | ⟨g1, g2⟩
    · rw [Nat.zero_add] at g1
      exact .inl ⟨j, y, e, find_now ks.und g1, g2⟩
    · exact .inr ⟨find_now ks.und g1, g2⟩
  · rcases mset_ask (σ := σ) (P := P) (kt := kt) hk hx clock (fun y y' b hb hy => ⟨hq k y k' y' b hb hk hy, fun hb' => by subst hb'; exact ks.bits k y k' y' hb hk hy⟩) es es2 l 0 hm he with ⟨j, y, e, g1, g2⟩ | ⟨g1, g2⟩
    · simp only [Nat.zero_add] at g1
      exact .inl ⟨j, y, e, find_ask ks.und hno g1, g2⟩
    · exact .inr ⟨find_ask ks.und hno g1, g2⟩
theorem map_core (t : TypeId) (m k x : Operand) {ctx : CallT} (he : oMapUpdate t m k x ty P ctx f h = .ok v h') (h1 : opdOk G m = true) (h2 : opdOk G k = true) (h3 : opdOk G x = true) (hs : St G σ nt f a h w) :
    ∃ w', (Instr.mapUpdate t (a.eval m) (a.eval k) (a.eval x)).run P w = .ok () w' ∧ v = .tup [] ∧ Out G σ h w σ h' w' := by
  have hm := ev_rel hs.fr hs.gl m h1
  have hk := ev_rel hs.fr hs.gl k h2
  have hx := ev_rel hs.fr hs.gl x h3
  unfold oMapUpdate at he
  split at he
  · rename_i mi r hmi hvm
    obtain ⟨et, hu, hz, hsc⟩ := mInfo_some hmi
    obtain ⟨d, ks⟩ := key_spec (P := P) (σ := σ) hsc
    rw [vM_yes hvm] at hm
    generalize hmm : a.eval m = mm at *
    cases hm
    rename_i e hb
    split at he
    · rename_i es hgb
      split at he
      · rename_i es2 hms0
        have hms1 : keyChk P mi.kt (ev k f) = true ∧ mset (keyEq P mi.kt (ev k f)) (ev k f) (ev x f) es = some es2 := by
          cases hq : keyChk P mi.kt (ev k f) with
          | false => rw [hq] at hms0; cases hms0
          | true => rw [hq] at hms0; exact ⟨rfl, hms0⟩
        obtain ⟨hkc, hms⟩ := hms1
        have hck := ks.chk _ _ hkc hk
        obtain ⟨rfl, rfl⟩ := ok_inj he
        have hbr := hs.ma r e hb
        rw [hgb] at hbr
        obtain ⟨hek, es', clock, q1, q2, q3⟩ := hbr
        have hgo : (getObj e.c).run P w = .ok (.map es' clock) w := by simp [getObj, Sem.run, q1]
        have hso : ∀ o, (setObj e.c o).run P w = .ok () (setBlk w e.c o) := fun o => by simp [setObj, Sem.run, q1, setBlk]
        have hcore := mset_rel ks hk hx clock es es2 es'.toList hms ⟨q2, q3⟩
        have fin : ∀ es3 : Array MapEntry, ∀ cl, ERel σ es2 es3.toList → Out G σ h w σ (h.put r (.map es2)) (setBlk w e.c (.map es3 cl)) := by
          intro es3 cl her
          refine put_self_step hs.ai hs.so hs.ma hb hgb (by simp) (by simp) rfl rfl hek (by simp) ?_
          exact ⟨hek, es3, cl, by rw [heap_setBlk, if_pos ⟨rfl, lt_of_get q1⟩], her.1, her.2⟩
        rcases hcore with ⟨j, y, e0, g1, g2, g3, g4⟩ | ⟨g1, g2⟩
        · have hje : es'[j]? = some e0 := by simpa using g2
          refine ⟨setBlk w e.c (.map (es'.modify j fun e => { e with key := a.eval k, val := a.eval x }) clock), ?_, rfl, fin _ _ ?_⟩
          · have hks : (Instr.keyThatStays e0.key (a.eval k)).run P w = .ok (a.eval k) w := by simp [Instr.keyThatStays, g3]
            simp only [Instr.mapUpdate, Sem.run_bind, run_underlying hu, Result.andThen_ok, hgo, hck, g1 _, Sem.run_pure, hje, Option.map_some, Option.getD_some, hks, hso]
          · have : (es'.modify j fun e => { e with key := a.eval k, val := a.eval x }).toList = es'.toList.set j { e0 with key := a.eval k, val := a.eval x } := by
              apply List.ext_getElem?
              intro q
              rw [Array.getElem?_toList, Array.getElem?_modify, List.getElem?_set]
              by_cases hq : j = q
              · subst hq
                have hlt : j < es'.toList.length := (List.getElem?_eq_some_iff.1 g2).1
                simp [hje]
                simpa using hlt
              · simp [hq]
            rw [this]
            exact g4
        · refine ⟨setBlk w e.c (.map (es'.push { key := a.eval k, val := a.eval x, born := clock }) (clock + 1)), ?_, rfl, fin _ _ ?_⟩
          · simp only [Instr.mapUpdate, Sem.run_bind, run_underlying hu, Result.andThen_ok, hgo, hck, g1 _, Sem.run_pure, hso]
          · rw [Array.toList_push]; exact g2
      · cases he
    · cases he
  · cases he
theorem good3_mapUpdate (t : TypeId) (m k x : Operand) : Good3 P G ⟨dst, .mapUpdate t m k x, ty, pos, af, gd⟩ := by
  intro σ nt f a h h' w v ctx he hop hs hl hf
  simp [Op.operands] at hop
  obtain ⟨w', h1, rfl, h2⟩ := map_core (P := P) (ty := ty) (ctx := ctx) t m k x he hop.1 hop.2.1 hop.2.2 hs
  exact ⟨σ, undef, w', .inr ⟨by simp [execOp, h1], rfl⟩, undef_rel σ, h2⟩
theorem good3_insert (t : TypeId) (m k x : Operand) : Good3 P G ⟨dst, .insert t m k x, ty, pos, af, gd⟩ := by
  intro σ nt f a h h' w v ctx he hop hs hl hf
  simp [Op.operands] at hop
  obtain ⟨w', h1, rfl, h2⟩ := map_core (P := P) (ty := ty) (ctx := ctx) t m k x he hop.1 hop.2.1 hop.2.2 hs
  exact ⟨σ, undef, w', .inr ⟨by simp [execOp, h1], rfl⟩, undef_rel σ, h2⟩
end ops
end Go.Ev
