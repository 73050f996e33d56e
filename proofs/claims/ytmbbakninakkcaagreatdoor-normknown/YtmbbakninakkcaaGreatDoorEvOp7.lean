/- Maps. -/
import Derived.Test.YtmbbakninakkcaaGreatDoorEvOp6
set_option linter.unusedSimpArgs false
set_option linter.unusedVariables false
namespace Go.Ev
variable {P : Program} {G : Nat} {σ : Sig} {h h' : H} {w w' : World} {v : AV} {nt : Nat} {f : L2} {a : Act} {ctx : CallT}
section ops
variable {dst : Option Tmp} {ty : TypeId} {pos : String} {af : Array Edge} {gd : Option (Nat × Bool)}
theorem checkKey_scalar {kt : TypeId} {d : TypeDesc} (hu : P.underlying kt = some d) (h1 : ∀ m, d ≠ .interface m) (h2 : ∀ n e, d ≠ .array n e) (h3 : ∀ fs, d ≠ .struct fs) (e : Bool) (n : Nat) (x : Value) (w : World) :
    (Instr.checkKey e (n + 1) kt x).run P w = .ok () w := by
  simp only [Instr.checkKey, Sem.run_bind, run_underlying hu, Result.andThen_ok]
  cases d <;> first | rfl | (exact absurd rfl (h1 _)) | (exact absurd rfl (h2 _ _)) | (exact absurd rfl (h3 _))
/-- a scalar key: what '==' says is what the look-up sees, and equal keys are the same -/
theorem scalar_key {kt : TypeId} (hk : scalar P kt = true) : ∃ d, P.underlying kt = some d ∧ (∀ (x y : AV) (x' y' : Value) (b : Bool), aeq P 3 kt x y = some b → VRel σ x x' → VRel σ y y' →
      Instr.sameNow d x' y' = some b ∧ (b = true → Instr.sameBits 10000 y' x' = true)) ∧ (∀ (e : Bool) (x' : Value) (w : World), (Instr.checkKey e 10000 kt x').run P w = .ok () w) := by
  have hs := tk_says P kt
  unfold scalar at hk
  cases ht : tk P kt <;> rw [ht] at hk hs <;> first | (cases hk; done) | skip
  · have hu : P.underlying kt = some .bool := hs
    refine ⟨.bool, hu, ?_, fun e x' w => checkKey_scalar hu (by simp) (by simp) (by simp) e 9999 x' w⟩
    intro x y x' y' b hq hx hy
    have hq' : aeqStep P (aeq P 2) kt x y = some b := hq
    unfold aeqStep at hq'
    rw [ht] at hq'
    dsimp only at hq'
    split at hq'
    · rename_i b1 b2 h1 h2
      rw [vB_yes h1] at hx; rw [vB_yes h2] at hy
      cases hx; cases hy; cases hq'
      refine ⟨rfl, fun hb => ?_⟩
      have : b1 = b2 := by simpa using hb
      simp [Instr.sameBits, this]
    · cases hq'
  · obtain ⟨k, hu⟩ := hs
    refine ⟨.int k, hu, ?_, fun e x' w => checkKey_scalar hu (by simp) (by simp) (by simp) e 9999 x' w⟩
    intro x y x' y' b hq hx hy
    have hq' : aeqStep P (aeq P 2) kt x y = some b := hq
    unfold aeqStep at hq'
    rw [ht] at hq'
    dsimp only at hq'
    split at hq'
    · rename_i k1 n1 k2 n2 h1 h2
      rw [vI_yes h1] at hx; rw [vI_yes h2] at hy
      cases hx; cases hy
      cases hkk : kEq k1 k2 with
      | false => rw [hkk] at hq'; cases hq'
      | true =>
        rw [hkk] at hq'
        have e1 := (kEq_eq k1 k2).1 hkk
        subst e1
        cases hq'
        rw [ieq_eq]
        refine ⟨by simp [Instr.sameNow], fun hb => ?_⟩
        have : n1 = n2 := by simpa using hb
        simp [Instr.sameBits, this]
    · cases hq'
  · have hu : P.underlying kt = some .string := hs
    refine ⟨.string, hu, ?_, fun e x' w => checkKey_scalar hu (by simp) (by simp) (by simp) e 9999 x' w⟩
    intro x y x' y' b hq hx hy
    have hq' : aeqStep P (aeq P 2) kt x y = some b := hq
    unfold aeqStep at hq'
    rw [ht] at hq'
    dsimp only at hq'
    split at hq'
    · rename_i s1 s2 h1 h2
      rw [vS_yes h1] at hx; rw [vS_yes h2] at hy
      cases hx; cases hy; cases hq'
      rw [strEq_b]
      refine ⟨by simp [Instr.sameNow, beq_toListBytes], fun hb => ?_⟩
      rename_i c1 c2
      have e1 : (c2 == c1) = (c1 == c2) := by
        rw [beq_toListBytes, beq_toListBytes, Bool.eq_iff_iff]
        simp only [beq_iff_eq]
        exact ⟨fun hh => hh.symm, fun hh => hh.symm⟩
      simp only [Instr.sameBits, e1, beq_toListBytes]
      exact hb
    · cases hq'
def ERel (σ : Sig) (es : List (AV × AV)) (l : List MapEntry) : Prop :=
  es.length = l.length ∧ ∀ (i : Nat) (x : AV × AV) (y : MapEntry), es[i]? = some x → l[i]? = some y → VRel σ x.1 y.key ∧ VRel σ x.2 y.val
theorem ERel.uncons {x : AV × AV} {es : List (AV × AV)} {l : List MapEntry} (hr : ERel σ (x :: es) l) : ∃ y l', l = y :: l' ∧ VRel σ x.1 y.key ∧ VRel σ x.2 y.val ∧ ERel σ es l' := by
  cases l with
  | nil => have := hr.1; simp at this
  | cons y l' =>
    have h0 := hr.2 0 x y (by simp) (by simp)
    refine ⟨y, l', rfl, h0.1, h0.2, by have := hr.1; simpa using this, fun i u z hu hz => hr.2 (i + 1) u z (by simpa using hu) (by simpa using hz)⟩
theorem ERel.cons {x : AV × AV} {y : MapEntry} {es : List (AV × AV)} {l : List MapEntry} (h1 : VRel σ x.1 y.key) (h2 : VRel σ x.2 y.val) (hr : ERel σ es l) : ERel σ (x :: es) (y :: l) := by
  refine ⟨by simp [hr.1], fun i u z hu hz => ?_⟩
  cases i with
  | zero => simp at hu hz; subst hu; subst hz; exact ⟨h1, h2⟩
  | succ i => simp at hu hz; exact hr.2 i u z hu hz
theorem mfind_rel {eq : AV → Option Bool} {d : TypeDesc} {k' : Value} (hq : ∀ (y : AV) (y' : Value) (b : Bool), eq y = some b → VRel σ y y' → Instr.sameNow d k' y' = some b) :
    ∀ (es : List (AV × AV)) (l : List MapEntry) (i : Nat) (r : Option AV), mfind eq es = some r → ERel σ es l →
      match r with
      | some x => ∃ j y, Instr.findNow d k' l i = some (some (j, y)) ∧ VRel σ x y
      | none => Instr.findNow d k' l i = some none := by
  intro es
  induction es with
  | nil =>
    intro l i r hr he
    have : l = [] := by have := he.1; cases l; rfl; simp at this
    subst this
    cases hr
    rfl
  | cons x es ih =>
    intro l i r hr he
    obtain ⟨y, l', rfl, h1, h2, h3⟩ := he.uncons
    simp only [mfind] at hr
    split at hr
    · rename_i hb
      cases hr
      have := hq x.1 y.key true hb h1
      exact ⟨i, y.val, by simp [Instr.findNow, this], h2⟩
    · rename_i hb
      have h4 := hq x.1 y.key false hb h1
      have h5 := ih l' (i + 1) r hr h3
      cases r with
      | none => simp only [Instr.findNow, h4]; exact h5
      | some u => simp only [Instr.findNow, h4]; exact h5
    · cases hr
theorem mInfo_some {t : TypeId} {mi : MI} (hh : mInfo P t = some mi) : ∃ et, P.underlying t = some (.map mi.kt et) ∧ zeroVal P et = some mi.z ∧ scalar P mi.kt = true := by
  unfold mInfo at hh
  split at hh
  · rename_i kt et hu
    split at hh
    · rename_i z hz hk
      cases hh
      exact ⟨et, hu, hz, hk⟩
    · cases hh
  · cases hh
theorem good3_lookup (t : TypeId) (x i : Operand) (ok : Bool) : Good3 P G ⟨dst, .lookup t x i ok, ty, pos, af, gd⟩ := by
  intro σ nt f a h h' w v ctx he hop hs hl hf
  simp [Op.operands] at hop
  have hx := ev_rel hs.fr hs.gl x hop.1
  have hi := ev_rel hs.fr hs.gl i hop.2
  have he' : oLookup t x i ok ty P ctx f h = .ok v h' := he
  unfold oLookup at he'
  split at he'
  · rename_i mi es hmi hes
    obtain ⟨et, hu, hz, hsc⟩ := mInfo_some hmi
    obtain ⟨inf, z', hi1, hzz, hzr⟩ := zeroVal_rel σ hz
    obtain ⟨d, hud, hkey, hck⟩ := scalar_key (P := P) (σ := σ) hsc
    have hent : ∃ l : List MapEntry, ERel σ es l ∧ ((a.eval x = .map none ∧ l = []) ∨ ∃ c clock, a.eval x = .map (some c) ∧ w.heap[c]? = some (.map l.toArray clock)) := by
      unfold entries at hes
      generalize a.eval x = xx at *
      split at hes
      · rename_i hv
        rw [vM_nil hv] at hx
        cases hx; cases hes
        exact ⟨[], ⟨rfl, fun i u y hu _ => by simp at hu⟩, .inl ⟨rfl, rfl⟩⟩
      · rename_i r hv
        rw [vM_yes hv] at hx
        cases hx
        rename_i e hb
        split at hes
        · rename_i es2 hgb
          cases hes
          have hbr := hs.ma r e hb
          rw [hgb] at hbr
          obtain ⟨_, es', clock, q1, q2, q3⟩ := hbr
          exact ⟨es'.toList, ⟨q2, q3⟩, .inr ⟨e.c, clock, rfl, by simpa using q1⟩⟩
        · cases hes
      · cases hes
    obtain ⟨l, hel, hx2⟩ := hent
    have run : ∀ (r : Option AV), mfind (aeq P 3 mi.kt (ev i f)) es = some r → ∃ z v1, (match r with | some u => VRel σ u v1 ∧ z = true | none => VRel σ mi.z v1 ∧ z = false) ∧
        (Instr.lookup t (a.eval x) (a.eval i) ok).run P w = .ok (if ok then .tuple #[v1, .bool z] else v1) w := by
      intro r hr
      have hm := mfind_rel (σ := σ) (d := d) (k' := a.eval i) (fun y y' b hb hy => (hkey _ _ _ _ b hb hi hy).1) es l 0 r hr hel
      cases r with
      | none =>
        have hm' : Instr.findNow d (a.eval i) l 0 = some none := hm
        refine ⟨false, z', ⟨hzr, rfl⟩, ?_⟩
        rcases hx2 with ⟨hxx, rfl⟩ | ⟨c, clock, hxx, hc⟩
        · simp only [Instr.lookup, hxx, Sem.run_bind, run_underlying hu, Result.andThen_ok, Sem.run_pure, hck, Instr.findKey, run_underlying hud, List.toList_toArray, hm', zeroValue, typeInfo, run_program, hi1, hzz]
        · have hgo : (getObj c).run P w = .ok (.map l.toArray clock) w := by simp [getObj, Sem.run, hc]
          simp only [Instr.lookup, hxx, Sem.run_bind, run_underlying hu, Result.andThen_ok, hgo, Sem.run_pure, hck, Instr.findKey, run_underlying hud, List.toList_toArray, hm', zeroValue, typeInfo, run_program, hi1, hzz]
      | some u =>
        obtain ⟨j, y, hj, hy⟩ := hm
        refine ⟨true, y, ⟨hy, rfl⟩, ?_⟩
        rcases hx2 with ⟨hxx, rfl⟩ | ⟨c, clock, hxx, hc⟩
        · cases hj
        · have hgo : (getObj c).run P w = .ok (.map l.toArray clock) w := by simp [getObj, Sem.run, hc]
          simp only [Instr.lookup, hxx, Sem.run_bind, run_underlying hu, Result.andThen_ok, hgo, Sem.run_pure, hck, Instr.findKey, run_underlying hud, List.toList_toArray, hj]
    split at he'
    · rename_i u hr
      obtain ⟨z, v1, ⟨h1, rfl⟩, h2⟩ := run _ hr
      obtain ⟨rfl, rfl⟩ := ok_inj he'
      refine ⟨σ, _, w, .inl (by simp [execOp, h2]; rfl), ?_, Out.refl hs.ai hs.so hs.ma⟩
      cases ok
      · exact h1
      · exact tup2 h1 (.bool true)
    · rename_i hr
      obtain ⟨z, v1, ⟨h1, rfl⟩, h2⟩ := run _ hr
      obtain ⟨rfl, rfl⟩ := ok_inj he'
      refine ⟨σ, _, w, .inl (by simp [execOp, h2]; rfl), ?_, Out.refl hs.ai hs.so hs.ma⟩
      cases ok
      · exact h1
      · exact tup2 h1 (.bool false)
    · cases he'
  · cases he'

theorem mset_rel {eq : AV → Option Bool} {d : TypeDesc} {k x : AV} {k' x' : Value} (hk : VRel σ k k') (hx : VRel σ x x') (clock : Nat)
    (hq : ∀ (y : AV) (y' : Value) (b : Bool), eq y = some b → VRel σ y y' → Instr.sameNow d k' y' = some b ∧ (b = true → Instr.sameBits 10000 y' k' = true)) :
    ∀ (es es2 : List (AV × AV)) (l : List MapEntry) (i : Nat), mset eq k x es = some es2 → ERel σ es l →
      (∃ j y e, Instr.findNow d k' l i = some (some (i + j, y)) ∧ l[j]? = some e ∧ Instr.sameBits 10000 e.key k' = true ∧ ERel σ es2 (l.set j { e with key := k', val := x' })) ∨
      (Instr.findNow d k' l i = some none ∧ ERel σ es2 (l ++ [{ key := k', val := x', born := clock }])) := by
  intro es
  induction es with
  | nil =>
    intro es2 l i hm he
    have : l = [] := by have := he.1; cases l; rfl; simp at this
    subst this
    cases hm
    exact .inr ⟨rfl, ERel.cons hk hx ⟨rfl, fun i u y hu _ => by simp at hu⟩⟩
  | cons e0 es ih =>
    intro es2 l i hm he
    obtain ⟨y, l', rfl, h1, h2, h3⟩ := he.uncons
    simp only [mset] at hm
    split at hm
    · rename_i hb
      cases hm
      obtain ⟨q1, q2⟩ := hq e0.1 y.key true hb h1
      exact .inl ⟨0, y.val, y, by simp [Instr.findNow, q1], by simp, q2 rfl, ERel.cons hk hx h3⟩
    · rename_i hb
      obtain ⟨q1, _⟩ := hq e0.1 y.key false hb h1
      split at hm
      · rename_i r hr
        cases hm
        rcases ih r l' (i + 1) hr h3 with ⟨j, z, e, g1, g2, g3, g4⟩ | ⟨g1, g2⟩
        · refine .inl ⟨j + 1, z, e, ?_, by simpa using g2, g3, ?_⟩
          · simp only [Instr.findNow, q1]
            rw [g1]
            congr 3
            omega
          · simp only [List.set_cons_succ]
            exact ERel.cons h1 h2 g4
        · refine .inr ⟨?_, ERel.cons h1 h2 g2⟩
          simp only [Instr.findNow, q1]
          exact g1
      · cases hm
    · cases hm
theorem map_core (t : TypeId) (m k x : Operand) {ctx : CallT} (he : oMapUpdate t m k x ty P ctx f h = .ok v h') (h1 : opdOk G m = true) (h2 : opdOk G k = true) (h3 : opdOk G x = true) (hs : St G σ nt f a h w) :
    ∃ w', (Instr.mapUpdate t (a.eval m) (a.eval k) (a.eval x)).run P w = .ok () w' ∧ v = .tup [] ∧ Out G σ h w σ h' w' := by
  have hm := ev_rel hs.fr hs.gl m h1
  have hk := ev_rel hs.fr hs.gl k h2
  have hx := ev_rel hs.fr hs.gl x h3
  unfold oMapUpdate at he
  split at he
  · rename_i mi r hmi hvm
    obtain ⟨et, hu, hz, hsc⟩ := mInfo_some hmi
    obtain ⟨d, hud, hkey, hck⟩ := scalar_key (P := P) (σ := σ) hsc
    rw [vM_yes hvm] at hm
    generalize hmm : a.eval m = mm at *
    cases hm
    rename_i e hb
    split at he
    · rename_i es hgb
      split at he
      · rename_i es2 hms
        obtain ⟨rfl, rfl⟩ := ok_inj he
        have hbr := hs.ma r e hb
        rw [hgb] at hbr
        obtain ⟨hek, es', clock, q1, q2, q3⟩ := hbr
        have hgo : (getObj e.c).run P w = .ok (.map es' clock) w := by simp [getObj, Sem.run, q1]
        have hso : ∀ o, (setObj e.c o).run P w = .ok () (setBlk w e.c o) := fun o => by simp [setObj, Sem.run, q1, setBlk]
        have hcore := mset_rel (σ := σ) (d := d) hk hx clock (fun y y' b hb2 hy => hkey _ _ _ _ b hb2 hk hy) es es2 es'.toList 0 hms ⟨q2, q3⟩
        have fin : ∀ es3 : Array MapEntry, ∀ cl, ERel σ es2 es3.toList → Out G σ h w σ (h.put r (.map es2)) (setBlk w e.c (.map es3 cl)) := by
          intro es3 cl her
          refine put_self_step hs.ai hs.so hs.ma hb hgb (by simp) (by simp) rfl rfl hek (by simp) ?_
          exact ⟨hek, es3, cl, by rw [heap_setBlk, if_pos ⟨rfl, lt_of_get q1⟩], her.1, her.2⟩
        rcases hcore with ⟨j, y, e0, g1, g2, g3, g4⟩ | ⟨g1, g2⟩
        · have hje : es'[j]? = some e0 := by simpa using g2
          refine ⟨setBlk w e.c (.map (es'.modify j fun e => { e with key := a.eval k, val := a.eval x }) clock), ?_, rfl, fin _ _ ?_⟩
          · have hks : (Instr.keyThatStays e0.key (a.eval k)).run P w = .ok (a.eval k) w := by simp [Instr.keyThatStays, g3]
            simp only [Nat.zero_add] at g1
            simp only [Instr.mapUpdate, Sem.run_bind, run_underlying hu, Result.andThen_ok, hgo, hck, Instr.findKey, run_underlying hud, g1, Sem.run_pure, hje, Option.map_some, Option.getD_some, hks, hso]
          · have : (es'.modify j fun e => { e with key := a.eval k, val := a.eval x }).toList = es'.toList.set j { e0 with key := a.eval k, val := a.eval x } := by
              apply List.ext_getElem?
              intro q
              rw [Array.getElem?_toList, Array.getElem?_modify, List.getElem?_set]
              by_cases hq : j = q
              · subst hq
                have hlt : j < es'.toList.length := (List.getElem?_eq_some_iff.1 g2).1
                simp [hje]
                simpa using hlt
              · simp [hq]
            rw [this]
            exact g4
        · refine ⟨setBlk w e.c (.map (es'.push { key := a.eval k, val := a.eval x, born := clock }) (clock + 1)), ?_, rfl, fin _ _ ?_⟩
          · simp only [Instr.mapUpdate, Sem.run_bind, run_underlying hu, Result.andThen_ok, hgo, hck, Instr.findKey, run_underlying hud, g1, Sem.run_pure, hso]
          · rw [Array.toList_push]; exact g2
      · cases he
    · cases he
  · cases he
theorem good3_mapUpdate (t : TypeId) (m k x : Operand) : Good3 P G ⟨dst, .mapUpdate t m k x, ty, pos, af, gd⟩ := by
  intro σ nt f a h h' w v ctx he hop hs hl hf
  simp [Op.operands] at hop
  obtain ⟨w', h1, rfl, h2⟩ := map_core (P := P) (ty := ty) (ctx := ctx) t m k x he hop.1 hop.2.1 hop.2.2 hs
  exact ⟨σ, undef, w', .inr ⟨by simp [execOp, h1], rfl⟩, undef_rel σ, h2⟩
theorem good3_insert (t : TypeId) (m k x : Operand) : Good3 P G ⟨dst, .insert t m k x, ty, pos, af, gd⟩ := by
  intro σ nt f a h h' w v ctx he hop hs hl hf
  simp [Op.operands] at hop
  obtain ⟨w', h1, rfl, h2⟩ := map_core (P := P) (ty := ty) (ctx := ctx) t m k x he hop.1 hop.2.1 hop.2.2 hs
  exact ⟨σ, undef, w', .inr ⟨by simp [execOp, h1], rfl⟩, undef_rel σ, h2⟩
end ops
end Go.Ev
