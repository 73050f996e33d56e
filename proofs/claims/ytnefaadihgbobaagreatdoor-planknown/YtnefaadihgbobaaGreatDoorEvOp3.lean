/- Operations that read no memory, the last of them: slicing, lengths, literals. -/
import Derived.Test.YtnefaadihgbobaaGreatDoorEvOp2
set_option linter.unusedSimpArgs false
set_option linter.unusedVariables false
namespace Go.Ev
variable {P : Program} {G : Nat} {σ : Sig} {h h' : H} {w : World} {v : AV} {nt : Nat} {f : L2} {a : Act}
section ops
variable {dst : Option Tmp} {ty : TypeId} {pos : String} {af : Array Edge} {gd : Option (Nat × Bool)}

theorem run_bound (hf : FRel σ nt f a) (hg : GOk G σ) {x : Operand} (hx : opdOk G x = true) {n y : Nat} (hn : nat0 (ev x f) = some n) (hle : n ≤ y) (code : BoundsCode) (w : World) :
    (Instr.sliceBound (a.eval x) y code).run P w = .ok n w := by
  obtain ⟨k, hk⟩ := nat0_some hn
  have hr := ev_rel hf hg x hx
  rw [hk] at hr
  generalize a.eval x = u at *
  cases hr
  simp [Instr.sliceBound, asIntOf, hle]
/-- the bounds of a slice expression -/
theorem run_bounds (hf : FRel σ nt f a) (hg : GOk G σ) {lo hi mx : Option Operand} (h1 : ∀ x, lo = some x → opdOk G x = true) (h2 : ∀ x, hi = some x → opdOk G x = true) (h3 : ∀ x, mx = some x → opdOk G x = true)
    {l u m len cap : Nat} (hm : bnd f mx cap = some m) (hl : bnd f lo 0 = some l) (hu : bnd f hi len = some u) (hlu : l ≤ u) (hum : u ≤ m) (hmc : m ≤ cap) (hmx : mx ≠ none → hi ≠ none) (is : Bool) (w : World) :
    (Instr.sliceBounds is len cap (lo.map a.eval) (hi.map a.eval) (mx.map a.eval)).run P w = .ok (l, u, m) w := by
  cases mx with
  | none =>
    have e : m = cap := by cases hm; rfl
    subst e
    cases hi with
    | none =>
      have e : u = len := by cases hu; rfl
      subst e
      cases lo with
      | none =>
        have e : l = 0 := by cases hl; rfl
        subst e
        simp [Instr.sliceBounds]
      | some x => simp [Instr.sliceBounds, run_bound hf hg (h1 x rfl) hl hlu]
    | some y =>
      have r2 := fun c w => run_bound (P := P) hf hg (h2 y rfl) hu hum c w
      cases lo with
      | none =>
        have e : l = 0 := by cases hl; rfl
        subst e
        cases is <;> simp [Instr.sliceBounds, r2]
      | some x =>
        have r1 := fun c w => run_bound (P := P) hf hg (h1 x rfl) hl hlu c w
        cases is <;> simp [Instr.sliceBounds, r1, r2]
  | some z =>
    have r3 := fun c w => run_bound (P := P) hf hg (h3 z rfl) hm hmc c w
    cases hi with
    | none => exact absurd rfl (hmx (by simp))
    | some y =>
      have r2 := fun c w => run_bound (P := P) hf hg (h2 y rfl) hu hum c w
      cases lo with
      | none =>
        have e : l = 0 := by cases hl; rfl
        subst e
        cases is <;> simp [Instr.sliceBounds, r2, r3]
      | some x =>
        have r1 := fun c w => run_bound (P := P) hf hg (h1 x rfl) hl hlu c w
        cases is <;> simp [Instr.sliceBounds, r1, r2, r3]
theorem bytesOf_extract (s : ByteArray) (l u : Nat) : bytesOf (s.extract l u) = ((bytesOf s).drop l).take (u - l) := by
  unfold bytesOf
  rw [ByteArray.data_extract, Array.toList_extract]
  simp [List.map_take, List.map_drop]
theorem slStr_ok {s : List Nat} {l u : Option Nat} (he : slStr s l u h = .ok v h') :
    ∃ l' u', l = some l' ∧ u = some u' ∧ l' ≤ u' ∧ u' ≤ s.length ∧ v = .str ((s.drop l').take (u' - l')) ∧ h' = h := by
  unfold slStr at he
  split at he
  · rename_i l' u'
    rcases ite_ok he with ⟨h1, he⟩ | ⟨_, he⟩
    · rcases ite_ok he with ⟨h2, he⟩ | ⟨_, he⟩
      · obtain ⟨rfl, rfl⟩ := ok_inj he
        rw [slen_eq] at h2
        refine ⟨l', u', rfl, rfl, ble_le h1, ble_le h2, ?_, rfl⟩
        rw [stake_eq, sdrop_eq]; rfl
      · cases he
    · cases he
  · cases he
theorem slSl_ok {b off cap sz : Nat} {ex : Bool} {l u : Nat} (he : slSl b off cap sz ex l u h = .ok v h') : l ≤ u ∧ u ≤ cap ∧ h' = h ∧
    ((l < cap ∧ v = .sl b (off + l * sz) (u - l) (cap - l) sz ex) ∨ (l = cap ∧ ex = true ∧ v = .sl b off 0 0 sz true) ∨ (l = cap ∧ l = 0 ∧ v = .sl b off 0 0 sz ex)) := by
  rcases ite_ok he with ⟨h1, he⟩ | ⟨_, he⟩
  · rcases ite_ok he with ⟨h2, he⟩ | ⟨_, he⟩
    · have g1 := ble_le h1
      have g2 := ble_le h2
      rcases ite_ok he with ⟨h3, he⟩ | ⟨h3, he⟩
      · obtain ⟨rfl, rfl⟩ := ok_inj he
        exact ⟨g1, g2, rfl, .inl ⟨blt_lt h3, rfl⟩⟩
      · have g3 := blt_ge h3
        rcases ite_ok he with ⟨h4, he⟩ | ⟨h4, he⟩
        · obtain ⟨rfl, rfl⟩ := ok_inj he
          exact ⟨g1, g2, rfl, .inr (.inl ⟨by omega, h4, rfl⟩)⟩
        · rcases ite_ok he with ⟨h5, he⟩ | ⟨_, he⟩
          · obtain ⟨rfl, rfl⟩ := ok_inj he
            exact ⟨g1, g2, rfl, .inr (.inr ⟨by omega, beq_eqN h5, rfl⟩)⟩
          · cases he
    · cases he
  · cases he
theorem slSl3_ok {b off cap sz l u c : Nat} (he : slSl3 b off cap sz l u c h = .ok v h') : l ≤ u ∧ u ≤ c ∧ c ≤ cap ∧ h' = h ∧
    v = .sl b (if c = l then off else off + l * sz) (u - l) (c - l) sz true := by
  rcases ite_ok he with ⟨h1, he⟩ | ⟨_, he⟩
  · rcases ite_ok he with ⟨h2, he⟩ | ⟨_, he⟩
    · rcases ite_ok he with ⟨h3, he⟩ | ⟨_, he⟩
      · obtain ⟨rfl, rfl⟩ := ok_inj he
        refine ⟨ble_le h1, ble_le h2, ble_le h3, rfl, ?_⟩
        cases hq : Nat.beq c l with
        | false => rw [if_neg (beq_neN hq)]; rfl
        | true => rw [if_pos (beq_eqN hq)]; rfl
      · cases he
    · cases he
  · cases he
theorem all_opt {G : Nat} {lo hi mx : Option Operand} {x : Operand} (h : (Op.slice ty x lo hi mx).operands.toList.all (opdOk G) = true) :
    opdOk G x = true ∧ (∀ y, lo = some y → opdOk G y = true) ∧ (∀ y, hi = some y → opdOk G y = true) ∧ (∀ y, mx = some y → opdOk G y = true) := by
  simp only [Op.operands, Array.toList_append, List.all_append, Bool.and_eq_true] at h
  obtain ⟨⟨⟨h1, h2⟩, h3⟩, h4⟩ := h
  refine ⟨by simpa using h1, ?_, ?_, ?_⟩
  · rintro y rfl; simpa using h2
  · rintro y rfl; simpa using h3
  · rintro y rfl; simpa using h4
theorem good_slice (t : TypeId) (x : Operand) (lo hi mx : Option Operand) : Good1 P G ⟨dst, .slice t x lo hi mx, ty, pos, af, gd⟩ := by
  intro σ nt f a h h' w v ctx he hop hf hg
  obtain ⟨ox, o1, o2, o3⟩ := all_opt hop
  have hx := ev_rel hf hg x ox
  have he' : oSlice1 t x lo hi mx ty P ctx f h = .ok v h' ∧ hmOk hi mx = true := by
    rcases ite_ok he with ⟨h1, he⟩ | ⟨_, he⟩
    · exact ⟨he, h1⟩
    · cases he
  obtain ⟨he', hmo⟩ := he'
  have hmx : mx ≠ none → hi ≠ none := by
    intro h1 h2
    cases mx with
    | none => exact h1 rfl
    | some m => subst h2; cases hmo
  unfold oSlice1 at he'
  generalize hy : a.eval x = y at *
  split at he'
  · rename_i hxi
    split at he'
    · rename_i s hvs
      rw [vS_yes hvs] at hx
      cases hx
      rename_i bs
      obtain ⟨l, u, hl, hu, hlu, hus, rfl, rfl⟩ := slStr_ok he'
      rw [bytesOf_len] at hus
      have hu' : bnd f hi bs.size = some u := by rw [← bytesOf_len, ← slen_eq]; exact hu
      have hb := run_bounds (P := P) hf hg o1 o2 o3 (cap := bs.size) (len := bs.size) (m := bs.size) rfl hl hu' hlu hus (Nat.le_refl _) (fun hh => absurd rfl hh) false w
      refine ⟨.string (bs.extract l u), w, .inl ?_, .quiet _ _ ?_⟩
      · have hun := xInfo_str hxi
        simp only [Option.map_none] at hb
        simp [execOp, hy, Instr.sliceAt, Instr.slice, run_underlying hun, hb]
      · rw [← bytesOf_extract]; exact .str _
    · cases he'
  · rename_i i hxi
    obtain ⟨inf, k1, k2, k3, k4⟩ := xInfo_sl hxi
    split at he'
    · rename_i hvl
      rw [vL_nil hvl] at hx
      cases hx
      split at he'
      · rename_i e1 e2 e3
        obtain ⟨rfl, rfl⟩ := ok_inj he'
        have hb := run_bounds (P := P) hf hg o1 o2 o3 (cap := 0) (len := 0) e3 e1 e2 (Nat.le_refl _) (Nat.le_refl _) (Nat.le_refl _) hmx true w
        refine ⟨.slice none 0 0, w, .inl ?_, .quiet _ _ .nsl⟩
        simp [execOp, hy, Instr.sliceAt, Instr.slice, run_underlying k1, hb, sizeOf, typeInfo, k2]
      · cases he'
    · rename_i b off len cap sz ex hvl
      rw [vL_yes hvl] at hx
      cases hx
      rename_i e cc hs g1 g2 g3 g4
      split at he'
      · rename_i l u e1 e2
        rcases ite_ok he' with ⟨hz, he'⟩ | ⟨_, he'⟩
        · have hz' := beq_eqN hz
          obtain ⟨q1, q2, rfl, hcase⟩ := slSl_ok he'
          have hb := run_bounds (P := P) hf hg o1 o2 o3 (cap := cc) (len := len) (m := cc) rfl e1 e2 q1 (by omega) (Nat.le_refl _) (fun hh => absurd rfl hh) true w
          simp only [Option.map_none] at hb
          have run : (execOp a.eval ⟨dst, .slice t x lo hi none, ty, pos, af, gd⟩).run P w = .ok (.value (.slice (if cc = l then some ⟨e.c, off, none⟩ else some ((⟨e.c, off, none⟩ : Addr).add (l * i.s))) (u - l) (cc - l))) w := by
            simp [execOp, hy, Instr.sliceAt, Instr.slice, run_underlying k1, hb, sizeOf, typeInfo, k2, k3]
          rcases hcase with ⟨q3, rfl⟩ | ⟨q3, rfl, rfl⟩ | ⟨q3, q4, rfl⟩
          · refine ⟨_, w, .inl run, .quiet _ _ ?_⟩
            rw [if_neg (by omega), add_off, ← hz']
            refine .sl b _ _ _ _ _ e _ hs (by omega) (by omega) (fun hh => by rw [g3 hh]) (fun hh => ?_)
            have := g4 hh
            have e3 : l * sz + (cc - l) * sz = cc * sz := by rw [← Nat.add_mul]; congr 1; omega
            omega
          · have := g3 rfl
            subst this
            refine ⟨_, w, .inl run, .quiet _ _ ?_⟩
            have e3 : u = l := by omega
            rw [if_pos q3.symm, e3, ← q3, Nat.sub_self]
            exact .sl b _ _ _ _ _ e _ hs (by omega) (by omega) (fun _ => rfl) (fun hh => by cases hh)
          · subst q4
            have e3 : u = 0 := by omega
            refine ⟨_, w, .inl run, .quiet _ _ ?_⟩
            have e4 : (if cc = 0 then some (⟨e.c, off, none⟩ : Addr) else some ((⟨e.c, off, none⟩ : Addr).add (0 * i.s))) = some ⟨e.c, off, none⟩ := by
              rw [add_off]; simp
            rw [e4, e3, Nat.sub_zero, Nat.sub_zero]
            exact .sl b _ _ _ _ _ e _ hs (by omega) (by omega) (fun hh => by rw [g3 hh]; omega) g4
        · cases he'
      · rename_i l u m e1 e2
        split at he'
        · rename_i c e3
          rcases ite_ok he' with ⟨hz, he'⟩ | ⟨_, he'⟩
          · have hz' := beq_eqN hz
            obtain ⟨q1, q2, q3, rfl, rfl⟩ := slSl3_ok he'
            have hb := run_bounds (P := P) hf hg o1 o2 o3 (cap := cc) (len := len) (m := c) e3 e1 e2 q1 q2 (by omega) hmx true w
            refine ⟨.slice (if c = l then some ⟨e.c, off, none⟩ else some ((⟨e.c, off, none⟩ : Addr).add (l * i.s))) (u - l) (c - l), w, .inl ?_, .quiet _ _ ?_⟩
            · simp only [Option.map_some] at hb
              simp [execOp, hy, Instr.sliceAt, Instr.slice, run_underlying k1, hb, sizeOf, typeInfo, k2, k3]
            · rw [add_off, ← hz']
              by_cases hcl : c = l
              · rw [if_pos hcl, if_pos hcl]
                exact .sl b _ _ _ _ _ e _ hs (by omega) (by omega) (fun _ => rfl) (fun hh => by cases hh)
              · rw [if_neg hcl, if_neg hcl]
                exact .sl b _ _ _ _ _ e _ hs (by omega) (by omega) (fun _ => rfl) (fun hh => by cases hh)
          · cases he'
        · cases he'
      · cases he'
    · cases he'
  · rename_i n i hxi
    obtain ⟨inf, k1, k2, k3, k4⟩ := xInfo_arr hxi
    split at he'
    · rename_i b off l u hvp e1 e2
      rw [vP_yes hvp] at hx
      cases hx
      rename_i e hs
      obtain ⟨q1, q2, q3, rfl, rfl⟩ := slSl3_ok he'
      have hb := run_bounds (P := P) hf hg o1 o2 o3 (cap := n) (len := n) (m := n) rfl e1 e2 q1 q2 (Nat.le_refl _) (fun hh => absurd rfl hh) false w
      refine ⟨.slice (some (if n = l then ⟨e.c, off, none⟩ else ((⟨e.c, off, none⟩ : Addr).add (l * i.s)))) (u - l) (n - l), w, .inl ?_, .quiet _ _ ?_⟩
      · simp only [Option.map_none] at hb
        simp [execOp, hy, Instr.sliceAt, run_underlying k1, hb, sizeOf, typeInfo, k2, k3, Instr.sureAddr]
      · rw [add_off]
        by_cases hcl : n = l
        · rw [if_pos hcl, if_pos hcl]
          exact .sl b _ _ _ _ _ e _ hs (by omega) (by omega) (fun _ => rfl) (fun hh => by cases hh)
        · rw [if_neg hcl, if_neg hcl]
          exact .sl b _ _ _ _ _ e _ hs (by omega) (by omega) (fun _ => rfl) (fun hh => by cases hh)
    · cases he'
  · cases he'
end ops
end Go.Ev
