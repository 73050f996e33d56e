/- A new array whose capacity is open; a new version of one. -/
import Derived.Test.YtnefaadihgbobaaGreatDoorEvNew
set_option linter.unusedSimpArgs false
set_option linter.unusedVariables false
namespace Go.Ev
variable {P : Program} {G : Nat} {σ : Sig} {h h' : H} {w w' : World} {v : AV} {nt : Nat} {f : L2} {a : Act}

theorem grow_step {cs : List AV} {t : TypeId} {arr : Array Value} {fz : Nat × Nat} (hi : AInv h) (hs : SOk σ w) (hm : MAll G σ h.m.get w) (hl : h.nx + 1 < lim) (hf0 : σ h.nx = none) (hf : σ (h.nx + 1) = none)
    (hle : cs.length ≤ arr.size) (hr : ∀ (i : Nat) (x : AV) (y : Value), cs[i]? = some x → arr[i]? = some y → VRel σ x y) (hfz : ∀ i, i < arr.size → ¬ (fz.1 ≤ i ∧ i < fz.2)) :
    Out G σ h w (upd σ (h.nx + 1) ⟨w.heap.size, arr.size, some h.nx⟩) ((h.new (.ctr 0)).new (.cells cs t (.tip h.nx))) (wpush w (.cells arr t fz)) := by
  have hg : ∀ j, j < lim → ((h.new (.ctr 0)).new (.cells cs t (.tip h.nx))).m.get j = if j = h.nx + 1 then .cells cs t (.tip h.nx) else if j = h.nx then .ctr 0 else h.m.get j := by
    intro j hj
    rw [new_get _ _ (show (h.new (.ctr 0)).nx < lim from hl) j hj, new_get _ _ (by omega) j hj]
    rfl
  generalize hh' : (h.new (.ctr 0)).new (.cells cs t (.tip h.nx)) = h' at *
  have hnx : h'.nx = h.nx + 2 := by rw [← hh']; rfl
  have hlg : h'.lg = [] ++ h.lg := by rw [← hh']; rfl
  have hcls : ∀ x k, x < lim → clsAO (h.m.get x) = some k → k < h.nx := fun x k h1 h2 => (hi.cls x k h1 h2).1
  have hct : ∀ x l t k st, x < lim → h.m.get x = .cells l t (.old k st) → k < h.nx := fun x l t k st h1 h2 => hcls x k h1 (by rw [h2]; rfl)
  refine ⟨[], ⟨hlg, by omega, fun b hb => (by cases hb), ?_, fun b hb => (by cases hb), ?_, ?_, ⟨by omega, ?_, ?_, ?_, ?_, ?_⟩, fun b hb => (by cases hb)⟩, ⟨upd_le hf, ?_, hs.push _ hl rfl, ?_, ?_, ?_, ⟨rfl, rfl⟩⟩, ?_⟩
  · intro x h1 h2 _; rw [hg x h1, if_neg (by omega), if_neg (by omega)]
  · intro x k h1 h2 h3 h4
    rw [hg x h3] at h4
    split at h4
    · cases h4; exact .inr (Nat.le_refl _)
    · split at h4
      · cases h4
      · omega
  · intro x k h1 h2 h3
    rw [hg x h2, if_neg (by omega), if_neg (by omega)] at h3
    exact h3
  · intro x h1 h2
    rw [hg x h2, if_neg (by omega), if_neg (by omega)]
    exact hi.bound x (by omega) h2
  · intro x k h1 h2
    rw [hg x h1] at h2
    split at h2
    · cases h2
      exact ⟨by omega, 0, by rw [hg _ (by omega), if_neg (by omega), if_pos rfl]⟩
    · split at h2
      · cases h2
      · obtain ⟨h3, n, h4⟩ := hi.cls x k h1 h2
        refine ⟨by omega, n, ?_⟩
        rw [hg k (by omega), if_neg (by omega), if_neg (by omega)]
        exact h4
  · intro x y k h1 h2 h3 h4
    rw [hg x h1] at h3
    rw [hg y h2] at h4
    have old : ∀ z, z < lim → tipOf (h.m.get z) = some k → k < h.nx := by
      intro z hz hzt
      refine hcls z k hz ?_
      cases hq : h.m.get z with
      | cells l2 t2 k2 => rw [hq] at hzt; cases k2 <;> cases hzt <;> rfl
      | _ => rw [hq] at hzt; cases hzt
    split at h3
    · cases h3
      split at h4
      · omega
      · split at h4
        · cases h4
        · have := old y h2 h4; omega
    · split at h3
      · cases h3
      · split at h4
        · cases h4; have := old x h1 h3; omega
        · split at h4
          · cases h4
          · exact hi.tip x y k h1 h2 h3 h4
  · intro x l2 t2 k st n h1 h2 h3
    rw [hg x h1] at h2
    split at h2
    · cases h2
    · split at h2
      · cases h2
      · have := hct x l2 t2 k st h1 h2
        rw [hg k (by omega), if_neg (by omega), if_neg (by omega)] at h3
        exact hi.stamp x l2 t2 k st n h1 h2 h3
  · intro x y l2 t2 k st l3 t3 h1 h2 h3 h4
    rw [hg x h1] at h3
    rw [hg y h2] at h4
    split at h3
    · cases h3
    · split at h3
      · cases h3
      · have := hct x l2 t2 k st h1 h3
        split at h4
        · cases h4; omega
        · split at h4
          · cases h4
          · exact hi.len x y l2 t2 k st l3 t3 h1 h2 h3 h4
  · intro x e' h1 h2
    unfold upd at h2
    split at h2
    · omega
    · rw [h1] at h2; cases h2
  · rw [size_push]; omega
  · intro c h1 _; exact heap_push w _ c h1
  · intro x e' h1 h2
    unfold upd at h2
    split at h2
    · cases h2; left; exact Nat.le_refl _
    · rw [h1] at h2; cases h2
  · intro x e' hx
    unfold upd at hx
    split at hx
    · rename_i hxn
      cases hx
      subst hxn
      rw [hg _ hl, if_pos rfl]
      exact ⟨rfl, fun _ => ⟨arr, fz.1, fz.2, heap_push_at w _, rfl, hle, fun i x y hx hy => (hr i x y hx hy).mono (upd_le hf), fun hh => (by cases hh), fun _ i hlt => hfz i hlt⟩⟩
    · rename_i hxn
      have hxl := hs.low x e' hx
      rw [hg x hxl, if_neg hxn]
      split
      · rename_i hxx; rw [hxx, hf0] at hx; cases hx
      · refine BRel.congr (upd_le hf) (heap_push w _ _ (hs.rng x e' hx)) ?_ (hm x e' hx)
        intro l2 t2 k st hl2 hv
        have := hct x l2 t2 k st hxl hl2
        rw [hg k (by omega), if_neg (by omega), if_neg (by omega)] at hv
        exact hv

/-- a new version of the tip of a class: in place, or in a new array -/
theorem ver_step {b k st : Nat} {e e' : SE} {c cs : List AV} {t : TypeId} (hi : AInv h) (hs : SOk σ w) (hm : MAll G σ h.m.get w) (hb : σ b = some e) (ho : h.m.get b = .cells c t (.tip k)) (hkn : h.m.get k = .ctr st)
    (hl : h.nx < lim) (hf : σ h.nx = none) (hcs : c.length ≤ cs.length) (hek' : e'.k = some k) (hs' : SOk (upd σ h.nx e') w') (hgrow : w.heap.size ≤ w'.heap.size) (hio : w'.os = w.os ∧ w'.output = w.output)
    (hframe : ∀ j, j < w.heap.size → j ≠ e.c → w'.heap[j]? = w.heap[j]?) (hplace : w.heap.size ≤ e'.c ∨ e'.c = e.c)
    (hold : ∃ (arr arr' : Array Value) (fz : Nat × Nat), w.heap[e.c]? = some (.cells arr t fz) ∧ w'.heap[e.c]? = some (.cells arr' t fz) ∧ arr'.size = arr.size ∧ ∀ i, i < c.length → arr'[i]? = arr[i]?)
    (hnew : BRel G (upd σ h.nx e') (((h.put b (.cells c t (.old k st))).put k (.ctr st)).new (.cells cs t (.tip k))).m.get e' w' (.cells cs t (.tip k))) :
    Out G σ h w (upd σ h.nx e') (((h.put b (.cells c t (.old k st))).put k (.ctr st)).new (.cells cs t (.tip k))) w' := by
  have hbl := hs.low b e hb
  have hbn := live_lt hi hbl (by rw [ho]; simp)
  obtain ⟨hkn1, _⟩ := hi.cls b k hbl (by rw [ho]; rfl)
  have hkl : k < lim := by omega
  have hkb : k ≠ b := by rintro rfl; rw [ho] at hkn; cases hkn
  have hek : e.k = some k := by have := hm b e hb; rw [ho] at this; exact this.1
  have hg : ∀ j, j < lim → (((h.put b (.cells c t (.old k st))).put k (.ctr st)).new (.cells cs t (.tip k))).m.get j = if j = h.nx then .cells cs t (.tip k) else if j = b then .cells c t (.old k st) else h.m.get j := by
    intro j hj
    rw [new_get _ _ (show ((h.put b (.cells c t (.old k st))).put k (.ctr st)).nx < lim from hl) j hj, put_get _ _ _ hkl j hj, put_get _ _ _ hbl j hj]
    show (if j = h.nx then _ else _) = _
    by_cases hjk : j = k
    · subst hjk
      rw [if_neg (by omega), if_pos rfl, if_neg (by omega), if_neg hkb, hkn]
    · rw [if_neg hjk]
  generalize hh' : (((h.put b (.cells c t (.old k st))).put k (.ctr st)).new (.cells cs t (.tip k))) = h' at *
  have hnx : h'.nx = h.nx + 1 := by rw [← hh']; rfl
  have hlg : h'.lg = [k, b] ++ h.lg := by rw [← hh']; rfl
  have hct : ∀ x l t k st, x < lim → h.m.get x = .cells l t (.old k st) → k < h.nx := fun x l t k st h1 h2 => (hi.cls x k h1 (by rw [h2]; rfl)).1
  have hgk : ∀ j, j < h.nx → j ≠ b → h'.m.get j = h.m.get j := by
    intro j h1 h2
    rw [hg j (by omega), if_neg (by omega), if_neg h2]
  have hgk0 : h'.m.get k = .ctr st := by rw [hgk k hkn1 hkb]; exact hkn
  have hctb : ∀ k2 n, h.m.get k2 = .ctr n → k2 ≠ b := by rintro k2 n h1 rfl; rw [ho] at h1; cases h1
  refine ⟨[k, b], ⟨hlg, by omega, ?_, ?_, ?_, ?_, ?_, ⟨by omega, ?_, ?_, ?_, ?_, ?_⟩, fun x hx _ _ => by simp at hx; rcases hx with rfl | rfl; (rw [hkn]; simp); (rw [ho]; simp)⟩, ⟨upd_le hf, ?_, hs', hgrow, ?_, ?_, hio⟩, ?_⟩
  · intro x hx
    simp at hx
    rcases hx with rfl | rfl <;> omega
  · intro x h1 h2 h3
    simp at h3
    exact hgk x h2 h3.2
  · intro x hx k2 h1 h2
    simp at hx
    rcases hx with rfl | rfl
    · rw [hkn] at h2; cases h2
    · rw [ho] at h2; cases h2; simp
  · intro x k2 h1 h2 h3 h4
    have : x = h.nx := by omega
    subst this
    rw [hg _ h3, if_pos rfl] at h4
    cases h4
    simp
  · intro x k2 h1 h2 h3
    rw [hg x h2, if_neg (by omega)] at h3
    split at h3
    · rename_i hxb; subst hxb; rw [ho]; exact h3
    · exact h3
  · intro x h1 h2
    rw [hg x h2, if_neg (by omega), if_neg (by omega)]
    exact hi.bound x (by omega) h2
  · intro x k2 h1 h2
    rw [hg x h1] at h2
    have key : k2 = k ∨ clsAO (h.m.get x) = some k2 := by
      split at h2
      · cases h2; exact .inl rfl
      · split at h2
        · cases h2; exact .inl rfl
        · exact .inr h2
    rcases key with rfl | h3
    · exact ⟨by omega, st, hgk0⟩
    · obtain ⟨g1, n, g2⟩ := hi.cls x k2 h1 h3
      exact ⟨by omega, n, by rw [hgk k2 g1 (hctb k2 n g2)]; exact g2⟩
  · intro x y k2 h1 h2 h3 h4
    rw [hg x h1] at h3
    rw [hg y h2] at h4
    have tr : ∀ z, z < lim → tipOf (if z = h.nx then .cells cs t (.tip k) else if z = b then .cells c t (.old k st) else h.m.get z) = some k2 → (z = h.nx ∧ k2 = k) ∨ (z ≠ b ∧ tipOf (h.m.get z) = some k2) := by
      intro z hz hzt
      split at hzt
      · cases hzt; exact .inl ⟨by assumption, rfl⟩
      · split at hzt
        · cases hzt
        · exact .inr ⟨by assumption, hzt⟩
    have un : ∀ z, z < lim → z ≠ b → tipOf (h.m.get z) = some k → False := fun z hz h5 h6 => h5 (hi.tip z b k hz hbl h6 (by rw [ho]; rfl))
    rcases tr x h1 h3 with ⟨q1, q2⟩ | ⟨q1, q2⟩ <;> rcases tr y h2 h4 with ⟨r1, r2⟩ | ⟨r1, r2⟩
    · omega
    · subst q2; exact (un y h2 r1 r2).elim
    · subst r2; exact (un x h1 q1 q2).elim
    · exact hi.tip x y k2 h1 h2 q2 r2
  · intro x l2 t2 k2 s2 n h1 h2 h3
    rw [hg x h1] at h2
    split at h2
    · cases h2
    · split at h2
      · cases h2; rw [hgk0] at h3; cases h3; exact Nat.le_refl _
      · have q := hct x l2 t2 k2 s2 h1 h2
        obtain ⟨_, n0, q2⟩ := hi.cls x k2 h1 (by rw [h2]; rfl)
        rw [hgk k2 q (hctb k2 n0 q2)] at h3
        exact hi.stamp x l2 t2 k2 s2 n h1 h2 h3
  · intro x y l2 t2 k2 s2 l3 t3 h1 h2 h3 h4
    rw [hg x h1] at h3
    rw [hg y h2] at h4
    split at h4
    · cases h4
      split at h3
      · cases h3
      · split at h3
        · cases h3; exact hcs
        · have := hi.len x b l2 t2 k s2 c t h1 hbl h3 ho; omega
    · split at h4
      · cases h4
      · split at h3
        · cases h3
        · split at h3
          · cases h3
            rename_i q _ _
            exact absurd (hi.tip y b k h2 hbl (by rw [h4]; rfl) (by rw [ho]; rfl)) q
          · exact hi.len x y l2 t2 k2 s2 l3 t3 h1 h2 h3 h4
  · intro x e1 h1 h2
    unfold upd at h2
    split at h2
    · omega
    · rw [h1] at h2; cases h2
  · intro j h1 h2
    exact hframe j h1 (fun hh => h2 b (by simp) e hb hh.symm)
  · intro x e1 h1 h2
    unfold upd at h2
    split at h2
    · cases h2
      rcases hplace with h3 | h3
      · exact .inl h3
      · exact .inr ⟨b, by simp, e, hb, h3.symm⟩
    · rw [h1] at h2; cases h2
  · intro x e1 hx
    unfold upd at hx
    split at hx
    · rename_i hxn
      cases hx
      subst hxn
      rw [hg _ hl, if_pos rfl]
      exact hnew
    · rename_i hxn
      have hxl := hs.low x e1 hx
      rw [hg x hxl, if_neg hxn]
      obtain ⟨arr, arr', fz, a1, a2, a3, a4⟩ := hold
      have keepOld : ∀ (y : SE) (l2 : List AV) (t2 : TypeId) (k2 : CK), y.c = e.c → l2.length ≤ c.length → (∀ q, k2 ≠ .exact ∧ (wrK? k2 → q)) → BRel G σ h.m.get y w (.cells l2 t2 k2) → (validK h'.m.get k2 → validK h.m.get k2) → BRel G (upd σ h.nx e') h'.m.get y w' (.cells l2 t2 k2) := by
        intro y l2 t2 k2 hy hlen hkk hbr hval
        refine ⟨hbr.1, fun hv => ?_⟩
        obtain ⟨ar, lo, hi2, c1, c2, c3, c4, c5, c6⟩ := hbr.2 (hval hv)
        rw [hy, a1] at c1
        cases c1
        refine ⟨arr', lo, hi2, by rw [hy]; exact a2, by omega, c3, ?_, fun hh => absurd hh (hkk False).1, fun hh => ((hkk False).2 hh).elim⟩
        intro i u z hu hz
        have hlt := (List.getElem?_eq_some_iff.1 hu).1
        rw [a4 i (by omega)] at hz
        exact (c4 i u z hu hz).mono (upd_le hf)
      by_cases hxb : x = b
      · subst hxb
        rw [if_pos rfl]
        rw [hb] at hx
        cases hx
        have hbr := hm x e hb
        rw [ho] at hbr
        have hbr2 : BRel G σ h.m.get e w (.cells c t (.old k st)) := by
          obtain ⟨ar, lo, hi2, c1, c2, c3, c4, c5, c6⟩ := hbr.2 trivial
          exact ⟨hbr.1, fun _ => ⟨ar, lo, hi2, c1, c2, c3, c4, fun hh => (by cases hh), fun hh => hh.elim⟩⟩
        exact keepOld e c t _ rfl (Nat.le_refl _) (fun q => ⟨by simp, fun hh => hh.elim⟩) hbr2 (fun _ => hkn)
      · rw [if_neg hxb]
        have hval : ∀ l2 t2 k2 s2, h.m.get x = .cells l2 t2 (.old k2 s2) → h'.m.get k2 = .ctr s2 → h.m.get k2 = .ctr s2 := by
          intro l2 t2 k2 s2 hl2 hv
          have q := hct x l2 t2 k2 s2 hxl hl2
          obtain ⟨_, n0, q2⟩ := hi.cls x k2 hxl (by rw [hl2]; rfl)
          rw [hgk k2 q (hctb k2 n0 q2)] at hv
          exact hv
        by_cases hce : e1.c = e.c
        · rcases hs.inj x b e1 e hx hb hce with h1 | ⟨h1, h2⟩
          · exact absurd h1 hxb
          · have hbr := hm x e1 hx
            cases hxo : h.m.get x with
            | none => trivial
            | ctr m => rw [hxo] at hbr; have h9 : e1.k = none := hbr; rw [h1, hek] at h9; cases h9
            | map es => rw [hxo] at hbr; have h9 := hbr.1; rw [h1, hek] at h9; cases h9
            | loop a1 a2 a3 a4 a5 a6 => rw [hxo] at hbr; have h9 := hbr.1; rw [h1, hek] at h9; cases h9
            | dfr tk => rw [hxo] at hbr; have h9 := hbr.1; rw [h1, hek] at h9; cases h9
            | cells l2 t2 k2 =>
              rw [hxo] at hbr
              have hk2 : clsK k2 = some k := by rw [← hbr.1, h1, hek]
              cases k2 with
              | exact => cases hk2
              | tip kx => cases hk2; exact absurd (hi.tip x b k hxl hbl (by rw [hxo]; rfl) (by rw [ho]; rfl)) hxb
              | fz kx => cases hk2; exact absurd (hi.tip x b k hxl hbl (by rw [hxo]; rfl) (by rw [ho]; rfl)) hxb
              | old kx s2 =>
                cases hk2
                exact keepOld e1 l2 t2 _ hce (hi.len x b l2 t2 k s2 c t hxl hbl hxo ho) (fun q => ⟨by simp, fun hh => hh.elim⟩) hbr (fun hv => hval l2 t2 k s2 hxo hv)
        · exact BRel.congr (upd_le hf) (hframe _ (hs.rng x e1 hx) hce) (fun a1 a2 a3 a4 e5 e6 => hval a1 a2 a3 a4 e5 e6) (hm x e1 hx)
end Go.Ev
