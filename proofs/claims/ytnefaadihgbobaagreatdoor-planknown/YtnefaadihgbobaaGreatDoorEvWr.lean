/- Writing into a block, and making one: each step keeps the two heaps alike. -/
import Derived.Test.YtnefaadihgbobaaGreatDoorEvMem
set_option linter.unusedSimpArgs false
set_option linter.unusedVariables false
namespace Go.Ev
variable {P : Program} {G : Nat} {σ : Sig} {h h' : H} {w : World} {v : AV} {nt : Nat} {f : L2} {a : Act}

theorem put_get (h : H) (b : Nat) (o : AO) (hb : b < lim) (j : Nat) (hj : j < lim) : (h.put b o).m.get j = if j = b then o else h.m.get j := K6.get_set h.m b j o hb hj
theorem new_get (h : H) (o : AO) (hb : h.nx < lim) (j : Nat) (hj : j < lim) : (h.new o).m.get j = if j = h.nx then o else h.m.get j := K6.get_set h.m h.nx j o hb hj
theorem live_lt (hi : AInv h) {b : Nat} (hb : b < lim) (hn : h.m.get b ≠ .none) : b < h.nx := by
  rcases Nat.lt_or_ge b h.nx with h1 | h1
  · exact h1
  · exact absurd (hi.bound b h1 hb) hn

/-- a block without a class gets another object of its kind -/
theorem put_self_step {b : Nat} {e : SE} {o o' : AO} {ob : Obj} (hi : AInv h) (hs : SOk σ w) (hm : MAll G σ h.m.get w) (hb : σ b = some e) (ho : h.m.get b = o) (hne : o ≠ .none) (hnc : ∀ n, o ≠ .ctr n)
    (hc : clsAO o = none) (hc' : clsAO o' = none) (hk : e.k = none) (hnc' : ∀ n, o' ≠ .ctr n) (hr : BRel G σ (h.put b o').m.get e (setBlk w e.c ob) o') :
    Out G σ h w σ (h.put b o') (setBlk w e.c ob) := by
  have hbl := hs.low b e hb
  have hbn := live_lt hi hbl (by rw [ho]; exact hne)
  have hg := fun j hj => put_get h b o' hbl j hj
  have htip : tipOf o' = none := by
    cases o' with
    | cells l t k => cases k <;> first | rfl | (cases hc'; done)
    | _ => rfl
  have hcell : ∀ l t k st, o' ≠ .cells l t (.old k st) := by rintro l t k st rfl; cases hc'
  refine ⟨[b], ⟨rfl, Nat.le_refl _, ?_, ?_, ?_, ?_, ?_, ⟨hi.top, ?_, ?_, ?_, ?_, ?_⟩, fun x hx _ _ => by rw [List.mem_singleton] at hx; subst hx; rw [ho]; exact hne⟩, ⟨Sle.refl σ, ?_, ?_, ?_, ?_, ?_, ⟨rfl, rfl⟩⟩, ?_⟩
  · intro x hx; rw [List.mem_singleton] at hx; subst hx; exact hbn
  · intro x h1 h2 h3
    rw [hg x h1, if_neg (fun e => h3 (by simp [e]))]
  · intro x hx k h1 h2
    rw [List.mem_singleton] at hx
    subst hx
    rw [ho, hc] at h2
    cases h2
  · intro x k h1 h2; exact absurd h2 (by show ¬ x < h.nx; omega)
  · intro x k h1 h2 h3
    rw [hg x h2] at h3
    split at h3
    · rw [hc'] at h3; cases h3
    · exact h3
  · intro x h1 h2
    rw [hg x h2, if_neg (by have : h.nx ≤ x := h1; omega)]
    exact hi.bound x h1 h2
  · intro x k h1 h2
    rw [hg x h1] at h2
    split at h2
    · rw [hc'] at h2; cases h2
    · obtain ⟨h3, n, h4⟩ := hi.cls x k h1 h2
      refine ⟨h3, n, ?_⟩
      have hkl : k < lim := by have := hi.top; omega
      rw [hg k hkl, if_neg (fun e => by subst e; rw [ho] at h4; exact hnc n h4)]
      exact h4
  · intro x y k h1 h2 h3 h4
    rw [hg x h1] at h3
    rw [hg y h2] at h4
    split at h3
    · rw [htip] at h3; cases h3
    · split at h4
      · rw [htip] at h4; cases h4
      · exact hi.tip x y k h1 h2 h3 h4
  · intro x l t k st n h1 h2 h3
    rw [hg x h1] at h2
    split at h2
    · exact absurd h2 (hcell _ _ _ _)
    · obtain ⟨h5, n', h6⟩ := hi.cls x k h1 (by rw [h2]; rfl)
      have hkl : k < lim := by have := hi.top; omega
      rw [hg k hkl] at h3
      split at h3
      · exact absurd h3 (hnc' n)
      · exact hi.stamp x l t k st n h1 h2 h3
  · intro x y l t k st l2 t2 h1 h2 h3 h4
    rw [hg x h1] at h3
    rw [hg y h2] at h4
    split at h3
    · exact absurd h3 (hcell _ _ _ _)
    · split at h4
      · rw [h4] at htip; cases htip
      · exact hi.len x y l t k st l2 t2 h1 h2 h3 h4
  · intro x e' h1 h2; rw [h1] at h2; cases h2
  · exact ⟨hs.inj, fun x e' hx => by rw [size_setBlk]; exact hs.rng x e' hx, hs.low⟩
  · rw [size_setBlk]; exact Nat.le_refl _
  · intro c h1 h2
    rw [heap_setBlk, if_neg]
    rintro ⟨rfl, _⟩
    exact h2 b (by simp) e hb rfl
  · intro x e' h1 h2; rw [h1] at h2; cases h2
  · intro x e' hx
    have hxl := hs.low x e' hx
    rw [hg x hxl]
    by_cases hxb : x = b
    · subst hxb
      rw [if_pos rfl]
      rw [hb] at hx
      cases hx
      exact hr
    · rw [if_neg hxb]
      have hce : e'.c ≠ e.c := by
        intro hce
        rcases hs.inj x b e' e hx hb hce with h1 | ⟨h1, h2⟩
        · exact hxb h1
        · rw [h1, hk] at h2; exact h2 rfl
      refine BRel.congr (Sle.refl σ) (by rw [heap_setBlk, if_neg (fun hh => hce hh.1)]) ?_ (hm x e' hx)
      intro l t k st hl hv
      have hkl : k < lim := by have := (hi.cls x k hxl (by rw [hl]; rfl)).1; have := hi.top; omega
      rw [hg k hkl] at hv
      split at hv
      · exact absurd hv (hnc' st)
      · exact hv

theorem lput_rel {c c' vs : List AV} {off : Nat} {arr : Array Value} {vs' : List Value} (hput : lput c vs off = some c') (hle : c.length ≤ arr.size) (hv : LRel σ vs vs')
    (hr : ∀ (i : Nat) (x : AV) (y : Value), c[i]? = some x → arr[i]? = some y → VRel σ x y) : ∀ (i : Nat) (x : AV) (y : Value), c'[i]? = some x → (arrPut arr off vs')[i]? = some y → VRel σ x y := by
  intro i x y hx hy
  obtain ⟨h1, _⟩ := lput_some hput
  have h2 := hv.1
  rw [lput_get hput] at hx
  rw [arrPut_get (by omega)] at hy
  by_cases hj : off ≤ i ∧ i < off + vs.length
  · rw [if_pos hj] at hx
    rw [if_pos (by omega)] at hy
    exact hv.2 _ x y hx hy
  · rw [if_neg hj] at hx
    rw [if_neg (by omega)] at hy
    exact hr i x y hx hy
theorem wr_cases {b off : Nat} {vs : List AV} (hw : h.wr b off vs = .ok h') :
    (∃ c t c', h.m.get b = .cells c t .exact ∧ lput c vs off = some c' ∧ h' = h.put b (.cells c' t .exact)) ∨
    (∃ c t k n c', h.m.get b = .cells c t (.tip k) ∧ h.m.get k = .ctr n ∧ lput c vs off = some c' ∧ h' = (h.put b (.cells c' t (.tip k))).put k (.ctr (n + 1))) := by
  have hw' : wrO (h.m.get b) b off vs h = .ok h' := hw
  cases ho : h.m.get b with
  | cells c t k =>
    rw [ho] at hw'
    have hk : wrK k c t b off vs h = .ok h' := hw'
    cases k with
    | exact =>
      have hk' : wrL (lput c vs off) b t h = .ok h' := hk
      cases hp : lput c vs off with
      | none => rw [hp] at hk'; cases hk'
      | some c' => rw [hp] at hk'; cases hk'; exact .inl ⟨c, t, c', rfl, hp, rfl⟩
    | tip cl =>
      have hk' : wrT (lput c vs off) (ctrN (h.m.get cl)) cl b t h = .ok h' := hk
      unfold wrT at hk'
      split at hk'
      · rename_i c' n hp hn
        cases hk'
        have : h.m.get cl = .ctr n := by
          cases hq : h.m.get cl <;> rw [hq] at hn <;> cases hn
          rfl
        exact .inr ⟨c, t, cl, n, c', rfl, this, hp, rfl⟩
      · cases hk'
    | fz cl => cases hk
    | old cl st => cases hk
  | _ => rw [ho] at hw'; cases hw'

/-- a block of a class: another object of its kind in it, and its counter set -/
theorem put_cls_step {b k n n' : Nat} {e : SE} {l l' : List AV} {t : TypeId} {kk : CK} {ob : Obj} (hi : AInv h) (hs : SOk σ w) (hm : MAll G σ h.m.get w) (hb : σ b = some e)
    (ho : h.m.get b = .cells l t (.tip k)) (hkn : h.m.get k = .ctr n) (hkk : (kk = .tip k ∧ n' = n + 1) ∨ (kk = .fz k ∧ n' = n ∧ ∀ x y, σ x = some y → y.c = e.c → x ≠ b → ∀ l t st, h.m.get x = .cells l t (.old k st) → BRel G σ h.m.get y (setBlk w e.c ob) (h.m.get x)))
    (hll : l'.length = l.length) (hr : BRel G σ ((h.put b (.cells l' t kk)).put k (.ctr n')).m.get e (setBlk w e.c ob) (.cells l' t kk)) :
    Out G σ h w σ ((h.put b (.cells l' t kk)).put k (.ctr n')) (setBlk w e.c ob) := by
  have hbl := hs.low b e hb
  have hbn := live_lt hi hbl (by rw [ho]; simp)
  obtain ⟨hkn1, _⟩ := hi.cls b k hbl (by rw [ho]; rfl)
  have hkl : k < lim := by have := hi.top; omega
  have hkb : k ≠ b := by rintro rfl; rw [ho] at hkn; cases hkn
  have hcls : clsK kk = some k := by rcases hkk with ⟨rfl, _⟩ | ⟨rfl, _⟩ <;> rfl
  have htp : tipOf (.cells l' t kk) = some k := by rcases hkk with ⟨rfl, _⟩ | ⟨rfl, _⟩ <;> rfl
  have hno : ∀ l2 t2 k2 st, AO.cells l' t kk ≠ .cells l2 t2 (.old k2 st) := by
    rintro l2 t2 k2 st hh
    rcases hkk with ⟨rfl, _⟩ | ⟨rfl, _⟩ <;> cases hh
  have hnn : n ≤ n' := by rcases hkk with ⟨_, rfl⟩ | ⟨_, rfl, _⟩ <;> omega
  have hek : e.k = some k := by have := hm b e hb; rw [ho] at this; exact this.1
  have hg : ∀ j, j < lim → ((h.put b (.cells l' t kk)).put k (.ctr n')).m.get j = if j = k then .ctr n' else if j = b then .cells l' t kk else h.m.get j := by
    intro j hj
    rw [put_get _ _ _ hkl j hj, put_get _ _ _ hbl j hj]
  generalize hh' : (h.put b (.cells l' t kk)).put k (.ctr n') = h' at *
  have hnx : h'.nx = h.nx := by rw [← hh']; rfl
  have hlg : h'.lg = [k, b] ++ h.lg := by rw [← hh']; rfl
  refine ⟨[k, b], ⟨hlg, by omega, ?_, ?_, ?_, ?_, ?_, ⟨by rw [hnx]; exact hi.top, ?_, ?_, ?_, ?_, ?_⟩, fun x hx _ _ => by simp at hx; rcases hx with rfl | rfl; (rw [hkn]; simp); (rw [ho]; simp)⟩, ⟨Sle.refl σ, ?_, ?_, ?_, ?_, ?_, ⟨rfl, rfl⟩⟩, ?_⟩
  · intro x hx
    simp at hx
    rcases hx with rfl | rfl <;> omega
  · intro x h1 h2 h3
    simp at h3
    rw [hg x h1, if_neg h3.1, if_neg h3.2]
  · intro x hx k2 h1 h2
    simp at hx
    rcases hx with rfl | rfl
    · rw [hkn] at h2; cases h2
    · rw [ho] at h2
      cases h2
      simp
  · intro x k2 h1 h2; omega
  · intro x k2 h1 h2 h3
    rw [hg x h2] at h3
    split at h3
    · cases h3
    · split at h3
      · rename_i _ hxb
        subst hxb
        rw [ho]
        rw [show clsAO (.cells l' t kk) = clsK kk from rfl, hcls] at h3
        exact h3
      · exact h3
  · intro x h1 h2
    rw [hg x h2, if_neg (by omega), if_neg (by omega)]
    exact hi.bound x (by omega) h2
  · intro x k2 h1 h2
    rw [hg x h1] at h2
    have key : k2 = k ∨ clsAO (h.m.get x) = some k2 := by
      split at h2
      · cases h2
      · split at h2
        · rw [show clsAO (.cells l' t kk) = clsK kk from rfl, hcls] at h2
          cases h2
          exact .inl rfl
        · exact .inr h2
    rcases key with rfl | h3
    · exact ⟨by omega, n', by rw [hg _ hkl, if_pos rfl]⟩
    · obtain ⟨g1, m, g2⟩ := hi.cls x k2 h1 h3
      refine ⟨by omega, ?_⟩
      rw [hg k2 (by have := hi.top; omega)]
      by_cases hq : k2 = k
      · exact ⟨n', by rw [if_pos hq]⟩
      · rw [if_neg hq, if_neg (fun e => by subst e; rw [ho] at g2; cases g2)]
        exact ⟨m, g2⟩
  · intro x y k2 h1 h2 h3 h4
    rw [hg x h1] at h3
    rw [hg y h2] at h4
    have tr : ∀ z, tipOf (if z = k then .ctr n' else if z = b then .cells l' t kk else h.m.get z) = some k2 → tipOf (h.m.get z) = some k2 := by
      intro z hz
      split at hz
      · cases hz
      · split at hz
        · rename_i _ hzb
          subst hzb
          rw [htp] at hz
          rw [ho]
          exact hz
        · exact hz
    exact hi.tip x y k2 h1 h2 (tr x h3) (tr y h4)
  · intro x l2 t2 k2 st m h1 h2 h3
    rw [hg x h1] at h2
    split at h2
    · cases h2
    · split at h2
      · exact absurd h2 (hno _ _ _ _)
      · obtain ⟨g1, m2, g2⟩ := hi.cls x k2 h1 (by rw [h2]; rfl)
        rw [hg k2 (by have := hi.top; omega)] at h3
        split at h3
        · rename_i hq
          subst hq
          cases h3
          have := hi.stamp x l2 t2 k2 st n h1 h2 hkn
          omega
        · split at h3
          · cases h3
          · exact hi.stamp x l2 t2 k2 st m h1 h2 h3
  · intro x y l2 t2 k2 st l3 t3 h1 h2 h3 h4
    rw [hg x h1] at h3
    rw [hg y h2] at h4
    split at h3
    · cases h3
    · split at h3
      · exact absurd h3 (hno _ _ _ _)
      · split at h4
        · cases h4
        · split at h4
          · rename_i _ hyb
            subst hyb
            cases h4
            have : k2 = k := by have := htp; simp [tipOf] at this; exact this
            subst this
            rw [hll]
            exact hi.len x _ l2 t2 _ st l _ h1 h2 h3 ho
          · exact hi.len x y l2 t2 k2 st l3 t3 h1 h2 h3 h4
  · intro x e' h1 h2; rw [h1] at h2; cases h2
  · exact ⟨hs.inj, fun x e' hx => by rw [size_setBlk]; exact hs.rng x e' hx, hs.low⟩
  · rw [size_setBlk]; exact Nat.le_refl _
  · intro c h1 h2
    rw [heap_setBlk, if_neg]
    rintro ⟨rfl, _⟩
    exact h2 b (by simp) e hb rfl
  · intro x e' h1 h2; rw [h1] at h2; cases h2
  · intro x e' hx
    have hxl := hs.low x e' hx
    rw [hg x hxl]
    by_cases hxk : x = k
    · rw [if_pos hxk]; subst hxk; have hbk := hm _ _ hx; rw [hkn] at hbk; exact hbk
    rw [if_neg hxk]
    by_cases hxb : x = b
    · subst hxb
      rw [if_pos rfl]
      rw [hb] at hx
      cases hx
      exact hr
    · rw [if_neg hxb]
      have hval : ∀ l2 t2 k2 st, h.m.get x = .cells l2 t2 (.old k2 st) → h'.m.get k2 = .ctr st → h.m.get k2 = .ctr st := by
        intro l2 t2 k2 st hl hv
        have hk2 : k2 < lim := by have := (hi.cls x k2 hxl (by rw [hl]; rfl)).1; have := hi.top; omega
        rw [hg k2 hk2] at hv
        split at hv
        · rename_i hq
          subst hq
          cases hv
          have := hi.stamp x l2 t2 k2 n' n hxl hl hkn
          have : n' = n := by omega
          rw [this]; exact hkn
        · split at hv
          · cases hv
          · exact hv
      by_cases hce : e'.c = e.c
      · rcases hs.inj x b e' e hx hb hce with h1 | ⟨h1, h2⟩
        · exact absurd h1 hxb
        · have hbr := hm x e' hx
          cases hxo : h.m.get x with
          | none => trivial
          | ctr m => rw [hxo] at hbr; have h9 : e'.k = none := hbr; rw [h1, hek] at h9; cases h9
          | map es => rw [hxo] at hbr; have h9 := hbr.1; rw [h1, hek] at h9; cases h9
          | loop a1 a2 a3 a4 a5 a6 => rw [hxo] at hbr; have h9 := hbr.1; rw [h1, hek] at h9; cases h9
          | dfr tk => rw [hxo] at hbr; have h9 := hbr.1; rw [h1, hek] at h9; cases h9
          | cells l2 t2 k2 =>
            rw [hxo] at hbr
            have hk2 : clsK k2 = some k := by rw [← hbr.1, h1, hek]
            cases k2 with
            | exact => cases hk2
            | tip kx => cases hk2; exact absurd (hi.tip x b k hxl hbl (by rw [hxo]; rfl) (by rw [ho]; rfl)) hxb
            | fz kx => cases hk2; exact absurd (hi.tip x b k hxl hbl (by rw [hxo]; rfl) (by rw [ho]; rfl)) hxb
            | old kx st =>
              cases hk2
              rcases hkk with ⟨_, rfl⟩ | ⟨_, rfl, hfz⟩
              · refine ⟨hbr.1, fun hv => ?_⟩
                have hv' : h'.m.get k = .ctr st := hv
                rw [hg k hkl, if_pos rfl] at hv'
                cases hv'
                have := hi.stamp x l2 t2 k (n + 1) n hxl hxo hkn
                omega
              · have := hfz x e' hx hce hxb l2 t2 st hxo
                rw [hxo] at this
                exact BRel.congr (Sle.refl σ) rfl (fun a1 a2 a3 a4 e5 e6 => hval a1 a2 a3 a4 (by rw [hxo]; exact e5) e6) this
      · refine BRel.congr (Sle.refl σ) (by rw [heap_setBlk, if_neg (fun hh => hce hh.1)]) (fun a1 a2 a3 a4 e5 e6 => hval a1 a2 a3 a4 e5 e6) (hm x e' hx)

/-- a write that the evaluator lets: the model stores, and the heaps stay alike -/
theorem wr_step {b off : Nat} {vs : List AV} {vs' : List Value} {e : SE} (hw : h.wr b off vs = .ok h') (hi : AInv h) (hs : SOk σ w) (hm : MAll G σ h.m.get w) (hb : σ b = some e) (hv : LRel σ vs vs')
    (hone : ∀ u ∈ vs', u.oneCell' = true) :
    ∃ w', (storeCells ⟨e.c, off, none⟩ vs').run P w = .ok () w' ∧ Out G σ h w σ h' w' := by
  have hl := hv.1
  rcases wr_cases hw with ⟨c, t, c', ho, hp, rfl⟩ | ⟨c, t, k, n, c', ho, hk, hp, rfl⟩
  · have hbr := hm b e hb
    rw [ho] at hbr
    obtain ⟨arr, lo, hi', h1, h2, h3, h4, h5, h6⟩ := hbr.2 trivial
    obtain ⟨g1, _⟩ := lput_some hp
    have hlen := h5 rfl
    have hsz : off + vs'.length ≤ arr.size := by omega
    refine ⟨_, run_storeBlk P e.c off t lo hi' vs' 0 arr w h1 (by simpa using hsz) (fun j j1 j2 => h6 trivial j (by omega)) hone, ?_⟩
    refine put_self_step hi hs hm hb ho (by simp) (by simp) rfl rfl hbr.1 (by simp) ?_
    refine ⟨hbr.1, fun _ => ⟨arrPut arr (off + 0) vs', lo, hi', ?_, ?_, ?_, ?_, ?_, ?_⟩⟩
    · rw [heap_setBlk, if_pos ⟨rfl, lt_of_get h1⟩]
    · rw [arrPut_size (by simpa using hsz)]; exact h2
    · rw [lput_length hp]; exact h3
    · simp only [Nat.add_zero]; exact lput_rel hp (by omega) hv h4
    · intro _; rw [lput_length hp]; exact hlen
    · exact h6
  · have hbr := hm b e hb
    rw [ho] at hbr
    obtain ⟨arr, lo, hi', h1, h2, h3, h4, h5, h6⟩ := hbr.2 trivial
    obtain ⟨g1, _⟩ := lput_some hp
    have hsz : off + vs'.length ≤ arr.size := by omega
    refine ⟨_, run_storeBlk P e.c off t lo hi' vs' 0 arr w h1 (by simpa using hsz) (fun j j1 j2 => h6 trivial j (by omega)) hone, ?_⟩
    refine put_cls_step hi hs hm hb ho hk (.inl ⟨rfl, rfl⟩) (lput_length hp) ?_
    refine ⟨hbr.1, fun _ => ⟨arrPut arr (off + 0) vs', lo, hi', ?_, ?_, ?_, ?_, ?_, ?_⟩⟩
    · rw [heap_setBlk, if_pos ⟨rfl, lt_of_get h1⟩]
    · rw [arrPut_size (by simpa using hsz)]; exact h2
    · rw [lput_length hp]; exact h3
    · simp only [Nat.add_zero]; exact lput_rel hp (by omega) hv h4
    · intro hh; cases hh
    · exact h6
end Go.Ev
