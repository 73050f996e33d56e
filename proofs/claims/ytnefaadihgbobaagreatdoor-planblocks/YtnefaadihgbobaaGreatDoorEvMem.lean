/- Reading and writing blocks: the abstract heap and the model's. -/
import Derived.Test.YtnefaadihgbobaaGreatDoorEvOp1
import Derived.Laws.Cells
set_option linter.unusedSimpArgs false
set_option linter.unusedVariables false
namespace Go.Ev
variable {P : Program} {G : Nat} {σ : Sig} {h h' : H} {w : World} {v : AV} {nt : Nat} {f : L2} {a : Act}

def setBlk (w : World) (c : Nat) (o : Obj) : World := { w with heap := w.heap.setIfInBounds c o }
theorem heap_setBlk (w : World) (c : Nat) (o : Obj) (j : Nat) : (setBlk w c o).heap[j]? = if j = c ∧ c < w.heap.size then some o else w.heap[j]? := by
  unfold setBlk
  by_cases hj : j = c
  · subst hj
    by_cases hlt : j < w.heap.size
    · rw [if_pos ⟨rfl, hlt⟩]
      simp [hlt]
    · rw [if_neg (by simp [hlt])]
      simp [hlt]
  · rw [if_neg (fun hh => hj hh.1)]
    simp [Array.getElem?_setIfInBounds_ne (Ne.symm hj)]
theorem size_setBlk (w : World) (c : Nat) (o : Obj) : (setBlk w c o).heap.size = w.heap.size := by simp [setBlk]
theorem lt_of_get {w : World} {c : Nat} {o : Obj} (hc : w.heap[c]? = some o) : c < w.heap.size := (Array.getElem?_eq_some_iff.1 hc).1
theorem setCell_eq {w : World} {c i : Nat} {v : Value} {arr : Array Value} {t : TypeId} {fz : Nat × Nat} (hc : w.heap[c]? = some (.cells arr t fz)) :
    w.setCell ⟨c, i, none⟩ v = setBlk w c (.cells (arr.setIfInBounds i v) t fz) := by
  unfold World.setCell setBlk
  congr 1
  apply Array.ext_getElem?
  intro j
  have hlt := lt_of_get hc
  by_cases hj : c = j
  · subst hj
    rw [Array.getElem?_modify]
    have : w.heap[c] = .cells arr t fz := by rw [Array.getElem?_eq_getElem hlt] at hc; exact Option.some.inj hc
    simp [hlt, this]
  · rw [Array.getElem?_modify]
    simp [hj, Array.getElem?_setIfInBounds_ne hj]
def arrPut (arr : Array Value) (o : Nat) (vs : List Value) : Array Value := (arr.toList.take o ++ vs ++ arr.toList.drop (o + vs.length)).toArray
theorem arrPut_get {arr : Array Value} {o : Nat} {vs : List Value} (hle : o + vs.length ≤ arr.size) (i : Nat) :
    (arrPut arr o vs)[i]? = if o ≤ i ∧ i < o + vs.length then vs[i - o]? else arr[i]? := by
  unfold arrPut
  have hl : arr.toList.length = arr.size := by simp
  simp only [List.getElem?_toArray]
  by_cases h2 : i < o
  · rw [if_neg (by omega), List.append_assoc, List.getElem?_append_left (by simp; omega), List.getElem?_take_of_lt h2]; simp
  · by_cases h3 : i < o + vs.length
    · rw [if_pos (by omega), List.append_assoc, List.getElem?_append_right (by simp; omega), List.getElem?_append_left (by simp; omega)]
      congr 1
      simp
      omega
    · rw [if_neg (by omega), List.getElem?_append_right (by simp; omega)]
      simp only [List.length_append, List.length_take, List.getElem?_drop, Array.getElem?_toList]
      congr 1
      omega
theorem arrPut_size {arr : Array Value} {o : Nat} {vs : List Value} (hle : o + vs.length ≤ arr.size) : (arrPut arr o vs).size = arr.size := by
  unfold arrPut
  simp
  omega
theorem arrPut_cons {arr : Array Value} {o : Nat} {v : Value} {vs : List Value} (hle : o + (vs.length + 1) ≤ arr.size) :
    arrPut (arr.setIfInBounds o v) (o + 1) vs = arrPut arr o (v :: vs) := by
  apply Array.ext_getElem?
  intro i
  rw [arrPut_get (by simp; omega), arrPut_get (by simp; omega)]
  simp only [List.length_cons]
  by_cases h1 : o + 1 ≤ i ∧ i < o + 1 + vs.length
  · rw [if_pos h1, if_pos (by omega)]
    have : i - o = (i - (o + 1)) + 1 := by omega
    rw [this, List.getElem?_cons_succ]
  · rw [if_neg h1]
    by_cases h2 : i = o
    · subst h2
      rw [if_pos (by omega)]
      have : i < arr.size := by omega
      simp [this]
    · rw [if_neg (by omega), Array.getElem?_setIfInBounds_ne (by omega)]
theorem setBlk_setBlk (w : World) (c : Nat) (o o' : Obj) : setBlk (setBlk w c o) c o' = setBlk w c o' := by
  unfold setBlk
  simp
theorem run_storeBlk (P : Program) (c off : Nat) (t : TypeId) (lo hi : Nat) : ∀ (vs : List Value) (i : Nat) (arr : Array Value) (w : World), w.heap[c]? = some (.cells arr t (lo, hi)) →
    off + i + vs.length ≤ arr.size → (∀ j, off + i ≤ j → j < off + i + vs.length → ¬ (lo ≤ j ∧ j < hi)) → (∀ v ∈ vs, v.oneCell' = true) →
    (storeCells ⟨c, off, none⟩ vs i).run P w = .ok () (setBlk w c (.cells (arrPut arr (off + i) vs) t (lo, hi)))
  | [], i, arr, w, hc, hle, _, _ => by
    have e : arrPut arr (off + i) [] = arr := by unfold arrPut; simp
    rw [e]
    simp only [storeCells, Sem.run_pure]
    congr 1
    unfold setBlk
    have hlt := lt_of_get hc
    have : w.heap.setIfInBounds c (.cells arr t (lo, hi)) = w.heap := by
      apply Array.ext_getElem?
      intro j
      by_cases hj : c = j
      · subst hj; rw [hc]; simp [hlt]
      · simp [Array.getElem?_setIfInBounds_ne hj]
    rw [this]
  | v :: vs, i, arr, w, hc, hle, hfz, hone => by
    simp only [List.length_cons] at hle hfz
    have hcell : w.cell? ((⟨c, off, none⟩ : Addr).add i) = some arr[off + i] := by
      rw [add_off]
      simp [World.cell?, hc]
    have hfro : w.frozen? ((⟨c, off, none⟩ : Addr).add i) = false := by
      rw [add_off]
      simp only [World.frozen?, hc]
      have := hfz (off + i) (by omega) (by omega)
      simp
      omega
    have hst := run_store P w ((⟨c, off, none⟩ : Addr).add i) v .plain (hone v (by simp))
    rw [hcell, hfro] at hst
    simp only [Bool.false_eq_true, if_false] at hst
    rw [add_off, setCell_eq hc] at hst
    have hc2 : (setBlk w c (.cells (arr.setIfInBounds (off + i) v) t (lo, hi))).heap[c]? = some (.cells (arr.setIfInBounds (off + i) v) t (lo, hi)) := by
      rw [heap_setBlk, if_pos ⟨rfl, lt_of_get hc⟩]
    have ih := run_storeBlk P c off t lo hi vs (i + 1) _ _ hc2 (by simp; omega) (fun j h1 h2 => hfz j (by omega) (by omega)) (fun u hu => hone u (by simp [hu]))
    have he : storeCells ⟨c, off, none⟩ (v :: vs) i = (do store ((⟨c, off, none⟩ : Addr).add i) v; storeCells ⟨c, off, none⟩ vs (i + 1)) := by rw [storeCells]
    rw [he, Sem.run_bind, add_off, hst, Result.andThen_ok, ih, setBlk_setBlk]
    congr 3
    have : off + (i + 1) = off + i + 1 := by omega
    rw [this]
    exact arrPut_cons (by omega)

/- reading -/
theorem isCtr_some {n : Nat} {o : AO} (hh : isCtr n o = true) : o = .ctr n := by
  cases o <;> first | (cases hh; done) | skip
  rename_i m
  have := beq_eqN (show Nat.beq m n = true from hh)
  rw [this]
theorem rd_some {b : Nat} {c : List AV} (hr : h.rd b = some c) : ∃ t k, h.m.get b = .cells c t k ∧ validK h.m.get k := by
  have hr' : rdO (h.m.get b) h = some c := hr
  cases ho : h.m.get b with
  | cells l t k =>
    rw [ho] at hr'
    have hk : rdK k l h = some c := hr'
    cases k with
    | old cl st =>
      have : rdOld cl st l h = some c := hk
      unfold rdOld at this
      cases hq : isCtr st (h.m.get cl) with
      | false => rw [hq] at this; cases this
      | true => rw [hq] at this; cases this; exact ⟨t, _, rfl, isCtr_some hq⟩
    | exact => cases hk; exact ⟨t, _, rfl, trivial⟩
    | fz cl => cases hk; exact ⟨t, _, rfl, trivial⟩
    | tip cl => cases hk; exact ⟨t, _, rfl, trivial⟩
  | _ => rw [ho] at hr'; cases hr'
/-- what a readable block is in the model -/
theorem blk_of_rd {b : Nat} {c : List AV} {e : SE} (hr : h.rd b = some c) (hb : BRel G σ h.m.get e w (h.m.get b)) :
    ∃ (arr : Array Value) (t : TypeId) (fz : Nat × Nat), w.heap[e.c]? = some (.cells arr t fz) ∧ arr.size = e.N ∧ c.length ≤ e.N ∧ ∀ (i : Nat) (x : AV) (y : Value), c[i]? = some x → arr[i]? = some y → VRel σ x y := by
  obtain ⟨t, k, ho, hv⟩ := rd_some hr
  rw [ho] at hb
  obtain ⟨arr, lo, hi, h1, h2, h3, h4, _⟩ := hb.2 hv
  exact ⟨arr, t, (lo, hi), h1, h2, h3, h4⟩
theorem cell_blk {c i : Nat} {arr : Array Value} {t : TypeId} {fz : Nat × Nat} (hc : w.heap[c]? = some (.cells arr t fz)) : w.cell? ⟨c, i, none⟩ = arr[i]? := by
  simp [World.cell?, hc]
theorem run_loadBlk {c off n : Nat} {arr : Array Value} {t : TypeId} {fz : Nat × Nat} (hc : w.heap[c]? = some (.cells arr t fz)) (hle : off + n ≤ arr.size) :
    (loadCells ⟨c, off, none⟩ n).run P w = .ok (((arr.toList.drop off).take n).toArray) w := by
  have hl : ((arr.toList.drop off).take n).length = n := by simp; omega
  have := run_loadCells_list (P := P) w ⟨c, off, none⟩ ((arr.toList.drop off).take n) (fun j v hj => by
    rw [add_off, cell_blk hc]
    rw [List.getElem?_take] at hj
    split at hj
    · rw [List.getElem?_drop] at hj; simpa using hj
    · cases hj)
  rw [hl] at this
  exact this
theorem cut_rel {c : List AV} {arr : Array Value} {off n : Nat} {r : List AV} (hcut : lcut c off n = some r) (hr : ∀ (i : Nat) (x : AV) (y : Value), c[i]? = some x → arr[i]? = some y → VRel σ x y) (hle : c.length ≤ arr.size) :
    LRel σ r ((arr.toList.drop off).take n) := by
  obtain ⟨h1, rfl, h2⟩ := lcut_some hcut
  refine ⟨by rw [h2]; simp; omega, fun i x y hx hy => ?_⟩
  rw [List.getElem?_take] at hx hy
  split at hx
  · rename_i hlt
    rw [if_pos hlt] at hy
    rw [List.getElem?_drop] at hx hy
    exact hr _ x y hx (by simpa using hy)
  · cases hx
theorem ldAt_run {t : TypeId} {c : List AV} {off : Nat} {e : SE} {arr : Array Value} {ty : TypeId} {fz : Nat × Nat} (hp : partI (ldInfo P t) c off = some v) (hc : w.heap[e.c]? = some (.cells arr ty fz))
    (hle : c.length ≤ arr.size) (hr : ∀ (i : Nat) (x : AV) (y : Value), c[i]? = some x → arr[i]? = some y → VRel σ x y) :
    ∃ v', (loadVar t ⟨e.c, off, none⟩).run P w = .ok v' w ∧ VRel σ v v' := by
  unfold partI at hp
  split at hp
  · rename_i hl
    rw [lget_eq] at hp
    have hi := (List.getElem?_eq_some_iff.1 hp).1
    have hy : arr[off]? = some arr[off] := Array.getElem?_eq_getElem (by omega)
    refine ⟨arr[off], ?_, hr off v _ hp hy⟩
    simp only [loadVar, Sem.run_bind, run_isAgg_one hl, Result.andThen_ok, Bool.false_eq_true, if_false, run_load, cell_blk hc, hy]
  · rename_i n hl
    cases hcut : lcut c off n with
    | none => simp [hcut] at hp
    | some r =>
      simp [hcut] at hp
      subst hp
      have := cut_rel hcut hr hle
      refine ⟨.agg ((arr.toList.drop off).take n).toArray, ?_, .agg _ _ this.1 this.2⟩
      obtain ⟨h1, _, _⟩ := lcut_some hcut
      simp only [loadVar, Sem.run_bind, (run_isAgg_many hl w).1, (run_isAgg_many hl w).2, Result.andThen_ok, if_true, run_loadBlk hc (show off + n ≤ arr.size by omega), Sem.run_pure]
  · cases hp
/-- a load: only the block that is read is asked for -/
theorem good_load {dst : Option Tmp} {ty : TypeId} {pos : String} {af : Array Edge} {gd : Option (Nat × Bool)} (t : TypeId) (x : Operand) {ctx : CallT}
    (he : opD (.load t x) ty P ctx f h = .ok v h') (hop : opdOk G x = true) (hf : FRel σ nt f a) (hg : GOk G σ)
    (hm : ∀ b off e, ev x f = .ptr b off → σ b = some e → BRel G σ h.m.get e w (h.m.get b)) :
    ∃ v', Ran P (execOp a.eval ⟨dst, .load t x, ty, pos, af, gd⟩) w v' w ∧ VRel σ v v' ∧ h' = h := by
  have hx := ev_rel hf hg x hop
  have he' : ldV (ev x f) (ldInfo P t) h = .ok v h' := he
  generalize ev x f = u at *
  generalize hy : a.eval x = y at *
  cases hx <;> first | (cases he'; done) | skip
  rename_i b off e hs
  have he2 : ldC (h.rd b) (ldInfo P t) off h = .ok v h' := he'
  cases hrd : h.rd b with
  | none => rw [hrd] at he2; cases he2
  | some c =>
    rw [hrd] at he2
    obtain ⟨arr, tt, fz, h1, h2, h3, h4⟩ := blk_of_rd hrd (hm b off e rfl hs)
    have key : partI (ldInfo P t) c off = some v ∧ h' = h := by
      have he3 : ldL (ldInfo P t) c off h = .ok v h' := he2
      cases hl : ldInfo P t with
      | none => rw [hl] at he3; cases he3
      | some i =>
        rw [hl] at he3
        cases i with
        | none => obtain ⟨g1, g2⟩ := res1_ok (show res1 (lget c off) h = .ok v h' from he3); exact ⟨g1, g2⟩
        | some n =>
          obtain ⟨cs, g1, rfl, g2⟩ := resAgg_ok (show resAgg (lcut c off n) h = .ok v h' from he3)
          exact ⟨by simp [partI, g1], g2⟩
    obtain ⟨hp, rfl⟩ := key
    obtain ⟨v', hr, hv⟩ := ldAt_run (P := P) (e := e) hp h1 (by omega) h4
    refine ⟨v', .inl ?_, hv, rfl⟩
    simp [execOp, hy, Instr.loadAt, Instr.sureAddr, hr]
end Go.Ev

/- Writing into a block, and making one: each step keeps the two heaps alike. -/
set_option linter.unusedSimpArgs false
set_option linter.unusedVariables false
namespace Go.Ev
variable {P : Program} {G : Nat} {σ : Sig} {h h' : H} {w : World} {v : AV} {nt : Nat} {f : L2} {a : Act}

theorem put_get (h : H) (b : Nat) (o : AO) (hb : b < lim) (j : Nat) (hj : j < lim) : (h.put b o).m.get j = if j = b then o else h.m.get j := K6.get_set h.m b j o hb hj
theorem new_get (h : H) (o : AO) (hb : h.nx < lim) (j : Nat) (hj : j < lim) : (h.new o).m.get j = if j = h.nx then o else h.m.get j := K6.get_set h.m h.nx j o hb hj
theorem live_lt (hi : AInv h) {b : Nat} (hb : b < lim) (hn : h.m.get b ≠ .none) : b < h.nx := by
  rcases Nat.lt_or_ge b h.nx with h1 | h1
  · exact h1
  · exact absurd (hi.bound b h1 hb) hn

/-- a block without a class gets another object of its kind -/
theorem put_self_step {b : Nat} {e : SE} {o o' : AO} {ob : Obj} (hi : AInv h) (hs : SOk σ w) (hm : MAll G σ h.m.get w) (hb : σ b = some e) (ho : h.m.get b = o) (hne : o ≠ .none) (hnc : ∀ n, o ≠ .ctr n)
    (hc : clsAO o = none) (hc' : clsAO o' = none) (hk : e.k = none) (hnc' : ∀ n, o' ≠ .ctr n) (hr : BRel G σ (h.put b o').m.get e (setBlk w e.c ob) o') :
    Out G σ h w σ (h.put b o') (setBlk w e.c ob) := by
  have hbl := hs.low b e hb
  have hbn := live_lt hi hbl (by rw [ho]; exact hne)
  have hg := fun j hj => put_get h b o' hbl j hj
  have htip : tipOf o' = none := by
    cases o' with
    | cells l t k => cases k <;> first | rfl | (cases hc'; done)
    | _ => rfl
  have hcell : ∀ l t k st, o' ≠ .cells l t (.old k st) := by rintro l t k st rfl; cases hc'
  refine ⟨[b], ⟨rfl, Nat.le_refl _, ?_, ?_, ?_, ?_, ?_, ⟨hi.top, ?_, ?_, ?_, ?_, ?_⟩, fun x hx _ _ => by rw [List.mem_singleton] at hx; subst hx; rw [ho]; exact hne⟩, ⟨Sle.refl σ, ?_, ?_, ?_, ?_, ?_, ⟨rfl, rfl⟩⟩, ?_⟩
  · intro x hx; rw [List.mem_singleton] at hx; subst hx; exact hbn
  · intro x h1 h2 h3
    rw [hg x h1, if_neg (fun e => h3 (by simp [e]))]
  · intro x hx k h1 h2
    rw [List.mem_singleton] at hx
    subst hx
    rw [ho, hc] at h2
    cases h2
  · intro x k h1 h2; exact absurd h2 (by show ¬ x < h.nx; omega)
  · intro x k h1 h2 h3
    rw [hg x h2] at h3
    split at h3
    · rw [hc'] at h3; cases h3
    · exact h3
  · intro x h1 h2
    rw [hg x h2, if_neg (by have : h.nx ≤ x := h1; omega)]
    exact hi.bound x h1 h2
  · intro x k h1 h2
    rw [hg x h1] at h2
    split at h2
    · rw [hc'] at h2; cases h2
    · obtain ⟨h3, n, h4⟩ := hi.cls x k h1 h2
      refine ⟨h3, n, ?_⟩
      have hkl : k < lim := by have := hi.top; omega
      rw [hg k hkl, if_neg (fun e => by subst e; rw [ho] at h4; exact hnc n h4)]
      exact h4
  · intro x y k h1 h2 h3 h4
    rw [hg x h1] at h3
    rw [hg y h2] at h4
    split at h3
    · rw [htip] at h3; cases h3
    · split at h4
      · rw [htip] at h4; cases h4
      · exact hi.tip x y k h1 h2 h3 h4
  · intro x l t k st n h1 h2 h3
    rw [hg x h1] at h2
    split at h2
    · exact absurd h2 (hcell _ _ _ _)
    · obtain ⟨h5, n', h6⟩ := hi.cls x k h1 (by rw [h2]; rfl)
      have hkl : k < lim := by have := hi.top; omega
      rw [hg k hkl] at h3
      split at h3
      · exact absurd h3 (hnc' n)
      · exact hi.stamp x l t k st n h1 h2 h3
  · intro x y l t k st l2 t2 h1 h2 h3 h4
    rw [hg x h1] at h3
    rw [hg y h2] at h4
    split at h3
    · exact absurd h3 (hcell _ _ _ _)
    · split at h4
      · rw [h4] at htip; cases htip
      · exact hi.len x y l t k st l2 t2 h1 h2 h3 h4
  · intro x e' h1 h2; rw [h1] at h2; cases h2
  · exact ⟨hs.inj, fun x e' hx => by rw [size_setBlk]; exact hs.rng x e' hx, hs.low⟩
  · rw [size_setBlk]; exact Nat.le_refl _
  · intro c h1 h2
    rw [heap_setBlk, if_neg]
    rintro ⟨rfl, _⟩
    exact h2 b (by simp) e hb rfl
  · intro x e' h1 h2; rw [h1] at h2; cases h2
  · intro x e' hx
    have hxl := hs.low x e' hx
    rw [hg x hxl]
    by_cases hxb : x = b
    · subst hxb
      rw [if_pos rfl]
      rw [hb] at hx
      cases hx
      exact hr
    · rw [if_neg hxb]
      have hce : e'.c ≠ e.c := by
        intro hce
        rcases hs.inj x b e' e hx hb hce with h1 | ⟨h1, h2⟩
        · exact hxb h1
        · rw [h1, hk] at h2; exact h2 rfl
      refine BRel.congr (Sle.refl σ) (by rw [heap_setBlk, if_neg (fun hh => hce hh.1)]) ?_ (hm x e' hx)
      intro l t k st hl hv
      have hkl : k < lim := by have := (hi.cls x k hxl (by rw [hl]; rfl)).1; have := hi.top; omega
      rw [hg k hkl] at hv
      split at hv
      · exact absurd hv (hnc' st)
      · exact hv

theorem lput_rel {c c' vs : List AV} {off : Nat} {arr : Array Value} {vs' : List Value} (hput : lput c vs off = some c') (hle : c.length ≤ arr.size) (hv : LRel σ vs vs')
    (hr : ∀ (i : Nat) (x : AV) (y : Value), c[i]? = some x → arr[i]? = some y → VRel σ x y) : ∀ (i : Nat) (x : AV) (y : Value), c'[i]? = some x → (arrPut arr off vs')[i]? = some y → VRel σ x y := by
  intro i x y hx hy
  obtain ⟨h1, _⟩ := lput_some hput
  have h2 := hv.1
  rw [lput_get hput] at hx
  rw [arrPut_get (by omega)] at hy
  by_cases hj : off ≤ i ∧ i < off + vs.length
  · rw [if_pos hj] at hx
    rw [if_pos (by omega)] at hy
    exact hv.2 _ x y hx hy
  · rw [if_neg hj] at hx
    rw [if_neg (by omega)] at hy
    exact hr i x y hx hy
theorem wr_cases {b off : Nat} {vs : List AV} (hw : h.wr b off vs = .ok h') :
    (∃ c t c', h.m.get b = .cells c t .exact ∧ lput c vs off = some c' ∧ h' = h.put b (.cells c' t .exact)) ∨
    (∃ c t k n c', h.m.get b = .cells c t (.tip k) ∧ h.m.get k = .ctr n ∧ lput c vs off = some c' ∧ h' = (h.put b (.cells c' t (.tip k))).put k (.ctr (n + 1))) := by
  have hw' : wrO (h.m.get b) b off vs h = .ok h' := hw
  cases ho : h.m.get b with
  | cells c t k =>
    rw [ho] at hw'
    have hk : wrK k c t b off vs h = .ok h' := hw'
    cases k with
    | exact =>
      have hk' : wrL (lput c vs off) b t h = .ok h' := hk
      cases hp : lput c vs off with
      | none => rw [hp] at hk'; cases hk'
      | some c' => rw [hp] at hk'; cases hk'; exact .inl ⟨c, t, c', rfl, hp, rfl⟩
    | tip cl =>
      have hk' : wrT (lput c vs off) (ctrN (h.m.get cl)) cl b t h = .ok h' := hk
      unfold wrT at hk'
      split at hk'
      · rename_i c' n hp hn
        cases hk'
        have : h.m.get cl = .ctr n := by
          cases hq : h.m.get cl <;> rw [hq] at hn <;> cases hn
          rfl
        exact .inr ⟨c, t, cl, n, c', rfl, this, hp, rfl⟩
      · cases hk'
    | fz cl => cases hk
    | old cl st => cases hk
  | _ => rw [ho] at hw'; cases hw'

/-- a block of a class: another object of its kind in it, and its counter set -/
theorem put_cls_step {b k n n' : Nat} {e : SE} {l l' : List AV} {t : TypeId} {kk : CK} {ob : Obj} (hi : AInv h) (hs : SOk σ w) (hm : MAll G σ h.m.get w) (hb : σ b = some e)
    (ho : h.m.get b = .cells l t (.tip k)) (hkn : h.m.get k = .ctr n) (hkk : (kk = .tip k ∧ n' = n + 1) ∨ (kk = .fz k ∧ n' = n ∧ ∀ x y, σ x = some y → y.c = e.c → x ≠ b → ∀ l t st, h.m.get x = .cells l t (.old k st) → BRel G σ h.m.get y (setBlk w e.c ob) (h.m.get x)))
    (hll : l'.length = l.length) (hr : BRel G σ ((h.put b (.cells l' t kk)).put k (.ctr n')).m.get e (setBlk w e.c ob) (.cells l' t kk)) :
    Out G σ h w σ ((h.put b (.cells l' t kk)).put k (.ctr n')) (setBlk w e.c ob) := by
  have hbl := hs.low b e hb
  have hbn := live_lt hi hbl (by rw [ho]; simp)
  obtain ⟨hkn1, _⟩ := hi.cls b k hbl (by rw [ho]; rfl)
  have hkl : k < lim := by have := hi.top; omega
  have hkb : k ≠ b := by rintro rfl; rw [ho] at hkn; cases hkn
  have hcls : clsK kk = some k := by rcases hkk with ⟨rfl, _⟩ | ⟨rfl, _⟩ <;> rfl
  have htp : tipOf (.cells l' t kk) = some k := by rcases hkk with ⟨rfl, _⟩ | ⟨rfl, _⟩ <;> rfl
  have hno : ∀ l2 t2 k2 st, AO.cells l' t kk ≠ .cells l2 t2 (.old k2 st) := by
    rintro l2 t2 k2 st hh
    rcases hkk with ⟨rfl, _⟩ | ⟨rfl, _⟩ <;> cases hh
  have hnn : n ≤ n' := by rcases hkk with ⟨_, rfl⟩ | ⟨_, rfl, _⟩ <;> omega
  have hek : e.k = some k := by have := hm b e hb; rw [ho] at this; exact this.1
  have hg : ∀ j, j < lim → ((h.put b (.cells l' t kk)).put k (.ctr n')).m.get j = if j = k then .ctr n' else if j = b then .cells l' t kk else h.m.get j := by
    intro j hj
    rw [put_get _ _ _ hkl j hj, put_get _ _ _ hbl j hj]
  generalize hh' : (h.put b (.cells l' t kk)).put k (.ctr n') = h' at *
  have hnx : h'.nx = h.nx := by rw [← hh']; rfl
  have hlg : h'.lg = [k, b] ++ h.lg := by rw [← hh']; rfl
  refine ⟨[k, b], ⟨hlg, by omega, ?_, ?_, ?_, ?_, ?_, ⟨by rw [hnx]; exact hi.top, ?_, ?_, ?_, ?_, ?_⟩, fun x hx _ _ => by simp at hx; rcases hx with rfl | rfl; (rw [hkn]; simp); (rw [ho]; simp)⟩, ⟨Sle.refl σ, ?_, ?_, ?_, ?_, ?_, ⟨rfl, rfl⟩⟩, ?_⟩
  · intro x hx
    simp at hx
    rcases hx with rfl | rfl <;> omega
  · intro x h1 h2 h3
    simp at h3
    rw [hg x h1, if_neg h3.1, if_neg h3.2]
  · intro x hx k2 h1 h2
    simp at hx
    rcases hx with rfl | rfl
    · rw [hkn] at h2; cases h2
    · rw [ho] at h2
      cases h2
      simp
  · intro x k2 h1 h2; omega
  · intro x k2 h1 h2 h3
    rw [hg x h2] at h3
    split at h3
    · cases h3
    · split at h3
      · rename_i _ hxb
        subst hxb
        rw [ho]
        rw [show clsAO (.cells l' t kk) = clsK kk from rfl, hcls] at h3
        exact h3
      · exact h3
  · intro x h1 h2
    rw [hg x h2, if_neg (by omega), if_neg (by omega)]
    exact hi.bound x (by omega) h2
  · intro x k2 h1 h2
    rw [hg x h1] at h2
    have key : k2 = k ∨ clsAO (h.m.get x) = some k2 := by
      split at h2
      · cases h2
      · split at h2
        · rw [show clsAO (.cells l' t kk) = clsK kk from rfl, hcls] at h2
          cases h2
          exact .inl rfl
        · exact .inr h2
    rcases key with rfl | h3
    · exact ⟨by omega, n', by rw [hg _ hkl, if_pos rfl]⟩
    · obtain ⟨g1, m, g2⟩ := hi.cls x k2 h1 h3
      refine ⟨by omega, ?_⟩
      rw [hg k2 (by have := hi.top; omega)]
      by_cases hq : k2 = k
      · exact ⟨n', by rw [if_pos hq]⟩
      · rw [if_neg hq, if_neg (fun e => by subst e; rw [ho] at g2; cases g2)]
        exact ⟨m, g2⟩
  · intro x y k2 h1 h2 h3 h4
    rw [hg x h1] at h3
    rw [hg y h2] at h4
    have tr : ∀ z, tipOf (if z = k then .ctr n' else if z = b then .cells l' t kk else h.m.get z) = some k2 → tipOf (h.m.get z) = some k2 := by
      intro z hz
      split at hz
      · cases hz
      · split at hz
        · rename_i _ hzb
          subst hzb
          rw [htp] at hz
          rw [ho]
          exact hz
        · exact hz
    exact hi.tip x y k2 h1 h2 (tr x h3) (tr y h4)
  · intro x l2 t2 k2 st m h1 h2 h3
    rw [hg x h1] at h2
    split at h2
    · cases h2
    · split at h2
      · exact absurd h2 (hno _ _ _ _)
      · obtain ⟨g1, m2, g2⟩ := hi.cls x k2 h1 (by rw [h2]; rfl)
        rw [hg k2 (by have := hi.top; omega)] at h3
        split at h3
        · rename_i hq
          subst hq
          cases h3
          have := hi.stamp x l2 t2 k2 st n h1 h2 hkn
          omega
        · split at h3
          · cases h3
          · exact hi.stamp x l2 t2 k2 st m h1 h2 h3
  · intro x y l2 t2 k2 st l3 t3 h1 h2 h3 h4
    rw [hg x h1] at h3
    rw [hg y h2] at h4
    split at h3
    · cases h3
    · split at h3
      · exact absurd h3 (hno _ _ _ _)
      · split at h4
        · cases h4
        · split at h4
          · rename_i _ hyb
            subst hyb
            cases h4
            have : k2 = k := by have := htp; simp [tipOf] at this; exact this
            subst this
            rw [hll]
            exact hi.len x _ l2 t2 _ st l _ h1 h2 h3 ho
          · exact hi.len x y l2 t2 k2 st l3 t3 h1 h2 h3 h4
  · intro x e' h1 h2; rw [h1] at h2; cases h2
  · exact ⟨hs.inj, fun x e' hx => by rw [size_setBlk]; exact hs.rng x e' hx, hs.low⟩
  · rw [size_setBlk]; exact Nat.le_refl _
  · intro c h1 h2
    rw [heap_setBlk, if_neg]
    rintro ⟨rfl, _⟩
    exact h2 b (by simp) e hb rfl
  · intro x e' h1 h2; rw [h1] at h2; cases h2
  · intro x e' hx
    have hxl := hs.low x e' hx
    rw [hg x hxl]
    by_cases hxk : x = k
    · rw [if_pos hxk]; subst hxk; have hbk := hm _ _ hx; rw [hkn] at hbk; exact hbk
    rw [if_neg hxk]
    by_cases hxb : x = b
    · subst hxb
      rw [if_pos rfl]
      rw [hb] at hx
      cases hx
      exact hr
    · rw [if_neg hxb]
      have hval : ∀ l2 t2 k2 st, h.m.get x = .cells l2 t2 (.old k2 st) → h'.m.get k2 = .ctr st → h.m.get k2 = .ctr st := by
        intro l2 t2 k2 st hl hv
        have hk2 : k2 < lim := by have := (hi.cls x k2 hxl (by rw [hl]; rfl)).1; have := hi.top; omega
        rw [hg k2 hk2] at hv
        split at hv
        · rename_i hq
          subst hq
          cases hv
          have := hi.stamp x l2 t2 k2 n' n hxl hl hkn
          have : n' = n := by omega
          rw [this]; exact hkn
        · split at hv
          · cases hv
          · exact hv
      by_cases hce : e'.c = e.c
      · rcases hs.inj x b e' e hx hb hce with h1 | ⟨h1, h2⟩
        · exact absurd h1 hxb
        · have hbr := hm x e' hx
          cases hxo : h.m.get x with
          | none => trivial
          | ctr m => rw [hxo] at hbr; have h9 : e'.k = none := hbr; rw [h1, hek] at h9; cases h9
          | map es => rw [hxo] at hbr; have h9 := hbr.1; rw [h1, hek] at h9; cases h9
          | loop a1 a2 a3 a4 a5 a6 => rw [hxo] at hbr; have h9 := hbr.1; rw [h1, hek] at h9; cases h9
          | dfr tk => rw [hxo] at hbr; have h9 := hbr.1; rw [h1, hek] at h9; cases h9
          | cells l2 t2 k2 =>
            rw [hxo] at hbr
            have hk2 : clsK k2 = some k := by rw [← hbr.1, h1, hek]
            cases k2 with
            | exact => cases hk2
            | tip kx => cases hk2; exact absurd (hi.tip x b k hxl hbl (by rw [hxo]; rfl) (by rw [ho]; rfl)) hxb
            | fz kx => cases hk2; exact absurd (hi.tip x b k hxl hbl (by rw [hxo]; rfl) (by rw [ho]; rfl)) hxb
            | old kx st =>
              cases hk2
              rcases hkk with ⟨_, rfl⟩ | ⟨_, rfl, hfz⟩
              · refine ⟨hbr.1, fun hv => ?_⟩
                have hv' : h'.m.get k = .ctr st := hv
                rw [hg k hkl, if_pos rfl] at hv'
                cases hv'
                have := hi.stamp x l2 t2 k (n + 1) n hxl hxo hkn
                omega
              · have := hfz x e' hx hce hxb l2 t2 st hxo
                rw [hxo] at this
                exact BRel.congr (Sle.refl σ) rfl (fun a1 a2 a3 a4 e5 e6 => hval a1 a2 a3 a4 (by rw [hxo]; exact e5) e6) this
      · refine BRel.congr (Sle.refl σ) (by rw [heap_setBlk, if_neg (fun hh => hce hh.1)]) (fun a1 a2 a3 a4 e5 e6 => hval a1 a2 a3 a4 e5 e6) (hm x e' hx)

/-- a write that the evaluator lets: the model stores, and the heaps stay alike -/
theorem wr_step {b off : Nat} {vs : List AV} {vs' : List Value} {e : SE} (hw : h.wr b off vs = .ok h') (hi : AInv h) (hs : SOk σ w) (hm : MAll G σ h.m.get w) (hb : σ b = some e) (hv : LRel σ vs vs')
    (hone : ∀ u ∈ vs', u.oneCell' = true) :
    ∃ w', (storeCells ⟨e.c, off, none⟩ vs').run P w = .ok () w' ∧ Out G σ h w σ h' w' := by
  have hl := hv.1
  rcases wr_cases hw with ⟨c, t, c', ho, hp, rfl⟩ | ⟨c, t, k, n, c', ho, hk, hp, rfl⟩
  · have hbr := hm b e hb
    rw [ho] at hbr
    obtain ⟨arr, lo, hi', h1, h2, h3, h4, h5, h6⟩ := hbr.2 trivial
    obtain ⟨g1, _⟩ := lput_some hp
    have hlen := h5 rfl
    have hsz : off + vs'.length ≤ arr.size := by omega
    refine ⟨_, run_storeBlk P e.c off t lo hi' vs' 0 arr w h1 (by simpa using hsz) (fun j j1 j2 => h6 trivial j (by omega)) hone, ?_⟩
    refine put_self_step hi hs hm hb ho (by simp) (by simp) rfl rfl hbr.1 (by simp) ?_
    refine ⟨hbr.1, fun _ => ⟨arrPut arr (off + 0) vs', lo, hi', ?_, ?_, ?_, ?_, ?_, ?_⟩⟩
    · rw [heap_setBlk, if_pos ⟨rfl, lt_of_get h1⟩]
    · rw [arrPut_size (by simpa using hsz)]; exact h2
    · rw [lput_length hp]; exact h3
    · simp only [Nat.add_zero]; exact lput_rel hp (by omega) hv h4
    · intro _; rw [lput_length hp]; exact hlen
    · exact h6
  · have hbr := hm b e hb
    rw [ho] at hbr
    obtain ⟨arr, lo, hi', h1, h2, h3, h4, h5, h6⟩ := hbr.2 trivial
    obtain ⟨g1, _⟩ := lput_some hp
    have hsz : off + vs'.length ≤ arr.size := by omega
    refine ⟨_, run_storeBlk P e.c off t lo hi' vs' 0 arr w h1 (by simpa using hsz) (fun j j1 j2 => h6 trivial j (by omega)) hone, ?_⟩
    refine put_cls_step hi hs hm hb ho hk (.inl ⟨rfl, rfl⟩) (lput_length hp) ?_
    refine ⟨hbr.1, fun _ => ⟨arrPut arr (off + 0) vs', lo, hi', ?_, ?_, ?_, ?_, ?_, ?_⟩⟩
    · rw [heap_setBlk, if_pos ⟨rfl, lt_of_get h1⟩]
    · rw [arrPut_size (by simpa using hsz)]; exact h2
    · rw [lput_length hp]; exact h3
    · simp only [Nat.add_zero]; exact lput_rel hp (by omega) hv h4
    · intro hh; cases hh
    · exact h6
end Go.Ev

/- Making blocks. -/
set_option linter.unusedSimpArgs false
set_option linter.unusedVariables false
namespace Go.Ev
variable {P : Program} {G : Nat} {σ : Sig} {h h' : H} {w : World} {v : AV} {nt : Nat} {f : L2} {a : Act}

def upd (σ : Sig) (b : Nat) (e : SE) : Sig := fun x => if x = b then some e else σ x
theorem upd_le {b : Nat} {e : SE} (hb : σ b = none) : Sle σ (upd σ b e) := by
  intro x e' hx
  unfold upd
  rw [if_neg (fun hh => by subst hh; rw [hb] at hx; cases hx)]
  exact hx
theorem heap_push (w : World) (o : Obj) (j : Nat) (hj : j < w.heap.size) : (wpush w o).heap[j]? = w.heap[j]? := by
  show (w.heap.push o)[j]? = _
  rw [Array.getElem?_push, if_neg (Nat.ne_of_lt hj)]
theorem heap_push_at (w : World) (o : Obj) : (wpush w o).heap[w.heap.size]? = some o := by
  show (w.heap.push o)[w.heap.size]? = _
  rw [Array.getElem?_push, if_pos rfl]
theorem size_push (w : World) (o : Obj) : (wpush w o).heap.size = w.heap.size + 1 := by
  show (w.heap.push o).size = _
  rw [Array.size_push]
theorem SOk.push {b : Nat} {e : SE} (hs : SOk σ w) (ob : Obj) (hb : b < lim) (he : e.c = w.heap.size) : SOk (upd σ b e) (wpush w ob) := by
  refine ⟨?_, ?_, ?_⟩
  · intro x y e1 e2 h1 h2 h3
    unfold upd at h1 h2
    split at h1
    · cases h1
      split at h2
      · left; omega
      · have := hs.rng y e2 h2; omega
    · split at h2
      · cases h2; have := hs.rng x e1 h1; omega
      · exact hs.inj x y e1 e2 h1 h2 h3
  · intro x e1 h1
    rw [size_push]
    unfold upd at h1
    split at h1
    · cases h1; omega
    · have := hs.rng x e1 h1; omega
  · intro x e1 h1
    unfold upd at h1
    split at h1
    · omega
    · exact hs.low x e1 h1
/-- a new block without a class -/
theorem new_step {o : AO} {ob : Obj} {e : SE} (hi : AInv h) (hs : SOk σ w) (hm : MAll G σ h.m.get w) (hl : h.nx < lim) (hf : σ h.nx = none) (hc : clsAO o = none) (he : e.c = w.heap.size)
    (hr : BRel G (upd σ h.nx e) (h.new o).m.get e (wpush w ob) o) : Out G σ h w (upd σ h.nx e) (h.new o) (wpush w ob) := by
  have hg := fun j hj => new_get h o hl j hj
  have htip : tipOf o = none := by
    cases o with
    | cells l t k => cases k <;> first | rfl | (cases hc; done)
    | _ => rfl
  have hcell : ∀ l t k st, o ≠ .cells l t (.old k st) := by rintro l t k st rfl; cases hc
  have hnx : (h.new o).nx = h.nx + 1 := rfl
  have hcls : ∀ x k, x < lim → clsAO (h.m.get x) = some k → k < h.nx ∧ k ≠ h.nx ∧ k < lim := by
    intro x k h1 h2
    have := (hi.cls x k h1 h2).1
    omega
  refine ⟨[], ⟨rfl, by omega, fun b hb => (by cases hb), ?_, fun b hb => (by cases hb), ?_, ?_, ⟨by omega, ?_, ?_, ?_, ?_, ?_⟩, fun b hb => (by cases hb)⟩, ⟨upd_le hf, ?_, hs.push ob hl he, ?_, ?_, ?_, ⟨rfl, rfl⟩⟩, ?_⟩
  · intro x h1 h2 _; rw [hg x h1, if_neg (by omega)]
  · intro x k h1 h2 h3 h4
    have : x = h.nx := by omega
    subst this
    rw [hg _ h3, if_pos rfl, hc] at h4
    cases h4
  · intro x k h1 h2 h3
    rw [hg x h2, if_neg (by omega)] at h3
    exact h3
  · intro x h1 h2
    rw [hg x h2, if_neg (by omega)]
    exact hi.bound x (by omega) h2
  · intro x k h1 h2
    rw [hg x h1] at h2
    split at h2
    · rw [hc] at h2; cases h2
    · obtain ⟨h3, n, h4⟩ := hi.cls x k h1 h2
      refine ⟨by omega, n, ?_⟩
      rw [hg k (by omega), if_neg (by omega)]
      exact h4
  · intro x y k h1 h2 h3 h4
    rw [hg x h1] at h3
    rw [hg y h2] at h4
    split at h3
    · rw [htip] at h3; cases h3
    · split at h4
      · rw [htip] at h4; cases h4
      · exact hi.tip x y k h1 h2 h3 h4
  · intro x l t k st n h1 h2 h3
    rw [hg x h1] at h2
    split at h2
    · exact absurd h2 (hcell _ _ _ _)
    · have := hcls x k h1 (by rw [h2]; rfl)
      rw [hg k this.2.2, if_neg this.2.1] at h3
      exact hi.stamp x l t k st n h1 h2 h3
  · intro x y l t k st l2 t2 h1 h2 h3 h4
    rw [hg x h1] at h3
    rw [hg y h2] at h4
    split at h3
    · exact absurd h3 (hcell _ _ _ _)
    · split at h4
      · rw [h4] at htip; cases htip
      · exact hi.len x y l t k st l2 t2 h1 h2 h3 h4
  · intro x e' h1 h2
    unfold upd at h2
    split at h2
    · omega
    · rw [h1] at h2; cases h2
  · rw [size_push]; omega
  · intro c h1 _; exact heap_push w ob c h1
  · intro x e' h1 h2
    unfold upd at h2
    split at h2
    · cases h2; left; omega
    · rw [h1] at h2; cases h2
  · intro x e' hx
    unfold upd at hx
    split at hx
    · rename_i hxn
      cases hx
      subst hxn
      rw [hg _ hl, if_pos rfl]
      exact hr
    · rename_i hxn
      have hxl := hs.low x e' hx
      rw [hg x hxl, if_neg hxn]
      refine BRel.congr (upd_le hf) (heap_push w ob _ (hs.rng x e' hx)) ?_ (hm x e' hx)
      intro l t k st hl2 hv
      have := hcls x k hxl (by rw [hl2]; rfl)
      rw [hg k this.2.2, if_neg this.2.1] at hv
      exact hv
theorem LRel.cells_rel {cs : List AV} {cs' : Array Value} (hc : LRel σ cs cs'.toList) : ∀ (i : Nat) (x : AV) (y : Value), cs[i]? = some x → cs'[i]? = some y → VRel σ x y :=
  fun i x y hx hy => hc.2 i x y hx (by simpa using hy)
theorem new_cells_step {cs : List AV} {cs' : Array Value} {t : TypeId} (hi : AInv h) (hs : SOk σ w) (hm : MAll G σ h.m.get w) (hl : h.nx < lim) (hf : σ h.nx = none) (hc : LRel σ cs cs'.toList) :
    Out G σ h w (upd σ h.nx ⟨w.heap.size, cs.length, none⟩) (h.new (.cells cs t .exact)) (wpush w (.cells cs' t)) := by
  have hlen : cs.length = cs'.size := by rw [hc.1]; simp
  refine new_step hi hs hm hl hf rfl rfl ?_
  refine ⟨rfl, fun _ => ⟨cs', 0, 0, heap_push_at w _, by show cs'.size = cs.length; omega, Nat.le_refl _, fun i x y hx hy => (hc.cells_rel i x y hx hy).mono (upd_le hf), fun _ => rfl, fun _ i _ => by omega⟩⟩
end Go.Ev

/- A new array whose capacity is open; a new version of one. -/
set_option linter.unusedSimpArgs false
set_option linter.unusedVariables false
namespace Go.Ev
variable {P : Program} {G : Nat} {σ : Sig} {h h' : H} {w w' : World} {v : AV} {nt : Nat} {f : L2} {a : Act}

theorem grow_step {cs : List AV} {t : TypeId} {arr : Array Value} {fz : Nat × Nat} (hi : AInv h) (hs : SOk σ w) (hm : MAll G σ h.m.get w) (hl : h.nx + 1 < lim) (hf0 : σ h.nx = none) (hf : σ (h.nx + 1) = none)
    (hle : cs.length ≤ arr.size) (hr : ∀ (i : Nat) (x : AV) (y : Value), cs[i]? = some x → arr[i]? = some y → VRel σ x y) (hfz : ∀ i, i < arr.size → ¬ (fz.1 ≤ i ∧ i < fz.2)) :
    Out G σ h w (upd σ (h.nx + 1) ⟨w.heap.size, arr.size, some h.nx⟩) ((h.new (.ctr 0)).new (.cells cs t (.tip h.nx))) (wpush w (.cells arr t fz)) := by
  have hg : ∀ j, j < lim → ((h.new (.ctr 0)).new (.cells cs t (.tip h.nx))).m.get j = if j = h.nx + 1 then .cells cs t (.tip h.nx) else if j = h.nx then .ctr 0 else h.m.get j := by
    intro j hj
    rw [new_get _ _ (show (h.new (.ctr 0)).nx < lim from hl) j hj, new_get _ _ (by omega) j hj]
    rfl
  generalize hh' : (h.new (.ctr 0)).new (.cells cs t (.tip h.nx)) = h' at *
  have hnx : h'.nx = h.nx + 2 := by rw [← hh']; rfl
  have hlg : h'.lg = [] ++ h.lg := by rw [← hh']; rfl
  have hcls : ∀ x k, x < lim → clsAO (h.m.get x) = some k → k < h.nx := fun x k h1 h2 => (hi.cls x k h1 h2).1
  have hct : ∀ x l t k st, x < lim → h.m.get x = .cells l t (.old k st) → k < h.nx := fun x l t k st h1 h2 => hcls x k h1 (by rw [h2]; rfl)
  refine ⟨[], ⟨hlg, by omega, fun b hb => (by cases hb), ?_, fun b hb => (by cases hb), ?_, ?_, ⟨by omega, ?_, ?_, ?_, ?_, ?_⟩, fun b hb => (by cases hb)⟩, ⟨upd_le hf, ?_, hs.push _ hl rfl, ?_, ?_, ?_, ⟨rfl, rfl⟩⟩, ?_⟩
  · intro x h1 h2 _; rw [hg x h1, if_neg (by omega), if_neg (by omega)]
  · intro x k h1 h2 h3 h4
    rw [hg x h3] at h4
    split at h4
    · cases h4; exact .inr (Nat.le_refl _)
    · split at h4
      · cases h4
      · omega
  · intro x k h1 h2 h3
    rw [hg x h2, if_neg (by omega), if_neg (by omega)] at h3
    exact h3
  · intro x h1 h2
    rw [hg x h2, if_neg (by omega), if_neg (by omega)]
    exact hi.bound x (by omega) h2
  · intro x k h1 h2
    rw [hg x h1] at h2
    split at h2
    · cases h2
      exact ⟨by omega, 0, by rw [hg _ (by omega), if_neg (by omega), if_pos rfl]⟩
    · split at h2
      · cases h2
      · obtain ⟨h3, n, h4⟩ := hi.cls x k h1 h2
        refine ⟨by omega, n, ?_⟩
        rw [hg k (by omega), if_neg (by omega), if_neg (by omega)]
        exact h4
  · intro x y k h1 h2 h3 h4
    rw [hg x h1] at h3
    rw [hg y h2] at h4
    have old : ∀ z, z < lim → tipOf (h.m.get z) = some k → k < h.nx := by
      intro z hz hzt
      refine hcls z k hz ?_
      cases hq : h.m.get z with
      | cells l2 t2 k2 => rw [hq] at hzt; cases k2 <;> cases hzt <;> rfl
      | _ => rw [hq] at hzt; cases hzt
    split at h3
    · cases h3
      split at h4
      · omega
      · split at h4
        · cases h4
        · have := old y h2 h4; omega
    · split at h3
      · cases h3
      · split at h4
        · cases h4; have := old x h1 h3; omega
        · split at h4
          · cases h4
          · exact hi.tip x y k h1 h2 h3 h4
  · intro x l2 t2 k st n h1 h2 h3
    rw [hg x h1] at h2
    split at h2
    · cases h2
    · split at h2
      · cases h2
      · have := hct x l2 t2 k st h1 h2
        rw [hg k (by omega), if_neg (by omega), if_neg (by omega)] at h3
        exact hi.stamp x l2 t2 k st n h1 h2 h3
  · intro x y l2 t2 k st l3 t3 h1 h2 h3 h4
    rw [hg x h1] at h3
    rw [hg y h2] at h4
    split at h3
    · cases h3
    · split at h3
      · cases h3
      · have := hct x l2 t2 k st h1 h3
        split at h4
        · cases h4; omega
        · split at h4
          · cases h4
          · exact hi.len x y l2 t2 k st l3 t3 h1 h2 h3 h4
  · intro x e' h1 h2
    unfold upd at h2
    split at h2
    · omega
    · rw [h1] at h2; cases h2
  · rw [size_push]; omega
  · intro c h1 _; exact heap_push w _ c h1
  · intro x e' h1 h2
    unfold upd at h2
    split at h2
    · cases h2; left; exact Nat.le_refl _
    · rw [h1] at h2; cases h2
  · intro x e' hx
    unfold upd at hx
    split at hx
    · rename_i hxn
      cases hx
      subst hxn
      rw [hg _ hl, if_pos rfl]
      exact ⟨rfl, fun _ => ⟨arr, fz.1, fz.2, heap_push_at w _, rfl, hle, fun i x y hx hy => (hr i x y hx hy).mono (upd_le hf), fun hh => (by cases hh), fun _ i hlt => hfz i hlt⟩⟩
    · rename_i hxn
      have hxl := hs.low x e' hx
      rw [hg x hxl, if_neg hxn]
      split
      · rename_i hxx; rw [hxx, hf0] at hx; cases hx
      · refine BRel.congr (upd_le hf) (heap_push w _ _ (hs.rng x e' hx)) ?_ (hm x e' hx)
        intro l2 t2 k st hl2 hv
        have := hct x l2 t2 k st hxl hl2
        rw [hg k (by omega), if_neg (by omega), if_neg (by omega)] at hv
        exact hv

/-- a new version of the tip of a class: in place, or in a new array -/
theorem ver_step {b k st : Nat} {e e' : SE} {c cs : List AV} {t : TypeId} (hi : AInv h) (hs : SOk σ w) (hm : MAll G σ h.m.get w) (hb : σ b = some e) (ho : h.m.get b = .cells c t (.tip k)) (hkn : h.m.get k = .ctr st)
    (hl : h.nx < lim) (hf : σ h.nx = none) (hcs : c.length ≤ cs.length) (hek' : e'.k = some k) (hs' : SOk (upd σ h.nx e') w') (hgrow : w.heap.size ≤ w'.heap.size) (hio : w'.os = w.os ∧ w'.output = w.output)
    (hframe : ∀ j, j < w.heap.size → j ≠ e.c → w'.heap[j]? = w.heap[j]?) (hplace : w.heap.size ≤ e'.c ∨ e'.c = e.c)
    (hold : ∃ (arr arr' : Array Value) (fz : Nat × Nat), w.heap[e.c]? = some (.cells arr t fz) ∧ w'.heap[e.c]? = some (.cells arr' t fz) ∧ arr'.size = arr.size ∧ ∀ i, i < c.length → arr'[i]? = arr[i]?)
    (hnew : BRel G (upd σ h.nx e') (((h.put b (.cells c t (.old k st))).put k (.ctr st)).new (.cells cs t (.tip k))).m.get e' w' (.cells cs t (.tip k))) :
    Out G σ h w (upd σ h.nx e') (((h.put b (.cells c t (.old k st))).put k (.ctr st)).new (.cells cs t (.tip k))) w' := by
  have hbl := hs.low b e hb
  have hbn := live_lt hi hbl (by rw [ho]; simp)
  obtain ⟨hkn1, _⟩ := hi.cls b k hbl (by rw [ho]; rfl)
  have hkl : k < lim := by omega
  have hkb : k ≠ b := by rintro rfl; rw [ho] at hkn; cases hkn
  have hek : e.k = some k := by have := hm b e hb; rw [ho] at this; exact this.1
  have hg : ∀ j, j < lim → (((h.put b (.cells c t (.old k st))).put k (.ctr st)).new (.cells cs t (.tip k))).m.get j = if j = h.nx then .cells cs t (.tip k) else if j = b then .cells c t (.old k st) else h.m.get j := by
    intro j hj
    rw [new_get _ _ (show ((h.put b (.cells c t (.old k st))).put k (.ctr st)).nx < lim from hl) j hj, put_get _ _ _ hkl j hj, put_get _ _ _ hbl j hj]
    show (if j = h.nx then _ else _) = _
    by_cases hjk : j = k
    · subst hjk
      rw [if_neg (by omega), if_pos rfl, if_neg (by omega), if_neg hkb, hkn]
    · rw [if_neg hjk]
  generalize hh' : (((h.put b (.cells c t (.old k st))).put k (.ctr st)).new (.cells cs t (.tip k))) = h' at *
  have hnx : h'.nx = h.nx + 1 := by rw [← hh']; rfl
  have hlg : h'.lg = [k, b] ++ h.lg := by rw [← hh']; rfl
  have hct : ∀ x l t k st, x < lim → h.m.get x = .cells l t (.old k st) → k < h.nx := fun x l t k st h1 h2 => (hi.cls x k h1 (by rw [h2]; rfl)).1
  have hgk : ∀ j, j < h.nx → j ≠ b → h'.m.get j = h.m.get j := by
    intro j h1 h2
    rw [hg j (by omega), if_neg (by omega), if_neg h2]
  have hgk0 : h'.m.get k = .ctr st := by rw [hgk k hkn1 hkb]; exact hkn
  have hctb : ∀ k2 n, h.m.get k2 = .ctr n → k2 ≠ b := by rintro k2 n h1 rfl; rw [ho] at h1; cases h1
  refine ⟨[k, b], ⟨hlg, by omega, ?_, ?_, ?_, ?_, ?_, ⟨by omega, ?_, ?_, ?_, ?_, ?_⟩, fun x hx _ _ => by simp at hx; rcases hx with rfl | rfl; (rw [hkn]; simp); (rw [ho]; simp)⟩, ⟨upd_le hf, ?_, hs', hgrow, ?_, ?_, hio⟩, ?_⟩
  · intro x hx
    simp at hx
    rcases hx with rfl | rfl <;> omega
  · intro x h1 h2 h3
    simp at h3
    exact hgk x h2 h3.2
  · intro x hx k2 h1 h2
    simp at hx
    rcases hx with rfl | rfl
    · rw [hkn] at h2; cases h2
    · rw [ho] at h2; cases h2; simp
  · intro x k2 h1 h2 h3 h4
    have : x = h.nx := by omega
    subst this
    rw [hg _ h3, if_pos rfl] at h4
    cases h4
    simp
  · intro x k2 h1 h2 h3
    rw [hg x h2, if_neg (by omega)] at h3
    split at h3
    · rename_i hxb; subst hxb; rw [ho]; exact h3
    · exact h3
  · intro x h1 h2
    rw [hg x h2, if_neg (by omega), if_neg (by omega)]
    exact hi.bound x (by omega) h2
  · intro x k2 h1 h2
    rw [hg x h1] at h2
    have key : k2 = k ∨ clsAO (h.m.get x) = some k2 := by
      split at h2
      · cases h2; exact .inl rfl
      · split at h2
        · cases h2; exact .inl rfl
        · exact .inr h2
    rcases key with rfl | h3
    · exact ⟨by omega, st, hgk0⟩
    · obtain ⟨g1, n, g2⟩ := hi.cls x k2 h1 h3
      exact ⟨by omega, n, by rw [hgk k2 g1 (hctb k2 n g2)]; exact g2⟩
  · intro x y k2 h1 h2 h3 h4
    rw [hg x h1] at h3
    rw [hg y h2] at h4
    have tr : ∀ z, z < lim → tipOf (if z = h.nx then .cells cs t (.tip k) else if z = b then .cells c t (.old k st) else h.m.get z) = some k2 → (z = h.nx ∧ k2 = k) ∨ (z ≠ b ∧ tipOf (h.m.get z) = some k2) := by
      intro z hz hzt
      split at hzt
      · cases hzt; exact .inl ⟨by assumption, rfl⟩
      · split at hzt
        · cases hzt
        · exact .inr ⟨by assumption, hzt⟩
    have un : ∀ z, z < lim → z ≠ b → tipOf (h.m.get z) = some k → False := fun z hz h5 h6 => h5 (hi.tip z b k hz hbl h6 (by rw [ho]; rfl))
    rcases tr x h1 h3 with ⟨q1, q2⟩ | ⟨q1, q2⟩ <;> rcases tr y h2 h4 with ⟨r1, r2⟩ | ⟨r1, r2⟩
    · omega
    · subst q2; exact (un y h2 r1 r2).elim
    · subst r2; exact (un x h1 q1 q2).elim
    · exact hi.tip x y k2 h1 h2 q2 r2
  · intro x l2 t2 k2 s2 n h1 h2 h3
    rw [hg x h1] at h2
    split at h2
    · cases h2
    · split at h2
      · cases h2; rw [hgk0] at h3; cases h3; exact Nat.le_refl _
      · have q := hct x l2 t2 k2 s2 h1 h2
        obtain ⟨_, n0, q2⟩ := hi.cls x k2 h1 (by rw [h2]; rfl)
        rw [hgk k2 q (hctb k2 n0 q2)] at h3
        exact hi.stamp x l2 t2 k2 s2 n h1 h2 h3
  · intro x y l2 t2 k2 s2 l3 t3 h1 h2 h3 h4
    rw [hg x h1] at h3
    rw [hg y h2] at h4
    split at h4
    · cases h4
      split at h3
      · cases h3
      · split at h3
        · cases h3; exact hcs
        · have := hi.len x b l2 t2 k s2 c t h1 hbl h3 ho; omega
    · split at h4
      · cases h4
      · split at h3
        · cases h3
        · split at h3
          · cases h3
            rename_i q _ _
            exact absurd (hi.tip y b k h2 hbl (by rw [h4]; rfl) (by rw [ho]; rfl)) q
          · exact hi.len x y l2 t2 k2 s2 l3 t3 h1 h2 h3 h4
  · intro x e1 h1 h2
    unfold upd at h2
    split at h2
    · omega
    · rw [h1] at h2; cases h2
  · intro j h1 h2
    exact hframe j h1 (fun hh => h2 b (by simp) e hb hh.symm)
  · intro x e1 h1 h2
    unfold upd at h2
    split at h2
    · cases h2
      rcases hplace with h3 | h3
      · exact .inl h3
      · exact .inr ⟨b, by simp, e, hb, h3.symm⟩
    · rw [h1] at h2; cases h2
  · intro x e1 hx
    unfold upd at hx
    split at hx
    · rename_i hxn
      cases hx
      subst hxn
      rw [hg _ hl, if_pos rfl]
      exact hnew
    · rename_i hxn
      have hxl := hs.low x e1 hx
      rw [hg x hxl, if_neg hxn]
      obtain ⟨arr, arr', fz, a1, a2, a3, a4⟩ := hold
      have keepOld : ∀ (y : SE) (l2 : List AV) (t2 : TypeId) (k2 : CK), y.c = e.c → l2.length ≤ c.length → (∀ q, k2 ≠ .exact ∧ (wrK? k2 → q)) → BRel G σ h.m.get y w (.cells l2 t2 k2) → (validK h'.m.get k2 → validK h.m.get k2) → BRel G (upd σ h.nx e') h'.m.get y w' (.cells l2 t2 k2) := by
        intro y l2 t2 k2 hy hlen hkk hbr hval
        refine ⟨hbr.1, fun hv => ?_⟩
        obtain ⟨ar, lo, hi2, c1, c2, c3, c4, c5, c6⟩ := hbr.2 (hval hv)
        rw [hy, a1] at c1
        cases c1
        refine ⟨arr', lo, hi2, by rw [hy]; exact a2, by omega, c3, ?_, fun hh => absurd hh (hkk False).1, fun hh => ((hkk False).2 hh).elim⟩
        intro i u z hu hz
        have hlt := (List.getElem?_eq_some_iff.1 hu).1
        rw [a4 i (by omega)] at hz
        exact (c4 i u z hu hz).mono (upd_le hf)
      by_cases hxb : x = b
      · subst hxb
        rw [if_pos rfl]
        rw [hb] at hx
        cases hx
        have hbr := hm x e hb
        rw [ho] at hbr
        have hbr2 : BRel G σ h.m.get e w (.cells c t (.old k st)) := by
          obtain ⟨ar, lo, hi2, c1, c2, c3, c4, c5, c6⟩ := hbr.2 trivial
          exact ⟨hbr.1, fun _ => ⟨ar, lo, hi2, c1, c2, c3, c4, fun hh => (by cases hh), fun hh => hh.elim⟩⟩
        exact keepOld e c t _ rfl (Nat.le_refl _) (fun q => ⟨by simp, fun hh => hh.elim⟩) hbr2 (fun _ => hkn)
      · rw [if_neg hxb]
        have hval : ∀ l2 t2 k2 s2, h.m.get x = .cells l2 t2 (.old k2 s2) → h'.m.get k2 = .ctr s2 → h.m.get k2 = .ctr s2 := by
          intro l2 t2 k2 s2 hl2 hv
          have q := hct x l2 t2 k2 s2 hxl hl2
          obtain ⟨_, n0, q2⟩ := hi.cls x k2 hxl (by rw [hl2]; rfl)
          rw [hgk k2 q (hctb k2 n0 q2)] at hv
          exact hv
        by_cases hce : e1.c = e.c
        · rcases hs.inj x b e1 e hx hb hce with h1 | ⟨h1, h2⟩
          · exact absurd h1 hxb
          · have hbr := hm x e1 hx
            cases hxo : h.m.get x with
            | none => trivial
            | ctr m => rw [hxo] at hbr; have h9 : e1.k = none := hbr; rw [h1, hek] at h9; cases h9
            | map es => rw [hxo] at hbr; have h9 := hbr.1; rw [h1, hek] at h9; cases h9
            | loop a1 a2 a3 a4 a5 a6 => rw [hxo] at hbr; have h9 := hbr.1; rw [h1, hek] at h9; cases h9
            | dfr tk => rw [hxo] at hbr; have h9 := hbr.1; rw [h1, hek] at h9; cases h9
            | cells l2 t2 k2 =>
              rw [hxo] at hbr
              have hk2 : clsK k2 = some k := by rw [← hbr.1, h1, hek]
              cases k2 with
              | exact => cases hk2
              | tip kx => cases hk2; exact absurd (hi.tip x b k hxl hbl (by rw [hxo]; rfl) (by rw [ho]; rfl)) hxb
              | fz kx => cases hk2; exact absurd (hi.tip x b k hxl hbl (by rw [hxo]; rfl) (by rw [ho]; rfl)) hxb
              | old kx s2 =>
                cases hk2
                exact keepOld e1 l2 t2 _ hce (hi.len x b l2 t2 k s2 c t hxl hbl hxo ho) (fun q => ⟨by simp, fun hh => hh.elim⟩) hbr (fun hv => hval l2 t2 k s2 hxo hv)
        · exact BRel.congr (upd_le hf) (hframe _ (hs.rng x e1 hx) hce) (fun a1 a2 a3 a4 e5 e6 => hval a1 a2 a3 a4 e5 e6) (hm x e1 hx)
end Go.Ev
