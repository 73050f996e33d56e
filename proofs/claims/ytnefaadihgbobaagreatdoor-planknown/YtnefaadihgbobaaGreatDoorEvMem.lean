/- Reading and writing blocks: the abstract heap and the model's. -/
import Derived.Test.YtnefaadihgbobaaGreatDoorEvOp4
import Derived.Laws.Cells
set_option linter.unusedSimpArgs false
set_option linter.unusedVariables false
namespace Go.Ev
variable {P : Program} {G : Nat} {σ : Sig} {h h' : H} {w : World} {v : AV} {nt : Nat} {f : L2} {a : Act}

def setBlk (w : World) (c : Nat) (o : Obj) : World := { w with heap := w.heap.setIfInBounds c o }
theorem heap_setBlk (w : World) (c : Nat) (o : Obj) (j : Nat) : (setBlk w c o).heap[j]? = if j = c ∧ c < w.heap.size then some o else w.heap[j]? := by
  unfold setBlk
  by_cases hj : j = c
  · subst hj
    by_cases hlt : j < w.heap.size
    · rw [if_pos ⟨rfl, hlt⟩]
      simp [hlt]
    · rw [if_neg (by simp [hlt])]
      simp [hlt]
  · rw [if_neg (fun hh => hj hh.1)]
    simp [Array.getElem?_setIfInBounds_ne (Ne.symm hj)]
theorem size_setBlk (w : World) (c : Nat) (o : Obj) : (setBlk w c o).heap.size = w.heap.size := by simp [setBlk]
theorem lt_of_get {w : World} {c : Nat} {o : Obj} (hc : w.heap[c]? = some o) : c < w.heap.size := (Array.getElem?_eq_some_iff.1 hc).1
theorem setCell_eq {w : World} {c i : Nat} {v : Value} {arr : Array Value} {t : TypeId} {fz : Nat × Nat} (hc : w.heap[c]? = some (.cells arr t fz)) :
    w.setCell ⟨c, i, none⟩ v = setBlk w c (.cells (arr.setIfInBounds i v) t fz) := by
  unfold World.setCell setBlk
  congr 1
  apply Array.ext_getElem?
  intro j
  have hlt := lt_of_get hc
  by_cases hj : c = j
  · subst hj
    rw [Array.getElem?_modify]
    have : w.heap[c] = .cells arr t fz := by rw [Array.getElem?_eq_getElem hlt] at hc; exact Option.some.inj hc
    simp [hlt, this]
  · rw [Array.getElem?_modify]
    simp [hj, Array.getElem?_setIfInBounds_ne hj]
def arrPut (arr : Array Value) (o : Nat) (vs : List Value) : Array Value := (arr.toList.take o ++ vs ++ arr.toList.drop (o + vs.length)).toArray
theorem arrPut_get {arr : Array Value} {o : Nat} {vs : List Value} (hle : o + vs.length ≤ arr.size) (i : Nat) :
    (arrPut arr o vs)[i]? = if o ≤ i ∧ i < o + vs.length then vs[i - o]? else arr[i]? := by
  unfold arrPut
  have hl : arr.toList.length = arr.size := by simp
  simp only [List.getElem?_toArray]
  by_cases h2 : i < o
  · rw [if_neg (by omega), List.append_assoc, List.getElem?_append_left (by simp; omega), List.getElem?_take_of_lt h2]; simp
  · by_cases h3 : i < o + vs.length
    · rw [if_pos (by omega), List.append_assoc, List.getElem?_append_right (by simp; omega), List.getElem?_append_left (by simp; omega)]
      congr 1
      simp
      omega
    · rw [if_neg (by omega), List.getElem?_append_right (by simp; omega)]
      simp only [List.length_append, List.length_take, List.getElem?_drop, Array.getElem?_toList]
      congr 1
      omega
theorem arrPut_size {arr : Array Value} {o : Nat} {vs : List Value} (hle : o + vs.length ≤ arr.size) : (arrPut arr o vs).size = arr.size := by
  unfold arrPut
  simp
  omega
theorem arrPut_cons {arr : Array Value} {o : Nat} {v : Value} {vs : List Value} (hle : o + (vs.length + 1) ≤ arr.size) :
    arrPut (arr.setIfInBounds o v) (o + 1) vs = arrPut arr o (v :: vs) := by
  apply Array.ext_getElem?
  intro i
  rw [arrPut_get (by simp; omega), arrPut_get (by simp; omega)]
  simp only [List.length_cons]
  by_cases h1 : o + 1 ≤ i ∧ i < o + 1 + vs.length
  · rw [if_pos h1, if_pos (by omega)]
    have : i - o = (i - (o + 1)) + 1 := by omega
    rw [this, List.getElem?_cons_succ]
  · rw [if_neg h1]
    by_cases h2 : i = o
    · subst h2
      rw [if_pos (by omega)]
      have : i < arr.size := by omega
      simp [this]
    · rw [if_neg (by omega), Array.getElem?_setIfInBounds_ne (by omega)]
theorem setBlk_setBlk (w : World) (c : Nat) (o o' : Obj) : setBlk (setBlk w c o) c o' = setBlk w c o' := by
  unfold setBlk
  simp
theorem run_storeBlk (P : Program) (c off : Nat) (t : TypeId) (lo hi : Nat) : ∀ (vs : List Value) (i : Nat) (arr : Array Value) (w : World), w.heap[c]? = some (.cells arr t (lo, hi)) →
    off + i + vs.length ≤ arr.size → (∀ j, off + i ≤ j → j < off + i + vs.length → ¬ (lo ≤ j ∧ j < hi)) → (∀ v ∈ vs, v.oneCell' = true) →
    (storeCells ⟨c, off, none⟩ vs i).run P w = .ok () (setBlk w c (.cells (arrPut arr (off + i) vs) t (lo, hi)))
  | [], i, arr, w, hc, hle, _, _ => by
    have e : arrPut arr (off + i) [] = arr := by unfold arrPut; simp
    rw [e]
    simp only [storeCells, Sem.run_pure]
    congr 1
    unfold setBlk
    have hlt := lt_of_get hc
    have : w.heap.setIfInBounds c (.cells arr t (lo, hi)) = w.heap := by
      apply Array.ext_getElem?
      intro j
      by_cases hj : c = j
      · subst hj; rw [hc]; simp [hlt]
      · simp [Array.getElem?_setIfInBounds_ne hj]
    rw [this]
  | v :: vs, i, arr, w, hc, hle, hfz, hone => by
    simp only [List.length_cons] at hle hfz
    have hcell : w.cell? ((⟨c, off, none⟩ : Addr).add i) = some arr[off + i] := by
      rw [add_off]
      simp [World.cell?, hc]
    have hfro : w.frozen? ((⟨c, off, none⟩ : Addr).add i) = false := by
      rw [add_off]
      simp only [World.frozen?, hc]
      have := hfz (off + i) (by omega) (by omega)
      simp
      omega
    have hst := run_store P w ((⟨c, off, none⟩ : Addr).add i) v .plain (hone v (by simp))
    rw [hcell, hfro] at hst
    simp only [Bool.false_eq_true, if_false] at hst
    rw [add_off, setCell_eq hc] at hst
    have hc2 : (setBlk w c (.cells (arr.setIfInBounds (off + i) v) t (lo, hi))).heap[c]? = some (.cells (arr.setIfInBounds (off + i) v) t (lo, hi)) := by
      rw [heap_setBlk, if_pos ⟨rfl, lt_of_get hc⟩]
    have ih := run_storeBlk P c off t lo hi vs (i + 1) _ _ hc2 (by simp; omega) (fun j h1 h2 => hfz j (by omega) (by omega)) (fun u hu => hone u (by simp [hu]))
    have he : storeCells ⟨c, off, none⟩ (v :: vs) i = (do store ((⟨c, off, none⟩ : Addr).add i) v; storeCells ⟨c, off, none⟩ vs (i + 1)) := by rw [storeCells]
    rw [he, Sem.run_bind, add_off, hst, Result.andThen_ok, ih, setBlk_setBlk]
    congr 3
    have : off + (i + 1) = off + i + 1 := by omega
    rw [this]
    exact arrPut_cons (by omega)

/- reading -/
theorem isCtr_some {n : Nat} {o : AO} (hh : isCtr n o = true) : o = .ctr n := by
  cases o <;> first | (cases hh; done) | skip
  rename_i m
  have := beq_eqN (show Nat.beq m n = true from hh)
  rw [this]
theorem rd_some {b : Nat} {c : List AV} (hr : h.rd b = some c) : ∃ t k, h.m.get b = .cells c t k ∧ validK h.m.get k := by
  have hr' : rdO (h.m.get b) h = some c := hr
  cases ho : h.m.get b with
  | cells l t k =>
    rw [ho] at hr'
    have hk : rdK k l h = some c := hr'
    cases k with
    | old cl st =>
      have : rdOld cl st l h = some c := hk
      unfold rdOld at this
      cases hq : isCtr st (h.m.get cl) with
      | false => rw [hq] at this; cases this
      | true => rw [hq] at this; cases this; exact ⟨t, _, rfl, isCtr_some hq⟩
    | exact => cases hk; exact ⟨t, _, rfl, trivial⟩
    | fz cl => cases hk; exact ⟨t, _, rfl, trivial⟩
    | tip cl => cases hk; exact ⟨t, _, rfl, trivial⟩
  | _ => rw [ho] at hr'; cases hr'
/-- what a readable block is in the model -/
theorem blk_of_rd {b : Nat} {c : List AV} {e : SE} (hr : h.rd b = some c) (hb : BRel G σ h.m.get e w (h.m.get b)) :
    ∃ (arr : Array Value) (t : TypeId) (fz : Nat × Nat), w.heap[e.c]? = some (.cells arr t fz) ∧ arr.size = e.N ∧ c.length ≤ e.N ∧ ∀ (i : Nat) (x : AV) (y : Value), c[i]? = some x → arr[i]? = some y → VRel σ x y := by
  obtain ⟨t, k, ho, hv⟩ := rd_some hr
  rw [ho] at hb
  obtain ⟨arr, lo, hi, h1, h2, h3, h4, _⟩ := hb.2 hv
  exact ⟨arr, t, (lo, hi), h1, h2, h3, h4⟩
theorem cell_blk {c i : Nat} {arr : Array Value} {t : TypeId} {fz : Nat × Nat} (hc : w.heap[c]? = some (.cells arr t fz)) : w.cell? ⟨c, i, none⟩ = arr[i]? := by
  simp [World.cell?, hc]
theorem run_loadBlk {c off n : Nat} {arr : Array Value} {t : TypeId} {fz : Nat × Nat} (hc : w.heap[c]? = some (.cells arr t fz)) (hle : off + n ≤ arr.size) :
    (loadCells ⟨c, off, none⟩ n).run P w = .ok (((arr.toList.drop off).take n).toArray) w := by
  have hl : ((arr.toList.drop off).take n).length = n := by simp; omega
  have := run_loadCells_list (P := P) w ⟨c, off, none⟩ ((arr.toList.drop off).take n) (fun j v hj => by
    rw [add_off, cell_blk hc]
    rw [List.getElem?_take] at hj
    split at hj
    · rw [List.getElem?_drop] at hj; simpa using hj
    · cases hj)
  rw [hl] at this
  exact this
theorem cut_rel {c : List AV} {arr : Array Value} {off n : Nat} {r : List AV} (hcut : lcut c off n = some r) (hr : ∀ (i : Nat) (x : AV) (y : Value), c[i]? = some x → arr[i]? = some y → VRel σ x y) (hle : c.length ≤ arr.size) :
    LRel σ r ((arr.toList.drop off).take n) := by
  obtain ⟨h1, rfl, h2⟩ := lcut_some hcut
  refine ⟨by rw [h2]; simp; omega, fun i x y hx hy => ?_⟩
  rw [List.getElem?_take] at hx hy
  split at hx
  · rename_i hlt
    rw [if_pos hlt] at hy
    rw [List.getElem?_drop] at hx hy
    exact hr _ x y hx (by simpa using hy)
  · cases hx
theorem ldAt_run {t : TypeId} {c : List AV} {off : Nat} {e : SE} {arr : Array Value} {ty : TypeId} {fz : Nat × Nat} (hp : partI (ldInfo P t) c off = some v) (hc : w.heap[e.c]? = some (.cells arr ty fz))
    (hle : c.length ≤ arr.size) (hr : ∀ (i : Nat) (x : AV) (y : Value), c[i]? = some x → arr[i]? = some y → VRel σ x y) :
    ∃ v', (loadVar t ⟨e.c, off, none⟩).run P w = .ok v' w ∧ VRel σ v v' := by
  unfold partI at hp
  split at hp
  · rename_i hl
    rw [lget_eq] at hp
    have hi := (List.getElem?_eq_some_iff.1 hp).1
    have hy : arr[off]? = some arr[off] := Array.getElem?_eq_getElem (by omega)
    refine ⟨arr[off], ?_, hr off v _ hp hy⟩
    simp only [loadVar, Sem.run_bind, run_isAgg_one hl, Result.andThen_ok, Bool.false_eq_true, if_false, run_load, cell_blk hc, hy]
  · rename_i n hl
    cases hcut : lcut c off n with
    | none => simp [hcut] at hp
    | some r =>
      simp [hcut] at hp
      subst hp
      have := cut_rel hcut hr hle
      refine ⟨.agg ((arr.toList.drop off).take n).toArray, ?_, .agg _ _ this.1 this.2⟩
      obtain ⟨h1, _, _⟩ := lcut_some hcut
      simp only [loadVar, Sem.run_bind, (run_isAgg_many hl w).1, (run_isAgg_many hl w).2, Result.andThen_ok, if_true, run_loadBlk hc (show off + n ≤ arr.size by omega), Sem.run_pure]
  · cases hp
/-- a load: only the block that is read is asked for -/
theorem good_load {dst : Option Tmp} {ty : TypeId} {pos : String} {af : Array Edge} {gd : Option (Nat × Bool)} (t : TypeId) (x : Operand) {ctx : CallT}
    (he : opD (.load t x) ty P ctx f h = .ok v h') (hop : opdOk G x = true) (hf : FRel σ nt f a) (hg : GOk G σ)
    (hm : ∀ b off e, ev x f = .ptr b off → σ b = some e → BRel G σ h.m.get e w (h.m.get b)) :
    ∃ v', Ran P (execOp a.eval ⟨dst, .load t x, ty, pos, af, gd⟩) w v' w ∧ VRel σ v v' ∧ h' = h := by
  have hx := ev_rel hf hg x hop
  have he' : ldV (ev x f) (ldInfo P t) h = .ok v h' := he
  generalize ev x f = u at *
  generalize hy : a.eval x = y at *
  cases hx <;> first | (cases he'; done) | skip
  rename_i b off e hs
  have he2 : ldC (h.rd b) (ldInfo P t) off h = .ok v h' := he'
  cases hrd : h.rd b with
  | none => rw [hrd] at he2; cases he2
  | some c =>
    rw [hrd] at he2
    obtain ⟨arr, tt, fz, h1, h2, h3, h4⟩ := blk_of_rd hrd (hm b off e rfl hs)
    have key : partI (ldInfo P t) c off = some v ∧ h' = h := by
      have he3 : ldL (ldInfo P t) c off h = .ok v h' := he2
      cases hl : ldInfo P t with
      | none => rw [hl] at he3; cases he3
      | some i =>
        rw [hl] at he3
        cases i with
        | none => obtain ⟨g1, g2⟩ := res1_ok (show res1 (lget c off) h = .ok v h' from he3); exact ⟨g1, g2⟩
        | some n =>
          obtain ⟨cs, g1, rfl, g2⟩ := resAgg_ok (show resAgg (lcut c off n) h = .ok v h' from he3)
          exact ⟨by simp [partI, g1], g2⟩
    obtain ⟨hp, rfl⟩ := key
    obtain ⟨v', hr, hv⟩ := ldAt_run (P := P) (e := e) hp h1 (by omega) h4
    refine ⟨v', .inl ?_, hv, rfl⟩
    simp [execOp, hy, Instr.loadAt, Instr.sureAddr, hr]
end Go.Ev
