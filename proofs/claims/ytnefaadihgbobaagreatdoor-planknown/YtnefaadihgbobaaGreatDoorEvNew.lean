/- Making blocks. -/
import Derived.Test.YtnefaadihgbobaaGreatDoorEvWr
set_option linter.unusedSimpArgs false
set_option linter.unusedVariables false
namespace Go.Ev
variable {P : Program} {G : Nat} {σ : Sig} {h h' : H} {w : World} {v : AV} {nt : Nat} {f : L2} {a : Act}

def upd (σ : Sig) (b : Nat) (e : SE) : Sig := fun x => if x = b then some e else σ x
theorem upd_le {b : Nat} {e : SE} (hb : σ b = none) : Sle σ (upd σ b e) := by
  intro x e' hx
  unfold upd
  rw [if_neg (fun hh => by subst hh; rw [hb] at hx; cases hx)]
  exact hx
theorem heap_push (w : World) (o : Obj) (j : Nat) (hj : j < w.heap.size) : (wpush w o).heap[j]? = w.heap[j]? := by
  show (w.heap.push o)[j]? = _
  rw [Array.getElem?_push, if_neg (Nat.ne_of_lt hj)]
theorem heap_push_at (w : World) (o : Obj) : (wpush w o).heap[w.heap.size]? = some o := by
  show (w.heap.push o)[w.heap.size]? = _
  rw [Array.getElem?_push, if_pos rfl]
theorem size_push (w : World) (o : Obj) : (wpush w o).heap.size = w.heap.size + 1 := by
  show (w.heap.push o).size = _
  rw [Array.size_push]
theorem SOk.push {b : Nat} {e : SE} (hs : SOk σ w) (ob : Obj) (hb : b < lim) (he : e.c = w.heap.size) : SOk (upd σ b e) (wpush w ob) := by
  refine ⟨?_, ?_, ?_⟩
  · intro x y e1 e2 h1 h2 h3
    unfold upd at h1 h2
    split at h1
    · cases h1
      split at h2
      · left; omega
      · have := hs.rng y e2 h2; omega
    · split at h2
      · cases h2; have := hs.rng x e1 h1; omega
      · exact hs.inj x y e1 e2 h1 h2 h3
  · intro x e1 h1
    rw [size_push]
    unfold upd at h1
    split at h1
    · cases h1; omega
    · have := hs.rng x e1 h1; omega
  · intro x e1 h1
    unfold upd at h1
    split at h1
    · omega
    · exact hs.low x e1 h1
/-- a new block without a class -/
theorem new_step {o : AO} {ob : Obj} {e : SE} (hi : AInv h) (hs : SOk σ w) (hm : MAll G σ h.m.get w) (hl : h.nx < lim) (hf : σ h.nx = none) (hc : clsAO o = none) (he : e.c = w.heap.size)
    (hr : BRel G (upd σ h.nx e) (h.new o).m.get e (wpush w ob) o) : Out G σ h w (upd σ h.nx e) (h.new o) (wpush w ob) := by
  have hg := fun j hj => new_get h o hl j hj
  have htip : tipOf o = none := by
    cases o with
    | cells l t k => cases k <;> first | rfl | (cases hc; done)
    | _ => rfl
  have hcell : ∀ l t k st, o ≠ .cells l t (.old k st) := by rintro l t k st rfl; cases hc
  have hnx : (h.new o).nx = h.nx + 1 := rfl
  have hcls : ∀ x k, x < lim → clsAO (h.m.get x) = some k → k < h.nx ∧ k ≠ h.nx ∧ k < lim := by
    intro x k h1 h2
    have := (hi.cls x k h1 h2).1
    omega
  refine ⟨[], ⟨rfl, by omega, fun b hb => (by cases hb), ?_, fun b hb => (by cases hb), ?_, ?_, ⟨by omega, ?_, ?_, ?_, ?_, ?_⟩, fun b hb => (by cases hb)⟩, ⟨upd_le hf, ?_, hs.push ob hl he, ?_, ?_, ?_, ⟨rfl, rfl⟩⟩, ?_⟩
  · intro x h1 h2 _; rw [hg x h1, if_neg (by omega)]
  · intro x k h1 h2 h3 h4
    have : x = h.nx := by omega
    subst this
    rw [hg _ h3, if_pos rfl, hc] at h4
    cases h4
  · intro x k h1 h2 h3
    rw [hg x h2, if_neg (by omega)] at h3
    exact h3
  · intro x h1 h2
    rw [hg x h2, if_neg (by omega)]
    exact hi.bound x (by omega) h2
  · intro x k h1 h2
    rw [hg x h1] at h2
    split at h2
    · rw [hc] at h2; cases h2
    · obtain ⟨h3, n, h4⟩ := hi.cls x k h1 h2
      refine ⟨by omega, n, ?_⟩
      rw [hg k (by omega), if_neg (by omega)]
      exact h4
  · intro x y k h1 h2 h3 h4
    rw [hg x h1] at h3
    rw [hg y h2] at h4
    split at h3
    · rw [htip] at h3; cases h3
    · split at h4
      · rw [htip] at h4; cases h4
      · exact hi.tip x y k h1 h2 h3 h4
  · intro x l t k st n h1 h2 h3
    rw [hg x h1] at h2
    split at h2
    · exact absurd h2 (hcell _ _ _ _)
    · have := hcls x k h1 (by rw [h2]; rfl)
      rw [hg k this.2.2, if_neg this.2.1] at h3
      exact hi.stamp x l t k st n h1 h2 h3
  · intro x y l t k st l2 t2 h1 h2 h3 h4
    rw [hg x h1] at h3
    rw [hg y h2] at h4
    split at h3
    · exact absurd h3 (hcell _ _ _ _)
    · split at h4
      · rw [h4] at htip; cases htip
      · exact hi.len x y l t k st l2 t2 h1 h2 h3 h4
  · intro x e' h1 h2
    unfold upd at h2
    split at h2
    · omega
    · rw [h1] at h2; cases h2
  · rw [size_push]; omega
  · intro c h1 _; exact heap_push w ob c h1
  · intro x e' h1 h2
    unfold upd at h2
    split at h2
    · cases h2; left; omega
    · rw [h1] at h2; cases h2
  · intro x e' hx
    unfold upd at hx
    split at hx
    · rename_i hxn
      cases hx
      subst hxn
      rw [hg _ hl, if_pos rfl]
      exact hr
    · rename_i hxn
      have hxl := hs.low x e' hx
      rw [hg x hxl, if_neg hxn]
      refine BRel.congr (upd_le hf) (heap_push w ob _ (hs.rng x e' hx)) ?_ (hm x e' hx)
      intro l t k st hl2 hv
      have := hcls x k hxl (by rw [hl2]; rfl)
      rw [hg k this.2.2, if_neg this.2.1] at hv
      exact hv
theorem LRel.cells_rel {cs : List AV} {cs' : Array Value} (hc : LRel σ cs cs'.toList) : ∀ (i : Nat) (x : AV) (y : Value), cs[i]? = some x → cs'[i]? = some y → VRel σ x y :=
  fun i x y hx hy => hc.2 i x y hx (by simpa using hy)
theorem new_cells_step {cs : List AV} {cs' : Array Value} {t : TypeId} (hi : AInv h) (hs : SOk σ w) (hm : MAll G σ h.m.get w) (hl : h.nx < lim) (hf : σ h.nx = none) (hc : LRel σ cs cs'.toList) :
    Out G σ h w (upd σ h.nx ⟨w.heap.size, cs.length, none⟩) (h.new (.cells cs t .exact)) (wpush w (.cells cs' t)) := by
  have hlen : cs.length = cs'.size := by rw [hc.1]; simp
  refine new_step hi hs hm hl hf rfl rfl ?_
  refine ⟨rfl, fun _ => ⟨cs', 0, 0, heap_push_at w _, by show cs'.size = cs.length; omega, Nat.le_refl _, fun i x y hx hy => (hc.cells_rel i x y hx hy).mono (upd_le hf), fun _ => rfl, fun _ i _ => by omega⟩⟩
end Go.Ev
