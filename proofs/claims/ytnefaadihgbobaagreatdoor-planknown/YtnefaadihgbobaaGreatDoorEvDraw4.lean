/- One operation of a run in another order. -/
import Derived.Test.YtnefaadihgbobaaGreatDoorEvDraw3
set_option linter.unusedSimpArgs false
set_option linter.unusedVariables false
namespace Go.Ev
variable {P : Program} {G : Nat} {σ σ' : Sig} {h h' : H} {w w' : World} {v : AV} {nt : Nat} {f f' : L2} {a : Act} {ctx : CallT} {b : FB} {cs : List Frame} {ops : Array Oper} {F : Nat → L2} {Hs : Nat → H}

theorem BRel.cls {g : Nat → AO} {e : SE} {o : AO} {k : Nat} (hb : BRel G σ g e w o) (hk : e.k = some k) : o = .none ∨ clsAO o = some k := by
  cases o with
  | none => exact .inl rfl
  | ctr n => have : e.k = none := hb; rw [hk] at this; cases this
  | cells l t kk => have := hb.1; rw [hk] at this; exact .inr this.symm
  | map es => have := hb.1; rw [hk] at this; cases this
  | loop a1 a2 a3 a4 a5 a6 => have := hb.1; rw [hk] at this; cases this
  | dfr t => have := hb.1; rw [hk] at this; cases this
theorem CStep.join {σ1 σ2 : Sig} {hn hi hj : H} {w1 w2 : World} {NW nw : List Nat} (a : CStep σ σ1 h hn w w1 NW) (b : CStep σ1 σ2 hi hj w1 w2 nw) (e1 : h.nx ≤ hi.nx) (e2 : hj.nx ≤ hn.nx)
    (hsub : ∀ y ∈ nw, ∀ e, σ1 y = some e → y ∈ NW) : CStep σ σ2 h hn w w2 NW := by
  refine ⟨a.le.trans b.le, ?_, b.ok, Nat.le_trans a.grow b.grow, ?_, ?_, ⟨b.io.1.trans a.io.1, b.io.2.trans a.io.2⟩⟩
  · intro x e h3 h4
    cases h5 : σ1 x with
    | none => have := b.fresh x e h5 h4; omega
    | some e' => exact a.fresh x e' h3 h5
  · intro c h3 h4
    have g1 := a.frame c h3 h4
    have g2 := b.frame c (by have := a.grow; omega) (fun x hx e he hc => ?_)
    · rw [g2, g1]
    · have hxN := hsub x hx e he
      cases h5 : σ x with
      | some e' =>
        have := a.le x e' h5
        rw [he] at this
        cases this
        exact h4 x hxN e h5 hc
      | none =>
        rcases a.newc x e h5 he with h6 | ⟨b0, hb0, e0, h7, h8⟩
        · omega
        · exact h4 b0 hb0 e0 h7 (by omega)
  · intro x e h3 h4
    cases h5 : σ1 x with
    | some e' =>
      have := b.le x e' h5
      rw [h4] at this
      cases this
      exact a.newc x e h3 h5
    | none =>
      rcases b.newc x e h5 h4 with h6 | ⟨b0, hb0, e0, h7, h8⟩
      · exact .inl (by have := a.grow; omega)
      · have hbN := hsub b0 hb0 e0 h7
        cases h9 : σ b0 with
        | some e9 =>
          have := a.le b0 e9 h9
          rw [h7] at this
          cases this
          exact .inr ⟨b0, hbN, e0, h9, h8⟩
        | none =>
          rcases a.newc b0 e0 h9 h7 with h6 | ⟨b1, hb1, e1, h10, h11⟩
          · exact .inl (by omega)
          · exact .inr ⟨b1, hb1, e1, h10, by omega⟩
section step
variable {σ0 : Sig} {w0 : World} {NW : List Nat} {D : Nat → Bool} {g : L2} {i : Nat} {o : Oper}
theorem T.cases {x y : Nat} (dr : Dr P G ctx ops nt F Hs) (hx : x < ops.size) (ht : T Hs x y) : (y ∈ (Hs (x + 1)).lg ∧ y < (Hs x).nx) ∨ ((Hs x).nx ≤ y ∧ y < (Hs (x + 1)).nx) := by
  have hlow := dr.low hx ht
  rcases Nat.lt_or_ge y (Hs x).nx with h1 | h1
  · rcases ht with ht | ht
    · exact .inl ⟨ht, h1⟩
    · omega
  · exact .inr ⟨h1, hlow⟩
/-- a block that i may look at is as the text's order has it -/
theorem Iv.here (dr : Dr P G ctx ops nt F Hs) (iv : Iv G ops nt F Hs σ0 w0 NW D σ g a w) (ho : ops[i]? = some o) (hd : D i = false) (he : ∀ e ∈ o.after.toList, Region.binds .any e = true → D e.on = true)
    {y : Nat} {e : SE} (hy : σ y = some e) (hyn : y < (Hs i).nx)
    (hw : ∀ x z, x < ops.size → x ≠ i → (z = y ∨ clsAO ((Hs i).m.get y) = some z) → z ∈ (Hs (x + 1)).lg → z < (Hs x).nx → Bef ops x i ∨ Bef ops i x) :
    (∀ x, x < ops.size → T Hs x y → (D x = true ↔ x < i)) ∧ (∀ k, clsAO ((Hs i).m.get y) = some k → ∀ x, x < ops.size → T Hs x k → (D x = true ↔ x < i)) ∧ BRel G σ (Hs i).m.get e w ((Hs i).m.get y) := by
  have hi : i < ops.size := (Array.getElem?_eq_some_iff.1 ho).1
  have hyl := iv.so.low y e hy
  have hself : D i = true ↔ i < i := by rw [hd]; simp
  have h1 : ∀ x, x < ops.size → T Hs x y → (D x = true ↔ x < i) := by
    intro x hx ht
    by_cases hxi : x = i
    · subst hxi; exact hself
    · rcases ht.cases dr hx with ⟨q1, q2⟩ | q
      · exact iv.side dr ho hd he hx (hw x y hx hxi (.inl rfl) q1 q2)
      · have hlt : x < i := by
          rcases Nat.lt_or_ge x i with h3 | h3
          · exact h3
          · have := dr.nx h3 (by omega); omega
        refine ⟨fun _ => hlt, fun _ => ?_⟩
        rcases iv.dom y e hy with h3 | ⟨z, h3, h4, h5⟩
        · have := dr.nx (i := 0) (j := x) (by omega) (by omega)
          have := dr.nx (i := i) (j := ops.size) (by omega) (Nat.le_refl _)
          omega
        · have := dr.made_once h3 hx h5 q
          subst this
          exact h4
  obtain ⟨j, k1, k2, k3, k4⟩ := iv.mem y e hy
  have h1' : ∀ x, x < ops.size → T Hs x y → (x < j ↔ x < i) := fun x hx ht => by rw [← k2 x hx ht, h1 x hx ht]
  have hsame := dr.quiet k1 (by omega) hyl h1'
  have h2 : ∀ k, clsAO ((Hs i).m.get y) = some k → ∀ x, x < ops.size → T Hs x k → (D x = true ↔ x < i) := by
    intro k hk x hx ht
    by_cases hxi : x = i
    · subst hxi; exact hself
    · rcases ht.cases dr hx with ⟨q1, q2⟩ | q
      · exact iv.side dr ho hd he hx (hw x k hx hxi (.inr hk) q1 q2)
      · have hkn := ((dr.inv i (by omega)).cls y k hyl hk).1
        have hlt : x < i := by
          rcases Nat.lt_or_ge x i with h3 | h3
          · exact h3
          · have := dr.nx h3 (by omega); omega
        refine ⟨fun _ => hlt, fun _ => ?_⟩
        have hkj : clsAO ((Hs j).m.get y) = some k := by rw [hsame]; exact hk
        have hkn2 := ((dr.inv j k1).cls y k hyl hkj).1
        refine (k3 k hkj x hx ht).2 ?_
        rcases Nat.lt_or_ge x j with h3 | h3
        · exact h3
        · have := dr.nx h3 (by omega); omega
  refine ⟨h1, h2, (dr.move (by omega) k1 hyl h1' ?_ k4).2⟩
  intro k hk x hx ht
  rw [← k3 k hk x hx ht]
  rw [hsame] at hk
  rw [h2 k hk x hx ht]
/-- an operation that makes one block and looks at nothing -/
theorem Iv.make (dr : Dr P G ctx ops nt F Hs) (iv : Iv G ops nt F Hs σ0 w0 NW D σ g a w) (ho : ops[i]? = some o) (hd : D i = false) (he : ∀ e ∈ o.after.toList, Region.binds .any e = true → D e.on = true)
    {v : AV} {v' : Value} {l : List AV} {l' : Array Value} {t : TypeId} (hF : F (i + 1) = putD o.dst v (F i)) (hH : Hs (i + 1) = (noLog (Hs i)).new (.cells l t .exact)) (hl : LRel σ l l'.toList)
    (hv : VRel (upd σ (Hs i).nx ⟨w.heap.size, l.length, none⟩) v v') : Iv G ops nt F Hs σ0 w0 NW (D1 D i) (upd σ (Hs i).nx ⟨w.heap.size, l.length, none⟩) (putD o.dst v g) (a.put o.dst v') (wpush w (.cells l' t)) := by
  have hi : i < ops.size := (Array.getElem?_eq_some_iff.1 ho).1
  have hdst := (dr.frame ho).1
  have hnx : (Hs (i + 1)).nx = (Hs i).nx + 1 := by rw [hH]; rfl
  have hlt : (Hs i).nx < lim := by have := dr.nxl (i := i + 1) hi; omega
  have hlg : (Hs (i + 1)).lg = [] := by rw [hH]; rfl
  have hT : ∀ y, T Hs i y → y = (Hs i).nx := by
    intro y hy
    rcases hy with hy | ⟨h1, h2⟩
    · rw [hlg] at hy; cases hy
    · omega
  have hf : σ (Hs i).nx = none := iv.free dr hi hd _ (Nat.le_refl _) (by rw [hnx]; exact Nat.lt_succ_self _)
  have hle := upd_le (e := ⟨w.heap.size, l.length, none⟩) hf
  have hso := iv.so.push (b := (Hs i).nx) (e := ⟨w.heap.size, l.length, none⟩) (.cells l' t) hlt rfl
  have hup : ∀ z, D z = true → D1 D i z = true := by
    intro z hz
    by_cases hzi : z = i
    · subst hzi; exact D1_self
    · rw [D1_ne hzi]; exact hz
  have hget : (Hs (i + 1)).m.get (Hs i).nx = .cells l t .exact := by
    rw [hH]
    have := new_get (noLog (Hs i)) (.cells l t .exact) hlt (Hs i).nx hlt
    rw [this]
    exact if_pos rfl
  refine ⟨iv.edges1 ho he, (iv.fr.mono hle).put hdst dr.nt hv, iv.slots1 dr ho hd he hF, iv.ds1 dr ho v, iv.gl.mono hle, hso, ?_, ?_, ?_⟩
  · refine iv.cst.join (hi := Hs i) (hj := Hs (i + 1)) (nw := []) ⟨hle, ?_, hso, ?_, ?_, ?_, ⟨rfl, rfl⟩⟩ (dr.nx (by omega) (by omega)) (dr.nx hi (Nat.le_refl _)) (fun y hy => by cases hy)
    · intro y e h1 h2
      unfold upd at h2
      split at h2
      · omega
      · rw [h1] at h2; cases h2
    · rw [size_push]; omega
    · intro c h1 _; exact heap_push w _ c h1
    · intro y e h1 h2
      unfold upd at h2
      split at h2
      · cases h2; exact .inl (Nat.le_refl _)
      · rw [h1] at h2; cases h2
  · intro y e hy
    unfold upd at hy
    split at hy
    · rename_i hyi
      exact .inr ⟨i, hi, D1_self, by omega, by omega⟩
    · rcases iv.dom y e hy with h1 | ⟨x, h1, h2, h3⟩
      · exact .inl h1
      · exact .inr ⟨x, h1, hup x h2, h3⟩
  · intro y e hy
    unfold upd at hy
    split at hy
    · rename_i hyi
      subst hyi
      cases hy
      refine ⟨i + 1, hi, ?_, ?_, ?_⟩
      · intro x hx ht
        by_cases hxi : x = i
        · subst hxi; rw [D1_self]; simp
        · rw [D1_ne hxi]
          rcases ht.cases dr hx with ⟨q1, q2⟩ | q
          · rcases dr.calm x i o hx ho hxi ⟨_, q1, q2⟩ with h1 | h1 | ⟨_, h1⟩
            · rw [iv.side dr ho hd he hx (.inl h1)]; omega
            · rw [iv.side dr ho hd he hx (.inr h1)]; omega
            · exact absurd ⟨Nat.le_refl _, by omega⟩ (outside_spec h1 _ ((wrote_spec _ _ _).2 ⟨q1, q2⟩))
          · exact absurd (dr.made_once hx hi q ⟨Nat.le_refl _, by omega⟩) hxi
      · intro k hk
        rw [hget] at hk
        cases hk
      · rw [hget]
        have hsz : l'.size = l.length := by have := hl.1; simpa using this.symm
        exact ⟨rfl, fun _ => ⟨l', 0, 0, heap_push_at w _, hsz, Nat.le_refl _, fun j x y hx hy => (hl.cells_rel j x y hx hy).mono hle, fun _ => rfl, fun _ j hj => by omega⟩⟩
    · rename_i hyi
      obtain ⟨j, k1, k2, k3, k4⟩ := iv.mem y e hy
      refine ⟨j, k1, ?_, ?_, ?_⟩
      · intro x hx ht
        by_cases hxi : x = i
        · subst hxi; exact absurd (hT y ht) hyi
        · rw [D1_ne hxi]; exact k2 x hx ht
      · intro k hk x hx ht
        by_cases hxi : x = i
        · subst hxi
          have h5 := k3 k hk x hx ht
          rw [hd] at h5
          have h6 : j ≤ x := by simp at h5; omega
          have h7 := ((dr.inv j k1).cls y k (iv.so.low y e hy) hk).1
          have h8 := dr.nx h6 (by omega)
          have h9 := hT k ht
          omega
        · rw [D1_ne hxi]; exact k3 k hk x hx ht
      · exact BRel.congr hle (heap_push w _ _ (iv.so.rng y e hy)) (fun _ _ _ _ _ hh => hh) k4
end step
end Go.Ev
