/- A region whose order is open. -/
import Derived.Test.YtnefaadihgbobaaGreatDoorEvDraw4
set_option linter.unusedSimpArgs false
set_option linter.unusedVariables false
namespace Go.Ev
variable {P : Program} {G : Nat} {σ σ' : Sig} {h h' : H} {w w' : World} {v : AV} {nt : Nat} {f f' : L2} {a : Act} {ctx : CallT} {b : FB} {cs : List Frame} {ops : Array Oper} {F : Nat → L2} {Hs : Nat → H}
section step
variable {σ0 : Sig} {w0 : World} {NW : List Nat} {D : Nat → Bool} {g : L2} {i : Nat} {o : Oper}
/-- an operation that may look at all -/
theorem Iv.whole (dr : Dr P G ctx ops nt F Hs) (iv : Iv G ops nt F Hs σ0 w0 NW D σ g a w) (ho : ops[i]? = some o) (hd : D i = false) (he : ∀ e ∈ o.after.toList, Region.binds .any e = true → D e.on = true)
    (hNW : ∀ x y, x < ops.size → y ∈ (Hs (x + 1)).lg → y < (Hs x).nx → y ∈ NW) (hord : ∀ x, x < ops.size → x ≠ i → (∃ z, z ∈ (Hs (x + 1)).lg ∧ z < (Hs x).nx) → Bef ops x i ∨ Bef ops i x) :
    MAll G σ (Hs i).m.get w ∧ ∀ (v : AV) (v' : Value) (σ' : Sig) (w' : World), F (i + 1) = putD o.dst v (F i) → VRel σ' v v' → Out G σ (noLog (Hs i)) w σ' (Hs (i + 1)) w' →
      Iv G ops nt F Hs σ0 w0 NW (D1 D i) σ' (putD o.dst v g) (a.put o.dst v') w' := by
  have hi : i < ops.size := (Array.getElem?_eq_some_iff.1 ho).1
  have hdst := (dr.frame ho).1
  have hinv := dr.inv i (by omega)
  have hfree := iv.free dr hi hd
  have hhere : ∀ y e, σ y = some e → y < (Hs i).nx → _ := fun y e hy hyn => iv.here dr ho hd he hy hyn (fun x z hx hxi _ q1 q2 => hord x hx hxi ⟨z, q1, q2⟩)
  have hma : MAll G σ (Hs i).m.get w := by
    intro y e hy
    rcases Nat.lt_or_ge y (Hs i).nx with h1 | h1
    · exact (hhere y e hy h1).2.2
    · rw [hinv.bound y h1 (iv.so.low y e hy)]; trivial
  refine ⟨hma, ?_⟩
  intro v v' σ' w' hF hv hout
  have hout0 := hout
  obtain ⟨nw, ast, cst, ma'⟩ := hout
  have hnw : (Hs (i + 1)).lg = nw := by rw [ast.lg]; simp [noLog]
  have hnin : ∀ y ∈ nw, ∀ e, σ y = some e → y < (Hs i).nx := by
    intro y hy e hye
    rcases Nat.lt_or_ge y (Hs i).nx with h1 | h1
    · exact h1
    · rw [hfree y h1 (ast.low y hy)] at hye; cases hye
  have hup : ∀ z, D z = true → D1 D i z = true := by
    intro z hz
    by_cases hzi : z = i
    · subst hzi; exact D1_self
    · rw [D1_ne hzi]; exact hz
  have hfresh : ∀ y e, σ y = none → σ' y = some e → (Hs i).nx ≤ y ∧ y < (Hs (i + 1)).nx := fun y e h1 h2 => cst.fresh y e h1 h2
  -- a block of which nothing is touched
  have hstill : ∀ y e j, σ y = some e → ¬ T Hs i y → (∀ k, clsAO ((Hs j).m.get y) = some k → ¬ T Hs i k) → BRel G σ (Hs j).m.get e w ((Hs j).m.get y) → BRel G σ' (Hs j).m.get e w' ((Hs j).m.get y) := by
    intro y e j hy hty htk hb
    by_cases hnone : (Hs j).m.get y = .none
    · rw [hnone]; trivial
    · refine BRel.congr cst.le (cst.frame e.c (iv.so.rng y e hy) ?_) (fun _ _ _ _ _ hh => hh) hb
      intro y0 hy0 e0 he0 hc
      rcases iv.so.inj y0 y e0 e he0 hy hc with h1 | ⟨h1, h2⟩
      · subst h1
        exact hty (.inl (by rw [hnw]; exact hy0))
      · cases hk : e0.k with
        | none => exact h2 hk
        | some k =>
          have hlt0 := hnin y0 hy0 e0 he0
          have hlive := ast.live y0 hy0 hlt0 (iv.so.low y0 e0 he0)
          have hb0 := hma y0 e0 he0
          have hc0 : clsAO ((Hs i).m.get y0) = some k := (hb0.cls hk).resolve_left hlive
          have hkin := ast.cls y0 hy0 k hlt0 hc0
          have hcy : clsAO ((Hs j).m.get y) = some k := (hb.cls (by rw [← h1]; exact hk)).resolve_left hnone
          exact htk k hcy (.inl (by rw [hnw]; exact hkin))
  refine ⟨iv.edges1 ho he, (iv.fr.mono cst.le).put hdst dr.nt hv, iv.slots1 dr ho hd he hF, iv.ds1 dr ho v, iv.gl.mono cst.le, cst.ok, ?_, ?_, ?_⟩
  · refine iv.cst.join cst (dr.nx (by omega) (by omega)) (dr.nx hi (Nat.le_refl _)) ?_
    intro y hy e hye
    exact hNW i y hi (by rw [hnw]; exact hy) (hnin y hy e hye)
  · intro y e hy
    cases hyo : σ y with
    | none =>
      have := hfresh y e hyo hy
      exact .inr ⟨i, hi, D1_self, this⟩
    | some e' =>
      rcases iv.dom y e' hyo with h1 | ⟨x, h1, h2, h3⟩
      · exact .inl h1
      · exact .inr ⟨x, h1, hup x h2, h3⟩
  · intro y e hy
    cases hyo : σ y with
    | some e' =>
      have hee : e' = e := by
        have := cst.le y e' hyo
        rw [hy] at this
        cases this; rfl
      subst hee
      rcases Nat.lt_or_ge y (Hs i).nx with h1 | h1
      · obtain ⟨q1, q2, q3⟩ := hhere y e' hyo h1
        by_cases hto : T Hs i y ∨ ∃ k, clsAO ((Hs i).m.get y) = some k ∧ T Hs i k
        · refine ⟨i + 1, hi, ?_, ?_, ma' y e' hy⟩
          · intro x hx ht
            by_cases hxi : x = i
            · subst hxi; rw [D1_self]; simp
            · rw [D1_ne hxi, q1 x hx ht]; omega
          · intro k hk x hx ht
            have hk' := dr.same (i := i) (j := i + 1) (by omega) hi h1 hk
            by_cases hxi : x = i
            · subst hxi; rw [D1_self]; simp
            · rw [D1_ne hxi, q2 k hk' x hx ht]; omega
        · rw [not_or] at hto
          have hto2 : ∀ k, clsAO ((Hs i).m.get y) = some k → ¬ T Hs i k := fun k hk ht => hto.2 ⟨k, hk, ht⟩
          refine ⟨i, by omega, ?_, ?_, hstill y e' i hyo hto.1 hto2 q3⟩
          · intro x hx ht
            by_cases hxi : x = i
            · subst hxi; exact absurd ht hto.1
            · rw [D1_ne hxi]; exact q1 x hx ht
          · intro k hk x hx ht
            by_cases hxi : x = i
            · subst hxi; exact absurd ht (hto2 k hk)
            · rw [D1_ne hxi]; exact q2 k hk x hx ht
      by_cases hfar : (Hs ops.size).nx ≤ y
      · have hnt : ∀ x, x < ops.size → ¬ T Hs x y := by
          intro x hx ht
          have h5 := dr.low hx ht
          have h6 := dr.nx (i := x + 1) (j := ops.size) hx (Nat.le_refl _)
          omega
        have hnone : (Hs i).m.get y = .none := hinv.bound y h1 (iv.so.low y e' hyo)
        refine ⟨i, by omega, fun x hx ht => absurd ht (hnt x hx), fun k hk => ?_, ?_⟩
        · rw [hnone] at hk; cases hk
        · rw [hnone]; trivial
      · -- made by an operation behind i in the text
        obtain ⟨x0, p1, p2, p3⟩ : ∃ x, x < ops.size ∧ D x = true ∧ (Hs x).nx ≤ y ∧ y < (Hs (x + 1)).nx := by
          rcases iv.dom y e' hyo with h2 | h2
          · have := dr.nx (i := 0) (j := i) (by omega) (by omega); omega
          · exact h2
        have hx0i : x0 ≠ i := by rintro rfl; rw [hd] at p2; cases p2
        have hgt : i < x0 := by
          rcases Nat.lt_or_ge i x0 with h2 | h2
          · exact h2
          · have h3 : x0 + 1 ≤ i := by omega
            have := dr.nx h3 (by omega); omega
        have hnxx := dr.nx (i := i + 1) (j := x0) hgt (by omega)
        obtain ⟨j, k1, k2, k3, k4⟩ := iv.mem y e' hyo
        have hty : ¬ T Hs i y := by
          intro ht
          have := dr.low hi ht
          omega
        have htk : ∀ k, clsAO ((Hs j).m.get y) = some k → ¬ T Hs i k := by
          intro k hk ht
          have hkl := dr.low hi ht
          have hxj : x0 < j := (k2 x0 p1 (.inr p3)).1 p2
          have hk2 := dr.same (i := x0 + 1) (j := j) hxj k1 p3.2 hk
          rcases (dr.step x0 p1).newc y k p3.1 p3.2 (iv.so.low y e' hyo) hk2 with h5 | h5
          · have hor := hord x0 p1 hx0i ⟨k, h5, by omega⟩
            have := (iv.side dr ho hd he p1 hor).1 p2
            omega
          · have h5' : (Hs x0).nx ≤ k := h5
            omega
        refine ⟨j, k1, ?_, ?_, hstill y e' j hyo hty htk k4⟩
        · intro x hx ht
          by_cases hxi : x = i
          · subst hxi; exact absurd ht hty
          · rw [D1_ne hxi]; exact k2 x hx ht
        · intro k hk x hx ht
          by_cases hxi : x = i
          · subst hxi; exact absurd ht (htk k hk)
          · rw [D1_ne hxi]; exact k3 k hk x hx ht
    | none =>
      have hin := hfresh y e hyo hy
      have hyl := cst.ok.low y e hy
      refine ⟨i + 1, hi, ?_, ?_, ma' y e hy⟩
      · intro x hx ht
        by_cases hxi : x = i
        · subst hxi; rw [D1_self]; simp
        · rw [D1_ne hxi]
          rcases ht.cases dr hx with ⟨q1, q2⟩ | q
          · rw [iv.side dr ho hd he hx (hord x hx hxi ⟨y, q1, q2⟩)]; omega
          · exact absurd (dr.made_once hx hi q hin) hxi
      · intro k hk x hx ht
        by_cases hxi : x = i
        · subst hxi; rw [D1_self]; simp
        · rw [D1_ne hxi]
          rcases ht.cases dr hx with ⟨q1, q2⟩ | q
          · rw [iv.side dr ho hd he hx (hord x hx hxi ⟨k, q1, q2⟩)]; omega
          · have hkn := ((dr.inv (i + 1) hi).cls y k hyl hk).1
            have hlt : x < i := by
              rcases Nat.lt_or_ge x i with h3 | h3
              · exact h3
              · have h4 : i + 1 ≤ x := by omega
                have := dr.nx h4 (by omega); omega
            have hnxx := dr.nx (i := x + 1) (j := i) hlt (by omega)
            rcases ast.newc y k hin.1 hin.2 hyl hk with h5 | h5
            · have hkw : k < (Hs i).nx := by omega
              obtain ⟨p, hp⟩ : ∃ p, ops[x]? = some p := ⟨_, Array.getElem?_eq_getElem hx⟩
              rcases dr.calm i x p hi hp (Ne.symm hxi) ⟨k, by rw [hnw]; exact h5, hkw⟩ with h6 | h6 | ⟨_, h6⟩
              · rw [iv.side dr ho hd he hx (.inr h6)]; omega
              · rw [iv.side dr ho hd he hx (.inl h6)]; omega
              · exact absurd q (outside_spec h6 k ((wrote_spec _ _ _).2 ⟨by rw [hnw]; exact h5, hkw⟩))
            · have h5' : (Hs i).nx ≤ k := h5
              omega
end step
end Go.Ev
