/- What a run in another order sees. -/
import Derived.Test.YtnefaadihgbobaaGreatDoorEvDraw2
set_option linter.unusedSimpArgs false
set_option linter.unusedVariables false
namespace Go.Ev
variable {P : Program} {G : Nat} {σ σ' : Sig} {h h' : H} {w w' : World} {v : AV} {nt : Nat} {f f' : L2} {a : Act} {ctx : CallT} {b : FB} {cs : List Frame} {ops : Array Oper} {F : Nat → L2} {Hs : Nat → H}

/-- an operation writes a block, or makes it -/
def T (Hs : Nat → H) (x y : Nat) : Prop := y ∈ (Hs (x + 1)).lg ∨ ((Hs x).nx ≤ y ∧ y < (Hs (x + 1)).nx)
def Wt (ops : Array Oper) (x t : Nat) : Prop := ∃ o, ops[x]? = some o ∧ o.dst = some t
theorem Dr.nx (dr : Dr P G ctx ops nt F Hs) {i j : Nat} (hij : i ≤ j) (hj : j ≤ ops.size) : (Hs i).nx ≤ (Hs j).nx := by
  have key : ∀ m, i + m ≤ ops.size → (Hs i).nx ≤ (Hs (i + m)).nx := by
    intro m
    induction m with
    | zero => intro _; exact Nat.le_refl _
    | succ m ih =>
      intro hm
      exact Nat.le_trans (ih (by omega)) (dr.step (i + m) (by omega)).nx
  have := key (j - i) (by omega)
  rwa [show i + (j - i) = j by omega] at this
theorem Dr.nxl (dr : Dr P G ctx ops nt F Hs) {i : Nat} (hi : i ≤ ops.size) : (Hs i).nx ≤ lim := Nat.le_trans (dr.nx hi (Nat.le_refl _)) dr.top
theorem Dr.low (dr : Dr P G ctx ops nt F Hs) {x y : Nat} (hx : x < ops.size) (ht : T Hs x y) : y < (Hs (x + 1)).nx := by
  rcases ht with ht | ht
  · exact (dr.step x hx).low y ht
  · exact ht.2
theorem Dr.quiet1 (dr : Dr P G ctx ops nt F Hs) {x y : Nat} (hx : x < ops.size) (hy : y < lim) (ht : ¬ T Hs x y) : (Hs (x + 1)).m.get y = (Hs x).m.get y := by
  have hst := dr.step x hx
  by_cases h1 : y < (Hs x).nx
  · exact hst.keep y hy h1 (fun hh => ht (.inl hh))
  · have h2 : (Hs (x + 1)).nx ≤ y := by
      rcases Nat.lt_or_ge y (Hs (x + 1)).nx with h3 | h3
      · exact absurd (.inr ⟨by omega, h3⟩) ht
      · exact h3
    rw [(dr.inv (x + 1) hx).bound y h2 hy, (dr.inv x (by omega)).bound y (by omega) hy]
theorem Dr.quiet (dr : Dr P G ctx ops nt F Hs) {i j y : Nat} (hi : i ≤ ops.size) (hj : j ≤ ops.size) (hy : y < lim) (ht : ∀ x, x < ops.size → T Hs x y → (x < i ↔ x < j)) : (Hs i).m.get y = (Hs j).m.get y := by
  have key : ∀ m i, i + m ≤ ops.size → (∀ x, i ≤ x → x < i + m → ¬ T Hs x y) → (Hs i).m.get y = (Hs (i + m)).m.get y := by
    intro m
    induction m with
    | zero => intro i _ _; rfl
    | succ m ih =>
      intro i hm hn
      rw [ih i (by omega) (fun x h1 h2 => hn x h1 (by omega))]
      exact (dr.quiet1 (by omega) hy (hn (i + m) (by omega) (by omega))).symm
  rcases Nat.le_total i j with h1 | h1
  · have := key (j - i) i (by omega) (fun x h2 h3 h4 => by have := ht x (by omega) h4; omega)
    rwa [show i + (j - i) = j by omega] at this
  · have := key (i - j) j (by omega) (fun x h2 h3 h4 => by have := ht x (by omega) h4; omega)
    rw [show j + (i - j) = i by omega] at this
    exact this.symm
/-- a frame behind an operation -/
theorem Dr.frame (dr : Dr P G ctx ops nt F Hs) {x : Nat} {o : Oper} (ho : ops[x]? = some o) : (∀ t : Nat, o.dst = some t → t < nt) ∧ ∃ v, F (x + 1) = putD o.dst v (F x) := by
  have hmem : o ∈ ops.toList := by simpa using Array.mem_of_getElem? ho
  refine ⟨(operOk_dst (dr.all o hmem)).2, ?_⟩
  rcases oper1_cases (dr.run x o ho) (fun n hn => by cases hn) with ⟨_, he⟩ | ⟨_, _, v, h', _, he⟩ | ⟨_, c, hd, _⟩
  · injection he with h1 h2; exact ⟨_, h1⟩
  · injection he with h1 h2; exact ⟨_, h1⟩
  · rw [dr.nodf o hmem] at hd; cases hd
theorem Dr.fquiet1 (dr : Dr P G ctx ops nt F Hs) {x t : Nat} (hx : x < ops.size) (ht : t < 256) (hw : ¬ Wt ops x t) : (F (x + 1)).get t = (F x).get t := by
  have ho : ops[x]? = some ops[x] := Array.getElem?_eq_getElem hx
  obtain ⟨hd, v, he⟩ := dr.frame ho
  have hnt := dr.nt
  rw [he, putD_get (fun u hu => Nat.lt_trans (hd u hu) hnt) t ht, if_neg (fun hh => hw ⟨_, ho, hh⟩)]
theorem Dr.fquiet (dr : Dr P G ctx ops nt F Hs) {i j t : Nat} (hi : i ≤ ops.size) (hj : j ≤ ops.size) (ht : t < 256) (hw : ∀ x, x < ops.size → Wt ops x t → (x < i ↔ x < j)) : (F i).get t = (F j).get t := by
  have key : ∀ m i, i + m ≤ ops.size → (∀ x, i ≤ x → x < i + m → ¬ Wt ops x t) → (F i).get t = (F (i + m)).get t := by
    intro m
    induction m with
    | zero => intro i _ _; rfl
    | succ m ih =>
      intro i hm hn
      rw [ih i (by omega) (fun x h1 h2 => hn x h1 (by omega))]
      exact (dr.fquiet1 (by omega) ht (hn (i + m) (by omega) (by omega))).symm
  rcases Nat.le_total i j with h1 | h1
  · have := key (j - i) i (by omega) (fun x h2 h3 h4 => by have := hw x (by omega) h4; omega)
    rwa [show i + (j - i) = j by omega] at this
  · have := key (i - j) j (by omega) (fun x h2 h3 h4 => by have := hw x (by omega) h4; omega)
    rw [show j + (i - j) = i by omega] at this
    exact this.symm
theorem Dr.made_once (dr : Dr P G ctx ops nt F Hs) {x y z : Nat} (hx : x < ops.size) (hz : z < ops.size) (h1 : (Hs x).nx ≤ y ∧ y < (Hs (x + 1)).nx) (h2 : (Hs z).nx ≤ y ∧ y < (Hs (z + 1)).nx) : x = z := by
  rcases Nat.lt_trichotomy x z with h3 | h3 | h3
  · have := dr.nx (i := x + 1) (j := z) h3 (by omega); omega
  · exact h3
  · have := dr.nx (i := z + 1) (j := x) h3 (by omega); omega
/-- the class of a block that an operation makes -/
theorem Dr.same (dr : Dr P G ctx ops nt F Hs) {i j y k : Nat} (hij : i ≤ j) (hj : j ≤ ops.size) (hy : y < (Hs i).nx) (hk : clsAO ((Hs j).m.get y) = some k) : clsAO ((Hs i).m.get y) = some k := by
  have hyl : y < lim := Nat.lt_of_lt_of_le hy (dr.nxl (by omega))
  have key : ∀ m, i + m ≤ ops.size → clsAO ((Hs (i + m)).m.get y) = some k → clsAO ((Hs i).m.get y) = some k := by
    intro m
    induction m with
    | zero => intro _ hh; exact hh
    | succ m ih =>
      intro hm hh
      refine ih (by omega) ((dr.step (i + m) (by omega)).same y k ?_ hyl hh)
      exact Nat.lt_of_lt_of_le hy (dr.nx (by omega) (by omega))
  exact key (j - i) (by omega) (by rwa [show i + (j - i) = j by omega])

/-- the state of a run in which the operations of D are done -/
structure Iv (G : Nat) (ops : Array Oper) (nt : Nat) (F : Nat → L2) (Hs : Nat → H) (σ0 : Sig) (w0 : World) (NW : List Nat) (D : Nat → Bool) (σ : Sig) (g : L2) (a : Act) (w : World) : Prop where
  edges : EdgeClosed ops D
  fr : FRel σ nt g a
  slots : ∀ t, t < 250 → ∃ j, j ≤ ops.size ∧ (∀ x, x < ops.size → Wt ops x t → (D x = true ↔ x < j)) ∧ g.get t = (F j).get t
  ds : g.get dslot = (F 0).get dslot
  gl : GOk G σ
  so : SOk σ w
  cst : CStep σ0 σ (Hs 0) (Hs ops.size) w0 w NW
  dom : ∀ y e, σ y = some e → (y < (Hs 0).nx ∨ (Hs ops.size).nx ≤ y) ∨ ∃ x, x < ops.size ∧ D x = true ∧ (Hs x).nx ≤ y ∧ y < (Hs (x + 1)).nx
  mem : ∀ y e, σ y = some e → ∃ j, j ≤ ops.size ∧ (∀ x, x < ops.size → T Hs x y → (D x = true ↔ x < j)) ∧
    (∀ k, clsAO ((Hs j).m.get y) = some k → ∀ x, x < ops.size → T Hs x k → (D x = true ↔ x < j)) ∧ BRel G σ (Hs j).m.get e w ((Hs j).m.get y)
/-- the same block, at another place of the run -/
theorem Dr.move (dr : Dr P G ctx ops nt F Hs) {i j y : Nat} {e : SE} (hi : i ≤ ops.size) (hj : j ≤ ops.size) (hy : y < lim) (h1 : ∀ x, x < ops.size → T Hs x y → (x < j ↔ x < i))
    (h2 : ∀ k, clsAO ((Hs j).m.get y) = some k → ∀ x, x < ops.size → T Hs x k → (x < j ↔ x < i)) (hb : BRel G σ (Hs j).m.get e w ((Hs j).m.get y)) :
    (Hs i).m.get y = (Hs j).m.get y ∧ BRel G σ (Hs i).m.get e w ((Hs i).m.get y) := by
  have he := dr.quiet hj hi hy h1
  refine ⟨he.symm, ?_⟩
  rw [← he]
  refine BRel.congr (Sle.refl σ) rfl ?_ hb
  intro l t k st ho hk
  have hcls : clsAO ((Hs j).m.get y) = some k := by rw [ho]; rfl
  have hkl : k < lim := by
    have := ((dr.inv j hj).cls y k hy hcls).1
    have := dr.nxl hj
    omega
  rw [dr.quiet hj hi hkl (h2 k hcls)]
  exact hk
section step
variable {σ0 : Sig} {w0 : World} {NW : List Nat} {D : Nat → Bool} {g : L2} {i : Nat} {o : Oper}
def D1 (D : Nat → Bool) (i : Nat) : Nat → Bool := fun j => if j = i then true else D j
theorem D1_self : D1 D i i = true := if_pos rfl
theorem D1_ne {x : Nat} (hx : x ≠ i) : D1 D i x = D x := if_neg hx
/-- what is bound to i lies on its side -/
theorem Iv.side (dr : Dr P G ctx ops nt F Hs) (iv : Iv G ops nt F Hs σ0 w0 NW D σ g a w) (ho : ops[i]? = some o) (hd : D i = false) (he : ∀ e ∈ o.after.toList, Region.binds .any e = true → D e.on = true)
    {x : Nat} (hx : x < ops.size) (hor : Bef ops x i ∨ Bef ops i x) : (D x = true ↔ x < i) := by
  have hb := regOk_backward dr.reg
  have hi : i < ops.size := (Array.getElem?_eq_some_iff.1 ho).1
  rcases hor with hor | hor
  · exact ⟨fun _ => hor.lt hb hi, fun _ => Bef.done hb iv.edges ho he x hor⟩
  · have hlt := hor.lt hb hx
    refine ⟨fun hD => ?_, fun hh => absurd hh (by omega)⟩
    have := Bef.done hb iv.edges (Array.getElem?_eq_getElem hx) (iv.edges x _ (Array.getElem?_eq_getElem hx) hD) i hor
    rw [hd] at this
    cases this
theorem Iv.edges1 (iv : Iv G ops nt F Hs σ0 w0 NW D σ g a w) (ho : ops[i]? = some o) (he : ∀ e ∈ o.after.toList, Region.binds .any e = true → D e.on = true) : EdgeClosed ops (D1 D i) := by
  intro x p hp hx e hm hb
  have hup : ∀ z, D z = true → D1 D i z = true := by
    intro z hz
    by_cases hzi : z = i
    · subst hzi; exact D1_self
    · rw [D1_ne hzi]; exact hz
  by_cases hxi : x = i
  · subst hxi
    rw [ho] at hp
    cases hp
    exact hup _ (he e hm hb)
  · rw [D1_ne hxi] at hx
    exact hup _ (iv.edges x p hp hx e hm hb)
theorem Iv.reads (dr : Dr P G ctx ops nt F Hs) (iv : Iv G ops nt F Hs σ0 w0 NW D σ g a w) (ho : ops[i]? = some o) (hd : D i = false) (he : ∀ e ∈ o.after.toList, Region.binds .any e = true → D e.on = true)
    {t : Nat} (ht : t < 250) (hr : readsSlot ops o t) : g.get t = (F i).get t := by
  have hi : i < ops.size := (Array.getElem?_eq_some_iff.1 ho).1
  obtain ⟨j, h1, h2, h3⟩ := iv.slots t ht
  rw [h3]
  refine dr.fquiet h1 (by omega) (by omega) (fun x hx hw => ?_)
  have h4 := h2 x hx hw
  by_cases hxi : x = i
  · subst hxi
    rw [hd] at h4
    simp at h4
    omega
  · obtain ⟨p, hp, hpd⟩ := hw
    have := iv.side dr ho hd he hx (regOk_slots dr.reg hp ho hxi hpd (.inr hr))
    rw [← h4, this]
/-- the slots behind an operation -/
theorem Iv.slots1 (dr : Dr P G ctx ops nt F Hs) (iv : Iv G ops nt F Hs σ0 w0 NW D σ g a w) (ho : ops[i]? = some o) (hd : D i = false) (he : ∀ e ∈ o.after.toList, Region.binds .any e = true → D e.on = true)
    {v : AV} (hF : F (i + 1) = putD o.dst v (F i)) : ∀ t, t < 250 → ∃ j, j ≤ ops.size ∧ (∀ x, x < ops.size → Wt ops x t → (D1 D i x = true ↔ x < j)) ∧ (putD o.dst v g).get t = (F j).get t := by
  intro t ht
  have hi : i < ops.size := (Array.getElem?_eq_some_iff.1 ho).1
  have hdst := (dr.frame ho).1
  have hnt := dr.nt
  have hg : ∀ f : L2, (putD o.dst v f).get t = if o.dst = some t then v else f.get t := fun f => putD_get (fun u hu => Nat.lt_trans (hdst u hu) hnt) t (by omega)
  by_cases hot : o.dst = some t
  · refine ⟨i + 1, hi, fun x hx hw => ?_, ?_⟩
    · by_cases hxi : x = i
      · subst hxi; rw [D1_self]; simp
      · rw [D1_ne hxi]
        obtain ⟨p, hp, hpd⟩ := hw
        rw [iv.side dr ho hd he hx (regOk_slots dr.reg hp ho hxi hpd (.inl hot))]
        omega
    · rw [hF, hg g, hg (F i), if_pos hot, if_pos hot]
  · obtain ⟨j, h1, h2, h3⟩ := iv.slots t ht
    refine ⟨j, h1, fun x hx hw => ?_, ?_⟩
    · by_cases hxi : x = i
      · subst hxi
        obtain ⟨p, hp, hpd⟩ := hw
        rw [ho] at hp
        cases hp
        exact absurd hpd hot
      · rw [D1_ne hxi]; exact h2 x hx hw
    · rw [hg g, if_neg hot, h3]
theorem Iv.ds1 (dr : Dr P G ctx ops nt F Hs) (iv : Iv G ops nt F Hs σ0 w0 NW D σ g a w) (ho : ops[i]? = some o) (v : AV) : (putD o.dst v g).get dslot = (F 0).get dslot := by
  have hdst := (dr.frame ho).1
  have hnt := dr.nt
  rw [putD_get (fun u hu => Nat.lt_trans (hdst u hu) hnt) dslot (by decide), if_neg (fun hh => by have h1 : (255 : Nat) < nt := hdst 255 hh; omega)]
  exact iv.ds
theorem Iv.free (dr : Dr P G ctx ops nt F Hs) (iv : Iv G ops nt F Hs σ0 w0 NW D σ g a w) (hi : i < ops.size) (hd : D i = false) : Free σ (noLog (Hs i)) (Hs (i + 1)) := by
  intro y h1 h2
  cases hy : σ y with
  | none => rfl
  | some e =>
    have h1' : (Hs i).nx ≤ y := h1
    rcases iv.dom y e hy with h3 | ⟨x, h3, h4, h5⟩
    · have := dr.nx (i := 0) (j := i) (by omega) (by omega)
      have := dr.nx (i := i + 1) (j := ops.size) hi (Nat.le_refl _)
      omega
    · have := dr.made_once h3 hi h5 ⟨h1', h2⟩
      subst this
      rw [hd] at h4; cases h4
/-- an operation that makes and writes nothing -/
theorem Iv.still (dr : Dr P G ctx ops nt F Hs) (iv : Iv G ops nt F Hs σ0 w0 NW D σ g a w) (ho : ops[i]? = some o) (hd : D i = false) (he : ∀ e ∈ o.after.toList, Region.binds .any e = true → D e.on = true)
    {v : AV} {v' : Value} (hF : F (i + 1) = putD o.dst v (F i)) (hH : Hs (i + 1) = noLog (Hs i)) (hv : VRel σ v v') : Iv G ops nt F Hs σ0 w0 NW (D1 D i) σ (putD o.dst v g) (a.put o.dst v') w := by
  have hi : i < ops.size := (Array.getElem?_eq_some_iff.1 ho).1
  have hdst := (dr.frame ho).1
  have hT : ∀ y, ¬ T Hs i y := by
    intro y hy
    unfold T at hy
    rw [hH] at hy
    rcases hy with hy | ⟨h1, h2⟩
    · cases hy
    · have h2' : y < (Hs i).nx := h2
      omega
  have hside : ∀ x y, T Hs x y → D1 D i x = D x := by
    intro x y hxy
    refine D1_ne ?_
    rintro rfl
    exact hT y hxy
  refine ⟨iv.edges1 ho he, iv.fr.put hdst dr.nt hv, iv.slots1 dr ho hd he hF, iv.ds1 dr ho v, iv.gl, iv.so, iv.cst, ?_, ?_⟩
  · intro y e hy
    rcases iv.dom y e hy with h1 | ⟨x, h1, h2, h3⟩
    · exact .inl h1
    · refine .inr ⟨x, h1, ?_, h3⟩
      rw [hside x y (.inr h3)]; exact h2
  · intro y e hy
    obtain ⟨j, h1, h2, h3, h4⟩ := iv.mem y e hy
    refine ⟨j, h1, fun x hx hT => ?_, fun k hk x hx hT => ?_, h4⟩
    · rw [hside x y hT]; exact h2 x hx hT
    · rw [hside x k hT]; exact h3 k hk x hx hT
end step
end Go.Ev
