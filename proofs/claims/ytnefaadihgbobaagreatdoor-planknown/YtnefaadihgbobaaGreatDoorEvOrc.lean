/- Runs that are told apart, and the call of the model. -/
import Derived.Test.YtnefaadihgbobaaGreatDoorEvTop
set_option linter.unusedSimpArgs false
set_option linter.unusedVariables false
namespace Go.Ev
variable {P : Program} {G : Nat} {σ σ' : Sig} {h h' : H} {w w' : World} {v : AV} {nt : Nat} {f f' : L2} {a a' : Act} {ctx : CallT} {b : FB} {cs : List Frame} {gl : List GE}

/-- the world holds the variables -/
structure WOk (P : Program) (gl : List GE) (w : World) : Prop where
  size : P.globals.size ≤ w.heap.size
  vars : ∀ e ∈ gl, ∃ (arr : Array Value) (lo hi : Nat), w.heap[e.g]? = some (.cells arr e.t (lo, hi)) ∧ (∀ i, i < arr.size → ¬ (lo ≤ i ∧ i < hi)) ∧ ∀ σ, LRel σ e.l arr.toList
/-- the world behind a call: what was there is as it was -/
structure Kept (w w' : World) : Prop where
  grow : w.heap.size ≤ w'.heap.size
  same : ∀ c, c < w.heap.size → w'.heap[c]? = w.heap[c]?
  io : w'.os = w.os ∧ w'.output = w.output
theorem WOk.kept (hw : WOk P gl w) (hk : Kept w w') : WOk P gl w' := by
  refine ⟨Nat.le_trans hw.size hk.grow, fun e he => ?_⟩
  obtain ⟨arr, lo, hi, h1, h2⟩ := hw.vars e he
  exact ⟨arr, lo, hi, by rw [hk.same e.g (lt_of_get h1)]; exact h1, h2⟩
noncomputable def sig0 (G : Nat) (w : World) : Sig := fun b => if b < G then some ⟨b, (match w.heap[b]? with | some (.cells arr _ _) => arr.size | _ => 0), none⟩ else none
theorem sig0_some {b : Nat} {e : SE} (hh : sig0 G w b = some e) : b < G ∧ e.c = b ∧ e.k = none ∧ e.N = (match w.heap[b]? with | some (.cells arr _ _) => arr.size | _ => 0) := by
  unfold sig0 at hh
  split at hh
  · cases hh; exact ⟨by assumption, rfl, rfl, rfl⟩
  · cases hh
theorem wok_ms (hw : WOk P gl w) (hn : P.globals.size ≤ lim) (hok : glOk P.globals.size gl = true) : Ms P.globals.size (sig0 P.globals.size w) (glH gl P.globals.size) w ∧ GOk P.globals.size (sig0 P.globals.size w) := by
  refine ⟨⟨glH_inv hn hok, ⟨?_, ?_, ?_⟩, ?_⟩, ?_⟩
  · intro x y e e' h1 h2 h3
    have q1 := (sig0_some h1).2.1
    have q2 := (sig0_some h2).2.1
    exact .inl (by omega)
  · intro x e h1
    have q := sig0_some h1
    have := hw.size
    omega
  · intro x e h1
    have q := sig0_some h1
    omega
  · intro x e h1
    obtain ⟨q1, q2, q3, q4⟩ := sig0_some h1
    show BRel _ _ (glM gl).get e w ((glM gl).get x)
    rcases glM_get hn gl hok x (by omega) with ⟨ge, p1, p2, p3⟩ | ⟨_, p3⟩
    · rw [p3]
      obtain ⟨arr, lo, hi, r1, r2, r3⟩ := hw.vars ge p1
      rw [p2] at r1
      have hN : e.N = arr.size := by rw [q4, r1]
      have hlr := r3 (sig0 P.globals.size w)
      have hlen : ge.l.length = arr.size := by have := hlr.1; simpa using this
      refine ⟨q3, fun _ => ⟨arr, lo, hi, by rw [q2]; exact r1, hN.symm, by omega, fun i x y hx hy => hlr.cells_rel i x y hx hy, fun _ => by omega, fun _ i hi2 => r2 i (by omega)⟩⟩
    · rw [p3]; trivial
  · intro g hg
    exact ⟨_, if_pos hg, rfl⟩
theorem ms_wok (hm : Ms P.globals.size σ h w) (hg : GOk P.globals.size σ) (hok : glOk P.globals.size gl = true) (hgl : globOk gl h = true) : WOk P gl w := by
  refine ⟨?_, fun e he => ?_⟩
  · rcases Nat.eq_zero_or_pos P.globals.size with h0 | h0
    · omega
    · obtain ⟨e, h1, h2⟩ := hg (P.globals.size - 1) (by omega)
      have := hm.so.rng _ e h1
      omega
  · obtain ⟨h1, h2⟩ := glOk_get hok e he
    obtain ⟨s, h3, h4⟩ := hg e.g h1
    have hbr := hm.ma e.g s h3
    rw [globOk_get hgl e he] at hbr
    obtain ⟨_, hbr⟩ := hbr
    obtain ⟨arr, lo, hi, q1, q2, q3, q4, q5, q6⟩ := hbr trivial
    rw [h4] at q1
    have hlen := q5 rfl
    refine ⟨arr, lo, hi, q1, fun i hi2 => q6 trivial i (by omega), fun σ' => ?_⟩
    have hlr : LRel σ e.l arr.toList := ⟨by simp; omega, fun i x y hx hy => q4 i x y hx (by simpa using hy)⟩
    exact flatL_rel h2 hlr σ'

/- RUNS THAT ARE TOLD APART -/
structure Orc where
  g : FuncId
  args : List AV
  v : AV
/-- a call with flat arguments comes to a flat value, in every world that holds the variables -/
def OrcOk (P : Program) (gl : List GE) (o : Orc) : Prop := ∀ (w : World) (args' : Array Value) (kind : CallKind), WOk P gl w → (∀ σ, LRel σ o.args args'.toList) →
  ∃ v' w' a' fn, P.funcs[o.g]? = some fn ∧ (∀ σ, VRel σ o.v v') ∧ Kept w w' ∧ a'.defers = [] ∧ (results fn a'.tmps).run P w' = .ok v' w' ∧
    ∀ cs, Calm ⟨o.g, kind, none⟩ cs → ∃ k', Steps P (lone (Frame.enter P o.g args' kind) cs w) (lone (FB.back ⟨o.g, kind, none⟩ a' k') cs w')
theorem orc_of_run (hc : CtxSound P P.globals.size ctx) (hn : P.globals.size ≤ lim) (hok : glOk P.globals.size gl = true) (o : Orc) (hb : bodied P o.g = true) (hr : ranTo P.globals.size o.v (ctx.call o.g o.args (glH gl P.globals.size)) = true) :
    OrcOk P gl o := by
  obtain ⟨u, h1, he, hl, hlg, hle⟩ := ranTo_get hr
  intro w args' kind hw har
  obtain ⟨hms, hg⟩ := wok_ms hw hn hok
  have hfree : Free (sig0 P.globals.size w) (glH gl P.globals.size) h1 := by
    intro x h2 h3
    have h2' : P.globals.size ≤ x := h2
    unfold sig0
    rw [if_neg (by omega)]
  obtain ⟨σ', v', w', a', fn, q1, q2, q3, q4, q5, q6⟩ := hc.call o.g o.args _ h1 u _ w args' kind he hb (har _) hms hg hl hfree
  obtain ⟨nw, s1, s2, s3⟩ := q3
  have hnw : h1.lg = nw := by rw [s1.lg]; simp [glH]
  refine ⟨v', w', a', fn, q1, fun σ => leN_rel 8 u o.v v' _ σ hle q2, ⟨s2.grow, fun c hc2 => s2.frame c hc2 ?_, s2.io⟩, q4, q5, q6⟩
  intro x hx e hxe
  have h5 := (sig0_some hxe).1
  have h6 := hlg x (by rw [hnw]; exact hx)
  omega
noncomputable def orcFind : List Orc → FuncId → List AV → Option AV
  | [], _, _ => none
  | o :: os, g, args => Bool.rec (motive := fun _ => Option AV) (orcFind os g args) (Bool.rec (motive := fun _ => Option AV) (orcFind os g args) (some o.v) (lesN 8 args o.args)) (Nat.beq o.g g)
theorem orcFind_get : ∀ {tab : List Orc} {g : FuncId} {args : List AV} {v : AV}, orcFind tab g args = some v → ∃ o ∈ tab, o.g = g ∧ lesN 8 args o.args = true ∧ o.v = v := by
  intro tab
  induction tab with
  | nil => intro g args v h; cases h
  | cons o os ih =>
    intro g args v h
    unfold orcFind at h
    cases h1 : Nat.beq o.g g with
    | false =>
      rw [h1] at h
      obtain ⟨o', q1, q2⟩ := ih h
      exact ⟨o', by simp [q1], q2⟩
    | true =>
      rw [h1] at h
      cases h2 : lesN 8 args o.args with
      | false =>
        rw [h2] at h
        obtain ⟨o', q1, q2⟩ := ih h
        exact ⟨o', by simp [q1], q2⟩
      | true =>
        rw [h2] at h
        cases h
        exact ⟨o, by simp, beq_eqN h1, h2, rfl⟩
/-- only the functions of a mask are looked up -/
structure Tab where
  mask : Nat
  l : List Orc
noncomputable def orcTry (tab : Tab) (g : FuncId) (args : List AV) : Option AV := Bool.rec (motive := fun _ => Option AV) (orcFind tab.l g args) none (Nat.beq (Nat.land tab.mask (Nat.pow 2 g)) 0)
theorem orcTry_get {tab : Tab} {g : FuncId} {args : List AV} {v : AV} (h : orcTry tab g args = some v) : ∃ o ∈ tab.l, o.g = g ∧ lesN 8 args o.args = true ∧ o.v = v := by
  unfold orcTry at h
  cases hb : Nat.beq (Nat.land tab.mask (Nat.pow 2 g)) 0 with
  | true => rw [hb] at h; cases h
  | false => rw [hb] at h; exact orcFind_get h
noncomputable def orcV (gl : List GE) (v : AV) (h : H) : OR := Bool.rec (motive := fun _ => OR) (.bad 300) (.ok v h) (globOk gl h)
noncomputable def ctxO (gl : List GE) (tab : Tab) (ctx : CallT) : CallT :=
  ⟨fun g args h => Option.rec (motive := fun _ => OR) (ctx.call g args h) (fun v => orcV gl v h) (orcTry tab g args), ctx.round⟩
noncomputable def ctxDO (P : Program) (gl : List GE) (tab : Tab) (d : Nat) : CallT := Nat.rec (motive := fun _ => CallT) noCall (fun _ ih => ctxO gl tab ⟨callF P ih, roundF P ih⟩) d
theorem orcV_ok {v' : AV} (he : orcV gl v h = .ok v' h') : globOk gl h = true ∧ v = v' ∧ h = h' := by
  unfold orcV at he
  rcases ite_ok he with ⟨h1, h2⟩ | ⟨_, h2⟩
  · obtain ⟨h3, h4⟩ := ok_inj h2
    exact ⟨h1, h3, h4⟩
  · cases h2
theorem ctxO_mono {tab : Tab} (hc : CtxMono ctx) : CtxMono (ctxO gl tab ctx) := by
  refine ⟨fun g args h v h' he => ?_, hc.round⟩
  have he' : (Option.rec (motive := fun _ => OR) (ctx.call g args h) (fun v => orcV gl v h) (orcTry tab g args) : OR) = .ok v h' := he
  cases ho : orcTry tab g args with
  | none => rw [ho] at he'; exact hc.call g args h v h' he'
  | some u =>
    rw [ho] at he'
    obtain ⟨_, _, rfl⟩ := orcV_ok he'
    exact Nat.le_refl _
theorem ctxO_sound {tab : Tab} (hc : CtxSound P P.globals.size ctx) (hok : glOk P.globals.size gl = true) (htab : ∀ o ∈ tab.l, OrcOk P gl o) : CtxSound P P.globals.size (ctxO gl tab ctx) := by
  refine ⟨?_, fun l args h h' v σ w args' e he => hc.round l args h h' v σ w args' e he, ctxO_mono hc.mono⟩
  intro g args h h' v σ w args' kind he hb har hm hg hl hf
  have he' : (Option.rec (motive := fun _ => OR) (ctx.call g args h) (fun v => orcV gl v h) (orcTry tab g args) : OR) = .ok v h' := he
  cases ho : orcTry tab g args with
  | none => rw [ho] at he'; exact hc.call g args h h' v σ w args' kind he' hb har hm hg hl hf
  | some u =>
    rw [ho] at he'
    obtain ⟨hgo, rfl, rfl⟩ := orcV_ok he'
    obtain ⟨o, q1, rfl, q4, rfl⟩ := orcTry_get ho
    obtain ⟨v', w', a', fn, r1, r2, r3, r4, r5, r6⟩ := htab o q1 w args' kind (ms_wok hm hg hok hgo) (fun σ' => lesN_rel (leN_rel 8) args o.args args'.toList σ σ' q4 har)
    refine ⟨σ, v', w', a', fn, r1, r2 σ, ⟨[], AStep.refl hm.ai, ⟨Sle.refl σ, fun x e h1 h2 => (by rw [h1] at h2; cases h2), ⟨hm.so.inj, fun x e hx => Nat.lt_of_lt_of_le (hm.so.rng x e hx) r3.grow, hm.so.low⟩, r3.grow, fun c hc2 _ => r3.same c hc2,
      fun x e h1 h2 => (by rw [h1] at h2; cases h2), r3.io⟩, ?_⟩, r4, r5, r6⟩
    intro x e hx
    exact BRel.congr (Sle.refl σ) (r3.same e.c (hm.so.rng x e hx)) (fun _ _ _ _ _ hh => hh) (hm.ma x e hx)
theorem ctxDO_sound {tab : Tab} (hmx : P.follows .mixedOrders = true) (hp : progOk P = true) (hok : glOk P.globals.size gl = true) (htab : ∀ o ∈ tab.l, OrcOk P gl o) (d : Nat) : CtxSound P P.globals.size (ctxDO P gl tab d) := by
  induction d with
  | zero => exact ctxD_sound hmx hp 0
  | succ d ih => exact ctxO_sound ⟨callF_sound ih hmx hp, roundF_sound ih hmx, ⟨mono_callF ih.mono, mono_roundF ih.mono⟩⟩ hok htab
theorem OrcOk.calls {o : Orc} (ho : OrcOk P gl o) (hw : WOk P gl w) {args' : Array Value} (har : ∀ σ, LRel σ o.args args'.toList) : Calls P o.g args' w fun e w' => ∃ v', e = .returned v' ∧ (∀ σ, VRel σ o.v v') ∧ Kept w w' := by
  intro cs
  obtain ⟨v', w', a', fn, r1, r2, r3, r4, r5, r6⟩ := ho w args' .normal hw har
  obtain ⟨k', hs⟩ := r6 cs (.inl rfl)
  exact ⟨.returned v', w', _, ⟨v', rfl, r2, r3⟩, hs, rfl, rfl, r4, rfl, fn, r1, r5⟩
/- FROM A ROW's CONDITION TO THE WORLD -/
def rowsOk (P : Program) : Bool := (List.range P.globals.size).all fun g => (((begin P (fun _ _ => 0) default).world.heap[g]?).bind Obj.row?).isSome
noncomputable def tieOne (P : Program) (e : GE) (x : String × DataW Unit) : Bool :=
  match P.globalNamed x.1, (P.globals[e.g]?).map (·.type), ((begin P (fun _ _ => 0) default).world.heap[e.g]?).bind Obj.row? with
  | some g, some t, some r => Nat.beq g e.g && Nat.beq r.2 e.t && (match flatN P 4 t x.2 with | some l => avsEq l e.l | none => false)
  | _, _, _ => false
noncomputable def glTie (P : Program) (laid : List (String × DataW Unit)) (gl : List GE) : Bool := gl.all fun e => laid.any (tieOne P e)
theorem wok_of_laid {laid : List (String × DataW Unit)} (hsh : w.ShapedOpen P) (hrows : rowsOk P = true) (hl : laidMet P laid w) (ht : glTie P laid gl = true) : WOk P gl w := by
  have hrow : ∀ g, g < P.globals.size → ∃ zero t cs, ((begin P (fun _ _ => 0) default).world.heap[g]?).bind Obj.row? = some (zero, t) ∧ w.heap[g]? = some (.cells cs t) := by
    intro g hg
    have := List.all_eq_true.1 hrows g (List.mem_range.2 hg)
    obtain ⟨⟨zero, t⟩, hr⟩ := Option.isSome_iff_exists.1 this
    obtain ⟨cs, h1, _⟩ := hsh.1 g zero t hg hr
    exact ⟨zero, t, cs, hr, h1⟩
  refine ⟨?_, fun e he => ?_⟩
  · rcases Nat.eq_zero_or_pos P.globals.size with h0 | h0
    · omega
    · obtain ⟨_, _, cs, _, h1⟩ := hrow (P.globals.size - 1) (by omega)
      have := lt_of_get h1
      omega
  · obtain ⟨x, hx, htie⟩ := List.any_eq_true.1 (List.all_eq_true.1 ht e he)
    unfold tieOne at htie
    split at htie
    · rename_i g t r hg hty hr
      simp only [Bool.and_eq_true] at htie
      obtain ⟨⟨h1, h2⟩, h3⟩ := htie
      have h1 := beq_eqN h1
      have h2 := beq_eqN h2
      subst h1
      split at h3
      · rename_i l hfl
        obtain ⟨rfl, _⟩ := avsEq_eq h3
        obtain ⟨g', t', cs, fuel, p, q1, q2, q3, q4⟩ := Lib.laidMet.reads hl (n := x.1) (d := x.2) hx
        have hge : g' = e.g := by rw [hg] at q1; cases q1; rfl
        subst hge
        have hte : t' = t := by rw [hty] at q2; cases q2; rfl
        subst hte
        have hgl : e.g < P.globals.size := by
          cases hq : P.globals[e.g]? with
          | none => rw [hq] at hty; cases hty
          | some y => exact (Array.getElem?_eq_some_iff.1 hq).1
        obtain ⟨zero, t2, cs2, r1, r2⟩ := hrow e.g hgl
        rw [hr] at r1
        cases r1
        have hcs : cs2 = cs := by
          unfold World.var? at q3
          rw [hg] at q3
          simp only [Option.bind_some, r2] at q3
          cases q3; rfl
        subst hcs
        subst h2
        exact ⟨cs2, 0, 0, r2, fun i _ => by omega, fun σ => flat_rel w σ 4 _ _ _ fuel _ p hfl q4⟩
      · cases h3
    · cases htie
theorem laidMetH.plain {laid : List (String × DataW Unit)} (hh : (laid.filter fun x => x.2.handleName?.isSome) = []) (hl : laidMetH P laid w) : laidMet P laid w := by
  unfold laidMetH at hl
  rw [hh] at hl
  exact hl
theorem Kept.but (hk : Kept w w') : w.keptBut w' (fun _ => False) := by
  refine ⟨hk.io.1, hk.io.2, fun i hi => ?_⟩
  rw [hk.same i hi]
  cases w.heap[i]? with
  | none => rfl
  | some o => cases o <;> first | exact ⟨rfl, rfl, rfl, fun _ _ => rfl⟩ | exact .inr ⟨rfl, rfl⟩ | rfl
end Go.Ev
