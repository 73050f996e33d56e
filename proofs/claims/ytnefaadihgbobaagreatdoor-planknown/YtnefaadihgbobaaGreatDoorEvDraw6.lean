/- A region whose order is open, in every order. -/
import Derived.Test.YtnefaadihgbobaaGreatDoorEvDraw5
set_option linter.unusedSimpArgs false
set_option linter.unusedVariables false
namespace Go.Ev
variable {P : Program} {G : Nat} {σ σ' : Sig} {h h' : H} {w w' : World} {v : AV} {nt : Nat} {f f' : L2} {a : Act} {ctx : CallT} {b : FB} {cs : List Frame} {ops : Array Oper} {F : Nat → L2} {Hs : Nat → H}

def Good1At (P : Program) (G : Nat) (o : Oper) (f : L2) : Prop := ∀ (σ : Sig) (nt : Nat) (a : Act) (h h' : H) (w : World) (v : AV) (ctx : CallT),
  opD o.op o.type P ctx f h = .ok v h' → o.op.operands.toList.all (opdOk G) = true → FRel σ nt f a → GOk G σ → ∃ v' w', Ran P (execOp a.eval o) w v' w' ∧ Eff1 σ h w v v' h' w'
theorem Good1.at {o : Oper} (hg : Good1 P G o) (f : L2) : Good1At P G o f := fun σ nt a h h' w v ctx => hg σ nt f a h h' w v ctx
theorem reads_cases (o : Oper) (f : L2) : readsOf o.op f = .all ∨ Good1At P G o f ∨ ∃ t x, o.op = .load t x := by
  obtain ⟨dst, op, ty, pos, af, gd⟩ := o
  cases op
  case move x => exact .inr (.inl ((good_move x).at f))
  case assign x => exact .inr (.inl ((good_assign x).at f))
  case pick c x y => exact .inr (.inl ((good_pick c x y).at f))
  case alloc e => exact .inr (.inl ((good_alloc e).at f))
  case box e x => exact .inr (.inl ((good_box e x).at f))
  case build t p => exact .inr (.inl ((good_build t p).at f))
  case buildSlice t n p => exact .inr (.inl ((good_buildSlice t n p).at f))
  case load t x => exact .inr (.inr ⟨t, x, rfl⟩)
  case nilCheck x => exact .inr (.inl ((good_nilCheck x).at f))
  case binOp op t x y yt => exact .inr (.inl ((good_binOp op t x y yt).at f))
  case unOp op t x => exact .inr (.inl ((good_unOp op t x).at f))
  case makeInterface t x => exact .inr (.inl ((good_makeIface t x).at f))
  case makeFunc fn x y => exact .inr (.inl ((good_makeFunc fn x y).at f))
  case slice t x lo hi mx => exact .inr (.inl ((good_slice t x lo hi mx).at f))
  case fieldAddr t x i => exact .inr (.inl ((good_fieldAddr t x i).at f))
  case field t x i => exact .inr (.inl ((good_field t x i).at f))
  case indexAddr t x i => exact .inr (.inl ((good_indexAddr t x i).at f))
  case index t x i => exact .inr (.inl ((good_index t x i).at f))
  case typeAssert x xt t ok => exact .inr (.inl ((good_typeAssert x xt t ok).at f))
  case extract x i => exact .inr (.inl ((good_extract x i).at f))
  case call c =>
    obtain ⟨callee, args, argTypes⟩ := c
    cases callee with
    | value g => exact .inl rfl
    | invoke r name => exact .inl rfl
    | builtin bi =>
      cases bi
      case len =>
        obtain ⟨l⟩ := args
        match l with
        | [] => exact .inl rfl
        | x :: y :: l => exact .inl rfl
        | [x] =>
          by_cases hm : ∃ r, ev x f = .map r
          · obtain ⟨r, hr⟩ := hm
            left
            show (match ev x f with | .map _ => RS.all | _ => RS.none) = RS.all
            rw [hr]
          · refine .inr (.inl ?_)
            intro σ nt a h h' w v ctx he hop hfr hg
            have hx : VRel σ (ev x f) (a.eval x) := ev_rel hfr hg x (by
              rw [List.all_eq_true] at hop
              exact hop x (by simp [Op.operands, Call.operands]))
            have he1 : aBuiltin .len argTypes.toList [ev x f] P h = .ok v h' := he
            unfold aBuiltin at he1
            dsimp only at he1
            cases hts : argTypes.toList with
            | nil => rw [hts] at he1; cases he1
            | cons t ts =>
              rw [hts] at he1
              have he2 : lnK (lkInfo P t) (ev x f) h = .ok v h' := he1
              obtain ⟨v', h1, h2, rfl⟩ := len_quiet (ty := ty) hx (fun r hr => hm ⟨r, hr⟩) he2 w argTypes (by rw [← Array.getElem?_toList, hts]; rfl)
              refine ⟨v', w, .inl ?_, .quiet _ _ h2⟩
              simp [execOp, resolve, invoke, builtin, h1]
      all_goals exact .inl rfl
  all_goals exact .inl rfl
theorem readsOf_congr {f g : L2} (o : Op) (hev : ∀ x ∈ o.operands.toList, ev x f = ev x g) : readsOf o f = readsOf o g := by
  cases o
  case load t x =>
    have := hev x (by simp [Op.operands])
    show loadRS _ = loadRS _
    rw [this]
  case call c =>
    obtain ⟨callee, args, argTypes⟩ := c
    cases callee with
    | value g => rfl
    | invoke r name => rfl
    | builtin bi =>
      cases bi
      case len =>
        obtain ⟨l⟩ := args
        match l, hev with
        | [], _ => rfl
        | x :: y :: l, _ => rfl
        | [x], hev =>
          have := hev x (by simp [Op.operands, Call.operands])
          show (match ev x f with | .map _ => RS.all | _ => RS.none) = (match ev x g with | .map _ => RS.all | _ => RS.none)
          rw [this]
      all_goals rfl
  all_goals rfl
section step
variable {σ0 : Sig} {w0 : World} {NW : List Nat} {D : Nat → Bool} {g : L2} {i : Nat} {o : Oper}
theorem gv_congr (hh : ∀ t w, guardOf ops o = .on t w → f.get t = g.get t) : gv ops o f = gv ops o g := by
  unfold gv
  cases hg : guardOf ops o with
  | always => rfl
  | bad => rfl
  | on t w => dsimp only; rw [hh t w hg]
theorem guard_lt (hall : ∀ x ∈ ops.toList, operOk G nt x = true) {t : Nat} {w : Bool} (hg : guardOf ops o = .on t w) : t < nt := by
  unfold guardOf at hg
  split at hg
  · cases hg
  · rename_i j want hgd
    split at hg
    · rename_i t' hj
      cases hg
      cases hoj : ops[j]? with
      | none => rw [hoj] at hj; cases hj
      | some x =>
        rw [hoj] at hj
        have hx : x ∈ ops.toList := by simpa using Array.mem_of_getElem? hoj
        exact (operOk_dst (hall x hx)).2 t hj
    · cases hg
theorem Iv.step (hc : CtxSound P G ctx) (dr : Dr P G ctx ops nt F Hs) (iv : Iv G ops nt F Hs σ0 w0 NW D σ g a w) (ho : ops[i]? = some o) (hd : D i = false) (he : ∀ e ∈ o.after.toList, Region.binds .any e = true → D e.on = true)
    (hNW : ∀ x y, x < ops.size → y ∈ (Hs (x + 1)).lg → y < (Hs x).nx → y ∈ NW) (hb : RBk b σ g) : ∃ σ' g' a' w', Iv G ops nt F Hs σ0 w0 NW (D1 D i) σ' g' a' w' ∧ RBk b σ' g' ∧
      ∀ rest k cs, Calm b cs → Steps P (lone (b.at a (.inRegion ops (i :: rest) :: k)) cs w) (lone (b.at a' (.inRegion ops rest :: k)) cs w') := by
  have hi : i < ops.size := (Array.getElem?_eq_some_iff.1 ho).1
  have hmem : o ∈ ops.toList := by simpa using Array.mem_of_getElem? ho
  obtain ⟨hop, hdst⟩ := operOk_dst (dr.all o hmem)
  have hnt := dr.nt
  have hev : ∀ x ∈ o.op.operands.toList, ev x (F i) = ev x g := by
    intro x hx
    cases x with
    | tmp t =>
      have ht : t < 250 := by
        have := List.all_eq_true.1 hop _ hx
        exact blt_lt this
      exact (iv.reads dr ho hd he ht (.inl hx)).symm
    | _ => rfl
  have hgv : gv ops o (F i) = gv ops o g := gv_congr fun t w hg => (iv.reads dr ho hd he (Nat.lt_trans (guard_lt dr.all hg) hnt) (.inr ⟨w, hg⟩)).symm
  have hds : (F i).get dslot = g.get dslot := by
    rw [iv.ds]
    refine dr.fquiet (by omega) (by omega) (by decide) (fun x hx hw => ?_)
    obtain ⟨p, hp, hpd⟩ := hw
    have h1 : (255 : Nat) < nt := (dr.frame hp).1 255 hpd
    omega
  have hwant := gv_wanted (o := o) dr.all iv.fr hnt
  rw [← hgv] at hwant
  have hgs : ∀ v, (putD o.dst v g).get dslot = g.get dslot := fun v => by rw [iv.ds1 dr ho v, iv.ds]
  have hndf := dr.nodf o hmem
  have hnd : ∀ c, o.op ≠ .defer c := by
    intro c hcc
    rw [hcc] at hndf
    cases hndf
  rcases oper1_cases (dr.run i o ho) (fun n hn => by cases hn) with ⟨hg, hq⟩ | ⟨hg, _, v, h', hv, hq⟩ | ⟨_, c, hq, _⟩
  · injection hq with hF hH
    refine ⟨σ, _, _, w, iv.still dr ho hd he hF hH (undef_rel σ), hb.mono (Sle.refl σ) (hgs _), ?_⟩
    intro rest k cs hcm
    have := s_pass (P := P) (b := b) (a := a) (k := k) (cs := cs) (w := w) (ops := ops) (i := i) (rest := rest) (by rw [ho]; simpa using hwant.2 hg)
    rw [ho] at this
    exact .one this
  · injection hq with hF hH
    subst hH
    have hw := hwant.1 hg
    have hvg : opD o.op o.type P ctx g (noLog (Hs i)) = .ok v (Hs (i + 1)) := by
      rw [← hv]
      exact (opD_congr o.op o.type hds hev).symm
    have hlim : (Hs (i + 1)).nx ≤ lim := dr.nxl hi
    rcases reads_cases (P := P) (G := G) o g with hr | hr | ⟨t, x, hr⟩
    · -- it may look at all
      have hrF : readsOf o.op (F i) = .all := by
        rw [← hr]
        exact readsOf_congr o.op hev
      have hord : ∀ x, x < ops.size → x ≠ i → (∃ z, z ∈ (Hs (x + 1)).lg ∧ z < (Hs x).nx) → Bef ops x i ∨ Bef ops i x := by
        intro x hx hxi hz
        rcases dr.calm x i o hx ho hxi hz with h1 | h1 | ⟨h1, _⟩
        · exact .inl h1
        · exact .inr h1
        · rw [hrF] at h1; cases h1
      obtain ⟨hma, hnext⟩ := iv.whole dr ho hd he hNW hord
      have hst : St G σ nt g a (noLog (Hs i)) w := ⟨iv.fr, iv.gl, (dr.inv i (by omega)).noLog, iv.so, hma⟩
      obtain ⟨σ', v', w', h1, h2, h3⟩ := op_sound hc o σ nt g a (noLog (Hs i)) (Hs (i + 1)) w v b hvg hop hst hb hlim (iv.free dr hi hd)
      exact ⟨σ', _, _, w', hnext v v' σ' w' hF h1 h2, hb.mono h2.le (hgs _), fun rest k cs hcm => h3 ops i rest k cs ho hw hcm⟩
    · obtain ⟨v', w', h1, h2⟩ := hr σ nt a (noLog (Hs i)) (Hs (i + 1)) w v ctx hvg hop iv.fr iv.gl
      have hrun := OpRun.ran (b := b) hnd h1
      generalize hH' : Hs (i + 1) = h' at h2
      cases h2 with
      | quiet v v' hvr => exact ⟨σ, _, _, w, iv.still dr ho hd he hF hH' hvr, hb.mono (Sle.refl σ) (hgs _), fun rest k cs hcm => hrun ops i rest k cs ho hw hcm⟩
      | ptr l l' t hl =>
        have hf : σ (Hs i).nx = none := iv.free dr hi hd _ (Nat.le_refl _) (by rw [hH']; exact Nat.lt_succ_self _)
        exact ⟨_, _, _, _, iv.make dr ho hd he hF hH' hl (.ptr _ 0 ⟨w.heap.size, l.length, none⟩ (by show upd σ (Hs i).nx _ (Hs i).nx = _; simp [upd])), hb.mono (upd_le hf) (hgs _), fun rest k cs hcm => hrun ops i rest k cs ho hw hcm⟩
      | sl l l' t len cap sz hle hl =>
        have hf : σ (Hs i).nx = none := iv.free dr hi hd _ (Nat.le_refl _) (by rw [hH']; exact Nat.lt_succ_self _)
        exact ⟨_, _, _, _, iv.make dr ho hd he hF hH' hl (.sl _ 0 len cap sz true ⟨w.heap.size, l.length, none⟩ cap (by show upd σ (Hs i).nx _ (Hs i).nx = _; simp [upd]) hle (Nat.le_refl _) (fun _ => rfl) (fun hh => by cases hh)), hb.mono (upd_le hf) (hgs _), fun rest k cs hcm => hrun ops i rest k cs ho hw hcm⟩
    · -- a load
      obtain ⟨dst, op, ty, pos, af, gd⟩ := o
      dsimp only at hr
      subst hr
      have hxx : ev x (F i) = ev x g := hev x (by simp [Op.operands])
      obtain ⟨v', h1, h2, h3⟩ := good_load (P := P) (w := w) (dst := dst) (pos := pos) (af := af) (gd := gd) t x hvg (by simpa [Op.operands] using hop) iv.fr iv.gl (by
        intro y off e hy hye
        by_cases hnone : (Hs i).m.get y = .none
        · show BRel G σ (Hs i).m.get e w ((Hs i).m.get y)
          rw [hnone]; trivial
        have hyn : y < (Hs i).nx := live_lt (dr.inv i (by omega)) (iv.so.low y e hye) hnone
        refine (iv.here dr ho hd he hye hyn ?_).2.2
        intro z u hz hzi hu q1 q2
        rcases dr.calm z i _ hz ho hzi ⟨u, q1, q2⟩ with h1 | h1 | ⟨h1, _⟩
        · exact .inl h1
        · exact .inr h1
        · exfalso
          have hrs : readsOf (.load t x) (F i) = .blk y := by
            show loadRS (ev x (F i)) = _
            rw [hxx, hy]; rfl
          dsimp only at h1
          rw [hrs] at h1
          obtain ⟨c1, c2⟩ := clear_blk h1
          have hin := (wrote_spec (Hs z).nx u (Hs (z + 1)).lg).2 ⟨q1, q2⟩
          rcases hu with rfl | hu
          · exact c1 hin
          · exact c2 u hu hin)
      exact ⟨σ, _, _, w, iv.still dr ho hd he hF h3 h2, hb.mono (Sle.refl σ) (hgs _), fun rest k cs hcm => OpRun.ran (b := b) hnd h1 ops i rest k cs ho hw hcm⟩
  · rw [hndf] at hq; cases hq
/-- all operations, in the order that the tape names -/
theorem Iv.go (hc : CtxSound P G ctx) (dr : Dr P G ctx ops nt F Hs) (hNW : ∀ x y, x < ops.size → y ∈ (Hs (x + 1)).lg → y < (Hs x).nx → y ∈ NW) : ∀ (l : List Nat) (D : Nat → Bool), Sched ops D l → ∀ (σ : Sig) (g : L2) (a : Act) (w : World),
    Iv G ops nt F Hs σ0 w0 NW D σ g a w → RBk b σ g → ∃ D' σ' g' a' w', (∀ i, i < ops.size → D' i = true) ∧ Iv G ops nt F Hs σ0 w0 NW D' σ' g' a' w' ∧ RBk b σ' g' ∧
      ∀ k cs, Calm b cs → Steps P (lone (b.at a (.inRegion ops l :: k)) cs w) (lone (b.at a' (.inRegion ops [] :: k)) cs w') := by
  intro l D hsch
  induction hsch with
  | nil D hall => exact fun σ g a w iv hb => ⟨D, σ, g, a, w, hall, iv, hb, fun k cs _ => .refl P _⟩
  | cons D i o rest ho hd he hr ih =>
    intro σ g a w iv hb
    obtain ⟨σ1, g1, a1, w1, iv1, hb1, s1⟩ := iv.step hc dr ho hd he hNW hb
    obtain ⟨D2, σ2, g2, a2, w2, q1, q2, q3, s2⟩ := ih σ1 g1 a1 w1 iv1 hb1
    exact ⟨D2, σ2, g2, a2, w2, q1, q2, q3, fun k cs hcm => (s1 rest k cs hcm).trans (s2 k cs hcm)⟩
end step
theorem AStep.cut (hi : AInv h) (hs : AStep (noLog h) h' h'.lg) (l : List Nat) : AStep (reLog l h) (reLog (wrote h.nx h'.lg ++ l) h') (wrote h.nx h'.lg) := by
  have hin : ∀ y, y ∈ wrote h.nx h'.lg ↔ y ∈ h'.lg ∧ y < h.nx := fun y => wrote_spec _ _ _
  refine ⟨rfl, hs.nx, fun y hy => hs.low y ((hin y).1 hy).1, ?_, ?_, ?_, hs.same, hs.inv.reLog _, fun y hy h1 h2 => hs.live y ((hin y).1 hy).1 h1 h2⟩
  · intro y h1 h2 h3
    exact hs.keep y h1 h2 (fun hh => h3 ((hin y).2 ⟨hh, h2⟩))
  · intro y hy k h1 h2
    have hyl : y < lim := Nat.lt_of_lt_of_le h1 hi.top
    exact (hin k).2 ⟨hs.cls y ((hin y).1 hy).1 k h1 h2, (hi.cls y k hyl h2).1⟩
  · intro y k h1 h2 h3 h4
    rcases hs.newc y k h1 h2 h3 h4 with h5 | h5
    · rcases Nat.lt_or_ge k h.nx with h6 | h6
      · exact .inl ((hin k).2 ⟨h5, h6⟩)
      · exact .inr h6
    · exact .inr h5
theorem wroteAll_eq (lg : List Nat) : ∀ es : List EF, wroteAll es lg = es.flatMap (·.w) ++ lg := by
  intro es
  induction es with
  | nil => rfl
  | cons e es ih =>
    show napp e.w (wroteAll es lg) = _
    rw [napp_eq, ih]
    simp
theorem drawn_sound (hc : CtxSound P G ctx) (hmx : P.follows .mixedOrders = true) (hreg : regOk ops = true) (hall : ∀ x ∈ ops.toList, operOk G nt x = true) (hnt : nt < 250) (he : execDrawn P ctx ops f h = .nrm f' h')
    (hs : St G σ nt f a h w) (hb : RBk b σ f) (hl : h'.nx ≤ lim) (hf : Free σ h h') (id : Nat) : ∃ σ' a' w', St G σ' nt f' a' h' w' ∧ RBk b σ' f' ∧ Out G σ h w σ' h' w' ∧
      ∀ k cs, Calm b cs → Steps P (lone (b.at a (.code (.region id ops true) :: k)) cs w) (lone (b.at a' k) cs w') := by
  have hs1 := hs.draw (w.drawn + 1)
  obtain ⟨F, Hs, es, dr, q1, q2, q3, q4, q5, q6⟩ := Dr.of_run hc hreg hall hnt he hs1 hb hl hf
  have hNW : ∀ x y, x < ops.size → y ∈ (Hs (x + 1)).lg → y < (Hs x).nx → y ∈ es.flatMap (·.w) := by
    intro x y hx h1 h2
    obtain ⟨z, h3, h4⟩ := q6 x hx
    have hz : z ∈ es := by
      have := List.mem_of_getElem? h3
      simpa using this
    rw [List.mem_flatMap]
    exact ⟨z, hz, by rw [h4]; exact (wrote_spec _ _ _).2 ⟨h1, h2⟩⟩
  have hback := regOk_backward hreg
  have hD0 : ∀ x, x < ops.size → (Array.replicate ops.size false).getD x true = false := by
    intro x hx
    simp [Array.getD, hx]
  have hnx : h'.nx = (Hs ops.size).nx := by rw [q4]; rfl
  have iv0 : Iv G ops nt F Hs σ { w with drawn := w.drawn + 1 } (es.flatMap (·.w)) (fun i => (Array.replicate ops.size false).getD i true) σ f a { w with drawn := w.drawn + 1 } := by
    refine ⟨?_, hs1.fr, ?_, by rw [q1], hs1.gl, hs1.so, ⟨Sle.refl σ, fun y e h1 h2 => (by rw [h1] at h2; cases h2), hs1.so, Nat.le_refl _, fun _ _ _ => rfl, fun y e h1 h2 => (by rw [h1] at h2; cases h2), ⟨rfl, rfl⟩⟩, ?_, ?_⟩
    · intro x o ho hx
      have hx' : (Array.replicate ops.size false).getD x true = true := hx
      rw [hD0 x (Array.getElem?_eq_some_iff.1 ho).1] at hx'
      cases hx'
    · intro t ht
      refine ⟨0, by omega, fun x hx _ => ?_, by rw [q1]⟩
      show (Array.replicate ops.size false).getD x true = true ↔ _
      rw [hD0 x hx]
      simp
    · intro y e hy
      left
      rw [q2]
      rcases Nat.lt_or_ge y h.nx with h1 | h1
      · exact .inl h1
      · rcases Nat.lt_or_ge y h'.nx with h2 | h2
        · rw [hf y h1 h2] at hy; cases hy
        · exact .inr (by omega)
    · intro y e hy
      refine ⟨0, by omega, fun x hx _ => ?_, fun k _ x hx _ => ?_, by rw [q2]; exact hs1.ma y e hy⟩
      · show (Array.replicate ops.size false).getD x true = true ↔ _
        rw [hD0 x hx]; simp
      · show (Array.replicate ops.size false).getD x true = true ↔ _
        rw [hD0 x hx]; simp
  have hsch := sched_all hback (w.tape w.drawn (.order b.fn id))
  obtain ⟨D', σ', g', a', w', p1, iv, p3, p4⟩ := Iv.go hc dr hNW _ _ hsch _ _ _ _ iv0 hb
  -- the end: every block is as the text's order has it
  have hfr : FRel σ' nt (F ops.size) a' := by
    refine ⟨iv.fr.size, ?_, ?_⟩
    · intro t ht
      obtain ⟨j, h1, h2, h3⟩ := iv.slots t ht
      have e : (F j).get t = (F ops.size).get t := dr.fquiet h1 (Nat.le_refl _) (by omega) (fun x hx hw => by rw [← h2 x hx hw, p1 x hx]; simp [hx])
      rw [← e, ← h3]
      exact iv.fr.slot t ht
    · have e : (F ops.size).get dslot = (F 0).get dslot := by
        refine dr.fquiet (Nat.le_refl _) (by omega) (by decide) (fun x hx hw => ?_)
        obtain ⟨p, hp, hpd⟩ := hw
        have h1 : (255 : Nat) < nt := (dr.frame hp).1 255 hpd
        omega
      rw [e, ← iv.ds]
      exact iv.fr.defers
  have hma : MAll G σ' (Hs ops.size).m.get w' := by
    intro y e hy
    obtain ⟨j, h1, h2, h3, h4⟩ := iv.mem y e hy
    refine (dr.move (Nat.le_refl _) h1 (iv.so.low y e hy) ?_ ?_ h4).2
    · intro x hx ht
      rw [← h2 x hx ht, p1 x hx]; simp [hx]
    · intro k hk x hx ht
      rw [← h3 k hk x hx ht, p1 x hx]; simp [hx]
  -- the heap's steps, in the order of the text
  have hchain : ∀ k, k ≤ ops.size → AStep h (reLog (((es.reverse.take k).reverse).flatMap (·.w) ++ h.lg) (Hs k)) (((es.reverse.take k).reverse).flatMap (·.w)) := by
    intro k
    induction k with
    | zero =>
      intro _
      rw [q2]
      exact AStep.refl hs1.ai
    | succ k ih =>
      intro hk
      have h1 := ih (by omega)
      obtain ⟨z, h3, h4⟩ := q6 k hk
      have e : (es.reverse.take (k + 1)).reverse = z :: (es.reverse.take k).reverse := by
        rw [List.take_add_one, h3]
        simp
      rw [e, List.flatMap_cons, h4, List.append_assoc]
      have h5 := AStep.cut (dr.inv k (by omega)) (dr.step k hk) (((es.reverse.take k).reverse).flatMap (·.w) ++ h.lg)
      refine h1.trans h5 ?_
      exact dr.nxl hk
  have hast := hchain ops.size (Nat.le_refl _)
  have e : (es.reverse.take ops.size).reverse = es := by
    rw [List.take_of_length_le (by rw [q5]; exact Nat.le_refl _), List.reverse_reverse]
  rw [e, ← wroteAll_eq, ← q4] at hast
  have hcst : CStep σ σ' h h' w w' (es.flatMap (·.w)) := by
    have hcst := iv.cst
    refine ⟨hcst.le, ?_, hcst.ok, hcst.grow, hcst.frame, hcst.newc, hcst.io⟩
    intro y e h1 h2
    have := hcst.fresh y e h1 h2
    rw [q2] at this
    rw [hnx]
    exact this
  have hma' : MAll G σ' h'.m.get w' := by
    rw [q4]; exact hma
  have hout : Out G σ h w σ' h' w' := ⟨_, hast, hcst, hma'⟩
  refine ⟨σ', a', w', ?_, ?_, hout, ?_⟩
  · rw [q3]
    exact hs.next hout hfr
  · have e : f'.get dslot = g'.get dslot := by
      rw [q3, iv.ds]
      refine dr.fquiet (Nat.le_refl _) (by omega) (by decide) (fun x hx hw => ?_)
      obtain ⟨p, hp, hpd⟩ := hw
      have h1 : (255 : Nat) < nt := (dr.frame hp).1 255 hpd
      omega
    exact p3.mono (Sle.refl σ') e
  · intro k cs hcm
    refine .head s_draw ?_
    rw [hmx]
    exact (p4 k cs hcm).trans (.one s_regionEnd)
end Go.Ev
