/- Regions whose order is fixed. -/
import Derived.Test.YtnefaadihgbobaaGreatDoorEvOpS
set_option linter.unusedSimpArgs false
set_option linter.unusedVariables false
namespace Go.Ev
variable {P : Program} {G : Nat} {σ σ' : Sig} {h h' : H} {w w' : World} {v : AV} {nt : Nat} {f f' : L2} {a : Act} {ctx : CallT} {b : FB} {cs : List Frame}

theorem Free.left {h1 : H} (hf : Free σ h h') (h1n : h1.nx ≤ h'.nx) : Free σ h h1 := fun x h2 h3 => hf x h2 (by omega)
theorem Free.right {h1 : H} (hf : Free σ h h') (ho : Out G σ h w σ' h1 w') : Free σ' h1 h' := by
  obtain ⟨nw, a1, a2, _⟩ := ho
  intro x h2 h3
  have := a1.nx
  cases hx : σ' x with
  | none => rfl
  | some e => have := a2.fresh x e (hf x (by omega) h3) hx; omega
theorem Out.le (ho : Out G σ h w σ' h' w') : Sle σ σ' := by obtain ⟨_, _, a2, _⟩ := ho; exact a2.le
theorem Out.ms (ho : Out G σ h w σ' h' w') : Ms G σ' h' w' := by obtain ⟨_, a1, a2, a3⟩ := ho; exact ⟨a1.inv, a2.ok, a3⟩
theorem GOk.mono (hg : GOk G σ) (hs : Sle σ σ') : GOk G σ' := fun g h1 => by obtain ⟨e, h2, h3⟩ := hg g h1; exact ⟨e, hs _ _ h2, h3⟩
theorem St.next {a' : Act} (hs : St G σ nt f a h w) (ho : Out G σ h w σ' h' w') (hfr : FRel σ' nt f' a') : St G σ' nt f' a' h' w' :=
  ⟨hfr, hs.gl.mono ho.le, ho.ms.ai, ho.ms.so, ho.ms.ma⟩
theorem RBk.mono (hb : RBk b σ f) (hs : Sle σ σ') (hd : f'.get dslot = f.get dslot) : RBk b σ' f' := by
  rcases hb with ⟨h1, ds, h2⟩ | ⟨h0, c, l, e, h1, h2, h3, h4⟩
  · exact .inl ⟨h1, ds, by rw [hd, h2]⟩
  · exact .inr ⟨h0, c, l, e, h1, by rw [hd, h2], hs _ _ h3, h4⟩
theorem putD_get {d : Option Tmp} (hd : ∀ t : Nat, d = some t → t < 250) (u : Nat) (hu : u < 256) : (putD d v f).get u = if d = some u then v else f.get u := by
  cases d with
  | none => simp [putD]
  | some t =>
    show (f.set t v).get u = _
    rw [L2.get_set t u v f (Nat.lt_trans (hd t rfl) (by decide)) hu]
    by_cases h1 : u = t
    · subst h1; simp
    · rw [if_neg h1, if_neg (fun hh => h1 (by cases hh; rfl))]
theorem put_size (a : Act) (d : Option Tmp) (v : Value) : (a.put d v).tmps.size = a.tmps.size := by
  cases d <;> simp [Act.put]
theorem put_getD {d : Option Tmp} (hd : ∀ t : Nat, d = some t → t < a.tmps.size) (v' : Value) (u : Nat) : (a.put d v').tmps.getD u undef = if d = some u then v' else a.tmps.getD u undef := by
  cases d with
  | none => simp [Act.put]
  | some t =>
    have ht := hd t rfl
    show (a.tmps.setIfInBounds t v').getD u undef = _
    by_cases h1 : t = u
    · subst h1
      simp [Array.getD, ht]
    · rw [if_neg (fun hh => h1 (by cases hh; rfl))]
      simp only [Array.getD_eq_getD_getElem?]
      rw [Array.getElem?_setIfInBounds_ne h1]
theorem FRel.put {d : Option Tmp} {v' : Value} (hfr : FRel σ nt f a) (hd : ∀ t : Nat, d = some t → t < nt) (hnt : nt < 250) (hv : VRel σ v v') : FRel σ nt (putD d v f) (a.put d v') := by
  refine ⟨by rw [put_size]; exact hfr.size, ?_, ?_⟩
  · intro t ht
    rw [putD_get (fun u hu => Nat.lt_trans (hd u hu) hnt) t (Nat.lt_trans ht (by decide)), put_getD (fun u hu => by have := hd u hu; rw [hfr.size]; exact this)]
    split
    · exact hv
    · exact hfr.slot t ht
  · rw [putD_get (fun u hu => Nat.lt_trans (hd u hu) hnt) dslot (by decide), if_neg (fun hh => by have h1 : (255 : Nat) < nt := hd 255 hh; omega)]
    have : (a.put d v').defers = a.defers := by cases d <;> rfl
    rw [this]
    exact hfr.defers
/-- what an operation's guard says -/
noncomputable def gv (ops : Array Oper) (o : Oper) (f : L2) : WT := match guardOf ops o with | .always => .yes | .on t want => wantV (f.get t) want | .bad => .bad
theorem oper1_eq (ops : Array Oper) (o : Oper) : oper1 ops o P ctx f h = wantR (gv ops o f) o P ctx f h := by
  unfold oper1 gv
  cases guardOf ops o <;> rfl
theorem oper1_cases {ops : Array Oper} {o : Oper} {r : RC} (he : oper1 ops o P ctx f h = r) (hr : ∀ n, r ≠ .bad n) :
    (gv ops o f = .no ∧ r = .nrm (putD o.dst (.tup []) f) h) ∨
    (gv ops o f = .yes ∧ isDefer o.op = none ∧ ∃ v h', opD o.op o.type P ctx f h = .ok v h' ∧ r = .nrm (putD o.dst v f) h') ∨
    (gv ops o f = .yes ∧ ∃ c, isDefer o.op = some c ∧ oDefer c o.dst o.type P ctx f h = r) := by
  rw [oper1_eq] at he
  cases hg : gv ops o f with
  | no => rw [hg] at he; exact .inl ⟨rfl, he.symm⟩
  | bad => rw [hg] at he; exact absurd he.symm (hr _)
  | yes =>
    rw [hg] at he
    have he1 : op1 o o.dst o.type P ctx f h = r := he
    unfold op1 at he1
    cases hd : isDefer o.op with
    | none =>
      rw [hd] at he1
      have he2 : putR o.dst f (opD o.op o.type P ctx f h) = r := he1
      refine .inr (.inl ⟨rfl, rfl, ?_⟩)
      cases ho : opD o.op o.type P ctx f h with
      | bad n => rw [ho] at he2; exact absurd he2.symm (hr _)
      | ok v h' => rw [ho] at he2; exact ⟨v, h', rfl, he2.symm⟩
    | some c =>
      rw [hd] at he1
      exact .inr (.inr ⟨rfl, c, rfl, he1⟩)
theorem isDefer_some {o : Op} {c : Call} (hd : isDefer o = some c) : o = .defer c := by
  cases o <;> first | (cases hd; done) | skip
  cases hd; rfl
theorem gv_wanted {ops : Array Oper} {o : Oper} (hall : ∀ x ∈ ops.toList, operOk G nt x = true) (hfr : FRel σ nt f a) (hnt : nt < 250) :
    (gv ops o f = .yes → Region.wanted o (yielded ops a.tmps) = true) ∧ (gv ops o f = .no → Region.wanted o (yielded ops a.tmps) = false) := by
  unfold gv guardOf Region.wanted
  cases hg : o.guard with
  | none => exact ⟨fun _ => rfl, fun hh => by cases hh⟩
  | some jw =>
    obtain ⟨j, want⟩ := jw
    dsimp only
    cases hj : (ops[j]?).bind (·.dst) with
    | none => exact ⟨fun hh => (by change WT.bad = WT.yes at hh; cases hh), fun hh => (by change WT.bad = WT.no at hh; cases hh)⟩
    | some t =>
      dsimp only
      have ht : t < nt := by
        cases hoj : ops[j]? with
        | none => rw [hoj] at hj; cases hj
        | some x =>
          rw [hoj] at hj
          have hx : x ∈ ops.toList := by
            have := Array.mem_of_getElem? hoj
            exact Array.mem_toList_iff.2 this
          have := hall x hx
          unfold operOk at this
          rw [show x.dst = some t from hj] at this
          cases hq : x.op.operands.toList.all (opdOk G) with
          | false => rw [hq] at this; cases this
          | true => rw [hq] at this; exact blt_lt this
      have hsl := hfr.slot t (Nat.lt_trans ht hnt)
      have hget : a.tmps[t]? = some (a.tmps.getD t undef) := by
        have : t < a.tmps.size := by rw [hfr.size]; exact ht
        simp [Array.getD, this]
      unfold yielded
      rw [hj]
      simp only [Option.bind_some, hget]
      generalize f.get t = x at hsl
      generalize a.tmps.getD t undef = y at hsl
      cases hsl
      case bool bb =>
        show ((Bool.rec (motive := fun _ => WT) WT.no WT.yes (beqB bb want)) = WT.yes → _) ∧ ((Bool.rec (motive := fun _ => WT) WT.no WT.yes (beqB bb want)) = WT.no → _)
        rw [beqB_eq]
        cases bb <;> cases want <;> (refine ⟨fun hh => ?_, fun hh => ?_⟩ <;> first | rfl | (cases hh; done))
      all_goals
        refine ⟨fun hh => ?_, fun hh => ?_⟩
        · first | (change WT.no = WT.yes at hh; cases hh; done) | (change WT.bad = WT.yes at hh; cases hh; done)
        · first | rfl | (change WT.bad = WT.no at hh; cases hh; done)
theorem operOk_dst {o : Oper} (ho : operOk G nt o = true) : o.op.operands.toList.all (opdOk G) = true ∧ ∀ t : Nat, o.dst = some t → t < nt := by
  unfold operOk at ho
  cases hq : o.op.operands.toList.all (opdOk G) with
  | false => rw [hq] at ho; cases ho
  | true =>
    rw [hq] at ho
    refine ⟨rfl, fun t ht => ?_⟩
    rw [ht] at ho
    exact blt_lt ho
/-- one operation, guarded -/
theorem oper_sound (hc : CtxSound P G ctx) {ops : Array Oper} {o : Oper} {r : RC} (hall : ∀ x ∈ ops.toList, operOk G nt x = true) (hnt : nt < 250) (ho : operOk G nt o = true) (he : oper1 ops o P ctx f h = r) (hr : ∀ n, r ≠ .bad n)
    (hs : St G σ nt f a h w) (hb : RBk b σ f) : ∃ f' h', r = .nrm f' h' ∧ (h'.nx ≤ lim → Free σ h h' → ∃ σ' a' w', St G σ' nt f' a' h' w' ∧ RBk b σ' f' ∧ Out G σ h w σ' h' w' ∧
      ∀ i rest k cs, ops[i]? = some o → Calm b cs → Steps P (lone (b.at a (.inRegion ops (i :: rest) :: k)) cs w) (lone (b.at a' (.inRegion ops rest :: k)) cs w')) := by
  obtain ⟨hop, hdst⟩ := operOk_dst ho
  have hwant := gv_wanted (o := o) hall hs.fr hnt
  have hds : ∀ v, (putD o.dst v f).get dslot = f.get dslot := by
    intro v
    rw [putD_get (fun u hu => Nat.lt_trans (hdst u hu) hnt) dslot (by decide), if_neg (fun hh => by have h1 : (255 : Nat) < nt := hdst 255 hh; omega)]
  rcases oper1_cases he hr with ⟨hg, rfl⟩ | ⟨hg, hnd, v, h', hv, rfl⟩ | ⟨hg, c, hd, hdf⟩
  · refine ⟨_, _, rfl, fun hl hf => ⟨σ, a.put o.dst undef, w, hs.next (Out.refl hs.ai hs.so hs.ma) (hs.fr.put hdst hnt (undef_rel σ)), hb.mono (Sle.refl σ) (hds _), Out.refl hs.ai hs.so hs.ma, ?_⟩⟩
    intro i rest k cs hoi hcm
    have hw := hwant.2 hg
    have := s_pass (P := P) (b := b) (a := a) (k := k) (cs := cs) (w := w) (ops := ops) (i := i) (rest := rest) (by rw [hoi]; simpa using hw)
    rw [hoi] at this
    exact .one this
  · refine ⟨_, _, rfl, fun hl hf => ?_⟩
    obtain ⟨σ', v', w', h1, h2, h3⟩ := op_sound hc o σ nt f a h h' w v b hv hop hs hb hl hf
    refine ⟨σ', a.put o.dst v', w', hs.next h2 ((hs.fr.mono h2.le).put hdst hnt h1), hb.mono h2.le (hds _), h2, ?_⟩
    intro i rest k cs hoi hcm
    exact h3 ops i rest k cs hoi (hwant.1 hg) hcm
  · have hod := isDefer_some hd
    unfold oDefer at hdf
    split at hdf
    · rename_i g hcal
      unfold dfPush at hdf
      split at hdf
      · rename_i k as cap ds hvf hvt
        have hvf := vF_yes hvf
        have hvt := vT_yes hvt
        refine ⟨_, _, hdf.symm, fun hl hf => ?_⟩
        have hgx : VRel σ (ev g f) (a.eval g) := ev_rel hs.fr hs.gl g (by
          rw [List.all_eq_true] at hop
          exact hop g (by simp [hod, Op.operands, Call.operands, hcal]))
        rw [hvf] at hgx
        have har : LRel σ (evs c.args.toList f) (c.args.map a.eval).toList := by
          have := evs_rel hs.fr hs.gl c.args.toList (by
            rw [List.all_eq_true] at hop ⊢
            intro x hx
            exact hop x (by rw [hod]; simp only [Op.operands, Call.operands, Array.toList_append, List.mem_append]; exact .inr hx))
          simpa using this
        generalize hge : a.eval g = gx at hgx
        cases hgx
        rename_i as' cs' hy ha ha' hc1 hc2
        have hro : b.ro = none := by
          rcases hb with ⟨h1, _⟩ | ⟨_, c, l2, e, h1, h2, _⟩
          · exact h1
          · rw [h2] at hvt; cases hvt
        have hdr := hs.fr.defers
        rw [hvt] at hdr
        have hfr : FRel σ nt (f.set dslot (.tup (.fn (.func k) (lapp as (evs c.args.toList f)) cap :: ds))) ⟨a.tmps, { target := .fn (.func k) cs', args := as' ++ c.args.map a.eval } :: a.defers⟩ := by
          refine ⟨hs.fr.size, ?_, ?_⟩
          · intro t ht
            rw [L2.get_set dslot t _ f (by decide) (Nat.lt_trans ht (by decide)), if_neg (by intro hh; have h1 : t = 255 := hh; omega)]
            exact hs.fr.slot t ht
          · rw [L2.get_set dslot dslot _ f (by decide) (by decide), if_pos rfl]
            refine .cons _ _ _ _ (.fn k _ _ _ _ ?_ ⟨hc1, hc2⟩) hdr
            rw [lapp_eq]
            simpa using LRel.append (⟨ha, ha'⟩ : LRel σ as as'.toList) har
        refine ⟨σ, _, w, hs.next (Out.refl hs.ai hs.so hs.ma) (hfr.put hdst hnt (undef_rel σ)), ?_, Out.refl hs.ai hs.so hs.ma, ?_⟩
        · refine .inl ⟨hro, .fn (.func k) (lapp as (evs c.args.toList f)) cap :: ds, ?_⟩
          rw [putD_get (fun u hu => Nat.lt_trans (hdst u hu) hnt) dslot (by decide), if_neg (fun hh => by have h1 : (255 : Nat) < nt := hdst 255 hh; omega)]
          rw [L2.get_set dslot dslot _ f (by decide) (by decide), if_pos rfl]
        · intro i rest k2 cs hoi hcm
          refine .one (s_putDefer hoi (hwant.1 hg) hro ?_)
          have e : (execOp a.eval o).run P w = (do pure (Next.defer (← resolve a.eval c o.type)) : Sem Next).run P w := by
            simp only [execOp, hod]
          rw [e]
          simp [resolve, hcal, hge, Deferred.ofValue]
      · exact absurd hdf.symm (hr _)
    · exact absurd hdf.symm (hr _)
theorem oper1_nrm (ops : Array Oper) (o : Oper) (r : RC) (h1 : ∀ f' h', r ≠ .nrm f' h') (h2 : ∀ n, r ≠ .bad n) : oper1 ops o P ctx f h ≠ r := by
  intro he
  rcases oper1_cases he h2 with ⟨_, rfl⟩ | ⟨_, _, v, h', _, rfl⟩ | ⟨_, c, _, hdf⟩
  · exact h1 _ _ rfl
  · exact h1 _ _ rfl
  · unfold oDefer at hdf
    split at hdf
    · unfold dfPush at hdf
      split at hdf
      · exact h1 _ _ hdf.symm
      · exact h2 _ hdf.symm
    · exact h2 _ hdf.symm
theorem execOps_nrm {ops : Array Oper} : ∀ (l : List Oper) (f : L2) (h : H) (r : RC), (∀ f' h', r ≠ .nrm f' h') → (∀ n, r ≠ .bad n) → execOps P ctx ops l f h ≠ r := by
  intro l
  induction l with
  | nil => intro f h r h1 h2 he; exact h1 _ _ he.symm
  | cons o l ih =>
    intro f h r h1 h2 he
    have he' : andThen (execOps P ctx ops l) (oper1 ops o P ctx f h) = r := he
    cases ho : oper1 ops o P ctx f h with
    | bad n => rw [ho] at he'; exact h2 n he'.symm
    | nrm f1 h1' => rw [ho] at he'; exact ih f1 h1' r h1 h2 he'
    | ext id f1 h1' => exact oper1_nrm ops o _ (fun f' h' hh => by cases hh) (fun n hn => by cases hn) ho
    | ret f1 h1' => exact oper1_nrm ops o _ (fun f' h' hh => by cases hh) (fun n hn => by cases hn) ho
/-- the operations of a region, in the order of the text -/
theorem ops_sound (hc : CtxSound P G ctx) {ops : Array Oper} (hall : ∀ x ∈ ops.toList, operOk G nt x = true) (hnt : nt < 250) : ∀ (l : List Oper) (i : Nat), ops.toList.drop i = l → ∀ (σ : Sig) (f : L2) (a : Act) (h : H) (w : World) (r : RC),
    execOps P ctx ops l f h = r → (∀ n, r ≠ .bad n) → St G σ nt f a h w → RBk b σ f → ∃ f' h', r = .nrm f' h' ∧ (h'.nx ≤ lim → Free σ h h' → ∃ σ' a' w', St G σ' nt f' a' h' w' ∧ RBk b σ' f' ∧ Out G σ h w σ' h' w' ∧
      ∀ k cs, Calm b cs → Steps P (lone (b.at a (.inRegion ops (List.range' i (ops.size - i)) :: k)) cs w) (lone (b.at a' (.inRegion ops [] :: k)) cs w')) := by
  intro l
  induction l with
  | nil =>
    intro i hi σ f a h w r he hr hs hb
    refine ⟨f, h, he.symm, fun hl hf => ⟨σ, a, w, hs, hb, Out.refl hs.ai hs.so hs.ma, fun k cs hcm => ?_⟩⟩
    have : ops.size - i = 0 := by
      have := congrArg List.length hi
      simp at this
      omega
    rw [this]
    exact .refl P _
  | cons o l ih =>
    intro i hi σ f a h w r he hr hs hb
    have hlt : i < ops.size := by
      have := congrArg List.length hi
      simp at this
      omega
    have hoi : ops[i]? = some o := by
      have : (ops.toList.drop i)[0]? = some o := by rw [hi]; rfl
      rw [List.getElem?_drop] at this
      simpa using this
    have hdrop : ops.toList.drop (i + 1) = l := by
      rw [← List.drop_drop, hi]; rfl
    have hmem : o ∈ ops.toList := by
      have := Array.mem_of_getElem? hoi
      exact Array.mem_toList_iff.2 this
    have he' : andThen (execOps P ctx ops l) (oper1 ops o P ctx f h) = r := he
    have hr1 : ∀ n, oper1 ops o P ctx f h ≠ .bad n := by
      intro n hn
      rw [hn] at he'
      exact hr n he'.symm
    obtain ⟨f1, h1, e1, s1⟩ := oper_sound hc hall hnt (hall o hmem) rfl hr1 hs hb
    rw [e1] at he'
    have he2 : execOps P ctx ops l f1 h1 = r := he'
    have hm := mono_execOps (P := P) hc.mono ops l f1 h1
    -- the rest needs the state in between
    have hkey : ∀ (h' : H), (∃ f', r = .nrm f' h') → h1.nx ≤ h'.nx := by
      rintro h' ⟨f', rfl⟩
      exact hm f' h' (.inl he2)
    cases r with
    | bad n => exact absurd rfl (hr n)
    | nrm f' h' =>
      refine ⟨f', h', rfl, fun hl hf => ?_⟩
      have hle := hkey h' ⟨f', rfl⟩
      obtain ⟨σ1, a1, w1, t1, t2, t3, t4⟩ := s1 (by omega) (hf.left hle)
      obtain ⟨f2, h2, e2, s2⟩ := ih (i + 1) hdrop σ1 f1 a1 h1 w1 _ he2 hr t1 t2
      cases e2
      obtain ⟨σ2, a2, w2, u1, u2, u3, u4⟩ := s2 hl (hf.right t3)
      refine ⟨σ2, a2, w2, u1, u2, t3.trans u3 hl, fun k cs hcm => ?_⟩
      have hrange : List.range' i (ops.size - i) = i :: List.range' (i + 1) (ops.size - (i + 1)) := by
        have : ops.size - i = (ops.size - (i + 1)) + 1 := by omega
        rw [this, List.range'_succ]
      rw [hrange]
      exact (t4 i _ k cs hoi hcm).trans (u4 k cs hcm)
    | ext id f' h' => exact absurd he2 (execOps_nrm l f1 h1 _ (fun f' h' hh => by cases hh) (fun n hn => by cases hn))
    | ret f' h' => exact absurd he2 (execOps_nrm l f1 h1 _ (fun f' h' hh => by cases hh) (fun n hn => by cases hn))
end Go.Ev
