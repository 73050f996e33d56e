/- The evaluator is right. -/
import Derived.Test.YtnefaadihgbobaaGreatDoorEvRange
set_option linter.unusedSimpArgs false
set_option linter.unusedVariables false
namespace Go.Ev
variable {P : Program} {G : Nat} {σ σ' : Sig} {h h' : H} {w w' : World} {v : AV} {nt : Nat} {f f' : L2} {a a' : Act} {ctx : CallT} {b : FB} {cs : List Frame}

theorem iteB {c x : Bool} (hh : (Bool.rec (motive := fun _ => Bool) false x c : Bool) = true) : c = true ∧ x = true := by
  cases c with
  | false => cases hh
  | true => exact ⟨rfl, hh⟩
theorem code_runs (hc : CtxSound P G ctx) (hmx : P.follows .mixedOrders = true) (hnt : nt < 250) (c : Code) : codeOk G nt c = true → RunsTo P G nt b (Code.src c) (fun k => k) (exec c P ctx) := by
  induction c with
  | skip => exact fun _ => nrm_runs (fun a w k cs => s_skip)
  | region id ops dr => exact fun hok => region_runs hc hmx hok hnt
  | seq x y ihx ihy =>
    intro hok
    obtain ⟨h1, h2⟩ := iteB (show (Bool.rec (motive := fun _ => Bool) false (codeOk G nt y) (codeOk G nt x) : Bool) = true from hok)
    have hx := (ihx h1).under (.code y) (fun id hh => by cases hh)
    have := RunsTo.andThen (mid := Code.src y) hx (fun f h => mono_exec hc.mono y f h) (ihy h2)
    exact this.head (fun a w k cs => s_seq)
  | cond c x y ihx ihy =>
    intro hok
    obtain ⟨h0, h12⟩ := iteB (show (Bool.rec (motive := fun _ => Bool) false (Bool.rec (motive := fun _ => Bool) false (codeOk G nt y) (codeOk G nt x)) (opdOk G c) : Bool) = true from hok)
    obtain ⟨h1, h2⟩ := iteB h12
    exact cond_runs h0 (ihx h1) (ihy h2)
  | block id c ih => exact fun hok => block_runs (ih hok)
  | loop c ih =>
    intro hok
    have hl := loop_runs hc.mono (ih hok) 20
    intro σ f a h w f' h' r he hfin hs hb hl' hf
    have he' : andThen (fun _ _ => .bad 187) (loopK (exec c) P ctx 20 f h) = r := he
    cases hg : loopK (exec c) P ctx 20 f h with
    | bad n => rw [hg] at he'; subst he'; exact (fin_bad hfin).elim
    | nrm f1 h1 => rw [hg] at he'; subst he'; exact (fin_bad hfin).elim
    | ext i f1 h1 =>
      rw [hg] at he'
      obtain ⟨σ', a', w', q1, q2, q3, q4⟩ := hl σ f a h w f' h' r (by rw [hg]; exact he') hfin hs hb hl' hf
      refine ⟨σ', a', w', q1, q2, q3, ?_⟩
      subst he'
      exact fun k cs hcm => by obtain ⟨k', p1, p2⟩ := q4 k cs hcm; exact ⟨k', p1, .head s_loop p2⟩
    | ret f1 h1 =>
      rw [hg] at he'
      obtain ⟨σ', a', w', q1, q2, q3, q4⟩ := hl σ f a h w f' h' r (by rw [hg]; exact he') hfin hs hb hl' hf
      refine ⟨σ', a', w', q1, q2, q3, ?_⟩
      subst he'
      exact fun k cs hcm => by obtain ⟨k', p2⟩ := q4 k cs hcm; exact ⟨k', .head s_loop p2⟩
  | rangeFunc x ps as bd iha ihb =>
    intro hok
    obtain ⟨h0, h12⟩ := iteB (show (Bool.rec (motive := fun _ => Bool) false (Bool.rec (motive := fun _ => Bool) false (Bool.rec (motive := fun _ => Bool) false (codeOk G nt bd) (codeOk G nt as)) (ps.toList.all (fun d => Nat.blt d nt))) (opdOk G x) : Bool) = true from hok)
    obtain ⟨h1, h2⟩ := iteB h12
    obtain ⟨h3, h4⟩ := iteB h2
    exact range_runs hc hnt h0 (fun d hd => blt_lt (List.all_eq_true.1 h1 d hd)) h3 h4
  | exit id =>
    intro _ σ f a h w f' h' r he hfin hs hb hl hf
    have he' : RC.ext id f h = r := he
    subst he'
    obtain ⟨rfl, rfl⟩ := fin_ext hfin
    exact ⟨σ, a, w, hs, hb, Out.refl hs.ai hs.so hs.ma, fun k cs _ => ⟨k, rfl, .refl P _⟩⟩
  | scope c ih =>
    intro hok σ f a h w f' h' r he hfin hs hb hl hf
    obtain ⟨σ', a', w', q1, q2, q3, q4⟩ := (ih hok).under (.inScope c) (fun id hh => by cases hh) σ f a h w f' h' r he hfin hs hb hl hf
    refine ⟨σ', a', w', q1, q2, q3, ?_⟩
    cases r with
    | bad n => trivial
    | nrm f1 h1 => exact fun k cs hcm => .head s_scope ((q4 k cs hcm).trans (.one s_inScope))
    | ext i f1 h1 => exact fun k cs hcm => by obtain ⟨k', p1, p2⟩ := q4 k cs hcm; exact ⟨k', p1, .head s_scope p2⟩
    | ret f1 h1 => exact fun k cs hcm => by obtain ⟨k', p2⟩ := q4 k cs hcm; exact ⟨k', .head s_scope p2⟩
  | label l => exact fun _ => nrm_runs (fun a w k cs => s_label)
  | goto l =>
    intro _ σ f a h w f' h' r he hfin hs hb hl hf
    have he' : RC.bad 193 = r := he
    subst he'
    exact (fin_bad hfin).elim
  | ret =>
    intro _ σ f a h w f' h' r he hfin hs hb hl hf
    have he' : RC.ret f h = r := he
    subst he'
    obtain ⟨rfl, rfl⟩ := fin_ret hfin
    exact ⟨σ, a, w, hs, hb, Out.refl hs.ai hs.so hs.ma, fun k cs _ => ⟨k, .refl P _⟩⟩
  | refuse why =>
    intro _ σ f a h w f' h' r he hfin hs hb hl hf
    have he' : RC.bad 194 = r := he
    subst he'
    exact (fin_bad hfin).elim

/- CALLS -/
theorem putArgs_get : ∀ (l : List AV) (n : Nat) (f : L2), n + l.length ≤ 250 → ∀ t, t < 256 → (putArgs l n f).get t = if n ≤ t ∧ t < n + l.length then (l[t - n]?).getD .top else f.get t := by
  intro l
  induction l with
  | nil => intro n f _ t _; rw [if_neg (by simp)]; rfl
  | cons x l ih =>
    intro n f hn t ht
    simp at hn
    show (putArgs l (Nat.succ n) (f.set n x)).get t = _
    rw [ih (n + 1) (f.set n x) (by omega) t ht, L2.get_set n t x f (by omega) ht]
    by_cases h1 : t = n
    · subst h1
      rw [if_neg (by omega), if_pos rfl, if_pos (by simp)]
      simp
    · by_cases h2 : n + 1 ≤ t ∧ t < n + 1 + l.length
      · rw [if_pos h2, if_pos (by simp; omega)]
        have : t - n = (t - (n + 1)) + 1 := by omega
        rw [this]
        simp
      · rw [if_neg h2, if_neg h1, if_neg (by simp; omega)]
theorem enter_rel {args : List AV} {args' : Array Value} (hr : LRel σ args args'.toList) (hle : args.length ≤ nt) (hnt : nt < 250) : FRel σ nt (putArgs args 0 frame0) ⟨args' ++ Array.replicate (nt - args'.size) undef, []⟩ := by
  have hsz : args'.size = args.length := by have := hr.1; simp at this; exact this.symm
  refine ⟨by simp; omega, ?_, ?_⟩
  · intro t ht
    rw [putArgs_get args 0 frame0 (by omega) t (by omega)]
    by_cases h1 : t < args.length
    · rw [if_pos (by omega), Nat.sub_zero, List.getElem?_eq_getElem h1, Option.getD_some]
      have h2 : (args' ++ Array.replicate (nt - args'.size) undef).getD t undef = args'[t]'(by omega) := by
        rw [Array.getD_eq_getD_getElem?, Array.getElem?_append_left (by omega), Array.getElem?_eq_getElem (by omega), Option.getD_some]
      rw [h2]
      exact hr.2 t _ _ (List.getElem?_eq_getElem h1) (by simp [show t < args'.size by omega])
    · rw [if_neg (by omega)]
      have h2 : (args' ++ Array.replicate (nt - args'.size) undef).getD t undef = undef := by
        rw [Array.getD_eq_getD_getElem?, Array.getElem?_append_right (by omega)]
        rw [Array.getElem?_replicate]
        split <;> rfl
      rw [h2]
      unfold frame0
      rw [L2.get_set dslot t _ _ (by decide) (by omega), if_neg (by intro hh; have h1 : t = 255 := hh; omega), L2.get_new]
      exact undef_rel σ
  · rw [putArgs_get args 0 frame0 (by omega) dslot (by decide), if_neg (by intro hh; have h1 : (255 : Nat) < 0 + args.length := hh.2; omega)]
    unfold frame0
    rw [L2.get_set dslot dslot _ _ (by decide) (by decide), if_pos rfl]
    exact .nil
theorem finR {rs : List ResultVar} {r : RC} (he : finishR P ctx rs r = .ok v h') : ∃ f1 h1, (r = .nrm f1 h1 ∨ r = .ret f1 h1) ∧ finish P ctx rs f1 h1 = .ok v h' := by
  cases r with
  | bad n => cases he
  | nrm f1 h1 => exact ⟨f1, h1, .inl rfl, he⟩
  | ext i f1 h1 => cases he
  | ret f1 h1 => exact ⟨f1, h1, .inr rfl, he⟩
/-- deferred calls -/
theorem defers_run (hc : CtxSound P G ctx) (tmps : Array Value) : ∀ (ds : List AV) (σ : Sig) (h h' : H) (w : World) (dl : List Deferred), runDefers P ctx ds h = .ok h' → DRel σ (.tup ds) dl → Ms G σ h w → GOk G σ → h'.nx ≤ lim → Free σ h h' →
    ∃ σ' w', Out G σ h w σ' h' w' ∧ ∀ (b : FB) k cs, Steps P (lone (b.back ⟨tmps, dl⟩ k) cs w) (lone (b.back ⟨tmps, []⟩ k) cs w') := by
  intro ds
  induction ds with
  | nil =>
    intro σ h h' w dl he hd hm hg hl hf
    cases he
    cases hd
    exact ⟨σ, w, Out.refl hm.ai hm.so hm.ma, fun b k cs => .refl P _⟩
  | cons d ds ih =>
    intro σ h h' w dl he hd hm hg hl hf
    cases hd
    rename_i d' ds' hde hdr
    unfold runDefers at he
    cases hde with
    | fn g as cs as' cs' ha hca =>
      have he1 : (Bool.rec (motive := fun _ => RH) (.bad 195) (match ctx.call g (lapp as cs) h with | .ok _ h' => runDefers P ctx ds h' | .bad n => .bad n) (bodied P g) : RH) = .ok h' := he
      cases hbod : bodied P g with
      | false => rw [hbod] at he1; cases he1
      | true =>
        rw [hbod] at he1
        cases hcall : ctx.call g (lapp as cs) h with
        | bad n => rw [hcall] at he1; cases he1
        | ok v1 h1 =>
          rw [hcall] at he1
          have he2 : runDefers P ctx ds h1 = .ok h' := he1
          have hle : h1.nx ≤ h'.nx := mono_runDefers hc.mono ds h1 h' he2
          have hle0 : h.nx ≤ h1.nx := hc.mono.call _ _ _ _ _ hcall
          obtain ⟨σ1, v', w1, a1, fn, p1, p2, p3, p4, p5, p6⟩ := hc.call g (lapp as cs) h h1 v1 σ w (as' ++ cs') .deferred hcall hbod (by rw [lapp_eq]; simpa using ha.append hca) hm hg (by omega) (hf.left hle)
          obtain ⟨σ2, w2, q1, q2⟩ := ih σ1 h1 h' w1 ds' he2 (hdr.mono p3.le) p3.ms (hg.mono p3.le) hl (hf.right p3)
          refine ⟨σ2, w2, p3.trans q1 hl, fun b k cs0 => ?_⟩
          refine .head (s_defer rfl (run_callFunc hbod _ _)) ?_
          obtain ⟨k', p7⟩ := p6 (b.back ⟨tmps, ds'⟩ k :: cs0) (.inr ⟨rfl, _, _, rfl, rfl⟩)
          exact p7.trans (.head (s_backD p4 rfl rfl p1 p5) (q2 b k cs0))
    | mk r e hr =>
      have he1 : (match h.m.get r with | .dfr false => runDefers P ctx ds (h.put r (.dfr true)) | _ => .bad 194) = RH.ok h' := he
      split at he1
      · rename_i hget
        have hbr := hm.ma r e hr
        rw [hget] at hbr
        obtain ⟨hk, hh⟩ := hbr
        have hh' : w.heap[e.c]? = some (.deferred (some [])) := hh
        have hput : Out G σ h w σ (h.put r (.dfr true)) (setBlk w e.c (.deferred none)) := by
          refine put_self_step hm.ai hm.so hm.ma hr hget (by intro q; cases q) (by intro n q; cases q) rfl rfl hk (by intro n q; cases q) ?_
          refine ⟨hk, ?_⟩
          rw [heap_setBlk, if_pos ⟨rfl, lt_of_get hh'⟩]
          rfl
        have hle : (h.put r (.dfr true)).nx ≤ h'.nx := mono_runDefers hc.mono ds _ h' he1
        obtain ⟨σ2, w2, q1, q2⟩ := ih σ (h.put r (.dfr true)) h' _ ds' he1 hdr hput.ms hg hl (hf.right hput)
        exact ⟨σ2, w2, hput.trans q1 hl, fun b k cs0 => .head (s_taken rfl hh') (q2 b k cs0)⟩
      · cases he1
/-- results -/
noncomputable def resOne (tmps : Array Value) (r : ResultVar) : Sem Value := match r with | .tmp t => pure (tmps.getD t undef) | .cell x t => do loadVar t (← asAddr (tmps.getD x undef))
theorem results_eq (fn : Func) (tmps : Array Value) : results fn tmps = (do let vs ← fn.results.mapM (resOne tmps); pure (if h : vs.size = 1 then vs[0] else .tuple vs)) := by
  unfold results resOne
  rfl
theorem results_list (hfr : ∀ t, t < 250 → VRel σ (f.get t) (a.tmps.getD t undef)) (hm : Ms G σ h w) : ∀ (rs : List ResultVar) (l : List AV), (∀ r ∈ rs, resOk r = true) → resultsA P f h rs = some l →
    ∃ l' : List Value, LRel σ l l' ∧ (rs.mapM (resOne a.tmps)).run P w = .ok l' w := by
  intro rs
  induction rs with
  | nil =>
    intro l _ he
    cases he
    exact ⟨[], .nil σ, by simp⟩
  | cons r rs ih =>
    intro l hok he
    cases r with
    | tmp t =>
      unfold resultsA at he
      split at he
      · rename_i l1 hl1
        cases he
        obtain ⟨l', q1, q2⟩ := ih l1 (fun r hr => hok r (by simp [hr])) hl1
        have ht : t < 250 := blt_lt (show Nat.blt t 250 = true from hok (.tmp t) (by simp))
        refine ⟨_ :: l', .cons (hfr t ht) q1, ?_⟩
        simp [List.mapM_cons, resOne, q2]
      · cases he
    | cell x t =>
      unfold resultsA at he
      split at he
      · rename_i v1 l1 hv1 hl1
        cases he
        obtain ⟨l', q1, q2⟩ := ih l1 (fun r hr => hok r (by simp [hr])) hl1
        have hx : x < 250 := blt_lt (show Nat.blt x 250 = true from hok (.cell x t) (by simp))
        have hs := hfr x hx
        unfold ldAt at hv1
        split at hv1
        · rename_i y off hp
          have hp := vP_yes hp
          rw [hp] at hs
          generalize hxx : a.tmps.getD x undef = xx at hs
          cases hs
          rename_i e hye
          split at hv1
          · rename_i c hrd
            obtain ⟨arr, tt, fz, h1, h2, h3, h4⟩ := blk_of_rd hrd (hm.ma y e hye)
            obtain ⟨v', hr, hv⟩ := ldAt_run (P := P) (e := e) hv1 h1 (by omega) h4
            refine ⟨v' :: l', .cons hv q1, ?_⟩
            have hone : (resOne a.tmps (.cell x t)).run P w = .ok v' w := by
              simp only [resOne, hxx]
              simpa [asAddr] using hr
            simp [List.mapM_cons, Sem.run_bind, hone, q2]
          · cases hv1
        · cases hv1
      · cases he
theorem single_rel {l : List AV} {l' : List Value} (hr : LRel σ l l') : VRel σ (single l) (if h : l'.toArray.size = 1 then l'.toArray[0] else .tuple l'.toArray) := by
  unfold single
  split
  · rename_i x
    obtain ⟨y, l2, rfl, hv, hl⟩ := hr.uncons
    have := hl.unnil
    subst this
    exact hv
  · rename_i hne
    have hl := hr.1
    rw [dif_neg]
    · exact .tup l l'.toArray (by simpa using hl) (fun i x y hx hy => hr.2 i x y hx (by simpa using hy))
    · intro h1
      have h1' : l'.length = 1 := by simpa using h1
      match l, hl, hne with
      | [x], _, hne => exact hne x rfl
      | [], hl, _ => rw [h1'] at hl; cases hl
      | x :: y :: l, hl, _ => rw [h1'] at hl; cases hl
theorem results_run {fn : Func} {l : List AV} (hfr : ∀ t, t < 250 → VRel σ (f.get t) (a.tmps.getD t undef)) (hm : Ms G σ h w) (hok : ∀ r ∈ fn.results.toList, resOk r = true) (he : resultsA P f h fn.results.toList = some l) :
    ∃ v', (results fn a.tmps).run P w = .ok v' w ∧ VRel σ (single l) v' := by
  obtain ⟨l', q1, q2⟩ := results_list hfr hm _ l hok he
  refine ⟨_, ?_, single_rel q1⟩
  rw [results_eq, Sem.run_bind, Array.mapM_eq_mapM_toList]
  simp [q2]
theorem progOk_fn {g : FuncId} {fn : Func} {c : Code} (hp : progOk P = true) (hf : P.funcs[g]? = some fn) (hb : fn.body = some c) : fn.ntmps < 250 ∧ (∀ r ∈ fn.results.toList, resOk r = true) ∧ codeOk P.globals.size fn.ntmps c = true := by
  have hmem : fn ∈ P.funcs.toList := by simpa using Array.mem_of_getElem? hf
  have := List.all_eq_true.1 hp fn hmem
  unfold fnOk at this
  rw [hb] at this
  obtain ⟨h1, h2⟩ := iteB this
  obtain ⟨h3, h4⟩ := iteB h2
  exact ⟨blt_lt h1, List.all_eq_true.1 h3, h4⟩
theorem tagF_ok {g : Nat} {r : OR} (he : tagF g r = .ok v h') : r = .ok v h' := by
  cases r with
  | bad n => cases he
  | ok v1 h1 => exact he
theorem callF_sound (hc : CtxSound P P.globals.size ctx) (hmx : P.follows .mixedOrders = true) (hp : progOk P = true) : CallSound P P.globals.size ⟨callF P ctx, roundF P ctx⟩ := by
  intro g args h h' v σ w args' kind he hbod har hm hg hl hf
  obtain ⟨fn, c, hfn, hbody, _⟩ := bodied_some hbod
  obtain ⟨hnt, hres, hcode⟩ := progOk_fn hp hfn hbody
  have he1 : callF P ctx g args h = .ok v h' := he
  unfold callF at he1
  have hfi : fnInfo P g = some ⟨c, fn.ntmps, fn.results.toList⟩ := by unfold fnInfo; rw [hfn]; dsimp only; rw [hbody]
  rw [hfi] at he1
  have he2 : callI P ctx g args h ⟨c, fn.ntmps, fn.results.toList⟩ = .ok v h' := he1
  unfold callI at he2
  rcases ite_ok he2 with ⟨hle, he3⟩ | ⟨_, he3⟩
  · have he4 := tagF_ok he3
    obtain ⟨f1, h1, hr, hfinish⟩ := finR he4
    have hle' : args.length ≤ fn.ntmps := by have := ble_le hle; rwa [llen_eq] at this
    have hfr0 := enter_rel (nt := fn.ntmps) har hle' hnt
    have hfin : Fin (exec c P ctx (putArgs args 0 frame0) h) f1 h1 := by
      rcases hr with hr | hr
      · exact .inl hr
      · exact .inr (.inr hr)
    have hds0 : (putArgs args 0 frame0).get dslot = .tup [] := by
      rw [putArgs_get args 0 frame0 (by omega) dslot (by decide), if_neg (by intro hh; have h1 : (255 : Nat) < 0 + args.length := hh.2; omega)]
      unfold frame0
      rw [L2.get_set dslot dslot _ _ (by decide) (by decide), if_pos rfl]
    -- the end of the call
    unfold finish at hfinish
    split at hfinish
    · rename_i ds hvt
      have hvt := vT_yes hvt
      cases hrd : runDefers P ctx ds h1 with
      | bad n => rw [hrd] at hfinish; cases hfinish
      | ok h2 =>
        rw [hrd] at hfinish
        have hf2 : finish2 P fn.results.toList f1 h2 = .ok v h' := hfinish
        unfold finish2 at hf2
        split at hf2
        · rename_i l hl0
          obtain ⟨rfl, rfl⟩ := ok_inj hf2
          have hle1 : h1.nx ≤ h2.nx := mono_runDefers hc.mono ds h1 h2 hrd
          obtain ⟨σ1, a1, w1, q1, q2, q3, q4⟩ := code_runs (b := ⟨g, kind, none⟩) hc hmx hnt c hcode σ (putArgs args 0 frame0) ⟨args' ++ Array.replicate (fn.ntmps - args'.size) undef, []⟩ h w f1 h1 _ rfl hfin
            ⟨hfr0, hg, hm.ai, hm.so, hm.ma⟩ (.inl ⟨rfl, [], hds0⟩) (by omega) (hf.left hle1)
          have hdr := q1.fr.defers
          rw [hvt] at hdr
          have henter : Frame.enter P g args' kind = FB.at ⟨g, kind, none⟩ ⟨args' ++ Array.replicate (fn.ntmps - args'.size) undef, []⟩ [.code c] := by
            simp [Frame.enter, FB.at, hfn, hbody]
          obtain ⟨σ2, w2, r1, r2⟩ := defers_run hc a1.tmps ds σ1 h1 h2 w1 a1.defers hrd hdr ⟨q1.ai, q1.so, q1.ma⟩ q1.gl hl (hf.right q3)
          obtain ⟨v', r3, r4⟩ := results_run (a := ⟨a1.tmps, []⟩) (fun t ht => (q1.fr.slot t ht).mono r1.le) r1.ms hres hl0
          refine ⟨σ2, v', w2, ⟨a1.tmps, []⟩, fn, hfn, r4, q3.trans r1 hl, rfl, r3, fun cs hcm => ?_⟩
          rw [henter]
          rcases hr with hr | hr
          · rw [hr] at q4
            exact ⟨_, (q4 [] cs hcm).trans (.head (s_end rfl) (r2 _ _ cs))⟩
          · rw [hr] at q4
            obtain ⟨k', q5⟩ := q4 [] cs hcm
            exact ⟨_, q5.trans (.head (s_ret rfl) (r2 _ _ cs))⟩
        · cases hf2
    · cases hfinish
  · cases he3
theorem setParams_rel : ∀ (ps : List Nat) (args : List AV) (vs : List Value) (f f' : L2) (tmps : Array Value), setParams ps args f = some f' → LRel σ args vs → (∀ d ∈ ps, d < tmps.size) → tmps.size < 250 → (∀ t, t < 250 → VRel σ (f.get t) (tmps.getD t undef)) →
    vs.length = ps.length ∧ ((ps.zip vs).foldl (fun tmps (p : Nat × Value) => tmps.setIfInBounds p.1 p.2) tmps).size = tmps.size ∧
      (∀ t, t < 250 → VRel σ (f'.get t) (((ps.zip vs).foldl (fun tmps (p : Nat × Value) => tmps.setIfInBounds p.1 p.2) tmps).getD t undef)) ∧ f'.get dslot = f.get dslot := by
  intro ps
  induction ps with
  | nil =>
    intro args vs f f' tmps he hr hd hsz hs
    cases args with
    | nil =>
      cases he
      have := hr.unnil
      subst this
      exact ⟨rfl, rfl, hs, rfl⟩
    | cons x l => cases he
  | cons t ps ih =>
    intro args vs f f' tmps he hr hd hsz hs
    cases args with
    | nil => cases he
    | cons x l =>
      obtain ⟨y, vs', rfl, hv, hl⟩ := hr.uncons
      have he' : setParams ps l (f.set t x) = some f' := he
      have ht : t < tmps.size := hd t (by simp)
      obtain ⟨q1, q2, q3, q4⟩ := ih l vs' (f.set t x) f' (tmps.setIfInBounds t y) he' hl (fun d hd' => by simp; exact hd d (by simp [hd'])) (by simpa using hsz) (by
        intro u hu
        rw [L2.get_set t u x f (by omega) (by omega)]
        by_cases hut : u = t
        · subst hut
          rw [if_pos rfl]
          have : (tmps.setIfInBounds u y).getD u undef = y := by simp [Array.getD, ht]
          rw [this]; exact hv
        · rw [if_neg hut]
          have : (tmps.setIfInBounds t y).getD u undef = tmps.getD u undef := by
            simp only [Array.getD_eq_getD_getElem?]
            rw [Array.getElem?_setIfInBounds_ne (Ne.symm hut)]
          rw [this]; exact hs u hu)
      refine ⟨by simp [q1], ?_, ?_, ?_⟩
      · simp only [List.zip_cons_cons, List.foldl_cons]
        rw [q2]; simp
      · simpa only [List.zip_cons_cons, List.foldl_cons] using q3
      · rw [q4, L2.get_set t dslot x f (by omega) (by decide), if_neg (by intro hh; have h1 : (255 : Nat) = t := hh; omega)]
theorem roundF_sound (hc : CtxSound P P.globals.size ctx) (hmx : P.follows .mixedOrders = true) : RoundSound P P.globals.size ⟨callF P ctx, roundF P ctx⟩ := by
  intro l args h h' v σ w args' e he hsl har hm hg hl hf
  have he1 : roundF P ctx l args h = .ok v h' := he
  unfold roundF at he1
  split at he1
  · rename_i st pend fr ps as bd0 hget
    split at he1
    · rename_i f0 hset
      have hbr := hm.ma l e hsl
      rw [hget] at hbr
      obtain ⟨hk, lp, b1, b2, b3, b4, b5, b6, b7, b8, b9, b10, b11⟩ := hbr
      have hdfr : ∀ t, t < 250 → VRel σ ((fr.set dslot (.map l)).get t) (lp.tmps.getD t undef) := by
        intro t ht
        rw [L2.get_set dslot t _ fr (by decide) (by omega), if_neg (by intro hh; have h1 : t = 255 := hh; omega)]
        exact b4 t ht
      obtain ⟨s1, s2, s3, s4⟩ := setParams_rel ps args args'.toList _ f0 lp.tmps hset har b11 b8 hdfr
      have hds : f0.get dslot = .map l := by rw [s4, L2.get_set dslot dslot _ fr (by decide) (by decide), if_pos rfl]
      -- the frame of the round
      generalize htm : ((ps.zip args'.toList).foldl (fun tmps (p : Nat × Value) => tmps.setIfInBounds p.1 p.2) lp.tmps) = tm at s2 s3
      have hyield : (Instr.yield e.c args').run P w = .ok (.round e.c lp.fn tm lp.assign lp.body) w := by
        have hsz : args'.size = lp.params.size := by
          have h2 : lp.params.toList.length = ps.length := by rw [b5]
          simp at h2 s1
          omega
        have hfold : (lp.params.zip args').foldl (fun tmps (p : Tmp × Value) => tmps.setIfInBounds p.1 p.2) lp.tmps = tm := by
          rw [← htm, ← b5, ← Array.foldl_toList, Array.toList_zip]
        simp [Instr.yield, Instr.getLoop, getObj, Sem.run, b1, hsz]
        rw [← hfold]
        congr 1
        simp [hsz]
      have hst0 : St P.globals.size σ lp.tmps.size f0 ⟨tm, []⟩ h w := ⟨⟨s2, s3, by rw [hds]; exact .round l e hsl⟩, hg, hm.ai, hm.so, hm.ma⟩
      have hb0 : RBk ⟨lp.fn, .normal, some e.c⟩ σ f0 := .inr ⟨rfl, e.c, l, e, rfl, hds, hsl, rfl⟩
      have hround : Frame.round e.c lp.fn tm lp.assign lp.body .normal = FB.at ⟨lp.fn, .normal, some e.c⟩ ⟨tm, []⟩ [.code as, .beginRound, .code bd0] := by rw [b6, b7]; rfl
      -- the end of a round
      have hend : ∀ (σ1 : Sig) (h1 : H) (w1 : World) (a1 : Act) (jump : Option Code), endRound l jump h1 = .ok v h' → Out P.globals.size σ h w σ1 h1 w1 →
          (∀ c cs, ∃ k, (k = [] ∧ jump = none ∨ (∃ k', k = .code .ret :: k' ∧ jump = some .ret) ∨ ∃ id k', k = .code (.exit id) :: k' ∧ exitTo id k' = none ∧ jump = some (.exit id)) ∧
            Steps P (lone (FB.at ⟨lp.fn, .normal, some e.c⟩ ⟨tm, []⟩ [.code as, .beginRound, .code bd0]) (c :: cs) w) (lone (FB.at ⟨lp.fn, .normal, some e.c⟩ a1 k) (c :: cs) w1)) →
          ∃ σ' v' w' g tmps as bd, VRel σ' v v' ∧ Out P.globals.size σ h w σ' h' w' ∧ (Instr.yield e.c args').run P w = .ok (.round e.c g tmps as bd) w ∧
            ∀ c cs, Steps P (lone (Frame.round e.c g tmps as bd .normal) (c :: cs) w) (lone (c.finish v') cs w') := by
        intro σ1 h1 w1 a1 jump hre ho hst
        unfold endRound at hre
        split at hre
        · rename_i st2 pend2 fr2 ps2 as2 bd2 hget2
          obtain ⟨n, hh', hn, hvv⟩ : ∃ n, h' = h1.put l (.loop n jump fr2 ps2 as2 bd2) ∧ loopSt n = (if jump.isNone then .ready else .done) ∧ v = .bool jump.isNone := by
            obtain ⟨h2, h3⟩ := ok_inj hre
            exact ⟨_, h3.symm, by cases jump <;> rfl, h2.symm⟩
          have hsl1 := ho.le _ _ hsl
          have hbr1 := ho.ms.ma l e hsl1
          rw [hget2] at hbr1
          obtain ⟨hk1, lp1, c1, c2, c3, c4, c5, c6, c7, c8, c9, c10, c11⟩ := hbr1
          have hput : Out P.globals.size σ1 h1 w1 σ1 h' (setBlk w1 e.c (.loop { lp1 with state := if jump.isNone then .ready else .done, pending := jump })) := by
            rw [hh']
            refine put_self_step ho.ms.ai ho.ms.so ho.ms.ma hsl1 hget2 (by intro q; cases q) (by intro n q; cases q) rfl rfl hk1 (by intro n q; cases q) ?_
            exact ⟨hk1, { lp1 with state := if jump.isNone then .ready else .done, pending := jump }, by rw [heap_setBlk, if_pos ⟨rfl, lt_of_get c1⟩], hn.symm, rfl, c4, c5, c6, c7, c8, c9, c10, c11⟩
          refine ⟨σ1, .bool jump.isNone, _, lp.fn, tm, lp.assign, lp.body, by rw [hvv]; exact .bool _, ho.trans hput hl, hyield, fun c cs => ?_⟩
          rw [hround]
          obtain ⟨k, p1, p2⟩ := hst c cs
          exact p2.trans (.one (s_endRound rfl rfl c1 p1))
        · cases hre
      have hendnx : ∀ (h1 : H) (jump : Option Code), endRound l jump h1 = .ok v h' → h1.nx ≤ h'.nx := by
        intro h1 jump hre
        unfold endRound at hre
        split at hre
        · obtain ⟨_, rfl⟩ := ok_inj hre; exact Nat.le_refl _
        · cases hre
      have hcalm : ∀ cs, Calm ⟨lp.fn, .normal, some e.c⟩ cs := fun cs => .inl rfl
      have hruns := code_runs (b := ⟨lp.fn, .normal, some e.c⟩) hc hmx b8 as b9
      have hrunb := code_runs (b := ⟨lp.fn, .normal, some e.c⟩) hc hmx b8 bd0 b10
      -- what the assignment comes to
      cases hA : exec as P ctx f0 h with
      | bad n => rw [hA] at he1; cases he1
      | ext id f1 h1 =>
        rw [hA] at he1
        have he2 : endRound l (some (.exit id)) h1 = .ok v h' := he1
        have hle := hendnx h1 _ he2
        obtain ⟨σ1, a1, w1, q1, q2, q3, q4⟩ := hruns σ f0 ⟨tm, []⟩ h w f1 h1 _ hA (.inr (.inl ⟨id, rfl⟩)) hst0 hb0 (by omega) (hf.left hle)
        refine hend σ1 h1 w1 a1 _ he2 q3 (fun c cs => ?_)
        obtain ⟨k', p1, p2⟩ := q4 [.beginRound, .code bd0] (c :: cs) (hcalm _)
        exact ⟨_, .inr (.inr ⟨id, k', rfl, by rw [p1]; rfl, rfl⟩), p2⟩
      | ret f1 h1 =>
        rw [hA] at he1
        have he2 : endRound l (some .ret) h1 = .ok v h' := he1
        have hle := hendnx h1 _ he2
        obtain ⟨σ1, a1, w1, q1, q2, q3, q4⟩ := hruns σ f0 ⟨tm, []⟩ h w f1 h1 _ hA (.inr (.inr rfl)) hst0 hb0 (by omega) (hf.left hle)
        refine hend σ1 h1 w1 a1 _ he2 q3 (fun c cs => ?_)
        obtain ⟨k', p2⟩ := q4 [.beginRound, .code bd0] (c :: cs) (hcalm _)
        exact ⟨_, .inr (.inl ⟨k', rfl, rfl⟩), p2⟩
      | nrm f1 h1 =>
        rw [hA] at he1
        have he2 : roundR l (roundB P ctx l bd0 f1 h1) = .ok v h' := he1
        unfold roundB at he2
        split at he2
        · rename_i pend1 fr1 ps1 as1 bd1 hget1
          have hle1 : h1.nx ≤ h'.nx := by
            have := mono_roundR (h := h1.put l (.loop 1 pend1 fr1 ps1 as1 bd1)) l (mono_exec (P := P) hc.mono bd0 f1 (h1.put l (.loop 1 pend1 fr1 ps1 as1 bd1)))
            exact this v h' he2
          obtain ⟨σ1, a1, w1, q1, q2, q3, q4⟩ := hruns σ f0 ⟨tm, []⟩ h w f1 h1 _ hA (.inl rfl) hst0 hb0 (by omega) (hf.left hle1)
          have hsl1 := q3.le _ _ hsl
          have hbr1 := q3.ms.ma l e hsl1
          rw [hget1] at hbr1
          obtain ⟨hk1, lp1, c1, c2, c3, c4, c5, c6, c7, c8, c9, c10, c11⟩ := hbr1
          have hput : Out P.globals.size σ1 h1 w1 σ1 (h1.put l (.loop 1 pend1 fr1 ps1 as1 bd1)) (setBlk w1 e.c (.loop { lp1 with state := .busy })) := by
            refine put_self_step q3.ms.ai q3.ms.so q3.ms.ma hsl1 hget1 (by intro q; cases q) (by intro n q; cases q) rfl rfl hk1 (by intro n q; cases q) ?_
            exact ⟨hk1, { lp1 with state := .busy }, by rw [heap_setBlk, if_pos ⟨rfl, lt_of_get c1⟩], rfl, c3, c4, c5, c6, c7, c8, c9, c10, c11⟩
          have hout2 := q3.trans hput (show (h1.put l (.loop 1 pend1 fr1 ps1 as1 bd1)).nx ≤ lim from Nat.le_trans hle1 hl)
          have hst1 : St P.globals.size σ1 lp.tmps.size f1 a1 (h1.put l (.loop 1 pend1 fr1 ps1 as1 bd1)) (setBlk w1 e.c (.loop { lp1 with state := .busy })) := q1.next hput q1.fr
          have hbeg : ∀ c cs, Steps P (lone (FB.at ⟨lp.fn, .normal, some e.c⟩ ⟨tm, []⟩ [.code as, .beginRound, .code bd0]) (c :: cs) w) (lone (FB.at ⟨lp.fn, .normal, some e.c⟩ a1 [.code bd0]) (c :: cs) (setBlk w1 e.c (.loop { lp1 with state := .busy }))) :=
            fun c cs => (q4 [.beginRound, .code bd0] (c :: cs) (hcalm _)).trans (.one (s_beginRound rfl c1 c2))
          have hfree2 : Free σ1 (h1.put l (.loop 1 pend1 fr1 ps1 as1 bd1)) h' := hf.right hout2
          -- what the body comes to
          cases hB : exec bd0 P ctx f1 (h1.put l (.loop 1 pend1 fr1 ps1 as1 bd1)) with
          | bad n => rw [hB] at he2; cases he2
          | nrm f2 h2 =>
            rw [hB] at he2
            have he3 : endRound l none h2 = .ok v h' := he2
            have hle := hendnx h2 _ he3
            obtain ⟨σ2, a2, w2, r1, r2, r3, r4⟩ := hrunb σ1 f1 a1 _ _ f2 h2 _ hB (.inl rfl) hst1 q2 (by omega) (hfree2.left hle)
            refine hend σ2 h2 w2 a2 _ he3 (hout2.trans r3 (by omega)) (fun c cs => ?_)
            exact ⟨_, .inl ⟨rfl, rfl⟩, (hbeg c cs).trans (r4 [] (c :: cs) (hcalm _))⟩
          | ext id f2 h2 =>
            rw [hB] at he2
            have he3 : endRound l (some (.exit id)) h2 = .ok v h' := he2
            have hle := hendnx h2 _ he3
            obtain ⟨σ2, a2, w2, r1, r2, r3, r4⟩ := hrunb σ1 f1 a1 _ _ f2 h2 _ hB (.inr (.inl ⟨id, rfl⟩)) hst1 q2 (by omega) (hfree2.left hle)
            refine hend σ2 h2 w2 a2 _ he3 (hout2.trans r3 (by omega)) (fun c cs => ?_)
            obtain ⟨k', p1, p2⟩ := r4 [] (c :: cs) (hcalm _)
            exact ⟨_, .inr (.inr ⟨id, k', rfl, by rw [p1]; rfl, rfl⟩), (hbeg c cs).trans p2⟩
          | ret f2 h2 =>
            rw [hB] at he2
            have he3 : endRound l (some .ret) h2 = .ok v h' := he2
            have hle := hendnx h2 _ he3
            obtain ⟨σ2, a2, w2, r1, r2, r3, r4⟩ := hrunb σ1 f1 a1 _ _ f2 h2 _ hB (.inr (.inr rfl)) hst1 q2 (by omega) (hfree2.left hle)
            refine hend σ2 h2 w2 a2 _ he3 (hout2.trans r3 (by omega)) (fun c cs => ?_)
            obtain ⟨k', p2⟩ := r4 [] (c :: cs) (hcalm _)
            exact ⟨_, .inr (.inl ⟨k', rfl, rfl⟩), (hbeg c cs).trans p2⟩
        · cases he2
    · cases he1
  · cases he1
/-- THE EVALUATOR IS RIGHT -/
theorem ctxD_sound (hmx : P.follows .mixedOrders = true) (hp : progOk P = true) (d : Nat) : CtxSound P P.globals.size (ctxD P d) := by
  induction d with
  | zero => exact ⟨fun g args h h' v σ w args' kind he => (by cases he), fun l args h h' v σ w args' e he => (by cases he), mono_ctxD P 0⟩
  | succ d ih => exact ⟨callF_sound ih hmx hp, roundF_sound ih hmx, mono_ctxD P (d + 1)⟩
end Go.Ev
