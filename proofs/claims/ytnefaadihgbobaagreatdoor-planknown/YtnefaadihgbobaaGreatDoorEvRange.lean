/- Loops over functions. -/
import Derived.Test.YtnefaadihgbobaaGreatDoorEvCode
set_option linter.unusedSimpArgs false
set_option linter.unusedVariables false
namespace Go.Ev
variable {P : Program} {G : Nat} {σ σ' : Sig} {h h' : H} {w w' : World} {v : AV} {nt : Nat} {f f' : L2} {a a' : Act} {ctx : CallT} {b : FB} {cs : List Frame}

/-- what is left to do behind a loop -/
def JumpSays (pend : Option Code) (f : L2) (h : H) (r : RC) : Prop :=
  match pend with
  | none => r = .nrm f h
  | some .ret => r = .ret f h
  | some (.exit id) => r = .ext id f h
  | _ => False
theorem jump_says {pend : Option Code} {r : RC} (he : jumpOf pend f h = r) (hr : ∀ n, r ≠ .bad n) : JumpSays pend f h r := by
  unfold jumpOf at he
  unfold JumpSays
  split at he
  · exact he.symm
  · exact he.symm
  · exact he.symm
  · exact absurd he.symm (hr _)
theorem range_core (hc : CtxSound P G ctx) {g : FuncId} {args : List AV} {args' : Array Value} {fr : L2} {tmps : Array Value} {ps : Array Tmp} {as bd : Code} {fnid : FuncId} {dfb : Nat} {r : RC} (hbod : bodied P g = true)
    (hs : Ms G σ h w) (hg : GOk G σ) (hsl : ∀ t, t < 250 → VRel σ (fr.get t) (tmps.getD t undef)) (hsz : tmps.size < 250) (hps : ∀ d ∈ ps.toList, d < tmps.size) (h1 : codeOk G tmps.size as = true) (h2 : codeOk G tmps.size bd = true)
    (he : rangeEnd f h.nx (ctx.call g args (h.new (.loop 0 none fr ps.toList as bd))) = r) (hfin : Fin r f' h') (hl : h'.nx ≤ lim) (hf : Free σ h h')
    (har : ∀ σ1 e, Sle σ σ1 → σ1 h.nx = some e → e.c = w.heap.size → LRel σ1 args args'.toList) :
    f' = f ∧ ∃ σ' w' w2 v2 lp, Out G σ h w σ' h' w' ∧ (∀ c cs, Steps P (lone (Frame.enter P g args' .normal) (c :: cs) (wpush w (.loop { state := .ready, pending := none, fn := fnid, tmps, params := ps, assign := as, body := bd, defers := dfb }))) (lone (c.finish v2) cs w2)) ∧
      w2.heap[w.heap.size]? = some (.loop lp) ∧ lp.state ≠ .busy ∧ w' = setBlk w2 w.heap.size (.loop { lp with state := .exhausted }) ∧ JumpSays lp.pending f h' r := by
  have hrb : ∀ n, r ≠ .bad n := fun n hn => by subst hn; exact fin_bad hfin
  unfold rangeEnd at he
  split at he
  · rename_i v2 h2' hcall
    split at he
    · rename_i st pend fr2 ps2 as2 bd2 hget
      rcases (show (Nat.beq st 1 = true ∧ RC.bad 189 = r) ∨ (Nat.beq st 1 = false ∧ jumpOf pend f (h2'.put h.nx (.loop 3 pend fr2 ps2 as2 bd2)) = r) by
        cases hb : Nat.beq st 1 with
        | true => rw [hb] at he; exact .inl ⟨rfl, he⟩
        | false => rw [hb] at he; exact .inr ⟨rfl, he⟩) with ⟨_, hq⟩ | ⟨hst, hq⟩
      · exact absurd hq.symm (hrb _)
      · have hj := jump_says hq hrb
        have hfh : f' = f ∧ h' = h2'.put h.nx (.loop 3 pend fr2 ps2 as2 bd2) := by
          unfold JumpSays at hj
          split at hj
          · subst hj; exact fin_nrm hfin
          · subst hj; exact fin_ret hfin
          · subst hj; exact fin_ext hfin
          · exact hj.elim
        obtain ⟨rfl, rfl⟩ := hfh
        refine ⟨rfl, ?_⟩
        have hnx2 : (h.new (.loop 0 none fr ps.toList as bd)).nx ≤ h2'.nx := hc.mono.call _ _ _ _ _ hcall
        have hnx2' : h.nx + 1 ≤ h2'.nx := hnx2
        have hl2 : h2'.nx ≤ lim := hl
        have hlt : h.nx < lim := by omega
        have hfx : σ h.nx = none := hf h.nx (Nat.le_refl _) (by show h.nx < h2'.nx; omega)
        have hle := upd_le (e := ⟨w.heap.size, 0, none⟩) hfx
        have hnew : Out G σ h w (upd σ h.nx ⟨w.heap.size, 0, none⟩) (h.new (.loop 0 none fr ps.toList as bd)) (wpush w (.loop { state := .ready, pending := none, fn := fnid, tmps, params := ps, assign := as, body := bd, defers := dfb })) := by
          refine new_step hs.ai hs.so hs.ma hlt hfx rfl rfl ?_
          refine ⟨rfl, _, heap_push_at w _, rfl, rfl, fun t ht => (hsl t ht).mono hle, rfl, rfl, rfl, hsz, h1, h2, hps⟩
        have hfree1 : Free (upd σ h.nx ⟨w.heap.size, 0, none⟩) (h.new (.loop 0 none fr ps.toList as bd)) h2' := Free.right (h := h) (h' := h2') (fun x p1 p2 => hf x p1 p2) hnew
        have hare := har (upd σ h.nx ⟨w.heap.size, 0, none⟩) ⟨w.heap.size, 0, none⟩ hle (by simp [upd]) rfl
        obtain ⟨σ2, v2', w2, a2, fn, p1, p2, p3, p4, p5, p6⟩ := hc.call g args _ h2' v2 _ _ args' .normal hcall hbod hare hnew.ms (hg.mono hle) hl2 hfree1
        have hσ2 : σ2 h.nx = some ⟨w.heap.size, 0, none⟩ := p3.le _ _ (by simp [upd])
        have hbr := p3.ms.ma h.nx _ hσ2
        rw [hget] at hbr
        obtain ⟨hk, lp, b1, b2, b3, b4, b5, b6, b7, b8, b9, b10, b11⟩ := hbr
        have hput : Out G σ2 h2' w2 σ2 (h2'.put h.nx (.loop 3 pend fr2 ps2 as2 bd2)) (setBlk w2 w.heap.size (.loop { lp with state := .exhausted })) := by
          refine put_self_step (e := ⟨w.heap.size, 0, none⟩) p3.ms.ai p3.ms.so p3.ms.ma hσ2 hget (by intro hh; cases hh) (by intro n hh; cases hh) rfl rfl hk (by intro n hh; cases hh) ?_
          refine ⟨hk, { lp with state := .exhausted }, ?_, rfl, b3, b4, b5, b6, b7, b8, b9, b10, b11⟩
          rw [heap_setBlk, if_pos ⟨rfl, lt_of_get b1⟩]
        refine ⟨σ2, _, w2, v2', lp, ?_, ?_, b1, ?_, rfl, ?_⟩
        · exact (hnew.trans p3 hl2).trans hput hl
        · intro c cs
          obtain ⟨k', p7⟩ := p6 (c :: cs) (.inl rfl)
          exact p7.trans (.one (s_back p4 rfl p1 p5))
        · rw [b2]
          intro hh
          unfold loopSt at hh
          split at hh <;> first | (cases hh; done) | skip
          cases hst
        · rw [b3]
          exact hj
    · exact absurd he.symm (hrb _)
  · exact absurd he.symm (hrb _)
theorem finish_range (b : FB) (a : Act) (l : Nat) (k : List Item) (v : Value) : (b.at a (.inRangeFunc l :: k)).finish v = b.at a (.endRangeFunc l :: k) := rfl
theorem ends_jump {pend : Option Code} {r : RC} {src : List Item → List Item} (hj : JumpSays pend f h r) (hs : ∀ k cs, Calm b cs → Steps P (lone (b.at a (src k)) cs w) (lone (b.at a' ((pend.map Item.code).toList ++ k)) cs w')) :
    Ends P b src (fun k => k) a w r a' w' := by
  unfold JumpSays at hj
  split at hj
  · subst hj; exact hs
  · subst hj; exact fun k cs hc => ⟨k, hs k cs hc⟩
  · subst hj; exact fun k cs hc => ⟨k, rfl, hs k cs hc⟩
  · exact hj.elim
theorem mono_rangeEnd (hc : CtxMono ctx) {g : FuncId} {args : List AV} {l : Nat} {r : RC} (he : rangeEnd f l (ctx.call g args h) = r) (hfin : Fin r f' h') : h.nx ≤ h'.nx := by
  have hrb : ∀ n, r ≠ .bad n := fun n hn => by subst hn; exact fin_bad hfin
  unfold rangeEnd at he
  split at he
  · rename_i v2 h2' hcall
    have hm : h.nx ≤ h2'.nx := hc.call _ _ _ _ _ hcall
    split at he
    · rename_i st pend fr2 ps2 as2 bd2 hget
      cases hb : Nat.beq st 1 with
      | true => rw [hb] at he; exact absurd he.symm (hrb _)
      | false =>
        rw [hb] at he
        have hj := jump_says (show jumpOf pend f (h2'.put l (.loop 3 pend fr2 ps2 as2 bd2)) = r from he) hrb
        have hfh : f' = f ∧ h' = h2'.put l (.loop 3 pend fr2 ps2 as2 bd2) := by
          unfold JumpSays at hj
          split at hj
          · subst hj; exact fin_nrm hfin
          · subst hj; exact fin_ret hfin
          · subst hj; exact fin_ext hfin
          · exact hj.elim
        rw [hfh.2]
        exact hm
    · exact absurd he.symm (hrb _)
  · exact absurd he.symm (hrb _)
theorem range_runs (hc : CtxSound P G ctx) {x : Operand} {ps : Array Tmp} {as bd : Code} (hnt : nt < 250) (hox : opdOk G x = true) (hps : ∀ d ∈ ps.toList, d < nt) (h1 : codeOk G nt as = true) (h2 : codeOk G nt bd = true) :
    RunsTo P G nt b (Code.src (.rangeFunc x ps as bd)) (fun k => k) (exec (.rangeFunc x ps as bd) P ctx) := by
  intro σ f a h w f' h' r he hfin hs hb hl hf
  have hrb : ∀ n, r ≠ .bad n := fun n hn => by subst hn; exact fin_bad hfin
  have he' : cRange x ps as bd (exec as) (exec bd) P ctx f h = r := he
  have hv := ev_rel hs.fr hs.gl x hox
  have hsz : a.tmps.size = nt := hs.fr.size
  unfold cRange at he'
  split at he'
  · -- outside rounds
    rename_i g fs cap ds hvf hvt
    have hvf := vF_yes hvf
    have hvt := vT_yes hvt
    rw [hvf] at hv
    generalize hxx : a.eval x = xx at hv
    cases hv
    rename_i fs' cap' hy ha ha' hca hca'
    have hro : b.ro = none := by
      rcases hb with ⟨q, _⟩ | ⟨_, c, l2, e, q1, q2, _⟩
      · exact q
      · rw [q2] at hvt; cases hvt
    unfold rangeGo at he'
    cases hbod : bodied P g with
    | false => rw [hbod] at he'; exact absurd he'.symm (hrb _)
    | true =>
      rw [hbod] at he'
      have he2 : rangeEnd (f.set dslot (.tup (.map h.nx :: ds))) (h.new (.dfr false)).nx (ctx.call g (lapp (lapp fs [.fn (.yield (h.new (.dfr false)).nx) [] []]) cap) ((h.new (.dfr false)).new (.loop 0 none f ps.toList as bd))) = r := he'
      -- the mark for deferred calls
      have hmono := mono_range (P := P) (h := h) (f := f) hc.mono x ps as bd (exec as) (exec bd)
      have hnx1 : h.nx + 1 ≤ h'.nx := by
        have := mono_rangeEnd hc.mono he2 hfin
        exact Nat.le_trans (Nat.le_succ _) this
      have hlt : h.nx < lim := by omega
      have hfx : σ h.nx = none := hf h.nx (Nat.le_refl _) (by omega)
      have hle := upd_le (e := ⟨w.heap.size, 0, none⟩) hfx
      have hnew : Out G σ h w (upd σ h.nx ⟨w.heap.size, 0, none⟩) (h.new (.dfr false)) (wpush w (.deferred (some []))) := by
        refine new_step hs.ai hs.so hs.ma hlt hfx rfl rfl ?_
        exact ⟨rfl, heap_push_at w _⟩
      have hfree1 : Free (upd σ h.nx ⟨w.heap.size, 0, none⟩) (h.new (.dfr false)) h' := hf.right hnew
      obtain ⟨rfl, σ', w', w2, v2, lp, q1, q2, q3, q4, q5, q6⟩ := range_core (fnid := b.fn) (dfb := w.heap.size) (args' := fs'.push (.func (.yield (w.heap.size + 1)) #[] #[]) ++ cap') (tmps := a.tmps) hc hbod hnew.ms (hs.gl.mono hle)
        (fun t ht => (hs.fr.slot t ht).mono hle) (by rw [hsz]; exact hnt) (by rw [hsz]; exact hps) (by rw [hsz]; exact h1) (by rw [hsz]; exact h2) he2 hfin hl hfree1 (by
          intro σ1 e s1 s2 s3
          have s3' : e.c = w.heap.size + 1 := by rw [s3, size_push]
          rw [lapp_eq, lapp_eq]
          have l1 : LRel σ1 fs fs'.toList := LRel.mono (hle.trans s1) ⟨ha, ha'⟩
          have l2 : LRel σ1 cap cap'.toList := LRel.mono (hle.trans s1) ⟨hca, hca'⟩
          have l3 : LRel σ1 [.fn (.yield (h.new (.dfr false)).nx) [] []] [.func (.yield (w.heap.size + 1)) #[] #[]] := by
            refine .cons ?_ (.nil _)
            rw [← s3']
            exact .yld _ e s2
          simpa using (l1.append l3).append l2)
      have hwsz : (wpush w (.deferred (some []))).heap.size = w.heap.size + 1 := size_push w _
      rw [hwsz] at q3 q5
      have hout := hnew.trans q1 hl
      refine ⟨σ', ⟨a.tmps, { target := .collected w.heap.size, args := #[] } :: a.defers⟩, w', ?_, ?_, hout, ?_⟩
      · refine hs.next hout ⟨hs.fr.size, ?_, ?_⟩
        · intro t ht
          rw [L2.get_set dslot t _ f (by decide) (by omega), if_neg (by intro hh; have h1 : t = 255 := hh; omega)]
          exact (hs.fr.slot t ht).mono hout.le
        · rw [L2.get_set dslot dslot _ f (by decide) (by decide), if_pos rfl]
          have hdr := hs.fr.defers
          rw [hvt] at hdr
          refine .cons _ _ _ _ (.mk h.nx ⟨w.heap.size, 0, none⟩ (q1.le _ _ (by simp [upd]))) (hdr.mono hout.le)
      · exact .inl ⟨hro, _, by rw [L2.get_set dslot dslot _ f (by decide) (by decide), if_pos rfl]⟩
      · refine ends_jump q6 (fun k cs hcm => ?_)
        refine .head (s_range (args := fs'.push (.func (.yield (w.heap.size + 1)) #[] #[]) ++ cap') (w2 := wpush (wpush w (.deferred (some []))) (.loop { state := .ready, pending := none, fn := b.fn, tmps := a.tmps, params := ps, assign := as, body := bd, defers := w.heap.size })) hro hxx (fun w1 hw1 => ?_)) ?_
        · rw [hw1]; exact run_callFunc hbod _ _
        · refine (q2 _ cs).trans ?_
          rw [finish_range, q5]
          exact .one (s_endLoop q3 q4)
  · -- inside a round
    rename_i g fs cap hvf hvt
    have hvf := vF_yes hvf
    rw [hvf] at hv
    generalize hxx : a.eval x = xx at hv
    cases hv
    rename_i fs' cap' hy ha ha' hca hca'
    split at he'
    · rename_i hin
      unfold rangeGo at he'
      cases hbod : bodied P g with
      | false => rw [hbod] at he'; exact absurd he'.symm (hrb _)
      | true =>
        rw [hbod] at he'
        have he2 : rangeEnd f h.nx (ctx.call g (lapp (lapp fs [.fn (.yield h.nx) [] []]) cap) (h.new (.loop 0 none f ps.toList as bd))) = r := he'
        rcases hb with ⟨q, ds, hds⟩ | ⟨hkn, c, l, e, hro, hdl, hsl, hec⟩
        · rw [hds] at hvt; cases hvt
        · have hb' : RBk b σ f := .inr ⟨hkn, c, l, e, hro, hdl, hsl, hec⟩
          have hlp : ∃ lp0, w.heap[c]? = some (.loop lp0) := by
            unfold inRound at hin
            rw [hdl] at hin
            have hin' : isLoop (h.m.get l) = true := hin
            have hbr := hs.ma l e hsl
            cases hgl : h.m.get l with
            | loop st pend fr2 ps2 as2 bd2 =>
              rw [hgl] at hbr
              obtain ⟨_, lp0, b1, _⟩ := hbr
              rw [hec] at b1
              exact ⟨lp0, b1⟩
            | _ => rw [hgl] at hin'; cases hin'
          obtain ⟨lp0, hlp0⟩ := hlp
          obtain ⟨rfl, σ', w', w2, v2, lp, q1, q2, q3, q4, q5, q6⟩ := range_core (fnid := b.fn) (dfb := lp0.defers) (args' := fs'.push (.func (.yield w.heap.size) #[] #[]) ++ cap') (tmps := a.tmps) hc hbod hs.ms hs.gl
            hs.fr.slot (by rw [hsz]; exact hnt) (by rw [hsz]; exact hps) (by rw [hsz]; exact h1) (by rw [hsz]; exact h2) he2 hfin hl hf (by
              intro σ1 e1 s1 s2 s3
              rw [lapp_eq, lapp_eq]
              have l1 : LRel σ1 fs fs'.toList := LRel.mono s1 ⟨ha, ha'⟩
              have l2 : LRel σ1 cap cap'.toList := LRel.mono s1 ⟨hca, hca'⟩
              have l3 : LRel σ1 [.fn (.yield h.nx) [] []] [.func (.yield w.heap.size) #[] #[]] := by
                refine .cons ?_ (.nil _)
                rw [← s3]
                exact .yld _ e1 s2
              simpa using (l1.append l3).append l2)
          refine ⟨σ', a, w', hs.next q1 (hs.fr.mono q1.le), hb'.mono q1.le rfl, q1, ?_⟩
          refine ends_jump q6 (fun k cs hcm => ?_)
          refine .head (s_rangeIn (args := fs'.push (.func (.yield w.heap.size) #[] #[]) ++ cap') (w2 := wpush w (.loop { state := .ready, pending := none, fn := b.fn, tmps := a.tmps, params := ps, assign := as, body := bd, defers := lp0.defers })) hro hlp0 hxx (fun w1 hw1 => ?_)) ?_
          · rw [hw1]; exact run_callFunc hbod _ _
          · refine (q2 _ cs).trans ?_
            rw [finish_range, q5]
            exact .one (s_endLoop q3 q4)
    · exact absurd he'.symm (hrb _)
  · exact absurd he'.symm (hrb _)
end Go.Ev
