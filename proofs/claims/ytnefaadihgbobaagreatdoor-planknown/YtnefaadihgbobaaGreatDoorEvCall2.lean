/- Calls, as the machine runs them. -/
import Derived.Test.YtnefaadihgbobaaGreatDoorEvCall
set_option linter.unusedSimpArgs false
set_option linter.unusedVariables false
namespace Go.Ev
variable {P : Program} {G : Nat} {σ : Sig} {h h' : H} {w w' : World} {v : AV} {nt : Nat} {f : L2} {a : Act} {ctx : CallT} {b : FB} {cs : List Frame}

def NextRuns (P : Program) (r : Result Next) (v' : Value) (w' : World) : Prop :=
  r = .ok (.value v') w' ∨ (∃ g args w0, r = .ok (.enter g args) w0 ∧ ∀ c cs, Steps P (lone (Frame.enter P g args .normal) (c :: cs) w0) (lone (c.finish v') cs w')) ∨
    ∃ l g tmps as bd w0, r = .ok (.round l g tmps as bd) w0 ∧ ∀ c cs, Steps P (lone (Frame.round l g tmps as bd .normal) (c :: cs) w0) (lone (c.finish v') cs w')
theorem OpRun.next {o : Oper} {v' : Value} (hd : ∀ c, o.op ≠ .defer c) (hn : NextRuns P ((execOp a.eval o).run P w) v' w') : OpRun P b o a w v' w' := by
  rcases hn with hn | ⟨g, args, w0, hn, hs⟩ | ⟨l, g, tmps, as, bd, w0, hn, hs⟩
  · exact .ran hd (.inl hn)
  · intro ops i rest k cs ho hw hc
    have hf := FB.finish_at b a ops i rest k v'
    rw [ho] at hf
    refine .head (s_enter ho hw (.inr hd) hn) ?_
    have := hs (b.at a (.inRegion ops (i :: rest) :: k)) cs
    rw [hf] at this
    exact this
  · intro ops i rest k cs ho hw hc
    have hf := FB.finish_at b a ops i rest k v'
    rw [ho] at hf
    refine .head (s_round ho hw (.inr hd) hn) ?_
    have := hs (b.at a (.inRegion ops (i :: rest) :: k)) cs
    rw [hf] at this
    exact this
theorem bodied_some {g : FuncId} (hb : bodied P g = true) : ∃ fn c, P.funcs[g]? = some fn ∧ fn.body = some c ∧ (fn.name == "runtime.NumGoroutine") = false := by
  unfold bodied at hb
  split at hb
  · rename_i fn hf
    rw [Bool.and_eq_true] at hb
    obtain ⟨c, hc⟩ := Option.isSome_iff_exists.1 hb.2
    exact ⟨fn, c, hf, hc, by simpa using hb.1⟩
  · cases hb
theorem run_callFunc {g : FuncId} (hb : bodied P g = true) (args : Array Value) (w : World) : (callFunc g args).run P w = .ok (.enter g args) w := by
  obtain ⟨fn, c, h1, h2, h3⟩ := bodied_some hb
  have h3' : ¬ fn.name = "runtime.NumGoroutine" := by simpa using h3
  simp [callFunc, h1, h2, h3', Sem.run]
theorem aCall_sound (hc : CtxSound P G ctx) {g : FuncId} {args : List AV} {args' : Array Value} (he : aCall P ctx g args h = .ok v h') (hr : LRel σ args args'.toList) (hm : Ms G σ h w) (hg : GOk G σ) (hl : h'.nx ≤ lim) (hf : Free σ h h') :
    ∃ σ' v' w', VRel σ' v v' ∧ Out G σ h w σ' h' w' ∧ NextRuns P ((callFunc g args').run P w) v' w' := by
  rcases ite_ok he with ⟨hb, he⟩ | ⟨hb, he⟩
  · obtain ⟨σ', v', w', a', fn, h1, h2, h3, h4, h5, h6⟩ := hc.call g args h h' v σ w args' .normal he hb hr hm hg hl hf
    refine ⟨σ', v', w', h2, h3, .inr (.inl ⟨g, args', w, run_callFunc hb args' w, fun c cs => ?_⟩)⟩
    obtain ⟨k', h7⟩ := h6 (c :: cs) (.inl rfl)
    exact h7.trans (.one (s_back h4 rfl h1 h5))
  · obtain ⟨v', h1, h2, rfl⟩ := ext_sound (w := w) he hr hb
    exact ⟨σ, v', w, h2, Out.refl hm.ai hm.so hm.ma, .inl h1⟩
theorem run_method {t : TypeId} {name : String} {g : FuncId} (hm : methOf P t name = some g) (x : Value) (args : Array Value) (w : World) :
    (callMethod (.iface t x) name args).run P w = (callFunc g (#[x] ++ args)).run P w := by
  unfold methOf at hm
  split at hm
  · rename_i i hi
    split at hm
    · rename_i m hm0
      obtain ⟨n, hfu⟩ : ∃ n, P.types.size + Made.depth = n + 1 := ⟨P.types.size + 99, rfl⟩
      split at hm
      · rename_i e q1 q2 q3
        cases hm
        have q1' : m.path = #[] := by simpa using q1
        simp [callMethod, hfu, method, typeInfo, hi, hm0, q1', follow, q2, receiverAt, underlying, q3, Place.get]
      · cases hm
      · rename_i d hne q1 q2 q3
        cases hm
        have q1' : m.path = #[] := by simpa using q1
        cases d <;> first | (exact absurd rfl (hne _)) | simp [callMethod, hfu, method, typeInfo, hi, hm0, q1', follow, q2, receiverAt, underlying, q3, Place.get]
      · cases hm
    · cases hm
  · cases hm
theorem aMeth_sound (hc : CtxSound P G ctx) {r : AV} {r' : Value} {name : String} {args : List AV} {args' : Array Value} (he : aMeth P ctx r name args h = .ok v h') (hv : VRel σ r r') (hr : LRel σ args args'.toList) (hm : Ms G σ h w)
    (hg : GOk G σ) (hl : h'.nx ≤ lim) (hf : Free σ h h') : ∃ σ' v' w', VRel σ' v v' ∧ Out G σ h w σ' h' w' ∧ NextRuns P ((callMethod r' name args').run P w) v' w' := by
  unfold aMeth at he
  split at he
  · rename_i t x hx
    have := vIf_yes hx
    subst this
    cases hv
    rename_i x' hx'
    split at he
    · rename_i g hmm
      rw [run_method hmm]
      exact aCall_sound hc he (by simpa using LRel.cons hx' hr) hm hg hl hf
    · cases he
  · cases he
theorem aInvoke_sound (hc : CtxSound P G ctx) {fn : Fn} {cap args : List AV} {cap' args' : Array Value} (hy : ∀ l, fn ≠ .yield l) (he : aInvoke P ctx fn cap args h = .ok v h') (hcap : LRel σ cap cap'.toList) (hr : LRel σ args args'.toList)
    (hm : Ms G σ h w) (hg : GOk G σ) (hl : h'.nx ≤ lim) (hf : Free σ h h') : ∃ σ' v' w', VRel σ' v v' ∧ Out G σ h w σ' h' w' ∧ NextRuns P ((invoke (.fn fn cap') args').run P w) v' w' := by
  unfold aInvoke at he
  split at he
  · rename_i g
    rw [lapp_eq] at he
    have : (invoke (.fn (.func g) cap') args').run P w = (callFunc g (args' ++ cap')).run P w := by simp [invoke]
    rw [this]
    exact aCall_sound hc he (by simpa using hr.append hcap) hm hg hl hf
  · rename_i name
    split at he
    · rename_i r rest
      obtain ⟨y, l, hl1, hv, hl2⟩ := hr.uncons
      have hargs : args' = (y :: l).toArray := by
        have := congrArg List.toArray hl1
        simpa using this
      subst hargs
      have : (invoke (.fn (.method name) cap') (y :: l).toArray).run P w = (callMethod y name l.toArray).run P w := by
        have e : (y :: l).toArray.extract 1 (y :: l).toArray.size = l.toArray := by simp
        simp only [invoke]
        rw [e]
        simp
      rw [this]
      exact aMeth_sound hc he hv (by simpa using hl2) hm hg hl hf
    · cases he
  · exact absurd rfl (hy _)
  · cases he
theorem cv_sound (hc : CtxSound P G ctx) {x : AV} {x' : Value} {args : List AV} {args' : Array Value} (he : cvV x args P ctx h = .ok v h') (hx : VRel σ x x') (hr : LRel σ args args'.toList) (hm : Ms G σ h w) (hg : GOk G σ) (hl : h'.nx ≤ lim)
    (hf : Free σ h h') : ∃ d, (∀ w, (Deferred.ofValue x' args').run P w = .ok d w) ∧ ∃ σ' v' w', VRel σ' v v' ∧ Out G σ h w σ' h' w' ∧ NextRuns P ((invoke d.target d.args).run P w) v' w' := by
  cases hx <;> first | (cases he; done) | skip
  · rename_i fn as cs as' cs' hy ha ha' hca hca'
    have he' : aInvoke P ctx fn cs (lapp as args) h = .ok v h' := he
    rw [lapp_eq] at he'
    refine ⟨{ target := .fn fn cs', args := as' ++ args' }, fun w => by simp [Deferred.ofValue, Sem.run], ?_⟩
    exact aInvoke_sound hc hy he' ⟨hca, hca'⟩ (by simpa using LRel.append (⟨ha, ha'⟩ : LRel σ as as'.toList) hr) hm hg hl hf
  · rename_i l e hle
    have he' : ctx.round l args h = .ok v h' := he
    refine ⟨{ target := .fn (.yield e.c) #[], args := #[] ++ args' }, fun w => by simp [Deferred.ofValue, Sem.run], ?_⟩
    obtain ⟨σ', v', w', g, tmps, as, bd, h1, h2, h3, h4⟩ := hc.round l args h h' v σ w args' e he' hle hr hm hg hl hf
    refine ⟨σ', v', w', h1, h2, .inr (.inr ⟨e.c, g, tmps, as, bd, w, ?_, h4⟩)⟩
    simp [invoke, h3]
theorem bui_sound (bi : Builtin) {ts : List TypeId} {tsA : Array TypeId} {ty : TypeId} {cns : Array Bool} {args : List AV} {args' : Array Value} (hts : tsA.toList = ts) (he : aBuiltin bi ts args P h = .ok v h') (hr : LRel σ args args'.toList)
    (hm : Ms G σ h w) (hl : h'.nx ≤ lim) (hf : Free σ h h') : ∃ σ' v' w', VRel σ' v v' ∧ Out G σ h w σ' h' w' ∧ (builtin bi tsA ty cns args').run P w = .ok (.value v') w' := by
  have key : ∀ (s : Sem Value), BOut P G σ h w s v h' → ∃ σ' v' w', VRel σ' v v' ∧ Out G σ h w σ' h' w' ∧ (do pure (Next.value (← s)) : Sem Next).run P w = .ok (.value v') w' := by
    rintro s ⟨σ', v', w', h1, h2, h3⟩
    exact ⟨σ', v', w', h2, h3, by simp [h1]⟩
  have hget : ∀ (i : Nat) (t : TypeId), ts[i]? = some t → tsA[i]? = some t := by
    intro i t ht
    rw [← hts] at ht
    simpa using ht
  have arr1 : ∀ x, args = [x] → ∃ y, args' = #[y] ∧ VRel σ x y := by
    rintro x rfl
    obtain ⟨y, l, hl1, hv, hl2⟩ := hr.uncons
    have := hl2.unnil
    subst this
    exact ⟨y, by simpa using congrArg List.toArray hl1, hv⟩
  have arr2 : ∀ x y, args = [x, y] → ∃ x' y', args' = #[x', y'] ∧ VRel σ x x' ∧ VRel σ y y' := by
    rintro x y rfl
    obtain ⟨x', l, hl1, hv, hl2⟩ := hr.uncons
    obtain ⟨y', l2, rfl, hv2, hl3⟩ := hl2.uncons
    have := hl3.unnil
    subst this
    exact ⟨x', y', by simpa using congrArg List.toArray hl1, hv, hv2⟩
  unfold aBuiltin at he
  split at he
  · split at he
    · rename_i t t2 _ s x
      rcases ite_ok he with ⟨hni, he⟩ | ⟨_, he⟩
      · obtain ⟨s', x', rfl, hs, hx⟩ := arr2 s x rfl
        exact key _ (append1_sound he hs hx hm (hget 0 t (by simp)) (hget 1 t2 (by simp)) hni hl hf)
      · cases he
    · cases he
  · split at he
    · rename_i t _ x
      obtain ⟨x', rfl, hx⟩ := arr1 x rfl
      exact key _ (lnK_sound he hx hm (hget 0 t (by simp)))
    · cases he
  · split at he
    · rename_i t _ d s
      obtain ⟨d', s', rfl, hd, hs⟩ := arr2 d s rfl
      exact key _ (copyA_sound he hd hs hm (hget 0 t (by simp)))
    · cases he
  · exact key _ (by simpa using mm_sound true (ts := tsA) (ty := ty) he hr hm)
  · exact key _ (by simpa using mm_sound false (ts := tsA) (ty := ty) he hr hm)
  · split at he
    · rename_i t _ x
      obtain ⟨x', rfl, hx⟩ := arr1 x rfl
      split at he
      · rename_i hk
        exact key _ (capV_sound hk he hx hm (hget 0 t (by simp)))
      · cases he
    · cases he
  · split at he
    · rename_i x
      obtain ⟨x', rfl, hx⟩ := arr1 x rfl
      exact key _ (sdV_sound he hx hm)
    · cases he
  · split at he
    · rename_i t t2 p n
      obtain ⟨p', n', rfl, hp, hn⟩ := arr2 p n rfl
      exact key _ (usV_sound he hp hn hm (by simpa using congrArg List.toArray hts))
    · cases he
  · cases he
end Go.Ev
