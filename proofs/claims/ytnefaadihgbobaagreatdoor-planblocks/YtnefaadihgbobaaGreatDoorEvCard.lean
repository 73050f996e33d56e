/- From a call of the evaluator to the row of a law without arguments. -/
import Derived.Test.YtnefaadihgbobaaGreatDoorEvTop
import Derived.Handed
import Derived.LaidLaws
import Derived.Lay
import Derived.ProofKit
import Derived.OpenShut
import Derived.LaidMore
import Derived.SevenTiedAt
import Derived.Stop.Joined
set_option linter.unusedSimpArgs false
set_option linter.unusedVariables false
namespace Go.Ev
open Go.ChangeShapes Go.WideShapes Go.ChangeAt Go.RowKit
section
variable {H : Type} {enc : TypeId × Value → H}
/-- the way into the row, with the shape of the world at hand -/
theorem returns_shaped {asm : Assume} {C : Checked} {os : Os} {f : FuncId} {fn : Func} {s : ChangeSpec} {conds : List PathCond} {apart fresh handsOn again : Bool} {X : World → Array Value → Prop}
    (hX : ∀ (w w' : World) (args : Array Value), w.heap = w'.heap → X w args → X w' args) (own : ownKnob C.prog.godebug = none) (started : os.Started) (noInit : C.prog.inits.idxOf? f = none) (hfn : C.prog.funcs[f]? = some fn)
    (witness : ∃ (w : World) (tape : Tape) (i : Input), w.os = os ∧ (w.forCall tape i).Shaped C.prog ∧ i.vars = [] ∧ Input.okWide C.prog (w.forCall tape i) .any w.heap.size f i ∧
      ((s.pre enc C.prog fn conds apart (w.forCall tape i).memory i.args ∧ X (w.forCall tape i).memory i.args) ∧ sizedMet enc C.prog fn (OpenSpec.ofChange s) apart (w.forCall tape i).memory i.args) ∧ asm.holds C.prog (lone (Frame.enter C.prog f i.args .normal) [] (w.forCall tape i)))
    (contract : ∀ (W : World) (base : Nat) (args : Array Value) (ds gs : List (DataW H)) (before : List MemPlace), W.ShapedOpen C.prog →
      (∀ (j : Nat) t v, fn.params[j]? = some t → args[j]? = some v → Value.okWide C.prog W .any base t v) → DataW.Whole enc C.prog fn.params.toList s.vars apart W args.toList ds gs before →
      X W args → Calls C.prog f args W fun e W' => ∃ v, e = .returned v ∧ s.post enc C.prog fn apart fresh handsOn again W args v W') :
    ReturnsInHanded asm C os f .any (fun w args => (s.pre enc C.prog fn conds apart w args ∧ X w args) ∧ sizedMet enc C.prog fn (OpenSpec.ofChange s) apart w args) (s.post enc C.prog fn apart fresh handsOn again) := by
  refine returnsInHanded_of_calls own started noInit witness ?_
  intro w tape i _ hsh _ hok hpre hholds
  obtain ⟨_, _, _, fn', hfn', _, _, _, _, hval⟩ := hok
  have e : fn' = fn := Option.some.inj (hfn'.symm.trans hfn)
  subst e
  obtain ⟨⟨⟨ds, gs, before, hw, hc⟩, hx⟩, hz⟩ := hpre
  have hw' := DataW.Whole.of_heap (w' := w.forCall tape i) (by rfl) hw
  refine (contract (w.forCall tape i) w.heap.size i.args ds gs before hsh hval hw' (hX _ _ _ (by rfl) hx)).mono fun e W' ⟨v, he, hp⟩ => ?_
  subst he
  exact ChangeSpec.post_blind hp
/-- a law without arguments that the evaluator finds true -/
theorem returns_closed {C : Checked} {os : Os} {f : FuncId} {fn : Func} {s : ChangeSpec} {gl : List GE} {laid : List (String × DataW Unit)} {bt : TypeId} {conds : List PathCond}
    (own : ownKnob C.prog.godebug = none) (started : os.Started) (noInit : C.prog.inits.idxOf? f = none) (hfn : C.prog.funcs[f]? = some fn)
    (witness : ∃ (w : World) (tape : Tape) (i : Input), w.os = os ∧ (w.forCall tape i).Shaped C.prog ∧ i.vars = [] ∧ Input.okWide C.prog (w.forCall tape i) .any w.heap.size f i ∧
      ((s.pre enc C.prog fn conds false (w.forCall tape i).memory i.args ∧ laidMetH C.prog laid (w.forCall tape i).memory) ∧ sizedMet enc C.prog fn (OpenSpec.ofChange s) false (w.forCall tape i).memory i.args) ∧ ({} : Assume).holds C.prog (lone (Frame.enter C.prog f i.args .normal) [] (w.forCall tape i)))
    (hrows : rowsOk C.prog = true) (hplain : (laid.filter fun x => x.2.handleName?.isSome) = []) (htie : glTie C.prog laid gl = true) (hpar : fn.params.toList = []) (hvars : s.vars = []) (hres : fn.resultTypes = #[bt]) (hbt : C.prog.underlying bt = some .bool)
    (hs : s.fn H [] = { results := [.lit (.bool true)], args := [] }) (ho : OrcOk C.prog gl ⟨f, [], .bool true⟩) :
    ReturnsInHanded {} C os f .any (fun w args => (s.pre enc C.prog fn conds false w args ∧ laidMetH C.prog laid w) ∧ sizedMet enc C.prog fn (OpenSpec.ofChange s) false w args) (s.post enc C.prog fn false true false false) := by
  refine returns_shaped (X := fun w _ => laidMetH C.prog laid w) (fun _ _ _ hh h => h.of_heap hh) own started noInit hfn witness ?_
  intro W base args ds gs before hsh hval hW hL
  have hW' := hW
  obtain ⟨p, q, hA, hV, hbef, _, _⟩ := hW
  rw [hpar] at hA
  rw [hvars] at hV
  obtain ⟨ha, hd, hp⟩ : args.toList = [] ∧ ds = [] ∧ p = [] := by
    cases hal : args.toList with
    | nil =>
      rw [hal] at hA
      cases ds with
      | nil => exact ⟨rfl, rfl, hA⟩
      | cons d ds => exact hA.elim
    | cons x l => rw [hal] at hA; cases ds <;> exact hA.elim
  obtain ⟨hg, hq⟩ : gs = [] ∧ q = [] := by
    cases gs with
    | nil => exact ⟨rfl, hV⟩
    | cons g r => exact hV.elim
  subst hd; subst hg; subst hp; subst hq
  have hargs : args = #[] := by
    have := congrArg List.toArray ha
    simpa using this
  subst hargs
  have hw : WOk C.prog gl W := wok_of_laid hsh hrows (laidMetH.plain hplain hL) htie
  refine (ho.calls hw (args' := #[]) (fun σ => .nil σ)).mono fun e W' ⟨v', he, hv, hk⟩ => ?_
  subst he
  have hvt : v' = .bool true := by cases hv (fun _ => none); rfl
  subst hvt
  refine ⟨_, rfl, [], [], before, [], [], [], hW', ?_, ?_, ?_, World.keptBut_mono (fun _ hh => hh.elim) hk.but, fun hh => by cases hh⟩
  · rw [hres, show ([] : List (DataW H)) ++ [] = [] from rfl, hs]
    exact trodAll_mk1 (shut_bool hbt true)
  · rw [hpar, show ([] : List (DataW H)) ++ [] = [] from rfl, hs]
    rfl
  · rw [hvars, show ([] : List (DataW H)) ++ [] = [] from rfl, hs]
    rfl
/-- a law of one integer that the evaluator finds true at every integer -/
theorem returns_int {C : Checked} {os : Os} {f : FuncId} {fn : Func} {s : ChangeSpec} {gl : List GE} {laid : List (String × DataW Unit)} {bt t : TypeId} {conds : List PathCond}
    (own : ownKnob C.prog.godebug = none) (started : os.Started) (noInit : C.prog.inits.idxOf? f = none) (hfn : C.prog.funcs[f]? = some fn)
    (witness : ∃ (w : World) (tape : Tape) (i : Input), w.os = os ∧ (w.forCall tape i).Shaped C.prog ∧ i.vars = [] ∧ Input.okWide C.prog (w.forCall tape i) .any w.heap.size f i ∧
      ((s.pre enc C.prog fn conds false (w.forCall tape i).memory i.args ∧ laidMetH C.prog laid (w.forCall tape i).memory) ∧ sizedMet enc C.prog fn (OpenSpec.ofChange s) false (w.forCall tape i).memory i.args) ∧ ({} : Assume).holds C.prog (lone (Frame.enter C.prog f i.args .normal) [] (w.forCall tape i)))
    (hrows : rowsOk C.prog = true) (hplain : (laid.filter fun x => x.2.handleName?.isSome) = []) (htie : glTie C.prog laid gl = true) (hpar : fn.params.toList = [t]) (hti : C.prog.underlying t = some (.int .i64)) (hvars : s.vars = []) (hres : fn.resultTypes = #[bt])
    (hbt : C.prog.underlying bt = some .bool) (hs : ∀ n, s.fn H [.lit (.int .i64 n)] = { results := [.lit (.bool true)], args := [.lit (.int .i64 n)] }) (ho : ∀ n, OrcOk C.prog gl ⟨f, [.int .i64 n], .bool true⟩) :
    ReturnsInHanded {} C os f .any (fun w args => (s.pre enc C.prog fn conds false w args ∧ laidMetH C.prog laid w) ∧ sizedMet enc C.prog fn (OpenSpec.ofChange s) false w args) (s.post enc C.prog fn false true false false) := by
  refine returns_shaped (X := fun w _ => laidMetH C.prog laid w) (fun _ _ _ hh h => h.of_heap hh) own started noInit hfn witness ?_
  intro W base args ds gs before hsh hval hW hL
  have hW' := hW
  obtain ⟨p, q, hA, hV, hbef, _, _⟩ := hW
  rw [hpar] at hA
  rw [hvars] at hV
  obtain ⟨v, d, rfl, rfl, hT⟩ := trodAll_one hA
  obtain ⟨rfl, rfl⟩ := trodVars_none hV
  have hp0 : fn.params[0]? = some t := by rw [← Array.getElem?_toList, hpar]; rfl
  obtain ⟨n, rfl, rfl, rfl, hwf⟩ := open_int hti (hval 0 t v hp0 rfl) hT
  have hw : WOk C.prog gl W := wok_of_laid hsh hrows (laidMetH.plain hplain hL) htie
  refine ((ho n).calls hw (args' := #[.int .i64 n]) (fun σ => .cons (.int _ _) (.nil σ))).mono fun e W' ⟨v', he, hv, hk⟩ => ?_
  subst he
  have hvt : v' = .bool true := by cases hv (fun _ => none); rfl
  subst hvt
  refine ⟨_, rfl, [.lit (.int .i64 n)], [], before, [], [], [], hW', ?_, ?_, ?_, World.keptBut_mono (fun _ hh => hh.elim) hk.but, fun hh => by cases hh⟩
  · rw [hres, List.append_nil, hs n]
    exact trodAll_mk1 (shut_bool hbt true)
  · rw [hpar, List.append_nil, hs n]
    exact trodAll_mk1 (shut_int hti hwf)
  · rw [hvars, List.append_nil, hs n]
    rfl
end
/-- no function of the program starts another goroutine: then none on a road does -/
theorem goes_none {P : Program} (ha : P.funcs.toList.all (fun fn => !fn.goes) = true) (f : FuncId) : P.goes f = false := by
  have h0 : ∀ g : FuncId, ((P.funcs[g]?).any Func.goes) = false := by
    intro g
    cases hg : P.funcs[g]? with
    | none => rfl
    | some fn =>
      have := List.all_eq_true.1 ha fn (Array.mem_toList_iff.2 (Array.mem_of_getElem? hg))
      simpa using this
  have h1 : P.funcs.any Func.goes = false := by
    rw [← Array.any_toList]
    rw [List.any_eq_false]
    intro fn hf
    have := List.all_eq_true.1 ha fn hf
    simpa using this
  unfold Program.goes
  simp [h0, h1]
theorem goesBy_none {P : Program} {c : OpenClaim} (hs : c.start = .entering) (ha : P.funcs.toList.all (fun fn => !fn.goes) = true) : false = c.goesBy P := by
  unfold OpenClaim.goesBy Program.goesAt Program.goesFrom
  rw [hs]
  cases P.funcNamed c.func with
  | none => rfl
  | some f => simp [goes_none ha f]
end Go.Ev
