/- The machine's steps, in frames of either kind. -/
import Derived.Test.YtnefaadihgbobaaGreatDoorEvCongr
set_option linter.unusedSimpArgs false
set_option linter.unusedVariables false
namespace Go.Ev

/-- what of a frame does not change while it runs -/
structure FB where
  fn : FuncId
  kind : CallKind
  ro : Option Nat
def FB.at (b : FB) (a : Act) (todo : List Item) : Frame :=
  { fn := b.fn, tmps := a.tmps, todo, defers := a.defers, mode := .run, kind := b.kind, roundOf := b.ro }
theorem FB.eval_at (b : FB) (a : Act) (todo : List Item) : (b.at a todo).eval = a.eval := by
  funext x
  cases x <;> rfl
theorem FB.finish_at (b : FB) (a : Act) (ops : Array Oper) (i : Nat) (rest : List Nat) (k : List Item) (v : Value) :
    (b.at a (.inRegion ops (i :: rest) :: k)).finish v = b.at (a.put ((ops[i]?).bind (·.dst)) v) (.inRegion ops rest :: k) := by
  cases h : (ops[i]?).bind (·.dst) <;> simp [Frame.finish, FB.at, Act.put, h]
section moves
variable {P : Program} {b : FB} {a : Act} {k : List Item} {cs : List Frame} {w : World}
theorem s_skip : step P (lone (b.at a (.code .skip :: k)) cs w) = .next (lone (b.at a k) cs w) :=
  step_lone_go (by simp [stepG, stepG.exec, FB.at])
theorem s_label {l : Nat} : step P (lone (b.at a (.code (.label l) :: k)) cs w) = .next (lone (b.at a k) cs w) :=
  step_lone_go (by simp [stepG, stepG.exec, FB.at])
theorem s_inBlock {id : Nat} : step P (lone (b.at a (.inBlock id :: k)) cs w) = .next (lone (b.at a k) cs w) :=
  step_lone_go (by simp [stepG, stepG.exec, FB.at])
theorem s_inScope {c : Code} : step P (lone (b.at a (.inScope c :: k)) cs w) = .next (lone (b.at a k) cs w) :=
  step_lone_go (by simp [stepG, stepG.exec, FB.at])
theorem s_seq {x y : Code} : step P (lone (b.at a (.code (.seq x y) :: k)) cs w) = .next (lone (b.at a (.code x :: .code y :: k)) cs w) :=
  step_lone_go (by simp [stepG, stepG.exec, FB.at])
theorem s_cond {c : Operand} {x y : Code} {t : Bool} (h : a.eval c = .bool t) :
    step P (lone (b.at a (.code (.cond c x y) :: k)) cs w) = .next (lone (b.at a (.code (if t then x else y) :: k)) cs w) :=
  step_lone_go (by
    have := congrFun (FB.eval_at b a (.code (.cond c x y) :: k)) c
    simp only [FB.at] at this
    simp [stepG, stepG.exec, FB.at, this, h])
theorem s_block {id : Nat} {c : Code} : step P (lone (b.at a (.code (.block id c) :: k)) cs w) = .next (lone (b.at a (.code c :: .inBlock id :: k)) cs w) :=
  step_lone_go (by simp [stepG, stepG.exec, FB.at])
theorem s_loop {c : Code} : step P (lone (b.at a (.code (.loop c) :: k)) cs w) = .next (lone (b.at a (.code c :: .inLoop c :: k)) cs w) :=
  step_lone_go (by simp [stepG, stepG.exec, FB.at])
theorem s_inLoop {c : Code} : step P (lone (b.at a (.inLoop c :: k)) cs w) = .next (lone (b.at a (.code c :: .inLoop c :: k)) cs w) :=
  step_lone_go (by simp [stepG, stepG.exec, FB.at])
theorem s_scope {c : Code} : step P (lone (b.at a (.code (.scope c) :: k)) cs w) = .next (lone (b.at a (.code c :: .inScope c :: k)) cs w) :=
  step_lone_go (by simp [stepG, stepG.exec, FB.at])
theorem s_exit {id : Nat} {k' : List Item} (h : exitTo id k = some k') : step P (lone (b.at a (.code (.exit id) :: k)) cs w) = .next (lone (b.at a k') cs w) :=
  step_lone_go (by simp [stepG, stepG.exec, FB.at, h])
theorem s_region {id : Nat} {ops : Array Oper} :
    step P (lone (b.at a (.code (.region id ops false) :: k)) cs w) = .next (lone (b.at a (.inRegion ops (List.range ops.size) :: k)) cs w) :=
  step_lone_go (by simp [stepG, stepG.exec, FB.at])
theorem s_draw {id : Nat} {ops : Array Oper} :
    step P (lone (b.at a (.code (.region id ops true) :: k)) cs w) =
      .next (lone (b.at a (.inRegion ops (Region.schedule (P.follows .mixedOrders) ops (w.tape w.drawn (.order b.fn id))) :: k)) cs { w with drawn := w.drawn + 1 }) :=
  step_lone_go (by simp [stepG, stepG.exec, FB.at, choose, Sem.run, Question.forced, Question.cut])
theorem s_regionEnd {ops : Array Oper} : step P (lone (b.at a (.inRegion ops [] :: k)) cs w) = .next (lone (b.at a k) cs w) :=
  step_lone_go (by simp [stepG, stepG.exec, FB.at])
theorem s_pass {ops : Array Oper} {i : Nat} {rest : List Nat} (h : ((ops[i]?).map (Region.wanted · (yielded ops a.tmps))).getD false = false) :
    step P (lone (b.at a (.inRegion ops (i :: rest) :: k)) cs w) = .next (lone (b.at (a.put ((ops[i]?).bind (·.dst)) undef) (.inRegion ops rest :: k)) cs w) := by
  rw [← FB.finish_at]
  exact step_lone_go (by
    have h' := h
    simp only [FB.at] at *
    simp [stepG, stepG.exec, h'])
theorem s_op {ops : Array Oper} {i : Nat} {rest : List Nat} {o : Oper} (ho : ops[i]? = some o) (hw : Region.wanted o (yielded ops a.tmps) = true) (hd : b.ro = none ∨ ∀ c, o.op ≠ .defer c) :
    stepG P true { frame := b.at a (.inRegion ops (i :: rest) :: k), callers := cs, status := .running, dying := none } w =
      stepG.apply P true (b.at a (.inRegion ops (i :: rest) :: k)) cs none (execOp a.eval o) w := by
  have he := FB.eval_at b a (.inRegion ops (i :: rest) :: k)
  simp only [FB.at] at he
  rcases hd with hd | hd
  · rw [hd] at he
    simp [stepG, stepG.exec, stepG.oper, Frame.oper?, FB.at, ho, hw, he, hd]
  · simp only [FB.at] at *
    simp only [stepG, stepG.exec, stepG.oper, Frame.oper?, ho, hw, he, Option.map_some, Option.getD_some, if_true]
    split
    · rename_i c _ hc; exact absurd hc (hd c)
    · rfl
/-- an operation that yields a value, or nothing -/
theorem s_value {ops : Array Oper} {i : Nat} {rest : List Nat} {o : Oper} {v' : Value} {w' : World} (ho : ops[i]? = some o) (hw : Region.wanted o (yielded ops a.tmps) = true) (hd : b.ro = none ∨ ∀ c, o.op ≠ .defer c)
    (hr : Ran P (execOp a.eval o) w v' w') : step P (lone (b.at a (.inRegion ops (i :: rest) :: k)) cs w) = .next (lone (b.at (a.put o.dst v') (.inRegion ops rest :: k)) cs w') := by
  have hf := FB.finish_at b a ops i rest k v'
  rw [ho] at hf
  rcases hr with hr | ⟨hr, rfl⟩
  · refine step_lone_go ?_
    rw [s_op ho hw hd]
    simp only [stepG.apply, Sem.runT_eq, if_true, hr]
    simp [hf]
  · refine step_lone_go ?_
    rw [s_op ho hw hd]
    simp only [stepG.apply, Sem.runT_eq, if_true, hr]
    simp [hf]
/-- an operation that enters a function -/
theorem s_enter {ops : Array Oper} {i : Nat} {rest : List Nat} {o : Oper} {g : FuncId} {args : Array Value} {w' : World} (ho : ops[i]? = some o) (hw : Region.wanted o (yielded ops a.tmps) = true) (hd : b.ro = none ∨ ∀ c, o.op ≠ .defer c)
    (hr : (execOp a.eval o).run P w = .ok (.enter g args) w') : step P (lone (b.at a (.inRegion ops (i :: rest) :: k)) cs w) = .next (lone (Frame.enter P g args .normal) (b.at a (.inRegion ops (i :: rest) :: k) :: cs) w') := by
  refine step_lone_go ?_
  rw [s_op ho hw hd]
  simp only [stepG.apply, Sem.runT_eq, if_true, hr]
  simp [FB.at]
/-- an operation that enters a round of a loop over a function -/
theorem s_round {ops : Array Oper} {i : Nat} {rest : List Nat} {o : Oper} {l : Nat} {g : FuncId} {tmps : Array Value} {as bd : Code} {w' : World} (ho : ops[i]? = some o) (hw : Region.wanted o (yielded ops a.tmps) = true) (hd : b.ro = none ∨ ∀ c, o.op ≠ .defer c)
    (hr : (execOp a.eval o).run P w = .ok (.round l g tmps as bd) w') : step P (lone (b.at a (.inRegion ops (i :: rest) :: k)) cs w) = .next (lone (Frame.round l g tmps as bd .normal) (b.at a (.inRegion ops (i :: rest) :: k) :: cs) w') := by
  refine step_lone_go ?_
  rw [s_op ho hw hd]
  simp only [stepG.apply, Sem.runT_eq, if_true, hr]
  simp [FB.at]
/-- the end of the code, and a return, outside rounds -/
def FB.back (b : FB) (a : Act) (todo : List Item) : Frame :=
  { fn := b.fn, tmps := a.tmps, todo, defers := a.defers, mode := .returning, kind := b.kind, roundOf := none }
theorem s_ret (hr : b.ro = none) : step P (lone (b.at a (.code .ret :: k)) cs w) = .next (lone (b.back a (.code .ret :: k)) cs w) :=
  step_lone_go (by simp [stepG, stepG.exec, FB.at, FB.back, hr])
theorem s_end (hr : b.ro = none) : step P (lone (b.at a []) cs w) = .next (lone (b.back a []) cs w) :=
  step_lone_go (by simp [stepG, stepG.exec, FB.at, FB.back, hr])
/-- a frame that returns to its caller -/
theorem s_back {fn : Func} {v : Value} {c : Frame} (hd : a.defers = []) (hk : b.kind = .normal) (hf : P.funcs[b.fn]? = some fn) (hres : (results fn a.tmps).run P w = .ok v w) :
    step P (lone (b.back a k) (c :: cs) w) = .next (lone (c.finish v) cs w) :=
  step_lone_go (by simp [stepG, unwind, doReturn, FB.back, hd, hk, hf, hres])
/-- a deferred call that returns: its caller goes on returning -/
theorem s_backD {fn : Func} {v : Value} {c : Frame} (hd : a.defers = []) (hk : b.kind = .deferred) (hc : c.mode = .returning) (hf : P.funcs[b.fn]? = some fn) (hres : (results fn a.tmps).run P w = .ok v w) :
    step P (lone (b.back a k) (c :: cs) w) = .next (lone c cs w) :=
  step_lone_go (by simp [stepG, unwind, doReturn, FB.back, hd, hk, hf, hres, hc])
/-- the next deferred call -/
theorem s_defer {g : FuncId} {as caps : Array Value} {ds : List Deferred} {args : Array Value} {w' : World} (hd : a.defers = { target := .fn (.func g) caps, args := as } :: ds) (hr : (callFunc g (as ++ caps)).run P w = .ok (.enter g args) w') :
    step P (lone (b.back a k) cs w) = .next (lone (Frame.enter P g args .deferred) (b.back ⟨a.tmps, ds⟩ k :: cs) w') :=
  step_lone_go (by simp [stepG, unwind, callDeferred, FB.back, hd, invoke, Sem.runT_eq, hr])
/-- the mark of a loop over a function, among the deferred calls -/
theorem s_taken {r : Nat} {ds : List Deferred} (hd : a.defers = { target := .collected r, args := #[] } :: ds) (hr : w.heap[r]? = some (.deferred (some []))) :
    step P (lone (b.back a k) cs w) = .next (lone (b.back ⟨a.tmps, ds⟩ k) cs (setBlk w r (.deferred none))) := by
  have hlt := lt_of_get hr
  have hrun : (Instr.takeDeferred r).run P w = .ok [] (setBlk w r (.deferred none)) := by
    simp [Instr.takeDeferred, getObj, setObj, Sem.run, hr, setBlk]
  exact step_lone_go (by simp [stepG, unwind, FB.back, hd, Sem.runT_eq, hrun])
/-- the end of a round -/
theorem s_endRound {l : Nat} {lp : Loop} {c : Frame} {jump : Option Code} (hro : b.ro = some l) (hk : b.kind = .normal) (hl : w.heap[l]? = some (.loop lp))
    (htodo : k = [] ∧ jump = none ∨ (∃ k', k = .code .ret :: k' ∧ jump = some .ret) ∨ ∃ id k', k = .code (.exit id) :: k' ∧ exitTo id k' = none ∧ jump = some (.exit id)) :
    step P (lone (b.at a k) (c :: cs) w) = .next (lone (c.finish (.bool jump.isNone)) cs (setBlk w l (.loop { lp with state := if jump.isNone then .ready else .done, pending := jump }))) := by
  have hrun : ∀ j, (Instr.endRound l j).run P w = .ok (.bool j.isNone) (setBlk w l (.loop { lp with state := if j.isNone then .ready else .done, pending := j })) := by
    intro j
    simp [Instr.endRound, Instr.getLoop, getObj, setObj, Sem.run, hl, setBlk]
  rcases htodo with ⟨rfl, rfl⟩ | ⟨k', rfl, rfl⟩ | ⟨id, k', rfl, he, rfl⟩
  · exact step_lone_go (by simp [stepG, stepG.exec, FB.at, hro, Sem.runT_eq, hrun, doReturn, hk])
  · exact step_lone_go (by simp [stepG, stepG.exec, FB.at, hro, Sem.runT_eq, hrun, doReturn, hk])
  · exact step_lone_go (by simp [stepG, stepG.exec, FB.at, hro, Sem.runT_eq, hrun, doReturn, hk, he])
/-- the beginning of a round's body -/
theorem s_beginRound {l : Nat} {lp : Loop} (hro : b.ro = some l) (hl : w.heap[l]? = some (.loop lp)) (hs : lp.state = .ready) :
    step P (lone (b.at a (.beginRound :: k)) cs w) = .next (lone (b.at a k) cs (setBlk w l (.loop { lp with state := .busy }))) := by
  have hrun : (do Instr.beginRound l; pure Next.skip : Sem Next).run P w = .ok .skip (setBlk w l (.loop { lp with state := .busy })) := by
    simp [Instr.beginRound, Instr.getLoop, getObj, setObj, Sem.run, hl, hs, setBlk]
  refine step_lone_go ?_
  have e : stepG P true { frame := b.at a (.beginRound :: k), callers := cs, status := .running, dying := none } w = stepG.apply P true (b.at a (.beginRound :: k)) cs none (do Instr.beginRound l; pure Next.skip : Sem Next) w := by
    simp only [stepG, stepG.exec, FB.at, hro]
    rfl
  rw [e]
  simp only [stepG.apply, Sem.runT_eq, if_true, hrun]
  simp [FB.at, Frame.finish]
/-- the end of a loop over a function -/
theorem s_endLoop {l : Nat} {lp : Loop} (hl : w.heap[l]? = some (.loop lp)) (hs : lp.state ≠ .busy) :
    step P (lone (b.at a (.endRangeFunc l :: k)) cs w) = .next (lone (b.at a ((lp.pending.map Item.code).toList ++ k)) cs (setBlk w l (.loop { lp with state := .exhausted }))) := by
  have hb : (lp.state == LoopState.busy) = false := by cases hq : lp.state <;> first | rfl | exact absurd hq hs
  have hrun : (Instr.endLoop l).run P w = .ok lp.pending (setBlk w l (.loop { lp with state := .exhausted })) := by
    simp [Instr.endLoop, Instr.getLoop, getObj, setObj, Sem.run, hl, hb, setBlk]
    exact fun hh => absurd hh hs
  exact step_lone_go (by simp [stepG, stepG.exec, FB.at, Sem.runT_eq, hrun])
/-- the way into a loop over a function, outside rounds -/
theorem s_range {x : Operand} {ps : Array Tmp} {as bd : Code} {g : FuncId} {first caps args : Array Value} {w2 : World} (hro : b.ro = none) (hx : a.eval x = .func (.func g) first caps)
    (hr : ∀ w1, w1 = wpush (wpush w (.deferred (some []))) (.loop { state := .ready, pending := none, fn := b.fn, tmps := a.tmps, params := ps, assign := as, body := bd, defers := w.heap.size }) →
      (callFunc g (first.push (.func (.yield (w.heap.size + 1)) #[] #[]) ++ caps)).run P w1 = .ok (.enter g args) w2) :
    step P (lone (b.at a (.code (.rangeFunc x ps as bd) :: k)) cs w) =
      .next (lone (Frame.enter P g args .normal) (b.at ⟨a.tmps, { target := .collected w.heap.size, args := #[] } :: a.defers⟩ (.inRangeFunc (w.heap.size + 1) :: k) :: cs) w2) := by
  have hen : (Instr.enterLoop b.fn a.tmps ps as bd none).run P w = .ok (w.heap.size + 1, [{ target := .collected w.heap.size, args := #[] }]) (wpush (wpush w (.deferred (some []))) (.loop { state := .ready, pending := none, fn := b.fn, tmps := a.tmps, params := ps, assign := as, body := bd, defers := w.heap.size })) := by
    simp [Instr.enterLoop, newObj, Sem.run, wpush]
    rfl
  have hr := hr _ rfl
  generalize wpush (wpush w (.deferred (some []))) (.loop { state := .ready, pending := none, fn := b.fn, tmps := a.tmps, params := ps, assign := as, body := bd, defers := w.heap.size }) = w1 at *
  have hev : ∀ y todo ds, ({ fn := b.fn, tmps := a.tmps, todo := todo, defers := ds, mode := FrameMode.run, kind := b.kind, roundOf := none } : Frame).eval y = a.eval y := by intro y todo ds; cases y <;> rfl
  refine step_lone_go ?_
  simp only [stepG, stepG.exec, FB.at, hro, Sem.runT_eq, hen]
  simp only [stepG.apply, Sem.runT_eq, if_true]
  have hcn : ∀ v, a.eval (.const v) = v := fun _ => rfl
  simp [resolve, hev, hx, hcn, Deferred.ofValue, invoke, hr, Sem.run_bind, Result.andThen_ok]
  done
/-- the same, inside a round -/
theorem s_rangeIn {x : Operand} {ps : Array Tmp} {as bd : Code} {g : FuncId} {first caps args : Array Value} {w2 : World} {l : Nat} {lp : Loop} (hro : b.ro = some l) (hl : w.heap[l]? = some (.loop lp)) (hx : a.eval x = .func (.func g) first caps)
    (hr : ∀ w1, w1 = wpush w (.loop { state := .ready, pending := none, fn := b.fn, tmps := a.tmps, params := ps, assign := as, body := bd, defers := lp.defers }) →
      (callFunc g (first.push (.func (.yield w.heap.size) #[] #[]) ++ caps)).run P w1 = .ok (.enter g args) w2) :
    step P (lone (b.at a (.code (.rangeFunc x ps as bd) :: k)) cs w) = .next (lone (Frame.enter P g args .normal) (b.at a (.inRangeFunc w.heap.size :: k) :: cs) w2) := by
  have hen : (Instr.enterLoop b.fn a.tmps ps as bd (some l)).run P w = .ok (w.heap.size, []) (wpush w (.loop { state := .ready, pending := none, fn := b.fn, tmps := a.tmps, params := ps, assign := as, body := bd, defers := lp.defers })) := by
    simp [Instr.enterLoop, Instr.getLoop, getObj, newObj, Sem.run, wpush, hl]
  have hr := hr _ rfl
  generalize wpush w (.loop { state := .ready, pending := none, fn := b.fn, tmps := a.tmps, params := ps, assign := as, body := bd, defers := lp.defers }) = w1 at *
  have hev : ∀ y todo ds, ({ fn := b.fn, tmps := a.tmps, todo := todo, defers := ds, mode := FrameMode.run, kind := b.kind, roundOf := some l } : Frame).eval y = a.eval y := by intro y todo ds; cases y <;> rfl
  refine step_lone_go ?_
  simp only [stepG, stepG.exec, FB.at, hro, Sem.runT_eq, hen]
  simp only [stepG.apply, Sem.runT_eq, if_true]
  have hcn : ∀ v, a.eval (.const v) = v := fun _ => rfl
  simp [resolve, hev, hx, hcn, Deferred.ofValue, invoke, hr, Sem.run_bind, Result.andThen_ok]
/-- recover where nobody panics -/
theorem s_recover {ops : Array Oper} {i : Nat} {rest : List Nat} {o : Oper} {w' : World} (ho : ops[i]? = some o) (hw : Region.wanted o (yielded ops a.tmps) = true) (hd : b.ro = none) (hn : ∀ todo, tryRecover (b.at a todo) cs = none)
    (hr : (execOp a.eval o).run P w = .ok .recover w') : step P (lone (b.at a (.inRegion ops (i :: rest) :: k)) cs w) = .next (lone (b.at (a.put o.dst .nilIface) (.inRegion ops rest :: k)) cs w') := by
  have hf := FB.finish_at b a ops i rest k .nilIface
  rw [ho] at hf
  refine step_lone_go ?_
  rw [s_op ho hw (.inl hd)]
  have hro : (b.at a (.inRegion ops (i :: rest) :: k)).roundOf = none := hd
  simp only [stepG.apply, Sem.runT_eq, if_true, hr, hro, hn]
  simp [hf]
/-- an operation that defers a call -/
theorem s_putDefer {ops : Array Oper} {i : Nat} {rest : List Nat} {o : Oper} {d : Deferred} {w' : World} (ho : ops[i]? = some o) (hw : Region.wanted o (yielded ops a.tmps) = true) (hd : b.ro = none)
    (hr : (execOp a.eval o).run P w = .ok (.defer d) w') : step P (lone (b.at a (.inRegion ops (i :: rest) :: k)) cs w) = .next (lone (b.at ((⟨a.tmps, d :: a.defers⟩ : Act).put o.dst undef) (.inRegion ops rest :: k)) cs w') := by
  have hf := FB.finish_at b ⟨a.tmps, d :: a.defers⟩ ops i rest k undef
  rw [ho] at hf
  refine step_lone_go ?_
  rw [s_op ho hw (.inl hd)]
  simp only [stepG.apply, Sem.runT_eq, if_true, hr]
  simp only [FB.at] at hf ⊢
  simp [hf]
end moves
end Go.Ev
