/- Runs in batches, and runs of pieces of a function's code. -/
import Derived.Test.YtnefaadihgbobaaGreatDoorEvOrc
set_option linter.unusedSimpArgs false
set_option linter.unusedVariables false
namespace Go.Ev
variable {P : Program} {G : Nat} {σ σ' : Sig} {h h' : H} {w w' : World} {v : AV} {nt : Nat} {f f' f0 f1 f2 : L2} {a a' : Act} {ctx : CallT} {cs : List Frame} {gl : List GE} {g : FuncId} {c x y : Code}

/-- calls in their order, each with those before it looked up -/
noncomputable def batchOk (P : Program) (gl : List GE) (mask d : Nat) : List Orc → List Orc → Bool
  | _, [] => true
  | tab, o :: os => Bool.rec (motive := fun _ => Bool) false (Bool.rec (motive := fun _ => Bool) false (batchOk P gl mask d (o :: tab) os)
      (ranTo P.globals.size o.v ((ctxDO P gl ⟨mask, tab⟩ d).call o.g o.args (glH gl P.globals.size)))) (bodied P o.g)
theorem batch_ok (hmx : P.follows .mixedOrders = true) (hp : progOk P = true) (hn : P.globals.size ≤ lim) (hok : glOk P.globals.size gl = true) {mask d : Nat} : ∀ (os tab : List Orc), (∀ o ∈ tab, OrcOk P gl o) → batchOk P gl mask d tab os = true →
    ∀ o ∈ os, OrcOk P gl o := by
  intro os
  induction os with
  | nil => intro tab _ _ o ho; cases ho
  | cons x os ih =>
    intro tab ht hb o ho
    unfold batchOk at hb
    obtain ⟨h1, h2⟩ := iteB hb
    obtain ⟨h3, h4⟩ := iteB h2
    have hx := orc_of_run (ctxDO_sound (tab := ⟨mask, tab⟩) hmx hp hok ht d) hn hok x h1 h3
    rcases List.mem_cons.1 ho with rfl | ho
    · exact hx
    · exact ih (x :: tab) (fun o ho => by rcases List.mem_cons.1 ho with rfl | ho; exact hx; exact ht o ho) h4 o ho
theorem all_app {l m : List Orc} (h1 : ∀ o ∈ l, OrcOk P gl o) (h2 : ∀ o ∈ m, OrcOk P gl o) : ∀ o ∈ l ++ m, OrcOk P gl o := fun o ho => (List.mem_append.1 ho).elim (h1 o) (h2 o)

/- PIECES -/
/-- a frame without addresses -/
structure Fr (nt : Nat) (f : L2) (a : Act) : Prop where
  size : a.tmps.size = nt
  slot : ∀ t, t < 250 → ∀ σ, VRel σ (f.get t) (a.tmps.getD t undef)
  ds : f.get dslot = .tup []
  df : a.defers = []
theorem Fr.rel (hf : Fr nt f a) (σ : Sig) : FRel σ nt f a := ⟨hf.size, fun t ht => hf.slot t ht σ, by rw [hf.ds, hf.df]; exact .nil⟩
/-- how a piece ends -/
inductive PO where
  | nrm (f : L2)
  | ret (f : L2)
def PO.fr : PO → L2
  | .nrm f => f
  | .ret f => f
def PEnds (P : Program) (b : FB) (c : Code) (a : Act) (w : World) (a' : Act) (w' : World) : PO → Prop
  | .nrm _ => ∀ k cs, Calm b cs → Steps P (lone (b.at a (.code c :: k)) cs w) (lone (b.at a' k) cs w')
  | .ret _ => ∀ k cs, Calm b cs → ∃ k', Steps P (lone (b.at a (.code c :: k)) cs w) (lone (b.at a' (.code .ret :: k')) cs w')
def Piece (P : Program) (gl : List GE) (nt : Nat) (g : FuncId) (c : Code) (f0 : L2) (out : PO) : Prop := ∀ (w : World) (a : Act) (kind : CallKind), WOk P gl w → Fr nt f0 a →
  ∃ a' w', Kept w w' ∧ Fr nt out.fr a' ∧ PEnds P ⟨g, kind, none⟩ c a w a' w' out
theorem Kept.trans {w1 w2 : World} (h1 : Kept w w1) (h2 : Kept w1 w2) : Kept w w2 :=
  ⟨Nat.le_trans h1.grow h2.grow, fun c hc => by rw [h2.same c (Nat.lt_of_lt_of_le hc h1.grow), h1.same c hc], h2.io.1.trans h1.io.1, h2.io.2.trans h1.io.2⟩
theorem Piece.seq {out : PO} (h1 : Piece P gl nt g x f0 (.nrm f1)) (h2 : Piece P gl nt g y f1 out) : Piece P gl nt g (.seq x y) f0 out := by
  intro w a kind hw hf
  obtain ⟨a1, w1, k1, r1, e1⟩ := h1 w a kind hw hf
  obtain ⟨a2, w2, k2, r2, e2⟩ := h2 w1 a1 kind (hw.kept k1) r1
  refine ⟨a2, w2, k1.trans k2, r2, ?_⟩
  cases out with
  | nrm f => exact fun k cs hc => .head s_seq ((e1 (.code y :: k) cs hc).trans (e2 k cs hc))
  | ret f => exact fun k cs hc => by obtain ⟨k', hs⟩ := e2 k cs hc; exact ⟨k', .head s_seq ((e1 (.code y :: k) cs hc).trans hs)⟩
/-- a piece that returns leaves out what follows -/
theorem Piece.ret (h1 : Piece P gl nt g x f0 (.ret f1)) : Piece P gl nt g (.seq x y) f0 (.ret f1) := by
  intro w a kind hw hf
  obtain ⟨a1, w1, k1, r1, e1⟩ := h1 w a kind hw hf
  exact ⟨a1, w1, k1, r1, fun k cs hc => by obtain ⟨k', hs⟩ := e1 (.code y :: k) cs hc; exact ⟨k', .head s_seq hs⟩⟩
theorem Piece.scope {out : PO} (h1 : Piece P gl nt g x f0 out) : Piece P gl nt g (.scope x) f0 out := by
  intro w a kind hw hf
  obtain ⟨a1, w1, k1, r1, e1⟩ := h1 w a kind hw hf
  refine ⟨a1, w1, k1, r1, ?_⟩
  cases out with
  | nrm f => exact fun k cs hc => .head s_scope ((e1 (.inScope x :: k) cs hc).trans (.one s_inScope))
  | ret f => exact fun k cs hc => by obtain ⟨k', hs⟩ := e1 (.inScope x :: k) cs hc; exact ⟨k', .head s_scope hs⟩
theorem Piece.block {out : PO} {id : Nat} (h1 : Piece P gl nt g x f0 out) : Piece P gl nt g (.block id x) f0 out := by
  intro w a kind hw hf
  obtain ⟨a1, w1, k1, r1, e1⟩ := h1 w a kind hw hf
  refine ⟨a1, w1, k1, r1, ?_⟩
  cases out with
  | nrm f => exact fun k cs hc => .head s_block ((e1 (.inBlock id :: k) cs hc).trans (.one s_inBlock))
  | ret f => exact fun k cs hc => by obtain ⟨k', hs⟩ := e1 (.inBlock id :: k) cs hc; exact ⟨k', .head s_block hs⟩
/-- a frame that says no more -/
noncomputable def leF (f f1 : L2) : Bool := Bool.rec (motive := fun _ => Bool) false ((List.range 250).all fun t => leN 8 (f.get t) (f1.get t)) (match f.get dslot, f1.get dslot with | .tup [], .tup [] => true | _, _ => false)
theorem leF_get (hh : leF f f1 = true) : f.get dslot = .tup [] ∧ f1.get dslot = .tup [] ∧ ∀ t, t < 250 → leN 8 (f.get t) (f1.get t) = true := by
  obtain ⟨h1, h2⟩ := iteB hh
  split at h1
  · rename_i e1 e2
    exact ⟨e1, e2, fun t ht => List.all_eq_true.1 h2 t (List.mem_range.2 ht)⟩
  · cases h1
noncomputable def pieceTo (n : Nat) (out : PO) (r : RC) : Bool := match out, r with
  | .nrm f1, .nrm f h => Bool.rec (motive := fun _ => Bool) false (Bool.rec (motive := fun _ => Bool) false (lgOk n h.lg) (Nat.ble h.nx 262144)) (leF f f1)
  | .ret f1, .ret f h => Bool.rec (motive := fun _ => Bool) false (Bool.rec (motive := fun _ => Bool) false (lgOk n h.lg) (Nat.ble h.nx 262144)) (leF f f1)
  | _, _ => false
theorem pieceTo_get {n : Nat} {out : PO} {r : RC} (hh : pieceTo n out r = true) : ∃ f h, Fin r f h ∧ h.nx ≤ lim ∧ (∀ x ∈ h.lg, n ≤ x) ∧ leF f out.fr = true ∧ ((r = .nrm f h ∧ out = .nrm out.fr) ∨ (r = .ret f h ∧ out = .ret out.fr)) := by
  unfold pieceTo at hh
  split at hh
  · rename_i f1 f h
    obtain ⟨h1, h2⟩ := iteB hh
    obtain ⟨h3, h4⟩ := iteB h2
    exact ⟨f, h, .inl rfl, ble_le h3, lgOk_get h4, h1, .inl ⟨rfl, rfl⟩⟩
  · rename_i f1 f h
    obtain ⟨h1, h2⟩ := iteB hh
    obtain ⟨h3, h4⟩ := iteB h2
    exact ⟨f, h, .inr (.inr rfl), ble_le h3, lgOk_get h4, h1, .inr ⟨rfl, rfl⟩⟩
  · cases hh
theorem piece_of_run (hc : CtxSound P P.globals.size ctx) (hmx : P.follows .mixedOrders = true) (hn : P.globals.size ≤ lim) (hok : glOk P.globals.size gl = true) (hnt : nt < 250) (hco : codeOk P.globals.size nt c = true) {out : PO}
    (hr : pieceTo P.globals.size out (exec c P ctx f0 (glH gl P.globals.size)) = true) : Piece P gl nt g c f0 out := by
  obtain ⟨f1, h1, hfin, hl, hlg, hle, hout⟩ := pieceTo_get hr
  intro w a kind hw hf
  obtain ⟨hms, hg⟩ := wok_ms hw hn hok
  have hfree : Free (sig0 P.globals.size w) (glH gl P.globals.size) h1 := by
    intro x h2 h3
    have h2' : P.globals.size ≤ x := h2
    unfold sig0
    rw [if_neg (by omega)]
  obtain ⟨σ', a', w', q1, q2, q3, q4⟩ := code_runs (b := ⟨g, kind, none⟩) hc hmx hnt c hco (sig0 P.globals.size w) f0 a (glH gl P.globals.size) w f1 h1 _ rfl hfin ⟨hf.rel _, hg, hms.ai, hms.so, hms.ma⟩ (.inl ⟨rfl, [], hf.ds⟩) hl hfree
  obtain ⟨nw, s1, s2, s3⟩ := q3
  have hnw : h1.lg = nw := by rw [s1.lg]; simp [glH]
  obtain ⟨e1, e2, e3⟩ := leF_get hle
  refine ⟨a', w', ⟨s2.grow, fun c hc2 => s2.frame c hc2 ?_, s2.io⟩, ⟨q1.fr.size, fun t ht σ => leN_rel 8 _ _ _ σ' σ (e3 t ht) (q1.fr.slot t ht), e2, ?_⟩, ?_⟩
  · intro x hx e hxe
    have h5 := (sig0_some hxe).1
    have h6 := hlg x (by rw [hnw]; exact hx)
    omega
  · have hd := q1.fr.defers
    rw [e1] at hd
    generalize a'.defers = dd at hd
    cases hd
    rfl
  · rcases hout with ⟨hr, ho⟩ | ⟨hr, ho⟩
    · rw [hr] at q4
      rw [ho]
      exact q4
    · rw [hr] at q4
      rw [ho]
      exact q4
/-- the results, out of a frame -/
noncomputable def resTo (P : Program) (gl : List GE) (rs : List ResultVar) (f : L2) (v : AV) : Bool := match resultsA P f (glH gl P.globals.size) rs with | some l => leN 8 (single l) v | none => false
theorem call_of_piece (hn : P.globals.size ≤ lim) (hok : glOk P.globals.size gl = true) (hp : progOk P = true) {fn : Func} {args : List AV} (hfn : P.funcs[g]? = some fn) (hb : fn.body = some c) (hlen : args.length ≤ fn.ntmps) {out : PO}
    (hpc : Piece P gl fn.ntmps g c (putArgs args 0 frame0) out) (hres : resTo P gl fn.results.toList out.fr v = true) : OrcOk P gl ⟨g, args, v⟩ := by
  intro w args' kind hw har
  obtain ⟨hnt, hrs, _⟩ := progOk_fn hp hfn hb
  have hfr : Fr fn.ntmps (putArgs args 0 frame0) ⟨args' ++ Array.replicate (fn.ntmps - args'.size) undef, []⟩ := by
    have h1 := fun σ => enter_rel (σ := σ) (nt := fn.ntmps) (har σ) hlen hnt
    refine ⟨(h1 (fun _ => none)).size, fun t ht σ => (h1 σ).slot t ht, ?_, rfl⟩
    rw [putArgs_get args 0 frame0 (by omega) dslot (by decide), if_neg (by intro hh; have h1 : (255 : Nat) < 0 + args.length := hh.2; omega)]
    unfold frame0
    rw [L2.get_set dslot dslot _ _ (by decide) (by decide), if_pos rfl]
  obtain ⟨a', w', k1, r1, e1⟩ := hpc w _ kind hw hfr
  have hms := (wok_ms (hw.kept k1) hn hok).1
  unfold resTo at hres
  split at hres
  · rename_i l hl
    obtain ⟨v', q1, q2⟩ := results_run (a := a') (fun t ht => r1.slot t ht _) hms hrs hl
    have henter : Frame.enter P g args' kind = FB.at ⟨g, kind, none⟩ ⟨args' ++ Array.replicate (fn.ntmps - args'.size) undef, []⟩ [.code c] := by
      simp [Frame.enter, FB.at, hfn, hb]
    refine ⟨v', w', a', fn, hfn, fun σ => leN_rel 8 _ _ _ _ σ hres q2, k1, r1.df, q1, fun cs hcm => ?_⟩
    rw [henter]
    cases out with
    | nrm f => exact ⟨_, (e1 [] cs hcm).trans (.one (s_end rfl))⟩
    | ret f => obtain ⟨k', hs⟩ := e1 [] cs hcm; exact ⟨_, hs.trans (.one (s_ret rfl))⟩
  · cases hres
/-- a frame, by its slots; the others are unknown -/
noncomputable def frameOf (l : List (Nat × AV)) : L2 := List.rec (motive := fun _ => L2) ((L2.all (L1.all .top)).set dslot (.tup [])) (fun p _ ih => ih.set p.1 p.2) l
/-- the parts of a code -/
def cL : Code → Code
  | .seq x _ => x
  | .scope x => x
  | .block _ x => x
  | c => c
def cR : Code → Code
  | .seq _ y => y
  | c => c
def isSeq : Code → Bool
  | .seq _ _ => true
  | _ => false
theorem seq_of {c : Code} (h : isSeq c = true) : c = .seq (cL c) (cR c) := by
  cases c <;> first | rfl | (cases h; done)
def bodyOf (P : Program) (g : FuncId) : Code := match P.funcs[g]? with | some fn => fn.body.getD .skip | none => .skip
end Go.Ev
