/- Runs in batches, and runs of pieces of a function's code. -/
import Derived.Test.YtnefaadihgbobaaGreatDoorEvTop
set_option linter.unusedSimpArgs false
set_option linter.unusedVariables false
namespace Go.Ev
variable {P : Program} {G : Nat} {σ σ' : Sig} {h h' : H} {w w' : World} {v : AV} {nt : Nat} {f f' f0 f1 f2 : L2} {a a' : Act} {ctx : CallT} {cs : List Frame} {gl : List GE} {g : FuncId} {c x y : Code}

/-- calls in their order, each with those before it looked up -/
noncomputable def batchOk (P : Program) (gl : List GE) (mask d : Nat) : List Orc → List Orc → Bool
  | _, [] => true
  | tab, o :: os => Bool.rec (motive := fun _ => Bool) false (Bool.rec (motive := fun _ => Bool) false (batchOk P gl mask d (o :: tab) os)
      (ranTo P.globals.size o.v ((ctxDO P gl ⟨mask, tab⟩ d).call o.g o.args (glH gl P.globals.size)))) (bodied P o.g)
theorem batch_ok (hmx : P.follows .mixedOrders = true) (hp : progOk P = true) (hn : P.globals.size ≤ lim) (hok : glOk P.globals.size gl = true) {mask d : Nat} : ∀ (os tab : List Orc), (∀ o ∈ tab, OrcOk P gl o) → batchOk P gl mask d tab os = true →
    ∀ o ∈ os, OrcOk P gl o := by
  intro os
  induction os with
  | nil => intro tab _ _ o ho; cases ho
  | cons x os ih =>
    intro tab ht hb o ho
    unfold batchOk at hb
    obtain ⟨h1, h2⟩ := iteB hb
    obtain ⟨h3, h4⟩ := iteB h2
    have hx := orc_of_run (ctxDO_sound (tab := ⟨mask, tab⟩) hmx hp hok ht d) hn hok x h1 h3
    rcases List.mem_cons.1 ho with rfl | ho
    · exact hx
    · exact ih (x :: tab) (fun o ho => by rcases List.mem_cons.1 ho with rfl | ho; exact hx; exact ht o ho) h4 o ho
theorem all_app {l m : List Orc} (h1 : ∀ o ∈ l, OrcOk P gl o) (h2 : ∀ o ∈ m, OrcOk P gl o) : ∀ o ∈ l ++ m, OrcOk P gl o := fun o ho => (List.mem_append.1 ho).elim (h1 o) (h2 o)

/- PIECES -/
/-- a frame without addresses -/
structure Fr (nt : Nat) (f : L2) (a : Act) : Prop where
  size : a.tmps.size = nt
  slot : ∀ t, t < 250 → ∀ σ, VRel σ (f.get t) (a.tmps.getD t undef)
  ds : f.get dslot = .tup []
  df : a.defers = []
theorem Fr.rel (hf : Fr nt f a) (σ : Sig) : FRel σ nt f a := ⟨hf.size, fun t ht => hf.slot t ht σ, by rw [hf.ds, hf.df]; exact .nil⟩
/-- how a piece ends -/
inductive PO where
  | nrm (f : L2)
  | ret (f : L2)
def PO.fr : PO → L2
  | .nrm f => f
  | .ret f => f
def PEnds (P : Program) (b : FB) (c : Code) (a : Act) (w : World) (a' : Act) (w' : World) : PO → Prop
  | .nrm _ => ∀ k cs, Calm b cs → Steps P (lone (b.at a (.code c :: k)) cs w) (lone (b.at a' k) cs w')
  | .ret _ => ∀ k cs, Calm b cs → ∃ k', Steps P (lone (b.at a (.code c :: k)) cs w) (lone (b.at a' (.code .ret :: k')) cs w')
def Piece (P : Program) (gl : List GE) (nt : Nat) (g : FuncId) (c : Code) (f0 : L2) (out : PO) : Prop := ∀ (w : World) (a : Act) (kind : CallKind), WOk P gl w → Fr nt f0 a →
  ∃ a' w', Kept w w' ∧ Fr nt out.fr a' ∧ PEnds P ⟨g, kind, none⟩ c a w a' w' out
theorem Kept.trans {w1 w2 : World} (h1 : Kept w w1) (h2 : Kept w1 w2) : Kept w w2 :=
  ⟨Nat.le_trans h1.grow h2.grow, fun c hc => by rw [h2.same c (Nat.lt_of_lt_of_le hc h1.grow), h1.same c hc], h2.io.1.trans h1.io.1, h2.io.2.trans h1.io.2⟩
theorem Piece.seq {out : PO} (h1 : Piece P gl nt g x f0 (.nrm f1)) (h2 : Piece P gl nt g y f1 out) : Piece P gl nt g (.seq x y) f0 out := by
  intro w a kind hw hf
  obtain ⟨a1, w1, k1, r1, e1⟩ := h1 w a kind hw hf
  obtain ⟨a2, w2, k2, r2, e2⟩ := h2 w1 a1 kind (hw.kept k1) r1
  refine ⟨a2, w2, k1.trans k2, r2, ?_⟩
  cases out with
  | nrm f => exact fun k cs hc => .head s_seq ((e1 (.code y :: k) cs hc).trans (e2 k cs hc))
  | ret f => exact fun k cs hc => by obtain ⟨k', hs⟩ := e2 k cs hc; exact ⟨k', .head s_seq ((e1 (.code y :: k) cs hc).trans hs)⟩
/-- a piece that returns leaves out what follows -/
theorem Piece.ret (h1 : Piece P gl nt g x f0 (.ret f1)) : Piece P gl nt g (.seq x y) f0 (.ret f1) := by
  intro w a kind hw hf
  obtain ⟨a1, w1, k1, r1, e1⟩ := h1 w a kind hw hf
  exact ⟨a1, w1, k1, r1, fun k cs hc => by obtain ⟨k', hs⟩ := e1 (.code y :: k) cs hc; exact ⟨k', .head s_seq hs⟩⟩
theorem Piece.scope {out : PO} (h1 : Piece P gl nt g x f0 out) : Piece P gl nt g (.scope x) f0 out := by
  intro w a kind hw hf
  obtain ⟨a1, w1, k1, r1, e1⟩ := h1 w a kind hw hf
  refine ⟨a1, w1, k1, r1, ?_⟩
  cases out with
  | nrm f => exact fun k cs hc => .head s_scope ((e1 (.inScope x :: k) cs hc).trans (.one s_inScope))
  | ret f => exact fun k cs hc => by obtain ⟨k', hs⟩ := e1 (.inScope x :: k) cs hc; exact ⟨k', .head s_scope hs⟩
theorem Piece.block {out : PO} {id : Nat} (h1 : Piece P gl nt g x f0 out) : Piece P gl nt g (.block id x) f0 out := by
  intro w a kind hw hf
  obtain ⟨a1, w1, k1, r1, e1⟩ := h1 w a kind hw hf
  refine ⟨a1, w1, k1, r1, ?_⟩
  cases out with
  | nrm f => exact fun k cs hc => .head s_block ((e1 (.inBlock id :: k) cs hc).trans (.one s_inBlock))
  | ret f => exact fun k cs hc => by obtain ⟨k', hs⟩ := e1 (.inBlock id :: k) cs hc; exact ⟨k', .head s_block hs⟩
/-- a frame that says no more -/
noncomputable def leF (f f1 : L2) : Bool := Bool.rec (motive := fun _ => Bool) false ((List.range 250).all fun t => leN 8 (f.get t) (f1.get t)) (match f.get dslot, f1.get dslot with | .tup [], .tup [] => true | _, _ => false)
theorem leF_get (hh : leF f f1 = true) : f.get dslot = .tup [] ∧ f1.get dslot = .tup [] ∧ ∀ t, t < 250 → leN 8 (f.get t) (f1.get t) = true := by
  obtain ⟨h1, h2⟩ := iteB hh
  split at h1
  · rename_i e1 e2
    exact ⟨e1, e2, fun t ht => List.all_eq_true.1 h2 t (List.mem_range.2 ht)⟩
  · cases h1
noncomputable def pieceTo (n : Nat) (out : PO) (r : RC) : Bool := match out, r with
  | .nrm f1, .nrm f h => Bool.rec (motive := fun _ => Bool) false (Bool.rec (motive := fun _ => Bool) false (lgOk n h.lg) (Nat.ble h.nx 262144)) (leF f f1)
  | .ret f1, .ret f h => Bool.rec (motive := fun _ => Bool) false (Bool.rec (motive := fun _ => Bool) false (lgOk n h.lg) (Nat.ble h.nx 262144)) (leF f f1)
  | _, _ => false
theorem pieceTo_get {n : Nat} {out : PO} {r : RC} (hh : pieceTo n out r = true) : ∃ f h, Fin r f h ∧ h.nx ≤ lim ∧ (∀ x ∈ h.lg, n ≤ x) ∧ leF f out.fr = true ∧ ((r = .nrm f h ∧ out = .nrm out.fr) ∨ (r = .ret f h ∧ out = .ret out.fr)) := by
  unfold pieceTo at hh
  split at hh
  · rename_i f1 f h
    obtain ⟨h1, h2⟩ := iteB hh
    obtain ⟨h3, h4⟩ := iteB h2
    exact ⟨f, h, .inl rfl, ble_le h3, lgOk_get h4, h1, .inl ⟨rfl, rfl⟩⟩
  · rename_i f1 f h
    obtain ⟨h1, h2⟩ := iteB hh
    obtain ⟨h3, h4⟩ := iteB h2
    exact ⟨f, h, .inr (.inr rfl), ble_le h3, lgOk_get h4, h1, .inr ⟨rfl, rfl⟩⟩
  · cases hh
theorem piece_of_run (hc : CtxSound P P.globals.size ctx) (hmx : P.follows .mixedOrders = true) (hn : P.globals.size ≤ lim) (hok : glOk P.globals.size gl = true) (hnt : nt < 250) (hco : codeOk P.globals.size nt c = true) {out : PO}
    (hr : pieceTo P.globals.size out (exec c P ctx f0 (glH gl P.globals.size)) = true) : Piece P gl nt g c f0 out := by
  obtain ⟨f1, h1, hfin, hl, hlg, hle, hout⟩ := pieceTo_get hr
  intro w a kind hw hf
  obtain ⟨hms, hg⟩ := wok_ms hw hn hok
  have hfree : Free (sig0 P.globals.size w) (glH gl P.globals.size) h1 := by
    intro x h2 h3
    have h2' : P.globals.size ≤ x := h2
    unfold sig0
    rw [if_neg (by omega)]
  obtain ⟨σ', a', w', q1, q2, q3, q4⟩ := code_runs (b := ⟨g, kind, none⟩) hc hmx hnt c hco (sig0 P.globals.size w) f0 a (glH gl P.globals.size) w f1 h1 _ rfl hfin ⟨hf.rel _, hg, hms.ai, hms.so, hms.ma⟩ (.inl ⟨rfl, [], hf.ds⟩) hl hfree
  obtain ⟨nw, s1, s2, s3⟩ := q3
  have hnw : h1.lg = nw := by rw [s1.lg]; simp [glH]
  obtain ⟨e1, e2, e3⟩ := leF_get hle
  refine ⟨a', w', ⟨s2.grow, fun c hc2 => s2.frame c hc2 ?_, s2.io⟩, ⟨q1.fr.size, fun t ht σ => leN_rel 8 _ _ _ σ' σ (e3 t ht) (q1.fr.slot t ht), e2, ?_⟩, ?_⟩
  · intro x hx e hxe
    have h5 := (sig0_some hxe).1
    have h6 := hlg x (by rw [hnw]; exact hx)
    omega
  · have hd := q1.fr.defers
    rw [e1] at hd
    generalize a'.defers = dd at hd
    cases hd
    rfl
  · rcases hout with ⟨hr, ho⟩ | ⟨hr, ho⟩
    · rw [hr] at q4
      rw [ho]
      exact q4
    · rw [hr] at q4
      rw [ho]
      exact q4
/-- codes one after the other, ahead of another -/
def seqs : List Code → Code → Code
  | [], r => r
  | c :: l, r => .seq c (seqs l r)
noncomputable def execL : List Code → Program → CallT → L2 → H → RC
  | [], _, _ => RC.nrm
  | c :: l, P, ctx => fun f h => andThen (execL l P ctx) (exec c P ctx f h)
theorem mono_execL (hc : CtxMono ctx) : ∀ (l : List Code) (f : L2) (h : H), MonoC h (execL l P ctx f h) := by
  intro l
  induction l with
  | nil => exact fun f h => .nrm _ (Nat.le_refl _)
  | cons c l ih => exact fun f h => .andThen (mono_exec hc c f h) ih
theorem execL_runs {b : FB} (hc : CtxSound P G ctx) (hmx : P.follows .mixedOrders = true) (hnt : nt < 250) (r : Code) : ∀ (l : List Code), (∀ c ∈ l, codeOk G nt c = true) →
    RunsTo P G nt b (fun k => .code (seqs l r) :: k) (fun k => .code r :: k) (execL l P ctx) := by
  intro l
  induction l with
  | nil =>
    intro _ σ f a h w f' h' r' he hfin hs hb hl hf
    have he' : RC.nrm f h = r' := he
    subst he'
    obtain ⟨rfl, rfl⟩ := fin_nrm hfin
    exact ⟨σ, a, w, hs, hb, Out.refl hs.ai hs.so hs.ma, fun k cs _ => .refl P _⟩
  | cons c l ih =>
    intro hok
    have h1 := (code_runs (b := b) hc hmx hnt c (hok c (by simp))).under (.code (seqs l r)) (fun id hh => by cases hh)
    have h2 := RunsTo.andThen (mid := fun k => .code (seqs l r) :: k) h1 (fun f h => mono_execL hc.mono l f h) (ih (fun c hc => hok c (by simp [hc])))
    exact h2.head (fun a w k cs => s_seq)
/-- a run of the first codes of a sequence -/
theorem Piece.first (hc : CtxSound P P.globals.size ctx) (hmx : P.follows .mixedOrders = true) (hn : P.globals.size ≤ lim) (hok : glOk P.globals.size gl = true) (hnt : nt < 250) {l : List Code} {r : Code} (hco : l.all (codeOk P.globals.size nt) = true)
    (hr : pieceTo P.globals.size (.nrm f1) (execL l P ctx f0 (glH gl P.globals.size)) = true) {out : PO} (hrest : Piece P gl nt g r f1 out) : Piece P gl nt g (seqs l r) f0 out := by
  obtain ⟨f2, h1, hfin, hl, hlg, hle, hout⟩ := pieceTo_get hr
  intro w a kind hw hf
  obtain ⟨hms, hg⟩ := wok_ms hw hn hok
  have hfree : Free (sig0 P.globals.size w) (glH gl P.globals.size) h1 := by
    intro x h2 h3
    have h2' : P.globals.size ≤ x := h2
    unfold sig0
    rw [if_neg (by omega)]
  obtain ⟨σ', a', w', q1, q2, q3, q4⟩ := execL_runs (b := ⟨g, kind, none⟩) hc hmx hnt r l (List.all_eq_true.1 hco) (sig0 P.globals.size w) f0 a (glH gl P.globals.size) w f2 h1 _ rfl hfin ⟨hf.rel _, hg, hms.ai, hms.so, hms.ma⟩ (.inl ⟨rfl, [], hf.ds⟩) hl hfree
  obtain ⟨nw, s1, s2, s3⟩ := q3
  have hnw : h1.lg = nw := by rw [s1.lg]; simp [glH]
  obtain ⟨e1, e2, e3⟩ := leF_get hle
  have hkept : Kept w w' := by
    refine ⟨s2.grow, fun c hc2 => s2.frame c hc2 ?_, s2.io⟩
    intro x hx e hxe
    have h5 := (sig0_some hxe).1
    have h6 := hlg x (by rw [hnw]; exact hx)
    omega
  have hfr : Fr nt f1 a' := by
    refine ⟨q1.fr.size, fun t ht σ => leN_rel 8 _ _ _ σ' σ (e3 t ht) (q1.fr.slot t ht), e2, ?_⟩
    have hd := q1.fr.defers
    rw [e1] at hd
    generalize a'.defers = dd at hd
    cases hd
    rfl
  have hsteps : ∀ k cs, Calm ⟨g, kind, none⟩ cs → Steps P (lone (FB.at ⟨g, kind, none⟩ a (.code (seqs l r) :: k)) cs w) (lone (FB.at ⟨g, kind, none⟩ a' (.code r :: k)) cs w') := by
    rcases hout with ⟨hr, _⟩ | ⟨hr, ho⟩
    · rw [hr] at q4
      exact q4
    · cases ho
  obtain ⟨a2, w2, k2, r2, p2⟩ := hrest w' a' kind (hw.kept hkept) hfr
  refine ⟨a2, w2, hkept.trans k2, r2, ?_⟩
  cases out with
  | nrm f => exact fun k cs hc => (hsteps k cs hc).trans (p2 k cs hc)
  | ret f => exact fun k cs hc => by obtain ⟨k', hs⟩ := p2 k cs hc; exact ⟨k', (hsteps k cs hc).trans hs⟩
/-- the results, out of a frame -/
noncomputable def resTo (P : Program) (gl : List GE) (rs : List ResultVar) (f : L2) (v : AV) : Bool := match resultsA P f (glH gl P.globals.size) rs with | some l => leN 8 (single l) v | none => false
theorem call_of_piece (hn : P.globals.size ≤ lim) (hok : glOk P.globals.size gl = true) (hp : progOk P = true) {fn : Func} {args : List AV} (hfn : P.funcs[g]? = some fn) (hb : fn.body = some c) (hlen : args.length ≤ fn.ntmps) {out : PO}
    (hpc : Piece P gl fn.ntmps g c (putArgs args 0 frame0) out) (hres : resTo P gl fn.results.toList out.fr v = true) : OrcOk P gl ⟨g, args, v⟩ := by
  intro w args' kind hw har
  obtain ⟨hnt, hrs, _⟩ := progOk_fn hp hfn hb
  have hfr : Fr fn.ntmps (putArgs args 0 frame0) ⟨args' ++ Array.replicate (fn.ntmps - args'.size) undef, []⟩ := by
    have h1 := fun σ => enter_rel (σ := σ) (nt := fn.ntmps) (har σ) hlen hnt
    refine ⟨(h1 (fun _ => none)).size, fun t ht σ => (h1 σ).slot t ht, ?_, rfl⟩
    rw [putArgs_get args 0 frame0 (by omega) dslot (by decide), if_neg (by intro hh; have h1 : (255 : Nat) < 0 + args.length := hh.2; omega)]
    unfold frame0
    rw [L2.get_set dslot dslot _ _ (by decide) (by decide), if_pos rfl]
  obtain ⟨a', w', k1, r1, e1⟩ := hpc w _ kind hw hfr
  have hms := (wok_ms (hw.kept k1) hn hok).1
  unfold resTo at hres
  split at hres
  · rename_i l hl
    obtain ⟨v', q1, q2⟩ := results_run (a := a') (fun t ht => r1.slot t ht _) hms hrs hl
    have henter : Frame.enter P g args' kind = FB.at ⟨g, kind, none⟩ ⟨args' ++ Array.replicate (fn.ntmps - args'.size) undef, []⟩ [.code c] := by
      simp [Frame.enter, FB.at, hfn, hb]
    refine ⟨v', w', a', fn, hfn, fun σ => leN_rel 8 _ _ _ _ σ hres q2, k1, r1.df, q1, fun cs hcm => ?_⟩
    rw [henter]
    cases out with
    | nrm f => exact ⟨_, (e1 [] cs hcm).trans (.one (s_end rfl))⟩
    | ret f => obtain ⟨k', hs⟩ := e1 [] cs hcm; exact ⟨_, hs.trans (.one (s_ret rfl))⟩
  · cases hres
/-- a frame, by its slots; the others are unknown -/
noncomputable def frameOf (l : List (Nat × AV)) : L2 := List.rec (motive := fun _ => L2) ((L2.all (L1.all .top)).set dslot (.tup [])) (fun p _ ih => ih.set p.1 p.2) l
/-- the parts of a code -/
def cL : Code → Code
  | .seq x _ => x
  | .scope x => x
  | .block _ x => x
  | c => c
def cR : Code → Code
  | .seq _ y => y
  | c => c
/-- what is left of a sequence behind n codes, and the codes -/
def cDrop : Nat → Code → Code
  | 0, c => c
  | n + 1, c => cDrop n (cR c)
def cTake : Nat → Code → List Code
  | 0, _ => []
  | n + 1, c => cL c :: cTake n (cR c)
def isSeqs : Nat → Code → Bool
  | 0, _ => true
  | n + 1, .seq _ y => isSeqs n y
  | _ + 1, _ => false
theorem seqs_of : ∀ (n : Nat) (c : Code), isSeqs n c = true → c = seqs (cTake n c) (cDrop n c) := by
  intro n
  induction n with
  | zero => intro c _; rfl
  | succ n ih =>
    intro c h
    cases c with
    | seq x y =>
      show Code.seq x y = .seq x (seqs (cTake n y) (cDrop n y))
      rw [← ih y h]
    | _ => cases h
theorem cDrop_add (m : Nat) : ∀ (n : Nat) (c : Code), cDrop m (cDrop n c) = cDrop (n + m) c := by
  intro n
  induction n with
  | zero => intro c; rw [Nat.zero_add]; rfl
  | succ n ih =>
    intro c
    have : n + 1 + m = (n + m) + 1 := by omega
    rw [this]
    exact ih (cR c)
/-- from the n-th code of a sequence on: m codes, and the rest -/
theorem Piece.step (hc : CtxSound P P.globals.size ctx) (hmx : P.follows .mixedOrders = true) (hn : P.globals.size ≤ lim) (hok : glOk P.globals.size gl = true) (hnt : nt < 250) {n m k : Nat} (hk : k = n + m) (hq : isSeqs m (cDrop n c) = true)
    (hco : (cTake m (cDrop n c)).all (codeOk P.globals.size nt) = true) (hr : pieceTo P.globals.size (.nrm f1) (execL (cTake m (cDrop n c)) P ctx f0 (glH gl P.globals.size)) = true) {out : PO}
    (hrest : Piece P gl nt g (cDrop k c) f1 out) : Piece P gl nt g (cDrop n c) f0 out := by
  rw [seqs_of m (cDrop n c) hq]
  refine Piece.first hc hmx hn hok hnt hco hr ?_
  rw [cDrop_add m n c, ← hk]
  exact hrest
def isSeq : Code → Bool
  | .seq _ _ => true
  | _ => false
theorem seq_of {c : Code} (h : isSeq c = true) : c = .seq (cL c) (cR c) := by
  cases c <;> first | rfl | (cases h; done)
def bodyOf (P : Program) (g : FuncId) : Code := match P.funcs[g]? with | some fn => fn.body.getD .skip | none => .skip
end Go.Ev

/- The evaluator, staged: what of a code does not change from run to run is taken apart once, so that the kernel can keep it. It comes to the same. -/
set_option linter.unusedSimpArgs false
set_option linter.unusedVariables false
namespace Go.Ev
noncomputable section
structure GW where
  g : L2 → AV
structure SW where
  s : AV → L2 → L2
structure OW where
  k : CallT → L2 → H → OR
structure W where
  r : CallT → L2 → H → RC
def W.go (w : W) : CallT → L2 → H → RC := W.rec (motive := fun _ => CallT → L2 → H → RC) (fun r => r) w

def L2.m0 (g : L1 → L1) (s : L2) : L2 := L2.rec (motive := fun _ => L2) (fun a0 a1 a2 a3 a4 a5 a6 a7 a8 a9 a10 a11 a12 a13 a14 a15 => ⟨g a0, a1, a2, a3, a4, a5, a6, a7, a8, a9, a10, a11, a12, a13, a14, a15⟩) s
def L2.m1 (g : L1 → L1) (s : L2) : L2 := L2.rec (motive := fun _ => L2) (fun a0 a1 a2 a3 a4 a5 a6 a7 a8 a9 a10 a11 a12 a13 a14 a15 => ⟨a0, g a1, a2, a3, a4, a5, a6, a7, a8, a9, a10, a11, a12, a13, a14, a15⟩) s
def L2.m2 (g : L1 → L1) (s : L2) : L2 := L2.rec (motive := fun _ => L2) (fun a0 a1 a2 a3 a4 a5 a6 a7 a8 a9 a10 a11 a12 a13 a14 a15 => ⟨a0, a1, g a2, a3, a4, a5, a6, a7, a8, a9, a10, a11, a12, a13, a14, a15⟩) s
def L2.m3 (g : L1 → L1) (s : L2) : L2 := L2.rec (motive := fun _ => L2) (fun a0 a1 a2 a3 a4 a5 a6 a7 a8 a9 a10 a11 a12 a13 a14 a15 => ⟨a0, a1, a2, g a3, a4, a5, a6, a7, a8, a9, a10, a11, a12, a13, a14, a15⟩) s
def L2.m4 (g : L1 → L1) (s : L2) : L2 := L2.rec (motive := fun _ => L2) (fun a0 a1 a2 a3 a4 a5 a6 a7 a8 a9 a10 a11 a12 a13 a14 a15 => ⟨a0, a1, a2, a3, g a4, a5, a6, a7, a8, a9, a10, a11, a12, a13, a14, a15⟩) s
def L2.m5 (g : L1 → L1) (s : L2) : L2 := L2.rec (motive := fun _ => L2) (fun a0 a1 a2 a3 a4 a5 a6 a7 a8 a9 a10 a11 a12 a13 a14 a15 => ⟨a0, a1, a2, a3, a4, g a5, a6, a7, a8, a9, a10, a11, a12, a13, a14, a15⟩) s
def L2.m6 (g : L1 → L1) (s : L2) : L2 := L2.rec (motive := fun _ => L2) (fun a0 a1 a2 a3 a4 a5 a6 a7 a8 a9 a10 a11 a12 a13 a14 a15 => ⟨a0, a1, a2, a3, a4, a5, g a6, a7, a8, a9, a10, a11, a12, a13, a14, a15⟩) s
def L2.m7 (g : L1 → L1) (s : L2) : L2 := L2.rec (motive := fun _ => L2) (fun a0 a1 a2 a3 a4 a5 a6 a7 a8 a9 a10 a11 a12 a13 a14 a15 => ⟨a0, a1, a2, a3, a4, a5, a6, g a7, a8, a9, a10, a11, a12, a13, a14, a15⟩) s
def L2.m8 (g : L1 → L1) (s : L2) : L2 := L2.rec (motive := fun _ => L2) (fun a0 a1 a2 a3 a4 a5 a6 a7 a8 a9 a10 a11 a12 a13 a14 a15 => ⟨a0, a1, a2, a3, a4, a5, a6, a7, g a8, a9, a10, a11, a12, a13, a14, a15⟩) s
def L2.m9 (g : L1 → L1) (s : L2) : L2 := L2.rec (motive := fun _ => L2) (fun a0 a1 a2 a3 a4 a5 a6 a7 a8 a9 a10 a11 a12 a13 a14 a15 => ⟨a0, a1, a2, a3, a4, a5, a6, a7, a8, g a9, a10, a11, a12, a13, a14, a15⟩) s
def L2.m10 (g : L1 → L1) (s : L2) : L2 := L2.rec (motive := fun _ => L2) (fun a0 a1 a2 a3 a4 a5 a6 a7 a8 a9 a10 a11 a12 a13 a14 a15 => ⟨a0, a1, a2, a3, a4, a5, a6, a7, a8, a9, g a10, a11, a12, a13, a14, a15⟩) s
def L2.m11 (g : L1 → L1) (s : L2) : L2 := L2.rec (motive := fun _ => L2) (fun a0 a1 a2 a3 a4 a5 a6 a7 a8 a9 a10 a11 a12 a13 a14 a15 => ⟨a0, a1, a2, a3, a4, a5, a6, a7, a8, a9, a10, g a11, a12, a13, a14, a15⟩) s
def L2.m12 (g : L1 → L1) (s : L2) : L2 := L2.rec (motive := fun _ => L2) (fun a0 a1 a2 a3 a4 a5 a6 a7 a8 a9 a10 a11 a12 a13 a14 a15 => ⟨a0, a1, a2, a3, a4, a5, a6, a7, a8, a9, a10, a11, g a12, a13, a14, a15⟩) s
def L2.m13 (g : L1 → L1) (s : L2) : L2 := L2.rec (motive := fun _ => L2) (fun a0 a1 a2 a3 a4 a5 a6 a7 a8 a9 a10 a11 a12 a13 a14 a15 => ⟨a0, a1, a2, a3, a4, a5, a6, a7, a8, a9, a10, a11, a12, g a13, a14, a15⟩) s
def L2.m14 (g : L1 → L1) (s : L2) : L2 := L2.rec (motive := fun _ => L2) (fun a0 a1 a2 a3 a4 a5 a6 a7 a8 a9 a10 a11 a12 a13 a14 a15 => ⟨a0, a1, a2, a3, a4, a5, a6, a7, a8, a9, a10, a11, a12, a13, g a14, a15⟩) s
def L2.m15 (g : L1 → L1) (s : L2) : L2 := L2.rec (motive := fun _ => L2) (fun a0 a1 a2 a3 a4 a5 a6 a7 a8 a9 a10 a11 a12 a13 a14 a15 => ⟨a0, a1, a2, a3, a4, a5, a6, a7, a8, a9, a10, a11, a12, a13, a14, g a15⟩) s
def pk1 (R : Type) (k : (L1 → AV) → R) (d : D16) : R := D16.rec (motive := fun _ => R) (k L1.a0) (k L1.a1) (k L1.a2) (k L1.a3) (k L1.a4) (k L1.a5) (k L1.a6) (k L1.a7) (k L1.a8) (k L1.a9) (k L1.a10) (k L1.a11) (k L1.a12) (k L1.a13) (k L1.a14) (k L1.a15) d
def pk2 (R : Type) (k : (L2 → L1) → R) (d : D16) : R := D16.rec (motive := fun _ => R) (k L2.a0) (k L2.a1) (k L2.a2) (k L2.a3) (k L2.a4) (k L2.a5) (k L2.a6) (k L2.a7) (k L2.a8) (k L2.a9) (k L2.a10) (k L2.a11) (k L2.a12) (k L2.a13) (k L2.a14) (k L2.a15) d
def pu1 (R : Type) (k : (L1 → AV → L1) → R) (d : D16) : R := D16.rec (motive := fun _ => R) (k L1.u0) (k L1.u1) (k L1.u2) (k L1.u3) (k L1.u4) (k L1.u5) (k L1.u6) (k L1.u7) (k L1.u8) (k L1.u9) (k L1.u10) (k L1.u11) (k L1.u12) (k L1.u13) (k L1.u14) (k L1.u15) d
def pm2 (R : Type) (k : ((L1 → L1) → L2 → L2) → R) (d : D16) : R := D16.rec (motive := fun _ => R) (k L2.m0) (k L2.m1) (k L2.m2) (k L2.m3) (k L2.m4) (k L2.m5) (k L2.m6) (k L2.m7) (k L2.m8) (k L2.m9) (k L2.m10) (k L2.m11) (k L2.m12) (k L2.m13) (k L2.m14) (k L2.m15) d
def getW (t : Nat) : GW := pk1 GW (fun a => pk2 GW (fun b => ⟨fun f => a (b f)⟩) (dig16 (Nat.div t 16))) (dig16 (Nat.mod t 16))
def setW (t : Nat) : SW := pu1 SW (fun u => pm2 SW (fun m => ⟨fun v f => m (fun l => u l v) f⟩) (dig16 (Nat.div t 16))) (dig16 (Nat.mod t 16))
def rdW (x : Operand) : GW := Operand.rec (motive := fun _ => GW) getW (fun v => ⟨fun _ => absV v⟩) (fun g => ⟨fun _ => .ptr g 0⟩) (fun f => ⟨fun _ => .fn (.func f) [] []⟩) x
def withG (R : Type) (k : (L2 → AV) → R) (x : Operand) : R := GW.rec (motive := fun _ => R) k (rdW x)
def dstW (d : Option Tmp) : SW := Option.rec (motive := fun _ => SW) ⟨fun _ f => f⟩ setW d
def kMove (P : Program) (ty : TypeId) (x : Operand) : OW := withG OW (fun g => ⟨fun _ f h => .ok (g f) h⟩) x
def kLoad (P : Program) (ty : TypeId) (t : TypeId) (a : Operand) : OW := withG OW (fun g => ⟨fun _ f h => ldV (g f) (ldInfo P t) h⟩) a
def kStore (P : Program) (ty : TypeId) (t : TypeId) (a x : Operand) : OW := withG OW (fun ga => withG OW (fun gx => ⟨fun _ f h => stV (ga f) (cellsOf (gx f)) (szInfo P t) h⟩) x) a
def kBin (P : Program) (ty : TypeId) (op : BinOp) (t : TypeId) (x y : Operand) (_ : TypeId) : OW :=
  withG OW (fun gx => withG OW (fun gy => ⟨fun _ f h => binD (gx f) (gx f) (gy f) op t (Bool.rec (motive := fun _ => Bool) (isConst y) true (isConst x)) P h⟩) y) x
def kFieldAddr (P : Program) (ty : TypeId) (t : TypeId) (x : Operand) (i : Nat) : OW := withG OW (fun g => ⟨fun _ f h => Option.rec (motive := fun _ => AV → H → OR) (fun _ _ => .bad 85) (fun d x h => faV x d h) (fldOff P t i) (g f) h⟩) x
def kIndexAddr (P : Program) (ty : TypeId) (t : TypeId) (x i : Operand) : OW := withG OW (fun gx => withG OW (fun gi => ⟨fun _ f h => iaX (xInfo P t) (gx f) (nat0 (gi f)) h⟩) i) x
def kExtract (P : Program) (ty : TypeId) (x : Operand) (i : Nat) : OW := withG OW (fun g => ⟨fun _ f h => exV (g f) i h⟩) x
def opK (P : Program) (ty : TypeId) (o : Op) : OW := Op.rec (motive := fun _ => OW) (kMove P ty) (kMove P ty) (fun x0 x1 x2 => ⟨oPick x0 x1 x2 ty P⟩) (fun x0 => ⟨oAlloc x0 ty P⟩) (fun x0 x1 => ⟨oBox x0 x1 ty P⟩) (fun x0 x1 => ⟨oBuild x0 x1 ty P⟩) (fun x0 x1 x2 => ⟨oBuildSlice x0 x1 x2 ty P⟩) (fun x0 x1 x2 x3 => ⟨oMapUpdate x0 x1 x2 x3 ty P⟩) (kLoad P ty) (kStore P ty) (fun _ => ⟨oBad 160 ty P⟩) (fun _ => ⟨oBad 161 ty P⟩) (fun x0 => ⟨oNilCheck x0 ty P⟩) (kBin P ty) (fun x0 x1 x2 => ⟨oUnOp x0 x1 x2 ty P⟩) (fun x0 x1 x2 => ⟨oConvert x0 x1 x2 ty P⟩) (fun _ _ => ⟨oBad 162 ty P⟩) (fun x0 x1 => ⟨oMakeIface x0 x1 ty P⟩) (fun x0 x1 x2 => ⟨oMakeFunc x0 x1 x2 ty P⟩) (fun x0 x1 => ⟨oMakeMap x0 x1 ty P⟩) (fun _ _ => ⟨oBad 163 ty P⟩) (fun x0 x1 x2 => ⟨oMakeSlice x0 x1 x2 ty P⟩) (fun x0 x1 x2 x3 x4 => ⟨oSlice x0 x1 x2 x3 x4 ty P⟩) (kFieldAddr P ty) (fun x0 x1 x2 => ⟨oField x0 x1 x2 ty P⟩) (kIndexAddr P ty) (fun x0 x1 x2 => ⟨oIndex x0 x1 x2 ty P⟩) (fun x0 x1 x2 x3 => ⟨oLookup x0 x1 x2 x3 ty P⟩) (fun x0 x1 x2 x3 => ⟨oMapUpdate x0 x1 x2 x3 ty P⟩) (fun _ _ _ => ⟨oBad 164 ty P⟩) (fun _ _ _ _ => ⟨oBad 165 ty P⟩) (fun _ _ => ⟨oBad 166 ty P⟩) (fun _ _ => ⟨oBad 167 ty P⟩) (fun _ => ⟨oBad 168 ty P⟩) (fun x0 x1 x2 x3 => ⟨oTypeAssert x0 x1 x2 x3 ty P⟩) (kExtract P ty) (fun x0 => ⟨oCall x0 ty P⟩) (fun _ => ⟨oBad 169 ty P⟩) (fun _ => ⟨oBad 170 ty P⟩) (fun x0 => ⟨oPanic x0 ty P⟩) (fun _ _ => ⟨oBad 172 ty P⟩) (fun _ _ _ => ⟨oBad 173 ty P⟩) (fun _ _ => ⟨oBad 174 ty P⟩) o
def panR (op : Op) (f : L2) (h : H) (v : AV) (h' : H) : RC := Bool.rec (motive := fun _ => RC) (.bad 208) (Bool.rec (motive := fun _ => RC) (.bad 208) (RC.ext panId (f.set pslot v) h') (Nat.ble h.nx h'.nx)) (panOp op)
def contR (op : Op) (next : W) (s : AV → L2 → L2) (k : CallT → L2 → H → OR) : W :=
  ⟨fun ctx f h => OR.rec (motive := fun _ => RC) RC.bad (fun v h' => next.go ctx (s v f) h') (fun v h' => panR op f h v h') (k ctx f h)⟩
def mvW (next : W) (d : Option Tmp) (x : Operand) : W := withG W (fun g => SW.rec (motive := fun _ => W) (fun s => ⟨fun ctx f h => next.go ctx (s (g f) f) h⟩) (dstW d)) x
def isMv (o : Op) : Option Operand := match o with | .move x => some x | .assign x => some x | _ => none
def compOther (P : Program) (o : Oper) (next : W) : W := SW.rec (motive := fun _ => W) (fun s => OW.rec (motive := fun _ => W) (fun k => contR o.op next s k) (opK P o.type o.op)) (dstW o.dst)
def compRun (P : Program) (o : Oper) (next : W) : W := Option.rec (motive := fun _ => W)
  (Option.rec (motive := fun _ => W) (compOther P o next) (mvW next o.dst) (isMv o.op)) (fun c => ⟨fun ctx f h => andThen (next.go ctx) (oDefer c o.dst o.type P ctx f h)⟩) (isDefer o.op)
def slowOp (P : Program) (ops : Array Oper) (o : Oper) (next : W) : W := ⟨fun ctx f h => andThen (next.go ctx) (oper1 ops o P ctx f h)⟩
def compOp (P : Program) (ops : Array Oper) (o : Oper) (next : W) : W := GS.rec (motive := fun _ => W) (compRun P o next) (fun _ _ => slowOp P ops o next) (slowOp P ops o next) (guardOf ops o)
def compOps (P : Program) (ops : Array Oper) (next : W) (l : List Oper) : W := List.rec (motive := fun _ => W) next (fun o _ ih => compOp P ops o ih) l
def condW (x : AV) : W → W → CallT → L2 → H → RC := AV.rec (motive_1 := fun _ => W → W → CallT → L2 → H → RC) (motive_2 := fun _ => PUnit) (fun _ _ _ _ _ => .bad 186) (fun b => Bool.rec (motive := fun _ => W → W → CallT → L2 → H → RC) (fun _ y => y.go) (fun x _ => x.go) b) (fun _ _ => fun _ _ _ _ _ => .bad 186) (fun _ => fun _ _ _ _ _ => .bad 186) (fun _ _ _ _ _ => .bad 186) (fun _ _ => fun _ _ _ _ _ => .bad 186) (fun _ _ _ _ _ => .bad 186) (fun _ _ _ _ _ _ => fun _ _ _ _ _ => .bad 186) (fun _ _ _ _ _ => .bad 186) (fun _ => fun _ _ _ _ _ => .bad 186) (fun _ _ _ _ _ => fun _ _ _ _ _ => .bad 186) (fun _ _ _ _ _ => .bad 186) (fun _ _ _ => fun _ _ _ _ _ => .bad 186) (fun _ _ _ _ _ => .bad 186) (fun _ _ => fun _ _ _ _ _ => .bad 186) (fun _ _ => fun _ _ _ _ _ => .bad 186) PUnit.unit (fun _ _ _ _ => PUnit.unit) x
def cnd (c : Operand) (a b : W) : W := withG W (fun g => ⟨fun ctx f h => condW (g f) a b ctx f h⟩) c
def nrmW : W := ⟨fun _ f h => .nrm f h⟩
def compC (P : Program) (c : Code) : W → W := Code.rec (motive := fun _ => W → W) (fun next => next)
  (fun _ ops dr next => Bool.rec (motive := fun _ => W) (compOps P ops next ops.toList) ⟨fun ctx f h => andThen (next.go ctx) (execDrawn P ctx ops f h)⟩ dr)
  (fun _ _ a b next => a (b next))
  (fun c _ _ a b next => cnd c (a next) (b next))
  (fun id _ a next => ⟨fun ctx f h => andThen (next.go ctx) (inBlock id ((a nrmW).go ctx f h))⟩)
  (fun _ a _ => ⟨fun ctx f h => andThen (fun _ _ => .bad 187) (loopK (fun _ ctx => (a nrmW).go ctx) P ctx 20 f h)⟩)
  (fun x ps asg bd _ _ next => ⟨fun ctx f h => andThen (next.go ctx) (cRange x ps asg bd cSkip cSkip P ctx f h)⟩)
  (fun id _ => ⟨fun _ f h => .ext id f h⟩) (fun _ a next => a next) (fun _ next => next) (fun _ _ => ⟨fun _ _ _ => .bad 193⟩) (fun _ => ⟨fun _ f h => .ret f h⟩) (fun _ _ => ⟨fun _ _ _ => .bad 194⟩) c
def callIF (P : Program) (ctx : CallT) (f : FuncId) (args : List AV) (h : H) (i : FI) : OR :=
  Bool.rec (motive := fun _ => OR) (.bad 200) (tagF f (finishR P ctx i.rs ((compC P i.body nrmW).go ctx (putArgs args 0 frame0) h))) (Nat.ble (llen args) i.nt)
def callFF (P : Program) (ctx : CallT) (f : FuncId) (args : List AV) (h : H) : OR := Option.rec (motive := fun _ => OR) (.bad 201) (callIF P ctx f args h) (fnInfo P f)
def roundBF (P : Program) (ctx : CallT) (l : Nat) (body : Code) (f : L2) (h : H) : RC :=
  match h.m.get l with
  | .loop 0 pend fr ps asg bd => (compC P body nrmW).go ctx f (h.put l (.loop 1 pend fr ps asg bd))
  | _ => .bad 203
def roundFF (P : Program) (ctx : CallT) (l : Nat) (args : List AV) (h : H) : OR :=
  match h.m.get l with
  | .loop _ _ fr ps asg bd =>
    match setParams ps args (fr.set dslot (.map l)) with
    | some f => roundR l (andThen (roundBF P ctx l bd) ((compC P asg nrmW).go ctx f h))
    | none => .bad 204
  | _ => .bad 205
def ctxDOF (P : Program) (gl : List GE) (tab : Tab) (d : Nat) : CallT := Nat.rec (motive := fun _ => CallT) noCall (fun _ ih => ctxO gl tab ⟨callFF P ih, roundFF P ih⟩) d
def execLW (P : Program) (l : List Code) : W := List.rec (motive := fun _ => W) nrmW (fun c _ ih => compC P c ih) l
end
variable {P : Program} {ctx : CallT} {f : L2} {h : H} {gl : List GE}
theorem pk1_eq (R : Type) (k : (L1 → AV) → R) (d : D16) : pk1 R k d = k (L1.sel d) := by cases d <;> rfl
theorem pk2_eq (R : Type) (k : (L2 → L1) → R) (d : D16) : pk2 R k d = k (L2.sel d) := by cases d <;> rfl
theorem pu1_eq (R : Type) (k : (L1 → AV → L1) → R) (d : D16) : pu1 R k d = k (L1.upd d) := by cases d <;> rfl
theorem m_eq (d : D16) (R : Type) (k : ((L1 → L1) → L2 → L2) → R) : pm2 R k d = k (fun g f => L2.upd d f (g (L2.sel d f))) := by
  cases d <;> (refine congrArg k ?_; funext g f; cases f; rfl)
theorem getW_eq (t : Nat) : getW t = ⟨fun f => f.get t⟩ := by unfold getW; rw [pk1_eq, pk2_eq]; rfl
theorem setW_eq (t : Nat) : setW t = ⟨fun v f => f.set t v⟩ := by unfold setW; rw [pu1_eq, m_eq]; rfl
theorem rdW_eq (x : Operand) : rdW x = ⟨ev x⟩ := by
  cases x with
  | tmp t => exact getW_eq t
  | _ => rfl
theorem withG_eq (R : Type) (k : (L2 → AV) → R) (x : Operand) : withG R k x = k (ev x) := by unfold withG; rw [rdW_eq]
theorem dstW_eq (d : Option Tmp) : dstW d = ⟨fun v f => putD d v f⟩ := by
  cases d with
  | none => rfl
  | some t => exact setW_eq t
theorem opK_eq (P : Program) (ty : TypeId) (o : Op) : opK P ty o = ⟨opD o ty P⟩ := by
  cases o
  case move x => show kMove P ty x = _; unfold kMove; rw [withG_eq]; rfl
  case assign x => show kMove P ty x = _; unfold kMove; rw [withG_eq]; rfl
  case load t a => show kLoad P ty t a = _; unfold kLoad; rw [withG_eq]; rfl
  case store t a x => show kStore P ty t a x = _; unfold kStore; rw [withG_eq, withG_eq]; rfl
  case binOp op t x y yt => show kBin P ty op t x y yt = _; unfold kBin; rw [withG_eq, withG_eq]; rfl
  case fieldAddr t x i => show kFieldAddr P ty t x i = _; unfold kFieldAddr; rw [withG_eq]; rfl
  case indexAddr t x i => show kIndexAddr P ty t x i = _; unfold kIndexAddr; rw [withG_eq, withG_eq]; rfl
  case extract x i => show kExtract P ty x i = _; unfold kExtract; rw [withG_eq]; rfl
  all_goals rfl
theorem andThen_nrm (r : RC) : andThen RC.nrm r = r := by cases r <;> rfl
theorem andThen_assoc (k j : L2 → H → RC) (r : RC) : andThen k (andThen j r) = andThen (fun f h => andThen k (j f h)) r := by cases r <;> rfl
theorem contR_eq (o : Oper) (next : W) (k : CallT → L2 → H → OR) : (contR o.op next (fun v f => putD o.dst v f) k).go ctx f h = andThen (next.go ctx) (putR o.dst f h o.op (k ctx f h)) := by
  show OR.rec (motive := fun _ => RC) RC.bad (fun v h' => next.go ctx (putD o.dst v f) h') (fun v h' => panR o.op f h v h') (k ctx f h) = _
  cases k ctx f h with
  | bad n => rfl
  | ok v h' => rfl
  | pan v h' =>
    show panR o.op f h v h' = andThen (next.go ctx) (panR o.op f h v h')
    unfold panR
    cases panOp o.op <;> cases Nat.ble h.nx h'.nx <;> rfl
theorem isMv_some {o : Op} {x : Operand} (hm : isMv o = some x) : o = .move x ∨ o = .assign x := by
  unfold isMv at hm
  split at hm
  · cases hm; exact .inl rfl
  · cases hm; exact .inr rfl
  · cases hm
theorem compRun_eq (o : Oper) (next : W) : (compRun P o next).go ctx f h = andThen (next.go ctx) (runIt o P ctx f h) := by
  show _ = andThen (next.go ctx) (op1 o o.dst o.type P ctx f h)
  unfold compRun op1
  cases hd : isDefer o.op with
  | some c => rfl
  | none =>
    show (Option.rec (motive := fun _ => W) (compOther P o next) (mvW next o.dst) (isMv o.op) : W).go ctx f h = andThen (next.go ctx) (putR o.dst f h o.op (opD o.op o.type P ctx f h))
    cases hm : isMv o.op with
    | none =>
      show (compOther P o next).go ctx f h = _
      unfold compOther
      rw [dstW_eq, opK_eq]
      exact contR_eq o next _
    | some x =>
      show (mvW next o.dst x).go ctx f h = _
      unfold mvW
      rw [withG_eq, dstW_eq]
      rcases isMv_some hm with hq | hq <;> (rw [hq]; rfl)
theorem compOp_eq (ops : Array Oper) (o : Oper) (next : W) : (compOp P ops o next).go ctx f h = andThen (next.go ctx) (oper1 ops o P ctx f h) := by
  unfold compOp
  cases hg : guardOf ops o with
  | always =>
    show (compRun P o next).go ctx f h = _
    rw [compRun_eq]
    unfold oper1
    rw [hg]
    rfl
  | on t want => rfl
  | bad => rfl
theorem compOps_eq (ops : Array Oper) (next : W) (l : List Oper) : ∀ f h, (compOps P ops next l).go ctx f h = andThen (next.go ctx) (execOps P ctx ops l f h) := by
  induction l with
  | nil => intro f h; rfl
  | cons o l ih =>
    intro f h
    show (compOp P ops o (compOps P ops next l)).go ctx f h = andThen (next.go ctx) (andThen (execOps P ctx ops l) (oper1 ops o P ctx f h))
    rw [compOp_eq, andThen_assoc]
    congr 1
    funext f h
    exact ih f h
theorem loopK_congr {a b : CodeT} (hab : ∀ f h, a P ctx f h = b P ctx f h) (n : Nat) : ∀ f h, loopK a P ctx n f h = loopK b P ctx n f h := by
  induction n with
  | zero => exact hab
  | succ n ih =>
    intro f h
    show andThen (loopK a P ctx n) (loopK a P ctx n f h) = andThen (loopK b P ctx n) (loopK b P ctx n f h)
    rw [ih f h, show loopK a P ctx n = loopK b P ctx n from funext fun f => funext fun h => ih f h]
theorem andThen_bad (k : L2 → H → RC) (n : Nat) (r : RC) : andThen k (andThen (fun _ _ => .bad n) r) = andThen (fun _ _ => .bad n) r := by cases r <;> rfl
theorem compC_eq (c : Code) : ∀ (next : W) (ctx : CallT) (f : L2) (h : H), (compC P c next).go ctx f h = andThen (next.go ctx) (exec c P ctx f h) := by
  induction c with
  | skip => intro next ctx f h; rfl
  | region id ops dr =>
    intro next ctx f h
    cases dr with
    | false => exact compOps_eq ops next ops.toList f h
    | true => rfl
  | seq a b iha ihb =>
    intro next ctx f h
    show (compC P a (compC P b next)).go ctx f h = andThen (next.go ctx) (andThen (exec b P ctx) (exec a P ctx f h))
    rw [iha, andThen_assoc]
    congr 1
    funext f h
    exact ihb next ctx f h
  | cond c a b iha ihb =>
    intro next ctx f h
    show (cnd c (compC P a next) (compC P b next)).go ctx f h = andThen (next.go ctx) (condV (ev c f) (exec a) (exec b) P ctx f h)
    unfold cnd
    rw [withG_eq]
    show condW (ev c f) (compC P a next) (compC P b next) ctx f h = _
    cases ev c f
    case bool t =>
      cases t with
      | true => exact iha next ctx f h
      | false => exact ihb next ctx f h
    all_goals rfl
  | block id a ih =>
    intro next ctx f h
    show andThen (next.go ctx) (inBlock id ((compC P a nrmW).go ctx f h)) = andThen (next.go ctx) (inBlock id (exec a P ctx f h))
    rw [ih, show nrmW.go ctx = RC.nrm from rfl, andThen_nrm]
  | loop a ih =>
    intro next ctx f h
    show andThen (fun _ _ => .bad 187) (loopK (fun _ ctx => (compC P a nrmW).go ctx) P ctx 20 f h) = andThen (next.go ctx) (andThen (fun _ _ => .bad 187) (loopK (exec a) P ctx 20 f h))
    rw [andThen_bad, loopK_congr (b := exec a) (fun f h => by rw [ih, show nrmW.go ctx = RC.nrm from rfl, andThen_nrm])]
  | rangeFunc x ps asg bd _ _ => intro next ctx f h; rfl
  | exit id => intro next ctx f h; rfl
  | scope a ih => intro next ctx f h; exact ih next ctx f h
  | label l => intro next ctx f h; rfl
  | goto l => intro next ctx f h; rfl
  | ret => intro next ctx f h; rfl
  | refuse w => intro next ctx f h; rfl
theorem fast_eq (c : Code) : (compC P c nrmW).go = exec c P := by
  funext ctx f h
  rw [compC_eq, show nrmW.go ctx = RC.nrm from rfl, andThen_nrm]
theorem callFF_eq (P : Program) (ctx : CallT) : callFF P ctx = callF P ctx := by
  funext g args h
  unfold callFF callF
  cases fnInfo P g with
  | none => rfl
  | some i =>
    show callIF P ctx g args h i = callI P ctx g args h i
    unfold callIF callI
    rw [fast_eq]
theorem roundFF_eq (P : Program) (ctx : CallT) : roundFF P ctx = roundF P ctx := by
  have hb : roundBF P ctx = roundB P ctx := by
    funext l body f h
    unfold roundBF roundB
    rw [fast_eq]
    cases h.m.get l with
    | loop st pend fr ps asg bd => cases st <;> rfl
    | _ => rfl
  funext l args h
  unfold roundFF roundF
  rw [hb]
  cases h.m.get l with
  | loop st pend fr ps asg bd =>
    dsimp only
    rw [fast_eq]
    cases setParams ps args (fr.set dslot (.map l)) <;> rfl
  | _ => rfl
theorem ctxDOF_eq (P : Program) (gl : List GE) (tab : Tab) (d : Nat) : ctxDOF P gl tab d = ctxDO P gl tab d := by
  induction d with
  | zero => rfl
  | succ d ih =>
    show ctxO gl tab ⟨callFF P (ctxDOF P gl tab d), roundFF P (ctxDOF P gl tab d)⟩ = ctxO gl tab ⟨callF P (ctxDO P gl tab d), roundF P (ctxDO P gl tab d)⟩
    rw [ih, callFF_eq, roundFF_eq]
theorem execLW_eq (l : List Code) : ∀ f h, (execLW P l).go ctx f h = execL l P ctx f h := by
  induction l with
  | nil => intro f h; rfl
  | cons c l ih =>
    intro f h
    show (compC P c (execLW P l)).go ctx f h = andThen (execL l P ctx) (exec c P ctx f h)
    rw [compC_eq]
    congr 1
    funext f h
    exact ih f h
/-- a run of the staged evaluator -/
theorem ran_fast {n : Nat} {v : AV} {tab : Tab} {d : Nat} {g : FuncId} {args : List AV} (hr : ranTo n v ((ctxDOF P gl tab d).call g args h) = true) : ranTo n v ((ctxDO P gl tab d).call g args h) = true := by
  rw [ctxDOF_eq] at hr
  exact hr
theorem piece_fast {n : Nat} {out : PO} {tab : Tab} {d : Nat} {l : List Code} (hr : pieceTo n out ((execLW P l).go (ctxDOF P gl tab d) f h) = true) : pieceTo n out (execL l P (ctxDO P gl tab d) f h) = true := by
  rw [ctxDOF_eq, execLW_eq] at hr
  exact hr
theorem last_fast {n : Nat} {out : PO} {tab : Tab} {d : Nat} {c : Code} (hr : pieceTo n out ((compC P c nrmW).go (ctxDOF P gl tab d) f h) = true) : pieceTo n out (exec c P (ctxDO P gl tab d) f h) = true := by
  rw [ctxDOF_eq, fast_eq] at hr
  exact hr
noncomputable def batchOkF (P : Program) (gl : List GE) (mask d : Nat) : List Orc → List Orc → Bool
  | _, [] => true
  | tab, o :: os => Bool.rec (motive := fun _ => Bool) false (Bool.rec (motive := fun _ => Bool) false (batchOkF P gl mask d (o :: tab) os) (ranTo P.globals.size o.v ((ctxDOF P gl ⟨mask, tab⟩ d).call o.g o.args (glH gl P.globals.size)))) (bodied P o.g)
theorem batch_fast {mask d : Nat} : ∀ (os tab : List Orc), batchOkF P gl mask d tab os = true → batchOk P gl mask d tab os = true := by
  intro os
  induction os with
  | nil => intro tab _; rfl
  | cons o os ih =>
    intro tab hh
    unfold batchOkF at hh
    obtain ⟨h1, h2⟩ := iteB hh
    obtain ⟨h3, h4⟩ := iteB h2
    rw [ctxDOF_eq] at h3
    unfold batchOk
    rw [h1, h3, ih _ h4]
end Go.Ev
