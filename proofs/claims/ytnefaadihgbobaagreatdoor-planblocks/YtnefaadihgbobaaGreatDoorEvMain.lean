/- Code. -/
import Derived.Test.YtnefaadihgbobaaGreatDoorEvDraw
set_option linter.unusedSimpArgs false
set_option linter.unusedVariables false
namespace Go.Ev
variable {P : Program} {G : Nat} {σ σ' : Sig} {h h' : H} {w w' : World} {v : AV} {nt : Nat} {f f' : L2} {a a' : Act} {ctx : CallT} {b : FB} {cs : List Frame}

def Fin (r : RC) (f' : L2) (h' : H) : Prop := r = .nrm f' h' ∨ (∃ i, r = .ext i f' h') ∨ r = .ret f' h'
/-- a frame that leaves a code by a jump, or by a panic -/
def FB.leave (b : FB) (a : Act) (id : Nat) (pv : Value) (k : List Item) : Frame := if id = panId then b.pan a k pv false else b.at a (.code (.exit id) :: k)
theorem FB.leave_exit {b : FB} {a : Act} {id : Nat} {pv : Value} {k : List Item} (h : id ≠ panId) : b.leave a id pv k = b.at a (.code (.exit id) :: k) := if_neg h
theorem FB.leave_pan {b : FB} {a : Act} {pv : Value} {k : List Item} : b.leave a panId pv k = b.pan a k pv false := if_pos rfl
/-- how a run from 'src' ends -/
def Ends (P : Program) (b : FB) (src dst : List Item → List Item) (a : Act) (w : World) (σ' : Sig) (r : RC) (a' : Act) (w' : World) : Prop :=
  match r with
  | .nrm _ _ => ∀ k cs, Calm b cs → Steps P (lone (b.at a (src k)) cs w) (lone (b.at a' (dst k)) cs w')
  | .ext id f1 _ => ∃ pv, (id = panId → VRel σ' (f1.get pslot) pv) ∧ ∀ k cs, Calm b cs → ∃ k', exitTo id k' = exitTo id k ∧ Steps P (lone (b.at a (src k)) cs w) (lone (b.leave a' id pv k') cs w')
  | .ret _ _ => ∀ k cs, Calm b cs → ∃ k', Steps P (lone (b.at a (src k)) cs w) (lone (b.at a' (.code .ret :: k')) cs w')
  | .bad _ => True
def RunsTo (P : Program) (G : Nat) (nt : Nat) (b : FB) (src dst : List Item → List Item) (go : L2 → H → RC) : Prop :=
  ∀ (σ : Sig) (f : L2) (a : Act) (h : H) (w : World) (f' : L2) (h' : H) (r : RC), go f h = r → Fin r f' h' → St G σ nt f a h w → RBk b σ f → h'.nx ≤ lim → Free σ h h' →
    ∃ σ' a' w', St G σ' nt f' a' h' w' ∧ RBk b σ' f' ∧ Out G σ h w σ' h' w' ∧ Ends P b src dst a w σ' r a' w'
theorem Ends.head {src src' dst : List Item → List Item} {r : RC} (hs : ∀ k cs, step P (lone (b.at a (src k)) cs w) = .next (lone (b.at a (src' k)) cs w)) (he : Ends P b src' dst a w σ' r a' w') : Ends P b src dst a w σ' r a' w' := by
  cases r with
  | bad n => trivial
  | nrm f h => exact fun k cs hc => .head (hs k cs) (he k cs hc)
  | ext id f h =>
    obtain ⟨pv, hpv, he⟩ := he
    exact ⟨pv, hpv, fun k cs hc => by obtain ⟨k', h1, h2⟩ := he k cs hc; exact ⟨k', h1, .head (hs k cs) h2⟩⟩
  | ret f h => exact fun k cs hc => by obtain ⟨k', h2⟩ := he k cs hc; exact ⟨k', .head (hs k cs) h2⟩
theorem Ends.pre {src mid dst : List Item → List Item} {r : RC} {a1 : Act} {w1 : World} (hs : ∀ k cs, Calm b cs → Steps P (lone (b.at a (src k)) cs w) (lone (b.at a1 (mid k)) cs w1)) (he : Ends P b mid dst a1 w1 σ' r a' w') : Ends P b src dst a w σ' r a' w' := by
  cases r with
  | bad n => trivial
  | nrm f h => exact fun k cs hc => (hs k cs hc).trans (he k cs hc)
  | ext id f h =>
    obtain ⟨pv, hpv, he⟩ := he
    exact ⟨pv, hpv, fun k cs hc => by obtain ⟨k', h1, h2⟩ := he k cs hc; exact ⟨k', h1, (hs k cs hc).trans h2⟩⟩
  | ret f h => exact fun k cs hc => by obtain ⟨k', h2⟩ := he k cs hc; exact ⟨k', (hs k cs hc).trans h2⟩
theorem RunsTo.head {src src' dst : List Item → List Item} {go : L2 → H → RC} (hs : ∀ a w k cs, step P (lone (b.at a (src k)) cs w) = .next (lone (b.at a (src' k)) cs w)) (hr : RunsTo P G nt b src' dst go) : RunsTo P G nt b src dst go := by
  intro σ f a h w f' h' r h1 h2 h3 h4 h5 h6
  obtain ⟨σ', a', w', q1, q2, q3, q4⟩ := hr σ f a h w f' h' r h1 h2 h3 h4 h5 h6
  exact ⟨σ', a', w', q1, q2, q3, q4.head (hs a w)⟩
/-- one after the other -/
theorem RunsTo.andThen {src mid dst : List Item → List Item} {go next : L2 → H → RC} (hgo : RunsTo P G nt b src mid go)
    (hnx : ∀ f h, MonoC h (next f h)) (hnext : RunsTo P G nt b mid dst next) : RunsTo P G nt b src dst (fun f h => andThen next (go f h)) := by
  intro σ f a h w f' h' r he hfin hs hb hl hf
  dsimp only at he
  cases hg : go f h with
  | bad n => rw [hg] at he; subst he; rcases hfin with hq | ⟨_, hq⟩ | hq <;> cases hq
  | nrm f1 h1 =>
    rw [hg] at he
    have he' : next f1 h1 = r := he
    have hle : h1.nx ≤ h'.nx := by
      refine hnx f1 h1 f' h' ?_
      rw [he']; exact hfin
    obtain ⟨σ1, a1, w1, q1, q2, q3, q4⟩ := hgo σ f a h w f1 h1 _ hg (.inl rfl) hs hb (by omega) (hf.left hle)
    obtain ⟨σ2, a2, w2, p1, p2, p3, p4⟩ := hnext σ1 f1 a1 h1 w1 f' h' r he' hfin q1 q2 hl (hf.right q3)
    exact ⟨σ2, a2, w2, p1, p2, q3.trans p3 hl, Ends.pre q4 p4⟩
  | ext id f1 h1 =>
    rw [hg] at he
    have he' : RC.ext id f1 h1 = r := he
    subst he'
    have hff : f1 = f' ∧ h1 = h' := by rcases hfin with hq | ⟨_, hq⟩ | hq <;> cases hq; exact ⟨rfl, rfl⟩
    obtain ⟨rfl, rfl⟩ := hff
    exact hgo σ f a h w f1 h1 _ hg (.inr (.inl ⟨id, rfl⟩)) hs hb hl hf
  | ret f1 h1 =>
    rw [hg] at he
    have he' : RC.ret f1 h1 = r := he
    subst he'
    have hff : f1 = f' ∧ h1 = h' := by rcases hfin with hq | ⟨_, hq⟩ | hq <;> cases hq; exact ⟨rfl, rfl⟩
    obtain ⟨rfl, rfl⟩ := hff
    exact hgo σ f a h w f1 h1 _ hg (.inr (.inr rfl)) hs hb hl hf
theorem fin_nrm {f1 : L2} {h1 : H} (hh : Fin (.nrm f1 h1) f' h') : f' = f1 ∧ h' = h1 := by rcases hh with hq | ⟨_, hq⟩ | hq <;> cases hq; exact ⟨rfl, rfl⟩
theorem fin_ext {i : Nat} {f1 : L2} {h1 : H} (hh : Fin (.ext i f1 h1) f' h') : f' = f1 ∧ h' = h1 := by rcases hh with hq | ⟨_, hq⟩ | hq <;> cases hq; exact ⟨rfl, rfl⟩
theorem fin_ret {f1 : L2} {h1 : H} (hh : Fin (.ret f1 h1) f' h') : f' = f1 ∧ h' = h1 := by rcases hh with hq | ⟨_, hq⟩ | hq <;> cases hq; exact ⟨rfl, rfl⟩
theorem fin_bad {n : Nat} (hh : Fin (.bad n) f' h') : False := by rcases hh with hq | ⟨_, hq⟩ | hq <;> cases hq
def Code.src (c : Code) (k : List Item) : List Item := .code c :: k
theorem nrm_runs {src dst : List Item → List Item} (hs : ∀ a w k cs, step P (lone (b.at a (src k)) cs w) = .next (lone (b.at a (dst k)) cs w)) : RunsTo P G nt b src dst RC.nrm := by
  intro σ f a h w f' h' r he hfin hst hb hl hf
  subst he
  obtain ⟨rfl, rfl⟩ := fin_nrm hfin
  exact ⟨σ, a, w, hst, hb, Out.refl hst.ai hst.so hst.ma, fun k cs _ => .one (hs a w k cs)⟩
theorem region_runs (hc : CtxSound P G ctx) (hmx : P.follows .mixedOrders = true) {id : Nat} {ops : Array Oper} {dr : Bool} (hok : codeOk G nt (.region id ops dr) = true) (hnt : nt < 250) :
    RunsTo P G nt b (Code.src (.region id ops dr)) (fun k => k) (exec (.region id ops dr) P ctx) := by
  have hok' : (Bool.rec (motive := fun _ => Bool) false (Bool.rec (motive := fun _ => Bool) true (regOk ops) dr) (ops.toList.all (operOk G nt)) : Bool) = true := hok
  cases hall : ops.toList.all (operOk G nt) with
  | false => rw [hall] at hok'; cases hok'
  | true =>
    rw [hall] at hok'
    have hall' : ∀ x ∈ ops.toList, operOk G nt x = true := List.all_eq_true.1 hall
    intro σ f a h w f' h' r he hfin hs hb hl hf
    cases dr with
    | false =>
      have he' : execOps P ctx ops ops.toList f h = r := he
      have hr : ∀ n, r ≠ .bad n := fun n hn => by subst hn; exact fin_bad hfin
      by_cases hx : ∃ i f' h', r = .ext i f' h'
      · obtain ⟨i, f1, h1, rfl⟩ := hx
        obtain ⟨rfl, rfl⟩ := fin_ext hfin
        obtain ⟨rfl, σ', a', w', pv, q1, q2, q3, q4, q5⟩ := ops_pan (b := b) hc hall' hnt ops.toList 0 rfl σ f a h w _ _ _ he' hs hb hl hf
        refine ⟨σ', a', w', q1, q2, q3, pv, fun _ => q4, fun k cs hcm => ?_⟩
        obtain ⟨rest, q6⟩ := q5 k cs hcm
        rw [Nat.sub_zero, ← List.range_eq_range'] at q6
        exact ⟨.inRegion ops rest :: k, rfl, .head s_region (by rw [FB.leave_pan]; exact q6)⟩
      obtain ⟨f1, h1, rfl, hgo⟩ := ops_sound (b := b) hc hall' hnt ops.toList 0 rfl σ f a h w r he' hr (fun i f' h' hn => hx ⟨i, f', h', hn⟩) hs hb
      obtain ⟨rfl, rfl⟩ := fin_nrm hfin
      obtain ⟨σ', a', w', q1, q2, q3, q4⟩ := hgo hl hf
      refine ⟨σ', a', w', q1, q2, q3, fun k cs hcm => ?_⟩
      refine .head s_region ?_
      have := q4 k cs hcm
      rw [Nat.sub_zero, ← List.range_eq_range'] at this
      exact this.trans (.one s_regionEnd)
    | true =>
      have he' : execDrawn P ctx ops f h = r := he
      have hreg : regOk ops = true := hok'
      have hrn : ∃ f1 h1, r = .nrm f1 h1 := by
        cases r with
        | nrm f1 h1 => exact ⟨f1, h1, rfl⟩
        | bad n => exact (fin_bad hfin).elim
        | ext i f1 h1 => exact (drawn_nrm he' (fun _ _ hh => by cases hh) (fun _ hh => by cases hh)).elim
        | ret f1 h1 => exact (drawn_nrm he' (fun _ _ hh => by cases hh) (fun _ hh => by cases hh)).elim
      obtain ⟨f1, h1, rfl⟩ := hrn
      obtain ⟨rfl, rfl⟩ := fin_nrm hfin
      obtain ⟨σ', a', w', q1, q2, q3, q4⟩ := drawn_sound hc hmx hreg hall' hnt he' hs hb hl hf id
      exact ⟨σ', a', w', q1, q2, q3, q4⟩
where
  drawn_nrm {ops : Array Oper} {f : L2} {h : H} {r : RC} (he : execDrawn P ctx ops f h = r) (h1 : ∀ f' h', r ≠ .nrm f' h') (h2 : ∀ n, r ≠ .bad n) : False := by
    unfold execDrawn at he
    cases hd : noDf ops with
    | false => rw [hd] at he; exact h2 _ he.symm
    | true =>
      rw [hd] at he
      have key : ∀ (l : List DO) (efs : List EF) (f : L2) (h : H) (lg : List Nat), drOps P ctx ops lg l efs f h ≠ r := by
        intro l
        induction l with
        | nil =>
          intro efs f h lg he
          have hq : (Bool.rec (motive := fun _ => RC) (.bad 183) (.nrm f (reLog (wroteAll efs lg) h)) (effOk efs) : RC) = r := he
          cases hc : effOk efs with
          | false => rw [hc] at hq; exact h2 _ hq.symm
          | true => rw [hc] at hq; exact h1 _ _ hq.symm
        | cons d l ih =>
          intro efs f h lg he
          have hq : (RC.rec (motive := fun _ => RC) RC.bad (fun f' h' => drOps P ctx ops lg l (⟨d.bit, d.pr, wrote h.nx h'.lg, readsOf d.o.op f, h, h'.nx⟩ :: efs) f' h') (fun _ _ _ => .bad 184) (fun _ _ => .bad 184) (oper1 ops d.o P ctx f (noLog h)) : RC) = r := he
          cases ho : oper1 ops d.o P ctx f (noLog h) with
          | bad n => rw [ho] at hq; exact h2 _ hq.symm
          | ext id f1 h1' => rw [ho] at hq; exact h2 _ hq.symm
          | ret f1 h1' => rw [ho] at hq; exact h2 _ hq.symm
          | nrm f1 h1' => rw [ho] at hq; exact ih _ _ _ _ hq
      exact key _ _ _ _ _ he
theorem cond_runs {c : Operand} {x y : Code} (hop : opdOk G c = true) (hx : RunsTo P G nt b (Code.src x) (fun k => k) (exec x P ctx)) (hy : RunsTo P G nt b (Code.src y) (fun k => k) (exec y P ctx)) :
    RunsTo P G nt b (Code.src (.cond c x y)) (fun k => k) (exec (.cond c x y) P ctx) := by
  intro σ f a h w f' h' r he hfin hs hb hl hf
  have he' : condV (ev c f) (exec x) (exec y) P ctx f h = r := he
  have hv := ev_rel hs.fr hs.gl c hop
  generalize ev c f = u at *
  generalize hcc : a.eval c = cc at *
  cases hv
  case bool t =>
    cases t with
    | true =>
      obtain ⟨σ', a', w', q1, q2, q3, q4⟩ := hx σ f a h w f' h' r he' hfin hs hb hl hf
      exact ⟨σ', a', w', q1, q2, q3, q4.head (fun k cs => s_cond hcc)⟩
    | false =>
      obtain ⟨σ', a', w', q1, q2, q3, q4⟩ := hy σ f a h w f' h' r he' hfin hs hb hl hf
      exact ⟨σ', a', w', q1, q2, q3, q4.head (fun k cs => s_cond hcc)⟩
  all_goals exact (fin_bad (by rw [← he'] at hfin; exact hfin)).elim
theorem block_gen {id : Nat} {src : List Item → List Item} {go : L2 → H → RC} (hid : id ≠ panId) (hx : RunsTo P G nt b src (fun k => k) go) : RunsTo P G nt b (fun k => src (.inBlock id :: k)) (fun k => k) (fun f h => inBlock id (go f h)) := by
  intro σ f a h w f' h' r he hfin hs hb hl hf
  have he' : inBlock id (go f h) = r := he
  cases hg : go f h with
  | bad n => rw [hg] at he'; subst he'; exact (fin_bad hfin).elim
  | nrm f1 h1 =>
    rw [hg] at he'
    subst he'
    obtain ⟨rfl, rfl⟩ := fin_nrm hfin
    obtain ⟨σ', a', w', q1, q2, q3, q4⟩ := hx σ f a h w _ _ _ hg (.inl rfl) hs hb hl hf
    exact ⟨σ', a', w', q1, q2, q3, fun k cs hcm => (q4 (.inBlock id :: k) cs hcm).trans (.one s_inBlock)⟩
  | ext i f1 h1 =>
    rw [hg] at he'
    have he2 : (Bool.rec (motive := fun _ => RC) (RC.ext i f1 h1) (RC.nrm f1 h1) (Nat.beq i id) : RC) = r := he'
    cases hib : Nat.beq i id with
    | true =>
      rw [hib] at he2
      have hii := beq_eqN hib
      subst hii
      subst he2
      obtain ⟨rfl, rfl⟩ := fin_nrm hfin
      obtain ⟨σ', a', w', q1, q2, q3, q4⟩ := hx σ f a h w _ _ _ hg (.inr (.inl ⟨i, rfl⟩)) hs hb hl hf
      obtain ⟨pv, _, q4⟩ := q4
      refine ⟨σ', a', w', q1, q2, q3, fun k cs hcm => ?_⟩
      obtain ⟨k', h1, h2⟩ := q4 (.inBlock i :: k) cs hcm
      rw [FB.leave_exit hid] at h2
      have hex : exitTo i k' = some k := by rw [h1]; simp [exitTo]
      exact h2.trans (.one (s_exit hex))
    | false =>
      rw [hib] at he2
      have hne := beq_neN hib
      subst he2
      obtain ⟨rfl, rfl⟩ := fin_ext hfin
      obtain ⟨σ', a', w', q1, q2, q3, q4⟩ := hx σ f a h w _ _ _ hg (.inr (.inl ⟨i, rfl⟩)) hs hb hl hf
      obtain ⟨pv, hpv, q4⟩ := q4
      refine ⟨σ', a', w', q1, q2, q3, pv, hpv, fun k cs hcm => ?_⟩
      obtain ⟨k', h1, h2⟩ := q4 (.inBlock id :: k) cs hcm
      refine ⟨k', ?_, h2⟩
      rw [h1]
      simp [exitTo, Ne.symm hne]
  | ret f1 h1 =>
    rw [hg] at he'
    subst he'
    obtain ⟨rfl, rfl⟩ := fin_ret hfin
    obtain ⟨σ', a', w', q1, q2, q3, q4⟩ := hx σ f a h w _ _ _ hg (.inr (.inr rfl)) hs hb hl hf
    exact ⟨σ', a', w', q1, q2, q3, fun k cs hcm => by obtain ⟨k', h2⟩ := q4 (.inBlock id :: k) cs hcm; exact ⟨k', h2⟩⟩
theorem block_runs {id : Nat} {c : Code} (hid : id ≠ panId) (hx : RunsTo P G nt b (Code.src c) (fun k => k) (exec c P ctx)) : RunsTo P G nt b (Code.src (.block id c)) (fun k => k) (exec (.block id c) P ctx) :=
  RunsTo.head (fun a w k cs => s_block) (block_gen hid hx)
/-- under more of the stack -/
theorem RunsTo.under {src dst : List Item → List Item} {go : L2 → H → RC} (i : Item) (hi : ∀ id, i ≠ .inBlock id) (hr : RunsTo P G nt b src dst go) : RunsTo P G nt b (fun k => src (i :: k)) (fun k => dst (i :: k)) go := by
  intro σ f a h w f' h' r h1 h2 h3 h4 h5 h6
  obtain ⟨σ', a', w', q1, q2, q3, q4⟩ := hr σ f a h w f' h' r h1 h2 h3 h4 h5 h6
  refine ⟨σ', a', w', q1, q2, q3, ?_⟩
  cases r with
  | bad n => trivial
  | nrm f h => exact fun k cs hc => q4 (i :: k) cs hc
  | ext id f h =>
    obtain ⟨pv, hpv, q4⟩ := q4
    refine ⟨pv, hpv, fun k cs hc => ?_⟩
    obtain ⟨k', p1, p2⟩ := q4 (i :: k) cs hc
    refine ⟨k', ?_, p2⟩
    rw [p1]
    cases i <;> first | rfl | (exact absurd rfl (hi _))
  | ret f h => exact fun k cs hc => q4 (i :: k) cs hc
theorem loop_runs (hc : CtxMono ctx) {c : Code} (hx : RunsTo P G nt b (Code.src c) (fun k => k) (exec c P ctx)) (n : Nat) :
    RunsTo P G nt b (fun k => .code c :: .inLoop c :: k) (fun k => .inLoop c :: k) (loopK (exec c) P ctx n) := by
  induction n with
  | zero => exact hx.under (.inLoop c) (fun id hh => by cases hh)
  | succ n ih =>
    exact RunsTo.andThen (mid := fun k => .inLoop c :: k) ih (fun f h => mono_loopK (fun f h => mono_exec hc c f h) n f h) (ih.head (fun a w k cs => s_inLoop))
end Go.Ev

/- Loops over functions. -/
set_option linter.unusedSimpArgs false
set_option linter.unusedVariables false
namespace Go.Ev
variable {P : Program} {G : Nat} {σ σ' : Sig} {h h' : H} {w w' : World} {v : AV} {nt : Nat} {f f' : L2} {a a' : Act} {ctx : CallT} {b : FB} {cs : List Frame}

/-- what is left to do behind a loop -/
def JumpSays (pend : Option Code) (f : L2) (h : H) (r : RC) : Prop :=
  match pend with
  | none => r = .nrm f h
  | some .ret => r = .ret f h
  | some (.exit id) => id ≠ panId ∧ r = .ext id f h
  | _ => False
theorem jump_says {pend : Option Code} {r : RC} (he : jumpOf pend f h = r) (hr : ∀ n, r ≠ .bad n) : JumpSays pend f h r := by
  unfold jumpOf at he
  unfold JumpSays
  split at he
  · exact he.symm
  · exact he.symm
  · rename_i id
    cases hid : Nat.beq id panId with
    | true => rw [hid] at he; exact absurd he.symm (hr _)
    | false => rw [hid] at he; exact ⟨beq_neN hid, he.symm⟩
  · exact absurd he.symm (hr _)
theorem range_core (hc : CtxSound P G ctx) {g : FuncId} {args : List AV} {args' : Array Value} {fr : L2} {tmps : Array Value} {ps : Array Tmp} {as bd : Code} {fnid : FuncId} {dfb : Nat} {r : RC} (hbod : bodied P g = true)
    (hs : Ms G σ h w) (hg : GOk G σ) (hsl : ∀ t, t < 250 → VRel σ (fr.get t) (tmps.getD t undef)) (hsz : tmps.size < 250) (hps : ∀ d ∈ ps.toList, d < tmps.size) (h1 : codeOk G tmps.size as = true) (h2 : codeOk G tmps.size bd = true)
    (he : rangeEnd f h.nx (ctx.call g args (h.new (.loop 0 none fr ps.toList as bd))) = r) (hfin : Fin r f' h') (hl : h'.nx ≤ lim) (hf : Free σ h h')
    (har : ∀ σ1 e, Sle σ σ1 → σ1 h.nx = some e → e.c = w.heap.size → LRel σ1 args args'.toList) :
    f' = f ∧ ∃ σ' w' w2 v2 lp, Out G σ h w σ' h' w' ∧ (∀ c cs, Steps P (lone (Frame.enter P g args' .normal) (c :: cs) (wpush w (.loop { state := .ready, pending := none, fn := fnid, tmps, params := ps, assign := as, body := bd, defers := dfb }))) (lone (c.finish v2) cs w2)) ∧
      w2.heap[w.heap.size]? = some (.loop lp) ∧ lp.state ≠ .busy ∧ w' = setBlk w2 w.heap.size (.loop { lp with state := .exhausted }) ∧ JumpSays lp.pending f h' r := by
  have hrb : ∀ n, r ≠ .bad n := fun n hn => by subst hn; exact fin_bad hfin
  unfold rangeEnd at he
  split at he
  · rename_i v2 h2' hcall
    split at he
    · rename_i st pend fr2 ps2 as2 bd2 hget
      rcases (show (Nat.beq st 1 = true ∧ RC.bad 189 = r) ∨ (Nat.beq st 1 = false ∧ jumpOf pend f (h2'.put h.nx (.loop 3 pend fr2 ps2 as2 bd2)) = r) by
        cases hb : Nat.beq st 1 with
        | true => rw [hb] at he; exact .inl ⟨rfl, he⟩
        | false => rw [hb] at he; exact .inr ⟨rfl, he⟩) with ⟨_, hq⟩ | ⟨hst, hq⟩
      · exact absurd hq.symm (hrb _)
      · have hj := jump_says hq hrb
        have hfh : f' = f ∧ h' = h2'.put h.nx (.loop 3 pend fr2 ps2 as2 bd2) := by
          unfold JumpSays at hj
          split at hj
          · subst hj; exact fin_nrm hfin
          · subst hj; exact fin_ret hfin
          · obtain ⟨_, rfl⟩ := hj; exact fin_ext hfin
          · exact hj.elim
        obtain ⟨rfl, rfl⟩ := hfh
        refine ⟨rfl, ?_⟩
        have hnx2 : (h.new (.loop 0 none fr ps.toList as bd)).nx ≤ h2'.nx := hc.mono.call _ _ _ _ _ hcall
        have hnx2' : h.nx + 1 ≤ h2'.nx := hnx2
        have hl2 : h2'.nx ≤ lim := hl
        have hlt : h.nx < lim := by omega
        have hfx : σ h.nx = none := hf h.nx (Nat.le_refl _) (by show h.nx < h2'.nx; omega)
        have hle := upd_le (e := ⟨w.heap.size, 0, none⟩) hfx
        have hnew : Out G σ h w (upd σ h.nx ⟨w.heap.size, 0, none⟩) (h.new (.loop 0 none fr ps.toList as bd)) (wpush w (.loop { state := .ready, pending := none, fn := fnid, tmps, params := ps, assign := as, body := bd, defers := dfb })) := by
          refine new_step hs.ai hs.so hs.ma hlt hfx rfl rfl ?_
          refine ⟨rfl, _, heap_push_at w _, rfl, rfl, fun t ht => (hsl t ht).mono hle, rfl, rfl, rfl, hsz, h1, h2, hps⟩
        have hfree1 : Free (upd σ h.nx ⟨w.heap.size, 0, none⟩) (h.new (.loop 0 none fr ps.toList as bd)) h2' := Free.right (h := h) (h' := h2') (fun x p1 p2 => hf x p1 p2) hnew
        have hare := har (upd σ h.nx ⟨w.heap.size, 0, none⟩) ⟨w.heap.size, 0, none⟩ hle (by simp [upd]) rfl
        obtain ⟨σ2, v2', w2, a2, fn, p1, p2, p3, p4, p5, p6⟩ := hc.call g args _ h2' v2 _ _ args' .normal hcall hbod hare hnew.ms (hg.mono hle) hl2 hfree1
        have hσ2 : σ2 h.nx = some ⟨w.heap.size, 0, none⟩ := p3.le _ _ (by simp [upd])
        have hbr := p3.ms.ma h.nx _ hσ2
        rw [hget] at hbr
        obtain ⟨hk, lp, b1, b2, b3, b4, b5, b6, b7, b8, b9, b10, b11⟩ := hbr
        have hput : Out G σ2 h2' w2 σ2 (h2'.put h.nx (.loop 3 pend fr2 ps2 as2 bd2)) (setBlk w2 w.heap.size (.loop { lp with state := .exhausted })) := by
          refine put_self_step (e := ⟨w.heap.size, 0, none⟩) p3.ms.ai p3.ms.so p3.ms.ma hσ2 hget (by intro hh; cases hh) (by intro n hh; cases hh) rfl rfl hk (by intro n hh; cases hh) ?_
          refine ⟨hk, { lp with state := .exhausted }, ?_, rfl, b3, b4, b5, b6, b7, b8, b9, b10, b11⟩
          rw [heap_setBlk, if_pos ⟨rfl, lt_of_get b1⟩]
        refine ⟨σ2, _, w2, v2', lp, ?_, ?_, b1, ?_, rfl, ?_⟩
        · exact (hnew.trans p3 hl2).trans hput hl
        · intro c cs
          obtain ⟨k', p7⟩ := p6 (c :: cs) (.inl rfl)
          exact p7.trans (.one (s_back p4 rfl p1 p5))
        · rw [b2]
          intro hh
          unfold loopSt at hh
          split at hh <;> first | (cases hh; done) | skip
          cases hst
        · rw [b3]
          exact hj
    · exact absurd he.symm (hrb _)
  · exact absurd he.symm (hrb _)
  · exact absurd he.symm (hrb _)
theorem finish_range (b : FB) (a : Act) (l : Nat) (k : List Item) (v : Value) : (b.at a (.inRangeFunc l :: k)).finish v = b.at a (.endRangeFunc l :: k) := rfl
theorem ends_jump {pend : Option Code} {r : RC} {src : List Item → List Item} (hj : JumpSays pend f h r) (hs : ∀ k cs, Calm b cs → Steps P (lone (b.at a (src k)) cs w) (lone (b.at a' ((pend.map Item.code).toList ++ k)) cs w')) :
    Ends P b src (fun k => k) a w σ' r a' w' := by
  unfold JumpSays at hj
  split at hj
  · subst hj; exact hs
  · subst hj; exact fun k cs hc => ⟨k, hs k cs hc⟩
  · obtain ⟨hid, rfl⟩ := hj; exact ⟨undef, fun hh => absurd hh hid, fun k cs hc => ⟨k, rfl, by rw [FB.leave_exit hid]; exact hs k cs hc⟩⟩
  · exact hj.elim
theorem mono_rangeEnd (hc : CtxMono ctx) {g : FuncId} {args : List AV} {l : Nat} {r : RC} (he : rangeEnd f l (ctx.call g args h) = r) (hfin : Fin r f' h') : h.nx ≤ h'.nx := by
  have hrb : ∀ n, r ≠ .bad n := fun n hn => by subst hn; exact fin_bad hfin
  unfold rangeEnd at he
  split at he
  · rename_i v2 h2' hcall
    have hm : h.nx ≤ h2'.nx := hc.call _ _ _ _ _ hcall
    split at he
    · rename_i st pend fr2 ps2 as2 bd2 hget
      cases hb : Nat.beq st 1 with
      | true => rw [hb] at he; exact absurd he.symm (hrb _)
      | false =>
        rw [hb] at he
        have hj := jump_says (show jumpOf pend f (h2'.put l (.loop 3 pend fr2 ps2 as2 bd2)) = r from he) hrb
        have hfh : f' = f ∧ h' = h2'.put l (.loop 3 pend fr2 ps2 as2 bd2) := by
          unfold JumpSays at hj
          split at hj
          · subst hj; exact fin_nrm hfin
          · subst hj; exact fin_ret hfin
          · obtain ⟨_, rfl⟩ := hj; exact fin_ext hfin
          · exact hj.elim
        rw [hfh.2]
        exact hm
    · exact absurd he.symm (hrb _)
  · exact absurd he.symm (hrb _)
  · exact absurd he.symm (hrb _)
theorem range_runs (hc : CtxSound P G ctx) {x : Operand} {ps : Array Tmp} {as bd : Code} (hnt : nt < 250) (hox : opdOk G x = true) (hps : ∀ d ∈ ps.toList, d < nt) (h1 : codeOk G nt as = true) (h2 : codeOk G nt bd = true) :
    RunsTo P G nt b (Code.src (.rangeFunc x ps as bd)) (fun k => k) (exec (.rangeFunc x ps as bd) P ctx) := by
  intro σ f a h w f' h' r he hfin hs hb hl hf
  have hrb : ∀ n, r ≠ .bad n := fun n hn => by subst hn; exact fin_bad hfin
  have he' : cRange x ps as bd (exec as) (exec bd) P ctx f h = r := he
  have hv := ev_rel hs.fr hs.gl x hox
  have hsz : a.tmps.size = nt := hs.fr.size
  unfold cRange at he'
  split at he'
  · -- outside rounds
    rename_i g fs cap ds hvf hvt
    have hvf := vF_yes hvf
    have hvt := vT_yes hvt
    rw [hvf] at hv
    generalize hxx : a.eval x = xx at hv
    cases hv
    rename_i fs' cap' hy ha ha' hca hca'
    have hro : b.ro = none := by
      rcases hb with ⟨q, _⟩ | ⟨_, c, l2, e, q1, q2, _⟩
      · exact q
      · rw [q2] at hvt; cases hvt
    unfold rangeGo at he'
    cases hbod : bodied P g with
    | false => rw [hbod] at he'; exact absurd he'.symm (hrb _)
    | true =>
      rw [hbod] at he'
      have he2 : rangeEnd (f.set dslot (.tup (.map h.nx :: ds))) (h.new (.dfr false)).nx (ctx.call g (lapp (lapp fs [.fn (.yield (h.new (.dfr false)).nx) [] []]) cap) ((h.new (.dfr false)).new (.loop 0 none f ps.toList as bd))) = r := he'
      -- the mark for deferred calls
      have hmono := mono_range (P := P) (h := h) (f := f) hc.mono x ps as bd (exec as) (exec bd)
      have hnx1 : h.nx + 1 ≤ h'.nx := by
        have := mono_rangeEnd hc.mono he2 hfin
        exact Nat.le_trans (Nat.le_succ _) this
      have hlt : h.nx < lim := by omega
      have hfx : σ h.nx = none := hf h.nx (Nat.le_refl _) (by omega)
      have hle := upd_le (e := ⟨w.heap.size, 0, none⟩) hfx
      have hnew : Out G σ h w (upd σ h.nx ⟨w.heap.size, 0, none⟩) (h.new (.dfr false)) (wpush w (.deferred (some []))) := by
        refine new_step hs.ai hs.so hs.ma hlt hfx rfl rfl ?_
        exact ⟨rfl, heap_push_at w _⟩
      have hfree1 : Free (upd σ h.nx ⟨w.heap.size, 0, none⟩) (h.new (.dfr false)) h' := hf.right hnew
      obtain ⟨rfl, σ', w', w2, v2, lp, q1, q2, q3, q4, q5, q6⟩ := range_core (fnid := b.fn) (dfb := w.heap.size) (args' := fs'.push (.func (.yield (w.heap.size + 1)) #[] #[]) ++ cap') (tmps := a.tmps) hc hbod hnew.ms (hs.gl.mono hle)
        (fun t ht => (hs.fr.slot t ht).mono hle) (by rw [hsz]; exact hnt) (by rw [hsz]; exact hps) (by rw [hsz]; exact h1) (by rw [hsz]; exact h2) he2 hfin hl hfree1 (by
          intro σ1 e s1 s2 s3
          have s3' : e.c = w.heap.size + 1 := by rw [s3, size_push]
          rw [lapp_eq, lapp_eq]
          have l1 : LRel σ1 fs fs'.toList := LRel.mono (hle.trans s1) ⟨ha, ha'⟩
          have l2 : LRel σ1 cap cap'.toList := LRel.mono (hle.trans s1) ⟨hca, hca'⟩
          have l3 : LRel σ1 [.fn (.yield (h.new (.dfr false)).nx) [] []] [.func (.yield (w.heap.size + 1)) #[] #[]] := by
            refine .cons ?_ (.nil _)
            rw [← s3']
            exact .yld _ e s2
          simpa using (l1.append l3).append l2)
      have hwsz : (wpush w (.deferred (some []))).heap.size = w.heap.size + 1 := size_push w _
      rw [hwsz] at q3 q5
      have hout := hnew.trans q1 hl
      refine ⟨σ', ⟨a.tmps, { target := .collected w.heap.size, args := #[] } :: a.defers⟩, w', ?_, ?_, hout, ?_⟩
      · refine hs.next hout ⟨hs.fr.size, ?_, ?_⟩
        · intro t ht
          rw [L2.get_set dslot t _ f (by decide) (by omega), if_neg (by intro hh; have h1 : t = 255 := hh; omega)]
          exact (hs.fr.slot t ht).mono hout.le
        · rw [L2.get_set dslot dslot _ f (by decide) (by decide), if_pos rfl]
          have hdr := hs.fr.defers
          rw [hvt] at hdr
          refine .cons _ _ _ _ (.mk h.nx ⟨w.heap.size, 0, none⟩ (q1.le _ _ (by simp [upd]))) (hdr.mono hout.le)
      · exact .inl ⟨hro, _, by rw [L2.get_set dslot dslot _ f (by decide) (by decide), if_pos rfl]⟩
      · refine ends_jump q6 (fun k cs hcm => ?_)
        refine .head (s_range (args := fs'.push (.func (.yield (w.heap.size + 1)) #[] #[]) ++ cap') (w2 := wpush (wpush w (.deferred (some []))) (.loop { state := .ready, pending := none, fn := b.fn, tmps := a.tmps, params := ps, assign := as, body := bd, defers := w.heap.size })) hro hxx (fun w1 hw1 => ?_)) ?_
        · rw [hw1]; exact run_callFunc hbod _ _
        · refine (q2 _ cs).trans ?_
          rw [finish_range, q5]
          exact .one (s_endLoop q3 q4)
  · -- inside a round
    rename_i g fs cap hvf hvt
    have hvf := vF_yes hvf
    rw [hvf] at hv
    generalize hxx : a.eval x = xx at hv
    cases hv
    rename_i fs' cap' hy ha ha' hca hca'
    split at he'
    · rename_i hin
      unfold rangeGo at he'
      cases hbod : bodied P g with
      | false => rw [hbod] at he'; exact absurd he'.symm (hrb _)
      | true =>
        rw [hbod] at he'
        have he2 : rangeEnd f h.nx (ctx.call g (lapp (lapp fs [.fn (.yield h.nx) [] []]) cap) (h.new (.loop 0 none f ps.toList as bd))) = r := he'
        rcases hb with ⟨q, ds, hds⟩ | ⟨hkn, c, l, e, hro, hdl, hsl, hec⟩
        · rw [hds] at hvt; cases hvt
        · have hb' : RBk b σ f := .inr ⟨hkn, c, l, e, hro, hdl, hsl, hec⟩
          have hlp : ∃ lp0, w.heap[c]? = some (.loop lp0) := by
            unfold inRound at hin
            rw [hdl] at hin
            have hin' : isLoop (h.m.get l) = true := hin
            have hbr := hs.ma l e hsl
            cases hgl : h.m.get l with
            | loop st pend fr2 ps2 as2 bd2 =>
              rw [hgl] at hbr
              obtain ⟨_, lp0, b1, _⟩ := hbr
              rw [hec] at b1
              exact ⟨lp0, b1⟩
            | _ => rw [hgl] at hin'; cases hin'
          obtain ⟨lp0, hlp0⟩ := hlp
          obtain ⟨rfl, σ', w', w2, v2, lp, q1, q2, q3, q4, q5, q6⟩ := range_core (fnid := b.fn) (dfb := lp0.defers) (args' := fs'.push (.func (.yield w.heap.size) #[] #[]) ++ cap') (tmps := a.tmps) hc hbod hs.ms hs.gl
            hs.fr.slot (by rw [hsz]; exact hnt) (by rw [hsz]; exact hps) (by rw [hsz]; exact h1) (by rw [hsz]; exact h2) he2 hfin hl hf (by
              intro σ1 e1 s1 s2 s3
              rw [lapp_eq, lapp_eq]
              have l1 : LRel σ1 fs fs'.toList := LRel.mono s1 ⟨ha, ha'⟩
              have l2 : LRel σ1 cap cap'.toList := LRel.mono s1 ⟨hca, hca'⟩
              have l3 : LRel σ1 [.fn (.yield h.nx) [] []] [.func (.yield w.heap.size) #[] #[]] := by
                refine .cons ?_ (.nil _)
                rw [← s3]
                exact .yld _ e1 s2
              simpa using (l1.append l3).append l2)
          refine ⟨σ', a, w', hs.next q1 (hs.fr.mono q1.le), hb'.mono q1.le rfl, q1, ?_⟩
          refine ends_jump q6 (fun k cs hcm => ?_)
          refine .head (s_rangeIn (args := fs'.push (.func (.yield w.heap.size) #[] #[]) ++ cap') (w2 := wpush w (.loop { state := .ready, pending := none, fn := b.fn, tmps := a.tmps, params := ps, assign := as, body := bd, defers := lp0.defers })) hro hlp0 hxx (fun w1 hw1 => ?_)) ?_
          · rw [hw1]; exact run_callFunc hbod _ _
          · refine (q2 _ cs).trans ?_
            rw [finish_range, q5]
            exact .one (s_endLoop q3 q4)
    · exact absurd he'.symm (hrb _)
  · exact absurd he'.symm (hrb _)
end Go.Ev

/- The evaluator is right. -/
set_option linter.unusedSimpArgs false
set_option linter.unusedVariables false
namespace Go.Ev
variable {P : Program} {G : Nat} {σ σ' : Sig} {h h' : H} {w w' : World} {v : AV} {nt : Nat} {f f' : L2} {a a' : Act} {ctx : CallT} {b : FB} {cs : List Frame}

theorem iteB {c x : Bool} (hh : (Bool.rec (motive := fun _ => Bool) false x c : Bool) = true) : c = true ∧ x = true := by
  cases c with
  | false => cases hh
  | true => exact ⟨rfl, hh⟩
theorem code_runs (hc : CtxSound P G ctx) (hmx : P.follows .mixedOrders = true) (hnt : nt < 250) (c : Code) : codeOk G nt c = true → RunsTo P G nt b (Code.src c) (fun k => k) (exec c P ctx) := by
  induction c with
  | skip => exact fun _ => nrm_runs (fun a w k cs => s_skip)
  | region id ops dr => exact fun hok => region_runs hc hmx hok hnt
  | seq x y ihx ihy =>
    intro hok
    obtain ⟨h1, h2⟩ := iteB (show (Bool.rec (motive := fun _ => Bool) false (codeOk G nt y) (codeOk G nt x) : Bool) = true from hok)
    have hx := (ihx h1).under (.code y) (fun id hh => by cases hh)
    have := RunsTo.andThen (mid := Code.src y) hx (fun f h => mono_exec hc.mono y f h) (ihy h2)
    exact this.head (fun a w k cs => s_seq)
  | cond c x y ihx ihy =>
    intro hok
    obtain ⟨h0, h12⟩ := iteB (show (Bool.rec (motive := fun _ => Bool) false (Bool.rec (motive := fun _ => Bool) false (codeOk G nt y) (codeOk G nt x)) (opdOk G c) : Bool) = true from hok)
    obtain ⟨h1, h2⟩ := iteB h12
    exact cond_runs h0 (ihx h1) (ihy h2)
  | block id c ih =>
    intro hok
    have hok' : (Bool.rec (motive := fun _ => Bool) (codeOk G nt c) false (Nat.beq id panId) : Bool) = true := hok
    cases hid : Nat.beq id panId with
    | true => rw [hid] at hok'; cases hok'
    | false => rw [hid] at hok'; exact block_runs (beq_neN hid) (ih hok')
  | loop c ih =>
    intro hok
    have hl := loop_runs hc.mono (ih hok) 20
    intro σ f a h w f' h' r he hfin hs hb hl' hf
    have he' : andThen (fun _ _ => .bad 187) (loopK (exec c) P ctx 20 f h) = r := he
    cases hg : loopK (exec c) P ctx 20 f h with
    | bad n => rw [hg] at he'; subst he'; exact (fin_bad hfin).elim
    | nrm f1 h1 => rw [hg] at he'; subst he'; exact (fin_bad hfin).elim
    | ext i f1 h1 =>
      rw [hg] at he'
      obtain ⟨σ', a', w', q1, q2, q3, q4⟩ := hl σ f a h w f' h' r (by rw [hg]; exact he') hfin hs hb hl' hf
      refine ⟨σ', a', w', q1, q2, q3, ?_⟩
      subst he'
      obtain ⟨pv, hpv, q4⟩ := q4
      exact ⟨pv, hpv, fun k cs hcm => by obtain ⟨k', p1, p2⟩ := q4 k cs hcm; exact ⟨k', p1, .head s_loop p2⟩⟩
    | ret f1 h1 =>
      rw [hg] at he'
      obtain ⟨σ', a', w', q1, q2, q3, q4⟩ := hl σ f a h w f' h' r (by rw [hg]; exact he') hfin hs hb hl' hf
      refine ⟨σ', a', w', q1, q2, q3, ?_⟩
      subst he'
      exact fun k cs hcm => by obtain ⟨k', p2⟩ := q4 k cs hcm; exact ⟨k', .head s_loop p2⟩
  | rangeFunc x ps as bd iha ihb =>
    intro hok
    obtain ⟨h0, h12⟩ := iteB (show (Bool.rec (motive := fun _ => Bool) false (Bool.rec (motive := fun _ => Bool) false (Bool.rec (motive := fun _ => Bool) false (codeOk G nt bd) (codeOk G nt as)) (ps.toList.all (fun d => Nat.blt d nt))) (opdOk G x) : Bool) = true from hok)
    obtain ⟨h1, h2⟩ := iteB h12
    obtain ⟨h3, h4⟩ := iteB h2
    exact range_runs hc hnt h0 (fun d hd => blt_lt (List.all_eq_true.1 h1 d hd)) h3 h4
  | exit id =>
    intro hok σ f a h w f' h' r he hfin hs hb hl hf
    have hid : id ≠ panId := by
      have hok' : bnot (Nat.beq id panId) = true := hok
      intro hh
      subst hh
      rw [show Nat.beq panId panId = true from rfl] at hok'
      cases hok'
    have he' : RC.ext id f h = r := he
    subst he'
    obtain ⟨rfl, rfl⟩ := fin_ext hfin
    exact ⟨σ, a, w, hs, hb, Out.refl hs.ai hs.so hs.ma, undef, fun hh => absurd hh hid, fun k cs _ => ⟨k, rfl, by rw [FB.leave_exit hid]; exact .refl P _⟩⟩
  | scope c ih =>
    intro hok σ f a h w f' h' r he hfin hs hb hl hf
    obtain ⟨σ', a', w', q1, q2, q3, q4⟩ := (ih hok).under (.inScope c) (fun id hh => by cases hh) σ f a h w f' h' r he hfin hs hb hl hf
    refine ⟨σ', a', w', q1, q2, q3, ?_⟩
    cases r with
    | bad n => trivial
    | nrm f1 h1 => exact fun k cs hcm => .head s_scope ((q4 k cs hcm).trans (.one s_inScope))
    | ext i f1 h1 =>
      obtain ⟨pv, hpv, q4⟩ := q4
      exact ⟨pv, hpv, fun k cs hcm => by obtain ⟨k', p1, p2⟩ := q4 k cs hcm; exact ⟨k', p1, .head s_scope p2⟩⟩
    | ret f1 h1 => exact fun k cs hcm => by obtain ⟨k', p2⟩ := q4 k cs hcm; exact ⟨k', .head s_scope p2⟩
  | label l => exact fun _ => nrm_runs (fun a w k cs => s_label)
  | goto l =>
    intro _ σ f a h w f' h' r he hfin hs hb hl hf
    have he' : RC.bad 193 = r := he
    subst he'
    exact (fin_bad hfin).elim
  | ret =>
    intro _ σ f a h w f' h' r he hfin hs hb hl hf
    have he' : RC.ret f h = r := he
    subst he'
    obtain ⟨rfl, rfl⟩ := fin_ret hfin
    exact ⟨σ, a, w, hs, hb, Out.refl hs.ai hs.so hs.ma, fun k cs _ => ⟨k, .refl P _⟩⟩
  | refuse why =>
    intro _ σ f a h w f' h' r he hfin hs hb hl hf
    have he' : RC.bad 194 = r := he
    subst he'
    exact (fin_bad hfin).elim

/- CALLS -/
theorem putArgs_get : ∀ (l : List AV) (n : Nat) (f : L2), n + l.length ≤ 250 → ∀ t, t < 256 → (putArgs l n f).get t = if n ≤ t ∧ t < n + l.length then (l[t - n]?).getD .top else f.get t := by
  intro l
  induction l with
  | nil => intro n f _ t _; rw [if_neg (by simp)]; rfl
  | cons x l ih =>
    intro n f hn t ht
    simp at hn
    show (putArgs l (Nat.succ n) (f.set n x)).get t = _
    rw [ih (n + 1) (f.set n x) (by omega) t ht, L2.get_set n t x f (by omega) ht]
    by_cases h1 : t = n
    · subst h1
      rw [if_neg (by omega), if_pos rfl, if_pos (by simp)]
      simp
    · by_cases h2 : n + 1 ≤ t ∧ t < n + 1 + l.length
      · rw [if_pos h2, if_pos (by simp; omega)]
        have : t - n = (t - (n + 1)) + 1 := by omega
        rw [this]
        simp
      · rw [if_neg h2, if_neg h1, if_neg (by simp; omega)]
theorem enter_rel {args : List AV} {args' : Array Value} (hr : LRel σ args args'.toList) (hle : args.length ≤ nt) (hnt : nt < 250) : FRel σ nt (putArgs args 0 frame0) ⟨args' ++ Array.replicate (nt - args'.size) undef, []⟩ := by
  have hsz : args'.size = args.length := by have := hr.1; simp at this; exact this.symm
  refine ⟨by simp; omega, ?_, ?_⟩
  · intro t ht
    rw [putArgs_get args 0 frame0 (by omega) t (by omega)]
    by_cases h1 : t < args.length
    · rw [if_pos (by omega), Nat.sub_zero, List.getElem?_eq_getElem h1, Option.getD_some]
      have h2 : (args' ++ Array.replicate (nt - args'.size) undef).getD t undef = args'[t]'(by omega) := by
        rw [Array.getD_eq_getD_getElem?, Array.getElem?_append_left (by omega), Array.getElem?_eq_getElem (by omega), Option.getD_some]
      rw [h2]
      exact hr.2 t _ _ (List.getElem?_eq_getElem h1) (by simp [show t < args'.size by omega])
    · rw [if_neg (by omega)]
      have h2 : (args' ++ Array.replicate (nt - args'.size) undef).getD t undef = undef := by
        rw [Array.getD_eq_getD_getElem?, Array.getElem?_append_right (by omega)]
        rw [Array.getElem?_replicate]
        split <;> rfl
      rw [h2]
      unfold frame0
      rw [L2.get_set dslot t _ _ (by decide) (by omega), if_neg (by intro hh; have h1 : t = 255 := hh; omega), L2.get_new]
      exact undef_rel σ
  · rw [putArgs_get args 0 frame0 (by omega) dslot (by decide), if_neg (by intro hh; have h1 : (255 : Nat) < 0 + args.length := hh.2; omega)]
    unfold frame0
    rw [L2.get_set dslot dslot _ _ (by decide) (by decide), if_pos rfl]
    exact .nil
theorem finR {rs : List ResultVar} {r : RC} (he : finishR P ctx rs r = .ok v h') : ∃ f1 h1, ((r = .nrm f1 h1 ∨ r = .ret f1 h1) ∧ finish P ctx rs f1 h1 = .ok v h') ∨ (∃ id, r = .ext id f1 h1 ∧ finishX P ctx rs id f1 h1 = .ok v h') := by
  cases r with
  | bad n => cases he
  | nrm f1 h1 => exact ⟨f1, h1, .inl ⟨.inl rfl, he⟩⟩
  | ext i f1 h1 => exact ⟨f1, h1, .inr ⟨i, rfl, he⟩⟩
  | ret f1 h1 => exact ⟨f1, h1, .inl ⟨.inr rfl, he⟩⟩
theorem finish_pan {rs : List ResultVar} (he : finish P ctx rs f h = .pan v h') : False := by
  unfold finish at he
  split at he
  · rename_i ds _
    cases hr : runDefers P ctx ds h with
    | bad n => rw [hr] at he; cases he
    | ok h2 => rw [hr] at he; exact finish2_pan he
  · cases he
theorem finR_pan {rs : List ResultVar} {r : RC} (he : finishR P ctx rs r = .pan v h') : ∃ f1, r = .ext panId f1 h' ∧ f1.get dslot = .tup [] ∧ v = f1.get pslot := by
  cases r with
  | bad n => cases he
  | nrm f1 h1 => exact (finish_pan he).elim
  | ext i f1 h1 =>
    obtain ⟨rfl, h2, h3, rfl⟩ := finishX_pan he
    exact ⟨f1, rfl, h2, h3⟩
  | ret f1 h1 => exact (finish_pan he).elim
/-- deferred calls -/
theorem defers_run (hc : CtxSound P G ctx) (tmps : Array Value) : ∀ (ds : List AV) (σ : Sig) (h h' : H) (w : World) (dl : List Deferred), runDefers P ctx ds h = .ok h' → DRel σ (.tup ds) dl → Ms G σ h w → GOk G σ → h'.nx ≤ lim → Free σ h h' →
    ∃ σ' w', Out G σ h w σ' h' w' ∧ ∀ (b : FB) k cs, Steps P (lone (b.back ⟨tmps, dl⟩ k) cs w) (lone (b.back ⟨tmps, []⟩ k) cs w') := by
  intro ds
  induction ds with
  | nil =>
    intro σ h h' w dl he hd hm hg hl hf
    cases he
    cases hd
    exact ⟨σ, w, Out.refl hm.ai hm.so hm.ma, fun b k cs => .refl P _⟩
  | cons d ds ih =>
    intro σ h h' w dl he hd hm hg hl hf
    cases hd
    rename_i d' ds' hde hdr
    unfold runDefers at he
    cases hde with
    | fn g as cs as' cs' ha hca =>
      have he1 : (Bool.rec (motive := fun _ => RH) (.bad 195) (match ctx.call g (lapp as cs) h with | .ok _ h' => runDefers P ctx ds h' | .bad n => .bad n | .pan _ _ => .bad 211) (bodied P g) : RH) = .ok h' := he
      cases hbod : bodied P g with
      | false => rw [hbod] at he1; cases he1
      | true =>
        rw [hbod] at he1
        cases hcall : ctx.call g (lapp as cs) h with
        | bad n => rw [hcall] at he1; cases he1
        | pan v1 h1 => rw [hcall] at he1; cases he1
        | ok v1 h1 =>
          rw [hcall] at he1
          have he2 : runDefers P ctx ds h1 = .ok h' := he1
          have hle : h1.nx ≤ h'.nx := mono_runDefers hc.mono ds h1 h' he2
          have hle0 : h.nx ≤ h1.nx := hc.mono.call _ _ _ _ _ hcall
          obtain ⟨σ1, v', w1, a1, fn, p1, p2, p3, p4, p5, p6⟩ := hc.call g (lapp as cs) h h1 v1 σ w (as' ++ cs') .deferred hcall hbod (by rw [lapp_eq]; simpa using ha.append hca) hm hg (by omega) (hf.left hle)
          obtain ⟨σ2, w2, q1, q2⟩ := ih σ1 h1 h' w1 ds' he2 (hdr.mono p3.le) p3.ms (hg.mono p3.le) hl (hf.right p3)
          refine ⟨σ2, w2, p3.trans q1 hl, fun b k cs0 => ?_⟩
          refine .head (s_defer rfl (run_callFunc hbod _ _)) ?_
          obtain ⟨k', p7⟩ := p6 (b.back ⟨tmps, ds'⟩ k :: cs0) (.inr ⟨rfl, _, _, rfl, .inl rfl⟩)
          exact p7.trans (.head (s_backD p4 rfl rfl p1 p5) (q2 b k cs0))
    | mk r e hr =>
      have he1 : (match h.m.get r with | .dfr false => runDefers P ctx ds (h.put r (.dfr true)) | _ => .bad 194) = RH.ok h' := he
      split at he1
      · rename_i hget
        have hbr := hm.ma r e hr
        rw [hget] at hbr
        obtain ⟨hk, hh⟩ := hbr
        have hh' : w.heap[e.c]? = some (.deferred (some [])) := hh
        have hput : Out G σ h w σ (h.put r (.dfr true)) (setBlk w e.c (.deferred none)) := by
          refine put_self_step hm.ai hm.so hm.ma hr hget (by intro q; cases q) (by intro n q; cases q) rfl rfl hk (by intro n q; cases q) ?_
          refine ⟨hk, ?_⟩
          rw [heap_setBlk, if_pos ⟨rfl, lt_of_get hh'⟩]
          rfl
        have hle : (h.put r (.dfr true)).nx ≤ h'.nx := mono_runDefers hc.mono ds _ h' he1
        obtain ⟨σ2, w2, q1, q2⟩ := ih σ (h.put r (.dfr true)) h' _ ds' he1 hdr hput.ms hg hl (hf.right hput)
        exact ⟨σ2, w2, hput.trans q1 hl, fun b k cs0 => .head (s_taken rfl hh') (q2 b k cs0)⟩
      · cases he1
/-- results -/
noncomputable def resOne (tmps : Array Value) (r : ResultVar) : Sem Value := match r with | .tmp t => pure (tmps.getD t undef) | .cell x t => do loadVar t (← asAddr (tmps.getD x undef))
theorem results_eq (fn : Func) (tmps : Array Value) : results fn tmps = (do let vs ← fn.results.mapM (resOne tmps); pure (if h : vs.size = 1 then vs[0] else .tuple vs)) := by
  unfold results resOne
  rfl
theorem results_list (hfr : ∀ t, t < 250 → VRel σ (f.get t) (a.tmps.getD t undef)) (hm : Ms G σ h w) : ∀ (rs : List ResultVar) (l : List AV), (∀ r ∈ rs, resOk r = true) → resultsA P f h rs = some l →
    ∃ l' : List Value, LRel σ l l' ∧ (rs.mapM (resOne a.tmps)).run P w = .ok l' w := by
  intro rs
  induction rs with
  | nil =>
    intro l _ he
    cases he
    exact ⟨[], .nil σ, by simp⟩
  | cons r rs ih =>
    intro l hok he
    cases r with
    | tmp t =>
      unfold resultsA at he
      split at he
      · rename_i l1 hl1
        cases he
        obtain ⟨l', q1, q2⟩ := ih l1 (fun r hr => hok r (by simp [hr])) hl1
        have ht : t < 250 := blt_lt (show Nat.blt t 250 = true from hok (.tmp t) (by simp))
        refine ⟨_ :: l', .cons (hfr t ht) q1, ?_⟩
        simp [List.mapM_cons, resOne, q2]
      · cases he
    | cell x t =>
      unfold resultsA at he
      split at he
      · rename_i v1 l1 hv1 hl1
        cases he
        obtain ⟨l', q1, q2⟩ := ih l1 (fun r hr => hok r (by simp [hr])) hl1
        have hx : x < 250 := blt_lt (show Nat.blt x 250 = true from hok (.cell x t) (by simp))
        have hs := hfr x hx
        unfold ldAt at hv1
        split at hv1
        · rename_i y off hp
          have hp := vP_yes hp
          rw [hp] at hs
          generalize hxx : a.tmps.getD x undef = xx at hs
          cases hs
          rename_i e hye
          split at hv1
          · rename_i c hrd
            obtain ⟨arr, tt, fz, h1, h2, h3, h4⟩ := blk_of_rd hrd (hm.ma y e hye)
            obtain ⟨v', hr, hv⟩ := ldAt_run (P := P) (e := e) hv1 h1 (by omega) h4
            refine ⟨v' :: l', .cons hv q1, ?_⟩
            have hone : (resOne a.tmps (.cell x t)).run P w = .ok v' w := by
              simp only [resOne, hxx]
              simpa [asAddr] using hr
            simp [List.mapM_cons, Sem.run_bind, hone, q2]
          · cases hv1
        · cases hv1
      · cases he
theorem single_rel {l : List AV} {l' : List Value} (hr : LRel σ l l') : VRel σ (single l) (if h : l'.toArray.size = 1 then l'.toArray[0] else .tuple l'.toArray) := by
  unfold single
  split
  · rename_i x
    obtain ⟨y, l2, rfl, hv, hl⟩ := hr.uncons
    have := hl.unnil
    subst this
    exact hv
  · rename_i hne
    have hl := hr.1
    rw [dif_neg]
    · exact .tup l l'.toArray (by simpa using hl) (fun i x y hx hy => hr.2 i x y hx (by simpa using hy))
    · intro h1
      have h1' : l'.length = 1 := by simpa using h1
      match l, hl, hne with
      | [x], _, hne => exact hne x rfl
      | [], hl, _ => rw [h1'] at hl; cases hl
      | x :: y :: l, hl, _ => rw [h1'] at hl; cases hl
theorem results_run {fn : Func} {l : List AV} (hfr : ∀ t, t < 250 → VRel σ (f.get t) (a.tmps.getD t undef)) (hm : Ms G σ h w) (hok : ∀ r ∈ fn.results.toList, resOk r = true) (he : resultsA P f h fn.results.toList = some l) :
    ∃ v', (results fn a.tmps).run P w = .ok v' w ∧ VRel σ (single l) v' := by
  obtain ⟨l', q1, q2⟩ := results_list hfr hm _ l hok he
  refine ⟨_, ?_, single_rel q1⟩
  rw [results_eq, Sem.run_bind, Array.mapM_eq_mapM_toList]
  simp [q2]
theorem progOk_fn {g : FuncId} {fn : Func} {c : Code} (hp : progOk P = true) (hf : P.funcs[g]? = some fn) (hb : fn.body = some c) : fn.ntmps < 250 ∧ (∀ r ∈ fn.results.toList, resOk r = true) ∧ codeOk P.globals.size fn.ntmps c = true := by
  have hmem : fn ∈ P.funcs.toList := by simpa using Array.mem_of_getElem? hf
  have := List.all_eq_true.1 hp fn hmem
  unfold fnOk at this
  rw [hb] at this
  obtain ⟨h1, h2⟩ := iteB this
  obtain ⟨h3, h4⟩ := iteB h2
  exact ⟨blt_lt h1, List.all_eq_true.1 h3, h4⟩
theorem tagF_ok {g : Nat} {r : OR} (he : tagF g r = .ok v h') : r = .ok v h' := by
  cases r with
  | bad n => cases he
  | ok v1 h1 => exact he
  | pan v1 h1 => cases he
theorem tagF_pan {g : Nat} {r : OR} (he : tagF g r = .pan v h') : r = .pan v h' := by
  cases r with
  | bad n => cases he
  | ok v1 h1 => cases he
  | pan v1 h1 => exact he
theorem frame_ds {args : List AV} (hle : args.length ≤ nt) (hnt : nt < 250) : (putArgs args 0 frame0).get dslot = .tup [] := by
  rw [putArgs_get args 0 frame0 (by omega) dslot (by decide), if_neg (by intro hh; have h1 : (255 : Nat) < 0 + args.length := hh.2; omega)]
  unfold frame0
  rw [L2.get_set dslot dslot _ _ (by decide) (by decide), if_pos rfl]

/- A DEFERRED CALL THAT RECOVERS -/
def recK : Code → List Item → List Item
  | .seq a b, k => recK a (.code b :: k)
  | .scope a, k => recK a (.inScope a :: k)
  | .block id a, k => recK a (.inBlock id :: k)
  | _, k => k
def recOps : Code → Array Oper
  | .region _ ops _ => ops
  | .seq a _ => recOps a
  | .scope a => recOps a
  | .block _ a => recOps a
  | _ => #[]
theorem rec_enter {d : Option Tmp} : ∀ (c : Code), recOf c = some d → ∀ (a : Act) (k : List Item) (cs : List Frame) (w : World),
    Steps P (lone (b.at a (.code c :: k)) cs w) (lone (b.at a (.inRegion (recOps c) (List.range (recOps c).size) :: recK c k)) cs w) := by
  intro c
  induction c with
  | region id ops dr =>
    intro hr a k cs w
    cases dr with
    | false => exact .one s_region
    | true => cases hr
  | seq x y ihx _ => exact fun hr a k cs w => .head s_seq (ihx hr a (.code y :: k) cs w)
  | scope x ih => exact fun hr a k cs w => .head s_scope (ih hr a (.inScope x :: k) cs w)
  | block id x ih => exact fun hr a k cs w => .head s_block (ih hr a (.inBlock id :: k) cs w)
  | _ => intro hr; cases hr
theorem rec_op {d : Option Tmp} : ∀ (c : Code), recOf c = some d → ∃ o, (recOps c)[0]? = some o ∧ recOp o = some d := by
  intro c
  induction c with
  | region id ops dr =>
    intro hr
    cases dr with
    | false =>
      have hr' : (match ops.toList with | o :: _ => recOp o | [] => none) = some d := hr
      split at hr'
      · rename_i o l ho
        refine ⟨o, ?_, hr'⟩
        show ops[0]? = some o
        rw [← Array.getElem?_toList, ho]
        rfl
      · cases hr'
    | true => cases hr
  | seq x y ihx _ => exact fun hr => ihx hr
  | scope x ih => exact fun hr => ih hr
  | block id x ih => exact fun hr => ih hr
  | _ => intro hr; cases hr
theorem rec_ok {d : Option Tmp} : ∀ (c : Code), recOf c = some d → codeOk G nt c = true → ∀ x ∈ (recOps c).toList, operOk G nt x = true := by
  intro c
  induction c with
  | region id ops dr =>
    intro hr hok
    have hok' : (Bool.rec (motive := fun _ => Bool) false (Bool.rec (motive := fun _ => Bool) true (regOk ops) dr) (ops.toList.all (operOk G nt)) : Bool) = true := hok
    exact List.all_eq_true.1 (iteB hok').1
  | seq x y ihx _ =>
    intro hr hok
    exact ihx hr (iteB (show (Bool.rec (motive := fun _ => Bool) false (codeOk G nt y) (codeOk G nt x) : Bool) = true from hok)).1
  | scope x ih => exact fun hr hok => ih hr hok
  | block id x ih =>
    intro hr hok
    have hok' : (Bool.rec (motive := fun _ => Bool) (codeOk G nt x) false (Nat.beq id panId) : Bool) = true := hok
    cases hid : Nat.beq id panId with
    | true => rw [hid] at hok'; cases hok'
    | false => rw [hid] at hok'; exact ih hr hok'
  | _ => intro hr; cases hr
theorem exec1_runs (hc : CtxSound P G ctx) (hmx : P.follows .mixedOrders = true) (hnt : nt < 250) {d : Option Tmp} : ∀ (c : Code), recOf c = some d → codeOk G nt c = true →
    RunsTo P G nt b (fun k => .inRegion (recOps c) (List.range' 1 ((recOps c).size - 1)) :: recK c k) (fun k => k) (exec1 c P ctx) := by
  intro c
  induction c with
  | region id ops dr =>
    intro hr hok
    have hall' := rec_ok (G := G) (nt := nt) _ hr hok
    cases dr with
    | true => cases hr
    | false =>
      intro σ f a h w f' h' r he hfin hs hb hl hf
      have he' : execOps P ctx ops (ops.toList.drop 1) f h = r := he
      have hrb : ∀ n, r ≠ .bad n := fun n hn => by subst hn; exact fin_bad hfin
      by_cases hx : ∃ i f' h', r = .ext i f' h'
      · obtain ⟨i, f1, h1, rfl⟩ := hx
        obtain ⟨rfl, rfl⟩ := fin_ext hfin
        obtain ⟨rfl, σ', a', w', pv, q1, q2, q3, q4, q5⟩ := ops_pan (b := b) hc hall' hnt _ 1 rfl σ f a h w _ _ _ he' hs hb hl hf
        refine ⟨σ', a', w', q1, q2, q3, pv, fun _ => q4, fun k cs hcm => ?_⟩
        obtain ⟨rest, q6⟩ := q5 k cs hcm
        exact ⟨.inRegion ops rest :: k, rfl, by rw [FB.leave_pan]; exact q6⟩
      obtain ⟨f1, h1, rfl, hgo⟩ := ops_sound (b := b) hc hall' hnt _ 1 rfl σ f a h w r he' hrb (fun i f' h' hn => hx ⟨i, f', h', hn⟩) hs hb
      obtain ⟨rfl, rfl⟩ := fin_nrm hfin
      obtain ⟨σ', a', w', q1, q2, q3, q4⟩ := hgo hl hf
      exact ⟨σ', a', w', q1, q2, q3, fun k cs hcm => (q4 k cs hcm).trans (.one s_regionEnd)⟩
  | seq x y ihx _ =>
    intro hr hok
    obtain ⟨h1, h2⟩ := iteB (show (Bool.rec (motive := fun _ => Bool) false (codeOk G nt y) (codeOk G nt x) : Bool) = true from hok)
    have hx := (ihx hr h1).under (.code y) (fun id hh => by cases hh)
    exact RunsTo.andThen (mid := Code.src y) hx (fun f h => mono_exec hc.mono y f h) (code_runs hc hmx hnt y h2)
  | scope x ih =>
    intro hr hok
    have hx := (ih hr hok).under (.inScope x) (fun id hh => by cases hh)
    intro σ f a h w f' h' r he hfin hs hb hl hf
    obtain ⟨σ', a', w', q1, q2, q3, q4⟩ := hx σ f a h w f' h' r he hfin hs hb hl hf
    refine ⟨σ', a', w', q1, q2, q3, ?_⟩
    cases r with
    | bad n => trivial
    | nrm f1 h1 => exact fun k cs hcm => (q4 k cs hcm).trans (.one s_inScope)
    | ext i f1 h1 => exact q4
    | ret f1 h1 => exact q4
  | block id x ih =>
    intro hr hok
    have hok' : (Bool.rec (motive := fun _ => Bool) (codeOk G nt x) false (Nat.beq id panId) : Bool) = true := hok
    cases hid : Nat.beq id panId with
    | true => rw [hid] at hok'; cases hok'
    | false => rw [hid] at hok'; exact block_gen (beq_neN hid) (ih hr hok')
  | _ => intro hr; cases hr
theorem mono_exec1 (hc : CtxMono ctx) : ∀ (c : Code) (f : L2) (h : H), MonoC h (exec1 c P ctx f h) := by
  intro c
  induction c with
  | region id ops dr =>
    intro f h
    cases dr with
    | false => exact mono_execOps hc ops _ f h
    | true => exact .bad _
  | seq x y ihx _ => exact fun f h => .andThen (ihx f h) (fun f h => mono_exec hc y f h)
  | scope x ih => exact fun f h => ih f h
  | block id x ih =>
    intro f h
    show MonoC h (inBlock id (exec1 x P ctx f h))
    have := ih f h
    cases hr : exec1 x P ctx f h with
    | bad n => exact .bad n
    | nrm f' h' => rw [hr] at this; exact this
    | ext i f' h' => rw [hr] at this; exact .ite (.nrm _ (this f' h' (.inr (.inl ⟨i, rfl⟩)))) this
    | ret f' h' => rw [hr] at this; exact this
  | _ => exact fun f h => .bad _
theorem callR_sound (hc : CtxSound P P.globals.size ctx) (hmx : P.follows .mixedOrders = true) (hp : progOk P = true) {g : FuncId} {args : List AV} {args' : Array Value} {v1 : AV} {pv : Value} (he : callR P ctx g args v h = .ok v1 h') (hbod : bodied P g = true)
    (har : LRel σ args args'.toList) (hv : VRel σ v pv) (hm : Ms P.globals.size σ h w) (hg : GOk P.globals.size σ) (hl : h'.nx ≤ lim) (hf : Free σ h h') :
    ∃ σ' w', Out P.globals.size σ h w σ' h' w' ∧ ∀ (b2 : FB) (a2 : Act) (k2 : List Item) (cs : List Frame), b2.ro = none → Steps P (lone (Frame.enter P g args' .deferred) (b2.pan a2 k2 pv false :: cs) w) (lone (b2.back a2 k2) cs w') := by
  obtain ⟨fn, c, hfn, hbody, _⟩ := bodied_some hbod
  obtain ⟨hnt, hres, hcode⟩ := progOk_fn hp hfn hbody
  unfold callR at he
  have hfi : fnInfo P g = some ⟨c, fn.ntmps, fn.results.toList⟩ := by unfold fnInfo; rw [hfn]; dsimp only; rw [hbody]
  rw [hfi] at he
  dsimp only at he
  split at he
  · rename_i d hrec
    rcases ite_ok he with ⟨hle, he3⟩ | ⟨_, he3⟩
    · have hle' : args.length ≤ fn.ntmps := by have := ble_le hle; rwa [llen_eq] at this
      have hfin0 : ∃ f1 h1, (exec1 c P ctx (putD d v (putArgs args 0 frame0)) h = .nrm f1 h1 ∨ exec1 c P ctx (putD d v (putArgs args 0 frame0)) h = .ret f1 h1) ∧ finish P ctx fn.results.toList f1 h1 = .ok v1 h' := by
        cases hq : exec1 c P ctx (putD d v (putArgs args 0 frame0)) h with
        | bad n => rw [hq] at he3; cases he3
        | nrm f1 h1 => rw [hq] at he3; exact ⟨f1, h1, .inl rfl, he3⟩
        | ext i f1 h1 => rw [hq] at he3; cases he3
        | ret f1 h1 => rw [hq] at he3; exact ⟨f1, h1, .inr rfl, he3⟩
      obtain ⟨f1, h1, hr, hfinish⟩ := hfin0
      have hfr0 := enter_rel (nt := fn.ntmps) har hle' hnt
      obtain ⟨o, ho0, hoo⟩ := rec_op c hrec
      have hallo := rec_ok (G := P.globals.size) (nt := fn.ntmps) c hrec hcode
      have homem : o ∈ (recOps c).toList := Array.mem_toList_iff.2 (Array.mem_of_getElem? ho0)
      obtain ⟨_, hdst⟩ := operOk_dst (hallo o homem)
      have hrop : o.dst = d ∧ o.guard = none ∧ ∃ c : Call, o.op = .call c ∧ c.callee = .builtin .recover := by
        unfold recOp at hoo
        split at hoo
        · rename_i args ts hop hgd
          cases hoo
          exact ⟨rfl, hgd, _, hop, rfl⟩
        · cases hoo
      obtain ⟨rfl, hgd, cl, hop, hcl⟩ := hrop
      have hfr1 := hfr0.put hdst hnt hv
      have hfin : Fin (exec1 c P ctx (putD o.dst v (putArgs args 0 frame0)) h) f1 h1 := by
        rcases hr with hr | hr
        · exact .inl hr
        · exact .inr (.inr hr)
      have hds0 : (putD o.dst v (putArgs args 0 frame0)).get dslot = .tup [] := by
        rw [putD_get (fun u hu => Nat.lt_trans (hdst u hu) hnt) dslot (by decide), if_neg (fun hh => by have h1 : (255 : Nat) < fn.ntmps := hdst 255 hh; omega)]
        exact frame_ds hle' hnt
      unfold finish at hfinish
      split at hfinish
      · rename_i ds hvt
        have hvt := vT_yes hvt
        cases hrd : runDefers P ctx ds h1 with
        | bad n => rw [hrd] at hfinish; cases hfinish
        | ok h2 =>
          rw [hrd] at hfinish
          have hf2 : finish2 P fn.results.toList f1 h2 = .ok v1 h' := hfinish
          unfold finish2 at hf2
          split at hf2
          · rename_i l hl0
            obtain ⟨rfl, rfl⟩ := ok_inj hf2
            have hle1 : h1.nx ≤ h2.nx := mono_runDefers hc.mono ds h1 h2 hrd
            obtain ⟨σ1, a1, w1, q1, q2, q3, q4⟩ := exec1_runs (b := ⟨g, .deferred, none⟩) hc hmx hnt c hrec hcode σ _ ((⟨args' ++ Array.replicate (fn.ntmps - args'.size) undef, []⟩ : Act).put o.dst pv) h w f1 h1 _ rfl hfin
              ⟨hfr1, hg, hm.ai, hm.so, hm.ma⟩ (.inl ⟨rfl, [], hds0⟩) (by omega) (hf.left hle1)
            have hdr := q1.fr.defers
            rw [hvt] at hdr
            have henter : Frame.enter P g args' .deferred = FB.at ⟨g, .deferred, none⟩ ⟨args' ++ Array.replicate (fn.ntmps - args'.size) undef, []⟩ [.code c] := by
              simp [Frame.enter, FB.at, hfn, hbody]
            obtain ⟨σ2, w2, r1, r2⟩ := defers_run hc a1.tmps ds σ1 h1 h2 w1 a1.defers hrd hdr ⟨q1.ai, q1.so, q1.ma⟩ q1.gl hl (hf.right q3)
            obtain ⟨v', r3, r4⟩ := results_run (a := ⟨a1.tmps, []⟩) (fun t ht => (q1.fr.slot t ht).mono r1.le) r1.ms hres hl0
            refine ⟨σ2, w2, q3.trans r1 hl, fun b2 a2 k2 cs hb2 => ?_⟩
            rw [henter]
            have hsz : 0 < (recOps c).size := by
              rcases Nat.eq_zero_or_pos (recOps c).size with h0 | h0
              · rw [Array.getElem?_eq_none (by omega)] at ho0; cases ho0
              · exact h0
            have hrange : List.range (recOps c).size = 0 :: List.range' 1 ((recOps c).size - 1) := by
              rw [List.range_eq_range']
              have : (recOps c).size = ((recOps c).size - 1) + 1 := by omega
              rw [this, List.range'_succ]
              simp
            have hrun : ∀ a : Act, (execOp a.eval o).run P w = .ok .recover w := by
              intro a
              obtain ⟨dst, op, ty, pos, af, gd⟩ := o
              obtain ⟨cal, ca, ct⟩ := cl
              dsimp only at hop hcl
              subst hop
              subst hcl
              simp [execOp, resolve, invoke, builtin]
            have e1 := rec_enter (P := P) (b := ⟨g, .deferred, none⟩) c hrec ⟨args' ++ Array.replicate (fn.ntmps - args'.size) undef, []⟩ [] (b2.pan a2 k2 pv false :: cs) w
            rw [hrange] at e1
            have hwant : ∀ y, Region.wanted o y = true := by intro y; unfold Region.wanted; rw [hgd]
            have e2 := s_recovers (P := P) (b := ⟨g, .deferred, none⟩) (a := ⟨args' ++ Array.replicate (fn.ntmps - args'.size) undef, []⟩) (k := recK c []) (cs := cs) (w := w) (rest := List.range' 1 ((recOps c).size - 1)) (b2 := b2) (a2 := a2) (k2 := k2) (v := pv) ho0 (hwant _) rfl rfl (hrun _)
            have hcalm : Calm ⟨g, .deferred, none⟩ (b2.pan a2 k2 pv true :: cs) := .inr ⟨rfl, _, _, rfl, .inr ⟨pv, rfl⟩⟩
            refine e1.trans (.head e2 ?_)
            rcases hr with hr | hr
            · rw [hr] at q4
              exact (q4 [] _ hcalm).trans (.head (s_end rfl) ((r2 ⟨g, .deferred, none⟩ [] _).trans (.one (s_backR rfl rfl hfn r3 hb2))))
            · rw [hr] at q4
              obtain ⟨k', q5⟩ := q4 [] _ hcalm
              exact q5.trans (.head (s_ret rfl) ((r2 ⟨g, .deferred, none⟩ (.code .ret :: k') _).trans (.one (s_backR rfl rfl hfn r3 hb2))))
          · cases hf2
      · cases hfinish
    · cases he3
  · cases he
theorem callF_pan (hc : CtxSound P P.globals.size ctx) (hmx : P.follows .mixedOrders = true) (hp : progOk P = true) : CallPan P P.globals.size ⟨callF P ctx, roundF P ctx⟩ := by
  intro g args h h' v σ w args' he hbod har hm hg hl hf
  obtain ⟨fn, c, hfn, hbody, _⟩ := bodied_some hbod
  obtain ⟨hnt, hres, hcode⟩ := progOk_fn hp hfn hbody
  have he1 : callF P ctx g args h = .pan v h' := he
  unfold callF at he1
  have hfi : fnInfo P g = some ⟨c, fn.ntmps, fn.results.toList⟩ := by unfold fnInfo; rw [hfn]; dsimp only; rw [hbody]
  rw [hfi] at he1
  have he2 : callI P ctx g args h ⟨c, fn.ntmps, fn.results.toList⟩ = .pan v h' := he1
  unfold callI at he2
  rcases ite_pan he2 with ⟨hle, he3⟩ | ⟨_, he3⟩
  · obtain ⟨f1, hr, hds, rfl⟩ := finR_pan (tagF_pan he3)
    have hle' : args.length ≤ fn.ntmps := by have := ble_le hle; rwa [llen_eq] at this
    have hfr0 := enter_rel (nt := fn.ntmps) har hle' hnt
    have henter : Frame.enter P g args' .normal = FB.at ⟨g, .normal, none⟩ ⟨args' ++ Array.replicate (fn.ntmps - args'.size) undef, []⟩ [.code c] := by
      simp [Frame.enter, FB.at, hfn, hbody]
    obtain ⟨σ1, a1, w1, q1, q2, q3, q4⟩ := code_runs (b := ⟨g, .normal, none⟩) hc hmx hnt c hcode σ (putArgs args 0 frame0) ⟨args' ++ Array.replicate (fn.ntmps - args'.size) undef, []⟩ h w f1 h' _ hr (.inr (.inl ⟨_, rfl⟩))
      ⟨hfr0, hg, hm.ai, hm.so, hm.ma⟩ (.inl ⟨rfl, [], frame_ds hle' hnt⟩) hl hf
    obtain ⟨pv, hpv, q4⟩ := q4
    have hdr := q1.fr.defers
    rw [hds] at hdr
    have hdn : a1.defers = [] := by
      generalize a1.defers = dd at hdr
      cases hdr
      rfl
    refine ⟨σ1, pv, w1, hpv rfl, q3, fun cc cs => ?_⟩
    rw [henter]
    obtain ⟨k', _, q5⟩ := q4 [] (cc :: cs) (.inl rfl)
    rw [FB.leave_pan] at q5
    exact q5.trans (.one (s_panOut hdn hfn))
  · cases he3
theorem callF_sound (hc : CtxSound P P.globals.size ctx) (hmx : P.follows .mixedOrders = true) (hp : progOk P = true) : CallSound P P.globals.size ⟨callF P ctx, roundF P ctx⟩ := by
  intro g args h h' v σ w args' kind he hbod har hm hg hl hf
  obtain ⟨fn, c, hfn, hbody, _⟩ := bodied_some hbod
  obtain ⟨hnt, hres, hcode⟩ := progOk_fn hp hfn hbody
  have he1 : callF P ctx g args h = .ok v h' := he
  unfold callF at he1
  have hfi : fnInfo P g = some ⟨c, fn.ntmps, fn.results.toList⟩ := by unfold fnInfo; rw [hfn]; dsimp only; rw [hbody]
  rw [hfi] at he1
  have he2 : callI P ctx g args h ⟨c, fn.ntmps, fn.results.toList⟩ = .ok v h' := he1
  unfold callI at he2
  rcases ite_ok he2 with ⟨hle, he3⟩ | ⟨_, he3⟩
  · have he4 := tagF_ok he3
    have hle' : args.length ≤ fn.ntmps := by have := ble_le hle; rwa [llen_eq] at this
    have hfr0 := enter_rel (nt := fn.ntmps) har hle' hnt
    obtain ⟨f1, h1, ⟨hr, hfinish⟩ | ⟨id, hr, hfx⟩⟩ := finR he4
    rotate_left
    · -- a panic that is recovered
      obtain ⟨rfl, g2, as2, cap2, ds, v1, h2, hds, hbod2, hcr, hle2, hrd, hle3, hfi2⟩ := finishX_ok hfx
      obtain ⟨σ1, a1, w1, q1, q2, q3, q4⟩ := code_runs (b := ⟨g, kind, none⟩) hc hmx hnt c hcode σ (putArgs args 0 frame0) ⟨args' ++ Array.replicate (fn.ntmps - args'.size) undef, []⟩ h w f1 h1 _ hr (.inr (.inl ⟨_, rfl⟩))
        ⟨hfr0, hg, hm.ai, hm.so, hm.ma⟩ (.inl ⟨rfl, [], frame_ds hle' hnt⟩) (by omega) (hf.left (by omega))
      obtain ⟨pv, hpv, q4⟩ := q4
      have hdr := q1.fr.defers
      rw [hds] at hdr
      generalize hdd : a1.defers = dd at hdr
      cases hdr
      rename_i d' ds' hde hdr
      cases hde
      rename_i as' cs' ha hca
      obtain ⟨σ2, w2, r1, r2⟩ := callR_sound (w := w1) (args' := as' ++ cs') hc hmx hp hcr hbod2 (by rw [lapp_eq]; simpa using ha.append hca) (hpv rfl) ⟨q1.ai, q1.so, q1.ma⟩ q1.gl (by omega) ((hf.right q3).left hle3)
      obtain ⟨σ3, w3, s1, s2⟩ := defers_run hc a1.tmps ds σ2 h2 h' w2 ds' hrd (hdr.mono r1.le) r1.ms (q1.gl.mono r1.le) hl ((hf.right q3).right r1)
      unfold finish2 at hfi2
      split at hfi2
      · rename_i l hl0
        obtain ⟨rfl, _⟩ := ok_inj hfi2
        obtain ⟨v', r3, r4⟩ := results_run (a := ⟨a1.tmps, []⟩) (fun t ht => ((q1.fr.slot t ht).mono r1.le).mono s1.le) s1.ms hres hl0
        have henter : Frame.enter P g args' kind = FB.at ⟨g, kind, none⟩ ⟨args' ++ Array.replicate (fn.ntmps - args'.size) undef, []⟩ [.code c] := by
          simp [Frame.enter, FB.at, hfn, hbody]
        refine ⟨σ3, v', w3, ⟨a1.tmps, []⟩, fn, hfn, r4, (q3.trans r1 (by omega)).trans s1 hl, rfl, r3, fun cs hcm => ?_⟩
        rw [henter]
        obtain ⟨k', _, q5⟩ := q4 [] cs hcm
        rw [FB.leave_pan] at q5
        exact ⟨k', q5.trans (.head (s_panDefer hdd (run_callFunc hbod2 _ _)) ((r2 _ _ _ cs rfl).trans (s2 ⟨g, kind, none⟩ k' cs)))⟩
      · cases hfi2
    have hfin : Fin (exec c P ctx (putArgs args 0 frame0) h) f1 h1 := by
      rcases hr with hr | hr
      · exact .inl hr
      · exact .inr (.inr hr)
    have hds0 : (putArgs args 0 frame0).get dslot = .tup [] := by
      rw [putArgs_get args 0 frame0 (by omega) dslot (by decide), if_neg (by intro hh; have h1 : (255 : Nat) < 0 + args.length := hh.2; omega)]
      unfold frame0
      rw [L2.get_set dslot dslot _ _ (by decide) (by decide), if_pos rfl]
    -- the end of the call
    unfold finish at hfinish
    split at hfinish
    · rename_i ds hvt
      have hvt := vT_yes hvt
      cases hrd : runDefers P ctx ds h1 with
      | bad n => rw [hrd] at hfinish; cases hfinish
      | ok h2 =>
        rw [hrd] at hfinish
        have hf2 : finish2 P fn.results.toList f1 h2 = .ok v h' := hfinish
        unfold finish2 at hf2
        split at hf2
        · rename_i l hl0
          obtain ⟨rfl, rfl⟩ := ok_inj hf2
          have hle1 : h1.nx ≤ h2.nx := mono_runDefers hc.mono ds h1 h2 hrd
          obtain ⟨σ1, a1, w1, q1, q2, q3, q4⟩ := code_runs (b := ⟨g, kind, none⟩) hc hmx hnt c hcode σ (putArgs args 0 frame0) ⟨args' ++ Array.replicate (fn.ntmps - args'.size) undef, []⟩ h w f1 h1 _ rfl hfin
            ⟨hfr0, hg, hm.ai, hm.so, hm.ma⟩ (.inl ⟨rfl, [], hds0⟩) (by omega) (hf.left hle1)
          have hdr := q1.fr.defers
          rw [hvt] at hdr
          have henter : Frame.enter P g args' kind = FB.at ⟨g, kind, none⟩ ⟨args' ++ Array.replicate (fn.ntmps - args'.size) undef, []⟩ [.code c] := by
            simp [Frame.enter, FB.at, hfn, hbody]
          obtain ⟨σ2, w2, r1, r2⟩ := defers_run hc a1.tmps ds σ1 h1 h2 w1 a1.defers hrd hdr ⟨q1.ai, q1.so, q1.ma⟩ q1.gl hl (hf.right q3)
          obtain ⟨v', r3, r4⟩ := results_run (a := ⟨a1.tmps, []⟩) (fun t ht => (q1.fr.slot t ht).mono r1.le) r1.ms hres hl0
          refine ⟨σ2, v', w2, ⟨a1.tmps, []⟩, fn, hfn, r4, q3.trans r1 hl, rfl, r3, fun cs hcm => ?_⟩
          rw [henter]
          rcases hr with hr | hr
          · rw [hr] at q4
            exact ⟨_, (q4 [] cs hcm).trans (.head (s_end rfl) (r2 _ _ cs))⟩
          · rw [hr] at q4
            obtain ⟨k', q5⟩ := q4 [] cs hcm
            exact ⟨_, q5.trans (.head (s_ret rfl) (r2 _ _ cs))⟩
        · cases hf2
    · cases hfinish
  · cases he3
theorem setParams_rel : ∀ (ps : List Nat) (args : List AV) (vs : List Value) (f f' : L2) (tmps : Array Value), setParams ps args f = some f' → LRel σ args vs → (∀ d ∈ ps, d < tmps.size) → tmps.size < 250 → (∀ t, t < 250 → VRel σ (f.get t) (tmps.getD t undef)) →
    vs.length = ps.length ∧ ((ps.zip vs).foldl (fun tmps (p : Nat × Value) => tmps.setIfInBounds p.1 p.2) tmps).size = tmps.size ∧
      (∀ t, t < 250 → VRel σ (f'.get t) (((ps.zip vs).foldl (fun tmps (p : Nat × Value) => tmps.setIfInBounds p.1 p.2) tmps).getD t undef)) ∧ f'.get dslot = f.get dslot := by
  intro ps
  induction ps with
  | nil =>
    intro args vs f f' tmps he hr hd hsz hs
    cases args with
    | nil =>
      cases he
      have := hr.unnil
      subst this
      exact ⟨rfl, rfl, hs, rfl⟩
    | cons x l => cases he
  | cons t ps ih =>
    intro args vs f f' tmps he hr hd hsz hs
    cases args with
    | nil => cases he
    | cons x l =>
      obtain ⟨y, vs', rfl, hv, hl⟩ := hr.uncons
      have he' : setParams ps l (f.set t x) = some f' := he
      have ht : t < tmps.size := hd t (by simp)
      obtain ⟨q1, q2, q3, q4⟩ := ih l vs' (f.set t x) f' (tmps.setIfInBounds t y) he' hl (fun d hd' => by simp; exact hd d (by simp [hd'])) (by simpa using hsz) (by
        intro u hu
        rw [L2.get_set t u x f (by omega) (by omega)]
        by_cases hut : u = t
        · subst hut
          rw [if_pos rfl]
          have : (tmps.setIfInBounds u y).getD u undef = y := by simp [Array.getD, ht]
          rw [this]; exact hv
        · rw [if_neg hut]
          have : (tmps.setIfInBounds t y).getD u undef = tmps.getD u undef := by
            simp only [Array.getD_eq_getD_getElem?]
            rw [Array.getElem?_setIfInBounds_ne (Ne.symm hut)]
          rw [this]; exact hs u hu)
      refine ⟨by simp [q1], ?_, ?_, ?_⟩
      · simp only [List.zip_cons_cons, List.foldl_cons]
        rw [q2]; simp
      · simpa only [List.zip_cons_cons, List.foldl_cons] using q3
      · rw [q4, L2.get_set t dslot x f (by omega) (by decide), if_neg (by intro hh; have h1 : (255 : Nat) = t := hh; omega)]
theorem roundX {l id : Nat} {f1 : L2} {h1 : H} (he : roundR l (.ext id f1 h1) = .ok v h') : id ≠ panId ∧ endRound l (some (.exit id)) h1 = .ok v h' := by
  have he' : (Bool.rec (motive := fun _ => OR) (endRound l (some (.exit id)) h1) (.bad 223) (Nat.beq id panId) : OR) = .ok v h' := he
  cases hid : Nat.beq id panId with
  | true => rw [hid] at he'; cases he'
  | false => rw [hid] at he'; exact ⟨beq_neN hid, he'⟩
theorem endRound_pan {l : Nat} {j : Option Code} (he : endRound l j h = .pan v h') : False := by
  unfold endRound at he
  split at he <;> cases he
theorem roundF_pan {l : Nat} {args : List AV} (he : roundF P ctx l args h = .pan v h') : False := by
  unfold roundF at he
  split at he
  · split at he
    · rename_i f0 _
      generalize andThen _ _ = r at he
      cases r with
      | bad n => cases he
      | nrm f1 h1 => exact endRound_pan he
      | ext id f1 h1 => rcases ite_pan he with ⟨_, hq⟩ | ⟨_, hq⟩; cases hq; exact endRound_pan hq
      | ret f1 h1 => exact endRound_pan he
    · cases he
  · cases he
theorem roundF_sound (hc : CtxSound P P.globals.size ctx) (hmx : P.follows .mixedOrders = true) : RoundSound P P.globals.size ⟨callF P ctx, roundF P ctx⟩ := by
  intro l args h h' v σ w args' e he hsl har hm hg hl hf
  have he1 : roundF P ctx l args h = .ok v h' := he
  unfold roundF at he1
  split at he1
  · rename_i st pend fr ps as bd0 hget
    split at he1
    · rename_i f0 hset
      have hbr := hm.ma l e hsl
      rw [hget] at hbr
      obtain ⟨hk, lp, b1, b2, b3, b4, b5, b6, b7, b8, b9, b10, b11⟩ := hbr
      have hdfr : ∀ t, t < 250 → VRel σ ((fr.set dslot (.map l)).get t) (lp.tmps.getD t undef) := by
        intro t ht
        rw [L2.get_set dslot t _ fr (by decide) (by omega), if_neg (by intro hh; have h1 : t = 255 := hh; omega)]
        exact b4 t ht
      obtain ⟨s1, s2, s3, s4⟩ := setParams_rel ps args args'.toList _ f0 lp.tmps hset har b11 b8 hdfr
      have hds : f0.get dslot = .map l := by rw [s4, L2.get_set dslot dslot _ fr (by decide) (by decide), if_pos rfl]
      -- the frame of the round
      generalize htm : ((ps.zip args'.toList).foldl (fun tmps (p : Nat × Value) => tmps.setIfInBounds p.1 p.2) lp.tmps) = tm at s2 s3
      have hyield : (Instr.yield e.c args').run P w = .ok (.round e.c lp.fn tm lp.assign lp.body) w := by
        have hsz : args'.size = lp.params.size := by
          have h2 : lp.params.toList.length = ps.length := by rw [b5]
          simp at h2 s1
          omega
        have hfold : (lp.params.zip args').foldl (fun tmps (p : Tmp × Value) => tmps.setIfInBounds p.1 p.2) lp.tmps = tm := by
          rw [← htm, ← b5, ← Array.foldl_toList, Array.toList_zip]
        simp [Instr.yield, Instr.getLoop, getObj, Sem.run, b1, hsz]
        rw [← hfold]
        congr 1
        simp [hsz]
      have hst0 : St P.globals.size σ lp.tmps.size f0 ⟨tm, []⟩ h w := ⟨⟨s2, s3, by rw [hds]; exact .round l e hsl⟩, hg, hm.ai, hm.so, hm.ma⟩
      have hb0 : RBk ⟨lp.fn, .normal, some e.c⟩ σ f0 := .inr ⟨rfl, e.c, l, e, rfl, hds, hsl, rfl⟩
      have hround : Frame.round e.c lp.fn tm lp.assign lp.body .normal = FB.at ⟨lp.fn, .normal, some e.c⟩ ⟨tm, []⟩ [.code as, .beginRound, .code bd0] := by rw [b6, b7]; rfl
      -- the end of a round
      have hend : ∀ (σ1 : Sig) (h1 : H) (w1 : World) (a1 : Act) (jump : Option Code), endRound l jump h1 = .ok v h' → Out P.globals.size σ h w σ1 h1 w1 →
          (∀ c cs, ∃ k, (k = [] ∧ jump = none ∨ (∃ k', k = .code .ret :: k' ∧ jump = some .ret) ∨ ∃ id k', k = .code (.exit id) :: k' ∧ exitTo id k' = none ∧ jump = some (.exit id)) ∧
            Steps P (lone (FB.at ⟨lp.fn, .normal, some e.c⟩ ⟨tm, []⟩ [.code as, .beginRound, .code bd0]) (c :: cs) w) (lone (FB.at ⟨lp.fn, .normal, some e.c⟩ a1 k) (c :: cs) w1)) →
          ∃ σ' v' w' g tmps as bd, VRel σ' v v' ∧ Out P.globals.size σ h w σ' h' w' ∧ (Instr.yield e.c args').run P w = .ok (.round e.c g tmps as bd) w ∧
            ∀ c cs, Steps P (lone (Frame.round e.c g tmps as bd .normal) (c :: cs) w) (lone (c.finish v') cs w') := by
        intro σ1 h1 w1 a1 jump hre ho hst
        unfold endRound at hre
        split at hre
        · rename_i st2 pend2 fr2 ps2 as2 bd2 hget2
          obtain ⟨n, hh', hn, hvv⟩ : ∃ n, h' = h1.put l (.loop n jump fr2 ps2 as2 bd2) ∧ loopSt n = (if jump.isNone then .ready else .done) ∧ v = .bool jump.isNone := by
            obtain ⟨h2, h3⟩ := ok_inj hre
            exact ⟨_, h3.symm, by cases jump <;> rfl, h2.symm⟩
          have hsl1 := ho.le _ _ hsl
          have hbr1 := ho.ms.ma l e hsl1
          rw [hget2] at hbr1
          obtain ⟨hk1, lp1, c1, c2, c3, c4, c5, c6, c7, c8, c9, c10, c11⟩ := hbr1
          have hput : Out P.globals.size σ1 h1 w1 σ1 h' (setBlk w1 e.c (.loop { lp1 with state := if jump.isNone then .ready else .done, pending := jump })) := by
            rw [hh']
            refine put_self_step ho.ms.ai ho.ms.so ho.ms.ma hsl1 hget2 (by intro q; cases q) (by intro n q; cases q) rfl rfl hk1 (by intro n q; cases q) ?_
            exact ⟨hk1, { lp1 with state := if jump.isNone then .ready else .done, pending := jump }, by rw [heap_setBlk, if_pos ⟨rfl, lt_of_get c1⟩], hn.symm, rfl, c4, c5, c6, c7, c8, c9, c10, c11⟩
          refine ⟨σ1, .bool jump.isNone, _, lp.fn, tm, lp.assign, lp.body, by rw [hvv]; exact .bool _, ho.trans hput hl, hyield, fun c cs => ?_⟩
          rw [hround]
          obtain ⟨k, p1, p2⟩ := hst c cs
          exact p2.trans (.one (s_endRound rfl rfl c1 p1))
        · cases hre
      have hendnx : ∀ (h1 : H) (jump : Option Code), endRound l jump h1 = .ok v h' → h1.nx ≤ h'.nx := by
        intro h1 jump hre
        unfold endRound at hre
        split at hre
        · obtain ⟨_, rfl⟩ := ok_inj hre; exact Nat.le_refl _
        · cases hre
      have hcalm : ∀ cs, Calm ⟨lp.fn, .normal, some e.c⟩ cs := fun cs => .inl rfl
      have hruns := code_runs (b := ⟨lp.fn, .normal, some e.c⟩) hc hmx b8 as b9
      have hrunb := code_runs (b := ⟨lp.fn, .normal, some e.c⟩) hc hmx b8 bd0 b10
      -- what the assignment comes to
      cases hA : exec as P ctx f0 h with
      | bad n => rw [hA] at he1; cases he1
      | ext id f1 h1 =>
        rw [hA] at he1
        obtain ⟨hid, he2⟩ := roundX he1
        have hle := hendnx h1 _ he2
        obtain ⟨σ1, a1, w1, q1, q2, q3, pv, hpv, q4⟩ := hruns σ f0 ⟨tm, []⟩ h w f1 h1 _ hA (.inr (.inl ⟨id, rfl⟩)) hst0 hb0 (by omega) (hf.left hle)
        refine hend σ1 h1 w1 a1 _ he2 q3 (fun c cs => ?_)
        obtain ⟨k', p1, p2⟩ := q4 [.beginRound, .code bd0] (c :: cs) (hcalm _)
        rw [FB.leave_exit hid] at p2
        exact ⟨_, .inr (.inr ⟨id, k', rfl, by rw [p1]; rfl, rfl⟩), p2⟩
      | ret f1 h1 =>
        rw [hA] at he1
        have he2 : endRound l (some .ret) h1 = .ok v h' := he1
        have hle := hendnx h1 _ he2
        obtain ⟨σ1, a1, w1, q1, q2, q3, q4⟩ := hruns σ f0 ⟨tm, []⟩ h w f1 h1 _ hA (.inr (.inr rfl)) hst0 hb0 (by omega) (hf.left hle)
        refine hend σ1 h1 w1 a1 _ he2 q3 (fun c cs => ?_)
        obtain ⟨k', p2⟩ := q4 [.beginRound, .code bd0] (c :: cs) (hcalm _)
        exact ⟨_, .inr (.inl ⟨k', rfl, rfl⟩), p2⟩
      | nrm f1 h1 =>
        rw [hA] at he1
        have he2 : roundR l (roundB P ctx l bd0 f1 h1) = .ok v h' := he1
        unfold roundB at he2
        split at he2
        · rename_i pend1 fr1 ps1 as1 bd1 hget1
          have hle1 : h1.nx ≤ h'.nx := by
            have := mono_roundR (h := h1.put l (.loop 1 pend1 fr1 ps1 as1 bd1)) l (mono_exec (P := P) hc.mono bd0 f1 (h1.put l (.loop 1 pend1 fr1 ps1 as1 bd1)))
            exact this v h' he2
          obtain ⟨σ1, a1, w1, q1, q2, q3, q4⟩ := hruns σ f0 ⟨tm, []⟩ h w f1 h1 _ hA (.inl rfl) hst0 hb0 (by omega) (hf.left hle1)
          have hsl1 := q3.le _ _ hsl
          have hbr1 := q3.ms.ma l e hsl1
          rw [hget1] at hbr1
          obtain ⟨hk1, lp1, c1, c2, c3, c4, c5, c6, c7, c8, c9, c10, c11⟩ := hbr1
          have hput : Out P.globals.size σ1 h1 w1 σ1 (h1.put l (.loop 1 pend1 fr1 ps1 as1 bd1)) (setBlk w1 e.c (.loop { lp1 with state := .busy })) := by
            refine put_self_step q3.ms.ai q3.ms.so q3.ms.ma hsl1 hget1 (by intro q; cases q) (by intro n q; cases q) rfl rfl hk1 (by intro n q; cases q) ?_
            exact ⟨hk1, { lp1 with state := .busy }, by rw [heap_setBlk, if_pos ⟨rfl, lt_of_get c1⟩], rfl, c3, c4, c5, c6, c7, c8, c9, c10, c11⟩
          have hout2 := q3.trans hput (show (h1.put l (.loop 1 pend1 fr1 ps1 as1 bd1)).nx ≤ lim from Nat.le_trans hle1 hl)
          have hst1 : St P.globals.size σ1 lp.tmps.size f1 a1 (h1.put l (.loop 1 pend1 fr1 ps1 as1 bd1)) (setBlk w1 e.c (.loop { lp1 with state := .busy })) := q1.next hput q1.fr
          have hbeg : ∀ c cs, Steps P (lone (FB.at ⟨lp.fn, .normal, some e.c⟩ ⟨tm, []⟩ [.code as, .beginRound, .code bd0]) (c :: cs) w) (lone (FB.at ⟨lp.fn, .normal, some e.c⟩ a1 [.code bd0]) (c :: cs) (setBlk w1 e.c (.loop { lp1 with state := .busy }))) :=
            fun c cs => (q4 [.beginRound, .code bd0] (c :: cs) (hcalm _)).trans (.one (s_beginRound rfl c1 c2))
          have hfree2 : Free σ1 (h1.put l (.loop 1 pend1 fr1 ps1 as1 bd1)) h' := hf.right hout2
          -- what the body comes to
          cases hB : exec bd0 P ctx f1 (h1.put l (.loop 1 pend1 fr1 ps1 as1 bd1)) with
          | bad n => rw [hB] at he2; cases he2
          | nrm f2 h2 =>
            rw [hB] at he2
            have he3 : endRound l none h2 = .ok v h' := he2
            have hle := hendnx h2 _ he3
            obtain ⟨σ2, a2, w2, r1, r2, r3, r4⟩ := hrunb σ1 f1 a1 _ _ f2 h2 _ hB (.inl rfl) hst1 q2 (by omega) (hfree2.left hle)
            refine hend σ2 h2 w2 a2 _ he3 (hout2.trans r3 (by omega)) (fun c cs => ?_)
            exact ⟨_, .inl ⟨rfl, rfl⟩, (hbeg c cs).trans (r4 [] (c :: cs) (hcalm _))⟩
          | ext id f2 h2 =>
            rw [hB] at he2
            obtain ⟨hid, he3⟩ := roundX he2
            have hle := hendnx h2 _ he3
            obtain ⟨σ2, a2, w2, r1, r2, r3, pv, hpv, r4⟩ := hrunb σ1 f1 a1 _ _ f2 h2 _ hB (.inr (.inl ⟨id, rfl⟩)) hst1 q2 (by omega) (hfree2.left hle)
            refine hend σ2 h2 w2 a2 _ he3 (hout2.trans r3 (by omega)) (fun c cs => ?_)
            obtain ⟨k', p1, p2⟩ := r4 [] (c :: cs) (hcalm _)
            rw [FB.leave_exit hid] at p2
            exact ⟨_, .inr (.inr ⟨id, k', rfl, by rw [p1]; rfl, rfl⟩), (hbeg c cs).trans p2⟩
          | ret f2 h2 =>
            rw [hB] at he2
            have he3 : endRound l (some .ret) h2 = .ok v h' := he2
            have hle := hendnx h2 _ he3
            obtain ⟨σ2, a2, w2, r1, r2, r3, r4⟩ := hrunb σ1 f1 a1 _ _ f2 h2 _ hB (.inr (.inr rfl)) hst1 q2 (by omega) (hfree2.left hle)
            refine hend σ2 h2 w2 a2 _ he3 (hout2.trans r3 (by omega)) (fun c cs => ?_)
            obtain ⟨k', p2⟩ := r4 [] (c :: cs) (hcalm _)
            exact ⟨_, .inr (.inl ⟨k', rfl, rfl⟩), (hbeg c cs).trans p2⟩
        · cases he2
    · cases he1
  · cases he1
/-- THE EVALUATOR IS RIGHT -/
theorem ctxS (hc : CtxSound P P.globals.size ctx) (hmx : P.follows .mixedOrders = true) (hp : progOk P = true) (hm : CtxMono ⟨callF P ctx, roundF P ctx⟩) : CtxSound P P.globals.size ⟨callF P ctx, roundF P ctx⟩ :=
  ⟨callF_sound hc hmx hp, roundF_sound hc hmx, hm, callF_pan hc hmx hp, fun _ _ _ _ _ he => roundF_pan he⟩
theorem noCall_sound : CtxSound P G noCall :=
  ⟨fun g args h h' v σ w args' kind he => (by cases he), fun l args h h' v σ w args' e he => (by cases he), mono_ctxD P 0, fun g args h h' v σ w args' he => (by cases he), fun l args h v h' he => (by cases he)⟩
theorem ctxD_sound (hmx : P.follows .mixedOrders = true) (hp : progOk P = true) (d : Nat) : CtxSound P P.globals.size (ctxD P d) := by
  induction d with
  | zero => exact noCall_sound
  | succ d ih => exact ctxS ih hmx hp (mono_ctxD P (d + 1))
end Go.Ev
