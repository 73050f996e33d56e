/- Code. -/
import Derived.Test.YtnefaadihgbobaaGreatDoorEvDraw6
set_option linter.unusedSimpArgs false
set_option linter.unusedVariables false
namespace Go.Ev
variable {P : Program} {G : Nat} {σ σ' : Sig} {h h' : H} {w w' : World} {v : AV} {nt : Nat} {f f' : L2} {a a' : Act} {ctx : CallT} {b : FB} {cs : List Frame}

def Fin (r : RC) (f' : L2) (h' : H) : Prop := r = .nrm f' h' ∨ (∃ i, r = .ext i f' h') ∨ r = .ret f' h'
/-- how a run from 'src' ends -/
def Ends (P : Program) (b : FB) (src dst : List Item → List Item) (a : Act) (w : World) (r : RC) (a' : Act) (w' : World) : Prop :=
  match r with
  | .nrm _ _ => ∀ k cs, Calm b cs → Steps P (lone (b.at a (src k)) cs w) (lone (b.at a' (dst k)) cs w')
  | .ext id _ _ => ∀ k cs, Calm b cs → ∃ k', exitTo id k' = exitTo id k ∧ Steps P (lone (b.at a (src k)) cs w) (lone (b.at a' (.code (.exit id) :: k')) cs w')
  | .ret _ _ => ∀ k cs, Calm b cs → ∃ k', Steps P (lone (b.at a (src k)) cs w) (lone (b.at a' (.code .ret :: k')) cs w')
  | .bad _ => True
def RunsTo (P : Program) (G : Nat) (nt : Nat) (b : FB) (src dst : List Item → List Item) (go : L2 → H → RC) : Prop :=
  ∀ (σ : Sig) (f : L2) (a : Act) (h : H) (w : World) (f' : L2) (h' : H) (r : RC), go f h = r → Fin r f' h' → St G σ nt f a h w → RBk b σ f → h'.nx ≤ lim → Free σ h h' →
    ∃ σ' a' w', St G σ' nt f' a' h' w' ∧ RBk b σ' f' ∧ Out G σ h w σ' h' w' ∧ Ends P b src dst a w r a' w'
theorem Ends.head {src src' dst : List Item → List Item} {r : RC} (hs : ∀ k cs, step P (lone (b.at a (src k)) cs w) = .next (lone (b.at a (src' k)) cs w)) (he : Ends P b src' dst a w r a' w') : Ends P b src dst a w r a' w' := by
  cases r with
  | bad n => trivial
  | nrm f h => exact fun k cs hc => .head (hs k cs) (he k cs hc)
  | ext id f h => exact fun k cs hc => by obtain ⟨k', h1, h2⟩ := he k cs hc; exact ⟨k', h1, .head (hs k cs) h2⟩
  | ret f h => exact fun k cs hc => by obtain ⟨k', h2⟩ := he k cs hc; exact ⟨k', .head (hs k cs) h2⟩
theorem Ends.pre {src mid dst : List Item → List Item} {r : RC} {a1 : Act} {w1 : World} (hs : ∀ k cs, Calm b cs → Steps P (lone (b.at a (src k)) cs w) (lone (b.at a1 (mid k)) cs w1)) (he : Ends P b mid dst a1 w1 r a' w') : Ends P b src dst a w r a' w' := by
  cases r with
  | bad n => trivial
  | nrm f h => exact fun k cs hc => (hs k cs hc).trans (he k cs hc)
  | ext id f h => exact fun k cs hc => by obtain ⟨k', h1, h2⟩ := he k cs hc; exact ⟨k', h1, (hs k cs hc).trans h2⟩
  | ret f h => exact fun k cs hc => by obtain ⟨k', h2⟩ := he k cs hc; exact ⟨k', (hs k cs hc).trans h2⟩
theorem RunsTo.head {src src' dst : List Item → List Item} {go : L2 → H → RC} (hs : ∀ a w k cs, step P (lone (b.at a (src k)) cs w) = .next (lone (b.at a (src' k)) cs w)) (hr : RunsTo P G nt b src' dst go) : RunsTo P G nt b src dst go := by
  intro σ f a h w f' h' r h1 h2 h3 h4 h5 h6
  obtain ⟨σ', a', w', q1, q2, q3, q4⟩ := hr σ f a h w f' h' r h1 h2 h3 h4 h5 h6
  exact ⟨σ', a', w', q1, q2, q3, q4.head (hs a w)⟩
/-- one after the other -/
theorem RunsTo.andThen {src mid dst : List Item → List Item} {go next : L2 → H → RC} (hgo : RunsTo P G nt b src mid go)
    (hnx : ∀ f h, MonoC h (next f h)) (hnext : RunsTo P G nt b mid dst next) : RunsTo P G nt b src dst (fun f h => andThen next (go f h)) := by
  intro σ f a h w f' h' r he hfin hs hb hl hf
  dsimp only at he
  cases hg : go f h with
  | bad n => rw [hg] at he; subst he; rcases hfin with hq | ⟨_, hq⟩ | hq <;> cases hq
  | nrm f1 h1 =>
    rw [hg] at he
    have he' : next f1 h1 = r := he
    have hle : h1.nx ≤ h'.nx := by
      refine hnx f1 h1 f' h' ?_
      rw [he']; exact hfin
    obtain ⟨σ1, a1, w1, q1, q2, q3, q4⟩ := hgo σ f a h w f1 h1 _ hg (.inl rfl) hs hb (by omega) (hf.left hle)
    obtain ⟨σ2, a2, w2, p1, p2, p3, p4⟩ := hnext σ1 f1 a1 h1 w1 f' h' r he' hfin q1 q2 hl (hf.right q3)
    exact ⟨σ2, a2, w2, p1, p2, q3.trans p3 hl, Ends.pre q4 p4⟩
  | ext id f1 h1 =>
    rw [hg] at he
    have he' : RC.ext id f1 h1 = r := he
    subst he'
    have hff : f1 = f' ∧ h1 = h' := by rcases hfin with hq | ⟨_, hq⟩ | hq <;> cases hq; exact ⟨rfl, rfl⟩
    obtain ⟨rfl, rfl⟩ := hff
    exact hgo σ f a h w f1 h1 _ hg (.inr (.inl ⟨id, rfl⟩)) hs hb hl hf
  | ret f1 h1 =>
    rw [hg] at he
    have he' : RC.ret f1 h1 = r := he
    subst he'
    have hff : f1 = f' ∧ h1 = h' := by rcases hfin with hq | ⟨_, hq⟩ | hq <;> cases hq; exact ⟨rfl, rfl⟩
    obtain ⟨rfl, rfl⟩ := hff
    exact hgo σ f a h w f1 h1 _ hg (.inr (.inr rfl)) hs hb hl hf
theorem fin_nrm {f1 : L2} {h1 : H} (hh : Fin (.nrm f1 h1) f' h') : f' = f1 ∧ h' = h1 := by rcases hh with hq | ⟨_, hq⟩ | hq <;> cases hq; exact ⟨rfl, rfl⟩
theorem fin_ext {i : Nat} {f1 : L2} {h1 : H} (hh : Fin (.ext i f1 h1) f' h') : f' = f1 ∧ h' = h1 := by rcases hh with hq | ⟨_, hq⟩ | hq <;> cases hq; exact ⟨rfl, rfl⟩
theorem fin_ret {f1 : L2} {h1 : H} (hh : Fin (.ret f1 h1) f' h') : f' = f1 ∧ h' = h1 := by rcases hh with hq | ⟨_, hq⟩ | hq <;> cases hq; exact ⟨rfl, rfl⟩
theorem fin_bad {n : Nat} (hh : Fin (.bad n) f' h') : False := by rcases hh with hq | ⟨_, hq⟩ | hq <;> cases hq
def Code.src (c : Code) (k : List Item) : List Item := .code c :: k
theorem nrm_runs {src dst : List Item → List Item} (hs : ∀ a w k cs, step P (lone (b.at a (src k)) cs w) = .next (lone (b.at a (dst k)) cs w)) : RunsTo P G nt b src dst RC.nrm := by
  intro σ f a h w f' h' r he hfin hst hb hl hf
  subst he
  obtain ⟨rfl, rfl⟩ := fin_nrm hfin
  exact ⟨σ, a, w, hst, hb, Out.refl hst.ai hst.so hst.ma, fun k cs _ => .one (hs a w k cs)⟩
theorem region_runs (hc : CtxSound P G ctx) (hmx : P.follows .mixedOrders = true) {id : Nat} {ops : Array Oper} {dr : Bool} (hok : codeOk G nt (.region id ops dr) = true) (hnt : nt < 250) :
    RunsTo P G nt b (Code.src (.region id ops dr)) (fun k => k) (exec (.region id ops dr) P ctx) := by
  have hok' : (Bool.rec (motive := fun _ => Bool) false (Bool.rec (motive := fun _ => Bool) true (regOk ops) dr) (ops.toList.all (operOk G nt)) : Bool) = true := hok
  cases hall : ops.toList.all (operOk G nt) with
  | false => rw [hall] at hok'; cases hok'
  | true =>
    rw [hall] at hok'
    have hall' : ∀ x ∈ ops.toList, operOk G nt x = true := List.all_eq_true.1 hall
    intro σ f a h w f' h' r he hfin hs hb hl hf
    cases dr with
    | false =>
      have he' : execOps P ctx ops ops.toList f h = r := he
      have hr : ∀ n, r ≠ .bad n := fun n hn => by subst hn; exact fin_bad hfin
      obtain ⟨f1, h1, rfl, hgo⟩ := ops_sound (b := b) hc hall' hnt ops.toList 0 rfl σ f a h w r he' hr hs hb
      obtain ⟨rfl, rfl⟩ := fin_nrm hfin
      obtain ⟨σ', a', w', q1, q2, q3, q4⟩ := hgo hl hf
      refine ⟨σ', a', w', q1, q2, q3, fun k cs hcm => ?_⟩
      refine .head s_region ?_
      have := q4 k cs hcm
      rw [Nat.sub_zero, ← List.range_eq_range'] at this
      exact this.trans (.one s_regionEnd)
    | true =>
      have he' : execDrawn P ctx ops f h = r := he
      have hreg : regOk ops = true := hok'
      have hrn : ∃ f1 h1, r = .nrm f1 h1 := by
        cases r with
        | nrm f1 h1 => exact ⟨f1, h1, rfl⟩
        | bad n => exact (fin_bad hfin).elim
        | ext i f1 h1 => exact (drawn_nrm he' (fun _ _ hh => by cases hh) (fun _ hh => by cases hh)).elim
        | ret f1 h1 => exact (drawn_nrm he' (fun _ _ hh => by cases hh) (fun _ hh => by cases hh)).elim
      obtain ⟨f1, h1, rfl⟩ := hrn
      obtain ⟨rfl, rfl⟩ := fin_nrm hfin
      obtain ⟨σ', a', w', q1, q2, q3, q4⟩ := drawn_sound hc hmx hreg hall' hnt he' hs hb hl hf id
      exact ⟨σ', a', w', q1, q2, q3, q4⟩
where
  drawn_nrm {ops : Array Oper} {f : L2} {h : H} {r : RC} (he : execDrawn P ctx ops f h = r) (h1 : ∀ f' h', r ≠ .nrm f' h') (h2 : ∀ n, r ≠ .bad n) : False := by
    unfold execDrawn at he
    cases hd : noDf ops with
    | false => rw [hd] at he; exact h2 _ he.symm
    | true =>
      rw [hd] at he
      have key : ∀ (l : List DO) (efs : List EF) (f : L2) (h : H) (lg : List Nat), drOps P ctx ops lg l efs f h ≠ r := by
        intro l
        induction l with
        | nil =>
          intro efs f h lg he
          have hq : (Bool.rec (motive := fun _ => RC) (.bad 183) (.nrm f (reLog (wroteAll efs lg) h)) (effOk efs) : RC) = r := he
          cases hc : effOk efs with
          | false => rw [hc] at hq; exact h2 _ hq.symm
          | true => rw [hc] at hq; exact h1 _ _ hq.symm
        | cons d l ih =>
          intro efs f h lg he
          have hq : (RC.rec (motive := fun _ => RC) RC.bad (fun f' h' => drOps P ctx ops lg l (⟨d.bit, d.pr, wrote h.nx h'.lg, readsOf d.o.op f, h, h'.nx⟩ :: efs) f' h') (fun _ _ _ => .bad 184) (fun _ _ => .bad 184) (oper1 ops d.o P ctx f (noLog h)) : RC) = r := he
          cases ho : oper1 ops d.o P ctx f (noLog h) with
          | bad n => rw [ho] at hq; exact h2 _ hq.symm
          | ext id f1 h1' => rw [ho] at hq; exact h2 _ hq.symm
          | ret f1 h1' => rw [ho] at hq; exact h2 _ hq.symm
          | nrm f1 h1' => rw [ho] at hq; exact ih _ _ _ _ hq
      exact key _ _ _ _ _ he
theorem cond_runs {c : Operand} {x y : Code} (hop : opdOk G c = true) (hx : RunsTo P G nt b (Code.src x) (fun k => k) (exec x P ctx)) (hy : RunsTo P G nt b (Code.src y) (fun k => k) (exec y P ctx)) :
    RunsTo P G nt b (Code.src (.cond c x y)) (fun k => k) (exec (.cond c x y) P ctx) := by
  intro σ f a h w f' h' r he hfin hs hb hl hf
  have he' : condV (ev c f) (exec x) (exec y) P ctx f h = r := he
  have hv := ev_rel hs.fr hs.gl c hop
  generalize ev c f = u at *
  generalize hcc : a.eval c = cc at *
  cases hv
  case bool t =>
    cases t with
    | true =>
      obtain ⟨σ', a', w', q1, q2, q3, q4⟩ := hx σ f a h w f' h' r he' hfin hs hb hl hf
      exact ⟨σ', a', w', q1, q2, q3, q4.head (fun k cs => s_cond hcc)⟩
    | false =>
      obtain ⟨σ', a', w', q1, q2, q3, q4⟩ := hy σ f a h w f' h' r he' hfin hs hb hl hf
      exact ⟨σ', a', w', q1, q2, q3, q4.head (fun k cs => s_cond hcc)⟩
  all_goals exact (fin_bad (by rw [← he'] at hfin; exact hfin)).elim
theorem block_runs {id : Nat} {c : Code} (hx : RunsTo P G nt b (Code.src c) (fun k => k) (exec c P ctx)) : RunsTo P G nt b (Code.src (.block id c)) (fun k => k) (exec (.block id c) P ctx) := by
  intro σ f a h w f' h' r he hfin hs hb hl hf
  have he' : inBlock id (exec c P ctx f h) = r := he
  have hhead : ∀ k cs, step P (lone (b.at a (Code.src (.block id c) k)) cs w) = .next (lone (b.at a (Code.src c (.inBlock id :: k))) cs w) := fun k cs => s_block
  cases hg : exec c P ctx f h with
  | bad n => rw [hg] at he'; subst he'; exact (fin_bad hfin).elim
  | nrm f1 h1 =>
    rw [hg] at he'
    subst he'
    obtain ⟨rfl, rfl⟩ := fin_nrm hfin
    obtain ⟨σ', a', w', q1, q2, q3, q4⟩ := hx σ f a h w _ _ _ hg (.inl rfl) hs hb hl hf
    exact ⟨σ', a', w', q1, q2, q3, fun k cs hcm => .head (hhead k cs) ((q4 (.inBlock id :: k) cs hcm).trans (.one s_inBlock))⟩
  | ext i f1 h1 =>
    rw [hg] at he'
    have he2 : (Bool.rec (motive := fun _ => RC) (RC.ext i f1 h1) (RC.nrm f1 h1) (Nat.beq i id) : RC) = r := he'
    cases hib : Nat.beq i id with
    | true =>
      rw [hib] at he2
      have hii := beq_eqN hib
      subst hii
      subst he2
      obtain ⟨rfl, rfl⟩ := fin_nrm hfin
      obtain ⟨σ', a', w', q1, q2, q3, q4⟩ := hx σ f a h w _ _ _ hg (.inr (.inl ⟨i, rfl⟩)) hs hb hl hf
      refine ⟨σ', a', w', q1, q2, q3, fun k cs hcm => ?_⟩
      obtain ⟨k', h1, h2⟩ := q4 (.inBlock i :: k) cs hcm
      have hex : exitTo i k' = some k := by rw [h1]; simp [exitTo]
      exact .head (hhead k cs) (h2.trans (.one (s_exit hex)))
    | false =>
      rw [hib] at he2
      have hne := beq_neN hib
      subst he2
      obtain ⟨rfl, rfl⟩ := fin_ext hfin
      obtain ⟨σ', a', w', q1, q2, q3, q4⟩ := hx σ f a h w _ _ _ hg (.inr (.inl ⟨i, rfl⟩)) hs hb hl hf
      refine ⟨σ', a', w', q1, q2, q3, fun k cs hcm => ?_⟩
      obtain ⟨k', h1, h2⟩ := q4 (.inBlock id :: k) cs hcm
      refine ⟨k', ?_, .head (hhead k cs) h2⟩
      rw [h1]
      simp [exitTo, Ne.symm hne]
  | ret f1 h1 =>
    rw [hg] at he'
    subst he'
    obtain ⟨rfl, rfl⟩ := fin_ret hfin
    obtain ⟨σ', a', w', q1, q2, q3, q4⟩ := hx σ f a h w _ _ _ hg (.inr (.inr rfl)) hs hb hl hf
    exact ⟨σ', a', w', q1, q2, q3, fun k cs hcm => by obtain ⟨k', h2⟩ := q4 (.inBlock id :: k) cs hcm; exact ⟨k', .head (hhead k cs) h2⟩⟩
/-- under more of the stack -/
theorem RunsTo.under {src dst : List Item → List Item} {go : L2 → H → RC} (i : Item) (hi : ∀ id, i ≠ .inBlock id) (hr : RunsTo P G nt b src dst go) : RunsTo P G nt b (fun k => src (i :: k)) (fun k => dst (i :: k)) go := by
  intro σ f a h w f' h' r h1 h2 h3 h4 h5 h6
  obtain ⟨σ', a', w', q1, q2, q3, q4⟩ := hr σ f a h w f' h' r h1 h2 h3 h4 h5 h6
  refine ⟨σ', a', w', q1, q2, q3, ?_⟩
  cases r with
  | bad n => trivial
  | nrm f h => exact fun k cs hc => q4 (i :: k) cs hc
  | ext id f h =>
    intro k cs hc
    obtain ⟨k', p1, p2⟩ := q4 (i :: k) cs hc
    refine ⟨k', ?_, p2⟩
    rw [p1]
    cases i <;> first | rfl | (exact absurd rfl (hi _))
  | ret f h => exact fun k cs hc => q4 (i :: k) cs hc
theorem loop_runs (hc : CtxMono ctx) {c : Code} (hx : RunsTo P G nt b (Code.src c) (fun k => k) (exec c P ctx)) (n : Nat) :
    RunsTo P G nt b (fun k => .code c :: .inLoop c :: k) (fun k => .inLoop c :: k) (loopK (exec c) P ctx n) := by
  induction n with
  | zero => exact hx.under (.inLoop c) (fun id hh => by cases hh)
  | succ n ih =>
    exact RunsTo.andThen (mid := fun k => .inLoop c :: k) ih (fun f h => mono_loopK (fun f h => mono_exec hc c f h) n f h) (ih.head (fun a w k cs => s_inLoop))
end Go.Ev
