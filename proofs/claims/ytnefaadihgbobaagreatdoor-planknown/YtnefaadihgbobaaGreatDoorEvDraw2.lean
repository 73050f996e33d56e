/- The run in the order of the text, and what the look behind it says. -/
import Derived.Test.YtnefaadihgbobaaGreatDoorEvDraw1
set_option linter.unusedSimpArgs false
set_option linter.unusedVariables false
namespace Go.Ev
variable {P : Program} {G : Nat} {σ σ' : Sig} {h h' : H} {w w' : World} {v : AV} {nt : Nat} {f f' : L2} {a : Act} {ctx : CallT} {b : FB} {cs : List Frame}

theorem memN_spec (x : Nat) (l : List Nat) : memN x l = true ↔ x ∈ l := by
  induction l with
  | nil => exact ⟨fun hh => (by cases hh), fun hh => (by cases hh)⟩
  | cons y l ih =>
    show (Bool.rec (motive := fun _ => Bool) (memN x l) true (Nat.beq y x) : Bool) = true ↔ _
    cases hb : Nat.beq y x with
    | true => have := beq_eqN hb; subst this; simp
    | false =>
      have hne := beq_neN hb
      show memN x l = true ↔ _
      rw [ih, List.mem_cons]
      exact ⟨.inr, fun hh => hh.resolve_left (fun h2 => hne h2.symm)⟩
theorem memN_false {x : Nat} {l : List Nat} (hh : memN x l = false) : x ∉ l := by
  intro hm
  rw [(memN_spec x l).2 hm] at hh
  cases hh
theorem wrote_spec (n x : Nat) (l : List Nat) : x ∈ wrote n l ↔ x ∈ l ∧ x < n := by
  induction l with
  | nil => exact ⟨fun hh => (by cases hh), fun hh => (by cases hh.1)⟩
  | cons y l ih =>
    show x ∈ (Bool.rec (motive := fun _ => List Nat) (wrote n l) (y :: wrote n l) (Nat.blt y n) : List Nat) ↔ _
    cases hb : Nat.blt y n with
    | true =>
      have := blt_lt hb
      show x ∈ y :: wrote n l ↔ _
      rw [List.mem_cons, List.mem_cons, ih]
      constructor
      · rintro (rfl | ⟨h1, h2⟩)
        · exact ⟨.inl rfl, this⟩
        · exact ⟨.inr h1, h2⟩
      · rintro ⟨rfl | h1, h2⟩
        · exact .inl rfl
        · exact .inr ⟨h1, h2⟩
    | false =>
      have := blt_ge hb
      show x ∈ wrote n l ↔ _
      rw [List.mem_cons, ih]
      constructor
      · rintro ⟨h1, h2⟩; exact ⟨.inr h1, h2⟩
      · rintro ⟨rfl | h1, h2⟩
        · omega
        · exact ⟨h1, h2⟩
theorem outside_spec {l : List Nat} {lo hi : Nat} (hh : outside l lo hi = true) : ∀ x ∈ l, ¬ (lo ≤ x ∧ x < hi) := by
  induction l with
  | nil => intro x hx; cases hx
  | cons y l ih =>
    intro x hx hc
    have h1 : (Bool.rec (motive := fun _ => Bool) (outside l lo hi) false (Bool.rec (motive := fun _ => Bool) false (Nat.blt y hi) (Nat.ble lo y) : Bool) : Bool) = true := hh
    cases hq : (Bool.rec (motive := fun _ => Bool) false (Nat.blt y hi) (Nat.ble lo y) : Bool) with
    | true => rw [hq] at h1; cases h1
    | false =>
      rw [hq] at h1
      cases hx with
      | head =>
        have e1 : Nat.ble lo y = true := by simpa using hc.1
        have e2 : Nat.blt y hi = true := by rw [Nat.blt_eq]; exact hc.2
        rw [e1] at hq
        have hq' : Nat.blt y hi = false := hq
        rw [e2] at hq'
        cases hq'
      | tail _ hm => exact ih h1 x hm hc
theorem classOf_eq (o : AO) : classOf o = clsAO o := by
  cases o with
  | cells l t k => cases k <;> rfl
  | _ => rfl
theorem clear_blk {x : Nat} {l : List Nat} {h : H} (hh : clear (.blk x) l h = true) : x ∉ l ∧ ∀ k, clsAO (h.m.get x) = some k → k ∉ l := by
  have h1 : (Bool.rec (motive := fun _ => Bool) (clearB l (classOf (h.m.get x))) false (memN x l) : Bool) = true := hh
  cases hm : memN x l with
  | true => rw [hm] at h1; cases h1
  | false =>
    rw [hm] at h1
    refine ⟨memN_false hm, fun k hk => ?_⟩
    have h2 : clearB l (classOf (h.m.get x)) = true := h1
    rw [classOf_eq, hk] at h2
    have h3 : bnot (memN k l) = true := h2
    rw [bnot_eq] at h3
    exact memN_false (by simpa using h3)
theorem nilN_spec {l : List Nat} (hh : l ≠ []) : nilN l = false := by
  cases l with
  | nil => exact absurd rfl hh
  | cons x l => rfl
theorem calmAll_get {e : EF} : ∀ {l : List EF}, calmAll e l = true → ∀ x ∈ l, calm1 e x = true := by
  intro l
  induction l with
  | nil => intro _ x hx; cases hx
  | cons y l ih =>
    intro hh x hx
    have h1 : (Bool.rec (motive := fun _ => Bool) false (calmAll e l) (calm1 e y) : Bool) = true := hh
    cases hc : calm1 e y with
    | false => rw [hc] at h1; cases h1
    | true =>
      rw [hc] at h1
      cases hx with
      | head => exact hc
      | tail _ hm => exact ih h1 x hm
theorem effGo_get {all : List EF} : ∀ {l : List EF}, effGo all l = true → ∀ e ∈ l, e.w ≠ [] → ∀ x ∈ all, calm1 e x = true := by
  intro l
  induction l with
  | nil => intro _ x hx; cases hx
  | cons y l ih =>
    intro hh e he hne x hx
    have h1 : (Bool.rec (motive := fun _ => Bool) (Bool.rec (motive := fun _ => Bool) false (effGo all l) (calmAll y all)) (effGo all l) (nilN y.w) : Bool) = true := hh
    cases hn : nilN y.w with
    | true =>
      rw [hn] at h1
      cases he with
      | head => rw [nilN_spec hne] at hn; cases hn
      | tail _ hm => exact ih h1 e hm hne x hx
    | false =>
      rw [hn] at h1
      have h2 : (Bool.rec (motive := fun _ => Bool) false (effGo all l) (calmAll y all) : Bool) = true := h1
      cases hc : calmAll y all with
      | false => rw [hc] at h2; cases h2
      | true =>
        rw [hc] at h2
        cases he with
        | head => exact calmAll_get hc x hx
        | tail _ hm => exact ih h2 e hm hne x hx
theorem calm1_get {e x : EF} (hh : calm1 e x = true) : Nat.land e.pr x.bit ≠ 0 ∨ Nat.land x.pr e.bit ≠ 0 ∨ e.bit = x.bit ∨ (clear x.r e.w x.h = true ∧ outside e.w x.h.nx x.n1 = true) := by
  unfold calm1 at hh
  cases hz : zeroN (Nat.lor (Nat.land e.pr x.bit) (Nat.land x.pr e.bit)) with
  | false =>
    have hne : (e.pr &&& x.bit) ||| (x.pr &&& e.bit) ≠ 0 := beq_neN hz
    by_cases h1 : e.pr &&& x.bit = 0
    · refine .inr (.inl fun h2 => hne ?_)
      rw [h1, show x.pr &&& e.bit = 0 from h2]; rfl
    · exact .inl h1
  | true =>
    rw [hz] at hh
    cases hb : Nat.beq e.bit x.bit with
    | true => exact .inr (.inr (.inl (beq_eqN hb)))
    | false =>
      rw [hb] at hh
      cases hd : disj e.w x.w with
      | false => rw [hd] at hh; cases hh
      | true =>
        rw [hd] at hh
        cases hc : clear x.r e.w x.h with
        | false => rw [hc] at hh; cases hh
        | true => rw [hc] at hh; exact .inr (.inr (.inr ⟨rfl, hh⟩))
/-- the run, taken apart -/
theorem drOps_trace {ops : Array Oper} {lg : List Nat} : ∀ (l : List DO) (efs : List EF) (f : L2) (h : H) (f' : L2) (h' : H), drOps P ctx ops lg l efs f h = .nrm f' h' →
    ∃ (F : Nat → L2) (Hs : Nat → H) (es : List EF), F 0 = f ∧ Hs 0 = h ∧ (∀ i d, l[i]? = some d → oper1 ops d.o P ctx (F i) (noLog (Hs i)) = .nrm (F (i + 1)) (Hs (i + 1)) ∧
      es[i]? = some ⟨d.bit, d.pr, wrote (Hs i).nx (Hs (i + 1)).lg, readsOf d.o.op (F i), Hs i, (Hs (i + 1)).nx⟩) ∧ es.length = l.length ∧ effOk (es.reverse ++ efs) = true ∧ f' = F l.length ∧
        h' = reLog (wroteAll (es.reverse ++ efs) lg) (Hs l.length) := by
  intro l
  induction l with
  | nil =>
    intro efs f h f' h' he
    have h1 : (Bool.rec (motive := fun _ => RC) (.bad 183) (.nrm f (reLog (wroteAll efs lg) h)) (effOk efs) : RC) = .nrm f' h' := he
    cases hc : effOk efs with
    | false => rw [hc] at h1; cases h1
    | true =>
      rw [hc] at h1
      cases h1
      exact ⟨fun _ => f, fun _ => h, [], rfl, rfl, fun i d hi => by simp at hi, rfl, hc, rfl, rfl⟩
  | cons d l ih =>
    intro efs f h f' h' he
    have h1 : (RC.rec (motive := fun _ => RC) RC.bad (fun f' h' => drOps P ctx ops lg l (⟨d.bit, d.pr, wrote h.nx h'.lg, readsOf d.o.op f, h, h'.nx⟩ :: efs) f' h') (fun _ _ _ => .bad 184) (fun _ _ => .bad 184) (oper1 ops d.o P ctx f (noLog h)) : RC) = .nrm f' h' := he
    cases ho : oper1 ops d.o P ctx f (noLog h) with
    | bad n => rw [ho] at h1; cases h1
    | ext id f1 h1' => rw [ho] at h1; cases h1
    | ret f1 h1' => rw [ho] at h1; cases h1
    | nrm f1 h1' =>
      rw [ho] at h1
      obtain ⟨F, Hs, es, q1, q2, q3, q4, q5, q6, q7⟩ := ih _ f1 h1' f' h' h1
      refine ⟨fun i => Nat.casesOn i f F, fun i => Nat.casesOn i h Hs, ⟨d.bit, d.pr, wrote h.nx h1'.lg, readsOf d.o.op f, h, h1'.nx⟩ :: es, rfl, rfl, ?_, by simp [q4], ?_, q6, ?_⟩
      · intro i d' hi
        cases i with
        | zero =>
          simp at hi
          subst hi
          dsimp only
          rw [q1, q2]
          exact ⟨ho, rfl⟩
        | succ i =>
          have := q3 i d' (by simpa using hi)
          exact ⟨this.1, by simpa using this.2⟩
      · rw [List.reverse_cons, List.append_assoc]
        exact q5
      · rw [List.reverse_cons, List.append_assoc]
        exact q7
/-- all that is known of the run -/
structure Dr (P : Program) (G : Nat) (ctx : CallT) (ops : Array Oper) (nt : Nat) (F : Nat → L2) (Hs : Nat → H) : Prop where
  reg : regOk ops = true
  run : ∀ (i : Nat) (o : Oper), ops[i]? = some o → oper1 ops o P ctx (F i) (noLog (Hs i)) = .nrm (F (i + 1)) (Hs (i + 1))
  calm : ∀ (i j : Nat) (p : Oper), i < ops.size → ops[j]? = some p → i ≠ j → (∃ x, x ∈ (Hs (i + 1)).lg ∧ x < (Hs i).nx) → Bef ops i j ∨ Bef ops j i ∨
    (clear (readsOf p.op (F j)) (wrote (Hs i).nx (Hs (i + 1)).lg) (Hs j) = true ∧ outside (wrote (Hs i).nx (Hs (i + 1)).lg) (Hs j).nx (Hs (j + 1)).nx = true)
  step : ∀ i, i < ops.size → AStep (noLog (Hs i)) (Hs (i + 1)) (Hs (i + 1)).lg
  inv : ∀ i, i ≤ ops.size → AInv (Hs i)
  nodf : ∀ o ∈ ops.toList, isDefer o.op = none
  all : ∀ o ∈ ops.toList, operOk G nt o = true
  nt : nt < 250
  top : (Hs ops.size).nx ≤ lim
theorem reverse_mem {es : List EF} {i : Nat} {x : EF} (hh : es[i]? = some x) : x ∈ es.reverse ++ [] := by
  simp only [List.append_nil, List.mem_reverse]
  exact List.mem_of_getElem? hh
theorem AInv.noLog (hi : AInv h) : AInv (noLog h) := ⟨hi.top, hi.bound, hi.cls, hi.tip, hi.stamp, hi.len⟩
theorem AInv.reLog (hi : AInv h) (lg : List Nat) : AInv (reLog lg h) := ⟨hi.top, hi.bound, hi.cls, hi.tip, hi.stamp, hi.len⟩
theorem St.noLog (hs : St G σ nt f a h w) : St G σ nt f a (noLog h) w := ⟨hs.fr, hs.gl, hs.ai.noLog, hs.so, hs.ma⟩
theorem Dr.of_run (hc : CtxSound P G ctx) {ops : Array Oper} (hreg : regOk ops = true) (hall : ∀ x ∈ ops.toList, operOk G nt x = true) (hnt : nt < 250) (he : execDrawn P ctx ops f h = .nrm f' h')
    (hs : St G σ nt f a h w) (hb : RBk b σ f) (hl : h'.nx ≤ lim) (hf : Free σ h h') :
    ∃ F Hs es, Dr P G ctx ops nt F Hs ∧ F 0 = f ∧ Hs 0 = h ∧ f' = F ops.size ∧ h' = reLog (wroteAll es h.lg) (Hs ops.size) ∧
      (es.reverse).length = ops.size ∧ ∀ i, i < ops.size → ∃ x, es.reverse[i]? = some x ∧ x.w = wrote (Hs i).nx (Hs (i + 1)).lg := by
  unfold execDrawn at he
  cases hd : noDf ops with
  | false => rw [hd] at he; cases he
  | true =>
    rw [hd] at he
    obtain ⟨F, Hs, es, q1, q2, q3, q4, q5, q6, q7⟩ := drOps_trace _ _ f h f' h' he
    have hlen : (dops ops.toList 0 []).length = ops.size := by rw [dops_len]; simp
    have hdo : ∀ (i : Nat) (o : Oper), ops[i]? = some o → ∃ d, (dops ops.toList 0 [])[i]? = some d ∧ d.o = o ∧ d.bit = bitOf i ∧ d.pr = mget (PR ops) i := by
      intro i o ho
      have hi : i < (dops ops.toList 0 []).length := by rw [hlen]; exact (Array.getElem?_eq_some_iff.1 ho).1
      obtain ⟨h1, h2, h3⟩ := dops_get ops.toList [] i _ (List.getElem?_eq_getElem hi)
      refine ⟨_, List.getElem?_eq_getElem hi, ?_, by simpa using h2, by simpa [PR] using h3⟩
      have : ops.toList[i]? = some o := by simpa using ho
      rw [this] at h1
      cases h1
      rfl
    have hrun : ∀ (i : Nat) (o : Oper), ops[i]? = some o → oper1 ops o P ctx (F i) (noLog (Hs i)) = .nrm (F (i + 1)) (Hs (i + 1)) := by
      intro i o ho
      obtain ⟨d, h1, rfl, h2, h3⟩ := hdo i o ho
      exact (q3 i d h1).1
    have hnx1 : ∀ i, i < ops.size → (Hs i).nx ≤ (Hs (i + 1)).nx := by
      intro i hi
      have := mono_oper1 (P := P) (f := F i) (h := noLog (Hs i)) hc.mono ops ops[i]
      exact this _ _ (.inl (hrun i _ (Array.getElem?_eq_getElem hi)))
    have hnx : ∀ j, j ≤ ops.size → (Hs j).nx ≤ (Hs ops.size).nx := by
      intro j hj
      have key : ∀ m, j + m ≤ ops.size → (Hs j).nx ≤ (Hs (j + m)).nx := by
        intro m
        induction m with
        | zero => intro _; exact Nat.le_refl _
        | succ m ih =>
          intro hm
          have := ih (by omega)
          have h2 := hnx1 (j + m) (by omega)
          exact Nat.le_trans this h2
      have := key (ops.size - j) (by omega)
      rwa [show j + (ops.size - j) = ops.size by omega] at this
    rw [hlen] at q6 q7
    have htop : (Hs ops.size).nx ≤ lim := by rw [q7] at hl; exact hl
    have hf0 : Free σ (Hs 0) (Hs ops.size) := by rw [q2]; rw [q7] at hf; exact hf
    -- the ghost
    have ghost : ∀ i, i ≤ ops.size → (∃ σ a w, St G σ nt (F i) a (Hs i) w ∧ RBk b σ (F i) ∧ Free σ (Hs i) (Hs ops.size)) ∧ ∀ j, j < i → AStep (noLog (Hs j)) (Hs (j + 1)) (Hs (j + 1)).lg := by
      intro i
      induction i with
      | zero =>
        intro _
        refine ⟨⟨σ, a, w, ?_, ?_, hf0⟩, fun j hj => absurd hj (by omega)⟩
        · rw [q1, q2]; exact hs
        · rw [q1]; exact hb
      | succ i ih =>
        intro hi
        obtain ⟨⟨σ1, a1, w1, g1, g2, g3⟩, g4⟩ := ih (by omega)
        have ho : ops[i]? = some ops[i] := Array.getElem?_eq_getElem hi
        have hmem : ops[i] ∈ ops.toList := by simp
        obtain ⟨f2, h2, e2, s2⟩ := oper_sound hc hall hnt (hall _ hmem) (hrun i _ ho) (fun n hn => by cases hn) g1.noLog g2
        cases e2
        have hle := hnx (i + 1) hi
        obtain ⟨σ2, a2, w2, t1, t2, t3, _⟩ := s2 (by omega) (g3.left hle)
        refine ⟨⟨σ2, a2, w2, t1, t2, Free.right (h := noLog (Hs i)) g3 t3⟩, fun j hj => ?_⟩
        by_cases hji : j = i
        · subst hji
          obtain ⟨nw, a1, _, _⟩ := t3
          have : (Hs (j + 1)).lg = nw := by rw [a1.lg]; simp [noLog]
          rw [this]
          exact a1
        · exact g4 j (by omega)
    have hfx : ∀ (i : Nat) (o : Oper), ops[i]? = some o → es[i]? = some ⟨bitOf i, mget (PR ops) i, wrote (Hs i).nx (Hs (i + 1)).lg, readsOf o.op (F i), Hs i, (Hs (i + 1)).nx⟩ := by
      intro i o ho
      obtain ⟨d, h1, rfl, h2, h3⟩ := hdo i o ho
      rw [← h2, ← h3]
      exact (q3 i d h1).2
    refine ⟨F, Hs, es.reverse, ⟨hreg, hrun, ?_, fun i hi => (ghost (i + 1) hi).2 i (by omega), fun i hi => ?_, ?_, hall, hnt, htop⟩, q1, q2, q6, by simpa using q7, by simp [q4, hlen], ?_⟩
    · intro i j p hi hp hij hne
      have e1 := hfx i _ (Array.getElem?_eq_getElem hi)
      have e2 := hfx j p hp
      have hnw : wrote (Hs i).nx (Hs (i + 1)).lg ≠ [] := by
        obtain ⟨x, h1, h2⟩ := hne
        exact List.ne_nil_of_mem ((wrote_spec _ x _).2 ⟨h1, h2⟩)
      have hcm := effGo_get q5 _ (reverse_mem e1) hnw _ (reverse_mem e2)
      rcases calm1_get hcm with h1 | h1 | h1 | ⟨h1, h2⟩
      · exact .inr (.inl (land_bit h1))
      · exact .inl (land_bit h1)
      · exact absurd ((Nat.pow_right_inj (by omega : 1 < 2)).1 h1) hij
      · exact .inr (.inr ⟨h1, h2⟩)
    · obtain ⟨⟨σ1, a1, w1, g1, _⟩, _⟩ := ghost i hi
      exact g1.ai
    · intro o ho
      have := List.all_eq_true.1 hd o ho
      rw [bnot_eq] at this
      unfold isDf at this
      cases hq : isDefer o.op with
      | none => rfl
      | some c => rw [hq] at this; cases this
    · intro i hi
      rw [List.reverse_reverse]
      exact ⟨_, hfx i _ (Array.getElem?_eq_getElem hi), rfl⟩
end Go.Ev
