/- Operations that read no memory: what they do in the model. -/
import Derived.Test.YtnefaadihgbobaaGreatDoorEvRel
import Derived.Laws.Sem
import Derived.Laws.Entries
set_option linter.unusedSimpArgs false
set_option linter.unusedVariables false
namespace Go.Ev
variable {P : Program} {G : Nat} {σ : Sig} {nt : Nat} {f : L2} {a : Act} {h h' : H} {w : World} {v : AV} {ctx : CallT}

theorem blt_lt {a b : Nat} (h : Nat.blt a b = true) : a < b := by simpa [Nat.blt_eq] using h
theorem ble_le {a b : Nat} (h : Nat.ble a b = true) : a ≤ b := by simpa using h
theorem beq_eqN {a b : Nat} (h : Nat.beq a b = true) : a = b := by simpa using h
theorem blt_ge {a b : Nat} (h : Nat.blt a b = false) : b ≤ a := by
  have : ¬ Nat.blt a b = true := by simp [h]
  simpa [Nat.blt_eq] using this
theorem ble_gt {a b : Nat} (h : Nat.ble a b = false) : b < a := by
  have : ¬ Nat.ble a b = true := by simp [h]
  simp at this
  omega
theorem beq_neN {a b : Nat} (h : Nat.beq a b = false) : a ≠ b := by
  intro e; subst e; simp at h

theorem absN_rel (σ : Sig) : ∀ (d : Nat) (v : Value), VRel σ (absN d v) v := by
  intro d
  induction d with
  | zero => intro v; exact .top v
  | succ d ih =>
    intro v
    unfold absN
    split
    all_goals first | exact .bool _ | exact .int _ _ | exact .str _ | exact .nptr | exact .nsl | exact .nmap | exact .nfn | exact .nifc | exact .ifc _ _ _ (ih _) | exact .top _ | skip
    rename_i cs
    refine .agg _ _ (by simp) fun i x y hx hy => ?_
    rw [List.getElem?_map, hy] at hx
    injection hx with hx
    subst hx
    exact ih y

theorem ev_rel (hf : FRel σ nt f a) (hg : GOk G σ) (x : Operand) (hx : opdOk G x = true) : VRel σ (ev x f) (a.eval x) := by
  cases x with
  | tmp t => exact hf.slot t (blt_lt hx)
  | const v => exact absN_rel σ 5 v
  | global g =>
    obtain ⟨e, h1, h2⟩ := hg g (blt_lt hx)
    have := VRel.ptr (σ := σ) g 0 e h1
    rw [h2] at this
    exact this
  | func g => exact .fn (.func g) [] [] #[] #[] (fun l => by simp) rfl (fun i x y hx _ => by simp at hx) rfl (fun i x y hx _ => by simp at hx)

theorem evs_rel (hf : FRel σ nt f a) (hg : GOk G σ) (l : List Operand) (hl : l.all (opdOk G) = true) : LRel σ (evs l f) (l.map a.eval) := by
  induction l with
  | nil => exact LRel.nil σ
  | cons x l ih =>
    simp only [List.all_cons, Bool.and_eq_true] at hl
    exact .cons (ev_rel hf hg x hl.1) (ih hl.2)

/- the views -/
theorem vB_yes {x : AV} {b : Bool} (h : vB x = .yes b) : x = .bool b := by cases x <;> cases h; rfl
theorem vI_yes {x : AV} {k : IntKind} {n : Int} (h : vI x = .yes k n) : x = .int k n := by cases x <;> cases h; rfl
theorem vS_yes {x : AV} {s : List Nat} (h : vS x = .yes s) : x = .str s := by cases x <;> cases h; rfl
theorem vP_yes {x : AV} {b o : Nat} (h : vP x = .yes b o) : x = .ptr b o := by cases x <;> cases h; rfl
theorem vP_nil {x : AV} (h : vP x = .nil) : x = .nptr := by cases x <;> cases h; rfl
theorem vL_yes {x : AV} {b o l c z : Nat} {e : Bool} (h : vL x = .yes b o l c z e) : x = .sl b o l c z e := by cases x <;> cases h; rfl
theorem vL_nil {x : AV} (h : vL x = .nil) : x = .nsl := by cases x <;> cases h; rfl
theorem vA_yes {x : AV} {cs : List AV} (h : vA x = .yes cs) : x = .agg cs := by cases x <;> cases h; rfl
theorem vT_yes {x : AV} {cs : List AV} (h : vT x = .yes cs) : x = .tup cs := by cases x <;> cases h; rfl
theorem vM_yes {x : AV} {r : Nat} (h : vM x = .yes r) : x = .map r := by cases x <;> cases h; rfl
theorem vM_nil {x : AV} (h : vM x = .nil) : x = .nmap := by cases x <;> cases h; rfl
theorem vF_yes {x : AV} {g : Fn} {a c : List AV} (h : vF x = .yes g a c) : x = .fn g a c := by cases x <;> cases h; rfl
theorem vIf_yes {x : AV} {t : TypeId} {v : AV} (h : vIf x = .yes t v) : x = .ifc t v := by cases x <;> cases h; rfl
theorem vIf_nil {x : AV} (h : vIf x = .nil) : x = .nifc := by cases x <;> cases h; rfl

theorem cellsOf_rel {x : AV} {y : Value} {cs : List AV} (h : cellsOf x = some cs) (hv : VRel σ x y) : LRel σ cs y.cells.toList := by
  cases hv with
  | top v => cases h
  | tup cs cs' hl hh => cases h
  | agg cs cs' hl hh => cases h; exact ⟨hl, hh⟩
  | _ => cases h; exact .cons (by constructor <;> assumption) (.nil σ)

theorem oneB_rel {x : AV} {y : Value} (h : oneB x = true) (hv : VRel σ x y) : y.oneCell' = true := by
  cases hv <;> first | rfl | cases h

/-- what the operation's program comes to -/
def Ran (P : Program) (s : Sem Next) (w : World) (v' : Value) (w' : World) : Prop :=
  s.run P w = .ok (.value v') w' ∨ (s.run P w = .ok .skip w' ∧ v' = undef)
def wpush (w : World) (o : Obj) : World := { w with heap := w.heap.push o }
inductive Eff1 (σ : Sig) (h : H) (w : World) : AV → Value → H → World → Prop where
  | quiet (v : AV) (v' : Value) (hv : VRel σ v v') : Eff1 σ h w v v' h w
  | ptr (cs : List AV) (cs' : Array Value) (t : TypeId) (hc : LRel σ cs cs'.toList) :
      Eff1 σ h w (.ptr h.nx 0) (.pointer (some ⟨w.heap.size, 0, none⟩)) (h.new (.cells cs t .exact)) (wpush w (.cells cs' t))
  | sl (cs : List AV) (cs' : Array Value) (t : TypeId) (len cap sz : Nat) (hle : len ≤ cap) (hc : LRel σ cs cs'.toList) :
      Eff1 σ h w (.sl h.nx 0 len cap sz true) (.slice (some ⟨w.heap.size, 0, none⟩) len cap) (h.new (.cells cs t .exact)) (wpush w (.cells cs' t))

def Good1 (P : Program) (G : Nat) (o : Oper) : Prop := ∀ (σ : Sig) (nt : Nat) (f : L2) (a : Act) (h h' : H) (w : World) (v : AV) (ctx : CallT),
  opD o.op o.type P ctx f h = .ok v h' → o.op.operands.toList.all (opdOk G) = true → FRel σ nt f a → GOk G σ →
  ∃ v' w', Ran P (execOp a.eval o) w v' w' ∧ Eff1 σ h w v v' h' w'

section ops
variable {dst : Option Tmp} {ty : TypeId} {pos : String} {af : Array Edge} {gd : Option (Nat × Bool)}
theorem ok_inj {v v' : AV} {h h' : H} (e : OR.ok v h = .ok v' h') : v = v' ∧ h = h' := by cases e; exact ⟨rfl, rfl⟩

theorem good_move (x : Operand) : Good1 P G ⟨dst, .move x, ty, pos, af, gd⟩ := by
  intro σ nt f a h h' w v ctx he hop hf hg
  obtain ⟨rfl, rfl⟩ := ok_inj he
  exact ⟨_, w, .inl rfl, .quiet _ _ (ev_rel hf hg x (by simpa [Op.operands] using hop))⟩
theorem good_assign (x : Operand) : Good1 P G ⟨dst, .assign x, ty, pos, af, gd⟩ := by
  intro σ nt f a h h' w v ctx he hop hf hg
  obtain ⟨rfl, rfl⟩ := ok_inj he
  exact ⟨_, w, .inl rfl, .quiet _ _ (ev_rel hf hg x (by simpa [Op.operands] using hop))⟩
theorem pickV_ok {x y z : AV} {h : H} (he : pickV x y z h = .ok v h') : ∃ b, x = .bool b ∧ v = (if b then y else z) ∧ h' = h := by
  cases x <;> first | (cases he; done) | skip
  rename_i b
  cases b <;> cases he <;> exact ⟨_, rfl, rfl, rfl⟩
theorem good_pick (c x y : Operand) : Good1 P G ⟨dst, .pick c x y, ty, pos, af, gd⟩ := by
  intro σ nt f a h h' w v ctx he hop hf hg
  simp [Op.operands] at hop
  obtain ⟨b, hb, rfl, rfl⟩ := pickV_ok he
  have hc := ev_rel hf hg c hop.1
  rw [hb] at hc
  generalize hcv : a.eval c = cv at hc
  cases hc
  refine ⟨if b then a.eval x else a.eval y, w, .inl (by simp [execOp, hcv, asBool]), .quiet _ _ ?_⟩
  cases b
  · exact ev_rel hf hg y hop.2.2
  · exact ev_rel hf hg x hop.2.1
theorem zeroInfo_rel {t : TypeId} {cs : List AV} (σ : Sig) (h : zeroInfo P t = some cs) : ∃ i z, P.info? t = some i ∧ i.zero = some z ∧ LRel σ cs z.cells.toList := by
  unfold zeroInfo zeroVal at h
  cases hi : P.info? t with
  | none => simp [hi] at h
  | some i =>
    cases hz : i.zero with
    | none => simp [hi, hz] at h
    | some z =>
      simp [hi, hz] at h
      exact ⟨i, z, rfl, hz, cellsOf_rel h (absN_rel σ 5 z)⟩
theorem newC_ok {cs : Option (List AV)} {e : TypeId} (he : newC cs e h = .ok v h') : ∃ c, cs = some c ∧ v = .ptr h.nx 0 ∧ h' = h.new (.cells c e .exact) := by
  cases cs <;> cases he
  exact ⟨_, rfl, rfl, rfl⟩
theorem good_alloc (e : TypeId) : Good1 P G ⟨dst, .alloc e, ty, pos, af, gd⟩ := by
  intro σ nt f a h h' w v ctx he hop hf hg
  obtain ⟨c, hc, rfl, rfl⟩ := newC_ok he
  obtain ⟨i, z, hi, hz, hr⟩ := zeroInfo_rel σ hc
  refine ⟨_, _, .inl ?_, .ptr c z.cells e hr⟩
  simp [execOp, Instr.alloc, zeroValue, typeInfo, hi, hz, newVar, newRow, wpush]
theorem good_box (e : TypeId) (x : Operand) : Good1 P G ⟨dst, .box e x, ty, pos, af, gd⟩ := by
  intro σ nt f a h h' w v ctx he hop hf hg
  obtain ⟨c, hc, rfl, rfl⟩ := newC_ok he
  have hr := cellsOf_rel hc (ev_rel hf hg x (by simpa [Op.operands] using hop))
  refine ⟨_, _, .inl ?_, .ptr c (a.eval x).cells e hr⟩
  simp [execOp, Instr.box, newVar, newRow, wpush]
theorem res1_ok {x : Option AV} (he : res1 x h = .ok v h') : x = some v ∧ h' = h := by
  cases x <;> cases he; exact ⟨rfl, rfl⟩
theorem resAgg_ok {x : Option (List AV)} (he : resAgg x h = .ok v h') : ∃ cs, x = some cs ∧ v = .agg cs ∧ h' = h := by
  cases x <;> cases he; exact ⟨_, rfl, rfl, rfl⟩
theorem ite_ok {c : Bool} {x y : OR} {r : OR} (he : Bool.rec (motive := fun _ => OR) y x c = r) : (c = true ∧ x = r) ∨ (c = false ∧ y = r) := by
  cases c
  · exact .inr ⟨rfl, he⟩
  · exact .inl ⟨rfl, he⟩
theorem bad_ne {n : Nat} (he : OR.bad n = .ok v h') : False := by cases he
theorem good_nilCheck (x : Operand) : Good1 P G ⟨dst, .nilCheck x, ty, pos, af, gd⟩ := by
  intro σ nt f a h h' w v ctx he hop hf hg
  have hx := ev_rel hf hg x (by simpa [Op.operands] using hop)
  rcases ite_ok he with ⟨hn, he⟩ | ⟨_, he⟩
  · obtain ⟨rfl, rfl⟩ := ok_inj he
    refine ⟨_, w, .inl ?_, .quiet _ _ hx⟩
    simp only [execOp]
    generalize ev x f = u at *
    generalize a.eval x = y at *
    cases hx with
    | fn g as cs as' cs' hf' _ _ _ _ => cases g <;> first | rfl | (cases hn; done)
    | _ => first | rfl | (cases hn; done)
  · exact (bad_ne he).elim
theorem good_extract (x : Operand) (i : Nat) : Good1 P G ⟨dst, .extract x i, ty, pos, af, gd⟩ := by
  intro σ nt f a h h' w v ctx he hop hf hg
  have hx := ev_rel hf hg x (by simpa [Op.operands] using hop)
  have he' : exV (ev x f) i h = .ok v h' := he
  generalize ev x f = u at *
  generalize hy : a.eval x = y at *
  cases hx <;> first | (cases he'; done) | skip
  rename_i cs cs' hl hh
  obtain ⟨h1, rfl⟩ := res1_ok (show res1 (lget cs i) h = .ok v h' from he')
  rw [lget_eq] at h1
  obtain ⟨y, hy', hr⟩ := LRel.get (σ := σ) (a := cs'.toList) ⟨hl, hh⟩ h1
  refine ⟨y, w, .inl ?_, .quiet _ _ hr⟩
  have : cs'[i]? = some y := by simpa using hy'
  simp [execOp, hy, Instr.extract, this]
theorem good_makeIface (t : TypeId) (x : Operand) : Good1 P G ⟨dst, .makeInterface t x, ty, pos, af, gd⟩ := by
  intro σ nt f a h h' w v ctx he hop hf hg
  have hx := ev_rel hf hg x (by simpa [Op.operands] using hop)
  rcases ite_ok he with ⟨hn, he⟩ | ⟨_, he⟩
  · obtain ⟨rfl, rfl⟩ := ok_inj he
    refine ⟨_, w, .inl ?_, .quiet _ _ (.ifc t _ _ hx)⟩
    unfold mkIfOk at hn
    cases hu : P.underlying t with
    | none => simp [hu] at hn
    | some d =>
      rw [hu] at hn
      cases d <;> first | (cases hn; done) | simp [execOp, Instr.makeInterface, underlying, hu]
  · exact (bad_ne he).elim
theorem good_makeFunc (fn : Fn) (x y : Array Operand) : Good1 P G ⟨dst, .makeFunc fn x y, ty, pos, af, gd⟩ := by
  intro σ nt f a h h' w v ctx he hop hf hg
  simp only [Op.operands, Array.toList_append, List.all_append, Bool.and_eq_true] at hop
  have hx := evs_rel hf hg x.toList hop.1
  have hy := evs_rel hf hg y.toList hop.2
  have key : (∀ l, fn ≠ .yield l) ∧ v = .fn fn (evs x.toList f) (evs y.toList f) ∧ h = h' := by
    have he' : oMakeFunc fn x y ty P ctx f h = .ok v h' := he
    unfold oMakeFunc at he'
    cases fn <;> first | (cases he'; done) | (cases he'; exact ⟨fun l => by simp, rfl, rfl⟩)
  obtain ⟨hk, rfl, rfl⟩ := key
  refine ⟨.func fn (x.map a.eval) (y.map a.eval), w, .inl (by simp [execOp, Instr.makeFunc]), .quiet _ _ (.fn fn _ _ _ _ hk ?_ ?_ ?_ ?_)⟩
  · simpa using hx.1
  · intro i u v hu hv; exact hx.2 i u v hu (by simpa using hv)
  · simpa using hy.1
  · intro i u v hu hv; exact hy.2 i u v hu (by simpa using hv)

/- fields, indexes -/
theorem szInfo_some {t : TypeId} {n : Nat} (h : szInfo P t = some n) : ∃ i, P.info? t = some i ∧ i.size = n := by
  unfold szInfo at h
  cases hi : P.info? t with
  | none => simp [hi] at h
  | some i => simp [hi] at h; exact ⟨i, rfl, h⟩
theorem fldInfo_some {t u : TypeId} {i o : Nat} (h : fldInfo P t i = some (u, o)) : ∃ fs fd, P.underlying t = some (.struct fs) ∧ fs[i]? = some fd ∧ fd.type = u ∧ fd.offset = o := by
  unfold fldInfo at h
  split at h
  · rename_i fs hu
    split at h
    · rename_i fd hf
      cases h
      exact ⟨fs, fd, hu, hf, rfl, rfl⟩
    · cases h
  · cases h
theorem fldOff_some {t : TypeId} {i o : Nat} (h : fldOff P t i = some o) : ∃ fs fd inf, P.underlying t = some (.struct fs) ∧ fs[i]? = some fd ∧ P.info? fd.type = some inf ∧ inf.size ≠ 0 ∧ fd.offset = o := by
  unfold fldOff at h
  split at h
  · rename_i u o' hf
    split at h
    · rename_i n hs
      cases h
      obtain ⟨fs, fd, h1, h2, h3, h4⟩ := fldInfo_some hf
      obtain ⟨inf, h5, h6⟩ := szInfo_some hs
      exact ⟨fs, fd, inf, h1, h2, by rw [h3]; exact h5, by omega, h4⟩
    · cases h
  · cases h
theorem add_off (c off n : Nat) : (⟨c, off, none⟩ : Addr).add n = ⟨c, off + n, none⟩ := by
  unfold Addr.add; split <;> simp_all
theorem good_fieldAddr (t : TypeId) (x : Operand) (i : Nat) : Good1 P G ⟨dst, .fieldAddr t x i, ty, pos, af, gd⟩ := by
  intro σ nt f a h h' w v ctx he hop hf hg
  have hx := ev_rel hf hg x (by simpa [Op.operands] using hop)
  have he' : Option.rec (motive := fun _ => AV → H → OR) (fun _ _ => .bad 85) (fun d x h => faV x d h) (fldOff P t i) (ev x f) h = .ok v h' := he
  cases ho : fldOff P t i with
  | none => rw [ho] at he'; cases he'
  | some d =>
    rw [ho] at he'
    obtain ⟨fs, fd, inf, h1, h2, h3, h4, rfl⟩ := fldOff_some ho
    have he2 : faV (ev x f) fd.offset h = .ok v h' := he'
    generalize ev x f = u at *
    generalize hy : a.eval x = y at *
    cases hx <;> first | (cases he2; done) | skip
    rename_i b off e hs
    cases he2
    refine ⟨.pointer (some ⟨e.c, off + fd.offset, none⟩), w, .inl ?_, .quiet _ _ (.ptr b _ e hs)⟩
    simp [execOp, hy, Instr.fieldAt, underlying, h1, h2, Instr.sureAddr, fieldPlace, sizeOf, typeInfo, h3, h4, add_off]
theorem ldInfo_one {t : TypeId} (h : ldInfo P t = some none) : ∃ d i, P.underlying t = some d ∧ P.info? t = some i ∧ (∀ fs, d ≠ .struct fs) ∧ (∀ n e, d ≠ .array n e) := by
  unfold ldInfo at h
  split at h <;> first | (cases h; done) | skip
  rename_i d i hs ha hu hi
  exact ⟨d, i, hu, hi, fun fs e => hs fs e, fun n e e' => ha n e e'⟩
theorem ldInfo_many {t : TypeId} {n : Nat} (h : ldInfo P t = some (some n)) : ∃ d i, P.underlying t = some d ∧ P.info? t = some i ∧ i.size = n ∧ ((∃ fs, d = .struct fs) ∨ (∃ k e, d = .array k e)) := by
  unfold ldInfo at h
  split at h <;> first | (cases h; done) | skip
  · rename_i fs i hu hi; cases h; exact ⟨_, i, hu, hi, rfl, .inl ⟨fs, rfl⟩⟩
  · rename_i k e i hu hi; cases h; exact ⟨_, i, hu, hi, rfl, .inr ⟨k, e, rfl⟩⟩
theorem run_isAgg_one {t : TypeId} (h : ldInfo P t = some none) (w : World) : (isAgg t).run P w = .ok false w := by
  obtain ⟨d, i, hu, hi, h1, h2⟩ := ldInfo_one h
  simp only [isAgg, Sem.run_bind, run_underlying hu, Result.andThen_ok]
  cases d <;> first | rfl | (exact absurd rfl (h1 _)) | (exact absurd rfl (h2 _ _))
theorem run_isAgg_many {t : TypeId} {n : Nat} (h : ldInfo P t = some (some n)) (w : World) : (isAgg t).run P w = .ok true w ∧ (sizeOf t).run P w = .ok n w := by
  obtain ⟨d, i, hu, hi, rfl, h1⟩ := ldInfo_many h
  constructor
  · simp only [isAgg, Sem.run_bind, run_underlying hu, Result.andThen_ok]
    rcases h1 with ⟨fs, rfl⟩ | ⟨k, e, rfl⟩ <;> rfl
  · simp [sizeOf, typeInfo, hi]
theorem run_part {t : TypeId} {cs : List AV} {off : Nat} {v : AV} {cs' : Array Value} (hp : partA P t cs off = some v) (hc : LRel σ cs cs'.toList) (w : World) :
    ∃ v', (part t cs' off).run P w = .ok v' w ∧ VRel σ v v' := by
  unfold partA partI at hp
  split at hp
  · rename_i hl
    rw [lget_eq] at hp
    obtain ⟨y, hy, hr⟩ := hc.get hp
    refine ⟨y, ?_, hr⟩
    have : cs'[off]? = some y := by simpa using hy
    simp [part, run_isAgg_one hl, this]
  · rename_i n hl
    cases hcut : lcut cs off n with
    | none => simp [hcut] at hp
    | some r =>
      simp [hcut] at hp
      subst hp
      obtain ⟨h1, rfl, _⟩ := lcut_some hcut
      refine ⟨.agg (cs'.extract off (off + n)), ?_, ?_⟩
      · simp [part, (run_isAgg_many hl w).1, (run_isAgg_many hl w).2]
      · have := (hc.drop off).take n
        refine .agg _ _ ?_ ?_
        · rw [this.1]; simp
        · intro i x y hx hy
          refine this.2 i x y hx ?_
          rw [← hy]
          simp [List.take_drop]
  · cases hp

theorem good_field (t : TypeId) (x : Operand) (i : Nat) : Good1 P G ⟨dst, .field t x i, ty, pos, af, gd⟩ := by
  intro σ nt f a h h' w v ctx he hop hf hg
  have hx := ev_rel hf hg x (by simpa [Op.operands] using hop)
  have he' : oField t x i ty P ctx f h = .ok v h' := he
  unfold oField at he'
  split at he'
  · rename_i cs inf o hva hfp
    obtain ⟨h1, rfl⟩ := res1_ok he'
    rw [vA_yes hva] at hx
    generalize hy : a.eval x = y at *
    cases hx
    rename_i cs' hl hh
    unfold fldPart at hfp
    cases hfi : fldInfo P t i with
    | none => simp [hfi] at hfp
    | some p =>
      obtain ⟨u, o'⟩ := p
      simp [hfi] at hfp
      obtain ⟨rfl, rfl⟩ := hfp
      obtain ⟨fs, fd, k1, k2, rfl, rfl⟩ := fldInfo_some hfi
      obtain ⟨v', hr, hv⟩ := run_part (P := P) (σ := σ) (t := fd.type) (off := fd.offset) h1 (cs' := cs') ⟨hl, hh⟩ w
      refine ⟨v', w, .inl ?_, .quiet _ _ hv⟩
      simp [execOp, hy, Instr.field, underlying, k1, k2, asAgg, hr]
  · exact (bad_ne he').elim
theorem nat0_some {x : AV} {n : Nat} (h : nat0 x = some n) : ∃ k, x = .int k (.ofNat n) := by
  cases x <;> first | (cases h; done) | skip
  rename_i k m
  cases m <;> cases h
  exact ⟨k, rfl⟩
theorem natI_some {m : Int} {n : Nat} (h : natI m = some n) : m = .ofNat n := by
  cases m <;> cases h; rfl
theorem xInfo_sl {t : TypeId} {i : SI} (h : xInfo P t = .sl i) : ∃ inf, P.underlying t = some (.slice i.e) ∧ P.info? i.e = some inf ∧ inf.size = i.s ∧ inf.bytes = i.bytes := by
  unfold xInfo at h
  split at h <;> first | (cases h; done) | skip
  · split at h <;> cases h
    rename_i e hu _ inf hi
    exact ⟨inf, hu, hi, rfl, rfl⟩
  · split at h <;> cases h
theorem xInfo_arr {t : TypeId} {n : Nat} {i : SI} (h : xInfo P t = .arr n i) : ∃ inf, P.underlying t = some (.array n i.e) ∧ P.info? i.e = some inf ∧ inf.size = i.s ∧ inf.bytes = i.bytes := by
  unfold xInfo at h
  cases hu : P.underlying t with
  | none => rw [hu] at h; cases h
  | some d =>
    rw [hu] at h
    cases d with
    | array k e =>
      dsimp only at h
      cases hi : P.info? e with
      | none => rw [hi] at h; cases h
      | some inf => rw [hi] at h; cases h; exact ⟨inf, rfl, hi, rfl, rfl⟩
    | slice e => dsimp only at h; cases hi : P.info? e <;> rw [hi] at h <;> cases h
    | _ => cases h
theorem xInfo_str {t : TypeId} (h : xInfo P t = .str) : P.underlying t = some .string := by
  unfold xInfo at h
  split at h <;> first | (cases h; done) | skip
  · assumption
  · split at h <;> cases h
  · split at h <;> cases h
theorem good_indexAddr (t : TypeId) (x i : Operand) : Good1 P G ⟨dst, .indexAddr t x i, ty, pos, af, gd⟩ := by
  intro σ nt f a h h' w v ctx he hop hf hg
  simp [Op.operands] at hop
  have hx := ev_rel hf hg x hop.1
  have hi := ev_rel hf hg i hop.2
  have he' : iaX (xInfo P t) (ev x f) (nat0 (ev i f)) h = .ok v h' := he
  generalize hy : a.eval x = y at *
  generalize hj : a.eval i = j at *
  cases hn : nat0 (ev i f) with
  | none => rw [hn] at he'; cases hxi : xInfo P t <;> rw [hxi] at he' <;> cases he'
  | some n =>
    rw [hn] at he'
    obtain ⟨k, hk⟩ := nat0_some hn
    rw [hk] at hi
    cases hi
    generalize ev x f = u at *
    cases hxi : xInfo P t with
    | bad => rw [hxi] at he'; cases he'
    | str => rw [hxi] at he'; cases he'
    | sl si =>
      rw [hxi] at he'
      obtain ⟨inf, k1, k2, k3, k4⟩ := xInfo_sl hxi
      have he2 : iaS u n si.s h = .ok v h' := he'
      cases hx <;> first | (cases he2; done) | skip
      rename_i b off len cap sz ex e cc hs g1 g2 g3 g4
      rcases ite_ok (show Bool.rec (motive := fun _ => OR) (.bad 88) (.ok (.ptr b (Nat.add off (Nat.mul n si.s))) h) (Nat.blt n len) = .ok v h' from he2) with ⟨hb, he3⟩ | ⟨_, he3⟩
      · obtain ⟨rfl, rfl⟩ := ok_inj he3
        have hlt := blt_lt hb
        refine ⟨.pointer (some ⟨e.c, off + n * si.s, none⟩), w, .inl ?_, .quiet _ _ (.ptr b _ e hs)⟩
        have h0 : (0 : Int) ≤ Int.ofNat n := Int.natCast_nonneg n
        have h1 : (Int.ofNat n) < (len : Int) := by simpa using hlt
        simp [execOp, hy, hj, Instr.indexAt, asIntOf, underlying, k1, hlt, sizeOf, typeInfo, k2, k3, add_off]
      · exact (bad_ne he3).elim
    | arr len si =>
      rw [hxi] at he'
      obtain ⟨inf, k1, k2, k3, k4⟩ := xInfo_arr hxi
      have he2 : iaA u len n si.s h = .ok v h' := he'
      cases hx <;> first | (cases he2; done) | skip
      rename_i b off e hs
      rcases ite_ok (show Bool.rec (motive := fun _ => OR) (.bad 90) (.ok (.ptr b (Nat.add off (Nat.mul n si.s))) h) (Nat.blt n len) = .ok v h' from he2) with ⟨hb, he3⟩ | ⟨_, he3⟩
      · obtain ⟨rfl, rfl⟩ := ok_inj he3
        have hlt := blt_lt hb
        refine ⟨.pointer (some ⟨e.c, off + n * si.s, none⟩), w, .inl ?_, .quiet _ _ (.ptr b _ e hs)⟩
        simp [execOp, hy, hj, Instr.indexAt, asIntOf, underlying, k1, hlt, sizeOf, typeInfo, k2, k3, add_off, Instr.sureAddr]
      · exact (bad_ne he3).elim

theorem str_rel {s : List Nat} {y : Value} (h : VRel σ (.str s) y) : ∃ bs, y = .string bs ∧ s = bytesOf bs := by
  cases h; exact ⟨_, rfl, rfl⟩
theorem bytesOf_get (s : ByteArray) (n : Nat) : (bytesOf s)[n]? = (s[n]?).map UInt8.toNat := by
  unfold bytesOf
  rw [List.getElem?_map]
  congr 1
  simp only [Array.getElem?_toList]
  by_cases h : n < s.size
  · have h' : n < s.data.size := h
    rw [Array.getElem?_eq_getElem h', getElem?_pos s n h]
    rfl
  · have h' : ¬ n < s.data.size := h
    rw [Array.getElem?_eq_none (by omega), getElem?_neg s n h]
theorem bytesOf_len (s : ByteArray) : (bytesOf s).length = s.size := by
  unfold bytesOf
  simp
theorem resByte_ok {x : Option Nat} (he : resByte x h = .ok v h') : ∃ n, x = some n ∧ v = .int .u8 (.ofNat n) ∧ h' = h := by
  cases x <;> cases he; exact ⟨_, rfl, rfl, rfl⟩
theorem good_index (t : TypeId) (x i : Operand) : Good1 P G ⟨dst, .index t x i, ty, pos, af, gd⟩ := by
  intro σ nt f a h h' w v ctx he hop hf hg
  simp [Op.operands] at hop
  have hx := ev_rel hf hg x hop.1
  have hi := ev_rel hf hg i hop.2
  have he' : oIndex t x i ty P ctx f h = .ok v h' := he
  unfold oIndex at he'
  generalize hy : a.eval x = y at *
  generalize hj : a.eval i = j at *
  split at he'
  · rename_i n hxi hn
    obtain ⟨k, hk⟩ := nat0_some hn
    rw [hk] at hi
    cases hi
    generalize ev x f = u at *
    cases hx <;> first | (cases he'; done) | skip
    rename_i s
    obtain ⟨m, h1, rfl, rfl⟩ := resByte_ok (show resByte (sget (bytesOf s) n) h = .ok v h' from he')
    rw [sget_eq, bytesOf_get] at h1
    cases hb : s[n]? with
    | none => simp [hb] at h1
    | some b =>
      simp [hb] at h1
      subst h1
      refine ⟨.int .u8 b.toNat, w, .inl ?_, .quiet _ _ (.int .u8 _)⟩
      simp [execOp, hy, hj, Instr.index, asIntOf, underlying, xInfo_str hxi, hb]
  · rename_i len si n hxi hn
    obtain ⟨k, hk⟩ := nat0_some hn
    rw [hk] at hi
    cases hi
    split at he'
    · rename_i cs hva
      rw [vA_yes hva] at hx
      cases hx
      rename_i cs' hl hh
      obtain ⟨inf, k1, k2, k3, k4⟩ := xInfo_arr hxi
      rcases ite_ok he' with ⟨hb, he3⟩ | ⟨_, he3⟩
      · obtain ⟨hp, rfl⟩ := res1_ok he3
        obtain ⟨v', hr, hv⟩ := run_part (P := P) (σ := σ) hp (cs' := cs') ⟨hl, hh⟩ w
        have hlt := blt_lt hb
        refine ⟨v', w, .inl ?_, .quiet _ _ hv⟩
        simp [execOp, hy, hj, Instr.index, asIntOf, underlying, k1, hlt, sizeOf, typeInfo, k2, k3, hr]
      · exact (bad_ne he3).elim
    · exact (bad_ne he').elim
  · exact (bad_ne he').elim
theorem zeroVal_rel {t : TypeId} {z : AV} (σ : Sig) (h : zeroVal P t = some z) : ∃ i z', P.info? t = some i ∧ i.zero = some z' ∧ VRel σ z z' := by
  unfold zeroVal at h
  cases hi : P.info? t with
  | none => simp [hi] at h
  | some i =>
    cases hz : i.zero with
    | none => simp [hi, hz] at h
    | some z' =>
      simp [hi, hz] at h
      subst h
      exact ⟨i, z', rfl, hz, absN_rel σ 5 z'⟩
theorem tup2 {x y : AV} {x' y' : Value} (h : VRel σ x x') (h' : VRel σ y y') : VRel σ (.tup [x, y]) (.tuple #[x', y']) := by
  have := LRel.cons h (LRel.cons h' (LRel.nil σ))
  exact .tup _ _ this.1 this.2
theorem taInfo_some {t : TypeId} {z : AV} (h : taInfo P t = some z) : ∃ d, P.underlying t = some d ∧ (∀ m, d ≠ .interface m) ∧ zeroVal P t = some z := by
  unfold taInfo at h
  cases hu : P.underlying t with
  | none => rw [hu] at h; cases h
  | some d =>
    rw [hu] at h
    cases d <;> first | (cases h; done) | exact ⟨_, rfl, fun _ => by simp, h⟩
theorem good_typeAssert (x : Operand) (xt t : TypeId) (ok : Bool) : Good1 P G ⟨dst, .typeAssert x xt t ok, ty, pos, af, gd⟩ := by
  intro σ nt f a h h' w v ctx he hop hf hg
  have hx := ev_rel hf hg x (by simpa [Op.operands] using hop)
  have he' : oTypeAssert x xt t ok ty P ctx f h = .ok v h' := he
  unfold oTypeAssert at he'
  generalize hy : a.eval x = y at *
  split at he'
  · rename_i z hz hv
    rw [vIf_nil hv] at hx
    cases hx
    obtain ⟨d, hu, hd, hz⟩ := taInfo_some hz
    obtain ⟨i, z', hi, hzz, hr⟩ := zeroVal_rel σ hz
    cases ok
    · exact (bad_ne he').elim
    · obtain ⟨rfl, rfl⟩ := ok_inj he'
      refine ⟨_, w, .inl ?_, .quiet _ _ (tup2 hr (.bool false))⟩
      cases d <;> first | (exact absurd rfl (hd _)) | simp [execOp, hy, Instr.typeAssert, underlying, hu, zeroValue, typeInfo, hi, hzz]
  · rename_i z u vv hz hv
    rw [vIf_yes hv] at hx
    cases hx
    rename_i v0 hvv
    obtain ⟨d, hu, hd, hz⟩ := taInfo_some hz
    obtain ⟨i, z', hi, hzz, hr⟩ := zeroVal_rel σ hz
    rcases ite_ok he' with ⟨hb, he3⟩ | ⟨hb, he3⟩
    · obtain ⟨rfl, rfl⟩ := ok_inj he3
      have := beq_eqN hb
      subst this
      cases ok
      · refine ⟨v0, w, .inl ?_, .quiet _ _ hvv⟩
        cases d <;> first | (exact absurd rfl (hd _)) | simp [execOp, hy, Instr.typeAssert, underlying, hu]
      · refine ⟨_, w, .inl ?_, .quiet _ _ (tup2 hvv (.bool true))⟩
        cases d <;> first | (exact absurd rfl (hd _)) | simp [execOp, hy, Instr.typeAssert, underlying, hu]
    · have hne := beq_neN hb
      cases ok
      · exact (bad_ne he3).elim
      · obtain ⟨rfl, rfl⟩ := ok_inj he3
        refine ⟨_, w, .inl ?_, .quiet _ _ (tup2 hr (.bool false))⟩
        cases d <;> first | (exact absurd rfl (hd _)) | simp [execOp, hy, Instr.typeAssert, underlying, hu, zeroValue, typeInfo, hi, hzz, hne]
  · exact (bad_ne he').elim
theorem good_unOp (op : UnOp) (t : TypeId) (x : Operand) : Good1 P G ⟨dst, .unOp op t x, ty, pos, af, gd⟩ := by
  intro σ nt f a h h' w v ctx he hop hf hg
  have hx := ev_rel hf hg x (by simpa [Op.operands] using hop)
  have he' : oUnOp op t x ty P ctx f h = .ok v h' := he
  unfold oUnOp at he'
  generalize hy : a.eval x = y at *
  cases op with
  | not =>
    dsimp only at he'
    cases hv : vB (ev x f) with
    | no => rw [hv] at he'; cases he'
    | yes b =>
      rw [hv] at he'
      rw [vB_yes hv] at hx
      cases hx
      obtain ⟨rfl, rfl⟩ := ok_inj he'
      refine ⟨.bool (!b), w, .inl (by simp [execOp, hy, Op.unary]), .quiet _ _ ?_⟩
      rw [bnot_eq]; exact .bool _
  | neg =>
    dsimp only at he'
    cases hv : vI (ev x f) with
    | no => rw [hv] at he'; cases he'
    | yes k n =>
      rw [hv] at he'
      rw [vI_yes hv] at hx
      cases hx
      obtain ⟨rfl, rfl⟩ := ok_inj he'
      refine ⟨.int k (k.wrap (0 - n)), w, .inl (by simp [execOp, hy, Op.unary, Op.intArith]), .quiet _ _ ?_⟩
      rw [wrapF_eq]; exact .int _ _
  | _ => cases he'
end ops
end Go.Ev
