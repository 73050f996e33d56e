/- Operations that read no memory: what they do in the model. -/
import Derived.Test.YtnefaadihgbobaaGreatDoorEvList
import Derived.Laws.Sem
import Derived.Laws.Entries
import Derived.Laws.Strings
import Derived.Laws.StructEq
import Derived.ChangeKeysEq
set_option linter.unusedSimpArgs false
set_option linter.unusedVariables false
namespace Go.Ev
variable {P : Program} {G : Nat} {σ : Sig} {nt : Nat} {f : L2} {a : Act} {h h' : H} {w : World} {v : AV} {ctx : CallT}

theorem blt_lt {a b : Nat} (h : Nat.blt a b = true) : a < b := by simpa [Nat.blt_eq] using h
theorem ble_le {a b : Nat} (h : Nat.ble a b = true) : a ≤ b := by simpa using h
theorem beq_eqN {a b : Nat} (h : Nat.beq a b = true) : a = b := by simpa using h
theorem blt_ge {a b : Nat} (h : Nat.blt a b = false) : b ≤ a := by
  have : ¬ Nat.blt a b = true := by simp [h]
  simpa [Nat.blt_eq] using this
theorem ble_gt {a b : Nat} (h : Nat.ble a b = false) : b < a := by
  have : ¬ Nat.ble a b = true := by simp [h]
  simp at this
  omega
theorem beq_neN {a b : Nat} (h : Nat.beq a b = false) : a ≠ b := by
  intro e; subst e; simp at h

theorem absN_rel (σ : Sig) : ∀ (d : Nat) (v : Value), VRel σ (absN d v) v := by
  intro d
  induction d with
  | zero => intro v; exact .top v
  | succ d ih =>
    intro v
    unfold absN
    split
    all_goals first | exact .bool _ | exact .int _ _ | exact .str _ | exact .nptr | exact .nsl | exact .nmap | exact .nfn | exact .nifc | exact .ifc _ _ _ (ih _) | exact .top _ | skip
    rename_i cs
    refine .agg _ _ (by simp) fun i x y hx hy => ?_
    rw [List.getElem?_map, hy] at hx
    injection hx with hx
    subst hx
    exact ih y

theorem ev_rel (hf : FRel σ nt f a) (hg : GOk G σ) (x : Operand) (hx : opdOk G x = true) : VRel σ (ev x f) (a.eval x) := by
  cases x with
  | tmp t => exact hf.slot t (blt_lt hx)
  | const v => exact absN_rel σ 5 v
  | global g =>
    obtain ⟨e, h1, h2⟩ := hg g (blt_lt hx)
    have := VRel.ptr (σ := σ) g 0 e h1
    rw [h2] at this
    exact this
  | func g => exact .fn (.func g) [] [] #[] #[] (fun l => by simp) rfl (fun i x y hx _ => by simp at hx) rfl (fun i x y hx _ => by simp at hx)

theorem evs_rel (hf : FRel σ nt f a) (hg : GOk G σ) (l : List Operand) (hl : l.all (opdOk G) = true) : LRel σ (evs l f) (l.map a.eval) := by
  induction l with
  | nil => exact LRel.nil σ
  | cons x l ih =>
    simp only [List.all_cons, Bool.and_eq_true] at hl
    exact .cons (ev_rel hf hg x hl.1) (ih hl.2)

/- the views -/
theorem vB_yes {x : AV} {b : Bool} (h : vB x = .yes b) : x = .bool b := by cases x <;> cases h; rfl
theorem vI_yes {x : AV} {k : IntKind} {n : Int} (h : vI x = .yes k n) : x = .int k n := by cases x <;> cases h; rfl
theorem vS_yes {x : AV} {s : List Nat} (h : vS x = .yes s) : x = .str s := by cases x <;> cases h; rfl
theorem vP_yes {x : AV} {b o : Nat} (h : vP x = .yes b o) : x = .ptr b o := by cases x <;> cases h; rfl
theorem vP_nil {x : AV} (h : vP x = .nil) : x = .nptr := by cases x <;> cases h; rfl
theorem vL_yes {x : AV} {b o l c z : Nat} {e : Bool} (h : vL x = .yes b o l c z e) : x = .sl b o l c z e := by cases x <;> cases h; rfl
theorem vL_nil {x : AV} (h : vL x = .nil) : x = .nsl := by cases x <;> cases h; rfl
theorem vA_yes {x : AV} {cs : List AV} (h : vA x = .yes cs) : x = .agg cs := by cases x <;> cases h; rfl
theorem vT_yes {x : AV} {cs : List AV} (h : vT x = .yes cs) : x = .tup cs := by cases x <;> cases h; rfl
theorem vM_yes {x : AV} {r : Nat} (h : vM x = .yes r) : x = .map r := by cases x <;> cases h; rfl
theorem vM_nil {x : AV} (h : vM x = .nil) : x = .nmap := by cases x <;> cases h; rfl
theorem vF_yes {x : AV} {g : Fn} {a c : List AV} (h : vF x = .yes g a c) : x = .fn g a c := by cases x <;> cases h; rfl
theorem vIf_yes {x : AV} {t : TypeId} {v : AV} (h : vIf x = .yes t v) : x = .ifc t v := by cases x <;> cases h; rfl
theorem vIf_nil {x : AV} (h : vIf x = .nil) : x = .nifc := by cases x <;> cases h; rfl

theorem cellsOf_rel {x : AV} {y : Value} {cs : List AV} (h : cellsOf x = some cs) (hv : VRel σ x y) : LRel σ cs y.cells.toList := by
  cases hv with
  | top v => cases h
  | tup cs cs' hl hh => cases h
  | agg cs cs' hl hh => cases h; exact ⟨hl, hh⟩
  | _ => cases h; exact .cons (by constructor <;> assumption) (.nil σ)

theorem oneB_rel {x : AV} {y : Value} (h : oneB x = true) (hv : VRel σ x y) : y.oneCell' = true := by
  cases hv <;> first | rfl | cases h

/-- what the operation's program comes to -/
def Ran (P : Program) (s : Sem Next) (w : World) (v' : Value) (w' : World) : Prop :=
  s.run P w = .ok (.value v') w' ∨ (s.run P w = .ok .skip w' ∧ v' = undef)
def wpush (w : World) (o : Obj) : World := { w with heap := w.heap.push o }
inductive Eff1 (σ : Sig) (h : H) (w : World) : AV → Value → H → World → Prop where
  | quiet (v : AV) (v' : Value) (hv : VRel σ v v') : Eff1 σ h w v v' h w
  | ptr (cs : List AV) (cs' : Array Value) (t : TypeId) (hc : LRel σ cs cs'.toList) :
      Eff1 σ h w (.ptr h.nx 0) (.pointer (some ⟨w.heap.size, 0, none⟩)) (h.new (.cells cs t .exact)) (wpush w (.cells cs' t))
  | sl (cs : List AV) (cs' : Array Value) (t : TypeId) (len cap sz : Nat) (hle : len ≤ cap) (hc : LRel σ cs cs'.toList) :
      Eff1 σ h w (.sl h.nx 0 len cap sz true) (.slice (some ⟨w.heap.size, 0, none⟩) len cap) (h.new (.cells cs t .exact)) (wpush w (.cells cs' t))

def Good1 (P : Program) (G : Nat) (o : Oper) : Prop := ∀ (σ : Sig) (nt : Nat) (f : L2) (a : Act) (h h' : H) (w : World) (v : AV) (ctx : CallT),
  opD o.op o.type P ctx f h = .ok v h' → o.op.operands.toList.all (opdOk G) = true → FRel σ nt f a → GOk G σ →
  ∃ v' w', Ran P (execOp a.eval o) w v' w' ∧ Eff1 σ h w v v' h' w'

section ops
variable {dst : Option Tmp} {ty : TypeId} {pos : String} {af : Array Edge} {gd : Option (Nat × Bool)}
theorem ok_inj {v v' : AV} {h h' : H} (e : OR.ok v h = .ok v' h') : v = v' ∧ h = h' := by cases e; exact ⟨rfl, rfl⟩

theorem good_move (x : Operand) : Good1 P G ⟨dst, .move x, ty, pos, af, gd⟩ := by
  intro σ nt f a h h' w v ctx he hop hf hg
  obtain ⟨rfl, rfl⟩ := ok_inj he
  exact ⟨_, w, .inl rfl, .quiet _ _ (ev_rel hf hg x (by simpa [Op.operands] using hop))⟩
theorem good_assign (x : Operand) : Good1 P G ⟨dst, .assign x, ty, pos, af, gd⟩ := by
  intro σ nt f a h h' w v ctx he hop hf hg
  obtain ⟨rfl, rfl⟩ := ok_inj he
  exact ⟨_, w, .inl rfl, .quiet _ _ (ev_rel hf hg x (by simpa [Op.operands] using hop))⟩
theorem pickV_ok {x y z : AV} {h : H} (he : pickV x y z h = .ok v h') : ∃ b, x = .bool b ∧ v = (if b then y else z) ∧ h' = h := by
  cases x <;> first | (cases he; done) | skip
  rename_i b
  cases b <;> cases he <;> exact ⟨_, rfl, rfl, rfl⟩
theorem good_pick (c x y : Operand) : Good1 P G ⟨dst, .pick c x y, ty, pos, af, gd⟩ := by
  intro σ nt f a h h' w v ctx he hop hf hg
  simp [Op.operands] at hop
  obtain ⟨b, hb, rfl, rfl⟩ := pickV_ok he
  have hc := ev_rel hf hg c hop.1
  rw [hb] at hc
  generalize hcv : a.eval c = cv at hc
  cases hc
  refine ⟨if b then a.eval x else a.eval y, w, .inl (by simp [execOp, hcv, asBool]), .quiet _ _ ?_⟩
  cases b
  · exact ev_rel hf hg y hop.2.2
  · exact ev_rel hf hg x hop.2.1
theorem zeroInfo_rel {t : TypeId} {cs : List AV} (σ : Sig) (h : zeroInfo P t = some cs) : ∃ i z, P.info? t = some i ∧ i.zero = some z ∧ LRel σ cs z.cells.toList := by
  unfold zeroInfo zeroVal at h
  cases hi : P.info? t with
  | none => simp [hi] at h
  | some i =>
    cases hz : i.zero with
    | none => simp [hi, hz] at h
    | some z =>
      simp [hi, hz] at h
      exact ⟨i, z, rfl, hz, cellsOf_rel h (absN_rel σ 5 z)⟩
theorem newC_ok {cs : Option (List AV)} {e : TypeId} (he : newC cs e h = .ok v h') : ∃ c, cs = some c ∧ v = .ptr h.nx 0 ∧ h' = h.new (.cells c e .exact) := by
  cases cs <;> cases he
  exact ⟨_, rfl, rfl, rfl⟩
theorem good_alloc (e : TypeId) : Good1 P G ⟨dst, .alloc e, ty, pos, af, gd⟩ := by
  intro σ nt f a h h' w v ctx he hop hf hg
  obtain ⟨c, hc, rfl, rfl⟩ := newC_ok he
  obtain ⟨i, z, hi, hz, hr⟩ := zeroInfo_rel σ hc
  refine ⟨_, _, .inl ?_, .ptr c z.cells e hr⟩
  simp [execOp, Instr.alloc, zeroValue, typeInfo, hi, hz, newVar, newRow, wpush]
theorem good_box (e : TypeId) (x : Operand) : Good1 P G ⟨dst, .box e x, ty, pos, af, gd⟩ := by
  intro σ nt f a h h' w v ctx he hop hf hg
  obtain ⟨c, hc, rfl, rfl⟩ := newC_ok he
  have hr := cellsOf_rel hc (ev_rel hf hg x (by simpa [Op.operands] using hop))
  refine ⟨_, _, .inl ?_, .ptr c (a.eval x).cells e hr⟩
  simp [execOp, Instr.box, newVar, newRow, wpush]
theorem res1_ok {x : Option AV} (he : res1 x h = .ok v h') : x = some v ∧ h' = h := by
  cases x <;> cases he; exact ⟨rfl, rfl⟩
theorem resAgg_ok {x : Option (List AV)} (he : resAgg x h = .ok v h') : ∃ cs, x = some cs ∧ v = .agg cs ∧ h' = h := by
  cases x <;> cases he; exact ⟨_, rfl, rfl, rfl⟩
theorem ite_ok {c : Bool} {x y : OR} {r : OR} (he : Bool.rec (motive := fun _ => OR) y x c = r) : (c = true ∧ x = r) ∨ (c = false ∧ y = r) := by
  cases c
  · exact .inr ⟨rfl, he⟩
  · exact .inl ⟨rfl, he⟩
theorem bad_ne {n : Nat} (he : OR.bad n = .ok v h') : False := by cases he
theorem good_nilCheck (x : Operand) : Good1 P G ⟨dst, .nilCheck x, ty, pos, af, gd⟩ := by
  intro σ nt f a h h' w v ctx he hop hf hg
  have hx := ev_rel hf hg x (by simpa [Op.operands] using hop)
  rcases ite_ok he with ⟨hn, he⟩ | ⟨_, he⟩
  · obtain ⟨rfl, rfl⟩ := ok_inj he
    refine ⟨_, w, .inl ?_, .quiet _ _ hx⟩
    simp only [execOp]
    generalize ev x f = u at *
    generalize a.eval x = y at *
    cases hx with
    | fn g as cs as' cs' hf' _ _ _ _ => cases g <;> first | rfl | (cases hn; done)
    | _ => first | rfl | (cases hn; done)
  · exact (bad_ne he).elim
theorem good_extract (x : Operand) (i : Nat) : Good1 P G ⟨dst, .extract x i, ty, pos, af, gd⟩ := by
  intro σ nt f a h h' w v ctx he hop hf hg
  have hx := ev_rel hf hg x (by simpa [Op.operands] using hop)
  have he' : exV (ev x f) i h = .ok v h' := he
  generalize ev x f = u at *
  generalize hy : a.eval x = y at *
  cases hx <;> first | (cases he'; done) | skip
  rename_i cs cs' hl hh
  obtain ⟨h1, rfl⟩ := res1_ok (show res1 (lget cs i) h = .ok v h' from he')
  rw [lget_eq] at h1
  obtain ⟨y, hy', hr⟩ := LRel.get (σ := σ) (a := cs'.toList) ⟨hl, hh⟩ h1
  refine ⟨y, w, .inl ?_, .quiet _ _ hr⟩
  have : cs'[i]? = some y := by simpa using hy'
  simp [execOp, hy, Instr.extract, this]
theorem good_makeIface (t : TypeId) (x : Operand) : Good1 P G ⟨dst, .makeInterface t x, ty, pos, af, gd⟩ := by
  intro σ nt f a h h' w v ctx he hop hf hg
  have hx := ev_rel hf hg x (by simpa [Op.operands] using hop)
  rcases ite_ok he with ⟨hn, he⟩ | ⟨_, he⟩
  · obtain ⟨rfl, rfl⟩ := ok_inj he
    refine ⟨_, w, .inl ?_, .quiet _ _ (.ifc t _ _ hx)⟩
    unfold mkIfOk at hn
    cases hu : P.underlying t with
    | none => simp [hu] at hn
    | some d =>
      rw [hu] at hn
      cases d <;> first | (cases hn; done) | simp [execOp, Instr.makeInterface, underlying, hu]
  · exact (bad_ne he).elim
theorem good_makeFunc (fn : Fn) (x y : Array Operand) : Good1 P G ⟨dst, .makeFunc fn x y, ty, pos, af, gd⟩ := by
  intro σ nt f a h h' w v ctx he hop hf hg
  simp only [Op.operands, Array.toList_append, List.all_append, Bool.and_eq_true] at hop
  have hx := evs_rel hf hg x.toList hop.1
  have hy := evs_rel hf hg y.toList hop.2
  have key : (∀ l, fn ≠ .yield l) ∧ v = .fn fn (evs x.toList f) (evs y.toList f) ∧ h = h' := by
    have he' : oMakeFunc fn x y ty P ctx f h = .ok v h' := he
    unfold oMakeFunc at he'
    cases fn <;> first | (cases he'; done) | (cases he'; exact ⟨fun l => by simp, rfl, rfl⟩)
  obtain ⟨hk, rfl, rfl⟩ := key
  refine ⟨.func fn (x.map a.eval) (y.map a.eval), w, .inl (by simp [execOp, Instr.makeFunc]), .quiet _ _ (.fn fn _ _ _ _ hk ?_ ?_ ?_ ?_)⟩
  · simpa using hx.1
  · intro i u v hu hv; exact hx.2 i u v hu (by simpa using hv)
  · simpa using hy.1
  · intro i u v hu hv; exact hy.2 i u v hu (by simpa using hv)

/- fields, indexes -/
theorem szInfo_some {t : TypeId} {n : Nat} (h : szInfo P t = some n) : ∃ i, P.info? t = some i ∧ i.size = n := by
  unfold szInfo at h
  cases hi : P.info? t with
  | none => simp [hi] at h
  | some i => simp [hi] at h; exact ⟨i, rfl, h⟩
theorem fldInfo_some {t u : TypeId} {i o : Nat} (h : fldInfo P t i = some (u, o)) : ∃ fs fd, P.underlying t = some (.struct fs) ∧ fs[i]? = some fd ∧ fd.type = u ∧ fd.offset = o := by
  unfold fldInfo at h
  split at h
  · rename_i fs hu
    split at h
    · rename_i fd hf
      cases h
      exact ⟨fs, fd, hu, hf, rfl, rfl⟩
    · cases h
  · cases h
theorem fldOff_some {t : TypeId} {i o : Nat} (h : fldOff P t i = some o) : ∃ fs fd inf, P.underlying t = some (.struct fs) ∧ fs[i]? = some fd ∧ P.info? fd.type = some inf ∧ inf.size ≠ 0 ∧ fd.offset = o := by
  unfold fldOff at h
  split at h
  · rename_i u o' hf
    split at h
    · rename_i n hs
      cases h
      obtain ⟨fs, fd, h1, h2, h3, h4⟩ := fldInfo_some hf
      obtain ⟨inf, h5, h6⟩ := szInfo_some hs
      exact ⟨fs, fd, inf, h1, h2, by rw [h3]; exact h5, by omega, h4⟩
    · cases h
  · cases h
theorem add_off (c off n : Nat) : (⟨c, off, none⟩ : Addr).add n = ⟨c, off + n, none⟩ := by
  unfold Addr.add; split <;> simp_all
theorem good_fieldAddr (t : TypeId) (x : Operand) (i : Nat) : Good1 P G ⟨dst, .fieldAddr t x i, ty, pos, af, gd⟩ := by
  intro σ nt f a h h' w v ctx he hop hf hg
  have hx := ev_rel hf hg x (by simpa [Op.operands] using hop)
  have he' : Option.rec (motive := fun _ => AV → H → OR) (fun _ _ => .bad 85) (fun d x h => faV x d h) (fldOff P t i) (ev x f) h = .ok v h' := he
  cases ho : fldOff P t i with
  | none => rw [ho] at he'; cases he'
  | some d =>
    rw [ho] at he'
    obtain ⟨fs, fd, inf, h1, h2, h3, h4, rfl⟩ := fldOff_some ho
    have he2 : faV (ev x f) fd.offset h = .ok v h' := he'
    generalize ev x f = u at *
    generalize hy : a.eval x = y at *
    cases hx <;> first | (cases he2; done) | skip
    rename_i b off e hs
    cases he2
    refine ⟨.pointer (some ⟨e.c, off + fd.offset, none⟩), w, .inl ?_, .quiet _ _ (.ptr b _ e hs)⟩
    simp [execOp, hy, Instr.fieldAt, underlying, h1, h2, Instr.sureAddr, fieldPlace, sizeOf, typeInfo, h3, h4, add_off]
theorem ldInfo_one {t : TypeId} (h : ldInfo P t = some none) : ∃ d i, P.underlying t = some d ∧ P.info? t = some i ∧ (∀ fs, d ≠ .struct fs) ∧ (∀ n e, d ≠ .array n e) := by
  unfold ldInfo at h
  split at h <;> first | (cases h; done) | skip
  rename_i d i hs ha hu hi
  exact ⟨d, i, hu, hi, fun fs e => hs fs e, fun n e e' => ha n e e'⟩
theorem ldInfo_many {t : TypeId} {n : Nat} (h : ldInfo P t = some (some n)) : ∃ d i, P.underlying t = some d ∧ P.info? t = some i ∧ i.size = n ∧ ((∃ fs, d = .struct fs) ∨ (∃ k e, d = .array k e)) := by
  unfold ldInfo at h
  split at h <;> first | (cases h; done) | skip
  · rename_i fs i hu hi; cases h; exact ⟨_, i, hu, hi, rfl, .inl ⟨fs, rfl⟩⟩
  · rename_i k e i hu hi; cases h; exact ⟨_, i, hu, hi, rfl, .inr ⟨k, e, rfl⟩⟩
theorem run_isAgg_one {t : TypeId} (h : ldInfo P t = some none) (w : World) : (isAgg t).run P w = .ok false w := by
  obtain ⟨d, i, hu, hi, h1, h2⟩ := ldInfo_one h
  simp only [isAgg, Sem.run_bind, run_underlying hu, Result.andThen_ok]
  cases d <;> first | rfl | (exact absurd rfl (h1 _)) | (exact absurd rfl (h2 _ _))
theorem run_isAgg_many {t : TypeId} {n : Nat} (h : ldInfo P t = some (some n)) (w : World) : (isAgg t).run P w = .ok true w ∧ (sizeOf t).run P w = .ok n w := by
  obtain ⟨d, i, hu, hi, rfl, h1⟩ := ldInfo_many h
  constructor
  · simp only [isAgg, Sem.run_bind, run_underlying hu, Result.andThen_ok]
    rcases h1 with ⟨fs, rfl⟩ | ⟨k, e, rfl⟩ <;> rfl
  · simp [sizeOf, typeInfo, hi]
theorem run_part {t : TypeId} {cs : List AV} {off : Nat} {v : AV} {cs' : Array Value} (hp : partA P t cs off = some v) (hc : LRel σ cs cs'.toList) (w : World) :
    ∃ v', (part t cs' off).run P w = .ok v' w ∧ VRel σ v v' := by
  unfold partA partI at hp
  split at hp
  · rename_i hl
    rw [lget_eq] at hp
    obtain ⟨y, hy, hr⟩ := hc.get hp
    refine ⟨y, ?_, hr⟩
    have : cs'[off]? = some y := by simpa using hy
    simp [part, run_isAgg_one hl, this]
  · rename_i n hl
    cases hcut : lcut cs off n with
    | none => simp [hcut] at hp
    | some r =>
      simp [hcut] at hp
      subst hp
      obtain ⟨h1, rfl, _⟩ := lcut_some hcut
      refine ⟨.agg (cs'.extract off (off + n)), ?_, ?_⟩
      · simp [part, (run_isAgg_many hl w).1, (run_isAgg_many hl w).2]
      · have := (hc.drop off).take n
        refine .agg _ _ ?_ ?_
        · rw [this.1]; simp
        · intro i x y hx hy
          refine this.2 i x y hx ?_
          rw [← hy]
          simp [List.take_drop]
  · cases hp

theorem good_field (t : TypeId) (x : Operand) (i : Nat) : Good1 P G ⟨dst, .field t x i, ty, pos, af, gd⟩ := by
  intro σ nt f a h h' w v ctx he hop hf hg
  have hx := ev_rel hf hg x (by simpa [Op.operands] using hop)
  have he' : oField t x i ty P ctx f h = .ok v h' := he
  unfold oField at he'
  split at he'
  · rename_i cs inf o hva hfp
    obtain ⟨h1, rfl⟩ := res1_ok he'
    rw [vA_yes hva] at hx
    generalize hy : a.eval x = y at *
    cases hx
    rename_i cs' hl hh
    unfold fldPart at hfp
    cases hfi : fldInfo P t i with
    | none => simp [hfi] at hfp
    | some p =>
      obtain ⟨u, o'⟩ := p
      simp [hfi] at hfp
      obtain ⟨rfl, rfl⟩ := hfp
      obtain ⟨fs, fd, k1, k2, rfl, rfl⟩ := fldInfo_some hfi
      obtain ⟨v', hr, hv⟩ := run_part (P := P) (σ := σ) (t := fd.type) (off := fd.offset) h1 (cs' := cs') ⟨hl, hh⟩ w
      refine ⟨v', w, .inl ?_, .quiet _ _ hv⟩
      simp [execOp, hy, Instr.field, underlying, k1, k2, asAgg, hr]
  · exact (bad_ne he').elim
theorem nat0_some {x : AV} {n : Nat} (h : nat0 x = some n) : ∃ k, x = .int k (.ofNat n) := by
  cases x <;> first | (cases h; done) | skip
  rename_i k m
  cases m <;> cases h
  exact ⟨k, rfl⟩
theorem natI_some {m : Int} {n : Nat} (h : natI m = some n) : m = .ofNat n := by
  cases m <;> cases h; rfl
theorem xInfo_sl {t : TypeId} {i : SI} (h : xInfo P t = .sl i) : ∃ inf, P.underlying t = some (.slice i.e) ∧ P.info? i.e = some inf ∧ inf.size = i.s ∧ inf.bytes = i.bytes := by
  unfold xInfo at h
  split at h <;> first | (cases h; done) | skip
  · split at h <;> cases h
    rename_i e hu _ inf hi
    exact ⟨inf, hu, hi, rfl, rfl⟩
  · split at h <;> cases h
theorem xInfo_arr {t : TypeId} {n : Nat} {i : SI} (h : xInfo P t = .arr n i) : ∃ inf, P.underlying t = some (.array n i.e) ∧ P.info? i.e = some inf ∧ inf.size = i.s ∧ inf.bytes = i.bytes := by
  unfold xInfo at h
  cases hu : P.underlying t with
  | none => rw [hu] at h; cases h
  | some d =>
    rw [hu] at h
    cases d with
    | array k e =>
      dsimp only at h
      cases hi : P.info? e with
      | none => rw [hi] at h; cases h
      | some inf => rw [hi] at h; cases h; exact ⟨inf, rfl, hi, rfl, rfl⟩
    | slice e => dsimp only at h; cases hi : P.info? e <;> rw [hi] at h <;> cases h
    | _ => cases h
theorem xInfo_str {t : TypeId} (h : xInfo P t = .str) : P.underlying t = some .string := by
  unfold xInfo at h
  split at h <;> first | (cases h; done) | skip
  · assumption
  · split at h <;> cases h
  · split at h <;> cases h
theorem good_indexAddr (t : TypeId) (x i : Operand) : Good1 P G ⟨dst, .indexAddr t x i, ty, pos, af, gd⟩ := by
  intro σ nt f a h h' w v ctx he hop hf hg
  simp [Op.operands] at hop
  have hx := ev_rel hf hg x hop.1
  have hi := ev_rel hf hg i hop.2
  have he' : iaX (xInfo P t) (ev x f) (nat0 (ev i f)) h = .ok v h' := he
  generalize hy : a.eval x = y at *
  generalize hj : a.eval i = j at *
  cases hn : nat0 (ev i f) with
  | none => rw [hn] at he'; cases hxi : xInfo P t <;> rw [hxi] at he' <;> cases he'
  | some n =>
    rw [hn] at he'
    obtain ⟨k, hk⟩ := nat0_some hn
    rw [hk] at hi
    cases hi
    generalize ev x f = u at *
    cases hxi : xInfo P t with
    | bad => rw [hxi] at he'; cases he'
    | str => rw [hxi] at he'; cases he'
    | sl si =>
      rw [hxi] at he'
      obtain ⟨inf, k1, k2, k3, k4⟩ := xInfo_sl hxi
      have he2 : iaS u n si.s h = .ok v h' := he'
      cases hx <;> first | (cases he2; done) | skip
      rename_i b off len cap sz ex e cc hs g1 g2 g3 g4
      rcases ite_ok (show Bool.rec (motive := fun _ => OR) (.bad 88) (.ok (.ptr b (Nat.add off (Nat.mul n si.s))) h) (Nat.blt n len) = .ok v h' from he2) with ⟨hb, he3⟩ | ⟨_, he3⟩
      · obtain ⟨rfl, rfl⟩ := ok_inj he3
        have hlt := blt_lt hb
        refine ⟨.pointer (some ⟨e.c, off + n * si.s, none⟩), w, .inl ?_, .quiet _ _ (.ptr b _ e hs)⟩
        have h0 : (0 : Int) ≤ Int.ofNat n := Int.natCast_nonneg n
        have h1 : (Int.ofNat n) < (len : Int) := by simpa using hlt
        simp [execOp, hy, hj, Instr.indexAt, asIntOf, underlying, k1, hlt, sizeOf, typeInfo, k2, k3, add_off]
      · exact (bad_ne he3).elim
    | arr len si =>
      rw [hxi] at he'
      obtain ⟨inf, k1, k2, k3, k4⟩ := xInfo_arr hxi
      have he2 : iaA u len n si.s h = .ok v h' := he'
      cases hx <;> first | (cases he2; done) | skip
      rename_i b off e hs
      rcases ite_ok (show Bool.rec (motive := fun _ => OR) (.bad 90) (.ok (.ptr b (Nat.add off (Nat.mul n si.s))) h) (Nat.blt n len) = .ok v h' from he2) with ⟨hb, he3⟩ | ⟨_, he3⟩
      · obtain ⟨rfl, rfl⟩ := ok_inj he3
        have hlt := blt_lt hb
        refine ⟨.pointer (some ⟨e.c, off + n * si.s, none⟩), w, .inl ?_, .quiet _ _ (.ptr b _ e hs)⟩
        simp [execOp, hy, hj, Instr.indexAt, asIntOf, underlying, k1, hlt, sizeOf, typeInfo, k2, k3, add_off, Instr.sureAddr]
      · exact (bad_ne he3).elim

theorem str_rel {s : List Nat} {y : Value} (h : VRel σ (.str s) y) : ∃ bs, y = .string bs ∧ s = bytesOf bs := by
  cases h; exact ⟨_, rfl, rfl⟩
theorem bytesOf_get (s : ByteArray) (n : Nat) : (bytesOf s)[n]? = (s[n]?).map UInt8.toNat := by
  unfold bytesOf
  rw [List.getElem?_map]
  congr 1
  simp only [Array.getElem?_toList]
  by_cases h : n < s.size
  · have h' : n < s.data.size := h
    rw [Array.getElem?_eq_getElem h', getElem?_pos s n h]
    rfl
  · have h' : ¬ n < s.data.size := h
    rw [Array.getElem?_eq_none (by omega), getElem?_neg s n h]
theorem bytesOf_len (s : ByteArray) : (bytesOf s).length = s.size := by
  unfold bytesOf
  simp
theorem resByte_ok {x : Option Nat} (he : resByte x h = .ok v h') : ∃ n, x = some n ∧ v = .int .u8 (.ofNat n) ∧ h' = h := by
  cases x <;> cases he; exact ⟨_, rfl, rfl, rfl⟩
theorem good_index (t : TypeId) (x i : Operand) : Good1 P G ⟨dst, .index t x i, ty, pos, af, gd⟩ := by
  intro σ nt f a h h' w v ctx he hop hf hg
  simp [Op.operands] at hop
  have hx := ev_rel hf hg x hop.1
  have hi := ev_rel hf hg i hop.2
  have he' : oIndex t x i ty P ctx f h = .ok v h' := he
  unfold oIndex at he'
  generalize hy : a.eval x = y at *
  generalize hj : a.eval i = j at *
  split at he'
  · rename_i n hxi hn
    obtain ⟨k, hk⟩ := nat0_some hn
    rw [hk] at hi
    cases hi
    generalize ev x f = u at *
    cases hx <;> first | (cases he'; done) | skip
    rename_i s
    obtain ⟨m, h1, rfl, rfl⟩ := resByte_ok (show resByte (sget (bytesOf s) n) h = .ok v h' from he')
    rw [sget_eq, bytesOf_get] at h1
    cases hb : s[n]? with
    | none => simp [hb] at h1
    | some b =>
      simp [hb] at h1
      subst h1
      refine ⟨.int .u8 b.toNat, w, .inl ?_, .quiet _ _ (.int .u8 _)⟩
      simp [execOp, hy, hj, Instr.index, asIntOf, underlying, xInfo_str hxi, hb]
  · rename_i len si n hxi hn
    obtain ⟨k, hk⟩ := nat0_some hn
    rw [hk] at hi
    cases hi
    split at he'
    · rename_i cs hva
      rw [vA_yes hva] at hx
      cases hx
      rename_i cs' hl hh
      obtain ⟨inf, k1, k2, k3, k4⟩ := xInfo_arr hxi
      rcases ite_ok he' with ⟨hb, he3⟩ | ⟨_, he3⟩
      · obtain ⟨hp, rfl⟩ := res1_ok he3
        obtain ⟨v', hr, hv⟩ := run_part (P := P) (σ := σ) hp (cs' := cs') ⟨hl, hh⟩ w
        have hlt := blt_lt hb
        refine ⟨v', w, .inl ?_, .quiet _ _ hv⟩
        simp [execOp, hy, hj, Instr.index, asIntOf, underlying, k1, hlt, sizeOf, typeInfo, k2, k3, hr]
      · exact (bad_ne he3).elim
    · exact (bad_ne he').elim
  · exact (bad_ne he').elim
theorem zeroVal_rel {t : TypeId} {z : AV} (σ : Sig) (h : zeroVal P t = some z) : ∃ i z', P.info? t = some i ∧ i.zero = some z' ∧ VRel σ z z' := by
  unfold zeroVal at h
  cases hi : P.info? t with
  | none => simp [hi] at h
  | some i =>
    cases hz : i.zero with
    | none => simp [hi, hz] at h
    | some z' =>
      simp [hi, hz] at h
      subst h
      exact ⟨i, z', rfl, hz, absN_rel σ 5 z'⟩
theorem tup2 {x y : AV} {x' y' : Value} (h : VRel σ x x') (h' : VRel σ y y') : VRel σ (.tup [x, y]) (.tuple #[x', y']) := by
  have := LRel.cons h (LRel.cons h' (LRel.nil σ))
  exact .tup _ _ this.1 this.2
theorem taInfo_some {t : TypeId} {z : AV} (h : taInfo P t = some z) : ∃ d, P.underlying t = some d ∧ (∀ m, d ≠ .interface m) ∧ zeroVal P t = some z := by
  unfold taInfo at h
  cases hu : P.underlying t with
  | none => rw [hu] at h; cases h
  | some d =>
    rw [hu] at h
    cases d <;> first | (cases h; done) | exact ⟨_, rfl, fun _ => by simp, h⟩
theorem good_typeAssert (x : Operand) (xt t : TypeId) (ok : Bool) : Good1 P G ⟨dst, .typeAssert x xt t ok, ty, pos, af, gd⟩ := by
  intro σ nt f a h h' w v ctx he hop hf hg
  have hx := ev_rel hf hg x (by simpa [Op.operands] using hop)
  have he' : oTypeAssert x xt t ok ty P ctx f h = .ok v h' := he
  unfold oTypeAssert at he'
  generalize hy : a.eval x = y at *
  split at he'
  · rename_i z hz hv
    rw [vIf_nil hv] at hx
    cases hx
    obtain ⟨d, hu, hd, hz⟩ := taInfo_some hz
    obtain ⟨i, z', hi, hzz, hr⟩ := zeroVal_rel σ hz
    cases ok
    · exact (bad_ne he').elim
    · obtain ⟨rfl, rfl⟩ := ok_inj he'
      refine ⟨_, w, .inl ?_, .quiet _ _ (tup2 hr (.bool false))⟩
      cases d <;> first | (exact absurd rfl (hd _)) | simp [execOp, hy, Instr.typeAssert, underlying, hu, zeroValue, typeInfo, hi, hzz]
  · rename_i z u vv hz hv
    rw [vIf_yes hv] at hx
    cases hx
    rename_i v0 hvv
    obtain ⟨d, hu, hd, hz⟩ := taInfo_some hz
    obtain ⟨i, z', hi, hzz, hr⟩ := zeroVal_rel σ hz
    rcases ite_ok he' with ⟨hb, he3⟩ | ⟨hb, he3⟩
    · obtain ⟨rfl, rfl⟩ := ok_inj he3
      have := beq_eqN hb
      subst this
      cases ok
      · refine ⟨v0, w, .inl ?_, .quiet _ _ hvv⟩
        cases d <;> first | (exact absurd rfl (hd _)) | simp [execOp, hy, Instr.typeAssert, underlying, hu]
      · refine ⟨_, w, .inl ?_, .quiet _ _ (tup2 hvv (.bool true))⟩
        cases d <;> first | (exact absurd rfl (hd _)) | simp [execOp, hy, Instr.typeAssert, underlying, hu]
    · have hne := beq_neN hb
      cases ok
      · exact (bad_ne he3).elim
      · obtain ⟨rfl, rfl⟩ := ok_inj he3
        refine ⟨_, w, .inl ?_, .quiet _ _ (tup2 hr (.bool false))⟩
        cases d <;> first | (exact absurd rfl (hd _)) | simp [execOp, hy, Instr.typeAssert, underlying, hu, zeroValue, typeInfo, hi, hzz, hne]
  · exact (bad_ne he').elim
theorem good_unOp (op : UnOp) (t : TypeId) (x : Operand) : Good1 P G ⟨dst, .unOp op t x, ty, pos, af, gd⟩ := by
  intro σ nt f a h h' w v ctx he hop hf hg
  have hx := ev_rel hf hg x (by simpa [Op.operands] using hop)
  have he' : oUnOp op t x ty P ctx f h = .ok v h' := he
  unfold oUnOp at he'
  generalize hy : a.eval x = y at *
  cases op with
  | not =>
    dsimp only at he'
    cases hv : vB (ev x f) with
    | no => rw [hv] at he'; cases he'
    | yes b =>
      rw [hv] at he'
      rw [vB_yes hv] at hx
      cases hx
      obtain ⟨rfl, rfl⟩ := ok_inj he'
      refine ⟨.bool (!b), w, .inl (by simp [execOp, hy, Op.unary]), .quiet _ _ ?_⟩
      rw [bnot_eq]; exact .bool _
  | neg =>
    dsimp only at he'
    cases hv : vI (ev x f) with
    | no => rw [hv] at he'; cases he'
    | yes k n =>
      rw [hv] at he'
      rw [vI_yes hv] at hx
      cases hx
      obtain ⟨rfl, rfl⟩ := ok_inj he'
      refine ⟨.int k (k.wrap (0 - n)), w, .inl (by simp [execOp, hy, Op.unary, Op.intArith]), .quiet _ _ ?_⟩
      rw [wrapF_eq]; exact .int _ _
  | _ => cases he'
end ops
end Go.Ev

/- Operations that read no memory, continued: arithmetic, comparisons, strings. -/
set_option linter.unusedSimpArgs false
set_option linter.unusedVariables false
namespace Go.Ev
variable {P : Program} {G : Nat} {σ : Sig} {h h' : H} {w : World} {v : AV}
section ops
variable {dst : Option Tmp} {ty : TypeId} {pos : String} {af : Array Edge} {gd : Option (Nat × Bool)}

theorem toNat_inj {a b : UInt8} : a.toNat = b.toNat ↔ a = b := UInt8.toNat_inj
theorem map_beq (l m : List UInt8) : (l.map UInt8.toNat == m.map UInt8.toNat) = (l == m) := by
  rw [Bool.eq_iff_iff]
  simp only [beq_iff_eq]
  constructor
  · intro e
    induction l generalizing m with
    | nil => cases m with
      | nil => rfl
      | cons b m => simp at e
    | cons a l ih => cases m with
      | nil => simp at e
      | cons b m =>
        simp only [List.map_cons, List.cons.injEq] at e
        rw [toNat_inj.1 e.1, ih m e.2]
  · rintro rfl; rfl
theorem strLt_cons (x y : Nat) (a b : List Nat) : strLt (x :: a) (y :: b) = (decide (x < y) || (x == y && strLt a b)) := by
  have : strLt (x :: a) (y :: b) = Bool.rec (motive := fun _ => Bool) (Bool.rec (motive := fun _ => Bool) false (strLt a b) (Nat.beq x y)) true (Nat.blt x y) := rfl
  rw [this]
  have e1 : Nat.blt x y = decide (x < y) := by rw [Bool.eq_iff_iff]; simp [Nat.blt_eq]
  have e2 : Nat.beq x y = (x == y) := by rw [Bool.eq_iff_iff]; simp
  rw [e1, e2]
  cases decide (x < y) <;> cases (x == y) <;> rfl
theorem strLt_bytes : ∀ l m : List UInt8, strLt (l.map UInt8.toNat) (m.map UInt8.toNat) = Op.bytesLess l m
  | [], [] => rfl
  | [], _ :: _ => rfl
  | _ :: _, [] => rfl
  | a :: l, b :: m => by
    simp only [List.map_cons, strLt_cons, Op.bytesLess, strLt_bytes l m]
    congr 1
    congr 1
    rw [Bool.eq_iff_iff]
    simp only [beq_iff_eq]
    exact toNat_inj
theorem strLt_total : ∀ l m : List Nat, (!strLt m l) = (strLt l m || l == m)
  | [], [] => rfl
  | [], _ :: _ => rfl
  | _ :: _, [] => rfl
  | x :: l, y :: m => by
    rw [strLt_cons, strLt_cons, List.cons_beq_cons]
    have ih := strLt_total l m
    rcases Nat.lt_trichotomy x y with h | h | h
    · have h1 : ¬ y < x := by omega
      have h2 : (y == x) = false := by simp; omega
      simp [h, h1, h2]
    · subst h
      simp only [Nat.lt_irrefl, decide_false, beq_self_eq_true, Bool.true_and, Bool.false_or]
      exact ih
    · have h1 : ¬ x < y := by omega
      have h2 : (x == y) = false := by simp; omega
      simp [h, h1, h2]
theorem strEq_b (a b : ByteArray) : strEq (bytesOf a) (bytesOf b) = (a.toList == b.toList) := by
  rw [strEq_eq, ByteArray.toList_eq, ByteArray.toList_eq]
  exact map_beq _ _
theorem strLt_b (a b : ByteArray) : strLt (bytesOf a) (bytesOf b) = Op.bytesLess a.toList b.toList := by
  rw [ByteArray.toList_eq, ByteArray.toList_eq]
  exact strLt_bytes _ _
theorem bytesOf_append (a b : ByteArray) : bytesOf (a ++ b) = bytesOf a ++ bytesOf b := by
  unfold bytesOf
  simp [ByteArray.data_append]
theorem kmm (k : IntKind) : (k.bits : Int) ≤ 64 := by cases k <;> decide
theorem eqGuard_ints (op : BinOp) (t : TypeId) (x y : Operand) (k k' : IntKind) (m n : Int) (w : World) : (eqGuard op t x y (.int k m) (.int k' n)).run P w = .ok () w := by
  unfold eqGuard
  split <;> rfl
theorem eqGuard_strs (op : BinOp) (t : TypeId) (x y : Operand) (m n : ByteArray) (w : World) : (eqGuard op t x y (.string m) (.string n)).run P w = .ok () w := by
  unfold eqGuard
  split <;> rfl
theorem not_lt_dec (a b : Int) : (!decide (a < b)) = decide (b ≤ a) := by rw [← decide_not]; congr 1; rw [Int.not_lt]
theorem iAr_ok {g : Int → Int → Int} {k k' : IntKind} {m n : Int} (he : iAr g k m k' n h = .ok v h') : k = k' ∧ v = .int k (k.wrap (g m n)) ∧ h' = h := by
  rcases ite_ok he with ⟨hk, he⟩ | ⟨_, he⟩
  · obtain ⟨rfl, rfl⟩ := ok_inj he
    exact ⟨(kEq_eq k k').1 hk, by rw [wrapF_eq], rfl⟩
  · cases he
theorem iCmp_ok {g : Int → Int → Bool} {k k' : IntKind} {m n : Int} (he : iCmp g k m k' n h = .ok v h') : k = k' ∧ v = .bool (g m n) ∧ h' = h := by
  rcases ite_ok he with ⟨hk, he⟩ | ⟨_, he⟩
  · obtain ⟨rfl, rfl⟩ := ok_inj he
    exact ⟨(kEq_eq k k').1 hk, rfl, rfl⟩
  · cases he
theorem iQuo_ok {k k' : IntKind} {m n : Int} (he : iQuo k m k' n h = .ok v h') : k = k' ∧ n ≠ 0 ∧ v = .int k (k.wrap (m.tdiv n)) ∧ h' = h := by
  rcases ite_ok he with ⟨hk, he⟩ | ⟨_, he⟩
  · rcases ite_ok he with ⟨_, he⟩ | ⟨hz, he⟩
    · cases he
    · obtain ⟨rfl, rfl⟩ := ok_inj he
      rw [ieq_eq] at hz
      exact ⟨(kEq_eq k k').1 hk, by simpa using hz, by rw [wrapF_eq], rfl⟩
  · cases he
theorem iRem_ok {k k' : IntKind} {m n : Int} (he : iRem k m k' n h = .ok v h') : k = k' ∧ n ≠ 0 ∧ v = .int k (m.tmod n) ∧ h' = h := by
  rcases ite_ok he with ⟨hk, he⟩ | ⟨_, he⟩
  · rcases ite_ok he with ⟨_, he⟩ | ⟨hz, he⟩
    · cases he
    · obtain ⟨rfl, rfl⟩ := ok_inj he
      rw [ieq_eq] at hz
      exact ⟨(kEq_eq k k').1 hk, by simpa using hz, rfl, rfl⟩
  · cases he
theorem iBit_ok {g : Nat → Nat → Nat} {k k' : IntKind} {m n : Int} (he : iBit g k m k' n h = .ok v h') :
    ∃ a b : Nat, k = k' ∧ m = a ∧ n = b ∧ (a : Int) ≤ k.max ∧ (b : Int) ≤ k.max ∧ v = .int k (g a b : Nat) ∧ h' = h := by
  unfold iBit at he
  split at he
  · rename_i a b ha hb
    rcases ite_ok he with ⟨hk, he⟩ | ⟨_, he⟩
    · rcases ite_ok he with ⟨h1, he⟩ | ⟨_, he⟩
      · rcases ite_ok he with ⟨h2, he⟩ | ⟨_, he⟩
        · obtain ⟨rfl, rfl⟩ := ok_inj he
          have e1 := natI_some ha
          have e2 := natI_some hb
          subst e1
          subst e2
          exact ⟨a, b, (kEq_eq k k').1 hk, rfl, rfl, (fits_spec h1).2, (fits_spec h2).2, rfl, rfl⟩
        · cases he
      · cases he
    · cases he
  · cases he
theorem max_lt (k : IntKind) (a : Nat) (h : (a : Int) ≤ k.max) : a < 2 ^ k.bits := by
  cases k <;> simp [IntKind.max, IntKind.bits, IntKind.signed] at * <;> omega
theorem ofInt_toNat (k : IntKind) (a : Nat) (h : (a : Int) ≤ k.max) : (BitVec.ofInt k.bits a).toNat = a := by
  have := max_lt k a h
  simp
  exact Nat.mod_eq_of_lt this
theorem wrap_nat (k : IntKind) (a : Nat) (h : (a : Int) ≤ k.max) : k.wrap a = a := by
  apply wrap_in
  refine ⟨?_, h⟩
  cases k <;> simp [IntKind.min, IntKind.bits, IntKind.signed] <;> omega
theorem pow_max (k : IntKind) (a : Nat) (h : (a : Int) ≤ k.max) : a < 2 ^ (if k.signed then k.bits - 1 else k.bits) := by
  cases k <;> simp [IntKind.max, IntKind.bits, IntKind.signed] at * <;> omega
theorem max_pow (k : IntKind) (a : Nat) (h : a < 2 ^ (if k.signed then k.bits - 1 else k.bits)) : (a : Int) ≤ k.max := by
  cases k <;> simp [IntKind.max, IntKind.bits, IntKind.signed] at * <;> omega
theorem run_binII (op : BinOp) (t : TypeId) (k k' : IntKind) (m n : Int) (w : World) (he : iTab op k m k' n h = .ok v h') :
    ∃ v', (binOp op t (.int k m) (.int k' n)).run P w = .ok v' w ∧ VRel σ v v' ∧ h' = h := by
  cases op with
  | add => obtain ⟨rfl, rfl, rfl⟩ := iAr_ok he; exact ⟨.int k (k.wrap (m + n)), by simp [binOp, Op.intArith], .int _ _, rfl⟩
  | sub => obtain ⟨rfl, rfl, rfl⟩ := iAr_ok he; exact ⟨.int k (k.wrap (m - n)), by simp [binOp, Op.intArith], .int _ _, rfl⟩
  | mul => obtain ⟨rfl, rfl, rfl⟩ := iAr_ok he; exact ⟨.int k (k.wrap (m * n)), by simp [binOp, Op.intArith], .int _ _, rfl⟩
  | quo => obtain ⟨rfl, hz, rfl, rfl⟩ := iQuo_ok he; exact ⟨.int k (k.wrap (m.tdiv n)), by simp [binOp, Op.intDiv, hz], .int _ _, rfl⟩
  | rem => obtain ⟨rfl, hz, rfl, rfl⟩ := iRem_ok he; exact ⟨.int k (m.tmod n), by simp [binOp, Op.intDiv, hz], .int _ _, rfl⟩
  | eql => obtain ⟨rfl, rfl, rfl⟩ := iCmp_ok he; exact ⟨.bool (m == n), by simp [binOp, Op.intCmp], by rw [ieq_eq]; exact .bool _, rfl⟩
  | neq => obtain ⟨rfl, rfl, rfl⟩ := iCmp_ok (g := fun a b => bnot (ieq a b)) he; exact ⟨.bool (m != n), by simp [binOp, Op.intCmp], by rw [bnot_eq, ieq_eq]; exact .bool _, rfl⟩
  | lss => obtain ⟨rfl, rfl, rfl⟩ := iCmp_ok he; exact ⟨.bool (decide (m < n)), by simp [binOp, Op.intCmp], by rw [ilt_eq]; exact .bool _, rfl⟩
  | leq => obtain ⟨rfl, rfl, rfl⟩ := iCmp_ok (g := fun a b => bnot (ilt b a)) he; exact ⟨.bool (decide (m ≤ n)), by simp [binOp, Op.intCmp], by rw [bnot_eq, ilt_eq, not_lt_dec]; exact .bool _, rfl⟩
  | gtr => obtain ⟨rfl, rfl, rfl⟩ := iCmp_ok (g := fun a b => ilt b a) he; exact ⟨.bool (decide (m > n)), by simp [binOp, Op.intCmp], by rw [ilt_eq]; exact .bool _, rfl⟩
  | geq => obtain ⟨rfl, rfl, rfl⟩ := iCmp_ok (g := fun a b => bnot (ilt a b)) he; exact ⟨.bool (decide (m ≥ n)), by simp [binOp, Op.intCmp], by rw [bnot_eq, ilt_eq, not_lt_dec]; exact .bool _, rfl⟩
  | andNot => cases he
  | and =>
    obtain ⟨a, b, rfl, rfl, rfl, ha, hb, rfl, rfl⟩ := iBit_ok he
    refine ⟨.int k (a &&& b : Nat), ?_, .int _ _, rfl⟩
    have hle : ((a &&& b : Nat) : Int) ≤ k.max := max_pow k _ (Nat.and_lt_two_pow _ (pow_max k b hb))
    have e := wrap_nat k _ hle
    simp only [binOp, Op.intBits, ne_eq, not_true_eq_false, if_false, BitVec.toNat_and, ofInt_toNat k a ha, ofInt_toNat k b hb, e]
    rfl
  | or =>
    obtain ⟨a, b, rfl, rfl, rfl, ha, hb, rfl, rfl⟩ := iBit_ok he
    refine ⟨.int k (a ||| b : Nat), ?_, .int _ _, rfl⟩
    have hle : ((a ||| b : Nat) : Int) ≤ k.max := max_pow k _ (Nat.or_lt_two_pow (pow_max k a ha) (pow_max k b hb))
    have e := wrap_nat k _ hle
    simp only [binOp, Op.intBits, ne_eq, not_true_eq_false, if_false, BitVec.toNat_or, ofInt_toNat k a ha, ofInt_toNat k b hb, e]
    rfl
  | xor =>
    obtain ⟨a, b, rfl, rfl, rfl, ha, hb, rfl, rfl⟩ := iBit_ok he
    refine ⟨.int k (a ^^^ b : Nat), ?_, .int _ _, rfl⟩
    have hle : ((a ^^^ b : Nat) : Int) ≤ k.max := max_pow k _ (Nat.xor_lt_two_pow (pow_max k a ha) (pow_max k b hb))
    have e := wrap_nat k _ hle
    simp only [binOp, Op.intBits, ne_eq, not_true_eq_false, if_false, BitVec.toNat_xor, ofInt_toNat k a ha, ofInt_toNat k b hb, e]
    rfl
  | shl =>
    have he' : iShl k m k' n h = .ok v h' := he
    unfold iShl at he'
    split at he'
    · rename_i b hb
      obtain ⟨rfl, rfl⟩ := ok_inj he'
      have e := natI_some hb
      subst e
      refine ⟨.int k (k.wrap (m * 2 ^ (min b k.bits))), ?_, ?_, rfl⟩
      · simp [binOp, Op.shift]
        intro hlt
        omega
      · rw [wrapF_eq]
        have : Int.mul m (.ofNat (Nat.pow 2 (Nat.min b k.bits))) = m * 2 ^ (min b k.bits) := by
          show m * ((2 ^ (min b k.bits) : Nat) : Int) = _
          simp
        rw [this]
        exact .int _ _
    · cases he'
  | shr =>
    have he' : iShr k m k' n h = .ok v h' := he
    unfold iShr at he'
    split at he'
    · rename_i a b ha hb
      obtain ⟨rfl, rfl⟩ := ok_inj he'
      have e := natI_some ha
      subst e
      have e := natI_some hb
      subst e
      refine ⟨.int k ((a : Int).fdiv (2 ^ (min b k.bits))), ?_, ?_, rfl⟩
      · simp [binOp, Op.shift]
        intro hlt
        omega
      · have : (Int.ofNat (Nat.div a (Nat.pow 2 (Nat.min b k.bits)))) = (a : Int).fdiv (2 ^ (min b k.bits)) := by
          show ((a / 2 ^ (min b k.bits) : Nat) : Int) = _
          rw [Int.fdiv_eq_ediv_of_nonneg _ (by exact_mod_cast Nat.zero_le _)]
          simp
        rw [this]
        exact .int _ _
    · cases he'
theorem run_binSS (op : BinOp) (t : TypeId) (m n : ByteArray) (w : World) (he : sTab op (bytesOf m) (bytesOf n) h = .ok v h') :
    ∃ v', (binOp op t (.string m) (.string n)).run P w = .ok v' w ∧ VRel σ v v' ∧ h' = h := by
  cases op with
  | add =>
    rcases ite_ok he with ⟨hs, he⟩ | ⟨_, he⟩
    · obtain ⟨rfl, rfl⟩ := ok_inj he
      have hlt := blt_lt hs
      simp only [slen_eq, bytesOf_len] at hlt
      refine ⟨.string (m ++ n), ?_, ?_, rfl⟩
      · have hn : ¬ (((m.size + n.size : Nat) : Int) > IntKind.i64.max) := by
          have : IntKind.i64.max = 9223372036854775807 := by decide
          rw [this]
          have : Nat.add m.size n.size = m.size + n.size := rfl
          omega
        have : binOp .add t (.string m) (.string n) = Op.stringOp .add m n := by simp [binOp]
        rw [this]
        simp only [Op.stringOp, if_neg hn]
        rfl
      · rw [sapp_eq, ← bytesOf_append]; exact .str _
    · cases he
  | eql => cases he; exact ⟨.bool (m.toList == n.toList), by simp [binOp, Op.stringOp], by rw [strEq_b]; exact .bool _, rfl⟩
  | neq => cases he; exact ⟨.bool (!(m.toList == n.toList)), by simp [binOp, Op.stringOp], by simp only [bnot_eq, strEq_b]; exact .bool _, rfl⟩
  | lss => cases he; exact ⟨.bool (Op.bytesLess m.toList n.toList), by simp [binOp, Op.stringOp], by rw [strLt_b]; exact .bool _, rfl⟩
  | leq => cases he; exact ⟨.bool (Op.bytesLess m.toList n.toList || m.toList == n.toList), by simp [binOp, Op.stringOp], by simp only [bnot_eq, strLt_total]; rw [strLt_b, ← strEq_eq, strEq_b]; exact .bool _, rfl⟩
  | gtr => cases he; exact ⟨.bool (!(Op.bytesLess m.toList n.toList || m.toList == n.toList)), by simp [binOp, Op.stringOp], by
      have := strLt_total (bytesOf m) (bytesOf n)
      rw [strLt_b m n, ← strEq_eq, strEq_b] at this
      rw [← this, Bool.not_not]; exact .bool _, rfl⟩
  | geq => cases he; exact ⟨.bool (!Op.bytesLess m.toList n.toList), by simp [binOp, Op.stringOp], by simp only [bnot_eq, strLt_b]; exact .bool _, rfl⟩
  | _ => cases he

/- equality by type -/
def TKsays (P : Program) (t : TypeId) : TK → Prop
    | .bad => True
    | .bool => P.underlying t = some .bool
    | .int => ∃ i, P.underlying t = some (.int i)
    | .string => P.underlying t = some .string
    | .ptr => ∃ e inf, P.underlying t = some (.pointer e) ∧ P.info? e = some inf ∧ inf.size ≠ 0
    | .iface => ∃ m, P.underlying t = some (.interface m)
    | .struct fs => ∃ l, P.underlying t = some (.struct l) ∧ P.stoodInHeld t = false ∧ fs = ((l.toList.filter fun f => f.name != "_").map fun f => (f.type, f.offset))
    | .array n e s => ∃ inf, P.underlying t = some (.array n e) ∧ P.info? e = some inf ∧ inf.size = s
    | .slice => ∃ e, P.underlying t = some (.slice e)
    | .map => ∃ x e, P.underlying t = some (.map x e)
    | .func => ∃ x y z, P.underlying t = some (.func x y z)
theorem tk_says (P : Program) (t : TypeId) : TKsays P t (tk P t) := by
  unfold tk
  cases hu : P.underlying t with
  | none => trivial
  | some d =>
    cases d with
    | pointer e =>
      dsimp only
      cases hs : szInfo P e with
      | none => trivial
      | some n =>
        obtain ⟨inf, h1, h2⟩ := szInfo_some hs
        cases n with
        | zero => trivial
        | succ n => exact ⟨e, inf, hu, h1, by omega⟩
    | struct l =>
      dsimp only
      cases hs : P.stoodInHeld t
      · simp only [Bool.false_eq_true, if_false]; exact ⟨l, hu, hs, rfl⟩
      · simp only [if_true]; trivial
    | array n e =>
      dsimp only
      cases hs : szInfo P e with
      | none => trivial
      | some s =>
        obtain ⟨inf, h1, h2⟩ := szInfo_some hs
        exact ⟨inf, hu, h1, h2⟩
    | bool => exact hu
    | int i => exact ⟨i, hu⟩
    | string => exact hu
    | interface m => exact ⟨m, hu⟩
    | slice e => exact ⟨e, hu⟩
    | map x e => exact ⟨x, e, hu⟩
    | func x y z => exact ⟨x, y, z, hu⟩
    | _ => trivial

def EqSound (P : Program) (σ : Sig) (d : Nat) (eq : EqT) : Prop :=
  ∀ t x y b x' y', eq t x y = some b → VRel σ x x' → VRel σ y y' → ∀ (D : Nat) (w : World), d ≤ D → (Op.equalIn D t x' y').run P w = .ok b w
theorem aeqF_sound {d : Nat} {eq : EqT} (hs : EqSound P σ d eq) (D : Nat) (hD : d ≤ D) (xs ys : List AV) (xs' ys' : Array Value) (hx : LRel σ xs xs'.toList) (hy : LRel σ ys ys'.toList) (w : World) :
    ∀ (fs : List Field) (b : Bool), aeqF P eq ((fs.filter fun f => f.name != "_").map fun f => (f.type, f.offset)) xs ys = some b → (Op.eqFields D xs' ys' fs).run P w = .ok b w := by
  intro fs
  induction fs with
  | nil => intro b hb; cases hb; rfl
  | cons f fs ih =>
    intro b hb
    by_cases hn : f.name = "_"
    · have : (f.name != "_") = false := by simp [hn]
      rw [List.filter_cons_of_neg (by simp [hn])] at hb
      simp only [Op.eqFields, hn, ne_eq, not_true_eq_false, if_false]
      exact ih b hb
    · rw [List.filter_cons_of_pos (by simp [hn])] at hb
      simp only [List.map_cons, aeqF] at hb
      split at hb
      · rename_i u v hu hv
        obtain ⟨u', hu', ru⟩ := run_part (P := P) (σ := σ) hu (cs' := xs') hx w
        obtain ⟨v', hv', rv⟩ := run_part (P := P) (σ := σ) hv (cs' := ys') hy w
        split at hb
        · rename_i he
          have := hs _ _ _ _ _ _ he ru rv D w hD
          simp only [Op.eqFields, ne_eq, hn, not_false_eq_true, if_true, Sem.run_bind, hu', hv', this, Result.andThen_ok, Bool.not_true, Bool.false_eq_true, if_false]
          exact ih b hb
        · rename_i he
          cases hb
          have := hs _ _ _ _ _ _ he ru rv D w hD
          simp [Op.eqFields, hn, hu', hv', this]
        · cases hb
      · cases hb
theorem aeqA_sound {d : Nat} {eq : EqT} (hs : EqSound P σ d eq) (D : Nat) (hD : d ≤ D) (e : TypeId) (s : Nat) (xs ys : List AV) (xs' ys' : Array Value) (hx : LRel σ xs xs'.toList) (hy : LRel σ ys ys'.toList) (w : World) :
    ∀ (n i : Nat) (b : Bool), aeqA P eq e s n i xs ys = some b → (Op.eqItems D e s xs' ys' (List.range' i n)).run P w = .ok b w := by
  intro n
  induction n with
  | zero => intro i b hb; cases hb; simp [Op.eqItems]
  | succ n ih =>
    intro i b hb
    simp only [aeqA] at hb
    split at hb
    · rename_i u v hu hv
      obtain ⟨u', hu', ru⟩ := run_part (P := P) (σ := σ) hu (cs' := xs') hx w
      obtain ⟨v', hv', rv⟩ := run_part (P := P) (σ := σ) hv (cs' := ys') hy w
      split at hb
      · rename_i he
        have := hs _ _ _ _ _ _ he ru rv D w hD
        simp only [List.range'_succ, Op.eqItems, Sem.run_bind, hu', hv', this, Result.andThen_ok, Bool.not_true, Bool.false_eq_true, if_false]
        exact ih (i + 1) b hb
      · rename_i he
        cases hb
        have := hs _ _ _ _ _ _ he ru rv D w hD
        simp [List.range'_succ, Op.eqItems, hu', hv', this]
      · cases hb
    · cases hb
theorem addr_beq (c o o' : Nat) : ((⟨c, o, none⟩ : Addr) == ⟨c, o', none⟩) = (o == o') := by
  rw [Bool.eq_iff_iff]
  simp [Addr.mk.injEq]
set_option maxHeartbeats 2000000 in
theorem aeq_sound (P : Program) (σ : Sig) : ∀ d, EqSound P σ d (aeq P d) := by
  intro d
  induction d with
  | zero => intro t x y b x' y' h; cases h
  | succ d ih =>
    intro t x y b x' y' he hx hy D w hD
    obtain ⟨D, rfl⟩ : ∃ k, D = k + 1 := ⟨D - 1, by omega⟩
    have he' : aeqStep P (aeq P d) t x y = some b := he
    unfold aeqStep at he'
    have hk := tk_says P t
    split at he' <;> rename_i hc <;> rw [hc] at hk
    · cases he'
    · split at he'
      · rename_i a1 b1 h1 h2
        rw [vB_yes h1] at hx; rw [vB_yes h2] at hy
        cases hx; cases hy; cases he'
        have hu : P.underlying t = some .bool := hk
        exact run_equalIn_bool w D t _ _ hu
      · cases he'
    · obtain ⟨i, hu⟩ := hk
      split at he'
      · rename_i k a1 k' b1 h1 h2
        rw [vI_yes h1] at hx; rw [vI_yes h2] at hy
        cases hx; cases hy
        cases hq : kEq k k' with
        | false => rw [hq] at he'; cases he'
        | true =>
          rw [hq] at he'; cases he'
          have := (kEq_eq k k').1 hq
          subst this
          rw [ieq_eq]
          exact run_equalIn_int w D t k i _ _ hu
      · cases he'
    · split at he'
      · rename_i a1 b1 h1 h2
        rw [vS_yes h1] at hx; rw [vS_yes h2] at hy
        cases hx; cases hy; cases he'
        rw [strEq_b]
        exact run_equalIn_string w D t _ _ hk
      · cases he'
    · obtain ⟨e, inf, hu, hi, hs⟩ := hk
      split at he'
      · rename_i h1 h2
        rw [vP_nil h1] at hx; rw [vP_nil h2] at hy
        cases hx; cases hy; cases he'
        simp [Op.equalIn, run_underlying hu]
      · rename_i b0 o0 h1 h2
        rw [vP_nil h1] at hx; rw [vP_yes h2] at hy
        cases hx; cases hy; cases he'
        simp [Op.equalIn, run_underlying hu]
      · rename_i b0 o0 h1 h2
        rw [vP_yes h1] at hx; rw [vP_nil h2] at hy
        cases hx; cases hy; cases he'
        simp [Op.equalIn, run_underlying hu]
      · rename_i b0 o0 b1 o1 h1 h2
        rw [vP_yes h1] at hx; rw [vP_yes h2] at hy
        cases hx; cases hy
        rename_i e0 s0 e1 s1
        cases hq : Nat.beq b0 b1 with
        | false => rw [hq] at he'; cases he'
        | true =>
          rw [hq] at he'; cases he'
          have := beq_eqN hq
          subst this
          rw [s0] at s1
          cases s1
          have e2 : Nat.beq o0 o1 = (o0 == o1) := by rw [Bool.eq_iff_iff]; simp
          rw [e2]
          simp [Op.equalIn, run_underlying hu, sizeOf, typeInfo, hi, hs, sameAddr, addr_beq]
      · cases he'
    · obtain ⟨m, hu⟩ := hk
      split at he'
      · rename_i h1 h2
        rw [vIf_nil h1] at hx; rw [vIf_nil h2] at hy
        cases hx; cases hy; cases he'
        simp [Op.equalIn, run_underlying hu]
      · rename_i t0 v0 h1 h2
        rw [vIf_nil h1] at hx; rw [vIf_yes h2] at hy
        cases hx; cases hy; cases he'
        simp [Op.equalIn, run_underlying hu]
      · rename_i t0 v0 h1 h2
        rw [vIf_yes h1] at hx; rw [vIf_nil h2] at hy
        cases hx; cases hy; cases he'
        simp [Op.equalIn, run_underlying hu]
      · rename_i t0 v0 t1 v1 h1 h2
        rw [vIf_yes h1] at hx; rw [vIf_yes h2] at hy
        cases hx; cases hy
        rename_i u0 r0 u1 r1
        cases hq : Nat.beq t0 t1 with
        | false =>
          rw [hq] at he'; cases he'
          have hne := beq_neN hq
          simp [Op.equalIn, run_underlying hu, hne]
        | true =>
          rw [hq] at he'
          have := beq_eqN hq
          subst this
          cases hcmp : (P.info? t0).any (·.comparable) with
          | false => simp only [hcmp] at he'; cases he'
          | true =>
            simp only [hcmp] at he'
            have he2 : aeq P d t0 v0 v1 = some b := he'
            cases hi : P.info? t0 with
            | none => simp [hi] at hcmp
            | some inf =>
              simp [hi] at hcmp
              have := ih t0 v0 v1 b _ _ he2 r0 r1 D w (by omega)
              simp [Op.equalIn, run_underlying hu, typeInfo, hi, hcmp, this]
      · cases he'
    · rename_i fs
      obtain ⟨l, hu, hs, rfl⟩ := hk
      split at he'
      · rename_i a1 b1 h1 h2
        rw [vA_yes h1] at hx; rw [vA_yes h2] at hy
        cases hx; cases hy
        rename_i c1 l1 r1 c2 l2 r2
        have hfo : P.fieldsOf t = l := by simp [Program.fieldsOf, hu]
        rw [run_equalIn_struct w D t c1 c2 (by rw [hfo]; exact hu) hs, hfo]
        exact aeqF_sound ih D (by omega) a1 b1 c1 c2 ⟨l1, r1⟩ ⟨l2, r2⟩ w l.toList b he'
      · cases he'
    · rename_i n e s
      obtain ⟨inf, hu, hi, hs⟩ := hk
      split at he'
      · rename_i a1 b1 h1 h2
        rw [vA_yes h1] at hx; rw [vA_yes h2] at hy
        cases hx; cases hy
        rename_i c1 l1 r1 c2 l2 r2
        rw [run_equalIn_array w D c1 c2 hu hi]
        have hc : P.cellsOf e = s := by simp [Program.cellsOf, hi, hs]
        rw [hc, List.range_eq_range']
        exact aeqA_sound ih D (by omega) e s a1 b1 c1 c2 ⟨l1, r1⟩ ⟨l2, r2⟩ w n 0 b he'
      · cases he'
    · obtain ⟨e, hu⟩ := hk
      split at he'
      · rename_i h1 h2
        rw [vL_nil h1] at hx; rw [vL_nil h2] at hy
        cases hx; cases hy; cases he'
        simp [Op.equalIn, run_underlying hu]
      · rename_i h1 h2
        rw [vL_nil h1] at hx; rw [vL_yes h2] at hy
        cases hx; cases hy; cases he'
        simp [Op.equalIn, run_underlying hu]
      · rename_i h1 h2
        rw [vL_yes h1] at hx; rw [vL_nil h2] at hy
        cases hx; cases hy; cases he'
        simp [Op.equalIn, run_underlying hu]
      · cases he'
    · obtain ⟨x0, e, hu⟩ := hk
      split at he'
      · rename_i h1 h2
        rw [vM_nil h1] at hx; rw [vM_nil h2] at hy
        cases hx; cases hy; cases he'
        simp [Op.equalIn, run_underlying hu]
      · rename_i h1 h2
        rw [vM_nil h1] at hx; rw [vM_yes h2] at hy
        cases hx; cases hy; cases he'
        simp [Op.equalIn, run_underlying hu]
      · rename_i h1 h2
        rw [vM_yes h1] at hx; rw [vM_nil h2] at hy
        cases hx; cases hy; cases he'
        simp [Op.equalIn, run_underlying hu]
      · cases he'
    · obtain ⟨x0, y0, z0, hu⟩ := hk
      split at he'
      · rename_i h1 h2
        have e1 : x = .nfn := by cases x <;> cases h1; rfl
        have e2 : y = .nfn := by cases y <;> cases h2; rfl
        subst e1; subst e2
        cases hx; cases hy; cases he'
        simp [Op.equalIn, run_underlying hu]
      · rename_i h1 h2
        have e1 : x = .nfn := by cases x <;> cases h1; rfl
        subst e1
        rw [vF_yes h2] at hy
        cases hx; cases he'
        cases hy <;> simp [Op.equalIn, run_underlying hu]
      · rename_i h1 h2
        have e1 : y = .nfn := by cases y <;> cases h2; rfl
        subst e1
        rw [vF_yes h1] at hx
        cases hy; cases he'
        cases hx <;> simp [Op.equalIn, run_underlying hu]
      · cases he'

theorem run_eqGuard_ok (neg : Bool) (t : TypeId) (x y : Operand) {u v : AV} {u' v' : Value} (hu : VRel σ u u') (hv : VRel σ v v') (cst : Bool)
    (hc : cst = true → isConst x = true ∨ isConst y = true) (ha : eqAsk P t cst (eqCls u) (eqCls v) = true) (w : World) : (eqGuard (if neg then .neq else .eql) t x y u' v').run P w = .ok () w := by
  generalize (if neg then BinOp.neq else BinOp.eql) = op
  cases hu <;> cases hv <;> first
    | (exfalso; revert ha; simp [eqAsk, eqCls]; done)
    | (cases op <;> rfl)
    | skip
  · have : cst = true := by simpa [eqAsk, eqCls] using ha
    rcases hc this with h1 | h1
    · cases x <;> first | (cases h1; done) | (cases op <;> simp [eqGuard])
    · cases y <;> first | (cases h1; done) | (cases op <;> simp [eqGuard])
  · have hg : eqGuardOk P t = true := by simpa [eqAsk, eqCls] using ha
    unfold eqGuardOk at hg
    rw [bnot_eq] at hg
    exact run_eqGuard_agg w op t x y _ _ (by simpa using hg)
theorem binEq_ok {neg : Bool} {t : TypeId} {x y : AV} {cst : Bool} (he : binEq neg P t x y cst h = .ok v h') :
    eqAsk P t cst (eqCls x) (eqCls y) = true ∧ ∃ b, aeq P 20 t x y = some b ∧ v = .bool (neg != b) ∧ h' = h := by
  rcases ite_ok he with ⟨hk, he⟩ | ⟨_, he⟩
  · cases hq : aeq P 20 t x y with
    | none => rw [hq] at he; cases he
    | some b => rw [hq] at he; cases he; exact ⟨hk, b, rfl, rfl, rfl⟩
  · cases he
/-- '==' on values that are neither integers nor strings, as the model runs it -/
theorem run_binOp_eq (t : TypeId) {u v : AV} {u' v' : Value} (hu : VRel σ u u') (hv : VRel σ v v') (cst : Bool) (ha : eqAsk P t cst (eqCls u) (eqCls v) = true) (w : World) (b : Bool)
    (hb : (Op.equal t u' v').run P w = .ok b w) : (binOp .eql t u' v').run P w = .ok (.bool b) w ∧ (binOp .neq t u' v').run P w = .ok (.bool (!b)) w := by
  cases hu <;> cases hv <;> first
      | (exfalso; revert ha; simp [eqAsk, eqCls]; done)
      | (constructor <;> simp [binOp, hb])

theorem binI2_ok {y : AV} {k : IntKind} {n : Int} {op : BinOp} (he : binI2 y k n op h = .ok v h') : ∃ k' m, y = .int k' m ∧ iTab op k n k' m h = .ok v h' := by
  cases y <;> first | (cases he; done) | exact ⟨_, _, rfl, he⟩
theorem binS2_ok {y : AV} {s : List Nat} {op : BinOp} (he : binS2 y s op h = .ok v h') : ∃ s', y = .str s' ∧ sTab op s s' h = .ok v h' := by
  cases y <;> first | (cases he; done) | exact ⟨_, rfl, he⟩
theorem good_binOp (op : BinOp) (t : TypeId) (x y : Operand) (yt : TypeId) : Good1 P G ⟨dst, .binOp op t x y yt, ty, pos, af, gd⟩ := by
  intro σ nt f a h h' w v ctx he hop hf hg
  simp [Op.operands] at hop
  have hx := ev_rel hf hg x hop.1
  have hy := ev_rel hf hg y hop.2
  have he' : binD (ev x f) (ev x f) (ev y f) op t (Bool.rec (motive := fun _ => Bool) (isConst y) true (isConst x)) P h = .ok v h' := he
  have hcst : (Bool.rec (motive := fun _ => Bool) (isConst y) true (isConst x)) = true → isConst x = true ∨ isConst y = true := by
    intro hh
    cases hc : isConst x
    · rw [hc] at hh; exact .inr hh
    · exact .inl rfl
  generalize (Bool.rec (motive := fun _ => Bool) (isConst y) true (isConst x) : Bool) = cst at *
  generalize ev x f = u at *
  generalize ev y f = u2 at *
  have gen : binGen u u2 op t cst P h = .ok v h' → ∃ v' w', Ran P (execOp a.eval ⟨dst, .binOp op t x y yt, ty, pos, af, gd⟩) w v' w' ∧ Eff1 σ h w v v' h' w' := by
    intro hb
    have hb' : (op = .eql ∧ binEq false P t u u2 cst h = .ok v h') ∨ (op = .neq ∧ binEq true P t u u2 cst h = .ok v h') := by
      cases op <;> first | (cases hb; done) | exact .inl ⟨rfl, hb⟩ | exact .inr ⟨rfl, hb⟩
    rcases hb' with ⟨rfl, hb⟩ | ⟨rfl, hb⟩
    · obtain ⟨ha, b, hq, rfl, rfl⟩ := binEq_ok hb
      have h1 := run_eqGuard_ok (P := P) false t x y hx hy cst hcst ha w
      have h2 := run_binOp_eq (P := P) t hx hy cst ha w b (aeq_sound P σ 20 t u u2 b _ _ hq hx hy Op.maxDepth w (by decide))
      refine ⟨.bool b, w, .inl ?_, .quiet _ _ ?_⟩
      · simp only [Bool.false_eq_true, if_false] at h1
        simp [execOp, h1, h2.1]
      · cases b <;> exact .bool _
    · obtain ⟨ha, b, hq, rfl, rfl⟩ := binEq_ok hb
      have h1 := run_eqGuard_ok (P := P) true t x y hx hy cst hcst ha w
      have h2 := run_binOp_eq (P := P) t hx hy cst ha w b (aeq_sound P σ 20 t u u2 b _ _ hq hx hy Op.maxDepth w (by decide))
      refine ⟨.bool (!b), w, .inl ?_, .quiet _ _ ?_⟩
      · simp only [if_true] at h1
        simp [execOp, h1, h2.2]
      · cases b <;> exact .bool _
  cases u with
  | int k n =>
    obtain ⟨k', m, rfl, hi⟩ := binI2_ok (show binI2 u2 k n op h = .ok v h' from he')
    generalize hxx : a.eval x = xx at *
    generalize hyy : a.eval y = yy at *
    cases hx; cases hy
    obtain ⟨v', hr, hv, rfl⟩ := run_binII (P := P) (σ := σ) op t k k' n m w hi
    exact ⟨v', w, .inl (by simp [execOp, hxx, hyy, eqGuard_ints, hr]), .quiet _ _ hv⟩
  | str s =>
    obtain ⟨s', rfl, hi⟩ := binS2_ok (show binS2 u2 s op h = .ok v h' from he')
    generalize hxx : a.eval x = xx at *
    generalize hyy : a.eval y = yy at *
    cases hx; cases hy
    obtain ⟨v', hr, hv, rfl⟩ := run_binSS (P := P) (σ := σ) op t _ _ w hi
    exact ⟨v', w, .inl (by simp [execOp, hxx, hyy, eqGuard_strs, hr]), .quiet _ _ hv⟩
  | top => cases he'
  | _ => exact gen he'
end ops
end Go.Ev

/- Operations that read no memory, the last of them: slicing, lengths, literals. -/
set_option linter.unusedSimpArgs false
set_option linter.unusedVariables false
namespace Go.Ev
variable {P : Program} {G : Nat} {σ : Sig} {h h' : H} {w : World} {v : AV} {nt : Nat} {f : L2} {a : Act}
section ops
variable {dst : Option Tmp} {ty : TypeId} {pos : String} {af : Array Edge} {gd : Option (Nat × Bool)}

theorem run_bound (hf : FRel σ nt f a) (hg : GOk G σ) {x : Operand} (hx : opdOk G x = true) {n y : Nat} (hn : nat0 (ev x f) = some n) (hle : n ≤ y) (code : BoundsCode) (w : World) :
    (Instr.sliceBound (a.eval x) y code).run P w = .ok n w := by
  obtain ⟨k, hk⟩ := nat0_some hn
  have hr := ev_rel hf hg x hx
  rw [hk] at hr
  generalize a.eval x = u at *
  cases hr
  simp [Instr.sliceBound, asIntOf, hle]
/-- the bounds of a slice expression -/
theorem run_bounds (hf : FRel σ nt f a) (hg : GOk G σ) {lo hi mx : Option Operand} (h1 : ∀ x, lo = some x → opdOk G x = true) (h2 : ∀ x, hi = some x → opdOk G x = true) (h3 : ∀ x, mx = some x → opdOk G x = true)
    {l u m len cap : Nat} (hm : bnd f mx cap = some m) (hl : bnd f lo 0 = some l) (hu : bnd f hi len = some u) (hlu : l ≤ u) (hum : u ≤ m) (hmc : m ≤ cap) (hmx : mx ≠ none → hi ≠ none) (is : Bool) (w : World) :
    (Instr.sliceBounds is len cap (lo.map a.eval) (hi.map a.eval) (mx.map a.eval)).run P w = .ok (l, u, m) w := by
  cases mx with
  | none =>
    have e : m = cap := by cases hm; rfl
    subst e
    cases hi with
    | none =>
      have e : u = len := by cases hu; rfl
      subst e
      cases lo with
      | none =>
        have e : l = 0 := by cases hl; rfl
        subst e
        simp [Instr.sliceBounds]
      | some x => simp [Instr.sliceBounds, run_bound hf hg (h1 x rfl) hl hlu]
    | some y =>
      have r2 := fun c w => run_bound (P := P) hf hg (h2 y rfl) hu hum c w
      cases lo with
      | none =>
        have e : l = 0 := by cases hl; rfl
        subst e
        cases is <;> simp [Instr.sliceBounds, r2]
      | some x =>
        have r1 := fun c w => run_bound (P := P) hf hg (h1 x rfl) hl hlu c w
        cases is <;> simp [Instr.sliceBounds, r1, r2]
  | some z =>
    have r3 := fun c w => run_bound (P := P) hf hg (h3 z rfl) hm hmc c w
    cases hi with
    | none => exact absurd rfl (hmx (by simp))
    | some y =>
      have r2 := fun c w => run_bound (P := P) hf hg (h2 y rfl) hu hum c w
      cases lo with
      | none =>
        have e : l = 0 := by cases hl; rfl
        subst e
        cases is <;> simp [Instr.sliceBounds, r2, r3]
      | some x =>
        have r1 := fun c w => run_bound (P := P) hf hg (h1 x rfl) hl hlu c w
        cases is <;> simp [Instr.sliceBounds, r1, r2, r3]
theorem bytesOf_extract (s : ByteArray) (l u : Nat) : bytesOf (s.extract l u) = ((bytesOf s).drop l).take (u - l) := by
  unfold bytesOf
  rw [ByteArray.data_extract, Array.toList_extract]
  simp [List.map_take, List.map_drop]
theorem slStr_ok {s : List Nat} {l u : Option Nat} (he : slStr s l u h = .ok v h') :
    ∃ l' u', l = some l' ∧ u = some u' ∧ l' ≤ u' ∧ u' ≤ s.length ∧ v = .str ((s.drop l').take (u' - l')) ∧ h' = h := by
  unfold slStr at he
  split at he
  · rename_i l' u'
    rcases ite_ok he with ⟨h1, he⟩ | ⟨_, he⟩
    · rcases ite_ok he with ⟨h2, he⟩ | ⟨_, he⟩
      · obtain ⟨rfl, rfl⟩ := ok_inj he
        rw [slen_eq] at h2
        refine ⟨l', u', rfl, rfl, ble_le h1, ble_le h2, ?_, rfl⟩
        rw [stake_eq, sdrop_eq]; rfl
      · cases he
    · cases he
  · cases he
theorem slSl_ok {b off cap sz : Nat} {ex : Bool} {l u : Nat} (he : slSl b off cap sz ex l u h = .ok v h') : l ≤ u ∧ u ≤ cap ∧ h' = h ∧
    ((l < cap ∧ v = .sl b (off + l * sz) (u - l) (cap - l) sz ex) ∨ (l = cap ∧ ex = true ∧ v = .sl b off 0 0 sz true) ∨ (l = cap ∧ l = 0 ∧ v = .sl b off 0 0 sz ex)) := by
  rcases ite_ok he with ⟨h1, he⟩ | ⟨_, he⟩
  · rcases ite_ok he with ⟨h2, he⟩ | ⟨_, he⟩
    · have g1 := ble_le h1
      have g2 := ble_le h2
      rcases ite_ok he with ⟨h3, he⟩ | ⟨h3, he⟩
      · obtain ⟨rfl, rfl⟩ := ok_inj he
        exact ⟨g1, g2, rfl, .inl ⟨blt_lt h3, rfl⟩⟩
      · have g3 := blt_ge h3
        rcases ite_ok he with ⟨h4, he⟩ | ⟨h4, he⟩
        · obtain ⟨rfl, rfl⟩ := ok_inj he
          exact ⟨g1, g2, rfl, .inr (.inl ⟨by omega, h4, rfl⟩)⟩
        · rcases ite_ok he with ⟨h5, he⟩ | ⟨_, he⟩
          · obtain ⟨rfl, rfl⟩ := ok_inj he
            exact ⟨g1, g2, rfl, .inr (.inr ⟨by omega, beq_eqN h5, rfl⟩)⟩
          · cases he
    · cases he
  · cases he
theorem slSl3_ok {b off cap sz l u c : Nat} (he : slSl3 b off cap sz l u c h = .ok v h') : l ≤ u ∧ u ≤ c ∧ c ≤ cap ∧ h' = h ∧
    v = .sl b (if c = l then off else off + l * sz) (u - l) (c - l) sz true := by
  rcases ite_ok he with ⟨h1, he⟩ | ⟨_, he⟩
  · rcases ite_ok he with ⟨h2, he⟩ | ⟨_, he⟩
    · rcases ite_ok he with ⟨h3, he⟩ | ⟨_, he⟩
      · obtain ⟨rfl, rfl⟩ := ok_inj he
        refine ⟨ble_le h1, ble_le h2, ble_le h3, rfl, ?_⟩
        cases hq : Nat.beq c l with
        | false => rw [if_neg (beq_neN hq)]; rfl
        | true => rw [if_pos (beq_eqN hq)]; rfl
      · cases he
    · cases he
  · cases he
theorem all_opt {G : Nat} {lo hi mx : Option Operand} {x : Operand} (h : (Op.slice ty x lo hi mx).operands.toList.all (opdOk G) = true) :
    opdOk G x = true ∧ (∀ y, lo = some y → opdOk G y = true) ∧ (∀ y, hi = some y → opdOk G y = true) ∧ (∀ y, mx = some y → opdOk G y = true) := by
  simp only [Op.operands, Array.toList_append, List.all_append, Bool.and_eq_true] at h
  obtain ⟨⟨⟨h1, h2⟩, h3⟩, h4⟩ := h
  refine ⟨by simpa using h1, ?_, ?_, ?_⟩
  · rintro y rfl; simpa using h2
  · rintro y rfl; simpa using h3
  · rintro y rfl; simpa using h4
theorem good_slice (t : TypeId) (x : Operand) (lo hi mx : Option Operand) : Good1 P G ⟨dst, .slice t x lo hi mx, ty, pos, af, gd⟩ := by
  intro σ nt f a h h' w v ctx he hop hf hg
  obtain ⟨ox, o1, o2, o3⟩ := all_opt hop
  have hx := ev_rel hf hg x ox
  have he' : oSlice1 t x lo hi mx ty P ctx f h = .ok v h' ∧ hmOk hi mx = true := by
    rcases ite_ok he with ⟨h1, he⟩ | ⟨_, he⟩
    · exact ⟨he, h1⟩
    · cases he
  obtain ⟨he', hmo⟩ := he'
  have hmx : mx ≠ none → hi ≠ none := by
    intro h1 h2
    cases mx with
    | none => exact h1 rfl
    | some m => subst h2; cases hmo
  unfold oSlice1 at he'
  generalize hy : a.eval x = y at *
  split at he'
  · rename_i hxi
    split at he'
    · rename_i s hvs
      rw [vS_yes hvs] at hx
      cases hx
      rename_i bs
      obtain ⟨l, u, hl, hu, hlu, hus, rfl, rfl⟩ := slStr_ok he'
      rw [bytesOf_len] at hus
      have hu' : bnd f hi bs.size = some u := by rw [← bytesOf_len, ← slen_eq]; exact hu
      have hb := run_bounds (P := P) hf hg o1 o2 o3 (cap := bs.size) (len := bs.size) (m := bs.size) rfl hl hu' hlu hus (Nat.le_refl _) (fun hh => absurd rfl hh) false w
      refine ⟨.string (bs.extract l u), w, .inl ?_, .quiet _ _ ?_⟩
      · have hun := xInfo_str hxi
        simp only [Option.map_none] at hb
        simp [execOp, hy, Instr.sliceAt, Instr.slice, run_underlying hun, hb]
      · rw [← bytesOf_extract]; exact .str _
    · cases he'
  · rename_i i hxi
    obtain ⟨inf, k1, k2, k3, k4⟩ := xInfo_sl hxi
    split at he'
    · rename_i hvl
      rw [vL_nil hvl] at hx
      cases hx
      split at he'
      · rename_i e1 e2 e3
        obtain ⟨rfl, rfl⟩ := ok_inj he'
        have hb := run_bounds (P := P) hf hg o1 o2 o3 (cap := 0) (len := 0) e3 e1 e2 (Nat.le_refl _) (Nat.le_refl _) (Nat.le_refl _) hmx true w
        refine ⟨.slice none 0 0, w, .inl ?_, .quiet _ _ .nsl⟩
        simp [execOp, hy, Instr.sliceAt, Instr.slice, run_underlying k1, hb, sizeOf, typeInfo, k2]
      · cases he'
    · rename_i b off len cap sz ex hvl
      rw [vL_yes hvl] at hx
      cases hx
      rename_i e cc hs g1 g2 g3 g4
      split at he'
      · rename_i l u e1 e2
        rcases ite_ok he' with ⟨hz, he'⟩ | ⟨_, he'⟩
        · have hz' := beq_eqN hz
          obtain ⟨q1, q2, rfl, hcase⟩ := slSl_ok he'
          have hb := run_bounds (P := P) hf hg o1 o2 o3 (cap := cc) (len := len) (m := cc) rfl e1 e2 q1 (by omega) (Nat.le_refl _) (fun hh => absurd rfl hh) true w
          simp only [Option.map_none] at hb
          have run : (execOp a.eval ⟨dst, .slice t x lo hi none, ty, pos, af, gd⟩).run P w = .ok (.value (.slice (if cc = l then some ⟨e.c, off, none⟩ else some ((⟨e.c, off, none⟩ : Addr).add (l * i.s))) (u - l) (cc - l))) w := by
            simp [execOp, hy, Instr.sliceAt, Instr.slice, run_underlying k1, hb, sizeOf, typeInfo, k2, k3]
          rcases hcase with ⟨q3, rfl⟩ | ⟨q3, rfl, rfl⟩ | ⟨q3, q4, rfl⟩
          · refine ⟨_, w, .inl run, .quiet _ _ ?_⟩
            rw [if_neg (by omega), add_off, ← hz']
            refine .sl b _ _ _ _ _ e _ hs (by omega) (by omega) (fun hh => by rw [g3 hh]) (fun hh => ?_)
            have := g4 hh
            have e3 : l * sz + (cc - l) * sz = cc * sz := by rw [← Nat.add_mul]; congr 1; omega
            omega
          · have := g3 rfl
            subst this
            refine ⟨_, w, .inl run, .quiet _ _ ?_⟩
            have e3 : u = l := by omega
            rw [if_pos q3.symm, e3, ← q3, Nat.sub_self]
            exact .sl b _ _ _ _ _ e _ hs (by omega) (by omega) (fun _ => rfl) (fun hh => by cases hh)
          · subst q4
            have e3 : u = 0 := by omega
            refine ⟨_, w, .inl run, .quiet _ _ ?_⟩
            have e4 : (if cc = 0 then some (⟨e.c, off, none⟩ : Addr) else some ((⟨e.c, off, none⟩ : Addr).add (0 * i.s))) = some ⟨e.c, off, none⟩ := by
              rw [add_off]; simp
            rw [e4, e3, Nat.sub_zero, Nat.sub_zero]
            exact .sl b _ _ _ _ _ e _ hs (by omega) (by omega) (fun hh => by rw [g3 hh]; omega) g4
        · cases he'
      · rename_i l u m e1 e2
        split at he'
        · rename_i c e3
          rcases ite_ok he' with ⟨hz, he'⟩ | ⟨_, he'⟩
          · have hz' := beq_eqN hz
            obtain ⟨q1, q2, q3, rfl, rfl⟩ := slSl3_ok he'
            have hb := run_bounds (P := P) hf hg o1 o2 o3 (cap := cc) (len := len) (m := c) e3 e1 e2 q1 q2 (by omega) hmx true w
            refine ⟨.slice (if c = l then some ⟨e.c, off, none⟩ else some ((⟨e.c, off, none⟩ : Addr).add (l * i.s))) (u - l) (c - l), w, .inl ?_, .quiet _ _ ?_⟩
            · simp only [Option.map_some] at hb
              simp [execOp, hy, Instr.sliceAt, Instr.slice, run_underlying k1, hb, sizeOf, typeInfo, k2, k3]
            · rw [add_off, ← hz']
              by_cases hcl : c = l
              · rw [if_pos hcl, if_pos hcl]
                exact .sl b _ _ _ _ _ e _ hs (by omega) (by omega) (fun _ => rfl) (fun hh => by cases hh)
              · rw [if_neg hcl, if_neg hcl]
                exact .sl b _ _ _ _ _ e _ hs (by omega) (by omega) (fun _ => rfl) (fun hh => by cases hh)
          · cases he'
        · cases he'
      · cases he'
    · cases he'
  · rename_i n i hxi
    obtain ⟨inf, k1, k2, k3, k4⟩ := xInfo_arr hxi
    split at he'
    · rename_i b off l u hvp e1 e2
      rw [vP_yes hvp] at hx
      cases hx
      rename_i e hs
      obtain ⟨q1, q2, q3, rfl, rfl⟩ := slSl3_ok he'
      have hb := run_bounds (P := P) hf hg o1 o2 o3 (cap := n) (len := n) (m := n) rfl e1 e2 q1 q2 (Nat.le_refl _) (fun hh => absurd rfl hh) false w
      refine ⟨.slice (some (if n = l then ⟨e.c, off, none⟩ else ((⟨e.c, off, none⟩ : Addr).add (l * i.s)))) (u - l) (n - l), w, .inl ?_, .quiet _ _ ?_⟩
      · simp only [Option.map_none] at hb
        simp [execOp, hy, Instr.sliceAt, run_underlying k1, hb, sizeOf, typeInfo, k2, k3, Instr.sureAddr]
      · rw [add_off]
        by_cases hcl : n = l
        · rw [if_pos hcl, if_pos hcl]
          exact .sl b _ _ _ _ _ e _ hs (by omega) (by omega) (fun _ => rfl) (fun hh => by cases hh)
        · rw [if_neg hcl, if_neg hcl]
          exact .sl b _ _ _ _ _ e _ hs (by omega) (by omega) (fun _ => rfl) (fun hh => by cases hh)
    · cases he'
  · cases he'
end ops
end Go.Ev

/- Literals of structs, arrays and slices; lengths. -/
set_option linter.unusedSimpArgs false
set_option linter.unusedVariables false
namespace Go.Ev
variable {P : Program} {G : Nat} {σ : Sig} {h h' : H} {w : World} {v : AV} {nt : Nat} {f : L2} {a : Act}
section ops
variable {dst : Option Tmp} {ty : TypeId} {pos : String} {af : Array Edge} {gd : Option (Nat × Bool)}

theorem fold_size (vs : List (Value × Nat)) (off : Nat) (cells : Array Value) : (vs.foldl (fun cs (p : Value × Nat) => cs.setIfInBounds (off + p.2) p.1) cells).size = cells.size := by
  induction vs generalizing cells with
  | nil => rfl
  | cons p vs ih => simp only [List.foldl_cons]; rw [ih]; simp
theorem fold_get (vs : List Value) (off : Nat) : ∀ (k : Nat) (cells : Array Value) (i : Nat), off + k + vs.length ≤ cells.size →
    ((vs.zipIdx k).foldl (fun cs (p : Value × Nat) => cs.setIfInBounds (off + p.2) p.1) cells)[i]? = if off + k ≤ i ∧ i < off + k + vs.length then vs[i - (off + k)]? else cells[i]? := by
  induction vs with
  | nil => intro k cells i _; simp; intro h1 h2; omega
  | cons v vs ih =>
    intro k cells i hle
    simp only [List.length_cons] at hle
    simp only [List.zipIdx_cons, List.foldl_cons]
    rw [ih (k + 1) _ i (by simp; omega)]
    by_cases h1 : off + (k + 1) ≤ i ∧ i < off + (k + 1) + vs.length
    · rw [if_pos h1, if_pos (by simp; omega)]
      have : i - (off + k) = (i - (off + (k + 1))) + 1 := by omega
      rw [this, List.getElem?_cons_succ]
    · rw [if_neg h1]
      by_cases h2 : i = off + k
      · subst h2
        rw [if_pos (by simp)]
        have hlt : off + k < cells.size := by omega
        simp [hlt]
      · rw [if_neg (by simp; omega), Array.getElem?_setIfInBounds_ne (by omega)]
theorem fill_rel (hf : FRel σ nt f a) (hg : GOk G σ) {place place' : Nat → Option (Nat × Nat)} (hp : ∀ i q, place i = some q → place' i = some q) :
    ∀ (parts : List (Nat × Operand)) (cs r : List AV) (cs' : Array Value), parts.all (fun p => opdOk G p.2) = true → fillA place f parts cs = some r → LRel σ cs cs'.toList →
      ∃ r' : Array Value, Instr.fill place' cs' (parts.map fun p => (p.1, a.eval p.2)) = some r' ∧ LRel σ r r'.toList := by
  intro parts
  induction parts with
  | nil => intro cs r cs' _ he hc; cases he; exact ⟨cs', rfl, hc⟩
  | cons p parts ih =>
    obtain ⟨i, x⟩ := p
    intro cs r cs' hop he hc
    simp only [List.all_cons, Bool.and_eq_true] at hop
    simp only [fillA] at he
    split at he
    · rename_i off size u hpl hcl
      split at he
      · rename_i cs2 hput
        cases hq : Nat.beq (llen u) size with
        | false => rw [hq] at he; cases he
        | true =>
          rw [hq] at he
          have hsz := beq_eqN hq
          rw [llen_eq] at hsz
          have hv := cellsOf_rel hcl (ev_rel hf hg x hop.1)
          obtain ⟨hle, _⟩ := lput_some hput
          have hlen : u.length = (a.eval x).cells.size := by rw [hv.1]; simp
          have hlc : cs.length = cs'.size := by rw [hc.1]; simp
          simp only [List.map_cons, Instr.fill, hp i _ hpl]
          rw [if_neg (by simp; omega)]
          refine ih cs2 r _ hop.2 he ?_
          have key := fun i => fold_get (a.eval x).cells.toList off 0 cs' i (by simp; omega)
          rw [← Array.foldl_toList]
          rw [Array.toList_zipIdx]
          generalize hF : ((a.eval x).cells.toList.zipIdx 0).foldl (fun cs (p : Value × Nat) => cs.setIfInBounds (off + p.2) p.1) cs' = F at key
          have hF' : List.foldl (fun cs x => cs.setIfInBounds (off + x.2) x.1) cs' (a.eval x).cells.toList.zipIdx = F := hF
          have hsz2 : F.size = cs'.size := by rw [← hF]; exact fold_size _ _ _
          have goal : LRel σ cs2 F.toList := by
            refine ⟨?_, fun j y z hy hz => ?_⟩
            · rw [lput_length hput]; simp; omega
            · rw [lput_get hput] at hy
              have hz' : F[j]? = some z := by simpa using hz
              rw [key j] at hz'
              simp only [Nat.add_zero, Array.length_toList] at hz'
              by_cases hj : off ≤ j ∧ j < off + u.length
              · rw [if_pos hj] at hy
                rw [if_pos (by omega)] at hz'
                exact hv.2 (j - off) y z hy hz'
              · rw [if_neg hj] at hy
                rw [if_neg (by omega)] at hz'
                exact hc.2 j y z hy (by simpa using hz')
          exact goal
      · cases he
    · cases he
theorem operands_build {t : TypeId} {parts : Array (Nat × Operand)} (h : (Op.build t parts).operands.toList.all (opdOk G) = true) : parts.toList.all (fun p => opdOk G p.2) = true := by
  simpa [Op.operands, List.all_map] using h
theorem operands_buildSlice {t : TypeId} {n : Nat} {parts : Array (Nat × Operand)} (h : (Op.buildSlice t n parts).operands.toList.all (opdOk G) = true) : parts.toList.all (fun p => opdOk G p.2) = true := by
  simpa [Op.operands, List.all_map] using h
theorem mapM_places (P : Program) (w : World) : ∀ (l : List Go.Field) (pl : List (Nat × Nat)), l.mapM (fun f => (szInfo P f.type).map fun s => (f.offset, s)) = some pl →
    (l.mapM (fun f => do pure (f.offset, ← sizeOf f.type) : Go.Field → Sem (Nat × Nat))).run P w = .ok pl w := by
  intro l
  induction l with
  | nil => intro pl h; simp at h; subst h; simp
  | cons f l ih =>
    intro pl h
    rw [List.mapM_cons] at h
    simp only [bind, Option.bind_eq_some_iff, pure, Option.some.injEq, Option.map_eq_some_iff] at h
    obtain ⟨q, ⟨s, hs, rfl⟩, pl', h2, rfl⟩ := h
    obtain ⟨i, hi, rfl⟩ := szInfo_some hs
    have hso : (sizeOf f.type).run P w = .ok i.size w := by simp [sizeOf, typeInfo, hi]
    rw [List.mapM_cons]
    simp only [Sem.run_bind, hso, Result.andThen_ok, ih pl' h2, Sem.run_pure]
theorem bInfo_struct {t : TypeId} {pl : List (Nat × Nat)} {z : List AV} (h : bInfo P t = .struct pl z) : ∃ fs, P.underlying t = some (.struct fs) ∧ zeroInfo P t = some z ∧ fs.toList.mapM (fun f => (szInfo P f.type).map fun s => (f.offset, s)) = some pl := by
  unfold bInfo at h
  split at h
  · rename_i z' fs hz hu
    split at h
    · rename_i pl' hp
      cases h
      unfold places at hp
      rw [hu] at hp
      exact ⟨fs, hu, hz, hp⟩
    · cases h
  · split at h <;> cases h
  · cases h
theorem bInfo_arr {t : TypeId} {s : Nat} {z : List AV} (h : bInfo P t = .arr s z) : ∃ n e inf, P.underlying t = some (.array n e) ∧ zeroInfo P t = some z ∧ P.info? e = some inf ∧ inf.size = s := by
  unfold bInfo at h
  split at h
  · split at h <;> cases h
  · rename_i z' n e hz hu
    split at h
    · rename_i s' hs
      cases h
      obtain ⟨inf, h1, h2⟩ := szInfo_some hs
      exact ⟨n, e, inf, hu, hz, h1, h2⟩
    · cases h
  · cases h
theorem good_build (t : TypeId) (parts : Array (Nat × Operand)) : Good1 P G ⟨dst, .build t parts, ty, pos, af, gd⟩ := by
  intro σ nt f a h h' w v ctx he hop hf hg
  have hop' := operands_build hop
  have he' : oBuild t parts ty P ctx f h = .ok v h' := he
  unfold oBuild at he'
  have hparts : (parts.map fun p => (p.1, a.eval p.2)).toList = parts.toList.map fun p => (p.1, a.eval p.2) := by simp
  split at he'
  · rename_i pl z hb
    obtain ⟨cs, hc, rfl, rfl⟩ := resAgg_ok he'
    obtain ⟨fs, hu, hz, hpl⟩ := bInfo_struct hb
    obtain ⟨i, zz, hi, hzz, hr⟩ := zeroInfo_rel σ hz
    obtain ⟨r', h1, h2⟩ := fill_rel hf hg (place := fun i => pl[i]?) (place' := fun i => pl.toArray[i]?) (fun i q hq => by simpa using hq) parts.toList z cs zz.cells hop' hc hr
    refine ⟨.agg r', w, .inl ?_, .quiet _ _ (.agg _ _ h2.1 h2.2)⟩
    have hm := mapM_places P w fs.toList pl hpl
    have hm' : (fs.mapM (fun f => do pure (f.offset, ← sizeOf f.type) : Go.Field → Sem (Nat × Nat))).run P w = .ok pl.toArray w := by
      rw [Array.mapM_eq_mapM_toList]
      simp only [Sem.run_map, hm, Result.andThen_ok]
    simp only [execOp, Instr.build, zeroValue, typeInfo, Sem.run_bind, run_program, Result.andThen_ok, hi, Sem.run_pure, hzz, run_underlying hu, hm', hparts, h1]
  · rename_i s z hb
    obtain ⟨cs, hc, rfl, rfl⟩ := resAgg_ok he'
    obtain ⟨n, e, inf, hu, hz, hie, hs⟩ := bInfo_arr hb
    obtain ⟨i, zz, hi, hzz, hr⟩ := zeroInfo_rel σ hz
    obtain ⟨r', h1, h2⟩ := fill_rel hf hg (place := arrPlace s) (place' := fun i => some (i * s, s)) (fun i q hq => hq) parts.toList z cs zz.cells hop' hc hr
    refine ⟨.agg r', w, .inl ?_, .quiet _ _ (.agg _ _ h2.1 h2.2)⟩
    simp only [execOp, Instr.build, zeroValue, typeInfo, sizeOf, Sem.run_bind, run_program, Result.andThen_ok, hi, Sem.run_pure, hzz, run_underlying hu, hie, hs, hparts, h1]
  · cases he'

theorem slInfo_some {t : TypeId} {i : SI} (h : slInfo P t = some i) : ∃ inf z zz, P.underlying t = some (.slice i.e) ∧ P.info? i.e = some inf ∧ inf.size = i.s ∧ inf.bytes = i.bytes ∧
    zeroInfo P i.e = some z ∧ inf.zero = some zz ∧ z.length = i.s ∧ zz.cells.size = i.s ∧ ∀ σ, LRel σ z zz.cells.toList := by
  unfold slInfo at h
  split at h
  · rename_i e hu
    split at h
    · rename_i inf z hi hz
      cases hq : Nat.beq (llen z) inf.size with
      | false => rw [hq] at h; cases h
      | true =>
        rw [hq] at h
        cases h
        have e1 := beq_eqN hq
        rw [llen_eq] at e1
        obtain ⟨inf', zz, h1, h2, _⟩ := zeroInfo_rel (P := P) (fun _ => none) hz
        rw [hi] at h1
        cases h1
        have hrel : ∀ σ, LRel σ z zz.cells.toList := by
          intro σ
          obtain ⟨inf', zz', g1, g2, g3⟩ := zeroInfo_rel (P := P) σ hz
          rw [hi] at g1
          cases g1
          rw [h2] at g2
          cases g2
          exact g3
        refine ⟨inf, z, zz, hu, hi, rfl, rfl, hz, h2, e1, ?_, hrel⟩
        have h9 := (hrel (fun _ => none)).1
        have h10 : zz.cells.toList.length = zz.cells.size := by simp
        show zz.cells.size = inf.size
        omega
    · cases h
  · cases h
theorem repl_get (z : List AV) : ∀ (n j : Nat), j < n * z.length → (repl z n)[j]? = z[j % z.length]? := by
  intro n
  induction n with
  | zero => intro j hj; simp at hj
  | succ n ih =>
    intro j hj
    simp only [repl, lapp_eq]
    by_cases h1 : j < z.length
    · rw [List.getElem?_append_left h1, Nat.mod_eq_of_lt h1]
    · rw [List.getElem?_append_right (by omega)]
      have h2 : j - z.length < n * z.length := by rw [Nat.add_mul] at hj; omega
      rw [ih _ h2]
      congr 1
      rw [← Nat.mod_eq_sub_mod (by omega)]
theorem repl_len (z : List AV) : ∀ n, (repl z n).length = n * z.length := by
  intro n
  induction n with
  | zero => simp [repl]
  | succ n ih => simp only [repl, lapp_eq, List.length_append, ih, Nat.add_mul]; omega
theorem repl_rel {z : List AV} {zz : Array Value} (hr : LRel σ z zz.toList) (n : Nat) : LRel σ (repl z n) ((Array.range (n * z.length)).map (fun i => zz[i % zz.size]!)).toList := by
  have hl : z.length = zz.size := by rw [hr.1]; simp
  refine ⟨by rw [repl_len]; simp, fun i x y hx hy => ?_⟩
  have hi : i < n * z.length := by
    have := (List.getElem?_eq_some_iff.1 hx).1
    rw [repl_len] at this
    exact this
  rw [repl_get z n i hi] at hx
  have hpos : 0 < z.length := by
    rcases Nat.eq_zero_or_pos z.length with h0 | h0
    · rw [h0] at hi; omega
    · exact h0
  have hlt : i % zz.size < zz.size := Nat.mod_lt _ (by omega)
  have hy' : y = zz[i % zz.size]! := by
    simp [hi] at hy
    exact hy.symm
  rw [hl] at hx
  refine hr.2 _ x y hx ?_
  rw [hy']
  simp [hlt]
theorem good_buildSlice (t : TypeId) (n : Nat) (parts : Array (Nat × Operand)) : Good1 P G ⟨dst, .buildSlice t n parts, ty, pos, af, gd⟩ := by
  intro σ nt f a h h' w v ctx he hop hf hg
  have hop' := operands_buildSlice hop
  have he' : oBuildSlice t n parts ty P ctx f h = .ok v h' := he
  unfold oBuildSlice at he'
  have hparts : (parts.map fun p => (p.1, a.eval p.2)).toList = parts.toList.map fun p => (p.1, a.eval p.2) := by simp
  split at he'
  · rename_i i hs
    obtain ⟨inf, z, zz, hu, hi, hsz, hby, hz, hzz, hlz, hlzz, hrel⟩ := slInfo_some hs
    rw [hz] at he'
    dsimp only at he'
    split at he'
    · rename_i cs hc
      rcases ite_ok he' with ⟨hsm, he2⟩ | ⟨_, he2⟩
      · obtain ⟨rfl, rfl⟩ := ok_inj he2
        have hlt := blt_lt hsm
        obtain ⟨r', h1, h2⟩ := fill_rel hf hg (place := arrPlace i.s) (place' := fun j => some (j * i.s, i.s)) (fun j q hq => hq) parts.toList (repl z n) cs _ hop' hc (repl_rel (hrel σ) n)
        refine ⟨_, _, .inl ?_, .sl cs r' i.e n n i.s (Nat.le_refl _) h2⟩
        have hn : ¬ (n * i.s > 2 ^ 24) := by omega
        rw [hlz] at h1
        by_cases h0 : n * i.s = 0
        · have e0 : ∀ g : Nat → Value, (Array.range (n * i.s)).map g = #[] := fun g => by rw [h0]; apply Array.ext'; simp
          rw [e0] at h1
          simp only [execOp, Instr.buildSlice, typeInfo, sizeOf, Sem.run_bind, run_program, Result.andThen_ok, Sem.run_pure, run_underlying hu, hi, hsz, if_neg hn, hparts, e0, newRow, wpush]
          simp [h0, h1]
        · simp only [execOp, Instr.buildSlice, zeroValue, typeInfo, sizeOf, Sem.run_bind, run_program, Result.andThen_ok, Sem.run_pure, run_underlying hu, hi, hsz, hzz, if_neg hn, hparts, h0, if_false, newRow, run_newObj, wpush, h1]
      · cases he2
    · cases he'
  · cases he'

theorem lkInfo_says (P : Program) (t : TypeId) : match lkInfo P t with
    | .bad => True
    | .str => P.underlying t = some .string
    | .sl => ∃ e, P.underlying t = some (.slice e)
    | .map => ∃ k e, P.underlying t = some (.map k e) := by
  unfold lkInfo
  cases hu : P.underlying t with
  | none => trivial
  | some d => cases d <;> first | trivial | exact ⟨_, rfl⟩ | exact ⟨_, _, rfl⟩
/-- the length of a string or a slice -/
theorem len_quiet {t : TypeId} {x : AV} {y : Value} (hx : VRel σ x y) (hm : ∀ r, x ≠ .map r) (he : lnK (lkInfo P t) x h = .ok v h') (w : World) (ts : Array TypeId) (ht : ts[0]? = some t) :
    ∃ v', (Builtin.len_ ts ty #[y]).run P w = .ok v' w ∧ VRel σ v v' ∧ h' = h := by
  have hs := lkInfo_says P t
  cases hk : lkInfo P t with
  | bad => rw [hk] at he; cases he
  | str =>
    rw [hk] at he hs
    have he' : lnS x h = .ok v h' := he
    cases hx <;> first | (cases he'; done) | skip
    rename_i s
    cases he'
    refine ⟨.int .i64 s.size, ?_, ?_, rfl⟩
    · simp [Builtin.len_, ht, run_underlying hs, goInt]
    · rw [slen_eq, bytesOf_len]; exact .int _ _
  | sl =>
    rw [hk] at he hs
    obtain ⟨e, hs⟩ := hs
    have he' : lnL x h = .ok v h' := he
    cases hx <;> first | (cases he'; done) | skip
    · cases he'
      exact ⟨.int .i64 0, by simp [Builtin.len_, ht, run_underlying hs, goInt], .int _ _, rfl⟩
    · rename_i b off len cap sz ex e1 cc _ _ _ _ _
      cases he'
      exact ⟨.int .i64 len, by simp [Builtin.len_, ht, run_underlying hs, goInt], .int _ _, rfl⟩
  | map =>
    rw [hk] at he hs
    obtain ⟨k, e, hs⟩ := hs
    have he' : lnM x h = .ok v h' := he
    unfold lnM entries at he'
    cases hx <;> first | (cases he'; done) | skip
    · cases he'
      exact ⟨.int .i64 0, by simp [Builtin.len_, ht, run_underlying hs, goInt], .int _ _, rfl⟩
    · exact absurd rfl (hm _)
end ops
end Go.Ev
