/- Operations that read or write memory. -/
import Derived.Test.YtnefaadihgbobaaGreatDoorEvGrow
set_option linter.unusedSimpArgs false
set_option linter.unusedVariables false
namespace Go.Ev
variable {P : Program} {G : Nat} {σ : Sig} {h h' : H} {w w' : World} {v : AV} {nt : Nat} {f : L2} {a : Act} {ctx : CallT}

/-- the state in which an operation begins -/
structure St (G : Nat) (σ : Sig) (nt : Nat) (f : L2) (a : Act) (h : H) (w : World) : Prop where
  fr : FRel σ nt f a
  gl : GOk G σ
  ai : AInv h
  so : SOk σ w
  ma : MAll G σ h.m.get w
def Free (σ : Sig) (h h' : H) : Prop := ∀ b, h.nx ≤ b → b < h'.nx → σ b = none
def Good3 (P : Program) (G : Nat) (o : Oper) : Prop := ∀ (σ : Sig) (nt : Nat) (f : L2) (a : Act) (h h' : H) (w : World) (v : AV) (ctx : CallT),
  opD o.op o.type P ctx f h = .ok v h' → o.op.operands.toList.all (opdOk G) = true → St G σ nt f a h w → h'.nx ≤ lim → Free σ h h' →
  ∃ σ' v' w', Ran P (execOp a.eval o) w v' w' ∧ VRel σ' v v' ∧ Out G σ h w σ' h' w'
theorem Eff1.out {v' : Value} (he : Eff1 σ h w v v' h' w') (hs : St G σ nt f a h w) (hl : h'.nx ≤ lim) (hf : Free σ h h') : ∃ σ', VRel σ' v v' ∧ Out G σ h w σ' h' w' := by
  cases he with
  | quiet v v' hv => exact ⟨σ, hv, Out.refl hs.ai hs.so hs.ma⟩
  | ptr cs cs' t hc =>
    have hlt : h.nx < lim := hl
    refine ⟨_, ?_, new_cells_step hs.ai hs.so hs.ma hlt (hf h.nx (Nat.le_refl _) (Nat.lt_succ_self _)) hc⟩
    exact .ptr h.nx 0 ⟨w.heap.size, cs.length, none⟩ (by simp [upd])
  | sl cs cs' t len cap sz hle hc =>
    have hlt : h.nx < lim := hl
    refine ⟨_, ?_, new_cells_step hs.ai hs.so hs.ma hlt (hf h.nx (Nat.le_refl _) (Nat.lt_succ_self _)) hc⟩
    exact .sl h.nx 0 len cap sz true ⟨w.heap.size, cs.length, none⟩ cap (by simp [upd]) hle (Nat.le_refl _) (fun _ => rfl) (fun hh => by cases hh)
theorem Good1.to3 {o : Oper} (hg : Good1 P G o) : Good3 P G o := by
  intro σ nt f a h h' w v ctx he hop hs hl hf
  obtain ⟨v', w', h1, h2⟩ := hg σ nt f a h h' w v ctx he hop hs.fr hs.gl
  obtain ⟨σ', h3, h4⟩ := h2.out hs hl hf
  exact ⟨σ', v', w', h1, h3, h4⟩
section ops
variable {dst : Option Tmp} {ty : TypeId} {pos : String} {af : Array Edge} {gd : Option (Nat × Bool)}
theorem good3_load (t : TypeId) (x : Operand) : Good3 P G ⟨dst, .load t x, ty, pos, af, gd⟩ := by
  intro σ nt f a h h' w v ctx he hop hs hl hf
  obtain ⟨v', h1, h2, rfl⟩ := good_load (P := P) (dst := dst) (pos := pos) (af := af) (gd := gd) t x he (by simpa [Op.operands] using hop) hs.fr hs.gl (fun b off e _ hb => hs.ma b e hb)
  exact ⟨σ, v', w, h1, h2, Out.refl hs.ai hs.so hs.ma⟩
theorem allOne_rel {cs : List AV} {l : List Value} (hc : LRel σ cs l) (ho : lallOne cs = true) : ∀ u ∈ l, u.oneCell' = true := by
  intro u hu
  obtain ⟨i, hi, rfl⟩ := List.getElem_of_mem hu
  have hlt : i < cs.length := by have := hc.1; omega
  exact oneB_rel ((lallOne_spec cs).1 ho cs[i] (List.getElem_mem hlt)) (hc.2 i cs[i] l[i] (List.getElem?_eq_getElem hlt) (List.getElem?_eq_getElem hi))
theorem undef_rel (σ : Sig) : VRel σ (.tup []) undef := .tup [] #[] rfl (fun i x y hx _ => by simp at hx)
theorem resH_ok {r : RH} (he : resH r = .ok v h') : r = .ok h' ∧ v = .tup [] := by
  cases r <;> cases he; exact ⟨rfl, rfl⟩
theorem good3_store (t : TypeId) (x y : Operand) : Good3 P G ⟨dst, .store t x y, ty, pos, af, gd⟩ := by
  intro σ nt f a h h' w v ctx he hop hs hl hf
  simp [Op.operands] at hop
  have hx := ev_rel hs.fr hs.gl x hop.1
  have hy := ev_rel hs.fr hs.gl y hop.2
  have he' : stV (ev x f) (cellsOf (ev y f)) (szInfo P t) h = .ok v h' := he
  generalize ev x f = u at *
  generalize hxx : a.eval x = xx at *
  cases hx <;> first | (cases he'; done) | skip
  rename_i b off e hb
  have he2 : stC (cellsOf (ev y f)) (szInfo P t) b off h = .ok v h' := he'
  unfold stC at he2
  split at he2
  · rename_i cs n hc hn
    rcases ite_ok he2 with ⟨h1, he2⟩ | ⟨_, he2⟩
    · rcases ite_ok he2 with ⟨h2, he2⟩ | ⟨_, he2⟩
      · obtain ⟨hw, rfl⟩ := resH_ok he2
        have hrel := cellsOf_rel hc hy
        obtain ⟨inf, k1, k2⟩ := szInfo_some hn
        have hlen := beq_eqN h1
        rw [llen_eq] at hlen
        obtain ⟨w', hr, hout⟩ := wr_step (P := P) hw hs.ai hs.so hs.ma hb hrel (allOne_rel hrel h2)
        have hsz : (a.eval y).cells.size = inf.size := by have := hrel.1; simp at this; omega
        refine ⟨σ, undef, w', .inr ⟨?_, rfl⟩, undef_rel σ, hout⟩
        simp [execOp, hxx, Instr.storeAt, Instr.sureAddr, storeVar, sizeOf, typeInfo, k1, hsz, hr]
      · cases he2
    · cases he2
  · cases he2
theorem mk_ok {o : AO} {u : AV} (he : mk h o u = .ok v h') : v = u ∧ h' = h.new o := by cases he; exact ⟨rfl, rfl⟩
theorem good3_makeMap (t : TypeId) (r : Option Operand) : Good3 P G ⟨dst, .makeMap t r, ty, pos, af, gd⟩ := by
  intro σ nt f a h h' w v ctx he hop hs hl hf
  have he' : oMakeMap t r ty P ctx f h = .ok v h' := he
  cases r with
  | some r => cases he'
  | none =>
    obtain ⟨rfl, rfl⟩ := mk_ok (show mk h (.map []) (.map h.nx) = .ok v h' from he')
    have hlt : h.nx < lim := hl
    have hfr := hf h.nx (Nat.le_refl _) (Nat.lt_succ_self _)
    refine ⟨upd σ h.nx ⟨w.heap.size, 0, none⟩, .map (some w.heap.size), wpush w (.map #[] 0), .inl ?_, ?_, ?_⟩
    · simp only [execOp, Instr.makeMap, Option.map_none, Sem.run_bind, Sem.run_pure]
      rfl
    · exact .map h.nx ⟨w.heap.size, 0, none⟩ (by simp [upd])
    · exact new_step hs.ai hs.so hs.ma hlt hfr rfl rfl ⟨rfl, #[], 0, heap_push_at w _, rfl, fun i x y hx _ => by simp at hx⟩
theorem wrap_small (m : Nat) (hm : m < 1000000) : IntKind.i64.wrap (m : Int) = m := by
  apply wrap_in
  have h1 : IntKind.i64.min = -9223372036854775808 := by decide
  have h2 : IntKind.i64.max = 9223372036854775807 := by decide
  omega
theorem natV_some {x : AV} {n : Nat} (hh : natV x = some n) : x = .int .i64 (.ofNat n) := by
  unfold natV at hh
  split at hh
  · rename_i m hv; cases hh; exact vI_yes hv
  · cases hh
theorem good3_makeSlice (t : TypeId) (x y : Operand) : Good3 P G ⟨dst, .makeSlice t x y, ty, pos, af, gd⟩ := by
  refine Good1.to3 ?_
  intro σ nt f a h h' w v ctx he hop hf hg
  simp [Op.operands] at hop
  have hx := ev_rel hf hg x hop.1
  have hy := ev_rel hf hg y hop.2
  have he' : oMakeSlice t x y ty P ctx f h = .ok v h' := he
  unfold oMakeSlice at he'
  split at he'
  · rename_i i n m hs hn hm
    obtain ⟨inf, z, zz, hu, hi, hsz, hby, hz, hzz, hlz, hlzz, hrel⟩ := slInfo_some hs
    rw [hz] at he'
    dsimp only at he'
    rw [natV_some hn] at hx
    rw [natV_some hm] at hy
    generalize hxx : a.eval x = xx at *
    generalize hyy : a.eval y = yy at *
    cases hx; cases hy
    rcases ite_ok he' with ⟨h1, he'⟩ | ⟨_, he'⟩
    · rcases ite_ok he' with ⟨h2, he'⟩ | ⟨_, he'⟩
      · obtain ⟨rfl, rfl⟩ := mk_ok he'
        have hle := ble_le h1
        have hlt := blt_lt h2
        have g1 : m ≤ m * (i.bytes + i.s + 1) := Nat.le_mul_of_pos_right m (by omega)
        have g2 : m * i.bytes ≤ m * (i.bytes + i.s + 1) := Nat.mul_le_mul_left m (by omega)
        have wm := wrap_small m (by omega)
        have wn := wrap_small n (by omega)
        have q1 : ¬ ((m : Int) < 0) := by omega
        have q2 : ¬ ((i.bytes : Int) * (m : Int) > 2 ^ 48) := by
          have : ((m * i.bytes : Nat) : Int) < 1000000 := by omega
          rw [Int.mul_comm]
          have e : ((m * i.bytes : Nat) : Int) = (m : Int) * (i.bytes : Int) := by simp
          omega
        have q3 : ¬ ((n : Int) < 0) := by omega
        have q4 : ¬ ((n : Int) > (m : Int)) := by omega
        have hrr := repl_rel (hrel σ) m
        rw [hlz] at hrr
        refine ⟨.slice (some ⟨w.heap.size, 0, none⟩) n m, wpush w (.cells ((Array.range (m * i.s)).map (fun j => zz.cells[j % zz.cells.size]!)) i.e), .inl ?_, ?_⟩
        · have hcond : ((((m : Int) < 0 || (i.bytes : Int) * (m : Int) > 2 ^ 48) || (n : Int) < 0 || (n : Int) > (m : Int)) : Bool) = false := by rw [decide_eq_false q1, decide_eq_false q2, decide_eq_false q3, decide_eq_false q4]; rfl
          by_cases h0 : m * i.s = 0
          · have e0 : ∀ g : Nat → Value, (Array.range (m * i.s)).map g = #[] := fun g => by rw [h0]; apply Array.ext'; simp
            simp only [execOp, hxx, hyy, Instr.makeSlice, asInt, asIntOf, typeInfo, sizeOf, Sem.run_bind, run_program, Result.andThen_ok, Sem.run_pure, run_underlying hu, hi, hsz, hby, Int.ofNat_eq_natCast, wm, wn, run_askRoom, newRow, e0, Int.toNat_natCast]
            simp only [Int.ofNat_eq_natCast, hcond, Bool.false_eq_true, if_false]
            have er : Array.range 0 = (#[] : Array Nat) := by apply Array.ext'; simp
            simp [h0, e0, wpush, hi, hsz, er]
          · simp only [execOp, hxx, hyy, Instr.makeSlice, asInt, asIntOf, typeInfo, sizeOf, zeroValue, Sem.run_bind, run_program, Result.andThen_ok, Sem.run_pure, run_underlying hu, hi, hsz, hby, hzz, Int.ofNat_eq_natCast, wm, wn, run_askRoom, newRow, Int.toNat_natCast]
            simp only [hcond, Bool.false_eq_true, if_false]
            simp [h0, wpush, hi, hsz, hzz, typeInfo]
        · exact .sl (repl z m) _ i.e n m i.s hle hrr
      · cases he'
    · cases he'
  · cases he'
end ops
end Go.Ev
