/- Literals of structs, arrays and slices; lengths. -/
import Derived.Test.YtnefaadihgbobaaGreatDoorEvOp3
set_option linter.unusedSimpArgs false
set_option linter.unusedVariables false
namespace Go.Ev
variable {P : Program} {G : Nat} {σ : Sig} {h h' : H} {w : World} {v : AV} {nt : Nat} {f : L2} {a : Act}
section ops
variable {dst : Option Tmp} {ty : TypeId} {pos : String} {af : Array Edge} {gd : Option (Nat × Bool)}

theorem fold_size (vs : List (Value × Nat)) (off : Nat) (cells : Array Value) : (vs.foldl (fun cs (p : Value × Nat) => cs.setIfInBounds (off + p.2) p.1) cells).size = cells.size := by
  induction vs generalizing cells with
  | nil => rfl
  | cons p vs ih => simp only [List.foldl_cons]; rw [ih]; simp
theorem fold_get (vs : List Value) (off : Nat) : ∀ (k : Nat) (cells : Array Value) (i : Nat), off + k + vs.length ≤ cells.size →
    ((vs.zipIdx k).foldl (fun cs (p : Value × Nat) => cs.setIfInBounds (off + p.2) p.1) cells)[i]? = if off + k ≤ i ∧ i < off + k + vs.length then vs[i - (off + k)]? else cells[i]? := by
  induction vs with
  | nil => intro k cells i _; simp; intro h1 h2; omega
  | cons v vs ih =>
    intro k cells i hle
    simp only [List.length_cons] at hle
    simp only [List.zipIdx_cons, List.foldl_cons]
    rw [ih (k + 1) _ i (by simp; omega)]
    by_cases h1 : off + (k + 1) ≤ i ∧ i < off + (k + 1) + vs.length
    · rw [if_pos h1, if_pos (by simp; omega)]
      have : i - (off + k) = (i - (off + (k + 1))) + 1 := by omega
      rw [this, List.getElem?_cons_succ]
    · rw [if_neg h1]
      by_cases h2 : i = off + k
      · subst h2
        rw [if_pos (by simp)]
        have hlt : off + k < cells.size := by omega
        simp [hlt]
      · rw [if_neg (by simp; omega), Array.getElem?_setIfInBounds_ne (by omega)]
theorem fill_rel (hf : FRel σ nt f a) (hg : GOk G σ) {place place' : Nat → Option (Nat × Nat)} (hp : ∀ i q, place i = some q → place' i = some q) :
    ∀ (parts : List (Nat × Operand)) (cs r : List AV) (cs' : Array Value), parts.all (fun p => opdOk G p.2) = true → fillA place f parts cs = some r → LRel σ cs cs'.toList →
      ∃ r' : Array Value, Instr.fill place' cs' (parts.map fun p => (p.1, a.eval p.2)) = some r' ∧ LRel σ r r'.toList := by
  intro parts
  induction parts with
  | nil => intro cs r cs' _ he hc; cases he; exact ⟨cs', rfl, hc⟩
  | cons p parts ih =>
    obtain ⟨i, x⟩ := p
    intro cs r cs' hop he hc
    simp only [List.all_cons, Bool.and_eq_true] at hop
    simp only [fillA] at he
    split at he
    · rename_i off size u hpl hcl
      split at he
      · rename_i cs2 hput
        cases hq : Nat.beq (llen u) size with
        | false => rw [hq] at he; cases he
        | true =>
          rw [hq] at he
          have hsz := beq_eqN hq
          rw [llen_eq] at hsz
          have hv := cellsOf_rel hcl (ev_rel hf hg x hop.1)
          obtain ⟨hle, _⟩ := lput_some hput
          have hlen : u.length = (a.eval x).cells.size := by rw [hv.1]; simp
          have hlc : cs.length = cs'.size := by rw [hc.1]; simp
          simp only [List.map_cons, Instr.fill, hp i _ hpl]
          rw [if_neg (by simp; omega)]
          refine ih cs2 r _ hop.2 he ?_
          have key := fun i => fold_get (a.eval x).cells.toList off 0 cs' i (by simp; omega)
          rw [← Array.foldl_toList]
          rw [Array.toList_zipIdx]
          generalize hF : ((a.eval x).cells.toList.zipIdx 0).foldl (fun cs (p : Value × Nat) => cs.setIfInBounds (off + p.2) p.1) cs' = F at key
          have hF' : List.foldl (fun cs x => cs.setIfInBounds (off + x.2) x.1) cs' (a.eval x).cells.toList.zipIdx = F := hF
          have hsz2 : F.size = cs'.size := by rw [← hF]; exact fold_size _ _ _
          have goal : LRel σ cs2 F.toList := by
            refine ⟨?_, fun j y z hy hz => ?_⟩
            · rw [lput_length hput]; simp; omega
            · rw [lput_get hput] at hy
              have hz' : F[j]? = some z := by simpa using hz
              rw [key j] at hz'
              simp only [Nat.add_zero, Array.length_toList] at hz'
              by_cases hj : off ≤ j ∧ j < off + u.length
              · rw [if_pos hj] at hy
                rw [if_pos (by omega)] at hz'
                exact hv.2 (j - off) y z hy hz'
              · rw [if_neg hj] at hy
                rw [if_neg (by omega)] at hz'
                exact hc.2 j y z hy (by simpa using hz')
          exact goal
      · cases he
    · cases he
theorem operands_build {t : TypeId} {parts : Array (Nat × Operand)} (h : (Op.build t parts).operands.toList.all (opdOk G) = true) : parts.toList.all (fun p => opdOk G p.2) = true := by
  simpa [Op.operands, List.all_map] using h
theorem operands_buildSlice {t : TypeId} {n : Nat} {parts : Array (Nat × Operand)} (h : (Op.buildSlice t n parts).operands.toList.all (opdOk G) = true) : parts.toList.all (fun p => opdOk G p.2) = true := by
  simpa [Op.operands, List.all_map] using h
theorem mapM_places (P : Program) (w : World) : ∀ (l : List Go.Field) (pl : List (Nat × Nat)), l.mapM (fun f => (szInfo P f.type).map fun s => (f.offset, s)) = some pl →
    (l.mapM (fun f => do pure (f.offset, ← sizeOf f.type) : Go.Field → Sem (Nat × Nat))).run P w = .ok pl w := by
  intro l
  induction l with
  | nil => intro pl h; simp at h; subst h; simp
  | cons f l ih =>
    intro pl h
    rw [List.mapM_cons] at h
    simp only [bind, Option.bind_eq_some_iff, pure, Option.some.injEq, Option.map_eq_some_iff] at h
    obtain ⟨q, ⟨s, hs, rfl⟩, pl', h2, rfl⟩ := h
    obtain ⟨i, hi, rfl⟩ := szInfo_some hs
    have hso : (sizeOf f.type).run P w = .ok i.size w := by simp [sizeOf, typeInfo, hi]
    rw [List.mapM_cons]
    simp only [Sem.run_bind, hso, Result.andThen_ok, ih pl' h2, Sem.run_pure]
theorem bInfo_struct {t : TypeId} {pl : List (Nat × Nat)} {z : List AV} (h : bInfo P t = .struct pl z) : ∃ fs, P.underlying t = some (.struct fs) ∧ zeroInfo P t = some z ∧ fs.toList.mapM (fun f => (szInfo P f.type).map fun s => (f.offset, s)) = some pl := by
  unfold bInfo at h
  split at h
  · rename_i z' fs hz hu
    split at h
    · rename_i pl' hp
      cases h
      unfold places at hp
      rw [hu] at hp
      exact ⟨fs, hu, hz, hp⟩
    · cases h
  · split at h <;> cases h
  · cases h
theorem bInfo_arr {t : TypeId} {s : Nat} {z : List AV} (h : bInfo P t = .arr s z) : ∃ n e inf, P.underlying t = some (.array n e) ∧ zeroInfo P t = some z ∧ P.info? e = some inf ∧ inf.size = s := by
  unfold bInfo at h
  split at h
  · split at h <;> cases h
  · rename_i z' n e hz hu
    split at h
    · rename_i s' hs
      cases h
      obtain ⟨inf, h1, h2⟩ := szInfo_some hs
      exact ⟨n, e, inf, hu, hz, h1, h2⟩
    · cases h
  · cases h
theorem good_build (t : TypeId) (parts : Array (Nat × Operand)) : Good1 P G ⟨dst, .build t parts, ty, pos, af, gd⟩ := by
  intro σ nt f a h h' w v ctx he hop hf hg
  have hop' := operands_build hop
  have he' : oBuild t parts ty P ctx f h = .ok v h' := he
  unfold oBuild at he'
  have hparts : (parts.map fun p => (p.1, a.eval p.2)).toList = parts.toList.map fun p => (p.1, a.eval p.2) := by simp
  split at he'
  · rename_i pl z hb
    obtain ⟨cs, hc, rfl, rfl⟩ := resAgg_ok he'
    obtain ⟨fs, hu, hz, hpl⟩ := bInfo_struct hb
    obtain ⟨i, zz, hi, hzz, hr⟩ := zeroInfo_rel σ hz
    obtain ⟨r', h1, h2⟩ := fill_rel hf hg (place := fun i => pl[i]?) (place' := fun i => pl.toArray[i]?) (fun i q hq => by simpa using hq) parts.toList z cs zz.cells hop' hc hr
    refine ⟨.agg r', w, .inl ?_, .quiet _ _ (.agg _ _ h2.1 h2.2)⟩
    have hm := mapM_places P w fs.toList pl hpl
    have hm' : (fs.mapM (fun f => do pure (f.offset, ← sizeOf f.type) : Go.Field → Sem (Nat × Nat))).run P w = .ok pl.toArray w := by
      rw [Array.mapM_eq_mapM_toList]
      simp only [Sem.run_map, hm, Result.andThen_ok]
    simp only [execOp, Instr.build, zeroValue, typeInfo, Sem.run_bind, run_program, Result.andThen_ok, hi, Sem.run_pure, hzz, run_underlying hu, hm', hparts, h1]
  · rename_i s z hb
    obtain ⟨cs, hc, rfl, rfl⟩ := resAgg_ok he'
    obtain ⟨n, e, inf, hu, hz, hie, hs⟩ := bInfo_arr hb
    obtain ⟨i, zz, hi, hzz, hr⟩ := zeroInfo_rel σ hz
    obtain ⟨r', h1, h2⟩ := fill_rel hf hg (place := arrPlace s) (place' := fun i => some (i * s, s)) (fun i q hq => hq) parts.toList z cs zz.cells hop' hc hr
    refine ⟨.agg r', w, .inl ?_, .quiet _ _ (.agg _ _ h2.1 h2.2)⟩
    simp only [execOp, Instr.build, zeroValue, typeInfo, sizeOf, Sem.run_bind, run_program, Result.andThen_ok, hi, Sem.run_pure, hzz, run_underlying hu, hie, hs, hparts, h1]
  · cases he'

theorem slInfo_some {t : TypeId} {i : SI} (h : slInfo P t = some i) : ∃ inf z zz, P.underlying t = some (.slice i.e) ∧ P.info? i.e = some inf ∧ inf.size = i.s ∧ inf.bytes = i.bytes ∧
    zeroInfo P i.e = some z ∧ inf.zero = some zz ∧ z.length = i.s ∧ zz.cells.size = i.s ∧ ∀ σ, LRel σ z zz.cells.toList := by
  unfold slInfo at h
  split at h
  · rename_i e hu
    split at h
    · rename_i inf z hi hz
      cases hq : Nat.beq (llen z) inf.size with
      | false => rw [hq] at h; cases h
      | true =>
        rw [hq] at h
        cases h
        have e1 := beq_eqN hq
        rw [llen_eq] at e1
        obtain ⟨inf', zz, h1, h2, _⟩ := zeroInfo_rel (P := P) (fun _ => none) hz
        rw [hi] at h1
        cases h1
        have hrel : ∀ σ, LRel σ z zz.cells.toList := by
          intro σ
          obtain ⟨inf', zz', g1, g2, g3⟩ := zeroInfo_rel (P := P) σ hz
          rw [hi] at g1
          cases g1
          rw [h2] at g2
          cases g2
          exact g3
        refine ⟨inf, z, zz, hu, hi, rfl, rfl, hz, h2, e1, ?_, hrel⟩
        have h9 := (hrel (fun _ => none)).1
        have h10 : zz.cells.toList.length = zz.cells.size := by simp
        show zz.cells.size = inf.size
        omega
    · cases h
  · cases h
theorem repl_get (z : List AV) : ∀ (n j : Nat), j < n * z.length → (repl z n)[j]? = z[j % z.length]? := by
  intro n
  induction n with
  | zero => intro j hj; simp at hj
  | succ n ih =>
    intro j hj
    simp only [repl, lapp_eq]
    by_cases h1 : j < z.length
    · rw [List.getElem?_append_left h1, Nat.mod_eq_of_lt h1]
    · rw [List.getElem?_append_right (by omega)]
      have h2 : j - z.length < n * z.length := by rw [Nat.add_mul] at hj; omega
      rw [ih _ h2]
      congr 1
      rw [← Nat.mod_eq_sub_mod (by omega)]
theorem repl_len (z : List AV) : ∀ n, (repl z n).length = n * z.length := by
  intro n
  induction n with
  | zero => simp [repl]
  | succ n ih => simp only [repl, lapp_eq, List.length_append, ih, Nat.add_mul]; omega
theorem repl_rel {z : List AV} {zz : Array Value} (hr : LRel σ z zz.toList) (n : Nat) : LRel σ (repl z n) ((Array.range (n * z.length)).map (fun i => zz[i % zz.size]!)).toList := by
  have hl : z.length = zz.size := by rw [hr.1]; simp
  refine ⟨by rw [repl_len]; simp, fun i x y hx hy => ?_⟩
  have hi : i < n * z.length := by
    have := (List.getElem?_eq_some_iff.1 hx).1
    rw [repl_len] at this
    exact this
  rw [repl_get z n i hi] at hx
  have hpos : 0 < z.length := by
    rcases Nat.eq_zero_or_pos z.length with h0 | h0
    · rw [h0] at hi; omega
    · exact h0
  have hlt : i % zz.size < zz.size := Nat.mod_lt _ (by omega)
  have hy' : y = zz[i % zz.size]! := by
    simp [hi] at hy
    exact hy.symm
  rw [hl] at hx
  refine hr.2 _ x y hx ?_
  rw [hy']
  simp [hlt]
theorem good_buildSlice (t : TypeId) (n : Nat) (parts : Array (Nat × Operand)) : Good1 P G ⟨dst, .buildSlice t n parts, ty, pos, af, gd⟩ := by
  intro σ nt f a h h' w v ctx he hop hf hg
  have hop' := operands_buildSlice hop
  have he' : oBuildSlice t n parts ty P ctx f h = .ok v h' := he
  unfold oBuildSlice at he'
  have hparts : (parts.map fun p => (p.1, a.eval p.2)).toList = parts.toList.map fun p => (p.1, a.eval p.2) := by simp
  split at he'
  · rename_i i hs
    obtain ⟨inf, z, zz, hu, hi, hsz, hby, hz, hzz, hlz, hlzz, hrel⟩ := slInfo_some hs
    rw [hz] at he'
    dsimp only at he'
    split at he'
    · rename_i cs hc
      rcases ite_ok he' with ⟨hsm, he2⟩ | ⟨_, he2⟩
      · obtain ⟨rfl, rfl⟩ := ok_inj he2
        have hlt := blt_lt hsm
        obtain ⟨r', h1, h2⟩ := fill_rel hf hg (place := arrPlace i.s) (place' := fun j => some (j * i.s, i.s)) (fun j q hq => hq) parts.toList (repl z n) cs _ hop' hc (repl_rel (hrel σ) n)
        refine ⟨_, _, .inl ?_, .sl cs r' i.e n n i.s (Nat.le_refl _) h2⟩
        have hn : ¬ (n * i.s > 2 ^ 24) := by omega
        rw [hlz] at h1
        by_cases h0 : n * i.s = 0
        · have e0 : ∀ g : Nat → Value, (Array.range (n * i.s)).map g = #[] := fun g => by rw [h0]; apply Array.ext'; simp
          rw [e0] at h1
          simp only [execOp, Instr.buildSlice, typeInfo, sizeOf, Sem.run_bind, run_program, Result.andThen_ok, Sem.run_pure, run_underlying hu, hi, hsz, if_neg hn, hparts, e0, newRow, wpush]
          simp [h0, h1]
        · simp only [execOp, Instr.buildSlice, zeroValue, typeInfo, sizeOf, Sem.run_bind, run_program, Result.andThen_ok, Sem.run_pure, run_underlying hu, hi, hsz, hzz, if_neg hn, hparts, h0, if_false, newRow, run_newObj, wpush, h1]
      · cases he2
    · cases he'
  · cases he'

theorem lkInfo_says (P : Program) (t : TypeId) : match lkInfo P t with
    | .bad => True
    | .str => P.underlying t = some .string
    | .sl => ∃ e, P.underlying t = some (.slice e)
    | .map => ∃ k e, P.underlying t = some (.map k e) := by
  unfold lkInfo
  cases hu : P.underlying t with
  | none => trivial
  | some d => cases d <;> first | trivial | exact ⟨_, rfl⟩ | exact ⟨_, _, rfl⟩
/-- the length of a string or a slice -/
theorem len_quiet {t : TypeId} {x : AV} {y : Value} (hx : VRel σ x y) (hm : ∀ r, x ≠ .map r) (he : lnK (lkInfo P t) x h = .ok v h') (w : World) (ts : Array TypeId) (ht : ts[0]? = some t) :
    ∃ v', (Builtin.len_ ts ty #[y]).run P w = .ok v' w ∧ VRel σ v v' ∧ h' = h := by
  have hs := lkInfo_says P t
  cases hk : lkInfo P t with
  | bad => rw [hk] at he; cases he
  | str =>
    rw [hk] at he hs
    have he' : lnS x h = .ok v h' := he
    cases hx <;> first | (cases he'; done) | skip
    rename_i s
    cases he'
    refine ⟨.int .i64 s.size, ?_, ?_, rfl⟩
    · simp [Builtin.len_, ht, run_underlying hs, goInt]
    · rw [slen_eq, bytesOf_len]; exact .int _ _
  | sl =>
    rw [hk] at he hs
    obtain ⟨e, hs⟩ := hs
    have he' : lnL x h = .ok v h' := he
    cases hx <;> first | (cases he'; done) | skip
    · cases he'
      exact ⟨.int .i64 0, by simp [Builtin.len_, ht, run_underlying hs, goInt], .int _ _, rfl⟩
    · rename_i b off len cap sz ex e1 cc _ _ _ _ _
      cases he'
      exact ⟨.int .i64 len, by simp [Builtin.len_, ht, run_underlying hs, goInt], .int _ _, rfl⟩
  | map =>
    rw [hk] at he hs
    obtain ⟨k, e, hs⟩ := hs
    have he' : lnM x h = .ok v h' := he
    unfold lnM entries at he'
    cases hx <;> first | (cases he'; done) | skip
    · cases he'
      exact ⟨.int .i64 0, by simp [Builtin.len_, ht, run_underlying hs, goInt], .int _ _, rfl⟩
    · exact absurd rfl (hm _)
end ops
end Go.Ev
