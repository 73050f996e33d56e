/- append, copy and the other built-in functions. -/
import Derived.Test.YtnefaadihgbobaaGreatDoorEvOp7
set_option linter.unusedSimpArgs false
set_option linter.unusedVariables false
namespace Go.Ev
variable {P : Program} {G : Nat} {σ : Sig} {h h' : H} {w w' : World} {v : AV} {nt : Nat} {f : L2} {a : Act} {ctx : CallT}

/-- the state of memory alone -/
structure Ms (G : Nat) (σ : Sig) (h : H) (w : World) : Prop where
  ai : AInv h
  so : SOk σ w
  ma : MAll G σ h.m.get w
theorem Ms.draw (hs : Ms G σ h w) (n : Nat) : Ms G σ h { w with drawn := n } := ⟨hs.ai, ⟨hs.so.inj, hs.so.rng, hs.so.low⟩, fun b e hb => BRel.congr (Sle.refl σ) rfl (fun _ _ _ _ _ hh => hh) (hs.ma b e hb)⟩
/-- what is appended or copied, as the model reads it -/
theorem src_run {s n : Nat} {x : AV} {y : Value} {new : List AV} (hsrc : srcOf h s x = some (n, new)) (hx : VRel σ x y) (hs : Ms G σ h w) :
    (∀ w', (Builtin.lenOf y).run P w' = .ok n w') ∧ ∃ l : List Value, LRel σ new l ∧ l.length = n * s ∧ ∀ k, k ≤ n → ∀ w', w'.heap = w.heap → ∃ l', (Builtin.firstCells s k y).run P w' = .ok l' w' ∧ l'.toList = l.take (k * s) := by
  unfold srcOf at hsrc
  split at hsrc
  · rename_i hv
    rw [vL_nil hv] at hx
    cases hx; cases hsrc
    exact ⟨fun _ => rfl, [], LRel.nil σ, by simp, fun k hk w' _ => ⟨#[], rfl, by simp⟩⟩
  · rename_i b off len cap sz ex hv
    rw [vL_yes hv] at hx
    cases hx
    rename_i e cc hb g1 g2 g3 g4
    split at hsrc
    · rename_i c hrd
      cases hcut : lcut c off (len * s) with
      | none => simp [hcut] at hsrc
      | some r =>
        simp [hcut] at hsrc
        obtain ⟨rfl, rfl⟩ := hsrc
        obtain ⟨arr, tt, fz, q1, q2, q3, q4⟩ := blk_of_rd hrd (hs.ma b e hb)
        obtain ⟨r1, _, r3⟩ := lcut_some hcut
        have hrel := cut_rel hcut q4 (by omega)
        refine ⟨fun _ => rfl, _, hrel, by have := hrel.1; omega, fun k hk w' hw' => ?_⟩
        have hks : k * s ≤ len * s := Nat.mul_le_mul_right s hk
        refine ⟨((arr.toList.drop off).take (k * s)).toArray, ?_, ?_⟩
        · exact run_loadBlk (P := P) (by rw [hw']; exact q1) (by omega)
        · simp [List.take_take, Nat.min_eq_left hks]
    · cases hsrc
  · split at hsrc
    · rename_i s2 hv
      rw [vS_yes hv] at hx
      cases hx
      rename_i bs
      cases hq : Nat.beq s 1 with
      | false => rw [hq] at hsrc; cases hsrc
      | true =>
        rw [hq] at hsrc
        have e1 := beq_eqN hq
        subst e1
        cases hsrc
        have hlen : slen (bytesOf bs) = bs.size := by rw [slen_eq, bytesOf_len]
        rw [hlen]
        refine ⟨fun _ => rfl, _, toCells_rel σ bs, by rw [Array.length_toList, Array.size_map, Nat.mul_one]; rfl, fun k hk w' _ => ⟨_, rfl, ?_⟩⟩
        simp only [Array.toList_map, Nat.mul_one, List.map_take]
        rw [ByteArray.data_extract, Array.toList_extract]
        simp [List.map_take]
    · cases hsrc

theorem growBy_le (newLen : Nat) : ∀ (r c : Nat), c < newLen → Builtin.growBy newLen r c ≤ newLen + (newLen + 768) / 4 := by
  intro r
  induction r with
  | zero => intro c hc; simp [Builtin.growBy]; omega
  | succ r ih =>
    intro c hc
    simp only [Builtin.growBy]
    rw [if_neg (by omega)]
    by_cases h2 : c + (c + 768) / 4 < newLen
    · exact ih _ h2
    · cases r with
      | zero => simp [Builtin.growBy]; omega
      | succ r => simp only [Builtin.growBy]; rw [if_pos (by omega)]; omega
theorem nextcap_le (need old : Nat) (hlt : old < need) : Builtin.nextslicecap need old ≤ 2 * need + 200 := by
  unfold Builtin.nextslicecap
  split
  · omega
  · split
    · omega
    · have := growBy_le need 4 old hlt; omega
theorem zeroCells_size (z : Array Value) (n : Nat) : (Builtin.zeroCells z n).size = n * z.size := by simp [Builtin.zeroCells]
/-- the part of append that makes a new array -/
theorem append_grows {ts : Array TypeId} {ty st t2 : TypeId} {i : SI} {inf : TypeInfo} {zz : Value} {s' x' : Value} {base : Option Addr} {len cap n : Nat} {old new : Array Value}
    (ht : ts[0]? = some st) (ht2 : ts[1]? = some t2) (hni : notInt P t2 = true) (hu : P.underlying st = some (.slice i.e)) (hi : P.info? i.e = some inf) (hsz : inf.size = i.s) (hby : inf.bytes = i.bytes) (hzz : inf.zero = some zz)
    (hs : s' = .slice base len cap) (hlen : ∀ w', (Builtin.lenOf x').run P w' = .ok n w') (hlt : cap < len + n) (hsm : (len + n) * (i.bytes + 1) < 1000000)
    (hold : ∀ w', w'.heap = w.heap → (Builtin.firstCells i.s len s').run P w' = .ok old w') (hnew : ∀ w', w'.heap = w.heap → (Builtin.firstCells i.s n x').run P w' = .ok new w') :
    ∃ nc, len + n ≤ nc ∧ (Builtin.append_ ts ty #[s', x']).run P w = .ok (.slice (some ⟨w.heap.size, 0, none⟩) (len + n) nc) (wpush { w with drawn := w.drawn + 1 } (.cells (old ++ new ++ Builtin.zeroCells zz.cells (nc - (len + n))) i.e)) := by
  subst hs
  generalize hq : Question.cut (.appendCap (len + n) cap i.e) (w.tape w.drawn (.appendCap (len + n) cap i.e)) = nc
  have hcap : len + n ≤ nc := by rw [← hq]; simp [Question.cut]
  refine ⟨nc, hcap, ?_⟩
  have hzero : ∃ d, P.underlying t2 = some d ∧ ∀ k, d ≠ .int k := by
    unfold notInt at hni
    cases hd : P.underlying t2 with
    | none => rw [hd] at hni; cases hni
    | some d => exact ⟨_, rfl, fun k hk => by rw [hd, hk] at hni; cases hni⟩
  obtain ⟨d, hd, hdi⟩ := hzero
  have hneed : len + n ≤ (len + n) * (i.bytes + 1) := Nat.le_mul_of_pos_right _ (by omega)
  have hb : (len + n) * i.bytes ≤ (len + n) * (i.bytes + 1) := Nat.mul_le_mul_left _ (by omega)
  have hnc := nextcap_le (len + n) cap hlt
  have hbyt : i.bytes ≤ 1000000 := by
    rcases Nat.eq_zero_or_pos (len + n) with h0 | h0
    · omega
    · have : i.bytes + 1 ≤ (len + n) * (i.bytes + 1) := Nat.le_mul_of_pos_left _ h0
      omega
  have hmul : Builtin.nextslicecap (len + n) cap * i.bytes ≤ (2 * (len + n) + 200) * i.bytes := Nat.mul_le_mul_right _ hnc
  have hmul2 : (2 * (len + n) + 200) * i.bytes = 2 * ((len + n) * i.bytes) + 200 * i.bytes := by rw [Nat.add_mul, Nat.mul_assoc]
  have c1 : ¬ (((len + n : Nat) : Int) > IntKind.i64.max) := by
    have : IntKind.i64.max = 9223372036854775807 := by decide
    rw [this]; omega
  have c2 : ¬ (Builtin.nextslicecap (len + n) cap * i.bytes > 2 ^ 48) := by omega
  have hfor : (Question.appendCap (len + n) cap i.e).forced = false := rfl
  have hch : (choose (.appendCap (len + n) cap i.e)).run P w = .ok nc { w with drawn := w.drawn + 1 } := by
    simp only [choose, Sem.run, hfor, Bool.false_eq_true, if_false, hq]
  have hso : ∀ w', (sizeOf i.e).run P w' = .ok i.s w' := fun w' => by simp [sizeOf, typeInfo, hi, hsz]
  have hti : ∀ w', (typeInfo i.e).run P w' = .ok inf w' := fun w' => by simp [typeInfo, hi]
  have hzv : ∀ w', (zeroValue i.e).run P w' = .ok zz w' := fun w' => by simp [zeroValue, hti, hzz]
  have ho := hold { w with drawn := w.drawn + 1 } rfl
  have hn := hnew { w with drawn := w.drawn + 1 } rfl
  have hud : (underlying t2).run P w = .ok d w := run_underlying hd w
  simp only [Builtin.append_, ht, ht2, List.getElem?_toArray, List.getElem?_cons_zero, List.getElem?_cons_succ, Sem.run_bind, run_underlying hu, Result.andThen_ok, hso, hud, Sem.run_pure, Bool.false_eq_true, if_false, hlen, if_neg (Nat.not_le_of_lt hlt)]
  have c3 : ¬ (Builtin.nextslicecap (len + n) cap * inf.bytes > 2 ^ 48) := by rw [hby]; exact c2
  split
  · simp only [Bool.not_false, if_true, hlen, Sem.run_bind, Result.andThen_ok, if_neg (Nat.not_le_of_lt hlt), c1, false_and, if_false, hti, c3, hch, run_askRoom, ho, hn, hzv, newRow]
    rfl
  · rename_i hz
    exact absurd rfl hz

/-- the part of append that stays in its array -/
theorem append_in {ts : Array TypeId} {ty st t2 : TypeId} {i : SI} {inf : TypeInfo} {s' x' : Value} {base : Option Addr} {len cap n : Nat} {new : Array Value}
    (ht : ts[0]? = some st) (ht2 : ts[1]? = some t2) (hni : notInt P t2 = true) (hu : P.underlying st = some (.slice i.e)) (hi : P.info? i.e = some inf) (hsz : inf.size = i.s)
    (hs : s' = .slice base len cap) (hlen : ∀ w', (Builtin.lenOf x').run P w' = .ok n w') (hle : len + n ≤ cap)
    (hnew : (Builtin.firstCells i.s n x').run P w = .ok new w) (hst : ∀ c, base = some c → (storeCells (c.add (len * i.s)) new.toList).run P w = .ok () w') (hst0 : base = none → w' = w) :
    (Builtin.append_ ts ty #[s', x']).run P w = .ok (.slice base (len + n) cap) w' := by
  subst hs
  have hzero : ∃ d, P.underlying t2 = some d ∧ ∀ k, d ≠ .int k := by
    unfold notInt at hni
    cases hd : P.underlying t2 with
    | none => rw [hd] at hni; cases hni
    | some d => exact ⟨_, rfl, fun k hk => by rw [hd, hk] at hni; cases hni⟩
  obtain ⟨d, hd, hdi⟩ := hzero
  have hso : ∀ w', (sizeOf i.e).run P w' = .ok i.s w' := fun w' => by simp [sizeOf, typeInfo, hi, hsz]
  have hud : (underlying t2).run P w = .ok d w := run_underlying hd w
  simp only [Builtin.append_, ht, ht2, List.getElem?_toArray, List.getElem?_cons_zero, List.getElem?_cons_succ, Sem.run_bind, run_underlying hu, Result.andThen_ok, hso, hud, Sem.run_pure, Bool.false_eq_true, if_false, hlen, if_pos hle, Bool.not_false, if_true]
  cases base with
  | none =>
    cases hst0 rfl
    simp only [hnew, Result.andThen_ok, Sem.run_pure]
  | some c =>
    have hst := hst c rfl
    simp only [hnew, hst, Result.andThen_ok, Sem.run_bind, Sem.run_pure]
theorem take_all {l : List Value} {n : Nat} (hn : l.length = n) : l.take n = l := by rw [← hn]; simp
theorem arr_of_list {x : Array Value} {l : List Value} (hx : x.toList = l) : x = l.toArray := by rw [← hx]
def BOut (P : Program) (G : Nat) (σ : Sig) (h : H) (w : World) (s : Sem Value) (v : AV) (h' : H) : Prop :=
  ∃ σ' v' w', s.run P w = .ok v' w' ∧ VRel σ' v v' ∧ Out G σ h w σ' h' w'
theorem SOk.place {b b0 : Nat} {e e' : SE} (hs : SOk σ w) (hb : b < lim) (h0 : σ b0 = some e) (he : e'.c = e.c) (hk : e'.k = e.k) (hn : e.k ≠ none) (hw : w'.heap.size = w.heap.size) : SOk (upd σ b e') w' := by
  refine ⟨?_, ?_, ?_⟩
  · intro x y e1 e2 h1 h2 h3
    unfold upd at h1 h2
    split at h1
    · cases h1
      split at h2
      · left; omega
      · rcases hs.inj y b0 e2 e h2 h0 (by omega) with h4 | ⟨h4, h5⟩
        · subst h4; rw [h0] at h2; cases h2; exact .inr ⟨hk, by rw [hk]; exact hn⟩
        · exact .inr ⟨by rw [hk, h4], by rw [hk]; exact hn⟩
    · split at h2
      · cases h2
        rcases hs.inj x b0 e1 e h1 h0 (by omega) with h4 | ⟨h4, h5⟩
        · subst h4; rw [h0] at h1; cases h1; exact .inr ⟨hk.symm, hn⟩
        · exact .inr ⟨by rw [hk, h4], h5⟩
      · exact hs.inj x y e1 e2 h1 h2 h3
  · intro x e1 h1
    unfold upd at h1
    rw [hw]
    split at h1
    · cases h1; have := hs.rng b0 e h0; omega
    · exact hs.rng x e1 h1
  · intro x e1 h1
    unfold upd at h1
    split at h1
    · omega
    · exact hs.low x e1 h1
theorem ctrN_some {o : AO} {n : Nat} (hh : ctrN o = some n) : o = .ctr n := by
  cases o <;> first | (cases hh; done) | skip
  cases hh; rfl
theorem three_get {xs ys zs : List Value} {cs : List AV} (hr : LRel σ cs (xs ++ ys)) : ∀ (i : Nat) (x : AV) (y : Value), cs[i]? = some x → (xs ++ ys ++ zs).toArray[i]? = some y → VRel σ x y := by
  intro i x y hx hy
  have hlt := (List.getElem?_eq_some_iff.1 hx).1
  rw [hr.1] at hlt
  rw [List.getElem?_toArray, List.getElem?_append_left hlt] at hy
  exact hr.2 i x y hx hy
theorem append_size {i : SI} {zz : Value} {old l : List Value} {len n nc : Nat} (hlzz : zz.cells.size = i.s) (ho : old.length = len * i.s) (hll : l.length = n * i.s) (hnc : len + n ≤ nc) :
    (old.toArray ++ l.toArray ++ Builtin.zeroCells zz.cells (nc - (len + n))).size = nc * i.s := by
  rw [Array.size_append, Array.size_append, zeroCells_size, hlzz]
  simp only [List.size_toArray, hll, ho]
  have : nc = len + n + (nc - (len + n)) := by omega
  rw [← Nat.add_mul, ← Nat.add_mul, ← this]
theorem append_cells {zz : Value} {old l : List Value} {cs : List AV} (k : Nat) (hr : LRel σ cs (old ++ l)) :
    ∀ (j : Nat) (x : AV) (y : Value), cs[j]? = some x → (old.toArray ++ l.toArray ++ Builtin.zeroCells zz.cells k)[j]? = some y → VRel σ x y := by
  intro j a1 a2 g1 g2
  have e : (old.toArray ++ l.toArray ++ Builtin.zeroCells zz.cells k) = (old ++ l ++ (Builtin.zeroCells zz.cells k).toList).toArray := by apply Array.ext'; simp
  rw [e] at g2
  exact three_get hr j a1 a2 g1 g2
theorem grow_out {i : SI} {zz : Value} {old l : List Value} {cs : List AV} {len n nc : Nat} (hlzz : zz.cells.size = i.s) (hr : LRel σ cs (old ++ l)) (ho : old.length = len * i.s) (hll : l.length = n * i.s)
    (hnc : len + n ≤ nc) (hm : Ms G σ h w) (hl : h.nx + 1 < lim) (hf0 : σ h.nx = none) (hf : σ (h.nx + 1) = none) :
    ∃ σ', VRel σ' (.sl (Nat.succ h.nx) 0 (len + n) (len + n) i.s false) (.slice (some ⟨w.heap.size, 0, none⟩) (len + n) nc) ∧
      Out G σ h w σ' ((h.new (.ctr 0)).new (.cells cs i.e (.tip h.nx))) (wpush { w with drawn := w.drawn + 1 } (.cells (old.toArray ++ l.toArray ++ Builtin.zeroCells zz.cells (nc - (len + n))) i.e)) := by
  have hasz := append_size (nc := nc) hlzz ho hll hnc
  have hm2 := hm.draw (w.drawn + 1)
  have hcl : cs.length = (len + n) * i.s := by have := hr.1; rw [List.length_append] at this; rw [Nat.add_mul]; omega
  have hg := grow_step (t := i.e) (cs := cs) (arr := old.toArray ++ l.toArray ++ Builtin.zeroCells zz.cells (nc - (len + n))) (fz := (0, 0)) hm2.ai hm2.so hm2.ma hl hf0 hf
    (by rw [hasz, hcl]; exact Nat.mul_le_mul_right _ (by omega)) (append_cells _ hr) (by intro j _; omega)
  refine ⟨_, ?_, hg.draw⟩
  exact VRel.sl (h.nx + 1) 0 (len + n) (len + n) i.s false ⟨w.heap.size, (old.toArray ++ l.toArray ++ Builtin.zeroCells zz.cells (nc - (len + n))).size, some h.nx⟩ nc (by simp [upd]) (Nat.le_refl _) (by omega) (by intro hh; cases hh) (by intro _; simp only [hasz]; omega)
theorem append1_sound {ts : Array TypeId} {ty st t2 : TypeId} {s x : AV} {s' x' : Value} (he : append1 P st s x h = .ok v h') (hs : VRel σ s s') (hx : VRel σ x x') (hm : Ms G σ h w)
    (ht : ts[0]? = some st) (ht2 : ts[1]? = some t2) (hni : notInt P t2 = true) (hl : h'.nx ≤ lim) (hf : Free σ h h') : BOut P G σ h w (Builtin.append_ ts ty #[s', x']) v h' := by
  unfold append1 at he
  split at he
  · rename_i i hsl
    obtain ⟨inf, z, zz, hu, hi, hsz, hby, hz, hzz, hlz, hlzz, hrel⟩ := slInfo_some hsl
    split at he
    · rename_i n new hsrc
      obtain ⟨hlen, l, hnl, hll, hfc⟩ := src_run (P := P) hsrc hx hm
      have hnl2 : new.length = n * i.s := by have := hnl.1; omega
      have hnew : ∀ w', w'.heap = w.heap → (Builtin.firstCells i.s n x').run P w' = .ok l.toArray w' := by
        intro w1 hw1
        obtain ⟨l', h1, h2⟩ := hfc n (Nat.le_refl _) w1 hw1
        rw [take_all hll] at h2
        rw [h1, arr_of_list h2]
      split at he
      · rename_i hv
        rw [vL_nil hv] at hs
        cases hs
        rcases ite_ok he with ⟨h0, he⟩ | ⟨h0, he⟩
        · cases he
          have := beq_eqN h0
          subst this
          refine ⟨σ, .slice none 0 0, w, append_in (P := P) (base := none) (w' := w) ht ht2 hni hu hi hsz rfl hlen (by omega) (hnew w rfl) (fun c hc => by cases hc) (fun _ => rfl), .nsl, Out.refl hm.ai hm.so hm.ma⟩
        · rcases ite_ok he with ⟨h1, he⟩ | ⟨_, he⟩
          · rcases ite_ok he with ⟨h2, he⟩ | ⟨_, he⟩
            · have hpos := beq_neN h0
              have hold0 : ∀ (w' : World), w'.heap = w.heap → (Builtin.firstCells i.s 0 (.slice none 0 0)).run P w' = .ok ([] : List Value).toArray w' := fun w' _ => rfl
              obtain ⟨nc, hnc, hrun⟩ := append_grows (P := P) (w := w) (ty := ty) (x' := x') (n := n) (new := l.toArray) ht ht2 hni hu hi hsz hby hzz rfl hlen (by omega : (0 : Nat) < 0 + n) (by rw [Nat.zero_add]; exact blt_lt h1)
                hold0 hnew
              unfold grow at he
              cases he
              obtain ⟨σ', q1, q2⟩ := grow_out (i := i) (zz := zz) (old := []) (l := l) (cs := new) (len := 0) (n := n) (nc := nc) hlzz (by simpa using hnl) (by simp) hll hnc hm hl (hf _ (Nat.le_refl _) (Nat.lt_succ_of_lt (Nat.lt_succ_self _))) (hf _ (by omega) (Nat.lt_succ_self _))
              refine ⟨σ', _, _, hrun, ?_, q2⟩
              have e0 : 0 + n = n := Nat.zero_add n
              rw [e0] at q1 ⊢
              exact q1
            · cases he
          · cases he
      · rename_i b off len cap sz ex hv
        rw [vL_yes hv] at hs
        cases hs
        rename_i e cc hb g2 g1 g3 g4
        rcases ite_ok he with ⟨h1, he⟩ | ⟨_, he⟩
        · rcases ite_ok he with ⟨h2, he⟩ | ⟨_, he⟩
          · rcases ite_ok he with ⟨h3, he⟩ | ⟨_, he⟩
            · have hsm := blt_lt h1
              have hsi := beq_eqN h3
              subst hsi
              have hone := allOne_rel hnl h2
              unfold appSl at he
              rcases ite_ok he with ⟨h4, he⟩ | ⟨h4, he⟩
              · have hle : len + n ≤ cap := ble_le h4
                unfold appIn at he
                cases hw : h.wr b (off + len * i.s) new with
                | bad q => rw [hw] at he; cases he
                | ok h2 =>
                  rw [hw] at he
                  cases he
                  obtain ⟨w', hr, hout⟩ := wr_step (P := P) hw hm.ai hm.so hm.ma hb hnl hone
                  refine ⟨σ, _, w', append_in (P := P) (w' := w') ht ht2 hni hu hi hsz rfl hlen (show len + n ≤ cc by omega) (hnew w rfl) (fun c hc => by cases hc; rw [add_off]; exact hr) (fun hc => by cases hc), ?_, hout⟩
                  exact .sl b off _ cap i.s ex e cc hb hle g2 g3 g4
              · have hgt : cap < len + n := ble_gt h4
                rcases ite_ok he with ⟨h5, he5⟩ | ⟨h5, he5⟩
                all_goals clear he
                · subst h5
                  have hcc := g3 rfl
                  subst hcc
                  unfold appEx at he5
                  split at he5
                  · rename_i c hrd
                    split at he5
                    · rename_i old hcut
                      rw [lapp_eq] at he5
                      unfold grow at he5
                      cases he5
                      obtain ⟨arr, tt, fz, q1, q2, q3, q4⟩ := blk_of_rd hrd (hm.ma b e hb)
                      obtain ⟨r1, _, r3⟩ := lcut_some hcut
                      have hor := cut_rel hcut q4 (by omega)
                      have hol : ((arr.toList.drop off).take (len * i.s)).length = len * i.s := by rw [← hor.1]; exact r3
                      have hold : ∀ (w' : World), w'.heap = w.heap → (Builtin.firstCells i.s len (.slice (some ⟨e.c, off, none⟩) len cc)).run P w' = .ok ((arr.toList.drop off).take (len * i.s)).toArray w' :=
                        fun w' hw' => run_loadBlk (P := P) (off := off) (n := len * i.s) (by rw [hw']; exact q1) (by omega)
                      obtain ⟨nc, hnc, hrun⟩ := append_grows (P := P) (w := w) (ty := ty) (x' := x') (n := n) (new := l.toArray) ht ht2 hni hu hi hsz hby hzz rfl hlen hgt hsm hold hnew
                      obtain ⟨σ', z1, z2⟩ := grow_out (i := i) (zz := zz) (nc := nc) hlzz (hor.append hnl) hol hll hnc hm hl (hf _ (Nat.le_refl _) (Nat.lt_succ_of_lt (Nat.lt_succ_self _))) (hf _ (by omega) (Nat.lt_succ_self _))
                      exact ⟨σ', _, _, hrun, z1, z2⟩
                    · cases he5
                  · cases he5
                · subst h5
                  unfold appTip at he5
                  split at he5
                  · rename_i c e' k ho
                    split at he5
                    · rename_i st old hst hcut
                      rcases ite_ok he5 with ⟨h6, he5⟩ | ⟨_, he5⟩
                      · rcases ite_ok he5 with ⟨h7, he5⟩ | ⟨_, he5⟩
                        · rcases ite_ok he5 with ⟨h8, he5⟩ | ⟨_, he5⟩
                          · have e6 := beq_eqN h6
                            have e7 := beq_eqN h7
                            have e8 := beq_eqN h8
                            subst e7
                            subst e8
                            rw [llen_eq] at e6
                            rw [lapp_eq] at he5
                            cases he5
                            have hkn := ctrN_some hst
                            have hbr := hm.ma b e hb
                            rw [ho] at hbr
                            obtain ⟨arr, lo, hi', q1, q2, q3, q4, q5, q6⟩ := hbr.2 trivial
                            have hcc := g4 rfl
                            have hl2 : h.nx < lim := hl
                            have hf2 := hf h.nx (Nat.le_refl _) (Nat.lt_succ_self _)
                            have hcl : (c ++ new).length = (len + n) * i.s := by rw [List.length_append, Nat.add_mul]; omega
                            by_cases hfit : len + n ≤ cc
                            · have hmul : (len + n) * i.s ≤ cc * i.s := Nat.mul_le_mul_right _ hfit
                              have hsum : (len + n) * i.s = len * i.s + n * i.s := Nat.add_mul _ _ _
                              have hrs := run_storeBlk P e.c (len * i.s) i.e lo hi' l 0 arr w q1 (by omega) (fun j j1 j2 => q6 trivial j (by omega)) hone
                              rw [Nat.add_zero] at hrs
                              have hsz2 : len * i.s + l.length ≤ arr.size := by omega
                              generalize hw1 : setBlk w e.c (.cells (arrPut arr (len * i.s) l) i.e (lo, hi')) = w1 at hrs
                              have hw1c : w1.heap[e.c]? = some (.cells (arrPut arr (len * i.s) l) i.e (lo, hi')) := by rw [← hw1, heap_setBlk, if_pos ⟨rfl, lt_of_get q1⟩]
                              have hw1s : w1.heap.size = w.heap.size := by rw [← hw1, size_setBlk]
                              have hso2 : SOk (upd σ h.nx ⟨e.c, e.N, some k⟩) w1 := hm.so.place hl2 hb rfl hbr.1.symm (by rw [hbr.1]; simp [clsK]) hw1s
                              refine ⟨upd σ h.nx ⟨e.c, e.N, some k⟩, _, w1, append_in (P := P) (w' := w1) ht ht2 hni hu hi hsz rfl hlen hfit (hnew w rfl) (fun c hc => by cases hc; rw [add_off, Nat.zero_add]; simpa using hrs) (fun hc => by cases hc), ?_, ?_⟩
                              · exact .sl h.nx 0 _ _ i.s false ⟨e.c, e.N, some k⟩ cc (by simp [upd]) (Nat.le_refl _) hfit (fun hh => by cases hh) (fun _ => hcc)
                              · refine ver_step hm.ai hm.so hm.ma hb ho hkn hl2 hf2 (by rw [List.length_append]; omega) rfl hso2 (by omega) (by first | exact ⟨rfl, rfl⟩ | (subst hw1; exact ⟨rfl, rfl⟩)) ?_ (.inr rfl) ⟨arr, _, _, q1, hw1c, arrPut_size hsz2, ?_⟩ ?_
                                · intro j _ h2; rw [← hw1, heap_setBlk, if_neg (fun hh => h2 hh.1)]
                                · intro j hj; rw [arrPut_get hsz2, if_neg (by omega)]
                                · refine ⟨rfl, fun _ => ⟨_, lo, hi', hw1c, by rw [arrPut_size hsz2]; exact q2, by show (c ++ new).length ≤ e.N; omega, ?_, fun hh => (by cases hh), q6⟩⟩
                                  intro j a1 a2 j1 j2
                                  rw [arrPut_get hsz2] at j2
                                  refine VRel.mono (upd_le hf2) ?_
                                  by_cases hjl : j < c.length
                                  · rw [List.getElem?_append_left hjl] at j1
                                    rw [if_neg (by omega)] at j2
                                    exact q4 j a1 a2 j1 j2
                                  · rw [List.getElem?_append_right (by omega)] at j1
                                    have := (List.getElem?_eq_some_iff.1 j1).1
                                    rw [if_pos (by omega)] at j2
                                    have e9 : c.length = len * i.s := by omega
                                    rw [e9] at j1
                                    exact hnl.2 _ a1 a2 j1 j2
                            · have hold : ∀ (w' : World), w'.heap = w.heap → (Builtin.firstCells i.s len (.slice (some ⟨e.c, 0, none⟩) len cc)).run P w' = .ok ((arr.toList.drop 0).take (len * i.s)).toArray w' :=
                                fun w' hw' => run_loadBlk (P := P) (off := 0) (n := len * i.s) (by rw [hw']; exact q1) (by omega)
                              obtain ⟨nc, hnc, hrun⟩ := append_grows (P := P) (w := w) (ty := ty) (x' := x') (n := n) (new := l.toArray) ht ht2 hni hu hi hsz hby hzz rfl hlen (by omega) hsm hold hnew
                              have hor := cut_rel hcut q4 (by omega)
                              have hoc : old = c := by obtain ⟨_, r2, _⟩ := lcut_some hcut; rw [r2, List.drop_zero, List.take_of_length_le (by omega)]
                              rw [hoc] at hor
                              have hol : ((arr.toList.drop 0).take (len * i.s)).length = len * i.s := by rw [← hor.1]; omega
                              have hasz := append_size (nc := nc) (i := i) (zz := zz) (old := (arr.toList.drop 0).take (len * i.s)) (l := l) hlzz hol hll hnc
                              generalize hA : ((arr.toList.drop 0).take (len * i.s)).toArray ++ l.toArray ++ Builtin.zeroCells zz.cells (nc - (len + n)) = A at hrun hasz
                              generalize hw1 : wpush { w with drawn := w.drawn + 1 } (.cells A i.e) = w1 at hrun
                              have hm2 := hm.draw (w.drawn + 1)
                              have hw1c : w1.heap[w.heap.size]? = some (.cells A i.e (0, 0)) := by rw [← hw1]; exact heap_push_at { w with drawn := w.drawn + 1 } _
                              have hso2 : SOk (upd σ h.nx ⟨w.heap.size, nc * i.s, some k⟩) w1 := by rw [← hw1]; exact hm2.so.push _ hl2 rfl
                              have hkeep : ∀ j, j < w.heap.size → w1.heap[j]? = w.heap[j]? := fun j hj => by rw [← hw1]; exact heap_push { w with drawn := w.drawn + 1 } _ j hj
                              refine ⟨upd σ h.nx ⟨w.heap.size, nc * i.s, some k⟩, _, w1, hrun, ?_, ?_⟩
                              · exact .sl h.nx 0 _ _ i.s false ⟨w.heap.size, nc * i.s, some k⟩ nc (by simp [upd]) (Nat.le_refl _) hnc (fun hh => by cases hh) (fun _ => by show 0 + nc * i.s ≤ nc * i.s; omega)
                              · refine ver_step hm.ai hm.so hm.ma hb ho hkn hl2 hf2 (by rw [List.length_append]; omega) rfl hso2 (by rw [← hw1, size_push]; exact Nat.le_succ _) (by rw [← hw1]; exact ⟨rfl, rfl⟩) (fun j h1 _ => hkeep j h1) (.inl (Nat.le_refl _))
                                  ⟨arr, arr, (lo, hi'), q1, by rw [hkeep _ (hm.so.rng b e hb)]; exact q1, rfl, fun _ _ => rfl⟩ ?_
                                refine ⟨rfl, fun _ => ⟨A, 0, 0, hw1c, hasz, by show (c ++ new).length ≤ nc * i.s; rw [hcl]; exact Nat.mul_le_mul_right _ hnc, ?_, fun hh => (by cases hh), fun _ j _ => by omega⟩⟩
                                intro j a1 a2 j1 j2
                                rw [← hA] at j2
                                exact VRel.mono (upd_le hf2) (append_cells _ (hor.append hnl) j a1 a2 j1 j2)
                          · cases he5
                        · cases he5
                      · cases he5
                    · cases he5
                  · cases he5
            · cases he
          · cases he
        · cases he
      · cases he
    · cases he
  · cases he
end Go.Ev
