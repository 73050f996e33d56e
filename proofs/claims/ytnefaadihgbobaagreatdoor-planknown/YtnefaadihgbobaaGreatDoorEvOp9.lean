/- The other built-in functions. -/
import Derived.Test.YtnefaadihgbobaaGreatDoorEvOp8
import Derived.Lib.UnsafeStr
set_option linter.unusedSimpArgs false
set_option linter.unusedVariables false
namespace Go.Ev
variable {P : Program} {G : Nat} {σ : Sig} {h h' : H} {w w' : World} {v : AV} {nt : Nat} {f : L2} {a : Act} {ctx : CallT}

theorem BOut.quiet {s : Sem Value} {v' : Value} (hm : Ms G σ h w) (hr : s.run P w = .ok v' w) (hv : VRel σ v v') : BOut P G σ h w s v h := ⟨σ, v', w, hr, hv, Out.refl hm.ai hm.so hm.ma⟩
theorem copyA_sound {ts : Array TypeId} {ty dt : TypeId} {d x : AV} {d' x' : Value} (he : copyA P dt d x h = .ok v h') (hd : VRel σ d d') (hx : VRel σ x x') (hm : Ms G σ h w) (ht : ts[0]? = some dt) :
    BOut P G σ h w (Builtin.copy_ ts ty #[d', x']) v h' := by
  unfold copyA at he
  split at he
  · rename_i i hsl
    obtain ⟨inf, z, zz, hu, hi, hsz, hby, hz, hzz, hlz, hlzz, hrel⟩ := slInfo_some hsl
    have hso : ∀ w', (sizeOf i.e).run P w' = .ok i.s w' := fun w' => by simp [sizeOf, typeInfo, hi, hsz]
    split at he
    · rename_i n src hsrc
      obtain ⟨hlen, l, hnl, hll, hfc⟩ := src_run (P := P) hsrc hx hm
      split at he
      · rename_i hv
        rw [vL_nil hv] at hd
        cases hd; cases he
        obtain ⟨l', q1, q2⟩ := hfc 0 (Nat.zero_le _) w rfl
        refine .quiet hm (v' := .int .i64 0) ?_ (.int _ _)
        simp [Builtin.copy_, ht, run_underlying hu, hlen, hso, Nat.min, q1, goInt]
      · rename_i b off len cap sz ex hv
        rw [vL_yes hv] at hd
        cases hd
        rename_i e cc hb g1 g2 g3 g4
        split at he
        · rename_i cs hcs
          rcases ite_ok he with ⟨h1, he1⟩ | ⟨_, he1⟩
          · clear he
            cases hw : h.wr b off cs with
            | bad q => rw [hw] at he1; cases he1
            | ok h2 =>
              rw [hw] at he1
              cases he1
              obtain ⟨l', q1, q2⟩ := hfc (Nat.min n len) (Nat.min_le_left _ _) w rfl
              rw [ltake_eq] at hcs
              split at hcs
              · cases hcs
                have hrel2 := hnl.take (Nat.min n len * i.s)
                rw [← q2] at hrel2
                obtain ⟨w', hr, hout⟩ := wr_step (P := P) hw hm.ai hm.so hm.ma hb hrel2 (allOne_rel hrel2 h1)
                refine ⟨σ, .int .i64 (Nat.min n len), w', ?_, .int _ _, hout⟩
                simp [Builtin.copy_, ht, run_underlying hu, hlen, hso, q1, goInt, hr]
              · cases hcs
          · cases he1
        · cases he
      · cases he
    · cases he
  · cases he
theorem capV_sound {ts : Array TypeId} {ty t : TypeId} {x : AV} {x' : Value} (hk : lkInfo P t = .sl) (he : capV x h = .ok v h') (hx : VRel σ x x') (hm : Ms G σ h w) (ht : ts[0]? = some t) :
    BOut P G σ h w (Builtin.cap_ ts ty #[x']) v h' := by
  have hs := lkInfo_says P t
  rw [hk] at hs
  obtain ⟨e, hs⟩ := hs
  unfold capV at he
  split at he
  · rename_i hv
    rw [vL_nil hv] at hx
    cases hx; cases he
    exact .quiet hm (v' := .int .i64 0) (by simp [Builtin.cap_, ht, run_underlying hs, goInt]) (.int _ _)
  · rename_i b off len c sz hv
    rw [vL_yes hv] at hx
    cases hx; cases he
    rename_i e cc hb g1 g2 g3 g4
    have := g3 rfl
    subst this
    exact .quiet hm (v' := .int .i64 cc) (by simp [Builtin.cap_, ht, run_underlying hs, goInt]) (.int _ _)
  · cases he
theorem lnK_sound {ts : Array TypeId} {ty t : TypeId} {x : AV} {x' : Value} (he : lnK (lkInfo P t) x h = .ok v h') (hx : VRel σ x x') (hm : Ms G σ h w) (ht : ts[0]? = some t) :
    BOut P G σ h w (Builtin.len_ ts ty #[x']) v h' := by
  by_cases hq : ∃ r, x = .map r
  · obtain ⟨r, rfl⟩ := hq
    cases hx
    rename_i e hb
    have hs := lkInfo_says P t
    cases hk : lkInfo P t with
    | bad => rw [hk] at he; cases he
    | str => rw [hk] at he; cases he
    | sl => rw [hk] at he; cases he
    | map =>
      rw [hk] at he hs
      obtain ⟨k, et, hs⟩ := hs
      have he' : lnM (.map r) h = .ok v h' := he
      unfold lnM entries at he'
      have hvm : vM (.map r) = .yes r := rfl
      rw [hvm] at he'
      dsimp only at he'
      cases hg : h.m.get r with
      | map es =>
        rw [hg] at he'
        cases he'
        have hbr := hm.ma r e hb
        rw [hg] at hbr
        obtain ⟨_, es', clock, q1, q2, q3⟩ := hbr
        have hgo : (getObj e.c).run P w = .ok (.map es' clock) w := by simp [getObj, Sem.run, q1]
        refine .quiet hm (v' := .int .i64 es'.size) (by simp [Builtin.len_, ht, run_underlying hs, goInt, hgo]) ?_
        have : es.length = es'.size := by rw [q2]; simp
        rw [this]
        exact .int _ _
      | _ => rw [hg] at he'; cases he'
  · obtain ⟨v', q1, q2, rfl⟩ := len_quiet (P := P) (ty := ty) hx (fun r hr => hq ⟨r, hr⟩) he w ts ht
    exact .quiet hm q1 q2
theorem sdV_sound {ts : Array TypeId} {ty : TypeId} {x : AV} {x' : Value} (he : sdV x h = .ok v h') (hx : VRel σ x x') (hm : Ms G σ h w) :
    BOut P G σ h w (Builtin.unsafeSliceData_ ts ty #[x']) v h' := by
  unfold sdV at he
  split at he
  · rename_i hv
    rw [vL_nil hv] at hx
    cases hx; cases he
    exact .quiet hm rfl .nptr
  · rename_i b off len c sz ex hv
    rw [vL_yes hv] at hx
    cases hx
    rename_i e cc hb g1 g2 g3 g4
    rcases ite_ok he with ⟨_, he⟩ | ⟨h1, he⟩
    · cases he
    · cases he
      have := beq_neN h1
      exact .quiet hm (Lib.run_unsafeSliceData_row w ts ty _ len cc (by omega)) (.ptr b off e hb)
  · cases he
theorem minmax_run (lt : Bool) : ∀ (l : List AV) (l' : List Value) (k : IntKind) (a : Int) (r : IntKind × Int), minmax lt k a l = some r → LRel σ l l' →
    (l'.foldlM (if lt then Builtin.min2 else Builtin.max2) (.int k a)).run P w = .ok (.int r.1 r.2) w := by
  intro l
  induction l with
  | nil =>
    intro l' k a r he hl
    cases hl.unnil
    cases he
    rfl
  | cons y rest ih =>
    intro l' k a r he hl
    obtain ⟨y', l2, rfl, hy, hl2⟩ := hl.uncons
    unfold minmax at he
    split at he
    · rename_i k2 b hv
      rw [vI_yes hv] at hy
      cases hy
      have := ih l2 k _ r he hl2
      cases lt with
      | true =>
        simp only [if_true] at this ⊢
        simp only [List.foldlM_cons, Builtin.min2, Sem.run_bind, Sem.run_pure, Result.andThen_ok]
        rw [← this]
        rw [ilt_eq]
        by_cases hb : b < a
        · rw [if_pos hb, decide_eq_true hb]
        · rw [if_neg hb, decide_eq_false hb]
      | false =>
        simp only [Bool.false_eq_true, if_false] at this ⊢
        simp only [List.foldlM_cons, Builtin.max2, Sem.run_bind, Sem.run_pure, Result.andThen_ok]
        rw [← this]
        rw [ilt_eq]
        by_cases hb : a < b
        · rw [if_pos hb, decide_eq_true hb]
        · rw [if_neg hb, decide_eq_false hb]
    · cases he
theorem mm_sound (lt : Bool) {ts : Array TypeId} {ty : TypeId} {l : List AV} {l' : List Value} (he : mm lt l h = .ok v h') (hl : LRel σ l l') (hm : Ms G σ h w) :
    BOut P G σ h w (if lt then Builtin.min_ ts ty l'.toArray else Builtin.max_ ts ty l'.toArray) v h' := by
  unfold mm at he
  split at he
  · rename_i x rest
    obtain ⟨y, l2, rfl, hy, hl2⟩ := hl.uncons
    split at he
    · rename_i k n hv
      rw [vI_yes hv] at hy
      cases hy
      split at he
      · rename_i k2 n2 hmm
        cases he
        have := minmax_run (P := P) (w := w) lt rest l2 k n _ hmm hl2
        refine .quiet hm (v' := .int k2 n2) ?_ (.int _ _)
        cases lt <;> exact this
      · cases he
    · cases he
  · cases he
theorem freeze_blk {c n : Nat} {arr : Array Value} {t : TypeId} {lo hi : Nat} (hc : w.heap[c]? = some (.cells arr t (lo, hi))) (hn : n ≠ 0) : ∃ fz, w.freeze ⟨c, 0, none⟩ n = setBlk w c (.cells arr t fz) := by
  refine ⟨if lo == hi then (0, 0 + n) else (min lo 0, max hi (0 + n)), ?_⟩
  unfold World.freeze setBlk
  rw [if_neg hn]
  congr 1
  apply Array.ext_getElem?
  intro j
  have hlt := lt_of_get hc
  rw [Array.getElem?_modify]
  by_cases hj : c = j
  · subst hj
    have : w.heap[c] = .cells arr t (lo, hi) := by rw [Array.getElem?_eq_getElem hlt] at hc; exact Option.some.inj hc
    simp [hlt, this]
  · simp [hj, Array.getElem?_setIfInBounds_ne hj]
theorem usV_sound {ts : Array TypeId} {ty t t2 : TypeId} {p n : AV} {p' n' : Value} (he : usV P t p n h = .ok v h') (hp : VRel σ p p') (hn : VRel σ n n') (hm : Ms G σ h w) (ht : ts = #[t, t2]) :
    BOut P G σ h w (Builtin.unsafeString_ ts ty #[p', n']) v h' := by
  subst ht
  unfold usV at he
  split at he
  · rename_i h1 h2
    rw [vP_nil h1] at hp
    rw [natV_some h2] at hn
    cases hp; cases hn; cases he
    exact .quiet hm (Lib.run_unsafeString_none w t t2 ty none) (.str ByteArray.empty)
  · rename_i b off h1 h2
    rw [vP_yes h1] at hp
    rw [natV_some h2] at hn
    cases hp; cases hn; cases he
    exact .quiet hm (Lib.run_unsafeString_none w t t2 ty _) (.str ByteArray.empty)
  · rename_i b off m h0 h1 h2
    rw [vP_yes h1] at hp
    rw [natV_some h2] at hn
    cases hp; cases hn
    rename_i e hb
    split at he
    · rename_i c el k e' ho hpt
      split at he
      · rename_i cs st hu hsz hcut hst
        split at he
        · rename_i s hoc
          rcases ite_ok he with ⟨h3, he1⟩ | ⟨_, he1⟩
          · rcases ite_ok he1 with ⟨h4, he2⟩ | ⟨_, he2⟩
            · rcases ite_ok he2 with ⟨h5, he3⟩ | ⟨_, he3⟩
              · clear he he1 he2
                cases he3
                have e3 := beq_eqN h3
                have e4 := beq_eqN h4
                have e5 := blt_lt h5
                subst e3
                subst e4
                have hkn := ctrN_some hst
                have hbr := hm.ma b e hb
                rw [ho] at hbr
                obtain ⟨arr, lo, hi', q1, q2, q3, q4, q5, q6⟩ := hbr.2 trivial
                obtain ⟨r1, r2, r3⟩ := lcut_some hcut
                have hor := cut_rel hcut q4 (by omega)
                obtain ⟨k1, k2⟩ := ofCells_rel cs s _ hoc hor
                have hm0 : m ≠ 0 := fun hh => h0 hh
                have hsl : s.length = m := by
                  have := congrArg List.length k1
                  rw [← hor.1, r3] at this
                  simpa using this.symm
                have hll : (s.map UInt8.ofNat).length = m := by simpa using hsl
                obtain ⟨inf, j1, j2⟩ := szInfo_some hsz
                have hcells : P.cellsOf el = 1 := by simp [Program.cellsOf, j1, j2]
                have hrun := Lib.run_unsafeString_row (P := P) w t t2 ty el hpt hcells e.c arr.size (shape_blk q1) (s.map UInt8.ofNat) (by intro hh; rw [hh] at hll; simp at hll; omega) (by omega) (by omega) (by
                  intro j x hj
                  rw [add_off, cell_blk q1]
                  have h6 : ((arr.toList.drop 0).take m)[j]? = some (.int .u8 x.toNat) := by
                    rw [k1]
                    rw [List.getElem?_map] at hj
                    cases hsj : s[j]? with
                    | none => rw [hsj] at hj; cases hj
                    | some q =>
                      rw [hsj] at hj
                      cases hj
                      have hq := k2 q (List.mem_of_getElem? hsj)
                      simp [hsj, UInt8.toNat_ofNat', Nat.mod_eq_of_lt hq]
                  rw [List.getElem?_take] at h6
                  split at h6
                  · simpa using h6
                  · cases h6)
                rw [hll] at hrun
                obtain ⟨fz, hfz⟩ := freeze_blk q1 hm0
                rw [hfz] at hrun
                have hwc : (setBlk w e.c (.cells arr el fz)).heap[e.c]? = some (.cells arr el fz) := by rw [heap_setBlk, if_pos ⟨rfl, lt_of_get q1⟩]
                refine ⟨σ, _, _, hrun, ?_, ?_⟩
                · have hbs : bytesOf ⟨(s.map UInt8.ofNat).toArray⟩ = s := by
                    unfold bytesOf
                    simp only [List.map_map]
                    have : ∀ l : List Nat, (∀ n ∈ l, n < 256) → l.map (UInt8.toNat ∘ UInt8.ofNat) = l := by
                      intro l hl
                      induction l with
                      | nil => rfl
                      | cons q l ih =>
                        have hq := hl q (by simp)
                        simp only [List.map_cons, Function.comp, UInt8.toNat_ofNat', Nat.mod_eq_of_lt (show q < 2 ^ 8 from hq)]
                        rw [ih (fun n hn => hl n (by simp [hn]))]
                    exact this s k2
                  have := VRel.str (σ := σ) ⟨(s.map UInt8.ofNat).toArray⟩
                  rw [hbs] at this
                  exact this
                · refine put_cls_step hm.ai hm.so hm.ma hb ho hkn (.inr ⟨rfl, rfl, ?_⟩) rfl ?_
                  · intro x y hx hc hxb l2 t2 st2 hxo
                    have hbx := hm.ma x y hx
                    rw [hxo] at hbx ⊢
                    refine ⟨hbx.1, fun hv => ?_⟩
                    obtain ⟨arr2, lo2, hi2, p1, p2, p3, p4, p5, p6⟩ := hbx.2 hv
                    rw [hc, q1] at p1
                    cases p1
                    exact ⟨arr, fz.1, fz.2, by rw [hc]; exact hwc, p2, p3, p4, fun hh => (by cases hh), fun hh => hh.elim⟩
                  · exact ⟨hbr.1, fun _ => ⟨arr, fz.1, fz.2, hwc, q2, q3, q4, fun hh => (by cases hh), fun hh => hh.elim⟩⟩
              · cases he3
            · cases he2
          · cases he1
        · cases he
      · cases he
    · cases he
  · cases he
end Go.Ev
