/- Conversions. -/
import Derived.Test.YtnefaadihgbobaaGreatDoorEvOp5
import Derived.Laws.BytesString
import Derived.Laws.LoneSync
set_option linter.unusedSimpArgs false
set_option linter.unusedVariables false
namespace Go.Ev
variable {P : Program} {G : Nat} {σ : Sig} {h h' : H} {w w' : World} {v : AV} {nt : Nat} {f : L2} {a : Act} {ctx : CallT}
section ops
variable {dst : Option Tmp} {ty : TypeId} {pos : String} {af : Array Edge} {gd : Option (Nat × Bool)}
theorem byteOfA_some {x : AV} {n : Nat} (hh : byteOfA x = some n) : x = .int .u8 (.ofNat n) ∧ n < 256 := by
  unfold byteOfA at hh
  split at hh
  · rename_i m hv
    cases hq : Nat.blt m 256 with
    | false => rw [hq] at hh; cases hh
    | true => rw [hq] at hh; cases hh; exact ⟨vI_yes hv, blt_lt hq⟩
  · cases hh
theorem ofCells_cons (x : AV) (cs : List AV) : ofCells (x :: cs) = match byteOfA x, ofCells cs with | some n, some r => some (n :: r) | _, _ => none := rfl
theorem ofCells_rel : ∀ (cs : List AV) (s : List Nat) (l : List Value), ofCells cs = some s → LRel σ cs l → l = (s.map Int.ofNat).map (Value.int .u8) ∧ ∀ n ∈ s, n < 256 := by
  intro cs
  induction cs with
  | nil => intro s l hh hr; cases hh; exact ⟨hr.unnil, fun n hn => by cases hn⟩
  | cons x cs ih =>
    intro s l hh hr
    rw [ofCells_cons] at hh
    split at hh
    · rename_i n r hn hrr
      cases hh
      obtain ⟨y, l', rfl, hv, hl⟩ := hr.uncons
      obtain ⟨rfl, hlt⟩ := byteOfA_some hn
      cases hv
      obtain ⟨h1, h2⟩ := ih r l' hrr hl
      subst h1
      exact ⟨by simp, fun m hm => by rcases List.mem_cons.1 hm with rfl | hm; exact hlt; exact h2 m hm⟩
    · cases hh
theorem bytesOf_push (r : ByteArray) (n : Nat) (hn : n < 256) : bytesOf (r.push (UInt8.ofNat n)) = bytesOf r ++ [n] := by
  unfold bytesOf
  have : (r.push (UInt8.ofNat n)).data = r.data.push (UInt8.ofNat n) := by cases r; rfl
  rw [this]
  simp
  omega
theorem bytesOf_fold : ∀ (s : List Nat) (r : ByteArray), (∀ n ∈ s, n < 256) → bytesOf ((s.map Int.ofNat).foldl (fun r n => r.push (UInt8.ofNat n.toNat)) r) = bytesOf r ++ s := by
  intro s
  induction s with
  | nil => intro r _; simp
  | cons n s ih =>
    intro r hs
    simp only [List.map_cons, List.foldl_cons]
    rw [ih _ (fun m hm => hs m (by simp [hm]))]
    show bytesOf (r.push (UInt8.ofNat n)) ++ s = _
    rw [bytesOf_push r n (hs n (by simp))]
    simp
theorem bytesOf_empty : bytesOf ByteArray.empty = [] := rfl
theorem shape_blk {c : Nat} {arr : Array Value} {t : TypeId} {fz : Nat × Nat} (hc : w.heap[c]? = some (.cells arr t fz)) : w.shape? c = some (t, arr.size) := by
  simp [World.shape?, hc]
theorem freeze_push (w : World) (arr : Array Value) (t : TypeId) (n : Nat) : (wpush w (.cells arr t)).freeze ⟨w.heap.size, n, none⟩ 1 = wpush w (.cells arr t (n, n + 1)) := by
  unfold World.freeze wpush
  simp only [Nat.one_ne_zero, if_false]
  congr 1
  apply Array.ext_getElem?
  intro j
  rw [Array.getElem?_modify]
  by_cases hj : w.heap.size = j
  · subst hj; simp [Array.getElem?_push]
  · simp [hj, Array.getElem?_push, Ne.symm hj]
theorem toCells_rel (σ : Sig) (s : ByteArray) : LRel σ (toCells (bytesOf s)) ((s.data.map fun b => Value.int .u8 b.toNat).toList) := by
  unfold bytesOf
  rw [Array.toList_map]
  generalize s.data.toList = l
  induction l with
  | nil => exact LRel.nil σ
  | cons b l ih => exact .cons (.int _ _) ih
theorem toCells_len (s : List Nat) : (toCells s).length = s.length := by
  induction s with
  | nil => rfl
  | cons a s ih => show (toCells s).length + 1 = _; rw [ih]; rfl
theorem St.draw (hs : St G σ nt f a h w) (n : Nat) : St G σ nt f a h { w with drawn := n } := ⟨hs.fr, hs.gl, hs.ai, ⟨hs.so.inj, hs.so.rng, hs.so.low⟩, fun b e hb => BRel.congr (Sle.refl σ) rfl (fun _ _ _ _ _ hh => hh) (hs.ma b e hb)⟩
theorem Out.draw {n : Nat} {σ' : Sig} (ho : Out G σ h { w with drawn := n } σ' h' w') : Out G σ h w σ' h' w' := by
  obtain ⟨nw, a1, a2, a3⟩ := ho
  exact ⟨nw, a1, ⟨a2.le, a2.fresh, a2.ok, a2.grow, a2.frame, a2.newc, a2.io⟩, a3⟩
theorem cvOf_says (P : Program) (s d : TypeId) : match cvOf P s d with
    | .bad => True
    | .rune => True
    | .int k => (∃ j, P.underlying s = some (.int j)) ∧ P.underlying d = some (.int k)
    | .str => P.underlying s = some .string ∧ P.underlying d = some .string
    | .toBytes e => P.underlying s = some .string ∧ P.underlying d = some (.slice e) ∧ P.underlying e = some (.int .u8) ∧ szInfo P e = some 1
    | .ofBytes => ∃ e, P.underlying s = some (.slice e) ∧ P.underlying d = some .string ∧ P.underlying e = some (.int .u8)
    | .toU => ∃ e inf, P.underlying s = some (.pointer e) ∧ P.underlying d = some .unsafePointer ∧ P.info? e = some inf ∧ inf.size ≠ 0
    | .ofU u => ∃ inf, P.underlying s = some .unsafePointer ∧ P.underlying d = some (.pointer u) ∧ P.info? u = some inf ∧ inf.size ≠ 0 := by
  generalize hc : cvOf P s d = c
  unfold cvOf at hc
  split at hc
  · rename_i j k h1 h2; subst hc; exact ⟨⟨j, h1⟩, h2⟩
  · rename_i h1 h2; subst hc; exact ⟨h1, h2⟩
  · rename_i e h1 h2
    split at hc
    · rename_i h3 h4; subst hc; exact ⟨h1, h2, h3, h4⟩
    · subst hc; trivial
  · rename_i e h1 h2
    split at hc
    · rename_i h3; subst hc; exact ⟨e, h1, h2, h3⟩
    · subst hc; trivial
  · rename_i e h1 h2
    split at hc
    · rename_i n h3; subst hc; obtain ⟨inf, h4, h5⟩ := szInfo_some h3; exact ⟨e, inf, h1, h2, h4, by omega⟩
    · subst hc; trivial
  · rename_i u h1 h2
    split at hc
    · rename_i n h3; subst hc; obtain ⟨inf, h4, h5⟩ := szInfo_some h3; exact ⟨inf, h1, h2, h4, by omega⟩
    · subst hc; trivial
  · subst hc; trivial
theorem good3_convert (s d : TypeId) (x : Operand) : Good3 P G ⟨dst, .convert s d x, ty, pos, af, gd⟩ := by
  intro σ nt f a h h' w v ctx he hop hs hl hf
  have hx := ev_rel hs.fr hs.gl x (by simpa [Op.operands] using hop)
  have he' : oConvert s d x ty P ctx f h = .ok v h' := he
  unfold oConvert at he'
  have hsay := cvOf_says P s d
  generalize hxx : a.eval x = xx at *
  split at he' <;> rename_i hcv <;> rw [hcv] at hsay
  · rename_i k
    obtain ⟨⟨j, h1⟩, h2⟩ := hsay
    split at he'
    · rename_i k2 n hv
      rw [vI_yes hv] at hx
      cases hx
      obtain ⟨rfl, rfl⟩ := ok_inj he'
      refine ⟨σ, .int k (k.wrap n), w, .inl ?_, by rw [wrapF_eq]; exact .int _ _, Out.refl hs.ai hs.so hs.ma⟩
      simp [execOp, hxx, convert, run_underlying h1, run_underlying h2, Conv.intToInt]
    · cases he'
  · obtain ⟨h1, h2⟩ := hsay
    split at he'
    · rename_i s2 hv
      rw [vS_yes hv] at hx
      cases hx
      obtain ⟨rfl, rfl⟩ := ok_inj he'
      refine ⟨σ, _, w, .inl ?_, .str _, Out.refl hs.ai hs.so hs.ma⟩
      simp [execOp, hxx, convert, run_underlying h1, run_underlying h2]
    · cases he'
  · exfalso
    unfold cvOf at hcv
    split at hcv <;> first | (cases hcv; done) | (split at hcv <;> cases hcv)
  · rename_i e
    obtain ⟨h1, h2, h3, h4⟩ := hsay
    split at he'
    · rename_i s2 hv
      rw [vS_yes hv] at hx
      cases hx
      rename_i bs
      rcases ite_ok he' with ⟨hsm, he'⟩ | ⟨_, he'⟩
      · obtain ⟨rfl, rfl⟩ := ok_inj he'
        have hlen : slen (bytesOf bs) = bs.size := by rw [slen_eq, bytesOf_len]
        generalize hq : Question.cut (.appendCap bs.size 0 e) (w.tape w.drawn (.appendCap bs.size 0 e)) = cap
        have hcap : bs.size ≤ cap := by rw [← hq]; simp [Question.cut]
        generalize harr : (bs.data.map fun b => Value.int .u8 b.toNat) ++ Array.replicate (cap - bs.size) (Value.int .u8 0) = arr
        have hbsz : bs.data.size = bs.size := rfl
        have hsz : arr.size = cap := by rw [← harr]; simp; omega
        have hl1 : h.nx + 1 < lim := hl
        have hfr : σ (h.nx + 1) = none := hf _ (by omega) (by show h.nx + 1 < h.nx + 2; omega)
        have hs2 := hs.draw (w.drawn + 1)
        have hg := grow_step (G := G) (cs := toCells (bytesOf bs)) (t := e) (arr := arr) (fz := (arr.size, arr.size + 1)) hs2.ai hs2.so hs2.ma hl1 (hf _ (Nat.le_refl _) (by show h.nx < h.nx + 2; omega)) hfr (by rw [toCells_len, bytesOf_len]; omega) (by
          intro i u y hu hy
          have hr := toCells_rel σ bs
          have hi := (List.getElem?_eq_some_iff.1 hu).1
          rw [toCells_len, bytesOf_len] at hi
          refine hr.2 i u y hu ?_
          rw [← hy, ← harr, Array.getElem?_append_left (by simp; omega)]
          simp) (fun i hi => by omega)
        refine ⟨_, .slice (some ⟨w.heap.size, 0, none⟩) bs.size cap, _, .inl ?_, ?_, Out.draw hg⟩
        · have hshape : (wpush { w with drawn := w.drawn + 1 } (.cells arr e)).shape? w.heap.size = some (e, arr.size) := shape_blk (heap_push_at { w with drawn := w.drawn + 1 } _)
          have hfz := freeze_push { w with drawn := w.drawn + 1 } arr e arr.size
          have hfor : (Question.appendCap bs.size 0 e).forced = false := rfl
          have hch : (choose (.appendCap bs.size 0 e)).run P w = .ok cap { w with drawn := w.drawn + 1 } := by
            simp only [choose, Sem.run, hfor, Bool.false_eq_true, if_false, hq]
          have hnr : (newRow e arr).run P { w with drawn := w.drawn + 1 } = .ok ⟨w.heap.size, 0, none⟩ (wpush { w with drawn := w.drawn + 1 } (.cells arr e)) := rfl
          have hms : (markStringish ⟨w.heap.size, 0, none⟩).run P (wpush { w with drawn := w.drawn + 1 } (.cells arr e)) = .ok () (wpush { w with drawn := w.drawn + 1 } (.cells arr e (arr.size, arr.size + 1))) := by
            simp only [markStringish, Sem.run_bind, run_shape, Result.andThen_ok, hshape, run_freeze]
            exact congrArg (Result.ok ()) hfz
          simp only [execOp, hxx, convert, Sem.run_bind, run_underlying h1, run_underlying h2, run_underlying h3, Result.andThen_ok, Conv.stringToBytes, hch, harr, hnr, hms, Sem.run_pure]
        · rw [hlen]
          exact .sl _ 0 _ _ 1 false ⟨w.heap.size, arr.size, some h.nx⟩ cap (by simp [upd]) (Nat.le_refl _) hcap (fun hh => by cases hh) (fun _ => by simp; omega)
      · cases he'
    · cases he'
  · obtain ⟨e, h1, h2, h3⟩ := hsay
    split at he'
    · rename_i hv
      rw [vL_nil hv] at hx
      cases hx
      obtain ⟨rfl, rfl⟩ := ok_inj he'
      refine ⟨σ, .string .empty, w, .inl ?_, .str ByteArray.empty, Out.refl hs.ai hs.so hs.ma⟩
      simp [execOp, hxx, convert, run_underlying h1, run_underlying h2, run_underlying h3, Conv.bytesToString]
    · rename_i b off len cap sz ex hv
      rw [vL_yes hv] at hx
      cases hx
      rename_i e1 cc hb g1 g2 g3 g4
      split at he'
      · rename_i c hrd
        split at he'
        · rename_i cs hcut
          split at he'
          · rename_i s2 hoc
            obtain ⟨rfl, rfl⟩ := ok_inj he'
            obtain ⟨arr, tt, fz, q1, q2, q3, q4⟩ := blk_of_rd hrd (hs.ma b e1 hb)
            obtain ⟨r1, _, _⟩ := lcut_some hcut
            have hrel := cut_rel hcut q4 (by omega)
            obtain ⟨r2, r3⟩ := ofCells_rel cs s2 _ hoc hrel
            have hld := run_loadBlk (P := P) q1 (show off + len ≤ arr.size by omega)
            rw [r2] at hld
            have hrun := run_bytesToString (P := P) w ⟨e1.c, off, none⟩ len cc (s2.map Int.ofNat) hld
            refine ⟨σ, .string ((s2.map Int.ofNat).foldl (fun r n => r.push (UInt8.ofNat n.toNat)) ByteArray.empty), w, .inl ?_, ?_, Out.refl hs.ai hs.so hs.ma⟩
            · simp only [execOp, hxx, convert, Sem.run_bind, run_underlying h1, run_underlying h2, run_underlying h3, Result.andThen_ok, hrun, Sem.run_pure]
            · have e5 := bytesOf_fold s2 ByteArray.empty r3
              rw [bytesOf_empty, List.nil_append] at e5
              have := VRel.str (σ := σ) ((s2.map Int.ofNat).foldl (fun r n => r.push (UInt8.ofNat n.toNat)) ByteArray.empty)
              rw [e5] at this
              exact this
          · cases he'
        · cases he'
      · cases he'
    · cases he'
  · obtain ⟨e, inf, h1, h2, h3, h4⟩ := hsay
    split at he'
    · rename_i hv
      rw [vP_nil hv] at hx
      cases hx
      obtain ⟨rfl, rfl⟩ := ok_inj he'
      refine ⟨σ, .pointer none, w, .inl ?_, .nptr, Out.refl hs.ai hs.so hs.ma⟩
      simp [execOp, hxx, convert, run_underlying h1, run_underlying h2, Conv.unsafePointer]
    · rename_i b off hv
      rw [vP_yes hv] at hx
      cases hx
      rename_i e1 hb
      split at he'
      · rename_i c hrd
        rcases ite_ok he' with ⟨hlt, he'⟩ | ⟨_, he'⟩
        · obtain ⟨rfl, rfl⟩ := ok_inj he'
          have hlt' := blt_lt hlt
          rw [llen_eq] at hlt'
          obtain ⟨arr, tt, fz, q1, q2, q3, q4⟩ := blk_of_rd hrd (hs.ma b e1 hb)
          have hcell : w.cell? ⟨e1.c, off, none⟩ = some arr[off] := by rw [cell_blk q1]; exact Array.getElem?_eq_getElem (by omega)
          have hrun := run_convert_to_unsafe (P := P) h1 h2 (by rw [h3]; simp [h4]) hcell
          refine ⟨σ, .pointer (some ⟨e1.c, off, none⟩), w, .inl ?_, .ptr b off e1 hb, Out.refl hs.ai hs.so hs.ma⟩
          simp [execOp, hxx, hrun]
        · cases he'
      · cases he'
    · cases he'
  · rename_i u
    obtain ⟨inf, h1, h2, h3, h4⟩ := hsay
    split at he'
    · rename_i hv
      rw [vP_nil hv] at hx
      cases hx
      obtain ⟨rfl, rfl⟩ := ok_inj he'
      refine ⟨σ, .pointer none, w, .inl ?_, .nptr, Out.refl hs.ai hs.so hs.ma⟩
      simp [execOp, hxx, convert, run_underlying h1, run_underlying h2, Conv.unsafePointer]
    · rename_i b off hv
      rw [vP_yes hv] at hx
      cases hx
      rename_i e1 hb
      split at he'
      · rename_i c e2 hgb
        rcases ite_ok he' with ⟨hlies, he'⟩ | ⟨_, he'⟩
        · obtain ⟨rfl, rfl⟩ := ok_inj he'
          have hbr := hs.ma b e1 hb
          rw [hgb] at hbr
          obtain ⟨arr, lo, hi2, q1, q2, q3, q4, q5, q6⟩ := hbr.2 trivial
          have hlen := q5 rfl
          unfold liesA at hlies
          rw [llen_eq] at hlies
          have hsz : arr.size = c.length := by omega
          refine ⟨σ, .pointer (some ⟨e1.c, off, none⟩), w, .inl ?_, .ptr b off e1 hb, Out.refl hs.ai hs.so hs.ma⟩
          simp [execOp, hxx, convert, run_underlying h1, run_underlying h2, Conv.unsafePointer, Conv.seenAt, viewAt, shape_blk q1, sizeOf, typeInfo, h3, h4, variablesAt, hsz, hlies]
        · cases he'
      · cases he'
    · cases he'
  · cases he'
end ops
end Go.Ev
