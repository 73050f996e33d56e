/- One operation of a region, as the machine runs it. -/
import Derived.Test.YtnefaadihgbobaaGreatDoorEvStep
import Derived.KernelRfl
import Derived.Lib.Bytealg
set_option linter.unusedSimpArgs false
set_option linter.unusedVariables false
namespace Go.Ev
variable {P : Program} {G : Nat} {σ : Sig} {h h' : H} {w w' : World} {v : AV} {nt : Nat} {f : L2} {a : Act} {ctx : CallT} {b : FB} {cs : List Frame}

/-- nobody panics -/
def Calm (b : FB) (cs : List Frame) : Prop := b.kind = .normal ∨ (b.kind = .deferred ∧ ∃ c cs', cs = c :: cs' ∧ c.mode = .returning)
theorem Calm.recover (hc : Calm b cs) (a : Act) (todo : List Item) : tryRecover (b.at a todo) cs = none := by
  rcases hc with hk | ⟨hk, c, cs', rfl, hm⟩
  · unfold tryRecover
    simp [FB.at, hk]
  · unfold tryRecover
    simp [FB.at, hk, hm]
/-- a frame is a call's or a round's; a round's bears its loop -/
def RBk (b : FB) (σ : Sig) (f : L2) : Prop :=
  (b.ro = none ∧ ∃ ds, f.get dslot = .tup ds) ∨ (b.kind = .normal ∧ ∃ c l e, b.ro = some c ∧ f.get dslot = .map l ∧ σ l = some e ∧ e.c = c)
def CallSound (P : Program) (G : Nat) (ctx : CallT) : Prop := ∀ (g : FuncId) (args : List AV) (h h' : H) (v : AV) (σ : Sig) (w : World) (args' : Array Value) (kind : CallKind),
  ctx.call g args h = .ok v h' → bodied P g = true → LRel σ args args'.toList → Ms G σ h w → GOk G σ → h'.nx ≤ lim → Free σ h h' →
  ∃ σ' v' w' a' fn, P.funcs[g]? = some fn ∧ VRel σ' v v' ∧ Out G σ h w σ' h' w' ∧ a'.defers = [] ∧ (results fn a'.tmps).run P w' = .ok v' w' ∧
    ∀ cs, Calm ⟨g, kind, none⟩ cs → ∃ k', Steps P (lone (Frame.enter P g args' kind) cs w) (lone (FB.back ⟨g, kind, none⟩ a' k') cs w')
def RoundSound (P : Program) (G : Nat) (ctx : CallT) : Prop := ∀ (l : Nat) (args : List AV) (h h' : H) (v : AV) (σ : Sig) (w : World) (args' : Array Value) (e : SE),
  ctx.round l args h = .ok v h' → σ l = some e → LRel σ args args'.toList → Ms G σ h w → GOk G σ → h'.nx ≤ lim → Free σ h h' →
  ∃ σ' v' w' g tmps as bd, VRel σ' v v' ∧ Out G σ h w σ' h' w' ∧ (Instr.yield e.c args').run P w = .ok (.round e.c g tmps as bd) w ∧
    ∀ c cs, Steps P (lone (Frame.round e.c g tmps as bd .normal) (c :: cs) w) (lone (c.finish v') cs w')
structure CtxSound (P : Program) (G : Nat) (ctx : CallT) : Prop where
  call : CallSound P G ctx
  round : RoundSound P G ctx
  mono : CtxMono ctx

def OpRun (P : Program) (b : FB) (o : Oper) (a : Act) (w : World) (v' : Value) (w' : World) : Prop :=
  ∀ (ops : Array Oper) (i : Nat) (rest : List Nat) (k : List Item) (cs : List Frame), ops[i]? = some o → Region.wanted o (yielded ops a.tmps) = true → Calm b cs →
    Steps P (lone (b.at a (.inRegion ops (i :: rest) :: k)) cs w) (lone (b.at (a.put o.dst v') (.inRegion ops rest :: k)) cs w')
def OpSound (P : Program) (G : Nat) (ctx : CallT) (o : Oper) : Prop := ∀ (σ : Sig) (nt : Nat) (f : L2) (a : Act) (h h' : H) (w : World) (v : AV) (b : FB),
  opD o.op o.type P ctx f h = .ok v h' → o.op.operands.toList.all (opdOk G) = true → St G σ nt f a h w → RBk b σ f → h'.nx ≤ lim → Free σ h h' →
  ∃ σ' v' w', VRel σ' v v' ∧ Out G σ h w σ' h' w' ∧ OpRun P b o a w v' w'
theorem no_defer {o : Oper} {r : OR} (he : opD o.op o.type P ctx f h = r) (hr : ∀ n, r ≠ .bad n) : ∀ c, o.op ≠ .defer c := by
  intro c hc
  rw [hc] at he
  exact hr _ he.symm
theorem OpRun.ran {o : Oper} {v' : Value} (hd : ∀ c, o.op ≠ .defer c) (hr : Ran P (execOp a.eval o) w v' w') : OpRun P b o a w v' w' := by
  intro ops i rest k cs ho hw hc
  exact .one (s_value ho hw (.inr hd) hr)
theorem Good3.sound {o : Oper} (hg : Good3 P G o) : OpSound P G ctx o := by
  intro σ nt f a h h' w v b he hop hs hb hl hf
  have hd : ∀ c, o.op ≠ .defer c := no_defer he (fun n hn => by cases hn)
  obtain ⟨σ', v', w', h1, h2, h3⟩ := hg σ nt f a h h' w v ctx he hop hs hl hf
  exact ⟨σ', v', w', h2, h3, .ran hd h1⟩
theorem St.ms (hs : St G σ nt f a h w) : Ms G σ h w := ⟨hs.ai, hs.so, hs.ma⟩

/- FUNCTIONS WITHOUT A BODY -/
theorem next_noEscape : Extern.allNextRows.lookup nmNoEscape = none := by kernel_rfl
theorem next_index : Extern.allNextRows.lookup nmIndexByte = none := by kernel_rfl
theorem next_empty : Extern.allNextRows.lookup "" = none := by kernel_rfl
theorem gen_noEscape : Extern.allGenericRows.lookup nmNoEscape = none := by kernel_rfl
theorem gen_index : Extern.allGenericRows.lookup nmIndexByte = none := by kernel_rfl
theorem typed_noEscape : Extern.allTypedRows.lookup nmNoEscape = none := by kernel_rfl
theorem typed_index : Extern.allTypedRows.lookup nmIndexByte = none := by kernel_rfl
theorem row_noEscape : Extern.allRows.lookup nmNoEscape = some Extern.AbiNoEscape.same := by kernel_rfl
theorem row_index : Extern.allRows.lookup nmIndexByte = some Extern.BytealgIndexByte.indexByte := by kernel_rfl
theorem sidx_eq (c : UInt8) : ∀ (l : List UInt8) (i : Nat), sidx c.toNat (l.map UInt8.toNat) i = if Lib.indexByte l c = -1 then -1 else Lib.indexByte l c + i
  | [], i => rfl
  | x :: l, i => by
    have ih := sidx_eq c l (i + 1)
    have hge := Lib.indexByte_ge l c
    show Bool.rec (motive := fun _ => Int) (sidx c.toNat (l.map UInt8.toNat) (Nat.succ i)) (.ofNat i) (Nat.beq x.toNat c.toNat) = _
    unfold Lib.indexByte
    by_cases hx : x = c
    · subst hx
      simp
    · have hne : Nat.beq x.toNat c.toNat = false := by
        cases hb : Nat.beq x.toNat c.toNat with
        | false => rfl
        | true => exact absurd (UInt8.toNat_inj.1 (beq_eqN hb)) hx
      rw [hne]
      show sidx c.toNat (l.map UInt8.toNat) (Nat.succ i) = _
      rw [ih, if_neg (show ¬ ((x == c) = true) by simpa using hx)]
      by_cases hi : Lib.indexByte l c = -1
      · simp [hi]
      · have hi' : (Lib.indexByte l c == -1) = false := by simpa using hi
        rw [if_neg hi, hi']
        simp only [Bool.false_eq_true, if_false]
        rw [if_neg (by omega)]
        omega
theorem ext_sound {g : FuncId} {args : List AV} {args' : Array Value} (he : aExt (extKind P g) args h = .ok v h') (hr : LRel σ args args'.toList) (hnb : bodied P g = false) :
    ∃ v', (callFunc g args').run P w = .ok (.value v') w ∧ VRel σ v v' ∧ h' = h := by
  unfold aExt at he
  split at he
  · rename_i x hk
    obtain ⟨rfl, rfl⟩ := ok_inj he
    obtain ⟨y, l, hl, hv, hl2⟩ := hr.uncons
    have hl3 := hl2.unnil
    subst hl3
    have hargs : args' = #[y] := by
      have := congrArg List.toArray hl
      simpa using this
    subst hargs
    unfold extKind at hk
    split at hk
    · rename_i fn hf
      split at hk
      · cases hk
      · rename_i hbody
        split at hk
        · rename_i hor
          split at hk
          · rename_i hn
            refine ⟨y, ?_, hv, rfl⟩
            have hbn : fn.body = none := by simpa using hbody
            have h1 : Extern.findNext fn = none := by simp [Extern.findNext, hn, hor, next_noEscape, next_empty]
            have h2 : Extern.find fn = some Extern.AbiNoEscape.same := by simp [Extern.find, hn, gen_noEscape, typed_noEscape, row_noEscape]
            have h3 : (Extern.AbiNoEscape.same #[y]).run P w = .ok y w := rfl
            simp [callFunc, hf, hn, hbn, h1, h2, mark, Sem.run]
            rw [h3]
            rfl
          · split at hk <;> cases hk
        · cases hk
    · cases hk
  · rename_i s c hk
    split at he
    · rename_i sb n hs hn
      obtain ⟨rfl, rfl⟩ := ok_inj he
      have hss := vS_yes hs
      subst hss
      obtain ⟨hc, hlt⟩ := byteOfA_some hn
      subst hc
      obtain ⟨y, l, hl, hv, hl2⟩ := hr.uncons
      obtain ⟨y2, l2, rfl, hv2, hl3⟩ := hl2.uncons
      have hl4 := hl3.unnil
      subst hl4
      have hargs : args' = #[y, y2] := by
        have := congrArg List.toArray hl
        simpa using this
      subst hargs
      obtain ⟨bs, rfl, rfl⟩ := str_rel hv
      cases hv2
      unfold extKind at hk
      split at hk
      · rename_i fn hf
        split at hk
        · cases hk
        · rename_i hbody
          split at hk
          · rename_i hor
            split at hk
            · cases hk
            · rename_i hn1
              split at hk
              · rename_i hn2
                have hbn : fn.body = none := by simpa using hbody
                have h1 : Extern.findNext fn = none := by simp [Extern.findNext, hn2, hor, next_index, next_empty]
                have h2 : Extern.find fn = some Extern.BytealgIndexByte.indexByte := by simp [Extern.find, hn2, gen_index, typed_index, row_index]
                refine ⟨.int .i64 (Lib.indexByte bs.data.toList (UInt8.ofNat n)), ?_, ?_, rfl⟩
                · have := Lib.run_indexByteString (P := P) bs (Int.ofNat n) w
                  have e : (Int.ofNat n).toNat.toUInt8 = UInt8.ofNat n := rfl
                  rw [e] at this
                  simp [callFunc, hf, hn2, hbn, h1, h2, mark, Sem.run]
                  rw [show (Extern.BytealgIndexByte.indexByte #[Value.string bs, Value.int IntKind.u8 (↑n : Int)]).run P w = _ from this]
                  rfl
                · have e := sidx_eq (UInt8.ofNat n) bs.data.toList 0
                  have hnn : (UInt8.ofNat n).toNat = n := by simp [UInt8.toNat_ofNat, Nat.mod_eq_of_lt hlt]
                  rw [hnn] at e
                  have e2 : sidx n (bytesOf bs) 0 = Lib.indexByte bs.data.toList (UInt8.ofNat n) := by
                    show sidx n (bs.data.toList.map UInt8.toNat) 0 = _
                    rw [e]
                    split
                    · rename_i hq; exact hq.symm
                    · simp
                  rw [e2]
                  exact .int _ _
              · cases hk
          · cases hk
      · cases hk
    · cases he
  · cases he
end Go.Ev
