/- One operation of a region, as the machine runs it. -/
import Derived.Test.YtnefaadihgbobaaGreatDoorEvMono
import Derived.KernelRfl
import Derived.Lib.Bytealg
set_option linter.unusedSimpArgs false
set_option linter.unusedVariables false
namespace Go.Ev
variable {P : Program} {G : Nat} {σ : Sig} {h h' : H} {w w' : World} {v : AV} {nt : Nat} {f : L2} {a : Act} {ctx : CallT} {b : FB} {cs : List Frame}

/-- nobody panics -/
def Calm (b : FB) (cs : List Frame) : Prop := b.kind = .normal ∨ (b.kind = .deferred ∧ ∃ c cs', cs = c :: cs' ∧ (c.mode = .returning ∨ ∃ v, c.mode = .panicking [{ v, recovered := true }]))
theorem Calm.recover (hc : Calm b cs) (a : Act) (todo : List Item) : tryRecover (b.at a todo) cs = none := by
  rcases hc with hk | ⟨hk, c, cs', rfl, hm | ⟨v, hm⟩⟩
  · unfold tryRecover
    simp [FB.at, hk]
  · unfold tryRecover
    simp [FB.at, hk, hm]
  · unfold tryRecover
    simp [FB.at, hk, hm]
/-- a frame is a call's or a round's; a round's bears its loop -/
def RBk (b : FB) (σ : Sig) (f : L2) : Prop :=
  (b.ro = none ∧ ∃ ds, f.get dslot = .tup ds) ∨ (b.kind = .normal ∧ ∃ c l e, b.ro = some c ∧ f.get dslot = .map l ∧ σ l = some e ∧ e.c = c)
def CallSound (P : Program) (G : Nat) (ctx : CallT) : Prop := ∀ (g : FuncId) (args : List AV) (h h' : H) (v : AV) (σ : Sig) (w : World) (args' : Array Value) (kind : CallKind),
  ctx.call g args h = .ok v h' → bodied P g = true → LRel σ args args'.toList → Ms G σ h w → GOk G σ → h'.nx ≤ lim → Free σ h h' →
  ∃ σ' v' w' a' fn, P.funcs[g]? = some fn ∧ VRel σ' v v' ∧ Out G σ h w σ' h' w' ∧ a'.defers = [] ∧ (results fn a'.tmps).run P w' = .ok v' w' ∧
    ∀ cs, Calm ⟨g, kind, none⟩ cs → ∃ k', Steps P (lone (Frame.enter P g args' kind) cs w) (lone (FB.back ⟨g, kind, none⟩ a' k') cs w')
def RoundSound (P : Program) (G : Nat) (ctx : CallT) : Prop := ∀ (l : Nat) (args : List AV) (h h' : H) (v : AV) (σ : Sig) (w : World) (args' : Array Value) (e : SE),
  ctx.round l args h = .ok v h' → σ l = some e → LRel σ args args'.toList → Ms G σ h w → GOk G σ → h'.nx ≤ lim → Free σ h h' →
  ∃ σ' v' w' g tmps as bd, VRel σ' v v' ∧ Out G σ h w σ' h' w' ∧ (Instr.yield e.c args').run P w = .ok (.round e.c g tmps as bd) w ∧
    ∀ c cs, Steps P (lone (Frame.round e.c g tmps as bd .normal) (c :: cs) w) (lone (c.finish v') cs w')
/-- a call that panics -/
def CallPan (P : Program) (G : Nat) (ctx : CallT) : Prop := ∀ (g : FuncId) (args : List AV) (h h' : H) (v : AV) (σ : Sig) (w : World) (args' : Array Value),
  ctx.call g args h = .pan v h' → bodied P g = true → LRel σ args args'.toList → Ms G σ h w → GOk G σ → h'.nx ≤ lim → Free σ h h' →
  ∃ σ' v' w', VRel σ' v v' ∧ Out G σ h w σ' h' w' ∧ ∀ c cs, Steps P (lone (Frame.enter P g args' .normal) (c :: cs) w) (lone (c.raise [{ v := v', recovered := false }]) cs w')
structure CtxSound (P : Program) (G : Nat) (ctx : CallT) : Prop where
  call : CallSound P G ctx
  round : RoundSound P G ctx
  mono : CtxMono ctx
  pan : CallPan P G ctx
  rpan : ∀ l args h v h', ctx.round l args h ≠ .pan v h'

def OpRun (P : Program) (b : FB) (o : Oper) (a : Act) (w : World) (v' : Value) (w' : World) : Prop :=
  ∀ (ops : Array Oper) (i : Nat) (rest : List Nat) (k : List Item) (cs : List Frame), ops[i]? = some o → Region.wanted o (yielded ops a.tmps) = true → Calm b cs →
    Steps P (lone (b.at a (.inRegion ops (i :: rest) :: k)) cs w) (lone (b.at (a.put o.dst v') (.inRegion ops rest :: k)) cs w')
def OpSound (P : Program) (G : Nat) (ctx : CallT) (o : Oper) : Prop := ∀ (σ : Sig) (nt : Nat) (f : L2) (a : Act) (h h' : H) (w : World) (v : AV) (b : FB),
  opD o.op o.type P ctx f h = .ok v h' → o.op.operands.toList.all (opdOk G) = true → St G σ nt f a h w → RBk b σ f → h'.nx ≤ lim → Free σ h h' →
  ∃ σ' v' w', VRel σ' v v' ∧ Out G σ h w σ' h' w' ∧ OpRun P b o a w v' w'
theorem no_defer {o : Oper} {r : OR} (he : opD o.op o.type P ctx f h = r) (hr : ∀ n, r ≠ .bad n) : ∀ c, o.op ≠ .defer c := by
  intro c hc
  rw [hc] at he
  exact hr _ he.symm
theorem OpRun.ran {o : Oper} {v' : Value} (hd : ∀ c, o.op ≠ .defer c) (hr : Ran P (execOp a.eval o) w v' w') : OpRun P b o a w v' w' := by
  intro ops i rest k cs ho hw hc
  exact .one (s_value ho hw (.inr hd) hr)
theorem Good3.sound {o : Oper} (hg : Good3 P G o) : OpSound P G ctx o := by
  intro σ nt f a h h' w v b he hop hs hb hl hf
  have hd : ∀ c, o.op ≠ .defer c := no_defer he (fun n hn => by cases hn)
  obtain ⟨σ', v', w', h1, h2, h3⟩ := hg σ nt f a h h' w v ctx he hop hs hl hf
  exact ⟨σ', v', w', h2, h3, .ran hd h1⟩
theorem St.ms (hs : St G σ nt f a h w) : Ms G σ h w := ⟨hs.ai, hs.so, hs.ma⟩

/- FUNCTIONS WITHOUT A BODY -/
theorem next_noEscape : Extern.allNextRows.lookup nmNoEscape = none := by kernel_rfl
theorem next_index : Extern.allNextRows.lookup nmIndexByte = none := by kernel_rfl
theorem next_empty : Extern.allNextRows.lookup "" = none := by kernel_rfl
theorem gen_noEscape : Extern.allGenericRows.lookup nmNoEscape = none := by kernel_rfl
theorem gen_index : Extern.allGenericRows.lookup nmIndexByte = none := by kernel_rfl
theorem typed_noEscape : Extern.allTypedRows.lookup nmNoEscape = none := by kernel_rfl
theorem typed_index : Extern.allTypedRows.lookup nmIndexByte = none := by kernel_rfl
theorem row_noEscape : Extern.allRows.lookup nmNoEscape = some Extern.AbiNoEscape.same := by kernel_rfl
theorem row_index : Extern.allRows.lookup nmIndexByte = some Extern.BytealgIndexByte.indexByte := by kernel_rfl
theorem sidx_eq (c : UInt8) : ∀ (l : List UInt8) (i : Nat), sidx c.toNat (l.map UInt8.toNat) i = if Lib.indexByte l c = -1 then -1 else Lib.indexByte l c + i
  | [], i => rfl
  | x :: l, i => by
    have ih := sidx_eq c l (i + 1)
    have hge := Lib.indexByte_ge l c
    show Bool.rec (motive := fun _ => Int) (sidx c.toNat (l.map UInt8.toNat) (Nat.succ i)) (.ofNat i) (Nat.beq x.toNat c.toNat) = _
    unfold Lib.indexByte
    by_cases hx : x = c
    · subst hx
      simp
    · have hne : Nat.beq x.toNat c.toNat = false := by
        cases hb : Nat.beq x.toNat c.toNat with
        | false => rfl
        | true => exact absurd (UInt8.toNat_inj.1 (beq_eqN hb)) hx
      rw [hne]
      show sidx c.toNat (l.map UInt8.toNat) (Nat.succ i) = _
      rw [ih, if_neg (show ¬ ((x == c) = true) by simpa using hx)]
      by_cases hi : Lib.indexByte l c = -1
      · simp [hi]
      · have hi' : (Lib.indexByte l c == -1) = false := by simpa using hi
        rw [if_neg hi, hi']
        simp only [Bool.false_eq_true, if_false]
        rw [if_neg (by omega)]
        omega
theorem ext_sound {g : FuncId} {args : List AV} {args' : Array Value} (he : aExt (extKind P g) args h = .ok v h') (hr : LRel σ args args'.toList) (hnb : bodied P g = false) :
    ∃ v', (callFunc g args').run P w = .ok (.value v') w ∧ VRel σ v v' ∧ h' = h := by
  unfold aExt at he
  split at he
  · rename_i x hk
    obtain ⟨rfl, rfl⟩ := ok_inj he
    obtain ⟨y, l, hl, hv, hl2⟩ := hr.uncons
    have hl3 := hl2.unnil
    subst hl3
    have hargs : args' = #[y] := by
      have := congrArg List.toArray hl
      simpa using this
    subst hargs
    unfold extKind at hk
    split at hk
    · rename_i fn hf
      split at hk
      · cases hk
      · rename_i hbody
        split at hk
        · rename_i hor
          split at hk
          · rename_i hn
            refine ⟨y, ?_, hv, rfl⟩
            have hbn : fn.body = none := by simpa using hbody
            have h1 : Extern.findNext fn = none := by simp [Extern.findNext, hn, hor, next_noEscape, next_empty]
            have h2 : Extern.find fn = some Extern.AbiNoEscape.same := by simp [Extern.find, hn, gen_noEscape, typed_noEscape, row_noEscape]
            have h3 : (Extern.AbiNoEscape.same #[y]).run P w = .ok y w := rfl
            simp [callFunc, hf, hn, hbn, h1, h2, mark, Sem.run]
            rw [h3]
            rfl
          · split at hk <;> cases hk
        · cases hk
    · cases hk
  · rename_i s c hk
    split at he
    · rename_i sb n hs hn
      obtain ⟨rfl, rfl⟩ := ok_inj he
      have hss := vS_yes hs
      subst hss
      obtain ⟨hc, hlt⟩ := byteOfA_some hn
      subst hc
      obtain ⟨y, l, hl, hv, hl2⟩ := hr.uncons
      obtain ⟨y2, l2, rfl, hv2, hl3⟩ := hl2.uncons
      have hl4 := hl3.unnil
      subst hl4
      have hargs : args' = #[y, y2] := by
        have := congrArg List.toArray hl
        simpa using this
      subst hargs
      obtain ⟨bs, rfl, rfl⟩ := str_rel hv
      cases hv2
      unfold extKind at hk
      split at hk
      · rename_i fn hf
        split at hk
        · cases hk
        · rename_i hbody
          split at hk
          · rename_i hor
            split at hk
            · cases hk
            · rename_i hn1
              split at hk
              · rename_i hn2
                have hbn : fn.body = none := by simpa using hbody
                have h1 : Extern.findNext fn = none := by simp [Extern.findNext, hn2, hor, next_index, next_empty]
                have h2 : Extern.find fn = some Extern.BytealgIndexByte.indexByte := by simp [Extern.find, hn2, gen_index, typed_index, row_index]
                refine ⟨.int .i64 (Lib.indexByte bs.data.toList (UInt8.ofNat n)), ?_, ?_, rfl⟩
                · have := Lib.run_indexByteString (P := P) bs (Int.ofNat n) w
                  have e : (Int.ofNat n).toNat.toUInt8 = UInt8.ofNat n := rfl
                  rw [e] at this
                  simp [callFunc, hf, hn2, hbn, h1, h2, mark, Sem.run]
                  rw [show (Extern.BytealgIndexByte.indexByte #[Value.string bs, Value.int IntKind.u8 (↑n : Int)]).run P w = _ from this]
                  rfl
                · have e := sidx_eq (UInt8.ofNat n) bs.data.toList 0
                  have hnn : (UInt8.ofNat n).toNat = n := by simp [UInt8.toNat_ofNat, Nat.mod_eq_of_lt hlt]
                  rw [hnn] at e
                  have e2 : sidx n (bytesOf bs) 0 = Lib.indexByte bs.data.toList (UInt8.ofNat n) := by
                    show sidx n (bs.data.toList.map UInt8.toNat) 0 = _
                    rw [e]
                    split
                    · rename_i hq; exact hq.symm
                    · simp
                  rw [e2]
                  exact .int _ _
              · cases hk
          · cases hk
      · cases hk
    · cases he
  · cases he
end Go.Ev

/- Calls, as the machine runs them. -/
set_option linter.unusedSimpArgs false
set_option linter.unusedVariables false
namespace Go.Ev
variable {P : Program} {G : Nat} {σ : Sig} {h h' : H} {w w' : World} {v : AV} {nt : Nat} {f : L2} {a : Act} {ctx : CallT} {b : FB} {cs : List Frame}

def NextRuns (P : Program) (r : Result Next) (v' : Value) (w' : World) : Prop :=
  r = .ok (.value v') w' ∨ (∃ g args w0, r = .ok (.enter g args) w0 ∧ ∀ c cs, Steps P (lone (Frame.enter P g args .normal) (c :: cs) w0) (lone (c.finish v') cs w')) ∨
    ∃ l g tmps as bd w0, r = .ok (.round l g tmps as bd) w0 ∧ ∀ c cs, Steps P (lone (Frame.round l g tmps as bd .normal) (c :: cs) w0) (lone (c.finish v') cs w')
theorem OpRun.next {o : Oper} {v' : Value} (hd : ∀ c, o.op ≠ .defer c) (hn : NextRuns P ((execOp a.eval o).run P w) v' w') : OpRun P b o a w v' w' := by
  rcases hn with hn | ⟨g, args, w0, hn, hs⟩ | ⟨l, g, tmps, as, bd, w0, hn, hs⟩
  · exact .ran hd (.inl hn)
  · intro ops i rest k cs ho hw hc
    have hf := FB.finish_at b a ops i rest k v'
    rw [ho] at hf
    refine .head (s_enter ho hw (.inr hd) hn) ?_
    have := hs (b.at a (.inRegion ops (i :: rest) :: k)) cs
    rw [hf] at this
    exact this
  · intro ops i rest k cs ho hw hc
    have hf := FB.finish_at b a ops i rest k v'
    rw [ho] at hf
    refine .head (s_round ho hw (.inr hd) hn) ?_
    have := hs (b.at a (.inRegion ops (i :: rest) :: k)) cs
    rw [hf] at this
    exact this
theorem bodied_some {g : FuncId} (hb : bodied P g = true) : ∃ fn c, P.funcs[g]? = some fn ∧ fn.body = some c ∧ (fn.name == "runtime.NumGoroutine") = false := by
  unfold bodied at hb
  split at hb
  · rename_i fn hf
    rw [Bool.and_eq_true] at hb
    obtain ⟨c, hc⟩ := Option.isSome_iff_exists.1 hb.2
    exact ⟨fn, c, hf, hc, by simpa using hb.1⟩
  · cases hb
theorem run_callFunc {g : FuncId} (hb : bodied P g = true) (args : Array Value) (w : World) : (callFunc g args).run P w = .ok (.enter g args) w := by
  obtain ⟨fn, c, h1, h2, h3⟩ := bodied_some hb
  have h3' : ¬ fn.name = "runtime.NumGoroutine" := by simpa using h3
  simp [callFunc, h1, h2, h3', Sem.run]
theorem aCall_sound (hc : CtxSound P G ctx) {g : FuncId} {args : List AV} {args' : Array Value} (he : aCall P ctx g args h = .ok v h') (hr : LRel σ args args'.toList) (hm : Ms G σ h w) (hg : GOk G σ) (hl : h'.nx ≤ lim) (hf : Free σ h h') :
    ∃ σ' v' w', VRel σ' v v' ∧ Out G σ h w σ' h' w' ∧ NextRuns P ((callFunc g args').run P w) v' w' := by
  rcases ite_ok he with ⟨hb, he⟩ | ⟨hb, he⟩
  · obtain ⟨σ', v', w', a', fn, h1, h2, h3, h4, h5, h6⟩ := hc.call g args h h' v σ w args' .normal he hb hr hm hg hl hf
    refine ⟨σ', v', w', h2, h3, .inr (.inl ⟨g, args', w, run_callFunc hb args' w, fun c cs => ?_⟩)⟩
    obtain ⟨k', h7⟩ := h6 (c :: cs) (.inl rfl)
    exact h7.trans (.one (s_back h4 rfl h1 h5))
  · obtain ⟨v', h1, h2, rfl⟩ := ext_sound (w := w) he hr hb
    exact ⟨σ, v', w, h2, Out.refl hm.ai hm.so hm.ma, .inl h1⟩
theorem run_method {t : TypeId} {name : String} {g : FuncId} (hm : methOf P t name = some g) (x : Value) (args : Array Value) (w : World) :
    (callMethod (.iface t x) name args).run P w = (callFunc g (#[x] ++ args)).run P w := by
  unfold methOf at hm
  split at hm
  · rename_i i hi
    split at hm
    · rename_i m hm0
      obtain ⟨n, hfu⟩ : ∃ n, P.types.size + Made.depth = n + 1 := ⟨P.types.size + 99, rfl⟩
      split at hm
      · rename_i e q1 q2 q3
        cases hm
        have q1' : m.path = #[] := by simpa using q1
        simp [callMethod, hfu, method, typeInfo, hi, hm0, q1', follow, q2, receiverAt, underlying, q3, Place.get]
      · cases hm
      · rename_i d hne q1 q2 q3
        cases hm
        have q1' : m.path = #[] := by simpa using q1
        cases d <;> first | (exact absurd rfl (hne _)) | simp [callMethod, hfu, method, typeInfo, hi, hm0, q1', follow, q2, receiverAt, underlying, q3, Place.get]
      · cases hm
    · cases hm
  · cases hm
theorem aMeth_sound (hc : CtxSound P G ctx) {r : AV} {r' : Value} {name : String} {args : List AV} {args' : Array Value} (he : aMeth P ctx r name args h = .ok v h') (hv : VRel σ r r') (hr : LRel σ args args'.toList) (hm : Ms G σ h w)
    (hg : GOk G σ) (hl : h'.nx ≤ lim) (hf : Free σ h h') : ∃ σ' v' w', VRel σ' v v' ∧ Out G σ h w σ' h' w' ∧ NextRuns P ((callMethod r' name args').run P w) v' w' := by
  unfold aMeth at he
  split at he
  · rename_i t x hx
    have := vIf_yes hx
    subst this
    cases hv
    rename_i x' hx'
    split at he
    · rename_i g hmm
      rw [run_method hmm]
      exact aCall_sound hc he (by simpa using LRel.cons hx' hr) hm hg hl hf
    · cases he
  · cases he
theorem aInvoke_sound (hc : CtxSound P G ctx) {fn : Fn} {cap args : List AV} {cap' args' : Array Value} (hy : ∀ l, fn ≠ .yield l) (he : aInvoke P ctx fn cap args h = .ok v h') (hcap : LRel σ cap cap'.toList) (hr : LRel σ args args'.toList)
    (hm : Ms G σ h w) (hg : GOk G σ) (hl : h'.nx ≤ lim) (hf : Free σ h h') : ∃ σ' v' w', VRel σ' v v' ∧ Out G σ h w σ' h' w' ∧ NextRuns P ((invoke (.fn fn cap') args').run P w) v' w' := by
  unfold aInvoke at he
  split at he
  · rename_i g
    rw [lapp_eq] at he
    have : (invoke (.fn (.func g) cap') args').run P w = (callFunc g (args' ++ cap')).run P w := by simp [invoke]
    rw [this]
    exact aCall_sound hc he (by simpa using hr.append hcap) hm hg hl hf
  · rename_i name
    split at he
    · rename_i r rest
      obtain ⟨y, l, hl1, hv, hl2⟩ := hr.uncons
      have hargs : args' = (y :: l).toArray := by
        have := congrArg List.toArray hl1
        simpa using this
      subst hargs
      have : (invoke (.fn (.method name) cap') (y :: l).toArray).run P w = (callMethod y name l.toArray).run P w := by
        have e : (y :: l).toArray.extract 1 (y :: l).toArray.size = l.toArray := by simp
        simp only [invoke]
        rw [e]
        simp
      rw [this]
      exact aMeth_sound hc he hv (by simpa using hl2) hm hg hl hf
    · cases he
  · exact absurd rfl (hy _)
  · cases he
theorem cv_sound (hc : CtxSound P G ctx) {x : AV} {x' : Value} {args : List AV} {args' : Array Value} (he : cvV x args P ctx h = .ok v h') (hx : VRel σ x x') (hr : LRel σ args args'.toList) (hm : Ms G σ h w) (hg : GOk G σ) (hl : h'.nx ≤ lim)
    (hf : Free σ h h') : ∃ d, (∀ w, (Deferred.ofValue x' args').run P w = .ok d w) ∧ ∃ σ' v' w', VRel σ' v v' ∧ Out G σ h w σ' h' w' ∧ NextRuns P ((invoke d.target d.args).run P w) v' w' := by
  cases hx <;> first | (cases he; done) | skip
  · rename_i fn as cs as' cs' hy ha ha' hca hca'
    have he' : aInvoke P ctx fn cs (lapp as args) h = .ok v h' := he
    rw [lapp_eq] at he'
    refine ⟨{ target := .fn fn cs', args := as' ++ args' }, fun w => by simp [Deferred.ofValue, Sem.run], ?_⟩
    exact aInvoke_sound hc hy he' ⟨hca, hca'⟩ (by simpa using LRel.append (⟨ha, ha'⟩ : LRel σ as as'.toList) hr) hm hg hl hf
  · rename_i l e hle
    have he' : ctx.round l args h = .ok v h' := he
    refine ⟨{ target := .fn (.yield e.c) #[], args := #[] ++ args' }, fun w => by simp [Deferred.ofValue, Sem.run], ?_⟩
    obtain ⟨σ', v', w', g, tmps, as, bd, h1, h2, h3, h4⟩ := hc.round l args h h' v σ w args' e he' hle hr hm hg hl hf
    refine ⟨σ', v', w', h1, h2, .inr (.inr ⟨e.c, g, tmps, as, bd, w, ?_, h4⟩)⟩
    simp [invoke, h3]
/- PANICS -/
def NextPans (P : Program) (r : Result Next) (v' : Value) (w' : World) : Prop :=
  r = .halt (.panic v') w' ∨ ∃ g args w0, r = .ok (.enter g args) w0 ∧ ∀ c cs, Steps P (lone (Frame.enter P g args .normal) (c :: cs) w0) (lone (c.raise [{ v := v', recovered := false }]) cs w')
def OpPans (P : Program) (b : FB) (o : Oper) (a : Act) (w : World) (v' : Value) (w' : World) : Prop :=
  ∀ (ops : Array Oper) (i : Nat) (rest : List Nat) (k : List Item) (cs : List Frame), ops[i]? = some o → Region.wanted o (yielded ops a.tmps) = true →
    Steps P (lone (b.at a (.inRegion ops (i :: rest) :: k)) cs w) (lone (b.pan a (.inRegion ops (i :: rest) :: k) v' false) cs w')
theorem OpPans.next {o : Oper} {v' : Value} (hd : ∀ c, o.op ≠ .defer c) (hn : NextPans P ((execOp a.eval o).run P w) v' w') : OpPans P b o a w v' w' := by
  rcases hn with hn | ⟨g, args, w0, hn, hs⟩
  · exact fun ops i rest k cs ho hw => .one (s_panic ho hw hd hn)
  · intro ops i rest k cs ho hw
    refine .head (s_enter ho hw (.inr hd) hn) ?_
    exact hs (b.at a (.inRegion ops (i :: rest) :: k)) cs
theorem aExt_pan {k : Nat} {args : List AV} (he : aExt k args h = .pan v h') : False := by
  unfold aExt at he
  split at he
  · cases he
  · split at he <;> cases he
  · cases he
theorem ite_pan {c : Bool} {x y : OR} (he : (Bool.rec (motive := fun _ => OR) y x c : OR) = .pan v h') : (c = true ∧ x = .pan v h') ∨ (c = false ∧ y = .pan v h') := by
  cases c
  · exact .inr ⟨rfl, he⟩
  · exact .inl ⟨rfl, he⟩
theorem aCall_pan (hc : CtxSound P G ctx) {g : FuncId} {args : List AV} {args' : Array Value} (he : aCall P ctx g args h = .pan v h') (hr : LRel σ args args'.toList) (hm : Ms G σ h w) (hg : GOk G σ) (hl : h'.nx ≤ lim) (hf : Free σ h h') :
    ∃ σ' v' w', VRel σ' v v' ∧ Out G σ h w σ' h' w' ∧ NextPans P ((callFunc g args').run P w) v' w' := by
  rcases ite_pan he with ⟨hb, he⟩ | ⟨hb, he⟩
  · obtain ⟨σ', v', w', h2, h3, h6⟩ := hc.pan g args h h' v σ w args' he hb hr hm hg hl hf
    exact ⟨σ', v', w', h2, h3, .inr ⟨g, args', w, run_callFunc hb args' w, h6⟩⟩
  · exact (aExt_pan he).elim
theorem aMeth_pan (hc : CtxSound P G ctx) {r : AV} {r' : Value} {name : String} {args : List AV} {args' : Array Value} (he : aMeth P ctx r name args h = .pan v h') (hv : VRel σ r r') (hr : LRel σ args args'.toList) (hm : Ms G σ h w)
    (hg : GOk G σ) (hl : h'.nx ≤ lim) (hf : Free σ h h') : ∃ σ' v' w', VRel σ' v v' ∧ Out G σ h w σ' h' w' ∧ NextPans P ((callMethod r' name args').run P w) v' w' := by
  unfold aMeth at he
  split at he
  · rename_i t x hx
    have := vIf_yes hx
    subst this
    cases hv
    rename_i x' hx'
    split at he
    · rename_i g hmm
      rw [run_method hmm]
      exact aCall_pan hc he (by simpa using LRel.cons hx' hr) hm hg hl hf
    · cases he
  · cases he
theorem aInvoke_pan (hc : CtxSound P G ctx) {fn : Fn} {cap args : List AV} {cap' args' : Array Value} (hy : ∀ l, fn ≠ .yield l) (he : aInvoke P ctx fn cap args h = .pan v h') (hcap : LRel σ cap cap'.toList) (hr : LRel σ args args'.toList)
    (hm : Ms G σ h w) (hg : GOk G σ) (hl : h'.nx ≤ lim) (hf : Free σ h h') : ∃ σ' v' w', VRel σ' v v' ∧ Out G σ h w σ' h' w' ∧ NextPans P ((invoke (.fn fn cap') args').run P w) v' w' := by
  unfold aInvoke at he
  split at he
  · rename_i g
    rw [lapp_eq] at he
    have : (invoke (.fn (.func g) cap') args').run P w = (callFunc g (args' ++ cap')).run P w := by simp [invoke]
    rw [this]
    exact aCall_pan hc he (by simpa using hr.append hcap) hm hg hl hf
  · rename_i name
    split at he
    · rename_i r rest
      obtain ⟨y, l, hl1, hv, hl2⟩ := hr.uncons
      have hargs : args' = (y :: l).toArray := by
        have := congrArg List.toArray hl1
        simpa using this
      subst hargs
      have : (invoke (.fn (.method name) cap') (y :: l).toArray).run P w = (callMethod y name l.toArray).run P w := by
        have e : (y :: l).toArray.extract 1 (y :: l).toArray.size = l.toArray := by simp
        simp only [invoke]
        rw [e]
        simp
      rw [this]
      exact aMeth_pan hc he hv (by simpa using hl2) hm hg hl hf
    · cases he
  · exact absurd rfl (hy _)
  · cases he
theorem cv_pan (hc : CtxSound P G ctx) {x : AV} {x' : Value} {args : List AV} {args' : Array Value} (he : cvV x args P ctx h = .pan v h') (hx : VRel σ x x') (hr : LRel σ args args'.toList) (hm : Ms G σ h w) (hg : GOk G σ) (hl : h'.nx ≤ lim)
    (hf : Free σ h h') : ∃ d, (∀ w, (Deferred.ofValue x' args').run P w = .ok d w) ∧ ∃ σ' v' w', VRel σ' v v' ∧ Out G σ h w σ' h' w' ∧ NextPans P ((invoke d.target d.args).run P w) v' w' := by
  cases hx <;> first | (cases he; done) | skip
  · rename_i fn as cs as' cs' hy ha ha' hca hca'
    have he' : aInvoke P ctx fn cs (lapp as args) h = .pan v h' := he
    rw [lapp_eq] at he'
    refine ⟨{ target := .fn fn cs', args := as' ++ args' }, fun w => by simp [Deferred.ofValue, Sem.run], ?_⟩
    exact aInvoke_pan hc hy he' ⟨hca, hca'⟩ (by simpa using LRel.append (⟨ha, ha'⟩ : LRel σ as as'.toList) hr) hm hg hl hf
  · rename_i l e hle
    have he' : ctx.round l args h = .pan v h' := he
    exact absurd he' (hc.rpan _ _ _ _ _)
theorem bui_sound (bi : Builtin) {ts : List TypeId} {tsA : Array TypeId} {ty : TypeId} {cns : Array Bool} {args : List AV} {args' : Array Value} (hts : tsA.toList = ts) (he : aBuiltin bi ts args P h = .ok v h') (hr : LRel σ args args'.toList)
    (hm : Ms G σ h w) (hl : h'.nx ≤ lim) (hf : Free σ h h') : ∃ σ' v' w', VRel σ' v v' ∧ Out G σ h w σ' h' w' ∧ (builtin bi tsA ty cns args').run P w = .ok (.value v') w' := by
  have key : ∀ (s : Sem Value), BOut P G σ h w s v h' → ∃ σ' v' w', VRel σ' v v' ∧ Out G σ h w σ' h' w' ∧ (do pure (Next.value (← s)) : Sem Next).run P w = .ok (.value v') w' := by
    rintro s ⟨σ', v', w', h1, h2, h3⟩
    exact ⟨σ', v', w', h2, h3, by simp [h1]⟩
  have hget : ∀ (i : Nat) (t : TypeId), ts[i]? = some t → tsA[i]? = some t := by
    intro i t ht
    rw [← hts] at ht
    simpa using ht
  have arr1 : ∀ x, args = [x] → ∃ y, args' = #[y] ∧ VRel σ x y := by
    rintro x rfl
    obtain ⟨y, l, hl1, hv, hl2⟩ := hr.uncons
    have := hl2.unnil
    subst this
    exact ⟨y, by simpa using congrArg List.toArray hl1, hv⟩
  have arr2 : ∀ x y, args = [x, y] → ∃ x' y', args' = #[x', y'] ∧ VRel σ x x' ∧ VRel σ y y' := by
    rintro x y rfl
    obtain ⟨x', l, hl1, hv, hl2⟩ := hr.uncons
    obtain ⟨y', l2, rfl, hv2, hl3⟩ := hl2.uncons
    have := hl3.unnil
    subst this
    exact ⟨x', y', by simpa using congrArg List.toArray hl1, hv, hv2⟩
  unfold aBuiltin at he
  split at he
  · split at he
    · rename_i t t2 _ s x
      rcases ite_ok he with ⟨hni, he⟩ | ⟨_, he⟩
      · obtain ⟨s', x', rfl, hs, hx⟩ := arr2 s x rfl
        exact key _ (append1_sound he hs hx hm (hget 0 t (by simp)) (hget 1 t2 (by simp)) hni hl hf)
      · cases he
    · cases he
  · split at he
    · rename_i t _ x
      obtain ⟨x', rfl, hx⟩ := arr1 x rfl
      exact key _ (lnK_sound he hx hm (hget 0 t (by simp)))
    · cases he
  · split at he
    · rename_i t _ d s
      obtain ⟨d', s', rfl, hd, hs⟩ := arr2 d s rfl
      exact key _ (copyA_sound he hd hs hm (hget 0 t (by simp)))
    · cases he
  · exact key _ (by simpa using mm_sound true (ts := tsA) (ty := ty) he hr hm)
  · exact key _ (by simpa using mm_sound false (ts := tsA) (ty := ty) he hr hm)
  · split at he
    · rename_i t _ x
      obtain ⟨x', rfl, hx⟩ := arr1 x rfl
      split at he
      · rename_i hk
        exact key _ (capV_sound hk he hx hm (hget 0 t (by simp)))
      · cases he
    · cases he
  · split at he
    · rename_i x
      obtain ⟨x', rfl, hx⟩ := arr1 x rfl
      exact key _ (sdV_sound he hx hm)
    · cases he
  · split at he
    · rename_i t t2 p n
      obtain ⟨p', n', rfl, hp, hn⟩ := arr2 p n rfl
      exact key _ (usV_sound he hp hn hm (by simpa using congrArg List.toArray hts))
    · cases he
  · cases he
end Go.Ev

/- Every operation that the evaluator runs. -/
set_option linter.unusedSimpArgs false
set_option linter.unusedVariables false
namespace Go.Ev
variable {P : Program} {G : Nat} {σ : Sig} {h h' : H} {w w' : World} {v : AV} {nt : Nat} {f : L2} {a : Act} {ctx : CallT} {b : FB} {cs : List Frame}

theorem args_rel {c : Call} (hop : (Op.call c).operands.toList.all (opdOk G) = true) (hs : St G σ nt f a h w) : LRel σ (evs c.args.toList f) (c.args.map a.eval).toList := by
  have := evs_rel hs.fr hs.gl c.args.toList (by
    rw [List.all_eq_true] at hop ⊢
    intro x hx
    exact hop x (by simp only [Op.operands, Call.operands, Array.toList_append, List.mem_append]; exact .inr hx))
  simpa using this
theorem call_sound (hc : CtxSound P G ctx) {dst : Option Tmp} {ty : TypeId} {pos : String} {af : Array Edge} {gd : Option (Nat × Bool)} (c : Call) : OpSound P G ctx ⟨dst, .call c, ty, pos, af, gd⟩ := by
  intro σ nt f a h h' w v b he hop hs hb hl hf
  have hd : ∀ d, (Oper.mk dst (.call c) ty pos af gd).op ≠ .defer d := fun d hd => by cases hd
  have har := args_rel hop hs
  obtain ⟨callee, args, argTypes⟩ := c
  dsimp only at har
  have he' : ceD callee args.toList argTypes.toList P ctx f h = .ok v h' := he
  cases callee with
  | value g =>
    have hgx : VRel σ (ev g f) (a.eval g) := ev_rel hs.fr hs.gl g (by
      rw [List.all_eq_true] at hop
      exact hop g (by simp [Op.operands, Call.operands]))
    obtain ⟨d, hd1, σ', v', w', h1, h2, h3⟩ := cv_sound hc (args' := args.map a.eval) he' hgx har hs.ms hs.gl hl hf
    refine ⟨σ', v', w', h1, h2, .next hd ?_⟩
    have : (execOp a.eval ⟨dst, .call ⟨.value g, args, argTypes⟩, ty, pos, af, gd⟩).run P w = (invoke d.target d.args).run P w := by
      simp [execOp, resolve, Sem.run_bind, hd1]
    rw [this]
    exact h3
  | invoke r name =>
    have hgx : VRel σ (ev r f) (a.eval r) := ev_rel hs.fr hs.gl r (by
      rw [List.all_eq_true] at hop
      exact hop r (by simp [Op.operands, Call.operands]))
    obtain ⟨σ', v', w', h1, h2, h3⟩ := aMeth_sound hc (args' := args.map a.eval) he' hgx har hs.ms hs.gl hl hf
    refine ⟨σ', v', w', h1, h2, .next hd ?_⟩
    have : (execOp a.eval ⟨dst, .call ⟨.invoke r name, args, argTypes⟩, ty, pos, af, gd⟩).run P w = (callMethod (a.eval r) name (args.map a.eval)).run P w := by
      have e : (#[a.eval r] ++ args.map a.eval).extract 1 (#[a.eval r] ++ args.map a.eval).size = args.map a.eval := by
        apply Array.ext'
        simp
        exact List.take_of_length_le (by simp)
      simp only [execOp, resolve, Sem.run_bind, Sem.run_pure, Result.andThen_ok, invoke]
      rw [e]
      have e0 : (#[a.eval r] ++ args.map a.eval)[0]? = some (a.eval r) := by
        rw [Array.getElem?_append_left (by show 0 < 1; omega)]
        rfl
      rw [e0]
    rw [this]
    exact h3
  | builtin bi =>
    have he2 : ceBui bi args.toList argTypes.toList P ctx f h = .ok v h' := he'
    unfold ceBui at he2
    split at he2
    · have he3 : recV (vT (f.get dslot)) h = .ok v h' := he2
      unfold recV at he3
      split at he3
      · rename_i l hvt
        obtain ⟨rfl, rfl⟩ := ok_inj he3
        have hro : b.ro = none := by
          rcases hb with ⟨h1, _⟩ | ⟨_, c, l2, e, h1, h2, _⟩
          · exact h1
          · rw [h2] at hvt; cases hvt
        refine ⟨σ, .nilIface, w, .nifc, Out.refl hs.ai hs.so hs.ma, ?_⟩
        intro ops i rest k cs ho hw hcm
        refine .one (s_recover ho hw hro (hcm.recover a) ?_)
        simp [execOp, resolve, invoke, builtin]
      · cases he3
    · obtain ⟨cns, hcns⟩ : ∃ cns, (execOp a.eval ⟨dst, .call ⟨.builtin bi, args, argTypes⟩, ty, pos, af, gd⟩).run P w = (builtin bi argTypes ty cns (args.map a.eval)).run P w :=
        ⟨_, by simp only [execOp, resolve, Sem.run_bind, Sem.run_pure, Result.andThen_ok, invoke]; rfl⟩
      obtain ⟨σ', v', w', h1, h2, h3⟩ := bui_sound bi (tsA := argTypes) (ty := ty) (cns := cns) rfl he2 har hs.ms hl hf
      refine ⟨σ', v', w', h1, h2, .next hd (.inl ?_)⟩
      rw [hcns]
      exact h3
/-- an operation that panics -/
theorem op_pan (hc : CtxSound P G ctx) (o : Oper) (hpo : panOp o.op = true) (he : opD o.op o.type P ctx f h = .pan v h') (hop : o.op.operands.toList.all (opdOk G) = true) (hs : St G σ nt f a h w) (hl : h'.nx ≤ lim) (hf : Free σ h h') :
    ∃ σ' v' w', VRel σ' v v' ∧ Out G σ h w σ' h' w' ∧ OpPans P b o a w v' w' := by
  obtain ⟨dst, op, ty, pos, af, gd⟩ := o
  cases op <;> first | (cases hpo; done) | skip
  case panic x =>
    have he' : panV (ev x f) h = .pan v h' := he
    have hgx : VRel σ (ev x f) (a.eval x) := ev_rel hs.fr hs.gl x (by
      rw [List.all_eq_true] at hop
      exact hop x (by simp [Op.operands]))
    unfold panV at he'
    split at he'
    · rename_i t y hy
      have hy := vIf_yes hy
      cases he'
      refine ⟨σ, a.eval x, w, hgx, Out.refl hs.ai hs.so hs.ma, .next (fun d hd => by cases hd) (.inl ?_)⟩
      rw [hy] at hgx
      generalize hxx : a.eval x = xx at hgx
      cases hgx
      simp [execOp, hxx, Instr.panic, goPanic, Sem.run]
    · cases he'
  case call c =>
    have hd : ∀ d, (Oper.mk dst (.call c) ty pos af gd).op ≠ .defer d := fun d hd => by cases hd
    have har := args_rel hop hs
    obtain ⟨callee, args, argTypes⟩ := c
    dsimp only at har
    have he' : ceD callee args.toList argTypes.toList P ctx f h = .pan v h' := he
    cases callee with
    | value g =>
      have hgx : VRel σ (ev g f) (a.eval g) := ev_rel hs.fr hs.gl g (by
        rw [List.all_eq_true] at hop
        exact hop g (by simp [Op.operands, Call.operands]))
      obtain ⟨d, hd1, σ', v', w', h1, h2, h3⟩ := cv_pan hc (args' := args.map a.eval) he' hgx har hs.ms hs.gl hl hf
      refine ⟨σ', v', w', h1, h2, .next hd ?_⟩
      have : (execOp a.eval ⟨dst, .call ⟨.value g, args, argTypes⟩, ty, pos, af, gd⟩).run P w = (invoke d.target d.args).run P w := by
        simp [execOp, resolve, Sem.run_bind, hd1]
      rw [this]
      exact h3
    | invoke r name =>
      have hgx : VRel σ (ev r f) (a.eval r) := ev_rel hs.fr hs.gl r (by
        rw [List.all_eq_true] at hop
        exact hop r (by simp [Op.operands, Call.operands]))
      obtain ⟨σ', v', w', h1, h2, h3⟩ := aMeth_pan hc (args' := args.map a.eval) he' hgx har hs.ms hs.gl hl hf
      refine ⟨σ', v', w', h1, h2, .next hd ?_⟩
      have : (execOp a.eval ⟨dst, .call ⟨.invoke r name, args, argTypes⟩, ty, pos, af, gd⟩).run P w = (callMethod (a.eval r) name (args.map a.eval)).run P w := by
        have e : (#[a.eval r] ++ args.map a.eval).extract 1 (#[a.eval r] ++ args.map a.eval).size = args.map a.eval := by
          apply Array.ext'
          simp
          exact List.take_of_length_le (by simp)
        simp only [execOp, resolve, Sem.run_bind, Sem.run_pure, Result.andThen_ok, invoke]
        rw [e]
        have e0 : (#[a.eval r] ++ args.map a.eval)[0]? = some (a.eval r) := by
          rw [Array.getElem?_append_left (by show 0 < 1; omega)]
          rfl
        rw [e0]
      rw [this]
      exact h3
    | builtin bi => cases hpo
theorem op_sound (hc : CtxSound P G ctx) (o : Oper) : OpSound P G ctx o := by
  obtain ⟨dst, op, ty, pos, af, gd⟩ := o
  cases op
  case move x => exact (good_move x).to3.sound
  case assign x => exact (good_assign x).to3.sound
  case pick c x y => exact (good_pick c x y).to3.sound
  case alloc e => exact (good_alloc e).to3.sound
  case box e x => exact (good_box e x).to3.sound
  case build t p => exact (good_build t p).to3.sound
  case buildSlice t n p => exact (good_buildSlice t n p).to3.sound
  case insert t m k x => exact (good3_insert t m k x).sound
  case load t x => exact (good3_load t x).sound
  case store t x y => exact (good3_store t x y).sound
  case nilCheck x => exact (good_nilCheck x).to3.sound
  case binOp op t x y yt => exact (good_binOp op t x y yt).to3.sound
  case unOp op t x => exact (good_unOp op t x).to3.sound
  case convert s d x => exact (good3_convert s d x).sound
  case makeInterface t x => exact (good_makeIface t x).to3.sound
  case makeFunc fn x y => exact (good_makeFunc fn x y).to3.sound
  case makeMap t r => exact (good3_makeMap t r).sound
  case makeSlice t x y => exact (good3_makeSlice t x y).sound
  case slice t x lo hi mx => exact (good_slice t x lo hi mx).to3.sound
  case fieldAddr t x i => exact (good_fieldAddr t x i).to3.sound
  case field t x i => exact (good_field t x i).to3.sound
  case indexAddr t x i => exact (good_indexAddr t x i).to3.sound
  case index t x i => exact (good_index t x i).to3.sound
  case lookup t x i ok => exact (good3_lookup t x i ok).sound
  case mapUpdate t m k x => exact (good3_mapUpdate t m k x).sound
  case typeAssert x xt t ok => exact (good_typeAssert x xt t ok).to3.sound
  case extract x i => exact (good_extract x i).to3.sound
  case call c => exact call_sound hc c
  case panic x =>
    intro σ nt f a h h' w v b he hop hs hb hl hf
    have he' : panV (ev x f) h = .ok v h' := he
    unfold panV at he'
    split at he' <;> cases he'
  all_goals
    intro σ nt f a h h' w v b he hop hs hb hl hf
    cases he
end Go.Ev

/- Regions whose order is fixed. -/
set_option linter.unusedSimpArgs false
set_option linter.unusedVariables false
namespace Go.Ev
variable {P : Program} {G : Nat} {σ σ' : Sig} {h h' : H} {w w' : World} {v : AV} {nt : Nat} {f f' : L2} {a : Act} {ctx : CallT} {b : FB} {cs : List Frame}

theorem Free.left {h1 : H} (hf : Free σ h h') (h1n : h1.nx ≤ h'.nx) : Free σ h h1 := fun x h2 h3 => hf x h2 (by omega)
theorem Free.right {h1 : H} (hf : Free σ h h') (ho : Out G σ h w σ' h1 w') : Free σ' h1 h' := by
  obtain ⟨nw, a1, a2, _⟩ := ho
  intro x h2 h3
  have := a1.nx
  cases hx : σ' x with
  | none => rfl
  | some e => have := a2.fresh x e (hf x (by omega) h3) hx; omega
theorem Out.le (ho : Out G σ h w σ' h' w') : Sle σ σ' := by obtain ⟨_, _, a2, _⟩ := ho; exact a2.le
theorem Out.ms (ho : Out G σ h w σ' h' w') : Ms G σ' h' w' := by obtain ⟨_, a1, a2, a3⟩ := ho; exact ⟨a1.inv, a2.ok, a3⟩
theorem GOk.mono (hg : GOk G σ) (hs : Sle σ σ') : GOk G σ' := fun g h1 => by obtain ⟨e, h2, h3⟩ := hg g h1; exact ⟨e, hs _ _ h2, h3⟩
theorem St.next {a' : Act} (hs : St G σ nt f a h w) (ho : Out G σ h w σ' h' w') (hfr : FRel σ' nt f' a') : St G σ' nt f' a' h' w' :=
  ⟨hfr, hs.gl.mono ho.le, ho.ms.ai, ho.ms.so, ho.ms.ma⟩
theorem RBk.mono (hb : RBk b σ f) (hs : Sle σ σ') (hd : f'.get dslot = f.get dslot) : RBk b σ' f' := by
  rcases hb with ⟨h1, ds, h2⟩ | ⟨h0, c, l, e, h1, h2, h3, h4⟩
  · exact .inl ⟨h1, ds, by rw [hd, h2]⟩
  · exact .inr ⟨h0, c, l, e, h1, by rw [hd, h2], hs _ _ h3, h4⟩
theorem putD_get {d : Option Tmp} (hd : ∀ t : Nat, d = some t → t < 250) (u : Nat) (hu : u < 256) : (putD d v f).get u = if d = some u then v else f.get u := by
  cases d with
  | none => simp [putD]
  | some t =>
    show (f.set t v).get u = _
    rw [L2.get_set t u v f (Nat.lt_trans (hd t rfl) (by decide)) hu]
    by_cases h1 : u = t
    · subst h1; simp
    · rw [if_neg h1, if_neg (fun hh => h1 (by cases hh; rfl))]
theorem put_size (a : Act) (d : Option Tmp) (v : Value) : (a.put d v).tmps.size = a.tmps.size := by
  cases d <;> simp [Act.put]
theorem put_getD {d : Option Tmp} (hd : ∀ t : Nat, d = some t → t < a.tmps.size) (v' : Value) (u : Nat) : (a.put d v').tmps.getD u undef = if d = some u then v' else a.tmps.getD u undef := by
  cases d with
  | none => simp [Act.put]
  | some t =>
    have ht := hd t rfl
    show (a.tmps.setIfInBounds t v').getD u undef = _
    by_cases h1 : t = u
    · subst h1
      simp [Array.getD, ht]
    · rw [if_neg (fun hh => h1 (by cases hh; rfl))]
      simp only [Array.getD_eq_getD_getElem?]
      rw [Array.getElem?_setIfInBounds_ne h1]
theorem FRel.put {d : Option Tmp} {v' : Value} (hfr : FRel σ nt f a) (hd : ∀ t : Nat, d = some t → t < nt) (hnt : nt < 250) (hv : VRel σ v v') : FRel σ nt (putD d v f) (a.put d v') := by
  refine ⟨by rw [put_size]; exact hfr.size, ?_, ?_⟩
  · intro t ht
    rw [putD_get (fun u hu => Nat.lt_trans (hd u hu) hnt) t (Nat.lt_trans ht (by decide)), put_getD (fun u hu => by have := hd u hu; rw [hfr.size]; exact this)]
    split
    · exact hv
    · exact hfr.slot t ht
  · rw [putD_get (fun u hu => Nat.lt_trans (hd u hu) hnt) dslot (by decide), if_neg (fun hh => by have h1 : (255 : Nat) < nt := hd 255 hh; omega)]
    have : (a.put d v').defers = a.defers := by cases d <;> rfl
    rw [this]
    exact hfr.defers
/-- what an operation's guard says -/
noncomputable def gv (ops : Array Oper) (o : Oper) (f : L2) : WT := match guardOf ops o with | .always => .yes | .on t want => wantV (f.get t) want | .bad => .bad
theorem oper1_eq (ops : Array Oper) (o : Oper) : oper1 ops o P ctx f h = wantR (gv ops o f) o P ctx f h := by
  unfold oper1 gv
  cases guardOf ops o <;> rfl
theorem oper1_cases {ops : Array Oper} {o : Oper} {r : RC} (he : oper1 ops o P ctx f h = r) (hr : ∀ n, r ≠ .bad n) (hx : ∀ i f' h', r ≠ .ext i f' h') :
    (gv ops o f = .no ∧ r = .nrm (putD o.dst (.tup []) f) h) ∨
    (gv ops o f = .yes ∧ isDefer o.op = none ∧ ∃ v h', opD o.op o.type P ctx f h = .ok v h' ∧ r = .nrm (putD o.dst v f) h') ∨
    (gv ops o f = .yes ∧ ∃ c, isDefer o.op = some c ∧ oDefer c o.dst o.type P ctx f h = r) := by
  rw [oper1_eq] at he
  cases hg : gv ops o f with
  | no => rw [hg] at he; exact .inl ⟨rfl, he.symm⟩
  | bad => rw [hg] at he; exact absurd he.symm (hr _)
  | yes =>
    rw [hg] at he
    have he1 : op1 o o.dst o.type P ctx f h = r := he
    unfold op1 at he1
    cases hd : isDefer o.op with
    | none =>
      rw [hd] at he1
      have he2 : putR o.dst f h o.op (opD o.op o.type P ctx f h) = r := he1
      refine .inr (.inl ⟨rfl, rfl, ?_⟩)
      cases ho : opD o.op o.type P ctx f h with
      | bad n => rw [ho] at he2; exact absurd he2.symm (hr _)
      | ok v h' => rw [ho] at he2; exact ⟨v, h', rfl, he2.symm⟩
      | pan v h' =>
        rw [ho] at he2
        have he3 : (Bool.rec (motive := fun _ => RC) (.bad 208) (Bool.rec (motive := fun _ => RC) (.bad 208) (RC.ext panId (f.set pslot v) h') (Nat.ble h.nx h'.nx)) (panOp o.op) : RC) = r := he2
        cases h1 : panOp o.op with
        | false => rw [h1] at he3; exact absurd he3.symm (hr _)
        | true =>
          rw [h1] at he3
          dsimp only at he3
          cases h2 : Nat.ble h.nx h'.nx with
          | false => rw [h2] at he3; exact absurd he3.symm (hr _)
          | true => rw [h2] at he3; exact absurd he3.symm (hx _ _ _)
    | some c =>
      rw [hd] at he1
      exact .inr (.inr ⟨rfl, c, rfl, he1⟩)
theorem oper1_ext {ops : Array Oper} {o : Oper} {id : Nat} (he : oper1 ops o P ctx f h = .ext id f' h') : id = panId ∧ gv ops o f = .yes ∧ isDefer o.op = none ∧ panOp o.op = true ∧ h.nx ≤ h'.nx ∧ ∃ v, opD o.op o.type P ctx f h = .pan v h' ∧ f' = f.set pslot v := by
  rw [oper1_eq] at he
  cases hg : gv ops o f with
  | no => rw [hg] at he; cases he
  | bad => rw [hg] at he; cases he
  | yes =>
    rw [hg] at he
    have he1 : op1 o o.dst o.type P ctx f h = .ext id f' h' := he
    unfold op1 at he1
    cases hd : isDefer o.op with
    | none =>
      rw [hd] at he1
      have he2 : putR o.dst f h o.op (opD o.op o.type P ctx f h) = .ext id f' h' := he1
      cases ho : opD o.op o.type P ctx f h with
      | bad n => rw [ho] at he2; cases he2
      | ok v h1 => rw [ho] at he2; cases he2
      | pan v h1 =>
        rw [ho] at he2
        have he3 : (Bool.rec (motive := fun _ => RC) (.bad 208) (Bool.rec (motive := fun _ => RC) (.bad 208) (RC.ext panId (f.set pslot v) h1) (Nat.ble h.nx h1.nx)) (panOp o.op) : RC) = .ext id f' h' := he2
        cases hp1 : panOp o.op with
        | false => rw [hp1] at he3; cases he3
        | true =>
          rw [hp1] at he3
          dsimp only at he3
          cases h2 : Nat.ble h.nx h1.nx with
          | false => rw [h2] at he3; cases he3
          | true => rw [h2] at he3; cases he3; exact ⟨rfl, rfl, rfl, rfl, ble_le h2, v, rfl, rfl⟩
    | some c =>
      rw [hd] at he1
      have he2 : oDefer c o.dst o.type P ctx f h = .ext id f' h' := he1
      unfold oDefer at he2
      split at he2
      · unfold dfPush at he2
        split at he2 <;> cases he2
      · cases he2
theorem isDefer_some {o : Op} {c : Call} (hd : isDefer o = some c) : o = .defer c := by
  cases o <;> first | (cases hd; done) | skip
  cases hd; rfl
theorem gv_wanted {ops : Array Oper} {o : Oper} (hall : ∀ x ∈ ops.toList, operOk G nt x = true) (hfr : FRel σ nt f a) (hnt : nt < 250) :
    (gv ops o f = .yes → Region.wanted o (yielded ops a.tmps) = true) ∧ (gv ops o f = .no → Region.wanted o (yielded ops a.tmps) = false) := by
  unfold gv guardOf Region.wanted
  cases hg : o.guard with
  | none => exact ⟨fun _ => rfl, fun hh => by cases hh⟩
  | some jw =>
    obtain ⟨j, want⟩ := jw
    dsimp only
    cases hj : (ops[j]?).bind (·.dst) with
    | none => exact ⟨fun hh => (by change WT.bad = WT.yes at hh; cases hh), fun hh => (by change WT.bad = WT.no at hh; cases hh)⟩
    | some t =>
      dsimp only
      have ht : t < nt := by
        cases hoj : ops[j]? with
        | none => rw [hoj] at hj; cases hj
        | some x =>
          rw [hoj] at hj
          have hx : x ∈ ops.toList := by
            have := Array.mem_of_getElem? hoj
            exact Array.mem_toList_iff.2 this
          have := hall x hx
          unfold operOk at this
          rw [show x.dst = some t from hj] at this
          cases hq : x.op.operands.toList.all (opdOk G) with
          | false => rw [hq] at this; cases this
          | true => rw [hq] at this; exact blt_lt this
      have hsl := hfr.slot t (Nat.lt_trans ht hnt)
      have hget : a.tmps[t]? = some (a.tmps.getD t undef) := by
        have : t < a.tmps.size := by rw [hfr.size]; exact ht
        simp [Array.getD, this]
      unfold yielded
      rw [hj]
      simp only [Option.bind_some, hget]
      generalize f.get t = x at hsl
      generalize a.tmps.getD t undef = y at hsl
      cases hsl
      case bool bb =>
        show ((Bool.rec (motive := fun _ => WT) WT.no WT.yes (beqB bb want)) = WT.yes → _) ∧ ((Bool.rec (motive := fun _ => WT) WT.no WT.yes (beqB bb want)) = WT.no → _)
        rw [beqB_eq]
        cases bb <;> cases want <;> (refine ⟨fun hh => ?_, fun hh => ?_⟩ <;> first | rfl | (cases hh; done))
      all_goals
        refine ⟨fun hh => ?_, fun hh => ?_⟩
        · first | (change WT.no = WT.yes at hh; cases hh; done) | (change WT.bad = WT.yes at hh; cases hh; done)
        · first | rfl | (change WT.bad = WT.no at hh; cases hh; done)
theorem operOk_dst {o : Oper} (ho : operOk G nt o = true) : o.op.operands.toList.all (opdOk G) = true ∧ ∀ t : Nat, o.dst = some t → t < nt := by
  unfold operOk at ho
  cases hq : o.op.operands.toList.all (opdOk G) with
  | false => rw [hq] at ho; cases ho
  | true =>
    rw [hq] at ho
    refine ⟨rfl, fun t ht => ?_⟩
    rw [ht] at ho
    exact blt_lt ho
/-- one operation, guarded -/
theorem oper_sound (hc : CtxSound P G ctx) {ops : Array Oper} {o : Oper} {r : RC} (hall : ∀ x ∈ ops.toList, operOk G nt x = true) (hnt : nt < 250) (ho : operOk G nt o = true) (he : oper1 ops o P ctx f h = r) (hr : ∀ n, r ≠ .bad n) (hx : ∀ i f' h', r ≠ .ext i f' h')
    (hs : St G σ nt f a h w) (hb : RBk b σ f) : ∃ f' h', r = .nrm f' h' ∧ (h'.nx ≤ lim → Free σ h h' → ∃ σ' a' w', St G σ' nt f' a' h' w' ∧ RBk b σ' f' ∧ Out G σ h w σ' h' w' ∧
      ∀ i rest k cs, ops[i]? = some o → Calm b cs → Steps P (lone (b.at a (.inRegion ops (i :: rest) :: k)) cs w) (lone (b.at a' (.inRegion ops rest :: k)) cs w')) := by
  obtain ⟨hop, hdst⟩ := operOk_dst ho
  have hwant := gv_wanted (o := o) hall hs.fr hnt
  have hds : ∀ v, (putD o.dst v f).get dslot = f.get dslot := by
    intro v
    rw [putD_get (fun u hu => Nat.lt_trans (hdst u hu) hnt) dslot (by decide), if_neg (fun hh => by have h1 : (255 : Nat) < nt := hdst 255 hh; omega)]
  rcases oper1_cases he hr hx with ⟨hg, rfl⟩ | ⟨hg, hnd, v, h', hv, rfl⟩ | ⟨hg, c, hd, hdf⟩
  · refine ⟨_, _, rfl, fun hl hf => ⟨σ, a.put o.dst undef, w, hs.next (Out.refl hs.ai hs.so hs.ma) (hs.fr.put hdst hnt (undef_rel σ)), hb.mono (Sle.refl σ) (hds _), Out.refl hs.ai hs.so hs.ma, ?_⟩⟩
    intro i rest k cs hoi hcm
    have hw := hwant.2 hg
    have := s_pass (P := P) (b := b) (a := a) (k := k) (cs := cs) (w := w) (ops := ops) (i := i) (rest := rest) (by rw [hoi]; simpa using hw)
    rw [hoi] at this
    exact .one this
  · refine ⟨_, _, rfl, fun hl hf => ?_⟩
    obtain ⟨σ', v', w', h1, h2, h3⟩ := op_sound hc o σ nt f a h h' w v b hv hop hs hb hl hf
    refine ⟨σ', a.put o.dst v', w', hs.next h2 ((hs.fr.mono h2.le).put hdst hnt h1), hb.mono h2.le (hds _), h2, ?_⟩
    intro i rest k cs hoi hcm
    exact h3 ops i rest k cs hoi (hwant.1 hg) hcm
  · have hod := isDefer_some hd
    unfold oDefer at hdf
    split at hdf
    · rename_i g hcal
      unfold dfPush at hdf
      split at hdf
      · rename_i k as cap ds hvf hvt
        have hvf := vF_yes hvf
        have hvt := vT_yes hvt
        refine ⟨_, _, hdf.symm, fun hl hf => ?_⟩
        have hgx : VRel σ (ev g f) (a.eval g) := ev_rel hs.fr hs.gl g (by
          rw [List.all_eq_true] at hop
          exact hop g (by simp [hod, Op.operands, Call.operands, hcal]))
        rw [hvf] at hgx
        have har : LRel σ (evs c.args.toList f) (c.args.map a.eval).toList := by
          have := evs_rel hs.fr hs.gl c.args.toList (by
            rw [List.all_eq_true] at hop ⊢
            intro x hx
            exact hop x (by rw [hod]; simp only [Op.operands, Call.operands, Array.toList_append, List.mem_append]; exact .inr hx))
          simpa using this
        generalize hge : a.eval g = gx at hgx
        cases hgx
        rename_i as' cs' hy ha ha' hc1 hc2
        have hro : b.ro = none := by
          rcases hb with ⟨h1, _⟩ | ⟨_, c, l2, e, h1, h2, _⟩
          · exact h1
          · rw [h2] at hvt; cases hvt
        have hdr := hs.fr.defers
        rw [hvt] at hdr
        have hfr : FRel σ nt (f.set dslot (.tup (.fn (.func k) (lapp as (evs c.args.toList f)) cap :: ds))) ⟨a.tmps, { target := .fn (.func k) cs', args := as' ++ c.args.map a.eval } :: a.defers⟩ := by
          refine ⟨hs.fr.size, ?_, ?_⟩
          · intro t ht
            rw [L2.get_set dslot t _ f (by decide) (Nat.lt_trans ht (by decide)), if_neg (by intro hh; have h1 : t = 255 := hh; omega)]
            exact hs.fr.slot t ht
          · rw [L2.get_set dslot dslot _ f (by decide) (by decide), if_pos rfl]
            refine .cons _ _ _ _ (.fn k _ _ _ _ ?_ ⟨hc1, hc2⟩) hdr
            rw [lapp_eq]
            simpa using LRel.append (⟨ha, ha'⟩ : LRel σ as as'.toList) har
        refine ⟨σ, _, w, hs.next (Out.refl hs.ai hs.so hs.ma) (hfr.put hdst hnt (undef_rel σ)), ?_, Out.refl hs.ai hs.so hs.ma, ?_⟩
        · refine .inl ⟨hro, .fn (.func k) (lapp as (evs c.args.toList f)) cap :: ds, ?_⟩
          rw [putD_get (fun u hu => Nat.lt_trans (hdst u hu) hnt) dslot (by decide), if_neg (fun hh => by have h1 : (255 : Nat) < nt := hdst 255 hh; omega)]
          rw [L2.get_set dslot dslot _ f (by decide) (by decide), if_pos rfl]
        · intro i rest k2 cs hoi hcm
          refine .one (s_putDefer hoi (hwant.1 hg) hro ?_)
          have e : (execOp a.eval o).run P w = (do pure (Next.defer (← resolve a.eval c o.type)) : Sem Next).run P w := by
            simp only [execOp, hod]
          rw [e]
          simp [resolve, hcal, hge, Deferred.ofValue]
      · exact absurd hdf.symm (hr _)
    · exact absurd hdf.symm (hr _)
theorem oper1_nrm (ops : Array Oper) (o : Oper) (r : RC) (h1 : ∀ f' h', r ≠ .nrm f' h') (h2 : ∀ n, r ≠ .bad n) (h3 : ∀ i f' h', r ≠ .ext i f' h') : oper1 ops o P ctx f h ≠ r := by
  intro he
  rcases oper1_cases he h2 h3 with ⟨_, rfl⟩ | ⟨_, _, v, h', _, rfl⟩ | ⟨_, c, _, hdf⟩
  · exact h1 _ _ rfl
  · exact h1 _ _ rfl
  · unfold oDefer at hdf
    split at hdf
    · unfold dfPush at hdf
      split at hdf
      · exact h1 _ _ hdf.symm
      · exact h2 _ hdf.symm
    · exact h2 _ hdf.symm
theorem execOps_ret {ops : Array Oper} : ∀ (l : List Oper) (f : L2) (h : H) (f' : L2) (h' : H), execOps P ctx ops l f h ≠ .ret f' h' := by
  intro l
  induction l with
  | nil => intro f h f' h' he; cases he
  | cons o l ih =>
    intro f h f' h' he
    have he' : andThen (execOps P ctx ops l) (oper1 ops o P ctx f h) = .ret f' h' := he
    cases ho : oper1 ops o P ctx f h with
    | bad n => rw [ho] at he'; cases he'
    | nrm f1 h1' => rw [ho] at he'; exact ih f1 h1' f' h' he'
    | ext id f1 h1' => rw [ho] at he'; cases he'
    | ret f1 h1' => exact oper1_nrm ops o _ (fun f' h' hh => by cases hh) (fun n hn => by cases hn) (fun _ _ _ hh => by cases hh) ho
/-- an operation that panics, guarded -/
theorem oper_pan (hc : CtxSound P G ctx) {ops : Array Oper} {o : Oper} {id : Nat} (hall : ∀ x ∈ ops.toList, operOk G nt x = true) (hnt : nt < 250) (ho : operOk G nt o = true) (he : oper1 ops o P ctx f h = .ext id f' h')
    (hs : St G σ nt f a h w) (hb : RBk b σ f) (hl : h'.nx ≤ lim) (hf : Free σ h h') : id = panId ∧ ∃ σ' w' pv, St G σ' nt f' a h' w' ∧ RBk b σ' f' ∧ Out G σ h w σ' h' w' ∧ VRel σ' (f'.get pslot) pv ∧
      ∀ i rest k cs, ops[i]? = some o → Steps P (lone (b.at a (.inRegion ops (i :: rest) :: k)) cs w) (lone (b.pan a (.inRegion ops (i :: rest) :: k) pv false) cs w') := by
  obtain ⟨h1, hg, h3, hpo, h5, v, hv, rfl⟩ := oper1_ext he
  obtain ⟨hop, hdst⟩ := operOk_dst ho
  obtain ⟨σ', v', w', q1, q2, q3⟩ := op_pan (b := b) hc o hpo hv hop hs hl hf
  have hget : ∀ t, t < 250 → (f.set pslot v).get t = f.get t := by
    intro t ht
    rw [L2.get_set pslot t _ f (by decide) (by omega), if_neg (by intro hh; have h1 : t = 254 := hh; omega)]
  have hdsl : (f.set pslot v).get dslot = f.get dslot := by
    rw [L2.get_set pslot dslot _ f (by decide) (by decide), if_neg (by intro hh; cases hh)]
  refine ⟨h1, σ', w', v', hs.next q2 ⟨hs.fr.size, fun t ht => by rw [hget t ht]; exact (hs.fr.slot t ht).mono q2.le, by rw [hdsl]; exact hs.fr.defers.mono q2.le⟩, hb.mono q2.le hdsl, q2, ?_, ?_⟩
  · rw [L2.get_set pslot pslot _ f (by decide) (by decide), if_pos rfl]
    exact q1
  · intro i rest k cs hoi
    exact q3 ops i rest k cs hoi ((gv_wanted hall hs.fr hnt).1 hg)
/-- the operations of a region, in the order of the text -/
theorem ops_sound (hc : CtxSound P G ctx) {ops : Array Oper} (hall : ∀ x ∈ ops.toList, operOk G nt x = true) (hnt : nt < 250) : ∀ (l : List Oper) (i : Nat), ops.toList.drop i = l → ∀ (σ : Sig) (f : L2) (a : Act) (h : H) (w : World) (r : RC),
    execOps P ctx ops l f h = r → (∀ n, r ≠ .bad n) → (∀ i f' h', r ≠ .ext i f' h') → St G σ nt f a h w → RBk b σ f → ∃ f' h', r = .nrm f' h' ∧ (h'.nx ≤ lim → Free σ h h' → ∃ σ' a' w', St G σ' nt f' a' h' w' ∧ RBk b σ' f' ∧ Out G σ h w σ' h' w' ∧
      ∀ k cs, Calm b cs → Steps P (lone (b.at a (.inRegion ops (List.range' i (ops.size - i)) :: k)) cs w) (lone (b.at a' (.inRegion ops [] :: k)) cs w')) := by
  intro l
  induction l with
  | nil =>
    intro i hi σ f a h w r he hr hx hs hb
    refine ⟨f, h, he.symm, fun hl hf => ⟨σ, a, w, hs, hb, Out.refl hs.ai hs.so hs.ma, fun k cs hcm => ?_⟩⟩
    have : ops.size - i = 0 := by
      have := congrArg List.length hi
      simp at this
      omega
    rw [this]
    exact .refl P _
  | cons o l ih =>
    intro i hi σ f a h w r he hr hx hs hb
    have hlt : i < ops.size := by
      have := congrArg List.length hi
      simp at this
      omega
    have hoi : ops[i]? = some o := by
      have : (ops.toList.drop i)[0]? = some o := by rw [hi]; rfl
      rw [List.getElem?_drop] at this
      simpa using this
    have hdrop : ops.toList.drop (i + 1) = l := by
      rw [← List.drop_drop, hi]; rfl
    have hmem : o ∈ ops.toList := by
      have := Array.mem_of_getElem? hoi
      exact Array.mem_toList_iff.2 this
    have he' : andThen (execOps P ctx ops l) (oper1 ops o P ctx f h) = r := he
    have hr1 : ∀ n, oper1 ops o P ctx f h ≠ .bad n := by
      intro n hn
      rw [hn] at he'
      exact hr n he'.symm
    have hx1 : ∀ i f' h', oper1 ops o P ctx f h ≠ .ext i f' h' := by
      intro i f' h' hn
      rw [hn] at he'
      exact hx _ _ _ he'.symm
    obtain ⟨f1, h1, e1, s1⟩ := oper_sound hc hall hnt (hall o hmem) rfl hr1 hx1 hs hb
    rw [e1] at he'
    have he2 : execOps P ctx ops l f1 h1 = r := he'
    have hm := mono_execOps (P := P) hc.mono ops l f1 h1
    -- the rest needs the state in between
    have hkey : ∀ (h' : H), (∃ f', r = .nrm f' h') → h1.nx ≤ h'.nx := by
      rintro h' ⟨f', rfl⟩
      exact hm f' h' (.inl he2)
    cases r with
    | bad n => exact absurd rfl (hr n)
    | nrm f' h' =>
      refine ⟨f', h', rfl, fun hl hf => ?_⟩
      have hle := hkey h' ⟨f', rfl⟩
      obtain ⟨σ1, a1, w1, t1, t2, t3, t4⟩ := s1 (by omega) (hf.left hle)
      obtain ⟨f2, h2, e2, s2⟩ := ih (i + 1) hdrop σ1 f1 a1 h1 w1 _ he2 hr hx t1 t2
      cases e2
      obtain ⟨σ2, a2, w2, u1, u2, u3, u4⟩ := s2 hl (hf.right t3)
      refine ⟨σ2, a2, w2, u1, u2, t3.trans u3 hl, fun k cs hcm => ?_⟩
      have hrange : List.range' i (ops.size - i) = i :: List.range' (i + 1) (ops.size - (i + 1)) := by
        have : ops.size - i = (ops.size - (i + 1)) + 1 := by omega
        rw [this, List.range'_succ]
      rw [hrange]
      exact (t4 i _ k cs hoi hcm).trans (u4 k cs hcm)
    | ext id f' h' => exact absurd rfl (hx _ _ _)
    | ret f' h' => exact absurd he2 (execOps_ret l f1 h1 _ _)
/-- the same, up to a panic -/
theorem ops_pan (hc : CtxSound P G ctx) {ops : Array Oper} (hall : ∀ x ∈ ops.toList, operOk G nt x = true) (hnt : nt < 250) : ∀ (l : List Oper) (i : Nat), ops.toList.drop i = l → ∀ (σ : Sig) (f : L2) (a : Act) (h : H) (w : World) (id : Nat) (f' : L2) (h' : H),
    execOps P ctx ops l f h = .ext id f' h' → St G σ nt f a h w → RBk b σ f → h'.nx ≤ lim → Free σ h h' → id = panId ∧ ∃ σ' a' w' pv, St G σ' nt f' a' h' w' ∧ RBk b σ' f' ∧ Out G σ h w σ' h' w' ∧ VRel σ' (f'.get pslot) pv ∧
      ∀ k cs, Calm b cs → ∃ rest, Steps P (lone (b.at a (.inRegion ops (List.range' i (ops.size - i)) :: k)) cs w) (lone (b.pan a' (.inRegion ops rest :: k) pv false) cs w') := by
  intro l
  induction l with
  | nil => intro i hi σ f a h w id f' h' he; cases he
  | cons o l ih =>
    intro i hi σ f a h w id f' h' he hs hb hl hf
    have hlt : i < ops.size := by
      have := congrArg List.length hi
      simp at this
      omega
    have hoi : ops[i]? = some o := by
      have : (ops.toList.drop i)[0]? = some o := by rw [hi]; rfl
      rw [List.getElem?_drop] at this
      simpa using this
    have hdrop : ops.toList.drop (i + 1) = l := by
      rw [← List.drop_drop, hi]; rfl
    have hmem : o ∈ ops.toList := by
      have := Array.mem_of_getElem? hoi
      exact Array.mem_toList_iff.2 this
    have hrange : List.range' i (ops.size - i) = i :: List.range' (i + 1) (ops.size - (i + 1)) := by
      have : ops.size - i = (ops.size - (i + 1)) + 1 := by omega
      rw [this, List.range'_succ]
    have he' : andThen (execOps P ctx ops l) (oper1 ops o P ctx f h) = .ext id f' h' := he
    cases ho : oper1 ops o P ctx f h with
    | bad n => rw [ho] at he'; cases he'
    | ret f1 h1 => rw [ho] at he'; cases he'
    | ext id1 f1 h1 =>
      rw [ho] at he'
      cases he'
      obtain ⟨q0, σ', w', pv, q1, q2, q3, q4, q5⟩ := oper_pan hc hall hnt (hall o hmem) ho hs hb hl hf
      exact ⟨q0, σ', a, w', pv, q1, q2, q3, q4, fun k cs _ => ⟨_, by rw [hrange]; exact q5 i _ k cs hoi⟩⟩
    | nrm f1 h1 =>
      rw [ho] at he'
      have he2 : execOps P ctx ops l f1 h1 = .ext id f' h' := he'
      have hle : h1.nx ≤ h'.nx := mono_execOps (P := P) hc.mono ops l f1 h1 f' h' (.inr (.inl ⟨id, he2⟩))
      obtain ⟨f2, h2, e1, s1⟩ := oper_sound hc hall hnt (hall o hmem) ho (fun n hn => by cases hn) (fun _ _ _ hn => by cases hn) hs hb
      cases e1
      obtain ⟨σ1, a1, w1, t1, t2, t3, t4⟩ := s1 (by omega) (hf.left hle)
      obtain ⟨q0, σ', a', w', pv, q1, q2, q3, q4, q5⟩ := ih (i + 1) hdrop σ1 f1 a1 h1 w1 id f' h' he2 t1 t2 hl (hf.right t3)
      refine ⟨q0, σ', a', w', pv, q1, q2, t3.trans q3 hl, q4, fun k cs hcm => ?_⟩
      obtain ⟨rest, q6⟩ := q5 k cs hcm
      rw [hrange]
      exact ⟨rest, (t4 i _ k cs hoi hcm).trans q6⟩
end Go.Ev
