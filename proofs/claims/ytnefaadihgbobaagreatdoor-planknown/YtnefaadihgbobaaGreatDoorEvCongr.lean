/- An operation looks at its operands alone. -/
import Derived.Test.YtnefaadihgbobaaGreatDoorEvMono
set_option linter.unusedSimpArgs false
set_option linter.unusedVariables false
namespace Go.Ev
variable {P : Program} {h h' : H} {v : AV} {f g : L2} {ctx : CallT}

theorem evs_congr {l : List Operand} (hh : ∀ x ∈ l, ev x f = ev x g) : evs l f = evs l g := by
  induction l with
  | nil => rfl
  | cons x l ih =>
    show ev x f :: evs l f = ev x g :: evs l g
    rw [hh x (by simp), ih (fun y hy => hh y (by simp [hy]))]
theorem fillA_congr {place : Nat → Option (Nat × Nat)} : ∀ (l : List (Nat × Operand)), (∀ p ∈ l, ev p.2 f = ev p.2 g) → ∀ cs, fillA place f l cs = fillA place g l cs := by
  intro l
  induction l with
  | nil => intro _ cs; rfl
  | cons p l ih =>
    intro hh cs
    obtain ⟨i, x⟩ := p
    have hx : ev x f = ev x g := hh (i, x) (by simp)
    have hi := ih (fun q hq => hh q (by simp [hq]))
    unfold fillA
    rw [hx]
    split
    · split
      · rename_i cs' _
        rw [hi cs']
      · rfl
    · rfl
theorem bnd_congr {x : Option Operand} (hh : ∀ y, x = some y → ev y f = ev y g) (d : Nat) : bnd f x d = bnd g x d := by
  cases x with
  | none => rfl
  | some y => show nat0 (ev y f) = nat0 (ev y g); rw [hh y rfl]
theorem opD_congr (o : Op) (ty : TypeId) (hd : f.get dslot = g.get dslot) (hh : ∀ x ∈ o.operands.toList, ev x f = ev x g) : opD o ty P ctx f h = opD o ty P ctx g h := by
  cases o
  case move x => have := hh x (by simp [Op.operands]); show OR.ok (ev x f) h = OR.ok (ev x g) h; rw [this]
  case assign x => have := hh x (by simp [Op.operands]); show OR.ok (ev x f) h = OR.ok (ev x g) h; rw [this]
  case pick c a b =>
    have h1 := hh c (by simp [Op.operands]); have h2 := hh a (by simp [Op.operands]); have h3 := hh b (by simp [Op.operands])
    show pickV (ev c f) (ev a f) (ev b f) h = pickV (ev c g) (ev a g) (ev b g) h
    rw [h1, h2, h3]
  case box e x => have := hh x (by simp [Op.operands]); show newC (cellsOf (ev x f)) e h = newC (cellsOf (ev x g)) e h; rw [this]
  case build t parts =>
    have hp : ∀ p ∈ parts.toList, ev p.2 f = ev p.2 g := fun p hp => hh p.2 (by simp only [Op.operands, List.mem_map]; exact ⟨p, hp, rfl⟩)
    show oBuild t parts ty P ctx f h = oBuild t parts ty P ctx g h
    unfold oBuild
    split
    · rw [fillA_congr _ hp]
    · rw [fillA_congr _ hp]
    · rfl
  case buildSlice t n parts =>
    have hp : ∀ p ∈ parts.toList, ev p.2 f = ev p.2 g := fun p hp => hh p.2 (by simp only [Op.operands, List.mem_map]; exact ⟨p, hp, rfl⟩)
    show oBuildSlice t n parts ty P ctx f h = oBuildSlice t n parts ty P ctx g h
    unfold oBuildSlice
    split
    · split
      · rw [fillA_congr _ hp]
      · rfl
    · rfl
  case insert t m k x =>
    have h1 := hh m (by simp [Op.operands]); have h2 := hh k (by simp [Op.operands]); have h3 := hh x (by simp [Op.operands])
    show oMapUpdate t m k x ty P ctx f h = oMapUpdate t m k x ty P ctx g h
    unfold oMapUpdate; rw [h1, h2, h3]
  case mapUpdate t m k x =>
    have h1 := hh m (by simp [Op.operands]); have h2 := hh k (by simp [Op.operands]); have h3 := hh x (by simp [Op.operands])
    show oMapUpdate t m k x ty P ctx f h = oMapUpdate t m k x ty P ctx g h
    unfold oMapUpdate; rw [h1, h2, h3]
  case load t x => have := hh x (by simp [Op.operands]); show ldV (ev x f) (ldInfo P t) h = ldV (ev x g) (ldInfo P t) h; rw [this]
  case store t x y =>
    have h1 := hh x (by simp [Op.operands]); have h2 := hh y (by simp [Op.operands])
    show stV (ev x f) (cellsOf (ev y f)) (szInfo P t) h = stV (ev x g) (cellsOf (ev y g)) (szInfo P t) h
    rw [h1, h2]
  case nilCheck x => have h1 := hh x (by simp [Op.operands]); show oNilCheck x ty P ctx f h = oNilCheck x ty P ctx g h; unfold oNilCheck; rw [h1]
  case binOp op t x y yt =>
    have h1 := hh x (by simp [Op.operands]); have h2 := hh y (by simp [Op.operands])
    show oBinOp op t x y yt ty P ctx f h = oBinOp op t x y yt ty P ctx g h
    unfold oBinOp; rw [h1, h2]
  case unOp op t x => have h1 := hh x (by simp [Op.operands]); show oUnOp op t x ty P ctx f h = oUnOp op t x ty P ctx g h; unfold oUnOp; rw [h1]
  case convert s d x => have h1 := hh x (by simp [Op.operands]); show oConvert s d x ty P ctx f h = oConvert s d x ty P ctx g h; unfold oConvert; rw [h1]
  case makeInterface t x => have h1 := hh x (by simp [Op.operands]); show oMakeIface t x ty P ctx f h = oMakeIface t x ty P ctx g h; unfold oMakeIface; rw [h1]
  case makeFunc fn x y =>
    have h1 : evs x.toList f = evs x.toList g := evs_congr (fun z hz => hh z (by simp only [Op.operands, Array.toList_append, List.mem_append]; exact .inl hz))
    have h2 : evs y.toList f = evs y.toList g := evs_congr (fun z hz => hh z (by simp only [Op.operands, Array.toList_append, List.mem_append]; exact .inr hz))
    show oMakeFunc fn x y ty P ctx f h = oMakeFunc fn x y ty P ctx g h
    unfold oMakeFunc; rw [h1, h2]
  case makeSlice t x y =>
    have h1 := hh x (by simp [Op.operands]); have h2 := hh y (by simp [Op.operands])
    show oMakeSlice t x y ty P ctx f h = oMakeSlice t x y ty P ctx g h
    unfold oMakeSlice; rw [h1, h2]
  case slice t x lo hi mx =>
    have h1 := hh x (by simp [Op.operands])
    have h2 : ∀ y, lo = some y → ev y f = ev y g := fun y hy => hh y (by simp [Op.operands, hy])
    have h3 : ∀ y, hi = some y → ev y f = ev y g := fun y hy => hh y (by simp [Op.operands, hy])
    have h4 : ∀ y, mx = some y → ev y f = ev y g := fun y hy => hh y (by simp [Op.operands, hy])
    have e : oSlice1 t x lo hi mx ty P ctx f h = oSlice1 t x lo hi mx ty P ctx g h := by
      unfold oSlice1
      rw [h1]
      simp only [bnd_congr h2, bnd_congr h3, bnd_congr h4]
      cases xInfo P t with
      | str => rfl
      | bad => rfl
      | arr n i => rfl
      | sl i =>
        cases vL (ev x g) with
        | nil => rfl
        | no => rfl
        | yes b off len cap sz ex =>
          dsimp only
          cases bnd g lo 0 with
          | none => rfl
          | some l =>
            cases bnd g hi len with
            | none => rfl
            | some u =>
              cases mx with
              | none => rfl
              | some m => dsimp only; rw [h4 m rfl]
    show oSlice t x lo hi mx ty P ctx f h = oSlice t x lo hi mx ty P ctx g h
    unfold oSlice; rw [e]
  case fieldAddr t x i => have h1 := hh x (by simp [Op.operands]); show oFieldAddr t x i ty P ctx f h = oFieldAddr t x i ty P ctx g h; unfold oFieldAddr; rw [h1]
  case field t x i => have h1 := hh x (by simp [Op.operands]); show oField t x i ty P ctx f h = oField t x i ty P ctx g h; unfold oField; rw [h1]
  case indexAddr t x i =>
    have h1 := hh x (by simp [Op.operands]); have h2 := hh i (by simp [Op.operands])
    show oIndexAddr t x i ty P ctx f h = oIndexAddr t x i ty P ctx g h
    unfold oIndexAddr; rw [h1, h2]
  case index t x i =>
    have h1 := hh x (by simp [Op.operands]); have h2 := hh i (by simp [Op.operands])
    show oIndex t x i ty P ctx f h = oIndex t x i ty P ctx g h
    unfold oIndex; rw [h1, h2]
  case lookup t x i ok =>
    have h1 := hh x (by simp [Op.operands]); have h2 := hh i (by simp [Op.operands])
    show oLookup t x i ok ty P ctx f h = oLookup t x i ok ty P ctx g h
    unfold oLookup; rw [h1, h2]
  case typeAssert x t ast ok => have h1 := hh x (by simp [Op.operands]); show oTypeAssert x t ast ok ty P ctx f h = oTypeAssert x t ast ok ty P ctx g h; unfold oTypeAssert; rw [h1]
  case extract x i => have h1 := hh x (by simp [Op.operands]); show oExtract x i ty P ctx f h = oExtract x i ty P ctx g h; unfold oExtract; rw [h1]
  case call c =>
    have h1 : evs c.args.toList f = evs c.args.toList g := evs_congr (fun z hz => hh z (by simp only [Op.operands, Call.operands, Array.toList_append, List.mem_append]; exact .inr hz))
    show ceD c.callee c.args.toList c.argTypes.toList P ctx f h = ceD c.callee c.args.toList c.argTypes.toList P ctx g h
    cases hc : c.callee with
    | value z =>
      have h2 : ev z f = ev z g := hh z (by simp [Op.operands, Call.operands, hc])
      show cvV (ev z f) (evs c.args.toList f) P ctx h = cvV (ev z g) (evs c.args.toList g) P ctx h
      rw [h1, h2]
    | invoke r name =>
      have h2 : ev r f = ev r g := hh r (by simp [Op.operands, Call.operands, hc])
      show aMeth P ctx (ev r f) name (evs c.args.toList f) h = aMeth P ctx (ev r g) name (evs c.args.toList g) h
      rw [h1, h2]
    | builtin b =>
      show ceBui b c.args.toList c.argTypes.toList P ctx f h = ceBui b c.args.toList c.argTypes.toList P ctx g h
      unfold ceBui
      split
      · show recV (vT (f.get dslot)) h = recV (vT (g.get dslot)) h; rw [hd]
      · show aBuiltin _ c.argTypes.toList (evs c.args.toList f) P h = aBuiltin _ c.argTypes.toList (evs c.args.toList g) P h; rw [h1]
  all_goals rfl
end Go.Ev
