/- Every operation that the evaluator runs. -/
import Derived.Test.YtnefaadihgbobaaGreatDoorEvCall2
set_option linter.unusedSimpArgs false
set_option linter.unusedVariables false
namespace Go.Ev
variable {P : Program} {G : Nat} {σ : Sig} {h h' : H} {w w' : World} {v : AV} {nt : Nat} {f : L2} {a : Act} {ctx : CallT} {b : FB} {cs : List Frame}

theorem args_rel {c : Call} (hop : (Op.call c).operands.toList.all (opdOk G) = true) (hs : St G σ nt f a h w) : LRel σ (evs c.args.toList f) (c.args.map a.eval).toList := by
  have := evs_rel hs.fr hs.gl c.args.toList (by
    rw [List.all_eq_true] at hop ⊢
    intro x hx
    exact hop x (by simp only [Op.operands, Call.operands, Array.toList_append, List.mem_append]; exact .inr hx))
  simpa using this
theorem call_sound (hc : CtxSound P G ctx) {dst : Option Tmp} {ty : TypeId} {pos : String} {af : Array Edge} {gd : Option (Nat × Bool)} (c : Call) : OpSound P G ctx ⟨dst, .call c, ty, pos, af, gd⟩ := by
  intro σ nt f a h h' w v b he hop hs hb hl hf
  have hd : ∀ d, (Oper.mk dst (.call c) ty pos af gd).op ≠ .defer d := fun d hd => by cases hd
  have har := args_rel hop hs
  obtain ⟨callee, args, argTypes⟩ := c
  dsimp only at har
  have he' : ceD callee args.toList argTypes.toList P ctx f h = .ok v h' := he
  cases callee with
  | value g =>
    have hgx : VRel σ (ev g f) (a.eval g) := ev_rel hs.fr hs.gl g (by
      rw [List.all_eq_true] at hop
      exact hop g (by simp [Op.operands, Call.operands]))
    obtain ⟨d, hd1, σ', v', w', h1, h2, h3⟩ := cv_sound hc (args' := args.map a.eval) he' hgx har hs.ms hs.gl hl hf
    refine ⟨σ', v', w', h1, h2, .next hd ?_⟩
    have : (execOp a.eval ⟨dst, .call ⟨.value g, args, argTypes⟩, ty, pos, af, gd⟩).run P w = (invoke d.target d.args).run P w := by
      simp [execOp, resolve, Sem.run_bind, hd1]
    rw [this]
    exact h3
  | invoke r name =>
    have hgx : VRel σ (ev r f) (a.eval r) := ev_rel hs.fr hs.gl r (by
      rw [List.all_eq_true] at hop
      exact hop r (by simp [Op.operands, Call.operands]))
    obtain ⟨σ', v', w', h1, h2, h3⟩ := aMeth_sound hc (args' := args.map a.eval) he' hgx har hs.ms hs.gl hl hf
    refine ⟨σ', v', w', h1, h2, .next hd ?_⟩
    have : (execOp a.eval ⟨dst, .call ⟨.invoke r name, args, argTypes⟩, ty, pos, af, gd⟩).run P w = (callMethod (a.eval r) name (args.map a.eval)).run P w := by
      have e : (#[a.eval r] ++ args.map a.eval).extract 1 (#[a.eval r] ++ args.map a.eval).size = args.map a.eval := by
        apply Array.ext'
        simp
        exact List.take_of_length_le (by simp)
      simp only [execOp, resolve, Sem.run_bind, Sem.run_pure, Result.andThen_ok, invoke]
      rw [e]
      have e0 : (#[a.eval r] ++ args.map a.eval)[0]? = some (a.eval r) := by
        rw [Array.getElem?_append_left (by show 0 < 1; omega)]
        rfl
      rw [e0]
    rw [this]
    exact h3
  | builtin bi =>
    have he2 : ceBui bi args.toList argTypes.toList P ctx f h = .ok v h' := he'
    unfold ceBui at he2
    split at he2
    · have he3 : recV (vT (f.get dslot)) h = .ok v h' := he2
      unfold recV at he3
      split at he3
      · rename_i l hvt
        obtain ⟨rfl, rfl⟩ := ok_inj he3
        have hro : b.ro = none := by
          rcases hb with ⟨h1, _⟩ | ⟨_, c, l2, e, h1, h2, _⟩
          · exact h1
          · rw [h2] at hvt; cases hvt
        refine ⟨σ, .nilIface, w, .nifc, Out.refl hs.ai hs.so hs.ma, ?_⟩
        intro ops i rest k cs ho hw hcm
        refine .one (s_recover ho hw hro (hcm.recover a) ?_)
        simp [execOp, resolve, invoke, builtin]
      · cases he3
    · obtain ⟨cns, hcns⟩ : ∃ cns, (execOp a.eval ⟨dst, .call ⟨.builtin bi, args, argTypes⟩, ty, pos, af, gd⟩).run P w = (builtin bi argTypes ty cns (args.map a.eval)).run P w :=
        ⟨_, by simp only [execOp, resolve, Sem.run_bind, Sem.run_pure, Result.andThen_ok, invoke]; rfl⟩
      obtain ⟨σ', v', w', h1, h2, h3⟩ := bui_sound bi (tsA := argTypes) (ty := ty) (cns := cns) rfl he2 har hs.ms hl hf
      refine ⟨σ', v', w', h1, h2, .next hd (.inl ?_)⟩
      rw [hcns]
      exact h3
theorem op_sound (hc : CtxSound P G ctx) (o : Oper) : OpSound P G ctx o := by
  obtain ⟨dst, op, ty, pos, af, gd⟩ := o
  cases op
  case move x => exact (good_move x).to3.sound
  case assign x => exact (good_assign x).to3.sound
  case pick c x y => exact (good_pick c x y).to3.sound
  case alloc e => exact (good_alloc e).to3.sound
  case box e x => exact (good_box e x).to3.sound
  case build t p => exact (good_build t p).to3.sound
  case buildSlice t n p => exact (good_buildSlice t n p).to3.sound
  case insert t m k x => exact (good3_insert t m k x).sound
  case load t x => exact (good3_load t x).sound
  case store t x y => exact (good3_store t x y).sound
  case nilCheck x => exact (good_nilCheck x).to3.sound
  case binOp op t x y yt => exact (good_binOp op t x y yt).to3.sound
  case unOp op t x => exact (good_unOp op t x).to3.sound
  case convert s d x => exact (good3_convert s d x).sound
  case makeInterface t x => exact (good_makeIface t x).to3.sound
  case makeFunc fn x y => exact (good_makeFunc fn x y).to3.sound
  case makeMap t r => exact (good3_makeMap t r).sound
  case makeSlice t x y => exact (good3_makeSlice t x y).sound
  case slice t x lo hi mx => exact (good_slice t x lo hi mx).to3.sound
  case fieldAddr t x i => exact (good_fieldAddr t x i).to3.sound
  case field t x i => exact (good_field t x i).to3.sound
  case indexAddr t x i => exact (good_indexAddr t x i).to3.sound
  case index t x i => exact (good_index t x i).to3.sound
  case lookup t x i ok => exact (good3_lookup t x i ok).sound
  case mapUpdate t m k x => exact (good3_mapUpdate t m k x).sound
  case typeAssert x xt t ok => exact (good_typeAssert x xt t ok).to3.sound
  case extract x i => exact (good_extract x i).to3.sound
  case call c => exact call_sound hc c
  all_goals
    intro σ nt f a h h' w v b he hop hs hb hl hf
    cases he
end Go.Ev
