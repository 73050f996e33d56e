/- The heap's next number only grows. -/
import Derived.Test.YtnefaadihgbobaaGreatDoorEvSched
set_option linter.unusedSimpArgs false
set_option linter.unusedVariables false
namespace Go.Ev
variable {P : Program} {h h' : H} {v : AV} {f : L2} {ctx : CallT}

def Mono (h : H) (r : OR) : Prop := ∀ v h', r = .ok v h' → h.nx ≤ h'.nx
theorem Mono.bad (n : Nat) : Mono h (.bad n) := fun v h' he => by cases he
theorem Mono.same (v : AV) : Mono h (.ok v h) := fun v h' he => by cases he; exact Nat.le_refl _
theorem Mono.put (v : AV) (b : Nat) (o : AO) : Mono h (.ok v (h.put b o)) := fun v h' he => by cases he; exact Nat.le_refl _
theorem Mono.put2 (v : AV) (b c : Nat) (o p : AO) : Mono h (.ok v ((h.put b o).put c p)) := fun v h' he => by cases he; exact Nat.le_refl _
theorem Mono.new (v : AV) (o : AO) : Mono h (.ok v (h.new o)) := fun v h' he => by cases he; exact Nat.le_succ _
theorem Mono.mk (o : AO) (v : AV) : Mono h (mk h o v) := Mono.new v o
theorem Mono.new2 (v : AV) (o p : AO) : Mono h (.ok v ((h.new o).new p)) := fun v h' he => by cases he; show h.nx ≤ h.nx + 1 + 1; omega
theorem Mono.ver (v : AV) (b c : Nat) (o p q : AO) : Mono h (.ok v (((h.put b o).put c p).new q)) := fun v h' he => by cases he; exact Nat.le_succ _
theorem Mono.ite {c : Bool} {x y : OR} (hx : Mono h x) (hy : Mono h y) : Mono h (Bool.rec (motive := fun _ => OR) y x c) := by cases c <;> assumption
theorem Mono.res1 (x : Option AV) : Mono h (res1 x h) := by cases x; exact .bad _; exact .same _
theorem Mono.resAgg (x : Option (List AV)) : Mono h (resAgg x h) := by cases x; exact .bad _; exact .same _
theorem Mono.resByte (x : Option Nat) : Mono h (resByte x h) := by cases x; exact .bad _; exact .same _
theorem Mono.newC (x : Option (List AV)) (e : TypeId) : Mono h (newC x e h) := by cases x; exact .bad _; exact .new _ _
theorem wr_nx {b off : Nat} {vs : List AV} (hw : h.wr b off vs = .ok h') : h'.nx = h.nx := by
  rcases wr_cases hw with ⟨c, t, c', _, _, rfl⟩ | ⟨c, t, k, n, c', _, _, _, rfl⟩ <;> rfl
theorem Mono.wr (b off : Nat) (vs : List AV) (g : H → AV) : Mono h (RH.rec (motive := fun _ => OR) OR.bad (fun h' => .ok (g h') h') (h.wr b off vs)) := by
  cases hw : h.wr b off vs with
  | bad n => exact .bad n
  | ok h2 => exact fun v h' he => by cases he; rw [wr_nx hw]; exact Nat.le_refl _
structure CtxMono (ctx : CallT) : Prop where
  call : ∀ g as h, Mono h (ctx.call g as h)
  round : ∀ l as h, Mono h (ctx.round l as h)
theorem mono_iTab (op : BinOp) (k : IntKind) (a : Int) (k' : IntKind) (b : Int) : Mono h (iTab op k a k' b h) := by
  cases op
  all_goals first
    | exact Mono.bad _
    | exact Mono.ite (.same _) (.bad _)
    | exact Mono.ite (.ite (.bad _) (.same _)) (.bad _)
    | skip
  all_goals (show Mono h _; dsimp only [iTab, iBit, iShl, iShr]; split)
  all_goals first
    | exact Mono.bad _
    | exact Mono.same _
    | exact Mono.ite (.ite (.ite (.same _) (.bad _)) (.bad _)) (.bad _)
theorem mono_sTab (op : BinOp) (a b : List Nat) : Mono h (sTab op a b h) := by
  cases op <;> first | exact Mono.bad _ | exact Mono.same _ | exact Mono.ite (.same _) (.bad _)
theorem mono_binGen (x y : AV) (op : BinOp) (t : TypeId) (c : Bool) : Mono h (binGen x y op t c P h) := by
  unfold binGen
  split
  · refine Mono.ite ?_ (.bad _); split; exact .same _; exact .bad _
  · refine Mono.ite ?_ (.bad _); split; exact .same _; exact .bad _
  · exact .bad _
theorem mono_binD (x y : AV) (op : BinOp) (t : TypeId) (c : Bool) : Mono h (binD x x y op t c P h) := by
  cases x
  case int k n => cases y <;> first | exact Mono.bad _ | exact mono_iTab _ _ _ _ _
  case str s => cases y <;> first | exact Mono.bad _ | exact mono_sTab _ _ _
  case top => exact .bad _
  all_goals exact mono_binGen _ _ _ _ _
theorem mono_load (x : AV) (i : Option (Option Nat)) : Mono h (ldV x i h) := by
  cases x
  case ptr b o =>
    show Mono h (ldC (h.rd b) i o h)
    cases h.rd b with
    | none => exact .bad _
    | some c =>
      cases i with
      | none => exact .bad _
      | some j => cases j; exact .res1 _; exact .resAgg _
  all_goals exact .bad _
theorem mono_store (x : AV) (cs : Option (List AV)) (n : Option Nat) : Mono h (stV x cs n h) := by
  cases x
  case ptr b o =>
    show Mono h (stC cs n b o h)
    unfold stC
    split
    · exact .ite (.ite (.wr _ _ _ (fun _ => .tup [])) (.bad _)) (.bad _)
    · exact .bad _
  all_goals exact .bad _
theorem mono_map (t : TypeId) (m k x : Operand) (ty : TypeId) : Mono h (oMapUpdate t m k x ty P ctx f h) := by
  unfold oMapUpdate
  repeat (first | exact Mono.bad _ | exact Mono.put _ _ _ | split)
theorem mono_convert (s d : TypeId) (x : Operand) (ty : TypeId) : Mono h (oConvert s d x ty P ctx f h) := by
  unfold oConvert
  repeat (first | exact Mono.bad _ | exact Mono.same _ | exact Mono.ite (.new2 _ _ _) (.bad _) | exact Mono.ite (.same _) (.bad _) | split)
theorem mono_slSl (b off cap sz : Nat) (ex : Bool) (l u : Nat) : Mono h (slSl b off cap sz ex l u h) :=
  .ite (.ite (.ite (.same _) (.ite (.same _) (.ite (.same _) (.bad _)))) (.bad _)) (.bad _)
theorem mono_slSl3 (b off cap sz l u c : Nat) : Mono h (slSl3 b off cap sz l u c h) := .ite (.ite (.ite (.same _) (.bad _)) (.bad _)) (.bad _)
theorem mono_slStr (s : List Nat) (l u : Option Nat) : Mono h (slStr s l u h) := by
  unfold slStr
  split
  · exact .ite (.ite (.same _) (.bad _)) (.bad _)
  · exact .bad _
theorem mono_slice (t : TypeId) (x : Operand) (lo hi mx : Option Operand) (ty : TypeId) : Mono h (oSlice t x lo hi mx ty P ctx f h) := by
  refine .ite ?_ (.bad _)
  unfold oSlice1
  repeat (first | exact Mono.bad _ | exact Mono.same _ | exact mono_slStr _ _ _ | exact Mono.ite (mono_slSl _ _ _ _ _ _ _) (.bad _) | exact Mono.ite (mono_slSl3 _ _ _ _ _ _ _) (.bad _) | exact mono_slSl3 _ _ _ _ _ _ _ | split)
theorem mono_iaX (i : XI) (x : AV) (n : Option Nat) : Mono h (iaX i x n h) := by
  cases i
  case sl i =>
    cases n with
    | none => exact .bad _
    | some n => cases x <;> first | exact Mono.bad _ | exact Mono.ite (.same _) (.bad _)
  case arr len i =>
    cases n with
    | none => exact .bad _
    | some n => cases x <;> first | exact Mono.bad _ | exact Mono.ite (.same _) (.bad _)
  all_goals exact .bad _
theorem mono_append (st : TypeId) (s x : AV) : Mono h (append1 P st s x h) := by
  unfold append1
  split
  · split
    · split
      · exact .ite (.same _) (.ite (.ite (.new2 _ _ _) (.bad _)) (.bad _))
      · refine .ite (.ite (.ite ?_ (.bad _)) (.bad _)) (.bad _)
        refine .ite (.wr _ _ _ (fun _ => _)) (.ite ?_ ?_)
        · unfold appEx
          repeat (first | exact Mono.bad _ | exact Mono.new2 _ _ _ | split)
        · unfold appTip
          repeat (first | exact Mono.bad _ | exact Mono.ite (.ite (.ite (.ver _ _ _ _ _ _) (.bad _)) (.bad _)) (.bad _) | split)
      · exact .bad _
    · exact .bad _
  · exact .bad _
theorem mono_lnK (k : LK) (x : AV) : Mono h (lnK k x h) := by
  cases k
  case str => cases x <;> first | exact Mono.bad _ | exact Mono.same _
  case sl => cases x <;> first | exact Mono.bad _ | exact Mono.same _
  case map =>
    show Mono h (lnM x h)
    unfold lnM
    split <;> first | exact Mono.bad _ | exact Mono.same _
  case bad => exact .bad _
theorem mono_mm (lt : Bool) (l : List AV) : Mono h (mm lt l h) := by
  unfold mm
  repeat (first | exact Mono.bad _ | exact Mono.same _ | split)
theorem mono_copy (dt : TypeId) (d x : AV) : Mono h (copyA P dt d x h) := by
  unfold copyA
  repeat (first | exact Mono.bad _ | exact Mono.same _ | exact Mono.ite (.wr _ _ _ (fun _ => _)) (.bad _) | split)
theorem mono_us (t : TypeId) (p n : AV) : Mono h (usV P t p n h) := by
  unfold usV
  repeat (first | exact Mono.bad _ | exact Mono.same _ | exact Mono.ite (.ite (.ite (.put2 _ _ _ _ _) (.bad _)) (.bad _)) (.bad _) | split)
theorem mono_builtin (b : Builtin) (ts : List TypeId) (args : List AV) : Mono h (aBuiltin b ts args P h) := by
  unfold aBuiltin
  split
  case h_1 => split; exact .ite (mono_append _ _ _) (.bad _); exact .bad _
  case h_2 => split; exact mono_lnK _ _; exact .bad _
  case h_3 => split; exact mono_copy _ _ _; exact .bad _
  case h_4 => exact mono_mm _ _
  case h_5 => exact mono_mm _ _
  case h_6 =>
    split
    · split
      · unfold capV; repeat (first | exact Mono.bad _ | exact Mono.same _ | split)
      · exact .bad _
    · exact .bad _
  case h_7 =>
    split
    · unfold sdV; repeat (first | exact Mono.bad _ | exact Mono.same _ | exact Mono.ite (.bad _) (.same _) | split)
    · exact .bad _
  case h_8 => split; exact mono_us _ _ _; exact .bad _
  case h_9 => exact .bad _
theorem mono_aCall (hc : CtxMono ctx) (g : FuncId) (args : List AV) : Mono h (aCall P ctx g args h) := by
  refine .ite (hc.call _ _ _) ?_
  unfold aExt
  repeat (first | exact Mono.bad _ | exact Mono.same _ | split)
theorem mono_aMeth (hc : CtxMono ctx) (r : AV) (name : String) (args : List AV) : Mono h (aMeth P ctx r name args h) := by
  unfold aMeth
  repeat (first | exact Mono.bad _ | exact mono_aCall hc _ _ | split)
theorem mono_aInvoke (hc : CtxMono ctx) (fn : Fn) (cap args : List AV) : Mono h (aInvoke P ctx fn cap args h) := by
  unfold aInvoke
  repeat (first | exact Mono.bad _ | exact mono_aCall hc _ _ | exact mono_aMeth hc _ _ _ | exact hc.round _ _ _ | split)
theorem mono_opD (hc : CtxMono ctx) (o : Op) (ty : TypeId) (h : H) : Mono h (opD o ty P ctx f h) := by
  cases o
  case move x => exact .same _
  case assign x => exact .same _
  case pick c a b =>
    show Mono h (pickV (ev c f) (ev a f) (ev b f) h)
    cases ev c f
    case bool q => cases q <;> exact .same _
    all_goals exact .bad _
  case alloc e => exact .newC _ _
  case box e x => exact .newC _ _
  case build t parts =>
    show Mono h (oBuild t parts ty P ctx f h)
    unfold oBuild
    split <;> first | exact .resAgg _ | exact .bad _
  case buildSlice t n parts =>
    show Mono h (oBuildSlice t n parts ty P ctx f h)
    unfold oBuildSlice
    repeat (first | exact Mono.bad _ | exact Mono.ite (.mk _ _) (.bad _) | split)
  case insert t m k x => exact mono_map (ctx := ctx) t m k x ty
  case mapUpdate t m k x => exact mono_map (ctx := ctx) t m k x ty
  case load t x => exact mono_load _ _
  case store t x y => exact mono_store _ _ _
  case nilCheck x => exact .ite (.same _) (.bad _)
  case binOp op t x y yt => exact mono_binD _ _ _ _ _
  case unOp op t x =>
    show Mono h (oUnOp op t x ty P ctx f h)
    unfold oUnOp
    repeat (first | exact Mono.bad _ | exact Mono.same _ | split)
  case convert s d x => exact mono_convert (ctx := ctx) s d x ty
  case makeInterface t x => exact .ite (.same _) (.bad _)
  case makeFunc fn x y =>
    show Mono h (oMakeFunc fn x y ty P ctx f h)
    unfold oMakeFunc
    repeat (first | exact Mono.bad _ | exact Mono.same _ | split)
  case makeMap t r => cases r; exact .mk _ _; exact .bad _
  case makeSlice t x y =>
    show Mono h (oMakeSlice t x y ty P ctx f h)
    unfold oMakeSlice
    repeat (first | exact Mono.bad _ | exact Mono.ite (.ite (.mk _ _) (.bad _)) (.bad _) | split)
  case slice t x lo hi mx => exact mono_slice (ctx := ctx) t x lo hi mx ty
  case fieldAddr t x i =>
    show Mono h (Option.rec (motive := fun _ => AV → H → OR) (fun _ _ => .bad 85) (fun d x h => faV x d h) (fldOff P t i) (ev x f) h)
    cases fldOff P t i with
    | none => exact .bad _
    | some d =>
      show Mono h (faV (ev x f) d h)
      cases ev x f <;> first | exact Mono.bad _ | exact Mono.same _
  case field t x i =>
    show Mono h (oField t x i ty P ctx f h)
    unfold oField
    split
    · exact .res1 _
    · exact .bad _
  case indexAddr t x i => exact mono_iaX _ _ _
  case index t x i =>
    show Mono h (oIndex t x i ty P ctx f h)
    unfold oIndex
    split
    · cases ev x f <;> first | exact Mono.bad _ | exact Mono.resByte _
    · split
      · exact .ite (.res1 _) (.bad _)
      · exact .bad _
    · exact .bad _
  case lookup t x i ok =>
    show Mono h (oLookup t x i ok ty P ctx f h)
    unfold oLookup
    repeat (first | exact Mono.bad _ | exact Mono.same _ | split)
  case typeAssert x t ast ok =>
    show Mono h (oTypeAssert x t ast ok ty P ctx f h)
    unfold oTypeAssert
    repeat (first | exact Mono.bad _ | exact Mono.ite (.same _) (.bad _) | exact Mono.ite (.same _) (.ite (.same _) (.bad _)) | split)
  case extract x i =>
    show Mono h (exV (ev x f) i h)
    cases ev x f <;> first | exact Mono.bad _ | exact Mono.res1 _
  case call c =>
    show Mono h (ceD c.callee c.args.toList c.argTypes.toList P ctx f h)
    cases c.callee with
    | value g =>
      show Mono h (cvV (ev g f) (evs c.args.toList f) P ctx h)
      cases ev g f <;> first | exact Mono.bad _ | exact mono_aInvoke hc _ _ _
    | invoke r name => exact mono_aMeth hc _ _ _
    | builtin b =>
      show Mono h (ceBui b c.args.toList c.argTypes.toList P ctx f h)
      unfold ceBui
      split
      · unfold recV; split; exact .same _; exact .bad _
      · exact mono_builtin _ _ _
  all_goals exact .bad _

/- code -/
def MonoC (h : H) (r : RC) : Prop := ∀ f' h', (r = .nrm f' h' ∨ (∃ i, r = .ext i f' h') ∨ r = .ret f' h') → h.nx ≤ h'.nx
theorem MonoC.bad (n : Nat) : MonoC h (.bad n) := fun f' h' he => by rcases he with he | ⟨_, he⟩ | he <;> cases he
theorem MonoC.nrm (f : L2) (hl : h.nx ≤ h'.nx) : MonoC h (.nrm f h') := fun f' h2 he => by rcases he with he | ⟨_, he⟩ | he <;> cases he; exact hl
theorem MonoC.ext (i : Nat) (f : L2) (hl : h.nx ≤ h'.nx) : MonoC h (.ext i f h') := fun f' h2 he => by rcases he with he | ⟨_, he⟩ | he <;> cases he; exact hl
theorem MonoC.ret (f : L2) (hl : h.nx ≤ h'.nx) : MonoC h (.ret f h') := fun f' h2 he => by rcases he with he | ⟨_, he⟩ | he <;> cases he; exact hl
theorem MonoC.ite {c : Bool} {x y : RC} (hx : MonoC h x) (hy : MonoC h y) : MonoC h (Bool.rec (motive := fun _ => RC) y x c) := by cases c <;> assumption
theorem MonoC.andThen {r : RC} {k : L2 → H → RC} (hr : MonoC h r) (hk : ∀ f' h', MonoC h' (k f' h')) : MonoC h (andThen k r) := by
  cases r with
  | bad n => exact .bad n
  | nrm f' h' =>
    have := hr f' h' (.inl rfl)
    intro f2 h2 he
    exact Nat.le_trans this (hk f' h' f2 h2 he)
  | ext i f' h' => exact hr
  | ret f' h' => exact hr
theorem MonoC.putR {r : OR} (d : Option Tmp) (f : L2) (hr : Mono h r) : MonoC h (putR d f r) := by
  cases r with
  | bad n => exact .bad n
  | ok v h' => exact .nrm _ (hr v h' rfl)
theorem mono_run (hc : CtxMono ctx) (o : Oper) : MonoC h (runIt o P ctx f h) := by
  show MonoC h (op1 o o.dst o.type P ctx f h)
  unfold op1
  cases isDefer o.op with
  | none => exact .putR _ _ (mono_opD hc _ _ _)
  | some c =>
    show MonoC h (oDefer c o.dst o.type P ctx f h)
    unfold oDefer
    split
    · unfold dfPush
      split
      · exact .nrm _ (Nat.le_refl _)
      · exact .bad _
    · exact .bad _
theorem mono_oper1 (hc : CtxMono ctx) (ops : Array Oper) (o : Oper) : MonoC h (oper1 ops o P ctx f h) := by
  show MonoC h (guardR (guardOf ops o) o P ctx f h)
  cases guardOf ops o with
  | always => exact mono_run hc o
  | on t want =>
    show MonoC h (wantR (wantV (f.get t) want) o P ctx f h)
    cases wantV (f.get t) want with
    | yes => exact mono_run hc o
    | no => exact .nrm _ (Nat.le_refl _)
    | bad => exact .bad _
  | bad => exact .bad _
theorem mono_execOps (hc : CtxMono ctx) (ops : Array Oper) (l : List Oper) : ∀ f h, MonoC h (execOps P ctx ops l f h) := by
  induction l with
  | nil => exact fun f h => .nrm _ (Nat.le_refl _)
  | cons o l ih => exact fun f h => .andThen (mono_oper1 hc ops o) ih
theorem mono_drOps (hc : CtxMono ctx) (ops : Array Oper) (lg : List Nat) (l : List DO) : ∀ efs f h, MonoC h (drOps P ctx ops lg l efs f h) := by
  induction l with
  | nil => exact fun efs f h => .ite (.nrm _ (Nat.le_refl _)) (.bad _)
  | cons o l ih =>
    intro efs f h
    show MonoC h (RC.rec (motive := fun _ => RC) RC.bad (fun f' h' => drOps P ctx ops lg l (⟨o.bit, o.pr, wrote h.nx h'.lg, readsOf o.o.op f, h, h'.nx⟩ :: efs) f' h') (fun _ _ _ => .bad 184) (fun _ _ => .bad 184) (oper1 ops o.o P ctx f (noLog h)))
    have hm := mono_oper1 (P := P) (f := f) (h := noLog h) hc ops o.o
    cases hr : oper1 ops o.o P ctx f (noLog h) with
    | bad n => exact .bad n
    | nrm f' h' =>
      rw [hr] at hm
      have h1 : h.nx ≤ h'.nx := hm f' h' (.inl rfl)
      intro f2 h2 he
      exact Nat.le_trans h1 (ih _ f' h' f2 h2 he)
    | ext i f' h' => exact .bad _
    | ret f' h' => exact .bad _
theorem mono_loopK {b : CodeT} (hb : ∀ f h, MonoC h (b P ctx f h)) (k : Nat) : ∀ f h, MonoC h (loopK b P ctx k f h) := by
  induction k with
  | zero => exact hb
  | succ k ih => exact fun f h => .andThen (ih f h) ih
theorem mono_range (hc : CtxMono ctx) (x : Operand) (ps : Array Tmp) (as bd : Code) (u v : CodeT) : MonoC h (cRange x ps as bd u v P ctx f h) := by
  have key : ∀ (g : FuncId) (a cap : List AV) (fr f : L2) (h1 : H), h.nx ≤ h1.nx → MonoC h (rangeGo P ctx g a cap ps.toList as bd fr f h1) := by
    intro g a cap fr f h1 hle
    refine .ite ?_ (.bad _)
    unfold rangeEnd
    split
    · rename_i v h2 hr
      have := hc.call _ _ _ v h2 hr
      have h3 : h1.nx + 1 ≤ h2.nx := this
      split
      · refine .ite (.bad _) ?_
        unfold jumpOf
        split
        · exact .nrm _ (show h.nx ≤ h2.nx by omega)
        · exact .ret _ (show h.nx ≤ h2.nx by omega)
        · exact .ext _ _ (show h.nx ≤ h2.nx by omega)
        · exact .bad _
      · exact .bad _
    · exact .bad _
  unfold cRange
  split
  · exact key _ _ _ _ _ _ (Nat.le_succ _)
  · split
    · exact key _ _ _ _ _ _ (Nat.le_refl _)
    · exact .bad _
  · exact .bad _
theorem mono_exec (hc : CtxMono ctx) (c : Code) : ∀ f h, MonoC h (exec c P ctx f h) := by
  induction c with
  | skip => exact fun f h => .nrm _ (Nat.le_refl _)
  | region id ops dr =>
    intro f h
    cases dr with
    | false => exact mono_execOps hc ops ops.toList f h
    | true =>
      show MonoC h (execDrawn P ctx ops f h)
      unfold execDrawn
      exact .ite (mono_drOps hc ops h.lg _ _ f h) (.bad _)
  | seq a b iha ihb => exact fun f h => .andThen (iha f h) ihb
  | cond c a b iha ihb =>
    intro f h
    show MonoC h (condV (ev c f) (exec a) (exec b) P ctx f h)
    cases ev c f
    case bool q => cases q; exact ihb f h; exact iha f h
    all_goals exact .bad _
  | block id a ih =>
    intro f h
    show MonoC h (inBlock id (exec a P ctx f h))
    have := ih f h
    cases hr : exec a P ctx f h with
    | bad n => exact .bad n
    | nrm f' h' => rw [hr] at this; exact this
    | ext i f' h' => rw [hr] at this; exact .ite (.nrm _ (this f' h' (.inr (.inl ⟨i, rfl⟩)))) this
    | ret f' h' => rw [hr] at this; exact this
  | loop a ih => exact fun f h => .andThen (mono_loopK ih 20 f h) (fun _ _ => .bad _)
  | rangeFunc x ps as bd _ _ => exact fun f h => mono_range hc x ps as bd (exec as) (exec bd)
  | exit id => exact fun f h => .ext _ _ (Nat.le_refl _)
  | scope a ih => exact ih
  | label l => exact fun f h => .nrm _ (Nat.le_refl _)
  | goto l => exact fun f h => .bad _
  | ret => exact fun f h => .ret _ (Nat.le_refl _)
  | refuse w => exact fun f h => .bad _
theorem mono_runDefers (hc : CtxMono ctx) (ds : List AV) : ∀ h h', runDefers P ctx ds h = .ok h' → h.nx ≤ h'.nx := by
  induction ds with
  | nil => intro h h' he; cases he; exact Nat.le_refl _
  | cons d ds ih =>
    intro h h' he
    unfold runDefers at he
    split at he
    · rename_i _ _ g a cap _
      cases hb : bodied P g with
      | false => rw [hb] at he; cases he
      | true =>
        rw [hb] at he
        dsimp only at he
        split at he
        · rename_i v h2 hr
          exact Nat.le_trans (hc.call _ _ _ v h2 hr) (ih h2 h' he)
        · cases he
    · split at he
      · exact (show h.nx ≤ h'.nx from ih (h.put _ (.dfr true)) h' he)
      · cases he
    · cases he
theorem mono_finish (hc : CtxMono ctx) (rs : List ResultVar) : Mono h (finish P ctx rs f h) := by
  unfold finish
  split
  · rename_i ds _
    cases hr : runDefers P ctx ds h with
    | bad n => exact .bad _
    | ok h2 =>
      intro v h' he
      have he' : finish2 P rs f h2 = .ok v h' := he
      unfold finish2 at he'
      split at he'
      · cases he'; exact mono_runDefers hc ds h h2 hr
      · cases he'
  · exact .bad _
theorem mono_callF (hc : CtxMono ctx) (g : FuncId) (as : List AV) (h : H) : Mono h (callF P ctx g as h) := by
  unfold callF
  cases fnInfo P g with
  | none => exact .bad _
  | some i =>
    refine .ite ?_ (.bad _)
    have hm := mono_exec (P := P) hc i.body (putArgs as 0 frame0) h
    intro v h' he
    cases hr : exec i.body P ctx (putArgs as 0 frame0) h with
    | bad n => rw [hr] at he; cases he
    | nrm f' h1 =>
      rw [hr] at he hm
      have h0 := hm f' h1 (.inl rfl)
      have hf := mono_finish (P := P) (h := h1) (f := f') hc i.rs
      have he' : tagF g (finish P ctx i.rs f' h1) = .ok v h' := he
      cases hq : finish P ctx i.rs f' h1 with
      | bad n => rw [hq] at he'; cases he'
      | ok v2 h2 => rw [hq] at he' hf; cases he'; exact Nat.le_trans h0 (hf _ _ rfl)
    | ext i f' h1 => rw [hr] at he; cases he
    | ret f' h1 =>
      rw [hr] at he hm
      have h0 := hm f' h1 (.inr (.inr rfl))
      have hf := mono_finish (P := P) (h := h1) (f := f') hc i.rs
      have he' : tagF g (finish P ctx i.rs f' h1) = .ok v h' := he
      cases hq : finish P ctx i.rs f' h1 with
      | bad n => rw [hq] at he'; cases he'
      | ok v2 h2 => rw [hq] at he' hf; cases he'; exact Nat.le_trans h0 (hf _ _ rfl)
theorem mono_roundR {r : RC} (l : Nat) (hr : MonoC h r) : Mono h (roundR l r) := by
  have key : ∀ j h1, h.nx ≤ h1.nx → Mono h (endRound l j h1) := by
    intro j h1 hle
    unfold endRound
    split
    · intro v h' he; cases he; exact hle
    · exact .bad _
  cases r with
  | bad n => exact .bad _
  | nrm f' h' => exact key _ _ (hr f' h' (.inl rfl))
  | ext i f' h' => exact key _ _ (hr f' h' (.inr (.inl ⟨i, rfl⟩)))
  | ret f' h' => exact key _ _ (hr f' h' (.inr (.inr rfl)))
theorem mono_roundF (hc : CtxMono ctx) (l : Nat) (as : List AV) (h : H) : Mono h (roundF P ctx l as h) := by
  unfold roundF
  split
  · split
    · refine mono_roundR l (.andThen (mono_exec hc _ _ _) ?_)
      intro f' h'
      unfold roundB
      split
      · intro f2 h2 he
        exact (show h'.nx ≤ h2.nx from mono_exec (P := P) hc _ _ (h'.put l (.loop 1 _ _ _ _ _)) f2 h2 he)
      · exact .bad _
    · exact .bad _
  · exact .bad _
theorem mono_ctxD (P : Program) (d : Nat) : CtxMono (ctxD P d) := by
  induction d with
  | zero => exact ⟨fun _ _ _ => .bad _, fun _ _ _ => .bad _⟩
  | succ d ih => exact ⟨mono_callF ih, mono_roundF ih⟩
end Go.Ev
