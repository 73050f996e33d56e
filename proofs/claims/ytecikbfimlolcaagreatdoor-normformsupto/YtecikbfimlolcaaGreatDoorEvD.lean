/- A region's order: every operation once, behind all that it must wait for. The heap's next number only grows. An operation looks at its operands alone. The machine's steps, in frames of either kind. One operation of a region, as the machine runs it. Calls, as the machine runs them. Every operation that the evaluator runs. Regions whose order is fixed. -/
import Derived.Test.YtecikbfimlolcaaGreatDoorEvC
import Derived.KernelRfl
import Derived.Lib.Bytealg
set_option linter.unusedSimpArgs false
set_option linter.unusedVariables false
set_option linter.unusedSectionVars false
namespace Go.Ev
inductive Sched (ops:Array Oper):(Nat->Bool)->List Nat->Prop where
 |nil (D:Nat->Bool) (h:∀ i,i<ops.size->D i=true):Sched ops D []
 |cons (D:Nat->Bool) (i:Nat) (o:Oper) (rest:List Nat) (ho:ops[i]?=some o) (hd:D i=false) (he:∀ e∈o.after.toList,Region.binds .any e=true->D e.on=true)
  (hr:Sched ops (fun j=>if j=i then true else D j) rest):Sched ops D (i::rest)
def backward (ops:Array Oper):Prop:=∀ (i:Nat) (o:Oper),ops[i]?=some o->∀ e∈o.after.toList,Region.binds .any e=true->e.on<i
def Ds (n:Nat) (D:Nat->Bool):Nat:=((List.range n).filter fun i=>!D i).length
theorem openCount_succ (n:Nat) (D:Nat->Bool):Ds (n+1) D=Ds n D+(if D n=true then 0 else 1):=by
 unfold Ds
 rw [List.range_succ,List.filter_append,List.length_append]
 cases hd:D n<;>simp [hd]
theorem openCount_set (i:Nat) (D:Nat->Bool) (hd:D i=false) (n:Nat):(i<n->Ds n (fun j=>if j=i then true else D j)+1=Ds n D)/\(n<=i->Ds n (fun j=>if j=i then true else D j)=Ds n D):=by
 induction n with
 |zero=>exact ⟨fun hh=>absurd hh (by omega),fun _=>rfl⟩
 |succ n ih=>
  rw [openCount_succ,openCount_succ]
  by_cases h1:n=i
  . subst h1
    have:=ih.2 (Nat.le_refl _)
    refine ⟨fun _=>?_,fun hh=>absurd hh (by omega)⟩
    rw [this,hd,if_pos (if_pos rfl),if_neg (by simp)]
  . rw [if_neg h1]
    refine ⟨fun h2=>?_,fun h2=>?_⟩
    . have:=ih.1 (by omega);omega
    . have:=ih.2 (by omega);omega
theorem openCount_zero {n:Nat} {D:Nat->Bool} (h:Ds n D=0):∀ i,i<n->D i=true:=by
 intro i hi
 cases hd:D i with
 |true=>rfl
 |false=>
  have:0<Ds n D:=by
   unfold Ds
   exact List.length_pos_of_mem (List.mem_filter.2 ⟨List.mem_range.2 hi,by simp [hd]⟩)
  omega
theorem least_open {n:Nat} {D:Nat->Bool} (h:Ds n D≠0):∃ i,i<n/\D i=false/\∀ j,j<i->D j=true:=by
 induction n with
 |zero=>exact absurd rfl h
 |succ n ih=>
  by_cases h0:Ds n D=0
  . rw [openCount_succ,h0] at h
    cases hd:D n with
    |true=>rw [hd] at h;simp at h
    |false=>exact ⟨n,by omega,hd,openCount_zero h0⟩
  . obtain ⟨i,h1,h2,h3⟩:=ih h0
    exact ⟨i,by omega,h2,h3⟩
theorem sched_go {ops:Array Oper} (hb:backward ops):∀ (fuel t:Nat) (listed:Array Bool) (acc:List Nat),listed.size=ops.size->Ds ops.size (fun i=>listed.getD i true)=fuel ->
 ∃ l,Region.linearise.go .any ops fuel t listed acc=acc.reverse++l/\Sched ops (fun i=>listed.getD i true) l:=by
 intro fuel
 induction fuel with
 |zero=>
  intro t listed acc hs hc
  exact ⟨[],by simp [Region.linearise.go],.nil _ (openCount_zero hc)⟩
 |succ fuel ih=>
  intro t listed acc hs hc
  obtain ⟨m,m1,m2,m3⟩:=least_open (n:=ops.size) (D:=fun i=>listed.getD i true) (by rw [hc];simp)
  have hmo:ops[m]?=some ops[m]:=Array.getElem?_eq_getElem m1
  have hread:∀ (j:Nat),j<ops.size->listed.getD j true=listed.getD j false:=by
   intro j hj
   have:j<listed.size:=by omega
   simp [Array.getD,this]
  simp only [Region.linearise.go]
  generalize hrs:((List.range ops.size).filter fun i=>!listed.getD i true&&((ops[i]?).map (·.after.all fun e=>!Region.binds .any e||listed.getD e.on false)).getD false)=rs
  have hin:∀ i∈rs,∃ o,ops[i]?=some o/\listed.getD i true=false/\∀ e∈o.after.toList,Region.binds .any e=true->listed.getD e.on true=true:=by
   intro i hi
   rw [<- hrs,List.mem_filter,List.mem_range] at hi
   obtain ⟨h1,h2⟩:=hi
   rw [Bool.and_eq_true] at h2
   have ho:ops[i]?=some ops[i]:=Array.getElem?_eq_getElem h1
   rw [ho] at h2
   refine ⟨_,ho,by simpa using h2.1,fun e he hbe=>?_⟩
   have h3:=h2.2
   simp only [Option.map_some,Option.getD_some] at h3
   have h4:=(Array.all_eq_true'.1 h3) e (by simpa using he)
   rw [hbe] at h4
   have hlt:=hb i _ ho e he hbe
   rw [hread _ (by omega)]
   simpa using h4
  have hne:m∈rs:=by
   rw [<- hrs,List.mem_filter,List.mem_range]
   refine ⟨m1,?_⟩
   rw [Bool.and_eq_true]
   refine ⟨by simpa using m2,?_⟩
   rw [hmo]
   simp only [Option.map_some,Option.getD_some]
   refine Array.all_eq_true'.2 fun e he=>?_
   cases hbe:Region.binds .any e with
   |false=>rfl
   |true=>
    have hlt:=hb m _ hmo e (by simpa using he) hbe
    have:=m3 e.on hlt
    rw [hread _ (by omega)] at this
    simpa using this
  have hpos:0<rs.length:=List.length_pos_of_mem hne
  have hget:rs[t % rs.length]?=some (rs[t % rs.length]'(Nat.mod_lt _ hpos)):=List.getElem?_eq_getElem _
  rw [hget]
  generalize hi:rs[t % rs.length]'(Nat.mod_lt _ hpos)=i
  have him:i∈rs:=by rw [<- hi];exact List.getElem_mem _
  obtain ⟨o,ho,hd,hed⟩:=hin i him
  have hil:i<ops.size:=(Array.getElem?_eq_some_iff.1 ho).1
  have hfun:(fun j=>(listed.setIfInBounds i true).getD j true)=fun j=>if j=i then true else listed.getD j true:=by
   funext j
   by_cases hj:j=i
   . subst hj
     have:j<listed.size:=by omega
     simp [Array.getD,this]
   . simp only [Array.getD_eq_getD_getElem?,if_neg hj]
     rw [Array.getElem?_setIfInBounds_ne (Ne.symm hj)]
  dsimp only
  have hcount:Ds ops.size (fun j=>(listed.setIfInBounds i true).getD j true)=fuel:=by
   rw [hfun]
   have:=(openCount_set i (fun j=>listed.getD j true) hd ops.size).1 hil
   rw [hc] at this
   omega
  obtain ⟨l,q1,q2⟩:=ih (t / rs.length) (listed.setIfInBounds i true) (i::acc) (by simp [hs]) hcount
  refine ⟨i::l,by rw [q1];simp,.cons _ i o l ho hd hed ?_⟩
  rw [hfun] at q2
  exact q2
theorem sched_all {ops:Array Oper} (hb:backward ops) (t:Nat):Sched ops (fun i=>(Array.replicate ops.size false).getD i true) (Region.schedule true ops t):=by
 have hc:Ds ops.size (fun i=>(Array.replicate ops.size false).getD i true)=ops.size:=by
  unfold Ds
  rw [List.filter_eq_self.2]
  . simp
  . intro i hi
    rw [List.mem_range] at hi
    simp [Array.getD,hi]
 obtain ⟨l,q1,q2⟩:=sched_go hb ops.size t (Array.replicate ops.size false) [] (by simp) hc
 have:Region.schedule true ops t=l:=by
  simp only [Region.schedule,Bool.true_or,if_true,Region.linearise,q1]
  simp
 rw [this]
 exact q2
end Go.Ev
namespace Go.Ev
variable {P:Program} {h h':H} {v:AV} {f:L2} {ctx:Ae}
def Ay (h:H) (r:OR):Prop:=∀ v h',r=.ok v h'->h.nx<=h'.nx
theorem Ay.bad (n:Nat):Ay h (.bad n):=fun v h' he=>by cases he
theorem Ay.same (v:AV):Ay h (.ok v h):=fun v h' he=>by cases he;exact Nat.le_refl _
theorem Ay.put (v:AV) (b:Nat) (o:AO):Ay h (.ok v (h.put b o)):=fun v h' he=>by cases he;exact Nat.le_refl _
theorem Ay.put2 (v:AV) (b c:Nat) (o p:AO):Ay h (.ok v ((h.put b o).put c p)):=fun v h' he=>by cases he;exact Nat.le_refl _
theorem Ay.new (v:AV) (o:AO):Ay h (.ok v (h.new o)):=fun v h' he=>by cases he;exact Nat.le_succ _
theorem Ay.mk (o:AO) (v:AV):Ay h (mk h o v):=Ay.new v o
theorem Ay.new2 (v:AV) (o p:AO):Ay h (.ok v ((h.new o).new p)):=fun v h' he=>by cases he;show h.nx<=h.nx+1+1;omega
theorem Ay.ver (v:AV) (b c:Nat) (o p q:AO):Ay h (.ok v (((h.put b o).put c p).new q)):=fun v h' he=>by cases he;exact Nat.le_succ _
theorem Ay.ite {c:Bool} {x y:OR} (hx:Ay h x) (hy:Ay h y):Ay h (Bool.rec (motive:=fun _=>OR) y x c):=by cases c<;>assumption
theorem Ay.res1 (x:Option AV):Ay h (res1 x h):=by cases x;exact .bad _;exact .same _
theorem Ay.resAgg (x:Option (List AV)):Ay h (resAgg x h):=by cases x;exact .bad _;exact .same _
theorem Ay.resByte (x:Option Nat):Ay h (resByte x h):=by cases x;exact .bad _;exact .same _
theorem Ay.newC (x:Option (List AV)) (e:TypeId):Ay h (newC x e h):=by cases x;exact .bad _;exact .new _ _
theorem wr_nx {b off:Nat} {vs:List AV} (hw:h.wr b off vs=.ok h'):h'.nx=h.nx:=by
 rcases wr_cases hw with ⟨c,t,c',_,_,rfl⟩|⟨c,t,k,n,c',_,_,_,rfl⟩<;>rfl
theorem Ay.wr (b off:Nat) (vs:List AV) (g:H->AV):Ay h (RH.rec (motive:=fun _=>OR) OR.bad (fun h'=>.ok (g h') h') (h.wr b off vs)):=by
 cases hw:h.wr b off vs with
 |bad n=>exact .bad n
 |ok h2=>exact fun v h' he=>by cases he;rw [wr_nx hw];exact Nat.le_refl _
structure Dk (ctx:Ae):Prop where
 call:∀ g as h,Ay h (ctx.call g as h)
 round:∀ l as h,Ay h (ctx.round l as h)
theorem mono_iTab (op:BinOp) (k:IntKind) (a:Int) (k':IntKind) (b:Int):Ay h (iTab op k a k' b h):=by
 cases op
 all_goals first
  |exact Ay.bad _
  |exact Ay.ite (.same _) (.bad _)
  |exact Ay.ite (.ite (.bad _) (.same _)) (.bad _)
  |skip
 all_goals (show Ay h _;dsimp only [iTab,iBit,iShl,iShr];split)
 all_goals first
  |exact Ay.bad _
  |exact Ay.same _
  |exact Ay.ite (.ite (.ite (.same _) (.bad _)) (.bad _)) (.bad _)
theorem mono_sTab (op:BinOp) (a b:List Nat):Ay h (sTab op a b h):=by
 cases op<;>first|exact Ay.bad _|exact Ay.same _|exact Ay.ite (.same _) (.bad _)
theorem mono_binGen (x y:AV) (op:BinOp) (t:TypeId) (c:Bool):Ay h (binGen x y op t c P h):=by
 unfold binGen
 split
 . refine Ay.ite ?_ (.bad _);split;exact .same _;exact .bad _
 . refine Ay.ite ?_ (.bad _);split;exact .same _;exact .bad _
 . exact .bad _
theorem mono_binD (x y:AV) (op:BinOp) (t:TypeId) (c:Bool):Ay h (binD x x y op t c P h):=by
 cases x
 case int k n=>cases y<;>first|exact Ay.bad _|exact mono_iTab _ _ _ _ _
 case str s=>cases y<;>first|exact Ay.bad _|exact mono_sTab _ _ _
 case top=>exact .bad _
 all_goals exact mono_binGen _ _ _ _ _
theorem mono_load (x:AV) (i:Option (Option Nat)):Ay h (ldV x i h):=by
 cases x
 case ptr b o=>
  show Ay h (ldC (h.rd b) i o h)
  cases h.rd b with
  |none=>exact .bad _
  |some c=>
   cases i with
   |none=>exact .bad _
   |some j=>cases j;exact .res1 _;exact .resAgg _
 all_goals exact .bad _
theorem mono_store (x:AV) (cs:Option (List AV)) (n:Option Nat):Ay h (stV x cs n h):=by
 cases x
 case ptr b o=>
  show Ay h (stC cs n b o h)
  unfold stC
  split
  . exact .ite (.ite (.wr _ _ _ (fun _=>.Bl [])) (.bad _)) (.bad _)
  . exact .bad _
 all_goals exact .bad _
theorem mono_map (t:TypeId) (m k x:Operand) (ty:TypeId):Ay h (Ew t m k x ty P ctx f h):=by
 unfold Ew
 repeat (first|exact Ay.bad _|exact Ay.put _ _ _|split)
theorem mono_convert (s d:TypeId) (x:Operand) (ty:TypeId):Ay h (oConvert s d x ty P ctx f h):=by
 unfold oConvert
 repeat (first|exact Ay.bad _|exact Ay.same _|exact Ay.ite (.new2 _ _ _) (.bad _)|exact Ay.ite (.same _) (.bad _)|split)
theorem mono_slSl (b off cap sz:Nat) (ex:Bool) (l u:Nat):Ay h (slSl b off cap sz ex l u h):=
 .ite (.ite (.ite (.same _) (.ite (.same _) (.ite (.same _) (.same _)))) (.bad _)) (.bad _)
theorem mono_slSl3 (b off cap sz l u c:Nat):Ay h (slSl3 b off cap sz l u c h):=.ite (.ite (.ite (.same _) (.bad _)) (.bad _)) (.bad _)
theorem mono_slStr (s:List Nat) (l u:Option Nat):Ay h (slStr s l u h):=by
 unfold slStr
 split
 . exact .ite (.ite (.same _) (.bad _)) (.bad _)
 . exact .bad _
theorem mono_slice (t:TypeId) (x:Operand) (lo hi mx:Option Operand) (ty:TypeId):Ay h (oSlice t x lo hi mx ty P ctx f h):=by
 refine .ite ?_ (.bad _)
 unfold E2
 repeat (first|exact Ay.bad _|exact Ay.same _|exact mono_slStr _ _ _|exact Ay.ite (mono_slSl _ _ _ _ _ _ _) (.bad _)|exact Ay.ite (mono_slSl3 _ _ _ _ _ _ _) (.bad _)|exact mono_slSl3 _ _ _ _ _ _ _|split)
theorem mono_iaX (i:XI) (x:AV) (n:Option Nat):Ay h (iaX i x n h):=by
 cases i
 case sl i=>
  cases n with
  |none=>exact .bad _
  |some n=>cases x<;>first|exact Ay.bad _|exact Ay.ite (.same _) (.bad _)
 case arr len i=>
  cases n with
  |none=>exact .bad _
  |some n=>cases x<;>first|exact Ay.bad _|exact Ay.ite (.same _) (.bad _)
 all_goals exact .bad _
theorem mono_append (st:TypeId) (s x:AV):Ay h (append1 P st s x h):=by
 unfold append1
 split
 . split
   . split
     . exact .ite (.same _) (.ite (.ite (.new2 _ _ _) (.bad _)) (.bad _))
     . refine .ite (.ite (.ite ?_ (.bad _)) (.bad _)) (.bad _)
       refine .ite ?_ (.ite ?_ ?_)
       . unfold appIn
         rename_i new _ _ _ _ _ _ _ _ _
         cases new with
         |nil=>exact .same _
         |cons y l=>exact .wr _ _ _ (fun _=>_)
       . unfold appEx
         repeat (first|exact Ay.bad _|exact Ay.new2 _ _ _|split)
       . unfold appTip
         repeat (first|exact Ay.bad _|exact Ay.ite (.ite (.ite (.ver _ _ _ _ _ _) (.bad _)) (.bad _)) (.bad _)|split)
     . exact .bad _
   . exact .bad _
 . exact .bad _
theorem mono_lnK (k:LK) (x:AV):Ay h (lnK k x h):=by
 cases k
 case str=>cases x<;>first|exact Ay.bad _|exact Ay.same _
 case sl=>cases x<;>first|exact Ay.bad _|exact Ay.same _
 case map=>
  show Ay h (lnM x h)
  unfold lnM
  split<;>first|exact Ay.bad _|exact Ay.same _
 case bad=>exact .bad _
theorem mono_mm (lt:Bool) (l:List AV):Ay h (mm lt l h):=by
 unfold mm
 repeat (first|exact Ay.bad _|exact Ay.same _|split)
theorem mono_copy (dt:TypeId) (d x:AV):Ay h (copyA P dt d x h):=by
 unfold copyA
 repeat (first|exact Ay.bad _|exact Ay.same _|exact Ay.ite (.wr _ _ _ (fun _=>_)) (.bad _)|split)
theorem mono_us (t:TypeId) (p n:AV):Ay h (usV P t p n h):=by
 unfold usV
 repeat (first|exact Ay.bad _|exact Ay.same _|exact Ay.ite (.ite (.ite (.put2 _ _ _ _ _) (.bad _)) (.bad _)) (.bad _)|split)
theorem mono_builtin (b:Builtin) (ts:List TypeId) (args:List AV):Ay h (aBuiltin b ts args P h):=by
 unfold aBuiltin
 split
 case h_1=>split;exact .ite (mono_append _ _ _) (.bad _);exact .bad _
 case h_2=>split;exact mono_lnK _ _;exact .bad _
 case h_3=>split;exact mono_copy _ _ _;exact .bad _
 case h_4=>exact mono_mm _ _
 case h_5=>exact mono_mm _ _
 case h_6=>
  split
  . split
    . unfold capV;repeat (first|exact Ay.bad _|exact Ay.same _|split)
    . exact .bad _
  . exact .bad _
 case h_7=>
  split
  . unfold sdV;repeat (first|exact Ay.bad _|exact Ay.same _|exact Ay.ite (.bad _) (.same _)|split)
  . exact .bad _
 case h_8=>split;exact mono_us _ _ _;exact .bad _
 case h_9=>exact .bad _
theorem mono_aCall (hc:Dk ctx) (g:FuncId) (args:List AV):Ay h (aCall P ctx g args h):=by
 refine .ite (hc.call _ _ _) ?_
 unfold aExt
 repeat (first|exact Ay.bad _|exact Ay.same _|split)
theorem mono_aMeth (hc:Dk ctx) (r:AV) (name:String) (args:List AV):Ay h (aMeth P ctx r name args h):=by
 unfold aMeth
 repeat (first|exact Ay.bad _|exact mono_aCall hc _ _|split)
theorem mono_aInvoke (hc:Dk ctx) (fn:Fn) (cap args:List AV):Ay h (aInvoke P ctx fn cap args h):=by
 unfold aInvoke
 repeat (first|exact Ay.bad _|exact mono_aCall hc _ _|exact mono_aMeth hc _ _ _|exact hc.round _ _ _|split)
theorem mono_opD (hc:Dk ctx) (o:Op) (ty:TypeId) (h:H):Ay h (opD o ty P ctx f h):=by
 cases o
 case move x=>exact .same _
 case assign x=>exact .same _
 case pick c a b=>
  show Ay h (Av (ev c f) (ev a f) (ev b f) h)
  cases ev c f
  case bool q=>cases q<;>exact .same _
  all_goals exact .bad _
 case alloc e=>exact .newC _ _
 case box e x=>exact .newC _ _
 case build t parts=>
  show Ay h (oBuild t parts ty P ctx f h)
  unfold oBuild
  split<;>first|exact .resAgg _|exact .bad _
 case buildSlice t n parts=>
  show Ay h (Gj t n parts ty P ctx f h)
  unfold Gj
  repeat (first|exact Ay.bad _|exact Ay.ite (.mk _ _) (.bad _)|split)
 case insert t m k x=>exact mono_map (ctx:=ctx) t m k x ty
 case mapUpdate t m k x=>exact mono_map (ctx:=ctx) t m k x ty
 case load t x=>exact mono_load _ _
 case store t x y=>exact mono_store _ _ _
 case nilCheck x=>exact .ite (.same _) (.bad _)
 case binOp op t x y yt=>exact mono_binD _ _ _ _ _
 case unOp op t x=>
  show Ay h (oUnOp op t x ty P ctx f h)
  unfold oUnOp
  repeat (first|exact Ay.bad _|exact Ay.same _|split)
 case convert s d x=>exact mono_convert (ctx:=ctx) s d x ty
 case makeInterface t x=>exact .ite (.same _) (.bad _)
 case makeFunc fn x y=>
  show Ay h (oMakeFunc fn x y ty P ctx f h)
  unfold oMakeFunc
  repeat (first|exact Ay.bad _|exact Ay.same _|split)
 case makeMap t r=>cases r;exact .mk _ _;exact .bad _
 case makeSlice t x y=>
  show Ay h (oMakeSlice t x y ty P ctx f h)
  unfold oMakeSlice
  repeat (first|exact Ay.bad _|exact Ay.ite (.ite (.mk _ _) (.bad _)) (.bad _)|split)
 case slice t x lo hi mx=>exact mono_slice (ctx:=ctx) t x lo hi mx ty
 case fieldAddr t x i=>
  show Ay h (Option.rec (motive:=fun _=>AV->H->OR) (fun _ _=>.bad 85) (fun d x h=>Bg x d h) (fldOff P t i) (ev x f) h)
  cases fldOff P t i with
  |none=>exact .bad _
  |some d=>
   show Ay h (Bg (ev x f) d h)
   cases ev x f<;>first|exact Ay.bad _|exact Ay.same _
 case field t x i=>
  show Ay h (oField t x i ty P ctx f h)
  unfold oField
  split
  . exact .res1 _
  . exact .bad _
 case indexAddr t x i=>exact mono_iaX _ _ _
 case index t x i=>
  show Ay h (oIndex t x i ty P ctx f h)
  unfold oIndex
  split
  . cases ev x f<;>first|exact Ay.bad _|exact Ay.resByte _
  . split
    . exact .ite (.res1 _) (.bad _)
    . exact .bad _
  . exact .bad _
 case lookup t x i ok=>
  show Ay h (oLookup t x i ok ty P ctx f h)
  unfold oLookup
  repeat (first|exact Ay.bad _|exact Ay.same _|split)
 case typeAssert x t ast ok=>
  show Ay h (Gk x t ast ok ty P ctx f h)
  unfold Gk
  repeat (first|exact Ay.bad _|exact Ay.ite (.same _) (.bad _)|exact Ay.ite (.same _) (.ite (.same _) (.bad _))|split)
 case extract x i=>
  show Ay h (exV (ev x f) i h)
  cases ev x f<;>first|exact Ay.bad _|exact Ay.res1 _
 case call c=>
  show Ay h (ceD c.callee c.args.toList c.argTypes.toList P ctx f h)
  cases c.callee with
  |value g=>
   show Ay h (cvV (ev g f) (evs c.args.toList f) P ctx h)
   cases ev g f<;>first|exact Ay.bad _|exact mono_aInvoke hc _ _ _
  |invoke r name=>exact mono_aMeth hc _ _ _
  |builtin b=>
   show Ay h (ceBui b c.args.toList c.argTypes.toList P ctx f h)
   unfold ceBui
   split
   . unfold recV;split;exact .same _;exact .bad _
   . exact mono_builtin _ _ _
 case panic x=>
  show Ay h (panV (ev x f) h)
  unfold panV
  split
  . exact fun v h' he=>by cases he
  . exact .bad _
 all_goals exact .bad _
def D7 (h:H) (r:RC):Prop:=∀ f' h',(r=.Ar f' h'\/(∃ i,r=.ext i f' h')\/r=.ret f' h')->h.nx<=h'.nx
theorem D7.bad (n:Nat):D7 h (.bad n):=fun f' h' he=>by rcases he with he|⟨_,he⟩|he<;>cases he
theorem D7.Ar (f:L2) (hl:h.nx<=h'.nx):D7 h (.Ar f h'):=fun f' h2 he=>by rcases he with he|⟨_,he⟩|he<;>cases he;exact hl
theorem D7.ext (i:Nat) (f:L2) (hl:h.nx<=h'.nx):D7 h (.ext i f h'):=fun f' h2 he=>by rcases he with he|⟨_,he⟩|he<;>cases he;exact hl
theorem D7.ret (f:L2) (hl:h.nx<=h'.nx):D7 h (.ret f h'):=fun f' h2 he=>by rcases he with he|⟨_,he⟩|he<;>cases he;exact hl
theorem D7.ite {c:Bool} {x y:RC} (hx:D7 h x) (hy:D7 h y):D7 h (Bool.rec (motive:=fun _=>RC) y x c):=by cases c<;>assumption
theorem D7.andThen {r:RC} {k:L2->H->RC} (hr:D7 h r) (hk:∀ f' h',D7 h' (k f' h')):D7 h (andThen k r):=by
 cases r with
 |bad n=>exact .bad n
 |Ar f' h'=>
  have:=hr f' h' (.inl rfl)
  intro f2 h2 he
  exact Nat.le_trans this (hk f' h' f2 h2 he)
 |ext i f' h'=>exact hr
 |ret f' h'=>exact hr
theorem D7.putR {r:OR} {o:Op} (d:Option Tmp) (f:L2) (hr:Ay h r):D7 h (putR d f h o r):=by
 cases r with
 |bad n=>exact .bad n
 |ok v h'=>exact .Ar _ (hr v h' rfl)
 |pan v h'=>
  refine .ite ?_ (.bad _)
  cases hb:Nat.ble h.nx h'.nx with
  |false=>exact .bad _
  |true=>exact .ext _ _ (ble_le hb)
theorem mono_run (hc:Dk ctx) (o:Oper):D7 h (runIt o P ctx f h):=by
 show D7 h (op1 o o.dst o.type P ctx f h)
 unfold op1
 cases isDefer o.op with
 |none=>exact .putR _ _ (mono_opD hc _ _ _)
 |some c=>
  show D7 h (oDefer c o.dst o.type P ctx f h)
  unfold oDefer
  split
  . unfold dfPush
    split
    . exact .Ar _ (Nat.le_refl _)
    . exact .bad _
  . exact .bad _
theorem mono_oper1 (hc:Dk ctx) (ops:Array Oper) (o:Oper):D7 h (Fe ops o P ctx f h):=by
 show D7 h (guardR (guardOf ops o) o P ctx f h)
 cases guardOf ops o with
 |always=>exact mono_run hc o
 |on t want=>
  show D7 h (wantR (wantV (f.get t) want) o P ctx f h)
  cases wantV (f.get t) want with
  |yes=>exact mono_run hc o
  |no=>exact .Ar _ (Nat.le_refl _)
  |bad=>exact .bad _
 |bad=>exact .bad _
theorem mono_execOps (hc:Dk ctx) (ops:Array Oper) (l:List Oper):∀ f h,D7 h (Gr P ctx ops l f h):=by
 induction l with
 |nil=>exact fun f h=>.Ar _ (Nat.le_refl _)
 |cons o l ih=>exact fun f h=>.andThen (mono_oper1 hc ops o) ih
theorem mono_drOps (hc:Dk ctx) (ops:Array Oper) (lg:List Nat) (l:List DO):∀ efs f h,D7 h (drOps P ctx ops lg l efs f h):=by
 induction l with
 |nil=>exact fun efs f h=>.ite (.Ar _ (Nat.le_refl _)) (.bad _)
 |cons o l ih=>
  intro efs f h
  show D7 h (RC.rec (motive:=fun _=>RC) RC.bad (fun f' h'=>drOps P ctx ops lg l (⟨o.bit,o.pr,wrote h.nx h'.lg,F2 o.o.op f,h,h'.nx⟩::efs) f' h') (fun _ _ _=>.bad 184) (fun _ _=>.bad 184) (Fe ops o.o P ctx f (Ab h)))
  have hm:=mono_oper1 (P:=P) (f:=f) (h:=Ab h) hc ops o.o
  cases hr:Fe ops o.o P ctx f (Ab h) with
  |bad n=>exact .bad n
  |Ar f' h'=>
   rw [hr] at hm
   have h1:h.nx<=h'.nx:=hm f' h' (.inl rfl)
   intro f2 h2 he
   exact Nat.le_trans h1 (ih _ f' h' f2 h2 he)
  |ext i f' h'=>exact .bad _
  |ret f' h'=>exact .bad _
theorem mono_loopK {b:Fj} (hb:∀ f h,D7 h (b P ctx f h)) (k:Nat):∀ f h,D7 h (loopK b P ctx k f h):=by
 induction k with
 |zero=>exact hb
 |succ k ih=>exact fun f h=>.andThen (ih f h) ih
theorem mono_range (hc:Dk ctx) (x:Operand) (ps:Array Tmp) (as bd:Code) (u v:Fj):D7 h (cRange x ps as bd u v P ctx f h):=by
 have key:∀ (g:FuncId) (a cap:List AV) (fr f:L2) (h1:H),h.nx<=h1.nx->D7 h (rangeGo P ctx g a cap ps.toList as bd fr f h1):=by
  intro g a cap fr f h1 hle
  refine .ite ?_ (.bad _)
  unfold rangeEnd
  split
  . rename_i v h2 hr
    have:=hc.call _ _ _ v h2 hr
    have h3:h1.nx+1<=h2.nx:=this
    split
    . refine .ite (.bad _) ?_
      unfold jumpOf
      split
      . exact .Ar _ (show h.nx<=h2.nx by omega)
      . exact .ret _ (show h.nx<=h2.nx by omega)
      . exact .ite (.bad _) (.ext _ _ (show h.nx<=h2.nx by omega))
      . exact .bad _
    . exact .bad _
  . exact .bad _
  . exact .bad _
 unfold cRange
 split
 . exact key _ _ _ _ _ _ (Nat.le_succ _)
 . split
   . exact key _ _ _ _ _ _ (Nat.le_refl _)
   . exact .bad _
 . exact .bad _
theorem mono_exec (hc:Dk ctx) (c:Code):∀ f h,D7 h (exec c P ctx f h):=by
 induction c with
 |skip=>exact fun f h=>.Ar _ (Nat.le_refl _)
 |region id ops dr=>
  intro f h
  cases dr with
  |false=>exact mono_execOps hc ops ops.toList f h
  |true=>
   show D7 h (F5 P ctx ops f h)
   unfold F5
   exact .ite (mono_drOps hc ops h.lg _ _ f h) (.bad _)
 |seq a b iha ihb=>exact fun f h=>.andThen (iha f h) ihb
 |cond c a b iha ihb=>
  intro f h
  show D7 h (condV (ev c f) (exec a) (exec b) P ctx f h)
  cases ev c f
  case bool q=>cases q;exact ihb f h;exact iha f h
  all_goals exact .bad _
 |block id a ih=>
  intro f h
  show D7 h (inBlock id (exec a P ctx f h))
  have:=ih f h
  cases hr:exec a P ctx f h with
  |bad n=>exact .bad n
  |Ar f' h'=>rw [hr] at this;exact this
  |ext i f' h'=>rw [hr] at this;exact .ite (.Ar _ (this f' h' (.inr (.inl ⟨i,rfl⟩)))) this
  |ret f' h'=>rw [hr] at this;exact this
 |loop a ih=>exact fun f h=>.andThen (mono_loopK ih 20 f h) (fun _ _=>.bad _)
 |rangeFunc x ps as bd _ _=>exact fun f h=>mono_range hc x ps as bd (exec as) (exec bd)
 |exit id=>exact fun f h=>.ext _ _ (Nat.le_refl _)
 |scope a ih=>exact ih
 |label l=>exact fun f h=>.Ar _ (Nat.le_refl _)
 |goto l=>exact fun f h=>.bad _
 |ret=>exact fun f h=>.ret _ (Nat.le_refl _)
 |refuse w=>exact fun f h=>.bad _
theorem mono_runDefers (hc:Dk ctx) (ds:List AV):∀ h h',Dt P ctx ds h=.ok h'->h.nx<=h'.nx:=by
 induction ds with
 |nil=>intro h h' he;cases he;exact Nat.le_refl _
 |cons d ds ih=>
  intro h h' he
  unfold Dt at he
  split at he
  . rename_i _ _ g a cap _
    cases hb:Ba P g with
    |false=>rw [hb] at he;cases he
    |true=>
     rw [hb] at he
     dsimp only at he
     split at he
     . rename_i v h2 hr
       exact Nat.le_trans (hc.call _ _ _ v h2 hr) (ih h2 h' he)
     . cases he
     . cases he
  . split at he
    . exact (show h.nx<=h'.nx from ih (h.put _ (.dfr true)) h' he)
    . cases he
  . cases he
theorem mono_finish (hc:Dk ctx) (rs:List ResultVar):Ay h (finish P ctx rs f h):=by
 unfold finish
 split
 . rename_i ds _
   cases hr:Dt P ctx ds h with
   |bad n=>exact .bad _
   |ok h2=>
    intro v h' he
    have he':F1 P rs f h2=.ok v h':=he
    unfold F1 at he'
    split at he'
    . cases he';exact mono_runDefers hc ds h h2 hr
    . cases he'
 . exact .bad _
theorem finish2_ok {rs:List ResultVar} {h2:H} (he:F1 P rs f h2=.ok v h'):h'=h2:=by
 unfold F1 at he
 split at he
 . cases he;rfl
 . cases he
theorem finish2_pan {rs:List ResultVar} {h2:H} (he:F1 P rs f h2=.pan v h'):False:=by
 unfold F1 at he
 split at he<;>cases he
theorem finishX_ok {rs:List ResultVar} {id:Nat} (he:finishX P ctx rs id f h=.ok v h'):id=Eb/\∃ g as cap ds v1 h1,f.get Bi=.Bl (.fn (.func g) as cap::ds)/\Ba P g=true/\callR P ctx g (lapp as cap) (f.get pslot) h=.ok v1 h1/\h.nx<=h1.nx /\
 Dt P ctx ds h1=.ok h'/\h1.nx<=h'.nx/\F1 P rs f h'=.ok v h':=by
 unfold finishX at he
 cases hid:Nat.beq id Eb with
 |false=>rw [hid] at he;cases he
 |true=>
  rw [hid] at he
  refine ⟨Cf hid,?_⟩
  have he1:finishP P ctx rs f h=.ok v h':=he
  unfold finishP at he1
  split at he1
  . cases he1
  . rename_i d ds hvt
    split at he1
    . rename_i g as cap hvf
      cases hbod:Ba P g with
      |false=>rw [hbod] at he1;cases he1
      |true=>
       rw [hbod] at he1
       have he2:recBack P ctx rs f ds h (callR P ctx g (lapp as cap) (f.get pslot) h)=.ok v h':=he1
       unfold recBack at he2
       split at he2
       . rename_i v1 h1 hcr
         cases hb1:Nat.ble h.nx h1.nx with
         |false=>rw [hb1] at he2;cases he2
         |true=>
          rw [hb1] at he2
          dsimp only at he2
          split at he2
          . rename_i h2 hrd
            cases hb2:Nat.ble h1.nx h2.nx with
            |false=>rw [hb2] at he2;cases he2
            |true=>
             rw [hb2] at he2
             have he3:F1 P rs f h2=.ok v h':=he2
             have:=finish2_ok he3
             subst this
             have e1:=vT_yes hvt
             have e2:=vF_yes hvf
             rw [e2] at e1
             exact ⟨g,as,cap,ds,v1,h1,e1,hbod,hcr,ble_le hb1,hrd,ble_le hb2,he3⟩
          . cases he2
       . cases he2
       . cases he2
    . cases he1
  . cases he1
theorem finishX_pan {rs:List ResultVar} {id:Nat} (he:finishX P ctx rs id f h=.pan v h'):id=Eb/\f.get Bi=.Bl []/\v=f.get pslot/\h'=h:=by
 unfold finishX at he
 cases hid:Nat.beq id Eb with
 |false=>rw [hid] at he;cases he
 |true=>
  rw [hid] at he
  refine ⟨Cf hid,?_⟩
  have he1:finishP P ctx rs f h=.pan v h':=he
  unfold finishP at he1
  split at he1
  . rename_i hvt
    cases he1
    exact ⟨vT_yes hvt,rfl,rfl⟩
  . rename_i d ds hvt
    split at he1
    . rename_i g as cap hvf
      cases hbod:Ba P g with
      |false=>rw [hbod] at he1;cases he1
      |true=>
       rw [hbod] at he1
       have he2:recBack P ctx rs f ds h (callR P ctx g (lapp as cap) (f.get pslot) h)=.pan v h':=he1
       unfold recBack at he2
       split at he2
       . rename_i v1 h1 hcr
         cases hb1:Nat.ble h.nx h1.nx with
         |false=>rw [hb1] at he2;cases he2
         |true=>
          rw [hb1] at he2
          dsimp only at he2
          split at he2
          . rename_i h2 hrd
            cases hb2:Nat.ble h1.nx h2.nx with
            |false=>rw [hb2] at he2;cases he2
            |true=>
             rw [hb2] at he2
             exact (finish2_pan he2).elim
          . cases he2
       . cases he2
       . cases he2
    . cases he1
  . cases he1
theorem mono_finishX (ctx:Ae) (rs:List ResultVar) (id:Nat):Ay h (finishX P ctx rs id f h):=by
 intro v h' he
 obtain ⟨_,g,as,cap,ds,v1,h1,_,_,_,h2,_,h3,_⟩:=finishX_ok he
 omega
theorem mono_callF (hc:Dk ctx) (g:FuncId) (as:List AV) (h:H):Ay h (Fc P ctx g as h):=by
 unfold Fc
 cases fnInfo P g with
 |none=>exact .bad _
 |some i=>
  refine .ite ?_ (.bad _)
  have hm:=mono_exec (P:=P) hc i.body (Em as 0 As) h
  intro v h' he
  cases hr:exec i.body P ctx (Em as 0 As) h with
  |bad n=>rw [hr] at he;cases he
  |Ar f' h1=>
   rw [hr] at he hm
   have h0:=hm f' h1 (.inl rfl)
   have hf:=mono_finish (P:=P) (h:=h1) (f:=f') hc i.rs
   have he':tagF g (finish P ctx i.rs f' h1)=.ok v h':=he
   cases hq:finish P ctx i.rs f' h1 with
   |bad n=>rw [hq] at he';cases he'
   |ok v2 h2=>rw [hq] at he' hf;cases he';exact Nat.le_trans h0 (hf _ _ rfl)
   |pan v2 h2=>rw [hq] at he';cases he'
  |ext id f' h1=>
   rw [hr] at he hm
   have h0:=hm f' h1 (.inr (.inl ⟨id,rfl⟩))
   have he':tagF g (finishX P ctx i.rs id f' h1)=.ok v h':=he
   have hf:=mono_finishX (P:=P) (h:=h1) (f:=f') ctx i.rs id
   cases hq:finishX P ctx i.rs id f' h1 with
   |bad n=>rw [hq] at he';cases he'
   |ok v2 h2=>rw [hq] at he' hf;cases he';exact Nat.le_trans h0 (hf _ _ rfl)
   |pan v2 h2=>rw [hq] at he';cases he'
  |ret f' h1=>
   rw [hr] at he hm
   have h0:=hm f' h1 (.inr (.inr rfl))
   have hf:=mono_finish (P:=P) (h:=h1) (f:=f') hc i.rs
   have he':tagF g (finish P ctx i.rs f' h1)=.ok v h':=he
   cases hq:finish P ctx i.rs f' h1 with
   |bad n=>rw [hq] at he';cases he'
   |ok v2 h2=>rw [hq] at he' hf;cases he';exact Nat.le_trans h0 (hf _ _ rfl)
   |pan v2 h2=>rw [hq] at he';cases he'
theorem mono_roundR {r:RC} (l:Nat) (hr:D7 h r):Ay h (roundR l r):=by
 have key:∀ j h1,h.nx<=h1.nx->Ay h (endRound l j h1):=by
  intro j h1 hle
  unfold endRound
  split
  . intro v h' he;cases he;exact hle
  . exact .bad _
 cases r with
 |bad n=>exact .bad _
 |Ar f' h'=>exact key _ _ (hr f' h' (.inl rfl))
 |ext i f' h'=>exact .ite (.bad _) (key _ _ (hr f' h' (.inr (.inl ⟨i,rfl⟩))))
 |ret f' h'=>exact key _ _ (hr f' h' (.inr (.inr rfl)))
theorem mono_roundF (hc:Dk ctx) (l:Nat) (as:List AV) (h:H):Ay h (roundF P ctx l as h):=by
 unfold roundF
 split
 . split
   . refine mono_roundR l (.andThen (mono_exec hc _ _ _) ?_)
     intro f' h'
     unfold roundB
     split
     . intro f2 h2 he
       exact (show h'.nx<=h2.nx from mono_exec (P:=P) hc _ _ (h'.put l (.loop 1 _ _ _ _ _)) f2 h2 he)
     . exact .bad _
   . exact .bad _
 . exact .bad _
theorem mono_ctxD (P:Program) (d:Nat):Dk (ctxD P d):=by
 induction d with
 |zero=>exact ⟨fun _ _ _=>.bad _,fun _ _ _=>.bad _⟩
 |succ d ih=>exact ⟨mono_callF ih,mono_roundF ih⟩
end Go.Ev
namespace Go.Ev
variable {P:Program} {h h':H} {v:AV} {f g:L2} {ctx:Ae}
theorem evs_congr {l:List Operand} (hh:∀ x∈l,ev x f=ev x g):evs l f=evs l g:=by
 induction l with
 |nil=>rfl
 |cons x l ih=>
  show ev x f::evs l f=ev x g::evs l g
  rw [hh x (by simp),ih (fun y hy=>hh y (by simp [hy]))]
theorem fillA_congr {place:Nat->Option (Nat × Nat)}:∀ (l:List (Nat × Operand)),(∀ p∈l,ev p.2 f=ev p.2 g)->∀ cs,fillA place f l cs=fillA place g l cs:=by
 intro l
 induction l with
 |nil=>intro _ cs;rfl
 |cons p l ih=>
  intro hh cs
  obtain ⟨i,x⟩:=p
  have hx:ev x f=ev x g:=hh (i,x) (by simp)
  have hi:=ih (fun q hq=>hh q (by simp [hq]))
  unfold fillA
  rw [hx]
  split
  . split
    . rename_i cs' _
      rw [hi cs']
    . rfl
  . rfl
theorem bnd_congr {x:Option Operand} (hh:∀ y,x=some y->ev y f=ev y g) (d:Nat):bnd f x d=bnd g x d:=by
 cases x with
 |none=>rfl
 |some y=>show nat0 (ev y f)=nat0 (ev y g);rw [hh y rfl]
theorem opD_congr (o:Op) (ty:TypeId) (hd:f.get Bi=g.get Bi) (hh:∀ x∈o.operands.toList,ev x f=ev x g):opD o ty P ctx f h=opD o ty P ctx g h:=by
 cases o
 case move x=>have:=hh x (by simp [Op.operands]);show OR.ok (ev x f) h=OR.ok (ev x g) h;rw [this]
 case assign x=>have:=hh x (by simp [Op.operands]);show OR.ok (ev x f) h=OR.ok (ev x g) h;rw [this]
 case pick c a b=>
  have h1:=hh c (by simp [Op.operands]);have h2:=hh a (by simp [Op.operands]);have h3:=hh b (by simp [Op.operands])
  show Av (ev c f) (ev a f) (ev b f) h=Av (ev c g) (ev a g) (ev b g) h
  rw [h1,h2,h3]
 case box e x=>have:=hh x (by simp [Op.operands]);show newC (cellsOf (ev x f)) e h=newC (cellsOf (ev x g)) e h;rw [this]
 case build t parts=>
  have hp:∀ p∈parts.toList,ev p.2 f=ev p.2 g:=fun p hp=>hh p.2 (by simp only [Op.operands,List.mem_map];exact ⟨p,hp,rfl⟩)
  show oBuild t parts ty P ctx f h=oBuild t parts ty P ctx g h
  unfold oBuild
  split
  . rw [fillA_congr _ hp]
  . rw [fillA_congr _ hp]
  . rfl
 case buildSlice t n parts=>
  have hp:∀ p∈parts.toList,ev p.2 f=ev p.2 g:=fun p hp=>hh p.2 (by simp only [Op.operands,List.mem_map];exact ⟨p,hp,rfl⟩)
  show Gj t n parts ty P ctx f h=Gj t n parts ty P ctx g h
  unfold Gj
  split
  . split
    . rw [fillA_congr _ hp]
    . rfl
  . rfl
 case insert t m k x=>
  have h1:=hh m (by simp [Op.operands]);have h2:=hh k (by simp [Op.operands]);have h3:=hh x (by simp [Op.operands])
  show Ew t m k x ty P ctx f h=Ew t m k x ty P ctx g h
  unfold Ew;rw [h1,h2,h3]
 case mapUpdate t m k x=>
  have h1:=hh m (by simp [Op.operands]);have h2:=hh k (by simp [Op.operands]);have h3:=hh x (by simp [Op.operands])
  show Ew t m k x ty P ctx f h=Ew t m k x ty P ctx g h
  unfold Ew;rw [h1,h2,h3]
 case load t x=>have:=hh x (by simp [Op.operands]);show ldV (ev x f) (Fh P t) h=ldV (ev x g) (Fh P t) h;rw [this]
 case store t x y=>
  have h1:=hh x (by simp [Op.operands]);have h2:=hh y (by simp [Op.operands])
  show stV (ev x f) (cellsOf (ev y f)) (Fx P t) h=stV (ev x g) (cellsOf (ev y g)) (Fx P t) h
  rw [h1,h2]
 case nilCheck x=>have h1:=hh x (by simp [Op.operands]);show oNilCheck x ty P ctx f h=oNilCheck x ty P ctx g h;unfold oNilCheck;rw [h1]
 case binOp op t x y yt=>
  have h1:=hh x (by simp [Op.operands]);have h2:=hh y (by simp [Op.operands])
  show oBinOp op t x y yt ty P ctx f h=oBinOp op t x y yt ty P ctx g h
  unfold oBinOp;rw [h1,h2]
 case unOp op t x=>have h1:=hh x (by simp [Op.operands]);show oUnOp op t x ty P ctx f h=oUnOp op t x ty P ctx g h;unfold oUnOp;rw [h1]
 case convert s d x=>have h1:=hh x (by simp [Op.operands]);show oConvert s d x ty P ctx f h=oConvert s d x ty P ctx g h;unfold oConvert;rw [h1]
 case makeInterface t x=>have h1:=hh x (by simp [Op.operands]);show oMakeIface t x ty P ctx f h=oMakeIface t x ty P ctx g h;unfold oMakeIface;rw [h1]
 case makeFunc fn x y=>
  have h1:evs x.toList f=evs x.toList g:=evs_congr (fun z hz=>hh z (by simp only [Op.operands,Array.toList_append,List.mem_append];exact .inl hz))
  have h2:evs y.toList f=evs y.toList g:=evs_congr (fun z hz=>hh z (by simp only [Op.operands,Array.toList_append,List.mem_append];exact .inr hz))
  show oMakeFunc fn x y ty P ctx f h=oMakeFunc fn x y ty P ctx g h
  unfold oMakeFunc;rw [h1,h2]
 case makeSlice t x y=>
  have h1:=hh x (by simp [Op.operands]);have h2:=hh y (by simp [Op.operands])
  show oMakeSlice t x y ty P ctx f h=oMakeSlice t x y ty P ctx g h
  unfold oMakeSlice;rw [h1,h2]
 case slice t x lo hi mx=>
  have h1:=hh x (by simp [Op.operands])
  have h2:∀ y,lo=some y->ev y f=ev y g:=fun y hy=>hh y (by simp [Op.operands,hy])
  have h3:∀ y,hi=some y->ev y f=ev y g:=fun y hy=>hh y (by simp [Op.operands,hy])
  have h4:∀ y,mx=some y->ev y f=ev y g:=fun y hy=>hh y (by simp [Op.operands,hy])
  have e:E2 t x lo hi mx ty P ctx f h=E2 t x lo hi mx ty P ctx g h:=by
   unfold E2
   rw [h1]
   simp only [bnd_congr h2,bnd_congr h3,bnd_congr h4]
   cases Gn P t with
   |str=>rfl
   |bad=>rfl
   |arr n i=>rfl
   |sl i=>
    cases vL (ev x g) with
    |nil=>rfl
    |no=>rfl
    |yes b off len cap sz ex=>
     dsimp only
     cases bnd g lo 0 with
     |none=>rfl
     |some l=>
      cases bnd g hi len with
      |none=>rfl
      |some u=>
       cases mx with
       |none=>rfl
       |some m=>dsimp only;rw [h4 m rfl]
  show oSlice t x lo hi mx ty P ctx f h=oSlice t x lo hi mx ty P ctx g h
  unfold oSlice;rw [e]
 case fieldAddr t x i=>have h1:=hh x (by simp [Op.operands]);show oFieldAddr t x i ty P ctx f h=oFieldAddr t x i ty P ctx g h;unfold oFieldAddr;rw [h1]
 case field t x i=>have h1:=hh x (by simp [Op.operands]);show oField t x i ty P ctx f h=oField t x i ty P ctx g h;unfold oField;rw [h1]
 case indexAddr t x i=>
  have h1:=hh x (by simp [Op.operands]);have h2:=hh i (by simp [Op.operands])
  show oIndexAddr t x i ty P ctx f h=oIndexAddr t x i ty P ctx g h
  unfold oIndexAddr;rw [h1,h2]
 case index t x i=>
  have h1:=hh x (by simp [Op.operands]);have h2:=hh i (by simp [Op.operands])
  show oIndex t x i ty P ctx f h=oIndex t x i ty P ctx g h
  unfold oIndex;rw [h1,h2]
 case lookup t x i ok=>
  have h1:=hh x (by simp [Op.operands]);have h2:=hh i (by simp [Op.operands])
  show oLookup t x i ok ty P ctx f h=oLookup t x i ok ty P ctx g h
  unfold oLookup;rw [h1,h2]
 case typeAssert x t ast ok=>have h1:=hh x (by simp [Op.operands]);show Gk x t ast ok ty P ctx f h=Gk x t ast ok ty P ctx g h;unfold Gk;rw [h1]
 case extract x i=>have h1:=hh x (by simp [Op.operands]);show oExtract x i ty P ctx f h=oExtract x i ty P ctx g h;unfold oExtract;rw [h1]
 case call c=>
  have h1:evs c.args.toList f=evs c.args.toList g:=evs_congr (fun z hz=>hh z (by simp only [Op.operands,Call.operands,Array.toList_append,List.mem_append];exact .inr hz))
  show ceD c.callee c.args.toList c.argTypes.toList P ctx f h=ceD c.callee c.args.toList c.argTypes.toList P ctx g h
  cases hc:c.callee with
  |value z=>
   have h2:ev z f=ev z g:=hh z (by simp [Op.operands,Call.operands,hc])
   show cvV (ev z f) (evs c.args.toList f) P ctx h=cvV (ev z g) (evs c.args.toList g) P ctx h
   rw [h1,h2]
  |invoke r name=>
   have h2:ev r f=ev r g:=hh r (by simp [Op.operands,Call.operands,hc])
   show aMeth P ctx (ev r f) name (evs c.args.toList f) h=aMeth P ctx (ev r g) name (evs c.args.toList g) h
   rw [h1,h2]
  |builtin b=>
   show ceBui b c.args.toList c.argTypes.toList P ctx f h=ceBui b c.args.toList c.argTypes.toList P ctx g h
   unfold ceBui
   split
   . show recV (vT (f.get Bi)) h=recV (vT (g.get Bi)) h;rw [hd]
   . show aBuiltin _ c.argTypes.toList (evs c.args.toList f) P h=aBuiltin _ c.argTypes.toList (evs c.args.toList g) P h;rw [h1]
 case panic x=>have h1:=hh x (by simp [Op.operands]);show panV (ev x f) h=panV (ev x g) h;rw [h1]
 all_goals rfl
end Go.Ev
namespace Go.Ev
structure FB where
 fn:FuncId
 kind:CallKind
 ro:Option Nat
def FB.at (b:FB) (a:Act) (todo:List Item):Frame:=
 { fn:=b.fn,tmps:=a.tmps,todo,defers:=a.defers,mode:=.run,kind:=b.kind,roundOf:=b.ro }
theorem FB.eval_at (b:FB) (a:Act) (todo:List Item):(b.at a todo).eval=a.eval:=by
 funext x
 cases x<;>rfl
theorem FB.finish_at (b:FB) (a:Act) (ops:Array Oper) (i:Nat) (rest:List Nat) (k:List Item) (v:Value):
 (b.at a (.inRegion ops (i::rest)::k)).finish v=b.at (a.put ((ops[i]?).bind (·.dst)) v) (.inRegion ops rest::k):=by
 cases h:(ops[i]?).bind (·.dst)<;>simp [Frame.finish,FB.at,Act.put,h]
section moves
variable {P:Program} {b:FB} {a:Act} {k:List Item} {cs:List Frame} {w:World}
theorem s_skip:step P (lone (b.at a (.code .skip::k)) cs w)=.next (lone (b.at a k) cs w):=
 step_lone_go (by simp [stepG,stepG.exec,FB.at])
theorem s_label {l:Nat}:step P (lone (b.at a (.code (.label l)::k)) cs w)=.next (lone (b.at a k) cs w):=
 step_lone_go (by simp [stepG,stepG.exec,FB.at])
theorem s_inBlock {id:Nat}:step P (lone (b.at a (.inBlock id::k)) cs w)=.next (lone (b.at a k) cs w):=
 step_lone_go (by simp [stepG,stepG.exec,FB.at])
theorem s_inScope {c:Code}:step P (lone (b.at a (.inScope c::k)) cs w)=.next (lone (b.at a k) cs w):=
 step_lone_go (by simp [stepG,stepG.exec,FB.at])
theorem s_seq {x y:Code}:step P (lone (b.at a (.code (.seq x y)::k)) cs w)=.next (lone (b.at a (.code x::.code y::k)) cs w):=
 step_lone_go (by simp [stepG,stepG.exec,FB.at])
theorem s_cond {c:Operand} {x y:Code} {t:Bool} (h:a.eval c=.bool t):
 step P (lone (b.at a (.code (.cond c x y)::k)) cs w)=.next (lone (b.at a (.code (if t then x else y)::k)) cs w):=
 step_lone_go (by
  have:=congrFun (FB.eval_at b a (.code (.cond c x y)::k)) c
  simp only [FB.at] at this
  simp [stepG,stepG.exec,FB.at,this,h])
theorem s_block {id:Nat} {c:Code}:step P (lone (b.at a (.code (.block id c)::k)) cs w)=.next (lone (b.at a (.code c::.inBlock id::k)) cs w):=
 step_lone_go (by simp [stepG,stepG.exec,FB.at])
theorem s_loop {c:Code}:step P (lone (b.at a (.code (.loop c)::k)) cs w)=.next (lone (b.at a (.code c::.inLoop c::k)) cs w):=
 step_lone_go (by simp [stepG,stepG.exec,FB.at])
theorem s_inLoop {c:Code}:step P (lone (b.at a (.inLoop c::k)) cs w)=.next (lone (b.at a (.code c::.inLoop c::k)) cs w):=
 step_lone_go (by simp [stepG,stepG.exec,FB.at])
theorem s_scope {c:Code}:step P (lone (b.at a (.code (.scope c)::k)) cs w)=.next (lone (b.at a (.code c::.inScope c::k)) cs w):=
 step_lone_go (by simp [stepG,stepG.exec,FB.at])
theorem s_exit {id:Nat} {k':List Item} (h:exitTo id k=some k'):step P (lone (b.at a (.code (.exit id)::k)) cs w)=.next (lone (b.at a k') cs w):=
 step_lone_go (by simp [stepG,stepG.exec,FB.at,h])
theorem s_region {id:Nat} {ops:Array Oper}:
 step P (lone (b.at a (.code (.region id ops false)::k)) cs w)=.next (lone (b.at a (.inRegion ops (List.range ops.size)::k)) cs w):=
 step_lone_go (by simp [stepG,stepG.exec,FB.at])
theorem s_draw {id:Nat} {ops:Array Oper}:
 step P (lone (b.at a (.code (.region id ops true)::k)) cs w) =
  .next (lone (b.at a (.inRegion ops (Region.schedule (P.follows .mixedOrders) ops (w.tape w.drawn (.order b.fn id)))::k)) cs { w with drawn:=w.drawn+1 }):=
 step_lone_go (by simp [stepG,stepG.exec,FB.at,choose,Sem.run,Question.forced,Question.cut])
theorem s_regionEnd {ops:Array Oper}:step P (lone (b.at a (.inRegion ops []::k)) cs w)=.next (lone (b.at a k) cs w):=
 step_lone_go (by simp [stepG,stepG.exec,FB.at])
theorem s_pass {ops:Array Oper} {i:Nat} {rest:List Nat} (h:((ops[i]?).map (Region.wanted · (yielded ops a.tmps))).getD false=false):
 step P (lone (b.at a (.inRegion ops (i::rest)::k)) cs w)=.next (lone (b.at (a.put ((ops[i]?).bind (·.dst)) undef) (.inRegion ops rest::k)) cs w):=by
 rw [<- FB.finish_at]
 exact step_lone_go (by
  have h':=h
  simp only [FB.at] at *
  simp [stepG,stepG.exec,h'])
theorem s_op {ops:Array Oper} {i:Nat} {rest:List Nat} {o:Oper} (ho:ops[i]?=some o) (hw:Region.wanted o (yielded ops a.tmps)=true) (hd:b.ro=none\/∀ c,o.op≠.defer c):
 stepG P true { frame:=b.at a (.inRegion ops (i::rest)::k),callers:=cs,status:=.running,dying:=none } w =
  stepG.apply P true (b.at a (.inRegion ops (i::rest)::k)) cs none (execOp a.eval o) w:=by
 have he:=FB.eval_at b a (.inRegion ops (i::rest)::k)
 simp only [FB.at] at he
 rcases hd with hd|hd
 . rw [hd] at he
   simp [stepG,stepG.exec,stepG.oper,Frame.oper?,FB.at,ho,hw,he,hd]
 . simp only [FB.at] at *
   simp only [stepG,stepG.exec,stepG.oper,Frame.oper?,ho,hw,he,Option.map_some,Option.getD_some,if_true]
   split
   . rename_i c _ hc;exact absurd hc (hd c)
   . rfl
theorem s_value {ops:Array Oper} {i:Nat} {rest:List Nat} {o:Oper} {v':Value} {w':World} (ho:ops[i]?=some o) (hw:Region.wanted o (yielded ops a.tmps)=true) (hd:b.ro=none\/∀ c,o.op≠.defer c)
 (hr:Ran P (execOp a.eval o) w v' w'):step P (lone (b.at a (.inRegion ops (i::rest)::k)) cs w)=.next (lone (b.at (a.put o.dst v') (.inRegion ops rest::k)) cs w'):=by
 have hf:=FB.finish_at b a ops i rest k v'
 rw [ho] at hf
 rcases hr with hr|⟨hr,rfl⟩
 . refine step_lone_go ?_
   rw [s_op ho hw hd]
   simp only [stepG.apply,Sem.runT_eq,if_true,hr]
   simp [hf]
 . refine step_lone_go ?_
   rw [s_op ho hw hd]
   simp only [stepG.apply,Sem.runT_eq,if_true,hr]
   simp [hf]
theorem s_enter {ops:Array Oper} {i:Nat} {rest:List Nat} {o:Oper} {g:FuncId} {args:Array Value} {w':World} (ho:ops[i]?=some o) (hw:Region.wanted o (yielded ops a.tmps)=true) (hd:b.ro=none\/∀ c,o.op≠.defer c)
 (hr:(execOp a.eval o).run P w=.ok (.enter g args) w'):step P (lone (b.at a (.inRegion ops (i::rest)::k)) cs w)=.next (lone (Frame.enter P g args .normal) (b.at a (.inRegion ops (i::rest)::k)::cs) w'):=by
 refine step_lone_go ?_
 rw [s_op ho hw hd]
 simp only [stepG.apply,Sem.runT_eq,if_true,hr]
 simp [FB.at]
theorem s_round {ops:Array Oper} {i:Nat} {rest:List Nat} {o:Oper} {l:Nat} {g:FuncId} {tmps:Array Value} {as bd:Code} {w':World} (ho:ops[i]?=some o) (hw:Region.wanted o (yielded ops a.tmps)=true) (hd:b.ro=none\/∀ c,o.op≠.defer c)
 (hr:(execOp a.eval o).run P w=.ok (.round l g tmps as bd) w'):step P (lone (b.at a (.inRegion ops (i::rest)::k)) cs w)=.next (lone (Frame.round l g tmps as bd .normal) (b.at a (.inRegion ops (i::rest)::k)::cs) w'):=by
 refine step_lone_go ?_
 rw [s_op ho hw hd]
 simp only [stepG.apply,Sem.runT_eq,if_true,hr]
 simp [FB.at]
def FB.back (b:FB) (a:Act) (todo:List Item):Frame:=
 { fn:=b.fn,tmps:=a.tmps,todo,defers:=a.defers,mode:=.returning,kind:=b.kind,roundOf:=none }
theorem s_ret (hr:b.ro=none):step P (lone (b.at a (.code .ret::k)) cs w)=.next (lone (b.back a (.code .ret::k)) cs w):=
 step_lone_go (by simp [stepG,stepG.exec,FB.at,FB.back,hr])
theorem s_end (hr:b.ro=none):step P (lone (b.at a []) cs w)=.next (lone (b.back a []) cs w):=
 step_lone_go (by simp [stepG,stepG.exec,FB.at,FB.back,hr])
theorem s_back {fn:Func} {v:Value} {c:Frame} (hd:a.defers=[]) (hk:b.kind=.normal) (hf:P.funcs[b.fn]?=some fn) (hres:(results fn a.tmps).run P w=.ok v w):
 step P (lone (b.back a k) (c::cs) w)=.next (lone (c.finish v) cs w):=
 step_lone_go (by simp [stepG,unwind,doReturn,FB.back,hd,hk,hf,hres])
theorem s_backD {fn:Func} {v:Value} {c:Frame} (hd:a.defers=[]) (hk:b.kind=.deferred) (hc:c.mode=.returning) (hf:P.funcs[b.fn]?=some fn) (hres:(results fn a.tmps).run P w=.ok v w):
 step P (lone (b.back a k) (c::cs) w)=.next (lone c cs w):=
 step_lone_go (by simp [stepG,unwind,doReturn,FB.back,hd,hk,hf,hres,hc])
theorem s_defer {g:FuncId} {as caps:Array Value} {ds:List Deferred} {args:Array Value} {w':World} (hd:a.defers={ target:=.fn (.func g) caps,args:=as }::ds) (hr:(callFunc g (as++caps)).run P w=.ok (.enter g args) w'):
 step P (lone (b.back a k) cs w)=.next (lone (Frame.enter P g args .deferred) (b.back ⟨a.tmps,ds⟩ k::cs) w'):=
 step_lone_go (by simp [stepG,unwind,callDeferred,FB.back,hd,invoke,Sem.runT_eq,hr])
theorem s_taken {r:Nat} {ds:List Deferred} (hd:a.defers={ target:=.collected r,args:=#[] }::ds) (hr:w.heap[r]?=some (.deferred (some []))):
 step P (lone (b.back a k) cs w)=.next (lone (b.back ⟨a.tmps,ds⟩ k) cs (B6 w r (.deferred none))):=by
 have hlt:=Dd hr
 have hrun:(Instr.takeDeferred r).run P w=.ok [] (B6 w r (.deferred none)):=by
  simp [Instr.takeDeferred,getObj,setObj,Sem.run,hr,B6]
 exact step_lone_go (by simp [stepG,unwind,FB.back,hd,Sem.runT_eq,hrun])
theorem s_endRound {l:Nat} {lp:Loop} {c:Frame} {jump:Option Code} (hro:b.ro=some l) (hk:b.kind=.normal) (hl:w.heap[l]?=some (.loop lp))
 (htodo:k=[]/\jump=none\/(∃ k',k=.code .ret::k'/\jump=some .ret)\/∃ id k',k=.code (.exit id)::k'/\exitTo id k'=none/\jump=some (.exit id)):
 step P (lone (b.at a k) (c::cs) w)=.next (lone (c.finish (.bool jump.isNone)) cs (B6 w l (.loop { lp with state:=if jump.isNone then .ready else .done,pending:=jump }))):=by
 have hrun:∀ j,(Instr.endRound l j).run P w=.ok (.bool j.isNone) (B6 w l (.loop { lp with state:=if j.isNone then .ready else .done,pending:=j })):=by
  intro j
  simp [Instr.endRound,Instr.getLoop,getObj,setObj,Sem.run,hl,B6]
 rcases htodo with ⟨rfl,rfl⟩|⟨k',rfl,rfl⟩|⟨id,k',rfl,he,rfl⟩
 . exact step_lone_go (by simp [stepG,stepG.exec,FB.at,hro,Sem.runT_eq,hrun,doReturn,hk])
 . exact step_lone_go (by simp [stepG,stepG.exec,FB.at,hro,Sem.runT_eq,hrun,doReturn,hk])
 . exact step_lone_go (by simp [stepG,stepG.exec,FB.at,hro,Sem.runT_eq,hrun,doReturn,hk,he])
theorem s_beginRound {l:Nat} {lp:Loop} (hro:b.ro=some l) (hl:w.heap[l]?=some (.loop lp)) (hs:lp.state=.ready):
 step P (lone (b.at a (.beginRound::k)) cs w)=.next (lone (b.at a k) cs (B6 w l (.loop { lp with state:=.busy }))):=by
 have hrun:(do Instr.beginRound l;pure Next.skip:Sem Next).run P w=.ok .skip (B6 w l (.loop { lp with state:=.busy })):=by
  simp [Instr.beginRound,Instr.getLoop,getObj,setObj,Sem.run,hl,hs,B6]
 refine step_lone_go ?_
 have e:stepG P true { frame:=b.at a (.beginRound::k),callers:=cs,status:=.running,dying:=none } w=stepG.apply P true (b.at a (.beginRound::k)) cs none (do Instr.beginRound l;pure Next.skip:Sem Next) w:=by
  simp only [stepG,stepG.exec,FB.at,hro]
  rfl
 rw [e]
 simp only [stepG.apply,Sem.runT_eq,if_true,hrun]
 simp [FB.at,Frame.finish]
theorem s_endLoop {l:Nat} {lp:Loop} (hl:w.heap[l]?=some (.loop lp)) (hs:lp.state≠.busy):
 step P (lone (b.at a (.endRangeFunc l::k)) cs w)=.next (lone (b.at a ((lp.pending.map Item.code).toList++k)) cs (B6 w l (.loop { lp with state:=.exhausted }))):=by
 have hb:(lp.state == LoopState.busy)=false:=by cases hq:lp.state<;>first|rfl|exact absurd hq hs
 have hrun:(Instr.endLoop l).run P w=.ok lp.pending (B6 w l (.loop { lp with state:=.exhausted })):=by
  simp [Instr.endLoop,Instr.getLoop,getObj,setObj,Sem.run,hl,hb,B6]
  exact fun hh=>absurd hh hs
 exact step_lone_go (by simp [stepG,stepG.exec,FB.at,Sem.runT_eq,hrun])
theorem s_range {x:Operand} {ps:Array Tmp} {as bd:Code} {g:FuncId} {first caps args:Array Value} {w2:World} (hro:b.ro=none) (hx:a.eval x=.func (.func g) first caps)
 (hr:∀ w1,w1=C5 (C5 w (.deferred (some []))) (.loop { state:=.ready,pending:=none,fn:=b.fn,tmps:=a.tmps,params:=ps,assign:=as,body:=bd,defers:=w.heap.size }) ->
  (callFunc g (first.push (.func (.yield (w.heap.size+1)) #[] #[])++caps)).run P w1=.ok (.enter g args) w2):
 step P (lone (b.at a (.code (.rangeFunc x ps as bd)::k)) cs w) =
  .next (lone (Frame.enter P g args .normal) (b.at ⟨a.tmps,{ target:=.collected w.heap.size,args:=#[] }::a.defers⟩ (.inRangeFunc (w.heap.size+1)::k)::cs) w2):=by
 have hen:(Instr.enterLoop b.fn a.tmps ps as bd none).run P w=.ok (w.heap.size+1,[{ target:=.collected w.heap.size,args:=#[] }]) (C5 (C5 w (.deferred (some []))) (.loop { state:=.ready,pending:=none,fn:=b.fn,tmps:=a.tmps,params:=ps,assign:=as,body:=bd,defers:=w.heap.size })):=by
  simp [Instr.enterLoop,newObj,Sem.run,C5]
  rfl
 have hr:=hr _ rfl
 generalize C5 (C5 w (.deferred (some []))) (.loop { state:=.ready,pending:=none,fn:=b.fn,tmps:=a.tmps,params:=ps,assign:=as,body:=bd,defers:=w.heap.size })=w1 at *
 have hev:∀ y todo ds,({ fn:=b.fn,tmps:=a.tmps,todo:=todo,defers:=ds,mode:=FrameMode.run,kind:=b.kind,roundOf:=none }:Frame).eval y=a.eval y:=by intro y todo ds;cases y<;>rfl
 refine step_lone_go ?_
 simp only [stepG,stepG.exec,FB.at,hro,Sem.runT_eq,hen]
 simp only [stepG.apply,Sem.runT_eq,if_true]
 have hcn:∀ v,a.eval (.const v)=v:=fun _=>rfl
 simp [resolve,hev,hx,hcn,Deferred.ofValue,invoke,hr,Sem.run_bind,Result.andThen_ok]
 done
theorem s_rangeIn {x:Operand} {ps:Array Tmp} {as bd:Code} {g:FuncId} {first caps args:Array Value} {w2:World} {l:Nat} {lp:Loop} (hro:b.ro=some l) (hl:w.heap[l]?=some (.loop lp)) (hx:a.eval x=.func (.func g) first caps)
 (hr:∀ w1,w1=C5 w (.loop { state:=.ready,pending:=none,fn:=b.fn,tmps:=a.tmps,params:=ps,assign:=as,body:=bd,defers:=lp.defers }) ->
  (callFunc g (first.push (.func (.yield w.heap.size) #[] #[])++caps)).run P w1=.ok (.enter g args) w2):
 step P (lone (b.at a (.code (.rangeFunc x ps as bd)::k)) cs w)=.next (lone (Frame.enter P g args .normal) (b.at a (.inRangeFunc w.heap.size::k)::cs) w2):=by
 have hen:(Instr.enterLoop b.fn a.tmps ps as bd (some l)).run P w=.ok (w.heap.size,[]) (C5 w (.loop { state:=.ready,pending:=none,fn:=b.fn,tmps:=a.tmps,params:=ps,assign:=as,body:=bd,defers:=lp.defers })):=by
  simp [Instr.enterLoop,Instr.getLoop,getObj,newObj,Sem.run,C5,hl]
 have hr:=hr _ rfl
 generalize C5 w (.loop { state:=.ready,pending:=none,fn:=b.fn,tmps:=a.tmps,params:=ps,assign:=as,body:=bd,defers:=lp.defers })=w1 at *
 have hev:∀ y todo ds,({ fn:=b.fn,tmps:=a.tmps,todo:=todo,defers:=ds,mode:=FrameMode.run,kind:=b.kind,roundOf:=some l }:Frame).eval y=a.eval y:=by intro y todo ds;cases y<;>rfl
 refine step_lone_go ?_
 simp only [stepG,stepG.exec,FB.at,hro,Sem.runT_eq,hen]
 simp only [stepG.apply,Sem.runT_eq,if_true]
 have hcn:∀ v,a.eval (.const v)=v:=fun _=>rfl
 simp [resolve,hev,hx,hcn,Deferred.ofValue,invoke,hr,Sem.run_bind,Result.andThen_ok]
theorem s_recover {ops:Array Oper} {i:Nat} {rest:List Nat} {o:Oper} {w':World} (ho:ops[i]?=some o) (hw:Region.wanted o (yielded ops a.tmps)=true) (hd:b.ro=none) (hn:∀ todo,tryRecover (b.at a todo) cs=none)
 (hr:(execOp a.eval o).run P w=.ok .recover w'):step P (lone (b.at a (.inRegion ops (i::rest)::k)) cs w)=.next (lone (b.at (a.put o.dst .nilIface) (.inRegion ops rest::k)) cs w'):=by
 have hf:=FB.finish_at b a ops i rest k .nilIface
 rw [ho] at hf
 refine step_lone_go ?_
 rw [s_op ho hw (.inl hd)]
 have hro:(b.at a (.inRegion ops (i::rest)::k)).roundOf=none:=hd
 simp only [stepG.apply,Sem.runT_eq,if_true,hr,hro,hn]
 simp [hf]
theorem s_putDefer {ops:Array Oper} {i:Nat} {rest:List Nat} {o:Oper} {d:Deferred} {w':World} (ho:ops[i]?=some o) (hw:Region.wanted o (yielded ops a.tmps)=true) (hd:b.ro=none)
 (hr:(execOp a.eval o).run P w=.ok (.defer d) w'):step P (lone (b.at a (.inRegion ops (i::rest)::k)) cs w)=.next (lone (b.at ((⟨a.tmps,d::a.defers⟩:Act).put o.dst undef) (.inRegion ops rest::k)) cs w'):=by
 have hf:=FB.finish_at b ⟨a.tmps,d::a.defers⟩ ops i rest k undef
 rw [ho] at hf
 refine step_lone_go ?_
 rw [s_op ho hw (.inl hd)]
 simp only [stepG.apply,Sem.runT_eq,if_true,hr]
 simp only [FB.at] at hf ⊢
 simp [hf]
def FB.pan (b:FB) (a:Act) (todo:List Item) (v:Value) (rec:Bool):Frame:=
 { fn:=b.fn,tmps:=a.tmps,todo,defers:=a.defers,mode:=.panicking [{ v,recovered:=rec }],kind:=b.kind,roundOf:=b.ro }
theorem FB.raise_at (b:FB) (a:Act) (todo:List Item) (v:Value):(b.at a todo).raise [{ v,recovered:=false }]=b.pan a todo v false:=rfl
theorem s_panic {ops:Array Oper} {i:Nat} {rest:List Nat} {o:Oper} {v:Value} {w':World} (ho:ops[i]?=some o) (hw:Region.wanted o (yielded ops a.tmps)=true) (hd:∀ c,o.op≠.defer c)
 (hr:(execOp a.eval o).run P w=.halt (.panic v) w'):step P (lone (b.at a (.inRegion ops (i::rest)::k)) cs w)=.next (lone (b.pan a (.inRegion ops (i::rest)::k) v false) cs w'):=by
 refine step_lone_go ?_
 rw [s_op ho hw (.inr hd)]
 simp only [stepG.apply,Sem.runT_eq,if_true,hr]
 simp [FB.raise_at]
theorem s_panOut {v:Value} {c:Frame} {fn:Func} (hd:a.defers=[]) (hf:P.funcs[b.fn]?=some fn):
 step P (lone (b.pan a k v false) (c::cs) w)=.next (lone (c.raise [{ v,recovered:=false }]) cs w):=
 step_lone_go (by simp [stepG,unwind,FB.pan,hd,Frame.catches,hf])
theorem s_panDefer {v:Value} {g:FuncId} {as caps:Array Value} {ds:List Deferred} {args:Array Value} {w':World} (hd:a.defers={ target:=.fn (.func g) caps,args:=as }::ds) (hr:(callFunc g (as++caps)).run P w=.ok (.enter g args) w'):
 step P (lone (b.pan a k v false) cs w)=.next (lone (Frame.enter P g args .deferred) (b.pan ⟨a.tmps,ds⟩ k v false::cs) w'):=
 step_lone_go (by simp [stepG,unwind,callDeferred,FB.pan,hd,invoke,Sem.runT_eq,hr])
theorem s_recovers {ops:Array Oper} {i:Nat} {rest:List Nat} {o:Oper} {w':World} {b2:FB} {a2:Act} {k2:List Item} {v:Value} (ho:ops[i]?=some o) (hw:Region.wanted o (yielded ops a.tmps)=true) (hd:b.ro=none) (hk:b.kind=.deferred)
 (hr:(execOp a.eval o).run P w=.ok .recover w'):step P (lone (b.at a (.inRegion ops (i::rest)::k)) (b2.pan a2 k2 v false::cs) w)=.next (lone (b.at (a.put o.dst v) (.inRegion ops rest::k)) (b2.pan a2 k2 v true::cs) w'):=by
 have hf:=FB.finish_at b a ops i rest k v
 rw [ho] at hf
 refine step_lone_go ?_
 rw [s_op ho hw (.inl hd)]
 have hro:(b.at a (.inRegion ops (i::rest)::k)).roundOf=none:=hd
 have htr:tryRecover (b.at a (.inRegion ops (i::rest)::k)) (b2.pan a2 k2 v false::cs)=some (v,b2.pan a2 k2 v true::cs):=by
  unfold tryRecover
  simp [FB.at,FB.pan,hk]
 simp only [stepG.apply,Sem.runT_eq,if_true,hr,hro,htr]
 simp [hf]
theorem s_backR {fn:Func} {v v2:Value} {b2:FB} {a2:Act} {k2:List Item} (hd:a.defers=[]) (hk:b.kind=.deferred) (hf:P.funcs[b.fn]?=some fn) (hres:(results fn a.tmps).run P w=.ok v w) (hro:b2.ro=none):
 step P (lone (b.back a k) (b2.pan a2 k2 v2 true::cs) w)=.next (lone (b2.back a2 k2) cs w):=
 step_lone_go (by simp [stepG,unwind,doReturn,FB.back,FB.pan,hd,hk,hf,hres,hro])
end moves
end Go.Ev
namespace Go.Ev
variable [Lim]
variable {P:Program} {G:Nat} {σ:Dj} {h h':H} {w w':World} {v:AV} {nt:Nat} {f:L2} {a:Act} {ctx:Ae} {b:FB} {cs:List Frame}
def Calm (b:FB) (cs:List Frame):Prop:=b.kind=.normal\/(b.kind=.deferred/\∃ c cs',cs=c::cs'/\(c.mode=.returning\/∃ v,c.mode=.panicking [{ v,recovered:=true }]))
theorem Calm.recover (hc:Calm b cs) (a:Act) (todo:List Item):tryRecover (b.at a todo) cs=none:=by
 rcases hc with hk|⟨hk,c,cs',rfl,hm|⟨v,hm⟩⟩
 . unfold tryRecover
   simp [FB.at,hk]
 . unfold tryRecover
   simp [FB.at,hk,hm]
 . unfold tryRecover
   simp [FB.at,hk,hm]
def RBk (b:FB) (σ:Dj) (f:L2):Prop:=
 (b.ro=none/\∃ ds,f.get Bi=.Bl ds)\/(b.kind=.normal/\∃ c l e,b.ro=some c/\f.get Bi=.map l/\σ l=some e/\e.c=c)
def CallSound (P:Program) (G:Nat) (ctx:Ae):Prop:=∀ (g:FuncId) (args:List AV) (h h':H) (v:AV) (σ:Dj) (w:World) (args':Array Value) (kind:CallKind),
 ctx.call g args h=.ok v h'->Ba P g=true->Bd σ args args'.toList->Ms G σ h w->GOk G σ->h'.nx<=Bh->Fk σ h h' ->
 ∃ σ' v' w' a' fn,P.funcs[g]?=some fn/\Aq σ' v v'/\Out G σ h w σ' h' w'/\a'.defers=[]/\(results fn a'.tmps).run P w'=.ok v' w' /\
  ∀ cs,Calm ⟨g,kind,none⟩ cs->∃ k',Steps P (lone (Frame.enter P g args' kind) cs w) (lone (FB.back ⟨g,kind,none⟩ a' k') cs w')
def RoundSound (P:Program) (G:Nat) (ctx:Ae):Prop:=∀ (l:Nat) (args:List AV) (h h':H) (v:AV) (σ:Dj) (w:World) (args':Array Value) (e:SE),
 ctx.round l args h=.ok v h'->σ l=some e->Bd σ args args'.toList->Ms G σ h w->GOk G σ->h'.nx<=Bh->Fk σ h h' ->
 ∃ σ' v' w' g tmps as bd,Aq σ' v v'/\Out G σ h w σ' h' w'/\(Instr.yield e.c args').run P w=.ok (.round e.c g tmps as bd) w /\
  ∀ c cs,Steps P (lone (Frame.round e.c g tmps as bd .normal) (c::cs) w) (lone (c.finish v') cs w')
def CallPan (P:Program) (G:Nat) (ctx:Ae):Prop:=∀ (g:FuncId) (args:List AV) (h h':H) (v:AV) (σ:Dj) (w:World) (args':Array Value),
 ctx.call g args h=.pan v h'->Ba P g=true->Bd σ args args'.toList->Ms G σ h w->GOk G σ->h'.nx<=Bh->Fk σ h h' ->
 ∃ σ' v' w',Aq σ' v v'/\Out G σ h w σ' h' w'/\∀ c cs,Steps P (lone (Frame.enter P g args' .normal) (c::cs) w) (lone (c.raise [{ v:=v',recovered:=false }]) cs w')
structure A7 (P:Program) (G:Nat) (ctx:Ae):Prop where
 call:CallSound P G ctx
 round:RoundSound P G ctx
 mono:Dk ctx
 pan:CallPan P G ctx
 rpan:∀ l args h v h',ctx.round l args h≠.pan v h'
def OpRun (P:Program) (b:FB) (o:Oper) (a:Act) (w:World) (v':Value) (w':World):Prop:=
 ∀ (ops:Array Oper) (i:Nat) (rest:List Nat) (k:List Item) (cs:List Frame),ops[i]?=some o->Region.wanted o (yielded ops a.tmps)=true->Calm b cs ->
  Steps P (lone (b.at a (.inRegion ops (i::rest)::k)) cs w) (lone (b.at (a.put o.dst v') (.inRegion ops rest::k)) cs w')
def OpSound (P:Program) (G:Nat) (ctx:Ae) (o:Oper):Prop:=∀ (σ:Dj) (nt:Nat) (f:L2) (a:Act) (h h':H) (w:World) (v:AV) (b:FB),
 opD o.op o.type P ctx f h=.ok v h'->o.op.operands.toList.all (Ej G)=true->St G σ nt f a h w->RBk b σ f->h'.nx<=Bh->Fk σ h h' ->
 ∃ σ' v' w',Aq σ' v v'/\Out G σ h w σ' h' w'/\OpRun P b o a w v' w'
theorem no_defer {o:Oper} {r:OR} (he:opD o.op o.type P ctx f h=r) (hr:∀ n,r≠.bad n):∀ c,o.op≠.defer c:=by
 intro c hc
 rw [hc] at he
 exact hr _ he.symm
theorem OpRun.ran {o:Oper} {v':Value} (hd:∀ c,o.op≠.defer c) (hr:Ran P (execOp a.eval o) w v' w'):OpRun P b o a w v' w':=by
 intro ops i rest k cs ho hw hc
 exact .one (s_value ho hw (.inr hd) hr)
theorem Good3.sound {o:Oper} (hg:Good3 P G o):OpSound P G ctx o:=by
 intro σ nt f a h h' w v b he C2 hs hb hl hf
 have hd:∀ c,o.op≠.defer c:=no_defer he (fun n hn=>by cases hn)
 obtain ⟨σ',v',w',h1,h2,h3⟩:=hg σ nt f a h h' w v ctx he C2 hs hl hf
 exact ⟨σ',v',w',h2,h3,.ran hd h1⟩
theorem St.ms (hs:St G σ nt f a h w):Ms G σ h w:=⟨hs.ai,hs.so,hs.ma⟩
theorem next_noEscape:Extern.allNextRows.lookup nmNoEscape=none:=by kernel_rfl
theorem next_index:Extern.allNextRows.lookup nmIndexByte=none:=by kernel_rfl
theorem next_empty:Extern.allNextRows.lookup ""=none:=by kernel_rfl
theorem gen_noEscape:Extern.allGenericRows.lookup nmNoEscape=none:=by kernel_rfl
theorem gen_index:Extern.allGenericRows.lookup nmIndexByte=none:=by kernel_rfl
theorem typed_noEscape:Extern.allTypedRows.lookup nmNoEscape=none:=by kernel_rfl
theorem typed_index:Extern.allTypedRows.lookup nmIndexByte=none:=by kernel_rfl
theorem row_noEscape:Extern.allRows.lookup nmNoEscape=some Extern.AbiNoEscape.same:=by kernel_rfl
theorem row_index:Extern.allRows.lookup nmIndexByte=some Extern.BytealgIndexByte.indexByte:=by kernel_rfl
theorem sidx_eq (c:UInt8):∀ (l:List UInt8) (i:Nat),sidx c.toNat (l.map UInt8.toNat) i=if Lib.indexByte l c=-1 then -1 else Lib.indexByte l c+i
 |[],i=>rfl
 |x::l,i=>by
  have ih:=sidx_eq c l (i+1)
  have hge:=Lib.indexByte_ge l c
  show Bool.rec (motive:=fun _=>Int) (sidx c.toNat (l.map UInt8.toNat) (Nat.succ i)) (.ofNat i) (Nat.beq x.toNat c.toNat)=_
  unfold Lib.indexByte
  by_cases hx:x=c
  . subst hx
    simp
  . have hne:Nat.beq x.toNat c.toNat=false:=by
     cases hb:Nat.beq x.toNat c.toNat with
     |false=>rfl
     |true=>exact absurd (UInt8.toNat_inj.1 (Cf hb)) hx
    rw [hne]
    show sidx c.toNat (l.map UInt8.toNat) (Nat.succ i)=_
    rw [ih,if_neg (show ¬ ((x == c)=true) by simpa using hx)]
    by_cases hi:Lib.indexByte l c=-1
    . simp [hi]
    . have hi':(Lib.indexByte l c == -1)=false:=by simpa using hi
      rw [if_neg hi,hi']
      simp only [Bool.false_eq_true,if_false]
      rw [if_neg (by omega)]
      omega
theorem ext_sound {g:FuncId} {args:List AV} {args':Array Value} (he:aExt (extKind P g) args h=.ok v h') (hr:Bd σ args args'.toList) (hnb:Ba P g=false):
 ∃ v',(callFunc g args').run P w=.ok (.value v') w/\Aq σ v v'/\h'=h:=by
 unfold aExt at he
 split at he
 . rename_i x hk
   obtain ⟨rfl,rfl⟩:=By he
   obtain ⟨y,l,hl,hv,hl2⟩:=hr.Fy
   have hl3:=hl2.unnil
   subst hl3
   have hargs:args'=#[y]:=by
    have:=congrArg List.toArray hl
    simpa using this
   subst hargs
   unfold extKind at hk
   split at hk
   . rename_i fn hf
     split at hk
     . cases hk
     . rename_i hbody
       split at hk
       . rename_i hor
         split at hk
         . rename_i hn
           refine ⟨y,?_,hv,rfl⟩
           have hbn:fn.body=none:=by simpa using hbody
           have h1:Extern.findNext fn=none:=by simp [Extern.findNext,hn,hor,next_noEscape,next_empty]
           have h2:Extern.find fn=some Extern.AbiNoEscape.same:=by simp [Extern.find,hn,gen_noEscape,typed_noEscape,row_noEscape]
           have h3:(Extern.AbiNoEscape.same #[y]).run P w=.ok y w:=rfl
           simp [callFunc,hf,hn,hbn,h1,h2,mark,Sem.run]
           rw [h3]
           rfl
         . split at hk<;>cases hk
       . cases hk
   . cases hk
 . rename_i s c hk
   split at he
   . rename_i sb n hs hn
     obtain ⟨rfl,rfl⟩:=By he
     have hss:=vS_yes hs
     subst hss
     obtain ⟨hc,hlt⟩:=byteOfA_some hn
     subst hc
     obtain ⟨y,l,hl,hv,hl2⟩:=hr.Fy
     obtain ⟨y2,l2,rfl,hv2,hl3⟩:=hl2.Fy
     have hl4:=hl3.unnil
     subst hl4
     have hargs:args'=#[y,y2]:=by
      have:=congrArg List.toArray hl
      simpa using this
     subst hargs
     obtain ⟨bs,rfl,rfl⟩:=str_rel hv
     cases hv2
     unfold extKind at hk
     split at hk
     . rename_i fn hf
       split at hk
       . cases hk
       . rename_i hbody
         split at hk
         . rename_i hor
           split at hk
           . cases hk
           . rename_i hn1
             split at hk
             . rename_i hn2
               have hbn:fn.body=none:=by simpa using hbody
               have h1:Extern.findNext fn=none:=by simp [Extern.findNext,hn2,hor,next_index,next_empty]
               have h2:Extern.find fn=some Extern.BytealgIndexByte.indexByte:=by simp [Extern.find,hn2,gen_index,typed_index,row_index]
               refine ⟨.int .i64 (Lib.indexByte bs.data.toList (UInt8.ofNat n)),?_,?_,rfl⟩
               . have:=Lib.run_indexByteString (P:=P) bs (Int.ofNat n) w
                 have e:(Int.ofNat n).toNat.toUInt8=UInt8.ofNat n:=rfl
                 rw [e] at this
                 simp [callFunc,hf,hn2,hbn,h1,h2,mark,Sem.run]
                 rw [show (Extern.BytealgIndexByte.indexByte #[Value.string bs,Value.int IntKind.u8 (↑n:Int)]).run P w=_ from this]
                 rfl
               . have e:=sidx_eq (UInt8.ofNat n) bs.data.toList 0
                 have hnn:(UInt8.ofNat n).toNat=n:=by simp [UInt8.toNat_ofNat,Nat.mod_eq_of_lt hlt]
                 rw [hnn] at e
                 have e2:sidx n (bytesOf bs) 0=Lib.indexByte bs.data.toList (UInt8.ofNat n):=by
                  show sidx n (bs.data.toList.map UInt8.toNat) 0=_
                  rw [e]
                  split
                  . rename_i hq;exact hq.symm
                  . simp
                 rw [e2]
                 exact .int _ _
             . cases hk
         . cases hk
     . cases hk
   . cases he
 . cases he
end Go.Ev
namespace Go.Ev
variable [Lim]
variable {P:Program} {G:Nat} {σ:Dj} {h h':H} {w w':World} {v:AV} {nt:Nat} {f:L2} {a:Act} {ctx:Ae} {b:FB} {cs:List Frame}
def NextRuns (P:Program) (r:Result Next) (v':Value) (w':World):Prop:=
 r=.ok (.value v') w'\/(∃ g args w0,r=.ok (.enter g args) w0/\∀ c cs,Steps P (lone (Frame.enter P g args .normal) (c::cs) w0) (lone (c.finish v') cs w')) \/
  ∃ l g tmps as bd w0,r=.ok (.round l g tmps as bd) w0/\∀ c cs,Steps P (lone (Frame.round l g tmps as bd .normal) (c::cs) w0) (lone (c.finish v') cs w')
theorem OpRun.next {o:Oper} {v':Value} (hd:∀ c,o.op≠.defer c) (hn:NextRuns P ((execOp a.eval o).run P w) v' w'):OpRun P b o a w v' w':=by
 rcases hn with hn|⟨g,args,w0,hn,hs⟩|⟨l,g,tmps,as,bd,w0,hn,hs⟩
 . exact .ran hd (.inl hn)
 . intro ops i rest k cs ho hw hc
   have hf:=FB.finish_at b a ops i rest k v'
   rw [ho] at hf
   refine .head (s_enter ho hw (.inr hd) hn) ?_
   have:=hs (b.at a (.inRegion ops (i::rest)::k)) cs
   rw [hf] at this
   exact this
 . intro ops i rest k cs ho hw hc
   have hf:=FB.finish_at b a ops i rest k v'
   rw [ho] at hf
   refine .head (s_round ho hw (.inr hd) hn) ?_
   have:=hs (b.at a (.inRegion ops (i::rest)::k)) cs
   rw [hf] at this
   exact this
theorem bodied_some {g:FuncId} (hb:Ba P g=true):∃ fn c,P.funcs[g]?=some fn/\fn.body=some c/\(fn.name == "runtime.NumGoroutine")=false:=by
 unfold Ba at hb
 split at hb
 . rename_i fn hf
   rw [Bool.and_eq_true] at hb
   obtain ⟨c,hc⟩:=Option.isSome_iff_exists.1 hb.2
   exact ⟨fn,c,hf,hc,by simpa using hb.1⟩
 . cases hb
theorem run_callFunc {g:FuncId} (hb:Ba P g=true) (args:Array Value) (w:World):(callFunc g args).run P w=.ok (.enter g args) w:=by
 obtain ⟨fn,c,h1,h2,h3⟩:=bodied_some hb
 have h3':¬ fn.name = "runtime.NumGoroutine":=by simpa using h3
 simp [callFunc,h1,h2,h3',Sem.run]
theorem aCall_sound (hc:A7 P G ctx) {g:FuncId} {args:List AV} {args':Array Value} (he:aCall P ctx g args h=.ok v h') (hr:Bd σ args args'.toList) (hm:Ms G σ h w) (hg:GOk G σ) (hl:h'.nx<=Bh) (hf:Fk σ h h'):
 ∃ σ' v' w',Aq σ' v v'/\Out G σ h w σ' h' w'/\NextRuns P ((callFunc g args').run P w) v' w':=by
 rcases Be he with ⟨hb,he⟩|⟨hb,he⟩
 . obtain ⟨σ',v',w',a',fn,h1,h2,h3,h4,h5,h6⟩:=hc.call g args h h' v σ w args' .normal he hb hr hm hg hl hf
   refine ⟨σ',v',w',h2,h3,.inr (.inl ⟨g,args',w,run_callFunc hb args' w,fun c cs=>?_⟩)⟩
   obtain ⟨k',h7⟩:=h6 (c::cs) (.inl rfl)
   exact h7.trans (.one (s_back h4 rfl h1 h5))
 . obtain ⟨v',h1,h2,rfl⟩:=ext_sound (w:=w) he hr hb
   exact ⟨σ,v',w,h2,Out.refl hm.ai hm.so hm.ma,.inl h1⟩
theorem run_method {t:TypeId} {name:String} {g:FuncId} (hm:methOf P t name=some g) (x:Value) (args:Array Value) (w:World):
 (callMethod (.iface t x) name args).run P w=(callFunc g (#[x]++args)).run P w:=by
 unfold methOf at hm
 split at hm
 . rename_i i hi
   split at hm
   . rename_i m hm0
     obtain ⟨n,hfu⟩:∃ n,P.types.size+Made.depth=n+1:=⟨P.types.size+99,rfl⟩
     split at hm
     . rename_i e q1 q2 q3
       cases hm
       have q1':m.path=#[]:=by simpa using q1
       simp [callMethod,hfu,method,typeInfo,hi,hm0,q1',follow,q2,receiverAt,underlying,q3,Place.get]
     . cases hm
     . rename_i d hne q1 q2 q3
       cases hm
       have q1':m.path=#[]:=by simpa using q1
       cases d<;>first|(exact absurd rfl (hne _))|simp [callMethod,hfu,method,typeInfo,hi,hm0,q1',follow,q2,receiverAt,underlying,q3,Place.get]
     . cases hm
   . cases hm
 . cases hm
theorem aMeth_sound (hc:A7 P G ctx) {r:AV} {r':Value} {name:String} {args:List AV} {args':Array Value} (he:aMeth P ctx r name args h=.ok v h') (hv:Aq σ r r') (hr:Bd σ args args'.toList) (hm:Ms G σ h w)
 (hg:GOk G σ) (hl:h'.nx<=Bh) (hf:Fk σ h h'):∃ σ' v' w',Aq σ' v v'/\Out G σ h w σ' h' w'/\NextRuns P ((callMethod r' name args').run P w) v' w':=by
 unfold aMeth at he
 split at he
 . rename_i t x hx
   have:=vIf_yes hx
   subst this
   cases hv
   rename_i x' hx'
   split at he
   . rename_i g hmm
     rw [run_method hmm]
     exact aCall_sound hc he (by simpa using Bd.cons hx' hr) hm hg hl hf
   . cases he
 . cases he
theorem aInvoke_sound (hc:A7 P G ctx) {fn:Fn} {cap args:List AV} {cap' args':Array Value} (hy:∀ l,fn≠.yield l) (he:aInvoke P ctx fn cap args h=.ok v h') (hcap:Bd σ cap cap'.toList) (hr:Bd σ args args'.toList)
 (hm:Ms G σ h w) (hg:GOk G σ) (hl:h'.nx<=Bh) (hf:Fk σ h h'):∃ σ' v' w',Aq σ' v v'/\Out G σ h w σ' h' w'/\NextRuns P ((invoke (.fn fn cap') args').run P w) v' w':=by
 unfold aInvoke at he
 split at he
 . rename_i g
   rw [Dn] at he
   have:(invoke (.fn (.func g) cap') args').run P w=(callFunc g (args'++cap')).run P w:=by simp [invoke]
   rw [this]
   exact aCall_sound hc he (by simpa using hr.append hcap) hm hg hl hf
 . rename_i name
   split at he
   . rename_i r rest
     obtain ⟨y,l,hl1,hv,hl2⟩:=hr.Fy
     have hargs:args'=(y::l).toArray:=by
      have:=congrArg List.toArray hl1
      simpa using this
     subst hargs
     have:(invoke (.fn (.method name) cap') (y::l).toArray).run P w=(callMethod y name l.toArray).run P w:=by
      have e:(y::l).toArray.extract 1 (y::l).toArray.size=l.toArray:=by simp
      simp only [invoke]
      rw [e]
      simp
     rw [this]
     exact aMeth_sound hc he hv (by simpa using hl2) hm hg hl hf
   . cases he
 . exact absurd rfl (hy _)
 . cases he
theorem cv_sound (hc:A7 P G ctx) {x:AV} {x':Value} {args:List AV} {args':Array Value} (he:cvV x args P ctx h=.ok v h') (hx:Aq σ x x') (hr:Bd σ args args'.toList) (hm:Ms G σ h w) (hg:GOk G σ) (hl:h'.nx<=Bh)
 (hf:Fk σ h h'):∃ d,(∀ w,(Deferred.ofValue x' args').run P w=.ok d w)/\∃ σ' v' w',Aq σ' v v'/\Out G σ h w σ' h' w'/\NextRuns P ((invoke d.target d.args).run P w) v' w':=by
 cases hx<;>first|(cases he;done)|skip
 . rename_i fn as cs as' cs' hy ha ha' hca hca'
   have he':aInvoke P ctx fn cs (lapp as args) h=.ok v h':=he
   rw [Dn] at he'
   refine ⟨{ target:=.fn fn cs',args:=as'++args' },fun w=>by simp [Deferred.ofValue,Sem.run],?_⟩
   exact aInvoke_sound hc hy he' ⟨hca,hca'⟩ (by simpa using Bd.append (⟨ha,ha'⟩:Bd σ as as'.toList) hr) hm hg hl hf
 . rename_i l e hle
   have he':ctx.round l args h=.ok v h':=he
   refine ⟨{ target:=.fn (.yield e.c) #[],args:=#[]++args' },fun w=>by simp [Deferred.ofValue,Sem.run],?_⟩
   obtain ⟨σ',v',w',g,tmps,as,bd,h1,h2,h3,h4⟩:=hc.round l args h h' v σ w args' e he' hle hr hm hg hl hf
   refine ⟨σ',v',w',h1,h2,.inr (.inr ⟨e.c,g,tmps,as,bd,w,?_,h4⟩)⟩
   simp [invoke,h3]
def NextPans (P:Program) (r:Result Next) (v':Value) (w':World):Prop:=
 r=.halt (.panic v') w'\/∃ g args w0,r=.ok (.enter g args) w0/\∀ c cs,Steps P (lone (Frame.enter P g args .normal) (c::cs) w0) (lone (c.raise [{ v:=v',recovered:=false }]) cs w')
def OpPans (P:Program) (b:FB) (o:Oper) (a:Act) (w:World) (v':Value) (w':World):Prop:=
 ∀ (ops:Array Oper) (i:Nat) (rest:List Nat) (k:List Item) (cs:List Frame),ops[i]?=some o->Region.wanted o (yielded ops a.tmps)=true ->
  Steps P (lone (b.at a (.inRegion ops (i::rest)::k)) cs w) (lone (b.pan a (.inRegion ops (i::rest)::k) v' false) cs w')
theorem OpPans.next {o:Oper} {v':Value} (hd:∀ c,o.op≠.defer c) (hn:NextPans P ((execOp a.eval o).run P w) v' w'):OpPans P b o a w v' w':=by
 rcases hn with hn|⟨g,args,w0,hn,hs⟩
 . exact fun ops i rest k cs ho hw=>.one (s_panic ho hw hd hn)
 . intro ops i rest k cs ho hw
   refine .head (s_enter ho hw (.inr hd) hn) ?_
   exact hs (b.at a (.inRegion ops (i::rest)::k)) cs
theorem aExt_pan {k:Nat} {args:List AV} (he:aExt k args h=.pan v h'):False:=by
 unfold aExt at he
 split at he
 . cases he
 . split at he<;>cases he
 . cases he
theorem ite_pan {c:Bool} {x y:OR} (he:(Bool.rec (motive:=fun _=>OR) y x c:OR)=.pan v h'):(c=true/\x=.pan v h')\/(c=false/\y=.pan v h'):=by
 cases c
 . exact .inr ⟨rfl,he⟩
 . exact .inl ⟨rfl,he⟩
theorem aCall_pan (hc:A7 P G ctx) {g:FuncId} {args:List AV} {args':Array Value} (he:aCall P ctx g args h=.pan v h') (hr:Bd σ args args'.toList) (hm:Ms G σ h w) (hg:GOk G σ) (hl:h'.nx<=Bh) (hf:Fk σ h h'):
 ∃ σ' v' w',Aq σ' v v'/\Out G σ h w σ' h' w'/\NextPans P ((callFunc g args').run P w) v' w':=by
 rcases ite_pan he with ⟨hb,he⟩|⟨hb,he⟩
 . obtain ⟨σ',v',w',h2,h3,h6⟩:=hc.pan g args h h' v σ w args' he hb hr hm hg hl hf
   exact ⟨σ',v',w',h2,h3,.inr ⟨g,args',w,run_callFunc hb args' w,h6⟩⟩
 . exact (aExt_pan he).elim
theorem aMeth_pan (hc:A7 P G ctx) {r:AV} {r':Value} {name:String} {args:List AV} {args':Array Value} (he:aMeth P ctx r name args h=.pan v h') (hv:Aq σ r r') (hr:Bd σ args args'.toList) (hm:Ms G σ h w)
 (hg:GOk G σ) (hl:h'.nx<=Bh) (hf:Fk σ h h'):∃ σ' v' w',Aq σ' v v'/\Out G σ h w σ' h' w'/\NextPans P ((callMethod r' name args').run P w) v' w':=by
 unfold aMeth at he
 split at he
 . rename_i t x hx
   have:=vIf_yes hx
   subst this
   cases hv
   rename_i x' hx'
   split at he
   . rename_i g hmm
     rw [run_method hmm]
     exact aCall_pan hc he (by simpa using Bd.cons hx' hr) hm hg hl hf
   . cases he
 . cases he
theorem aInvoke_pan (hc:A7 P G ctx) {fn:Fn} {cap args:List AV} {cap' args':Array Value} (hy:∀ l,fn≠.yield l) (he:aInvoke P ctx fn cap args h=.pan v h') (hcap:Bd σ cap cap'.toList) (hr:Bd σ args args'.toList)
 (hm:Ms G σ h w) (hg:GOk G σ) (hl:h'.nx<=Bh) (hf:Fk σ h h'):∃ σ' v' w',Aq σ' v v'/\Out G σ h w σ' h' w'/\NextPans P ((invoke (.fn fn cap') args').run P w) v' w':=by
 unfold aInvoke at he
 split at he
 . rename_i g
   rw [Dn] at he
   have:(invoke (.fn (.func g) cap') args').run P w=(callFunc g (args'++cap')).run P w:=by simp [invoke]
   rw [this]
   exact aCall_pan hc he (by simpa using hr.append hcap) hm hg hl hf
 . rename_i name
   split at he
   . rename_i r rest
     obtain ⟨y,l,hl1,hv,hl2⟩:=hr.Fy
     have hargs:args'=(y::l).toArray:=by
      have:=congrArg List.toArray hl1
      simpa using this
     subst hargs
     have:(invoke (.fn (.method name) cap') (y::l).toArray).run P w=(callMethod y name l.toArray).run P w:=by
      have e:(y::l).toArray.extract 1 (y::l).toArray.size=l.toArray:=by simp
      simp only [invoke]
      rw [e]
      simp
     rw [this]
     exact aMeth_pan hc he hv (by simpa using hl2) hm hg hl hf
   . cases he
 . exact absurd rfl (hy _)
 . cases he
theorem cv_pan (hc:A7 P G ctx) {x:AV} {x':Value} {args:List AV} {args':Array Value} (he:cvV x args P ctx h=.pan v h') (hx:Aq σ x x') (hr:Bd σ args args'.toList) (hm:Ms G σ h w) (hg:GOk G σ) (hl:h'.nx<=Bh)
 (hf:Fk σ h h'):∃ d,(∀ w,(Deferred.ofValue x' args').run P w=.ok d w)/\∃ σ' v' w',Aq σ' v v'/\Out G σ h w σ' h' w'/\NextPans P ((invoke d.target d.args).run P w) v' w':=by
 cases hx<;>first|(cases he;done)|skip
 . rename_i fn as cs as' cs' hy ha ha' hca hca'
   have he':aInvoke P ctx fn cs (lapp as args) h=.pan v h':=he
   rw [Dn] at he'
   refine ⟨{ target:=.fn fn cs',args:=as'++args' },fun w=>by simp [Deferred.ofValue,Sem.run],?_⟩
   exact aInvoke_pan hc hy he' ⟨hca,hca'⟩ (by simpa using Bd.append (⟨ha,ha'⟩:Bd σ as as'.toList) hr) hm hg hl hf
 . rename_i l e hle
   have he':ctx.round l args h=.pan v h':=he
   exact absurd he' (hc.rpan _ _ _ _ _)
theorem bui_sound (bi:Builtin) {ts:List TypeId} {tsA:Array TypeId} {ty:TypeId} {cns:Array Bool} {args:List AV} {args':Array Value} (hts:tsA.toList=ts) (he:aBuiltin bi ts args P h=.ok v h') (hr:Bd σ args args'.toList)
 (hm:Ms G σ h w) (hl:h'.nx<=Bh) (hf:Fk σ h h'):∃ σ' v' w',Aq σ' v v'/\Out G σ h w σ' h' w'/\(builtin bi tsA ty cns args').run P w=.ok (.value v') w':=by
 have key:∀ (s:Sem Value),BOut P G σ h w s v h'->∃ σ' v' w',Aq σ' v v'/\Out G σ h w σ' h' w'/\(do pure (Next.value (<- s)):Sem Next).run P w=.ok (.value v') w':=by
  rintro s ⟨σ',v',w',h1,h2,h3⟩
  exact ⟨σ',v',w',h2,h3,by simp [h1]⟩
 have hget:∀ (i:Nat) (t:TypeId),ts[i]?=some t->tsA[i]?=some t:=by
  intro i t ht
  rw [<- hts] at ht
  simpa using ht
 have arr1:∀ x,args=[x]->∃ y,args'=#[y]/\Aq σ x y:=by
  rintro x rfl
  obtain ⟨y,l,hl1,hv,hl2⟩:=hr.Fy
  have:=hl2.unnil
  subst this
  exact ⟨y,by simpa using congrArg List.toArray hl1,hv⟩
 have arr2:∀ x y,args=[x,y]->∃ x' y',args'=#[x',y']/\Aq σ x x'/\Aq σ y y':=by
  rintro x y rfl
  obtain ⟨x',l,hl1,hv,hl2⟩:=hr.Fy
  obtain ⟨y',l2,rfl,hv2,hl3⟩:=hl2.Fy
  have:=hl3.unnil
  subst this
  exact ⟨x',y',by simpa using congrArg List.toArray hl1,hv,hv2⟩
 unfold aBuiltin at he
 split at he
 . split at he
   . rename_i t t2 _ s x
     rcases Be he with ⟨hni,he⟩|⟨_,he⟩
     . obtain ⟨s',x',rfl,hs,hx⟩:=arr2 s x rfl
       exact key _ (append1_sound he hs hx hm (hget 0 t (by simp)) (hget 1 t2 (by simp)) hni hl hf)
     . cases he
   . cases he
 . split at he
   . rename_i t _ x
     obtain ⟨x',rfl,hx⟩:=arr1 x rfl
     exact key _ (lnK_sound he hx hm (hget 0 t (by simp)))
   . cases he
 . split at he
   . rename_i t _ d s
     obtain ⟨d',s',rfl,hd,hs⟩:=arr2 d s rfl
     exact key _ (copyA_sound he hd hs hm (hget 0 t (by simp)))
   . cases he
 . exact key _ (by simpa using mm_sound true (ts:=tsA) (ty:=ty) he hr hm)
 . exact key _ (by simpa using mm_sound false (ts:=tsA) (ty:=ty) he hr hm)
 . split at he
   . rename_i t _ x
     obtain ⟨x',rfl,hx⟩:=arr1 x rfl
     split at he
     . rename_i hk
       exact key _ (capV_sound hk he hx hm (hget 0 t (by simp)))
     . cases he
   . cases he
 . split at he
   . rename_i x
     obtain ⟨x',rfl,hx⟩:=arr1 x rfl
     exact key _ (sdV_sound he hx hm)
   . cases he
 . split at he
   . rename_i t t2 p n
     obtain ⟨p',n',rfl,hp,hn⟩:=arr2 p n rfl
     exact key _ (usV_sound he hp hn hm (by simpa using congrArg List.toArray hts))
   . cases he
 . cases he
end Go.Ev
namespace Go.Ev
variable [Lim]
variable {P:Program} {G:Nat} {σ:Dj} {h h':H} {w w':World} {v:AV} {nt:Nat} {f:L2} {a:Act} {ctx:Ae} {b:FB} {cs:List Frame}
theorem args_rel {c:Call} (C2:(Op.call c).operands.toList.all (Ej G)=true) (hs:St G σ nt f a h w):Bd σ (evs c.args.toList f) (c.args.map a.eval).toList:=by
 have:=evs_rel hs.fr hs.gl c.args.toList (by
  rw [List.all_eq_true] at C2 ⊢
  intro x hx
  exact C2 x (by simp only [Op.operands,Call.operands,Array.toList_append,List.mem_append];exact .inr hx))
 simpa using this
theorem call_sound (hc:A7 P G ctx) {dst:Option Tmp} {ty:TypeId} {pos:String} {af:Array Edge} {gd:Option (Nat × Bool)} (c:Call):OpSound P G ctx ⟨dst,.call c,ty,pos,af,gd⟩:=by
 intro σ nt f a h h' w v b he C2 hs hb hl hf
 have hd:∀ d,(Oper.mk dst (.call c) ty pos af gd).op≠.defer d:=fun d hd=>by cases hd
 have har:=args_rel C2 hs
 obtain ⟨callee,args,argTypes⟩:=c
 dsimp only at har
 have he':ceD callee args.toList argTypes.toList P ctx f h=.ok v h':=he
 cases callee with
 |value g=>
  have hgx:Aq σ (ev g f) (a.eval g):=Ce hs.fr hs.gl g (by
   rw [List.all_eq_true] at C2
   exact C2 g (by simp [Op.operands,Call.operands]))
  obtain ⟨d,hd1,σ',v',w',h1,h2,h3⟩:=cv_sound hc (args':=args.map a.eval) he' hgx har hs.ms hs.gl hl hf
  refine ⟨σ',v',w',h1,h2,.next hd ?_⟩
  have:(execOp a.eval ⟨dst,.call ⟨.value g,args,argTypes⟩,ty,pos,af,gd⟩).run P w=(invoke d.target d.args).run P w:=by
   simp [execOp,resolve,Sem.run_bind,hd1]
  rw [this]
  exact h3
 |invoke r name=>
  have hgx:Aq σ (ev r f) (a.eval r):=Ce hs.fr hs.gl r (by
   rw [List.all_eq_true] at C2
   exact C2 r (by simp [Op.operands,Call.operands]))
  obtain ⟨σ',v',w',h1,h2,h3⟩:=aMeth_sound hc (args':=args.map a.eval) he' hgx har hs.ms hs.gl hl hf
  refine ⟨σ',v',w',h1,h2,.next hd ?_⟩
  have:(execOp a.eval ⟨dst,.call ⟨.invoke r name,args,argTypes⟩,ty,pos,af,gd⟩).run P w=(callMethod (a.eval r) name (args.map a.eval)).run P w:=by
   have e:(#[a.eval r]++args.map a.eval).extract 1 (#[a.eval r]++args.map a.eval).size=args.map a.eval:=by
    apply Array.ext'
    simp
    exact List.take_of_length_le (by simp)
   simp only [execOp,resolve,Sem.run_bind,Sem.run_pure,Result.andThen_ok,invoke]
   rw [e]
   have e0:(#[a.eval r]++args.map a.eval)[0]?=some (a.eval r):=by
    rw [Array.getElem?_append_left (by show 0<1;omega)]
    rfl
   rw [e0]
  rw [this]
  exact h3
 |builtin bi=>
  have he2:ceBui bi args.toList argTypes.toList P ctx f h=.ok v h':=he'
  unfold ceBui at he2
  split at he2
  . have he3:recV (vT (f.get Bi)) h=.ok v h':=he2
    unfold recV at he3
    split at he3
    . rename_i l hvt
      obtain ⟨rfl,rfl⟩:=By he3
      have hro:b.ro=none:=by
       rcases hb with ⟨h1,_⟩|⟨_,c,l2,e,h1,h2,_⟩
       . exact h1
       . rw [h2] at hvt;cases hvt
      refine ⟨σ,.nilIface,w,.Bx,Out.refl hs.ai hs.so hs.ma,?_⟩
      intro ops i rest k cs ho hw hcm
      refine .one (s_recover ho hw hro (hcm.recover a) ?_)
      simp [execOp,resolve,invoke,builtin]
    . cases he3
  . obtain ⟨cns,hcns⟩:∃ cns,(execOp a.eval ⟨dst,.call ⟨.builtin bi,args,argTypes⟩,ty,pos,af,gd⟩).run P w=(builtin bi argTypes ty cns (args.map a.eval)).run P w:=
     ⟨_,by simp only [execOp,resolve,Sem.run_bind,Sem.run_pure,Result.andThen_ok,invoke];rfl⟩
    obtain ⟨σ',v',w',h1,h2,h3⟩:=bui_sound bi (tsA:=argTypes) (ty:=ty) (cns:=cns) rfl he2 har hs.ms hl hf
    refine ⟨σ',v',w',h1,h2,.next hd (.inl ?_)⟩
    rw [hcns]
    exact h3
theorem op_pan (hc:A7 P G ctx) (o:Oper) (hpo:panOp o.op=true) (he:opD o.op o.type P ctx f h=.pan v h') (C2:o.op.operands.toList.all (Ej G)=true) (hs:St G σ nt f a h w) (hl:h'.nx<=Bh) (hf:Fk σ h h'):
 ∃ σ' v' w',Aq σ' v v'/\Out G σ h w σ' h' w'/\OpPans P b o a w v' w':=by
 obtain ⟨dst,op,ty,pos,af,gd⟩:=o
 cases op<;>first|(cases hpo;done)|skip
 case panic x=>
  have he':panV (ev x f) h=.pan v h':=he
  have hgx:Aq σ (ev x f) (a.eval x):=Ce hs.fr hs.gl x (by
   rw [List.all_eq_true] at C2
   exact C2 x (by simp [Op.operands]))
  unfold panV at he'
  split at he'
  . rename_i t y hy
    have hy:=vIf_yes hy
    cases he'
    refine ⟨σ,a.eval x,w,hgx,Out.refl hs.ai hs.so hs.ma,.next (fun d hd=>by cases hd) (.inl ?_)⟩
    rw [hy] at hgx
    generalize hxx:a.eval x=xx at hgx
    cases hgx
    simp [execOp,hxx,Instr.panic,goPanic,Sem.run]
  . cases he'
 case call c=>
  have hd:∀ d,(Oper.mk dst (.call c) ty pos af gd).op≠.defer d:=fun d hd=>by cases hd
  have har:=args_rel C2 hs
  obtain ⟨callee,args,argTypes⟩:=c
  dsimp only at har
  have he':ceD callee args.toList argTypes.toList P ctx f h=.pan v h':=he
  cases callee with
  |value g=>
   have hgx:Aq σ (ev g f) (a.eval g):=Ce hs.fr hs.gl g (by
    rw [List.all_eq_true] at C2
    exact C2 g (by simp [Op.operands,Call.operands]))
   obtain ⟨d,hd1,σ',v',w',h1,h2,h3⟩:=cv_pan hc (args':=args.map a.eval) he' hgx har hs.ms hs.gl hl hf
   refine ⟨σ',v',w',h1,h2,.next hd ?_⟩
   have:(execOp a.eval ⟨dst,.call ⟨.value g,args,argTypes⟩,ty,pos,af,gd⟩).run P w=(invoke d.target d.args).run P w:=by
    simp [execOp,resolve,Sem.run_bind,hd1]
   rw [this]
   exact h3
  |invoke r name=>
   have hgx:Aq σ (ev r f) (a.eval r):=Ce hs.fr hs.gl r (by
    rw [List.all_eq_true] at C2
    exact C2 r (by simp [Op.operands,Call.operands]))
   obtain ⟨σ',v',w',h1,h2,h3⟩:=aMeth_pan hc (args':=args.map a.eval) he' hgx har hs.ms hs.gl hl hf
   refine ⟨σ',v',w',h1,h2,.next hd ?_⟩
   have:(execOp a.eval ⟨dst,.call ⟨.invoke r name,args,argTypes⟩,ty,pos,af,gd⟩).run P w=(callMethod (a.eval r) name (args.map a.eval)).run P w:=by
    have e:(#[a.eval r]++args.map a.eval).extract 1 (#[a.eval r]++args.map a.eval).size=args.map a.eval:=by
     apply Array.ext'
     simp
     exact List.take_of_length_le (by simp)
    simp only [execOp,resolve,Sem.run_bind,Sem.run_pure,Result.andThen_ok,invoke]
    rw [e]
    have e0:(#[a.eval r]++args.map a.eval)[0]?=some (a.eval r):=by
     rw [Array.getElem?_append_left (by show 0<1;omega)]
     rfl
    rw [e0]
   rw [this]
   exact h3
  |builtin bi=>cases hpo
theorem op_sound (hc:A7 P G ctx) (o:Oper):OpSound P G ctx o:=by
 obtain ⟨dst,op,ty,pos,af,gd⟩:=o
 cases op
 case move x=>exact (good_move x).to3.sound
 case assign x=>exact (good_assign x).to3.sound
 case pick c x y=>exact (good_pick c x y).to3.sound
 case alloc e=>exact (good_alloc e).to3.sound
 case box e x=>exact (good_box e x).to3.sound
 case build t p=>exact (good_build t p).to3.sound
 case buildSlice t n p=>exact (good_buildSlice t n p).to3.sound
 case insert t m k x=>exact (good3_insert t m k x).sound
 case load t x=>exact (good3_load t x).sound
 case store t x y=>exact (good3_store t x y).sound
 case nilCheck x=>exact (good_nilCheck x).to3.sound
 case binOp op t x y yt=>exact (good_binOp op t x y yt).to3.sound
 case unOp op t x=>exact (good_unOp op t x).to3.sound
 case convert s d x=>exact (good3_convert s d x).sound
 case makeInterface t x=>exact (good_makeIface t x).to3.sound
 case makeFunc fn x y=>exact (good_makeFunc fn x y).to3.sound
 case makeMap t r=>exact (good3_makeMap t r).sound
 case makeSlice t x y=>exact (good3_makeSlice t x y).sound
 case slice t x lo hi mx=>exact (good_slice t x lo hi mx).to3.sound
 case fieldAddr t x i=>exact (good_fieldAddr t x i).to3.sound
 case field t x i=>exact (good_field t x i).to3.sound
 case indexAddr t x i=>exact (good_indexAddr t x i).to3.sound
 case index t x i=>exact (good_index t x i).to3.sound
 case lookup t x i ok=>exact (good3_lookup t x i ok).sound
 case mapUpdate t m k x=>exact (good3_mapUpdate t m k x).sound
 case typeAssert x xt t ok=>exact (good_typeAssert x xt t ok).to3.sound
 case extract x i=>exact (good_extract x i).to3.sound
 case call c=>exact call_sound hc c
 case panic x=>
  intro σ nt f a h h' w v b he C2 hs hb hl hf
  have he':panV (ev x f) h=.ok v h':=he
  unfold panV at he'
  split at he'<;>cases he'
 all_goals
  intro σ nt f a h h' w v b he C2 hs hb hl hf
  cases he
end Go.Ev
namespace Go.Ev
variable [Lim]
variable {P:Program} {G:Nat} {σ σ':Dj} {h h':H} {w w':World} {v:AV} {nt:Nat} {f f':L2} {a:Act} {ctx:Ae} {b:FB} {cs:List Frame}
theorem Fk.left {h1:H} (hf:Fk σ h h') (h1n:h1.nx<=h'.nx):Fk σ h h1:=fun x h2 h3=>hf x h2 (by omega)
theorem Fk.right {h1:H} (hf:Fk σ h h') (ho:Out G σ h w σ' h1 w'):Fk σ' h1 h':=by
 obtain ⟨nw,a1,a2,_⟩:=ho
 intro x h2 h3
 have:=a1.nx
 cases hx:σ' x with
 |none=>rfl
 |some e=>have:=a2.fresh x e (hf x (by omega) h3) hx;omega
theorem Out.le (ho:Out G σ h w σ' h' w'):Sle σ σ':=by obtain ⟨_,_,a2,_⟩:=ho;exact a2.le
theorem Out.ms (ho:Out G σ h w σ' h' w'):Ms G σ' h' w':=by obtain ⟨_,a1,a2,a3⟩:=ho;exact ⟨a1.inv,a2.ok,a3⟩
theorem GOk.mono (hg:GOk G σ) (hs:Sle σ σ'):GOk G σ':=fun g h1=>by obtain ⟨e,h2,h3⟩:=hg g h1;exact ⟨e,hs _ _ h2,h3⟩
theorem St.next {a':Act} (hs:St G σ nt f a h w) (ho:Out G σ h w σ' h' w') (hfr:FRel σ' nt f' a'):St G σ' nt f' a' h' w':=
 ⟨hfr,hs.gl.mono ho.le,ho.ms.ai,ho.ms.so,ho.ms.ma⟩
theorem RBk.mono (hb:RBk b σ f) (hs:Sle σ σ') (hd:f'.get Bi=f.get Bi):RBk b σ' f':=by
 rcases hb with ⟨h1,ds,h2⟩|⟨h0,c,l,e,h1,h2,h3,h4⟩
 . exact .inl ⟨h1,ds,by rw [hd,h2]⟩
 . exact .inr ⟨h0,c,l,e,h1,by rw [hd,h2],hs _ _ h3,h4⟩
theorem putD_get {d:Option Tmp} (hd:∀ t:Nat,d=some t->t<250) (u:Nat) (hu:u<256):(putD d v f).get u=if d=some u then v else f.get u:=by
 cases d with
 |none=>simp [putD]
 |some t=>
  show (f.set t v).get u=_
  rw [L2.C9 t u v f (Nat.lt_trans (hd t rfl) (by decide)) hu]
  by_cases h1:u=t
  . subst h1;simp
  . rw [if_neg h1,if_neg (fun hh=>h1 (by cases hh;rfl))]
theorem put_size (a:Act) (d:Option Tmp) (v:Value):(a.put d v).tmps.size=a.tmps.size:=by
 cases d<;>simp [Act.put]
theorem put_getD {d:Option Tmp} (hd:∀ t:Nat,d=some t->t<a.tmps.size) (v':Value) (u:Nat):(a.put d v').tmps.getD u undef=if d=some u then v' else a.tmps.getD u undef:=by
 cases d with
 |none=>simp [Act.put]
 |some t=>
  have ht:=hd t rfl
  show (a.tmps.setIfInBounds t v').getD u undef=_
  by_cases h1:t=u
  . subst h1
    simp [Array.getD,ht]
  . rw [if_neg (fun hh=>h1 (by cases hh;rfl))]
    simp only [Array.getD_eq_getD_getElem?]
    rw [Array.getElem?_setIfInBounds_ne h1]
theorem FRel.put {d:Option Tmp} {v':Value} (hfr:FRel σ nt f a) (hd:∀ t:Nat,d=some t->t<nt) (hnt:nt<250) (hv:Aq σ v v'):FRel σ nt (putD d v f) (a.put d v'):=by
 refine ⟨by rw [put_size];exact hfr.size,?_,?_⟩
 . intro t ht
   rw [putD_get (fun u hu=>Nat.lt_trans (hd u hu) hnt) t (Nat.lt_trans ht (by decide)),put_getD (fun u hu=>by have:=hd u hu;rw [hfr.size];exact this)]
   split
   . exact hv
   . exact hfr.slot t ht
 . rw [putD_get (fun u hu=>Nat.lt_trans (hd u hu) hnt) Bi (by decide),if_neg (fun hh=>by have h1:(255:Nat)<nt:=hd 255 hh;omega)]
   have:(a.put d v').defers=a.defers:=by cases d<;>rfl
   rw [this]
   exact hfr.defers
noncomputable def gv (ops:Array Oper) (o:Oper) (f:L2):WT:=match guardOf ops o with|.always=>.yes|.on t want=>wantV (f.get t) want|.bad=>.bad
theorem oper1_eq (ops:Array Oper) (o:Oper):Fe ops o P ctx f h=wantR (gv ops o f) o P ctx f h:=by
 unfold Fe gv
 cases guardOf ops o<;>rfl
theorem oper1_cases {ops:Array Oper} {o:Oper} {r:RC} (he:Fe ops o P ctx f h=r) (hr:∀ n,r≠.bad n) (hx:∀ i f' h',r≠.ext i f' h'):
 (gv ops o f=.no/\r=.Ar (putD o.dst (.Bl []) f) h) \/
 (gv ops o f=.yes/\isDefer o.op=none/\∃ v h',opD o.op o.type P ctx f h=.ok v h'/\r=.Ar (putD o.dst v f) h') \/
 (gv ops o f=.yes/\∃ c,isDefer o.op=some c/\oDefer c o.dst o.type P ctx f h=r):=by
 rw [oper1_eq] at he
 cases hg:gv ops o f with
 |no=>rw [hg] at he;exact .inl ⟨rfl,he.symm⟩
 |bad=>rw [hg] at he;exact absurd he.symm (hr _)
 |yes=>
  rw [hg] at he
  have he1:op1 o o.dst o.type P ctx f h=r:=he
  unfold op1 at he1
  cases hd:isDefer o.op with
  |none=>
   rw [hd] at he1
   have he2:putR o.dst f h o.op (opD o.op o.type P ctx f h)=r:=he1
   refine .inr (.inl ⟨rfl,rfl,?_⟩)
   cases ho:opD o.op o.type P ctx f h with
   |bad n=>rw [ho] at he2;exact absurd he2.symm (hr _)
   |ok v h'=>rw [ho] at he2;exact ⟨v,h',rfl,he2.symm⟩
   |pan v h'=>
    rw [ho] at he2
    have he3:(Bool.rec (motive:=fun _=>RC) (.bad 208) (Bool.rec (motive:=fun _=>RC) (.bad 208) (RC.ext Eb (f.set pslot v) h') (Nat.ble h.nx h'.nx)) (panOp o.op):RC)=r:=he2
    cases h1:panOp o.op with
    |false=>rw [h1] at he3;exact absurd he3.symm (hr _)
    |true=>
     rw [h1] at he3
     dsimp only at he3
     cases h2:Nat.ble h.nx h'.nx with
     |false=>rw [h2] at he3;exact absurd he3.symm (hr _)
     |true=>rw [h2] at he3;exact absurd he3.symm (hx _ _ _)
  |some c=>
   rw [hd] at he1
   exact .inr (.inr ⟨rfl,c,rfl,he1⟩)
theorem oper1_ext {ops:Array Oper} {o:Oper} {id:Nat} (he:Fe ops o P ctx f h=.ext id f' h'):id=Eb/\gv ops o f=.yes/\isDefer o.op=none/\panOp o.op=true/\h.nx<=h'.nx/\∃ v,opD o.op o.type P ctx f h=.pan v h'/\f'=f.set pslot v:=by
 rw [oper1_eq] at he
 cases hg:gv ops o f with
 |no=>rw [hg] at he;cases he
 |bad=>rw [hg] at he;cases he
 |yes=>
  rw [hg] at he
  have he1:op1 o o.dst o.type P ctx f h=.ext id f' h':=he
  unfold op1 at he1
  cases hd:isDefer o.op with
  |none=>
   rw [hd] at he1
   have he2:putR o.dst f h o.op (opD o.op o.type P ctx f h)=.ext id f' h':=he1
   cases ho:opD o.op o.type P ctx f h with
   |bad n=>rw [ho] at he2;cases he2
   |ok v h1=>rw [ho] at he2;cases he2
   |pan v h1=>
    rw [ho] at he2
    have he3:(Bool.rec (motive:=fun _=>RC) (.bad 208) (Bool.rec (motive:=fun _=>RC) (.bad 208) (RC.ext Eb (f.set pslot v) h1) (Nat.ble h.nx h1.nx)) (panOp o.op):RC)=.ext id f' h':=he2
    cases hp1:panOp o.op with
    |false=>rw [hp1] at he3;cases he3
    |true=>
     rw [hp1] at he3
     dsimp only at he3
     cases h2:Nat.ble h.nx h1.nx with
     |false=>rw [h2] at he3;cases he3
     |true=>rw [h2] at he3;cases he3;exact ⟨rfl,rfl,rfl,rfl,ble_le h2,v,rfl,rfl⟩
  |some c=>
   rw [hd] at he1
   have he2:oDefer c o.dst o.type P ctx f h=.ext id f' h':=he1
   unfold oDefer at he2
   split at he2
   . unfold dfPush at he2
     split at he2<;>cases he2
   . cases he2
theorem isDefer_some {o:Op} {c:Call} (hd:isDefer o=some c):o=.defer c:=by
 cases o<;>first|(cases hd;done)|skip
 cases hd;rfl
theorem gv_wanted {ops:Array Oper} {o:Oper} (hall:∀ x∈ops.toList,F7 G nt x=true) (hfr:FRel σ nt f a) (hnt:nt<250):
 (gv ops o f=.yes->Region.wanted o (yielded ops a.tmps)=true)/\(gv ops o f=.no->Region.wanted o (yielded ops a.tmps)=false):=by
 unfold gv guardOf Region.wanted
 cases hg:o.guard with
 |none=>exact ⟨fun _=>rfl,fun hh=>by cases hh⟩
 |some jw=>
  obtain ⟨j,want⟩:=jw
  dsimp only
  cases hj:(ops[j]?).bind (·.dst) with
  |none=>exact ⟨fun hh=>(by change WT.bad=WT.yes at hh;cases hh),fun hh=>(by change WT.bad=WT.no at hh;cases hh)⟩
  |some t=>
   dsimp only
   have ht:t<nt:=by
    cases hoj:ops[j]? with
    |none=>rw [hoj] at hj;cases hj
    |some x=>
     rw [hoj] at hj
     have hx:x∈ops.toList:=by
      have:=Array.mem_of_getElem? hoj
      exact Array.mem_toList_iff.2 this
     have:=hall x hx
     unfold F7 at this
     rw [show x.dst=some t from hj] at this
     cases hq:x.op.operands.toList.all (Ej G) with
     |false=>rw [hq] at this;cases this
     |true=>rw [hq] at this;exact Ee this
   have hsl:=hfr.slot t (Nat.lt_trans ht hnt)
   have hget:a.tmps[t]?=some (a.tmps.getD t undef):=by
    have:t<a.tmps.size:=by rw [hfr.size];exact ht
    simp [Array.getD,this]
   unfold yielded
   rw [hj]
   simp only [Option.bind_some,hget]
   generalize f.get t=x at hsl
   generalize a.tmps.getD t undef=y at hsl
   cases hsl
   case bool bb=>
    show ((Bool.rec (motive:=fun _=>WT) WT.no WT.yes (beqB bb want))=WT.yes->_)/\((Bool.rec (motive:=fun _=>WT) WT.no WT.yes (beqB bb want))=WT.no->_)
    rw [beqB_eq]
    cases bb<;>cases want<;>(refine ⟨fun hh=>?_,fun hh=>?_⟩<;>first|rfl|(cases hh;done))
   all_goals
    refine ⟨fun hh=>?_,fun hh=>?_⟩
    . first|(change WT.no=WT.yes at hh;cases hh;done)|(change WT.bad=WT.yes at hh;cases hh;done)
    . first|rfl|(change WT.bad=WT.no at hh;cases hh;done)
theorem operOk_dst {o:Oper} (ho:F7 G nt o=true):o.op.operands.toList.all (Ej G)=true/\∀ t:Nat,o.dst=some t->t<nt:=by
 unfold F7 at ho
 cases hq:o.op.operands.toList.all (Ej G) with
 |false=>rw [hq] at ho;cases ho
 |true=>
  rw [hq] at ho
  refine ⟨rfl,fun t ht=>?_⟩
  rw [ht] at ho
  exact Ee ho
theorem oper_sound (hc:A7 P G ctx) {ops:Array Oper} {o:Oper} {r:RC} (hall:∀ x∈ops.toList,F7 G nt x=true) (hnt:nt<250) (ho:F7 G nt o=true) (he:Fe ops o P ctx f h=r) (hr:∀ n,r≠.bad n) (hx:∀ i f' h',r≠.ext i f' h')
 (hs:St G σ nt f a h w) (hb:RBk b σ f):∃ f' h',r=.Ar f' h'/\(h'.nx<=Bh->Fk σ h h'->∃ σ' a' w',St G σ' nt f' a' h' w'/\RBk b σ' f'/\Out G σ h w σ' h' w' /\
  ∀ i rest k cs,ops[i]?=some o->Calm b cs->Steps P (lone (b.at a (.inRegion ops (i::rest)::k)) cs w) (lone (b.at a' (.inRegion ops rest::k)) cs w')):=by
 obtain ⟨C2,hdst⟩:=operOk_dst ho
 have hwant:=gv_wanted (o:=o) hall hs.fr hnt
 have hds:∀ v,(putD o.dst v f).get Bi=f.get Bi:=by
  intro v
  rw [putD_get (fun u hu=>Nat.lt_trans (hdst u hu) hnt) Bi (by decide),if_neg (fun hh=>by have h1:(255:Nat)<nt:=hdst 255 hh;omega)]
 rcases oper1_cases he hr hx with ⟨hg,rfl⟩|⟨hg,hnd,v,h',hv,rfl⟩|⟨hg,c,hd,hdf⟩
 . refine ⟨_,_,rfl,fun hl hf=>⟨σ,a.put o.dst undef,w,hs.next (Out.refl hs.ai hs.so hs.ma) (hs.fr.put hdst hnt (undef_rel σ)),hb.mono (Sle.refl σ) (hds _),Out.refl hs.ai hs.so hs.ma,?_⟩⟩
   intro i rest k cs hoi hcm
   have hw:=hwant.2 hg
   have:=s_pass (P:=P) (b:=b) (a:=a) (k:=k) (cs:=cs) (w:=w) (ops:=ops) (i:=i) (rest:=rest) (by rw [hoi];simpa using hw)
   rw [hoi] at this
   exact .one this
 . refine ⟨_,_,rfl,fun hl hf=>?_⟩
   obtain ⟨σ',v',w',h1,h2,h3⟩:=op_sound hc o σ nt f a h h' w v b hv C2 hs hb hl hf
   refine ⟨σ',a.put o.dst v',w',hs.next h2 ((hs.fr.mono h2.le).put hdst hnt h1),hb.mono h2.le (hds _),h2,?_⟩
   intro i rest k cs hoi hcm
   exact h3 ops i rest k cs hoi (hwant.1 hg) hcm
 . have hod:=isDefer_some hd
   unfold oDefer at hdf
   split at hdf
   . rename_i g hcal
     unfold dfPush at hdf
     split at hdf
     . rename_i k as cap ds hvf hvt
       have hvf:=vF_yes hvf
       have hvt:=vT_yes hvt
       refine ⟨_,_,hdf.symm,fun hl hf=>?_⟩
       have hgx:Aq σ (ev g f) (a.eval g):=Ce hs.fr hs.gl g (by
        rw [List.all_eq_true] at C2
        exact C2 g (by simp [hod,Op.operands,Call.operands,hcal]))
       rw [hvf] at hgx
       have har:Bd σ (evs c.args.toList f) (c.args.map a.eval).toList:=by
        have:=evs_rel hs.fr hs.gl c.args.toList (by
         rw [List.all_eq_true] at C2 ⊢
         intro x hx
         exact C2 x (by rw [hod];simp only [Op.operands,Call.operands,Array.toList_append,List.mem_append];exact .inr hx))
        simpa using this
       generalize hge:a.eval g=gx at hgx
       cases hgx
       rename_i as' cs' hy ha ha' hc1 hc2
       have hro:b.ro=none:=by
        rcases hb with ⟨h1,_⟩|⟨_,c,l2,e,h1,h2,_⟩
        . exact h1
        . rw [h2] at hvt;cases hvt
       have hdr:=hs.fr.defers
       rw [hvt] at hdr
       have hfr:FRel σ nt (f.set Bi (.Bl (.fn (.func k) (lapp as (evs c.args.toList f)) cap::ds))) ⟨a.tmps,{ target:=.fn (.func k) cs',args:=as'++c.args.map a.eval }::a.defers⟩:=by
        refine ⟨hs.fr.size,?_,?_⟩
        . intro t ht
          rw [L2.C9 Bi t _ f (by decide) (Nat.lt_trans ht (by decide)),if_neg (by intro hh;have h1:t=255:=hh;omega)]
          exact hs.fr.slot t ht
        . rw [L2.C9 Bi Bi _ f (by decide) (by decide),if_pos rfl]
          refine .cons _ _ _ _ (.fn k _ _ _ _ ?_ ⟨hc1,hc2⟩) hdr
          rw [Dn]
          simpa using Bd.append (⟨ha,ha'⟩:Bd σ as as'.toList) har
       refine ⟨σ,_,w,hs.next (Out.refl hs.ai hs.so hs.ma) (hfr.put hdst hnt (undef_rel σ)),?_,Out.refl hs.ai hs.so hs.ma,?_⟩
       . refine .inl ⟨hro,.fn (.func k) (lapp as (evs c.args.toList f)) cap::ds,?_⟩
         rw [putD_get (fun u hu=>Nat.lt_trans (hdst u hu) hnt) Bi (by decide),if_neg (fun hh=>by have h1:(255:Nat)<nt:=hdst 255 hh;omega)]
         rw [L2.C9 Bi Bi _ f (by decide) (by decide),if_pos rfl]
       . intro i rest k2 cs hoi hcm
         refine .one (s_putDefer hoi (hwant.1 hg) hro ?_)
         have e:(execOp a.eval o).run P w=(do pure (Next.defer (<- resolve a.eval c o.type)):Sem Next).run P w:=by
          simp only [execOp,hod]
         rw [e]
         simp [resolve,hcal,hge,Deferred.ofValue]
     . exact absurd hdf.symm (hr _)
   . exact absurd hdf.symm (hr _)
theorem oper1_nrm (ops:Array Oper) (o:Oper) (r:RC) (h1:∀ f' h',r≠.Ar f' h') (h2:∀ n,r≠.bad n) (h3:∀ i f' h',r≠.ext i f' h'):Fe ops o P ctx f h≠r:=by
 intro he
 rcases oper1_cases he h2 h3 with ⟨_,rfl⟩|⟨_,_,v,h',_,rfl⟩|⟨_,c,_,hdf⟩
 . exact h1 _ _ rfl
 . exact h1 _ _ rfl
 . unfold oDefer at hdf
   split at hdf
   . unfold dfPush at hdf
     split at hdf
     . exact h1 _ _ hdf.symm
     . exact h2 _ hdf.symm
   . exact h2 _ hdf.symm
theorem execOps_ret {ops:Array Oper}:∀ (l:List Oper) (f:L2) (h:H) (f':L2) (h':H),Gr P ctx ops l f h≠.ret f' h':=by
 intro l
 induction l with
 |nil=>intro f h f' h' he;cases he
 |cons o l ih=>
  intro f h f' h' he
  have he':andThen (Gr P ctx ops l) (Fe ops o P ctx f h)=.ret f' h':=he
  cases ho:Fe ops o P ctx f h with
  |bad n=>rw [ho] at he';cases he'
  |Ar f1 h1'=>rw [ho] at he';exact ih f1 h1' f' h' he'
  |ext id f1 h1'=>rw [ho] at he';cases he'
  |ret f1 h1'=>exact oper1_nrm ops o _ (fun f' h' hh=>by cases hh) (fun n hn=>by cases hn) (fun _ _ _ hh=>by cases hh) ho
theorem oper_pan (hc:A7 P G ctx) {ops:Array Oper} {o:Oper} {id:Nat} (hall:∀ x∈ops.toList,F7 G nt x=true) (hnt:nt<250) (ho:F7 G nt o=true) (he:Fe ops o P ctx f h=.ext id f' h')
 (hs:St G σ nt f a h w) (hb:RBk b σ f) (hl:h'.nx<=Bh) (hf:Fk σ h h'):id=Eb/\∃ σ' w' pv,St G σ' nt f' a h' w'/\RBk b σ' f'/\Out G σ h w σ' h' w'/\Aq σ' (f'.get pslot) pv /\
  ∀ i rest k cs,ops[i]?=some o->Steps P (lone (b.at a (.inRegion ops (i::rest)::k)) cs w) (lone (b.pan a (.inRegion ops (i::rest)::k) pv false) cs w'):=by
 obtain ⟨h1,hg,h3,hpo,h5,v,hv,rfl⟩:=oper1_ext he
 obtain ⟨C2,hdst⟩:=operOk_dst ho
 obtain ⟨σ',v',w',q1,q2,q3⟩:=op_pan (b:=b) hc o hpo hv C2 hs hl hf
 have hget:∀ t,t<250->(f.set pslot v).get t=f.get t:=by
  intro t ht
  rw [L2.C9 pslot t _ f (by decide) (by omega),if_neg (by intro hh;have h1:t=254:=hh;omega)]
 have hdsl:(f.set pslot v).get Bi=f.get Bi:=by
  rw [L2.C9 pslot Bi _ f (by decide) (by decide),if_neg (by intro hh;cases hh)]
 refine ⟨h1,σ',w',v',hs.next q2 ⟨hs.fr.size,fun t ht=>by rw [hget t ht];exact (hs.fr.slot t ht).mono q2.le,by rw [hdsl];exact hs.fr.defers.mono q2.le⟩,hb.mono q2.le hdsl,q2,?_,?_⟩
 . rw [L2.C9 pslot pslot _ f (by decide) (by decide),if_pos rfl]
   exact q1
 . intro i rest k cs hoi
   exact q3 ops i rest k cs hoi ((gv_wanted hall hs.fr hnt).1 hg)
theorem ops_sound (hc:A7 P G ctx) {ops:Array Oper} (hall:∀ x∈ops.toList,F7 G nt x=true) (hnt:nt<250):∀ (l:List Oper) (i:Nat),ops.toList.drop i=l->∀ (σ:Dj) (f:L2) (a:Act) (h:H) (w:World) (r:RC),
 Gr P ctx ops l f h=r->(∀ n,r≠.bad n)->(∀ i f' h',r≠.ext i f' h')->St G σ nt f a h w->RBk b σ f->∃ f' h',r=.Ar f' h'/\(h'.nx<=Bh->Fk σ h h'->∃ σ' a' w',St G σ' nt f' a' h' w'/\RBk b σ' f'/\Out G σ h w σ' h' w' /\
  ∀ k cs,Calm b cs->Steps P (lone (b.at a (.inRegion ops (List.range' i (ops.size - i))::k)) cs w) (lone (b.at a' (.inRegion ops []::k)) cs w')):=by
 intro l
 induction l with
 |nil=>
  intro i hi σ f a h w r he hr hx hs hb
  refine ⟨f,h,he.symm,fun hl hf=>⟨σ,a,w,hs,hb,Out.refl hs.ai hs.so hs.ma,fun k cs hcm=>?_⟩⟩
  have:ops.size - i=0:=by
   have:=congrArg List.length hi
   simp at this
   omega
  rw [this]
  exact .refl P _
 |cons o l ih=>
  intro i hi σ f a h w r he hr hx hs hb
  have hlt:i<ops.size:=by
   have:=congrArg List.length hi
   simp at this
   omega
  have hoi:ops[i]?=some o:=by
   have:(ops.toList.drop i)[0]?=some o:=by rw [hi];rfl
   rw [List.getElem?_drop] at this
   simpa using this
  have hdrop:ops.toList.drop (i+1)=l:=by
   rw [<- List.drop_drop,hi];rfl
  have hmem:o∈ops.toList:=by
   have:=Array.mem_of_getElem? hoi
   exact Array.mem_toList_iff.2 this
  have he':andThen (Gr P ctx ops l) (Fe ops o P ctx f h)=r:=he
  have hr1:∀ n,Fe ops o P ctx f h≠.bad n:=by
   intro n hn
   rw [hn] at he'
   exact hr n he'.symm
  have hx1:∀ i f' h',Fe ops o P ctx f h≠.ext i f' h':=by
   intro i f' h' hn
   rw [hn] at he'
   exact hx _ _ _ he'.symm
  obtain ⟨f1,h1,e1,s1⟩:=oper_sound hc hall hnt (hall o hmem) rfl hr1 hx1 hs hb
  rw [e1] at he'
  have he2:Gr P ctx ops l f1 h1=r:=he'
  have hm:=mono_execOps (P:=P) hc.mono ops l f1 h1
  have hkey:∀ (h':H),(∃ f',r=.Ar f' h')->h1.nx<=h'.nx:=by
   rintro h' ⟨f',rfl⟩
   exact hm f' h' (.inl he2)
  cases r with
  |bad n=>exact absurd rfl (hr n)
  |Ar f' h'=>
   refine ⟨f',h',rfl,fun hl hf=>?_⟩
   have hle:=hkey h' ⟨f',rfl⟩
   obtain ⟨σ1,a1,w1,t1,t2,t3,t4⟩:=s1 (by omega) (hf.left hle)
   obtain ⟨f2,h2,e2,s2⟩:=ih (i+1) hdrop σ1 f1 a1 h1 w1 _ he2 hr hx t1 t2
   cases e2
   obtain ⟨σ2,a2,w2,u1,u2,u3,u4⟩:=s2 hl (hf.right t3)
   refine ⟨σ2,a2,w2,u1,u2,t3.trans u3 hl,fun k cs hcm=>?_⟩
   have hrange:List.range' i (ops.size - i)=i::List.range' (i+1) (ops.size - (i+1)):=by
    have:ops.size - i=(ops.size - (i+1))+1:=by omega
    rw [this,List.range'_succ]
   rw [hrange]
   exact (t4 i _ k cs hoi hcm).trans (u4 k cs hcm)
  |ext id f' h'=>exact absurd rfl (hx _ _ _)
  |ret f' h'=>exact absurd he2 (execOps_ret l f1 h1 _ _)
theorem ops_pan (hc:A7 P G ctx) {ops:Array Oper} (hall:∀ x∈ops.toList,F7 G nt x=true) (hnt:nt<250):∀ (l:List Oper) (i:Nat),ops.toList.drop i=l->∀ (σ:Dj) (f:L2) (a:Act) (h:H) (w:World) (id:Nat) (f':L2) (h':H),
 Gr P ctx ops l f h=.ext id f' h'->St G σ nt f a h w->RBk b σ f->h'.nx<=Bh->Fk σ h h'->id=Eb/\∃ σ' a' w' pv,St G σ' nt f' a' h' w'/\RBk b σ' f'/\Out G σ h w σ' h' w'/\Aq σ' (f'.get pslot) pv /\
  ∀ k cs,Calm b cs->∃ rest,Steps P (lone (b.at a (.inRegion ops (List.range' i (ops.size - i))::k)) cs w) (lone (b.pan a' (.inRegion ops rest::k) pv false) cs w'):=by
 intro l
 induction l with
 |nil=>intro i hi σ f a h w id f' h' he;cases he
 |cons o l ih=>
  intro i hi σ f a h w id f' h' he hs hb hl hf
  have hlt:i<ops.size:=by
   have:=congrArg List.length hi
   simp at this
   omega
  have hoi:ops[i]?=some o:=by
   have:(ops.toList.drop i)[0]?=some o:=by rw [hi];rfl
   rw [List.getElem?_drop] at this
   simpa using this
  have hdrop:ops.toList.drop (i+1)=l:=by
   rw [<- List.drop_drop,hi];rfl
  have hmem:o∈ops.toList:=by
   have:=Array.mem_of_getElem? hoi
   exact Array.mem_toList_iff.2 this
  have hrange:List.range' i (ops.size - i)=i::List.range' (i+1) (ops.size - (i+1)):=by
   have:ops.size - i=(ops.size - (i+1))+1:=by omega
   rw [this,List.range'_succ]
  have he':andThen (Gr P ctx ops l) (Fe ops o P ctx f h)=.ext id f' h':=he
  cases ho:Fe ops o P ctx f h with
  |bad n=>rw [ho] at he';cases he'
  |ret f1 h1=>rw [ho] at he';cases he'
  |ext id1 f1 h1=>
   rw [ho] at he'
   cases he'
   obtain ⟨q0,σ',w',pv,q1,q2,q3,q4,q5⟩:=oper_pan hc hall hnt (hall o hmem) ho hs hb hl hf
   exact ⟨q0,σ',a,w',pv,q1,q2,q3,q4,fun k cs _=>⟨_,by rw [hrange];exact q5 i _ k cs hoi⟩⟩
  |Ar f1 h1=>
   rw [ho] at he'
   have he2:Gr P ctx ops l f1 h1=.ext id f' h':=he'
   have hle:h1.nx<=h'.nx:=mono_execOps (P:=P) hc.mono ops l f1 h1 f' h' (.inr (.inl ⟨id,he2⟩))
   obtain ⟨f2,h2,e1,s1⟩:=oper_sound hc hall hnt (hall o hmem) ho (fun n hn=>by cases hn) (fun _ _ _ hn=>by cases hn) hs hb
   cases e1
   obtain ⟨σ1,a1,w1,t1,t2,t3,t4⟩:=s1 (by omega) (hf.left hle)
   obtain ⟨q0,σ',a',w',pv,q1,q2,q3,q4,q5⟩:=ih (i+1) hdrop σ1 f1 a1 h1 w1 id f' h' he2 t1 t2 hl (hf.right t3)
   refine ⟨q0,σ',a',w',pv,q1,q2,t3.trans q3 hl,q4,fun k cs hcm=>?_⟩
   obtain ⟨rest,q6⟩:=q5 k cs hcm
   rw [hrange]
   exact ⟨rest,(t4 i _ k cs hoi hcm).trans q6⟩
end Go.Ev
