/- Regions whose order is fixed. -/
import Derived.Test.YtecikbfimlolcaaGreatDoorEvC
import Derived.KernelRfl
import Derived.Lib.Bytealg
set_option linter.all false
noncomputable section
namespace Go.Ev
inductive Aef (ops:Array Oper):(Nat->Bool)->List Nat->Prop where
 |nil (D:Nat->Bool) (h:∀i,i<ops.size->D i=true):Aef ops D []
 |cons (D:Nat->Bool) (i:Nat) (o:Oper) (rest:List Nat) (ho:ops[i]?=some o) (hd:D i=false) (he:∀e∈o.after.toList,Region.binds .any e=true->D e.on=true)
  (hr:Aef ops (λj=>if j=i then true else D j) rest):Aef ops D (i::rest)
def P6 (ops:Array Oper):Prop:=∀(i:Nat) (o:Oper),ops[i]?=some o->∀e∈o.after.toList,Region.binds .any e=true->e.on<i
def D0 (n:Nat) (D:Nat->Bool):Nat:=((List.range n).filter λi=>!D i).length
theorem Oc n D:D0 (n+1) D=D0 n D+if D n=true then 0 else 1:=by unfold D0;rw [List.range_succ,List.filter_append,List.length_append];grind
theorem AdV i D (hd:D i=false) n:(i<n->D0 n (λj=>if j=i then true else D j)+1=D0 n D)/\(n<=i->D0 n (λj=>if j=i then true else D j)=D0 n D):=by induction n with
 |zero=>exact ⟨λhh=>absurd hh om,λ_=>rfl⟩
 |succ n ih=>rw [Oc,Oc];grind
theorem Tm {n} {D} (h:D0 n D=0):∀i,i<n->D i=true:=by intro i hi;cases hd:D i with
 |true=>rfl
 |false=>
  have:0<D0 n D:=by exact List.length_pos_of_mem (List.mem_filter.2 ⟨List.mem_range.2 hi,by grind⟩)
  omega
theorem Akd {n} {D} (h:D0 n D≠0):∃i,i<n/\D i=false/\∀j,j<i->D j=true:=by induction n with
 |zero=>exact absurd rfl h
 |succ n ih=>
  by_cases h0:D0 n D=0;. rw [Oc,h0] at h;cases hd:D n with
    |true=>grind
    |false=>exact ⟨n,by simp,hd,Tm h0⟩
  grind
theorem Asb {ops:Array Oper} (hb:P6 ops):∀(Me t:Nat) (listed:Array Bool) (acc:List Nat),listed.size=ops.size->D0 ops.size (λi=>listed.getD i true)=Me ->
 ∃l,Region.linearise.go .any ops Me t listed acc=acc.reverse++l/\Aef ops (λi=>listed.getD i true) l:=by intro Me;induction Me with
 |zero=>intro t listed acc hs hc;exact ⟨[],by simp [Region.linearise.go],.nil _ (Tm hc)⟩
 |succ Me ih=>
  intro t listed acc hs hc;obtain ⟨m,m1,m2,m3⟩:=Akd (n:=ops.size) (D:=λi=>listed.getD i true) (by rw [hc];simp);have hmo:ops[m]?=some ops[m]:=Array.getElem?_eq_getElem m1;have Awg:∀(j:Nat),j<ops.size->listed.getD j true=listed.getD j false:=by
   intro j hj;have:j<listed.size:=by omega
   simp [Array.getD,this]
  simp only [Region.linearise.go];generalize hrs:((List.range ops.size).filter λi=>!listed.getD i true&&((ops[i]?).map (·.after.all λe=>!Region.binds .any e||listed.getD e.on false)).getD false)=rs;have Wj:∀i∈rs,∃o,ops[i]?=some o/\listed.getD i true=false/\∀e∈o.after.toList,Region.binds .any e=true->listed.getD e.on true=true:=by intro i hi;rw [<- hrs,List.mem_filter,List.mem_range] at hi;obtain ⟨h1,h2⟩:=hi;rw [Bool.and_eq_true] at h2;have ho:ops[i]?=some ops[i]:=Array.getElem?_eq_getElem h1;rw [ho] at h2;refine ⟨_,ho,by simpa using h2.1,λe he hbe=>?_⟩;have h3:=h2.2;simp only [Option.map_some,Option.getD_some] at h3;have h4:=(Array.all_eq_true'.1 h3) e (by simpa using he);rw [hbe] at h4;have B6:=hb i _ ho e he hbe;rw [Awg _ om];simpa using h4
  have Hr:m∈rs:=by rw [<- hrs,List.mem_filter,List.mem_range];refine ⟨m1,?_⟩;rw [Bool.and_eq_true];refine ⟨by simpa using m2,?_⟩;rw [hmo];simp only [Option.map_some,Option.getD_some];refine Array.all_eq_true'.2 λe he=>?_;cases hbe:Region.binds .any e with
   |false=>rfl
   |true=>have B6:=hb m _ hmo e (by simpa using he) hbe;have:=m3 e.on B6;rw [Awg _ om] at this;simpa using this
  have AhE:0<rs.length:=List.length_pos_of_mem Hr;have Lr:rs[t % rs.length]?=some (rs[t % rs.length]'(Nat.mod_lt _ AhE)):=List.getElem?_eq_getElem _;rw [Lr];generalize hi:rs[t % rs.length]'(Nat.mod_lt _ AhE)=i;have X4:i∈rs:=by rw [<- hi];exact List.getElem_mem _
  obtain ⟨o,ho,hd,hed⟩:=Wj i X4;have hil:i<ops.size:=(Array.getElem?_eq_some_iff.1 ho).1;have A3I:(λj=>(listed.setIfInBounds i true).getD j true)=λj=>if j=i then true else listed.getD j true:=by
   funext j;by_cases hj:j=i
   . subst hj;have:j<listed.size:=by omega
     simp [Array.getD,this]
   . simp only [Array.getD_eq_getD_getElem?,if_neg hj];rw [Array.getElem?_setIfInBounds_ne (Ne.symm hj)]
  dsimp only;have Ay0:D0 ops.size (λj=>(listed.setIfInBounds i true).getD j true)=Me:=by rw [A3I];have:=(AdV i (λj=>listed.getD j true) hd ops.size).1 hil;rw [hc] at this;omega
  obtain ⟨l,q1,q2⟩:=ih (t / rs.length) (listed.setIfInBounds i true) (i::acc) (by simp [hs]) Ay0;refine ⟨i::l,by rw [q1];simp,.cons _ i o l ho hd hed ?_⟩;rw [A3I] at q2;exact q2
theorem Aod {ops} (hb:P6 ops) t:Aef ops (λi=>(Array.replicate ops.size false).getD i true) (Region.schedule true ops t):=by
 have hc:D0 ops.size (λi=>(Array.replicate ops.size false).getD i true)=ops.size:=by
  unfold D0;rw [List.filter_eq_self.2];. simp
  simp_all
 obtain ⟨l,q1,q2⟩:=Asb hb _ t _ [] (by simp) hc;have:Region.schedule true ops t=l:=by simp only [Region.schedule,Bool.true_or,if_true,Region.linearise,q1];simp
 grind
end Go.Ev
namespace Go.Ev
variable {P:Program} {h h':H} {v:AV} {f:L2} {ctx:Ac}
def A5 (h:H) (r:OR):Prop:=∀v h',r=.ok v h'->h.nx<=h'.nx
theorem A5.bad n:A5 h (.bad n):=λv h' he=>by grind
theorem A5.same v:A5 h (.ok v h):=λv h' he=>by grind
theorem A5.put v b o:A5 h (.ok v (h.put b o)):=λv h' he=>by cases he;exact Nat.le_refl _
theorem A5.A9V v b c o p:A5 h (.ok v ((h.put b o).put c p)):=λv h' he=>by cases he;exact Nat.le_refl _
theorem A5.new v o:A5 h (.ok v (h.new o)):=λv h' he=>by cases he;exact Nat.le_succ _
theorem A5.mk o v:A5 h (mk h o v):=A5.new v o
theorem A5.Azy v o p:A5 h (.ok v ((h.new o).new p)):=λv h' he=>by cases he;show h.nx<=h.nx+1+1;omega
theorem A5.ver v b c o p q:A5 h (.ok v (((h.put b o).put c p).new q)):=λv h' he=>by cases he;exact Nat.le_succ _
theorem A5.ite {c:Bool} {x y:OR} (hx:A5 h x) (hy:A5 h y):A5 h (Bool.rec (motive:=λ_=>OR) y x c):=by cases c<;>assumption
theorem A5.Py x:A5 h (Py x h):=by cases x;exact .bad _;exact .same _
theorem A5.Ly x:A5 h (Ly x h):=by cases x;exact .bad _;exact .same _
theorem A5.Uv x:A5 h (Uv x h):=by cases x;exact .bad _;exact .same _
theorem A5.AdR x e:A5 h (AdR x e h):=by cases x;exact .bad _;exact .new _ _
theorem A5x {b off} {vs} (hw:h.wr b off vs=.ok h'):h'.nx=h.nx:=by rcases AiL hw with ⟨c,t,c',_,_,rfl⟩|⟨c,t,k,n,c',_,_,_,rfl⟩<;>rfl
theorem A5.wr (b off:Nat) (vs:List AV) (g:H->AV):A5 h (RH.rec (motive:=λ_=>OR) OR.bad (λh'=>.ok (g h') h') (h.wr b off vs)):=by
 cases hw:h.wr b off vs with
 |bad n=>exact .bad n
 |ok h2=>exact λv h' he=>by cases he;rw [A5x hw];exact Nat.le_refl _
structure Dw (ctx:Ac):Prop where
 call:∀g as h,A5 h (ctx.call g as h)
 round:∀l as h,A5 h (ctx.round l as h)
theorem An0 op k a k' b:A5 h (AqP op k a k' b h):=by cases op;all_goals first
  |exact A5.bad _
  |exact A5.ite (.same _) (.bad _)
  |exact A5.ite (.ite (.bad _) (.same _)) (.bad _)
  |skip;all_goals (dsimp [AqP,Anl,AtZ,Aua];split);all_goals first
  |exact A5.bad _
  |exact A5.same _
  |exact A5.ite (.ite (.ite (.same _) (.bad _)) (.bad _)) (.bad _)
theorem An2 op a b:A5 h (AuB op a b h):=by cases op<;>first|exact A5.bad _|exact A5.same _|exact A5.ite (.same _) (.bad _)
theorem Aic x y op t c:A5 h (Ij x y op t c P h):=by
 unfold Ij;split;. refine A5.ite ?_ (.bad _);split;exact .same _;exact .bad _
 . refine A5.ite ?_ (.bad _);split;exact .same _;exact .bad _
 . exact .bad _
theorem Anx x y op t c:A5 h (Atc x x y op t c P h):=by
 cases x;case int k n=>cases y<;>first|exact A5.bad _|exact An0 _ _ _ _ _
 case str s=>cases y<;>first|exact A5.bad _|exact An2 _ _ _
 case top=>exact .bad _
 all_goals exact Aic _ _ _ _ _
theorem An1 x i:A5 h (ldV x i h):=by
 cases x;case ptr b o=>show A5 h (ldC _ i o h);cases h.rd b with
  |none=>exact .bad _
  |some c=>cases i with
   |none=>exact .bad _
   |some j=>cases j;exact .Py _;exact .Ly _
 all_goals exact .bad _
theorem Akk x cs n:A5 h (stV x cs n h):=by
 cases x;case ptr b o=>
  show A5 h (stC _ n b o h);unfold stC;split;. exact .ite (.ite (.wr _ _ _ _) (.bad _)) (.bad _)
  . exact .bad _
 all_goals exact .bad _
theorem Aid t m k x ty:A5 h (E6 t m k x ty P ctx f h):=by unfold E6;repeat (first|exact A5.bad _|exact A5.put _ _ _|split)
theorem AfR s d x ty:A5 h (Ml s d x ty P ctx f h):=by unfold Ml;repeat (first|exact A5.bad _|exact A5.same _|exact A5.ite (.Azy _ _ _) (.bad _)|exact A5.ite (.same _) (.bad _)|split)
theorem An3 b off cap sz ex l u:A5 h (AkE b off cap sz ex l u h):=
 .ite (.ite (.ite (.same _) (.ite (.same _) (.ite (.same _) (.same _)))) (.bad _)) (.bad _)
theorem AcM b off cap sz l u c:A5 h (Amj b off cap sz l u c h):=.ite (.ite (.ite (.same _) (.bad _)) (.bad _)) (.bad _)
theorem Aki s l u:A5 h (Ai9 s l u h):=by
 unfold Ai9;split;. exact .ite (.ite (.same _) (.bad _)) (.bad _)
 . exact .bad _
theorem Akj t x lo hi mx ty:A5 h (Aac t x lo hi mx ty P ctx f h):=by refine .ite ?_ (.bad _);unfold G5;repeat (first|exact A5.bad _|exact A5.same _|exact Aki _ _ _|exact A5.ite (An3 _ _ _ _ _ _ _) (.bad _)|exact A5.ite (AcM _ _ _ _ _ _ _) (.bad _)|exact AcM _ _ _ _ _ _ _|split)
theorem Ard i x n:A5 h (iaX i x n h):=by
 cases i;case sl i=>cases n with
  |none=>exact .bad _
  |some n=>cases x<;>first|exact A5.bad _|exact A5.ite (.same _) (.bad _)
 case arr len i=>cases n with
  |none=>exact .bad _
  |some n=>cases x<;>first|exact A5.bad _|exact A5.ite (.same _) (.bad _)
 all_goals exact .bad _
theorem Aib st s x:A5 h (Xa P st s x h):=by
 unfold Xa;split
 . split
   . split;. exact .ite (.same _) (.ite (.ite (.Azy _ _ _) (.bad _)) (.bad _))
     . refine .ite (.ite (.ite (.ite ?_ (.ite ?_ ?_)) (.bad _)) (.bad _)) (.bad _);. rename_i new _ _ _ _ _ _ _ _ _;cases new with
         |nil=>exact .same _
         |cons y l=>exact .wr _ _ _ _
       . unfold Sf;repeat (first|exact A5.bad _|exact A5.Azy _ _ _|split)
       . unfold Ny;repeat (first|exact A5.bad _|exact A5.ite (.ite (.ite (.ver _ _ _ _ _ _) (.bad _)) (.bad _)) (.bad _)|split)
     . exact .bad _
   . exact .bad _
 . exact .bad _
theorem Are k x:A5 h (lnK k x h):=by
 cases k;case str=>cases x<;>first|exact A5.bad _|exact A5.same _
 case sl=>cases x<;>first|exact A5.bad _|exact A5.same _
 case map=>show A5 h (lnM x h);unfold lnM;split<;>first|exact A5.bad _|exact A5.same _
 case bad=>exact .bad _
theorem AlV lt l:A5 h (mm lt l h):=by unfold mm;repeat (first|exact A5.bad _|exact A5.same _|split)
theorem Anz dt d x:A5 h (Ahh P dt d x h):=by unfold Ahh;repeat (first|exact A5.bad _|exact A5.same _|exact A5.ite (.wr _ _ _ _) (.bad _)|split)
theorem Aum t p n:A5 h (usV P t p n h):=by unfold usV;repeat (first|exact A5.bad _|exact A5.same _|exact A5.ite (.ite (.ite (.A9V _ _ _ _ _) (.bad _)) (.bad _)) (.bad _)|split)
theorem AfQ b ts args:A5 h (J8 b ts args P h):=by
 unfold J8;split;case h_1=>split;exact .ite (Aib _ _ _) (.bad _);exact .bad _
 case h_2=>split;exact Are _ _;exact .bad _
 case h_3=>split;exact Anz _ _ _;exact .bad _
 case h_4=>exact AlV _ _
 case h_5=>exact AlV _ _
 case h_6=>
  split
  . split;. unfold Ath;repeat (first|exact A5.bad _|exact A5.same _|split)
    . exact .bad _
  . exact .bad _
 case h_7=>
  split;. unfold sdV;repeat (first|exact A5.bad _|exact A5.same _|exact A5.ite (.bad _) (.same _)|split)
  . exact .bad _
 case h_8=>split;exact Aum _ _ _;exact .bad _
 case h_9=>exact .bad _
theorem AcI (hc:Dw ctx) g args:A5 h (Aeg P ctx g args h):=by refine .ite (hc.call _ _ _) ?_;unfold AgK;repeat (first|exact A5.bad _|exact A5.same _|split)
theorem AcJ (hc:Dw ctx) r name args:A5 h (Hn P ctx r name args h):=by unfold Hn;repeat (first|exact A5.bad _|exact AcI hc _ _|split)
theorem AfP (hc:Dw ctx) fn cap args:A5 h (M6 P ctx fn cap args h):=by unfold M6;repeat (first|exact A5.bad _|exact AcI hc _ _|exact AcJ hc _ _ _|exact hc.round _ _ _|split)
theorem Arf (hc:Dw ctx) (o:Op) (ty:TypeId) (h:H):A5 h (opD o ty P ctx f h):=by
 cases o;case move x=>exact .same _
 case assign x=>exact .same _
 case pick c a b=>
  show A5 h (Bo (ev c f) (ev a f) (ev b f) h);cases ev c f;case bool q=>cases q<;>exact .same _
  all_goals exact .bad _
 case alloc e=>exact .AdR _ _
 case box e x=>exact .AdR _ _
 case build t parts=>show A5 h (Tg t parts ty P ctx f h);unfold Tg;split<;>first|exact .Ly _|exact .bad _
 case buildSlice t n parts=>show A5 h (Gz t n parts ty P ctx f h);unfold Gz;repeat (first|exact A5.bad _|exact A5.ite (.mk _ _) (.bad _)|split)
 case insert t m k x=>exact Aid (ctx:=ctx) t m k x ty
 case mapUpdate t m k x=>exact Aid (ctx:=ctx) t m k x ty
 case load t x=>exact An1 _ _
 case store t x y=>exact Akk _ _ _
 case nilCheck x=>exact .ite (.same _) (.bad _)
 case binOp op t x y yt=>exact Anx _ _ _ _ _
 case unOp op t x=>show A5 h (AaP op t x ty P ctx f h);unfold AaP;repeat (first|exact A5.bad _|exact A5.same _|split)
 case convert s d x=>exact AfR (ctx:=ctx) s d x ty
 case makeInterface t x=>exact .ite (.same _) (.bad _)
 case makeFunc fn x y=>show A5 h (Jt fn x y ty P ctx f h);unfold Jt;repeat (first|exact A5.bad _|exact A5.same _|split)
 case makeMap t r=>cases r;exact .mk _ _;exact .bad _
 case makeSlice t x y=>show A5 h (H5 t x y ty P ctx f h);unfold H5;repeat (first|exact A5.bad _|exact A5.ite (.ite (.mk _ _) (.bad _)) (.bad _)|split)
 case slice t x lo hi mx=>exact Akj (ctx:=ctx) t x lo hi mx ty
 case fieldAddr t x i=>show A5 h (Option.rec (motive:=λ_=>AV->H->OR) (λ_ _=>.bad 85) (λd x h=>Bs x d h) (Wa P t i) (ev x f) h);cases Wa P t i with
  |none=>exact .bad _
  |some d=>show A5 h (Bs (ev x f) d h);cases ev x f<;>first|exact A5.bad _|exact A5.same _
 case field t x i=>
  show A5 h (Ti t x i ty P ctx f h);unfold Ti;split;. exact .Py _
  . exact .bad _
 case indexAddr t x i=>exact Ard _ _ _
 case index t x i=>
  show A5 h (Tj t x i ty P ctx f h);unfold Tj;split;. cases ev x f<;>first|exact A5.bad _|exact A5.Uv _
  . split;. exact .ite (.Py _) (.bad _)
    . exact .bad _
  . exact .bad _
 case lookup t x i ok=>show A5 h (Pe t x i ok ty P ctx f h);unfold Pe;repeat (first|exact A5.bad _|exact A5.same _|split)
 case typeAssert x t ast ok=>show A5 h (G0 x t ast ok ty P ctx f h);unfold G0;repeat (first|exact A5.bad _|exact A5.ite (.same _) (.bad _)|exact A5.ite (.same _) (.ite (.same _) (.bad _))|split)
 case extract x i=>show A5 h (L9 (ev x f) i h);cases ev x f<;>first|exact A5.bad _|exact A5.Py _
 case call c=>show A5 h (ceD c.callee c.args.toList c.argTypes.toList P ctx f h);cases c.callee with
  |value g=>show A5 h (cvV (ev g f) (W1 c.args.toList f) P ctx h);cases ev g f<;>first|exact A5.bad _|exact AfP hc _ _ _
  |invoke r name=>exact AcJ hc _ _ _
  |builtin b=>
   show A5 h (Aa5 b c.args.toList c.argTypes.toList P ctx f h);unfold Aa5;split;. unfold AnS;split;exact .same _;exact .bad _
   . exact AfQ _ _ _
 case panic x=>
  show A5 h (Aga (ev x f) h);unfold Aga;split;. exact λv h' he=>by cases he
  . exact .bad _
 all_goals exact .bad _
def Ei (h:H) (r:RC):Prop:=∀f' h',(r=.Bt f' h'\/(∃i,r=.ext i f' h')\/r=.ret f' h')->h.nx<=h'.nx
theorem Ei.bad n:Ei h (.bad n):=λf' h' he=>by grind
theorem Ei.Bt f (hl:h.nx<=h'.nx):Ei h (.Bt f h'):=λf' h2 he=>by grind
theorem Ei.ext i f (hl:h.nx<=h'.nx):Ei h (.ext i f h'):=λf' h2 he=>by grind
theorem Ei.ret f (hl:h.nx<=h'.nx):Ei h (.ret f h'):=λf' h2 he=>by grind
theorem Ei.ite {c:Bool} {x y:RC} (hx:Ei h x) (hy:Ei h y):Ei h (Bool.rec (motive:=λ_=>RC) y x c):=by cases c<;>assumption
theorem Ei.andThen {r} {k} (hr:Ei h r) (hk:∀f' h',Ei h' (k f' h')):Ei h (andThen k r):=by cases r with
 |bad n=>exact .bad n
 |Bt f' h'=>have:=hr _ _ (.inl rfl);intro f2 h2 he;exact Nat.le_trans this (hk _ _ _ _ he)
 |ext i f' h'=>exact hr
 |ret f' h'=>exact hr
theorem Ei.Akx {r} {o} d f (hr:A5 h r):Ei h (Akx d f h o r):=by cases r with
 |bad n=>exact .bad n
 |ok v h'=>exact .Bt _ (hr v _ rfl)
 |Hb v h'=>refine .ite ?_ (.bad _);cases hb:Nat.ble .. with
  |false=>exact .bad _
  |true=>exact .ext _ _ (G2 hb)
theorem Aie (hc:Dw ctx) o:Ei h (Ame o P ctx f h):=by show Ei h (op1 o _ _ P _ f h);unfold op1;cases Ie _ with
 |none=>exact .Akx _ _ (Arf hc _ _ _)
 |some c=>
  show Ei h (Th c _ _ P _ f h);unfold Th;split
  . unfold Ace;split;. exact .Bt _ (Nat.le_refl _)
    . exact .bad _
  . exact .bad _
theorem Wk (hc:Dw ctx) ops o:Ei h (Fp ops o P ctx f h):=by show Ei h (AjD _ o P _ f h);cases guardOf _ o with
 |always=>exact Aie hc o
 |on t want=>show Ei h (Amo _ o P _ f h);cases Adq .. with
  |yes=>exact Aie hc o
  |no=>exact .Bt _ (Nat.le_refl _)
  |bad=>exact .bad _
 |bad=>exact .bad _
theorem Q5 (hc:Dw ctx) ops l:∀f h,Ei h (G3 P ctx ops l f h):=by induction l with
 |nil=>exact λf h=>.Bt _ (Nat.le_refl _)
 |cons o l ih=>exact λf h=>.andThen (Wk hc _ o) ih
theorem Akh (hc:Dw ctx) ops lg l:∀Fl f h,Ei h (Sp P ctx ops lg l Fl f h):=by induction l with
 |nil=>exact λFl f h=>.ite (.Bt _ (Nat.le_refl _)) (.bad _)
 |cons o l ih=>intro Fl f h;show Ei h (RC.rec (motive:=λ_=>RC) _ _ _ ..);have hm:=Wk (P:=P) (f:=f) (h:=Ab h) hc ops o.o;cases hr:Fp _ _ P _ f _ with
  |bad n=>exact .bad n
  |Bt f' h'=>rw [hr] at hm;have h1:=hm _ _ (.inl rfl);intro f2 h2 he;exact Nat.le_trans h1 (ih _ _ _ _ _ he)
  |ext i f' h'=>exact .bad _
  |ret f' h'=>exact .bad _
theorem AcK {b} (hb:∀f h,Ei h (b P ctx f h)) k:∀f h,Ei h (Yd b P ctx k f h):=by induction k with
 |zero=>exact hb
 |succ k ih=>exact λf h=>.andThen (ih f h) ih
theorem AcL (hc:Dw ctx) x ps as bd u v:Ei h (AbV x ps as bd u v P ctx f h):=by
 have key:∀g a cap fr f h1,h.nx<=h1.nx->Ei h (Yu P ctx g a cap ps.toList as bd fr f h1):=by
  intro g a cap fr f h1 hle;refine .ite ?_ (.bad _);unfold Mn;split
  . rename_i v h2 hr;have:=hc.call _ _ _ v _ hr;have h3:h1.nx+1<=h2.nx:=this;split
    . refine .ite (.bad _) ?_;unfold Z4;split;. exact .Bt _ (show h.nx<=h2.nx by omega)
      . exact .ret _ (show h.nx<=h2.nx by omega)
      . exact .ite (.bad _) (.ext _ _ (show h.nx<=h2.nx by omega))
      . exact .bad _
    . exact .bad _
  . exact .bad _
  . exact .bad _
 unfold AbV;split;. exact key _ _ _ _ _ _ (Nat.le_succ _)
 . split;. grind
   . exact .bad _
 . exact .bad _
theorem Lt (hc:Dw ctx) c:∀f h,Ei h (exec c P ctx f h):=by induction c with
 |skip=>exact λf h=>.Bt _ (Nat.le_refl _)
 |region id ops dr=>intro f h;cases dr with
  |false=>exact Q5 hc _ _ f h
  |true=>exact .ite (Akh hc _ _ _ _ f h) (.bad _)
 |seq a b Rs ihb=>exact λf h=>.andThen (Rs f h) ihb
 |cond c a b Rs ihb=>
  intro f h;show Ei h (Al2 _ _ _ P _ f h);cases ev c f;case bool q=>cases q;exact ihb f h;exact Rs f h
  all_goals exact .bad _
 |block id a ih=>intro f h;show Ei h (inBlock _ (exec a P _ f h));have:=ih f h;cases hr:exec a P _ f h with
  |bad n=>exact .bad n
  |Bt f' h'=>rw [hr] at this;exact this
  |ext i f' h'=>rw [hr] at this;exact .ite (.Bt _ (this _ _ (.inr (.inl ⟨i,rfl⟩)))) this
  |ret f' h'=>rw [hr] at this;exact this
 |loop a ih=>exact λf h=>.andThen (AcK ih _ f h) λ_ _=>.bad _
 |rangeFunc x ps as bd _ _=>exact λf h=>AcL hc x _ _ _ (exec as) (exec bd)
 |exit id=>exact λf h=>.ext _ _ (Nat.le_refl _)
 |scope a ih=>exact ih
 |label l=>exact λf h=>.Bt _ (Nat.le_refl _)
 |goto l=>exact λf h=>.bad _
 |ret=>exact λf h=>.ret _ (Nat.le_refl _)
 |refuse w=>exact λf h=>.bad _
theorem H2 (hc:Dw ctx) ds:∀h h',D3 P ctx ds h=.ok h'->h.nx<=h'.nx:=by induction ds with
 |nil=>intro h h' he;cases he;simp
 |cons d ds ih=>
  intro h h' he;unfold D3 at he;split at he;. rename_i _ _ g a cap _;cases hb:Bg P g with
    |false=>simp_all
    |true=>
     rw [hb] at he;split at he;. rename_i v h2 hr;exact Nat.le_trans (hc.call _ _ _ v _ hr) (ih _ _ he)
     . cases he
     grind
  . split at he;. exact show h.nx<=h'.nx from ih (h.put ..) _ he
    grind
  simp_all
theorem AaM (hc:Dw ctx) rs:A5 h (finish P ctx rs f h):=by
 unfold finish;split;. cases hr:D3 P _ _ h with
   |bad n=>exact .bad _
   |ok h2=>
    intro v h' he;have Ak:Gg P _ f _=.ok v _:=he;unfold Gg at Ak;split at Ak;. cases Ak;exact H2 hc _ h _ hr
    grind
 . exact .bad _
theorem Aj9 {rs} {h2} (he:Gg P rs f h2=.ok v h'):h'=h2:=by unfold Gg at he;grind
theorem Aa8 {rs} {h2} (he:Gg P rs f h2=.Hb v h'):False:=by unfold Gg at he;grind
theorem Acj {rs:List ResultVar} {id:Nat} (he:M8 P ctx rs id f h=.ok v h'):id=Em/\∃g as cap ds v1 h1,f.get Br=.Bj (.fn (.func g) as cap::ds)/\Bg P g=true/\Aen P ctx g (J0 as cap) (f.get Jv) h=.ok v1 h1/\h.nx<=h1.nx /\
 D3 P ctx ds h1=.ok h'/\h1.nx<=h'.nx/\Gg P rs f h'=.ok v h':=by unfold M8 at he;cases Qm:Nat.beq id Em with
 |false=>simp_all
 |true=>
  rw [Qm] at he;refine ⟨Ch Qm,?_⟩;have Et:Xs P ctx rs f h=.ok v h':=he;unfold Xs at Et;split at Et;. grind
  . rename_i d ds W5;split at Et;. rename_i g as cap hvf;cases Ke:Bg P g with
      |false=>simp_all
      |true=>
       rw [Ke] at Et;have Cs:Yw P ctx rs f ds h (Aen P ctx g (J0 as cap) (f.get Jv) h)=.ok v h':=Et;unfold Yw at Cs;split at Cs;. rename_i v1 h1 hcr;cases Qy:Nat.ble h.nx h1.nx with
         |false=>simp_all
         |true=>
          rw [Qy] at Cs;dsimp only at Cs;split at Cs;. rename_i h2 W4;cases Wg:Nat.ble h1.nx h2.nx with
            |false=>simp_all
            |true=>rw [Wg] at Cs;have Fv:Gg P rs f h2=.ok v h':=Cs;have:=Aj9 Fv;subst this;have e1:=Aar W5;have e2:=Aaq hvf;rw [e2] at e1;exact ⟨g,as,cap,ds,v1,h1,e1,Ke,hcr,G2 Qy,W4,G2 Wg,Fv⟩
          grind
       . grind
       simp_all
    grind
  simp_all
theorem Aht {rs} {id} (he:M8 P ctx rs id f h=.Hb v h'):id=Em/\f.get Br=.Bj []/\v=f.get Jv/\h'=h:=by unfold M8 at he;cases Qm:Nat.beq id Em with
 |false=>simp_all
 |true=>
  rw [Qm] at he;refine ⟨Ch Qm,?_⟩;have Et:=he;unfold Xs at Et;split at Et;. rename_i W5;cases Et;exact ⟨Aar W5,rfl,rfl⟩
  . split at Et;. rename_i g as cap hvf;cases Ke:Bg P g with
      |false=>simp_all
      |true=>
       rw [Ke] at Et;have Cs:=Et;unfold Yw at Cs;split at Cs;. rename_i v1 h1 hcr;cases Qy:Nat.ble h.nx h1.nx with
         |false=>simp_all
         |true=>
          rw [Qy] at Cs;split at Cs;. rename_i h2 W4;cases Wg:Nat.ble h1.nx h2.nx with
            |false=>simp_all
            |true=>rw [Wg] at Cs;exact (Aa8 Cs).elim
          simp_all
       . grind
       grind
    grind
  simp_all
theorem AfS ctx rs id:A5 h (M8 P ctx rs id f h):=by intro v h' he;obtain ⟨_,g,as,cap,ds,v1,h1,_,_,_,h2,_,h3,_⟩:=Acj he;omega
theorem N9 (hc:Dw ctx) g as h:A5 h (Fy P ctx g as h):=by unfold Fy;cases Ln P g with
 |none=>exact .bad _
 |some i=>refine .ite ?_ (.bad _);have hm:=Lt (P:=P) hc i.body (Eu as 0 Az) h;intro v h' he;cases hr:exec _ P _ _ h with
  |bad n=>rw [hr] at he;cases he
  |Bt f' h1=>rw [hr] at he hm;have h0:=hm _ _ (.inl rfl);have hf:=AaM (P:=P) (h:=h1) (f:=f') hc i.rs;have Ak:Agk g (finish P _ _ ..)=.ok v _:=he;cases hq:finish P _ _ .. with
   |bad n=>rw [hq] at Ak;cases Ak
   |ok v2 h2=>rw [hq] at Ak hf;cases Ak;exact Nat.le_trans h0 (hf _ _ rfl)
   |Hb v2 h2=>rw [hq] at Ak;cases Ak
  |ext id f' h1=>rw [hr] at he hm;have h0:=hm _ _ (.inr (.inl ⟨_,rfl⟩));have Ak:Agk g (M8 P _ _ _ ..)=.ok v _:=he;have hf:=AfS (P:=P) (h:=h1) (f:=f') ctx i.rs id;cases hq:M8 P _ _ _ .. with
   |bad n=>rw [hq] at Ak;cases Ak
   |ok v2 h2=>rw [hq] at Ak hf;cases Ak;exact Nat.le_trans h0 (hf _ _ rfl)
   |Hb v2 h2=>rw [hq] at Ak;cases Ak
  |ret f' h1=>rw [hr] at he hm;have h0:=hm _ _ (.inr (.inr rfl));have hf:=AaM (P:=P) (h:=h1) (f:=f') hc i.rs;have Ak:Agk g (finish P _ _ ..)=.ok v _:=he;cases hq:finish P _ _ .. with
   |bad n=>rw [hq] at Ak;cases Ak
   |ok v2 h2=>rw [hq] at Ak hf;cases Ak;exact Nat.le_trans h0 (hf _ _ rfl)
   |Hb v2 h2=>rw [hq] at Ak;cases Ak
theorem AaN {r} l (hr:Ei h r):A5 h (Agg l r):=by
 have key:∀j h1,h.nx<=h1.nx->A5 h (endRound l j h1):=by
  intro j h1 hle;unfold endRound;split;. intro v h' he;cases he;exact hle
  . exact .bad _
 cases r with
 |bad n=>exact .bad _
 |Bt f' h'=>exact key _ _ (hr _ _ (.inl rfl))
 |ext i f' h'=>exact .ite (.bad _) (key _ _ (hr _ _ (.inr (.inl ⟨i,rfl⟩))))
 |ret f' h'=>exact key _ _ (hr _ _ (.inr (.inr rfl)))
theorem Mj (hc:Dw ctx) l as h:A5 h (Io P ctx l as h):=by
 unfold Io;split
 . split
   . refine AaN l (.andThen (Lt hc _ _ _) ?_);intro f' h';unfold Age;split;. intro f2 h2 he;exact show h'.nx<=h2.nx from Lt hc _ _ (h'.put l _) _ _ he
     . exact .bad _
   . exact .bad _
 . exact .bad _
theorem AeJ P d:Dw (A2N P d):=by induction d with
 |zero=>exact ⟨λ_ _ _=>.bad _,λ_ _ _=>.bad _⟩
 |succ d ih=>exact ⟨N9 ih,Mj ih⟩
end Go.Ev
namespace Go.Ev
variable {P:Program} {h h':H} {v:AV} {f g:L2} {ctx:Ac}
theorem Zs {l} (hh:∀x∈l,ev x f=ev x g):W1 l f=W1 l g:=by induction l with
 |nil=>rfl
 |cons x l ih=>show ev x f::W1 l f=ev x g::W1 l g;grind
theorem Sq {place}:∀l,(∀p∈l,ev p.2 f=ev p.2 g)->∀cs,Xp place f l cs=Xp place g l cs:=by intro l;induction l with
 |nil=>intro _ cs;rfl
 |cons p l ih=>intro hh cs;obtain ⟨i,x⟩:=p;have hx:=hh (i,x) (by simp);unfold Xp;grind
theorem Zl {x} (hh:∀y,x=some y->ev y f=ev y g) d:bnd f x d=bnd g x d:=by cases x with
 |none=>rfl
 |some y=>show Vg _=Vg _;grind
theorem AnF (o:Op) (ty:TypeId) (hd:f.get Br=g.get Br) (hh:∀x∈o.operands.toList,ev x f=ev x g):opD o ty P ctx f h=opD o ty P ctx g h:=by
 cases o
 case move x=>have:=hh x (by simp [Op.operands]);show OR.ok (ev x f) h=OR.ok (ev x g) h;rw [this]
 case assign x=>have:=hh x (by simp [Op.operands]);show OR.ok (ev x f) h=OR.ok (ev x g) h;rw [this]
 case pick c a b=>
  have h1:=hh c (by simp [Op.operands]);have h2:=hh a (by simp [Op.operands]);have h3:=hh b (by simp [Op.operands])
  show Bo (ev c f) (ev a f) (ev b f) h=Bo (ev c g) (ev a g) (ev b g) h
  rw [h1,h2,h3]
 case box e x=>have:=hh x (by simp [Op.operands]);show AdR (cellsOf (ev x f)) e h=AdR (cellsOf (ev x g)) e h;rw [this]
 case build t parts=>
  have hp:∀p∈parts.toList,ev p.2 f=ev p.2 g:=λp hp=>hh p.2 (by simp only [Op.operands,List.mem_map];exact ⟨p,hp,rfl⟩)
  show Tg t parts ty P ctx f h=Tg t parts ty P ctx g h
  unfold Tg;split;. rw [Sq _ hp]
  . rw [Sq _ hp]
  . rfl
 case buildSlice t n parts=>
  have hp:∀p∈parts.toList,ev p.2 f=ev p.2 g:=λp hp=>hh p.2 (by simp only [Op.operands,List.mem_map];exact ⟨p,hp,rfl⟩);show Gz t n parts ty P ctx f h=Gz t n parts ty P ctx g h;unfold Gz;split
  . split;. rw [Sq _ hp]
    . rfl
  . rfl
 case insert t m k x=>
  have h1:=hh m (by simp [Op.operands]);have h2:=hh k (by simp [Op.operands]);have h3:=hh x (by simp [Op.operands])
  show E6 t m k x ty P ctx f h=E6 t m k x ty P ctx g h;unfold E6;rw [h1,h2,h3]
 case mapUpdate t m k x=>have h1:=hh m (by simp [Op.operands]);have h2:=hh k (by simp [Op.operands]);have h3:=hh x (by simp [Op.operands]);show E6 t m k x ty P ctx f h=E6 t m k x ty P ctx g h;unfold E6;rw [h1,h2,h3]
 case load t x=>have:=hh x (by simp [Op.operands]);show ldV (ev x f) (Ft P t) h=ldV (ev x g) (Ft P t) h;rw [this]
 case store t x y=>have h1:=hh x (by simp [Op.operands]);have h2:=hh y (by simp [Op.operands]);show stV (ev x f) (cellsOf (ev y f)) (F7 P t) h=stV (ev x g) (cellsOf (ev y g)) (F7 P t) h;rw [h1,h2]
 case nilCheck x=>have h1:=hh x (by simp [Op.operands]);show Uu x ty P ctx f h=Uu x ty P ctx g h;unfold Uu;rw [h1]
 case binOp op t x y yt=>have h1:=hh x (by simp [Op.operands]);have h2:=hh y (by simp [Op.operands]);show AfX op t x y yt ty P ctx f h=AfX op t x y yt ty P ctx g h;unfold AfX;rw [h1,h2]
 case unOp op t x=>have h1:=hh x (by simp [Op.operands]);show AaP op t x ty P ctx f h=AaP op t x ty P ctx g h;unfold AaP;rw [h1]
 case convert s d x=>have h1:=hh x (by simp [Op.operands]);show Ml s d x ty P ctx f h=Ml s d x ty P ctx g h;unfold Ml;rw [h1]
 case makeInterface t x=>have h1:=hh x (by simp [Op.operands]);show Rb t x ty P ctx f h=Rb t x ty P ctx g h;unfold Rb;rw [h1]
 case makeFunc fn x y=>have h1:W1 x.toList f=W1 x.toList g:=Zs (λz hz=>hh z (by simp only [Op.operands,Array.toList_append,List.mem_append];exact .inl hz));have h2:W1 y.toList f=W1 y.toList g:=Zs (λz hz=>hh z (by simp only [Op.operands,Array.toList_append,List.mem_append];exact .inr hz));show Jt fn x y ty P ctx f h=Jt fn x y ty P ctx g h;unfold Jt;rw [h1,h2]
 case makeSlice t x y=>have h1:=hh x (by simp [Op.operands]);have h2:=hh y (by simp [Op.operands]);show H5 t x y ty P ctx f h=H5 t x y ty P ctx g h;unfold H5;rw [h1,h2]
 case slice t x lo hi mx=>
  have h1:=hh x (by simp [Op.operands]);have h2:∀y,lo=some y->ev y f=ev y g:=λy hy=>hh y (by simp [Op.operands,hy])
  have h3:∀y,hi=some y->ev y f=ev y g:=λy hy=>hh y (by simp [Op.operands,hy]);have h4:∀y,mx=some y->ev y f=ev y g:=λy hy=>hh y (by simp [Op.operands,hy]);have e:G5 t x lo hi mx ty P ctx f h=G5 t x lo hi mx ty P ctx g h:=by
   unfold G5;rw [h1];simp only [Zl h2,Zl h3,Zl h4]
   cases Hp P t with
   |str=>rfl
   |bad=>rfl
   |arr n i=>rfl
   |sl i=>grind
  show Aac t x lo hi mx ty P ctx f h=Aac t x lo hi mx ty P ctx g h;unfold Aac;rw [e]
 case fieldAddr t x i=>have h1:=hh x (by simp [Op.operands]);show Q9 t x i ty P ctx f h=Q9 t x i ty P ctx g h;unfold Q9;rw [h1]
 case field t x i=>have h1:=hh x (by simp [Op.operands]);show Ti t x i ty P ctx f h=Ti t x i ty P ctx g h;unfold Ti;rw [h1]
 case indexAddr t x i=>
  have h1:=hh x (by simp [Op.operands]);have h2:=hh i (by simp [Op.operands])
  show Ra t x i ty P ctx f h=Ra t x i ty P ctx g h
  unfold Ra;rw [h1,h2]
 case index t x i=>
  have h1:=hh x (by simp [Op.operands]);have h2:=hh i (by simp [Op.operands])
  show Tj t x i ty P ctx f h=Tj t x i ty P ctx g h
  unfold Tj;rw [h1,h2]
 case lookup t x i ok=>have h1:=hh x (by simp [Op.operands]);have h2:=hh i (by simp [Op.operands]);show Pe t x i ok ty P ctx f h=Pe t x i ok ty P ctx g h;unfold Pe;rw [h1,h2]
 case typeAssert x t ast ok=>have h1:=hh x (by simp [Op.operands]);show G0 x t ast ok ty P ctx f h=G0 x t ast ok ty P ctx g h;unfold G0;rw [h1]
 case extract x i=>have h1:=hh x (by simp [Op.operands]);show Yi x i ty P ctx f h=Yi x i ty P ctx g h;unfold Yi;rw [h1]
 case call c=>
  have h1:W1 c.args.toList f=W1 c.args.toList g:=Zs (λz hz=>hh z (by simp only [Op.operands,Call.operands,Array.toList_append,List.mem_append];exact .inr hz));show ceD c.callee c.args.toList c.argTypes.toList P ctx f h=ceD c.callee c.args.toList c.argTypes.toList P ctx g h
  cases hc:c.callee with
  |value z=>
   have h2:ev z f=ev z g:=hh z (by simp [Op.operands,Call.operands,hc])
   show cvV (ev z f) (W1 c.args.toList f) P ctx h=cvV (ev z g) (W1 c.args.toList g) P ctx h;rw [h1,h2]
  |invoke r name=>have h2:ev r f=ev r g:=hh r (by simp [Op.operands,Call.operands,hc]);show Hn P ctx (ev r f) name (W1 c.args.toList f) h=Hn P ctx (ev r g) name (W1 c.args.toList g) h;rw [h1,h2]
  |builtin b=>
   show Aa5 b c.args.toList c.argTypes.toList P ctx f h=Aa5 b c.args.toList c.argTypes.toList P ctx g h;unfold Aa5
   grind
 case panic x=>have h1:=hh x (by simp [Op.operands]);show Aga (ev x f) h=Aga (ev x g) h;rw [h1]
 all_goals rfl
end Go.Ev
namespace Go.Ev
structure FB where
 fn:FuncId
 kind:CallKind
 ro:Option Nat
def FB.at (b:FB) (a:Act) (todo:List Item):Frame:=
 { fn:=b.fn,tmps:=a.tmps,todo,defers:=a.defers,mode:=.run,kind:=b.kind,roundOf:=b.ro }
theorem FB.eval_at (b:FB) a todo:(b.at a todo).eval=a.eval:=rfl
theorem FB.finish_at (b:FB) a ops i rest k v:
 (b.at a (.inRegion ops (i::rest)::k)).finish v=b.at (a.put (ops[i]?.bind (·.dst)) v) (.inRegion ops rest::k):=by cases h:ops[i]?.bind _<;>simp [Frame.finish,FB.at,Act.put,h]
section A4E
variable {P:Program} {b:FB} {a:Act} {k:List Item} {cs:List Frame} {w:World}
theorem AzI:step P (lone (b.at a (.code .skip::k)) cs w)=.next (lone (b.at a k) cs w):=
 step_lone_go rfl
theorem AuE {l}:step P (lone (b.at a (.code (.label l)::k)) cs w)=.next (lone (b.at a k) cs w):=
 step_lone_go rfl
theorem Aoa {id}:step P (lone (b.at a (.inBlock id::k)) cs w)=.next (lone (b.at a k) cs w):=
 step_lone_go rfl
theorem AeQ {c}:step P (lone (b.at a (.inScope c::k)) cs w)=.next (lone (b.at a k) cs w):=
 step_lone_go rfl
theorem Aw0 {x y}:step P (lone (b.at a (.code (.seq x y)::k)) cs w)=.next (lone (b.at a (.code x::.code y::k)) cs w):=
 step_lone_go rfl
theorem ArW {c} {x y} {t} (h:a.eval c=.bool t):
 step P (lone (b.at a (.code (.cond c x y)::k)) cs w)=.next (lone (b.at a (.code (if t then x else y)::k)) cs w):=
 step_lone_go (by have:=congrFun (FB.eval_at b a (.code (.cond c x y)::k)) c;simp [FB.at] at this;simp [stepG,stepG.exec,FB.at,this,h])
theorem Amg {id} {c}:step P (lone (b.at a (.code (.block id c)::k)) cs w)=.next (lone (b.at a (.code c::.inBlock id::k)) cs w):=
 step_lone_go rfl
theorem ArY {c}:step P (lone (b.at a (.code (.loop c)::k)) cs w)=.next (lone (b.at a (.code c::.inLoop c::k)) cs w):=
 step_lone_go rfl
theorem ArX {c}:step P (lone (b.at a (.inLoop c::k)) cs w)=.next (lone (b.at a (.code c::.inLoop c::k)) cs w):=
 step_lone_go rfl
theorem AbB {c}:step P (lone (b.at a (.code (.scope c)::k)) cs w)=.next (lone (b.at a (.code c::.inScope c::k)) cs w):=
 step_lone_go rfl
theorem AzH {id} {k'} (h:exitTo id k=some k'):step P (lone (b.at a (.code (.exit id)::k)) cs w)=.next (lone (b.at a k') cs w):=
 step_lone_go (by simp [stepG,stepG.exec,FB.at,h])
theorem Adg {id} {ops}:
 step P (lone (b.at a (.code (.region id ops false)::k)) cs w)=.next (lone (b.at a (.inRegion ops (List.range ops.size)::k)) cs w):=
 step_lone_go rfl
theorem AzG {id:Nat} {ops:Array Oper}:
 step P (lone (b.at a (.code (.region id ops true)::k)) cs w) =
  .next (lone (b.at a (.inRegion ops (Region.schedule (P.follows .mixedOrders) ops (w.tape w.drawn (.order b.fn id)))::k)) cs { w with drawn:=w.drawn+1 }):=
 step_lone_go (by simp [stepG,stepG.exec,FB.at,choose,Sem.run,Question.forced,Question.cut])
theorem Tv {ops}:step P (lone (b.at a (.inRegion ops []::k)) cs w)=.next (lone (b.at a k) cs w):=
 step_lone_go rfl
theorem Asa {ops} {i} {rest} (h:(ops[i]?.map (Region.wanted · (yielded ops a.tmps))).getD false=false):
 step P (lone (b.at a (.inRegion ops (i::rest)::k)) cs w)=.next (lone (b.at (a.put (ops[i]?.bind (·.dst)) undef) (.inRegion ops rest::k)) cs w):=by rw [<- FB.finish_at];exact step_lone_go (by have h':=h;simp [FB.at] at *;simp [stepG,stepG.exec,h'])
theorem Ai4 {ops:Array Oper} {i:Nat} {rest:List Nat} {o:Oper} (ho:ops[i]?=some o) (hw:Region.wanted o (yielded ops a.tmps)=true) (hd:b.ro=none\/∀c,o.op≠.defer c):
 stepG P true { frame:=b.at a (.inRegion ops (i::rest)::k),callers:=cs,status:=.running,dying:=none } w =
  stepG.apply P true (b.at a (.inRegion ops (i::rest)::k)) cs none (execOp a.eval o) w:=by
 have he:=FB.eval_at b a (.inRegion ops (i::rest)::k)
 simp only [FB.at] at he
 rcases hd with hd|hd
 . rw [hd] at he
   simp [stepG,stepG.exec,stepG.oper,Frame.oper?,FB.at,ho,hw,he,hd]
 . simp only [FB.at] at *
   simp only [stepG,stepG.exec,stepG.oper,Frame.oper?,ho,hw,he,Option.map_some,Option.getD_some,if_true]
   split
   . rename_i c _ hc;exact absurd hc (hd c)
   . rfl
theorem AuJ {ops} {i} {rest} {o} {v'} {w'} (ho:ops[i]?=some o) (hw:Region.wanted o (yielded ops a.tmps)=true) (hd:b.ro=none\/∀c,o.op≠.defer c)
 (hr:Ran P (execOp a.eval o) w v' w'):step P (lone (b.at a (.inRegion ops (i::rest)::k)) cs w)=.next (lone (b.at (a.put o.dst v') (.inRegion ops rest::k)) cs w'):=by
 have hf:=FB.finish_at b a ops i rest k v';rcases hr with hr|⟨hr,rfl⟩;. refine step_lone_go ?_;rw [Ai4 ho hw hd];simp [stepG.apply,Sem.runT_eq,if_true,hr];simp_all
 . refine step_lone_go ?_;rw [Ai4 ho hw hd];simp [stepG.apply,Sem.runT_eq,if_true,hr];simp [*]
theorem Amh {ops} {i} {rest} {o} {g} {args} {w'} (ho:ops[i]?=some o) (hw:Region.wanted o (yielded ops a.tmps)=true) (hd:b.ro=none\/∀c,o.op≠.defer c)
 (hr:(execOp a.eval o).run P w=.ok (.enter g args) w'):step P (lone (b.at a (.inRegion ops (i::rest)::k)) cs w)=.next (lone (Frame.enter P g args .normal) (b.at a (.inRegion ops (i::rest)::k)::cs) w'):=by refine step_lone_go ?_;rw [Ai4 ho hw hd];simp [stepG.apply,Sem.runT_eq,if_true,hr];rfl
theorem AuH {ops} {i} {rest} {o} {l} {g} {tmps} {as bd} {w'} (ho:ops[i]?=some o) (hw:Region.wanted o (yielded ops a.tmps)=true) (hd:b.ro=none\/∀c,o.op≠.defer c)
 (hr:(execOp a.eval o).run P w=.ok (.round l g tmps as bd) w'):step P (lone (b.at a (.inRegion ops (i::rest)::k)) cs w)=.next (lone (Frame.round l g tmps as bd .normal) (b.at a (.inRegion ops (i::rest)::k)::cs) w'):=by refine step_lone_go ?_;rw [Ai4 ho hw hd];simp only [stepG.apply,Sem.runT_eq,if_true,hr];rfl
def FB.back (b:FB) (a:Act) (todo:List Item):Frame:=
 { fn:=b.fn,tmps:=a.tmps,todo,defers:=a.defers,mode:=.returning,kind:=b.kind,roundOf:=none }
theorem Awz (hr:b.ro=none):step P (lone (b.at a (.code .ret::k)) cs w)=.next (lone (b.back a (.code .ret::k)) cs w):=
 step_lone_go (by simp [stepG,stepG.exec,FB.at,FB.back,hr])
theorem Awy (hr:b.ro=none):step P (lone (b.at a []) cs w)=.next (lone (b.back a []) cs w):=
 step_lone_go (by simp [stepG,stepG.exec,FB.at,FB.back,hr])
theorem ArV {fn} {v} {c} (hd:a.defers=[]) (hk:b.kind=.normal) (hf:P.funcs[b.fn]?=some fn) (Ac9:(results fn a.tmps).run P w=.ok v w):
 step P (lone (b.back a k) (c::cs) w)=.next (lone (c.finish v) cs w):=
 step_lone_go (by simp [stepG,unwind,doReturn,FB.back,hd,hk,hf,Ac9])
theorem AuC {fn} {v} {c} (hd:a.defers=[]) (hk:b.kind=.deferred) (hc:c.mode=.returning) (hf:P.funcs[b.fn]?=some fn) (Ac9:(results fn a.tmps).run P w=.ok v w):
 step P (lone (b.back a k) (c::cs) w)=.next (lone c cs w):=
 step_lone_go (by simp [stepG,unwind,doReturn,FB.back,hd,hk,hf,Ac9,hc])
theorem AuD {g:FuncId} {as AbX:Array Value} {ds:List Deferred} {args:Array Value} {w':World} (hd:a.defers={ target:=.fn (.func g) AbX,args:=as }::ds) (hr:(callFunc g (as++AbX)).run P w=.ok (.enter g args) w'):
 step P (lone (b.back a k) cs w)=.next (lone (Frame.enter P g args .deferred) (b.back ⟨a.tmps,ds⟩ k::cs) w'):=
 step_lone_go (by simp [stepG,unwind,callDeferred,FB.back,hd,invoke,Sem.runT_eq,hr])
theorem AuI {r:Nat} {ds:List Deferred} (hd:a.defers={ target:=.collected r,args:=#[] }::ds) (hr:w.heap[r]?=some (.deferred (some []))):
 step P (lone (b.back a k) cs w)=.next (lone (b.back ⟨a.tmps,ds⟩ k) cs (Cc w r (.deferred none))):=by
 have B6:=Dj hr
 have Du:(Instr.takeDeferred r).run P w=.ok [] (Cc w r (.deferred none)):=by
  simp [Instr.takeDeferred,getObj,setObj,Sem.run,hr,Cc]
 exact step_lone_go (by simp [stepG,unwind,FB.back,hd,Sem.runT_eq,Du])
theorem Ak3 {l:Nat} {lp:Loop} {c:Frame} {jump:Option Code} (hro:b.ro=some l) (hk:b.kind=.normal) (hl:w.heap[l]?=some (.loop lp))
 (A4r:k=[]/\jump=none\/(∃k',k=.code .ret::k'/\jump=some .ret)\/∃id k',k=.code (.exit id)::k'/\exitTo id k'=none/\jump=some (.exit id)):
 step P (lone (b.at a k) (c::cs) w)=.next (lone (c.finish (.bool jump.isNone)) cs (Cc w l (.loop { lp with state:=if jump.isNone then .ready else .done,pending:=jump }))):=by
 have Du:∀j,(Instr.endRound l j).run P w=.ok (.bool j.isNone) (Cc w l (.loop { lp with state:=if j.isNone then .ready else .done,pending:=j })):=by
  intro j
  simp [Instr.endRound,Instr.getLoop,getObj,setObj,Sem.run,hl,Cc]
 rcases A4r with ⟨rfl,rfl⟩|⟨k',rfl,rfl⟩|⟨id,k',rfl,he,rfl⟩
 . exact step_lone_go (by simp [stepG,stepG.exec,FB.at,hro,Sem.runT_eq,Du,doReturn,hk])
 . exact step_lone_go (by simp [stepG,stepG.exec,FB.at,hro,Sem.runT_eq,Du,doReturn,hk])
 . exact step_lone_go (by simp [stepG,stepG.exec,FB.at,hro,Sem.runT_eq,Du,doReturn,hk,he])
theorem Agi {l:Nat} {lp:Loop} (hro:b.ro=some l) (hl:w.heap[l]?=some (.loop lp)) (hs:lp.state=.ready):
 step P (lone (b.at a (.beginRound::k)) cs w)=.next (lone (b.at a k) cs (Cc w l (.loop { lp with state:=.busy }))):=by
 have Du:(do Instr.beginRound l;pure Next.skip:Sem Next).run P w=.ok .skip (Cc w l (.loop { lp with state:=.busy })):=by
  simp [Instr.beginRound,Instr.getLoop,getObj,setObj,Sem.run,hl,hs,Cc]
 refine step_lone_go ?_
 have e:stepG P true { frame:=b.at a (.beginRound::k),callers:=cs,status:=.running,dying:=none } w=stepG.apply P true (b.at a (.beginRound::k)) cs none (do Instr.beginRound l;pure Next.skip:Sem Next) w:=by
  simp only [stepG,stepG.exec,FB.at,hro]
  rfl
 rw [e]
 simp only [stepG.apply,Sem.runT_eq,if_true,Du]
 simp [FB.at,Frame.finish]
theorem AeP {l:Nat} {lp:Loop} (hl:w.heap[l]?=some (.loop lp)) (hs:lp.state≠.busy):
 step P (lone (b.at a (.endRangeFunc l::k)) cs w)=.next (lone (b.at a ((lp.pending.map Item.code).toList++k)) cs (Cc w l (.loop { lp with state:=.exhausted }))):=by
 have hb:(lp.state == LoopState.busy)=false:=by cases hq:lp.state<;>first|rfl|exact absurd hq hs
 have Du:(Instr.endLoop l).run P w=.ok lp.pending (Cc w l (.loop { lp with state:=.exhausted })):=by
  simp [Instr.endLoop,Instr.getLoop,getObj,setObj,Sem.run,hl,hb,Cc]
  exact λhh=>absurd hh hs
 exact step_lone_go (by simp [stepG,stepG.exec,FB.at,Sem.runT_eq,Du])
theorem AuG {x:Operand} {ps:Array Tmp} {as bd:Code} {g:FuncId} {first AbX args:Array Value} {w2:World} (hro:b.ro=none) (hx:a.eval x=.func (.func g) first AbX)
 (hr:∀w1,w1=Dd (Dd w (.deferred (some []))) (.loop { state:=.ready,pending:=none,fn:=b.fn,tmps:=a.tmps,params:=ps,assign:=as,body:=bd,defers:=w.heap.size }) ->
  (callFunc g (first.push (.func (.yield (w.heap.size+1)) #[] #[])++AbX)).run P w1=.ok (.enter g args) w2):
 step P (lone (b.at a (.code (.rangeFunc x ps as bd)::k)) cs w) =
  .next (lone (Frame.enter P g args .normal) (b.at ⟨a.tmps,{ target:=.collected w.heap.size,args:=#[] }::a.defers⟩ (.inRangeFunc (w.heap.size+1)::k)::cs) w2):=by
 have hen:(Instr.enterLoop b.fn a.tmps ps as bd none).run P w=.ok (w.heap.size+1,[{ target:=.collected w.heap.size,args:=#[] }]) (Dd (Dd w (.deferred (some []))) (.loop { state:=.ready,pending:=none,fn:=b.fn,tmps:=a.tmps,params:=ps,assign:=as,body:=bd,defers:=w.heap.size })):=by
  simp [Instr.enterLoop,newObj,Sem.run,Dd]
  rfl
 have hr:=hr _ rfl
 generalize Dd (Dd w (.deferred (some []))) (.loop { state:=.ready,pending:=none,fn:=b.fn,tmps:=a.tmps,params:=ps,assign:=as,body:=bd,defers:=w.heap.size })=w1 at *
 have hev:∀y todo ds,({ fn:=b.fn,tmps:=a.tmps,todo:=todo,defers:=ds,mode:=FrameMode.run,kind:=b.kind,roundOf:=none }:Frame).eval y=a.eval y:=by intro y todo ds;cases y<;>rfl
 refine step_lone_go ?_
 simp only [stepG,stepG.exec,FB.at,hro,Sem.runT_eq,hen]
 simp only [stepG.apply,Sem.runT_eq,if_true]
 have hcn:∀v,a.eval (.const v)=v:=λ_=>rfl
 simp [resolve,hev,hx,hcn,Deferred.ofValue,invoke,hr,Sem.run_bind,Result.andThen_ok]
 done
theorem Aob {x:Operand} {ps:Array Tmp} {as bd:Code} {g:FuncId} {first AbX args:Array Value} {w2:World} {l:Nat} {lp:Loop} (hro:b.ro=some l) (hl:w.heap[l]?=some (.loop lp)) (hx:a.eval x=.func (.func g) first AbX)
 (hr:∀w1,w1=Dd w (.loop { state:=.ready,pending:=none,fn:=b.fn,tmps:=a.tmps,params:=ps,assign:=as,body:=bd,defers:=lp.defers }) ->
  (callFunc g (first.push (.func (.yield w.heap.size) #[] #[])++AbX)).run P w1=.ok (.enter g args) w2):
 step P (lone (b.at a (.code (.rangeFunc x ps as bd)::k)) cs w)=.next (lone (Frame.enter P g args .normal) (b.at a (.inRangeFunc w.heap.size::k)::cs) w2):=by
 have hen:(Instr.enterLoop b.fn a.tmps ps as bd (some l)).run P w=.ok (w.heap.size,[]) (Dd w (.loop { state:=.ready,pending:=none,fn:=b.fn,tmps:=a.tmps,params:=ps,assign:=as,body:=bd,defers:=lp.defers })):=by
  simp [Instr.enterLoop,Instr.getLoop,getObj,newObj,Sem.run,Dd,hl]
 have hr:=hr _ rfl
 generalize Dd w (.loop { state:=.ready,pending:=none,fn:=b.fn,tmps:=a.tmps,params:=ps,assign:=as,body:=bd,defers:=lp.defers })=w1 at *
 have hev:∀y todo ds,({ fn:=b.fn,tmps:=a.tmps,todo:=todo,defers:=ds,mode:=FrameMode.run,kind:=b.kind,roundOf:=some l }:Frame).eval y=a.eval y:=by intro y todo ds;cases y<;>rfl
 refine step_lone_go ?_
 simp only [stepG,stepG.exec,FB.at,hro,Sem.runT_eq,hen]
 simp only [stepG.apply,Sem.runT_eq,if_true]
 have hcn:∀v,a.eval (.const v)=v:=λ_=>rfl
 simp [resolve,hev,hx,hcn,Deferred.ofValue,invoke,hr,Sem.run_bind,Result.andThen_ok]
theorem Aoc {ops} {i} {rest} {o} {w'} (ho:ops[i]?=some o) (hw:Region.wanted o (yielded ops a.tmps)=true) (hd:b.ro=none) (hn:∀todo,tryRecover (b.at a todo) cs=none)
 (hr:(execOp a.eval o).run P w=.ok .recover w'):step P (lone (b.at a (.inRegion ops (i::rest)::k)) cs w)=.next (lone (b.at (a.put o.dst .nilIface) (.inRegion ops rest::k)) cs w'):=by have hf:=FB.finish_at b a ops i rest k .nilIface;refine step_lone_go ?_;rw [Ai4 ho hw (.inl hd)];have hro:(b.at a (.inRegion ops (i::rest)::k)).roundOf=none:=hd;simp [stepG.apply,Sem.runT_eq,if_true,hr,hro,hn];simp [*]
theorem Ak5 {ops} {i} {rest} {o} {d} {w'} (ho:ops[i]?=some o) (hw:Region.wanted o (yielded ops a.tmps)=true) (hd:b.ro=none)
 (hr:(execOp a.eval o).run P w=.ok (.defer d) w'):step P (lone (b.at a (.inRegion ops (i::rest)::k)) cs w)=.next (lone (b.at ((⟨a.tmps,d::a.defers⟩:Act).put o.dst undef) (.inRegion ops rest::k)) cs w'):=by have hf:=FB.finish_at b ⟨a.tmps,d::a.defers⟩ ops i rest k undef;refine step_lone_go ?_;rw [Ai4 ho hw (.inl hd)];simp [stepG.apply,Sem.runT_eq,if_true,hr];simp [FB.at] at hf ⊢;simp_all
def FB.Hb (b:FB) (a:Act) (todo:List Item) (v:Value) (rec:Bool):Frame:=
 { fn:=b.fn,tmps:=a.tmps,todo,defers:=a.defers,mode:=.panicking [{ v,recovered:=rec }],kind:=b.kind,roundOf:=b.ro }
theorem FB.raise_at (b:FB) (a:Act) (todo:List Item) (v:Value):(b.at a todo).raise [{ v,recovered:=false }]=b.Hb a todo v false:=rfl
theorem AuF {ops} {i} {rest} {o} {v} {w'} (ho:ops[i]?=some o) (hw:Region.wanted o (yielded ops a.tmps)=true) (hd:∀c,o.op≠.defer c)
 (hr:(execOp a.eval o).run P w=.halt (.panic v) w'):step P (lone (b.at a (.inRegion ops (i::rest)::k)) cs w)=.next (lone (b.Hb a (.inRegion ops (i::rest)::k) v false) cs w'):=by refine step_lone_go ?_;rw [Ai4 ho hw (.inr hd)];simp [stepG.apply,Sem.runT_eq,if_true,hr];rfl
theorem ArZ {v:Value} {c:Frame} {fn:Func} (hd:a.defers=[]) (hf:P.funcs[b.fn]?=some fn):
 step P (lone (b.Hb a k v false) (c::cs) w)=.next (lone (c.raise [{ v,recovered:=false }]) cs w):=
 step_lone_go (by simp [stepG,unwind,FB.Hb,hd,Frame.catches,hf])
theorem Ak4 {v:Value} {g:FuncId} {as AbX:Array Value} {ds:List Deferred} {args:Array Value} {w':World} (hd:a.defers={ target:=.fn (.func g) AbX,args:=as }::ds) (hr:(callFunc g (as++AbX)).run P w=.ok (.enter g args) w'):
 step P (lone (b.Hb a k v false) cs w)=.next (lone (Frame.enter P g args .deferred) (b.Hb ⟨a.tmps,ds⟩ k v false::cs) w'):=
 step_lone_go (by simp [stepG,unwind,callDeferred,FB.Hb,hd,invoke,Sem.runT_eq,hr])
theorem Ak6 {ops} {i} {rest} {o} {w'} {b2:FB} {a2} {k2} {v} (ho:ops[i]?=some o) (hw:Region.wanted o (yielded ops a.tmps)=true) (hd:b.ro=none) (hk:b.kind=.deferred)
 (hr:(execOp a.eval o).run P w=.ok .recover w'):step P (lone (b.at a (.inRegion ops (i::rest)::k)) (b2.Hb a2 k2 v false::cs) w)=.next (lone (b.at (a.put o.dst v) (.inRegion ops rest::k)) (b2.Hb a2 k2 v true::cs) w'):=by
 have hf:=FB.finish_at b a ops i rest k v;refine step_lone_go ?_;rw [Ai4 ho hw (.inl hd)];have hro:(b.at a (.inRegion ops (i::rest)::k)).roundOf=none:=hd;have Zc:tryRecover (b.at a (.inRegion ops (i::rest)::k)) (b2.Hb a2 k2 v false::cs)=some (v,b2.Hb a2 k2 v true::cs):=by unfold tryRecover;simp [FB.at,FB.Hb,hk]
 simp [stepG.apply,Sem.runT_eq,if_true,hr,hro,Zc];simp_all
theorem Amf {fn} {v v2} {b2:FB} {a2} {k2} (hd:a.defers=[]) (hk:b.kind=.deferred) (hf:P.funcs[b.fn]?=some fn) (Ac9:(results fn a.tmps).run P w=.ok v w) (hro:b2.ro=none):
 step P (lone (b.back a k) (b2.Hb a2 k2 v2 true::cs) w)=.next (lone (b2.back a2 k2) cs w):=
 step_lone_go (by simp [stepG,unwind,doReturn,FB.back,FB.Hb,hd,hk,hf,Ac9,hro])
end A4E
end Go.Ev
namespace Go.Ev
variable [Ii]
variable {P:Program} {G:Nat} {σ:Dx} {h h':H} {w w':World} {v:AV} {nt:Nat} {f:L2} {a:Act} {ctx:Ac} {b:FB} {cs:List Frame}
def Calm (b:FB) (cs:List Frame):Prop:=b.kind=.normal\/(b.kind=.deferred/\∃c D7,cs=c::D7/\(c.mode=.returning\/∃v,c.mode=.panicking [{ v,recovered:=true }]))
theorem Calm.recover (hc:Calm b cs) (a:Act) (todo:List Item):tryRecover (b.at a todo) cs=none:=by
 rcases hc with hk|⟨hk,c,D7,rfl,hm|⟨v,hm⟩⟩
 . unfold tryRecover
   simp [FB.at,hk]
 . unfold tryRecover
   simp [FB.at,hk,hm]
 . unfold tryRecover
   simp [FB.at,hk,hm]
def RBk (b:FB) (σ:Dx) (f:L2):Prop:=
 (b.ro=none/\∃ds,f.get Br=.Bj ds)\/(b.kind=.normal/\∃c l e,b.ro=some c/\f.get Br=.map l/\σ l=some e/\e.c=c)
def Aed (P:Program) (G:Nat) (ctx:Ac):Prop:=∀(g:FuncId) (args:List AV) (h h':H) (v:AV) (σ:Dx) (w:World) (An:Array Value) (kind:CallKind),
 ctx.call g args h=.ok v h'->Bg P g=true->Bk σ args An.toList->Ms G σ h w->Vm G σ->h'.nx<=Bq->Fx σ h h' ->
 ∃σ' v' w' a' fn,P.funcs[g]?=some fn/\Au σ' v v'/\Out G σ h w σ' h' w'/\a'.defers=[]/\(results fn a'.tmps).run P w'=.ok v' w' /\
  ∀cs,Calm ⟨g,kind,none⟩ cs->∃k',Steps P (lone (Frame.enter P g An kind) cs w) (lone (FB.back ⟨g,kind,none⟩ a' k') cs w')
def AbL (P:Program) (G:Nat) (ctx:Ac):Prop:=∀(l:Nat) (args:List AV) (h h':H) (v:AV) (σ:Dx) (w:World) (An:Array Value) (e:SE),
 ctx.round l args h=.ok v h'->σ l=some e->Bk σ args An.toList->Ms G σ h w->Vm G σ->h'.nx<=Bq->Fx σ h h' ->
 ∃σ' v' w' g tmps as bd,Au σ' v v'/\Out G σ h w σ' h' w'/\(Instr.yield e.c An).run P w=.ok (.round e.c g tmps as bd) w /\
  ∀c cs,Steps P (lone (Frame.round e.c g tmps as bd .normal) (c::cs) w) (lone (c.finish v') cs w')
def AkQ (P:Program) (G:Nat) (ctx:Ac):Prop:=∀(g:FuncId) (args:List AV) (h h':H) (v:AV) (σ:Dx) (w:World) (An:Array Value),
 ctx.call g args h=.Hb v h'->Bg P g=true->Bk σ args An.toList->Ms G σ h w->Vm G σ->h'.nx<=Bq->Fx σ h h' ->
 ∃σ' v' w',Au σ' v v'/\Out G σ h w σ' h' w'/\∀c cs,Steps P (lone (Frame.enter P g An .normal) (c::cs) w) (lone (c.raise [{ v:=v',recovered:=false }]) cs w')
structure Bd (P:Program) (G:Nat) (ctx:Ac):Prop where
 call:Aed P G ctx
 round:AbL P G ctx
 mono:Dw ctx
 Hb:AkQ P G ctx
 Au7:∀l args h v h',ctx.round l args h≠.Hb v h'
def AbK (P:Program) (b:FB) (o:Oper) (a:Act) (w:World) (v':Value) (w':World):Prop:=
 ∀(ops:Array Oper) (i:Nat) (rest:List Nat) (k:List Item) (cs:List Frame),ops[i]?=some o->Region.wanted o (yielded ops a.tmps)=true->Calm b cs ->
  Steps P (lone (b.at a (.inRegion ops (i::rest)::k)) cs w) (lone (b.at (a.put o.dst v') (.inRegion ops rest::k)) cs w')
def Afl (P:Program) (G:Nat) (ctx:Ac) (o:Oper):Prop:=∀(σ:Dx) (nt:Nat) (f:L2) (a:Act) (h h':H) (w:World) (v:AV) (b:FB),
 opD o.op o.type P ctx f h=.ok v h'->o.op.operands.toList.all (Es G)=true->St G σ nt f a h w->RBk b σ f->h'.nx<=Bq->Fx σ h h' ->
 ∃σ' v' w',Au σ' v v'/\Out G σ h w σ' h' w'/\AbK P b o a w v' w'
theorem Art {o:Oper} {r:OR} (he:opD o.op o.type P ctx f h=r) (hr:∀n,r≠.bad n):∀c,o.op≠.defer c:=by
 intro c hc
 rw [hc] at he
 exact hr _ he.symm
theorem AbK.ran {o:Oper} {v':Value} (hd:∀c,o.op≠.defer c) (hr:Ran P (execOp a.eval o) w v' w'):AbK P b o a w v' w':=by
 intro ops i rest k cs ho hw hc
 exact .one (AuJ ho hw (.inr hd) hr)
theorem R5.sound {o} (hg:R5 P G o):Afl P G ctx o:=by
 intro σ nt f a h h' w v b he De hs hb hl hf;have hd:=Art he λn hn=>by grind
 obtain ⟨σ',v',w',h1,h2,h3⟩:=hg _ _ f a h _ w v _ he De hs hl hf;exact ⟨_,_,_,h2,h3,.ran hd h1⟩
theorem St.ms (hs:St G σ nt f a h w):Ms G σ h w:=⟨hs.ai,hs.so,hs.ma⟩
theorem AdS:Extern.allNextRows.lookup Jk=none:=by kernel_rfl
theorem Akq:Extern.allNextRows.lookup Mk=none:=by kernel_rfl
theorem AcP:Extern.allNextRows.lookup ""=none:=by kernel_rfl
theorem Afz:Extern.allGenericRows.lookup Jk=none:=by kernel_rfl
theorem AmH:Extern.allGenericRows.lookup Mk=none:=by kernel_rfl
theorem Adm:Extern.allTypedRows.lookup Jk=none:=by kernel_rfl
theorem AiG:Extern.allTypedRows.lookup Mk=none:=by kernel_rfl
theorem Agh:Extern.allRows.lookup Jk=some Extern.AbiNoEscape.same:=by kernel_rfl
theorem AnV:Extern.allRows.lookup Mk=some Extern.BytealgIndexByte.indexByte:=by kernel_rfl
theorem Ami c:∀l i,Ak9 c.toNat (l.map UInt8.toNat) i=if Lib.indexByte l c=-1 then -1 else Lib.indexByte l c+i
 |[],i=>rfl
 |x::l,i=>by
  have ih:=Ami c l (i+1);have hge:=Lib.indexByte_ge l c;show Bool.rec _ ..=_;unfold Lib.indexByte;by_cases hx:x=c;. simp_all
  . have Hr:Nat.beq x.toNat c.toNat=false:=by cases hb:Nat.beq .. with
     |false=>rfl
     |true=>exact absurd (UInt8.toNat_inj.1 (Ch hb)) hx
    simp_all;omega
theorem AmE {g:FuncId} {args:List AV} {An:Array Value} (he:AgK (Uk P g) args h=.ok v h') (hr:Bk σ args An.toList) (hnb:Bg P g=false):
 ∃v',(callFunc g An).run P w=.ok (.value v') w/\Au σ v v'/\h'=h:=by
 unfold AgK at he
 split at he
 . rename_i x hk
   obtain ⟨rfl,rfl⟩:=B4 he
   obtain ⟨y,l,hl,hv,P4⟩:=hr.F8
   have hl3:=P4.Rt
   subst hl3
   have Acy:An=#[y]:=by
    have:=congrArg List.toArray hl
    simpa using this
   subst Acy
   unfold Uk at hk
   split at hk
   . rename_i fn hf
     split at hk
     . cases hk
     . rename_i Mz
       split at hk
       . rename_i hor
         split at hk
         . rename_i hn
           refine ⟨y,?_,hv,rfl⟩
           have hbn:fn.body=none:=by simpa using Mz
           have h1:Extern.findNext fn=none:=by simp [Extern.findNext,hn,hor,AdS,AcP]
           have h2:Extern.find fn=some Extern.AbiNoEscape.same:=by simp [Extern.find,hn,Afz,Adm,Agh]
           have h3:(Extern.AbiNoEscape.same #[y]).run P w=.ok y w:=rfl
           simp [callFunc,hf,hn,hbn,h1,h2,mark,Sem.run]
           rw [h3]
           rfl
         . split at hk<;>cases hk
       . cases hk
   . cases hk
 . rename_i s c hk
   split at he
   . rename_i sb n hs hn
     obtain ⟨rfl,rfl⟩:=B4 he
     have hss:=Rj hs
     subst hss
     obtain ⟨hc,B6⟩:=Xg hn
     subst hc
     obtain ⟨y,l,hl,hv,P4⟩:=hr.F8
     obtain ⟨y2,l2,rfl,hv2,hl3⟩:=P4.F8
     have hl4:=hl3.Rt
     subst hl4
     have Acy:An=#[y,y2]:=by
      have:=congrArg List.toArray hl
      simpa using this
     subst Acy
     obtain ⟨bs,rfl,rfl⟩:=AuQ hv
     cases hv2
     unfold Uk at hk
     split at hk
     . rename_i fn hf
       split at hk
       . cases hk
       . rename_i Mz
         split at hk
         . rename_i hor
           split at hk
           . cases hk
           . rename_i hn1
             split at hk
             . rename_i hn2
               have hbn:fn.body=none:=by simpa using Mz
               have h1:Extern.findNext fn=none:=by simp [Extern.findNext,hn2,hor,Akq,AcP]
               have h2:Extern.find fn=some Extern.BytealgIndexByte.indexByte:=by simp [Extern.find,hn2,AmH,AiG,AnV]
               refine ⟨.int .i64 (Lib.indexByte bs.data.toList (UInt8.ofNat n)),?_,?_,rfl⟩
               . have:=Lib.run_indexByteString (P:=P) bs (Int.ofNat n) w
                 have e:(Int.ofNat n).toNat.toUInt8=UInt8.ofNat n:=rfl
                 rw [e] at this
                 simp [callFunc,hf,hn2,hbn,h1,h2,mark,Sem.run]
                 rw [show (Extern.BytealgIndexByte.indexByte #[Value.string bs,Value.int IntKind.u8 (↑n:Int)]).run P w=_ from this]
                 rfl
               . have e:=Ami (UInt8.ofNat n) bs.data.toList 0
                 have Zo:(UInt8.ofNat n).toNat=n:=by simp [UInt8.toNat_ofNat,Nat.mod_eq_of_lt B6]
                 rw [Zo] at e
                 have e2:Ak9 n (bytesOf bs) 0=Lib.indexByte bs.data.toList (UInt8.ofNat n):=by
                  show Ak9 n (bs.data.toList.map UInt8.toNat) 0=_
                  rw [e]
                  split
                  . rename_i hq;exact hq.symm
                  . simp
                 rw [e2]
                 exact .int _ _
             . cases hk
         . cases hk
     . cases hk
   . cases he
 . cases he
def R7 (P:Program) (r:Result Next) (v':Value) (w':World):Prop:=
 r=.ok (.value v') w'\/(∃g args w0,r=.ok (.enter g args) w0/\∀c cs,Steps P (lone (Frame.enter P g args .normal) (c::cs) w0) (lone (c.finish v') cs w')) \/
  ∃l g tmps as bd w0,r=.ok (.round l g tmps as bd) w0/\∀c cs,Steps P (lone (Frame.round l g tmps as bd .normal) (c::cs) w0) (lone (c.finish v') cs w')
theorem AbK.next {o} {v'} (hd:∀c,o.op≠.defer c) (hn:R7 P ((execOp a.eval o).run P w) v' w'):AbK P b o a w v' w':=by
 rcases hn with hn|⟨g,args,w0,hn,hs⟩|⟨l,g,tmps,as,bd,w0,hn,hs⟩;. exact .ran hd (.inl hn)
 . intro ops i rest k cs ho hw hc;have hf:=FB.finish_at b a ops i rest k v';refine .head (Amh ho hw (.inr hd) hn) ?_;grind
 . intro ops i rest k cs ho hw hc;have hf:=FB.finish_at b a ops i rest k v';refine .head (AuH ho hw (.inr hd) hn) ?_;grind
theorem O3 {g:FuncId} (hb:Bg P g=true):∃fn c,P.funcs[g]?=some fn/\fn.body=some c/\(fn.name == "runtime.NumGoroutine")=false:=by
 unfold Bg at hb
 split at hb
 . rename_i fn hf
   rw [Bool.and_eq_true] at hb
   obtain ⟨c,hc⟩:=Option.isSome_iff_exists.1 hb.2
   exact ⟨fn,c,hf,hc,by simpa using hb.1⟩
 . cases hb
theorem Ih {g} (hb:Bg P g=true) args w:(callFunc g args).run P w=.ok (.enter g args) w:=by
 obtain ⟨fn,c,h1,h2,h3⟩:=O3 hb;have h3':¬ fn.name = "runtime.NumGoroutine":=by grind
 simp [callFunc,h1,h2,h3',Sem.run]
theorem Aa0 (hc:Bd P G ctx) {g} {args} {An} (he:Aeg P ctx g args h=.ok v h') (hr:Bk σ args An.toList) (hm:Ms G σ h w) (hg:Vm G σ) (hl:h'.nx<=Bq) (hf:Fx σ h h'):
 ∃σ' v' w',Au σ' v v'/\Out G σ h w σ' h' w'/\R7 P ((callFunc g An).run P w) v' w':=by
 rcases Bl he with ⟨hb,he⟩|⟨hb,he⟩;. obtain ⟨σ',v',w',a',fn,h1,h2,h3,h4,h5,h6⟩:=hc.call g _ h _ v _ w _ _ he hb hr hm hg hl hf;refine ⟨_,_,_,h2,h3,.inr (.inl ⟨g,_,w,Ih hb _ w,λc cs=>?_⟩)⟩;obtain ⟨k',h7⟩:=h6 _ (.inl rfl);exact h7.trans (.one (ArV h4 rfl h1 h5))
 . obtain ⟨v',h1,h2,rfl⟩:=AmE (w:=w) he hr hb;exact ⟨_,_,w,h2,Out.refl hm.ai hm.so hm.ma,.inl h1⟩
theorem Adf {t:TypeId} {name:String} {g:FuncId} (hm:Ls P t name=some g) (x:Value) (args:Array Value) (w:World):
 (callMethod (.iface t x) name args).run P w=(callFunc g (#[x]++args)).run P w:=by
 unfold Ls at hm
 split at hm
 . rename_i i hi
   split at hm
   . rename_i m hm0
     obtain ⟨n,hfu⟩:∃n,P.types.size+Made.depth=n+1:=⟨P.types.size+99,rfl⟩
     split at hm
     . rename_i e q1 q2 q3
       cases hm
       have q1':m.path=#[]:=by simpa using q1
       simp [callMethod,hfu,method,typeInfo,hi,hm0,q1',follow,q2,receiverAt,underlying,q3,Place.get]
     . cases hm
     . rename_i d Hr q1 q2 q3
       cases hm
       have q1':m.path=#[]:=by simpa using q1
       cases d<;>first|(exact absurd rfl (Hr _))|simp [callMethod,hfu,method,typeInfo,hi,hm0,q1',follow,q2,receiverAt,underlying,q3,Place.get]
     . cases hm
   . cases hm
 . cases hm
theorem Aa1 (hc:Bd P G ctx) {r} {r'} {name} {args} {An} (he:Hn P ctx r name args h=.ok v h') (hv:Au σ r r') (hr:Bk σ args An.toList) (hm:Ms G σ h w)
 (hg:Vm G σ) (hl:h'.nx<=Bq) (hf:Fx σ h h'):∃σ' v' w',Au σ' v v'/\Out G σ h w σ' h' w'/\R7 P ((callMethod r' name An).run P w) v' w':=by
 unfold Hn at he;split at he
 . rename_i t x hx;have:=Pq hx;subst this;cases hv;rename_i x' hx';split at he;. rename_i g hmm;rw [Adf hmm];exact Aa0 hc he (by simpa using Bk.cons hx' hr) hm hg hl hf
   grind
 grind
theorem Ad7 (hc:Bd P G ctx) {fn:Fn} {cap args:List AV} {Ll An:Array Value} (hy:∀l,fn≠.yield l) (he:M6 P ctx fn cap args h=.ok v h') (Ah8:Bk σ cap Ll.toList) (hr:Bk σ args An.toList)
 (hm:Ms G σ h w) (hg:Vm G σ) (hl:h'.nx<=Bq) (hf:Fx σ h h'):∃σ' v' w',Au σ' v v'/\Out G σ h w σ' h' w'/\R7 P ((invoke (.fn fn Ll) An).run P w) v' w':=by
 unfold M6 at he;split at he
 . rename_i g;rw [Dl] at he;have:(invoke (.fn (.func g) Ll) An).run P w=(callFunc g (An++Ll)).run P w:=by rfl
   rw [this];exact Aa0 hc he (by simpa using hr.append Ah8) hm hg hl hf
 . rename_i name;split at he
   . obtain ⟨y,l,Vs,hv,P4⟩:=hr.F8;have Acy:An=(y::l).toArray:=by grind
     subst Acy;exact Aa1 hc he hv (by grind) hm hg hl hf
   simp_all
 . simp_all
 grind
theorem ApM (hc:Bd P G ctx) {x} {x'} {args} {An} (he:cvV x args P ctx h=.ok v h') (hx:Au σ x x') (hr:Bk σ args An.toList) (hm:Ms G σ h w) (hg:Vm G σ) (hl:h'.nx<=Bq)
 (hf:Fx σ h h'):∃d,(∀w,(Deferred.ofValue x' An).run P w=.ok d w)/\∃σ' v' w',Au σ' v v'/\Out G σ h w σ' h' w'/\R7 P ((invoke d.target d.args).run P w) v' w':=by
 cases hx<;>first|(cases he)|skip
 . rename_i fn as cs as' D7 hy ha ha' hca AjI;have Ak:M6 P _ _ _ _ h=.ok v _:=he;rw [Dl] at Ak;exact ⟨_,λw=>rfl,Ad7 hc hy Ak ⟨hca,AjI⟩ (by simpa using Bk.append ⟨ha,ha'⟩ hr) hm hg hl hf⟩
 . rename_i l e hle;have Ak:=he;refine ⟨_,λw=>rfl,?_⟩;obtain ⟨σ',v',w',g,tmps,as,bd,h1,h2,h3,h4⟩:=hc.round l _ h _ v _ w _ e Ak hle hr hm hg hl hf;refine ⟨_,_,_,h1,h2,.inr (.inr ⟨_,g,_,_,_,w,?_,h4⟩)⟩;simp [invoke,h3]
def R6 (P:Program) (r:Result Next) (v':Value) (w':World):Prop:=
 r=.halt (.panic v') w'\/∃g args w0,r=.ok (.enter g args) w0/\∀c cs,Steps P (lone (Frame.enter P g args .normal) (c::cs) w0) (lone (c.raise [{ v:=v',recovered:=false }]) cs w')
def Ajn (P:Program) (b:FB) (o:Oper) (a:Act) (w:World) (v':Value) (w':World):Prop:=
 ∀(ops:Array Oper) (i:Nat) (rest:List Nat) (k:List Item) (cs:List Frame),ops[i]?=some o->Region.wanted o (yielded ops a.tmps)=true ->
  Steps P (lone (b.at a (.inRegion ops (i::rest)::k)) cs w) (lone (b.Hb a (.inRegion ops (i::rest)::k) v' false) cs w')
theorem Ajn.next {o:Oper} {v':Value} (hd:∀c,o.op≠.defer c) (hn:R6 P ((execOp a.eval o).run P w) v' w'):Ajn P b o a w v' w':=by
 rcases hn with hn|⟨g,args,w0,hn,hs⟩
 . exact λops i rest k cs ho hw=>.one (AuF ho hw hd hn)
 . intro ops i rest k cs ho hw
   refine .head (Amh ho hw (.inr hd) hn) ?_
   exact hs (b.at a (.inRegion ops (i::rest)::k)) cs
theorem Apo {k:Nat} {args:List AV} (he:AgK k args h=.Hb v h'):False:=by
 unfold AgK at he
 split at he
 . cases he
 . split at he<;>cases he
 . cases he
theorem X8 {c:Bool} {x y:OR} (he:(Bool.rec (motive:=λ_=>OR) y x c:OR)=.Hb v h'):(c=true/\x=.Hb v h')\/(c=false/\y=.Hb v h'):=by
 cases c
 . exact .inr ⟨rfl,he⟩
 . exact .inl ⟨rfl,he⟩
theorem Aeh (hc:Bd P G ctx) {g} {args} {An} (he:Aeg P ctx g args h=.Hb v h') (hr:Bk σ args An.toList) (hm:Ms G σ h w) (hg:Vm G σ) (hl:h'.nx<=Bq) (hf:Fx σ h h'):
 ∃σ' v' w',Au σ' v v'/\Out G σ h w σ' h' w'/\R6 P ((callFunc g An).run P w) v' w':=by
 rcases X8 he with ⟨hb,he⟩|⟨hb,he⟩;. obtain ⟨σ',v',w',h2,h3,h6⟩:=hc.Hb g _ h _ v _ w _ he hb hr hm hg hl hf;exact ⟨_,_,_,h2,h3,.inr ⟨g,_,w,Ih hb _ w,h6⟩⟩
 . exact (Apo he).elim
theorem Aei (hc:Bd P G ctx) {r} {r'} {name} {args} {An} (he:Hn P ctx r name args h=.Hb v h') (hv:Au σ r r') (hr:Bk σ args An.toList) (hm:Ms G σ h w)
 (hg:Vm G σ) (hl:h'.nx<=Bq) (hf:Fx σ h h'):∃σ' v' w',Au σ' v v'/\Out G σ h w σ' h' w'/\R6 P ((callMethod r' name An).run P w) v' w':=by
 unfold Hn at he;split at he
 . rename_i t x hx;have:=Pq hx;subst this;cases hv;rename_i x' hx';split at he;. rename_i g hmm;rw [Adf hmm];exact Aeh hc he (by simpa using Bk.cons hx' hr) hm hg hl hf
   grind
 grind
theorem AgL (hc:Bd P G ctx) {fn:Fn} {cap args:List AV} {Ll An:Array Value} (hy:∀l,fn≠.yield l) (he:M6 P ctx fn cap args h=.Hb v h') (Ah8:Bk σ cap Ll.toList) (hr:Bk σ args An.toList)
 (hm:Ms G σ h w) (hg:Vm G σ) (hl:h'.nx<=Bq) (hf:Fx σ h h'):∃σ' v' w',Au σ' v v'/\Out G σ h w σ' h' w'/\R6 P ((invoke (.fn fn Ll) An).run P w) v' w':=by
 unfold M6 at he;split at he
 . rename_i g;rw [Dl] at he;have:(invoke (.fn (.func g) Ll) An).run P w=(callFunc g (An++Ll)).run P w:=by rfl
   rw [this];exact Aeh hc he (by simpa using hr.append Ah8) hm hg hl hf
 . rename_i name;split at he
   . rename_i r rest;obtain ⟨y,l,Vs,hv,P4⟩:=hr.F8;have Acy:An=(y::l).toArray:=by grind
     subst Acy;have:(invoke (.fn (.method name) Ll) (y::l).toArray).run P w=(callMethod y name l.toArray).run P w:=by simp only [invoke];grind
     exact Aei hc he hv (by grind) hm hg hl hf
   simp_all
 . simp_all
 grind
theorem AxL (hc:Bd P G ctx) {x} {x'} {args} {An} (he:cvV x args P ctx h=.Hb v h') (hx:Au σ x x') (hr:Bk σ args An.toList) (hm:Ms G σ h w) (hg:Vm G σ) (hl:h'.nx<=Bq)
 (hf:Fx σ h h'):∃d,(∀w,(Deferred.ofValue x' An).run P w=.ok d w)/\∃σ' v' w',Au σ' v v'/\Out G σ h w σ' h' w'/\R6 P ((invoke d.target d.args).run P w) v' w':=by
 cases hx<;>first|(cases he)|skip
 . rename_i fn as cs as' D7 hy ha ha' hca AjI;have Ak:M6 P _ _ _ _ h=.Hb v _:=he;rw [Dl] at Ak;exact ⟨_,λw=>rfl,AgL hc hy Ak ⟨hca,AjI⟩ (by simpa using Bk.append ⟨ha,ha'⟩ hr) hm hg hl hf⟩
 . have Ak:=he;exact absurd Ak (hc.Au7 _ _ _ _ _)
theorem Am3 (bi:Builtin) {ts:List TypeId} {tsA:Array TypeId} {ty:TypeId} {cns:Array Bool} {args:List AV} {An:Array Value} (hts:tsA.toList=ts) (he:J8 bi ts args P h=.ok v h') (hr:Bk σ args An.toList)
 (hm:Ms G σ h w) (hl:h'.nx<=Bq) (hf:Fx σ h h'):∃σ' v' w',Au σ' v v'/\Out G σ h w σ' h' w'/\(builtin bi tsA ty cns An).run P w=.ok (.value v') w':=by
 have key:∀(s:Sem Value),Ad4 P G σ h w s v h'->∃σ' v' w',Au σ' v v'/\Out G σ h w σ' h' w'/\(do pure (Next.value (<- s)):Sem Next).run P w=.ok (.value v') w':=by rintro s ⟨σ',v',w',h1,h2,h3⟩;exact ⟨σ',v',w',h2,h3,by simp [h1]⟩
 have Lr:∀(i:Nat) (t:TypeId),ts[i]?=some t->tsA[i]?=some t:=by intro i t ht;rw [<- hts] at ht;simpa using ht
 have Axl:∀x,args=[x]->∃y,An=#[y]/\Au σ x y:=by rintro x rfl;obtain ⟨y,l,Vs,hv,P4⟩:=hr.F8;have:=P4.Rt;grind
 have Am0:∀x y,args=[x,y]->∃x' y',An=#[x',y']/\Au σ x x'/\Au σ y y':=by rintro x y rfl;obtain ⟨x',l,Vs,hv,P4⟩:=hr.F8;obtain ⟨y',l2,rfl,hv2,hl3⟩:=P4.F8;have:=hl3.Rt;grind
 unfold J8 at he;split at he
 . split at he
   . rename_i t t2 _ s x;rcases Bl he with ⟨hni,he⟩|⟨_,he⟩;. obtain ⟨s',x',rfl,hs,hx⟩:=Am0 s x rfl;exact key _ (Ad8 he hs hx hm (Lr 0 t (by simp)) (Lr 1 t2 (by simp)) hni hl hf)
     . cases he
   . cases he
 . split at he;. rename_i t _ x;obtain ⟨x',rfl,hx⟩:=Axl x rfl;exact key _ (Anr he hx hm (Lr 0 t (by simp)))
   . cases he
 . split at he;. rename_i t _ d s;obtain ⟨d',s',rfl,hd,hs⟩:=Am0 d s rfl;exact key _ (Ahi he hd hs hm (Lr 0 t (by simp)))
   . cases he
 . exact key _ (by simpa using Aia true (ts:=tsA) (ty:=ty) he hr hm)
 . exact key _ (by simpa using Aia false (ts:=tsA) (ty:=ty) he hr hm)
 . split at he
   . rename_i t _ x;obtain ⟨x',rfl,hx⟩:=Axl x rfl;split at he;. rename_i hk;exact key _ (Aj0 hk he hx hm (Lr 0 t (by simp)))
     . cases he
   . cases he
 . split at he;. rename_i x;obtain ⟨x',rfl,hx⟩:=Axl x rfl;exact key _ (Aoe he hx hm)
   . cases he
 . split at he;. rename_i t t2 p n;obtain ⟨p',n',rfl,hp,hn⟩:=Am0 p n rfl;exact key _ (Aop he hp hn hm (by simpa using congrArg List.toArray hts))
   . cases he
 . cases he
theorem AgP {c} (De:(Op.call c).operands.toList.all (Es G)=true) (hs:St G σ nt f a h w):Bk σ (W1 c.args.toList f) (c.args.map a.eval).toList:=by have:=Abw hs.fr hs.gl c.args.toList (by rw [List.all_eq_true] at De ⊢;intro x hx;exact De x (by simp [Op.operands,Call.operands,Array.toList_append,List.mem_append];grind));simp_all
theorem Ajz (hc:Bd P G ctx) {dst:Option Tmp} {ty:TypeId} {pos:String} {af:Array Edge} {gd:Option (Nat × Bool)} (c:Call):Afl P G ctx ⟨dst,.call c,ty,pos,af,gd⟩:=by
 intro σ nt f a h h' w v b he De hs hb hl hf;have hd:∀d,(Oper.mk dst (.call c) ty pos af gd).op≠.defer d:=λd hd=>by cases hd
 have Ow:=AgP De hs;obtain ⟨callee,args,argTypes⟩:=c;dsimp only at Ow;have Ak:ceD callee args.toList argTypes.toList P ctx f h=.ok v h':=he;cases callee with
 |value g=>
  have hgx:Au σ (ev g f) (a.eval g):=Cj hs.fr hs.gl g (by rw [List.all_eq_true] at De;exact De g (by simp [Op.operands,Call.operands]));obtain ⟨d,hd1,σ',v',w',h1,h2,h3⟩:=ApM hc (An:=args.map a.eval) Ak hgx Ow hs.ms hs.gl hl hf;refine ⟨σ',v',w',h1,h2,.next hd ?_⟩;have:(execOp a.eval ⟨dst,.call ⟨.value g,args,argTypes⟩,ty,pos,af,gd⟩).run P w=(invoke d.target d.args).run P w:=by simp [execOp,resolve,Sem.run_bind,hd1]
  rw [this];exact h3
 |invoke r name=>
  have hgx:Au σ (ev r f) (a.eval r):=Cj hs.fr hs.gl r (by rw [List.all_eq_true] at De;exact De r (by simp [Op.operands,Call.operands]));obtain ⟨σ',v',w',h1,h2,h3⟩:=Aa1 hc (An:=args.map a.eval) Ak hgx Ow hs.ms hs.gl hl hf;refine ⟨σ',v',w',h1,h2,.next hd ?_⟩;have:(execOp a.eval ⟨dst,.call ⟨.invoke r name,args,argTypes⟩,ty,pos,af,gd⟩).run P w=(callMethod (a.eval r) name (args.map a.eval)).run P w:=by
   have e:(#[a.eval r]++args.map a.eval).extract 1 (#[a.eval r]++args.map a.eval).size=args.map a.eval:=by simp_all
   simp only [execOp,resolve,Sem.run_bind,Sem.run_pure,Result.andThen_ok,invoke];rw [e];have e0:(#[a.eval r]++args.map a.eval)[0]?=some (a.eval r):=by rw [Array.getElem?_append_left (by show 0<1;omega)];rfl
   rw [e0]
  rw [this];exact h3
 |builtin bi=>
  have Cs:Aa5 bi args.toList argTypes.toList P ctx f h=.ok v h':=Ak;unfold Aa5 at Cs;split at Cs
  . have Fv:AnS (vT (f.get Br)) h=.ok v h':=Cs;unfold AnS at Fv;split at Fv
    . rename_i l W5;obtain ⟨rfl,rfl⟩:=B4 Fv;have hro:b.ro=none:=by
       rcases hb with ⟨h1,_⟩|⟨_,c,l2,e,h1,h2,_⟩;. exact h1
       . rw [h2] at W5;cases W5
      refine ⟨σ,.nilIface,w,.B3,Out.refl hs.ai hs.so hs.ma,?_⟩;intro ops i rest k cs ho hw Hq;refine .one (Aoc ho hw hro (Hq.recover a) ?_);simp [execOp,resolve,invoke,builtin]
    . cases Fv
  . obtain ⟨cns,A8w⟩:∃cns,(execOp a.eval ⟨dst,.call ⟨.builtin bi,args,argTypes⟩,ty,pos,af,gd⟩).run P w=(builtin bi argTypes ty cns (args.map a.eval)).run P w:=
     ⟨_,by rfl⟩;obtain ⟨σ',v',w',h1,h2,h3⟩:=Am3 bi (tsA:=argTypes) (ty:=ty) (cns:=cns) rfl Cs Ow hs.ms hl hf;refine ⟨σ',v',w',h1,h2,.next hd (.inl ?_)⟩;rw [A8w];exact h3
theorem Az5 (hc:Bd P G ctx) (o:Oper) (hpo:AcX o.op=true) (he:opD o.op o.type P ctx f h=.Hb v h') (De:o.op.operands.toList.all (Es G)=true) (hs:St G σ nt f a h w) (hl:h'.nx<=Bq) (hf:Fx σ h h'):
 ∃σ' v' w',Au σ' v v'/\Out G σ h w σ' h' w'/\Ajn P b o a w v' w':=by
 obtain ⟨dst,op,ty,pos,af,gd⟩:=o;cases op<;>first|(cases hpo;done)|skip
 case panic x=>
  have Ak:Aga (ev x f) h=.Hb v h':=he;have hgx:Au σ (ev x f) (a.eval x):=Cj hs.fr hs.gl x (by rw [List.all_eq_true] at De;exact De x (by simp [Op.operands]));unfold Aga at Ak;split at Ak;. rename_i t y hy;have hy:=Pq hy;cases Ak;refine ⟨σ,a.eval x,w,hgx,Out.refl hs.ai hs.so hs.ma,.next (λd hd=>by cases hd) (.inl ?_)⟩;rw [hy] at hgx;generalize Rr:a.eval x=xx at hgx;cases hgx;simp [execOp,Rr,Instr.panic,goPanic,Sem.run]
  . cases Ak
 case call c=>
  have hd:∀d,(Oper.mk dst (.call c) ty pos af gd).op≠.defer d:=λd hd=>by cases hd
  have Ow:=AgP De hs;obtain ⟨callee,args,argTypes⟩:=c;dsimp only at Ow;have Ak:ceD callee args.toList argTypes.toList P ctx f h=.Hb v h':=he;cases callee with
  |value g=>
   have hgx:Au σ (ev g f) (a.eval g):=Cj hs.fr hs.gl g (by rw [List.all_eq_true] at De;exact De g (by simp [Op.operands,Call.operands]));obtain ⟨d,hd1,σ',v',w',h1,h2,h3⟩:=AxL hc (An:=args.map a.eval) Ak hgx Ow hs.ms hs.gl hl hf;refine ⟨σ',v',w',h1,h2,.next hd ?_⟩;have:(execOp a.eval ⟨dst,.call ⟨.value g,args,argTypes⟩,ty,pos,af,gd⟩).run P w=(invoke d.target d.args).run P w:=by simp [execOp,resolve,Sem.run_bind,hd1]
   grind
  |invoke r name=>
   have hgx:Au σ (ev r f) (a.eval r):=Cj hs.fr hs.gl r (by rw [List.all_eq_true] at De;exact De r (by simp [Op.operands,Call.operands]));obtain ⟨σ',v',w',h1,h2,h3⟩:=Aei hc (An:=args.map a.eval) Ak hgx Ow hs.ms hs.gl hl hf;refine ⟨σ',v',w',h1,h2,.next hd ?_⟩;have:(execOp a.eval ⟨dst,.call ⟨.invoke r name,args,argTypes⟩,ty,pos,af,gd⟩).run P w=(callMethod (a.eval r) name (args.map a.eval)).run P w:=by
    have e:(#[a.eval r]++args.map a.eval).extract 1 (#[a.eval r]++args.map a.eval).size=args.map a.eval:=by simp_all
    simp only [execOp,resolve,Sem.run_bind,Sem.run_pure,Result.andThen_ok,invoke];rw [e];have e0:(#[a.eval r]++args.map a.eval)[0]?=some (a.eval r):=by rw [Array.getElem?_append_left (by show 0<1;omega)];rfl
    rw [e0]
   simp [*]
  |builtin bi=>cases hpo
theorem Aim (hc:Bd P G ctx) o:Afl P G ctx o:=by
 obtain ⟨dst,op,ty,pos,af,gd⟩:=o;cases op;case move x=>exact (Ae1 x).to3.sound
 case assign x=>exact (AaD x).to3.sound
 case pick c x y=>exact (Ae2 c x y).to3.sound
 case alloc e=>exact (Acn e).to3.sound
 case box e x=>exact (Ah4 e x).to3.sound
 case build t p=>exact (Acp t p).to3.sound
 case buildSlice t n p=>exact (Ro t n p).to3.sound
 case insert t m k x=>exact (Af0 t m k x).sound
 case load t x=>exact (AjC t x).sound
 case store t x y=>exact (Ah3 t x y).sound
 case nilCheck x=>exact (Vq x).to3.sound
 case binOp op t x y yt=>exact (Aco _ t x y _).to3.sound
 case unOp op t x=>exact (Ae3 _ t x).to3.sound
 case convert s d x=>exact (AdH s d x).sound
 case makeInterface t x=>exact (Sv t x).to3.sound
 case makeFunc fn x y=>exact (Vp _ x y).to3.sound
 case makeMap t r=>exact (AdI t r).sound
 case makeSlice t x y=>exact (Abh t x y).sound
 case slice t x lo hi mx=>exact (Acs t x _ _ _).to3.sound
 case fieldAddr t x i=>exact (Ss t x i).to3.sound
 case field t x i=>exact (Acq t x i).to3.sound
 case indexAddr t x i=>exact (Su t x i).to3.sound
 case index t x i=>exact (Acr t x i).to3.sound
 case lookup t x i ok=>exact (Af1 t x i _).sound
 case mapUpdate t m k x=>exact (Abi t m k x).sound
 case typeAssert x xt t ok=>exact (Rp x _ t _).to3.sound
 case extract x i=>exact (Xz x i).to3.sound
 case call c=>exact Ajz hc c
 case panic x=>intro σ nt f a h h' w v b he De hs hb hl hf;have Ak:Aga _ h=.ok v _:=he;unfold Aga at Ak;grind
 all_goals
  intro σ nt f a h h' w v b he De hs hb hl hf;cases he
end Go.Ev
namespace Go.Ev
variable [Ii]
variable {P:Program} {G:Nat} {σ σ':Dx} {h h':H} {w w':World} {v:AV} {nt:Nat} {f f':L2} {a:Act} {ctx:Ac} {b:FB} {cs:List Frame}
theorem Fx.left {h1:H} (hf:Fx σ h h') (h1n:h1.nx<=h'.nx):Fx σ h h1:=λx h2 h3=>hf x h2 om
theorem Fx.right {h1} (hf:Fx σ h h') (ho:Out G σ h w σ' h1 w'):Fx σ' h1 h':=by obtain ⟨nw,a1,a2,_⟩:=ho;intro x h2 h3;have:=a1.nx;cases hx:σ' x with
 |none=>rfl
 |some e=>have:=a2.fresh x e (hf x om h3) hx;omega
theorem Out.le (ho:Out G σ h w σ' h' w'):Qq σ σ':=by obtain ⟨_,_,a2,_⟩:=ho;exact a2.le
theorem Out.ms (ho:Out G σ h w σ' h' w'):Ms G σ' h' w':=by obtain ⟨_,a1,a2,a3⟩:=ho;exact ⟨a1.inv,a2.ok,a3⟩
theorem Vm.mono (hg:Vm G σ) (hs:Qq σ σ'):Vm G σ':=λg h1=>by obtain ⟨e,h2,h3⟩:=hg g h1;exact ⟨e,hs _ _ h2,h3⟩
theorem St.next {a'} (hs:St G σ nt f a h w) (ho:Out G σ h w σ' h' w') (hfr:Pt σ' nt f' a'):St G σ' nt f' a' h' w':=
 ⟨hfr,hs.gl.mono ho.le,ho.ms.ai,ho.ms.so,ho.ms.ma⟩
theorem RBk.mono (hb:RBk b σ f) (hs:Qq σ σ') (hd:f'.get Br=f.get Br):RBk b σ' f':=by
 rcases hb with ⟨h1,ds,h2⟩|⟨h0,c,l,e,h1,h2,h3,h4⟩
 . exact .inl ⟨h1,ds,by rw [hd,h2]⟩
 . exact .inr ⟨h0,c,l,e,h1,by rw [hd,h2],hs _ _ h3,h4⟩
theorem Mm {d:Option Tmp} (hd:∀t:Nat,d=some t->t<250) (u:Nat) (hu:u<256):(Im d v f).get u=if d=some u then v else f.get u:=by
 cases d with
 |none=>simp [Im]
 |some t=>
  show (f.set t v).get u=_
  rw [L2.Dh t u v f (Nat.lt_trans (hd t rfl) (by decide)) hu]
  by_cases h1:u=t
  . subst h1;simp
  . rw [if_neg h1,if_neg (λhh=>h1 (by cases hh;rfl))]
theorem ArI (a:Act) (d:Option Tmp) (v:Value):(a.put d v).tmps.size=a.tmps.size:=by
 cases d<;>simp [Act.put]
theorem ArG {d:Option Tmp} (hd:∀t:Nat,d=some t->t<a.tmps.size) (v':Value) (u:Nat):(a.put d v').tmps.getD u undef=if d=some u then v' else a.tmps.getD u undef:=by
 cases d with
 |none=>simp [Act.put]
 |some t=>
  have ht:=hd t rfl
  show (a.tmps.setIfInBounds t v').getD u undef=_
  by_cases h1:t=u
  . subst h1
    simp [Array.getD,ht]
  . rw [if_neg (λhh=>h1 (by cases hh;rfl))]
    simp only [Array.getD_eq_getD_getElem?]
    rw [Array.getElem?_setIfInBounds_ne h1]
theorem Pt.put {d:Option Tmp} {v'} (hfr:Pt σ nt f a) (hd:∀t:Nat,d=some t->t<nt) (Ix:nt<250) (hv:Au σ v v'):Pt σ nt (Im d v f) (a.put d v'):=by
 refine ⟨by rw [ArI];exact hfr.size,?_,?_⟩
 . intro t ht;rw [Mm (λu hu=>Nat.lt_trans (hd u hu) Ix) t (Nat.lt_trans ht (by simp)),ArG λu hu=>by rw [hfr.size];grind];split;. omega
   . exact hfr.slot t ht
 . rw [Mm (λu hu=>Nat.lt_trans (hd u hu) Ix) _ (by decide),if_neg λhh=>by have h1:255<nt:=hd _ hh;omega];have:(a.put d v').defers=a.defers:=by cases d<;>rfl
   rw [this];exact hfr.defers
def gv (ops:Array Oper) (o:Oper) (f:L2):WT:=match guardOf ops o with|.always=>.yes|.on t want=>Adq (f.get t) want|.bad=>.bad
theorem Ain (ops:Array Oper) (o:Oper):Fp ops o P ctx f h=Amo (gv ops o f) o P ctx f h:=by
 unfold Fp gv
 cases guardOf ops o<;>rfl
theorem Pf {ops} {o} {r} (he:Fp ops o P ctx f h=r) (hr:∀n,r≠.bad n) (hx:∀i f' h',r≠.ext i f' h'):
 gv ops o f=.no/\r=.Bt (Im o.dst (.Bj []) f) h \/
 (gv ops o f=.yes/\Ie o.op=none/\∃v h',opD o.op o.type P ctx f h=.ok v h'/\r=.Bt (Im o.dst v f) h') \/
 gv ops o f=.yes/\∃c,Ie o.op=some c/\Th c o.dst o.type P ctx f h=r:=by rw [Ain] at he;cases hg:gv _ o f with
 |no=>rw [hg] at he;exact .inl ⟨rfl,he.symm⟩
 |bad=>rw [hg] at he;exact absurd he.symm (hr _)
 |yes=>rw [hg] at he;have Et:op1 o _ _ P _ f h=r:=he;unfold op1 at Et;cases hd:Ie _ with
  |none=>rw [hd] at Et;have Cs:Akx _ f h ..=r:=Et;refine .inr (.inl ⟨rfl,rfl,?_⟩);cases ho:opD _ _ P _ f h with
   |bad n=>rw [ho] at Cs;exact absurd Cs.symm (hr _)
   |ok v h'=>rw [ho] at Cs;exact ⟨v,_,rfl,Cs.symm⟩
   |Hb v h'=>rw [ho] at Cs;have Fv:Bool.rec (motive:=λ_=>RC) _ ..=r:=Cs;cases h1:AcX _ with
    |false=>rw [h1] at Fv;grind
    |true=>rw [h1] at Fv;cases h2:Nat.ble .. with
     |false=>rw [h2] at Fv;exact absurd Fv.symm (hr _)
     |true=>rw [h2] at Fv;grind
  |some c=>simp_all
theorem AnG {ops} {o} {id} (he:Fp ops o P ctx f h=.ext id f' h'):id=Em/\gv ops o f=.yes/\Ie o.op=none/\AcX o.op=true/\h.nx<=h'.nx/\∃v,opD o.op o.type P ctx f h=.Hb v h'/\f'=f.set Jv v:=by rw [Ain] at he;cases hg:gv _ o f with
 |no=>rw [hg] at he;cases he
 |bad=>rw [hg] at he;cases he
 |yes=>rw [hg] at he;have Et:op1 o _ _ P _ f h=.ext _ ..:=he;unfold op1 at Et;cases hd:Ie _ with
  |none=>rw [hd] at Et;have Cs:Akx _ f h ..=.ext _ ..:=Et;cases ho:opD _ _ P _ f h with
   |bad n=>rw [ho] at Cs;cases Cs
   |ok v h1=>rw [ho] at Cs;cases Cs
   |Hb v h1=>rw [ho] at Cs;have Fv:Bool.rec (motive:=λ_=>RC) _ ..=.ext _ ..:=Cs;cases hp1:AcX _ with
    |false=>simp_all
    |true=>cases h2:Nat.ble h.nx h1.nx with
     |false=>simp_all
     |true=>simp_all
  |some c=>
   rw [hd] at Et;have Cs:Th c _ _ P _ f h=.ext _ ..:=Et;unfold Th at Cs;split at Cs;. unfold Ace at Cs;grind
   grind
theorem AfF {o:Op} {c:Call} (hd:Ie o=some c):o=.defer c:=by
 cases o<;>first|(cases hd;done)|skip
 cases hd;rfl
theorem Zy {ops:Array Oper} {o:Oper} (Fs:∀x∈ops.toList,Gl G nt x=true) (hfr:Pt σ nt f a) (Ix:nt<250):
 (gv ops o f=.yes->Region.wanted o (yielded ops a.tmps)=true)/\(gv ops o f=.no->Region.wanted o (yielded ops a.tmps)=false):=by unfold gv guardOf Region.wanted;cases hg:o.guard with
 |none=>simp_all
 |some jw=>obtain ⟨j,want⟩:=jw;dsimp only;cases hj:(ops[j]?).bind (·.dst) with
  |none=>simp [*]
  |some t=>
   dsimp only;have ht:t<nt:=by cases hoj:ops[j]? with
    |none=>rw [hoj] at hj;cases hj
    |some x=>
     rw [hoj] at hj;have hx:x∈ops.toList:=by grind
     have:=Fs x hx;unfold Gl at this;rw [show x.dst=some t from hj] at this;cases hq:x.op.operands.toList.all (Es G) with
     |false=>simp_all
     |true=>rw [hq] at this;exact Ec this
   have Z3:=hfr.slot t (Nat.lt_trans ht Ix);have Lr:a.tmps[t]?=some (a.tmps.getD t undef):=by
    have:t<a.tmps.size:=by rw [hfr.size];exact ht
    simp [Array.getD,this]
   unfold yielded;rw [hj];simp only [Option.bind_some,Lr];generalize f.get t=x at Z3;generalize a.tmps.getD t undef=y at Z3;cases Z3;case bool bb=>show ((Bool.rec (motive:=λ_=>WT) WT.no WT.yes (Aju bb want))=WT.yes->_)/\((Bool.rec (motive:=λ_=>WT) WT.no WT.yes (Aju bb want))=WT.no->_);rw [Afn];cases bb<;>cases want<;>(simp)
   all_goals
    refine ⟨λhh=>?_,λhh=>?_⟩;. first|(change WT.no=WT.yes at hh;cases hh;done)|(change WT.bad=WT.yes at hh;cases hh;done)
    . first|rfl|(change WT.bad=WT.no at hh;cases hh;done)
theorem Lu {o} (ho:Gl G nt o=true):o.op.operands.toList.all (Es G)=true/\∀t:Nat,o.dst=some t->t<nt:=by unfold Gl at ho;cases hq:o.op.operands.toList.all _ with
 |false=>simp_all
 |true=>rw [hq] at ho;refine ⟨rfl,λt ht=>?_⟩;rw [ht] at ho;exact Ec ho
theorem Wn (hc:Bd P G ctx) {ops:Array Oper} {o:Oper} {r:RC} (Fs:∀x∈ops.toList,Gl G nt x=true) (Ix:nt<250) (ho:Gl G nt o=true) (he:Fp ops o P ctx f h=r) (hr:∀n,r≠.bad n) (hx:∀i f' h',r≠.ext i f' h')
 (hs:St G σ nt f a h w) (hb:RBk b σ f):∃f' h',r=.Bt f' h'/\(h'.nx<=Bq->Fx σ h h'->∃σ' a' w',St G σ' nt f' a' h' w'/\RBk b σ' f'/\Out G σ h w σ' h' w' /\
  ∀i rest k cs,ops[i]?=some o->Calm b cs->Steps P (lone (b.at a (.inRegion ops (i::rest)::k)) cs w) (lone (b.at a' (.inRegion ops rest::k)) cs w')):=by
 obtain ⟨De,M9⟩:=Lu ho;have X5:=Zy (o:=o) Fs hs.fr Ix;have hds:∀v,(Im o.dst v f).get Br=f.get Br:=by intro v;rw [Mm (λu hu=>Nat.lt_trans (M9 u hu) Ix) Br (by decide),if_neg (λhh=>by have h1:(255:Nat)<nt:=M9 255 hh;omega)]
 rcases Pf he hr hx with ⟨hg,rfl⟩|⟨hg,hnd,v,h',hv,rfl⟩|⟨hg,c,hd,hdf⟩;. refine ⟨_,_,rfl,λhl hf=>⟨σ,a.put o.dst undef,w,hs.next (Out.refl hs.ai hs.so hs.ma) (hs.fr.put M9 Ix (L6 σ)),hb.mono (Qq.refl σ) (hds _),Out.refl hs.ai hs.so hs.ma,?_⟩⟩;intro i rest k cs hoi Hq;have hw:=X5.2 hg;have:=Asa (P:=P) (b:=b) (a:=a) (k:=k) (cs:=cs) (w:=w) (ops:=ops) (i:=i) (rest:=rest) (by rw [hoi];simpa using hw);rw [hoi] at this;exact .one this
 . refine ⟨_,_,rfl,λhl hf=>?_⟩;obtain ⟨σ',v',w',h1,h2,h3⟩:=Aim hc o σ nt f a h h' w v b hv De hs hb hl hf;refine ⟨σ',a.put o.dst v',w',hs.next h2 ((hs.fr.mono h2.le).put M9 Ix h1),hb.mono h2.le (hds _),h2,?_⟩;intro i rest k cs hoi Hq;exact h3 ops i rest k cs hoi (X5.1 hg) Hq
 . have hod:=AfF hd;unfold Th at hdf;split at hdf
   . rename_i g A37;unfold Ace at hdf;split at hdf
     . rename_i k as cap ds hvf W5;have hvf:=Aaq hvf;have W5:=Aar W5;refine ⟨_,_,hdf.symm,λhl hf=>?_⟩;have hgx:Au σ (ev g f) (a.eval g):=Cj hs.fr hs.gl g (by rw [List.all_eq_true] at De;exact De g (by simp [hod,Op.operands,Call.operands,A37]));rw [hvf] at hgx;have Ow:Bk σ (W1 c.args.toList f) (c.args.map a.eval).toList:=by have:=Abw hs.fr hs.gl c.args.toList (by rw [List.all_eq_true] at De ⊢;intro x hx;exact De x (by rw [hod];simp only [Op.operands,Call.operands,Array.toList_append,List.mem_append];exact .inr hx));simpa using this
       generalize hge:a.eval g=gx at hgx;cases hgx;rename_i as' D7 hy ha ha' hc1 hc2;have hro:b.ro=none:=by
        rcases hb with ⟨h1,_⟩|⟨_,c,l2,e,h1,h2,_⟩;. exact h1
        grind
       have hdr:=hs.fr.defers;rw [W5] at hdr;have hfr:Pt σ nt (f.set Br (.Bj (.fn (.func k) (J0 as (W1 c.args.toList f)) cap::ds))) ⟨a.tmps,{ target:=.fn (.func k) D7,args:=as'++c.args.map a.eval }::a.defers⟩:=by
        refine ⟨hs.fr.size,?_,?_⟩;. intro t ht;rw [L2.Dh Br t _ f (by decide) (Nat.lt_trans ht (by decide)),if_neg (by intro hh;have h1:t=255:=hh;omega)];exact hs.fr.slot t ht
        . rw [L2.Dh Br Br _ f (by decide) (by decide),if_pos rfl];refine .cons _ _ _ _ (.fn k _ _ _ _ ?_ ⟨hc1,hc2⟩) hdr;rw [Dl];simpa using Bk.append (⟨ha,ha'⟩:Bk σ as as'.toList) Ow
       refine ⟨σ,_,w,hs.next (Out.refl hs.ai hs.so hs.ma) (hfr.put M9 Ix (L6 σ)),?_,Out.refl hs.ai hs.so hs.ma,?_⟩;. refine .inl ⟨hro,.fn (.func k) (J0 as (W1 c.args.toList f)) cap::ds,?_⟩;rw [Mm (λu hu=>Nat.lt_trans (M9 u hu) Ix) Br (by decide),if_neg (λhh=>by have h1:(255:Nat)<nt:=M9 255 hh;omega)];rfl
       . intro i rest k2 cs hoi Hq;refine .one (Ak5 hoi (X5.1 hg) hro ?_);have e:(execOp a.eval o).run P w=(do pure (Next.defer (<- resolve a.eval c o.type)):Sem Next).run P w:=by simp only [execOp,hod]
         rw [e];simp [resolve,A37,hge,Deferred.ofValue]
     grind
   . grind
theorem AnH ops o r (h1:∀f' h',r≠.Bt f' h') (h2:∀n,r≠.bad n) (h3:∀i f' h',r≠.ext i f' h'):Fp ops o P ctx f h≠r:=by
 intro he;rcases Pf he h2 h3 with ⟨_,rfl⟩|⟨_,_,v,h',_,rfl⟩|⟨_,c,_,hdf⟩;. grind
 . grind
 . unfold Th at hdf;split at hdf;. unfold Ace at hdf;grind
   grind
theorem Ahr {ops}:∀l f h f' h',G3 P ctx ops l f h≠.ret f' h':=by intro l;induction l with
 |nil=>intro f h f' h' he;cases he
 |cons o l ih=>intro f h f' h' he;have Ak:andThen ..=.ret ..:=he;cases ho:Fp _ o P _ f h with
  |bad n=>rw [ho] at Ak;cases Ak
  |Bt f1 W2=>rw [ho] at Ak;exact ih _ _ _ _ Ak
  |ext id f1 W2=>rw [ho] at Ak;cases Ak
  |ret f1 W2=>exact AnH _ o _ λf' h' hh=>by grind λn hn=>by grind (λ_ _ _ hh=>by cases hh) ho
theorem Ar2 (hc:Bd P G ctx) {ops} {o} {id} (Fs:∀x∈ops.toList,Gl G nt x=true) (Ix:nt<250) (ho:Gl G nt o=true) (he:Fp ops o P ctx f h=.ext id f' h')
 (hs:St G σ nt f a h w) (hb:RBk b σ f) (hl:h'.nx<=Bq) (hf:Fx σ h h'):id=Em/\∃σ' w' pv,St G σ' nt f' a h' w'/\RBk b σ' f'/\Out G σ h w σ' h' w'/\Au σ' (f'.get Jv) pv /\
  ∀i rest k cs,ops[i]?=some o->Steps P (lone (b.at a (.inRegion ops (i::rest)::k)) cs w) (lone (b.Hb a (.inRegion ops (i::rest)::k) pv false) cs w'):=by
 obtain ⟨h1,hg,h3,hpo,h5,v,hv,rfl⟩:=AnG he;obtain ⟨De,M9⟩:=Lu ho;obtain ⟨σ',v',w',q1,q2,q3⟩:=Az5 hc o hpo hv De hs hl hf;have Lr:∀t,t<250->(f.set Jv v).get t=f.get t:=by intro t ht;rw [L2.Dh _ t _ f (by decide) om,if_neg (by intro hh;have h1:t=254:=hh;omega)]
 have A39:(f.set Jv v).get Br=f.get Br:=rfl;refine ⟨h1,_,_,v',hs.next q2 ⟨hs.fr.size,λt ht=>by rw [Lr t ht];exact (hs.fr.slot t ht).mono q2.le,hs.fr.defers.mono q2.le⟩,hb.mono q2.le A39,q2,?_,?_⟩;. rw [L2.Dh _ _ _ f (by decide) (by decide),if_pos rfl];grind
 . intro i rest k cs hoi;exact q3 _ i _ k _ hoi ((Zy Fs hs.fr Ix).1 hg)
theorem AeM (hc:Bd P G ctx) {ops:Array Oper} (Fs:∀x∈ops.toList,Gl G nt x=true) (Ix:nt<250):∀(l:List Oper) (i:Nat),ops.toList.drop i=l->∀(σ:Dx) (f:L2) (a:Act) (h:H) (w:World) (r:RC),
 G3 P ctx ops l f h=r->(∀n,r≠.bad n)->(∀i f' h',r≠.ext i f' h')->St G σ nt f a h w->RBk b σ f->∃f' h',r=.Bt f' h'/\(h'.nx<=Bq->Fx σ h h'->∃σ' a' w',St G σ' nt f' a' h' w'/\RBk b σ' f'/\Out G σ h w σ' h' w' /\
  ∀k cs,Calm b cs->Steps P (lone (b.at a (.inRegion ops (List.range' i (ops.size - i))::k)) cs w) (lone (b.at a' (.inRegion ops []::k)) cs w')):=by intro l;induction l with
 |nil=>
  intro i hi σ f a h w r he hr hx hs hb;refine ⟨f,h,he.symm,λhl hf=>⟨σ,a,w,hs,hb,Out.refl hs.ai hs.so hs.ma,λk cs Hq=>?_⟩⟩;have:ops.size - i=0:=by simp_all
  rw [this];exact .refl P _
 |cons o l ih=>
  intro i hi σ f a h w r he hr hx hs hb;have B6:i<ops.size:=by have:=congrArg List.length hi;simp at this;omega
  have hoi:ops[i]?=some o:=by
   have:(ops.toList.drop i)[0]?=some o:=by rw [hi];rfl
   grind
  have Aqu:ops.toList.drop (i+1)=l:=by rw [<- List.drop_drop,hi];rfl
  have Vc:o∈ops.toList:=by grind
  have Ak:andThen (G3 P ctx ops l) (Fp ops o P ctx f h)=r:=he;have hr1:∀n,Fp ops o P ctx f h≠.bad n:=by intro n hn;rw [hn] at Ak;exact hr n Ak.symm
  have hx1:∀i f' h',Fp ops o P ctx f h≠.ext i f' h':=by intro i f' h' hn;rw [hn] at Ak;exact hx _ _ _ Ak.symm
  obtain ⟨f1,h1,e1,s1⟩:=Wn hc Fs Ix (Fs o Vc) rfl hr1 hx1 hs hb;rw [e1] at Ak;have Cs:G3 P ctx ops l f1 h1=r:=Ak;have hm:=Q5 (P:=P) hc.mono ops l f1 h1;have AtH:∀(h':H),(∃f',r=.Bt f' h')->h1.nx<=h'.nx:=by rintro h' ⟨f',rfl⟩;exact hm f' h' (.inl Cs)
  cases r with
  |bad n=>exact absurd rfl (hr n)
  |Bt f' h'=>
   refine ⟨f',h',rfl,λhl hf=>?_⟩;have hle:=AtH h' ⟨f',rfl⟩;obtain ⟨σ1,a1,w1,t1,t2,t3,t4⟩:=s1 om (hf.left hle);obtain ⟨f2,h2,e2,s2⟩:=ih (i+1) Aqu σ1 f1 a1 h1 w1 _ Cs hr hx t1 t2;cases e2;obtain ⟨σ2,a2,w2,u1,u2,u3,u4⟩:=s2 hl (hf.right t3);refine ⟨σ2,a2,w2,u1,u2,t3.trans u3 hl,λk cs Hq=>?_⟩;have Z2:List.range' i (ops.size - i)=i::List.range' (i+1) (ops.size - (i+1)):=by
    have:ops.size - i=(ops.size - (i+1))+1:=by omega
    rw [this,List.range'_succ]
   rw [Z2];exact (t4 i _ k cs hoi Hq).trans (u4 k cs Hq)
  |ext id f' h'=>exact absurd rfl (hx _ _ _)
  |ret f' h'=>exact absurd Cs (Ahr l f1 h1 _ _)
theorem Amb (hc:Bd P G ctx) {ops:Array Oper} (Fs:∀x∈ops.toList,Gl G nt x=true) (Ix:nt<250):∀(l:List Oper) (i:Nat),ops.toList.drop i=l->∀(σ:Dx) (f:L2) (a:Act) (h:H) (w:World) (id:Nat) (f':L2) (h':H),
 G3 P ctx ops l f h=.ext id f' h'->St G σ nt f a h w->RBk b σ f->h'.nx<=Bq->Fx σ h h'->id=Em/\∃σ' a' w' pv,St G σ' nt f' a' h' w'/\RBk b σ' f'/\Out G σ h w σ' h' w'/\Au σ' (f'.get Jv) pv /\
  ∀k cs,Calm b cs->∃rest,Steps P (lone (b.at a (.inRegion ops (List.range' i (ops.size - i))::k)) cs w) (lone (b.Hb a' (.inRegion ops rest::k) pv false) cs w'):=by intro l;induction l with
 |nil=>intro i hi σ f a h w id f' h' he;cases he
 |cons o l ih=>
  intro i hi σ f a h w id f' h' he hs hb hl hf;have B6:i<ops.size:=by have:=congrArg List.length hi;simp at this;omega
  have hoi:ops[i]?=some o:=by
   have:(ops.toList.drop i)[0]?=some o:=by rw [hi];rfl
   rw [List.getElem?_drop] at this;simpa using this
  have Aqu:ops.toList.drop (i+1)=l:=by rw [<- List.drop_drop,hi];rfl
  have Vc:o∈ops.toList:=by have:=Array.mem_of_getElem? hoi;exact Array.mem_toList_iff.2 this
  have Z2:List.range' i (ops.size - i)=i::List.range' (i+1) (ops.size - (i+1)):=by
   have:ops.size - i=(ops.size - (i+1))+1:=by omega
   rw [this,List.range'_succ]
  have Ak:andThen (G3 P ctx ops l) (Fp ops o P ctx f h)=.ext id f' h':=he;cases ho:Fp ops o P ctx f h with
  |bad n=>rw [ho] at Ak;cases Ak
  |ret f1 h1=>rw [ho] at Ak;cases Ak
  |ext id1 f1 h1=>rw [ho] at Ak;cases Ak;obtain ⟨q0,σ',w',pv,q1,q2,q3,q4,q5⟩:=Ar2 hc Fs Ix (Fs o Vc) ho hs hb hl hf;grind
  |Bt f1 h1=>rw [ho] at Ak;have Cs:G3 P ctx ops l f1 h1=.ext id f' h':=Ak;have hle:h1.nx<=h'.nx:=Q5 (P:=P) hc.mono ops l f1 h1 f' h' (.inr (.inl ⟨id,Cs⟩));obtain ⟨f2,h2,e1,s1⟩:=Wn hc Fs Ix (Fs o Vc) ho (λn hn=>by cases hn) (λ_ _ _ hn=>by cases hn) hs hb;cases e1;obtain ⟨σ1,a1,w1,t1,t2,t3,t4⟩:=s1 om (hf.left hle);obtain ⟨q0,σ',a',w',pv,q1,q2,q3,q4,q5⟩:=ih (i+1) Aqu σ1 f1 a1 h1 w1 id f' h' Cs t1 t2 hl (hf.right t3);refine ⟨q0,σ',a',w',pv,q1,q2,t3.trans q3 hl,q4,λk cs Hq=>?_⟩;obtain ⟨rest,q6⟩:=q5 k cs Hq;rw [Z2];exact ⟨rest,(t4 i _ k cs hoi Hq).trans q6⟩
end Go.Ev
