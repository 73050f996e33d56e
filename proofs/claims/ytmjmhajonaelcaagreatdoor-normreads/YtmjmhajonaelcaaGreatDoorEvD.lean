/- Regions whose order is fixed. -/
import Derived.Test.YtmjmhajonaelcaaGreatDoorEvC
import Derived.KernelRfl
import Derived.Lib.Bytealg
set_option linter.all false
noncomputable section
namespace Go.Ev
variable {j:Array Value}{o:Nat}{I:Bool}{J:RC}
inductive Aef(ops:Array Oper):(Nat->Bool)->List Nat->Prop where
|nil (D:Nat->Bool) (h:∀i,i<ops.size->D i=true):Aef ops D []
|cons (D:Nat->Bool) (i:Nat) (o:Oper) (rest:List Nat) (ho:ops[i]?=some o) (hd:D i=false) (he:∀e∈o.after.toList,Region.binds .any e=true->D e.on=true)
 (hr:Aef ops (λj=>if j=i then true else D j) rest):Aef ops D (i::rest)
def P6(ops:Array Oper):Prop:=∀(i:Nat) (o:Oper),ops[i]?=some o->∀e∈o.after.toList,Region.binds .any e=true->e.on<i
def D0(n:Nat)(D:Nat->Bool):Nat:=((List.range n).filter λi=>!D i).length
def Oc n D:D0 (n+1) D=D0 n D+if D n=true then 0 else 1:=by unfold D0;rw[List.range_succ,List.filter_append,Yl];grind
def AdV i D(hd:D i=false) n:(i<n->D0 n (λj=>if j=i then true else D j)+1=D0 n D)/\(n<=i->D0 n (λj=>if j=i then true else D j)=D0 n D):=by induction n with
|zero=>exact⟨λc=>absurd c om,λ_=>rfl⟩
|succ n d=>rw[Oc,Oc];grind
def Tm{n}{D}(h:D0 n D=0):∀i,i<n->D i=true:=by intro i hi;cases hd:D i with
|true=>rfl
|false=>
 have:0<D0 n D:=by exact List.length_pos_of_mem (bk.2 ⟨Oa.2 hi,by grind⟩)
 omega
def Akd{n}{D}(h:D0 n D≠0):∃i,i<n/\D i=false/\∀j,j<i->D j=true:=by induction n with
|zero=>exact absurd rfl h
|succ n d=>
 by_cases c:D0 n D=0;. rw[Oc,c]at h;cases hd:D n with
   |true=>grind
   |false=>exact⟨n,by simp,hd,Tm c⟩
 grind
def Asb{ops:Array Oper}(I:P6 ops):∀(q t:Nat) (c:Array Bool) (d:uq),c.size=ops.size->D0 ops.size (λi=>c.getD i true)=q ->
 ∃l,Region.linearise.go .any ops q t c d=d.reverse++l/\Aef ops (λi=>c.getD i true) l:=by intro q;induction q with
 |zero=>intro t c d L hc;exact⟨[],by simp[Region.linearise.go],.nil _ (Tm hc)⟩
 |succ q W=>
  intro t c d L hc;obtain⟨m,m1,R,S⟩:=Akd (n:=ops.size) (D:=λi=>c.getD i true) (by rw[hc];simp);have z:ops[m]?=some ops[m]:=S2 m1;have y:∀(j:Nat),j<ops.size->c.getD j true=c.getD j false:=by
   intro j hj;have:j<c.size:=by omega
   simp[Array.getD,this]
  simp only[Region.linearise.go];generalize u:((List.range ops.size).filter λi=>!c.getD i true&&((ops[i]?).map (·.after.all λe=>!Region.binds .any e||c.getD e.on false)).getD false)=rs;have Q:∀i∈rs,∃o,ops[i]?=some o/\c.getD i true=false/\∀e∈o.after.toList,Region.binds .any e=true->c.getD e.on true=true:=by intro i hi;rw[<- u,bk,Oa]at hi;obtain⟨h1,A⟩:=hi;rw[Wx]at A;have r:ops[i]?=some ops[i]:=S2 h1;rw[r]at A;refine⟨_,r,by simpa using A.1,λe B p=>?_⟩;have K:=A.2;simp only[dy,C8]at K;have J:=(Array.all_eq_true'.1 K) e (by simpa using B);rw[p]at J;have M:=I i _ r e B p;rw[y _ om];simpa using J
  have U:m∈rs:=by rw[<- u,bk,Oa];refine⟨m1,?_⟩;rw[Wx];refine⟨by simpa using R,?_⟩;rw[z];simp only[dy,C8];refine Array.all_eq_true'.2 λe B=>?_;cases p:Region.binds .any e with
   |false=>rfl
   |true=>have M:=I m _ z e (by simpa using B) p;have:=S e.on M;rw[y _ om]at this;simpa using this
  have x:0<rs.length:=List.length_pos_of_mem U;have X:rs[t%rs.length]?=some (rs[t%rs.length]'(Rl _ x)):=Oh _;rw[X];generalize hi:rs[t%rs.length]'(Rl _ x)=i;have V:i∈rs:=by rw[<- hi];exact dl _
  obtain⟨o,r,hd,F⟩:=Q i V;have E:i<ops.size:=(Lp.1 r).1;have s:(λj=>(c.setIfInBounds i true).getD j true)=λj=>if j=i then true else c.getD j true:=by
   funext j;by_cases hj:j=i
   .subst hj;have:j<c.size:=by omega
    simp[Array.getD,this]
   .simp only[Ak,X2 hj];rw[aj (Ne.symm hj)]
  dsimp only;have C:D0 ops.size (λj=>(c.setIfInBounds i true).getD j true)=q:=by rw[s];have:=(AdV i (λj=>c.getD j true) hd ops.size).1 E;rw[hc]at this;omega
  obtain⟨l,T,O⟩:=W (t/rs.length) (c.setIfInBounds i true) (i::d) (by simp[L]) C;refine⟨i::l,by rw[T];simp,.cons _ i o l r hd F ?_⟩;rw[s]at O;exact O
def Aod{ops}(c:P6 ops) t:Aef ops (λi=>(Array.replicate ops.size false).getD i true) (Region.schedule true ops t):=by
 have hc:D0 ops.size (λi=>(Array.replicate ops.size false).getD i true)=ops.size:=by
  unfold D0;rw[List.filter_eq_self.2];. simp
  simp_all
 obtain⟨l,d,e⟩:=Asb c _ t _ [] (by simp) hc;have:Region.schedule true ops t=l:=by simp only[Region.schedule,Bool.true_or,Jr,Region.linearise,d];simp
 grind
variable {P:Program}{h h':H}{v:AV}{f:L2}{Z:Ac}
def A5(h:H)(r:OR):Prop:=∀v h',r=.ok v h'->h.nx<=h'.nx
def A5.bad n:A5 h (.bad n):=λv h' c=>by grind
def A5.same v:A5 h (.ok v h):=λv h' c=>by grind
def A5.put v b o:A5 h (.ok v (h.put b o)):=λv h' c=>by cases c;exact Ye _
def A5.A9V v b c o p:A5 h (.ok v ((h.put b o).put c p)):=λv h' d=>by cases d;exact Ye _
def A5.new v o:A5 h (.ok v (h.new o)):=λv h' c=>by cases c;exact U3 _
def A5.mk o v:A5 h (mk h o v):=A5.new v o
def A5.Azy v o p:A5 h (.ok v ((h.new o).new p)):=λv h' c=>by cases c;show h.nx<=h.nx+1+1;omega
def A5.ver v b c o p q:A5 h (.ok v (((h.put b o).put c p).new q)):=λv h' d=>by cases d;exact U3 _
def A5.ite{x y:OR}(e:A5 h x)(d:A5 h y):A5 h (Bool.rec y x I):=by cases I<;>assumption
def A5.Py x:A5 h (Py x h):=by cases x;exact .bad _;exact .same _
def A5.Ly x:A5 h (Ly x h):=by cases x;exact .bad _;exact .same _
def A5.Uv x:A5 h (Uv x h):=by cases x;exact .bad _;exact .same _
def A5.AdR x e:A5 h (AdR x e h):=by cases x;exact .bad _;exact .new _ _
def A5x{b off}{i}(e:h.wr b off i=.ok h'):h'.nx=h.nx:=by rcases AiL e with⟨c,t,d,_,_,rfl⟩|⟨c,t,k,n,d,_,_,_,rfl⟩<;>rfl
def A5.wr(b off:Nat)(c:uw)(g:H->AV):A5 h (RH.rec OR.bad (λh'=>.ok (g h') h') (h.wr b off c)):=by
 cases d:h.wr b off c with
 |bad n=>exact .bad n
 |ok i=>exact λv h' e=>by cases e;rw[A5x d];exact Ye _
structure Dw(Z:Ac):Prop where
 call:∀g as h,A5 h (Z.call g as h)
 round:∀l as h,A5 h (Z.round l as h)
def An0(op:BinOp)(k:IntKind)(a:Int)(k':IntKind)(b:Int):A5 h (AqP op k a k' b h):=by
 cases op;all_goals first
  |exact A5.bad _
  |exact A5.ite (.same _) (.bad _)
  |exact A5.ite (.ite (.bad _) (.same _)) (.bad _)
  |skip
 all_goals (show A5 h _;dsimp only[AqP,AtZ,Aua];split)
 all_goals first
  |exact A5.bad _
  |exact A5.same _
  |exact A5.ite (.ite (.ite (.same _) (.bad _)) (.bad _)) (.bad _)
def An2 op a b:A5 h (AuB op a b h):=by cases op<;>first|exact A5.bad _|exact A5.same _|exact A5.ite (.same _) (.bad _)
def Aic x y op t c:A5 h (Ij x y op t c P h):=by
 unfold Ij;split;. refine A5.ite ?_ (.bad _);split;exact .same _;exact .bad _
 .refine A5.ite ?_ (.bad _);split;exact .same _;exact .bad _
 .exact .bad _
def Anx x y op t c:A5 h (Atc x x y op t c P h):=by
 cases x;case int k n=>cases y<;>first|exact A5.bad _|exact An0 _ _ _ _ _
 case str s=>cases y<;>first|exact A5.bad _|exact An2 _ _ _
 case top=>exact .bad _
 all_goals exact Aic _ _ _ _ _
def An1 x i:A5 h (ldV x i h):=by
 cases x;case ptr b o=>show A5 h (ldC _ i o h);cases h.rd b with
  |none=>exact .bad _
  |some c=>cases i with
   |none=>exact .bad _
   |some j=>cases j;exact .Py _;exact .Ly _
 all_goals exact .bad _
def Akk x cs n:A5 h (stV x cs n h):=by
 cases x;case ptr b o=>
  show A5 h (stC _ n b o h);unfold stC;split;. exact .ite (.ite (.wr _ _ _ _) (.bad _)) (.bad _)
  .exact .bad _
 all_goals exact .bad _
def Aid t m k x ty:A5 h (E6 t m k x ty P Z f h):=by unfold E6;repeat (first|exact A5.bad _|exact A5.put _ _ _|split)
def AfR s d x ty:A5 h (Ml s d x ty P Z f h):=by unfold Ml;repeat (first|exact A5.bad _|exact A5.same _|exact A5.ite (.Azy _ _ _) (.bad _)|exact A5.ite (.same _) (.bad _)|split)
def An3 b off cap sz ex l u:A5 h (AkE b off cap sz ex l u h):=
 .ite (.ite (.ite (.same _) (.ite (.same _) (.ite (.same _) (.same _)))) (.bad _)) (.bad _)
def AcM b off cap sz l u c:A5 h (Amj b off cap sz l u c h):=.ite (.ite (.ite (.same _) (.bad _)) (.bad _)) (.bad _)
def Aki s l u:A5 h (Ai9 s l u h):=by
 unfold Ai9;split;. exact .ite (.ite (.same _) (.bad _)) (.bad _)
 .exact .bad _
def Akj t x lo hi mx ty:A5 h (Aac t x lo hi mx ty P Z f h):=by refine .ite ?_ (.bad _);unfold G5;repeat (first|exact A5.bad _|exact A5.same _|exact Aki _ _ _|exact A5.ite (An3 _ _ _ _ _ _ _) (.bad _)|exact A5.ite (AcM _ _ _ _ _ _ _) (.bad _)|exact AcM _ _ _ _ _ _ _|split)
def Ard i x n:A5 h (iaX i x n h):=by
 cases i;case sl i=>cases n with
  |none=>exact .bad _
  |some n=>cases x<;>first|exact A5.bad _|exact A5.ite (.same _) (.bad _)
 case arr len i=>cases n with
  |none=>exact .bad _
  |some n=>cases x<;>first|exact A5.bad _|exact A5.ite (.same _) (.bad _)
 all_goals exact .bad _
def Aib st s x:A5 h (Xa P st s x h):=by
 unfold Xa;split
 .split
  .split;. exact .ite (.same _) (.ite (.ite (.Azy _ _ _) (.bad _)) (.bad _))
   .refine .ite (.ite (.ite (.ite ?_ (.ite ?_ ?_)) (.bad _)) (.bad _)) (.bad _);. rename_i new _ _ _ _ _ _ _ _ _;cases new with
      |nil=>exact .same _
      |cons y l=>exact .wr _ _ _ _
    .unfold Sf;repeat (first|exact A5.bad _|exact A5.Azy _ _ _|split)
    .unfold Ny;repeat (first|exact A5.bad _|exact A5.ite (.ite (.ite (.ver _ _ _ _ _ _) (.bad _)) (.bad _)) (.bad _)|split)
   .exact .bad _
  .exact .bad _
 .exact .bad _
def Are(k:LK)(x:AV):A5 h (lnK k x h):=by
 cases k;case str=>cases x<;>first|exact A5.bad _|exact A5.same _
 case sl=>cases x<;>first|exact A5.bad _|exact A5.same _
 case bad=>exact .bad _
def AlV lt l:A5 h (mm lt l h):=by unfold mm;repeat (first|exact A5.bad _|exact A5.same _|split)
def Anz dt d x:A5 h (Ahh P dt d x h):=by unfold Ahh;repeat (first|exact A5.bad _|exact A5.same _|exact A5.ite (.wr _ _ _ _) (.bad _)|split)
def Aum(t:TypeId)(p n:AV):A5 h (usV P t p n h):=by unfold usV;repeat (first|exact A5.bad _|exact A5.same _|exact A5.ite (.ite (.ite (.A9V _ _ _ _ _) (.bad _)) (.bad _)) (.bad _)|exact A5.ite (.ite (.ite (.put _ _ _) (.bad _)) (.bad _)) (.bad _)|split)
def AfQ(b:Builtin)(ts:List TypeId)(args:uw):A5 h (J8 b ts args P h):=by
 unfold J8;split;case h_1=>split;exact .ite (Aib _ _ _) (.bad _);exact .bad _
 case h_2=>split;exact Are _ _;exact .bad _
 case h_3=>split;exact Anz _ _ _;exact .bad _
 case h_4=>exact AlV _ _
 case h_5=>exact AlV _ _
 case h_6=>
  split
  .unfold sdV;repeat (first|exact A5.bad _|exact A5.same _|exact A5.ite (.bad _) (.same _)|split)
  .exact .bad _
 case h_7=>split;exact Aum _ _ _;exact .bad _
 case h_8=>exact .bad _
def AcI(hc:Dw Z) g args:A5 h (Aeg P Z g args h):=by refine .ite (hc.call _ _ _) ?_;unfold AgK;repeat (first|exact A5.bad _|exact A5.same _|split)
def AcJ(hc:Dw Z) r name args:A5 h (Hn P Z r name args h):=by unfold Hn;repeat (first|exact A5.bad _|exact AcI hc _ _|split)
def AfP(hc:Dw Z) fn cap args:A5 h (M6 P Z fn cap args h):=by unfold M6;repeat (first|exact A5.bad _|exact AcI hc _ _|exact AcJ hc _ _ _|exact hc.round _ _ _|split)
def Arf(hc:Dw Z)(o:Op)(ty:TypeId)(h:H):A5 h (opD o ty P Z f h):=by
 cases o;case move x=>exact .same _
 case assign x=>exact .same _
 case pick c a b=>
  show A5 h (Bo (ev c f) (ev a f) (ev b f) h);cases ev c f;case bool q=>cases q<;>exact .same _
  all_goals exact .bad _
 case alloc e=>exact .AdR _ _
 case box e x=>exact .AdR _ _
 case build t parts=>show A5 h (Tg t parts ty P Z f h);unfold Tg;split<;>first|exact .Ly _|exact .bad _
 case buildSlice t n parts=>show A5 h (Gz t n parts ty P Z f h);unfold Gz;repeat (first|exact A5.bad _|exact A5.ite (.mk _ _) (.bad _)|split)
 case insert t m k x=>exact Aid (Z:=Z) t m k x ty
 case load t x=>exact An1 _ _
 case store t x y=>exact Akk _ _ _
 case nilCheck x=>exact .ite (.same _) (.bad _)
 case binOp op t x y yt=>exact Anx _ _ _ _ _
 case unOp op t x=>show A5 h (AaP op t x ty P Z f h);unfold AaP;repeat (first|exact A5.bad _|exact A5.same _|split)
 case convert s d x=>exact AfR (Z:=Z) s d x ty
 case makeInterface t x=>exact .ite (.same _) (.bad _)
 case makeFunc fn x y=>show A5 h (Jt fn x y ty P Z f h);unfold Jt;repeat (first|exact A5.bad _|exact A5.same _|split)
 case makeMap t r=>cases r;exact .mk _ _;exact .bad _
 case makeSlice t x y=>show A5 h (H5 t x y ty P Z f h);unfold H5;repeat (first|exact A5.bad _|exact A5.ite (.ite (.mk _ _) (.bad _)) (.bad _)|split)
 case slice t x lo hi mx=>exact Akj (Z:=Z) t x lo hi mx ty
 case fieldAddr t x i=>
  show A5 h (Option.rec (λ_ _=>.bad 85) (λd x h=>Bs x d h) (Wa P t i) (ev x f) h);cases Wa P t i with
  |none=>exact .bad _
  |some d=>show A5 h (Bs (ev x f) d h);cases ev x f<;>first|exact A5.bad _|exact A5.same _
 case field t x i=>
  show A5 h (Ti t x i ty P Z f h);unfold Ti;split
  .exact .Py _
  .exact .bad _
 case indexAddr t x i=>exact Ard _ _ _
 case index t x i=>
  show A5 h (Tj t x i ty P Z f h);unfold Tj;split
  .cases ev x f<;>first|exact A5.bad _|exact A5.Uv _
  .split
   .exact .ite (.Py _) (.bad _)
   .exact .bad _
  .exact .bad _
 case lookup t x i ok=>show A5 h (Pe t x i ok ty P Z f h);unfold Pe;repeat (first|exact A5.bad _|exact A5.same _|split)
 case typeAssert x t ast ok=>show A5 h (G0 x t ast ok ty P Z f h);unfold G0;repeat (first|exact A5.bad _|exact A5.ite (.same _) (.bad _)|exact A5.ite (.same _) (.ite (.same _) (.bad _))|split)
 case extract x i=>show A5 h (L9 (ev x f) i h);cases ev x f<;>first|exact A5.bad _|exact A5.Py _
 case call c=>
  show A5 h (ceD c.callee c.args.toList c.argTypes.toList P Z f h);cases c.callee with
  |value g=>show A5 h (cvV (ev g f) (W1 c.args.toList f) P Z h);cases ev g f<;>first|exact A5.bad _|exact AfP hc _ _ _
  |invoke r name=>exact AcJ hc _ _ _
  |builtin b=>
   show A5 h (Aa5 b c.args.toList c.argTypes.toList P Z f h);unfold Aa5;split
   .unfold AnS;split;exact .same _;exact .bad _
   .exact AfQ _ _ _
 case panic x=>
  show A5 h (Aga (ev x f) h);unfold Aga;split
  .exact λv h' j=>by cases j
  .exact .bad _
 all_goals exact .bad _
def Ei(h:H)(r:RC):Prop:=∀f' h',(r=.Bt f' h'\/(∃i,r=.ext i f' h')\/r=.ret f' h')->h.nx<=h'.nx
def Ei.bad n:Ei h (.bad n):=λf' h' c=>by grind
def Ei.Bt f(d:h.nx<=h'.nx):Ei h (.Bt f h'):=λf' e c=>by grind
def Ei.ext i f(d:h.nx<=h'.nx):Ei h (.ext i f h'):=λf' e c=>by grind
def Ei.ret f(d:h.nx<=h'.nx):Ei h (.ret f h'):=λf' e c=>by grind
def Ei.ite{y:RC}(e:Ei h J)(d:Ei h y):Ei h (Bool.rec y J I):=by cases I<;>assumption
def Ei.andThen{r}{k}(c:Ei h r)(d:∀f' h',Ei h' (k f' h')):Ei h (andThen k r):=by cases r with
|bad n=>exact .bad n
|Bt f' h'=>have:=c _ _ (.inl rfl);intro j l e;exact Ol this (d _ _ _ _ e)
|ext i f' h'=>exact c
|ret f' h'=>exact c
def Ei.Akx{r}{o} d f(e:A5 h r):Ei h (Akx d f h o r):=by cases r with
|bad n=>exact .bad n
|ok v h'=>exact .Bt _ (e v _ rfl)
|Hb v h'=>refine .ite ?_ (.bad _);cases c:Nat.ble .. with
 |false=>exact .bad _
 |true=>exact .ext _ _ (G2 c)
def Aie(hc:Dw Z) o:Ei h (Ame o P Z f h):=by show Ei h (op1 o _ _ P _ f h);unfold op1;cases Ie _ with
|none=>exact .Akx _ _ (Arf hc _ _ _)
|some c=>
 show Ei h (Th c _ _ P _ f h);unfold Th;split
 .unfold Ace;split;. exact .Bt _ (Ye _)
  .exact .bad _
 .exact .bad _
def Wk(hc:Dw Z) ops o:Ei h (Fp ops o P Z f h):=by show Ei h (AjD _ o P _ f h);cases guardOf _ o with
|always=>exact Aie hc o
|on t want=>show Ei h (Amo _ o P _ f h);cases Adq .. with
 |yes=>exact Aie hc o
 |no=>exact .Bt _ (Ye _)
 |bad=>exact .bad _
|bad=>exact .bad _
def Q5(hc:Dw Z) ops l:∀f h,Ei h (G3 P Z ops l f h):=by induction l with
|nil=>exact λf h=>.Bt _ (Ye _)
|cons o l c=>exact λf h=>.andThen (Wk hc _ o) c
def Akh(hc:Dw Z)(ops:Array Oper)(lg:uq)(l:List DO):∀c f h,Ei h (Sp P Z ops lg l c f h):=by
 induction l with
 |nil=>exact λc f h=>.ite (.Bt _ (Ye _)) (.bad _)
 |cons o l j=>
  intro c f h;show Ei h (RC.rec RC.bad (λf' h'=>Sp P Z ops lg l (⟨o.bit,o.pr,wrote h.nx h'.lg,Gi P o.o.op f,h,h'⟩::c) f' h') (λ_ _ _=>.bad 184) (λ_ _=>.bad 184) (Fp ops o.o P Z f (Ab h)));have d:=Wk (P:=P) (f:=f) (h:=Ab h) hc ops o.o;cases q:Fp ops o.o P Z f (Ab h)with
  |bad n=>exact .bad n
  |Bt f' h'=>rw[q]at d;have h1:h.nx<=h'.nx:=d f' h' (.inl rfl);intro e p m;exact Ol h1 (j _ f' h' e p m)
  |ext i f' h'=>exact .bad _
  |ret f' h'=>exact .bad _
def A5o(hc:Dw Z)(ops:Array Oper)(f:L2)(h:H):Ei h (Ajt P Z ops f h):=by
 unfold Ajt;have c:=Q5 (P:=P) hc ops ops.toList f (Ab h);cases d:G3 P Z ops ops.toList f (Ab h)with
 |ext id f' h'=>exact .ext _ _ (c f' h' (.inr (.inl ⟨id,d⟩)))
 |_=>exact .bad _
def AlM{ops:Array Oper}{f:L2}{h:H}(d:Gk P Z ops f h=J)(e:∀n,J≠.bad n):AnB ops=true /\
 ((Sp P Z ops h.lg (M7 ops.toList 0 []) [] f h=J/\∃f' h',J=.Bt f' h')\/(Aqi ops=true/\∃id f' h1,G3 P Z ops ops.toList f (Ab h)=.ext id f' h1/\J=.ext id ((AyE (T8 ops.toList) f).set Jv (f'.get Jv)) (Be (Akm h1.lg h.lg) h1))):=by
 unfold Gk at d;cases hn:AnB ops with
 |false=>rw[hn]at d;exact absurd d.symm (e _)
 |true=>
  rw[hn]at d;refine⟨rfl,?_⟩;have c:Bjx (Bool.rec (.bad 184) (Ajt P Z ops f h) (Aqi ops)) (Sp P Z ops h.lg (M7 ops.toList 0 []) [] f h)=J:=d;cases hd:Sp P Z ops h.lg (M7 ops.toList 0 []) [] f h with
  |Bt f' h'=>rw[hd]at c;exact .inl ⟨c,f',h',c.symm⟩
  |ext i f' h'=>rw[hd]at c;exact absurd c.symm (e _)
  |ret f' h'=>rw[hd]at c;exact absurd c.symm (e _)
  |bad n=>
   rw[hd]at c;have l:(Bool.rec (.bad 184) (Ajt P Z ops f h) (Aqi ops):RC)=J:=c;cases m:Aqi ops with
   |false=>rw[m]at l;exact absurd l.symm (e _)
   |true=>
    rw[m]at l;have j:Ajt P Z ops f h=J:=l;unfold Ajt at j;cases o:G3 P Z ops ops.toList f (Ab h)with
    |ext id f' h1=>rw[o]at j;exact .inr ⟨rfl,id,f',h1,rfl,j.symm⟩
    |_=>rw[o]at j;exact absurd j.symm (e _)
def AmS{ops:Array Oper}{f f':L2}{h h':H}(hn:AnB ops=true)(c:Sp P Z ops h.lg (M7 ops.toList 0 []) [] f h=.Bt f' h'):Gk P Z ops f h=.Bt f' h':=by unfold Gk;rw[hn,c];rfl
def AcK{b}(d:∀f h,Ei h (b P Z f h)) k:∀f h,Ei h (Yd b P Z k f h):=by induction k with
|zero=>exact d
|succ k c=>exact λf h=>.andThen (c f h) c
def AcL(hc:Dw Z)(x:Operand)(e:Array Tmp)(as bd:Code)(u v:Fw):Ei h (AbV x e as bd u v P Z f h):=by
 have d:∀(g:FuncId) (a cap:uw) (fr f:L2) (h1:H),h.nx<=h1.nx->Ei h (Yu P Z g a cap e.toList as bd fr f h1):=by
  intro g a cap fr f h1 j;refine .ite ?_ (.bad _);unfold Mn;split
  .rename_i v c i;have:=hc.call _ _ _ v c i;have l:h1.nx+1<=c.nx:=this;split
   .refine .ite (.bad _) ?_;unfold Z4;split
    .exact .Bt _ (show h.nx<=c.nx by omega)
    .exact .ret _ (show h.nx<=c.nx by omega)
    .exact .ite (.bad _) (.ext _ _ (show h.nx<=c.nx by omega))
    .exact .bad _
   .exact .bad _
  .exact .bad _
  .exact .bad _
 unfold AbV;split
 .exact d _ _ _ _ _ _ (U3 _)
 .exact .bad _
def Lt(hc:Dw Z)(c:Code):∀f h,Ei h (exec c P Z f h):=by
 induction c with
 |skip=>exact λf h=>.Bt _ (Ye _)
 |region id ops r=>
  intro f h;cases r with
  |false=>exact Q5 hc ops ops.toList f h
  |true=>
   show Ei h (Gk P Z ops f h);unfold Gk;refine .ite ?_ (.bad _);have o:=Akh (P:=P) hc ops h.lg (M7 ops.toList 0 []) [] f h;show Ei h (Bjx _ _);cases hd:Sp P Z ops h.lg (M7 ops.toList 0 []) [] f h with
   |bad n=>exact .ite (A5o hc ops f h) (.bad _)
   |Bt f' h'=>rw[hd]at o;exact o
   |_=>exact .bad _
 |seq a b m d=>exact λf h=>.andThen (m f h) d
 |cond c a b m d=>
  intro f h;show Ei h (Al2 (ev c f) (exec a) (exec b) P Z f h);cases ev c f;case bool q=>cases q;exact d f h;exact m f h
  all_goals exact .bad _
 |block id a e=>
  intro f h;show Ei h (inBlock id (exec a P Z f h));have:=e f h;cases j:exec a P Z f h with
  |bad n=>exact .bad n
  |Bt f' h'=>rw[j]at this;exact this
  |ext i f' h'=>rw[j]at this;exact .ite (.Bt _ (this f' h' (.inr (.inl ⟨i,rfl⟩)))) this
  |ret f' h'=>rw[j]at this;exact this
 |loop a e=>exact λf h=>.andThen (AcK e 20 f h) (λ_ _=>.bad _)
 |rangeFunc x p as bd _ _=>exact λf h=>AcL hc x p as bd (exec as) (exec bd)
 |exit id=>exact λf h=>.ext _ _ (Ye _)
 |scope a e=>exact e
 |label l=>exact λf h=>.Bt _ (Ye _)
 |goto l=>exact λf h=>.bad _
 |ret=>exact λf h=>.ret _ (Ye _)
 |refuse w=>exact λf h=>.bad _
def H2(hc:Dw Z) ds:∀h h',D3 P Z ds h=.ok h'->h.nx<=h'.nx:=by induction ds with
|nil=>intro h h' c;cases c;simp
|cons d ds e=>
 intro h h' c;unfold D3 at c;split at c;. rename_i _ _ g a cap _;cases j:Bg P g with
   |false=>simp_all
   |true=>
    rw[j]at c;split at c;. rename_i v l i;exact Ol (hc.call _ _ _ v _ i) (e _ _ c)
    .cases c
    grind
 .split at c;. exact show h.nx<=h'.nx from e (h.put ..) _ c
  grind
 simp_all
def AaM(hc:Dw Z) rs:A5 h (finish P Z rs f h):=by
 unfold finish;split;. cases e:D3 P _ _ h with
   |bad n=>exact .bad _
   |ok i=>
    intro v h' d;have c:Gg P _ f _=.ok v _:=d;unfold Gg at c;split at c;. cases c;exact H2 hc _ h _ e
    grind
 .exact .bad _
def Aj9{rs}{c}(d:Gg P rs f c=.ok v h'):h'=c:=by unfold Gg at d;grind
def Aa8{rs}{d}(c:Gg P rs f d=.Hb v h'):False:=by unfold Gg at c;grind
def Acj{rs:List ResultVar}{id:Nat}(l:M8 P Z rs id f h=.ok v h'):id=Em/\∃g as cap ds m h1,f.get Br=.Bj (.fn (.func g) as cap::ds)/\Bg P g=true/\Aen P Z g (J0 as cap) (f.get Jv) h=.ok m h1/\h.nx<=h1.nx /\
 D3 P Z ds h1=.ok h'/\h1.nx<=h'.nx/\Gg P rs f h'=.ok v h':=by unfold M8 at l;cases o:Nat.beq id Em with
 |false=>simp_all
 |true=>
  rw[o]at l;refine⟨Ch o,?_⟩;have e:Xs P Z rs f h=.ok v h':=l;unfold Xs at e;split at e;. grind
  .rename_i d ds t;split at e;. rename_i g as cap j;cases p:Bg P g with
     |false=>simp_all
     |true=>
      rw[p]at e;have c:Yw P Z rs f ds h (Aen P Z g (J0 as cap) (f.get Jv) h)=.ok v h':=e;unfold Yw at c;split at c;. rename_i m h1 i;cases q:Nat.ble h.nx h1.nx with
        |false=>simp_all
        |true=>
         rw[q]at c;dsimp only at c;split at c;. rename_i n u;cases r:Nat.ble h1.nx n.nx with
           |false=>simp_all
           |true=>rw[r]at c;have s:Gg P rs f n=.ok v h':=c;have:=Aj9 s;subst this;have e1:=Aar t;have x:=Aaq j;rw[x]at e1;exact⟨g,as,cap,ds,m,h1,e1,p,i,G2 q,u,G2 r,s⟩
         grind
      .grind
      simp_all
   grind
  simp_all
def Aht{rs}{id}(e:M8 P Z rs id f h=.Hb v h'):id=Em/\f.get Br=.Bj []/\v=f.get Jv/\h'=h:=by unfold M8 at e;cases i:Nat.beq id Em with
|false=>simp_all
|true=>
 rw[i]at e;refine⟨Ch i,?_⟩;have d:=e;unfold Xs at d;split at d;. rename_i j;cases d;exact⟨Aar j,rfl,rfl⟩
 .split at d;. rename_i g as cap m;cases o:Bg P g with
    |false=>simp_all
    |true=>
     rw[o]at d;have c:=d;unfold Yw at c;split at c;. rename_i s h1 l;cases p:Nat.ble h.nx h1.nx with
       |false=>simp_all
       |true=>
        rw[p]at c;split at c;. rename_i n r;cases q:Nat.ble h1.nx n.nx with
          |false=>simp_all
          |true=>rw[q]at c;exact(Aa8 c).elim
        simp_all
     .grind
     grind
  grind
 simp_all
def AfS Z rs id:A5 h (M8 P Z rs id f h):=by intro v h' c;obtain⟨_,g,as,cap,ds,d,h1,_,_,_,e,_,i,_⟩:=Acj c;omega
def N9(hc:Dw Z) g as h:A5 h (Fy P Z g as h):=by unfold Fy;cases Ln P g with
|none=>exact .bad _
|some i=>refine .ite ?_ (.bad _);have j:=Lt (P:=P) hc i.body (Eu as 0 Az) h;intro v h' e;cases o:exec _ P _ _ h with
 |bad n=>rw[o]at e;cases e
 |Bt f' h1=>rw[o]at e j;have m:=j _ _ (.inl rfl);have d:=AaM (P:=P) (h:=h1) (f:=f') hc i.rs;have c:Agk g (finish P _ _ ..)=.ok v _:=e;cases hq:finish P _ _ .. with
  |bad n=>rw[hq]at c;cases c
  |ok v2 l=>rw[hq]at c d;cases c;exact Ol m (d _ _ rfl)
  |Hb v2 l=>rw[hq]at c;cases c
 |ext id f' h1=>rw[o]at e j;have m:=j _ _ (.inr (.inl ⟨_,rfl⟩));have c:Agk g (M8 P _ _ _ ..)=.ok v _:=e;have d:=AfS (P:=P) (h:=h1) (f:=f') Z i.rs id;cases hq:M8 P _ _ _ .. with
  |bad n=>rw[hq]at c;cases c
  |ok v2 l=>rw[hq]at c d;cases c;exact Ol m (d _ _ rfl)
  |Hb v2 l=>rw[hq]at c;cases c
 |ret f' h1=>rw[o]at e j;have m:=j _ _ (.inr (.inr rfl));have d:=AaM (P:=P) (h:=h1) (f:=f') hc i.rs;have c:Agk g (finish P _ _ ..)=.ok v _:=e;cases hq:finish P _ _ .. with
  |bad n=>rw[hq]at c;cases c
  |ok v2 l=>rw[hq]at c d;cases c;exact Ol m (d _ _ rfl)
  |Hb v2 l=>rw[hq]at c;cases c
def AaN{r} l(e:Ei h r):A5 h (Agg l r):=by
 have c:∀j h1,h.nx<=h1.nx->A5 h (endRound l j h1):=by
  intro j h1 d;unfold endRound;split;. intro v h' m;cases m;exact d
  .exact .bad _
 cases r with
 |bad n=>exact .bad _
 |Bt f' h'=>exact c _ _ (e _ _ (.inl rfl))
 |ext i f' h'=>exact .ite (.bad _) (c _ _ (e _ _ (.inr (.inl ⟨i,rfl⟩))))
 |ret f' h'=>exact c _ _ (e _ _ (.inr (.inr rfl)))
def Mj(hc:Dw Z) l as h:A5 h (Io P Z l as h):=by
 unfold Io;split
 .split
  .refine AaN l (.andThen (Lt hc _ _ _) ?_);intro f' h';unfold Age;split;. intro e d c;exact show h'.nx<=d.nx from Lt hc _ _ (h'.put l _) _ _ c
   .exact .bad _
  .exact .bad _
 .exact .bad _
def AeJ P d:Dw (A2N P d):=by induction d with
|zero=>exact⟨λ_ _ _=>.bad _,λ_ _ _=>.bad _⟩
|succ d c=>exact⟨N9 c,Mj c⟩
variable {g:L2}
def Zs{l}(d:∀x∈l,ev x f=ev x g):W1 l f=W1 l g:=by induction l with
|nil=>rfl
|cons x l c=>show ev x f::W1 l f=ev x g::W1 l g;grind
def Sq{place}:∀l,(∀p∈l,ev p.2 f=ev p.2 g)->∀cs,Xp place f l cs=Xp place g l cs:=by intro l;induction l with
|nil=>intro _ cs;rfl
|cons p l d=>intro c cs;obtain⟨i,x⟩:=p;have e:=c (i,x) (by simp);unfold Xp;grind
def Zl{x}(c:∀y,x=some y->ev y f=ev y g) d:bnd f x d=bnd g x d:=by cases x with
|none=>rfl
|some y=>show Vg _=Vg _;grind
def AnF(o:Op)(ty:TypeId)(hd:f.get Br=g.get Br)(j:∀x∈o.operands.toList,ev x f=ev x g):opD o ty P Z f h=opD o ty P Z g h:=by
 cases o;case move x=>have:=j x (by simp[Op.operands]);show OR.ok (ev x f) h=OR.ok (ev x g) h;rw[this]
 case assign x=>have:=j x (by simp[Op.operands]);show OR.ok (ev x f) h=OR.ok (ev x g) h;rw[this]
 case pick c a b=>have h1:=j c (by simp[Op.operands]);have q:=j a (by simp[Op.operands]);have C:=j b (by simp[Op.operands]);show Bo (ev c f) (ev a f) (ev b f) h=Bo (ev c g) (ev a g) (ev b g) h;rw[h1,q,C]
 case box e x=>have:=j x (by simp[Op.operands]);show AdR (cellsOf (ev x f)) e h=AdR (cellsOf (ev x g)) e h;rw[this]
 case build t parts=>
  have A:∀p∈parts.toList,ev p.2 f=ev p.2 g:=λp A=>j p.2 (by simp only[Op.operands,dz];exact⟨p,A,rfl⟩);show Tg t parts ty P Z f h=Tg t parts ty P Z g h;unfold Tg;split
  .rw[Sq _ A]
  .rw[Sq _ A]
  .rfl
 case buildSlice t n parts=>
  have A:∀p∈parts.toList,ev p.2 f=ev p.2 g:=λp A=>j p.2 (by simp only[Op.operands,dz];exact⟨p,A,rfl⟩);show Gz t n parts ty P Z f h=Gz t n parts ty P Z g h;unfold Gz;split
  .split
   .rw[Sq _ A]
   .rfl
  .rfl
 case insert t m k x=>have h1:=j m (by simp[Op.operands]);have q:=j k (by simp[Op.operands]);have C:=j x (by simp[Op.operands]);show E6 t m k x ty P Z f h=E6 t m k x ty P Z g h;unfold E6;rw[h1,q,C]
 case load t x=>have:=j x (by simp[Op.operands]);show ldV (ev x f) (Ft P t) h=ldV (ev x g) (Ft P t) h;rw[this]
 case store t x y=>have h1:=j x (by simp[Op.operands]);have q:=j y (by simp[Op.operands]);show stV (ev x f) (cellsOf (ev y f)) (F7 P t) h=stV (ev x g) (cellsOf (ev y g)) (F7 P t) h;rw[h1,q]
 case nilCheck x=>have h1:=j x (by simp[Op.operands]);show Uu x ty P Z f h=Uu x ty P Z g h;unfold Uu;rw[h1]
 case binOp op t x y yt=>have h1:=j x (by simp[Op.operands]);have q:=j y (by simp[Op.operands]);show AfX op t x y yt ty P Z f h=AfX op t x y yt ty P Z g h;unfold AfX;rw[h1,q]
 case unOp op t x=>have h1:=j x (by simp[Op.operands]);show AaP op t x ty P Z f h=AaP op t x ty P Z g h;unfold AaP;rw[h1]
 case convert s d x=>have h1:=j x (by simp[Op.operands]);show Ml s d x ty P Z f h=Ml s d x ty P Z g h;unfold Ml;rw[h1]
 case makeInterface t x=>have h1:=j x (by simp[Op.operands]);show Rb t x ty P Z f h=Rb t x ty P Z g h;unfold Rb;rw[h1]
 case makeFunc fn x y=>have h1:W1 x.toList f=W1 x.toList g:=Zs (λz D=>j z (by simp only[Op.operands,ad,W7];exact .inl D));have q:W1 y.toList f=W1 y.toList g:=Zs (λz D=>j z (by simp only[Op.operands,ad,W7];exact .inr D));show Jt fn x y ty P Z f h=Jt fn x y ty P Z g h;unfold Jt;rw[h1,q]
 case makeSlice t x y=>have h1:=j x (by simp[Op.operands]);have q:=j y (by simp[Op.operands]);show H5 t x y ty P Z f h=H5 t x y ty P Z g h;unfold H5;rw[h1,q]
 case slice t x lo hi mx=>
  have h1:=j x (by simp[Op.operands]);have q:∀y,lo=some y->ev y f=ev y g:=λy B=>j y (by simp[Op.operands,B]);have C:∀y,hi=some y->ev y f=ev y g:=λy B=>j y (by simp[Op.operands,B]);have E:∀y,mx=some y->ev y f=ev y g:=λy B=>j y (by simp[Op.operands,B]);have e:G5 t x lo hi mx ty P Z f h=G5 t x lo hi mx ty P Z g h:=by
   unfold G5;rw[h1];simp only[Zl q,Zl C,Zl E];cases Hp P t with
   |str=>rfl
   |bad=>rfl
   |arr n i=>rfl
   |sl i=>
    cases vL (ev x g)with
    |nil=>rfl
    |no=>rfl
    |yes b off len cap sz ex=>
     dsimp only;cases bnd g lo 0 with
     |none=>rfl
     |some l=>
      cases bnd g hi len with
      |none=>rfl
      |some u=>
       cases mx with
       |none=>rfl
       |some m=>dsimp only;rw[E m rfl]
  show Aac t x lo hi mx ty P Z f h=Aac t x lo hi mx ty P Z g h;unfold Aac;rw[e]
 case fieldAddr t x i=>have h1:=j x (by simp[Op.operands]);show Q9 t x i ty P Z f h=Q9 t x i ty P Z g h;unfold Q9;rw[h1]
 case field t x i=>have h1:=j x (by simp[Op.operands]);show Ti t x i ty P Z f h=Ti t x i ty P Z g h;unfold Ti;rw[h1]
 case indexAddr t x i=>have h1:=j x (by simp[Op.operands]);have q:=j i (by simp[Op.operands]);show Ra t x i ty P Z f h=Ra t x i ty P Z g h;unfold Ra;rw[h1,q]
 case index t x i=>have h1:=j x (by simp[Op.operands]);have q:=j i (by simp[Op.operands]);show Tj t x i ty P Z f h=Tj t x i ty P Z g h;unfold Tj;rw[h1,q]
 case lookup t x i ok=>have h1:=j x (by simp[Op.operands]);have q:=j i (by simp[Op.operands]);show Pe t x i ok ty P Z f h=Pe t x i ok ty P Z g h;unfold Pe;rw[h1,q]
 case typeAssert x t ast ok=>have h1:=j x (by simp[Op.operands]);show G0 x t ast ok ty P Z f h=G0 x t ast ok ty P Z g h;unfold G0;rw[h1]
 case extract x i=>have h1:=j x (by simp[Op.operands]);show Yi x i ty P Z f h=Yi x i ty P Z g h;unfold Yi;rw[h1]
 case call c=>
  have h1:W1 c.args.toList f=W1 c.args.toList g:=Zs (λz D=>j z (by simp only[Op.operands,Call.operands,ad,W7];exact .inr D));show ceD c.callee c.args.toList c.argTypes.toList P Z f h=ceD c.callee c.args.toList c.argTypes.toList P Z g h;cases hc:c.callee with
  |value z=>have q:ev z f=ev z g:=j z (by simp[Op.operands,Call.operands,hc]);show cvV (ev z f) (W1 c.args.toList f) P Z h=cvV (ev z g) (W1 c.args.toList g) P Z h;rw[h1,q]
  |invoke r name=>have q:ev r f=ev r g:=j r (by simp[Op.operands,Call.operands,hc]);show Hn P Z (ev r f) name (W1 c.args.toList f) h=Hn P Z (ev r g) name (W1 c.args.toList g) h;rw[h1,q]
  |builtin b=>
   show Aa5 b c.args.toList c.argTypes.toList P Z f h=Aa5 b c.args.toList c.argTypes.toList P Z g h;unfold Aa5;split
   .show AnS (vT (f.get Br)) h=AnS (vT (g.get Br)) h;rw[hd]
   .show J8 _ c.argTypes.toList (W1 c.args.toList f) P h=J8 _ c.argTypes.toList (W1 c.args.toList g) P h;rw[h1]
 case panic x=>have h1:=j x (by simp[Op.operands]);show Aga (ev x f) h=Aga (ev x g) h;rw[h1]
 all_goals rfl
structure FB where
 fn:FuncId
 kind:CallKind
 ro:Option Nat
def FB.at(b:FB)(a:Act)(todo:List Item):Frame:=
 { fn:=b.fn,tmps:=a.tmps,todo,defers:=a.defers,mode:=.run,kind:=b.kind,roundOf:=b.ro }
def FB.eval_at(b:FB) a todo:(b.at a todo).eval=a.eval:=rfl
def FB.finish_at(b:FB) a ops i rest k v:
 (b.at a (.inRegion ops (i::rest)::k)).finish v=b.at (a.put (ops[i]?.bind (·.dst)) v) (.inRegion ops rest::k):=by cases h:ops[i]?.bind _<;>simp[Frame.finish,FB.at,Act.put,h]
section A4E
variable {b:FB}{a:Act}{k:List Item}{cs:List Frame}{w:World}
def AzI:step P (lone (b.at a (.code .skip::k)) cs w)=.next (lone (b.at a k) cs w):=
 step_lone_go rfl
def AuE{l}:step P (lone (b.at a (.code (.label l)::k)) cs w)=.next (lone (b.at a k) cs w):=
 step_lone_go rfl
def Aoa{id}:step P (lone (b.at a (.inBlock id::k)) cs w)=.next (lone (b.at a k) cs w):=
 step_lone_go rfl
def AeQ{c}:step P (lone (b.at a (.inScope c::k)) cs w)=.next (lone (b.at a k) cs w):=
 step_lone_go rfl
def Aw0{x y}:step P (lone (b.at a (.code (.seq x y)::k)) cs w)=.next (lone (b.at a (.code x::.code y::k)) cs w):=
 step_lone_go rfl
def ArW{c}{x y}{t}(h:a.eval c=.bool t):
 step P (lone (b.at a (.code (.cond c x y)::k)) cs w)=.next (lone (b.at a (.code (if t then x else y)::k)) cs w):=
 step_lone_go (by have:=congrFun (FB.eval_at b a (.code (.cond c x y)::k)) c;simp[FB.at]at this;simp[stepG,stepG.exec,FB.at,this,h])
def Amg{id}{c}:step P (lone (b.at a (.code (.block id c)::k)) cs w)=.next (lone (b.at a (.code c::.inBlock id::k)) cs w):=
 step_lone_go rfl
def ArY{c}:step P (lone (b.at a (.code (.loop c)::k)) cs w)=.next (lone (b.at a (.code c::.inLoop c::k)) cs w):=
 step_lone_go rfl
def ArX{c}:step P (lone (b.at a (.inLoop c::k)) cs w)=.next (lone (b.at a (.code c::.inLoop c::k)) cs w):=
 step_lone_go rfl
def AbB{c}:step P (lone (b.at a (.code (.scope c)::k)) cs w)=.next (lone (b.at a (.code c::.inScope c::k)) cs w):=
 step_lone_go rfl
def AzH{id}{k'}(h:exitTo id k=some k'):step P (lone (b.at a (.code (.exit id)::k)) cs w)=.next (lone (b.at a k') cs w):=
 step_lone_go (by simp[stepG,stepG.exec,FB.at,h])
def Adg{id}{ops}:
 step P (lone (b.at a (.code (.region id ops false)::k)) cs w)=.next (lone (b.at a (.inRegion ops (List.range ops.size)::k)) cs w):=
 step_lone_go rfl
def AzG{id:Nat}{ops:Array Oper}:
 step P (lone (b.at a (.code (.region id ops true)::k)) cs w) =
  .next (lone (b.at a (.inRegion ops (Region.schedule (P.follows .mixedOrders) ops (w.tape w.drawn (.order b.fn id)))::k)) cs { w with drawn:=w.drawn+1 }):=
 step_lone_go (by simp[stepG,stepG.exec,FB.at,choose,Sem.run,Question.forced,Question.cut])
def Tv{ops}:step P (lone (b.at a (.inRegion ops []::k)) cs w)=.next (lone (b.at a k) cs w):=
 step_lone_go rfl
def Asa{ops}{i}{rest}(h:(ops[i]?.map (Region.wanted · (yielded ops a.tmps))).getD false=false):
 step P (lone (b.at a (.inRegion ops (i::rest)::k)) cs w)=.next (lone (b.at (a.put (ops[i]?.bind (·.dst)) undef) (.inRegion ops rest::k)) cs w):=by rw[<- FB.finish_at];exact step_lone_go (by have h':=h;simp[FB.at]at *;simp[stepG,stepG.exec,h'])
def Ai4{ops:Array Oper}{rest:uq}{i:Oper}(j:ops[o]?=some i)(e:Region.wanted i (yielded ops a.tmps)=true)(hd:b.ro=none\/∀c,i.op≠.defer c):
 stepG P true { frame:=b.at a (.inRegion ops (o::rest)::k),callers:=cs,status:=.running,dying:=none } w =
  stepG.apply P true (b.at a (.inRegion ops (o::rest)::k)) cs none (execOp a.eval i) w:=by
 have d:=FB.eval_at b a (.inRegion ops (o::rest)::k);simp only[FB.at]at d;rcases hd with hd|hd
 .rw[hd]at d;simp[stepG,stepG.exec,stepG.oper,Frame.oper?,FB.at,j,e,d,hd]
 .simp only[FB.at]at *
  simp only[stepG,stepG.exec,stepG.oper,Frame.oper?,j,e,d,dy,C8,Jr];split
  .rename_i c _ hc;exact absurd hc (hd c)
  .rfl
def AuJ{ops}{i}{rest}{o}{v'}{w'}(j:ops[i]?=some o)(e:Region.wanted o (yielded ops a.tmps)=true)(hd:b.ro=none\/∀c,o.op≠.defer c)
 (d:Ran P (execOp a.eval o) w v' w'):step P (lone (b.at a (.inRegion ops (i::rest)::k)) cs w)=.next (lone (b.at (a.put o.dst v') (.inRegion ops rest::k)) cs w'):=by
 have l:=FB.finish_at b a ops i rest k v';rcases d with d|⟨d,rfl⟩;. refine step_lone_go ?_;rw[Ai4 j e hd];simp[stepG.apply,Sem.runT_eq,Jr,d];simp_all
 .refine step_lone_go ?_;rw[Ai4 j e hd];simp[stepG.apply,Sem.runT_eq,Jr,d];simp[*]
def Amh{ops}{i}{rest}{o}{g}{args}{w'}(e:ops[i]?=some o)(d:Region.wanted o (yielded ops a.tmps)=true)(hd:b.ro=none\/∀c,o.op≠.defer c)
 (hr:(execOp a.eval o).run P w=.ok (.enter g args) w'):step P (lone (b.at a (.inRegion ops (i::rest)::k)) cs w)=.next (lone (Frame.enter P g args .normal) (b.at a (.inRegion ops (i::rest)::k)::cs) w'):=by refine step_lone_go ?_;rw[Ai4 e d hd];simp[stepG.apply,Sem.runT_eq,Jr,hr];rfl
def AuH{ops}{i}{rest}{o}{l}{g}{tmps}{as bd}{w'}(e:ops[i]?=some o)(d:Region.wanted o (yielded ops a.tmps)=true)(hd:b.ro=none\/∀c,o.op≠.defer c)
 (hr:(execOp a.eval o).run P w=.ok (.round l g tmps as bd) w'):step P (lone (b.at a (.inRegion ops (i::rest)::k)) cs w)=.next (lone (Frame.round l g tmps as bd .normal) (b.at a (.inRegion ops (i::rest)::k)::cs) w'):=by refine step_lone_go ?_;rw[Ai4 e d hd];simp only[stepG.apply,Sem.runT_eq,Jr,hr];rfl
def FB.back(b:FB)(a:Act)(todo:List Item):Frame:=
 { fn:=b.fn,tmps:=a.tmps,todo,defers:=a.defers,mode:=.returning,kind:=b.kind,roundOf:=none }
def Awz(c:b.ro=none):step P (lone (b.at a (.code .ret::k)) cs w)=.next (lone (b.back a (.code .ret::k)) cs w):=
 step_lone_go (by simp[stepG,stepG.exec,FB.at,FB.back,c])
def Awy(c:b.ro=none):step P (lone (b.at a []) cs w)=.next (lone (b.back a []) cs w):=
 step_lone_go (by simp[stepG,stepG.exec,FB.at,FB.back,c])
def ArV{fn}{v}{c}(hd:a.defers=[])(e:b.kind=.normal)(i:P.funcs[b.fn]?=some fn)(d:(results fn a.tmps).run P w=.ok v w):
 step P (lone (b.back a k) (c::cs) w)=.next (lone (c.finish v) cs w):=
 step_lone_go (by simp[stepG,unwind,doReturn,FB.back,hd,e,i,d])
def AuC{fn}{v}{c}(hd:a.defers=[])(e:b.kind=.deferred)(hc:c.mode=.returning)(i:P.funcs[b.fn]?=some fn)(d:(results fn a.tmps).run P w=.ok v w):
 step P (lone (b.back a k) (c::cs) w)=.next (lone c cs w):=
 step_lone_go (by simp[stepG,unwind,doReturn,FB.back,hd,e,i,d,hc])
def AuD{g:FuncId}{as:Array Value}{ds:List Deferred}{args:Array Value}{w':World}(hd:a.defers={ target:=.fn (.func g) j,args:=as }::ds)(d:(callFunc g (as++j)).run P w=.ok (.enter g args) w'):
 step P (lone (b.back a k) cs w)=.next (lone (Frame.enter P g args .deferred) (b.back ⟨a.tmps,ds⟩ k::cs) w'):=
 step_lone_go (by simp[stepG,unwind,callDeferred,FB.back,hd,invoke,Sem.runT_eq,d])
def AuI{ds:List Deferred}(hd:a.defers={ target:=.collected o,args:=#[] }::ds)(c:w.heap[o]?=some (.deferred (some []))):
 step P (lone (b.back a k) cs w)=.next (lone (b.back ⟨a.tmps,ds⟩ k) cs (Cc w o (.deferred none))):=by
 have e:=Dj c;have d:(Instr.takeDeferred o).run P w=.ok [] (Cc w o (.deferred none)):=by simp[Instr.takeDeferred,getObj,setObj,Sem.run,c,Cc]
 exact step_lone_go (by simp[stepG,unwind,FB.back,hd,Sem.runT_eq,d])
def Ak3{lp:Loop}{c:Frame}{d:Option Code}(e:b.ro=some o)(m:b.kind=.normal)(l:w.heap[o]?=some (.loop lp))
 (A4r:k=[]/\d=none\/(∃k',k=.code .ret::k'/\d=some .ret)\/∃id k',k=.code (.exit id)::k'/\exitTo id k'=none/\d=some (.exit id)):
 step P (lone (b.at a k) (c::cs) w)=.next (lone (c.finish (.bool d.isNone)) cs (Cc w o (.loop { lp with state:=if d.isNone then .ready else .done,pending:=d }))):=by
 have i:∀j,(Instr.endRound o j).run P w=.ok (.bool j.isNone) (Cc w o (.loop { lp with state:=if j.isNone then .ready else .done,pending:=j })):=by intro j;simp[Instr.endRound,Instr.getLoop,getObj,setObj,Sem.run,l,Cc]
 rcases A4r with⟨rfl,rfl⟩|⟨k',rfl,rfl⟩|⟨id,k',rfl,n,rfl⟩
 .exact step_lone_go (by simp[stepG,stepG.exec,FB.at,e,Sem.runT_eq,i,doReturn,m])
 .exact step_lone_go (by simp[stepG,stepG.exec,FB.at,e,Sem.runT_eq,i,doReturn,m])
 .exact step_lone_go (by simp[stepG,stepG.exec,FB.at,e,Sem.runT_eq,i,doReturn,m,n])
def Agi{lp:Loop}(c:b.ro=some o)(j:w.heap[o]?=some (.loop lp))(d:lp.state=.ready):
 step P (lone (b.at a (.beginRound::k)) cs w)=.next (lone (b.at a k) cs (Cc w o (.loop { lp with state:=.busy }))):=by
 have i:(do Instr.beginRound o;pure Next.skip:Sem Next).run P w=.ok .skip (Cc w o (.loop { lp with state:=.busy })):=by simp[Instr.beginRound,Instr.getLoop,getObj,setObj,Sem.run,j,d,Cc]
 refine step_lone_go ?_;have e:stepG P true { frame:=b.at a (.beginRound::k),callers:=cs,status:=.running,dying:=none } w=stepG.apply P true (b.at a (.beginRound::k)) cs none (do Instr.beginRound o;pure Next.skip:Sem Next) w:=by simp only[stepG,stepG.exec,FB.at,c];rfl
 rw[e];simp only[stepG.apply,Sem.runT_eq,Jr,i];simp[FB.at,Frame.finish]
def AeP{lp:Loop}(e:w.heap[o]?=some (.loop lp))(c:lp.state≠.busy):
 step P (lone (b.at a (.endRangeFunc o::k)) cs w)=.next (lone (b.at a ((lp.pending.map Item.code).toList++k)) cs (Cc w o (.loop { lp with state:=.exhausted }))):=by
 have j:(lp.state == LoopState.busy)=false:=by cases hq:lp.state<;>first|rfl|exact absurd hq c
 have d:(Instr.endLoop o).run P w=.ok lp.pending (Cc w o (.loop { lp with state:=.exhausted })):=by simp[Instr.endLoop,Instr.getLoop,getObj,setObj,Sem.run,e,j,Cc];exact λi=>absurd i c
 exact step_lone_go (by simp[stepG,stepG.exec,FB.at,Sem.runT_eq,d])
def AuG{x:Operand}{d:Array Tmp}{as bd:Code}{g:FuncId}{first args:Array Value}{w2:World}(o:b.ro=none)(p:a.eval x=.func (.func g) first j)
 (e:∀i,i=Dd (Dd w (.deferred (some []))) (.loop { state:=.ready,pending:=none,fn:=b.fn,tmps:=a.tmps,params:=d,assign:=as,body:=bd,defers:=w.heap.size }) ->
  (callFunc g (first.push (.func (.yield (w.heap.size+1)) #[] #[])++j)).run P i=.ok (.enter g args) w2):
 step P (lone (b.at a (.code (.rangeFunc x d as bd)::k)) cs w) =
  .next (lone (Frame.enter P g args .normal) (b.at ⟨a.tmps,{ target:=.collected w.heap.size,args:=#[] }::a.defers⟩ (.inRangeFunc (w.heap.size+1)::k)::cs) w2):=by
 have n:(Instr.enterLoop b.fn a.tmps d as bd none).run P w=.ok (w.heap.size+1,[{ target:=.collected w.heap.size,args:=#[] }]) (Dd (Dd w (.deferred (some []))) (.loop { state:=.ready,pending:=none,fn:=b.fn,tmps:=a.tmps,params:=d,assign:=as,body:=bd,defers:=w.heap.size })):=by simp[Instr.enterLoop,newObj,Sem.run,Dd];rfl
 have e:=e _ rfl;generalize Dd (Dd w (.deferred (some []))) (.loop { state:=.ready,pending:=none,fn:=b.fn,tmps:=a.tmps,params:=d,assign:=as,body:=bd,defers:=w.heap.size })=i at *
 have l:∀y c ds,({ fn:=b.fn,tmps:=a.tmps,todo:=c,defers:=ds,mode:=FrameMode.run,kind:=b.kind,roundOf:=none }:Frame).eval y=a.eval y:=by intro y c ds;cases y<;>rfl
 refine step_lone_go ?_;simp only[stepG,stepG.exec,FB.at,o,Sem.runT_eq,n];simp only[stepG.apply,Sem.runT_eq,Jr];have m:∀v,a.eval (.const v)=v:=λ_=>rfl;simp[resolve,l,p,m,Deferred.ofValue,invoke,e,Sem.run_bind,Result.andThen_ok];done
def Aoc{ops}{i}{rest}{o}{w'}(e:ops[i]?=some o)(d:Region.wanted o (yielded ops a.tmps)=true)(hd:b.ro=none)(hn:∀todo,tryRecover (b.at a todo) cs=none)
 (hr:(execOp a.eval o).run P w=.ok .recover w'):step P (lone (b.at a (.inRegion ops (i::rest)::k)) cs w)=.next (lone (b.at (a.put o.dst .nilIface) (.inRegion ops rest::k)) cs w'):=by have j:=FB.finish_at b a ops i rest k .nilIface;refine step_lone_go ?_;rw[Ai4 e d (.inl hd)];have c:(b.at a (.inRegion ops (i::rest)::k)).roundOf=none:=hd;simp[stepG.apply,Sem.runT_eq,Jr,hr,c,hn];simp[*]
def Ak5{ops}{i}{rest}{o}{d}{w'}(j:ops[i]?=some o)(c:Region.wanted o (yielded ops a.tmps)=true)(hd:b.ro=none)
 (hr:(execOp a.eval o).run P w=.ok (.defer d) w'):step P (lone (b.at a (.inRegion ops (i::rest)::k)) cs w)=.next (lone (b.at ((⟨a.tmps,d::a.defers⟩:Act).put o.dst undef) (.inRegion ops rest::k)) cs w'):=by have e:=FB.finish_at b ⟨a.tmps,d::a.defers⟩ ops i rest k undef;refine step_lone_go ?_;rw[Ai4 j c (.inl hd)];simp[stepG.apply,Sem.runT_eq,Jr,hr];simp[FB.at]at e ⊢;simp_all
def FB.Hb(b:FB)(a:Act)(todo:List Item)(v:Value)(rec:Bool):Frame:=
 { fn:=b.fn,tmps:=a.tmps,todo,defers:=a.defers,mode:=.panicking [{ v,recovered:=rec }],kind:=b.kind,roundOf:=b.ro }
def FB.raise_at(b:FB)(a:Act)(c:List Item)(v:Value):(b.at a c).raise [{ v,recovered:=false }]=b.Hb a c v false:=rfl
def AuF{ops}{i}{rest}{o}{v}{w'}(e:ops[i]?=some o)(d:Region.wanted o (yielded ops a.tmps)=true)(hd:∀c,o.op≠.defer c)
 (hr:(execOp a.eval o).run P w=.halt (.panic v) w'):step P (lone (b.at a (.inRegion ops (i::rest)::k)) cs w)=.next (lone (b.Hb a (.inRegion ops (i::rest)::k) v false) cs w'):=by refine step_lone_go ?_;rw[Ai4 e d (.inr hd)];simp[stepG.apply,Sem.runT_eq,Jr,hr];rfl
def ArZ{v:Value}{c:Frame}{fn:Func}(hd:a.defers=[])(d:P.funcs[b.fn]?=some fn):
 step P (lone (b.Hb a k v false) (c::cs) w)=.next (lone (c.raise [{ v,recovered:=false }]) cs w):=
 step_lone_go (by simp[stepG,unwind,FB.Hb,hd,Frame.catches,d])
def Ak4{v:Value}{g:FuncId}{as:Array Value}{ds:List Deferred}{args:Array Value}{w':World}(hd:a.defers={ target:=.fn (.func g) j,args:=as }::ds)(d:(callFunc g (as++j)).run P w=.ok (.enter g args) w'):
 step P (lone (b.Hb a k v false) cs w)=.next (lone (Frame.enter P g args .deferred) (b.Hb ⟨a.tmps,ds⟩ k v false::cs) w'):=
 step_lone_go (by simp[stepG,unwind,callDeferred,FB.Hb,hd,invoke,Sem.runT_eq,d])
def Ak6{ops}{i}{rest}{o}{w'}{b2:FB}{a2}{k2}{v}(j:ops[i]?=some o)(d:Region.wanted o (yielded ops a.tmps)=true)(hd:b.ro=none)(e:b.kind=.deferred)
 (hr:(execOp a.eval o).run P w=.ok .recover w'):step P (lone (b.at a (.inRegion ops (i::rest)::k)) (b2.Hb a2 k2 v false::cs) w)=.next (lone (b.at (a.put o.dst v) (.inRegion ops rest::k)) (b2.Hb a2 k2 v true::cs) w'):=by
 have m:=FB.finish_at b a ops i rest k v;refine step_lone_go ?_;rw[Ai4 j d (.inl hd)];have c:(b.at a (.inRegion ops (i::rest)::k)).roundOf=none:=hd;have l:tryRecover (b.at a (.inRegion ops (i::rest)::k)) (b2.Hb a2 k2 v false::cs)=some (v,b2.Hb a2 k2 v true::cs):=by unfold tryRecover;simp[FB.at,FB.Hb,e]
 simp[stepG.apply,Sem.runT_eq,Jr,hr,c,l];simp_all
def Amf{fn}{v j}{b2:FB}{a2}{k2}(hd:a.defers=[])(e:b.kind=.deferred)(i:P.funcs[b.fn]?=some fn)(c:(results fn a.tmps).run P w=.ok v w)(d:b2.ro=none):
 step P (lone (b.back a k) (b2.Hb a2 k2 j true::cs) w)=.next (lone (b2.back a2 k2) cs w):=
 step_lone_go (by simp[stepG,unwind,doReturn,FB.back,FB.Hb,hd,e,i,c,d])
end A4E
end Go.Ev
namespace Go.Ev
variable {j:Option Tmp}{o:Oper}{p:Array Value}{C:FuncId}{I:OR}
variable [Ii]
variable {P:Program}{G:Nat}{σ:Dx}{h h':H}{w w':World}{v:AV}{nt:Nat}{f:L2}{a:Act}{Z:Ac}{b:FB}{cs:List Frame}
def Calm(b:FB)(cs:List Frame):Prop:=b.kind=.normal\/(b.kind=.deferred/\∃c D7,cs=c::D7/\(c.mode=.returning\/∃v,c.mode=.panicking [{ v,recovered:=true }]))
def Calm.recover(hc:Calm b cs)(a:Act)(d:List Item):tryRecover (b.at a d) cs=none:=by
 rcases hc with e|⟨e,c,D7,rfl,i|⟨v,i⟩⟩
 .unfold tryRecover;simp[FB.at,e]
 .unfold tryRecover;simp[FB.at,e,i]
 .unfold tryRecover;simp[FB.at,e,i]
def RBk(b:FB)(σ:Dx)(f:L2):Prop:=
 (b.ro=none/\∃ds,f.get Br=.Bj ds)\/(b.kind=.normal/\∃c l e,b.ro=some c/\f.get Br=.map l/\σ l=some e/\e.c=c)
def Aed(P:Program)(G:Nat)(Z:Ac):Prop:=∀(g:FuncId) (args:uw) (h h':H) (v:AV) (σ:Dx) (w:World) (An:Array Value) (kind:CallKind),
 Z.call g args h=.ok v h'->Bg P g=true->Bk σ args An.toList->Ms G σ h w->Vm G σ->h'.nx<=Bq->Fx σ h h' ->
 ∃d v' w' c fn,P.funcs[g]?=some fn/\Au d v v'/\Out G σ h w d h' w'/\c.defers=[]/\(results fn c.tmps).run P w'=.ok v' w' /\
  ∀cs,Calm ⟨g,kind,none⟩ cs->∃k',Steps P (lone (Frame.enter P g An kind) cs w) (lone (FB.back ⟨g,kind,none⟩ c k') cs w')
def AbL(P:Program)(G:Nat)(Z:Ac):Prop:=∀(l:Nat) (args:uw) (h h':H) (v:AV) (σ:Dx) (w:World) (An:Array Value) (e:SE),
 Z.round l args h=.ok v h'->σ l=some e->Bk σ args An.toList->Ms G σ h w->Vm G σ->h'.nx<=Bq->Fx σ h h' ->
 ∃d v' w' g tmps as bd,Au d v v'/\Out G σ h w d h' w'/\(Instr.yield e.c An).run P w=.ok (.round e.c g tmps as bd) w /\
  ∀c cs,Steps P (lone (Frame.round e.c g tmps as bd .normal) (c::cs) w) (lone (c.finish v') cs w')
def AkQ(P:Program)(G:Nat)(Z:Ac):Prop:=∀(g:FuncId) (args:uw) (h h':H) (v:AV) (σ:Dx) (w:World) (An:Array Value),
 Z.call g args h=.Hb v h'->Bg P g=true->Bk σ args An.toList->Ms G σ h w->Vm G σ->h'.nx<=Bq->Fx σ h h' ->
 ∃d v' w',Au d v v'/\Out G σ h w d h' w'/\∀c cs,Steps P (lone (Frame.enter P g An .normal) (c::cs) w) (lone (c.raise [{ v:=v',recovered:=false }]) cs w')
structure Bd(P:Program)(G:Nat)(Z:Ac):Prop where
 call:Aed P G Z
 round:AbL P G Z
 mono:Dw Z
 Hb:AkQ P G Z
 Au7:∀l args h v h',Z.round l args h≠.Hb v h'
def AbK(P:Program)(b:FB)(o:Oper)(a:Act)(w:World)(v':Value)(w':World):Prop:=
 ∀(ops:Array Oper) (i:Nat) (rest:uq) (k:List Item) (cs:List Frame),ops[i]?=some o->Region.wanted o (yielded ops a.tmps)=true->Calm b cs ->
  Steps P (lone (b.at a (.inRegion ops (i::rest)::k)) cs w) (lone (b.at (a.put o.dst v') (.inRegion ops rest::k)) cs w')
def Afl(P:Program)(G:Nat)(Z:Ac)(o:Oper):Prop:=∀(σ:Dx) (nt:Nat) (f:L2) (a:Act) (h h':H) (w:World) (v:AV) (b:FB),
 opD o.op o.type P Z f h=.ok v h'->o.op.operands.toList.all (Es G)=true->St G σ nt f a h w->RBk b σ f->h'.nx<=Bq->Fx σ h h' ->
 ∃c v' w',Au c v v'/\Out G σ h w c h' w'/\AbK P b o a w v' w'
def Art(d:opD o.op o.type P Z f h=I)(e:∀n,I≠.bad n):∀c,o.op≠.defer c:=by intro c hc;rw[hc]at d;exact e _ d.symm
def AbK.ran{v':Value}(hd:∀c,o.op≠.defer c)(j:Ran P (execOp a.eval o) w v' w'):AbK P b o a w v' w':=by intro ops i rest k cs e d hc;exact .one (AuJ e d (.inr hd) j)
def R5.sound{o}(m:R5 P G o):Afl P G Z o:=by
 intro σ nt f a h h' w v b c De l q e d;have hd:=Art c λn hn=>by grind
 obtain⟨p,v',w',h1,i,j⟩:=m _ _ f a h _ w v _ c De l e d;exact⟨_,_,_,i,j,.ran hd h1⟩
def St.ms(c:St G σ nt f a h w):Ms G σ h w:=⟨c.ai,c.so,c.ma⟩
def AdS:Extern.allNextRows.lookup Jk=none:=by kernel_rfl
def Akq:Extern.allNextRows.lookup Mk=none:=by kernel_rfl
def AcP:Extern.allNextRows.lookup ""=none:=by kernel_rfl
def Afz:Extern.allGenericRows.lookup Jk=none:=by kernel_rfl
def AmH:Extern.allGenericRows.lookup Mk=none:=by kernel_rfl
def Adm:Extern.allTypedRows.lookup Jk=none:=by kernel_rfl
def AiG:Extern.allTypedRows.lookup Mk=none:=by kernel_rfl
def Agh:Extern.allRows.lookup Jk=some Extern.AbiNoEscape.same:=by kernel_rfl
def AnV:Extern.allRows.lookup Mk=some Extern.BytealgIndexByte.indexByte:=by kernel_rfl
def Ami c:∀l i,Ak9 c.toNat (l.map UInt8.toNat) i=if Lib.indexByte l c=-1 then -1 else Lib.indexByte l c+i
|[],i=>rfl
|x::l,i=>by
 have m:=Ami c l (i+1);have d:=Lib.indexByte_ge l c;show Bool.rec _ ..=_;unfold Lib.indexByte;by_cases j:x=c;. simp_all
 .have n:Nat.beq x.toNat c.toNat=false:=by cases e:Nat.beq .. with
   |false=>rfl
   |true=>exact absurd (UInt8.toNat_inj.1 (Ch e)) j
  simp_all;omega
def AmE{args:uw}{An:Array Value}(q:AgK (Uk P C) args h=.ok v h')(I:Bk σ args An.toList)(Q:Bg P C=false):
 ∃v',(callFunc C An).run P w=.ok (.value v') w/\Au σ v v'/\h'=h:=by
 unfold AgK at q;split at q
 .rename_i x d;obtain⟨rfl,rfl⟩:=B4 q;obtain⟨y,l,D,F,z⟩:=I.F8;have m:=z.Rt;subst m;have j:An=#[y]:=by have:=Jh List.toArray D;simpa using this
  subst j;unfold Uk at d;split at d
  .rename_i fn B;split at d
   .cases d
   .rename_i t;split at d
    .rename_i o;split at d
     .rename_i hn;refine⟨y,?_,F,rfl⟩;have r:fn.body=none:=by simpa using t
      have h1:Extern.findNext fn=none:=by simp[Extern.findNext,hn,o,AdS,AcP]
      have u:Extern.find fn=some Extern.AbiNoEscape.same:=by simp[Extern.find,hn,Afz,Adm,Agh]
      have M:(Extern.AbiNoEscape.same #[y]).run P w=.ok y w:=rfl;simp[callFunc,B,hn,r,h1,u,mark,Sem.run];rw[M];rfl
     .split at d<;>cases d
    .cases d
  .cases d
 .rename_i s c d;split at q
  .rename_i U n O hn;obtain⟨rfl,rfl⟩:=B4 q;have E:=Rj O;subst E;obtain⟨hc,R⟩:=Xg hn;subst hc;obtain⟨y,l,D,F,z⟩:=I.F8;obtain⟨S,T,rfl,A,m⟩:=z.F8;have g:=m.Rt;subst g;have j:An=#[y,S]:=by have:=Jh List.toArray D;simpa using this
   subst j;obtain⟨i,rfl,rfl⟩:=AuQ F;cases A;unfold Uk at d;split at d
   .rename_i fn B;split at d
    .cases d
    .rename_i t;split at d
     .rename_i o;split at d
      .cases d
      .rename_i J;split at d
       .rename_i p;have r:fn.body=none:=by simpa using t
        have h1:Extern.findNext fn=none:=by simp[Extern.findNext,p,o,Akq,AcP]
        have u:Extern.find fn=some Extern.BytealgIndexByte.indexByte:=by simp[Extern.find,p,AmH,AiG,AnV]
        refine⟨.int .i64 (Lib.indexByte i.data.toList (UInt8.ofNat n)),?_,?_,rfl⟩
        .have:=Lib.run_indexByteString (P:=P) i (Int.ofNat n) w;have e:(Int.ofNat n).toNat.toUInt8=UInt8.ofNat n:=rfl;rw[e]at this;simp[callFunc,B,p,r,h1,u,mark,Sem.run];rw[show(Extern.BytealgIndexByte.indexByte #[Value.string i,Value.int IntKind.u8 (↑n:Int)]).run P w=_ from this]
         rfl
        .have e:=Ami (UInt8.ofNat n) i.data.toList 0;have K:(UInt8.ofNat n).toNat=n:=by simp[UInt8.toNat_ofNat,dm R]
         rw[K]at e;have L:Ak9 n (bytesOf i) 0=Lib.indexByte i.data.toList (UInt8.ofNat n):=by
          show Ak9 n (i.data.toList.map UInt8.toNat) 0=_;rw[e];split
          .rename_i hq;exact hq.symm
          .simp
         rw[L];exact .int _ _
       .cases d
     .cases d
   .cases d
  .cases q
 .cases q
def R7(P:Program)(r:Result Next)(v':Value)(w':World):Prop:=
 r=.ok (.value v') w'\/(∃g args w0,r=.ok (.enter g args) w0/\∀c cs,Steps P (lone (Frame.enter P g args .normal) (c::cs) w0) (lone (c.finish v') cs w')) \/
  ∃l g tmps as bd w0,r=.ok (.round l g tmps as bd) w0/\∀c cs,Steps P (lone (Frame.round l g tmps as bd .normal) (c::cs) w0) (lone (c.finish v') cs w')
def AbK.next{o}{v'}(hd:∀c,o.op≠.defer c)(hn:R7 P ((execOp a.eval o).run P w) v' w'):AbK P b o a w v' w':=by
 rcases hn with hn|⟨g,args,w0,hn,j⟩|⟨l,g,tmps,as,bd,w0,hn,j⟩;. exact .ran hd (.inl hn)
 .intro ops i rest k cs e d hc;have m:=FB.finish_at b a ops i rest k v';refine .head (Amh e d (.inr hd) hn) ?_;grind
 .intro ops i rest k cs e d hc;have m:=FB.finish_at b a ops i rest k v';refine .head (AuH e d (.inr hd) hn) ?_;grind
def O3(d:Bg P C=true):∃fn c,P.funcs[C]?=some fn/\fn.body=some c/\(fn.name == "runtime.NumGoroutine")=false:=by
 unfold Bg at d;split at d
 .rename_i fn e;rw[Wx]at d;obtain⟨c,hc⟩:=Option.isSome_iff_exists.1 d.2;exact⟨fn,c,e,hc,by simpa using d.1⟩
 .cases d
def Ih{g}(i:Bg P g=true) args w:(callFunc g args).run P w=.ok (.enter g args) w:=by
 obtain⟨fn,c,h1,e,j⟩:=O3 i;have d:¬ fn.name = "runtime.NumGoroutine":=by grind
 simp[callFunc,h1,e,d,Sem.run]
def Aa0(hc:Bd P G Z){g}{args}{An}(d:Aeg P Z g args h=.ok v h')(m:Bk σ args An.toList)(e:Ms G σ h w)(u:Vm G σ)(p:h'.nx<=Bq)(n:Fx σ h h'):
 ∃l v' w',Au l v v'/\Out G σ h w l h' w'/\R7 P ((callFunc g An).run P w) v' w':=by
 rcases Bl d with⟨i,d⟩|⟨i,d⟩;. obtain⟨l,v',w',x,fn,h1,j,t,q,s,o⟩:=hc.call g _ h _ v _ w _ _ d i m e u p n;refine⟨_,_,_,j,t,.inr (.inl ⟨g,_,w,Ih i _ w,λc cs=>?_⟩)⟩;obtain⟨k',r⟩:=o _ (.inl rfl);exact r.trans (.one (ArV q rfl h1 s))
 .obtain⟨v',h1,j,rfl⟩:=AmE (w:=w) d m i;exact⟨_,_,w,j,Out.refl e.ai e.so e.ma,.inl h1⟩
def Adf{t:TypeId}{j:String}(c:Ls P t j=some C)(x:Value)(args:Array Value)(w:World):
 (callMethod (.iface t x) j args).run P w=(callFunc C (#[x]++args)).run P w:=by
 unfold Ls at c;split at c
 .rename_i i hi;split at c
  .rename_i m o;obtain⟨n,p⟩:∃n,P.types.size+Made.depth=n+1:=⟨P.types.size+99,rfl⟩;split at c
   .rename_i e q s r;cases c;have l:m.path=#[]:=by simpa using q
    simp[callMethod,p,method,typeInfo,hi,o,l,follow,s,receiverAt,underlying,r,Place.get]
   .cases c
   .rename_i d u q s r;cases c;have l:m.path=#[]:=by simpa using q
    cases d<;>first|(exact absurd rfl (u _))|simp[callMethod,p,method,typeInfo,hi,o,l,follow,s,receiverAt,underlying,r,Place.get]
   .cases c
  .cases c
 .cases c
def Aa1(hc:Bd P G Z){r}{j}{c}{args}{An}(d:Hn P Z r c args h=.ok v h')(n:Au σ r j)(o:Bk σ args An.toList)(m:Ms G σ h w)
 (hg:Vm G σ) (hl:h'.nx<=Bq) (hf:Fx σ h h'):∃l v' w',Au l v v'/\Out G σ h w l h' w'/\R7 P ((callMethod j c An).run P w) v' w':=by
 unfold Hn at d;split at d
 .rename_i t x p;have:=Pq p;subst this;cases n;rename_i x' e;split at d;. rename_i g i;rw[Adf i];exact Aa0 hc d (by simpa using Bk.cons e o) m hg hl hf
  grind
 grind
def Ad7(hc:Bd P G Z){fn:Fn}{cap args:uw}{An:Array Value}(j:∀l,fn≠.yield l)(c:M6 P Z fn cap args h=.ok v h')(e:Bk σ cap p.toList)(m:Bk σ args An.toList)
 (hm:Ms G σ h w) (hg:Vm G σ) (hl:h'.nx<=Bq) (hf:Fx σ h h'):∃i v' w',Au i v v'/\Out G σ h w i h' w'/\R7 P ((invoke (.fn fn p) An).run P w) v' w':=by
 unfold M6 at c;split at c
 .rename_i g;rw[Dl]at c;have:(invoke (.fn (.func g) p) An).run P w=(callFunc g (An++p)).run P w:=by simp[invoke]
  rw[this];exact Aa0 hc c (by simpa using m.append e) hm hg hl hf
 .exact absurd rfl (j _)
 .cases c
def ApM(hc:Bd P G Z){x}{x'}{args}{An}(i:cvV x args P Z h=.ok v h')(D:Au σ x x')(s:Bk σ args An.toList)(q:Ms G σ h w)(t:Vm G σ)(r:h'.nx<=Bq)
 (hf:Fx σ h h'):∃d,(∀w,(Deferred.ofValue x' An).run P w=.ok d w)/\∃m v' w',Au m v v'/\Out G σ h w m h' w'/\R7 P ((invoke d.target d.args).run P w) v' w':=by
 cases D<;>first|(cases i)|skip
 .rename_i fn as cs y D7 A B o j p;have c:M6 P _ _ _ _ h=.ok v _:=i;rw[Dl]at c;exact⟨_,λw=>rfl,Ad7 hc A c ⟨j,p⟩ (by simpa using Bk.append ⟨B,o⟩ s) q t r hf⟩
 .rename_i l e n;have c:=i;refine⟨_,λw=>rfl,?_⟩;obtain⟨m,v',w',g,tmps,as,bd,h1,u,C,z⟩:=hc.round l _ h _ v _ w _ e c n s q t r hf;refine⟨_,_,_,h1,u,.inr (.inr ⟨_,g,_,_,_,w,?_,z⟩)⟩;simp[invoke,C]
def R6(P:Program)(r:Result Next)(v':Value)(w':World):Prop:=
 r=.halt (.panic v') w'\/∃g args w0,r=.ok (.enter g args) w0/\∀c cs,Steps P (lone (Frame.enter P g args .normal) (c::cs) w0) (lone (c.raise [{ v:=v',recovered:=false }]) cs w')
def Ajn(P:Program)(b:FB)(o:Oper)(a:Act)(w:World)(v':Value)(w':World):Prop:=
 ∀(ops:Array Oper) (i:Nat) (rest:uq) (k:List Item) (cs:List Frame),ops[i]?=some o->Region.wanted o (yielded ops a.tmps)=true ->
  Steps P (lone (b.at a (.inRegion ops (i::rest)::k)) cs w) (lone (b.Hb a (.inRegion ops (i::rest)::k) v' false) cs w')
def Ajn.next{v':Value}(hd:∀c,o.op≠.defer c)(hn:R6 P ((execOp a.eval o).run P w) v' w'):Ajn P b o a w v' w':=by
 rcases hn with hn|⟨g,args,w0,hn,j⟩
 .exact λops i rest k cs e d=>.one (AuF e d hd hn)
 .intro ops i rest k cs e d;refine .head (Amh e d (.inr hd) hn) ?_;exact j (b.at a (.inRegion ops (i::rest)::k)) cs
def Apo{k:Nat}{args:uw}(c:AgK k args h=.Hb v h'):False:=by
 unfold AgK at c;split at c
 .cases c
 .split at c<;>cases c
 .cases c
def X8{c:Bool}{y:OR}(d:(Bool.rec y I c:OR)=.Hb v h'):(c=true/\I=.Hb v h')\/(c=false/\y=.Hb v h'):=by
 cases c
 .exact .inr ⟨rfl,d⟩
 .exact .inl ⟨rfl,d⟩
def Aeh(hc:Bd P G Z){g}{args}{An}(c:Aeg P Z g args h=.Hb v h')(o:Bk σ args An.toList)(i:Ms G σ h w)(p:Vm G σ)(m:h'.nx<=Bq)(j:Fx σ h h'):
 ∃e v' w',Au e v v'/\Out G σ h w e h' w'/\R6 P ((callFunc g An).run P w) v' w':=by
 rcases X8 c with⟨d,c⟩|⟨d,c⟩;. obtain⟨e,v',w',n,q,l⟩:=hc.Hb g _ h _ v _ w _ c d o i p m j;exact⟨_,_,_,n,q,.inr ⟨g,_,w,Ih d _ w,l⟩⟩
 .exact(Apo c).elim
def Aei(hc:Bd P G Z){r}{j}{c}{args}{An}(d:Hn P Z r c args h=.Hb v h')(n:Au σ r j)(o:Bk σ args An.toList)(m:Ms G σ h w)
 (hg:Vm G σ) (hl:h'.nx<=Bq) (hf:Fx σ h h'):∃l v' w',Au l v v'/\Out G σ h w l h' w'/\R6 P ((callMethod j c An).run P w) v' w':=by
 unfold Hn at d;split at d
 .rename_i t x p;have:=Pq p;subst this;cases n;rename_i x' e;split at d;. rename_i g i;rw[Adf i];exact Aeh hc d (by simpa using Bk.cons e o) m hg hl hf
  grind
 grind
def AgL(hc:Bd P G Z){fn:Fn}{cap args:uw}{An:Array Value}(j:∀l,fn≠.yield l)(c:M6 P Z fn cap args h=.Hb v h')(e:Bk σ cap p.toList)(m:Bk σ args An.toList)
 (hm:Ms G σ h w) (hg:Vm G σ) (hl:h'.nx<=Bq) (hf:Fx σ h h'):∃i v' w',Au i v v'/\Out G σ h w i h' w'/\R6 P ((invoke (.fn fn p) An).run P w) v' w':=by
 unfold M6 at c;split at c
 .rename_i g;rw[Dl]at c;have:(invoke (.fn (.func g) p) An).run P w=(callFunc g (An++p)).run P w:=by simp[invoke]
  rw[this];exact Aeh hc c (by simpa using m.append e) hm hg hl hf
 .exact absurd rfl (j _)
 .cases c
def AxL(hc:Bd P G Z){x}{x'}{args}{An}(e:cvV x args P Z h=.Hb v h')(u:Au σ x x')(s:Bk σ args An.toList)(n:Ms G σ h w)(t:Vm G σ)(o:h'.nx<=Bq)
 (hf:Fx σ h h'):∃d,(∀w,(Deferred.ofValue x' An).run P w=.ok d w)/\∃m v' w',Au m v v'/\Out G σ h w m h' w'/\R6 P ((invoke d.target d.args).run P w) v' w':=by
 cases u<;>first|(cases e)|skip
 .rename_i fn as cs q D7 p r j i l;have c:M6 P _ _ _ _ h=.Hb v _:=e;rw[Dl]at c;exact⟨_,λw=>rfl,AgL hc p c ⟨i,l⟩ (by simpa using Bk.append ⟨r,j⟩ s) n t o hf⟩
 .have c:=e;exact absurd c (hc.Au7 _ _ _ _ _)
def Am3(M:Builtin){ts:List TypeId}{tsA:Array TypeId}{ty:TypeId}{cns:Array Bool}{args:uw}{An:Array Value}(r:tsA.toList=ts)(c:J8 M ts args P h=.ok v h')(z:Bk σ args An.toList)
 (hm:Ms G σ h w) (hl:h'.nx<=Bq) (hf:Fx σ h h'):∃m v' w',Au m v v'/\Out G σ h w m h' w'/\(builtin M tsA ty cns An).run P w=.ok (.value v') w':=by
 have e:∀(s:Sem Value),Ad4 P G σ h w s v h'->∃m v' w',Au m v v'/\Out G σ h w m h' w'/\(do pure (Next.value (<- s)):Sem Next).run P w=.ok (.value v') w':=by rintro s ⟨m,v',w',h1,Q,S⟩;exact⟨m,v',w',Q,S,by simp[h1]⟩
 have A:∀(i:Nat) (t:TypeId),ts[i]?=some t->tsA[i]?=some t:=by intro i t L;rw[<- r]at L;simpa using L
 have o:∀x,args=[x]->∃y,An=#[y]/\Au σ x y:=by rintro x rfl;obtain⟨y,l,J,I,B⟩:=z.F8;have:=B.Rt;subst this;exact⟨y,by simpa using Jh List.toArray J,I⟩
 have j:∀x y,args=[x,y]->∃x' u,An=#[x',u]/\Au σ x x'/\Au σ y u:=by rintro x y rfl;obtain⟨x',l,J,I,B⟩:=z.F8;obtain⟨u,V,rfl,C,D⟩:=B.F8;have:=D.Rt;subst this;exact⟨x',u,by simpa using Jh List.toArray J,I,C⟩
 unfold J8 at c;split at c
 .split at c
  .rename_i t K _ s x;rcases Bl c with⟨F,c⟩|⟨_,c⟩
   .obtain⟨O,x',rfl,E,q⟩:=j s x rfl;exact e _ (Ad8 c E q hm (A 0 t (by simp)) (A 1 K (by simp)) F hl hf)
   .cases c
  .cases c
 .split at c
  .rename_i t _ x;obtain⟨x',rfl,q⟩:=o x rfl;exact e _ (Anr c q hm (A 0 t (by simp)))
  .cases c
 .split at c
  .rename_i t _ d s;obtain⟨U,O,rfl,hd,E⟩:=j d s rfl;exact e _ (Ahi c hd E hm (A 0 t (by simp)))
  .cases c
 .exact e _ (by simpa using Aia true (ts:=tsA) (ty:=ty) c z hm)
 .exact e _ (by simpa using Aia false (ts:=tsA) (ty:=ty) c z hm)
 .split at c
  .rename_i x;obtain⟨x',rfl,q⟩:=o x rfl;exact e _ (Aoe c q hm)
  .cases c
 .split at c
  .rename_i t K p n;obtain⟨W,T,rfl,R,hn⟩:=j p n rfl;exact e _ (Aop c R hn hm (by simpa using Jh List.toArray r))
  .cases c
 .cases c
def AgP{c}(De:(Op.call c).operands.toList.all (Es G)=true)(d:St G σ nt f a h w):Bk σ (W1 c.args.toList f) (c.args.map a.eval).toList:=by have:=Abw d.fr d.gl c.args.toList (by rw[Od]at De ⊢;intro x e;exact De x (by simp[Op.operands,Call.operands,ad,W7];grind));simp_all
def Ajz(hc:Bd P G Z){dst:Option Tmp}{ty:TypeId}{pos:String}{af:Array Edge}{gd:Option (Nat × Bool)}(c:Call):Afl P G Z ⟨dst,.call c,ty,pos,af,gd⟩:=by
 intro σ nt f a h h' w v b O De n J E C;have hd:∀d,(Oper.mk dst (.call c) ty pos af gd).op≠.defer d:=λd hd=>by cases hd
 have t:=AgP De n;obtain⟨m,args,j⟩:=c;dsimp only at t;have A:ceD m args.toList j.toList P Z f h=.ok v h':=O;cases m with
 |value g=>
  have p:Au σ (ev g f) (a.eval g):=Cj n.fr n.gl g (by rw[Od]at De;exact De g (by simp[Op.operands,Call.operands]));obtain⟨d,D,s,v',w',h1,o,q⟩:=ApM hc (An:=args.map a.eval) A p t n.ms n.gl E C;refine⟨s,v',w',h1,o,.next hd ?_⟩;have:(execOp a.eval ⟨dst,.call ⟨.value g,args,j⟩,ty,pos,af,gd⟩).run P w=(invoke d.target d.args).run P w:=by simp[execOp,resolve,Sem.run_bind,D]
  rw[this];exact q
 |invoke r name=>
  have p:Au σ (ev r f) (a.eval r):=Cj n.fr n.gl r (by rw[Od]at De;exact De r (by simp[Op.operands,Call.operands]));obtain⟨s,v',w',h1,o,q⟩:=Aa1 hc (An:=args.map a.eval) A p t n.ms n.gl E C;refine⟨s,v',w',h1,o,.next hd ?_⟩;have:(execOp a.eval ⟨dst,.call ⟨.invoke r name,args,j⟩,ty,pos,af,gd⟩).run P w=(callMethod (a.eval r) name (args.map a.eval)).run P w:=by
   have e:(#[a.eval r]++args.map a.eval).extract 1 (#[a.eval r]++args.map a.eval).size=args.map a.eval:=by simp_all
   simp only[execOp,resolve,Sem.run_bind,Sem.run_pure,Result.andThen_ok,invoke];rw[e];have I:(#[a.eval r]++args.map a.eval)[0]?=some (a.eval r):=by rw[bt (by show 0<1;omega)];rfl
   rw[I]
  rw[this];exact q
 |builtin x=>
  have y:Aa5 x args.toList j.toList P Z f h=.ok v h':=A;unfold Aa5 at y;split at y
  .have u:AnS (vT (f.get Br)) h=.ok v h':=y;unfold AnS at u;split at u
   .rename_i l F;obtain⟨rfl,rfl⟩:=B4 u;have B:b.ro=none:=by
     rcases J with⟨h1,_⟩|⟨_,c,Q,e,h1,o,_⟩;. exact h1
     .rw[o]at F;cases F
    refine⟨σ,.nilIface,w,.B3,Out.refl n.ai n.so n.ma,?_⟩;intro ops i rest k cs M L K;refine .one (Aoc M L B (K.recover a) ?_);simp[execOp,resolve,invoke,builtin]
   .cases u
  .obtain⟨cns,z⟩:∃cns,(execOp a.eval ⟨dst,.call ⟨.builtin x,args,j⟩,ty,pos,af,gd⟩).run P w=(builtin x j ty cns (args.map a.eval)).run P w:=
    ⟨_,by rfl⟩;obtain⟨s,v',w',h1,o,q⟩:=Am3 x (tsA:=j) (ty:=ty) (cns:=cns) rfl y t n.ms E C;refine⟨s,v',w',h1,o,.next hd (.inl ?_)⟩;rw[z];exact q
def Az5(hc:Bd P G Z)(o:Oper)(q:AcX o.op=true)(D:opD o.op o.type P Z f h=.Hb v h')(De:o.op.operands.toList.all (Es G)=true)(m:St G σ nt f a h w)(C:h'.nx<=Bq)(B:Fx σ h h'):
 ∃p v' w',Au p v v'/\Out G σ h w p h' w'/\Ajn P b o a w v' w':=by
 obtain⟨dst,op,ty,pos,af,gd⟩:=o;cases op<;>first|(cases q;done)|skip
 case panic x=>
  have n:Aga (ev x f) h=.Hb v h':=D;have j:Au σ (ev x f) (a.eval x):=Cj m.fr m.gl x (by rw[Od]at De;exact De x (by simp[Op.operands]));unfold Aga at n;split at n;. rename_i t y A;have A:=Pq A;cases n;refine⟨σ,a.eval x,w,j,Out.refl m.ai m.so m.ma,.next (λd hd=>by cases hd) (.inl ?_)⟩;rw[A]at j;generalize I:a.eval x=xx at j;cases j;simp[execOp,I,Instr.panic,goPanic,Sem.run]
  .cases n
 case call c=>
  have hd:∀d,(Oper.mk dst (.call c) ty pos af gd).op≠.defer d:=λd hd=>by cases hd
  have s:=AgP De m;obtain⟨l,args,i⟩:=c;dsimp only at s;have n:ceD l args.toList i.toList P Z f h=.Hb v h':=D;cases l with
  |value g=>
   have j:Au σ (ev g f) (a.eval g):=Cj m.fr m.gl g (by rw[Od]at De;exact De g (by simp[Op.operands,Call.operands]));obtain⟨d,z,p,v',w',h1,u,F⟩:=AxL hc (An:=args.map a.eval) n j s m.ms m.gl C B;refine⟨p,v',w',h1,u,.next hd ?_⟩;have:(execOp a.eval ⟨dst,.call ⟨.value g,args,i⟩,ty,pos,af,gd⟩).run P w=(invoke d.target d.args).run P w:=by simp[execOp,resolve,Sem.run_bind,z]
   grind
  |invoke r name=>
   have j:Au σ (ev r f) (a.eval r):=Cj m.fr m.gl r (by rw[Od]at De;exact De r (by simp[Op.operands,Call.operands]));obtain⟨p,v',w',h1,u,F⟩:=Aei hc (An:=args.map a.eval) n j s m.ms m.gl C B;refine⟨p,v',w',h1,u,.next hd ?_⟩;have:(execOp a.eval ⟨dst,.call ⟨.invoke r name,args,i⟩,ty,pos,af,gd⟩).run P w=(callMethod (a.eval r) name (args.map a.eval)).run P w:=by
    have e:(#[a.eval r]++args.map a.eval).extract 1 (#[a.eval r]++args.map a.eval).size=args.map a.eval:=by simp_all
    simp only[execOp,resolve,Sem.run_bind,Sem.run_pure,Result.andThen_ok,invoke];rw[e];have E:(#[a.eval r]++args.map a.eval)[0]?=some (a.eval r):=by rw[bt (by show 0<1;omega)];rfl
    rw[E]
   simp[*]
  |builtin J=>cases q
def Aim(hc:Bd P G Z)(o:Oper):Afl P G Z o:=by
 obtain⟨dst,op,ty,pos,af,gd⟩:=o;cases op;case move x=>exact(Ae1 x).to3.sound
 case assign x=>exact(AaD x).to3.sound
 case pick c x y=>exact(Ae2 c x y).to3.sound
 case alloc e=>exact(Acn e).to3.sound
 case box e x=>exact(Ah4 e x).to3.sound
 case build t p=>exact(Acp t p).to3.sound
 case buildSlice t n p=>exact(Ro t n p).to3.sound
 case insert t m k x=>exact(Af0 t m k x).sound
 case load t x=>exact(AjC t x).sound
 case store t x y=>exact(Ah3 t x y).sound
 case nilCheck x=>exact(Vq x).to3.sound
 case binOp op t x y yt=>exact(Aco op t x y yt).to3.sound
 case unOp op t x=>exact(Ae3 op t x).to3.sound
 case convert s d x=>exact(AdH s d x).sound
 case makeInterface t x=>exact(Sv t x).to3.sound
 case makeFunc fn x y=>exact(Vp fn x y).to3.sound
 case makeMap t r=>exact(AdI t r).sound
 case makeSlice t x y=>exact(Abh t x y).sound
 case slice t x lo hi mx=>exact(Acs t x lo hi mx).to3.sound
 case fieldAddr t x i=>exact(Ss t x i).to3.sound
 case field t x i=>exact(Acq t x i).to3.sound
 case indexAddr t x i=>exact(Su t x i).to3.sound
 case index t x i=>exact(Acr t x i).to3.sound
 case lookup t x i ok=>exact(Af1 t x i ok).sound
 case typeAssert x xt t ok=>exact(Rp x xt t ok).to3.sound
 case extract x i=>exact(Xz x i).to3.sound
 case call c=>exact Ajz hc c
 case panic x=>intro σ nt f a h h' w v b j De A z u q;have l:Aga (ev x f) h=.ok v h':=j;unfold Aga at l;split at l<;>cases l
 all_goals
  intro σ nt f a h h' w v b j De A z u q;cases j
variable {σ':Dx}{f':L2}
def Fx.left{h1:H}(e:Fx σ h h')(d:h1.nx<=h'.nx):Fx σ h h1:=λx c i=>e x c om
def Fx.right{h1}(c:Fx σ h h')(d:Out G σ h w σ' h1 w'):Fx σ' h1 h':=by obtain⟨nw,i,a2,_⟩:=d;intro x m j;have:=i.nx;cases l:σ' x with
|none=>rfl
|some e=>have:=a2.fresh x e (c x om j) l;omega
def Out.le(c:Out G σ h w σ' h' w'):Qq σ σ':=by obtain⟨_,_,a2,_⟩:=c;exact a2.le
def Out.ms(e:Out G σ h w σ' h' w'):Ms G σ' h' w':=by obtain⟨_,c,a2,d⟩:=e;exact⟨c.inv,a2.ok,d⟩
def Vm.mono(d:Vm G σ)(c:Qq σ σ'):Vm G σ':=λg h1=>by obtain⟨e,i,j⟩:=d g h1;exact⟨e,c _ _ i,j⟩
def St.next{e}(i:St G σ nt f a h w)(c:Out G σ h w σ' h' w')(d:Pt σ' nt f' e):St G σ' nt f' e h' w':=
 ⟨d,i.gl.mono c.le,c.ms.ai,c.ms.so,c.ms.ma⟩
def RBk.mono(n:RBk b σ f)(o:Qq σ σ')(hd:f'.get Br=f.get Br):RBk b σ' f':=by
 rcases n with⟨h1,ds,d⟩|⟨j,c,l,e,h1,d,m,i⟩
 .exact .inl ⟨h1,ds,by rw[hd,d]⟩
 .exact .inr ⟨j,c,l,e,h1,by rw[hd,d],o _ _ m,i⟩
def Mm(hd:∀t:Nat,j=some t->t<250)(u:Nat)(c:u<256):(Im j v f).get u=if j=some u then v else f.get u:=by
 cases j with
 |none=>simp[Im]
 |some t=>
  show(f.set t v).get u=_;rw[L2.Dh t u v f (ab (hd t rfl) fe) c];by_cases h1:u=t
  .subst h1;simp
  .rw[X2 h1,X2 (λe=>h1 (by cases e;rfl))]
def ArI(a:Act)(d:Option Tmp)(v:Value):(a.put d v).tmps.size=a.tmps.size:=by cases d<;>simp[Act.put]
def ArG(hd:∀t:Nat,j=some t->t<a.tmps.size)(v':Value)(u:Nat):(a.put j v').tmps.getD u undef=if j=some u then v' else a.tmps.getD u undef:=by
 cases j with
 |none=>simp[Act.put]
 |some t=>
  have e:=hd t rfl;show(a.tmps.setIfInBounds t v').getD u undef=_;by_cases h1:t=u
  .subst h1;simp[Array.getD,e]
  .rw[X2 (λc=>h1 (by cases c;rfl))];simp only[Ak];rw[aj h1]
def Pt.put{v'}(c:Pt σ nt f a)(hd:∀t:Nat,j=some t->t<nt)(i:nt<250)(m:Au σ v v'):Pt σ nt (Im j v f) (a.put j v'):=by
 refine⟨by rw[ArI];exact c.size,?_,?_⟩
 .intro t d;rw[Mm (λu e=>ab (hd u e) i) t (ab d (by simp)),ArG λu e=>by rw[c.size];grind];split;. omega
  .exact c.slot t d
 .rw[Mm (λu e=>ab (hd u e) i) _ fe,X2 λl=>by have h1:255<nt:=hd _ l;omega];have:(a.put j v').defers=a.defers:=by cases j<;>rfl
  rw[this];exact c.defers
def gv(ops:Array Oper)(o:Oper)(f:L2):WT:=match guardOf ops o with|.always=>.yes|.on t want=>Adq (f.get t) want|.bad=>.bad
def Ain(ops:Array Oper)(o:Oper):Fp ops o P Z f h=Amo (gv ops o f) o P Z f h:=by unfold Fp gv;cases guardOf ops o<;>rfl
def Pf{ops}{o}{r}(d:Fp ops o P Z f h=r)(p:∀n,r≠.bad n)(t:∀i f' h',r≠.ext i f' h'):
 gv ops o f=.no/\r=.Bt (Im o.dst (.Bj []) f) h \/
 (gv ops o f=.yes/\Ie o.op=none/\∃v h',opD o.op o.type P Z f h=.ok v h'/\r=.Bt (Im o.dst v f) h') \/
 gv ops o f=.yes/\∃c,Ie o.op=some c/\Th c o.dst o.type P Z f h=r:=by rw[Ain]at d;cases q:gv _ o f with
 |no=>rw[q]at d;exact .inl ⟨rfl,d.symm⟩
 |bad=>rw[q]at d;exact absurd d.symm (p _)
 |yes=>rw[q]at d;have m:op1 o _ _ P _ f h=r:=d;unfold op1 at m;cases hd:Ie _ with
  |none=>rw[hd]at m;have e:Akx _ f h ..=r:=m;refine .inr (.inl ⟨rfl,rfl,?_⟩);cases l:opD _ _ P _ f h with
   |bad n=>rw[l]at e;exact absurd e.symm (p _)
   |ok v h'=>rw[l]at e;exact⟨v,_,rfl,e.symm⟩
   |Hb v h'=>rw[l]at e;have j:@Bool.rec (λ_=>RC) _ ..=r:=e;cases h1:AcX _ with
    |false=>rw[h1]at j;grind
    |true=>rw[h1]at j;cases s:Nat.ble .. with
     |false=>rw[s]at j;exact absurd j.symm (p _)
     |true=>rw[s]at j;grind
  |some c=>simp_all
def AnG{ops}{o}{id}(e:Fp ops o P Z f h=.ext id f' h'):id=Em/\gv ops o f=.yes/\Ie o.op=none/\AcX o.op=true/\h.nx<=h'.nx/\∃v,opD o.op o.type P Z f h=.Hb v h'/\f'=f.set Jv v:=by rw[Ain]at e;cases l:gv _ o f with
|no=>rw[l]at e;cases e
|bad=>rw[l]at e;cases e
|yes=>rw[l]at e;have i:op1 o _ _ P _ f h=.ext _ ..:=e;unfold op1 at i;cases hd:Ie _ with
 |none=>rw[hd]at i;have d:Akx _ f h ..=.ext _ ..:=i;cases j:opD _ _ P _ f h with
  |bad n=>rw[j]at d;cases d
  |ok v h1=>rw[j]at d;cases d
  |Hb v h1=>rw[j]at d;have q:@Bool.rec (λ_=>RC) _ ..=.ext _ ..:=d;cases m:AcX _ with
   |false=>simp_all
   |true=>cases p:Nat.ble h.nx h1.nx with
    |false=>simp_all
    |true=>simp_all
 |some c=>
  rw[hd]at i;have d:Th c _ _ P _ f h=.ext _ ..:=i;unfold Th at d;split at d;. unfold Ace at d;grind
  grind
def AfF{o:Op}{c:Call}(hd:Ie o=some c):o=.defer c:=by
 cases o<;>first|(cases hd;done)|skip
 cases hd;rfl
def Zy{ops:Array Oper}{o:Oper}(p:∀x∈ops.toList,Gl G nt x=true)(i:Pt σ nt f a)(n:nt<250):
 (gv ops o f=.yes->Region.wanted o (yielded ops a.tmps)=true)/\(gv ops o f=.no->Region.wanted o (yielded ops a.tmps)=false):=by unfold gv guardOf Region.wanted;cases u:o.guard with
 |none=>simp_all
 |some s=>obtain⟨j,c⟩:=s;dsimp only;cases hj:(ops[j]?).bind (·.dst)with
  |none=>simp[*]
  |some t=>
   dsimp only;have m:t<nt:=by cases e:ops[j]? with
    |none=>rw[e]at hj;cases hj
    |some x=>
     rw[e]at hj;have r:x∈ops.toList:=by grind
     have:=p x r;unfold Gl at this;rw[show x.dst=some t from hj]at this;cases hq:x.op.operands.toList.all (Es G)with
     |false=>simp_all
     |true=>rw[hq]at this;exact Ec this
   have l:=i.slot t (ab m n);have q:a.tmps[t]?=some (a.tmps.getD t undef):=by
    have:t<a.tmps.size:=by rw[i.size];exact m
    simp[Array.getD,this]
   unfold yielded;rw[hj];simp only[Yr,q];generalize f.get t=x at l;generalize a.tmps.getD t undef=y at l;cases l;case bool bb=>show((Bool.rec WT.no WT.yes (Aju bb c))=WT.yes->_)/\((Bool.rec WT.no WT.yes (Aju bb c))=WT.no->_);rw[Afn];cases bb<;>cases c<;>(simp)
   all_goals
    refine⟨λd=>?_,λd=>?_⟩;. first|(change WT.no=WT.yes at d;cases d;done)|(change WT.bad=WT.yes at d;cases d;done)
    .first|rfl|(change WT.bad=WT.no at d;cases d;done)
def Lu{o}(c:Gl G nt o=true):o.op.operands.toList.all (Es G)=true/\∀t:Nat,o.dst=some t->t<nt:=by unfold Gl at c;cases hq:o.op.operands.toList.all _ with
|false=>simp_all
|true=>rw[hq]at c;refine⟨rfl,λt d=>?_⟩;rw[d]at c;exact Ec c
def Wn(hc:Bd P G Z){ops:Array Oper}{r:RC}(Fs:∀x∈ops.toList,Gl G nt x=true)(s:nt<250)(ho:Gl G nt o=true)(he:Fp ops o P Z f h=r)(hr:∀n,r≠.bad n)(T:∀i f' h',r≠.ext i f' h')
 (hs:St G σ nt f a h w) (hb:RBk b σ f):∃f' h',r=.Bt f' h'/\(h'.nx<=Bq->Fx σ h h'->∃E Y w',St G E nt f' Y h' w'/\RBk b E f'/\Out G σ h w E h' w' /\
  ∀i rest k cs,ops[i]?=some o->Calm b cs->Steps P (lone (b.at a (.inRegion ops (i::rest)::k)) cs w) (lone (b.at Y (.inRegion ops rest::k)) cs w')):=by
 obtain⟨De,p⟩:=Lu ho;have S:=Zy (o:=o) Fs hs.fr s;have A:∀v,(Im o.dst v f).get Br=f.get Br:=by intro v;rw[Mm (λu R=>ab (p u R) s) Br fe,X2 (λD=>by have h1:(255:Nat)<nt:=p 255 D;omega)]
 rcases Pf he hr T with⟨B,rfl⟩|⟨B,hnd,v,h',hv,rfl⟩|⟨B,c,hd,j⟩;. refine⟨_,_,rfl,λO M=>⟨σ,a.put o.dst undef,w,hs.next (Out.refl hs.ai hs.so hs.ma) (hs.fr.put p s (L6 σ)),hb.mono (Qq.refl σ) (A _),Out.refl hs.ai hs.so hs.ma,?_⟩⟩;intro i rest k cs d L;have hw:=S.2 B;have:=Asa (P:=P) (b:=b) (a:=a) (k:=k) (cs:=cs) (w:=w) (ops:=ops) (i:=i) (rest:=rest) (by rw[d];simpa using hw);rw[d]at this;exact .one this
 .refine⟨_,_,rfl,λO M=>?_⟩;obtain⟨E,v',w',h1,y,h3⟩:=Aim hc o σ nt f a h h' w v b hv De hs hb O M;refine⟨E,a.put o.dst v',w',hs.next y ((hs.fr.mono y.le).put p s h1),hb.mono y.le (A _),y,?_⟩;intro i rest k cs d L;exact h3 ops i rest k cs d (S.1 B) L
 .have q:=AfF hd;unfold Th at j;split at j
  .rename_i g I;unfold Ace at j;split at j
   .rename_i k as cap ds l U;have l:=Aaq l;have U:=Aar U;refine⟨_,_,j.symm,λO M=>?_⟩;have m:Au σ (ev g f) (a.eval g):=Cj hs.fr hs.gl g (by rw[Od]at De;exact De g (by simp[q,Op.operands,Call.operands,I]));rw[l]at m;have Ow:Bk σ (W1 c.args.toList f) (c.args.map a.eval).toList:=by have:=Abw hs.fr hs.gl c.args.toList (by rw[Od]at De ⊢;intro x T;exact De x (by rw[q];simp only[Op.operands,Call.operands,ad,W7];exact .inr T));simpa using this
    generalize J:a.eval g=gx at m;cases m;rename_i z D7 hy ha V W Q;have C:b.ro=none:=by
     rcases hb with⟨h1,_⟩|⟨_,c,l2,e,h1,y,_⟩;. exact h1
     grind
    have F:=hs.fr.defers;rw[U]at F;have K:Pt σ nt (f.set Br (.Bj (.fn (.func k) (J0 as (W1 c.args.toList f)) cap::ds))) ⟨a.tmps,{ target:=.fn (.func k) D7,args:=z++c.args.map a.eval }::a.defers⟩:=by
     refine⟨hs.fr.size,?_,?_⟩;. intro t X;rw[L2.Dh Br t _ f fe (ab X fe),X2 (by intro D;have h1:t=255:=D;omega)];exact hs.fr.slot t X
     .rw[L2.Dh Br Br _ f fe fe,Xo rfl];refine .cons _ _ _ _ (.fn k _ _ _ _ ?_ ⟨W,Q⟩) F;rw[Dl];simpa using Bk.append (⟨ha,V⟩:Bk σ as z.toList) Ow
    refine⟨σ,_,w,hs.next (Out.refl hs.ai hs.so hs.ma) (K.put p s (L6 σ)),?_,Out.refl hs.ai hs.so hs.ma,?_⟩;. refine .inl ⟨C,.fn (.func k) (J0 as (W1 c.args.toList f)) cap::ds,?_⟩;rw[Mm (λu R=>ab (p u R) s) Br fe,X2 (λD=>by have h1:(255:Nat)<nt:=p 255 D;omega)];rfl
    .intro i rest k2 cs d L;refine .one (Ak5 d (S.1 B) C ?_);have e:(execOp a.eval o).run P w=(do pure (Next.defer (<- resolve a.eval c o.type)):Sem Next).run P w:=by simp only[execOp,q]
     rw[e];simp[resolve,I,J,Deferred.ofValue]
   grind
  .grind
def AnH ops o r(h1:∀f' h',r≠.Bt f' h')(j:∀n,r≠.bad n)(l:∀i f' h',r≠.ext i f' h'):Fp ops o P Z f h≠r:=by
 intro e;rcases Pf e j l with⟨_,rfl⟩|⟨_,_,v,h',_,rfl⟩|⟨_,c,_,d⟩;. grind
 .grind
 .unfold Th at d;split at d;. unfold Ace at d;grind
  grind
def Ahr{ops}:∀l f h f' h',G3 P Z ops l f h≠.ret f' h':=by intro l;induction l with
|nil=>intro f h f' h' e;cases e
|cons o l m=>intro f h f' h' e;have c:andThen ..=.ret ..:=e;cases d:Fp _ o P _ f h with
 |bad n=>rw[d]at c;cases c
 |Bt f1 j=>rw[d]at c;exact m _ _ _ _ c
 |ext id f1 j=>rw[d]at c;cases c
 |ret f1 j=>exact AnH _ o _ λf' h' i=>by grind λn hn=>by grind (λ_ _ _ i=>by cases i) d
def Ar2(hc:Bd P G Z){ops}{o}{id}(p:∀x∈ops.toList,Gl G nt x=true)(s:nt<250)(u:Gl G nt o=true)(z:Fp ops o P Z f h=.ext id f' h')
 (hs:St G σ nt f a h w) (hb:RBk b σ f) (hl:h'.nx<=Bq) (hf:Fx σ h h'):id=Em/\∃c w' n,St G c nt f' a h' w'/\RBk b c f'/\Out G σ h w c h' w'/\Au c (f'.get Jv) n /\
  ∀i rest k cs,ops[i]?=some o->Steps P (lone (b.at a (.inRegion ops (i::rest)::k)) cs w) (lone (b.Hb a (.inRegion ops (i::rest)::k) n false) cs w'):=by
 obtain⟨h1,q,E,m,D,v,A,rfl⟩:=AnG z;obtain⟨De,F⟩:=Lu u;obtain⟨c,v',w',C,d,r⟩:=Az5 hc o m A De hs hl hf;have B:∀t,t<250->(f.set Jv v).get t=f.get t:=by intro t e;rw[L2.Dh _ t _ f fe om,X2 (by intro y;have h1:t=254:=y;omega)]
 have j:(f.set Jv v).get Br=f.get Br:=rfl;refine⟨h1,_,_,v',hs.next d ⟨hs.fr.size,λt e=>by rw[B t e];exact(hs.fr.slot t e).mono d.le,hs.fr.defers.mono d.le⟩,hb.mono d.le j,d,?_,?_⟩;. rw[L2.Dh _ _ _ f fe fe,Xo rfl];grind
 .intro i rest k cs l;exact r _ i _ k _ l ((Zy p hs.fr s).1 q)
def AeM(hc:Bd P G Z){ops:Array Oper}(I:∀x∈ops.toList,Gl G nt x=true)(R:nt<250):∀(l:List Oper) (i:Nat),ops.toList.drop i=l->∀(σ:Dx) (f:L2) (a:Act) (h:H) (w:World) (r:RC),
 G3 P Z ops l f h=r->(∀n,r≠.bad n)->(∀i f' h',r≠.ext i f' h')->St G σ nt f a h w->RBk b σ f->∃f' h',r=.Bt f' h'/\(h'.nx<=Bq->Fx σ h h'->∃A J w',St G A nt f' J h' w'/\RBk b A f'/\Out G σ h w A h' w' /\
  ∀k cs,Calm b cs->Steps P (lone (b.at a (.inRegion ops (List.range' i (ops.size-i))::k)) cs w) (lone (b.at J (.inRegion ops []::k)) cs w')):=by intro l;induction l with
 |nil=>
  intro i hi σ f a h w r D j m d q;refine⟨f,h,D.symm,λz y=>⟨σ,a,w,d,q,Out.refl d.ai d.so d.ma,λk cs s=>?_⟩⟩;have:ops.size-i=0:=by simp_all
  rw[this];exact .refl P _
 |cons o l W=>
  intro i hi σ f a h w r D j m d q;have B6:i<ops.size:=by have:=Jh List.length hi;simp at this;omega
  have F:ops[i]?=some o:=by
   have:(ops.toList.drop i)[0]?=some o:=by rw[hi];rfl
   grind
  have t:ops.toList.drop (i+1)=l:=by rw[<- au,hi];rfl
  have Vc:o∈ops.toList:=by grind
  have c:andThen (G3 P Z ops l) (Fp ops o P Z f h)=r:=D;have B:∀n,Fp ops o P Z f h≠.bad n:=by intro n hn;rw[hn]at c;exact j n c.symm
  have u:∀i f' h',Fp ops o P Z f h≠.ext i f' h':=by intro i f' h' hn;rw[hn]at c;exact m _ _ _ c.symm
  obtain⟨e,h1,e1,U⟩:=Wn hc I R (I o Vc) rfl B u d q;rw[e1]at c;have C:G3 P Z ops l e h1=r:=c;have V:=Q5 (P:=P) hc.mono ops l e h1;have p:∀(h':H),(∃f',r=.Bt f' h')->h1.nx<=h'.nx:=by rintro h' ⟨f',rfl⟩;exact V f' h' (.inl C)
  cases r with
  |bad n=>exact absurd rfl (j n)
  |Bt f' h'=>
   refine⟨f',h',rfl,λz y=>?_⟩;have E:=p h' ⟨f',rfl⟩;obtain⟨S,X,K,T,L,t3,O⟩:=U om (y.left E);obtain⟨f2,h2,Q,s2⟩:=W (i+1) t S e X h1 K _ C j m T L;cases Q;obtain⟨Y,a2,w2,u1,u2,u3,u4⟩:=s2 z (y.right t3);refine⟨Y,a2,w2,u1,u2,t3.trans u3 z,λk cs s=>?_⟩;have M:List.range' i (ops.size-i)=i::List.range' (i+1) (ops.size-(i+1)):=by
    have:ops.size-i=(ops.size-(i+1))+1:=by omega
    rw[this,eo]
   rw[M];exact(O i _ k cs F s).trans (u4 k cs s)
  |ext id f' h'=>exact absurd rfl (m _ _ _)
  |ret f' h'=>exact absurd C (Ahr l e h1 _ _)
def Amb(hc:Bd P G Z){ops:Array Oper}(p:∀x∈ops.toList,Gl G nt x=true)(E:nt<250):∀(l:List Oper) (i:Nat),ops.toList.drop i=l->∀(σ:Dx) (f:L2) (a:Act) (h:H) (w:World) (id:Nat) (f':L2) (h':H),
 G3 P Z ops l f h=.ext id f' h'->St G σ nt f a h w->RBk b σ f->h'.nx<=Bq->Fx σ h h'->id=Em/\∃d q w' j,St G d nt f' q h' w'/\RBk b d f'/\Out G σ h w d h' w'/\Au d (f'.get Jv) j /\
  ∀k cs,Calm b cs->∃rest,Steps P (lone (b.at a (.inRegion ops (List.range' i (ops.size-i))::k)) cs w) (lone (b.Hb q (.inRegion ops rest::k) j false) cs w'):=by intro l;induction l with
 |nil=>intro i hi σ f a h w id f' h' u;cases u
 |cons o l X=>
  intro i hi σ f a h w id f' h' u I A t s;have B6:i<ops.size:=by have:=Jh List.length hi;simp at this;omega
  have m:ops[i]?=some o:=by
   have:(ops.toList.drop i)[0]?=some o:=by rw[hi];rfl
   rw[da]at this;simpa using this
  have r:ops.toList.drop (i+1)=l:=by rw[<- au,hi];rfl
  have K:o∈ops.toList:=by have:=dk m;exact Ua.2 this
  have Q:List.range' i (ops.size-i)=i::List.range' (i+1) (ops.size-(i+1)):=by
   have:ops.size-i=(ops.size-(i+1))+1:=by omega
   rw[this,eo]
  have c:andThen (G3 P Z ops l) (Fp ops o P Z f h)=.ext id f' h':=u;cases e:Fp ops o P Z f h with
  |bad n=>rw[e]at c;cases c
  |ret f1 h1=>rw[e]at c;cases c
  |ext V f1 h1=>rw[e]at c;cases c;obtain⟨z,d,w',j,C,L,D,F,q5⟩:=Ar2 hc p E (p o K) e I A t s;grind
  |Bt f1 h1=>rw[e]at c;have J:G3 P Z ops l f1 h1=.ext id f' h':=c;have y:h1.nx<=h'.nx:=Q5 (P:=P) hc.mono ops l f1 h1 f' h' (.inr (.inl ⟨id,J⟩));obtain⟨f2,h2,e1,W⟩:=Wn hc p E (p o K) e (λn hn=>by cases hn) (λ_ _ _ hn=>by cases hn) I A;cases e1;obtain⟨T,Y,M,U,O,t3,R⟩:=W om (s.left y);obtain⟨z,d,q,w',j,C,L,D,F,q5⟩:=X (i+1) r T f1 Y h1 M id f' h' J U O t (s.right t3);refine⟨z,d,q,w',j,C,L,t3.trans D t,F,λk cs B=>?_⟩;obtain⟨rest,S⟩:=q5 k cs B;rw[Q];exact⟨rest,(R i _ k cs m B).trans S⟩
end Go.Ev
