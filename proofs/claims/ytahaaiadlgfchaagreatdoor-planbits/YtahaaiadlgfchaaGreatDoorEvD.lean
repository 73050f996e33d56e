/- Regions whose order is -/
import Derived.Test.YtahaaiadlgfchaaGreatDoorEvC
import Derived.KernelRfl
import Derived.Lib.Bytealg
set_option linter.all false
noncomputable section
namespace Go.Ev
variable {j:Nat}{o:Array Value}{p:Loop}{J:Bool}{R:OR}
inductive Aef(ops:Array Oper):(Nat->Bool)->List Nat->Prop where
|nil (D:Nat->Bool) (h:∀i,i<ops.size->D i=true):Aef ops D []
|cons (D:Nat->Bool) (i:Nat) (o:Oper) (rest:List Nat) (ho:ops[i]?=some o) (hd:D i=false) (he:∀e∈o.after.toList,Region.binds .any e=true->D e.on=true)
 (hr:Aef ops (λj=>if j=i then true else D j) rest):Aef ops D (i::rest)
def P6(ops:Array Oper):Prop:=∀(i:Nat) (o:Oper),ops[i]?=some o->∀e∈o.after.toList,Region.binds .any e=true->e.on<i
def D0(n:Nat)(D:Nat->Bool):Nat:=((List.range n).filter λi=>!D i).length
def Oc n D:D0 (n+1) D=D0 n D+if D n=true then 0 else 1:=by unfold D0;rw[List.range_succ,List.filter_append,Xi];grind
def AdV i D(hd:D i=false) n:(i<n->D0 n (λj=>if j=i then true else D j)+1=D0 n D)/\(n<=i->D0 n (λj=>if j=i then true else D j)=D0 n D):=by induction n with
|zero=>exact⟨λc=>absurd c om,λ_=>rfl⟩
|succ n d=>rw[Oc,Oc];grind
def Tm{n}{D}(h:D0 n D=0):∀i,i<n->D i=true:=by intro i hi;cases hd:D i with
|true=>rfl
|false=>
 have:0<D0 n D:=by exact List.length_pos_of_mem (bk.2 ⟨ec.2 hi,by grind⟩)
 omega
def Akd{n}{D}(h:D0 n D≠0):∃i,i<n/\D i=false/\∀j,j<i->D j=true:=by induction n with
|zero=>exact absurd rfl h
|succ n c=>
 by_cases h0:D0 n D=0;. rw[Oc,h0]at h;cases hd:D n with
   |true=>grind
   |false=>exact⟨n,by simp,hd,Tm h0⟩
 grind
def Asb{ops:Array Oper}(hb:P6 ops):∀(q t:Nat) (c:Array Bool) (d:uw),c.size=ops.size->D0 ops.size (λi=>c.getD i true)=q ->
 ∃l,Region.linearise.go .any ops q t c d=d.reverse++l/\Aef ops (λi=>c.getD i true) l:=by intro q;induction q with
 |zero=>intro t c d L B;exact⟨[],by simp[Region.linearise.go],.nil _ (Tm B)⟩
 |succ q W=>
  intro t c d L B;obtain⟨m,J,R,S⟩:=Akd (n:=ops.size) (D:=λi=>c.getD i true) (by rw[B];simp);have z:ops[m]?=some ops[m]:=U0 J;have y:∀(j:Nat),j<ops.size->c.getD j true=c.getD j false:=by
   intro j hj;have:j<c.size:=by omega
   simp[Array.getD,this]
  simp only[Region.linearise.go];generalize u:((List.range ops.size).filter λi=>!c.getD i true&&((ops[i]?).map (·.after.all λe=>!Region.binds .any e||c.getD e.on false)).getD false)=rs;have Q:∀i∈rs,∃o,ops[i]?=some o/\c.getD i true=false/\∀e∈o.after.toList,Region.binds .any e=true->c.getD e.on true=true:=by intro i hi;rw[<- u,bk,ec]at hi;obtain⟨h1,h2⟩:=hi;rw[Sc]at h2;have r:ops[i]?=some ops[i]:=U0 h1;rw[r]at h2;refine⟨_,r,by simpa using h2.1,λe A p=>?_⟩;have K:=h2.2;simp only[dy,C8]at K;have I:=(Array.all_eq_true'.1 K) e (by simpa using A);rw[p]at I;have M:=hb i _ r e A p;rw[y _ om];simpa using I
  have U:m∈rs:=by rw[<- u,bk,ec];refine⟨J,?_⟩;rw[Sc];refine⟨by simpa using R,?_⟩;rw[z];simp only[dy,C8];refine Array.all_eq_true'.2 λe A=>?_;cases p:Region.binds .any e with
   |false=>rfl
   |true=>have M:=hb m _ z e (by simpa using A) p;have:=S e.on M;rw[y _ om]at this;simpa using this
  have x:0<rs.length:=List.length_pos_of_mem U;have X:rs[t%rs.length]?=some (rs[t%rs.length]'(Rl _ x)):=Yq _;rw[X];generalize hi:rs[t%rs.length]'(Rl _ x)=i;have V:i∈rs:=by rw[<- hi];exact dl _
  obtain⟨o,r,hd,F⟩:=Q i V;have E:i<ops.size:=(Lp.1 r).1;have s:(λj=>(c.setIfInBounds i true).getD j true)=λj=>if j=i then true else c.getD j true:=by
   funext j;by_cases hj:j=i
   .subst hj;have:j<c.size:=by omega
    simp[Array.getD,this]
   .simp only[Ak,X2 hj];rw[aj (Ne.symm hj)]
  dsimp only;have C:D0 ops.size (λj=>(c.setIfInBounds i true).getD j true)=q:=by rw[s];have:=(AdV i (λj=>c.getD j true) hd ops.size).1 E;rw[B]at this;omega
  obtain⟨l,T,O⟩:=W (t/rs.length) (c.setIfInBounds i true) (i::d) (by simp[L]) C;refine⟨i::l,by rw[T];simp,.cons _ i o l r hd F ?_⟩;rw[s]at O;exact O
def Aod{ops}(hb:P6 ops) t:Aef ops (λi=>(Array.replicate ops.size false).getD i true) (Region.schedule true ops t):=by
 have c:D0 ops.size (λi=>(Array.replicate ops.size false).getD i true)=ops.size:=by
  unfold D0;rw[List.filter_eq_self.2];. simp
  simp_all
 obtain⟨l,d,e⟩:=Asb hb _ t _ [] (by simp) c;have:Region.schedule true ops t=l:=by simp only[Region.schedule,Bool.true_or,Jr,Region.linearise,d];simp
 grind
variable {P:Program}{h h':H}{v:AV}{f:L2}{Z:Ac}
def A5(h:H)(r:OR):Prop:=∀v h',r=.ok v h'->h.nx<=h'.nx
def A5.bad n:A5 h (.bad n):=λv h' c=>by grind
def A5.same v:A5 h (.ok v h):=λv h' c=>by grind
def A5.put v b o:A5 h (.ok v (h.put b o)):=λv h' c=>by cases c;exact Ye _
def A5.A9V v b c o p:A5 h (.ok v ((h.put b o).put c p)):=λv h' d=>by cases d;exact Ye _
def A5.new v o:A5 h (.ok v (h.new o)):=λv h' c=>by cases c;exact Pc _
def A5.mk o v:A5 h (mk h o v):=A5.new v o
def A5.Azy v o p:A5 h (.ok v ((h.new o).new p)):=λv h' c=>by cases c;show h.nx<=h.nx+1+1;omega
def A5.ver v b c o p q:A5 h (.ok v (((h.put b o).put c p).new q)):=λv h' d=>by cases d;exact Pc _
def A5.ite{y:OR}(d:A5 h R)(hy:A5 h y):A5 h (Bool.rec y R J):=by cases J<;>assumption
def A5.Py x:A5 h (Py x h):=by cases x;exact .bad _;exact .same _
def A5.Ly x:A5 h (Ly x h):=by cases x;exact .bad _;exact .same _
def A5.Uv x:A5 h (Uv x h):=by cases x;exact .bad _;exact .same _
def A5.AdR x e:A5 h (AdR x e h):=by cases x;exact .bad _;exact .new _ _
def A5x{b off}{i}(e:h.wr b off i=.ok h'):h'.nx=h.nx:=by rcases AiL e with⟨c,t,d,_,_,rfl⟩|⟨c,t,k,n,d,_,_,_,rfl⟩<;>rfl
def A5.wr(b off:Nat)(c:uz)(g:H->AV):A5 h (RH.rec OR.bad (λh'=>.ok (g h') h') (h.wr b off c)):=by
 cases d:h.wr b off c with
 |bad n=>exact .bad n
 |ok h2=>exact λv h' e=>by cases e;rw[A5x d];exact Ye _
structure Dw(Z:Ac):Prop where
 call:∀g as h,A5 h (Z.call g as h)
 round:∀l as h,A5 h (Z.round l as h)
def An0 op k a k' b:A5 h (AqP op k a k' b h):=by cases op;all_goals first
  |exact A5.bad _
  |exact A5.ite (.same _) (.bad _)
  |exact A5.ite (.ite (.bad _) (.same _)) (.bad _)
  |skip;all_goals (dsimp[AqP,Anl,AtZ,Aua];split);all_goals first
  |exact A5.bad _
  |exact A5.same _
  |exact A5.ite (.ite (.ite (.same _) (.bad _)) (.bad _)) (.bad _)
def An2 op a b:A5 h (AuB op a b h):=by cases op<;>first|exact A5.bad _|exact A5.same _|exact A5.ite (.same _) (.bad _)
def Aic x y op t c:A5 h (Ij x y op t c P h):=by
 unfold Ij;split;. refine A5.ite ?_ (.bad _);split;exact .same _;exact .bad _
 .refine A5.ite ?_ (.bad _);split;exact .same _;exact .bad _
 .exact .bad _
def Anx x y op t c:A5 h (Atc x x y op t c P h):=by
 cases x;case int k n=>cases y<;>first|exact A5.bad _|exact An0 _ _ _ _ _
 case str s=>cases y<;>first|exact A5.bad _|exact An2 _ _ _
 case top=>exact .bad _
 all_goals exact Aic _ _ _ _ _
def An1 x i:A5 h (ldV x i h):=by
 cases x;case ptr b o=>show A5 h (ldC _ i o h);cases h.rd b with
  |none=>exact .bad _
  |some c=>cases i with
   |none=>exact .bad _
   |some j=>cases j;exact .Py _;exact .Ly _
 all_goals exact .bad _
def Akk x cs n:A5 h (stV x cs n h):=by
 cases x;case ptr b o=>
  show A5 h (stC _ n b o h);unfold stC;split;. exact .ite (.ite (.wr _ _ _ _) (.bad _)) (.bad _)
  .exact .bad _
 all_goals exact .bad _
def Aid t m k x ty:A5 h (E6 t m k x ty P Z f h):=by unfold E6;repeat (first|exact A5.bad _|exact A5.put _ _ _|split)
def AfR s d x ty:A5 h (Ml s d x ty P Z f h):=by unfold Ml;repeat (first|exact A5.bad _|exact A5.same _|exact A5.ite (.Azy _ _ _) (.bad _)|exact A5.ite (.same _) (.bad _)|split)
def An3 b off cap sz ex l u:A5 h (AkE b off cap sz ex l u h):=
 .ite (.ite (.ite (.same _) (.ite (.same _) (.ite (.same _) (.same _)))) (.bad _)) (.bad _)
def AcM b off cap sz l u c:A5 h (Amj b off cap sz l u c h):=.ite (.ite (.ite (.same _) (.bad _)) (.bad _)) (.bad _)
def Aki s l u:A5 h (Ai9 s l u h):=by
 unfold Ai9;split;. exact .ite (.ite (.same _) (.bad _)) (.bad _)
 .exact .bad _
def Akj t x lo hi mx ty:A5 h (Aac t x lo hi mx ty P Z f h):=by refine .ite ?_ (.bad _);unfold G5;repeat (first|exact A5.bad _|exact A5.same _|exact Aki _ _ _|exact A5.ite (An3 _ _ _ _ _ _ _) (.bad _)|exact A5.ite (AcM _ _ _ _ _ _ _) (.bad _)|exact AcM _ _ _ _ _ _ _|split)
def Ard i x n:A5 h (iaX i x n h):=by
 cases i;case sl i=>cases n with
  |none=>exact .bad _
  |some n=>cases x<;>first|exact A5.bad _|exact A5.ite (.same _) (.bad _)
 case arr len i=>cases n with
  |none=>exact .bad _
  |some n=>cases x<;>first|exact A5.bad _|exact A5.ite (.same _) (.bad _)
 all_goals exact .bad _
def Aib st s x:A5 h (Xa P st s x h):=by
 unfold Xa;split
 .split
  .split;. exact .ite (.same _) (.ite (.ite (.Azy _ _ _) (.bad _)) (.bad _))
   .refine .ite (.ite (.ite (.ite ?_ (.ite ?_ ?_)) (.bad _)) (.bad _)) (.bad _);. rename_i new _ _ _ _ _ _ _ _ _;cases new with
      |nil=>exact .same _
      |cons y l=>exact .wr _ _ _ _
    .unfold Sf;repeat (first|exact A5.bad _|exact A5.Azy _ _ _|split)
    .unfold Ny;repeat (first|exact A5.bad _|exact A5.ite (.ite (.ite (.ver _ _ _ _ _ _) (.bad _)) (.bad _)) (.bad _)|split)
   .exact .bad _
  .exact .bad _
 .exact .bad _
def Are k x:A5 h (lnK k x h):=by
 cases k;case str=>cases x<;>first|exact A5.bad _|exact A5.same _
 case sl=>cases x<;>first|exact A5.bad _|exact A5.same _
 case map=>show A5 h (lnM x h);unfold lnM;split<;>first|exact A5.bad _|exact A5.same _
 case bad=>exact .bad _
def AlV lt l:A5 h (mm lt l h):=by unfold mm;repeat (first|exact A5.bad _|exact A5.same _|split)
def Anz dt d x:A5 h (Ahh P dt d x h):=by unfold Ahh;repeat (first|exact A5.bad _|exact A5.same _|exact A5.ite (.wr _ _ _ _) (.bad _)|split)
def Aum t p n:A5 h (usV P t p n h):=by unfold usV;repeat (first|exact A5.bad _|exact A5.same _|exact A5.ite (.ite (.ite (.A9V _ _ _ _ _) (.bad _)) (.bad _)) (.bad _)|split)
def AfQ b ts args:A5 h (J8 b ts args P h):=by
 unfold J8;split;case h_1=>split;exact .ite (Aib _ _ _) (.bad _);exact .bad _
 case h_2=>split;exact Are _ _;exact .bad _
 case h_3=>split;exact Anz _ _ _;exact .bad _
 case h_4=>exact AlV _ _
 case h_5=>exact AlV _ _
 case h_6=>
  split
  .split;. unfold Ath;repeat (first|exact A5.bad _|exact A5.same _|split)
   .exact .bad _
  .exact .bad _
 case h_7=>
  split;. unfold sdV;repeat (first|exact A5.bad _|exact A5.same _|exact A5.ite (.bad _) (.same _)|split)
  .exact .bad _
 case h_8=>split;exact Aum _ _ _;exact .bad _
 case h_9=>exact .bad _
def AcI(c:Dw Z) g args:A5 h (Aeg P Z g args h):=by refine .ite (c.call _ _ _) ?_;unfold AgK;repeat (first|exact A5.bad _|exact A5.same _|split)
def AcJ(c:Dw Z) r name args:A5 h (Hn P Z r name args h):=by unfold Hn;repeat (first|exact A5.bad _|exact AcI c _ _|split)
def AfP(c:Dw Z) fn cap args:A5 h (M6 P Z fn cap args h):=by unfold M6;repeat (first|exact A5.bad _|exact AcI c _ _|exact AcJ c _ _ _|exact c.round _ _ _|split)
def Arf(j:Dw Z)(o:Op)(ty:TypeId)(h:H):A5 h (opD o ty P Z f h):=by
 cases o;case move x=>exact .same _
 case assign x=>exact .same _
 case pick c a b=>
  show A5 h (Bo (ev c f) (ev a f) (ev b f) h);cases ev c f;case bool q=>cases q<;>exact .same _
  all_goals exact .bad _
 case alloc e=>exact .AdR _ _
 case box e x=>exact .AdR _ _
 case build t parts=>show A5 h (Tg t parts ty P Z f h);unfold Tg;split<;>first|exact .Ly _|exact .bad _
 case buildSlice t n parts=>show A5 h (Gz t n parts ty P Z f h);unfold Gz;repeat (first|exact A5.bad _|exact A5.ite (.mk _ _) (.bad _)|split)
 case insert t m k x=>exact Aid (Z:=Z) t m k x ty
 case mapUpdate t m k x=>exact Aid (Z:=Z) t m k x ty
 case load t x=>exact An1 _ _
 case store t x y=>exact Akk _ _ _
 case nilCheck x=>exact .ite (.same _) (.bad _)
 case binOp op t x y yt=>exact Anx _ _ _ _ _
 case unOp op t x=>show A5 h (AaP op t x ty P Z f h);unfold AaP;repeat (first|exact A5.bad _|exact A5.same _|split)
 case convert s d x=>exact AfR (Z:=Z) s d x ty
 case makeInterface t x=>exact .ite (.same _) (.bad _)
 case makeFunc fn x y=>show A5 h (Jt fn x y ty P Z f h);unfold Jt;repeat (first|exact A5.bad _|exact A5.same _|split)
 case makeMap t r=>cases r;exact .mk _ _;exact .bad _
 case makeSlice t x y=>show A5 h (H5 t x y ty P Z f h);unfold H5;repeat (first|exact A5.bad _|exact A5.ite (.ite (.mk _ _) (.bad _)) (.bad _)|split)
 case slice t x lo hi mx=>exact Akj (Z:=Z) t x lo hi mx ty
 case fieldAddr t x i=>
  show A5 h (Option.rec (λ_ _=>.bad 85) (λd x h=>Bs x d h) (Wa P t i) (ev x f) h);cases Wa P t i with
  |none=>exact .bad _
  |some d=>show A5 h (Bs (ev x f) d h);cases ev x f<;>first|exact A5.bad _|exact A5.same _
 case field t x i=>
  show A5 h (Ti t x i ty P Z f h);unfold Ti;split
  .exact .Py _
  .exact .bad _
 case indexAddr t x i=>exact Ard _ _ _
 case index t x i=>
  show A5 h (Tj t x i ty P Z f h);unfold Tj;split
  .cases ev x f<;>first|exact A5.bad _|exact A5.Uv _
  .split
   .exact .ite (.Py _) (.bad _)
   .exact .bad _
  .exact .bad _
 case lookup t x i ok=>show A5 h (Pe t x i ok ty P Z f h);unfold Pe;repeat (first|exact A5.bad _|exact A5.same _|split)
 case typeAssert x t ast ok=>show A5 h (G0 x t ast ok ty P Z f h);unfold G0;repeat (first|exact A5.bad _|exact A5.ite (.same _) (.bad _)|exact A5.ite (.same _) (.ite (.same _) (.bad _))|split)
 case extract x i=>show A5 h (L9 (ev x f) i h);cases ev x f<;>first|exact A5.bad _|exact A5.Py _
 case call c=>
  show A5 h (ceD c.callee c.args.toList c.argTypes.toList P Z f h);cases c.callee with
  |value g=>show A5 h (cvV (ev g f) (W1 c.args.toList f) P Z h);cases ev g f<;>first|exact A5.bad _|exact AfP j _ _ _
  |invoke r name=>exact AcJ j _ _ _
  |builtin b=>
   show A5 h (Aa5 b c.args.toList c.argTypes.toList P Z f h);unfold Aa5;split
   .unfold AnS;split;exact .same _;exact .bad _
   .exact AfQ _ _ _
 all_goals exact .bad _
def Ei(h:H)(r:RC):Prop:=∀f' h',(r=.Bt f' h'\/(∃i,r=.ext i f' h')\/r=.ret f' h')->h.nx<=h'.nx
def Ei.bad n:Ei h (.bad n):=λf' h' c=>by grind
def Ei.Bt f(d:h.nx<=h'.nx):Ei h (.Bt f h'):=λf' h2 c=>by grind
def Ei.ext i f(d:h.nx<=h'.nx):Ei h (.ext i f h'):=λf' h2 c=>by grind
def Ei.ret f(d:h.nx<=h'.nx):Ei h (.ret f h'):=λf' h2 c=>by grind
def Ei.ite{x y:RC}(d:Ei h x)(hy:Ei h y):Ei h (Bool.rec y x J):=by cases J<;>assumption
def Ei.andThen{r}{k}(c:Ei h r)(e:∀f' h',Ei h' (k f' h')):Ei h (andThen k r):=by cases r with
|bad n=>exact .bad n
|Bt f' h'=>have:=c _ _ (.inl rfl);intro f2 h2 d;exact Xy this (e _ _ _ _ d)
|ext i f' h'=>exact c
|ret f' h'=>exact c
def Ei.Akx(d:Option Tmp)(f:L2)(c:A5 h R):Ei h (Akx d f R):=by
 cases R with
 |bad n=>exact .bad n
 |ok v h'=>exact .Bt _ (c v h' rfl)
def Aie(d:Dw Z) o:Ei h (Ame o P Z f h):=by show Ei h (op1 o _ _ P _ f h);unfold op1;cases Ie _ with
|none=>exact .Akx _ _ (Arf d _ _ _)
|some c=>
 show Ei h (Th c _ _ P _ f h);unfold Th;split
 .unfold Ace;split;. exact .Bt _ (Ye _)
  .exact .bad _
 .exact .bad _
def Wk(c:Dw Z) ops o:Ei h (Fp ops o P Z f h):=by show Ei h (AjD _ o P _ f h);cases guardOf _ o with
|always=>exact Aie c o
|on t want=>show Ei h (Amo _ o P _ f h);cases Adq .. with
 |yes=>exact Aie c o
 |no=>exact .Bt _ (Ye _)
 |bad=>exact .bad _
|bad=>exact .bad _
def Q5(d:Dw Z) ops l:∀f h,Ei h (G3 P Z ops l f h):=by induction l with
|nil=>exact λf h=>.Bt _ (Ye _)
|cons o l c=>exact λf h=>.andThen (Wk d _ o) c
def Akh(p:Dw Z)(ops:Array Oper)(lg:uw)(l:List DO):∀c f h,Ei h (Sp P Z ops lg l c f h):=by
 induction l with
 |nil=>exact λc f h=>.ite (.Bt _ (Ye _)) (.bad _)
 |cons o l e=>
  intro c f h;show Ei h (RC.rec RC.bad (λf' h'=>Sp P Z ops lg l (⟨o.bit,o.pr,wrote h.nx h'.lg,Gi P o.o.op f,h,h'⟩::c) f' h') (λ_ _ _=>.bad 184) (λ_ _=>.bad 184) (Fp ops o.o P Z f (Ab h)));have d:=Wk (P:=P) (f:=f) (h:=Ab h) p ops o.o;cases m:Fp ops o.o P Z f (Ab h)with
  |bad n=>exact .bad n
  |Bt f' h'=>rw[m]at d;have h1:h.nx<=h'.nx:=d f' h' (.inl rfl);intro f2 h2 j;exact Xy h1 (e _ f' h' f2 h2 j)
  |ext i f' h'=>exact .bad _
  |ret f' h'=>exact .bad _
def AcK{b}(hb:∀f h,Ei h (b P Z f h)) k:∀f h,Ei h (Yd b P Z k f h):=by induction k with
|zero=>exact hb
|succ k c=>exact λf h=>.andThen (c f h) c
def AcL(i:Dw Z)(x:Operand)(ps:Array Tmp)(as bd:Code)(u v:Fw):Ei h (AbV x ps as bd u v P Z f h):=by
 have c:∀(g:FuncId) (a cap:uz) (fr f:L2) (h1:H),h.nx<=h1.nx->Ei h (Yu P Z g a cap ps.toList as bd fr f h1):=by
  intro g a cap fr f h1 e;refine .ite ?_ (.bad _);unfold Mn;split
  .rename_i v h2 d;have:=i.call _ _ _ v h2 d;have j:h1.nx+1<=h2.nx:=this;split
   .refine .ite (.bad _) ?_;unfold Z4;split
    .exact .Bt _ (show h.nx<=h2.nx by omega)
    .exact .ret _ (show h.nx<=h2.nx by omega)
    .exact .ext _ _ (show h.nx<=h2.nx by omega)
    .exact .bad _
   .exact .bad _
  .exact .bad _
 unfold AbV;split
 .exact c _ _ _ _ _ _ (Pc _)
 .exact .bad _
def Lt(m:Dw Z) c:∀f h,Ei h (exec c P Z f h):=by induction c with
|skip=>exact λf h=>.Bt _ (Ye _)
|region id ops dr=>intro f h;cases dr with
 |false=>exact Q5 m _ _ f h
 |true=>exact .ite (Akh m _ _ _ _ f h) (.bad _)
|seq a b o d=>exact λf h=>.andThen (o f h) d
|cond c a b o d=>
 intro f h;show Ei h (Al2 _ _ _ P _ f h);cases ev c f;case bool q=>cases q;exact d f h;exact o f h
 all_goals exact .bad _
|block id a e=>intro f h;show Ei h (inBlock _ (exec a P _ f h));have:=e f h;cases j:exec a P _ f h with
 |bad n=>exact .bad n
 |Bt f' h'=>rw[j]at this;exact this
 |ext i f' h'=>rw[j]at this;exact .ite (.Bt _ (this _ _ (.inr (.inl ⟨i,rfl⟩)))) this
 |ret f' h'=>rw[j]at this;exact this
|loop a e=>exact λf h=>.andThen (AcK e _ f h) λ_ _=>.bad _
|rangeFunc x ps as bd _ _=>exact λf h=>AcL m x _ _ _ (exec as) (exec bd)
|exit id=>exact λf h=>.ext _ _ (Ye _)
|scope a e=>exact e
|label l=>exact λf h=>.Bt _ (Ye _)
|goto l=>exact λf h=>.bad _
|ret=>exact λf h=>.ret _ (Ye _)
|refuse w=>exact λf h=>.bad _
def H2(i:Dw Z)(ds:uz):∀h h',D3 P Z ds h=.ok h'->h.nx<=h'.nx:=by
 induction ds with
 |nil=>intro h h' c;cases c;exact Ye _
 |cons d ds e=>
  intro h h' c;unfold D3 at c;split at c
  .rename_i _ _ g a cap _;cases hb:Bg P g with
   |false=>rw[hb]at c;cases c
   |true=>
    rw[hb]at c;dsimp only at c;split at c
    .rename_i v h2 j;exact Xy (i.call _ _ _ v h2 j) (e h2 h' c)
    .cases c
  .split at c
   .exact(show h.nx<=h'.nx from e (h.put _ (.dfr true)) h' c)
   .cases c
  .cases c
def AaM(e:Dw Z) rs:A5 h (finish P Z rs f h):=by
 unfold finish;split;. cases i:D3 P _ _ h with
   |bad n=>exact .bad _
   |ok h2=>
    intro v h' d;have c:Gg P _ f _=.ok v _:=d;unfold Gg at c;split at c;. cases c;exact H2 e _ h _ i
    grind
 .exact .bad _
def N9(m:Dw Z)(g:FuncId)(as:uz)(h:H):A5 h (Fy P Z g as h):=by
 unfold Fy;cases Ln P g with
 |none=>exact .bad _
 |some i=>
  refine .ite ?_ (.bad _);have j:=Lt (P:=P) m i.body (Eu as 0 Az) h;intro v h' d;cases l:exec i.body P Z (Eu as 0 Az) h with
  |bad n=>rw[l]at d;cases d
  |Bt f' h1=>
   rw[l]at d j;have h0:=j f' h1 (.inl rfl);have e:=AaM (P:=P) (h:=h1) (f:=f') m i.rs;have c:Agk g (finish P Z i.rs f' h1)=.ok v h':=d;cases hq:finish P Z i.rs f' h1 with
   |bad n=>rw[hq]at c;cases c
   |ok v2 h2=>rw[hq]at c e;cases c;exact Xy h0 (e _ _ rfl)
  |ext id f' h1=>rw[l]at d;cases d
  |ret f' h1=>
   rw[l]at d j;have h0:=j f' h1 (.inr (.inr rfl));have e:=AaM (P:=P) (h:=h1) (f:=f') m i.rs;have c:Agk g (finish P Z i.rs f' h1)=.ok v h':=d;cases hq:finish P Z i.rs f' h1 with
   |bad n=>rw[hq]at c;cases c
   |ok v2 h2=>rw[hq]at c e;cases c;exact Xy h0 (e _ _ rfl)
def AaN{r:RC}(l:Nat)(e:Ei h r):A5 h (Agg l r):=by
 have c:∀j h1,h.nx<=h1.nx->A5 h (endRound l j h1):=by
  intro j h1 d;unfold endRound;split
  .intro v h' m;cases m;exact d
  .exact .bad _
 cases r with
 |bad n=>exact .bad _
 |Bt f' h'=>exact c _ _ (e f' h' (.inl rfl))
 |ext i f' h'=>exact c _ _ (e f' h' (.inr (.inl ⟨i,rfl⟩)))
 |ret f' h'=>exact c _ _ (e f' h' (.inr (.inr rfl)))
def Mj(c:Dw Z) l as h:A5 h (Io P Z l as h):=by
 unfold Io;split
 .split
  .refine AaN l (.andThen (Lt c _ _ _) ?_);intro f' h';unfold Age;split;. intro f2 h2 d;exact show h'.nx<=h2.nx from Lt c _ _ (h'.put l _) _ _ d
   .exact .bad _
  .exact .bad _
 .exact .bad _
def AeJ P d:Dw (A2N P d):=by induction d with
|zero=>exact⟨λ_ _ _=>.bad _,λ_ _ _=>.bad _⟩
|succ d c=>exact⟨N9 c,Mj c⟩
variable {g:L2}
def Zs{l}(d:∀x∈l,ev x f=ev x g):W1 l f=W1 l g:=by induction l with
|nil=>rfl
|cons x l c=>show ev x f::W1 l f=ev x g::W1 l g;grind
def Sq{place}:∀l,(∀p∈l,ev p.2 f=ev p.2 g)->∀cs,Xp place f l cs=Xp place g l cs:=by intro l;induction l with
|nil=>intro _ cs;rfl
|cons p l d=>intro c cs;obtain⟨i,x⟩:=p;have e:=c (i,x) (by simp);unfold Xp;grind
def Zl{x}(c:∀y,x=some y->ev y f=ev y g) d:bnd f x d=bnd g x d:=by cases x with
|none=>rfl
|some y=>show Vg _=Vg _;grind
def AnF(o:Op)(ty:TypeId)(hd:f.get Br=g.get Br)(j:∀x∈o.operands.toList,ev x f=ev x g):opD o ty P Z f h=opD o ty P Z g h:=by
 cases o;case move x=>have:=j x (by simp[Op.operands]);show OR.ok (ev x f) h=OR.ok (ev x g) h;rw[this]
 case assign x=>have:=j x (by simp[Op.operands]);show OR.ok (ev x f) h=OR.ok (ev x g) h;rw[this]
 case pick c a b=>have h1:=j c (by simp[Op.operands]);have h2:=j a (by simp[Op.operands]);have A:=j b (by simp[Op.operands]);show Bo (ev c f) (ev a f) (ev b f) h=Bo (ev c g) (ev a g) (ev b g) h;rw[h1,h2,A]
 case box e x=>have:=j x (by simp[Op.operands]);show AdR (cellsOf (ev x f)) e h=AdR (cellsOf (ev x g)) e h;rw[this]
 case build t parts=>
  have q:∀p∈parts.toList,ev p.2 f=ev p.2 g:=λp q=>j p.2 (by simp only[Op.operands,dz];exact⟨p,q,rfl⟩);show Tg t parts ty P Z f h=Tg t parts ty P Z g h;unfold Tg;split
  .rw[Sq _ q]
  .rw[Sq _ q]
  .rfl
 case buildSlice t n parts=>
  have q:∀p∈parts.toList,ev p.2 f=ev p.2 g:=λp q=>j p.2 (by simp only[Op.operands,dz];exact⟨p,q,rfl⟩);show Gz t n parts ty P Z f h=Gz t n parts ty P Z g h;unfold Gz;split
  .split
   .rw[Sq _ q]
   .rfl
  .rfl
 case insert t m k x=>have h1:=j m (by simp[Op.operands]);have h2:=j k (by simp[Op.operands]);have A:=j x (by simp[Op.operands]);show E6 t m k x ty P Z f h=E6 t m k x ty P Z g h;unfold E6;rw[h1,h2,A]
 case mapUpdate t m k x=>have h1:=j m (by simp[Op.operands]);have h2:=j k (by simp[Op.operands]);have A:=j x (by simp[Op.operands]);show E6 t m k x ty P Z f h=E6 t m k x ty P Z g h;unfold E6;rw[h1,h2,A]
 case load t x=>have:=j x (by simp[Op.operands]);show ldV (ev x f) (Ft P t) h=ldV (ev x g) (Ft P t) h;rw[this]
 case store t x y=>have h1:=j x (by simp[Op.operands]);have h2:=j y (by simp[Op.operands]);show stV (ev x f) (cellsOf (ev y f)) (F7 P t) h=stV (ev x g) (cellsOf (ev y g)) (F7 P t) h;rw[h1,h2]
 case nilCheck x=>have h1:=j x (by simp[Op.operands]);show Uu x ty P Z f h=Uu x ty P Z g h;unfold Uu;rw[h1]
 case binOp op t x y yt=>have h1:=j x (by simp[Op.operands]);have h2:=j y (by simp[Op.operands]);show AfX op t x y yt ty P Z f h=AfX op t x y yt ty P Z g h;unfold AfX;rw[h1,h2]
 case unOp op t x=>have h1:=j x (by simp[Op.operands]);show AaP op t x ty P Z f h=AaP op t x ty P Z g h;unfold AaP;rw[h1]
 case convert s d x=>have h1:=j x (by simp[Op.operands]);show Ml s d x ty P Z f h=Ml s d x ty P Z g h;unfold Ml;rw[h1]
 case makeInterface t x=>have h1:=j x (by simp[Op.operands]);show Rb t x ty P Z f h=Rb t x ty P Z g h;unfold Rb;rw[h1]
 case makeFunc fn x y=>have h1:W1 x.toList f=W1 x.toList g:=Zs (λz hz=>j z (by simp only[Op.operands,Ol,T2];exact .inl hz));have h2:W1 y.toList f=W1 y.toList g:=Zs (λz hz=>j z (by simp only[Op.operands,Ol,T2];exact .inr hz));show Jt fn x y ty P Z f h=Jt fn x y ty P Z g h;unfold Jt;rw[h1,h2]
 case makeSlice t x y=>have h1:=j x (by simp[Op.operands]);have h2:=j y (by simp[Op.operands]);show H5 t x y ty P Z f h=H5 t x y ty P Z g h;unfold H5;rw[h1,h2]
 case slice t x lo hi mx=>
  have h1:=j x (by simp[Op.operands]);have h2:∀y,lo=some y->ev y f=ev y g:=λy hy=>j y (by simp[Op.operands,hy]);have A:∀y,hi=some y->ev y f=ev y g:=λy hy=>j y (by simp[Op.operands,hy]);have B:∀y,mx=some y->ev y f=ev y g:=λy hy=>j y (by simp[Op.operands,hy]);have e:G5 t x lo hi mx ty P Z f h=G5 t x lo hi mx ty P Z g h:=by
   unfold G5;rw[h1];simp only[Zl h2,Zl A,Zl B];cases Hp P t with
   |str=>rfl
   |bad=>rfl
   |arr n i=>rfl
   |sl i=>
    cases vL (ev x g)with
    |nil=>rfl
    |no=>rfl
    |yes b off len cap D ex=>
     dsimp only;cases bnd g lo 0 with
     |none=>rfl
     |some l=>
      cases bnd g hi len with
      |none=>rfl
      |some u=>
       cases mx with
       |none=>rfl
       |some m=>dsimp only;rw[B m rfl]
  show Aac t x lo hi mx ty P Z f h=Aac t x lo hi mx ty P Z g h;unfold Aac;rw[e]
 case fieldAddr t x i=>have h1:=j x (by simp[Op.operands]);show Q9 t x i ty P Z f h=Q9 t x i ty P Z g h;unfold Q9;rw[h1]
 case field t x i=>have h1:=j x (by simp[Op.operands]);show Ti t x i ty P Z f h=Ti t x i ty P Z g h;unfold Ti;rw[h1]
 case indexAddr t x i=>have h1:=j x (by simp[Op.operands]);have h2:=j i (by simp[Op.operands]);show Ra t x i ty P Z f h=Ra t x i ty P Z g h;unfold Ra;rw[h1,h2]
 case index t x i=>have h1:=j x (by simp[Op.operands]);have h2:=j i (by simp[Op.operands]);show Tj t x i ty P Z f h=Tj t x i ty P Z g h;unfold Tj;rw[h1,h2]
 case lookup t x i ok=>have h1:=j x (by simp[Op.operands]);have h2:=j i (by simp[Op.operands]);show Pe t x i ok ty P Z f h=Pe t x i ok ty P Z g h;unfold Pe;rw[h1,h2]
 case typeAssert x t ast ok=>have h1:=j x (by simp[Op.operands]);show G0 x t ast ok ty P Z f h=G0 x t ast ok ty P Z g h;unfold G0;rw[h1]
 case extract x i=>have h1:=j x (by simp[Op.operands]);show Yi x i ty P Z f h=Yi x i ty P Z g h;unfold Yi;rw[h1]
 case call c=>
  have h1:W1 c.args.toList f=W1 c.args.toList g:=Zs (λz hz=>j z (by simp only[Op.operands,Call.operands,Ol,T2];exact .inr hz));show ceD c.callee c.args.toList c.argTypes.toList P Z f h=ceD c.callee c.args.toList c.argTypes.toList P Z g h;cases C:c.callee with
  |value z=>have h2:ev z f=ev z g:=j z (by simp[Op.operands,Call.operands,C]);show cvV (ev z f) (W1 c.args.toList f) P Z h=cvV (ev z g) (W1 c.args.toList g) P Z h;rw[h1,h2]
  |invoke r name=>have h2:ev r f=ev r g:=j r (by simp[Op.operands,Call.operands,C]);show Hn P Z (ev r f) name (W1 c.args.toList f) h=Hn P Z (ev r g) name (W1 c.args.toList g) h;rw[h1,h2]
  |builtin b=>
   show Aa5 b c.args.toList c.argTypes.toList P Z f h=Aa5 b c.args.toList c.argTypes.toList P Z g h;unfold Aa5;split
   .show AnS (vT (f.get Br)) h=AnS (vT (g.get Br)) h;rw[hd]
   .show J8 _ c.argTypes.toList (W1 c.args.toList f) P h=J8 _ c.argTypes.toList (W1 c.args.toList g) P h;rw[h1]
 all_goals rfl
structure FB where
 fn:FuncId
 kind:CallKind
 ro:Option Nat
def FB.at(b:FB)(a:Act)(todo:List Item):Frame:=
 { fn:=b.fn,tmps:=a.tmps,todo,defers:=a.defers,mode:=.run,kind:=b.kind,roundOf:=b.ro }
def FB.eval_at(b:FB) a todo:(b.at a todo).eval=a.eval:=rfl
def FB.finish_at(b:FB) a ops i rest k v:
 (b.at a (.inRegion ops (i::rest)::k)).finish v=b.at (a.put (ops[i]?.bind (·.dst)) v) (.inRegion ops rest::k):=by cases h:ops[i]?.bind _<;>simp[Frame.finish,FB.at,Act.put,h]
section A4E
variable {b:FB}{a:Act}{k:List Item}{cs:List Frame}{w:World}
def AzI:step P (lone (b.at a (.code .skip::k)) cs w)=.next (lone (b.at a k) cs w):=
 step_lone_go rfl
def AuE{l}:step P (lone (b.at a (.code (.label l)::k)) cs w)=.next (lone (b.at a k) cs w):=
 step_lone_go rfl
def Aoa{id}:step P (lone (b.at a (.inBlock id::k)) cs w)=.next (lone (b.at a k) cs w):=
 step_lone_go rfl
def AeQ{c}:step P (lone (b.at a (.inScope c::k)) cs w)=.next (lone (b.at a k) cs w):=
 step_lone_go rfl
def Aw0{x y}:step P (lone (b.at a (.code (.seq x y)::k)) cs w)=.next (lone (b.at a (.code x::.code y::k)) cs w):=
 step_lone_go rfl
def ArW{c}{x y}{t}(h:a.eval c=.bool t):
 step P (lone (b.at a (.code (.cond c x y)::k)) cs w)=.next (lone (b.at a (.code (if t then x else y)::k)) cs w):=
 step_lone_go (by have:=congrFun (FB.eval_at b a (.code (.cond c x y)::k)) c;simp[FB.at]at this;simp[stepG,stepG.exec,FB.at,this,h])
def Amg{id}{c}:step P (lone (b.at a (.code (.block id c)::k)) cs w)=.next (lone (b.at a (.code c::.inBlock id::k)) cs w):=
 step_lone_go rfl
def ArY{c}:step P (lone (b.at a (.code (.loop c)::k)) cs w)=.next (lone (b.at a (.code c::.inLoop c::k)) cs w):=
 step_lone_go rfl
def ArX{c}:step P (lone (b.at a (.inLoop c::k)) cs w)=.next (lone (b.at a (.code c::.inLoop c::k)) cs w):=
 step_lone_go rfl
def AbB{c}:step P (lone (b.at a (.code (.scope c)::k)) cs w)=.next (lone (b.at a (.code c::.inScope c::k)) cs w):=
 step_lone_go rfl
def AzH{id}{c}(h:exitTo id k=some c):step P (lone (b.at a (.code (.exit id)::k)) cs w)=.next (lone (b.at a c) cs w):=
 step_lone_go (by simp[stepG,stepG.exec,FB.at,h])
def Adg{id}{ops}:
 step P (lone (b.at a (.code (.region id ops false)::k)) cs w)=.next (lone (b.at a (.inRegion ops (List.range ops.size)::k)) cs w):=
 step_lone_go rfl
def AzG{id:Nat}{ops:Array Oper}:
 step P (lone (b.at a (.code (.region id ops true)::k)) cs w) =
  .next (lone (b.at a (.inRegion ops (Region.schedule (P.follows .mixedOrders) ops (w.tape w.drawn (.order b.fn id)))::k)) cs { w with drawn:=w.drawn+1 }):=
 step_lone_go (by simp[stepG,stepG.exec,FB.at,choose,Sem.run,Question.forced,Question.cut])
def Tv{ops}:step P (lone (b.at a (.inRegion ops []::k)) cs w)=.next (lone (b.at a k) cs w):=
 step_lone_go rfl
def Asa{ops}{i}{rest}(h:(ops[i]?.map (Region.wanted · (yielded ops a.tmps))).getD false=false):
 step P (lone (b.at a (.inRegion ops (i::rest)::k)) cs w)=.next (lone (b.at (a.put (ops[i]?.bind (·.dst)) undef) (.inRegion ops rest::k)) cs w):=by rw[<- FB.finish_at];exact step_lone_go (by have h':=h;simp[FB.at]at *;simp[stepG,stepG.exec,h'])
def Ai4{ops:Array Oper}{rest:uw}{o:Oper}(i:ops[j]?=some o)(e:Region.wanted o (yielded ops a.tmps)=true)(hd:b.ro=none\/∀c,o.op≠.defer c):
 stepG P true { frame:=b.at a (.inRegion ops (j::rest)::k),callers:=cs,status:=.running,dying:=none } w =
  stepG.apply P true (b.at a (.inRegion ops (j::rest)::k)) cs none (execOp a.eval o) w:=by
 have d:=FB.eval_at b a (.inRegion ops (j::rest)::k);simp only[FB.at]at d;rcases hd with hd|hd
 .rw[hd]at d;simp[stepG,stepG.exec,stepG.oper,Frame.oper?,FB.at,i,e,d,hd]
 .simp only[FB.at]at *
  simp only[stepG,stepG.exec,stepG.oper,Frame.oper?,i,e,d,dy,C8,Jr];split
  .rename_i c _ l;exact absurd l (hd c)
  .rfl
def AuJ{ops}{i}{rest}{o}{v'}{w'}(j:ops[i]?=some o)(e:Region.wanted o (yielded ops a.tmps)=true)(hd:b.ro=none\/∀c,o.op≠.defer c)
 (d:Ran P (execOp a.eval o) w v' w'):step P (lone (b.at a (.inRegion ops (i::rest)::k)) cs w)=.next (lone (b.at (a.put o.dst v') (.inRegion ops rest::k)) cs w'):=by
 have l:=FB.finish_at b a ops i rest k v';rcases d with d|⟨d,rfl⟩;. refine step_lone_go ?_;rw[Ai4 j e hd];simp[stepG.apply,Sem.runT_eq,Jr,d];simp_all
 .refine step_lone_go ?_;rw[Ai4 j e hd];simp[stepG.apply,Sem.runT_eq,Jr,d];simp[*]
def Amh{ops}{i}{rest}{o}{g}{args}{w'}(e:ops[i]?=some o)(d:Region.wanted o (yielded ops a.tmps)=true)(hd:b.ro=none\/∀c,o.op≠.defer c)
 (hr:(execOp a.eval o).run P w=.ok (.enter g args) w'):step P (lone (b.at a (.inRegion ops (i::rest)::k)) cs w)=.next (lone (Frame.enter P g args .normal) (b.at a (.inRegion ops (i::rest)::k)::cs) w'):=by refine step_lone_go ?_;rw[Ai4 e d hd];simp[stepG.apply,Sem.runT_eq,Jr,hr];rfl
def AuH{ops}{i}{rest}{o}{l}{g}{tmps}{as bd}{w'}(e:ops[i]?=some o)(d:Region.wanted o (yielded ops a.tmps)=true)(hd:b.ro=none\/∀c,o.op≠.defer c)
 (hr:(execOp a.eval o).run P w=.ok (.round l g tmps as bd) w'):step P (lone (b.at a (.inRegion ops (i::rest)::k)) cs w)=.next (lone (Frame.round l g tmps as bd .normal) (b.at a (.inRegion ops (i::rest)::k)::cs) w'):=by refine step_lone_go ?_;rw[Ai4 e d hd];simp only[stepG.apply,Sem.runT_eq,Jr,hr];rfl
def FB.back(b:FB)(a:Act)(todo:List Item):Frame:=
 { fn:=b.fn,tmps:=a.tmps,todo,defers:=a.defers,mode:=.returning,kind:=b.kind,roundOf:=none }
def Awz(c:b.ro=none):step P (lone (b.at a (.code .ret::k)) cs w)=.next (lone (b.back a (.code .ret::k)) cs w):=
 step_lone_go (by simp[stepG,stepG.exec,FB.at,FB.back,c])
def Awy(c:b.ro=none):step P (lone (b.at a []) cs w)=.next (lone (b.back a []) cs w):=
 step_lone_go (by simp[stepG,stepG.exec,FB.at,FB.back,c])
def ArV{fn}{v}{c}(hd:a.defers=[])(e:b.kind=.normal)(i:P.funcs[b.fn]?=some fn)(d:(results fn a.tmps).run P w=.ok v w):
 step P (lone (b.back a k) (c::cs) w)=.next (lone (c.finish v) cs w):=
 step_lone_go (by simp[stepG,unwind,doReturn,FB.back,hd,e,i,d])
def AuC{fn}{v}{c}(hd:a.defers=[])(i:b.kind=.deferred)(e:c.mode=.returning)(j:P.funcs[b.fn]?=some fn)(d:(results fn a.tmps).run P w=.ok v w):
 step P (lone (b.back a k) (c::cs) w)=.next (lone c cs w):=
 step_lone_go (by simp[stepG,unwind,doReturn,FB.back,hd,i,j,d,e])
def AuD{g:FuncId}{as:Array Value}{ds:List Deferred}{args:Array Value}{w':World}(hd:a.defers={ target:=.fn (.func g) o,args:=as }::ds)(d:(callFunc g (as++o)).run P w=.ok (.enter g args) w'):
 step P (lone (b.back a k) cs w)=.next (lone (Frame.enter P g args .deferred) (b.back ⟨a.tmps,ds⟩ k::cs) w'):=
 step_lone_go (by simp[stepG,unwind,callDeferred,FB.back,hd,invoke,Sem.runT_eq,d])
def AuI{ds:List Deferred}(hd:a.defers={ target:=.collected j,args:=#[] }::ds)(c:w.heap[j]?=some (.deferred (some []))):
 step P (lone (b.back a k) cs w)=.next (lone (b.back ⟨a.tmps,ds⟩ k) cs (Cc w j (.deferred none))):=by
 have e:=Dj c;have d:(Instr.takeDeferred j).run P w=.ok [] (Cc w j (.deferred none)):=by simp[Instr.takeDeferred,getObj,setObj,Sem.run,c,Cc]
 exact step_lone_go (by simp[stepG,unwind,FB.back,hd,Sem.runT_eq,d])
def Ak3{c:Frame}{d:Option Code}(e:b.ro=some j)(n:b.kind=.normal)(q:w.heap[j]?=some (.loop p))
 (A4r:k=[]/\d=none\/(∃i,k=.code .ret::i/\d=some .ret)\/∃id i,k=.code (.exit id)::i/\exitTo id i=none/\d=some (.exit id)):
 step P (lone (b.at a k) (c::cs) w)=.next (lone (c.finish (.bool d.isNone)) cs (Cc w j (.loop { p with state:=if d.isNone then .ready else .done,pending:=d }))):=by
 have m:∀l,(Instr.endRound j l).run P w=.ok (.bool l.isNone) (Cc w j (.loop { p with state:=if l.isNone then .ready else .done,pending:=l })):=by intro l;simp[Instr.endRound,Instr.getLoop,getObj,setObj,Sem.run,q,Cc]
 rcases A4r with⟨rfl,rfl⟩|⟨i,rfl,rfl⟩|⟨id,i,rfl,o,rfl⟩
 .exact step_lone_go (by simp[stepG,stepG.exec,FB.at,e,Sem.runT_eq,m,doReturn,n])
 .exact step_lone_go (by simp[stepG,stepG.exec,FB.at,e,Sem.runT_eq,m,doReturn,n])
 .exact step_lone_go (by simp[stepG,stepG.exec,FB.at,e,Sem.runT_eq,m,doReturn,n,o])
def Agi(d:b.ro=some j)(l:w.heap[j]?=some (.loop p))(m:p.state=.ready):
 step P (lone (b.at a (.beginRound::k)) cs w)=.next (lone (b.at a k) cs (Cc w j (.loop { p with state:=.busy }))):=by
 have i:(do Instr.beginRound j;pure Next.skip:Sem Next).run P w=.ok .skip (Cc w j (.loop { p with state:=.busy })):=by simp[Instr.beginRound,Instr.getLoop,getObj,setObj,Sem.run,l,m,Cc]
 refine step_lone_go ?_;have e:stepG P true { frame:=b.at a (.beginRound::k),callers:=cs,status:=.running,dying:=none } w=stepG.apply P true (b.at a (.beginRound::k)) cs none (do Instr.beginRound j;pure Next.skip:Sem Next) w:=by simp only[stepG,stepG.exec,FB.at,d];rfl
 rw[e];simp only[stepG.apply,Sem.runT_eq,Jr,i];simp[FB.at,Frame.finish]
def AeP(i:w.heap[j]?=some (.loop p))(d:p.state≠.busy):
 step P (lone (b.at a (.endRangeFunc j::k)) cs w)=.next (lone (b.at a ((p.pending.map Item.code).toList++k)) cs (Cc w j (.loop { p with state:=.exhausted }))):=by
 have hb:(p.state == LoopState.busy)=false:=by cases hq:p.state<;>first|rfl|exact absurd hq d
 have e:(Instr.endLoop j).run P w=.ok p.pending (Cc w j (.loop { p with state:=.exhausted })):=by simp[Instr.endLoop,Instr.getLoop,getObj,setObj,Sem.run,i,hb,Cc];exact λl=>absurd l d
 exact step_lone_go (by simp[stepG,stepG.exec,FB.at,Sem.runT_eq,e])
def AuG{x:Operand}{ps:Array Tmp}{as bd:Code}{g:FuncId}{first args:Array Value}{w2:World}(m:b.ro=none)(n:a.eval x=.func (.func g) first o)
 (e:∀w1,w1=Dd (Dd w (.deferred (some []))) (.loop { state:=.ready,pending:=none,fn:=b.fn,tmps:=a.tmps,params:=ps,assign:=as,body:=bd,defers:=w.heap.size }) ->
  (callFunc g (first.push (.func (.yield (w.heap.size+1)) #[] #[])++o)).run P w1=.ok (.enter g args) w2):
 step P (lone (b.at a (.code (.rangeFunc x ps as bd)::k)) cs w) =
  .next (lone (Frame.enter P g args .normal) (b.at ⟨a.tmps,{ target:=.collected w.heap.size,args:=#[] }::a.defers⟩ (.inRangeFunc (w.heap.size+1)::k)::cs) w2):=by
 have l:(Instr.enterLoop b.fn a.tmps ps as bd none).run P w=.ok (w.heap.size+1,[{ target:=.collected w.heap.size,args:=#[] }]) (Dd (Dd w (.deferred (some []))) (.loop { state:=.ready,pending:=none,fn:=b.fn,tmps:=a.tmps,params:=ps,assign:=as,body:=bd,defers:=w.heap.size })):=by simp[Instr.enterLoop,newObj,Sem.run,Dd];rfl
 have e:=e _ rfl;generalize Dd (Dd w (.deferred (some []))) (.loop { state:=.ready,pending:=none,fn:=b.fn,tmps:=a.tmps,params:=ps,assign:=as,body:=bd,defers:=w.heap.size })=w1 at *
 have i:∀y c ds,({ fn:=b.fn,tmps:=a.tmps,todo:=c,defers:=ds,mode:=FrameMode.run,kind:=b.kind,roundOf:=none }:Frame).eval y=a.eval y:=by intro y c ds;cases y<;>rfl
 refine step_lone_go ?_;simp only[stepG,stepG.exec,FB.at,m,Sem.runT_eq,l];simp only[stepG.apply,Sem.runT_eq,Jr];have j:∀v,a.eval (.const v)=v:=λ_=>rfl;simp[resolve,i,n,j,Deferred.ofValue,invoke,e,Sem.run_bind,Result.andThen_ok];done
def Aoc{ops}{i}{rest}{o}{w'}(e:ops[i]?=some o)(d:Region.wanted o (yielded ops a.tmps)=true)(hd:b.ro=none)(hn:∀todo,tryRecover (b.at a todo) cs=none)
 (hr:(execOp a.eval o).run P w=.ok .recover w'):step P (lone (b.at a (.inRegion ops (i::rest)::k)) cs w)=.next (lone (b.at (a.put o.dst .nilIface) (.inRegion ops rest::k)) cs w'):=by have j:=FB.finish_at b a ops i rest k .nilIface;refine step_lone_go ?_;rw[Ai4 e d (.inl hd)];have c:(b.at a (.inRegion ops (i::rest)::k)).roundOf=none:=hd;simp[stepG.apply,Sem.runT_eq,Jr,hr,c,hn];simp[*]
def Ak5{ops}{i}{rest}{o}{d}{w'}(j:ops[i]?=some o)(c:Region.wanted o (yielded ops a.tmps)=true)(hd:b.ro=none)
 (hr:(execOp a.eval o).run P w=.ok (.defer d) w'):step P (lone (b.at a (.inRegion ops (i::rest)::k)) cs w)=.next (lone (b.at ((⟨a.tmps,d::a.defers⟩:Act).put o.dst undef) (.inRegion ops rest::k)) cs w'):=by have e:=FB.finish_at b ⟨a.tmps,d::a.defers⟩ ops i rest k undef;refine step_lone_go ?_;rw[Ai4 j c (.inl hd)];simp[stepG.apply,Sem.runT_eq,Jr,hr];simp[FB.at]at e ⊢;simp_all
end A4E
end Go.Ev
namespace Go.Ev
variable {j:Option Tmp}{o:Oper}{p:FuncId}{I:RC}
variable [Ii]
variable {P:Program}{G:Nat}{σ:Dx}{h h':H}{w w':World}{v:AV}{nt:Nat}{f:L2}{a:Act}{Z:Ac}{b:FB}{cs:List Frame}
def Calm(b:FB)(cs:List Frame):Prop:=b.kind=.normal\/(b.kind=.deferred/\∃c D7,cs=c::D7/\c.mode=.returning)
def Calm.recover(j:Calm b cs)(a:Act)(d:List Item):tryRecover (b.at a d) cs=none:=by
 rcases j with e|⟨e,c,D7,rfl,i⟩
 .unfold tryRecover;simp[FB.at,e]
 .unfold tryRecover;simp[FB.at,e,i]
def RBk(b:FB)(σ:Dx)(f:L2):Prop:=
 (b.ro=none/\∃ds,f.get Br=.Bj ds)\/(b.kind=.normal/\∃c l e,b.ro=some c/\f.get Br=.map l/\σ l=some e/\e.c=c)
def Aed(P:Program)(G:Nat)(Z:Ac):Prop:=∀(g:FuncId) (args:uz) (h h':H) (v:AV) (σ:Dx) (w:World) (An:Array Value) (kind:CallKind),
 Z.call g args h=.ok v h'->Bg P g=true->Bk σ args An.toList->Ms G σ h w->Vm G σ->h'.nx<=Bq->Fx σ h h' ->
 ∃d v' w' c fn,P.funcs[g]?=some fn/\Au d v v'/\Out G σ h w d h' w'/\c.defers=[]/\(results fn c.tmps).run P w'=.ok v' w' /\
  ∀cs,Calm ⟨g,kind,none⟩ cs->∃e,Steps P (lone (Frame.enter P g An kind) cs w) (lone (FB.back ⟨g,kind,none⟩ c e) cs w')
def AbL(P:Program)(G:Nat)(Z:Ac):Prop:=∀(l:Nat) (args:uz) (h h':H) (v:AV) (σ:Dx) (w:World) (An:Array Value) (e:SE),
 Z.round l args h=.ok v h'->σ l=some e->Bk σ args An.toList->Ms G σ h w->Vm G σ->h'.nx<=Bq->Fx σ h h' ->
 ∃d v' w' g tmps as bd,Au d v v'/\Out G σ h w d h' w'/\(Instr.yield e.c An).run P w=.ok (.round e.c g tmps as bd) w /\
  ∀c cs,Steps P (lone (Frame.round e.c g tmps as bd .normal) (c::cs) w) (lone (c.finish v') cs w')
structure Bd(P:Program)(G:Nat)(Z:Ac):Prop where
 call:Aed P G Z
 round:AbL P G Z
 mono:Dw Z
def AbK(P:Program)(b:FB)(o:Oper)(a:Act)(w:World)(v':Value)(w':World):Prop:=
 ∀(ops:Array Oper) (i:Nat) (rest:uw) (k:List Item) (cs:List Frame),ops[i]?=some o->Region.wanted o (yielded ops a.tmps)=true->Calm b cs ->
  Steps P (lone (b.at a (.inRegion ops (i::rest)::k)) cs w) (lone (b.at (a.put o.dst v') (.inRegion ops rest::k)) cs w')
def Afl(P:Program)(G:Nat)(Z:Ac)(o:Oper):Prop:=∀(σ:Dx) (nt:Nat) (f:L2) (a:Act) (h h':H) (w:World) (v:AV) (b:FB),
 opD o.op o.type P Z f h=.ok v h'->o.op.operands.toList.all (Es G)=true->St G σ nt f a h w->RBk b σ f->h'.nx<=Bq->Fx σ h h' ->
 ∃c v' w',Au c v v'/\Out G σ h w c h' w'/\AbK P b o a w v' w'
def Art{r:OR}(d:opD o.op o.type P Z f h=r)(i:∀n,r≠.bad n):∀c,o.op≠.defer c:=by intro c e;rw[e]at d;exact i _ d.symm
def AbK.ran{v':Value}(hd:∀c,o.op≠.defer c)(j:Ran P (execOp a.eval o) w v' w'):AbK P b o a w v' w':=by intro ops i rest k cs e d l;exact .one (AuJ e d (.inr hd) j)
def R5.sound{o}(m:R5 P G o):Afl P G Z o:=by
 intro σ nt f a h h' w v b c i l hb e d;have hd:=Art c λn hn=>by grind
 obtain⟨p,v',w',h1,h2,j⟩:=m _ _ f a h _ w v _ c i l e d;exact⟨_,_,_,h2,j,.ran hd h1⟩
def St.ms(c:St G σ nt f a h w):Ms G σ h w:=⟨c.ai,c.so,c.ma⟩
def AdS:Extern.allNextRows.lookup Jk=none:=by kernel_rfl
def Akq:Extern.allNextRows.lookup Mk=none:=by kernel_rfl
def AcP:Extern.allNextRows.lookup ""=none:=by kernel_rfl
def Afz:Extern.allGenericRows.lookup Jk=none:=by kernel_rfl
def AmH:Extern.allGenericRows.lookup Mk=none:=by kernel_rfl
def Adm:Extern.allTypedRows.lookup Jk=none:=by kernel_rfl
def AiG:Extern.allTypedRows.lookup Mk=none:=by kernel_rfl
def Agh:Extern.allRows.lookup Jk=some Extern.AbiNoEscape.same:=by kernel_rfl
def AnV:Extern.allRows.lookup Mk=some Extern.BytealgIndexByte.indexByte:=by kernel_rfl
def Ami c:∀l i,Ak9 c.toNat (l.map UInt8.toNat) i=if Lib.indexByte l c=-1 then -1 else Lib.indexByte l c+i
|[],i=>rfl
|x::l,i=>by
 have j:=Ami c l (i+1);have d:=Lib.indexByte_ge l c;show Bool.rec _ ..=_;unfold Lib.indexByte;by_cases e:x=c;. simp_all
 .have m:Nat.beq x.toNat c.toNat=false:=by cases hb:Nat.beq .. with
   |false=>rfl
   |true=>exact absurd (Is.1 (Ch hb)) e
  simp_all;omega
def AmE{args:uz}{An:Array Value}(g:AgK (Uk P p) args h=.ok v h')(E:Bk σ args An.toList)(M:Bg P p=false):
 ∃v',(callFunc p An).run P w=.ok (.value v') w/\Au σ v v'/\h'=h:=by
 unfold AgK at g;split at g
 .rename_i x d;obtain⟨rfl,rfl⟩:=B4 g;obtain⟨y,l,B,D,t⟩:=E.F8;have j:=t.Rt;subst j;have i:An=#[y]:=by have:=Jh List.toArray B;simpa using this
  subst i;unfold Uk at d;split at d
  .rename_i fn z;split at d
   .cases d
   .rename_i r;split at d
    .rename_i m;split at d
     .rename_i hn;refine⟨y,?_,D,rfl⟩;have q:fn.body=none:=by simpa using r
      have h1:Extern.findNext fn=none:=by simp[Extern.findNext,hn,m,AdS,AcP]
      have h2:Extern.find fn=some Extern.AbiNoEscape.same:=by simp[Extern.find,hn,Afz,Adm,Agh]
      have K:(Extern.AbiNoEscape.same #[y]).run P w=.ok y w:=rfl;simp[callFunc,z,hn,q,h1,h2,mark,Sem.run];rw[K];rfl
     .split at d<;>cases d
    .cases d
  .cases d
 .rename_i s c d;split at g
  .rename_i S n L hn;obtain⟨rfl,rfl⟩:=B4 g;have C:=Rj L;subst C;obtain⟨Q,O⟩:=Xg hn;subst Q;obtain⟨y,l,B,D,t⟩:=E.F8;obtain⟨R,l2,rfl,u,j⟩:=t.F8;have A:=j.Rt;subst A;have i:An=#[y,R]:=by have:=Jh List.toArray B;simpa using this
   subst i;obtain⟨bs,rfl,rfl⟩:=AuQ D;cases u;unfold Uk at d;split at d
   .rename_i fn z;split at d
    .cases d
    .rename_i r;split at d
     .rename_i m;split at d
      .cases d
      .rename_i F;split at d
       .rename_i o;have q:fn.body=none:=by simpa using r
        have h1:Extern.findNext fn=none:=by simp[Extern.findNext,o,m,Akq,AcP]
        have h2:Extern.find fn=some Extern.BytealgIndexByte.indexByte:=by simp[Extern.find,o,AmH,AiG,AnV]
        refine⟨.int .i64 (Lib.indexByte bs.data.toList (UInt8.ofNat n)),?_,?_,rfl⟩
        .have:=Lib.run_indexByteString (P:=P) bs (Int.ofNat n) w;have e:(Int.ofNat n).toNat.toUInt8=UInt8.ofNat n:=rfl;rw[e]at this;simp[callFunc,z,o,q,h1,h2,mark,Sem.run];rw[show(Extern.BytealgIndexByte.indexByte #[Value.string bs,Value.int IntKind.u8 (↑n:Int)]).run P w=_ from this]
         rfl
        .have e:=Ami (UInt8.ofNat n) bs.data.toList 0;have I:(UInt8.ofNat n).toNat=n:=by simp[UInt8.toNat_ofNat,dm O]
         rw[I]at e;have J:Ak9 n (bytesOf bs) 0=Lib.indexByte bs.data.toList (UInt8.ofNat n):=by
          show Ak9 n (bs.data.toList.map UInt8.toNat) 0=_;rw[e];split
          .rename_i hq;exact hq.symm
          .simp
         rw[J];exact .int _ _
       .cases d
     .cases d
   .cases d
  .cases g
 .cases g
def R7(P:Program)(r:Result Next)(v':Value)(w':World):Prop:=
 r=.ok (.value v') w'\/(∃g args w0,r=.ok (.enter g args) w0/\∀c cs,Steps P (lone (Frame.enter P g args .normal) (c::cs) w0) (lone (c.finish v') cs w')) \/
  ∃l g tmps as bd w0,r=.ok (.round l g tmps as bd) w0/\∀c cs,Steps P (lone (Frame.round l g tmps as bd .normal) (c::cs) w0) (lone (c.finish v') cs w')
def AbK.next{o}{v'}(hd:∀c,o.op≠.defer c)(hn:R7 P ((execOp a.eval o).run P w) v' w'):AbK P b o a w v' w':=by
 rcases hn with hn|⟨g,args,w0,hn,m⟩|⟨l,g,tmps,as,bd,w0,hn,m⟩;. exact .ran hd (.inl hn)
 .intro ops i rest k cs e d n;have j:=FB.finish_at b a ops i rest k v';refine .head (Amh e d (.inr hd) hn) ?_;grind
 .intro ops i rest k cs e d n;have j:=FB.finish_at b a ops i rest k v';refine .head (AuH e d (.inr hd) hn) ?_;grind
def O3(hb:Bg P p=true):∃fn c,P.funcs[p]?=some fn/\fn.body=some c/\(fn.name == "runtime.NumGoroutine")=false:=by
 unfold Bg at hb;split at hb
 .rename_i fn e;rw[Sc]at hb;obtain⟨c,d⟩:=Mw.1 hb.2;exact⟨fn,c,e,d,by simpa using hb.1⟩
 .cases hb
def Ih{g}(hb:Bg P g=true) args w:(callFunc g args).run P w=.ok (.enter g args) w:=by
 obtain⟨fn,c,h1,h2,e⟩:=O3 hb;have d:¬ fn.name = "runtime.NumGoroutine":=by grind
 simp[callFunc,h1,h2,d,Sem.run]
def Aa0(s:Bd P G Z){g}{args}{An}(d:Aeg P Z g args h=.ok v h')(j:Bk σ args An.toList)(e:Ms G σ h w)(t:Vm G σ)(n:h'.nx<=Bq)(l:Fx σ h h'):
 ∃i v' w',Au i v v'/\Out G σ h w i h' w'/\R7 P ((callFunc g An).run P w) v' w':=by
 rcases Bl d with⟨hb,d⟩|⟨hb,d⟩;. obtain⟨i,v',w',u,fn,h1,h2,r,o,q,m⟩:=s.call g _ h _ v _ w _ _ d hb j e t n l;refine⟨_,_,_,h2,r,.inr (.inl ⟨g,_,w,Ih hb _ w,λc cs=>?_⟩)⟩;obtain⟨x,p⟩:=m _ (.inl rfl);exact p.trans (.one (ArV o rfl h1 q))
 .obtain⟨v',h1,h2,rfl⟩:=AmE (w:=w) d j hb;exact⟨_,_,w,h2,Out.refl e.ai e.so e.ma,.inl h1⟩
def Adf{t:TypeId}{name:String}(c:Ls P t name=some p)(x:Value)(args:Array Value)(w:World):
 (callMethod (.iface t x) name args).run P w=(callFunc p (#[x]++args)).run P w:=by
 unfold Ls at c;split at c
 .rename_i i hi;split at c
  .rename_i m l;obtain⟨n,o⟩:∃n,P.types.size+Made.depth=n+1:=⟨P.types.size+99,rfl⟩;split at c
   .rename_i e g r q;cases c;have j:m.path=#[]:=by simpa using g
    simp[callMethod,o,method,typeInfo,hi,l,j,follow,r,receiverAt,underlying,q,Place.get]
   .cases c
   .rename_i d s g r q;cases c;have j:m.path=#[]:=by simpa using g
    cases d<;>first|(exact absurd rfl (s _))|simp[callMethod,o,method,typeInfo,hi,l,j,follow,r,receiverAt,underlying,q,Place.get]
   .cases c
  .cases c
 .cases c
def Aa1(o:Bd P G Z){r}{i}{name}{args}{An}(c:Hn P Z r name args h=.ok v h')(m:Au σ r i)(n:Bk σ args An.toList)(l:Ms G σ h w)
 (hg:Vm G σ) (hl:h'.nx<=Bq) (hf:Fx σ h h'):∃j v' w',Au j v v'/\Out G σ h w j h' w'/\R7 P ((callMethod i name An).run P w) v' w':=by
 unfold Hn at c;split at c
 .rename_i t x p;have:=Pq p;subst this;cases m;rename_i x' d;split at c;. rename_i g e;rw[Adf e];exact Aa0 o c (by simpa using Bk.cons d n) l hg hl hf
  grind
 grind
def Ad7(m:Bd P G Z){fn:Fn}{cap args:uz}{d An:Array Value}(hy:∀l,fn≠.yield l)(c:M6 P Z fn cap args h=.ok v h')(e:Bk σ cap d.toList)(j:Bk σ args An.toList)
 (hm:Ms G σ h w) (hg:Vm G σ) (hl:h'.nx<=Bq) (hf:Fx σ h h'):∃i v' w',Au i v v'/\Out G σ h w i h' w'/\R7 P ((invoke (.fn fn d) An).run P w) v' w':=by
 unfold M6 at c;split at c
 .rename_i g;rw[Dl]at c;have:(invoke (.fn (.func g) d) An).run P w=(callFunc g (An++d)).run P w:=by simp[invoke]
  rw[this];exact Aa0 m c (by simpa using j.append e) hm hg hl hf
 .exact absurd rfl (hy _)
 .cases c
def ApM(t:Bd P G Z){x}{x'}{args}{An}(i:cvV x args P Z h=.ok v h')(B:Au σ x x')(s:Bk σ args An.toList)(q:Ms G σ h w)(u:Vm G σ)(r:h'.nx<=Bq)
 (hf:Fx σ h h'):∃d,(∀w,(Deferred.ofValue x' An).run P w=.ok d w)/\∃j v' w',Au j v v'/\Out G σ h w j h' w'/\R7 P ((invoke d.target d.args).run P w) v' w':=by
 cases B<;>first|(cases i)|skip
 .rename_i fn as cs y D7 hy ha o m p;have c:M6 P _ _ _ _ h=.ok v _:=i;rw[Dl]at c;exact⟨_,λw=>rfl,Ad7 t hy c ⟨m,p⟩ (by simpa using Bk.append ⟨ha,o⟩ s) q u r hf⟩
 .rename_i l e n;have c:=i;refine⟨_,λw=>rfl,?_⟩;obtain⟨j,v',w',g,tmps,as,bd,h1,h2,A,z⟩:=t.round l _ h _ v _ w _ e c n s q u r hf;refine⟨_,_,_,h1,h2,.inr (.inr ⟨_,g,_,_,_,w,?_,z⟩)⟩;simp[invoke,A]
def Am3(I:Builtin){ts:List TypeId}{tsA:Array TypeId}{ty:TypeId}{cns:Array Bool}{args:uz}{An:Array Value}(r:tsA.toList=ts)(c:J8 I ts args P h=.ok v h')(z:Bk σ args An.toList)
 (hm:Ms G σ h w) (hl:h'.nx<=Bq) (hf:Fx σ h h'):∃o v' w',Au o v v'/\Out G σ h w o h' w'/\(builtin I tsA ty cns An).run P w=.ok (.value v') w':=by
 have e:∀(s:Sem Value),Ad4 P G σ h w s v h'->∃o v' w',Au o v v'/\Out G σ h w o h' w'/\(do pure (Next.value (<- s)):Sem Next).run P w=.ok (.value v') w':=by rintro s ⟨o,v',w',h1,h2,O⟩;exact⟨o,v',w',h2,O,by simp[h1]⟩
 have u:∀(i:Nat) (t:TypeId),ts[i]?=some t->tsA[i]?=some t:=by intro i t F;rw[<- r]at F;simpa using F
 have m:∀x,args=[x]->∃y,An=#[y]/\Au σ x y:=by rintro x rfl;obtain⟨y,l,R,Q,A⟩:=z.F8;have:=A.Rt;grind
 have j:∀x y,args=[x,y]->∃x' B,An=#[x',B]/\Au σ x x'/\Au σ y B:=by rintro x y rfl;obtain⟨x',l,R,Q,A⟩:=z.F8;obtain⟨B,l2,rfl,K,C⟩:=A.F8;have:=C.Rt;grind
 unfold J8 at c;split at c
 .split at c
  .rename_i t t2 _ s x;rcases Bl c with⟨E,c⟩|⟨_,c⟩;. obtain⟨J,x',rfl,D,q⟩:=j s x rfl;exact e _ (Ad8 c D q hm (u 0 t (by simp)) (u 1 t2 (by simp)) E hl hf)
   .cases c
  .cases c
 .split at c;. rename_i t _ x;obtain⟨x',rfl,q⟩:=m x rfl;exact e _ (Anr c q hm (u 0 t (by simp)))
  .cases c
 .split at c;. rename_i t _ d s;obtain⟨T,J,rfl,hd,D⟩:=j d s rfl;exact e _ (Ahi c hd D hm (u 0 t (by simp)))
  .cases c
 .exact e _ (by simpa using Aia true (ts:=tsA) (ty:=ty) c z hm)
 .exact e _ (by simpa using Aia false (ts:=tsA) (ty:=ty) c z hm)
 .split at c
  .rename_i t _ x;obtain⟨x',rfl,q⟩:=m x rfl;split at c;. rename_i L;exact e _ (Aj0 L c q hm (u 0 t (by simp)))
   .cases c
  .cases c
 .split at c;. rename_i x;obtain⟨x',rfl,q⟩:=m x rfl;exact e _ (Aoe c q hm)
  .cases c
 .split at c;. rename_i t t2 p n;obtain⟨U,S,rfl,M,hn⟩:=j p n rfl;exact e _ (Aop c M hn hm (by simpa using Jh List.toArray r))
  .cases c
 .cases c
def AgP{c}(e:(Op.call c).operands.toList.all (Es G)=true)(d:St G σ nt f a h w):Bk σ (W1 c.args.toList f) (c.args.map a.eval).toList:=by have:=Abw d.fr d.gl c.args.toList (by rw[Od]at e ⊢;intro x i;exact e x (by simp[Op.operands,Call.operands,Ol,T2];grind));simp_all
def Ajz(I:Bd P G Z){dst:Option Tmp}{ty:TypeId}{pos:String}{af:Array Edge}{gd:Option (Nat × Bool)}(c:Call):Afl P G Z ⟨dst,.call c,ty,pos,af,gd⟩:=by
 intro σ nt f a h h' w v b O s n hb E C;have hd:∀d,(Oper.mk dst (.call c) ty pos af gd).op≠.defer d:=λd hd=>by cases hd
 have t:=AgP s n;obtain⟨m,args,j⟩:=c;dsimp only at t;have A:ceD m args.toList j.toList P Z f h=.ok v h':=O;cases m with
 |value g=>
  have o:Au σ (ev g f) (a.eval g):=Cj n.fr n.gl g (by rw[Od]at s;exact s g (by simp[Op.operands,Call.operands]));obtain⟨d,D,q,v',w',h1,h2,p⟩:=ApM I (An:=args.map a.eval) A o t n.ms n.gl E C;refine⟨q,v',w',h1,h2,.next hd ?_⟩;have:(execOp a.eval ⟨dst,.call ⟨.value g,args,j⟩,ty,pos,af,gd⟩).run P w=(invoke d.target d.args).run P w:=by simp[execOp,resolve,Sem.run_bind,D]
  rw[this];exact p
 |invoke r name=>
  have o:Au σ (ev r f) (a.eval r):=Cj n.fr n.gl r (by rw[Od]at s;exact s r (by simp[Op.operands,Call.operands]));obtain⟨q,v',w',h1,h2,p⟩:=Aa1 I (An:=args.map a.eval) A o t n.ms n.gl E C;refine⟨q,v',w',h1,h2,.next hd ?_⟩;have:(execOp a.eval ⟨dst,.call ⟨.invoke r name,args,j⟩,ty,pos,af,gd⟩).run P w=(callMethod (a.eval r) name (args.map a.eval)).run P w:=by
   have e:(#[a.eval r]++args.map a.eval).extract 1 (#[a.eval r]++args.map a.eval).size=args.map a.eval:=by simp_all
   simp only[execOp,resolve,Sem.run_bind,Sem.run_pure,Result.andThen_ok,invoke];rw[e];have J:(#[a.eval r]++args.map a.eval)[0]?=some (a.eval r):=by rw[bt (by show 0<1;omega)];rfl
   rw[J]
  rw[this];exact p
 |builtin x=>
  have y:Aa5 x args.toList j.toList P Z f h=.ok v h':=A;unfold Aa5 at y;split at y
  .have u:AnS (vT (f.get Br)) h=.ok v h':=y;unfold AnS at u;split at u
   .rename_i l F;obtain⟨rfl,rfl⟩:=B4 u;have B:b.ro=none:=by
     rcases hb with⟨h1,_⟩|⟨_,c,l2,e,h1,h2,_⟩;. exact h1
     .rw[h2]at F;cases F
    refine⟨σ,.nilIface,w,.B3,Out.refl n.ai n.so n.ma,?_⟩;intro ops i rest k cs M L K;refine .one (Aoc M L B (K.recover a) ?_);simp[execOp,resolve,invoke,builtin]
   .cases u
  .obtain⟨cns,z⟩:∃cns,(execOp a.eval ⟨dst,.call ⟨.builtin x,args,j⟩,ty,pos,af,gd⟩).run P w=(builtin x j ty cns (args.map a.eval)).run P w:=
    ⟨_,by rfl⟩;obtain⟨q,v',w',h1,h2,p⟩:=Am3 x (tsA:=j) (ty:=ty) (cns:=cns) rfl y t n.ms E C;refine⟨q,v',w',h1,h2,.next hd (.inl ?_)⟩;rw[z];exact p
def Aim(l:Bd P G Z)(o:Oper):Afl P G Z o:=by
 obtain⟨dst,op,ty,pos,af,gd⟩:=o;cases op;case move x=>exact(Ae1 x).to3.sound
 case assign x=>exact(AaD x).to3.sound
 case pick c x y=>exact(Ae2 c x y).to3.sound
 case alloc e=>exact(Acn e).to3.sound
 case box e x=>exact(Ah4 e x).to3.sound
 case build t p=>exact(Acp t p).to3.sound
 case buildSlice t n p=>exact(Ro t n p).to3.sound
 case insert t m k x=>exact(Af0 t m k x).sound
 case load t x=>exact(AjC t x).sound
 case store t x y=>exact(Ah3 t x y).sound
 case nilCheck x=>exact(Vq x).to3.sound
 case binOp op t x y yt=>exact(Aco op t x y yt).to3.sound
 case unOp op t x=>exact(Ae3 op t x).to3.sound
 case convert s d x=>exact(AdH s d x).sound
 case makeInterface t x=>exact(Sv t x).to3.sound
 case makeFunc fn x y=>exact(Vp fn x y).to3.sound
 case makeMap t r=>exact(AdI t r).sound
 case makeSlice t x y=>exact(Abh t x y).sound
 case slice t x lo hi mx=>exact(Acs t x lo hi mx).to3.sound
 case fieldAddr t x i=>exact(Ss t x i).to3.sound
 case field t x i=>exact(Acq t x i).to3.sound
 case indexAddr t x i=>exact(Su t x i).to3.sound
 case index t x i=>exact(Acr t x i).to3.sound
 case lookup t x i ok=>exact(Af1 t x i ok).sound
 case mapUpdate t m k x=>exact(Abi t m k x).sound
 case typeAssert x xt t ok=>exact(Rp x xt t ok).to3.sound
 case extract x i=>exact(Xz x i).to3.sound
 case call c=>exact Ajz l c
 all_goals
  intro σ nt f a h h' w v b j z A hb u q;cases j
variable {σ':Dx}{f':L2}
def Fx.left{h1:H}(d:Fx σ h h')(c:h1.nx<=h'.nx):Fx σ h h1:=λx h2 e=>d x h2 om
def Fx.right{h1}(c:Fx σ h h')(j:Out G σ h w σ' h1 w'):Fx σ' h1 h':=by obtain⟨nw,a1,a2,_⟩:=j;intro x h2 i;have:=a1.nx;cases d:σ' x with
|none=>rfl
|some e=>have:=a2.fresh x e (c x om i) d;omega
def Out.le(c:Out G σ h w σ' h' w'):Qq σ σ':=by obtain⟨_,_,a2,_⟩:=c;exact a2.le
def Out.ms(d:Out G σ h w σ' h' w'):Ms G σ' h' w':=by obtain⟨_,a1,a2,c⟩:=d;exact⟨a1.inv,a2.ok,c⟩
def Vm.mono(d:Vm G σ)(c:Qq σ σ'):Vm G σ':=λg h1=>by obtain⟨e,h2,i⟩:=d g h1;exact⟨e,c _ _ h2,i⟩
def St.next{e}(i:St G σ nt f a h w)(c:Out G σ h w σ' h' w')(d:Pt σ' nt f' e):St G σ' nt f' e h' w':=
 ⟨d,i.gl.mono c.le,c.ms.ai,c.ms.so,c.ms.ma⟩
def RBk.mono(hb:RBk b σ f)(d:Qq σ σ')(hd:f'.get Br=f.get Br):RBk b σ' f':=by
 rcases hb with⟨h1,ds,h2⟩|⟨h0,c,l,e,h1,h2,j,i⟩
 .exact .inl ⟨h1,ds,by rw[hd,h2]⟩
 .exact .inr ⟨h0,c,l,e,h1,by rw[hd,h2],d _ _ j,i⟩
def Mm(hd:∀t:Nat,j=some t->t<250)(u:Nat)(c:u<256):(Im j v f).get u=if j=some u then v else f.get u:=by
 cases j with
 |none=>simp[Im]
 |some t=>
  show(f.set t v).get u=_;rw[L2.Dh t u v f (Pz (hd t rfl) fe) c];by_cases h1:u=t
  .subst h1;simp
  .rw[X2 h1,X2 (λe=>h1 (by cases e;rfl))]
def ArI(a:Act)(d:Option Tmp)(v:Value):(a.put d v).tmps.size=a.tmps.size:=by cases d<;>simp[Act.put]
def ArG(hd:∀t:Nat,j=some t->t<a.tmps.size)(v':Value)(u:Nat):(a.put j v').tmps.getD u undef=if j=some u then v' else a.tmps.getD u undef:=by
 cases j with
 |none=>simp[Act.put]
 |some t=>
  have e:=hd t rfl;show(a.tmps.setIfInBounds t v').getD u undef=_;by_cases h1:t=u
  .subst h1;simp[Array.getD,e]
  .rw[X2 (λc=>h1 (by cases c;rfl))];simp only[Ak];rw[aj h1]
def Pt.put{v'}(c:Pt σ nt f a)(hd:∀t:Nat,j=some t->t<nt)(i:nt<250)(m:Au σ v v'):Pt σ nt (Im j v f) (a.put j v'):=by
 refine⟨by rw[ArI];exact c.size,?_,?_⟩
 .intro t d;rw[Mm (λu e=>Pz (hd u e) i) t (Pz d (by simp)),ArG λu e=>by rw[c.size];grind];split;. omega
  .exact c.slot t d
 .rw[Mm (λu e=>Pz (hd u e) i) _ fe,X2 λl=>by have h1:255<nt:=hd _ l;omega];have:(a.put j v').defers=a.defers:=by cases j<;>rfl
  rw[this];exact c.defers
def gv(ops:Array Oper)(o:Oper)(f:L2):WT:=match guardOf ops o with|.always=>.yes|.on t want=>Adq (f.get t) want|.bad=>.bad
def Ain(ops:Array Oper)(o:Oper):Fp ops o P Z f h=Amo (gv ops o f) o P Z f h:=by unfold Fp gv;cases guardOf ops o<;>rfl
def Pf{ops:Array Oper}(d:Fp ops o P Z f h=I)(m:∀n,I≠.bad n):
 (gv ops o f=.no/\I=.Bt (Im o.dst (.Bj []) f) h) \/
 (gv ops o f=.yes/\Ie o.op=none/\∃v h',opD o.op o.type P Z f h=.ok v h'/\I=.Bt (Im o.dst v f) h') \/
 (gv ops o f=.yes/\∃c,Ie o.op=some c/\Th c o.dst o.type P Z f h=I):=by
 rw[Ain]at d;cases j:gv ops o f with
 |no=>rw[j]at d;exact .inl ⟨rfl,d.symm⟩
 |bad=>rw[j]at d;exact absurd d.symm (m _)
 |yes=>
  rw[j]at d;have e:op1 o o.dst o.type P Z f h=I:=d;unfold op1 at e;cases hd:Ie o.op with
  |none=>
   rw[hd]at e;have i:Akx o.dst f (opD o.op o.type P Z f h)=I:=e;refine .inr (.inl ⟨rfl,rfl,?_⟩);cases l:opD o.op o.type P Z f h with
   |bad n=>rw[l]at i;exact absurd i.symm (m _)
   |ok v h'=>rw[l]at i;exact⟨v,h',rfl,i.symm⟩
  |some c=>rw[hd]at e;exact .inr (.inr ⟨rfl,c,rfl,e⟩)
def AfF{o:Op}{c:Call}(hd:Ie o=some c):o=.defer c:=by
 cases o<;>first|(cases hd;done)|skip
 cases hd;rfl
def Zy{ops:Array Oper}{o:Oper}(p:∀x∈ops.toList,Gl G nt x=true)(i:Pt σ nt f a)(n:nt<250):
 (gv ops o f=.yes->Region.wanted o (yielded ops a.tmps)=true)/\(gv ops o f=.no->Region.wanted o (yielded ops a.tmps)=false):=by unfold gv guardOf Region.wanted;cases u:o.guard with
 |none=>simp_all
 |some s=>obtain⟨j,c⟩:=s;dsimp only;cases hj:(ops[j]?).bind (·.dst)with
  |none=>simp[*]
  |some t=>
   dsimp only;have m:t<nt:=by cases e:ops[j]? with
    |none=>rw[e]at hj;cases hj
    |some x=>
     rw[e]at hj;have r:x∈ops.toList:=by grind
     have:=p x r;unfold Gl at this;rw[show x.dst=some t from hj]at this;cases hq:x.op.operands.toList.all (Es G)with
     |false=>simp_all
     |true=>rw[hq]at this;exact Ec this
   have l:=i.slot t (Pz m n);have q:a.tmps[t]?=some (a.tmps.getD t undef):=by
    have:t<a.tmps.size:=by rw[i.size];exact m
    simp[Array.getD,this]
   unfold yielded;rw[hj];simp only[Option.bind_some,q];generalize f.get t=x at l;generalize a.tmps.getD t undef=y at l;cases l;case bool bb=>show((Bool.rec WT.no WT.yes (Aju bb c))=WT.yes->_)/\((Bool.rec WT.no WT.yes (Aju bb c))=WT.no->_);rw[Afn];cases bb<;>cases c<;>(simp)
   all_goals
    refine⟨λd=>?_,λd=>?_⟩;. first|(change WT.no=WT.yes at d;cases d;done)|(change WT.bad=WT.yes at d;cases d;done)
    .first|rfl|(change WT.bad=WT.no at d;cases d;done)
def Lu{o}(c:Gl G nt o=true):o.op.operands.toList.all (Es G)=true/\∀t:Nat,o.dst=some t->t<nt:=by unfold Gl at c;cases hq:o.op.operands.toList.all _ with
|false=>simp_all
|true=>rw[hq]at c;refine⟨rfl,λt d=>?_⟩;rw[d]at c;exact Ec c
def Wn(hc:Bd P G Z){ops:Array Oper}(Fs:∀x∈ops.toList,Gl G nt x=true)(s:nt<250)(ho:Gl G nt o=true)(he:Fp ops o P Z f h=I)(R:∀n,I≠.bad n)
 (hs:St G σ nt f a h w) (hb:RBk b σ f):∃f' h',I=.Bt f' h'/\(h'.nx<=Bq->Fx σ h h'->∃D Y w',St G D nt f' Y h' w'/\RBk b D f'/\Out G σ h w D h' w' /\
  ∀i rest k cs,ops[i]?=some o->Calm b cs->Steps P (lone (b.at a (.inRegion ops (i::rest)::k)) cs w) (lone (b.at Y (.inRegion ops rest::k)) cs w')):=by
 obtain⟨r,p⟩:=Lu ho;have U:=Zy (o:=o) Fs hs.fr s;have z:∀v,(Im o.dst v f).get Br=f.get Br:=by intro v;rw[Mm (λu T=>Pz (p u T) s) Br fe,X2 (λC=>by have h1:(255:Nat)<nt:=p 255 C;omega)]
 rcases Pf he R with⟨A,rfl⟩|⟨A,hnd,v,h',hv,rfl⟩|⟨A,c,hd,d⟩
 .refine⟨_,_,rfl,λQ O=>⟨σ,a.put o.dst undef,w,hs.next (Out.refl hs.ai hs.so hs.ma) (hs.fr.put p s (L6 σ)),hb.mono (Qq.refl σ) (z _),Out.refl hs.ai hs.so hs.ma,?_⟩⟩;intro i rest k cs j M;have hw:=U.2 A;have:=Asa (P:=P) (b:=b) (a:=a) (k:=k) (cs:=cs) (w:=w) (ops:=ops) (i:=i) (rest:=rest) (by rw[j];simpa using hw);rw[j]at this;exact .one this
 .refine⟨_,_,rfl,λQ O=>?_⟩;obtain⟨D,v',w',h1,h2,h3⟩:=Aim hc o σ nt f a h h' w v b hv r hs hb Q O;refine⟨D,a.put o.dst v',w',hs.next h2 ((hs.fr.mono h2.le).put p s h1),hb.mono h2.le (z _),h2,?_⟩;intro i rest k cs j M;exact h3 ops i rest k cs j (U.1 A) M
 .have q:=AfF hd;unfold Th at d;split at d
  .rename_i g J;unfold Ace at d;split at d
   .rename_i k as cap ds l F;have l:=Aaq l;have F:=Aar F;refine⟨_,_,d.symm,λQ O=>?_⟩;have m:Au σ (ev g f) (a.eval g):=Cj hs.fr hs.gl g (by rw[Od]at r;exact r g (by simp[q,Op.operands,Call.operands,J]));rw[l]at m;have Ow:Bk σ (W1 c.args.toList f) (c.args.map a.eval).toList:=by have:=Abw hs.fr hs.gl c.args.toList (by rw[Od]at r ⊢;intro x hx;exact r x (by rw[q];simp only[Op.operands,Call.operands,Ol,T2];exact .inr hx));simpa using this
    generalize K:a.eval g=gx at m;cases m;rename_i y D7 hy ha V W S;have B:b.ro=none:=by
     rcases hb with⟨h1,_⟩|⟨_,c,l2,e,h1,h2,_⟩
     .exact h1
     .rw[h2]at F;cases F
    have E:=hs.fr.defers;rw[F]at E;have L:Pt σ nt (f.set Br (.Bj (.fn (.func k) (J0 as (W1 c.args.toList f)) cap::ds))) ⟨a.tmps,{ target:=.fn (.func k) D7,args:=y++c.args.map a.eval }::a.defers⟩:=by
     refine⟨hs.fr.size,?_,?_⟩
     .intro t X;rw[L2.Dh Br t _ f fe (Pz X fe),X2 (by intro C;have h1:t=255:=C;omega)];exact hs.fr.slot t X
     .rw[L2.Dh Br Br _ f fe fe,Xo rfl];refine .cons _ _ _ _ (.fn k _ _ _ _ ?_ ⟨W,S⟩) E;rw[Dl];simpa using Bk.append (⟨ha,V⟩:Bk σ as y.toList) Ow
    refine⟨σ,_,w,hs.next (Out.refl hs.ai hs.so hs.ma) (L.put p s (L6 σ)),?_,Out.refl hs.ai hs.so hs.ma,?_⟩
    .refine .inl ⟨B,.fn (.func k) (J0 as (W1 c.args.toList f)) cap::ds,?_⟩;rw[Mm (λu T=>Pz (p u T) s) Br fe,X2 (λC=>by have h1:(255:Nat)<nt:=p 255 C;omega)]
     rw[L2.Dh Br Br _ f fe fe,Xo rfl]
    .intro i rest k2 cs j M;refine .one (Ak5 j (U.1 A) B ?_);have e:(execOp a.eval o).run P w=(do pure (Next.defer (<- resolve a.eval c o.type)):Sem Next).run P w:=by simp only[execOp,q]
     rw[e];simp[resolve,J,K,Deferred.ofValue]
   .exact absurd d.symm (R _)
  .exact absurd d.symm (R _)
def AnH{ops:Array Oper}(i:Fp ops o P Z f h=I)(e:∀n,I≠.bad n):∃f' h',I=.Bt f' h':=by
 rcases Pf i e with⟨_,rfl⟩|⟨_,_,v,h',_,rfl⟩|⟨_,c,_,d⟩
 .exact⟨_,_,rfl⟩
 .exact⟨_,_,rfl⟩
 .unfold Th at d;split at d
  .unfold Ace at d;split at d
   .exact⟨_,_,d.symm⟩
   .exact absurd d.symm (e _)
  .exact absurd d.symm (e _)
def BbM{ops:Array Oper}(j:∀n,I≠.bad n):∀(l:List Oper) (f:L2) (h:H),G3 P Z ops l f h=I->∃f' h',I=.Bt f' h'
|[],f,h,he=>⟨f,h,he.symm⟩
|o::l,f,h,he=>by
 have d:andThen (G3 P Z ops l) (Fp ops o P Z f h)=I:=he;cases c:Fp ops o P Z f h with
 |bad n=>rw[c]at d;exact absurd d.symm (j n)
 |Bt f1 i=>rw[c]at d;exact BbM j l f1 i d
 |ext id f1 i=>obtain⟨_,_,e⟩:=AnH c (λn hn=>by cases hn);cases e
 |ret f1 i=>obtain⟨_,_,e⟩:=AnH c (λn hn=>by cases hn);cases e
def AeM(E:Bd P G Z){ops:Array Oper}(C:∀x∈ops.toList,Gl G nt x=true)(K:nt<250):∀(l:List Oper) (i:Nat),ops.toList.drop i=l->∀(σ:Dx) (f:L2) (a:Act) (h:H) (w:World) (r:RC),
 G3 P Z ops l f h=r->(∀n,r≠.bad n)->St G σ nt f a h w->RBk b σ f->∃f' h',r=.Bt f' h'/\(h'.nx<=Bq->Fx σ h h'->∃t D w',St G t nt f' D h' w'/\RBk b t f'/\Out G σ h w t h' w' /\
  ∀k cs,Calm b cs->Steps P (lone (b.at a (.inRegion ops (List.range' i (ops.size-i))::k)) cs w) (lone (b.at D (.inRegion ops []::k)) cs w')):=by
 intro l;induction l with
 |nil=>
  intro i hi σ f a h w r z j c hb;refine⟨f,h,z.symm,λs q=>⟨σ,a,w,c,hb,Out.refl c.ai c.so c.ma,λk cs m=>?_⟩⟩;have:ops.size-i=0:=by have:=Jh List.length hi;simp at this;omega
  rw[this];exact .refl P _
 |cons o l Q=>
  intro i hi σ f a h w r z j c hb;have T:i<ops.size:=by have:=Jh List.length hi;simp at this;omega
  have d:ops[i]?=some o:=by
   have:(ops.toList.drop i)[0]?=some o:=by rw[hi];rfl
   rw[da]at this;simpa using this
  have p:ops.toList.drop (i+1)=l:=by rw[<- au,hi];rfl
  have S:o∈ops.toList:=by have:=dk d;exact Array.mem_toList_iff.2 this
  have e:andThen (G3 P Z ops l) (Fp ops o P Z f h)=r:=z;have u:∀n,Fp ops o P Z f h≠.bad n:=by intro n hn;rw[hn]at e;exact j n e.symm
  obtain⟨f1,h1,e1,s1⟩:=Wn E C K (C o S) rfl u c hb;rw[e1]at e;have y:G3 P Z ops l f1 h1=r:=e;have O:=Q5 (P:=P) E.mono ops l f1 h1;obtain⟨f',h',rfl⟩:=BbM j _ _ _ y;have A:=O f' h' (.inl y);refine⟨f',h',rfl,λs q=>?_⟩;obtain⟨L,a1,w1,M,t2,B,I⟩:=s1 om (q.left A);obtain⟨f2,h2,J,s2⟩:=Q (i+1) p L f1 a1 h1 w1 _ y j M t2;cases J;obtain⟨R,a2,w2,u1,u2,u3,u4⟩:=s2 s (q.right B);refine⟨R,a2,w2,u1,u2,B.trans u3 s,λk cs m=>?_⟩;have F:List.range' i (ops.size-i)=i::List.range' (i+1) (ops.size-(i+1)):=by
   have:ops.size-i=(ops.size-(i+1))+1:=by omega
   rw[this,eo]
  rw[F];exact(I i _ k cs d m).trans (u4 k cs m)
end Go.Ev
