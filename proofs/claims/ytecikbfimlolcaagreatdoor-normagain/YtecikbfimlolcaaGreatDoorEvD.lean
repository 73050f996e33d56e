/- Regions whose order is fixed. -/
import Derived.Test.YtecikbfimlolcaaGreatDoorEvC
import Derived.KernelRfl
import Derived.Lib.Bytealg
set_option linter.all false
noncomputable section
namespace Go.Ev
variable {j:Nat}{o:Array Value}{p:Loop}{I:Bool}{J:OR}{R:RC}
inductive Aef(ops:Array Oper):(Nat->Bool)->List Nat->Prop where
|nil (D:Nat->Bool) (h:∀i,i<ops.size->D i=true):Aef ops D []
|cons (D:Nat->Bool) (i:Nat) (o:Oper) (rest:List Nat) (ho:ops[i]?=some o) (hd:D i=false) (he:∀e∈o.after.toList,Region.binds .any e=true->D e.on=true)
 (hr:Aef ops (λj=>if j=i then true else D j) rest):Aef ops D (i::rest)
def P6(ops:Array Oper):Prop:=∀(i:Nat) (o:Oper),ops[i]?=some o->∀e∈o.after.toList,Region.binds .any e=true->e.on<i
def D0(n:Nat)(D:Nat->Bool):Nat:=((List.range n).filter λi=>!D i).length
def Oc n D:D0 (n+1) D=D0 n D+if D n=true then 0 else 1:=by unfold D0;rw[List.range_succ,List.filter_append,X8];grind
def AdV i D(hd:D i=false) n:(i<n->D0 n (λj=>if j=i then true else D j)+1=D0 n D)/\(n<=i->D0 n (λj=>if j=i then true else D j)=D0 n D):=by induction n with
|zero=>exact⟨λc=>absurd c om,λ_=>rfl⟩
|succ n d=>rw[Oc,Oc];grind
def Tm{n}{D}(h:D0 n D=0):∀i,i<n->D i=true:=by intro i hi;cases hd:D i with
|true=>rfl
|false=>
 have:0<D0 n D:=by exact List.length_pos_of_mem (bk.2 ⟨ec.2 hi,by grind⟩)
 omega
def Akd{n}{D}(h:D0 n D≠0):∃i,i<n/\D i=false/\∀j,j<i->D j=true:=by induction n with
|zero=>exact absurd rfl h
|succ n c=>
 by_cases h0:D0 n D=0;. rw[Oc,h0]at h;cases hd:D n with
   |true=>grind
   |false=>exact⟨n,by simp,hd,Tm h0⟩
 grind
def Asb{ops:Array Oper}(K:P6 ops):∀(q t:Nat) (c:Array Bool) (d:List Nat),c.size=ops.size->D0 ops.size (λi=>c.getD i true)=q ->
 ∃l,Region.linearise.go .any ops q t c d=d.reverse++l/\Aef ops (λi=>c.getD i true) l:=by intro q;induction q with
 |zero=>intro t c d I hc;exact⟨[],by simp[Region.linearise.go],.nil _ (Tm hc)⟩
 |succ q O=>
  intro t c d I hc;obtain⟨m,m1,U,S⟩:=Akd (n:=ops.size) (D:=λi=>c.getD i true) (by rw[hc];simp);have z:ops[m]?=some ops[m]:=S2 m1;have x:∀(j:Nat),j<ops.size->c.getD j true=c.getD j false:=by
   intro j hj;have:j<c.size:=by omega
   simp[Array.getD,this]
  simp only[Region.linearise.go];generalize s:((List.range ops.size).filter λi=>!c.getD i true&&((ops[i]?).map (·.after.all λe=>!Region.binds .any e||c.getD e.on false)).getD false)=rs;have Q:∀i∈rs,∃o,ops[i]?=some o/\c.getD i true=false/\∀e∈o.after.toList,Region.binds .any e=true->c.getD e.on true=true:=by intro i hi;rw[<- s,bk,ec]at hi;obtain⟨h1,h2⟩:=hi;rw[Em]at h2;have r:ops[i]?=some ops[i]:=S2 h1;rw[r]at h2;refine⟨_,r,by simpa using h2.1,λe A p=>?_⟩;have M:=h2.2;simp only[dy,C8]at M;have L:=(Array.all_eq_true'.1 M) e (by simpa using A);rw[p]at L;have J:=K i _ r e A p;rw[x _ om];simpa using L
  have R:m∈rs:=by rw[<- s,bk,ec];refine⟨m1,?_⟩;rw[Em];refine⟨by simpa using U,?_⟩;rw[z];simp only[dy,C8];refine Array.all_eq_true'.2 λe A=>?_;cases p:Region.binds .any e with
   |false=>rfl
   |true=>have J:=K m _ z e (by simpa using A) p;have:=S e.on J;rw[x _ om]at this;simpa using this
  have u:0<rs.length:=List.length_pos_of_mem R;have V:rs[t%rs.length]?=some (rs[t%rs.length]'(Nat.mod_lt _ u)):=Xs _;rw[V];generalize hi:rs[t%rs.length]'(Nat.mod_lt _ u)=i;have T:i∈rs:=by rw[<- hi];exact dl _
  obtain⟨o,r,hd,C⟩:=Q i T;have E:i<ops.size:=(Lp.1 r).1;have y:(λj=>(c.setIfInBounds i true).getD j true)=λj=>if j=i then true else c.getD j true:=by
   funext j;by_cases hj:j=i
   .subst hj;have:j<c.size:=by omega
    simp[Array.getD,this]
   .simp only[Ak,X2 hj];rw[aj (Ne.symm hj)]
  dsimp only;have B:D0 ops.size (λj=>(c.setIfInBounds i true).getD j true)=q:=by rw[y];have:=(AdV i (λj=>c.getD j true) hd ops.size).1 E;rw[hc]at this;omega
  obtain⟨l,W,F⟩:=O (t/rs.length) (c.setIfInBounds i true) (i::d) (by simp[I]) B;refine⟨i::l,by rw[W];simp,.cons _ i o l r hd C ?_⟩;rw[y]at F;exact F
def Aod{ops}(c:P6 ops) t:Aef ops (λi=>(Array.replicate ops.size false).getD i true) (Region.schedule true ops t):=by
 have hc:D0 ops.size (λi=>(Array.replicate ops.size false).getD i true)=ops.size:=by
  unfold D0;rw[List.filter_eq_self.2];. simp
  simp_all
 obtain⟨l,d,e⟩:=Asb c _ t _ [] (by simp) hc;have:Region.schedule true ops t=l:=by simp only[Region.schedule,Bool.true_or,Jr,Region.linearise,d];simp
 grind
variable {P:Program}{h h':H}{v:AV}{f:L2}{Z:Ac}
def A5(h:H)(r:OR):Prop:=∀v h',r=.ok v h'->h.nx<=h'.nx
def A5.bad n:A5 h (.bad n):=λv h' c=>by grind
def A5.same v:A5 h (.ok v h):=λv h' c=>by grind
def A5.put v b o:A5 h (.ok v (h.put b o)):=λv h' c=>by cases c;exact Yw _
def A5.A9V v b c o p:A5 h (.ok v ((h.put b o).put c p)):=λv h' d=>by cases d;exact Yw _
def A5.new v o:A5 h (.ok v (h.new o)):=λv h' c=>by cases c;exact Et _
def A5.mk o v:A5 h (mk h o v):=A5.new v o
def A5.Azy v o p:A5 h (.ok v ((h.new o).new p)):=λv h' c=>by cases c;show h.nx<=h.nx+1+1;omega
def A5.ver v b c o p q:A5 h (.ok v (((h.put b o).put c p).new q)):=λv h' d=>by cases d;exact Et _
def A5.ite{y:OR}(d:A5 h J)(hy:A5 h y):A5 h (@Bool.rec (λ_=>OR) y J I):=by cases I<;>assumption
def A5.Py x:A5 h (Py x h):=by cases x;exact .bad _;exact .same _
def A5.Ly x:A5 h (Ly x h):=by cases x;exact .bad _;exact .same _
def A5.Uv x:A5 h (Uv x h):=by cases x;exact .bad _;exact .same _
def A5.AdR x e:A5 h (AdR x e h):=by cases x;exact .bad _;exact .new _ _
def A5x{b off}{e}(i:h.wr b off e=.ok h'):h'.nx=h.nx:=by rcases AiL i with⟨c,t,d,_,_,rfl⟩|⟨c,t,k,n,d,_,_,_,rfl⟩<;>rfl
def A5.wr(b off:Nat)(c:List AV)(g:H->AV):A5 h (RH.rec (motive:=λ_=>OR) OR.bad (λh'=>.ok (g h') h') (h.wr b off c)):=by
 cases e:h.wr b off c with
 |bad n=>exact .bad n
 |ok h2=>exact λv h' d=>by cases d;rw[A5x e];exact Yw _
structure Dw(Z:Ac):Prop where
 call:∀g as h,A5 h (Z.call g as h)
 round:∀l as h,A5 h (Z.round l as h)
def An0(op:BinOp)(k:IntKind)(a:Int)(k':IntKind)(b:Int):A5 h (AqP op k a k' b h):=by
 cases op;all_goals first
  |exact A5.bad _
  |exact A5.ite (.same _) (.bad _)
  |exact A5.ite (.ite (.bad _) (.same _)) (.bad _)
  |skip
 all_goals (show A5 h _;dsimp only[AqP,AtZ,Aua];split)
 all_goals first
  |exact A5.bad _
  |exact A5.same _
  |exact A5.ite (.ite (.ite (.same _) (.bad _)) (.bad _)) (.bad _)
def An2 op a b:A5 h (AuB op a b h):=by cases op<;>first|exact A5.bad _|exact A5.same _|exact A5.ite (.same _) (.bad _)
def Aic x y op t c:A5 h (Ij x y op t c P h):=by
 unfold Ij;split;. refine A5.ite ?_ (.bad _);split;exact .same _;exact .bad _
 .refine A5.ite ?_ (.bad _);split;exact .same _;exact .bad _
 .exact .bad _
def Anx x y op t c:A5 h (Atc x x y op t c P h):=by
 cases x;case int k n=>cases y<;>first|exact A5.bad _|exact An0 _ _ _ _ _
 case str s=>cases y<;>first|exact A5.bad _|exact An2 _ _ _
 case top=>exact .bad _
 all_goals exact Aic _ _ _ _ _
def An1 x i:A5 h (ldV x i h):=by
 cases x;case ptr b o=>show A5 h (ldC _ i o h);cases h.rd b with
  |none=>exact .bad _
  |some c=>cases i with
   |none=>exact .bad _
   |some j=>cases j;exact .Py _;exact .Ly _
 all_goals exact .bad _
def Akk x cs n:A5 h (stV x cs n h):=by
 cases x;case ptr b o=>
  show A5 h (stC _ n b o h);unfold stC;split;. exact .ite (.ite (.wr _ _ _ _) (.bad _)) (.bad _)
  .exact .bad _
 all_goals exact .bad _
def Aid t m k x ty:A5 h (E6 t m k x ty P Z f h):=by unfold E6;repeat (first|exact A5.bad _|exact A5.put _ _ _|split)
def AfR s d x ty:A5 h (Ml s d x ty P Z f h):=by unfold Ml;repeat (first|exact A5.bad _|exact A5.same _|exact A5.ite (.Azy _ _ _) (.bad _)|exact A5.ite (.same _) (.bad _)|split)
def An3 b off cap sz ex l u:A5 h (AkE b off cap sz ex l u h):=
 .ite (.ite (.ite (.same _) (.ite (.same _) (.ite (.same _) (.same _)))) (.bad _)) (.bad _)
def AcM b off cap sz l u c:A5 h (Amj b off cap sz l u c h):=.ite (.ite (.ite (.same _) (.bad _)) (.bad _)) (.bad _)
def Aki s l u:A5 h (Ai9 s l u h):=by
 unfold Ai9;split;. exact .ite (.ite (.same _) (.bad _)) (.bad _)
 .exact .bad _
def Akj t x lo hi mx ty:A5 h (Aac t x lo hi mx ty P Z f h):=by refine .ite ?_ (.bad _);unfold G5;repeat (first|exact A5.bad _|exact A5.same _|exact Aki _ _ _|exact A5.ite (An3 _ _ _ _ _ _ _) (.bad _)|exact A5.ite (AcM _ _ _ _ _ _ _) (.bad _)|exact AcM _ _ _ _ _ _ _|split)
def Ard i x n:A5 h (iaX i x n h):=by
 cases i;case sl i=>cases n with
  |none=>exact .bad _
  |some n=>cases x<;>first|exact A5.bad _|exact A5.ite (.same _) (.bad _)
 case arr len i=>cases n with
  |none=>exact .bad _
  |some n=>cases x<;>first|exact A5.bad _|exact A5.ite (.same _) (.bad _)
 all_goals exact .bad _
def Aib st s x:A5 h (Xa P st s x h):=by
 unfold Xa;split
 .split
  .split;. exact .ite (.same _) (.ite (.ite (.Azy _ _ _) (.bad _)) (.bad _))
   .refine .ite (.ite (.ite (.ite ?_ (.ite ?_ ?_)) (.bad _)) (.bad _)) (.bad _);. rename_i new _ _ _ _ _ _ _ _ _;cases new with
      |nil=>exact .same _
      |cons y l=>exact .wr _ _ _ _
    .unfold Sf;repeat (first|exact A5.bad _|exact A5.Azy _ _ _|split)
    .unfold Ny;repeat (first|exact A5.bad _|exact A5.ite (.ite (.ite (.ver _ _ _ _ _ _) (.bad _)) (.bad _)) (.bad _)|split)
   .exact .bad _
  .exact .bad _
 .exact .bad _
def Are(k:LK)(x:AV):A5 h (lnK k x h):=by
 cases k;case str=>cases x<;>first|exact A5.bad _|exact A5.same _
 case sl=>cases x<;>first|exact A5.bad _|exact A5.same _
 case bad=>exact .bad _
def AlV lt l:A5 h (mm lt l h):=by unfold mm;repeat (first|exact A5.bad _|exact A5.same _|split)
def Aum t p n:A5 h (usV P t p n h):=by unfold usV;repeat (first|exact A5.bad _|exact A5.same _|exact A5.ite (.ite (.ite (.A9V _ _ _ _ _) (.bad _)) (.bad _)) (.bad _)|split)
def AfQ(b:Builtin)(ts:List TypeId)(args:List AV):A5 h (J8 b ts args P h):=by
 unfold J8;split;case h_1=>split;exact .ite (Aib _ _ _) (.bad _);exact .bad _
 case h_2=>split;exact Are _ _;exact .bad _
 case h_3=>exact AlV _ _
 case h_4=>exact AlV _ _
 case h_5=>
  split
  .unfold sdV;repeat (first|exact A5.bad _|exact A5.same _|exact A5.ite (.bad _) (.same _)|split)
  .exact .bad _
 case h_6=>split;exact Aum _ _ _;exact .bad _
 case h_7=>exact .bad _
def AcI(hc:Dw Z) g args:A5 h (Aeg P Z g args h):=by refine .ite (hc.call _ _ _) ?_;unfold AgK;repeat (first|exact A5.bad _|exact A5.same _|split)
def AcJ(hc:Dw Z) r name args:A5 h (Hn P Z r name args h):=by unfold Hn;repeat (first|exact A5.bad _|exact AcI hc _ _|split)
def AfP(hc:Dw Z) fn cap args:A5 h (M6 P Z fn cap args h):=by unfold M6;repeat (first|exact A5.bad _|exact AcI hc _ _|exact AcJ hc _ _ _|exact hc.round _ _ _|split)
def Arf(hc:Dw Z)(o:Op)(ty:TypeId)(h:H):A5 h (opD o ty P Z f h):=by
 cases o;case move x=>exact .same _
 case assign x=>exact .same _
 case pick c a b=>
  show A5 h (Bo (ev c f) (ev a f) (ev b f) h);cases ev c f;case bool q=>cases q<;>exact .same _
  all_goals exact .bad _
 case alloc e=>exact .AdR _ _
 case box e x=>exact .AdR _ _
 case build t parts=>show A5 h (Tg t parts ty P Z f h);unfold Tg;split<;>first|exact .Ly _|exact .bad _
 case buildSlice t n parts=>show A5 h (Gz t n parts ty P Z f h);unfold Gz;repeat (first|exact A5.bad _|exact A5.ite (.mk _ _) (.bad _)|split)
 case insert t m k x=>exact Aid (Z:=Z) t m k x ty
 case load t x=>exact An1 _ _
 case store t x y=>exact Akk _ _ _
 case nilCheck x=>exact .ite (.same _) (.bad _)
 case binOp op t x y yt=>exact Anx _ _ _ _ _
 case unOp op t x=>show A5 h (AaP op t x ty P Z f h);unfold AaP;repeat (first|exact A5.bad _|exact A5.same _|split)
 case convert s d x=>exact AfR (Z:=Z) s d x ty
 case makeInterface t x=>exact .ite (.same _) (.bad _)
 case makeFunc fn x y=>show A5 h (Jt fn x y ty P Z f h);unfold Jt;repeat (first|exact A5.bad _|exact A5.same _|split)
 case makeMap t r=>cases r;exact .mk _ _;exact .bad _
 case makeSlice t x y=>show A5 h (H5 t x y ty P Z f h);unfold H5;repeat (first|exact A5.bad _|exact A5.ite (.ite (.mk _ _) (.bad _)) (.bad _)|split)
 case slice t x lo hi mx=>exact Akj (Z:=Z) t x lo hi mx ty
 case fieldAddr t x i=>
  show A5 h (@Option.rec _ (λ_=>AV->H->OR) (λ_ _=>.bad 85) (λd x h=>Bs x d h) (Wa P t i) (ev x f) h);cases Wa P t i with
  |none=>exact .bad _
  |some d=>show A5 h (Bs (ev x f) d h);cases ev x f<;>first|exact A5.bad _|exact A5.same _
 case field t x i=>
  show A5 h (Ti t x i ty P Z f h);unfold Ti;split
  .exact .Py _
  .exact .bad _
 case indexAddr t x i=>exact Ard _ _ _
 case index t x i=>
  show A5 h (Tj t x i ty P Z f h);unfold Tj;split
  .cases ev x f<;>first|exact A5.bad _|exact A5.Uv _
  .split
   .exact .ite (.Py _) (.bad _)
   .exact .bad _
  .exact .bad _
 case lookup t x i ok=>show A5 h (Pe t x i ok ty P Z f h);unfold Pe;repeat (first|exact A5.bad _|exact A5.same _|split)
 case typeAssert x t ast ok=>show A5 h (G0 x t ast ok ty P Z f h);unfold G0;repeat (first|exact A5.bad _|exact A5.ite (.same _) (.bad _)|exact A5.ite (.same _) (.ite (.same _) (.bad _))|split)
 case extract x i=>show A5 h (L9 (ev x f) i h);cases ev x f<;>first|exact A5.bad _|exact A5.Py _
 case call c=>
  show A5 h (ceD c.callee c.args.toList c.argTypes.toList P Z f h);cases c.callee with
  |value g=>show A5 h (cvV (ev g f) (W1 c.args.toList f) P Z h);cases ev g f<;>first|exact A5.bad _|exact AfP hc _ _ _
  |invoke r name=>exact AcJ hc _ _ _
  |builtin b=>
   show A5 h (Aa5 b c.args.toList c.argTypes.toList P Z f h);unfold Aa5;split
   .unfold AnS;split;exact .same _;exact .bad _
   .exact AfQ _ _ _
 all_goals exact .bad _
def Ei(h:H)(r:RC):Prop:=∀f' h',(r=.Bt f' h'\/(∃i,r=.ext i f' h')\/r=.ret f' h')->h.nx<=h'.nx
def Ei.bad n:Ei h (.bad n):=λf' h' c=>by grind
def Ei.Bt f(d:h.nx<=h'.nx):Ei h (.Bt f h'):=λf' h2 c=>by grind
def Ei.ext i f(d:h.nx<=h'.nx):Ei h (.ext i f h'):=λf' h2 c=>by grind
def Ei.ret f(d:h.nx<=h'.nx):Ei h (.ret f h'):=λf' h2 c=>by grind
def Ei.ite{y:RC}(d:Ei h R)(hy:Ei h y):Ei h (@Bool.rec (λ_=>RC) y R I):=by cases I<;>assumption
def Ei.andThen{r}{k}(c:Ei h r)(d:∀f' h',Ei h' (k f' h')):Ei h (andThen k r):=by cases r with
|bad n=>exact .bad n
|Bt f' h'=>have:=c _ _ (.inl rfl);intro j h2 e;exact Vr this (d _ _ _ _ e)
|ext i f' h'=>exact c
|ret f' h'=>exact c
def Ei.Akx(d:Option Tmp)(f:L2)(c:A5 h J):Ei h (Akx d f J):=by
 cases J with
 |bad n=>exact .bad n
 |ok v h'=>exact .Bt _ (c v h' rfl)
def Aie(hc:Dw Z) o:Ei h (Ame o P Z f h):=by show Ei h (op1 o _ _ P _ f h);unfold op1;cases Ie _ with
|none=>exact .Akx _ _ (Arf hc _ _ _)
|some c=>
 show Ei h (Th c _ _ P _ f h);unfold Th;split
 .unfold Ace;split;. exact .Bt _ (Yw _)
  .exact .bad _
 .exact .bad _
def Wk(hc:Dw Z) ops o:Ei h (Fp ops o P Z f h):=by show Ei h (AjD _ o P _ f h);cases guardOf _ o with
|always=>exact Aie hc o
|on t want=>show Ei h (Amo _ o P _ f h);cases Adq .. with
 |yes=>exact Aie hc o
 |no=>exact .Bt _ (Yw _)
 |bad=>exact .bad _
|bad=>exact .bad _
def Q5(hc:Dw Z) ops l:∀f h,Ei h (G3 P Z ops l f h):=by induction l with
|nil=>exact λf h=>.Bt _ (Yw _)
|cons o l c=>exact λf h=>.andThen (Wk hc _ o) c
def Akh(hc:Dw Z)(ops:Array Oper)(lg:List Nat)(l:List DO):∀c f h,Ei h (Sp P Z ops lg l c f h):=by
 induction l with
 |nil=>exact λc f h=>.ite (.Bt _ (Yw _)) (.bad _)
 |cons o l e=>
  intro c f h;show Ei h (RC.rec (motive:=λ_=>RC) RC.bad (λf' h'=>Sp P Z ops lg l (⟨o.bit,o.pr,wrote h.nx h'.lg,Gi P o.o.op f,h,h'⟩::c) f' h') (λ_ _ _=>.bad 184) (λ_ _=>.bad 184) (Fp ops o.o P Z f (Ab h)));have d:=Wk (P:=P) (f:=f) (h:=Ab h) hc ops o.o;cases j:Fp ops o.o P Z f (Ab h)with
  |bad n=>exact .bad n
  |Bt f' h'=>rw[j]at d;have h1:h.nx<=h'.nx:=d f' h' (.inl rfl);intro p h2 m;exact Vr h1 (e _ f' h' p h2 m)
  |ext i f' h'=>exact .bad _
  |ret f' h'=>exact .bad _
def AcK{b}(d:∀f h,Ei h (b P Z f h)) k:∀f h,Ei h (Yd b P Z k f h):=by induction k with
|zero=>exact d
|succ k c=>exact λf h=>.andThen (c f h) c
def AcL(hc:Dw Z)(x:Operand)(d:Array Tmp)(as bd:Code)(u v:Fw):Ei h (AbV x d as bd u v P Z f h):=by
 have c:∀(g:FuncId) (a cap:List AV) (fr f:L2) (h1:H),h.nx<=h1.nx->Ei h (Yu P Z g a cap d.toList as bd fr f h1):=by
  intro g a cap fr f h1 i;refine .ite ?_ (.bad _);unfold Mn;split
  .rename_i v h2 e;have:=hc.call _ _ _ v h2 e;have j:h1.nx+1<=h2.nx:=this;split
   .refine .ite (.bad _) ?_;unfold Z4;split
    .exact .Bt _ (show h.nx<=h2.nx by omega)
    .exact .ret _ (show h.nx<=h2.nx by omega)
    .exact .ext _ _ (show h.nx<=h2.nx by omega)
    .exact .bad _
   .exact .bad _
  .exact .bad _
 unfold AbV;split
 .exact c _ _ _ _ _ _ (Et _)
 .exact .bad _
def Lt(hc:Dw Z) c:∀f h,Ei h (exec c P Z f h):=by induction c with
|skip=>exact λf h=>.Bt _ (Yw _)
|region id ops o=>intro f h;cases o with
 |false=>exact Q5 hc _ _ f h
 |true=>exact .ite (Akh hc _ _ _ _ f h) (.bad _)
|seq a b m d=>exact λf h=>.andThen (m f h) d
|cond c a b m d=>
 intro f h;show Ei h (Al2 _ _ _ P _ f h);cases ev c f;case bool q=>cases q;exact d f h;exact m f h
 all_goals exact .bad _
|block id a e=>intro f h;show Ei h (inBlock _ (exec a P _ f h));have:=e f h;cases j:exec a P _ f h with
 |bad n=>exact .bad n
 |Bt f' h'=>rw[j]at this;exact this
 |ext i f' h'=>rw[j]at this;exact .ite (.Bt _ (this _ _ (.inr (.inl ⟨i,rfl⟩)))) this
 |ret f' h'=>rw[j]at this;exact this
|loop a e=>exact λf h=>.andThen (AcK e _ f h) λ_ _=>.bad _
|rangeFunc x p as bd _ _=>exact λf h=>AcL hc x _ _ _ (exec as) (exec bd)
|exit id=>exact λf h=>.ext _ _ (Yw _)
|scope a e=>exact e
|label l=>exact λf h=>.Bt _ (Yw _)
|goto l=>exact λf h=>.bad _
|ret=>exact λf h=>.ret _ (Yw _)
|refuse w=>exact λf h=>.bad _
def H2(hc:Dw Z)(ds:List AV):∀h h',D3 P Z ds h=.ok h'->h.nx<=h'.nx:=by
 induction ds with
 |nil=>intro h h' c;cases c;exact Yw _
 |cons d ds e=>
  intro h h' c;unfold D3 at c;split at c
  .rename_i _ _ g a cap _;cases i:Bg P g with
   |false=>rw[i]at c;cases c
   |true=>
    rw[i]at c;dsimp only at c;split at c
    .rename_i v h2 j;exact Vr (hc.call _ _ _ v h2 j) (e h2 h' c)
    .cases c
  .split at c
   .exact(show h.nx<=h'.nx from e (h.put _ (.dfr true)) h' c)
   .cases c
  .cases c
def AaM(hc:Dw Z) rs:A5 h (finish P Z rs f h):=by
 unfold finish;split;. cases d:D3 P _ _ h with
   |bad n=>exact .bad _
   |ok h2=>
    intro v h' e;have c:Gg P _ f _=.ok v _:=e;unfold Gg at c;split at c;. cases c;exact H2 hc _ h _ d
    grind
 .exact .bad _
def N9(hc:Dw Z)(g:FuncId)(as:List AV)(h:H):A5 h (Fy P Z g as h):=by
 unfold Fy;cases Ln P g with
 |none=>exact .bad _
 |some i=>
  refine .ite ?_ (.bad _);have l:=Lt (P:=P) hc i.body (Eu as 0 Az) h;intro v h' d;cases j:exec i.body P Z (Eu as 0 Az) h with
  |bad n=>rw[j]at d;cases d
  |Bt f' h1=>
   rw[j]at d l;have h0:=l f' h1 (.inl rfl);have e:=AaM (P:=P) (h:=h1) (f:=f') hc i.rs;have c:Agk g (finish P Z i.rs f' h1)=.ok v h':=d;cases hq:finish P Z i.rs f' h1 with
   |bad n=>rw[hq]at c;cases c
   |ok v2 h2=>rw[hq]at c e;cases c;exact Vr h0 (e _ _ rfl)
  |ext id f' h1=>rw[j]at d;cases d
  |ret f' h1=>
   rw[j]at d l;have h0:=l f' h1 (.inr (.inr rfl));have e:=AaM (P:=P) (h:=h1) (f:=f') hc i.rs;have c:Agk g (finish P Z i.rs f' h1)=.ok v h':=d;cases hq:finish P Z i.rs f' h1 with
   |bad n=>rw[hq]at c;cases c
   |ok v2 h2=>rw[hq]at c e;cases c;exact Vr h0 (e _ _ rfl)
def AaN(l:Nat)(d:Ei h R):A5 h (Agg l R):=by
 have c:∀j h1,h.nx<=h1.nx->A5 h (endRound l j h1):=by
  intro j h1 e;unfold endRound;split
  .intro v h' m;cases m;exact e
  .exact .bad _
 cases R with
 |bad n=>exact .bad _
 |Bt f' h'=>exact c _ _ (d f' h' (.inl rfl))
 |ext i f' h'=>exact c _ _ (d f' h' (.inr (.inl ⟨i,rfl⟩)))
 |ret f' h'=>exact c _ _ (d f' h' (.inr (.inr rfl)))
def Mj(hc:Dw Z) l as h:A5 h (Io P Z l as h):=by
 unfold Io;split
 .split
  .refine AaN l (.andThen (Lt hc _ _ _) ?_);intro f' h';unfold Age;split;. intro d h2 c;exact show h'.nx<=h2.nx from Lt hc _ _ (h'.put l _) _ _ c
   .exact .bad _
  .exact .bad _
 .exact .bad _
def AeJ P d:Dw (A2N P d):=by induction d with
|zero=>exact⟨λ_ _ _=>.bad _,λ_ _ _=>.bad _⟩
|succ d c=>exact⟨N9 c,Mj c⟩
variable {g:L2}
def Zs{l}(d:∀x∈l,ev x f=ev x g):W1 l f=W1 l g:=by induction l with
|nil=>rfl
|cons x l c=>show ev x f::W1 l f=ev x g::W1 l g;grind
def Sq{place}:∀l,(∀p∈l,ev p.2 f=ev p.2 g)->∀cs,Xp place f l cs=Xp place g l cs:=by intro l;induction l with
|nil=>intro _ cs;rfl
|cons p l d=>intro c cs;obtain⟨i,x⟩:=p;have e:=c (i,x) (by simp);unfold Xp;grind
def Zl{x}(c:∀y,x=some y->ev y f=ev y g) d:bnd f x d=bnd g x d:=by cases x with
|none=>rfl
|some y=>show Vg _=Vg _;grind
def AnF(o:Op)(ty:TypeId)(hd:f.get Br=g.get Br)(j:∀x∈o.operands.toList,ev x f=ev x g):opD o ty P Z f h=opD o ty P Z g h:=by
 cases o;case move x=>have:=j x (by simp[Op.operands]);show OR.ok (ev x f) h=OR.ok (ev x g) h;rw[this]
 case assign x=>have:=j x (by simp[Op.operands]);show OR.ok (ev x f) h=OR.ok (ev x g) h;rw[this]
 case pick c a b=>have h1:=j c (by simp[Op.operands]);have h2:=j a (by simp[Op.operands]);have A:=j b (by simp[Op.operands]);show Bo (ev c f) (ev a f) (ev b f) h=Bo (ev c g) (ev a g) (ev b g) h;rw[h1,h2,A]
 case box e x=>have:=j x (by simp[Op.operands]);show AdR (cellsOf (ev x f)) e h=AdR (cellsOf (ev x g)) e h;rw[this]
 case build t parts=>
  have q:∀p∈parts.toList,ev p.2 f=ev p.2 g:=λp q=>j p.2 (by simp only[Op.operands,dz];exact⟨p,q,rfl⟩);show Tg t parts ty P Z f h=Tg t parts ty P Z g h;unfold Tg;split
  .rw[Sq _ q]
  .rw[Sq _ q]
  .rfl
 case buildSlice t n parts=>
  have q:∀p∈parts.toList,ev p.2 f=ev p.2 g:=λp q=>j p.2 (by simp only[Op.operands,dz];exact⟨p,q,rfl⟩);show Gz t n parts ty P Z f h=Gz t n parts ty P Z g h;unfold Gz;split
  .split
   .rw[Sq _ q]
   .rfl
  .rfl
 case insert t m k x=>have h1:=j m (by simp[Op.operands]);have h2:=j k (by simp[Op.operands]);have A:=j x (by simp[Op.operands]);show E6 t m k x ty P Z f h=E6 t m k x ty P Z g h;unfold E6;rw[h1,h2,A]
 case load t x=>have:=j x (by simp[Op.operands]);show ldV (ev x f) (Ft P t) h=ldV (ev x g) (Ft P t) h;rw[this]
 case store t x y=>have h1:=j x (by simp[Op.operands]);have h2:=j y (by simp[Op.operands]);show stV (ev x f) (cellsOf (ev y f)) (F7 P t) h=stV (ev x g) (cellsOf (ev y g)) (F7 P t) h;rw[h1,h2]
 case nilCheck x=>have h1:=j x (by simp[Op.operands]);show Uu x ty P Z f h=Uu x ty P Z g h;unfold Uu;rw[h1]
 case binOp op t x y yt=>have h1:=j x (by simp[Op.operands]);have h2:=j y (by simp[Op.operands]);show AfX op t x y yt ty P Z f h=AfX op t x y yt ty P Z g h;unfold AfX;rw[h1,h2]
 case unOp op t x=>have h1:=j x (by simp[Op.operands]);show AaP op t x ty P Z f h=AaP op t x ty P Z g h;unfold AaP;rw[h1]
 case convert s d x=>have h1:=j x (by simp[Op.operands]);show Ml s d x ty P Z f h=Ml s d x ty P Z g h;unfold Ml;rw[h1]
 case makeInterface t x=>have h1:=j x (by simp[Op.operands]);show Rb t x ty P Z f h=Rb t x ty P Z g h;unfold Rb;rw[h1]
 case makeFunc fn x y=>have h1:W1 x.toList f=W1 x.toList g:=Zs (λz B=>j z (by simp only[Op.operands,ad,U0];exact .inl B));have h2:W1 y.toList f=W1 y.toList g:=Zs (λz B=>j z (by simp only[Op.operands,ad,U0];exact .inr B));show Jt fn x y ty P Z f h=Jt fn x y ty P Z g h;unfold Jt;rw[h1,h2]
 case makeSlice t x y=>have h1:=j x (by simp[Op.operands]);have h2:=j y (by simp[Op.operands]);show H5 t x y ty P Z f h=H5 t x y ty P Z g h;unfold H5;rw[h1,h2]
 case slice t x lo hi mx=>
  have h1:=j x (by simp[Op.operands]);have h2:∀y,lo=some y->ev y f=ev y g:=λy hy=>j y (by simp[Op.operands,hy]);have A:∀y,hi=some y->ev y f=ev y g:=λy hy=>j y (by simp[Op.operands,hy]);have C:∀y,mx=some y->ev y f=ev y g:=λy hy=>j y (by simp[Op.operands,hy]);have e:G5 t x lo hi mx ty P Z f h=G5 t x lo hi mx ty P Z g h:=by
   unfold G5;rw[h1];simp only[Zl h2,Zl A,Zl C];cases Hp P t with
   |str=>rfl
   |bad=>rfl
   |arr n i=>rfl
   |sl i=>
    cases vL (ev x g)with
    |nil=>rfl
    |no=>rfl
    |yes b off len cap D ex=>
     dsimp only;cases bnd g lo 0 with
     |none=>rfl
     |some l=>
      cases bnd g hi len with
      |none=>rfl
      |some u=>
       cases mx with
       |none=>rfl
       |some m=>dsimp only;rw[C m rfl]
  show Aac t x lo hi mx ty P Z f h=Aac t x lo hi mx ty P Z g h;unfold Aac;rw[e]
 case fieldAddr t x i=>have h1:=j x (by simp[Op.operands]);show Q9 t x i ty P Z f h=Q9 t x i ty P Z g h;unfold Q9;rw[h1]
 case field t x i=>have h1:=j x (by simp[Op.operands]);show Ti t x i ty P Z f h=Ti t x i ty P Z g h;unfold Ti;rw[h1]
 case indexAddr t x i=>have h1:=j x (by simp[Op.operands]);have h2:=j i (by simp[Op.operands]);show Ra t x i ty P Z f h=Ra t x i ty P Z g h;unfold Ra;rw[h1,h2]
 case index t x i=>have h1:=j x (by simp[Op.operands]);have h2:=j i (by simp[Op.operands]);show Tj t x i ty P Z f h=Tj t x i ty P Z g h;unfold Tj;rw[h1,h2]
 case lookup t x i ok=>have h1:=j x (by simp[Op.operands]);have h2:=j i (by simp[Op.operands]);show Pe t x i ok ty P Z f h=Pe t x i ok ty P Z g h;unfold Pe;rw[h1,h2]
 case typeAssert x t ast ok=>have h1:=j x (by simp[Op.operands]);show G0 x t ast ok ty P Z f h=G0 x t ast ok ty P Z g h;unfold G0;rw[h1]
 case extract x i=>have h1:=j x (by simp[Op.operands]);show Yi x i ty P Z f h=Yi x i ty P Z g h;unfold Yi;rw[h1]
 case call c=>
  have h1:W1 c.args.toList f=W1 c.args.toList g:=Zs (λz B=>j z (by simp only[Op.operands,Call.operands,ad,U0];exact .inr B));show ceD c.callee c.args.toList c.argTypes.toList P Z f h=ceD c.callee c.args.toList c.argTypes.toList P Z g h;cases hc:c.callee with
  |value z=>have h2:ev z f=ev z g:=j z (by simp[Op.operands,Call.operands,hc]);show cvV (ev z f) (W1 c.args.toList f) P Z h=cvV (ev z g) (W1 c.args.toList g) P Z h;rw[h1,h2]
  |invoke r name=>have h2:ev r f=ev r g:=j r (by simp[Op.operands,Call.operands,hc]);show Hn P Z (ev r f) name (W1 c.args.toList f) h=Hn P Z (ev r g) name (W1 c.args.toList g) h;rw[h1,h2]
  |builtin b=>
   show Aa5 b c.args.toList c.argTypes.toList P Z f h=Aa5 b c.args.toList c.argTypes.toList P Z g h;unfold Aa5;split
   .show AnS (vT (f.get Br)) h=AnS (vT (g.get Br)) h;rw[hd]
   .show J8 _ c.argTypes.toList (W1 c.args.toList f) P h=J8 _ c.argTypes.toList (W1 c.args.toList g) P h;rw[h1]
 all_goals rfl
structure FB where
 fn:FuncId
 kind:CallKind
 ro:Option Nat
def FB.at(b:FB)(a:Act)(todo:List Item):Frame:=
 { fn:=b.fn,tmps:=a.tmps,todo,defers:=a.defers,mode:=.run,kind:=b.kind,roundOf:=b.ro }
def FB.eval_at(b:FB) a todo:(b.at a todo).eval=a.eval:=rfl
def FB.finish_at(b:FB) a ops i rest k v:
 (b.at a (.inRegion ops (i::rest)::k)).finish v=b.at (a.put (ops[i]?.bind (·.dst)) v) (.inRegion ops rest::k):=by cases h:ops[i]?.bind _<;>simp[Frame.finish,FB.at,Act.put,h]
section A4E
variable {b:FB}{a:Act}{k:List Item}{cs:List Frame}{w:World}
def AzI:step P (lone (b.at a (.code .skip::k)) cs w)=.next (lone (b.at a k) cs w):=
 step_lone_go rfl
def AuE{l}:step P (lone (b.at a (.code (.label l)::k)) cs w)=.next (lone (b.at a k) cs w):=
 step_lone_go rfl
def Aoa{id}:step P (lone (b.at a (.inBlock id::k)) cs w)=.next (lone (b.at a k) cs w):=
 step_lone_go rfl
def AeQ{c}:step P (lone (b.at a (.inScope c::k)) cs w)=.next (lone (b.at a k) cs w):=
 step_lone_go rfl
def Aw0{x y}:step P (lone (b.at a (.code (.seq x y)::k)) cs w)=.next (lone (b.at a (.code x::.code y::k)) cs w):=
 step_lone_go rfl
def ArW{c}{x y}{t}(h:a.eval c=.bool t):
 step P (lone (b.at a (.code (.cond c x y)::k)) cs w)=.next (lone (b.at a (.code (if t then x else y)::k)) cs w):=
 step_lone_go (by have:=congrFun (FB.eval_at b a (.code (.cond c x y)::k)) c;simp[FB.at]at this;simp[stepG,stepG.exec,FB.at,this,h])
def Amg{id}{c}:step P (lone (b.at a (.code (.block id c)::k)) cs w)=.next (lone (b.at a (.code c::.inBlock id::k)) cs w):=
 step_lone_go rfl
def ArY{c}:step P (lone (b.at a (.code (.loop c)::k)) cs w)=.next (lone (b.at a (.code c::.inLoop c::k)) cs w):=
 step_lone_go rfl
def ArX{c}:step P (lone (b.at a (.inLoop c::k)) cs w)=.next (lone (b.at a (.code c::.inLoop c::k)) cs w):=
 step_lone_go rfl
def AbB{c}:step P (lone (b.at a (.code (.scope c)::k)) cs w)=.next (lone (b.at a (.code c::.inScope c::k)) cs w):=
 step_lone_go rfl
def AzH{id}{k'}(h:exitTo id k=some k'):step P (lone (b.at a (.code (.exit id)::k)) cs w)=.next (lone (b.at a k') cs w):=
 step_lone_go (by simp[stepG,stepG.exec,FB.at,h])
def Adg{id}{ops}:
 step P (lone (b.at a (.code (.region id ops false)::k)) cs w)=.next (lone (b.at a (.inRegion ops (List.range ops.size)::k)) cs w):=
 step_lone_go rfl
def AzG{id:Nat}{ops:Array Oper}:
 step P (lone (b.at a (.code (.region id ops true)::k)) cs w) =
  .next (lone (b.at a (.inRegion ops (Region.schedule (P.follows .mixedOrders) ops (w.tape w.drawn (.order b.fn id)))::k)) cs { w with drawn:=w.drawn+1 }):=
 step_lone_go (by simp[stepG,stepG.exec,FB.at,choose,Sem.run,Question.forced,Question.cut])
def Tv{ops}:step P (lone (b.at a (.inRegion ops []::k)) cs w)=.next (lone (b.at a k) cs w):=
 step_lone_go rfl
def Asa{ops}{i}{rest}(h:(ops[i]?.map (Region.wanted · (yielded ops a.tmps))).getD false=false):
 step P (lone (b.at a (.inRegion ops (i::rest)::k)) cs w)=.next (lone (b.at (a.put (ops[i]?.bind (·.dst)) undef) (.inRegion ops rest::k)) cs w):=by rw[<- FB.finish_at];exact step_lone_go (by have h':=h;simp[FB.at]at *;simp[stepG,stepG.exec,h'])
def Ai4{ops:Array Oper}{rest:List Nat}{o:Oper}(e:ops[j]?=some o)(i:Region.wanted o (yielded ops a.tmps)=true)(hd:b.ro=none\/∀c,o.op≠.defer c):
 stepG P true { frame:=b.at a (.inRegion ops (j::rest)::k),callers:=cs,status:=.running,dying:=none } w =
  stepG.apply P true (b.at a (.inRegion ops (j::rest)::k)) cs none (execOp a.eval o) w:=by
 have d:=FB.eval_at b a (.inRegion ops (j::rest)::k);simp only[FB.at]at d;rcases hd with hd|hd
 .rw[hd]at d;simp[stepG,stepG.exec,stepG.oper,Frame.oper?,FB.at,e,i,d,hd]
 .simp only[FB.at]at *
  simp only[stepG,stepG.exec,stepG.oper,Frame.oper?,e,i,d,dy,C8,Jr];split
  .rename_i c _ hc;exact absurd hc (hd c)
  .rfl
def AuJ{ops}{i}{rest}{o}{v'}{w'}(e:ops[i]?=some o)(j:Region.wanted o (yielded ops a.tmps)=true)(hd:b.ro=none\/∀c,o.op≠.defer c)
 (d:Ran P (execOp a.eval o) w v' w'):step P (lone (b.at a (.inRegion ops (i::rest)::k)) cs w)=.next (lone (b.at (a.put o.dst v') (.inRegion ops rest::k)) cs w'):=by
 have l:=FB.finish_at b a ops i rest k v';rcases d with d|⟨d,rfl⟩;. refine step_lone_go ?_;rw[Ai4 e j hd];simp[stepG.apply,Sem.runT_eq,Jr,d];simp_all
 .refine step_lone_go ?_;rw[Ai4 e j hd];simp[stepG.apply,Sem.runT_eq,Jr,d];simp[*]
def Amh{ops}{i}{rest}{o}{g}{args}{w'}(d:ops[i]?=some o)(e:Region.wanted o (yielded ops a.tmps)=true)(hd:b.ro=none\/∀c,o.op≠.defer c)
 (hr:(execOp a.eval o).run P w=.ok (.enter g args) w'):step P (lone (b.at a (.inRegion ops (i::rest)::k)) cs w)=.next (lone (Frame.enter P g args .normal) (b.at a (.inRegion ops (i::rest)::k)::cs) w'):=by refine step_lone_go ?_;rw[Ai4 d e hd];simp[stepG.apply,Sem.runT_eq,Jr,hr];rfl
def AuH{ops}{i}{rest}{o}{l}{g}{tmps}{as bd}{w'}(d:ops[i]?=some o)(e:Region.wanted o (yielded ops a.tmps)=true)(hd:b.ro=none\/∀c,o.op≠.defer c)
 (hr:(execOp a.eval o).run P w=.ok (.round l g tmps as bd) w'):step P (lone (b.at a (.inRegion ops (i::rest)::k)) cs w)=.next (lone (Frame.round l g tmps as bd .normal) (b.at a (.inRegion ops (i::rest)::k)::cs) w'):=by refine step_lone_go ?_;rw[Ai4 d e hd];simp only[stepG.apply,Sem.runT_eq,Jr,hr];rfl
def FB.back(b:FB)(a:Act)(todo:List Item):Frame:=
 { fn:=b.fn,tmps:=a.tmps,todo,defers:=a.defers,mode:=.returning,kind:=b.kind,roundOf:=none }
def Awz(c:b.ro=none):step P (lone (b.at a (.code .ret::k)) cs w)=.next (lone (b.back a (.code .ret::k)) cs w):=
 step_lone_go (by simp[stepG,stepG.exec,FB.at,FB.back,c])
def Awy(c:b.ro=none):step P (lone (b.at a []) cs w)=.next (lone (b.back a []) cs w):=
 step_lone_go (by simp[stepG,stepG.exec,FB.at,FB.back,c])
def ArV{fn}{v}{c}(hd:a.defers=[])(e:b.kind=.normal)(i:P.funcs[b.fn]?=some fn)(d:(results fn a.tmps).run P w=.ok v w):
 step P (lone (b.back a k) (c::cs) w)=.next (lone (c.finish v) cs w):=
 step_lone_go (by simp[stepG,unwind,doReturn,FB.back,hd,e,i,d])
def AuC{fn}{v}{c}(hd:a.defers=[])(e:b.kind=.deferred)(hc:c.mode=.returning)(i:P.funcs[b.fn]?=some fn)(d:(results fn a.tmps).run P w=.ok v w):
 step P (lone (b.back a k) (c::cs) w)=.next (lone c cs w):=
 step_lone_go (by simp[stepG,unwind,doReturn,FB.back,hd,e,i,d,hc])
def AuD{g:FuncId}{as:Array Value}{ds:List Deferred}{args:Array Value}{w':World}(hd:a.defers={ target:=.fn (.func g) o,args:=as }::ds)(d:(callFunc g (as++o)).run P w=.ok (.enter g args) w'):
 step P (lone (b.back a k) cs w)=.next (lone (Frame.enter P g args .deferred) (b.back ⟨a.tmps,ds⟩ k::cs) w'):=
 step_lone_go (by simp[stepG,unwind,callDeferred,FB.back,hd,invoke,Sem.runT_eq,d])
def AuI{ds:List Deferred}(hd:a.defers={ target:=.collected j,args:=#[] }::ds)(c:w.heap[j]?=some (.deferred (some []))):
 step P (lone (b.back a k) cs w)=.next (lone (b.back ⟨a.tmps,ds⟩ k) cs (Cc w j (.deferred none))):=by
 have e:=Dj c;have d:(Instr.takeDeferred j).run P w=.ok [] (Cc w j (.deferred none)):=by simp[Instr.takeDeferred,getObj,setObj,Sem.run,c,Cc]
 exact step_lone_go (by simp[stepG,unwind,FB.back,hd,Sem.runT_eq,d])
def Ak3{c:Frame}{d:Option Code}(e:b.ro=some j)(i:b.kind=.normal)(l:w.heap[j]?=some (.loop p))
 (A4r:k=[]/\d=none\/(∃k',k=.code .ret::k'/\d=some .ret)\/∃id k',k=.code (.exit id)::k'/\exitTo id k'=none/\d=some (.exit id)):
 step P (lone (b.at a k) (c::cs) w)=.next (lone (c.finish (.bool d.isNone)) cs (Cc w j (.loop { p with state:=if d.isNone then .ready else .done,pending:=d }))):=by
 have m:∀n,(Instr.endRound j n).run P w=.ok (.bool n.isNone) (Cc w j (.loop { p with state:=if n.isNone then .ready else .done,pending:=n })):=by intro n;simp[Instr.endRound,Instr.getLoop,getObj,setObj,Sem.run,l,Cc]
 rcases A4r with⟨rfl,rfl⟩|⟨k',rfl,rfl⟩|⟨id,k',rfl,o,rfl⟩
 .exact step_lone_go (by simp[stepG,stepG.exec,FB.at,e,Sem.runT_eq,m,doReturn,i])
 .exact step_lone_go (by simp[stepG,stepG.exec,FB.at,e,Sem.runT_eq,m,doReturn,i])
 .exact step_lone_go (by simp[stepG,stepG.exec,FB.at,e,Sem.runT_eq,m,doReturn,i,o])
def Agi(d:b.ro=some j)(m:w.heap[j]?=some (.loop p))(l:p.state=.ready):
 step P (lone (b.at a (.beginRound::k)) cs w)=.next (lone (b.at a k) cs (Cc w j (.loop { p with state:=.busy }))):=by
 have i:(do Instr.beginRound j;pure Next.skip:Sem Next).run P w=.ok .skip (Cc w j (.loop { p with state:=.busy })):=by simp[Instr.beginRound,Instr.getLoop,getObj,setObj,Sem.run,m,l,Cc]
 refine step_lone_go ?_;have e:stepG P true { frame:=b.at a (.beginRound::k),callers:=cs,status:=.running,dying:=none } w=stepG.apply P true (b.at a (.beginRound::k)) cs none (do Instr.beginRound j;pure Next.skip:Sem Next) w:=by simp only[stepG,stepG.exec,FB.at,d];rfl
 rw[e];simp only[stepG.apply,Sem.runT_eq,Jr,i];simp[FB.at,Frame.finish]
def AeP(m:w.heap[j]?=some (.loop p))(d:p.state≠.busy):
 step P (lone (b.at a (.endRangeFunc j::k)) cs w)=.next (lone (b.at a ((p.pending.map Item.code).toList++k)) cs (Cc w j (.loop { p with state:=.exhausted }))):=by
 have e:(p.state == LoopState.busy)=false:=by cases hq:p.state<;>first|rfl|exact absurd hq d
 have l:(Instr.endLoop j).run P w=.ok p.pending (Cc w j (.loop { p with state:=.exhausted })):=by simp[Instr.endLoop,Instr.getLoop,getObj,setObj,Sem.run,m,e,Cc];exact λi=>absurd i d
 exact step_lone_go (by simp[stepG,stepG.exec,FB.at,Sem.runT_eq,l])
def AuG{x:Operand}{d:Array Tmp}{as bd:Code}{g:FuncId}{first args:Array Value}{w2:World}(m:b.ro=none)(p:a.eval x=.func (.func g) first o)
 (n:∀j,j=Dd (Dd w (.deferred (some []))) (.loop { state:=.ready,pending:=none,fn:=b.fn,tmps:=a.tmps,params:=d,assign:=as,body:=bd,defers:=w.heap.size }) ->
  (callFunc g (first.push (.func (.yield (w.heap.size+1)) #[] #[])++o)).run P j=.ok (.enter g args) w2):
 step P (lone (b.at a (.code (.rangeFunc x d as bd)::k)) cs w) =
  .next (lone (Frame.enter P g args .normal) (b.at ⟨a.tmps,{ target:=.collected w.heap.size,args:=#[] }::a.defers⟩ (.inRangeFunc (w.heap.size+1)::k)::cs) w2):=by
 have i:(Instr.enterLoop b.fn a.tmps d as bd none).run P w=.ok (w.heap.size+1,[{ target:=.collected w.heap.size,args:=#[] }]) (Dd (Dd w (.deferred (some []))) (.loop { state:=.ready,pending:=none,fn:=b.fn,tmps:=a.tmps,params:=d,assign:=as,body:=bd,defers:=w.heap.size })):=by simp[Instr.enterLoop,newObj,Sem.run,Dd];rfl
 have n:=n _ rfl;generalize Dd (Dd w (.deferred (some []))) (.loop { state:=.ready,pending:=none,fn:=b.fn,tmps:=a.tmps,params:=d,assign:=as,body:=bd,defers:=w.heap.size })=j at *
 have l:∀y c ds,({ fn:=b.fn,tmps:=a.tmps,todo:=c,defers:=ds,mode:=FrameMode.run,kind:=b.kind,roundOf:=none }:Frame).eval y=a.eval y:=by intro y c ds;cases y<;>rfl
 refine step_lone_go ?_;simp only[stepG,stepG.exec,FB.at,m,Sem.runT_eq,i];simp only[stepG.apply,Sem.runT_eq,Jr];have e:∀v,a.eval (.const v)=v:=λ_=>rfl;simp[resolve,l,p,e,Deferred.ofValue,invoke,n,Sem.run_bind,Result.andThen_ok];done
def Aoc{ops}{i}{rest}{o}{w'}(d:ops[i]?=some o)(e:Region.wanted o (yielded ops a.tmps)=true)(hd:b.ro=none)(hn:∀todo,tryRecover (b.at a todo) cs=none)
 (hr:(execOp a.eval o).run P w=.ok .recover w'):step P (lone (b.at a (.inRegion ops (i::rest)::k)) cs w)=.next (lone (b.at (a.put o.dst .nilIface) (.inRegion ops rest::k)) cs w'):=by have j:=FB.finish_at b a ops i rest k .nilIface;refine step_lone_go ?_;rw[Ai4 d e (.inl hd)];have c:(b.at a (.inRegion ops (i::rest)::k)).roundOf=none:=hd;simp[stepG.apply,Sem.runT_eq,Jr,hr,c,hn];simp[*]
def Ak5{ops}{i}{rest}{o}{d}{w'}(e:ops[i]?=some o)(j:Region.wanted o (yielded ops a.tmps)=true)(hd:b.ro=none)
 (hr:(execOp a.eval o).run P w=.ok (.defer d) w'):step P (lone (b.at a (.inRegion ops (i::rest)::k)) cs w)=.next (lone (b.at ((⟨a.tmps,d::a.defers⟩:Act).put o.dst undef) (.inRegion ops rest::k)) cs w'):=by have c:=FB.finish_at b ⟨a.tmps,d::a.defers⟩ ops i rest k undef;refine step_lone_go ?_;rw[Ai4 e j (.inl hd)];simp[stepG.apply,Sem.runT_eq,Jr,hr];simp[FB.at]at c ⊢;simp_all
end A4E
end Go.Ev
namespace Go.Ev
variable {j:Option Tmp}{o:Oper}{p:FuncId}{C:RC}
variable [Ii]
variable {P:Program}{G:Nat}{σ:Dx}{h h':H}{w w':World}{v:AV}{nt:Nat}{f:L2}{a:Act}{Z:Ac}{b:FB}{cs:List Frame}
def Calm(b:FB)(cs:List Frame):Prop:=b.kind=.normal\/(b.kind=.deferred/\∃c D7,cs=c::D7/\c.mode=.returning)
def Calm.recover(hc:Calm b cs)(a:Act)(d:List Item):tryRecover (b.at a d) cs=none:=by
 rcases hc with e|⟨e,c,D7,rfl,i⟩
 .unfold tryRecover;simp[FB.at,e]
 .unfold tryRecover;simp[FB.at,e,i]
def RBk(b:FB)(σ:Dx)(f:L2):Prop:=
 (b.ro=none/\∃ds,f.get Br=.Bj ds)\/(b.kind=.normal/\∃c l e,b.ro=some c/\f.get Br=.map l/\σ l=some e/\e.c=c)
def Aed(P:Program)(G:Nat)(Z:Ac):Prop:=∀(g:FuncId) (args:List AV) (h h':H) (v:AV) (σ:Dx) (w:World) (An:Array Value) (kind:CallKind),
 Z.call g args h=.ok v h'->Bg P g=true->Bk σ args An.toList->Ms G σ h w->Vm G σ->h'.nx<=Bq->Fx σ h h' ->
 ∃d v' w' c fn,P.funcs[g]?=some fn/\Au d v v'/\Out G σ h w d h' w'/\c.defers=[]/\(results fn c.tmps).run P w'=.ok v' w' /\
  ∀cs,Calm ⟨g,kind,none⟩ cs->∃k',Steps P (lone (Frame.enter P g An kind) cs w) (lone (FB.back ⟨g,kind,none⟩ c k') cs w')
def AbL(P:Program)(G:Nat)(Z:Ac):Prop:=∀(l:Nat) (args:List AV) (h h':H) (v:AV) (σ:Dx) (w:World) (An:Array Value) (e:SE),
 Z.round l args h=.ok v h'->σ l=some e->Bk σ args An.toList->Ms G σ h w->Vm G σ->h'.nx<=Bq->Fx σ h h' ->
 ∃d v' w' g tmps as bd,Au d v v'/\Out G σ h w d h' w'/\(Instr.yield e.c An).run P w=.ok (.round e.c g tmps as bd) w /\
  ∀c cs,Steps P (lone (Frame.round e.c g tmps as bd .normal) (c::cs) w) (lone (c.finish v') cs w')
structure Bd(P:Program)(G:Nat)(Z:Ac):Prop where
 call:Aed P G Z
 round:AbL P G Z
 mono:Dw Z
def AbK(P:Program)(b:FB)(o:Oper)(a:Act)(w:World)(v':Value)(w':World):Prop:=
 ∀(ops:Array Oper) (i:Nat) (rest:List Nat) (k:List Item) (cs:List Frame),ops[i]?=some o->Region.wanted o (yielded ops a.tmps)=true->Calm b cs ->
  Steps P (lone (b.at a (.inRegion ops (i::rest)::k)) cs w) (lone (b.at (a.put o.dst v') (.inRegion ops rest::k)) cs w')
def Afl(P:Program)(G:Nat)(Z:Ac)(o:Oper):Prop:=∀(σ:Dx) (nt:Nat) (f:L2) (a:Act) (h h':H) (w:World) (v:AV) (b:FB),
 opD o.op o.type P Z f h=.ok v h'->o.op.operands.toList.all (Es G)=true->St G σ nt f a h w->RBk b σ f->h'.nx<=Bq->Fx σ h h' ->
 ∃c v' w',Au c v v'/\Out G σ h w c h' w'/\AbK P b o a w v' w'
def Art{r:OR}(d:opD o.op o.type P Z f h=r)(e:∀n,r≠.bad n):∀c,o.op≠.defer c:=by intro c hc;rw[hc]at d;exact e _ d.symm
def AbK.ran{v':Value}(hd:∀c,o.op≠.defer c)(d:Ran P (execOp a.eval o) w v' w'):AbK P b o a w v' w':=by intro ops i rest k cs e j hc;exact .one (AuJ e j (.inr hd) d)
def R5.sound{o}(d:R5 P G o):Afl P G Z o:=by
 intro σ nt f a h h' w v b c De e m l j;have hd:=Art c λn hn=>by grind
 obtain⟨p,v',w',h1,h2,i⟩:=d _ _ f a h _ w v _ c De e l j;exact⟨_,_,_,h2,i,.ran hd h1⟩
def St.ms(c:St G σ nt f a h w):Ms G σ h w:=⟨c.ai,c.so,c.ma⟩
def AdS:Extern.allNextRows.lookup Jk=none:=by kernel_rfl
def Akq:Extern.allNextRows.lookup Mk=none:=by kernel_rfl
def AcP:Extern.allNextRows.lookup ""=none:=by kernel_rfl
def Afz:Extern.allGenericRows.lookup Jk=none:=by kernel_rfl
def AmH:Extern.allGenericRows.lookup Mk=none:=by kernel_rfl
def Adm:Extern.allTypedRows.lookup Jk=none:=by kernel_rfl
def AiG:Extern.allTypedRows.lookup Mk=none:=by kernel_rfl
def Agh:Extern.allRows.lookup Jk=some Extern.AbiNoEscape.same:=by kernel_rfl
def AnV:Extern.allRows.lookup Mk=some Extern.BytealgIndexByte.indexByte:=by kernel_rfl
def Ami c:∀l i,Ak9 c.toNat (l.map UInt8.toNat) i=if Lib.indexByte l c=-1 then -1 else Lib.indexByte l c+i
|[],i=>rfl
|x::l,i=>by
 have m:=Ami c l (i+1);have e:=Lib.indexByte_ge l c;show Bool.rec _ ..=_;unfold Lib.indexByte;by_cases j:x=c;. simp_all
 .have n:Nat.beq x.toNat c.toNat=false:=by cases d:Nat.beq .. with
   |false=>rfl
   |true=>exact absurd (UInt8.toNat_inj.1 (Ch d)) j
  simp_all;omega
def AmE{args:List AV}{An:Array Value}(j:AgK (Uk P p) args h=.ok v h')(E:Bk σ args An.toList)(O:Bg P p=false):
 ∃v',(callFunc p An).run P w=.ok (.value v') w/\Au σ v v'/\h'=h:=by
 unfold AgK at j;split at j
 .rename_i x d;obtain⟨rfl,rfl⟩:=B4 j;obtain⟨y,l,t,B,A⟩:=E.F8;have i:=A.Rt;subst i;have o:An=#[y]:=by have:=Jh List.toArray t;simpa using this
  subst o;unfold Uk at d;split at d
  .rename_i fn D;split at d
   .cases d
   .rename_i z;split at d
    .rename_i q;split at d
     .rename_i hn;refine⟨y,?_,B,rfl⟩;have g:fn.body=none:=by simpa using z
      have h1:Extern.findNext fn=none:=by simp[Extern.findNext,hn,q,AdS,AcP]
      have h2:Extern.find fn=some Extern.AbiNoEscape.same:=by simp[Extern.find,hn,Afz,Adm,Agh]
      have Q:(Extern.AbiNoEscape.same #[y]).run P w=.ok y w:=rfl;simp[callFunc,D,hn,g,h1,h2,mark,Sem.run];rw[Q];rfl
     .split at d<;>cases d
    .cases d
  .cases d
 .rename_i s c d;split at j
  .rename_i R n J hn;obtain⟨rfl,rfl⟩:=B4 j;have C:=Rj J;subst C;obtain⟨hc,K⟩:=Xg hn;subst hc;obtain⟨y,l,t,B,A⟩:=E.F8;obtain⟨M,S,rfl,r,i⟩:=A.F8;have u:=i.Rt;subst u;have o:An=#[y,M]:=by have:=Jh List.toArray t;simpa using this
   subst o;obtain⟨bs,rfl,rfl⟩:=AuQ B;cases r;unfold Uk at d;split at d
   .rename_i fn D;split at d
    .cases d
    .rename_i z;split at d
     .rename_i q;split at d
      .cases d
      .rename_i F;split at d
       .rename_i m;have g:fn.body=none:=by simpa using z
        have h1:Extern.findNext fn=none:=by simp[Extern.findNext,m,q,Akq,AcP]
        have h2:Extern.find fn=some Extern.BytealgIndexByte.indexByte:=by simp[Extern.find,m,AmH,AiG,AnV]
        refine⟨.int .i64 (Lib.indexByte bs.data.toList (UInt8.ofNat n)),?_,?_,rfl⟩
        .have:=Lib.run_indexByteString (P:=P) bs (Int.ofNat n) w;have e:(Int.ofNat n).toNat.toUInt8=UInt8.ofNat n:=rfl;rw[e]at this;simp[callFunc,D,m,g,h1,h2,mark,Sem.run];rw[show(Extern.BytealgIndexByte.indexByte #[Value.string bs,Value.int IntKind.u8 (↑n:Int)]).run P w=_ from this]
         rfl
        .have e:=Ami (UInt8.ofNat n) bs.data.toList 0;have L:(UInt8.ofNat n).toNat=n:=by simp[UInt8.toNat_ofNat,dm K]
         rw[L]at e;have I:Ak9 n (bytesOf bs) 0=Lib.indexByte bs.data.toList (UInt8.ofNat n):=by
          show Ak9 n (bs.data.toList.map UInt8.toNat) 0=_;rw[e];split
          .rename_i hq;exact hq.symm
          .simp
         rw[I];exact .int _ _
       .cases d
     .cases d
   .cases d
  .cases j
 .cases j
def R7(P:Program)(r:Result Next)(v':Value)(w':World):Prop:=
 r=.ok (.value v') w'\/(∃g args w0,r=.ok (.enter g args) w0/\∀c cs,Steps P (lone (Frame.enter P g args .normal) (c::cs) w0) (lone (c.finish v') cs w')) \/
  ∃l g tmps as bd w0,r=.ok (.round l g tmps as bd) w0/\∀c cs,Steps P (lone (Frame.round l g tmps as bd .normal) (c::cs) w0) (lone (c.finish v') cs w')
def AbK.next{o}{v'}(hd:∀c,o.op≠.defer c)(hn:R7 P ((execOp a.eval o).run P w) v' w'):AbK P b o a w v' w':=by
 rcases hn with hn|⟨g,args,w0,hn,j⟩|⟨l,g,tmps,as,bd,w0,hn,j⟩;. exact .ran hd (.inl hn)
 .intro ops i rest k cs e d hc;have m:=FB.finish_at b a ops i rest k v';refine .head (Amh e d (.inr hd) hn) ?_;grind
 .intro ops i rest k cs e d hc;have m:=FB.finish_at b a ops i rest k v';refine .head (AuH e d (.inr hd) hn) ?_;grind
def O3(d:Bg P p=true):∃fn c,P.funcs[p]?=some fn/\fn.body=some c/\(fn.name == "runtime.NumGoroutine")=false:=by
 unfold Bg at d;split at d
 .rename_i fn e;rw[Em]at d;obtain⟨c,hc⟩:=Option.isSome_iff_exists.1 d.2;exact⟨fn,c,e,hc,by simpa using d.1⟩
 .cases d
def Ih{g}(e:Bg P g=true) args w:(callFunc g args).run P w=.ok (.enter g args) w:=by
 obtain⟨fn,c,h1,h2,i⟩:=O3 e;have d:¬ fn.name = "runtime.NumGoroutine":=by grind
 simp[callFunc,h1,h2,d,Sem.run]
def Aa0(hc:Bd P G Z){g}{args}{An}(d:Aeg P Z g args h=.ok v h')(l:Bk σ args An.toList)(i:Ms G σ h w)(p:Vm G σ)(t:h'.nx<=Bq)(s:Fx σ h h'):
 ∃j v' w',Au j v v'/\Out G σ h w j h' w'/\R7 P ((callFunc g An).run P w) v' w':=by
 rcases Bl d with⟨e,d⟩|⟨e,d⟩;. obtain⟨j,v',w',u,fn,h1,h2,r,n,q,m⟩:=hc.call g _ h _ v _ w _ _ d e l i p t s;refine⟨_,_,_,h2,r,.inr (.inl ⟨g,_,w,Ih e _ w,λc cs=>?_⟩)⟩;obtain⟨k',o⟩:=m _ (.inl rfl);exact o.trans (.one (ArV n rfl h1 q))
 .obtain⟨v',h1,h2,rfl⟩:=AmE (w:=w) d l e;exact⟨_,_,w,h2,Out.refl i.ai i.so i.ma,.inl h1⟩
def Adf{t:TypeId}{name:String}(c:Ls P t name=some p)(x:Value)(args:Array Value)(w:World):
 (callMethod (.iface t x) name args).run P w=(callFunc p (#[x]++args)).run P w:=by
 unfold Ls at c;split at c
 .rename_i i hi;split at c
  .rename_i m o;obtain⟨n,l⟩:∃n,P.types.size+Made.depth=n+1:=⟨P.types.size+99,rfl⟩;split at c
   .rename_i e q r g;cases c;have j:m.path=#[]:=by simpa using q
    simp[callMethod,l,method,typeInfo,hi,o,j,follow,r,receiverAt,underlying,g,Place.get]
   .cases c
   .rename_i d s q r g;cases c;have j:m.path=#[]:=by simpa using q
    cases d<;>first|(exact absurd rfl (s _))|simp[callMethod,l,method,typeInfo,hi,o,j,follow,r,receiverAt,underlying,g,Place.get]
   .cases c
  .cases c
 .cases c
def Aa1(hc:Bd P G Z){r}{i}{name}{args}{An}(c:Hn P Z r name args h=.ok v h')(o:Au σ r i)(l:Bk σ args An.toList)(m:Ms G σ h w)
 (hg:Vm G σ) (hl:h'.nx<=Bq) (hf:Fx σ h h'):∃j v' w',Au j v v'/\Out G σ h w j h' w'/\R7 P ((callMethod i name An).run P w) v' w':=by
 unfold Hn at c;split at c
 .rename_i t x n;have:=Pq n;subst this;cases o;rename_i x' e;split at c;. rename_i g d;rw[Adf d];exact Aa0 hc c (by simpa using Bk.cons e l) m hg hl hf
  grind
 grind
def Ad7(hc:Bd P G Z){fn:Fn}{cap args:List AV}{d An:Array Value}(hy:∀l,fn≠.yield l)(c:M6 P Z fn cap args h=.ok v h')(e:Bk σ cap d.toList)(j:Bk σ args An.toList)
 (hm:Ms G σ h w) (hg:Vm G σ) (hl:h'.nx<=Bq) (hf:Fx σ h h'):∃i v' w',Au i v v'/\Out G σ h w i h' w'/\R7 P ((invoke (.fn fn d) An).run P w) v' w':=by
 unfold M6 at c;split at c
 .rename_i g;rw[Dl]at c;have:(invoke (.fn (.func g) d) An).run P w=(callFunc g (An++d)).run P w:=by simp[invoke]
  rw[this];exact Aa0 hc c (by simpa using j.append e) hm hg hl hf
 .exact absurd rfl (hy _)
 .cases c
def ApM(hc:Bd P G Z){x}{x'}{args}{An}(m:cvV x args P Z h=.ok v h')(A:Au σ x x')(q:Bk σ args An.toList)(r:Ms G σ h w)(s:Vm G σ)(t:h'.nx<=Bq)
 (hf:Fx σ h h'):∃d,(∀w,(Deferred.ofValue x' An).run P w=.ok d w)/\∃o v' w',Au o v v'/\Out G σ h w o h' w'/\R7 P ((invoke d.target d.args).run P w) v' w':=by
 cases A<;>first|(cases m)|skip
 .rename_i fn as cs B D7 hy y i p n;have c:M6 P _ _ _ _ h=.ok v _:=m;rw[Dl]at c;exact⟨_,λw=>rfl,Ad7 hc hy c ⟨p,n⟩ (by simpa using Bk.append ⟨y,i⟩ q) r s t hf⟩
 .rename_i l e j;have c:=m;refine⟨_,λw=>rfl,?_⟩;obtain⟨o,v',w',g,tmps,as,bd,h1,h2,u,z⟩:=hc.round l _ h _ v _ w _ e c j q r s t hf;refine⟨_,_,_,h1,h2,.inr (.inr ⟨_,g,_,_,_,w,?_,z⟩)⟩;simp[invoke,u]
def Am3(J:Builtin){ts:List TypeId}{tsA:Array TypeId}{ty:TypeId}{cns:Array Bool}{args:List AV}{An:Array Value}(o:tsA.toList=ts)(c:J8 J ts args P h=.ok v h')(r:Bk σ args An.toList)
 (hm:Ms G σ h w) (hl:h'.nx<=Bq) (hf:Fx σ h h'):∃e v' w',Au e v v'/\Out G σ h w e h' w'/\(builtin J tsA ty cns An).run P w=.ok (.value v') w':=by
 have d:∀(s:Sem Value),Ad4 P G σ h w s v h'->∃e v' w',Au e v v'/\Out G σ h w e h' w'/\(do pure (Next.value (<- s)):Sem Next).run P w=.ok (.value v') w':=by rintro s ⟨e,v',w',h1,h2,M⟩;exact⟨e,v',w',h2,M,by simp[h1]⟩
 have F:∀(i:Nat) (t:TypeId),ts[i]?=some t->tsA[i]?=some t:=by intro i t I;rw[<- o]at I;simpa using I
 have j:∀x,args=[x]->∃y,An=#[y]/\Au σ x y:=by rintro x rfl;obtain⟨y,l,E,D,C⟩:=r.F8;have:=C.Rt;subst this;exact⟨y,by simpa using Jh List.toArray E,D⟩
 have m:∀x y,args=[x,y]->∃x' u,An=#[x',u]/\Au σ x x'/\Au σ y u:=by rintro x y rfl;obtain⟨x',l,E,D,C⟩:=r.F8;obtain⟨u,O,rfl,A,z⟩:=C.F8;have:=z.Rt;subst this;exact⟨x',u,by simpa using Jh List.toArray E,D,A⟩
 unfold J8 at c;split at c
 .split at c
  .rename_i t t2 _ s x;rcases Bl c with⟨B,c⟩|⟨_,c⟩
   .obtain⟨R,x',rfl,L,q⟩:=m s x rfl;exact d _ (Ad8 c L q hm (F 0 t (by simp)) (F 1 t2 (by simp)) B hl hf)
   .cases c
  .cases c
 .split at c
  .rename_i t _ x;obtain⟨x',rfl,q⟩:=j x rfl;exact d _ (Anr c q hm (F 0 t (by simp)))
  .cases c
 .exact d _ (by simpa using Aia true (ts:=tsA) (ty:=ty) c r hm)
 .exact d _ (by simpa using Aia false (ts:=tsA) (ty:=ty) c r hm)
 .split at c
  .rename_i x;obtain⟨x',rfl,q⟩:=j x rfl;exact d _ (Aoe c q hm)
  .cases c
 .split at c
  .rename_i t t2 p n;obtain⟨S,Q,rfl,K,hn⟩:=m p n rfl;exact d _ (Aop c K hn hm (by simpa using Jh List.toArray o))
  .cases c
 .cases c
def AgP{c}(De:(Op.call c).operands.toList.all (Es G)=true)(d:St G σ nt f a h w):Bk σ (W1 c.args.toList f) (c.args.map a.eval).toList:=by have:=Abw d.fr d.gl c.args.toList (by rw[Od]at De ⊢;intro x e;exact De x (by simp[Op.operands,Call.operands,ad,U0];grind));simp_all
def Ajz(hc:Bd P G Z){dst:Option Tmp}{ty:TypeId}{pos:String}{af:Array Edge}{gd:Option (Nat × Bool)}(c:Call):Afl P G Z ⟨dst,.call c,ty,pos,af,gd⟩:=by
 intro σ nt f a h h' w v b J De n F z D;have hd:∀d,(Oper.mk dst (.call c) ty pos af gd).op≠.defer d:=λd hd=>by cases hd
 have t:=AgP De n;obtain⟨m,args,j⟩:=c;dsimp only at t;have B:ceD m args.toList j.toList P Z f h=.ok v h':=J;cases m with
 |value g=>
  have o:Au σ (ev g f) (a.eval g):=Cj n.fr n.gl g (by rw[Od]at De;exact De g (by simp[Op.operands,Call.operands]));obtain⟨d,C,p,v',w',h1,h2,q⟩:=ApM hc (An:=args.map a.eval) B o t n.ms n.gl z D;refine⟨p,v',w',h1,h2,.next hd ?_⟩;have:(execOp a.eval ⟨dst,.call ⟨.value g,args,j⟩,ty,pos,af,gd⟩).run P w=(invoke d.target d.args).run P w:=by simp[execOp,resolve,Sem.run_bind,C]
  rw[this];exact q
 |invoke r name=>
  have o:Au σ (ev r f) (a.eval r):=Cj n.fr n.gl r (by rw[Od]at De;exact De r (by simp[Op.operands,Call.operands]));obtain⟨p,v',w',h1,h2,q⟩:=Aa1 hc (An:=args.map a.eval) B o t n.ms n.gl z D;refine⟨p,v',w',h1,h2,.next hd ?_⟩;have:(execOp a.eval ⟨dst,.call ⟨.invoke r name,args,j⟩,ty,pos,af,gd⟩).run P w=(callMethod (a.eval r) name (args.map a.eval)).run P w:=by
   have e:(#[a.eval r]++args.map a.eval).extract 1 (#[a.eval r]++args.map a.eval).size=args.map a.eval:=by simp_all
   simp only[execOp,resolve,Sem.run_bind,Sem.run_pure,Result.andThen_ok,invoke];rw[e];have I:(#[a.eval r]++args.map a.eval)[0]?=some (a.eval r):=by rw[bt (by show 0<1;omega)];rfl
   rw[I]
  rw[this];exact q
 |builtin s=>
  have x:Aa5 s args.toList j.toList P Z f h=.ok v h':=B;unfold Aa5 at x;split at x
  .have u:AnS (vT (f.get Br)) h=.ok v h':=x;unfold AnS at u;split at u
   .rename_i l E;obtain⟨rfl,rfl⟩:=B4 u;have A:b.ro=none:=by
     rcases F with⟨h1,_⟩|⟨_,c,O,e,h1,h2,_⟩;. exact h1
     .rw[h2]at E;cases E
    refine⟨σ,.nilIface,w,.B3,Out.refl n.ai n.so n.ma,?_⟩;intro ops i rest k cs K L M;refine .one (Aoc K L A (M.recover a) ?_);simp[execOp,resolve,invoke,builtin]
   .cases u
  .obtain⟨cns,y⟩:∃cns,(execOp a.eval ⟨dst,.call ⟨.builtin s,args,j⟩,ty,pos,af,gd⟩).run P w=(builtin s j ty cns (args.map a.eval)).run P w:=
    ⟨_,by rfl⟩;obtain⟨p,v',w',h1,h2,q⟩:=Am3 s (tsA:=j) (ty:=ty) (cns:=cns) rfl x t n.ms z D;refine⟨p,v',w',h1,h2,.next hd (.inl ?_)⟩;rw[y];exact q
def Aim(hc:Bd P G Z)(o:Oper):Afl P G Z o:=by
 obtain⟨dst,op,ty,pos,af,gd⟩:=o;cases op;case move x=>exact(Ae1 x).to3.sound
 case assign x=>exact(AaD x).to3.sound
 case pick c x y=>exact(Ae2 c x y).to3.sound
 case alloc e=>exact(Acn e).to3.sound
 case box e x=>exact(Ah4 e x).to3.sound
 case build t p=>exact(Acp t p).to3.sound
 case buildSlice t n p=>exact(Ro t n p).to3.sound
 case insert t m k x=>exact(Af0 t m k x).sound
 case load t x=>exact(AjC t x).sound
 case store t x y=>exact(Ah3 t x y).sound
 case nilCheck x=>exact(Vq x).to3.sound
 case binOp op t x y yt=>exact(Aco op t x y yt).to3.sound
 case unOp op t x=>exact(Ae3 op t x).to3.sound
 case convert s d x=>exact(AdH s d x).sound
 case makeInterface t x=>exact(Sv t x).to3.sound
 case makeFunc fn x y=>exact(Vp fn x y).to3.sound
 case makeMap t r=>exact(AdI t r).sound
 case makeSlice t x y=>exact(Abh t x y).sound
 case slice t x lo hi mx=>exact(Acs t x lo hi mx).to3.sound
 case fieldAddr t x i=>exact(Ss t x i).to3.sound
 case field t x i=>exact(Acq t x i).to3.sound
 case indexAddr t x i=>exact(Su t x i).to3.sound
 case index t x i=>exact(Acr t x i).to3.sound
 case lookup t x i ok=>exact(Af1 t x i ok).sound
 case typeAssert x xt t ok=>exact(Rp x xt t ok).to3.sound
 case extract x i=>exact(Xz x i).to3.sound
 case call c=>exact Ajz hc c
 all_goals
  intro σ nt f a h h' w v b j De q l z u;cases j
variable {σ':Dx}{f':L2}
def Fx.left{h1:H}(c:Fx σ h h')(d:h1.nx<=h'.nx):Fx σ h h1:=λx h2 e=>c x h2 om
def Fx.right{h1}(i:Fx σ h h')(j:Out G σ h w σ' h1 w'):Fx σ' h1 h':=by obtain⟨nw,a1,a2,_⟩:=j;intro x h2 d;have:=a1.nx;cases c:σ' x with
|none=>rfl
|some e=>have:=a2.fresh x e (i x om d) c;omega
def Out.le(c:Out G σ h w σ' h' w'):Qq σ σ':=by obtain⟨_,_,a2,_⟩:=c;exact a2.le
def Out.ms(c:Out G σ h w σ' h' w'):Ms G σ' h' w':=by obtain⟨_,a1,a2,d⟩:=c;exact⟨a1.inv,a2.ok,d⟩
def Vm.mono(i:Vm G σ)(c:Qq σ σ'):Vm G σ':=λg h1=>by obtain⟨e,h2,d⟩:=i g h1;exact⟨e,c _ _ h2,d⟩
def St.next{e}(i:St G σ nt f a h w)(c:Out G σ h w σ' h' w')(d:Pt σ' nt f' e):St G σ' nt f' e h' w':=
 ⟨d,i.gl.mono c.le,c.ms.ai,c.ms.so,c.ms.ma⟩
def RBk.mono(d:RBk b σ f)(j:Qq σ σ')(hd:f'.get Br=f.get Br):RBk b σ' f':=by
 rcases d with⟨h1,ds,h2⟩|⟨h0,c,l,e,h1,h2,i,m⟩
 .exact .inl ⟨h1,ds,by rw[hd,h2]⟩
 .exact .inr ⟨h0,c,l,e,h1,by rw[hd,h2],j _ _ i,m⟩
def Mm(hd:∀t:Nat,j=some t->t<250)(u:Nat)(e:u<256):(Im j v f).get u=if j=some u then v else f.get u:=by
 cases j with
 |none=>simp[Im]
 |some t=>
  show(f.set t v).get u=_;rw[L2.Dh t u v f (ab (hd t rfl) fe) e];by_cases h1:u=t
  .subst h1;simp
  .rw[X2 h1,X2 (λc=>h1 (by cases c;rfl))]
def ArI(a:Act)(d:Option Tmp)(v:Value):(a.put d v).tmps.size=a.tmps.size:=by cases d<;>simp[Act.put]
def ArG(hd:∀t:Nat,j=some t->t<a.tmps.size)(v':Value)(u:Nat):(a.put j v').tmps.getD u undef=if j=some u then v' else a.tmps.getD u undef:=by
 cases j with
 |none=>simp[Act.put]
 |some t=>
  have c:=hd t rfl;show(a.tmps.setIfInBounds t v').getD u undef=_;by_cases h1:t=u
  .subst h1;simp[Array.getD,c]
  .rw[X2 (λe=>h1 (by cases e;rfl))];simp only[Ak];rw[aj h1]
def Pt.put{v'}(c:Pt σ nt f a)(hd:∀t:Nat,j=some t->t<nt)(d:nt<250)(m:Au σ v v'):Pt σ nt (Im j v f) (a.put j v'):=by
 refine⟨by rw[ArI];exact c.size,?_,?_⟩
 .intro t i;rw[Mm (λu e=>ab (hd u e) d) t (ab i (by simp)),ArG λu e=>by rw[c.size];grind];split;. omega
  .exact c.slot t i
 .rw[Mm (λu e=>ab (hd u e) d) _ fe,X2 λl=>by have h1:255<nt:=hd _ l;omega];have:(a.put j v').defers=a.defers:=by cases j<;>rfl
  rw[this];exact c.defers
def gv(ops:Array Oper)(o:Oper)(f:L2):WT:=match guardOf ops o with|.always=>.yes|.on t want=>Adq (f.get t) want|.bad=>.bad
def Ain(ops:Array Oper)(o:Oper):Fp ops o P Z f h=Amo (gv ops o f) o P Z f h:=by unfold Fp gv;cases guardOf ops o<;>rfl
def Pf{ops:Array Oper}(d:Fp ops o P Z f h=C)(l:∀n,C≠.bad n):
 (gv ops o f=.no/\C=.Bt (Im o.dst (.Bj []) f) h) \/
 (gv ops o f=.yes/\Ie o.op=none/\∃v h',opD o.op o.type P Z f h=.ok v h'/\C=.Bt (Im o.dst v f) h') \/
 (gv ops o f=.yes/\∃c,Ie o.op=some c/\Th c o.dst o.type P Z f h=C):=by
 rw[Ain]at d;cases j:gv ops o f with
 |no=>rw[j]at d;exact .inl ⟨rfl,d.symm⟩
 |bad=>rw[j]at d;exact absurd d.symm (l _)
 |yes=>
  rw[j]at d;have e:op1 o o.dst o.type P Z f h=C:=d;unfold op1 at e;cases hd:Ie o.op with
  |none=>
   rw[hd]at e;have i:Akx o.dst f (opD o.op o.type P Z f h)=C:=e;refine .inr (.inl ⟨rfl,rfl,?_⟩);cases m:opD o.op o.type P Z f h with
   |bad n=>rw[m]at i;exact absurd i.symm (l _)
   |ok v h'=>rw[m]at i;exact⟨v,h',rfl,i.symm⟩
  |some c=>rw[hd]at e;exact .inr (.inr ⟨rfl,c,rfl,e⟩)
def AfF{o:Op}{c:Call}(hd:Ie o=some c):o=.defer c:=by
 cases o<;>first|(cases hd;done)|skip
 cases hd;rfl
def Zy{ops:Array Oper}{o:Oper}(p:∀x∈ops.toList,Gl G nt x=true)(e:Pt σ nt f a)(r:nt<250):
 (gv ops o f=.yes->Region.wanted o (yielded ops a.tmps)=true)/\(gv ops o f=.no->Region.wanted o (yielded ops a.tmps)=false):=by unfold gv guardOf Region.wanted;cases u:o.guard with
 |none=>simp_all
 |some n=>obtain⟨j,c⟩:=n;dsimp only;cases hj:(ops[j]?).bind (·.dst)with
  |none=>simp[*]
  |some t=>
   dsimp only;have m:t<nt:=by cases i:ops[j]? with
    |none=>rw[i]at hj;cases hj
    |some x=>
     rw[i]at hj;have q:x∈ops.toList:=by grind
     have:=p x q;unfold Gl at this;rw[show x.dst=some t from hj]at this;cases hq:x.op.operands.toList.all (Es G)with
     |false=>simp_all
     |true=>rw[hq]at this;exact Ec this
   have l:=e.slot t (ab m r);have s:a.tmps[t]?=some (a.tmps.getD t undef):=by
    have:t<a.tmps.size:=by rw[e.size];exact m
    simp[Array.getD,this]
   unfold yielded;rw[hj];simp only[Option.bind_some,s];generalize f.get t=x at l;generalize a.tmps.getD t undef=y at l;cases l;case bool bb=>show((@Bool.rec (λ_=>WT) WT.no WT.yes (Aju bb c))=WT.yes->_)/\((@Bool.rec (λ_=>WT) WT.no WT.yes (Aju bb c))=WT.no->_);rw[Afn];cases bb<;>cases c<;>(simp)
   all_goals
    refine⟨λd=>?_,λd=>?_⟩;. first|(change WT.no=WT.yes at d;cases d;done)|(change WT.bad=WT.yes at d;cases d;done)
    .first|rfl|(change WT.bad=WT.no at d;cases d;done)
def Lu{o}(c:Gl G nt o=true):o.op.operands.toList.all (Es G)=true/\∀t:Nat,o.dst=some t->t<nt:=by unfold Gl at c;cases hq:o.op.operands.toList.all _ with
|false=>simp_all
|true=>rw[hq]at c;refine⟨rfl,λt d=>?_⟩;rw[d]at c;exact Ec c
def Wn(hc:Bd P G Z){ops:Array Oper}(Fs:∀x∈ops.toList,Gl G nt x=true)(s:nt<250)(ho:Gl G nt o=true)(he:Fp ops o P Z f h=C)(M:∀n,C≠.bad n)
 (hs:St G σ nt f a h w) (hb:RBk b σ f):∃f' h',C=.Bt f' h'/\(h'.nx<=Bq->Fx σ h h'->∃z X w',St G z nt f' X h' w'/\RBk b z f'/\Out G σ h w z h' w' /\
  ∀i rest k cs,ops[i]?=some o->Calm b cs->Steps P (lone (b.at a (.inRegion ops (i::rest)::k)) cs w) (lone (b.at X (.inRegion ops rest::k)) cs w')):=by
 obtain⟨De,m⟩:=Lu ho;have S:=Zy (o:=o) Fs hs.fr s;have I:∀v,(Im o.dst v f).get Br=f.get Br:=by intro v;rw[Mm (λu U=>ab (m u U) s) Br fe,X2 (λy=>by have h1:(255:Nat)<nt:=m 255 y;omega)]
 rcases Pf he M with⟨E,rfl⟩|⟨E,hnd,v,h',hv,rfl⟩|⟨E,c,hd,d⟩
 .refine⟨_,_,rfl,λO V=>⟨σ,a.put o.dst undef,w,hs.next (Out.refl hs.ai hs.so hs.ma) (hs.fr.put m s (L6 σ)),hb.mono (Qq.refl σ) (I _),Out.refl hs.ai hs.so hs.ma,?_⟩⟩;intro i rest k cs j T;have hw:=S.2 E;have:=Asa (P:=P) (b:=b) (a:=a) (k:=k) (cs:=cs) (w:=w) (ops:=ops) (i:=i) (rest:=rest) (by rw[j];simpa using hw);rw[j]at this;exact .one this
 .refine⟨_,_,rfl,λO V=>?_⟩;obtain⟨z,v',w',h1,h2,h3⟩:=Aim hc o σ nt f a h h' w v b hv De hs hb O V;refine⟨z,a.put o.dst v',w',hs.next h2 ((hs.fr.mono h2.le).put m s h1),hb.mono h2.le (I _),h2,?_⟩;intro i rest k cs j T;exact h3 ops i rest k cs j (S.1 E) T
 .have q:=AfF hd;unfold Th at d;split at d
  .rename_i g A;unfold Ace at d;split at d
   .rename_i k as cap ds l r;have l:=Aaq l;have r:=Aar r;refine⟨_,_,d.symm,λO V=>?_⟩;have p:Au σ (ev g f) (a.eval g):=Cj hs.fr hs.gl g (by rw[Od]at De;exact De g (by simp[q,Op.operands,Call.operands,A]));rw[l]at p;have Ow:Bk σ (W1 c.args.toList f) (c.args.map a.eval).toList:=by have:=Abw hs.fr hs.gl c.args.toList (by rw[Od]at De ⊢;intro x hx;exact De x (by rw[q];simp only[Op.operands,Call.operands,ad,U0];exact .inr hx));simpa using this
    generalize L:a.eval g=gx at p;cases p;rename_i B D7 hy Y J R K;have D:b.ro=none:=by
     rcases hb with⟨h1,_⟩|⟨_,c,l2,e,h1,h2,_⟩
     .exact h1
     .rw[h2]at r;cases r
    have F:=hs.fr.defers;rw[r]at F;have Q:Pt σ nt (f.set Br (.Bj (.fn (.func k) (J0 as (W1 c.args.toList f)) cap::ds))) ⟨a.tmps,{ target:=.fn (.func k) D7,args:=B++c.args.map a.eval }::a.defers⟩:=by
     refine⟨hs.fr.size,?_,?_⟩
     .intro t W;rw[L2.Dh Br t _ f fe (ab W fe),X2 (by intro y;have h1:t=255:=y;omega)];exact hs.fr.slot t W
     .rw[L2.Dh Br Br _ f fe fe,W5 rfl];refine .cons _ _ _ _ (.fn k _ _ _ _ ?_ ⟨R,K⟩) F;rw[Dl];simpa using Bk.append (⟨Y,J⟩:Bk σ as B.toList) Ow
    refine⟨σ,_,w,hs.next (Out.refl hs.ai hs.so hs.ma) (Q.put m s (L6 σ)),?_,Out.refl hs.ai hs.so hs.ma,?_⟩
    .refine .inl ⟨D,.fn (.func k) (J0 as (W1 c.args.toList f)) cap::ds,?_⟩;rw[Mm (λu U=>ab (m u U) s) Br fe,X2 (λy=>by have h1:(255:Nat)<nt:=m 255 y;omega)]
     rw[L2.Dh Br Br _ f fe fe,W5 rfl]
    .intro i rest k2 cs j T;refine .one (Ak5 j (S.1 E) D ?_);have e:(execOp a.eval o).run P w=(do pure (Next.defer (<- resolve a.eval c o.type)):Sem Next).run P w:=by simp only[execOp,q]
     rw[e];simp[resolve,A,L,Deferred.ofValue]
   .exact absurd d.symm (M _)
  .exact absurd d.symm (M _)
def AnH{ops:Array Oper}(i:Fp ops o P Z f h=C)(e:∀n,C≠.bad n):∃f' h',C=.Bt f' h':=by
 rcases Pf i e with⟨_,rfl⟩|⟨_,_,v,h',_,rfl⟩|⟨_,c,_,d⟩
 .exact⟨_,_,rfl⟩
 .exact⟨_,_,rfl⟩
 .unfold Th at d;split at d
  .unfold Ace at d;split at d
   .exact⟨_,_,d.symm⟩
   .exact absurd d.symm (e _)
  .exact absurd d.symm (e _)
def Aml{ops:Array Oper}(j:∀n,C≠.bad n):∀(l:List Oper) (f:L2) (h:H),G3 P Z ops l f h=C->∃f' h',C=.Bt f' h'
|[],f,h,he=>⟨f,h,he.symm⟩
|o::l,f,h,he=>by
 have c:andThen (G3 P Z ops l) (Fp ops o P Z f h)=C:=he;cases d:Fp ops o P Z f h with
 |bad n=>rw[d]at c;exact absurd c.symm (j n)
 |Bt f1 i=>rw[d]at c;exact Aml j l f1 i c
 |ext id f1 i=>obtain⟨_,_,e⟩:=AnH d (λn hn=>by cases hn);cases e
 |ret f1 i=>obtain⟨_,_,e⟩:=AnH d (λn hn=>by cases hn);cases e
def AeM(hc:Bd P G Z){ops:Array Oper}(E:∀x∈ops.toList,Gl G nt x=true)(R:nt<250):∀(l:List Oper) (i:Nat),ops.toList.drop i=l->∀(σ:Dx) (f:L2) (a:Act) (h:H) (w:World) (r:RC),
 G3 P Z ops l f h=r->(∀n,r≠.bad n)->St G σ nt f a h w->RBk b σ f->∃f' h',r=.Bt f' h'/\(h'.nx<=Bq->Fx σ h h'->∃q D w',St G q nt f' D h' w'/\RBk b q f'/\Out G σ h w q h' w' /\
  ∀k cs,Calm b cs->Steps P (lone (b.at a (.inRegion ops (List.range' i (ops.size-i))::k)) cs w) (lone (b.at D (.inRegion ops []::k)) cs w')):=by
 intro l;induction l with
 |nil=>
  intro i hi σ f a h w r y e c u;refine⟨f,h,y.symm,λs C=>⟨σ,a,w,c,u,Out.refl c.ai c.so c.ma,λk cs B=>?_⟩⟩;have:ops.size-i=0:=by have:=Jh List.length hi;simp at this;omega
  rw[this];exact .refl P _
 |cons o l F=>
  intro i hi σ f a h w r y e c u;have U:i<ops.size:=by have:=Jh List.length hi;simp at this;omega
  have d:ops[i]?=some o:=by
   have:(ops.toList.drop i)[0]?=some o:=by rw[hi];rfl
   rw[da]at this;simpa using this
  have A:ops.toList.drop (i+1)=l:=by rw[<- au,hi];rfl
  have L:o∈ops.toList:=by have:=dk d;exact Array.mem_toList_iff.2 this
  have j:andThen (G3 P Z ops l) (Fp ops o P Z f h)=r:=y;have t:∀n,Fp ops o P Z f h≠.bad n:=by intro n hn;rw[hn]at j;exact e n j.symm
  obtain⟨p,h1,e1,Q⟩:=Wn hc E R (E o L) rfl t c u;rw[e1]at j;have z:G3 P Z ops l p h1=r:=j;have M:=Q5 (P:=P) hc.mono ops l p h1;obtain⟨f',h',rfl⟩:=Aml e _ _ _ z;have m:=M f' h' (.inl z);refine⟨f',h',rfl,λs C=>?_⟩;obtain⟨S,a1,K,t1,t2,t3,t4⟩:=Q om (C.left m);obtain⟨T,h2,J,s2⟩:=F (i+1) A S p a1 h1 K _ z e t1 t2;cases J;obtain⟨O,a2,w2,u1,u2,u3,u4⟩:=s2 s (C.right t3);refine⟨O,a2,w2,u1,u2,t3.trans u3 s,λk cs B=>?_⟩;have I:List.range' i (ops.size-i)=i::List.range' (i+1) (ops.size-(i+1)):=by
   have:ops.size-i=(ops.size-(i+1))+1:=by omega
   rw[this,eo]
  rw[I];exact(t4 i _ k cs d B).trans (u4 k cs B)
end Go.Ev
