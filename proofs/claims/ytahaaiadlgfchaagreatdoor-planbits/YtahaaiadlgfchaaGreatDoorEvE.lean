/- The evaluator is right -/
import Derived.Test.YtahaaiadlgfchaaGreatDoorEvD
set_option linter.all false
noncomputable section
namespace Go.Ev
variable {j:RC}{p:Option Code}{J:Operand}{R:Code}
variable [Ii]
def Ru:List Oper->uw->uw
|[],acc=>acc
|o::os,acc=>Ru os (acc++[Ez acc o.after.toList])
def Uf:∀l c,(Ru l c).take c.length=c/\(Ru l c).length=c.length+l.length:=by intro l;induction l with
|nil=>intro c;exact⟨by simp[Ru],rfl⟩
|cons o l d=>
 intro c;obtain⟨h1,h2⟩:=d (c++[Ez c o.after.toList]);refine⟨?_,?_⟩;. show(Ru l _).take _=c;have:=Jh (List.take c.length) h1;grind
 .show(Ru l _).length=_;grind
def AeH{l}{i j}(c:i<j):Vf (l.take j) i=Vf l i:=by unfold Vf;grind
def AbO:∀l c k o,l[k]?=some o->Vf (Ru l c) (c.length+k)=Ez ((Ru l c).take (c.length+k)) o.after.toList:=by intro l;induction l with
|nil=>simp
|cons o l m=>intro c k x d;cases k with
 |zero=>simp at d;subst d;have h1:=(Uf l (c++[Ez c o.after.toList])).1;show Vf (Ru l _) _=Ez ((Ru l _).take _) _;have h2:=(Uf (o::l) c).1;have n:(Ru l _).take _=c:=h2;rw[Vw,n];have:=AeH (l:=Ru l (c++[Ez c o.after.toList])) (i:=c.length) (j:=(c++[Ez c o.after.toList]).length) (by simp);rw[<- this,h1];simp[Vf]
 |succ k=>
  have:=m (c++[Ez c o.after.toList]) k x (by grind);have e:(c++[Ez c o.after.toList]).length+k=c.length+k+1:=by grind
  rw[e]at this;exact this
def PR(ops:Array Oper):uw:=Ru ops.toList []
def Bef(ops:Array Oper)(j i:Nat):Prop:=(Vf (PR ops) i).testBit j=true
def AnN{d}{j}:∀c,(Ez d c).testBit j=true->∃e∈c,Region.binds .any e=true/\(e.on=j\/(Vf d e.on).testBit j=true):=by intro c;induction c with
|nil=>intro h;simp[Ez]at h
|cons e c k=>intro h;unfold Ez at h;cases hb:Region.binds .any e with
 |false=>simp_all
 |true=>
  rw[hb]at h;have h':(Ka _ ||| Vf .. ||| Ez ..).testBit j=true:=h;rw[cf,cf,Ld,Ld]at h';rcases h' with(h'|h')|h';. have:(2^e.on).testBit j=true:=h';grind
  .grind
  simp_all
def Bef.A2R{ops}(hb:P6 ops){i j}{o}(m:ops[i]?=some o)(h:Bef ops j i):∃e∈o.after.toList,Region.binds .any e=true/\e.on<i/\(e.on=j\/Bef ops j e.on):=by
 have h1:=AbO ops.toList [] i o (by grind);simp[Gx,Rx]at h1;unfold Bef PR at h;rw[h1]at h;obtain⟨e,d,l,c⟩:=AnN _ h;have k:=hb i o m e d l;refine⟨e,d,l,k,?_⟩;rcases c with c|c;. omega
 .rw[AeH k]at c;exact .inr c
def Bef.lt{ops}(hb:P6 ops):∀{i j},i<ops.size->Bef ops j i->j<i:=by intro i;induction i using Nat.strongRecOn with
|_ i d=>intro j hi h;obtain⟨e,k,m,l,c⟩:=h.A2R hb (U0 hi);grind
def V0(ops:Array Oper)(D:Nat->Bool):Prop:=∀(x:Nat) (o:Oper),ops[x]?=some o->D x=true->∀e∈o.after.toList,Region.binds .any e=true->D e.on=true
def Bef.done{ops}(hb:P6 ops){D}(q:V0 ops D):∀{i} {o},ops[i]?=some o->(∀e∈o.after.toList,Region.binds .any e=true->D e.on=true)->∀j,Bef ops j i->D j=true:=by intro i;induction i using Nat.strongRecOn with
|_ i k=>
 intro o d l j h;obtain⟨e,m,p,n,c⟩:=h.A2R hb d;rcases c with rfl|c;. grind
 .have hi:e.on<ops.size:=by grind
  exact k _ n (U0 hi) (q _ _ (U0 _) (l e m p)) j c
def ApN:∀l c k d,(M7 l c.length c)[k]?=some d->l[k]?=some d.o/\d.bit=Ka (c.length+k)/\d.pr=Vf (Ru l c) (c.length+k):=by intro l;induction l with
|nil=>intro c k d j;simp[M7]at j
|cons o l n=>intro c k d j;cases k with
 |zero=>simp[M7,dc,ef]at j;subst j;refine⟨rfl,rfl,?_⟩;have:=AbO (o::l) c 0 o rfl;rw[this,Vw,(Uf ..).1]
 |succ k=>
  simp only[M7,ay]at j;have e:Nat.succ c.length=(c++[Ez c o.after.toList]).length:=by simp
  rw[e]at j;obtain⟨h1,h2,m⟩:=n _ k d j;have p:(c++[Ez c o.after.toList]).length+k=c.length+k+1:=by omega
  rw[p]at h2 m;exact⟨by grind,h2,m⟩
def ApO:∀l i c,(M7 l i c).length=l.length:=by intro l;induction l with
|nil=>intro i c;rfl
|cons o l d=>simp[M7,d]
def Avb(pr:Nat)(o:Oper)(ops:Array Oper)(c:OB):Prop:=
 Nat.land pr c.bit≠0\/(Nat.land c.dst (Nat.lor (I4 o) (Iz ops o))=0/\Nat.land (I4 o) c.rd=0)
def Ajr{pr dst rd}{df}:∀c,Zk pr dst rd df c=true->∀d∈c,Nat.land pr d.bit≠0\/Nat.land d.dst (Nat.lor dst rd)=0/\Nat.land dst d.rd=0:=by intro c;induction c with
|nil=>simp
|cons x c k=>intro h d j;unfold Zk at h;cases l:(Bool.rec true (Bool.rec false (Ib (Bool.rec df true x.df)) (M4 (Nat.lor (Nat.land x.dst (Nat.lor dst rd)) (Nat.land dst x.rd)))) (M4 (Nat.land pr x.bit)):Bool)with
 |false=>simp_all
 |true=>rw[l]at h;cases j with
  |head=>cases hz:M4 _ with
   |false=>exact .inl (Ho hz)
   |true=>cases e:M4 (Nat.lor (Nat.land x.dst (Nat.lor dst rd)) (Nat.land dst x.rd))with
    |false=>simp_all
    |true=>have h0:=Ch e;simp_all
  |tail _ hm=>exact k h _ hm
def Aai{ops:Array Oper}:∀(l:List Oper) (c:uw) (d:List OB),Aiv ops l c.length c d=true->∀(k:Nat) (o:Oper),l[k]?=some o ->
 (∀e∈o.after.toList,Region.binds .any e=true->e.on<c.length+k)/\(∀p∈d,Avb (Vf (Ru l c) (c.length+k)) o ops p) /\
  ∀j n,j<k->l[j]?=some n->Avb (Vf (Ru l c) (c.length+k)) o ops ⟨Ka (c.length+j),I4 n,Iz ops n,AhJ n.op⟩:=by intro l;induction l with
 |nil=>simp_all
 |cons x l J=>intro c d h k o r;unfold Aiv at h;cases y:(Bool.rec false (Zk (Ez c x.after.toList) (I4 x) (Iz ops x) (AhJ x.op) d) (x.after.toList.all λe=>Ib (Region.binds .any e)||Nat.blt e.on c.length):Bool)with
  |false=>simp_all
  |true=>
   rw[y]at h;have h':Aiv ops l (Nat.succ c.length) (c++[Ez c x.after.toList]) (⟨Ka c.length,I4 x,Iz ops x,AhJ x.op⟩::d)=true:=h;have e:Nat.succ c.length=(c++[Ez c x.after.toList]).length:=by simp
   rw[e]at h';cases ha:(x.after.toList.all λe=>Ib (Region.binds .any e)||Nat.blt e.on c.length)with
   |false=>simp_all
   |true=>rw[ha]at y;have s:Zk (Ez c x.after.toList) (I4 x) (Iz ops x) (AhJ x.op) d=true:=y;cases k with
    |zero=>
     simp at r;subst r;have t:Vf (Ru (x::l) c) (c.length+0)=Ez c x.after.toList:=by rw[AbO (x::l) c 0 x rfl,Vw,(Uf (x::l) c).1]
     refine⟨?_,?_,?_⟩;. intro e K u;have:=Od.1 ha e K;rw[Kb,u]at this;simp_all
     .intro p m;rw[t];exact Ajr d s p m
     grind
    |succ k=>
     obtain⟨A,z,B⟩:=J _ _ h' k o (by simpa using r);have E:(c++[Ez c x.after.toList]).length+k=c.length+(k+1):=by simp;omega
     rw[E]at A z B;refine⟨A,λp m=>z p (by simp[m]),?_⟩;intro j n C q;cases j with
     |zero=>simp at q;subst q;exact z _ (by simp)
     |succ j=>
      have:=B j n om (by grind);have I:(c++[Ez c x.after.toList]).length+j=c.length+(j+1):=by simp;omega
      rw[I]at this;exact this
def Ya{x i:Nat}:Nat.land x (Ka i)≠0->x.testBit i=true:=by intro h;cases hb:x.testBit i with
|true=>rfl
|false=>refine absurd ?_ h;show x &&& 2^i=0;apply Nat.eq_of_testBit_eq;grind
def Tp{ops}(h:Yx ops=true):P6 ops:=by intro i o d e c hb;have:=(Aai _ [] _ h i o (by grind)).1 e c hb;grind
def Aah(ops:Array Oper)(o:Oper)(t:Nat):Prop:=(.tmp t)∈o.op.operands.toList\/∃w,guardOf ops o=.on t w
def AiF{l}{t}(h:.tmp t∈l):(AbE l).testBit t=true:=by induction l with
|nil=>grind
|cons x l c=>show(Operand.rec _ _ _ _ x ||| AbE l).testBit t=true;rw[cf,Ld];cases h with
 |head=>exact .inl (by show(2^t).testBit t=true;simp)
 |tail _ hm=>exact .inr (c hm)
def Yv{ops}{o}{t}(h:Aah ops o t):(Iz ops o).testBit t=true:=by
 show(AbE _ ||| match guardOf _ o with|.on t _=>Ka t|_=>0).testBit t=true;rw[cf,Ld];rcases h with h|⟨w,h⟩;. exact .inl (AiF h)
 .rw[h];exact .inr (by show(2^t).testBit t=true;simp)
def Md{o:Oper}{t:Nat}(h:o.dst=some t):(I4 o).testBit t=true:=by unfold I4;rw[h];show(2^t).testBit t=true;simp
def Z5{x y t:Nat}(h:Nat.land x y=0)(c:x.testBit t=true)(hy:y.testBit t=true):False:=by
 have:(x &&& y).testBit t=true:=by grind
 simp_all
def AaU{ops}(h:Yx ops=true){i j:Nat}{o p}{t:Nat}(m:ops[i]?=some o)(l:ops[j]?=some p)(k:i≠j)(hd:o.dst=some t)(c:p.dst=some t\/Aah ops p t):
 Bef ops i j\/Bef ops j i:=by
 rcases Ui i j with e|d
 .have:=(Aai _ [] _ h j p (by grind)).2.2 i o e (by grind);simp[Gx,Rx]at this;rcases this with h1|⟨h1,h2⟩;. exact .inl (Ya h1)
  .exfalso;refine Z5 h1 (Md hd) ?_;show(I4 p ||| Iz _ p).testBit t=true;rw[cf,Ld];rcases c with c|c;. exact .inl (Md c)
   .exact .inr (Yv c)
 .have:=(Aai _ [] _ h i o (by grind)).2.2 j p om (by grind);simp[Gx,Rx]at this;rcases this with h1|⟨h1,h2⟩;. exact .inr (Ya h1)
  .exfalso;rcases c with c|c;. refine Z5 h1 (Md c) ?_;show(I4 o ||| Iz _ o).testBit t=true;rw[cf,Ld];exact .inl (Md hd)
   .exact Z5 h2 (Md hd) (Yv c)
variable {P:Program}{G:Nat}{σ σ':Dx}{h h':H}{w w':World}{v:AV}{nt:Nat}{f f':L2}{a:Act}{Z:Ac}{b:FB}{cs:List Frame}
def Ant x l:Ve x l=true ↔ x∈l:=by induction l with
|nil=>exact⟨λc=>(by cases c),λc=>by cases c⟩
|cons y l e=>show @Bool.rec (λ_=>Bool) (Ve x l) ..=true ↔ _;cases hb:Nat.beq y x with
 |true=>simp_all
 |false=>have d:=Ho hb;grind
def AcH{x}{l}(d:Ve x l=false):x ∉ l:=by intro c;rw[(Ant x l).2 c]at d;grind
def L7 n x l:x∈wrote n l ↔ x∈l/\x<n:=by induction l with
|nil=>exact⟨λc=>(by cases c),λc=>by grind⟩
|cons y l d=>show x∈(Bool.rec (wrote n l) (y::wrote n l) _:List _) ↔ _;cases hb:Nat.blt y n with
 |true=>have:=Ec hb;grind
 |false=>have:=Ap1 hb;grind
def Yo{l}{lo hi}(d:outside l lo hi=true):∀x∈l,¬ (lo<=x/\x<hi):=by induction l with
|nil=>simp
|cons y l c=>intro x j e;have h1:@Bool.rec (λ_=>Bool) _ ..=true:=d;cases hq:(Bool.rec false (Nat.blt y hi) (Nat.ble lo y):Bool)with
 |true=>simp_all
 |false=>rw[hq]at h1;cases j with
  |head=>
   have e1:Nat.ble lo y=true:=by simp_all
   have k:Nat.blt y hi=true:=by simp[*]
   simp_all
  |tail _ hm=>exact c h1 x hm e
def Aj1 o:B5 o=Ej o:=by cases o with
|cells l t k=>cases k<;>rfl
|_=>rfl
def Am6{x off:Nat}{i:Option (Option Nat)}{l:uw}{h ha hb:H}(j:clear (.blk x off i) l h ha hb=true):(x ∉ l/\∀k,Ej (h.m.get x)=some k->k ∉ l)\/∃v,cellAt (h.m.get x) off i=some v/\cellAt (ha.m.get x) off i=cellAt (hb.m.get x) off i:=by
 have h1:(Bool.rec (AbY l (B5 (h.m.get x))) (Beb x off i h ha hb) (Ve x l):Bool)=true:=j;cases c:Ve x l with
 |true=>rw[c]at h1;exact .inr (@az _ (Classical.propDecidable _) h1)
 |false=>rw[c]at h1;refine .inl ⟨AcH c,λk e=>?_⟩;have h2:AbY l (B5 (h.m.get x))=true:=h1;rw[Aj1,e]at h2;have d:Ib (Ve k l)=true:=h2;rw[Kb]at d;exact AcH (by simpa using d)
def AnA{l}(c:l≠[]):Q6 l=false:=by cases l with
|nil=>grind
|cons x l=>rfl
def Aha{e}:∀{l},E2 e l=true->∀x∈l,Jo e x=true:=by intro l;induction l with
|nil=>simp
|cons y l j=>intro d x k;have h1:Bool.rec _ (E2 e l) _=true:=d;cases c:Jo e y with
 |false=>simp_all
 |true=>rw[c]at h1;grind
def AmC{all}:∀{l},Iu all l=true->∀e∈l,e.w≠[]->∀x∈all,Jo e x=true:=by intro l;induction l with
|nil=>simp
|cons y l j=>intro n e k c x d;have h1:@Bool.rec (λ_=>Bool) _ ..=true:=n;cases hn:Q6 _ with
 |true=>rw[hn]at h1;cases k with
  |head=>rw[AnA c]at hn;grind
  |tail _ hm=>exact j h1 e hm c x d
 |false=>rw[hn]at h1;have h2:=h1;cases m:E2 y all with
  |false=>simp_all
  |true=>rw[m]at h2;cases k with
   |head=>exact Aha m x d
   |tail _ hm=>exact j h2 e hm c x d
def Am5{e x:EF}(c:Jo e x=true):Nat.land e.pr x.bit≠0\/Nat.land x.pr e.bit≠0\/e.bit=x.bit\/(clear x.r e.w x.h e.h e.h1=true/\outside e.w x.h.nx x.h1.nx=true):=by
 unfold Jo at c;cases hz:M4 (Nat.lor (Nat.land e.pr x.bit) (Nat.land x.pr e.bit))with
 |false=>
  have j:(e.pr &&& x.bit) ||| (x.pr &&& e.bit)≠0:=Ho hz
  by_cases h1:e.pr &&& x.bit=0
  .refine .inr (.inl λh2=>j ?_);rw[h1,show x.pr &&& e.bit=0 from h2];rfl
  .exact .inl h1
 |true=>
  rw[hz]at c;cases hb:Nat.beq e.bit x.bit with
  |true=>exact .inr (.inr (.inl (Ch hb)))
  |false=>
   rw[hb]at c;cases hd:Ahl e.w x.w with
   |false=>rw[hd]at c;cases c
   |true=>
    rw[hd]at c;cases d:clear x.r e.w x.h e.h e.h1 with
    |false=>rw[d]at c;cases c
    |true=>rw[d]at c;exact .inr (.inr (.inr ⟨rfl,c⟩))
def Aho{ops:Array Oper}{lg:uw}:∀(l:List DO) (c:List EF) (f:L2) (h:H) (f':L2) (h':H),Sp P Z ops lg l c f h=.Bt f' h' ->
 ∃(F:Nat->L2) (Hs:Nat->H) (e:List EF),F 0=f/\Hs 0=h/\(∀i d,l[i]?=some d->Fp ops d.o P Z (F i) (Ab (Hs i))=.Bt (F (i+1)) (Hs (i+1)) /\
  e[i]?=some ⟨d.bit,d.pr,wrote (Hs i).nx (Hs (i+1)).lg,Gi P d.o.op (F i),Hs i,Hs (i+1)⟩)/\e.length=l.length/\Lh (e.reverse++c)=true/\f'=F l.length /\
   h'=Be (En (e.reverse++c) lg) (Hs l.length):=by
 intro l;induction l with
 |nil=>
  intro c f h f' h' m;have h1:(Bool.rec (.bad 183) (.Bt f (Be (En c lg) h)) (Lh c):RC)=.Bt f' h':=m;cases p:Lh c with
  |false=>rw[p]at h1;cases h1
  |true=>rw[p]at h1;cases h1;exact⟨λ_=>f,λ_=>h,[],rfl,rfl,λi d hi=>by simp at hi,rfl,p,rfl,rfl⟩
 |cons d l s=>
  intro c f h f' h' m;have h1:(RC.rec RC.bad (λf' h'=>Sp P Z ops lg l (⟨d.bit,d.pr,wrote h.nx h'.lg,Gi P d.o.op f,h,h'⟩::c) f' h') (λ_ _ _=>.bad 184) (λ_ _=>.bad 184) (Fp ops d.o P Z f (Ab h)):RC)=.Bt f' h':=m;cases j:Fp ops d.o P Z f (Ab h)with
  |bad n=>rw[j]at h1;cases h1
  |ext id f1 k=>rw[j]at h1;cases h1
  |ret f1 k=>rw[j]at h1;cases h1
  |Bt f1 k=>
   rw[j]at h1;obtain⟨F,Hs,e,y,A,z,q,u,r,t⟩:=s _ f1 k f' h' h1;refine⟨λi=>Nat.casesOn i f F,λi=>Nat.casesOn i h Hs,⟨d.bit,d.pr,wrote h.nx k.lg,Gi P d.o.op f,h,k⟩::e,rfl,rfl,?_,by simp[q],?_,r,?_⟩
   .intro i x hi;cases i with
    |zero=>simp at hi;subst hi;dsimp only;rw[y,A];exact⟨j,rfl⟩
    |succ i=>have:=z i x (by simpa using hi);exact⟨this.1,by simpa using this.2⟩
   .rw[List.reverse_cons,Wq];exact u
   .rw[List.reverse_cons,Wq];exact t
structure Dr(P:Program)(G:Nat)(Z:Ac)(ops:Array Oper)(nt:Nat)(F:Nat->L2)(Hs:Nat->H):Prop where
 reg:Yx ops=true
 run:∀(i:Nat) (o:Oper),ops[i]?=some o->Fp ops o P Z (F i) (Ab (Hs i))=.Bt (F (i+1)) (Hs (i+1))
 calm:∀(i j:Nat) (p:Oper),i<ops.size->ops[j]?=some p->i≠j->(∃x,x∈(Hs (i+1)).lg/\x<(Hs i).nx)->Bef ops i j\/Bef ops j i \/
  (clear (Gi P p.op (F j)) (wrote (Hs i).nx (Hs (i+1)).lg) (Hs j) (Hs i) (Hs (i+1))=true/\outside (wrote (Hs i).nx (Hs (i+1)).lg) (Hs j).nx (Hs (j+1)).nx=true)
 step:∀i,i<ops.size->J6 (Ab (Hs i)) (Hs (i+1)) (Hs (i+1)).lg
 inv:∀i,i<=ops.size->Om (Hs i)
 A4P:∀o∈ops.toList,Ie o.op=none
 all:∀o∈ops.toList,Gl G nt o=true
 nt:nt<250
 top:(Hs ops.size).nx<=Bq
def AaV{c:List EF}{i:Nat}{x}(d:c[i]?=some x):x∈c.reverse++[]:=by grind
def Om.Ab(hi:Om h):Om (Ab h):=⟨hi.top,hi.Rm,hi.N3,hi.Gt,hi.Tx,hi.len⟩
def Om.Be(hi:Om h) lg:Om (Be lg h):=⟨hi.top,hi.Rm,hi.N3,hi.Gt,hi.Tx,hi.len⟩
def St.Ab(c:St G σ nt f a h w):St G σ nt f a (Ab h) w:=⟨c.fr,c.gl,c.ai.Ab,c.so,c.ma⟩
def Dr.of_run(hc:Bd P G Z){ops:Array Oper}(T:Yx ops=true)(z:∀x∈ops.toList,Gl G nt x=true)(Y:nt<250)(s:Gk P Z ops f h=.Bt f' h')
 (hs:St G σ nt f a h w) (hb:RBk b σ f) (hl:h'.nx<=Bq) (hf:Fx σ h h'):
 ∃F Hs q,Dr P G Z ops nt F Hs/\F 0=f/\Hs 0=h/\f'=F ops.size/\h'=Be (En q h.lg) (Hs ops.size) /\
  (q.reverse).length=ops.size/\∀i,i<ops.size->∃x,q.reverse[i]?=some x/\x.w=wrote (Hs i).nx (Hs (i+1)).lg:=by
 unfold Gk at s;cases hd:AnB ops with
 |false=>rw[hd]at s;cases s
 |true=>
  rw[hd]at s;obtain⟨F,Hs,q,C,U,X,q4,q5,W,u⟩:=Aho _ _ f h f' h' s;have e:(M7 ops.toList 0 []).length=ops.size:=by rw[ApO];simp
  have r:∀(i:Nat) (o:Oper),ops[i]?=some o->∃d,(M7 ops.toList 0 [])[i]?=some d/\d.o=o/\d.bit=Ka i/\d.pr=Vf (PR ops) i:=by
   intro i o k;have hi:i<(M7 ops.toList 0 []).length:=by rw[e];exact(Lp.1 k).1
   obtain⟨h1,h2,y⟩:=ApN ops.toList [] i _ (Yq hi);refine⟨_,Yq hi,?_,by simpa using h2,by simpa[PR]using y⟩;have:ops.toList[i]?=some o:=by simpa using k
   rw[this]at h1;cases h1;rfl
  have Q:∀(i:Nat) (o:Oper),ops[i]?=some o->Fp ops o P Z (F i) (Ab (Hs i))=.Bt (F (i+1)) (Hs (i+1)):=by intro i o k;obtain⟨d,h1,rfl,h2,y⟩:=r i o k;exact(X i d h1).1
  have I:∀i,i<ops.size->(Hs i).nx<=(Hs (i+1)).nx:=by intro i hi;have:=Wk (P:=P) (f:=F i) (h:=Ab (Hs i)) hc.mono ops ops[i];exact this _ _ (.inl (Q i _ (U0 hi)))
  have L:∀j,j<=ops.size->(Hs j).nx<=(Hs ops.size).nx:=by
   intro j hj;have K:∀m,j+m<=ops.size->(Hs j).nx<=(Hs (j+m)).nx:=by
    intro m;induction m with
    |zero=>intro _;exact Ye _
    |succ m R=>intro hm;have:=R om;have h2:=I (j+m) om;exact Xy this h2
   have:=K (ops.size-j) om;rwa[show j+(ops.size-j)=ops.size by omega]at this
  rw[e]at W u;have O:(Hs ops.size).nx<=Bq:=by rw[u]at hl;exact hl
  have B:Fx σ (Hs 0) (Hs ops.size):=by rw[U];rw[u]at hf;exact hf
  have t:∀i,i<=ops.size->(∃σ a w,St G σ nt (F i) a (Hs i) w/\RBk b σ (F i)/\Fx σ (Hs i) (Hs ops.size))/\∀j,j<i->J6 (Ab (Hs j)) (Hs (j+1)) (Hs (j+1)).lg:=by
   intro i;induction i with
   |zero=>
    intro _;refine⟨⟨σ,a,w,?_,?_,B⟩,λj hj=>absurd hj om⟩
    .rw[C,U];exact hs
    .rw[C];exact hb
   |succ i R=>
    intro hi;obtain⟨⟨σ1,a1,w1,g1,g2,g3⟩,g4⟩:=R om;have k:ops[i]?=some ops[i]:=U0 hi;have Vc:ops[i]∈ops.toList:=by simp
    obtain⟨f2,h2,J,s2⟩:=Wn hc z Y (z _ Vc) (Q i _ k) (λn hn=>by cases hn) g1.Ab g2;cases J;have S:=L (i+1) hi;obtain⟨σ2,a2,w2,t1,t2,V,_⟩:=s2 om (g3.left S);refine⟨⟨σ2,a2,w2,t1,t2,Fx.right (h:=Ab (Hs i)) g3 V⟩,λj hj=>?_⟩;by_cases E:j=i
    .subst E;obtain⟨nw,a1,_,_⟩:=V;have:(Hs (j+1)).lg=nw:=by rw[a1.lg];simp[Ab]
     rw[this];exact a1
    .exact g4 j om
  have l:∀(i:Nat) (o:Oper),ops[i]?=some o->q[i]?=some ⟨Ka i,Vf (PR ops) i,wrote (Hs i).nx (Hs (i+1)).lg,Gi P o.op (F i),Hs i,Hs (i+1)⟩:=by intro i o k;obtain⟨d,h1,rfl,h2,y⟩:=r i o k;rw[<- h2,<- y];exact(X i d h1).2
  refine⟨F,Hs,q.reverse,⟨T,Q,?_,λi hi=>(t (i+1) hi).2 i om,λi hi=>?_,?_,z,Y,O⟩,C,U,W,by simpa using u,by simp[q4,e],?_⟩
  .intro i j p hi hp A Hr;have e1:=l i _ (U0 hi);have J:=l j p hp;have M:wrote (Hs i).nx (Hs (i+1)).lg≠[]:=by obtain⟨x,h1,h2⟩:=Hr;exact List.ne_nil_of_mem ((L7 _ x _).2 ⟨h1,h2⟩)
   have Hq:=AmC q5 _ (AaV e1) M _ (AaV J);rcases Am5 Hq with h1|h1|h1|⟨h1,h2⟩
   .exact .inr (.inl (Ya h1))
   .exact .inl (Ya h1)
   .exact absurd ((Nat.pow_right_inj (by omega:1<2)).1 h1) A
   .exact .inr (.inr ⟨h1,h2⟩)
  .obtain⟨⟨σ1,a1,w1,g1,_⟩,_⟩:=t i hi;exact g1.ai
  .intro o k;have:=Od.1 hd o k;rw[Kb]at this;unfold AhJ at this;cases hq:Ie o.op with
   |none=>rfl
   |some c=>rw[hq]at this;cases this
  .intro i hi;rw[List.reverse_reverse];exact⟨_,l i _ (U0 hi),rfl⟩
variable {ops:Array Oper}{F:Nat->L2}{Hs:Nat->H}
def T(Hs:Nat->H)(x y:Nat):Prop:=y∈(Hs (x+1)).lg\/((Hs x).nx<=y/\y<(Hs (x+1)).nx)
def Wt(ops:Array Oper)(x t:Nat):Prop:=∃o,ops[x]?=some o/\o.dst=some t
def Dr.nx(dr:Dr P G Z ops nt F Hs){i j}(e:i<=j)(hj:j<=ops.size):(Hs i).nx<=(Hs j).nx:=by
 have c:∀m,i+m<=ops.size->(Hs i).nx<=(Hs (i+m)).nx:=by intro m;induction m with
  |zero=>grind
  |succ m d=>intro k;exact Xy (d om) (dr.step _ om).nx
 have:=c (j-i) om;grind
def Dr.nxl(dr:Dr P G Z ops nt F Hs){i}(hi:i<=ops.size):(Hs i).nx<=Bq:=Xy (dr.nx hi (Ye _)) dr.top
def Dr.low(dr:Dr P G Z ops nt F Hs){x y}(d:x<ops.size)(c:T Hs x y):y<(Hs (x+1)).nx:=by
 rcases c with c|c;. exact(dr.step x d).low y c
 grind
def Dr.AzD(dr:Dr P G Z ops nt F Hs){x y}(e:x<ops.size)(hy:y<Bq)(d:¬ T Hs x y):(Hs (x+1)).m.get y=(Hs x).m.get y:=by
 have k:=dr.step x e;by_cases h1:y<(Hs x).nx;. exact k.By y hy h1 λj=>d (.inl j)
 .have h2:(Hs (x+1)).nx<=y:=by
   rcases Ui y _ with c|c;. exact absurd (.inr ⟨by omega,c⟩) d
   grind
  rw[(dr.inv _ e).Rm y h2 hy,(dr.inv x om).Rm y om hy]
def Dr.quiet(dr:Dr P G Z ops nt F Hs){i j y:Nat}(hi:i<=ops.size)(hj:j<=ops.size)(hy:y<Bq)(n:∀x,x<ops.size->T Hs x y->(x<i ↔ x<j)):(Hs i).m.get y=(Hs j).m.get y:=by
 have c:∀m i,i+m<=ops.size->(∀x,i<=x->x<i+m->¬ T Hs x y)->(Hs i).m.get y=(Hs (i+m)).m.get y:=by intro m;induction m with
  |zero=>simp
  |succ m d=>intro i l hn;rw[d i om (λx h1 h2=>hn x h1 om)];exact(dr.AzD om hy (hn _ (by simp) om)).symm
 rcases Ir i j with h1|h1;. have:=c (j-i) i om (λx h2 k e=>by grind);grind
 .have:=c (i-j) j om (λx h2 k e=>by grind);grind
def Dr.frame(dr:Dr P G Z ops nt F Hs){x:Nat}{o:Oper}(j:ops[x]?=some o):(∀t:Nat,o.dst=some t->t<nt)/\∃v,F (x+1)=Im o.dst v (F x):=by
 have e:o∈ops.toList:=by simpa using dk j
 refine⟨(Lu (dr.all o e)).2,?_⟩;rcases Pf (dr.run x o j) (λn hn=>by cases hn)with⟨_,d⟩|⟨_,_,v,h',_,d⟩|⟨_,c,hd,_⟩
 .injection d with h1 h2;exact⟨_,h1⟩
 .injection d with h1 h2;exact⟨_,h1⟩
 .rw[dr.A4P o e]at hd;cases hd
def Dr.Atx(dr:Dr P G Z ops nt F Hs){x t}(n:x<ops.size)(m:t<256)(e:¬ Wt ops x t):(F (x+1)).get t=(F x).get t:=by have c:ops[x]?=some ops[x]:=U0 _;obtain⟨hd,v,j⟩:=dr.frame c;have d:=dr.nt;rw[j,Mm (λu l=>Pz (hd u l) d) t m,X2 λk=>e ⟨_,c,k⟩]
def Dr.Acl(dr:Dr P G Z ops nt F Hs){i j t:Nat}(hi:i<=ops.size)(hj:j<=ops.size)(k:t<256)(n:∀x,x<ops.size->Wt ops x t->(x<i ↔ x<j)):(F i).get t=(F j).get t:=by
 have c:∀m i,i+m<=ops.size->(∀x,i<=x->x<i+m->¬ Wt ops x t)->(F i).get t=(F (i+m)).get t:=by intro m;induction m with
  |zero=>simp
  |succ m d=>intro i p hn;rw[d i om (λx h1 h2=>hn x h1 om)];exact(dr.Atx om k (hn _ (by simp) om)).symm
 rcases Ir i j with h1|h1;. have:=c (j-i) i om (λx h2 l e=>by grind);grind
 .have:=c (i-j) j om λx h2 l e=>by grind
  grind
def Dr.Ur(dr:Dr P G Z ops nt F Hs){x y z}(d:x<ops.size)(hz:z<ops.size)(h1:(Hs x).nx<=y/\y<(Hs (x+1)).nx)(h2:(Hs z).nx<=y/\y<(Hs (z+1)).nx):x=z:=by
 rcases Nat.lt_trichotomy x z with c|c|c;. have:=dr.nx (i:=x+1) c om;omega
 .omega
 .have:=dr.nx (i:=z+1) c om;omega
def Dr.same(dr:Dr P G Z ops nt F Hs){i j y k}(n:i<=j)(hj:j<=ops.size)(hy:y<(Hs i).nx)(q:Ej ((Hs j).m.get y)=some k):Ej ((Hs i).m.get y)=some k:=by
 have d:=Yy hy (dr.nxl om);have c:∀m,i+m<=ops.size->Ej ((Hs (i+m)).m.get y)=some k->Ej ((Hs i).m.get y)=some k:=by intro m;induction m with
  |zero=>simp
  |succ m e=>intro p l;exact e om ((dr.step _ om).same y k (Yy hy (dr.nx om om)) d l)
 exact c (j-i) om (by grind)
structure Iv(G:Nat)(ops:Array Oper)(nt:Nat)(F:Nat->L2)(Hs:Nat->H)(σ0:Dx)(w0:World)(NW:List Nat)(D:Nat->Bool)(σ:Dx)(g:L2)(a:Act)(w:World):Prop where
 Al3:V0 ops D
 fr:Pt σ nt g a
 Ase:∀t,t<250->∃j,j<=ops.size/\(∀x,x<ops.size->Wt ops x t->(D x=true ↔ x<j))/\g.get t=(F j).get t
 ds:g.get Br=(F 0).get Br
 gl:Vm G σ
 so:SOk σ w
 Sm:Oz σ0 σ (Hs 0) (Hs ops.size) w0 w NW
 dom:∀y e,σ y=some e->(y<(Hs 0).nx\/(Hs ops.size).nx<=y)\/∃x,x<ops.size/\D x=true/\(Hs x).nx<=y/\y<(Hs (x+1)).nx
 mem:∀y e,σ y=some e->∃j,j<=ops.size/\(∀x,x<ops.size->T Hs x y->(D x=true ↔ x<j)) /\
  (∀k,Ej ((Hs j).m.get y)=some k->∀x,x<ops.size->T Hs x k->(D x=true ↔ x<j))/\Gr G σ (Hs j).m.get e w ((Hs j).m.get y)
def Dr.move(dr:Dr P G Z ops nt F Hs){i j y}{e}(hi:i<=ops.size)(hj:j<=ops.size)(hy:y<Bq)(h1:∀x,x<ops.size->T Hs x y->(x<j ↔ x<i))
 (h2:∀k,Ej ((Hs j).m.get y)=some k->∀x,x<ops.size->T Hs x k->(x<j ↔ x<i)) (hb:Gr G σ (Hs j).m.get e w ((Hs j).m.get y)):
 (Hs i).m.get y=(Hs j).m.get y/\Gr G σ (Hs i).m.get e w ((Hs i).m.get y):=by
 have d:=dr.quiet hj hi hy h1;refine⟨d.symm,?_⟩;rw[<- d];refine Gr.congr (Qq.refl _) rfl ?_ hb;intro l t k st p q;have n:Ej ((Hs j).m.get y)=some k:=by rw[p];rfl
 have c:k<Bq:=by have:=((dr.inv j hj).N3 y k hy n).1;have:=dr.nxl hj;omega
 rw[dr.quiet hj hi c (h2 k n)];omega
section step
variable {σ0:Dx}{w0:World}{NW:uw}{D:Nat->Bool}{g:L2}{i:Nat}{o:Oper}
def D1(D:Nat->Bool)(i:Nat):Nat->Bool:=λj=>if j=i then true else D j
def J7:D1 D i i=true:=Xo rfl
def Le{x}(c:x≠i):D1 D i x=D x:=X2 c
def Iv.side(dr:Dr P G Z ops nt F Hs)(d:Iv G ops nt F Hs σ0 w0 NW D σ g a w)(j:ops[i]?=some o)(hd:D i=false)(k:∀e∈o.after.toList,Region.binds .any e=true->D e.on=true)
 {x} (hx:x<ops.size) (c:Bef ops x i\/Bef ops i x):D x=true ↔ x<i:=by
 have hb:=Tp dr.reg;have hi:=(Lp.1 j).1;rcases c with c|c;. exact⟨λ_=>c.lt hb hi,λ_=>Bef.done hb d.Al3 j k x c⟩
 .have n:=c.lt hb hx;refine⟨λm=>?_,λl=>absurd l om⟩;have:=Bef.done hb d.Al3 (U0 hx) (d.Al3 x _ (U0 _) m) i c;grind
def Iv.Aj6(m:Iv G ops nt F Hs σ0 w0 NW D σ g a w)(q:ops[i]?=some o)(r:∀e∈o.after.toList,Region.binds .any e=true->D e.on=true):V0 ops (D1 D i):=by
 intro x p k j e l hb;have d:∀z,D z=true->D1 D i z=true:=by
  intro z hz;by_cases c:z=i;. subst c;exact J7
  .rw[Le c];omega
 by_cases n:x=i;. grind
 .rw[Le n]at j;exact d _ (m.Al3 x p k j e l hb)
def Iv.reads(dr:Dr P G Z ops nt F Hs)(l:Iv G ops nt F Hs σ0 w0 NW D σ g a w)(d:ops[i]?=some o)(hd:D i=false)(q:∀e∈o.after.toList,Region.binds .any e=true->D e.on=true)
 {t} (ht:t<250) (hr:Aah ops o t):g.get t=(F i).get t:=by
 have hi:=(Lp.1 d).1;obtain⟨j,h1,h2,r⟩:=l.Ase t ht;rw[r];refine dr.Acl h1 om om λx m k=>?_;have u:=h2 x m k;by_cases s:x=i;. grind
 .obtain⟨p,n,c⟩:=k;have:=l.side dr d hd q m (AaU dr.reg n d s c (.inr hr));grind
def Iv.AkF(dr:Dr P G Z ops nt F Hs)(q:Iv G ops nt F Hs σ0 w0 NW D σ g a w)(k:ops[i]?=some o)(hd:D i=false)(y:∀e∈o.after.toList,Region.binds .any e=true->D e.on=true)
 {v} (hF:F (i+1)=Im o.dst v (F i)):∀t,t<250->∃j,j<=ops.size/\(∀x,x<ops.size->Wt ops x t->(D1 D i x=true ↔ x<j))/\(Im o.dst v g).get t=(F j).get t:=by
 intro t A;have hi:=(Lp.1 k).1;have B:=(dr.frame k).1;have s:=dr.nt;have E:∀f,(Im _ v f).get t=if o.dst=some t then v else f.get t:=λf=>Mm (λu z=>Pz (B u z) s) t om;by_cases m:o.dst=some t
 .refine⟨_,hi,λx r l=>?_,?_⟩
  .by_cases d:x=i;. subst d;rw[J7];simp
   .rw[Le d];obtain⟨p,n,c⟩:=l;rw[q.side dr k hd y r (AaU dr.reg n k d c (.inl m))];omega
  grind
 .obtain⟨j,h1,h2,C⟩:=q.Ase t A;refine⟨j,h1,λx r l=>?_,?_⟩
  .by_cases d:x=i;. obtain⟨p,n,c⟩:=l;grind
   .rw[Le d];simp_all
  grind
def Iv.ds1(dr:Dr P G Z ops nt F Hs)(k:Iv G ops nt F Hs σ0 w0 NW D σ g a w)(e:ops[i]?=some o) v:(Im o.dst v g).get Br=(F 0).get Br:=by have c:=(dr.frame e).1;have d:=dr.nt;rw[Mm (λu l=>Pz (c u l) d) _ fe,X2 λj=>by have h1:255<nt:=c _ j;omega];exact k.ds
def Iv.free(dr:Dr P G Z ops nt F Hs)(d:Iv G ops nt F Hs σ0 w0 NW D σ g a w)(hi:i<ops.size)(hd:D i=false):Fx σ (Ab (Hs i)) (Hs (i+1)):=by intro y h1 h2;cases hy:σ y with
|none=>rfl
|some e=>
 have l:(Hs i).nx<=y:=h1;rcases d.dom y e hy with c|⟨x,c,m,k⟩;. have:=dr.nx (i:=0) (j:=i) (by simp) om;have:=dr.nx (i:=i+1) hi (Ye _);omega
 .have:=dr.Ur c hi k ⟨l,h2⟩;grind
def Iv.still(dr:Dr P G Z ops nt F Hs)(c:Iv G ops nt F Hs σ0 w0 NW D σ g a w)(d:ops[i]?=some o)(hd:D i=false)(n:∀e∈o.after.toList,Region.binds .any e=true->D e.on=true)
 {v} {v'} (hF:F (i+1)=Im o.dst v (F i)) (hH:Hs (i+1)=Ab (Hs i)) (hv:Au σ v v'):Iv G ops nt F Hs σ0 w0 NW (D1 D i) σ (Im o.dst v g) (a.put o.dst v') w:=by
 have s:=(dr.frame d).1;have p:∀y,¬ T Hs i y:=by
  intro y hy;unfold T at hy;rw[hH]at hy;rcases hy with hy|⟨h1,h2⟩;. cases hy
  .have z:y<(Hs i).nx:=h2;omega
 have l:∀x y,T Hs x y->D1 D i x=D x:=by intro x y q;refine Le ?_;grind
 refine⟨c.Aj6 d n,c.fr.put s dr.nt hv,c.AkF dr d hd n hF,c.ds1 dr d v,c.gl,c.so,c.Sm,?_,?_⟩
 .intro y e hy;rcases c.dom y e hy with h1|⟨x,h1,h2,m⟩;. omega
  .refine .inr ⟨x,h1,?_,m⟩;rw[l x y (.inr m)];omega
 .intro y e hy;obtain⟨j,h1,h2,m,r⟩:=c.mem y e hy;refine⟨j,h1,λx t p=>?_,λk u x t p=>?_,r⟩;. grind
  grind
end step
def Gr.N3{g}{e}{o}{k}(hb:Gr G σ g e w o)(c:e.k=some k):o=.none\/Ej o=some k:=by cases o with
|none=>grind
|Fb n=>have:e.k=none:=hb;grind
|cells l t j=>have:=hb.1;rw[c]at this;exact .inr this.symm
|map es=>have:=hb.1;simp_all
|loop a1 a2 a3 a4 a5 d=>have:=hb.1;grind
|dfr t=>have:=hb.1;simp_all
def Oz.join{l q:Dx}{hn hi hj:H}{w1 w2:World}{NW nw:uw}(a:Oz σ l h hn w w1 NW)(b:Oz l q hi hj w1 w2 nw)(e1:h.nx<=hi.nx)(I:hj.nx<=hn.nx)
 (Abm:∀y∈nw,∀e,l y=some e->y∈NW):Oz σ q h hn w w2 NW:=by
 refine⟨a.le.trans b.le,?_,b.ok,Xy a.grow b.grow,?_,?_,⟨b.io.1.trans a.io.1,b.io.2.trans a.io.2⟩⟩;. intro x e m j;cases d:l x with
   |none=>have:=b.fresh x e d j;omega
   |some k=>exact a.fresh x k m d
 .intro c m j;have g1:=a.frame c m j;have g2:=b.frame c (by grind) (λx z e r J=>?_);. grind
  .have t:=Abm x z e r;cases d:σ x with
   |some k=>have:=a.le x k d;grind
   |none=>
    rcases a.Vh x e d r with p|⟨b0,A,s,n,u⟩;. omega
    grind
 .intro x e m j;cases d:l x with
  |some k=>have:=b.le x k d;rw[j]at this;cases this;exact a.Vh x e m d
  |none=>
   rcases b.Vh x e d j with p|⟨b0,A,s,n,u⟩;. exact .inl (by have:=a.grow;omega)
   .cases h9:σ b0 with
    |some C=>have:=a.le _ _ h9;grind
    |none=>
     rcases a.Vh _ _ h9 n with p|⟨b1,B,e1,E,K⟩;. omega
     grind
section step
variable {σ0:Dx}{w0:World}{NW:uw}{D:Nat->Bool}{g:L2}{i:Nat}{o:Oper}
def T.cases{x y}(dr:Dr P G Z ops nt F Hs)(e:x<ops.size)(c:T Hs x y):y∈(Hs (x+1)).lg/\y<(Hs x).nx\/(Hs x).nx<=y/\y<(Hs (x+1)).nx:=by
 have d:=dr.low e c;rcases Ui y (Hs x).nx with h1|h1;. rcases c with c|c;simp_all;omega
 omega
def Iv.here(dr:Dr P G Z ops nt F Hs)(r:Iv G ops nt F Hs σ0 w0 NW D σ g a w)(E:ops[i]?=some o)(hd:D i=false)(L:∀e∈o.after.toList,Region.binds .any e=true->D e.on=true)
 {y:Nat} {e:SE} (hy:σ y=some e) (hyn:y<(Hs i).nx)
 (hw:∀x z,x<ops.size->x≠i->(z=y\/Ej ((Hs i).m.get y)=some z)->z∈(Hs (x+1)).lg->z<(Hs x).nx->Bef ops x i\/Bef ops i x):
 (∀x,x<ops.size->T Hs x y->(D x=true ↔ x<i))/\(∀k,Ej ((Hs i).m.get y)=some k->∀x,x<ops.size->T Hs x k->(D x=true ↔ x<i))/\Gr G σ (Hs i).m.get e w ((Hs i).m.get y):=by
 have hi:i<ops.size:=(Lp.1 E).1;have l:=r.so.low y e hy;have B:D i=true ↔ i<i:=by rw[hd];simp
 have h1:∀x,x<ops.size->T Hs x y->(D x=true ↔ x<i):=by
  intro x d n;by_cases s:x=i;. subst s;exact B
  .rcases n.cases dr d with⟨C,J⟩|q;. exact r.side dr E hd L d (hw x y d s (.inl rfl) C J)
   .have I:x<i:=by
     rcases Ui x i with c|c;. exact c
     .have:=dr.nx c om;omega
    refine⟨λ_=>I,λ_=>?_⟩;rcases r.dom y e hy with c|⟨z,c,S,O⟩;. have:=dr.nx (i:=0) (j:=x) om om;have:=dr.nx (i:=i) (j:=ops.size) om (Ye _);omega
    .have:=dr.Ur c d O q;simp_all
 obtain⟨j,t,V,M,R⟩:=r.mem y e hy;have K:∀x,x<ops.size->T Hs x y->(x<j ↔ x<i):=λx d n=>by simp_all
 have u:=dr.quiet t om l K;have h2:∀k,Ej ((Hs i).m.get y)=some k->∀x,x<ops.size->T Hs x k->(D x=true ↔ x<i):=by
  intro k A x d n;by_cases s:x=i;. grind
  .rcases n.cases dr d with⟨C,J⟩|q;. exact r.side dr E hd L d (hw x k d s (.inr A) C J)
   .have U:=((dr.inv i om).N3 y k l A).1;have I:x<i:=by
     rcases Ui x i with c|c;. exact c
     .have:=dr.nx c om;omega
    refine⟨λ_=>I,λ_=>?_⟩;have p:Ej ((Hs j).m.get y)=some k:=by rw[u];exact A
    have Q:=((dr.inv j t).N3 y k l p).1;refine(M k p x d n).2 ?_;rcases Ui x j with c|c;. exact c
    .have:=dr.nx c om;omega
 refine⟨h1,h2,(dr.move om t l K ?_ R).2⟩;simp_all
def Iv.make(dr:Dr P G Z ops nt F Hs)(d:Iv G ops nt F Hs σ0 w0 NW D σ g a w)(A:ops[i]?=some o)(hd:D i=false)(I:∀e∈o.after.toList,Region.binds .any e=true->D e.on=true)
 {v:AV} {v':Value} {l:uz} {l':Array Value} {t:TypeId} (hF:F (i+1)=Im o.dst v (F i)) (hH:Hs (i+1)=(Ab (Hs i)).new (cd l t)) (hl:Bk σ l l'.toList)
 (hv:Au (Gu σ (Hs i).nx ⟨w.heap.size,l.length,none⟩) v v'):Iv G ops nt F Hs σ0 w0 NW (D1 D i) (Gu σ (Hs i).nx ⟨w.heap.size,l.length,none⟩) (Im o.dst v g) (a.put o.dst v') (Dd w (.cells l' t)):=by
 have hi:i<ops.size:=(Lp.1 A).1;have M9:=(dr.frame A).1;have L:(Hs (i+1)).nx=(Hs i).nx+1:=by rw[hH];rfl
 have M:(Hs i).nx<Bq:=by have:=dr.nxl (i:=i+1) hi;omega
 have K:(Hs (i+1)).lg=[]:=by rw[hH];rfl
 have R:∀y,T Hs i y->y=(Hs i).nx:=by
  intro y hy;rcases hy with hy|⟨h1,h2⟩;. rw[K]at hy;cases hy
  .omega
 have X:σ (Hs i).nx=none:=d.free dr hi hd _ (Ye _) (by rw[L];exact Y3 _);have p:=Ip (e:=⟨w.heap.size,l.length,none⟩) X;have E:=d.so.push (b:=(Hs i).nx) (e:=⟨w.heap.size,l.length,none⟩) (.cells l' t) M rfl;have J:∀z,D z=true->D1 D i z=true:=by
  intro z hz;by_cases C:z=i;. subst C;exact J7
  .rw[Le C];exact hz
 have V:(Hs (i+1)).m.get (Hs i).nx=cd l t:=by rw[hH];have:=Ni (Ab (Hs i)) (cd l t) M (Hs i).nx M;rw[this];exact Xo rfl
 refine⟨d.Aj6 A I,(d.fr.mono p).put M9 dr.nt hv,d.AkF dr A hd I hF,d.ds1 dr A v,d.gl.mono p,E,?_,?_,?_⟩
 .refine d.Sm.join (hi:=Hs i) (hj:=Hs (i+1)) (nw:=[]) ⟨p,?_,E,?_,?_,?_,⟨rfl,rfl⟩⟩ (dr.nx om om) (dr.nx hi (Ye _)) (λy hy=>by cases hy)
  .intro y e h1 h2;unfold Gu at h2;split at h2;. omega
   .rw[h1]at h2;cases h2
  .rw[size_push];omega
  .intro c h1 _;exact Lq w _ c h1
  .intro y e h1 h2;unfold Gu at h2;grind
 .intro y e hy;unfold Gu at hy;split at hy;. rename_i s;exact .inr ⟨i,hi,J7,by omega,by omega⟩
  .rcases d.dom y e hy with h1|⟨x,h1,h2,h3⟩;. exact .inl h1
   .exact .inr ⟨x,h1,J x h2,h3⟩
 .intro y e hy;unfold Gu at hy;split at hy
  .rename_i s;subst s;cases hy;refine⟨i+1,hi,?_,?_,?_⟩
   .intro x n u;by_cases r:x=i;. subst r;rw[J7];simp
    .rw[Le r];rcases u.cases dr n with⟨S,W⟩|q
     .rcases dr.calm x i o n A r ⟨_,S,W⟩with h1|h1|⟨_,h1⟩;. rw[d.side dr A hd I n (.inl h1)];omega
      .rw[d.side dr A hd I n (.inr h1)];omega
      .exact absurd ⟨Ye _,by omega⟩ (Yo h1 _ ((L7 _ _ _).2 ⟨S,W⟩))
     .exact absurd (dr.Ur n hi q ⟨Ye _,by omega⟩) r
   .intro k B;rw[V]at B;cases B
   .rw[V];have Fc:l'.size=l.length:=by have:=hl.1;simpa using this.symm
    exact⟨rfl,λ_=>⟨l',0,0,F1 w _,Fc,Ye _,λj x y n hy=>(hl.Zm j x y n hy).mono p,λ_=>rfl,λ_ j hj=>by omega⟩⟩
  .rename_i s;obtain⟨j,O,k2,Q,k4⟩:=d.mem y e hy;refine⟨j,O,?_,?_,?_⟩
   .intro x n u;by_cases r:x=i;. subst r;exact absurd (R y u) s
    .rw[Le r];exact k2 x n u
   .intro k B x n u;by_cases r:x=i
    .subst r;have U:=Q k B x n u;rw[hd]at U;have h6:j<=x:=by simp at U;omega
     have h7:=((dr.inv j O).N3 y k (d.so.low y e hy) B).1;have h8:=dr.nx h6 om;have h9:=R k u;omega
    .rw[Le r];exact Q k B x n u
   .exact Gr.congr p (Lq w _ _ (d.so.rng y e hy)) (λ_ _ _ _ _ Y=>Y) k4
end step
section step
variable {σ0:Dx}{w0:World}{NW:uw}{D:Nat->Bool}{g:L2}{i:Nat}{o:Oper}
def Iv.whole(dr:Dr P G Z ops nt F Hs)(s:Iv G ops nt F Hs σ0 w0 NW D σ g a w)(C:ops[i]?=some o)(hd:D i=false)(W:∀e∈o.after.toList,Region.binds .any e=true->D e.on=true)
 (hNW:∀x y,x<ops.size->y∈(Hs (x+1)).lg->y<(Hs x).nx->y∈NW) (Anh:∀x,x<ops.size->x≠i->(∃z,z∈(Hs (x+1)).lg/\z<(Hs x).nx)->Bef ops x i\/Bef ops i x):
 V1 G σ (Hs i).m.get w/\∀(v:AV) (v':Value) (σ':Dx) (w':World),F (i+1)=Im o.dst v (F i)->Au σ' v v'->Out G σ (Ab (Hs i)) w σ' (Hs (i+1)) w' ->
  Iv G ops nt F Hs σ0 w0 NW (D1 D i) σ' (Im o.dst v g) (a.put o.dst v') w':=by
 have hi:i<ops.size:=(Lp.1 C).1;have M9:=(dr.frame C).1;have S:=dr.inv i om;have Ac2:=s.free dr hi hd;have AvY:∀y e,σ y=some e->y<(Hs i).nx->_:=λy e hy hyn=>s.here dr C hd W hy hyn (λx z d n _ U V=>Anh x d n ⟨z,U,V⟩);have hma:V1 G σ (Hs i).m.get w:=by
  intro y e hy;rcases Ui y (Hs i).nx with h1|h1;. exact(AvY y e hy h1).2.2
  .rw[S.Rm y h1 (s.so.low y e hy)];trivial
 refine⟨hma,?_⟩;intro v v' σ' w' hF hv Vd;have Bb4:=Vd;obtain⟨nw,B,Sm,ma'⟩:=Vd;have I:(Hs (i+1)).lg=nw:=by rw[B.lg];simp[Ab]
 have A4e:∀y∈nw,∀e,σ y=some e->y<(Hs i).nx:=by
  intro y hy e R;rcases Ui y (Hs i).nx with h1|h1;. exact h1
  .rw[Ac2 y h1 (B.low y hy)]at R;cases R
 have hup:∀z,D z=true->D1 D i z=true:=by
  intro z hz;by_cases hzi:z=i;. subst hzi;exact J7
  .rw[Le hzi];exact hz
 have Aqw:∀y e,σ y=none->σ' y=some e->(Hs i).nx<=y/\y<(Hs (i+1)).nx:=λy e h1 h2=>Sm.fresh y e h1 h2;have AqJ:∀y e j,σ y=some e->¬ T Hs i y->(∀k,Ej ((Hs j).m.get y)=some k->¬ T Hs i k)->Gr G σ (Hs j).m.get e w ((Hs j).m.get y)->Gr G σ' (Hs j).m.get e w' ((Hs j).m.get y):=by
  intro y e j hy O K hb;by_cases E:(Hs j).m.get y=.none;. rw[E];trivial
  .refine Gr.congr Sm.le (Sm.frame e.c (s.so.rng y e hy) ?_) (λ_ _ _ _ _ hh=>hh) hb;intro X Q e0 J hc;rcases s.so.inj X y e0 e J hy hc with h1|⟨h1,h2⟩;. subst h1;exact O (.inl (by rw[I];exact Q))
   .cases t:e0.k with
    |none=>exact h2 t
    |some k=>have A3X:=A4e X Q e0 J;have A3V:=B.live X Q A3X (s.so.low X e0 J);have Sz:=hma X e0 J;have hc0:Ej ((Hs i).m.get X)=some k:=(Sz.N3 t).resolve_left A3V;have Aq3:=B.N3 X Q k A3X hc0;have hcy:Ej ((Hs j).m.get y)=some k:=(hb.N3 (by rw[<- h1];exact t)).resolve_left E;exact K k hcy (.inl (by rw[I];exact Aq3))
 refine⟨s.Aj6 C W,(s.fr.mono Sm.le).put M9 dr.nt hv,s.AkF dr C hd W hF,s.ds1 dr C v,s.gl.mono Sm.le,Sm.ok,?_,?_,?_⟩;. refine s.Sm.join Sm (dr.nx om om) (dr.nx hi (Ye _)) ?_;intro y hy e R;exact hNW i y hi (by rw[I];exact hy) (A4e y hy e R)
 .intro y e hy;cases r:σ y with
  |none=>have:=Aqw y e r hy;exact .inr ⟨i,hi,J7,this⟩
  |some u=>
   rcases s.dom y u r with h1|⟨x,h1,h2,Y⟩;. exact .inl h1
   .exact .inr ⟨x,h1,hup x h2,Y⟩
 .intro y e hy;cases r:σ y with
  |some u=>
   have hee:u=e:=by have:=Sm.le y u r;rw[hy]at this;cases this;rfl
   subst hee;rcases Ui y (Hs i).nx with h1|h1
   .obtain⟨U,V,q3⟩:=AvY y u r h1;by_cases L:T Hs i y\/∃k,Ej ((Hs i).m.get y)=some k/\T Hs i k
    .refine⟨i+1,hi,?_,?_,ma' y u hy⟩
     .intro x d l;by_cases n:x=i;. subst n;rw[J7];simp
      .rw[Le n,U x d l];omega
     .intro k t x d l;have hk':=dr.same (i:=i) (j:=i+1) om hi h1 t;by_cases n:x=i;. subst n;rw[J7];simp
      .rw[Le n,V k hk' x d l];omega
    .rw[not_or]at L;have A4q:∀k,Ej ((Hs i).m.get y)=some k->¬ T Hs i k:=λk t l=>L.2 ⟨k,t,l⟩;refine⟨i,by omega,?_,?_,AqJ y u i r L.1 A4q q3⟩
     .intro x d l;by_cases n:x=i;. subst n;exact absurd l L.1
      .rw[Le n];exact U x d l
     .intro k t x d l;by_cases n:x=i;. subst n;exact absurd l (A4q k t)
      .rw[Le n];exact V k t x d l
   by_cases Ben:(Hs ops.size).nx<=y
   .have Ix:∀x,x<ops.size->¬ T Hs x y:=by intro x d l;have M:=dr.low d l;have h6:=dr.nx (i:=x+1) (j:=ops.size) d (Ye _);omega
    have E:(Hs i).m.get y=.none:=S.Rm y h1 (s.so.low y u r);refine⟨i,by omega,λx d l=>absurd l (Ix x d),λk t=>?_,?_⟩;. rw[E]at t;cases t
    .rw[E];trivial
   .obtain⟨A,p1,p2,p3⟩:∃x,x<ops.size/\D x=true/\(Hs x).nx<=y/\y<(Hs (x+1)).nx:=by
     rcases s.dom y u r with h2|h2;. have:=dr.nx (i:=0) (j:=i) om om;omega
     .exact h2
    have A9h:A≠i:=by rintro rfl;rw[hd]at p2;cases p2
    have hgt:i<A:=by
     rcases Ui i A with h2|h2;. exact h2
     .have Y:A+1<=i:=by omega
      have:=dr.nx Y om;omega
    have A8M:=dr.nx (i:=i+1) (j:=A) hgt om;obtain⟨j,k1,k2,k3,k4⟩:=s.mem y u r;have O:¬ T Hs i y:=by intro l;have:=dr.low hi l;omega
    have K:∀k,Ej ((Hs j).m.get y)=some k->¬ T Hs i k:=by
     intro k t l;have hkl:=dr.low hi l;have hxj:A<j:=(k2 A p1 (.inr p3)).1 p2;have Z0:=dr.same (i:=A+1) (j:=j) hxj k1 p3.2 t;rcases(dr.step A p1).Vh y k p3.1 p3.2 (s.so.low y u r) Z0 with M|M;. have hor:=Anh A p1 A9h ⟨k,M,by omega⟩;have:=(s.side dr C hd W p1 hor).1 p2;omega
     .have h5':(Hs A).nx<=k:=M;omega
    refine⟨j,k1,?_,?_,AqJ y u j r O K k4⟩
    .intro x d l;by_cases n:x=i;. subst n;exact absurd l O
     .rw[Le n];exact k2 x d l
    .intro k t x d l;by_cases n:x=i;. subst n;exact absurd l (K k t)
     .rw[Le n];exact k3 k t x d l
  |none=>
   have Wj:=Aqw y e r hy;have hyl:=Sm.ok.low y e hy;refine⟨i+1,hi,?_,?_,ma' y e hy⟩
   .intro x d l;by_cases n:x=i;. subst n;rw[J7];simp
    .rw[Le n];rcases l.cases dr d with⟨U,V⟩|q;. rw[s.side dr C hd W d (Anh x d n ⟨y,U,V⟩)];omega
     .exact absurd (dr.Ur d hi q Wj) n
   .intro k t x d l;by_cases n:x=i;. subst n;rw[J7];simp
    .rw[Le n];rcases l.cases dr d with⟨U,V⟩|q;. rw[s.side dr C hd W d (Anh x d n ⟨k,U,V⟩)];omega
     .have S3:=((dr.inv (i+1) hi).N3 y k hyl t).1;have B6:x<i:=by
       rcases Ui x i with Y|Y;. exact Y
       .have h4:i+1<=x:=by omega
        have:=dr.nx h4 om;omega
      have A8M:=dr.nx (i:=x+1) (j:=i) B6 om;rcases B.Vh y k Wj.1 Wj.2 hyl t with M|M
      .have hkw:k<(Hs i).nx:=by omega
       obtain⟨p,hp⟩:∃p,ops[x]?=some p:=⟨_,U0 d⟩;rcases dr.calm i x p hi hp (Ne.symm n) ⟨k,by rw[I];exact M,hkw⟩with h6|h6|⟨_,h6⟩;. rw[s.side dr C hd W d (.inr h6)];omega
       .rw[s.side dr C hd W d (.inl h6)];omega
       .exact absurd q (Yo h6 k ((L7 _ _ _).2 ⟨by rw[I];exact M,hkw⟩))
      .have h5':(Hs i).nx<=k:=M;omega
end step
def AkR(P:Program)(G:Nat)(o:Oper)(f:L2):Prop:=∀(σ:Dx) (nt:Nat) (a:Act) (h h':H) (w:World) (v:AV) (Z:Ac),
 opD o.op o.type P Z f h=.ok v h'->o.op.operands.toList.all (Es G)=true->Pt σ nt f a->Vm G σ->∃v' w',Ran P (execOp a.eval o) w v' w'/\Ag4 σ h w v v' h' w'
def Hm.at{o}(c:Hm P G o) f:AkR P G o f:=λσ nt a h h' w v Z=>c _ _ f a h _ w v _
def Aiu(o:Oper)(f:L2):Gi P o.op f=.all\/AkR P G o f\/∃t x,o.op=.load t x:=by
 obtain⟨dst,op,ty,pos,af,gd⟩:=o;cases op;case move x=>exact .inr (.inl ((Ae1 x).at f))
 case assign x=>exact .inr (.inl ((AaD x).at f))
 case pick c x y=>exact .inr (.inl ((Ae2 c x y).at f))
 case alloc e=>exact .inr (.inl ((Acn e).at f))
 case box e x=>exact .inr (.inl ((Ah4 e x).at f))
 case build t p=>exact .inr (.inl ((Acp t p).at f))
 case buildSlice t n p=>exact .inr (.inl ((Ro t n p).at f))
 case load t x=>exact .inr (.inr ⟨t,x,rfl⟩)
 case nilCheck x=>exact .inr (.inl ((Vq x).at f))
 case binOp op t x y yt=>exact .inr (.inl ((Aco op t x y yt).at f))
 case unOp op t x=>exact .inr (.inl ((Ae3 op t x).at f))
 case makeInterface t x=>exact .inr (.inl ((Sv t x).at f))
 case makeFunc fn x y=>exact .inr (.inl ((Vp fn x y).at f))
 case slice t x lo hi mx=>exact .inr (.inl ((Acs t x lo hi mx).at f))
 case fieldAddr t x i=>exact .inr (.inl ((Ss t x i).at f))
 case field t x i=>exact .inr (.inl ((Acq t x i).at f))
 case indexAddr t x i=>exact .inr (.inl ((Su t x i).at f))
 case index t x i=>exact .inr (.inl ((Acr t x i).at f))
 case typeAssert x xt t ok=>exact .inr (.inl ((Rp x xt t ok).at f))
 case extract x i=>exact .inr (.inl ((Xz x i).at f))
 case call c=>
  obtain⟨j,args,d⟩:=c;cases j with
  |value g=>exact .inl rfl
  |invoke r name=>exact .inl rfl
  |builtin B=>
   cases B;case len=>
    obtain⟨l⟩:=args;match l with
    |[]=>exact .inl rfl
    |x::y::l=>exact .inl rfl
    |[x]=>
     by_cases u:∃r,ev x f=.map r
     .obtain⟨r,s⟩:=u;left;show(match ev x f with|.map _=>RS.all|_=>RS.none)=RS.all;rw[s]
     .refine .inr (.inl ?_);intro σ nt a h h' w v Z C z q E;have I:Au σ (ev x f) (a.eval x):=Cj q E x (by rw[Od]at z;exact z x (by simp[Op.operands,Call.operands]));have m:J8 .len d.toList [ev x f] P h=.ok v h':=C;unfold J8 at m;dsimp only at m;cases k:d.toList with
      |nil=>rw[k]at m;cases m
      |cons t ts=>rw[k]at m;have A:lnK (Pw P t) (ev x f) h=.ok v h':=m;obtain⟨v',h1,h2,rfl⟩:=AeE (ty:=ty) I (λr s=>u ⟨r,s⟩) A w d (by rw[<- Rd,k];rfl);refine⟨v',w,.inl ?_,.quiet _ _ h2⟩;simp[execOp,resolve,invoke,builtin,h1]
   all_goals exact .inl rfl
 all_goals exact .inl rfl
def Bb8{ty:TypeId}(t:TypeId)(x:Operand)(m:opD (.load t x) ty P Z f h=.ok v h'):h'=h:=by
 have l:ldV (ev x f) (Ft P t) h=.ok v h':=m;generalize ev x f=u at *
 cases u<;>first|(cases l;done)|skip
 rename_i b off;have e:ldC (h.rd b) (Ft P t) off h=.ok v h':=l;cases k:h.rd b with
 |none=>rw[k]at e;cases e
 |some c=>
  rw[k]at e;have d:ldL (Ft P t) c off h=.ok v h':=e;cases j:Ft P t with
  |none=>rw[j]at d;cases d
  |some i=>
   rw[j]at d;cases i with
   |none=>exact(AbA (show Py (AcE c off) h=.ok v h' from d)).2
   |some n=>
    obtain⟨cs,g1,rfl,g2⟩:=Aaj (show Ly (Nf c off n) h=.ok v h' from d)
    exact g2
def A2q{i:Option (Option Nat)}{b off:Nat}{e:AV}(d:cellAt (h.m.get b) off i=some e):ldV (.ptr b off) i h=.ok e h:=by
 unfold cellAt at d;split at d
 .rename_i cs ty p;have l:h.rd b=some cs:=by unfold H.rd;rw[p];rfl
  show ldC (h.rd b) i off h=_;rw[l];show ldL i cs off h=_;unfold Tn at d;cases i with
  |none=>cases d
  |some i=>
   cases i with
   |none=>
    show Py (AcE cs off) h=_;rw[show AcE cs off=some e from d]
    rfl
   |some n=>
    show Ly (Nf cs off n) h=_;have j:(Nf cs off n).map AV.agg=some e:=d;cases k:Nf cs off n with
    |none=>rw[k]at j;cases j
    |some c=>rw[k]at j;cases j;rfl
 .cases d
def BfT{ty:TypeId}(t:TypeId)(x:Operand){h2:H}{b off:Nat}{c:AV}(j:opD (.load t x) ty P Z f (Ab h)=.ok v h')(e:ev x f=.ptr b off)(h1:cellAt (h.m.get b) off (Ft P t)=some c)(k:cellAt (h2.m.get b) off (Ft P t)=some c):opD (.load t x) ty P Z f h2=.ok v h2:=by have d:ldV (ev x f) (Ft P t) (Ab h)=.ok v h':=j;rw[e,A2q (h:=Ab h) h1]at d;cases d;show ldV (ev x f) (Ft P t) h2=_;rw[e];exact A2q k
def Dr.cell(dr:Dr P G Z ops nt F Hs){i j y off:Nat}{I:Option (Option Nat)}(hi:i<=ops.size)(hj:j<=ops.size)(hy:y<Bq)(l:∀x,x<ops.size->T Hs x y->(x<i ↔ x<j)\/cellAt ((Hs x).m.get y) off I=cellAt ((Hs (x+1)).m.get y) off I):
 cellAt ((Hs i).m.get y) off I=cellAt ((Hs j).m.get y) off I:=by
 have c:∀(m a:Nat),a+m<=ops.size->(∀x,a<=x->x<a+m->T Hs x y->cellAt ((Hs x).m.get y) off I=cellAt ((Hs (x+1)).m.get y) off I)->cellAt ((Hs a).m.get y) off I=cellAt ((Hs (a+m)).m.get y) off I:=by
  intro m;induction m with
  |zero=>intro a _ _;rfl
  |succ m p=>
   intro a ha n;have h1:=p a om λx h1 h2 d=>n x h1 om d;rw[h1,show a+(m+1)=a+m+1 by omega]
   by_cases k:T Hs (a+m) y
   .exact n (a+m) om om k
   .rw[dr.AzD om hy k]
 rcases Ir i j with e|e
 .have:=c (j-i) i om λx h1 h2 d=>(l x om d).elim (λh=>by omega) id;rwa[show i+(j-i)=j by omega]at this
 .have:=c (i-j) j om λx h1 h2 d=>(l x om d).elim (λh=>by omega) id;rw[show j+(i-j)=i by omega]at this
  exact this.symm
def AdW{f g:L2}(o:Op)(d:∀x∈o.operands.toList,ev x f=ev x g):Gi P o f=Gi P o g:=by
 cases o;case load t x=>have:=d x (by simp[Op.operands]);show Bn _ _=Bn _ _;rw[this]
 case call c=>
  obtain⟨e,args,j⟩:=c;cases e with
  |value g=>rfl
  |invoke r name=>rfl
  |builtin k=>
   cases k;case len=>
    obtain⟨l⟩:=args;match l,d with
    |[],_=>rfl
    |x::y::l,_=>rfl
    |[x],d=>have:=d x (by simp[Op.operands,Call.operands]);show(match ev x f with|.map _=>RS.all|_=>RS.none)=(match ev x g with|.map _=>RS.all|_=>RS.none);rw[this]
   all_goals rfl
 all_goals rfl
section step
variable {σ0:Dx}{w0:World}{NW:uw}{D:Nat->Bool}{g:L2}{i:Nat}{o:Oper}
def Aqc(c:∀t w,guardOf ops o=.on t w->f.get t=g.get t):gv ops o f=gv ops o g:=by unfold gv;grind
def Aqa(l:∀x∈ops.toList,Gl G nt x=true){t}{w}(c:guardOf ops o=.on t w):t<nt:=by
 unfold guardOf at c;split at c;. grind
 .rename_i j e k;split at c;. rename_i n hj;cases c;cases d:ops[j]? with
    |none=>grind
    |some x=>
     rw[d]at hj;have m:x∈ops.toList:=by grind
     exact(Lu (l x m)).2 t hj
  grind
def Iv.step(hc:Bd P G Z)(dr:Dr P G Z ops nt F Hs)(d:Iv G ops nt F Hs σ0 w0 NW D σ g a w)(r:ops[i]?=some o)(hd:D i=false)(E:∀e∈o.after.toList,Region.binds .any e=true->D e.on=true)
 (hNW:∀x y,x<ops.size->y∈(Hs (x+1)).lg->y<(Hs x).nx->y∈NW) (hb:RBk b σ g):∃σ' g' a' w',Iv G ops nt F Hs σ0 w0 NW (D1 D i) σ' g' a' w'/\RBk b σ' g' /\
  ∀rest k cs,Calm b cs->Steps P (lone (b.at a (.inRegion ops (i::rest)::k)) cs w) (lone (b.at a' (.inRegion ops rest::k)) cs w'):=by
 have hi:i<ops.size:=(Lp.1 r).1;have Vc:o∈ops.toList:=by simpa using dk r
 obtain⟨De,M9⟩:=Lu (dr.all o Vc);have Ix:=dr.nt;have V:∀x∈o.op.operands.toList,ev x (F i)=ev x g:=by
  intro x hx;cases x with
  |tmp t=>
   have X:t<250:=by have:=Od.1 De _ hx;exact Ec this
   exact(d.reads dr r hd E X (.inl hx)).symm
  |_=>rfl
 have hgv:gv ops o (F i)=gv ops o g:=Aqc λt w Y=>(d.reads dr r hd E (Pz (Aqa dr.all Y) Ix) (.inr ⟨w,Y⟩)).symm;have hds:(F i).get Br=g.get Br:=by rw[d.ds];refine dr.Acl om om fe (λx hx R=>?_);obtain⟨p,hp,hpd⟩:=R;have h1:(255:Nat)<nt:=(dr.frame hp).1 255 hpd;omega
 have X5:=Zy (o:=o) dr.all d.fr Ix;rw[<- hgv]at X5;have s:∀v,(Im o.dst v g).get Br=g.get Br:=λv=>by rw[d.ds1 dr r v,d.ds]
 have U:=dr.A4P o Vc;have S:∀c,o.op≠.defer c:=by intro c O0;rw[O0]at U;cases U
 rcases Pf (dr.run i o r) (λn hn=>by cases hn)with⟨Y,hq⟩|⟨Y,_,v,h',hv,hq⟩|⟨_,c,hq,_⟩
 .injection hq with Q hH;refine⟨σ,_,_,w,d.still dr r hd E Q hH (L6 σ),hb.mono (Qq.refl σ) (s _),?_⟩;intro rest k cs B;have:=Asa (P:=P) (b:=b) (a:=a) (k:=k) (cs:=cs) (w:=w) (ops:=ops) (i:=i) (rest:=rest) (by rw[r];simpa using X5.2 Y);rw[r]at this;exact .one this
 .injection hq with Q hH;subst hH;have R:=X5.1 Y;have J:opD o.op o.type P Z g (Ab (Hs i))=.ok v (Hs (i+1)):=by rw[<- hv];exact(AnF o.op o.type hds V).symm
  have A8C:(Hs (i+1)).nx<=Bq:=dr.nxl hi;rcases Aiu (P:=P) (G:=G) o g with hr|hr|⟨t,x,hr⟩
  .have hrF:Gi P o.op (F i)=.all:=by rw[<- hr];exact AdW o.op V
   have Anh:∀x,x<ops.size->x≠i->(∃z,z∈(Hs (x+1)).lg/\z<(Hs x).nx)->Bef ops x i\/Bef ops i x:=by
    intro x hx Gb hz;rcases dr.calm x i o hx r Gb hz with h1|h1|⟨h1,_⟩
    .exact .inl h1
    .exact .inr h1
    .rw[hrF]at h1;cases h1
   obtain⟨hma,Aq9⟩:=d.whole dr r hd E hNW Anh;have Vt:St G σ nt g a (Ab (Hs i)) w:=⟨d.fr,d.gl,(dr.inv i om).Ab,d.so,hma⟩;obtain⟨σ',v',w',h1,h2,C⟩:=Aim hc o σ nt g a (Ab (Hs i)) (Hs (i+1)) w v b J De Vt hb A8C (d.free dr hi hd);exact⟨σ',_,_,w',Aq9 v v' σ' w' Q h1 h2,hb.mono h2.le (s _),λrest k cs B=>C ops i rest k cs r R B⟩
  .obtain⟨v',w',h1,h2⟩:=hr σ nt a (Ab (Hs i)) (Hs (i+1)) w v Z J De d.fr d.gl;have Du:=AbK.ran (b:=b) S h1;generalize M:Hs (i+1)=h' at h2;cases h2 with
   |quiet v v' hvr=>exact⟨σ,_,_,w,d.still dr r hd E Q M hvr,hb.mono (Qq.refl σ) (s _),λrest k cs B=>Du ops i rest k cs r R B⟩
   |ptr l l' t hl=>have hf:σ (Hs i).nx=none:=d.free dr hi hd _ (Ye _) (by rw[M];exact Y3 _);exact⟨_,_,_,_,d.make dr r hd E Q M hl (.ptr _ 0 ⟨w.heap.size,l.length,none⟩ (by show Gu σ (Hs i).nx _ (Hs i).nx=_;simp[Gu])),hb.mono (Ip hf) (s _),λrest k cs B=>Du ops i rest k cs r R B⟩
   |sl l l' t len cap sz hle hl=>have hf:σ (Hs i).nx=none:=d.free dr hi hd _ (Ye _) (by rw[M];exact Y3 _);exact⟨_,_,_,_,d.make dr r hd E Q M hl (.sl _ 0 len cap sz true ⟨w.heap.size,l.length,none⟩ cap (by show Gu σ (Hs i).nx _ (Hs i).nx=_;simp[Gu]) hle (Ye _) (λ_=>rfl) (λhh=>by cases hh)),hb.mono (Ip hf) (s _),λrest k cs B=>Du ops i rest k cs r R B⟩
  .obtain⟨dst,op,ty,pos,af,gd⟩:=o;dsimp only at hr;subst hr;have Rr:ev x (F i)=ev x g:=V x (by simp[Op.operands]);have hq0:Hs (i+1)=Ab (Hs i):=Bb8 t x J;by_cases hcf:∃z y off v0,z<ops.size/\z≠i/\ev x g=.ptr y off/\cellAt ((Hs i).m.get y) off (Ft P t)=some v0/\(∃u,u∈(Hs (z+1)).lg/\u<(Hs z).nx)
   .obtain⟨z0,y,off,v0,hz0,B9C,hy,I,hu0⟩:=hcf;cases K:σ y with
    |none=>obtain⟨v',h1,h2,C⟩:=Ae0 (P:=P) (w:=w) (dst:=dst) (pos:=pos) (af:=af) (gd:=gd) t x J (by simpa[Op.operands]using De) d.fr d.gl (by intro y' Yk e' O L;rw[hy]at O;cases O;rw[K]at L;cases L);exact⟨σ,_,_,w,d.still dr r hd E Q C h2,hb.mono (Qq.refl σ) (s _),λrest k cs B=>AbK.ran (b:=b) S h1 ops i rest k cs r R B⟩
    |some e=>
     have W:Gi P (.load t x) (F i)=.blk y off (Ft P t):=by show Bn _ (ev x (F i))=_;rw[Rr,hy];rfl
     have hyl:=d.so.low y e K;have hyn:y<(Hs i).nx:=by refine Ab7 (dr.inv i om) hyl λhh=>?_;rw[hh]at I;cases I
     obtain⟨j,k1,k2,k3,k4⟩:=d.mem y e K;have Ayy:∀x',x'<ops.size->T Hs x' y->(x'<i ↔ x'<j)\/cellAt ((Hs x').m.get y) off (Ft P t)=cellAt ((Hs (x'+1)).m.get y) off (Ft P t):=by
      intro x' A X;by_cases Gb:x'=i
      .subst Gb;right;rw[hq0];rfl
      .rcases X.cases dr A with⟨q1,q2⟩|q
       .rcases dr.calm x' i _ A r Gb ⟨y,q1,q2⟩with h1|h1|⟨h1,_⟩
        .left;rw[<- d.side dr r hd E A (.inl h1)];exact k2 x' A X
        .left;rw[<- d.side dr r hd E A (.inr h1)];exact k2 x' A X
        .dsimp only at h1;rw[W]at h1;rcases Am6 h1 with⟨c1,_⟩|⟨_,_,c2⟩
         .exact absurd ((L7 (Hs x').nx y (Hs (x'+1)).lg).2 ⟨q1,q2⟩) c1
         .exact .inr c2
       .left;have B6:x'<i:=by
         rcases Ui x' i with C|C
         .exact C
         .have:=dr.nx C om;omega
        have hD:D x'=true:=by
         rcases d.dom y e K with C|⟨z,C,h4,h5⟩
         .have:=dr.nx (i:=0) (j:=x') om om;have:=dr.nx (i:=i) (j:=ops.size) om (Ye _);omega
         .have:=dr.Ur C A h5 q;subst this;exact h4
        exact⟨λ_=>(k2 x' A X).1 hD,λ_=>B6⟩
     have O9:=dr.cell (by omega:i<=ops.size) k1 hyl Ayy;have hvj:opD (.load t x) ty P Z g (Hs j)=.ok v (Hs j):=BfT t x J hy I (by rw[<- O9];exact I);obtain⟨v',h1,h2,C⟩:=Ae0 (P:=P) (w:=w) (dst:=dst) (pos:=pos) (af:=af) (gd:=gd) t x hvj (by simpa[Op.operands]using De) d.fr d.gl (by intro y' Yk e' O L;rw[hy]at O;cases O;rw[K]at L;cases L;exact k4);exact⟨σ,_,_,w,d.still dr r hd E Q hq0 h2,hb.mono (Qq.refl σ) (s _),λrest k cs B=>AbK.ran (b:=b) S h1 ops i rest k cs r R B⟩
   .obtain⟨v',h1,h2,C⟩:=Ae0 (P:=P) (w:=w) (dst:=dst) (pos:=pos) (af:=af) (gd:=gd) t x J (by simpa[Op.operands]using De) d.fr d.gl (by
     intro y off e hy hye;by_cases AaJ:(Hs i).m.get y=.none
     .show Gr G σ (Hs i).m.get e w ((Hs i).m.get y);rw[AaJ];trivial
     have hyn:y<(Hs i).nx:=Ab7 (dr.inv i om) (d.so.low y e hye) AaJ;refine(d.here dr r hd E hye hyn ?_).2.2;intro z u hz hzi hu q1 q2;rcases dr.calm z i _ hz r hzi ⟨u,q1,q2⟩with h1|h1|⟨h1,_⟩
     .exact .inl h1
     .exact .inr h1
     .exfalso;have W:Gi P (.load t x) (F i)=.blk y off (Ft P t):=by show Bn _ (ev x (F i))=_;rw[Rr,hy];rfl
      dsimp only at h1;rw[W]at h1;rcases Am6 h1 with⟨c1,c2⟩|⟨v0,I,_⟩
      .have Wj:=(L7 (Hs z).nx u (Hs (z+1)).lg).2 ⟨q1,q2⟩;rcases hu with rfl|hu
       .exact c1 Wj
       .exact c2 u hu Wj
      .exact hcf ⟨z,y,off,v0,hz,hzi,hy,I,u,q1,q2⟩)
    exact⟨σ,_,_,w,d.still dr r hd E Q C h2,hb.mono (Qq.refl σ) (s _),λrest k cs B=>AbK.ran (b:=b) S h1 ops i rest k cs r R B⟩
 .rw[U]at hq;cases hq
def Iv.go(B:Bd P G Z)(dr:Dr P G Z ops nt F Hs)(j:∀x y,x<ops.size->y∈(Hs (x+1)).lg->y<(Hs x).nx->y∈NW):∀l D,Aef ops D l->∀σ g a w,
 Iv G ops nt F Hs σ0 w0 NW D σ g a w->RBk b σ g->∃p q n a' w',(∀i,i<ops.size->p i=true)/\Iv G ops nt F Hs σ0 w0 NW p q n a' w'/\RBk b q n /\
  ∀k cs,Calm b cs->Steps P (lone (b.at a (.inRegion ops l::k)) cs w) (lone (b.at a' (.inRegion ops []::k)) cs w'):=by intro l D c;induction c with
 |nil D r=>exact λσ g a w e hb=>⟨D,_,g,a,w,r,e,hb,λk cs _=>.refl P _⟩
 |cons D i o rest z hd he J A=>intro σ g a w e hb;obtain⟨I,g1,a1,w1,d,s,s1⟩:=e.step B dr z hd he j hb;obtain⟨E,K,g2,a2,w2,t,C,u,s2⟩:=A _ _ _ _ d s;exact⟨_,_,_,_,_,t,C,u,λk cs m=>(s1 _ k _ m).trans (s2 k _ m)⟩
end step
def J6.cut(hi:Om h)(c:J6 (Ab h) h' h'.lg) l:J6 (Be l h) (Be (wrote h.nx h'.lg++l) h') (wrote h.nx h'.lg):=by
 have d:∀y,y∈wrote .. ↔ y∈h'.lg/\y<h.nx:=λy=>L7 ..;refine⟨rfl,c.nx,λy hy=>c.low y ((d y).1 hy).1,?_,?_,?_,c.same,c.inv.Be _,λy hy=>c.live y ((d y).1 hy).1⟩;. intro y h1 h2 j;exact c.By y h1 h2 λp=>j ((d y).2 ⟨p,h2⟩)
 .intro y hy k h1 h2;have e:=Yy h1 hi.top;exact(d k).2 ⟨c.N3 y ((d y).1 hy).1 k h1 h2,(hi.N3 y k e h2).1⟩
 .intro y k h1 h2 j q;rcases c.Vh y k h1 h2 j q with n|n
  .rcases Ui k h.nx with m|m;. grind
   .exact .inr m
  .exact .inr n
def AiN lg:∀c,En c lg=c.flatMap (·.w)++lg:=by intro c;induction c with
|nil=>rfl
|cons e c d=>show Akm _ (En ..)=_;rw[AfT,d];simp
def Ahp(hc:Bd P G Z)(P5:P.follows .mixedOrders=true)(J:Yx ops=true)(Fs:∀x∈ops.toList,Gl G nt x=true)(Ix:nt<250)(he:Gk P Z ops f h=.Bt f' h')
 (hs:St G σ nt f a h w) (hb:RBk b σ f) (hl:h'.nx<=Bq) (hf:Fx σ h h') (id:Nat):∃q a' w',St G q nt f' a' h' w'/\RBk b q f'/\Out G σ h w q h' w' /\
  ∀k cs,Calm b cs->Steps P (lone (b.at a (.code (.region id ops true)::k)) cs w) (lone (b.at a' k) cs w'):=by
 have l:=hs.draw (w.drawn+1);obtain⟨F,Hs,n,dr,q1,K,q3,U,q5,Y⟩:=Dr.of_run hc J Fs Ix he l hb hl hf;have X:∀x y,x<ops.size->y∈(Hs (x+1)).lg->y<(Hs x).nx->y∈n.flatMap (·.w):=by
  intro x y c h1 h2;obtain⟨z,s,C⟩:=Y x c;have hz:z∈n:=by have:=Vl s;simpa using this
  rw[Kt];exact⟨z,hz,by rw[C];exact(L7 _ _ _).2 ⟨h1,h2⟩⟩
 have W:=Tp J;have hD0:∀x,x<ops.size->(Array.replicate ops.size false).getD x true=false:=by intro x c;simp[Array.getD,c]
 have V:h'.nx=(Hs ops.size).nx:=by rw[U];rfl
 have R:Iv G ops nt F Hs σ { w with drawn:=w.drawn+1 } (n.flatMap (·.w)) (λi=>(Array.replicate ops.size false).getD i true) σ f a { w with drawn:=w.drawn+1 }:=by
  refine⟨?_,l.fr,?_,by rw[q1],l.gl,l.so,⟨Qq.refl σ,λy e h1 h2=>(by rw[h1]at h2;cases h2),l.so,Ye _,λ_ _ _=>rfl,λy e h1 h2=>(by rw[h1]at h2;cases h2),⟨rfl,rfl⟩⟩,?_,?_⟩;. intro x o ho c;grind
  .grind
  .intro y e hy;left;rw[K];rcases Ui y h.nx with h1|h1;. exact .inl h1
   .rcases Ui y h'.nx with h2|h2;. rw[hf y h1 h2]at hy;cases hy
    .exact .inr om
  .intro y e hy;refine⟨0,by omega,λx c _=>?_,λk _ x c _=>?_,by rw[K];exact l.ma y e hy⟩;. simp_all
   simp_all
 have O:=Aod W (w.tape w.drawn (.order b.fn id));obtain⟨D',q,g',a',w',p1,r,p3,p4⟩:=Iv.go hc dr X _ _ O _ _ _ _ R hb;have L:Pt q nt (F ops.size) a':=by
  refine⟨r.fr.size,?_,?_⟩;. intro t A;obtain⟨j,h1,h2,s⟩:=r.Ase t A;have e:(F j).get t=(F ops.size).get t:=dr.Acl h1 (Ye _) om (λx c I=>by rw[<- h2 x c I,p1 x c];simp[c]);rw[<- e,<- s];exact r.fr.slot t A
  .have e:(F ops.size).get Br=(F 0).get Br:=by refine dr.Acl (Ye _) om fe (λx c I=>?_);obtain⟨p,T,u⟩:=I;have h1:(255:Nat)<nt:=(dr.frame T).1 255 u;omega
   rw[e,<- r.ds];exact r.fr.defers
 have Q:V1 G q (Hs ops.size).m.get w':=by
  intro y e hy;obtain⟨j,h1,h2,s,C⟩:=r.mem y e hy;refine(dr.move (Ye _) h1 (r.so.low y e hy) ?_ ?_ C).2;. intro x c A;rw[<- h2 x c A,p1 x c];simp[c]
  .intro k B x c A;rw[<- s k B x c A,p1 x c];simp[c]
 have M:∀k,k<=ops.size->J6 h (Be (((n.reverse.take k).reverse).flatMap (·.w)++h.lg) (Hs k)) (((n.reverse.take k).reverse).flatMap (·.w)):=by intro k;induction k with
  |zero=>intro _;rw[K];exact J6.refl l.ai
  |succ k ih=>
   intro B;have h1:=ih om;obtain⟨z,s,C⟩:=Y k B;have e:(n.reverse.take (k+1)).reverse=z::(n.reverse.take k).reverse:=by rw[Ga,s];simp
   rw[e,dh,C,Wq];have h5:=J6.cut (dr.inv k om) (dr.step k B) (((n.reverse.take k).reverse).flatMap (·.w)++h.lg);refine h1.trans h5 ?_;exact dr.nxl B
 have E:=M ops.size (Ye _);have e:(n.reverse.take ops.size).reverse=n:=by rw[R4 (by rw[q5];exact Ye _),List.reverse_reverse]
 rw[e,<- AiN,<- U]at E;have d:Oz σ q h h' w w' (n.flatMap (·.w)):=by have d:=r.Sm;refine⟨d.le,?_,d.ok,d.grow,d.frame,d.Vh,d.io⟩;intro y e h1 h2;have:=d.fresh y e h1 h2;rw[K]at this;rw[V];exact this
 have S:V1 G q h'.m.get w':=by rw[U];exact Q
 have Vd:Out G σ h w q h' w':=⟨_,E,d,S⟩;refine⟨q,a',w',?_,?_,Vd,?_⟩;. rw[q3];exact hs.next Vd L
 .have e:f'.get Br=g'.get Br:=by rw[q3,r.ds];refine dr.Acl (Ye _) om fe (λx c I=>?_);obtain⟨p,T,u⟩:=I;have h1:(255:Nat)<nt:=(dr.frame T).1 255 u;omega
  exact p3.mono (Qq.refl q) e
 .intro k cs Hq;refine .head AzG ?_;rw[P5];exact(p4 k cs Hq).trans (.one Tv)
variable {a':Act}
def Fin(r:RC)(f':L2)(h':H):Prop:=r=.Bt f' h'\/(∃i,r=.ext i f' h')\/r=.ret f' h'
def Ends(P:Program)(b:FB)(src dst:List Item->List Item)(a:Act)(w:World)(d:Dx)(r:RC)(a':Act)(w':World):Prop:=
 match r with
 |.Bt _ _=>∀k cs,Calm b cs->Steps P (lone (b.at a (src k)) cs w) (lone (b.at a' (dst k)) cs w')
 |.ext id _ _=>∀k cs,Calm b cs->∃c,exitTo id c=exitTo id k/\Steps P (lone (b.at a (src k)) cs w) (lone (b.at a' (.code (.exit id)::c)) cs w')
 |.ret _ _=>∀k cs,Calm b cs->∃c,Steps P (lone (b.at a (src k)) cs w) (lone (b.at a' (.code .ret::c)) cs w')
 |.bad _=>True
def Eb(P:Program)(G:Nat)(nt:Nat)(b:FB)(src dst:List Item->List Item)(go:L2->H->RC):Prop:=
 ∀(σ:Dx) (f:L2) (a:Act) (h:H) (w:World) (f':L2) (h':H) (r:RC),go f h=r->Fin r f' h'->St G σ nt f a h w->RBk b σ f->h'.nx<=Bq->Fx σ h h' ->
  ∃c a' w',St G c nt f' a' h' w'/\RBk b c f'/\Out G σ h w c h' w'/\Ends P b src dst a w c r a' w'
def Ends.head{src c dst:List Item->List Item}(r:∀k cs,step P (lone (b.at a (src k)) cs w)=.next (lone (b.at a (c k)) cs w))(e:Ends P b c dst a w σ' j a' w'):Ends P b src dst a w σ' j a' w':=by
 cases j with
 |bad n=>trivial
 |Bt f h=>exact λk cs d=>.head (r k cs) (e k cs d)
 |ext id f h=>exact λk cs d=>by obtain⟨l,h1,h2⟩:=e k cs d;exact⟨l,h1,.head (r k cs) h2⟩
 |ret f h=>exact λk cs d=>by obtain⟨l,h2⟩:=e k cs d;exact⟨l,.head (r k cs) h2⟩
def Ends.pre{src mid dst:List Item->List Item}{a1:Act}{w1:World}(d:∀k cs,Calm b cs->Steps P (lone (b.at a (src k)) cs w) (lone (b.at a1 (mid k)) cs w1))(e:Ends P b mid dst a1 w1 σ' j a' w'):Ends P b src dst a w σ' j a' w':=by
 cases j with
 |bad n=>trivial
 |Bt f h=>exact λk cs c=>(d k cs c).trans (e k cs c)
 |ext id f h=>exact λk cs c=>by obtain⟨r,h1,h2⟩:=e k cs c;exact⟨r,h1,(d k cs c).trans h2⟩
 |ret f h=>exact λk cs c=>by obtain⟨r,h2⟩:=e k cs c;exact⟨r,(d k cs c).trans h2⟩
def Eb.head{src c dst}{go}(s:∀a w k cs,step P (lone (b.at a (src k)) cs w)=.next (lone (b.at a (c k)) cs w))(m:Eb P G nt b c dst go):Eb P G nt b src dst go:=by intro σ f a h w f' h' r h1 h2 p j n d;obtain⟨u,a',w',l,t,q,e⟩:=m _ f a h w _ _ r h1 h2 p j n d;exact⟨_,_,_,l,t,q,e.head (s a w)⟩
def Eb.andThen{src mid dst}{go next}(p:Eb P G nt b src mid go)
 (hnx:∀f h,Ei h (next f h)) (Aq9:Eb P G nt b mid dst next):Eb P G nt b src dst λf h=>andThen next (go f h):=by intro σ f a h w f' h' r c k s hb m l;dsimp at c;cases d:go f h with
 |bad n=>rw[d]at c;subst c;rcases k with hq|⟨_,hq⟩|hq<;>cases hq
 |Bt f1 h1=>
  rw[d]at c;have j:next ..=r:=c;have q:h1.nx<=h'.nx:=by refine hnx f1 _ f' _ ?_;rw[j];exact k
  obtain⟨z,a1,w1,x,y,t,u⟩:=p _ f a h w _ _ _ d (.inl rfl) s hb om (l.left q);obtain⟨A,a2,w2,p1,p2,p3,p4⟩:=Aq9 _ _ _ _ _ _ _ r j k x y m (l.right t);exact⟨_,_,_,p1,p2,t.trans p3 m,Ends.pre u p4⟩
 |ext id f1 h1=>
  rw[d]at c;have j:=c;subst j;have e:f1=f'/\h1=h':=by rcases k with hq|⟨_,hq⟩|hq<;>cases hq;simp
  obtain⟨rfl,rfl⟩:=e;exact p _ f a h w _ _ _ d (.inr (.inl ⟨_,rfl⟩)) s hb m l
 |ret f1 h1=>
  rw[d]at c;have j:=c;subst j;have e:f1=f'/\h1=h':=by rcases k with hq|⟨_,hq⟩|hq<;>cases hq;simp
  obtain⟨rfl,rfl⟩:=e;exact p _ f a h w _ _ _ d (.inr (.inr rfl)) s hb m l
def O7{f1}{h1}(c:Fin (.Bt f1 h1) f' h'):f'=f1/\h'=h1:=by rcases c with hq|⟨_,hq⟩|hq<;>cases hq;simp
def Ul{i}{f1}{h1}(c:Fin (.ext i f1 h1) f' h'):f'=f1/\h'=h1:=by rcases c with hq|⟨_,hq⟩|hq<;>cases hq;simp
def Abx{f1}{h1}(c:Fin (.ret f1 h1) f' h'):f'=f1/\h'=h1:=by rcases c with hq|⟨_,hq⟩|hq<;>cases hq;simp
def I5{n}(c:Fin (.bad n) f' h'):False:=by rcases c with hq|⟨_,hq⟩|hq<;>cases hq
def Code.src(c:Code)(k:List Item):List Item:=.code c::k
def Aih{src dst}(e:∀a w k cs,step P (lone (b.at a (src k)) cs w)=.next (lone (b.at a (dst k)) cs w)):Eb P G nt b src dst RC.Bt:=by intro σ f a h w f' h' r d j c hb m l;subst d;obtain⟨rfl,rfl⟩:=O7 j;exact⟨_,a,w,c,hb,Out.refl c.ai c.so c.ma,λk cs _=>.one (e a w k _)⟩
def Aiw(q:Bd P G Z)(X:P.follows .mixedOrders=true){id:Nat}{ops:Array Oper}{dr:Bool}(S:codeOk G nt (.region id ops dr)=true)(L:nt<250):
 Eb P G nt b (Code.src (.region id ops dr)) (λk=>k) (exec (.region id ops dr) P Z):=by
 have s:(Bool.rec false (Bool.rec true (Yx ops) dr) (ops.toList.all (Gl G nt)):Bool)=true:=S;cases z:ops.toList.all (Gl G nt)with
 |false=>rw[z]at s;cases s
 |true=>
  rw[z]at s;have p:∀x∈ops.toList,Gl G nt x=true:=Od.1 z;intro σ f a h w f' h' r c u Q hb O M;cases dr with
  |false=>
   have m:G3 P Z ops ops.toList f h=r:=c;have U:∀n,r≠.bad n:=λn hn=>by subst hn;exact I5 u
   obtain⟨f1,h1,rfl,V⟩:=AeM (b:=b) q p L ops.toList 0 rfl σ f a h w r m U Q hb;obtain⟨rfl,rfl⟩:=O7 u;obtain⟨I,a',w',A,K,B,E⟩:=V O M;refine⟨I,a',w',A,K,B,λk cs T=>?_⟩;refine .head Adg ?_;have:=E k cs T;rw[ew,<- L0]at this;exact this.trans (.one Tv)
  |true=>
   have m:Gk P Z ops f h=r:=c;have J:Yx ops=true:=s;have y:∃f1 h1,r=.Bt f1 h1:=by
    cases r with
    |Bt f1 h1=>exact⟨f1,h1,rfl⟩
    |bad n=>exact(I5 u).elim
    |ext i f1 h1=>exact(Aet m (λ_ _ e=>by cases e) (λ_ e=>by cases e)).elim
    |ret f1 h1=>exact(Aet m (λ_ _ e=>by cases e) (λ_ e=>by cases e)).elim
   obtain⟨f1,h1,rfl⟩:=y;obtain⟨rfl,rfl⟩:=O7 u;obtain⟨I,a',w',A,K,B,E⟩:=Ahp q X J p L m Q hb O M id;exact⟨I,a',w',A,K,B,E⟩
where
 Aet {ops:Array Oper} {f:L2} {h:H} {r:RC} (c:Gk P Z ops f h=r) (h1:∀f' h',r≠.Bt f' h') (h2:∀n,r≠.bad n):False:=by
  unfold Gk at c
  cases hd:AnB ops with
  |false=>rw[hd]at c;exact h2 _ c.symm
  |true=>
   rw[hd]at c
   have C:∀(l:List DO) (j:List EF) (f:L2) (h:H) (lg:uw),Sp P Z ops lg l j f h≠r:=by
    intro l
    induction l with
    |nil=>
     intro j f h lg c
     have hq:(@Bool.rec (λ_=>RC) (.bad 183) (.Bt f (Be (En j lg) h)) (Lh j):RC)=r:=c
     cases q:Lh j with
     |false=>rw[q]at hq;exact h2 _ hq.symm
     |true=>rw[q]at hq;exact h1 _ _ hq.symm
    |cons d l W=>
     intro j f h lg c
     have hq:(RC.rec (motive:=λ_=>RC) RC.bad (λf' h'=>Sp P Z ops lg l (⟨d.bit,d.pr,wrote h.nx h'.lg,Gi P d.o.op f,h,h'⟩::j) f' h') (λ_ _ _=>.bad 184) (λ_ _=>.bad 184) (Fp ops d.o P Z f (Ab h)):RC)=r:=c
     cases t:Fp ops d.o P Z f (Ab h)with
     |bad n=>rw[t]at hq;exact h2 _ hq.symm
     |ext id f1 R=>rw[t]at hq;exact h2 _ hq.symm
     |ret f1 R=>rw[t]at hq;exact h2 _ hq.symm
     |Bt f1 R=>rw[t]at hq;exact W _ _ _ _ hq
   exact C _ _ _ _ _ c
def Am7{y:Code}(B:Es G J=true)(I:Eb P G nt b (Code.src R) (λk=>k) (exec R P Z))(hy:Eb P G nt b (Code.src y) (λk=>k) (exec y P Z)):
 Eb P G nt b (Code.src (.cond J R y)) (λk=>k) (exec (.cond J R y) P Z):=by
 intro σ f a h w f' h' r C e d hb A s;have m:Al2 (ev J f) (exec R) (exec y) P Z f h=r:=C;have E:=Cj d.fr d.gl J B;generalize ev J f=u at *
 generalize z:a.eval J=cc at *
 cases E;case bool t=>
  cases t with
  |true=>obtain⟨p,a',w',l,q,n,j⟩:=I σ f a h w f' h' r m e d hb A s;exact⟨p,a',w',l,q,n,j.head (λk cs=>ArW z)⟩
  |false=>obtain⟨p,a',w',l,q,n,j⟩:=hy σ f a h w f' h' r m e d hb A s;exact⟨p,a',w',l,q,n,j.head (λk cs=>ArW z)⟩
 all_goals exact(I5 (by rw[<- m]at e;exact e)).elim
def Aek{id:Nat}{src:List Item->List Item}{go:L2->H->RC}(A:Eb P G nt b src (λk=>k) go):Eb P G nt b (λk=>src (.inBlock id::k)) (λk=>k) (λf h=>inBlock id (go f h)):=by
 intro σ f a h w f' h' r J u z hb y x;have d:inBlock id (go f h)=r:=J;cases e:go f h with
 |bad n=>rw[e]at d;subst d;exact(I5 u).elim
 |Bt f1 h1=>rw[e]at d;subst d;obtain⟨rfl,rfl⟩:=O7 u;obtain⟨q,a',w',l,s,m,p⟩:=A σ f a h w _ _ _ e (.inl rfl) z hb y x;exact⟨q,a',w',l,s,m,λk cs j=>(p (.inBlock id::k) cs j).trans (.one Aoa)⟩
 |ext i f1 h1=>
  rw[e]at d;have B:(@Bool.rec (λ_=>RC) (RC.ext i f1 h1) (RC.Bt f1 h1) (Nat.beq i id):RC)=r:=d;cases c:Nat.beq i id with
  |true=>
   rw[c]at B;have C:=Ch c;subst C;subst B;obtain⟨rfl,rfl⟩:=O7 u;obtain⟨q,a',w',l,s,m,p⟩:=A σ f a h w _ _ _ e (.inr (.inl ⟨i,rfl⟩)) z hb y x;refine⟨q,a',w',l,s,m,λk cs j=>?_⟩;obtain⟨t,h1,h2⟩:=p (.inBlock i::k) cs j;have E:exitTo i t=some k:=by rw[h1];simp[exitTo]
   exact h2.trans (.one (AzH E))
  |false=>rw[c]at B;have I:=Ho c;subst B;obtain⟨rfl,rfl⟩:=Ul u;obtain⟨q,a',w',l,s,m,p⟩:=A σ f a h w _ _ _ e (.inr (.inl ⟨i,rfl⟩)) z hb y x;refine⟨q,a',w',l,s,m,λk cs j=>?_⟩;obtain⟨t,h1,h2⟩:=p (.inBlock id::k) cs j;refine⟨t,?_,h2⟩;rw[h1];simp[exitTo,Ne.symm I]
 |ret f1 h1=>rw[e]at d;subst d;obtain⟨rfl,rfl⟩:=Abx u;obtain⟨q,a',w',l,s,m,p⟩:=A σ f a h w _ _ _ e (.inr (.inr rfl)) z hb y x;exact⟨q,a',w',l,s,m,λk cs j=>by obtain⟨t,h2⟩:=p (.inBlock id::k) cs j;exact⟨t,h2⟩⟩
def Ajv{id:Nat}(d:Eb P G nt b (Code.src R) (λk=>k) (exec R P Z)):Eb P G nt b (Code.src (.block id R)) (λk=>k) (exec (.block id R) P Z):=
 Eb.head (λa w k cs=>Amg) (Aek d)
def Eb.under{src dst:List Item->List Item}{go:L2->H->RC}(i:Item)(hi:∀id,i≠.inBlock id)(m:Eb P G nt b src dst go):Eb P G nt b (λk=>src (i::k)) (λk=>dst (i::k)) go:=by
 intro σ f a h w f' h' r h1 h2 q j p e;obtain⟨t,a',w',l,x,s,d⟩:=m σ f a h w f' h' r h1 h2 q j p e;refine⟨t,a',w',l,x,s,?_⟩;cases r with
 |bad n=>trivial
 |Bt f h=>exact λk cs c=>d (i::k) cs c
 |ext id f h=>refine λk cs c=>?_;obtain⟨u,p1,p2⟩:=d (i::k) cs c;refine⟨u,?_,p2⟩;rw[p1];cases i<;>first|rfl|(exact absurd rfl (hi _))
 |ret f h=>exact λk cs c=>d (i::k) cs c
def Ans(e:Dw Z){c}(j:Eb P G nt b (Code.src c) (λk=>k) (exec c P Z)) n:
 Eb P G nt b (λk=>.code c::.inLoop c::k) (λk=>.inLoop c::k) (Yd (exec c) P Z n):=by induction n with
 |zero=>exact j.under _ λid l=>by grind
 |succ n d=>exact Eb.andThen d (AcK (Lt e c) n) (d.head λa w k cs=>ArX)
def Nw(c:Option Code)(f:L2)(h:H)(r:RC):Prop:=
 match c with
 |none=>r=.Bt f h
 |some .ret=>r=.ret f h
 |some (.exit id)=>r=.ext id f h
 |_=>False
def AeD(c:Z4 p f h=j)(e:∀n,j≠.bad n):Nw p f h j:=by
 unfold Z4 at c;unfold Nw;split at c
 .exact c.symm
 .exact c.symm
 .exact c.symm
 .exact absurd c.symm (e _)
def Adc(U:Bd P G Z){g:FuncId}{args:uz}{An:Array Value}{fr:L2}{tmps:Array Value}{ps:Array Tmp}{as bd:Code}{fnid:FuncId}{dfb:Nat}(Ke:Bg P g=true)
 (hs:Ms G σ h w) (hg:Vm G σ) (Z3:∀t,t<250->Au σ (fr.get t) (tmps.getD t undef)) (Fc:tmps.size<250) (hps:∀d∈ps.toList,d<tmps.size) (h1:codeOk G tmps.size as=true) (h2:codeOk G tmps.size bd=true)
 (he:Mn f h.nx (Z.call g args (h.new (.loop 0 none fr ps.toList as bd)))=j) (Cg:Fin j f' h') (hl:h'.nx<=Bq) (hf:Fx σ h h')
 (Ow:∀J e,Qq σ J->J h.nx=some e->e.c=w.heap.size->Bk J args An.toList):
 f'=f/\∃σ' w' w2 v2 m,Out G σ h w σ' h' w'/\(∀c cs,Steps P (lone (Frame.enter P g An .normal) (c::cs) (Dd w (.loop { state:=.ready,pending:=none,fn:=fnid,tmps,params:=ps,assign:=as,body:=bd,defers:=dfb }))) (lone (c.finish v2) cs w2)) /\
  w2.heap[w.heap.size]?=some (.loop m)/\m.state≠.busy/\w'=Cc w2 w.heap.size (.loop { m with state:=.exhausted })/\Nw m.pending f h' j:=by
 have k:∀n,j≠.bad n:=λn hn=>by subst hn;exact I5 Cg
 unfold Mn at he;split at he
 .rename_i v2 r V;split at he
  .rename_i st z fr2 q p bd2 T;rcases(show(Nat.beq st 1=true/\RC.bad 189=j)\/(Nat.beq st 1=false/\Z4 z f (r.put h.nx (.loop 3 z fr2 q p bd2))=j)by
    cases hb:Nat.beq st 1 with
    |true=>rw[hb]at he;exact .inl ⟨rfl,he⟩
    |false=>rw[hb]at he;exact .inr ⟨rfl,he⟩)with⟨_,hq⟩|⟨Vt,hq⟩
   .exact absurd hq.symm (k _)
   .have hj:=AeD hq k;have M:f'=f/\h'=r.put h.nx (.loop 3 z fr2 q p bd2):=by
     unfold Nw at hj;split at hj
     .subst hj;exact O7 Cg
     .subst hj;exact Abx Cg
     .subst hj;exact Ul Cg
     .exact hj.elim
    obtain⟨rfl,rfl⟩:=M;refine⟨rfl,?_⟩;have L:(h.new (.loop 0 none fr ps.toList as bd)).nx<=r.nx:=U.mono.call _ _ _ _ _ V;have Bb3:h.nx+1<=r.nx:=L;have Q:r.nx<=Bq:=hl;have B6:h.nx<Bq:=by omega
    have y:σ h.nx=none:=hf h.nx (Ye _) (by show h.nx<r.nx;omega)
    have s:=Ip (e:=⟨w.heap.size,0,none⟩) y;have K:Out G σ h w (Gu σ h.nx ⟨w.heap.size,0,none⟩) (h.new (.loop 0 none fr ps.toList as bd)) (Dd w (.loop { state:=.ready,pending:=none,fn:=fnid,tmps,params:=ps,assign:=as,body:=bd,defers:=dfb })):=by refine Yf hs.ai hs.so hs.ma B6 y rfl rfl ?_;refine⟨rfl,_,F1 w _,rfl,rfl,λt ht=>(Z3 t ht).mono s,rfl,rfl,rfl,Fc,h1,h2,hps⟩
    have E:Fx (Gu σ h.nx ⟨w.heap.size,0,none⟩) (h.new (.loop 0 none fr ps.toList as bd)) r:=Fx.right (h:=h) (h':=r) (λx p1 p2=>hf x p1 p2) K;have I:=Ow (Gu σ h.nx ⟨w.heap.size,0,none⟩) ⟨w.heap.size,0,none⟩ s (by simp[Gu]) rfl;obtain⟨A,C,w2,a2,fn,p1,p2,p3,p4,W,p6⟩:=U.call g args _ r v2 _ _ An .normal V Ke I K.ms (hg.mono s) Q E;have u:A h.nx=some ⟨w.heap.size,0,none⟩:=p3.le _ _ (by simp[Gu]);have S:=p3.ms.ma h.nx _ u;rw[T]at S;obtain⟨R,m,b1,b2,O,b4,X,Y,b7,b8,b9,Wz,B⟩:=S;have S6:Out G A r w2 A (r.put h.nx (.loop 3 z fr2 q p bd2)) (Cc w2 w.heap.size (.loop { m with state:=.exhausted })):=by refine Hh (e:=⟨w.heap.size,0,none⟩) p3.ms.ai p3.ms.so p3.ms.ma u T (by intro l;cases l) (by intro n l;cases l) rfl rfl R (by intro n l;cases l) ?_;refine⟨R,{ m with state:=.exhausted },?_,rfl,O,b4,X,Y,b7,b8,b9,Wz,B⟩;rw[Da,Xo ⟨rfl,Dj b1⟩]
    refine⟨A,_,w2,C,m,?_,?_,b1,?_,rfl,?_⟩
    .exact(K.trans p3 Q).trans S6 hl
    .intro c cs;obtain⟨k',p7⟩:=p6 (c::cs) (.inl rfl);exact p7.trans (.one (ArV p4 rfl p1 W))
    .rw[b2];intro l;unfold Akf at l;split at l<;>first|(cases l;done)|skip
     cases Vt
    .rw[O];exact hj
  .exact absurd he.symm (k _)
 .exact absurd he.symm (k _)
def Xt(b:FB) a l k v:(b.at a (.inRangeFunc l::k)).finish v=b.at a (.endRangeFunc l::k):=rfl
def Aev{src:List Item->List Item}(hj:Nw p f h j)(d:∀k cs,Calm b cs->Steps P (lone (b.at a (src k)) cs w) (lone (b.at a' ((p.map Item.code).toList++k)) cs w')):
 Ends P b src (λk=>k) a w σ' j a' w':=by
 unfold Nw at hj;split at hj
 .subst hj;exact d
 .subst hj;exact λk cs c=>⟨k,d k cs c⟩
 .subst hj;exact λk cs c=>⟨k,rfl,d k cs c⟩
 .exact hj.elim
def AdQ(u:Dw Z){g:FuncId}{args:uz}{l:Nat}(c:Mn f l (Z.call g args h)=j)(k:Fin j f' h'):h.nx<=h'.nx:=by
 have d:∀n,j≠.bad n:=λn hn=>by subst hn;exact I5 k
 unfold Mn at c;split at c
 .rename_i v2 p t;have s:h.nx<=p.nx:=u.call _ _ _ _ _ t;split at c
  .rename_i st q fr2 e r bd2 x;cases hb:Nat.beq st 1 with
   |true=>rw[hb]at c;exact absurd c.symm (d _)
   |false=>
    rw[hb]at c;have hj:=AeD (show Z4 q f (p.put l (.loop 3 q fr2 e r bd2))=j from c) d
    have m:f'=f/\h'=p.put l (.loop 3 q fr2 e r bd2):=by
     unfold Nw at hj;split at hj
     .subst hj;exact O7 k
     .subst hj;exact Abx k
     .subst hj;exact Ul k
     .exact hj.elim
    rw[m.2];exact s
  .exact absurd c.symm (d _)
 .exact absurd c.symm (d _)
def Aky(hc:Bd P G Z){ps:Array Tmp}{as bd:Code}(Ix:nt<250)(O:Es G J=true)(hps:∀d∈ps.toList,d<nt)(h1:codeOk G nt as=true)(h2:codeOk G nt bd=true):
 Eb P G nt b (Code.src (.rangeFunc J ps as bd)) (λk=>k) (exec (.rangeFunc J ps as bd) P Z):=by
 intro σ f a h w f' h' r he Y j hb hl hf;have y:∀n,r≠.bad n:=λn hn=>by subst hn;exact I5 Y
 have m:AbV J ps as bd (exec as) (exec bd) P Z f h=r:=he;have hv:=Cj j.fr j.gl J O;have E:a.tmps.size=nt:=j.fr.size;unfold AbV at m;split at m
 .rename_i g fs cap ds s B;have s:=Aaq s;have B:=Aar B;rw[s]at hv;generalize Rr:a.eval J=xx at hv;cases hv;rename_i p V hy ha L K S;have u:b.ro=none:=by
   rcases hb with⟨q,_⟩|⟨_,c,l2,e,Q,q2,_⟩
   .exact q
   .rw[q2]at B;cases B
  unfold Yu at m;cases I:Bg P g with
  |false=>rw[I]at m;exact absurd m.symm (y _)
  |true=>
   rw[I]at m;have Cs:Mn (f.set Br (.Bj (.map h.nx::ds))) (h.new (.dfr false)).nx (Z.call g (J0 (J0 fs [.fn (.yield (h.new (.dfr false)).nx) [] []]) cap) ((h.new (.dfr false)).new (.loop 0 none f ps.toList as bd)))=r:=m;have Bb0:=AcL (P:=P) (h:=h) (f:=f) hc.mono J ps as bd (exec as) (exec bd);have A4f:h.nx+1<=h'.nx:=by have:=AdQ hc.mono Cs Y;exact Xy (Pc _) this
   have B6:h.nx<Bq:=by omega
   have z:σ h.nx=none:=hf h.nx (Ye _) om;have l:=Ip (e:=⟨w.heap.size,0,none⟩) z;have U:Out G σ h w (Gu σ h.nx ⟨w.heap.size,0,none⟩) (h.new (.dfr false)) (Dd w (.deferred (some []))):=by refine Yf j.ai j.so j.ma B6 z rfl rfl ?_;exact⟨rfl,F1 w _⟩
   have R:Fx (Gu σ h.nx ⟨w.heap.size,0,none⟩) (h.new (.dfr false)) h':=hf.right U;obtain⟨rfl,σ',w',w2,v2,lp,Q,q2,q3,q4,q5,q6⟩:=Adc (fnid:=b.fn) (dfb:=w.heap.size) (An:=p.push (.func (.yield (w.heap.size+1)) #[] #[])++V) (tmps:=a.tmps) hc I U.ms (j.gl.mono l)
    (λt M=>(j.fr.slot t M).mono l) (by rw[E];exact Ix) (by rw[E];exact hps) (by rw[E];exact h1) (by rw[E];exact h2) Cs Y hl R (by
     intro T e s1 s2 s3;have x:e.c=w.heap.size+1:=by rw[s3,size_push]
     rw[Dl,Dl];have l1:Bk T fs p.toList:=Bk.mono (l.trans s1) ⟨ha,L⟩;have l2:Bk T cap V.toList:=Bk.mono (l.trans s1) ⟨K,S⟩;have l3:Bk T [.fn (.yield (h.new (.dfr false)).nx) [] []] [.func (.yield (w.heap.size+1)) #[] #[]]:=by refine .cons ?_ (.nil _);rw[<- x];exact .yld _ e s2
     simpa using(l1.append l3).append l2)
   have X:(Dd w (.deferred (some []))).heap.size=w.heap.size+1:=size_push w _;rw[X]at q3 q5;have C:=U.trans Q hl;refine⟨σ',⟨a.tmps,{ target:=.collected w.heap.size,args:=#[] }::a.defers⟩,w',?_,?_,C,?_⟩
   .refine j.next C ⟨j.fr.size,?_,?_⟩
    .intro t M;rw[L2.Dh Br t _ f fe om,X2 (by intro hh;have h1:t=255:=hh;omega)];exact(j.fr.slot t M).mono C.le
    .rw[L2.Dh Br Br _ f fe fe,Xo rfl];have A:=j.fr.defers;rw[B]at A;refine .cons _ _ _ _ (.mk h.nx ⟨w.heap.size,0,none⟩ (Q.le _ _ (by simp[Gu]))) (A.mono C.le)
   .exact .inl ⟨u,_,by rw[L2.Dh Br Br _ f fe fe,Xo rfl]⟩
   .refine Aev q6 (λk cs Hq=>?_);refine .head (AuG (args:=p.push (.func (.yield (w.heap.size+1)) #[] #[])++V) (w2:=Dd (Dd w (.deferred (some []))) (.loop { state:=.ready,pending:=none,fn:=b.fn,tmps:=a.tmps,params:=ps,assign:=as,body:=bd,defers:=w.heap.size })) u Rr (λw1 W=>?_)) ?_
    .rw[W];exact Ih I _ _
    .refine(q2 _ cs).trans ?_;rw[Xt,q5];exact .one (AeP q3 q4)
 .exact absurd m.symm (y _)
def Q2{c x:Bool}(d:(Bool.rec false x c:Bool)=true):c=true/\x=true:=by
 cases c with
 |false=>cases d
 |true=>exact⟨rfl,d⟩
def Np(Q:Bd P G Z)(P5:P.follows .mixedOrders=true)(T:nt<250)(c:Code):codeOk G nt c=true->Eb P G nt b (Code.src c) (λk=>k) (exec c P Z):=by
 induction c with
 |skip=>exact λ_=>Aih (λa w k cs=>AzI)
 |region id ops dr=>exact λm=>Aiw Q P5 m T
 |seq x y C z=>
  intro m;obtain⟨h1,h2⟩:=Q2 (show(@Bool.rec (λ_=>Bool) false (codeOk G nt y) (codeOk G nt x):Bool)=true from m)
  have Y:=(C h1).under (.code y) (λid S=>by cases S);have:=Eb.andThen (mid:=Code.src y) Y (λf h=>Lt Q.mono y f h) (z h2);exact this.head (λa w k cs=>Aw0)
 |cond c x y C z=>
  intro m;obtain⟨h0,R⟩:=Q2 (show(@Bool.rec (λ_=>Bool) false (@Bool.rec (λ_=>Bool) false (codeOk G nt y) (codeOk G nt x)) (Es G c):Bool)=true from m)
  obtain⟨h1,h2⟩:=Q2 R;exact Am7 h0 (C h1) (z h2)
 |block id c M=>exact λm=>Ajv (M m)
 |loop c M=>
  intro m;have u:=Ans Q.mono (M m) 20;intro σ f a h w f' h' r q p j hb K t;have e:andThen (λ_ _=>.bad 187) (Yd (exec c) P Z 20 f h)=r:=q;cases E:Yd (exec c) P Z 20 f h with
  |bad n=>rw[E]at e;subst e;exact(I5 p).elim
  |Bt f1 h1=>rw[E]at e;subst e;exact(I5 p).elim
  |ext i f1 h1=>rw[E]at e;obtain⟨L,a',w',I,O,J,B⟩:=u σ f a h w f' h' r (by rw[E];exact e) p j hb K t;refine⟨L,a',w',I,O,J,?_⟩;subst e;exact λk cs s=>by obtain⟨A,p1,p2⟩:=B k cs s;exact⟨A,p1,.head ArY p2⟩
  |ret f1 h1=>rw[E]at e;obtain⟨L,a',w',I,O,J,B⟩:=u σ f a h w f' h' r (by rw[E];exact e) p j hb K t;refine⟨L,a',w',I,O,J,?_⟩;subst e;exact λk cs s=>by obtain⟨A,p2⟩:=B k cs s;exact⟨A,.head ArY p2⟩
 |rangeFunc x ps as bd Rs X=>
  intro m;obtain⟨h0,R⟩:=Q2 (show(@Bool.rec (λ_=>Bool) false (@Bool.rec (λ_=>Bool) false (@Bool.rec (λ_=>Bool) false (codeOk G nt bd) (codeOk G nt as)) (ps.toList.all (λd=>Nat.blt d nt))) (Es G x):Bool)=true from m)
  obtain⟨h1,h2⟩:=Q2 R;obtain⟨W,U⟩:=Q2 h2;exact Aky Q T h0 (λd hd=>Ec (Od.1 h1 d hd)) W U
 |exit id=>intro m σ f a h w f' h' r q p j hb u t;have e:RC.ext id f h=r:=q;subst e;obtain⟨rfl,rfl⟩:=Ul p;exact⟨σ,a,w,j,hb,Out.refl j.ai j.so j.ma,λk cs _=>⟨k,rfl,.refl P _⟩⟩
 |scope c M=>
  intro m σ f a h w f' h' r q p j hb u t;obtain⟨L,a',w',I,O,J,B⟩:=(M m).under (.inScope c) (λid S=>by cases S) σ f a h w f' h' r q p j hb u t;refine⟨L,a',w',I,O,J,?_⟩;cases r with
  |bad n=>trivial
  |Bt f1 h1=>exact λk cs s=>.head AbB ((B k cs s).trans (.one AeQ))
  |ext i f1 h1=>exact λk cs s=>by obtain⟨A,p1,p2⟩:=B k cs s;exact⟨A,p1,.head AbB p2⟩
  |ret f1 h1=>exact λk cs s=>by obtain⟨A,p2⟩:=B k cs s;exact⟨A,.head AbB p2⟩
 |label l=>exact λ_=>Aih (λa w k cs=>AuE)
 |goto l=>intro _ σ f a h w f' h' r q p j hb u t;have e:RC.bad 193=r:=q;subst e;exact(I5 p).elim
 |ret=>intro _ σ f a h w f' h' r q p j hb u t;have e:RC.ret f h=r:=q;subst e;obtain⟨rfl,rfl⟩:=Abx p;exact⟨σ,a,w,j,hb,Out.refl j.ai j.so j.ma,λk cs _=>⟨k,.refl P _⟩⟩
 |refuse V=>intro _ σ f a h w f' h' r q p j hb u t;have e:RC.bad 194=r:=q;subst e;exact(I5 p).elim
def Pg:∀l n f,n+l.length<=250->∀t,t<256->(Eu l n f).get t=if n<=t/\t<n+l.length then l[t-n]?.getD .top else f.get t:=by intro l;induction l with
|nil=>intro n f _ t _;rw[X2 (by simp)];rfl
|cons x l d=>intro n f hn t c;simp at hn;show(Eu l ..).get t=_;rw[d _ _ om t c,L2.Dh n t x f om c];grind
def Zr{args:uz}{An:Array Value}(d:Bk σ args An.toList)(e:args.length<=nt)(j:nt<250):Pt σ nt (Eu args 0 Az) ⟨An++Array.replicate (nt-An.size) undef,[]⟩:=by
 have k:An.size=args.length:=by have:=d.1;simp_all
 refine⟨by grind,?_,?_⟩
 .intro t l;rw[Pg args 0 Az om t om];by_cases h1:t<args.length
  .rw[Xo om,ew,Yq h1,C8];have h2:(An++Array.replicate (nt-An.size) undef).getD t undef=An[t]' om:=by rw[Ak,bt om,U0 om,C8]
   rw[h2];exact d.2 t _ _ (Yq h1) (by simp_all)
  .rw[X2 om];have h2:(An++Array.replicate (nt-An.size) undef).getD t undef=undef:=by rw[Ak,Array.getElem?_append_right om];grind
   rw[h2];unfold Az;rw[L2.Dh _ t _ _ fe om,X2 (by intro c;have h1:t=255:=c;omega),L2.Xw];exact L6 _
 .rw[Pg _ 0 _ om _ fe,X2 (by intro c;have h1:255<0+args.length:=c.2;omega)];exact .nil
def A7Z{rs:List ResultVar}(c:Aby P Z rs j=.ok v h'):∃f1 h1,(j=.Bt f1 h1\/j=.ret f1 h1)/\finish P Z rs f1 h1=.ok v h':=by
 cases j with
 |bad n=>cases c
 |Bt f1 h1=>exact⟨f1,h1,.inl rfl,c⟩
 |ext i f1 h1=>cases c
 |ret f1 h1=>exact⟨f1,h1,.inr rfl,c⟩
def V7(I:Bd P G Z)(tmps:Array Value):∀(ds:uz) (σ:Dx) (h h':H) (w:World) (A:List Deferred),D3 P Z ds h=.ok h'->Afd σ (.Bj ds) A->Ms G σ h w->Vm G σ->h'.nx<=Bq->Fx σ h h' ->
 ∃σ' w',Out G σ h w σ' h' w'/\∀(b:FB) k cs,Steps P (lone (b.back ⟨tmps,A⟩ k) cs w) (lone (b.back ⟨tmps,[]⟩ k) cs w'):=by
 intro ds;induction ds with
 |nil=>intro σ h h' w A x hd p B t C;cases x;cases hd;exact⟨σ,w,Out.refl p.ai p.so p.ma,λb k cs=>.refl P _⟩
 |cons d ds X=>
  intro σ h h' w A x hd p B t C;cases hd;rename_i d' s M u;unfold D3 at x;cases M with
  |fn g as cs K D7 ha L=>
   have j:(Bool.rec (.bad 195) (match Z.call g (J0 as cs) h with|.ok _ h'=>D3 P Z ds h'|.bad n=>.bad n) (Bg P g):RH)=.ok h':=x;cases E:Bg P g with
   |false=>rw[E]at j;cases j
   |true=>
    rw[E]at j;cases J:Z.call g (J0 as cs) h with
    |bad n=>rw[J]at j;cases j
    |ok v1 h1=>rw[J]at j;have W:D3 P Z ds h1=.ok h':=j;have z:h1.nx<=h'.nx:=H2 I.mono ds h1 h' W;have Be8:h.nx<=h1.nx:=I.mono.call _ _ _ _ _ J;obtain⟨σ1,v',w1,a1,fn,p1,p2,p3,p4,p5,p6⟩:=I.call g (J0 as cs) h h1 v1 σ w (K++D7) .deferred J E (by rw[Dl];simpa using ha.append L) p B om (C.left z);obtain⟨R,w2,O,S⟩:=X σ1 h1 h' w1 s W (u.mono p3.le) p3.ms (B.mono p3.le) t (C.right p3);refine⟨R,w2,p3.trans O t,λb k l=>?_⟩;refine .head (AuD rfl (Ih E _ _)) ?_;obtain⟨k',p7⟩:=p6 (b.back ⟨tmps,s⟩ k::l) (.inr ⟨rfl,_,_,rfl,rfl⟩);exact p7.trans (.head (AuC p4 rfl rfl p1 p5) (S b k l))
  |mk r e V=>
   have j:(match h.m.get r with|.dfr false=>D3 P Z ds (h.put r (.dfr true))|_=>.bad 194)=RH.ok h':=x;split at j
   .rename_i Y;have U:=p.ma r e V;rw[Y]at U;obtain⟨T,hh⟩:=U;have y:w.heap[e.c]?=some (.deferred (some [])):=hh;have Q:Out G σ h w σ (h.put r (.dfr true)) (Cc w e.c (.deferred none)):=by refine Hh p.ai p.so p.ma V Y (by intro q;cases q) (by intro n q;cases q) rfl rfl T (by intro n q;cases q) ?_;refine⟨T,?_⟩;rw[Da,Xo ⟨rfl,Dj y⟩];rfl
    have z:(h.put r (.dfr true)).nx<=h'.nx:=H2 I.mono ds _ h' j;obtain⟨R,w2,O,S⟩:=X σ (h.put r (.dfr true)) h' _ s j u Q.ms B t (C.right Q);exact⟨R,w2,Q.trans O t,λb k l=>.head (AuI rfl y) (S b k l)⟩
   .cases j
def Aak(tmps:Array Value)(r:ResultVar):Sem Value:=match r with|.tmp t=>pure (tmps.getD t undef)|.cell x t=>do loadVar t (<- asAddr (tmps.getD x undef))
def Ak0 fn tmps:results fn tmps=(do let c <- fn.results.mapM (Aak tmps);pure (if h:c.size=1 then c[0]else .tuple c)):=rfl
def Agd(m:∀t,t<250->Au σ (f.get t) (a.tmps.getD t undef))(O:Ms G σ h w):∀(rs:List ResultVar) (l:uz),(∀r∈rs,Amd r=true)->Oe P f h rs=some l ->
 ∃k:List Value,Bk σ l k/\(rs.mapM (Aak a.tmps)).run P w=.ok k w:=by intro rs;induction rs with
 |nil=>intro l _ j;cases j;exact⟨[],.nil σ,by simp⟩
 |cons r rs B=>intro l n j;cases r with
  |tmp t=>
   unfold Oe at j;split at j;. rename_i l1 z;cases j;obtain⟨k,p,C⟩:=B l1 (λr s=>n r (by grind)) z;have E:t<250:=Ec (show Nat.blt t 250=true from n (.tmp t) (by simp));refine⟨_::k,.cons (m t E) p,?_⟩;simp[Fq,Aak,C]
   grind
  |cell x t=>
   unfold Oe at j;split at j
   .rename_i v1 l1 d z;cases j;obtain⟨k,p,C⟩:=B l1 (λr s=>n r (by simp[*])) z;have M:x<250:=Ec (show Nat.blt x 250=true from n (.cell x t) (by simp));have u:=m x M;unfold AyY at d;split at d
    .rename_i y off q;have q:=P2 q;rw[q]at u;generalize I:a.tmps.getD x undef=xx at u;cases u;rename_i e A;split at d
     .rename_i c L;obtain⟨arr,S,fz,h1,h2,R,J⟩:=No L (O.ma y e A);obtain⟨v',s,Q⟩:=AhN (P:=P) (e:=e) d h1 om J;refine⟨v'::k,.cons Q p,?_⟩;have K:(Aak a.tmps (.cell x t)).run P w=.ok v' w:=by simp only[Aak,I];simpa[asAddr]using s
      simp_all
     grind
    grind
   simp_all
def AkA{l:uz}{d:List Value}(e:Bk σ l d):Au σ (single l) (if h:d.toArray.size=1 then d.toArray[0]else .tuple d.toArray):=by
 unfold single;split;. rename_i x;obtain⟨y,l2,rfl,m,c⟩:=e.F8;have:=c.Rt;grind
 .rename_i j;have c:=e.1;rw[dif_neg];. exact .Bj l _ om λi x y k hy=>e.2 i x y k om
  .intro h1;match l,c,j with
   |[x],_,j=>simp_all
   |[],c,_=>simp_all
   |x::y::l,c,_=>grind
def Tq{fn}{l}(c:∀t,t<250->Au σ (f.get t) (a.tmps.getD t undef))(d:Ms G σ h w)(e:∀r∈fn.results.toList,Amd r=true)(j:Oe P f h fn.results.toList=some l):
 ∃v',(results fn a.tmps).run P w=.ok v' w/\Au σ (single l) v':=by obtain⟨m,k,n⟩:=Agd c d _ l e j;refine⟨_,?_,AkA k⟩;rw[Ak0,Sem.run_bind,ed];simp[*]
def Aag{g:FuncId}{fn}{c}(d:Mv P=true)(l:P.funcs[g]?=some fn)(hb:fn.body=some c):fn.ntmps<250/\(∀r∈fn.results.toList,Amd r=true)/\codeOk P.globals.size fn.ntmps c=true:=by
 have k:fn∈P.funcs.toList:=by grind
 have:=Od.1 d _ k;unfold A3c at this;rw[hb]at this;obtain⟨h1,h2⟩:=Q2 this;obtain⟨j,e⟩:=Q2 h2;exact⟨Ec h1,Od.1 j,e⟩
def AuR{g:Nat}{r:OR}(c:Agk g r=.ok v h'):r=.ok v h':=by
 cases r with
 |bad n=>cases c
 |ok v1 h1=>exact c
def Acm{args}(d:args.length<=nt)(e:nt<250):(Eu args 0 Az).get Br=.Bj []:=by rw[Pg _ 0 _ om _ fe,X2 (by intro c;have h1:255<0+args.length:=c.2;omega)];rfl
def AgX(R:Bd P P.globals.size Z)(P5:P.follows .mixedOrders=true)(hp:Mv P=true):Aed P P.globals.size ⟨Fy P Z,Io P Z⟩:=by
 intro g args h h' v σ w An kind he Ke Ow K hg W V;obtain⟨fn,c,j,u,_⟩:=O3 Ke;obtain⟨E,A,M⟩:=Aag hp j u;have B:Fy P Z g args h=.ok v h':=he;unfold Fy at B;have S:Ln P g=some ⟨c,fn.ntmps,fn.results.toList⟩:=by unfold Ln;rw[j];dsimp only;rw[u]
 rw[S]at B;have Y:AbW P Z g args h ⟨c,fn.ntmps,fn.results.toList⟩=.ok v h':=B;unfold AbW at Y;rcases Bl Y with⟨L,C⟩|⟨_,C⟩
 .have z:=AuR C;have p:args.length<=fn.ntmps:=by have:=G2 L;rwa[Gh]at this
  have I:=Zr (nt:=fn.ntmps) Ow p E;obtain⟨f1,h1,d,k⟩:=A7Z z;have Cg:Fin (exec c P Z (Eu args 0 Az) h) f1 h1:=by
   rcases d with d|d
   .exact .inl d
   .exact .inr (.inr d)
  have O:=Acm p E;unfold finish at k;split at k
  .rename_i ds J;have J:=Aar J;cases s:D3 P Z ds h1 with
   |bad n=>rw[s]at k;cases k
   |ok h2=>
    rw[s]at k;have e:Gg P fn.results.toList f1 h2=.ok v h':=k;unfold Gg at e;split at e
    .rename_i l x;obtain⟨rfl,rfl⟩:=B4 e;have Q:h1.nx<=h2.nx:=H2 R.mono ds h1 h2 s;obtain⟨σ1,a1,w1,m,q2,U,r⟩:=Np (b:=⟨g,kind,none⟩) R P5 E c M σ (Eu args 0 Az) ⟨An++Array.replicate (fn.ntmps-An.size) undef,[]⟩ h w f1 h1 _ rfl Cg
      ⟨I,hg,K.ai,K.so,K.ma⟩ (.inl ⟨rfl,[],O⟩) om (V.left Q)
     have q:=m.fr.defers;rw[J]at q;have Wi:Frame.enter P g An kind=FB.at ⟨g,kind,none⟩ ⟨An++Array.replicate (fn.ntmps-An.size) undef,[]⟩ [.code c]:=by simp[Frame.enter,FB.at,j,u]
     obtain⟨σ2,w2,y,X⟩:=V7 R a1.tmps ds σ1 h1 h2 w1 a1.defers s q ⟨m.ai,m.so,m.ma⟩ m.gl W (V.right U);obtain⟨v',r3,r4⟩:=Tq (a:=⟨a1.tmps,[]⟩) (λt ht=>(m.fr.slot t ht).mono y.le) y.ms A x;refine⟨σ2,v',w2,⟨a1.tmps,[]⟩,fn,j,r4,U.trans y W,rfl,r3,λcs T=>?_⟩;rw[Wi];rcases d with d|d
     .rw[d]at r;exact⟨_,(r [] cs T).trans (.head (Awy rfl) (X _ _ cs))⟩
     .rw[d]at r;obtain⟨k',q5⟩:=r [] cs T;exact⟨_,q5.trans (.head (Awz rfl) (X _ _ cs))⟩
    .cases e
  .cases k
 .cases C
def AdZ:∀(ps:uw) (args:uz) (e:List Value) (f f':L2) (tmps:Array Value),Uz ps args f=some f'->Bk σ args e->(∀d∈ps,d<tmps.size)->tmps.size<250->(∀t,t<250->Au σ (f.get t) (tmps.getD t undef)) ->
 e.length=ps.length/\((ps.zip e).foldl (λtmps (p:Nat × Value)=>tmps.setIfInBounds p.1 p.2) tmps).size=tmps.size /\
  (∀t,t<250->Au σ (f'.get t) (((ps.zip e).foldl (λtmps (p:Nat × Value)=>tmps.setIfInBounds p.1 p.2) tmps).getD t undef))/\f'.get Br=f.get Br:=by
 intro ps;induction ps with
 |nil=>
  intro args e f f' tmps j k hd r m;cases args with
  |nil=>cases j;have:=k.Rt;subst this;exact⟨rfl,rfl,m,rfl⟩
  |cons x l=>cases j
 |cons t ps K=>
  intro args e f f' tmps j k hd r m;cases args with
  |nil=>cases j
  |cons x l=>
   obtain⟨y,n,rfl,L,E⟩:=k.F8;have z:Uz ps l (f.set t x)=some f':=j;have s:t<tmps.size:=hd t (by simp);obtain⟨A,M,B,C⟩:=K l n (f.set t x) f' (tmps.setIfInBounds t y) z E (λd q=>by simp;exact hd d (by simp[q])) (by simpa using r) (by
    intro u J;rw[L2.Dh t u x f om om];by_cases c:u=t
    .subst c;rw[Xo rfl];have:(tmps.setIfInBounds u y).getD u undef=y:=by simp[Array.getD,s]
     rw[this];exact L
    .rw[X2 c];have:(tmps.setIfInBounds t y).getD u undef=tmps.getD u undef:=by simp only[Ak];rw[aj (Ne.symm c)]
     rw[this];exact m u J)
   refine⟨by simp[A],?_,?_,?_⟩
   .simp only[K7,du];rw[M];simp
   .simpa only[K7,du]using B
   .rw[C,L2.Dh t Br x f om fe,X2 (by intro I;have h1:(255:Nat)=t:=I;omega)]
def Agf(hc:Bd P P.globals.size Z)(P5:P.follows .mixedOrders=true):AbL P P.globals.size ⟨Fy P Z,Io P Z⟩:=by
 intro l args h h' v σ w An e he Z3 Ow hm hg hl hf;have C:Io P Z l args h=.ok v h':=he;unfold Io at C;split at C
 .rename_i st Lw fr ps as m Lr;split at C
  .rename_i f0 A8S;have Ha:=hm.ma l e Z3;rw[Lr]at Ha;obtain⟨hk,j,b1,b2,b3,b4,b5,b6,b7,b8,b9,Wz,b11⟩:=Ha;have A8z:∀t,t<250->Au σ ((fr.set Br (.map l)).get t) (j.tmps.getD t undef):=by intro t ht;rw[L2.Dh Br t _ fr fe om,X2 (by intro hh;have h1:t=255:=hh;omega)];exact b4 t ht
   obtain⟨s1,s2,s3,s4⟩:=AdZ ps args An.toList _ f0 j.tmps A8S Ow b11 b8 A8z;have hds:f0.get Br=.map l:=by rw[s4,L2.Dh Br Br _ fr fe fe,Xo rfl]
   generalize htm:((ps.zip An.toList).foldl (λtmps (p:Nat × Value)=>tmps.setIfInBounds p.1 p.2) j.tmps)=tm at s2 s3;have AyS:(Instr.yield e.c An).run P w=.ok (.round e.c j.fn tm j.assign j.body) w:=by
    have Fc:An.size=j.params.size:=by
     have h2:j.params.toList.length=ps.length:=by rw[b5]
     simp at h2 s1;omega
    have A3H:(j.params.zip An).foldl (λtmps (p:Tmp × Value)=>tmps.setIfInBounds p.1 p.2) j.tmps=tm:=by rw[<- htm,<- b5,<- Array.foldl_toList,Array.toList_zip]
    simp[Instr.yield,Instr.getLoop,getObj,Sem.run,b1,Fc];rw[<- A3H];congr 1;simp[Fc]
   have T:St P.globals.size σ j.tmps.size f0 ⟨tm,[]⟩ h w:=⟨⟨s2,s3,by rw[hds];exact .round l e Z3⟩,hg,hm.ai,hm.so,hm.ma⟩;have Sz:RBk ⟨j.fn,.normal,some e.c⟩ σ f0:=.inr ⟨rfl,e.c,l,e,rfl,hds,Z3,rfl⟩;have AyN:Frame.round e.c j.fn tm j.assign j.body .normal=FB.at ⟨j.fn,.normal,some e.c⟩ ⟨tm,[]⟩ [.code as,.beginRound,.code m]:=by rw[b6,b7];rfl
   have Qz:∀(x:Dx) (h1:H) (w1:World) (a1:Act) (d:Option Code),endRound l d h1=.ok v h'->Out P.globals.size σ h w x h1 w1 ->
    (∀c cs,∃k,(k=[]/\d=none\/(∃E,k=.code .ret::E/\d=some .ret)\/∃id E,k=.code (.exit id)::E/\exitTo id E=none/\d=some (.exit id)) /\
     Steps P (lone (FB.at ⟨j.fn,.normal,some e.c⟩ ⟨tm,[]⟩ [.code as,.beginRound,.code m]) (c::cs) w) (lone (FB.at ⟨j.fn,.normal,some e.c⟩ a1 k) (c::cs) w1)) ->
    ∃σ' v' w' g tmps as bd,Au σ' v v'/\Out P.globals.size σ h w σ' h' w'/\(Instr.yield e.c An).run P w=.ok (.round e.c g tmps as bd) w /\
     ∀c cs,Steps P (lone (Frame.round e.c g tmps as bd .normal) (c::cs) w) (lone (c.finish v') cs w'):=by
    intro x h1 w1 a1 d s ho Vt;unfold endRound at s;split at s
    .rename_i st2 Bcd fr2 ps2 as2 bd2 AvX;obtain⟨n,hh',hn,hvv⟩:∃n,h'=h1.put l (.loop n d fr2 ps2 as2 bd2)/\Akf n=(if d.isNone then .ready else .done)/\v=.bool d.isNone:=by obtain⟨h2,h3⟩:=B4 s;exact⟨_,h3.symm,by cases d<;>rfl,h2.symm⟩
     have I:=ho.le _ _ Z3;have J:=ho.ms.ma l e I;rw[AvX]at J;obtain⟨L,A,c1,c2,c3,c4,c5,c6,c7,c8,c9,S,X⟩:=J;have S6:Out P.globals.size x h1 w1 x h' (Cc w1 e.c (.loop { A with state:=if d.isNone then .ready else .done,pending:=d })):=by rw[hh'];refine Hh ho.ms.ai ho.ms.so ho.ms.ma I AvX (by intro q;cases q) (by intro n q;cases q) rfl rfl L (by intro n q;cases q) ?_;exact⟨L,{ A with state:=if d.isNone then .ready else .done,pending:=d },by rw[Da,Xo ⟨rfl,Dj c1⟩],hn.symm,rfl,c4,c5,c6,c7,c8,c9,S,X⟩
     refine⟨x,.bool d.isNone,_,j.fn,tm,j.assign,j.body,by rw[hvv];exact .bool _,ho.trans S6 hl,AyS,λc cs=>?_⟩;rw[AyN];obtain⟨k,p1,p2⟩:=Vt c cs;exact p2.trans (.one (Ak3 rfl rfl c1 p1))
    .cases s
   have K:∀(h1:H) (d:Option Code),endRound l d h1=.ok v h'->h1.nx<=h'.nx:=by
    intro h1 d s;unfold endRound at s;split at s
    .obtain⟨_,rfl⟩:=B4 s;exact Ye _
    .cases s
   have X1:∀cs,Calm ⟨j.fn,.normal,some e.c⟩ cs:=λcs=>.inl rfl;have V:=Np (b:=⟨j.fn,.normal,some e.c⟩) hc P5 b8 as b9;have R:=Np (b:=⟨j.fn,.normal,some e.c⟩) hc P5 b8 m Wz;cases hA:exec as P Z f0 h with
   |bad n=>rw[hA]at C;cases C
   |ext id f1 h1=>rw[hA]at C;have u:endRound l (some (.exit id)) h1=.ok v h':=C;have r:=K h1 _ u;obtain⟨x,a1,w1,q1,q2,M,q4⟩:=V σ f0 ⟨tm,[]⟩ h w f1 h1 _ hA (.inr (.inl ⟨id,rfl⟩)) T Sz om (hf.left r);refine Qz x h1 w1 a1 _ u M (λc cs=>?_);obtain⟨E,p1,p2⟩:=q4 [.beginRound,.code m] (c::cs) (X1 _);exact⟨_,.inr (.inr ⟨id,E,rfl,by rw[p1];rfl,rfl⟩),p2⟩
   |ret f1 h1=>rw[hA]at C;have u:endRound l (some .ret) h1=.ok v h':=C;have r:=K h1 _ u;obtain⟨x,a1,w1,q1,q2,M,q4⟩:=V σ f0 ⟨tm,[]⟩ h w f1 h1 _ hA (.inr (.inr rfl)) T Sz om (hf.left r);refine Qz x h1 w1 a1 _ u M (λc cs=>?_);obtain⟨E,p2⟩:=q4 [.beginRound,.code m] (c::cs) (X1 _);exact⟨_,.inr (.inl ⟨E,rfl,rfl⟩),p2⟩
   |Bt f1 h1=>
    rw[hA]at C;have u:Agg l (Age P Z l m f1 h1)=.ok v h':=C;unfold Age at u;split at u
    .rename_i B fr1 y z bd1 AvW;have Anc:h1.nx<=h'.nx:=by have:=AaN (h:=h1.put l (.loop 1 B fr1 y z bd1)) l (Lt (P:=P) hc.mono m f1 (h1.put l (.loop 1 B fr1 y z bd1)));exact this v h' u
     obtain⟨x,a1,w1,q1,q2,M,q4⟩:=V σ f0 ⟨tm,[]⟩ h w f1 h1 _ hA (.inl rfl) T Sz om (hf.left Anc);have I:=M.le _ _ Z3;have J:=M.ms.ma l e I;rw[AvW]at J;obtain⟨L,A,c1,c2,c3,c4,c5,c6,c7,c8,c9,S,X⟩:=J;have S6:Out P.globals.size x h1 w1 x (h1.put l (.loop 1 B fr1 y z bd1)) (Cc w1 e.c (.loop { A with state:=.busy })):=by refine Hh M.ms.ai M.ms.so M.ms.ma I AvW (by intro q;cases q) (by intro n q;cases q) rfl rfl L (by intro n q;cases q) ?_;exact⟨L,{ A with state:=.busy },by rw[Da,Xo ⟨rfl,Dj c1⟩],rfl,c3,c4,c5,c6,c7,c8,c9,S,X⟩
     have O:=M.trans S6 (show(h1.put l (.loop 1 B fr1 y z bd1)).nx<=Bq from Xy Anc hl)
     have Y:St P.globals.size x j.tmps.size f1 a1 (h1.put l (.loop 1 B fr1 y z bd1)) (Cc w1 e.c (.loop { A with state:=.busy })):=q1.next S6 q1.fr;have Ayx:∀c cs,Steps P (lone (FB.at ⟨j.fn,.normal,some e.c⟩ ⟨tm,[]⟩ [.code as,.beginRound,.code m]) (c::cs) w) (lone (FB.at ⟨j.fn,.normal,some e.c⟩ a1 [.code m]) (c::cs) (Cc w1 e.c (.loop { A with state:=.busy }))):=
      λc cs=>(q4 [.beginRound,.code m] (c::cs) (X1 _)).trans (.one (Agi rfl c1 c2))
     have W:Fx x (h1.put l (.loop 1 B fr1 y z bd1)) h':=hf.right O;cases U:exec m P Z f1 (h1.put l (.loop 1 B fr1 y z bd1))with
     |bad n=>rw[U]at u;cases u
     |Bt f2 h2=>rw[U]at u;have Q:endRound l none h2=.ok v h':=u;have r:=K h2 _ Q;obtain⟨σ2,a2,w2,r1,r2,r3,r4⟩:=R x f1 a1 _ _ f2 h2 _ U (.inl rfl) Y q2 om (W.left r);refine Qz σ2 h2 w2 a2 _ Q (O.trans r3 om) (λc cs=>?_);exact⟨_,.inl ⟨rfl,rfl⟩,(Ayx c cs).trans (r4 [] (c::cs) (X1 _))⟩
     |ext id f2 h2=>rw[U]at u;have Q:endRound l (some (.exit id)) h2=.ok v h':=u;have r:=K h2 _ Q;obtain⟨σ2,a2,w2,r1,r2,r3,r4⟩:=R x f1 a1 _ _ f2 h2 _ U (.inr (.inl ⟨id,rfl⟩)) Y q2 om (W.left r);refine Qz σ2 h2 w2 a2 _ Q (O.trans r3 om) (λc cs=>?_);obtain⟨E,p1,p2⟩:=r4 [] (c::cs) (X1 _);exact⟨_,.inr (.inr ⟨id,E,rfl,by rw[p1];rfl,rfl⟩),(Ayx c cs).trans p2⟩
     |ret f2 h2=>rw[U]at u;have Q:endRound l (some .ret) h2=.ok v h':=u;have r:=K h2 _ Q;obtain⟨σ2,a2,w2,r1,r2,r3,r4⟩:=R x f1 a1 _ _ f2 h2 _ U (.inr (.inr rfl)) Y q2 om (W.left r);refine Qz σ2 h2 w2 a2 _ Q (O.trans r3 om) (λc cs=>?_);obtain⟨E,p2⟩:=r4 [] (c::cs) (X1 _);exact⟨_,.inr (.inl ⟨E,rfl,rfl⟩),(Ayx c cs).trans p2⟩
    .cases u
  .cases C
 .cases C
def ApK(d:Bd P P.globals.size Z)(c:P.follows .mixedOrders=true)(e:Mv P=true)(j:Dw ⟨Fy P Z,Io P Z⟩):Bd P P.globals.size ⟨Fy P Z,Io P Z⟩:=
 ⟨AgX d c e,Agf d c,j⟩
def AfW:Bd P G Q7:=
 ⟨λg args h h' v σ w An kind c=>(by cases c),λl args h h' v σ w An e c=>(by cases c),AeJ P 0⟩
def Acd(e:P.follows .mixedOrders=true)(j:Mv P=true)(d:Nat):Bd P P.globals.size (A2N P d):=by
 induction d with
 |zero=>exact AfW
 |succ d c=>exact ApK c e j (AeJ P (d+1))
end Go.Ev
