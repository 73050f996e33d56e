/- The evaluator is right. -/
import Derived.Test.YtmjmhajonaelcaaGreatDoorEvD
set_option linter.all false
noncomputable section
namespace Go.Ev
variable {p:Operand}{C:uw}
variable [Ii]
def Ru:List Oper->uq->uq
|[],acc=>acc
|o::os,acc=>Ru os (acc++[Ez acc o.after.toList])
def Uf:∀l c,(Ru l c).take c.length=c/\(Ru l c).length=c.length+l.length:=by intro l;induction l with
|nil=>intro c;exact⟨by simp[Ru],rfl⟩
|cons o l d=>
 intro c;obtain⟨h1,e⟩:=d (c++[Ez c o.after.toList]);refine⟨?_,?_⟩;. show(Ru l _).take _=c;have:=Jh (List.take c.length) h1;grind
 .show(Ru l _).length=_;grind
def AeH{l}{i j}(c:i<j):Vf (l.take j) i=Vf l i:=by unfold Vf;grind
def AbO:∀l c k o,l[k]?=some o->Vf (Ru l c) (c.length+k)=Ez ((Ru l c).take (c.length+k)) o.after.toList:=by intro l;induction l with
|nil=>simp
|cons o l m=>intro c k x d;cases k with
 |zero=>simp at d;subst d;have h1:=(Uf l (c++[Ez c o.after.toList])).1;show Vf (Ru l _) _=Ez ((Ru l _).take _) _;have n:=(Uf (o::l) c).1;have p:(Ru l _).take _=c:=n;rw[Vw,p];have:=AeH (l:=Ru l (c++[Ez c o.after.toList])) (i:=c.length) (j:=(c++[Ez c o.after.toList]).length) (by simp);rw[<- this,h1];simp[Vf]
 |succ k=>
  have:=m (c++[Ez c o.after.toList]) k x (by grind);have e:(c++[Ez c o.after.toList]).length+k=c.length+k+1:=by grind
  rw[e]at this;exact this
def PR(ops:Array Oper):uq:=Ru ops.toList []
def Bef(ops:Array Oper)(j i:Nat):Prop:=(Vf (PR ops) i).testBit j=true
def AnN{d}{j}:∀c,(Ez d c).testBit j=true->∃e∈c,Region.binds .any e=true/\(e.on=j\/(Vf d e.on).testBit j=true):=by intro c;induction c with
|nil=>intro h;simp[Ez]at h
|cons e c l=>intro h;unfold Ez at h;cases k:Region.binds .any e with
 |false=>simp_all
 |true=>
  rw[k]at h;have h':(Ka _ ||| Vf .. ||| Ez ..).testBit j=true:=h;rw[cf,cf,ba,ba]at h';rcases h' with(h'|h')|h';. have:(2^e.on).testBit j=true:=h';grind
  .grind
  simp_all
def Bef.A2R{ops}(n:P6 ops){i j}{o}(m:ops[i]?=some o)(h:Bef ops j i):∃e∈o.after.toList,Region.binds .any e=true/\e.on<i/\(e.on=j\/Bef ops j e.on):=by
 have h1:=AbO ops.toList [] i o (by grind);simp[Gx,Rx]at h1;unfold Bef PR at h;rw[h1]at h;obtain⟨e,d,l,c⟩:=AnN _ h;have k:=n i o m e d l;refine⟨e,d,l,k,?_⟩;rcases c with c|c;. omega
 .rw[AeH k]at c;exact .inr c
def Bef.lt{ops}(c:P6 ops):∀{i j},i<ops.size->Bef ops j i->j<i:=by intro i;induction i using Nat.strongRecOn with
|_ i k=>intro j hi h;obtain⟨e,l,n,m,d⟩:=h.A2R c (S2 hi);grind
def V0(ops:Array Oper)(D:Nat->Bool):Prop:=∀(x:Nat) (o:Oper),ops[x]?=some o->D x=true->∀e∈o.after.toList,Region.binds .any e=true->D e.on=true
def Bef.done{ops}(n:P6 ops){D}(r:V0 ops D):∀{i} {o},ops[i]?=some o->(∀e∈o.after.toList,Region.binds .any e=true->D e.on=true)->∀j,Bef ops j i->D j=true:=by intro i;induction i using Nat.strongRecOn with
|_ i k=>
 intro o d l j h;obtain⟨e,m,q,p,c⟩:=h.A2R n d;rcases c with rfl|c;. grind
 .have hi:e.on<ops.size:=by grind
  exact k _ p (S2 hi) (r _ _ (S2 _) (l e m q)) j c
def ApN:∀l c k d,(M7 l c.length c)[k]?=some d->l[k]?=some d.o/\d.bit=Ka (c.length+k)/\d.pr=Vf (Ru l c) (c.length+k):=by intro l;induction l with
|nil=>intro c k d j;simp[M7]at j
|cons o l p=>intro c k d j;cases k with
 |zero=>simp[M7,dc,ef]at j;subst j;refine⟨rfl,rfl,?_⟩;have:=AbO (o::l) c 0 o rfl;rw[this,Vw,(Uf ..).1]
 |succ k=>
  simp only[M7,ay]at j;have e:Nat.succ c.length=(c++[Ez c o.after.toList]).length:=by simp
  rw[e]at j;obtain⟨h1,m,n⟩:=p _ k d j;have q:(c++[Ez c o.after.toList]).length+k=c.length+k+1:=by omega
  rw[q]at m n;exact⟨by grind,m,n⟩
def ApO:∀l i c,(M7 l i c).length=l.length:=by intro l;induction l with
|nil=>intro i c;rfl
|cons o l d=>simp[M7,d]
def Avb(pr:Nat)(o:Oper)(ops:Array Oper)(c:OB):Prop:=
 Nat.land pr c.bit≠0\/(Nat.land c.dst (Nat.lor (I4 o) (Iz ops o))=0/\Nat.land (I4 o) c.rd=0)
def Ajr{pr dst rd}{df}:∀c,Zk pr dst rd df c=true->∀d∈c,Nat.land pr d.bit≠0\/Nat.land d.dst (Nat.lor dst rd)=0/\Nat.land dst d.rd=0:=by intro c;induction c with
|nil=>simp
|cons x c k=>intro h d j;unfold Zk at h;cases hc:(Bool.rec true (Bool.rec false (Ib (Bool.rec df true x.df)) (M4 (Nat.lor (Nat.land x.dst (Nat.lor dst rd)) (Nat.land dst x.rd)))) (M4 (Nat.land pr x.bit)):Bool)with
 |false=>simp_all
 |true=>rw[hc]at h;cases j with
  |head=>cases l:M4 _ with
   |false=>exact .inl (Ho l)
   |true=>cases e:M4 (Nat.lor (Nat.land x.dst (Nat.lor dst rd)) (Nat.land dst x.rd))with
    |false=>simp_all
    |true=>have m:=Ch e;simp_all
  |tail _ hm=>exact k h _ hm
def Aai{ops:Array Oper}:∀(l:List Oper) (c:uq) (d:List OB),Aiv ops l c.length c d=true->∀(k:Nat) (o:Oper),l[k]?=some o ->
 (∀e∈o.after.toList,Region.binds .any e=true->e.on<c.length+k)/\(∀n∈d,Avb (Vf (Ru l c) (c.length+k)) o ops n) /\
  ∀k' m,k'<k->l[k']?=some m->Avb (Vf (Ru l c) (c.length+k)) o ops ⟨Ka (c.length+k'),I4 m,Iz ops m,AhJ m.op⟩:=by intro l;induction l with
 |nil=>simp_all
 |cons x l I=>intro c d h k o q;unfold Aiv at h;cases hc:(Bool.rec false (Zk (Ez c x.after.toList) (I4 x) (Iz ops x) (AhJ x.op) d) (x.after.toList.all λe=>Ib (Region.binds .any e)||Nat.blt e.on c.length):Bool)with
  |false=>simp_all
  |true=>
   rw[hc]at h;have h':Aiv ops l (Nat.succ c.length) (c++[Ez c x.after.toList]) (⟨Ka c.length,I4 x,Iz ops x,AhJ x.op⟩::d)=true:=h;have e:Nat.succ c.length=(c++[Ez c x.after.toList]).length:=by simp
   rw[e]at h';cases A:(x.after.toList.all λe=>Ib (Region.binds .any e)||Nat.blt e.on c.length)with
   |false=>simp_all
   |true=>rw[A]at hc;have r:Zk (Ez c x.after.toList) (I4 x) (Iz ops x) (AhJ x.op) d=true:=hc;cases k with
    |zero=>
     simp at q;subst q;have s:Vf (Ru (x::l) c) (c.length+0)=Ez c x.after.toList:=by rw[AbO (x::l) c 0 x rfl,Vw,(Uf (x::l) c).1]
     refine⟨?_,?_,?_⟩;. intro e J t;have:=Od.1 A e J;rw[Kb,t]at this;simp_all
     .intro n j;rw[s];exact Ajr d r n j
     grind
    |succ k=>
     obtain⟨y,u,z⟩:=I _ _ h' k o (by simpa using q);have C:(c++[Ez c x.after.toList]).length+k=c.length+(k+1):=by simp;omega
     rw[C]at y u z;refine⟨y,λn j=>u n (by simp[j]),?_⟩;intro k' m B p;cases k' with
     |zero=>simp at p;subst p;exact u _ (by simp)
     |succ k'=>
      have:=z k' m om (by grind);have E:(c++[Ez c x.after.toList]).length+k'=c.length+(k'+1):=by simp;omega
      rw[E]at this;exact this
def Ya{x i:Nat}:Nat.land x (Ka i)≠0->x.testBit i=true:=by intro h;cases c:x.testBit i with
|true=>rfl
|false=>refine absurd ?_ h;show x &&& 2^i=0;apply Nat.eq_of_testBit_eq;grind
def Tp{ops}(h:Yx ops=true):P6 ops:=by intro i o j e c d;have:=(Aai _ [] _ h i o (by grind)).1 e c d;grind
def Aah(ops:Array Oper)(o:Oper)(t:Nat):Prop:=(.tmp t)∈o.op.operands.toList\/∃w,guardOf ops o=.on t w
def AiF{l}{t}(h:.tmp t∈l):(AbE l).testBit t=true:=by induction l with
|nil=>grind
|cons x l c=>show(Operand.rec _ _ _ _ x ||| AbE l).testBit t=true;rw[cf,ba];cases h with
 |head=>exact .inl (by show(2^t).testBit t=true;simp)
 |tail _ hm=>exact .inr (c hm)
def Yv{ops}{o}{t}(h:Aah ops o t):(Iz ops o).testBit t=true:=by
 show(AbE _ ||| match guardOf _ o with|.on t _=>Ka t|_=>0).testBit t=true;rw[cf,ba];rcases h with h|⟨w,h⟩;. exact .inl (AiF h)
 .rw[h];exact .inr (by show(2^t).testBit t=true;simp)
def Md{o:Oper}{t:Nat}(h:o.dst=some t):(I4 o).testBit t=true:=by unfold I4;rw[h];show(2^t).testBit t=true;simp
def Z5{x y t:Nat}(h:Nat.land x y=0)(d:x.testBit t=true)(c:y.testBit t=true):False:=by
 have:(x &&& y).testBit t=true:=by grind
 simp_all
def AaU{ops}(h:Yx ops=true){i j:Nat}{o p}{t:Nat}(n:ops[i]?=some o)(m:ops[j]?=some p)(l:i≠j)(hd:o.dst=some t)(c:p.dst=some t\/Aah ops p t):
 Bef ops i j\/Bef ops j i:=by
 rcases Ui i j with k|e
 .have:=(Aai _ [] _ h j p (by grind)).2.2 i o k (by grind);simp[Gx,Rx]at this;rcases this with h1|⟨h1,d⟩;. exact .inl (Ya h1)
  .exfalso;refine Z5 h1 (Md hd) ?_;show(I4 p ||| Iz _ p).testBit t=true;rw[cf,ba];rcases c with c|c;. exact .inl (Md c)
   .exact .inr (Yv c)
 .have:=(Aai _ [] _ h i o (by grind)).2.2 j p om (by grind);simp[Gx,Rx]at this;rcases this with h1|⟨h1,d⟩;. exact .inr (Ya h1)
  .exfalso;rcases c with c|c;. refine Z5 h1 (Md c) ?_;show(I4 o ||| Iz _ o).testBit t=true;rw[cf,ba];exact .inl (Md hd)
   .exact Z5 d (Md hd) (Yv c)
variable {P:Program}{G:Nat}{σ σ':Dx}{h h':H}{w w':World}{v:AV}{nt:Nat}{f f':L2}{a:Act}{Z:Ac}{b:FB}{cs:List Frame}
def Ant x l:Ve x l=true ↔ x∈l:=by induction l with
|nil=>exact⟨λc=>(by cases c),λc=>by cases c⟩
|cons y l j=>show @Bool.rec (λ_=>Bool) (Ve x l) ..=true ↔ _;cases d:Nat.beq y x with
 |true=>simp_all
 |false=>have e:=Ho d;grind
def AcH{x}{l}(d:Ve x l=false):x ∉ l:=by intro c;rw[(Ant x l).2 c]at d;grind
def L7 n x l:x∈wrote n l ↔ x∈l/\x<n:=by induction l with
|nil=>exact⟨λc=>(by cases c),λc=>by grind⟩
|cons y l e=>show x∈(Bool.rec (wrote n l) (y::wrote n l) _:List _) ↔ _;cases d:Nat.blt y n with
 |true=>have:=Ec d;grind
 |false=>have:=Ap1 d;grind
def Yo{l}{lo hi}(d:outside l lo hi=true):∀x∈l,¬ (lo<=x/\x<hi):=by induction l with
|nil=>simp
|cons y l c=>intro x e hc;have h1:@Bool.rec (λ_=>Bool) _ ..=true:=d;cases hq:(Bool.rec false (Nat.blt y hi) (Nat.ble lo y):Bool)with
 |true=>simp_all
 |false=>rw[hq]at h1;cases e with
  |head=>
   have e1:Nat.ble lo y=true:=by simp_all
   have j:Nat.blt y hi=true:=by simp[*]
   simp_all
  |tail _ hm=>exact c h1 x hm hc
def Aj1 o:B5 o=Ej o:=by cases o with
|cells l t k=>cases k<;>rfl
|_=>rfl
def Am6{x off:Nat}{i:Option (Option Nat)}{l:uq}{h d e:H}(q:clear (.blk x off i) l h d e=true):(x ∉ l/\∀k,Ej (h.m.get x)=some k->k ∉ l)\/∃v,cellAt (h.m.get x) off i=some v/\cellAt (d.m.get x) off i=cellAt (e.m.get x) off i:=by
 have h1:(Bool.rec (AbY l (B5 (h.m.get x))) (Beb x off i h d e) (Ve x l):Bool)=true:=q;cases c:Ve x l with
 |true=>rw[c]at h1;exact .inr (@az _ (Classical.propDecidable _) h1)
 |false=>rw[c]at h1;refine .inl ⟨AcH c,λk p=>?_⟩;have j:AbY l (B5 (h.m.get x))=true:=h1;rw[Aj1,p]at j;have n:Ib (Ve k l)=true:=j;rw[Kb]at n;exact AcH (by simpa using n)
def AnA{l}(c:l≠[]):Q6 l=false:=by cases l with
|nil=>grind
|cons x l=>rfl
def Aha{e}:∀{l},E2 e l=true->∀x∈l,Jo e x=true:=by intro l;induction l with
|nil=>simp
|cons y l d=>intro c x j;have h1:Bool.rec _ (E2 e l) _=true:=c;cases hc:Jo e y with
 |false=>simp_all
 |true=>rw[hc]at h1;grind
def AmC{all}:∀{l},Iu all l=true->∀e∈l,e.w≠[]->∀x∈all,Jo e x=true:=by intro l;induction l with
|nil=>simp
|cons y l j=>intro n e k c x d;have h1:@Bool.rec (λ_=>Bool) _ ..=true:=n;cases hn:Q6 _ with
 |true=>rw[hn]at h1;cases k with
  |head=>rw[AnA c]at hn;grind
  |tail _ hm=>exact j h1 e hm c x d
 |false=>rw[hn]at h1;have m:=h1;cases hc:E2 y all with
  |false=>simp_all
  |true=>rw[hc]at m;cases k with
   |head=>exact Aha hc x d
   |tail _ hm=>exact j m e hm c x d
def Am5{e x:EF}(c:Jo e x=true):Nat.land e.pr x.bit≠0\/Nat.land x.pr e.bit≠0\/e.bit=x.bit\/(clear x.r e.w x.h e.h e.h1=true/\outside e.w x.h.nx x.h1.nx=true):=by
 unfold Jo at c;cases j:M4 (Nat.lor (Nat.land e.pr x.bit) (Nat.land x.pr e.bit))with
 |false=>
  have l:(e.pr &&& x.bit) ||| (x.pr &&& e.bit)≠0:=Ho j
  by_cases h1:e.pr &&& x.bit=0
  .refine .inr (.inl λk=>l ?_);rw[h1,show x.pr &&& e.bit=0 from k];rfl
  .exact .inl h1
 |true=>
  rw[j]at c;cases d:Nat.beq e.bit x.bit with
  |true=>exact .inr (.inr (.inl (Ch d)))
  |false=>
   rw[d]at c;cases hd:Ahl e.w x.w with
   |false=>rw[hd]at c;cases c
   |true=>
    rw[hd]at c;cases hc:clear x.r e.w x.h e.h e.h1 with
    |false=>rw[hc]at c;cases c
    |true=>rw[hc]at c;exact .inr (.inr (.inr ⟨rfl,c⟩))
def Aho{ops:Array Oper}{lg:uq}:∀(l:List DO) (c:List EF) (f:L2) (h:H) (f':L2) (h':H),Sp P Z ops lg l c f h=.Bt f' h' ->
 ∃(F:Nat->L2) (Hs:Nat->H) (e:List EF),F 0=f/\Hs 0=h/\(∀i d,l[i]?=some d->Fp ops d.o P Z (F i) (Ab (Hs i))=.Bt (F (i+1)) (Hs (i+1)) /\
  e[i]?=some ⟨d.bit,d.pr,wrote (Hs i).nx (Hs (i+1)).lg,Gi P d.o.op (F i),Hs i,Hs (i+1)⟩)/\e.length=l.length/\Lh (e.reverse++c)=true/\f'=F l.length /\
   h'=Be (En (e.reverse++c) lg) (Hs l.length):=by
 intro l;induction l with
 |nil=>
  intro c f h f' h' m;have h1:(Bool.rec (.bad 183) (.Bt f (Be (En c lg) h)) (Lh c):RC)=.Bt f' h':=m;cases hc:Lh c with
  |false=>rw[hc]at h1;cases h1
  |true=>rw[hc]at h1;cases h1;exact⟨λ_=>f,λ_=>h,[],rfl,rfl,λi d hi=>by simp at hi,rfl,hc,rfl,rfl⟩
 |cons d l r=>
  intro c f h f' h' m;have h1:(RC.rec RC.bad (λf' h'=>Sp P Z ops lg l (⟨d.bit,d.pr,wrote h.nx h'.lg,Gi P d.o.op f,h,h'⟩::c) f' h') (λ_ _ _=>.bad 184) (λ_ _=>.bad 184) (Fp ops d.o P Z f (Ab h)):RC)=.Bt f' h':=m;cases j:Fp ops d.o P Z f (Ab h)with
  |bad n=>rw[j]at h1;cases h1
  |ext id f1 k=>rw[j]at h1;cases h1
  |ret f1 k=>rw[j]at h1;cases h1
  |Bt f1 k=>
   rw[j]at h1;obtain⟨F,Hs,e,u,y,x,p,q5,q,s⟩:=r _ f1 k f' h' h1;refine⟨λi=>Nat.casesOn i f F,λi=>Nat.casesOn i h Hs,⟨d.bit,d.pr,wrote h.nx k.lg,Gi P d.o.op f,h,k⟩::e,rfl,rfl,?_,by simp[p],?_,q,?_⟩
   .intro i t hi;cases i with
    |zero=>simp at hi;subst hi;dsimp only;rw[u,y];exact⟨j,rfl⟩
    |succ i=>have:=x i t (by simpa using hi);exact⟨this.1,by simpa using this.2⟩
   .rw[List.reverse_cons,Wq];exact q5
   .rw[List.reverse_cons,Wq];exact s
structure Dr(P:Program)(G:Nat)(Z:Ac)(ops:Array Oper)(nt:Nat)(F:Nat->L2)(Hs:Nat->H):Prop where
 reg:Yx ops=true
 run:∀(i:Nat) (o:Oper),ops[i]?=some o->Fp ops o P Z (F i) (Ab (Hs i))=.Bt (F (i+1)) (Hs (i+1))
 calm:∀(i j:Nat) (p:Oper),i<ops.size->ops[j]?=some p->i≠j->(∃x,x∈(Hs (i+1)).lg/\x<(Hs i).nx)->Bef ops i j\/Bef ops j i \/
  (clear (Gi P p.op (F j)) (wrote (Hs i).nx (Hs (i+1)).lg) (Hs j) (Hs i) (Hs (i+1))=true/\outside (wrote (Hs i).nx (Hs (i+1)).lg) (Hs j).nx (Hs (j+1)).nx=true)
 step:∀i,i<ops.size->J6 (Ab (Hs i)) (Hs (i+1)) (Hs (i+1)).lg
 inv:∀i,i<=ops.size->Om (Hs i)
 A4P:∀o∈ops.toList,Ie o.op=none
 all:∀o∈ops.toList,Gl G nt o=true
 nt:nt<250
 top:(Hs ops.size).nx<=Bq
def AaV{c:List EF}{i:Nat}{x}(d:c[i]?=some x):x∈c.reverse++[]:=by grind
def Om.Ab(hi:Om h):Om (Ab h):=⟨hi.top,hi.Rm,hi.N3,hi.Gt,hi.Tx,hi.len⟩
def Om.Be(hi:Om h) lg:Om (Be lg h):=⟨hi.top,hi.Rm,hi.N3,hi.Gt,hi.Tx,hi.len⟩
def St.Ab(c:St G σ nt f a h w):St G σ nt f a (Ab h) w:=⟨c.fr,c.gl,c.ai.Ab,c.so,c.ma⟩
def Dr.of_run(hc:Bd P G Z){ops:Array Oper}(Y:Yx ops=true)(C:∀x∈ops.toList,Gl G nt x=true)(Ix:nt<250)(q:Gk P Z ops f h=.Bt f' h')
 (hs:St G σ nt f a h w) (hb:RBk b σ f) (hl:h'.nx<=Bq) (hf:Fx σ h h'):
 ∃F Hs s,Dr P G Z ops nt F Hs/\F 0=f/\Hs 0=h/\f'=F ops.size/\h'=Be (En s h.lg) (Hs ops.size) /\
  (s.reverse).length=ops.size/\∀i,i<ops.size->∃x,s.reverse[i]?=some x/\x.w=wrote (Hs i).nx (Hs (i+1)).lg:=by
 obtain⟨hd,q⟩:=AlM q (λn hn=>by cases hn);cases u:AnB ops with
 |false=>rw[hd]at u;cases u
 |true=>
  replace q:Sp P Z ops h.lg (M7 ops.toList 0 []) [] f h=.Bt f' h':=by
   rcases q with⟨q,_⟩|⟨_,_,_,_,_,q⟩
   .exact q
   .cases q
  obtain⟨F,Hs,s,K,X,q3,q4,q5,q6,z⟩:=Aho _ _ f h f' h' q;have k:(M7 ops.toList 0 []).length=ops.size:=by rw[ApO];simp
  have t:∀(i:Nat) (o:Oper),ops[i]?=some o->∃d,(M7 ops.toList 0 [])[i]?=some d/\d.o=o/\d.bit=Ka i/\d.pr=Vf (PR ops) i:=by
   intro i o l;have hi:i<(M7 ops.toList 0 []).length:=by rw[k];exact(Lp.1 l).1
   obtain⟨h1,e,A⟩:=ApN ops.toList [] i _ (Oh hi);refine⟨_,Oh hi,?_,by simpa using e,by simpa[PR]using A⟩;have:ops.toList[i]?=some o:=by simpa using l
   rw[this]at h1;cases h1;rfl
  have T:∀(i:Nat) (o:Oper),ops[i]?=some o->Fp ops o P Z (F i) (Ab (Hs i))=.Bt (F (i+1)) (Hs (i+1)):=by intro i o l;obtain⟨d,h1,rfl,e,A⟩:=t i o l;exact(q3 i d h1).1
  have L:∀i,i<ops.size->(Hs i).nx<=(Hs (i+1)).nx:=by intro i hi;have:=Wk (P:=P) (f:=F i) (h:=Ab (Hs i)) hc.mono ops ops[i];exact this _ _ (.inl (T i _ (S2 hi)))
  have Q:∀j,j<=ops.size->(Hs j).nx<=(Hs ops.size).nx:=by
   intro j hj;have O:∀m,j+m<=ops.size->(Hs j).nx<=(Hs (j+m)).nx:=by
    intro m;induction m with
    |zero=>intro _;exact Ye _
    |succ m V=>intro hm;have:=V om;have e:=L (j+m) om;exact Ol this e
   have:=O (ops.size-j) om;rwa[show j+(ops.size-j)=ops.size by omega]at this
  rw[k]at q6 z;have S:(Hs ops.size).nx<=Bq:=by rw[z]at hl;exact hl
  have I:Fx σ (Hs 0) (Hs ops.size):=by rw[X];rw[z]at hf;exact hf
  have y:∀i,i<=ops.size->(∃σ a w,St G σ nt (F i) a (Hs i) w/\RBk b σ (F i)/\Fx σ (Hs i) (Hs ops.size))/\∀j,j<i->J6 (Ab (Hs j)) (Hs (j+1)) (Hs (j+1)).lg:=by
   intro i;induction i with
   |zero=>
    intro _;refine⟨⟨σ,a,w,?_,?_,I⟩,λj hj=>absurd hj om⟩
    .rw[K,X];exact hs
    .rw[K];exact hb
   |succ i V=>
    intro hi;obtain⟨⟨σ1,B,w1,g1,g2,g3⟩,g4⟩:=V om;have l:ops[i]?=some ops[i]:=S2 hi;have Vc:ops[i]∈ops.toList:=by simp
    obtain⟨f2,e,M,s2⟩:=Wn hc C Ix (C _ Vc) (T i _ l) (λn hn=>by cases hn) (λ_ _ _ hn=>by cases hn) g1.Ab g2;cases M;have W:=Q (i+1) hi;obtain⟨σ2,a2,w2,t1,t2,t3,_⟩:=s2 om (g3.left W);refine⟨⟨σ2,a2,w2,t1,t2,Fx.right (h:=Ab (Hs i)) g3 t3⟩,λj hj=>?_⟩;by_cases J:j=i
    .subst J;obtain⟨nw,B,_,_⟩:=t3;have:(Hs (j+1)).lg=nw:=by rw[B.lg];simp[Ab]
     rw[this];exact B
    .exact g4 j om
  have r:∀(i:Nat) (o:Oper),ops[i]?=some o->s[i]?=some ⟨Ka i,Vf (PR ops) i,wrote (Hs i).nx (Hs (i+1)).lg,Gi P o.op (F i),Hs i,Hs (i+1)⟩:=by intro i o l;obtain⟨d,h1,rfl,e,A⟩:=t i o l;rw[<- e,<- A];exact(q3 i d h1).2
  refine⟨F,Hs,s.reverse,⟨Y,T,?_,λi hi=>(y (i+1) hi).2 i om,λi hi=>?_,?_,C,Ix,S⟩,K,X,q6,by simpa using z,by simp[q4,k],?_⟩
  .intro i j p hi hp E Hr;have e1:=r i _ (S2 hi);have M:=r j p hp;have R:wrote (Hs i).nx (Hs (i+1)).lg≠[]:=by obtain⟨x,h1,e⟩:=Hr;exact List.ne_nil_of_mem ((L7 _ x _).2 ⟨h1,e⟩)
   have Hq:=AmC q5 _ (AaV e1) R _ (AaV M);rcases Am5 Hq with h1|h1|h1|⟨h1,e⟩
   .exact .inr (.inl (Ya h1))
   .exact .inl (Ya h1)
   .exact absurd ((Nat.pow_right_inj (by omega:1<2)).1 h1) E
   .exact .inr (.inr ⟨h1,e⟩)
  .obtain⟨⟨σ1,B,w1,g1,_⟩,_⟩:=y i hi;exact g1.ai
  .intro o l;have:=Od.1 hd o l;rw[Kb]at this;unfold AhJ at this;cases hq:Ie o.op with
   |none=>rfl
   |some c=>rw[hq]at this;cases this
  .intro i hi;rw[List.reverse_reverse];exact⟨_,r i _ (S2 hi),rfl⟩
variable {ops:Array Oper}{F:Nat->L2}{Hs:Nat->H}
def T(Hs:Nat->H)(x y:Nat):Prop:=y∈(Hs (x+1)).lg\/((Hs x).nx<=y/\y<(Hs (x+1)).nx)
def Wt(ops:Array Oper)(x t:Nat):Prop:=∃o,ops[x]?=some o/\o.dst=some t
def Dr.nx(e:Dr P G Z ops nt F Hs){i j}(k:i<=j)(hj:j<=ops.size):(Hs i).nx<=(Hs j).nx:=by
 have c:∀m,i+m<=ops.size->(Hs i).nx<=(Hs (i+m)).nx:=by intro m;induction m with
  |zero=>grind
  |succ m d=>intro l;exact Ol (d om) (e.step _ om).nx
 have:=c (j-i) om;grind
def Dr.nxl(c:Dr P G Z ops nt F Hs){i}(hi:i<=ops.size):(Hs i).nx<=Bq:=Ol (c.nx hi (Ye _)) c.top
def Dr.low(d:Dr P G Z ops nt F Hs){x y}(e:x<ops.size)(c:T Hs x y):y<(Hs (x+1)).nx:=by
 rcases c with c|c;. exact(d.step x e).low y c
 grind
def Dr.AzD(d:Dr P G Z ops nt F Hs){x y}(k:x<ops.size)(c:y<Bq)(e:¬ T Hs x y):(Hs (x+1)).m.get y=(Hs x).m.get y:=by
 have p:=d.step x k;by_cases h1:y<(Hs x).nx;. exact p.By y c h1 λn=>e (.inl n)
 .have l:(Hs (x+1)).nx<=y:=by
   rcases Ui y _ with j|j;. exact absurd (.inr ⟨by omega,j⟩) e
   grind
  rw[(d.inv _ k).Rm y l c,(d.inv x om).Rm y om c]
def Dr.quiet(n:Dr P G Z ops nt F Hs){i j y:Nat}(hi:i<=ops.size)(hj:j<=ops.size)(k:y<Bq)(r:∀x,x<ops.size->T Hs x y->(x<i ↔ x<j)):(Hs i).m.get y=(Hs j).m.get y:=by
 have c:∀m i,i+m<=ops.size->(∀x,i<=x->x<i+m->¬ T Hs x y)->(Hs i).m.get y=(Hs (i+m)).m.get y:=by intro m;induction m with
  |zero=>simp
  |succ m e=>intro i q hn;rw[e i om (λx h1 d=>hn x h1 om)];exact(n.AzD om k (hn _ (by simp) om)).symm
 rcases Nat.le_total i j with h1|h1;. have:=c (j-i) i om (λx d p l=>by grind);grind
 .have:=c (i-j) j om (λx d p l=>by grind);grind
def Dr.frame(d:Dr P G Z ops nt F Hs){x:Nat}{o}(k:ops[x]?=some o):(∀t:Nat,o.dst=some t->t<nt)/\∃v,F (x+1)=Im o.dst v (F x):=by
 have e:o∈ops.toList:=by grind
 refine⟨(Lu (d.all o e)).2,?_⟩;rcases Pf (d.run x o k) λn hn=>by grind λ_ _ _ hn=>by grind with⟨_,j⟩|⟨_,_,v,h',_,j⟩|⟨_,c,hd,_⟩;. grind
 .grind
 .rw[d.A4P o e]at hd;grind
def Dr.Atx(d:Dr P G Z ops nt F Hs){x t}(p:x<ops.size)(n:t<256)(j:¬ Wt ops x t):(F (x+1)).get t=(F x).get t:=by have c:ops[x]?=some ops[x]:=S2 _;obtain⟨hd,v,k⟩:=d.frame c;have e:=d.nt;rw[k,Mm (λu m=>ab (hd u m) e) t n,X2 λl=>j ⟨_,c,l⟩]
def Dr.Acl(n:Dr P G Z ops nt F Hs){i j t:Nat}(hi:i<=ops.size)(hj:j<=ops.size)(l:t<256)(q:∀x,x<ops.size->Wt ops x t->(x<i ↔ x<j)):(F i).get t=(F j).get t:=by
 have c:∀m i,i+m<=ops.size->(∀x,i<=x->x<i+m->¬ Wt ops x t)->(F i).get t=(F (i+m)).get t:=by intro m;induction m with
  |zero=>simp
  |succ m e=>intro i r hn;rw[e i om (λx h1 d=>hn x h1 om)];exact(n.Atx om l (hn _ (by simp) om)).symm
 rcases Nat.le_total i j with h1|h1;. have:=c (j-i) i om (λx d p k=>by grind);grind
 .have:=c (i-j) j om λx d p k=>by grind
  grind
def Dr.Ur(d:Dr P G Z ops nt F Hs){x y z}(j:x<ops.size)(k:z<ops.size)(h1:(Hs x).nx<=y/\y<(Hs (x+1)).nx)(e:(Hs z).nx<=y/\y<(Hs (z+1)).nx):x=z:=by
 rcases Nat.lt_trichotomy x z with c|c|c;. have:=d.nx (i:=x+1) c om;omega
 .omega
 .have:=d.nx (i:=z+1) c om;omega
def Dr.same(e:Dr P G Z ops nt F Hs){i j y k}(q:i<=j)(hj:j<=ops.size)(l:y<(Hs i).nx)(r:Ej ((Hs j).m.get y)=some k):Ej ((Hs i).m.get y)=some k:=by
 have d:=Xq l (e.nxl om);have c:∀m,i+m<=ops.size->Ej ((Hs (i+m)).m.get y)=some k->Ej ((Hs i).m.get y)=some k:=by intro m;induction m with
  |zero=>simp
  |succ m n=>intro s p;exact n om ((e.step _ om).same y k (Xq l (e.nx om om)) d p)
 exact c (j-i) om (by grind)
structure Iv(G:Nat)(ops:Array Oper)(nt:Nat)(F:Nat->L2)(Hs:Nat->H)(σ0:Dx)(w0:World)(NW:List Nat)(D:Nat->Bool)(σ:Dx)(g:L2)(a:Act)(w:World):Prop where
 Al3:V0 ops D
 fr:Pt σ nt g a
 Ase:∀t,t<250->∃j,j<=ops.size/\(∀x,x<ops.size->Wt ops x t->(D x=true ↔ x<j))/\g.get t=(F j).get t
 ds:g.get Br=(F 0).get Br
 gl:Vm G σ
 so:SOk σ w
 Sm:Oz σ0 σ (Hs 0) (Hs ops.size) w0 w NW
 dom:∀y e,σ y=some e->(y<(Hs 0).nx\/(Hs ops.size).nx<=y)\/∃x,x<ops.size/\D x=true/\(Hs x).nx<=y/\y<(Hs (x+1)).nx
 mem:∀y e,σ y=some e->∃j,j<=ops.size/\(∀x,x<ops.size->T Hs x y->(D x=true ↔ x<j)) /\
  (∀k,Ej ((Hs j).m.get y)=some k->∀x,x<ops.size->T Hs x k->(D x=true ↔ x<j))/\Gr G σ (Hs j).m.get e w ((Hs j).m.get y)
def Dr.move(c:Dr P G Z ops nt F Hs){i j y}{e}(hi:i<=ops.size)(hj:j<=ops.size)(p:y<Bq)(h1:∀x,x<ops.size->T Hs x y->(x<j ↔ x<i))
 (h2:∀k,Ej ((Hs j).m.get y)=some k->∀x,x<ops.size->T Hs x k->(x<j ↔ x<i)) (hb:Gr G σ (Hs j).m.get e w ((Hs j).m.get y)):
 (Hs i).m.get y=(Hs j).m.get y/\Gr G σ (Hs i).m.get e w ((Hs i).m.get y):=by
 have n:=c.quiet hj hi p h1;refine⟨n.symm,?_⟩;rw[<- n];refine Gr.congr (Qq.refl _) rfl ?_ hb;intro l t k st r s;have q:Ej ((Hs j).m.get y)=some k:=by rw[r];rfl
 have d:k<Bq:=by have:=((c.inv j hj).N3 y k p q).1;have:=c.nxl hj;omega
 rw[c.quiet hj hi d (h2 k q)];omega
section step
variable {σ0:Dx}{w0:World}{NW:uq}{D:Nat->Bool}{g:L2}{i:Nat}{o:Oper}
def D1(D:Nat->Bool)(i:Nat):Nat->Bool:=λj=>if j=i then true else D j
def J7:D1 D i i=true:=Xo rfl
def Le{x}(c:x≠i):D1 D i x=D x:=X2 c
def Iv.side(n:Dr P G Z ops nt F Hs)(j:Iv G ops nt F Hs σ0 w0 NW D σ g a w)(k:ops[i]?=some o)(hd:D i=false)(l:∀e∈o.after.toList,Region.binds .any e=true->D e.on=true)
 {x} (hx:x<ops.size) (c:Bef ops x i\/Bef ops i x):D x=true ↔ x<i:=by
 have d:=Tp n.reg;have hi:=(Lp.1 k).1;rcases c with c|c;. exact⟨λ_=>c.lt d hi,λ_=>Bef.done d j.Al3 k l x c⟩
 .have q:=c.lt d hx;refine⟨λp=>?_,λm=>absurd m om⟩;have:=Bef.done d j.Al3 (S2 hx) (j.Al3 x _ (S2 _) p) i c;grind
def Iv.Aj6(m:Iv G ops nt F Hs σ0 w0 NW D σ g a w)(r:ops[i]?=some o)(s:∀e∈o.after.toList,Region.binds .any e=true->D e.on=true):V0 ops (D1 D i):=by
 intro x p k j e l n;have d:∀z,D z=true->D1 D i z=true:=by
  intro z t;by_cases c:z=i;. subst c;exact J7
  .rw[Le c];omega
 by_cases q:x=i;. grind
 .rw[Le q]at j;exact d _ (m.Al3 x p k j e l n)
def Iv.reads(k:Dr P G Z ops nt F Hs)(m:Iv G ops nt F Hs σ0 w0 NW D σ g a w)(d:ops[i]?=some o)(hd:D i=false)(r:∀e∈o.after.toList,Region.binds .any e=true->D e.on=true)
 {t} (ht:t<250) (hr:Aah ops o t):g.get t=(F i).get t:=by
 have hi:=(Lp.1 d).1;obtain⟨j,h1,s,u⟩:=m.Ase t ht;rw[u];refine k.Acl h1 om om λx n l=>?_;have z:=s x n l;by_cases y:x=i;. grind
 .obtain⟨p,q,c⟩:=l;have:=m.side k d hd r n (AaU k.reg q d y c (.inr hr));grind
def Iv.AkF(l:Dr P G Z ops nt F Hs)(r:Iv G ops nt F Hs σ0 w0 NW D σ g a w)(k:ops[i]?=some o)(hd:D i=false)(z:∀e∈o.after.toList,Region.binds .any e=true->D e.on=true)
 {v} (hF:F (i+1)=Im o.dst v (F i)):∀t,t<250->∃j,j<=ops.size/\(∀x,x<ops.size->Wt ops x t->(D1 D i x=true ↔ x<j))/\(Im o.dst v g).get t=(F j).get t:=by
 intro t B;have hi:=(Lp.1 k).1;have C:=(l.frame k).1;have y:=l.nt;have J:∀f,(Im _ v f).get t=if o.dst=some t then v else f.get t:=λf=>Mm (λu A=>ab (C u A) y) t om;by_cases n:o.dst=some t
 .refine⟨_,hi,λx s m=>?_,?_⟩
  .by_cases d:x=i;. subst d;rw[J7];simp
   .rw[Le d];obtain⟨p,q,c⟩:=m;rw[r.side l k hd z s (AaU l.reg q k d c (.inl n))];omega
  grind
 .obtain⟨j,h1,E,I⟩:=r.Ase t B;refine⟨j,h1,λx s m=>?_,?_⟩
  .by_cases d:x=i;. obtain⟨p,q,c⟩:=m;grind
   .rw[Le d];simp_all
  grind
def Iv.ds1(d:Dr P G Z ops nt F Hs)(l:Iv G ops nt F Hs σ0 w0 NW D σ g a w)(j:ops[i]?=some o) v:(Im o.dst v g).get Br=(F 0).get Br:=by have c:=(d.frame j).1;have e:=d.nt;rw[Mm (λu m=>ab (c u m) e) _ fe,X2 λk=>by have h1:255<nt:=c _ k;omega];exact l.ds
def Iv.free(c:Dr P G Z ops nt F Hs)(m:Iv G ops nt F Hs σ0 w0 NW D σ g a w)(hi:i<ops.size)(hd:D i=false):Fx σ (Ab (Hs i)) (Hs (i+1)):=by intro y h1 k;cases l:σ y with
|none=>rfl
|some e=>
 have p:(Hs i).nx<=y:=h1;rcases m.dom y e l with d|⟨x,d,q,n⟩;. have:=c.nx (i:=0) (j:=i) (by simp) om;have:=c.nx (i:=i+1) hi (Ye _);omega
 .have:=c.Ur d hi n ⟨p,k⟩;grind
def Iv.still(m:Dr P G Z ops nt F Hs)(d:Iv G ops nt F Hs σ0 w0 NW D σ g a w)(l:ops[i]?=some o)(hd:D i=false)(r:∀e∈o.after.toList,Region.binds .any e=true->D e.on=true)
 {v} {v'} (hF:F (i+1)=Im o.dst v (F i)) (hH:Hs (i+1)=Ab (Hs i)) (hv:Au σ v v'):Iv G ops nt F Hs σ0 w0 NW (D1 D i) σ (Im o.dst v g) (a.put o.dst v') w:=by
 have z:=(m.frame l).1;have s:∀y,¬ T Hs i y:=by
  intro y c;unfold T at c;rw[hH]at c;rcases c with c|⟨h1,p⟩;. cases c
  .have C:y<(Hs i).nx:=p;omega
 have n:∀x y,T Hs x y->D1 D i x=D x:=by intro x y t;refine Le ?_;grind
 refine⟨d.Aj6 l r,d.fr.put z m.nt hv,d.AkF m l hd r hF,d.ds1 m l v,d.gl,d.so,d.Sm,?_,?_⟩
 .intro y e c;rcases d.dom y e c with h1|⟨x,h1,p,q⟩;. omega
  .refine .inr ⟨x,h1,?_,q⟩;rw[n x y (.inr q)];omega
 .intro y e c;obtain⟨j,h1,p,q,u⟩:=d.mem y e c;refine⟨j,h1,λx A s=>?_,λk B x A s=>?_,u⟩;. grind
  grind
end step
def Gr.N3{g}{e}{o}{k}(c:Gr G σ g e w o)(d:e.k=some k):o=.none\/Ej o=some k:=by cases o with
|none=>grind
|Fb n=>have:e.k=none:=c;grind
|cells l t j=>have:=c.1;rw[d]at this;exact .inr this.symm
|map es=>have:=c.1;simp_all
|loop m a2 a3 a4 a5 p=>have:=c.1;grind
|dfr t=>have:=c.1;simp_all
def Oz.join{l t:Dx}{hn hi hj:H}{n w2:World}{NW nw:uq}(a:Oz σ l h hn w n NW)(b:Oz l t hi hj n w2 nw)(e1:h.nx<=hi.nx)(M:hj.nx<=hn.nx)
 (Abm:∀y∈nw,∀e,l y=some e->y∈NW):Oz σ t h hn w w2 NW:=by
 refine⟨a.le.trans b.le,?_,b.ok,Ol a.grow b.grow,?_,?_,⟨b.io.1.trans a.io.1,b.io.2.trans a.io.2⟩⟩;. intro x e m j;cases d:l x with
   |none=>have:=b.fresh x e d j;omega
   |some k=>exact a.fresh x k m d
 .intro c m j;have g1:=a.frame c m j;have g2:=b.frame c (by grind) (λx C e u hc=>?_);. grind
  .have A:=Abm x C e u;cases d:σ x with
   |some k=>have:=a.le x k d;grind
   |none=>
    rcases a.Vh x e d u with r|⟨p,E,z,q,B⟩;. omega
    grind
 .intro x e m j;cases d:l x with
  |some k=>have:=b.le x k d;rw[j]at this;cases this;exact a.Vh x e m d
  |none=>
   rcases b.Vh x e d j with r|⟨p,E,z,q,B⟩;. exact .inl (by have:=a.grow;omega)
   .cases s:σ p with
    |some K=>have:=a.le _ _ s;grind
    |none=>
     rcases a.Vh _ _ s q with r|⟨I,J,e1,L,O⟩;. omega
     grind
section step
variable {σ0:Dx}{w0:World}{NW:uq}{D:Nat->Bool}{g:L2}{i:Nat}{o:Oper}
def T.cases{x y}(d:Dr P G Z ops nt F Hs)(e:x<ops.size)(c:T Hs x y):y∈(Hs (x+1)).lg/\y<(Hs x).nx\/(Hs x).nx<=y/\y<(Hs (x+1)).nx:=by
 have j:=d.low e c;rcases Ui y (Hs x).nx with h1|h1;. rcases c with c|c;simp_all;omega
 omega
def Iv.here(c:Dr P G Z ops nt F Hs)(s:Iv G ops nt F Hs σ0 w0 NW D σ g a w)(I:ops[i]?=some o)(hd:D i=false)(M:∀e∈o.after.toList,Region.binds .any e=true->D e.on=true)
 {y:Nat} {e:SE} (hy:σ y=some e) (hyn:y<(Hs i).nx)
 (hw:∀x z,x<ops.size->x≠i->(z=y\/Ej ((Hs i).m.get y)=some z)->z∈(Hs (x+1)).lg->z<(Hs x).nx->Bef ops x i\/Bef ops i x):
 (∀x,x<ops.size->T Hs x y->(D x=true ↔ x<i))/\(∀k,Ej ((Hs i).m.get y)=some k->∀x,x<ops.size->T Hs x k->(D x=true ↔ x<i))/\Gr G σ (Hs i).m.get e w ((Hs i).m.get y):=by
 have hi:i<ops.size:=(Lp.1 I).1;have n:=s.so.low y e hy;have C:D i=true ↔ i<i:=by rw[hd];simp
 have h1:∀x,x<ops.size->T Hs x y->(D x=true ↔ x<i):=by
  intro x l p;by_cases t:x=i;. subst t;exact C
  .rcases p.cases c l with⟨E,K⟩|q;. exact s.side c I hd M l (hw x y l t (.inl rfl) E K)
   .have J:x<i:=by
     rcases Ui x i with d|d;. exact d
     .have:=c.nx d om;omega
    refine⟨λ_=>J,λ_=>?_⟩;rcases s.dom y e hy with d|⟨z,d,W,R⟩;. have:=c.nx (i:=0) (j:=x) om om;have:=c.nx (i:=i) (j:=ops.size) om (Ye _);omega
    .have:=c.Ur d l R q;simp_all
 obtain⟨j,u,k2,Q,V⟩:=s.mem y e hy;have L:∀x,x<ops.size->T Hs x y->(x<j ↔ x<i):=λx l p=>by simp_all
 have A:=c.quiet u om n L;have O:∀k,Ej ((Hs i).m.get y)=some k->∀x,x<ops.size->T Hs x k->(D x=true ↔ x<i):=by
  intro k B x l p;by_cases t:x=i;. grind
  .rcases p.cases c l with⟨E,K⟩|q;. exact s.side c I hd M l (hw x k l t (.inr B) E K)
   .have X:=((c.inv i om).N3 y k n B).1;have J:x<i:=by
     rcases Ui x i with d|d;. exact d
     .have:=c.nx d om;omega
    refine⟨λ_=>J,λ_=>?_⟩;have r:Ej ((Hs j).m.get y)=some k:=by rw[A];exact B
    have S:=((c.inv j u).N3 y k n r).1;refine(Q k r x l p).2 ?_;rcases Ui x j with d|d;. exact d
    .have:=c.nx d om;omega
 refine⟨h1,O,(c.move om u n L ?_ V).2⟩;simp_all
def Iv.make(n:Dr P G Z ops nt F Hs)(p:Iv G ops nt F Hs σ0 w0 NW D σ g a w)(E:ops[i]?=some o)(hd:D i=false)(L:∀e∈o.after.toList,Region.binds .any e=true->D e.on=true)
 {v:AV} {v':Value} {l:uw} {l':Array Value} {t:TypeId} (hF:F (i+1)=Im o.dst v (F i)) (hH:Hs (i+1)=(Ab (Hs i)).new (cz l t)) (hl:Bk σ l l'.toList)
 (hv:Au (Gu σ (Hs i).nx ⟨w.heap.size,l.length,none⟩) v v'):Iv G ops nt F Hs σ0 w0 NW (D1 D i) (Gu σ (Hs i).nx ⟨w.heap.size,l.length,none⟩) (Im o.dst v g) (a.put o.dst v') (Dd w (.cells l' t)):=by
 have hi:i<ops.size:=(Lp.1 E).1;have M9:=(n.frame E).1;have Q:(Hs (i+1)).nx=(Hs i).nx+1:=by rw[hH];rfl
 have R:(Hs i).nx<Bq:=by have:=n.nxl (i:=i+1) hi;omega
 have O:(Hs (i+1)).lg=[]:=by rw[hH];rfl
 have W:∀y,T Hs i y->y=(Hs i).nx:=by
  intro y d;rcases d with d|⟨h1,A⟩;. rw[O]at d;cases d
  .omega
 have hf:σ (Hs i).nx=none:=p.free n hi hd _ (Ye _) (by rw[Q];exact Up _);have s:=Ip (e:=⟨w.heap.size,l.length,none⟩) hf;have K:=p.so.push (b:=(Hs i).nx) (e:=⟨w.heap.size,l.length,none⟩) (.cells l' t) R rfl;have M:∀z,D z=true->D1 D i z=true:=by
  intro z hz;by_cases J:z=i;. subst J;exact J7
  .rw[Le J];exact hz
 have Lr:(Hs (i+1)).m.get (Hs i).nx=cz l t:=by rw[hH];have:=Ni (Ab (Hs i)) (cz l t) R (Hs i).nx R;rw[this];exact Xo rfl
 refine⟨p.Aj6 E L,(p.fr.mono s).put M9 n.nt hv,p.AkF n E hd L hF,p.ds1 n E v,p.gl.mono s,K,?_,?_,?_⟩
 .refine p.Sm.join (hi:=Hs i) (hj:=Hs (i+1)) (nw:=[]) ⟨s,?_,K,?_,?_,?_,⟨rfl,rfl⟩⟩ (n.nx om om) (n.nx hi (Ye _)) (λy d=>by cases d)
  .intro y e h1 A;unfold Gu at A;split at A;. omega
   .rw[h1]at A;cases A
  .rw[size_push];omega
  .intro c h1 _;exact Lq w _ c h1
  .intro y e h1 A;unfold Gu at A;grind
 .intro y e d;unfold Gu at d;split at d;. rename_i B;exact .inr ⟨i,hi,J7,by omega,by omega⟩
  .rcases p.dom y e d with h1|⟨x,h1,A,h3⟩;. exact .inl h1
   .exact .inr ⟨x,h1,M x A,h3⟩
 .intro y e d;unfold Gu at d;split at d
  .rename_i B;subst B;cases d;refine⟨i+1,hi,?_,?_,?_⟩
   .intro x r C;by_cases u:x=i;. subst u;rw[J7];simp
    .rw[Le u];rcases C.cases n r with⟨X,q2⟩|q
     .rcases n.calm x i o r E u ⟨_,X,q2⟩with h1|h1|⟨_,h1⟩;. rw[p.side n E hd L r (.inl h1)];omega
      .rw[p.side n E hd L r (.inr h1)];omega
      .exact absurd ⟨Ye _,by omega⟩ (Yo h1 _ ((L7 _ _ _).2 ⟨X,q2⟩))
     .exact absurd (n.Ur r hi q ⟨Ye _,by omega⟩) u
   .intro k I;rw[Lr]at I;cases I
   .rw[Lr];have Fc:l'.size=l.length:=by have:=hl.1;simpa using this.symm
    exact⟨rfl,λ_=>⟨l',0,0,F1 w _,Fc,Ye _,λj x y r d=>(hl.Zm j x y r d).mono s,λ_=>rfl,λ_ j hj=>by omega⟩⟩
  .rename_i B;obtain⟨j,S,k2,V,k4⟩:=p.mem y e d;refine⟨j,S,?_,?_,?_⟩
   .intro x r C;by_cases u:x=i;. subst u;exact absurd (W y C) B
    .rw[Le u];exact k2 x r C
   .intro k I x r C;by_cases u:x=i
    .subst u;have Y:=V k I x r C;rw[hd]at Y;have h6:j<=x:=by simp at Y;omega
     have h7:=((n.inv j S).N3 y k (p.so.low y e d) I).1;have h8:=n.nx h6 om;have h9:=W k C;omega
    .rw[Le u];exact V k I x r C
   .exact Gr.congr s (Lq w _ _ (p.so.rng y e d)) (λ_ _ _ _ _ hh=>hh) k4
end step
section step
variable {σ0:Dx}{w0:World}{NW:uq}{D:Nat->Bool}{g:L2}{i:Nat}{o:Oper}
def Iv.whole(d:Dr P G Z ops nt F Hs)(t:Iv G ops nt F Hs σ0 w0 NW D σ g a w)(E:ops[i]?=some o)(hd:D i=false)(Y:∀e∈o.after.toList,Region.binds .any e=true->D e.on=true)
 (hNW:∀x y,x<ops.size->y∈(Hs (x+1)).lg->y<(Hs x).nx->y∈NW) (Anh:∀x,x<ops.size->x≠i->(∃z,z∈(Hs (x+1)).lg/\z<(Hs x).nx)->Bef ops x i\/Bef ops i x):
 V1 G σ (Hs i).m.get w/\∀(v:AV) (v':Value) (σ':Dx) (w':World),F (i+1)=Im o.dst v (F i)->Au σ' v v'->Out G σ (Ab (Hs i)) w σ' (Hs (i+1)) w' ->
  Iv G ops nt F Hs σ0 w0 NW (D1 D i) σ' (Im o.dst v g) (a.put o.dst v') w':=by
 have hi:i<ops.size:=(Lp.1 E).1;have M9:=(d.frame E).1;have X:=d.inv i om;have Ac2:=t.free d hi hd;have AvY:∀y e,σ y=some e->y<(Hs i).nx->_:=λy e A hyn=>t.here d E hd Y A hyn (λx z l r _ q1 q2=>Anh x l r ⟨z,q1,q2⟩);have hma:V1 G σ (Hs i).m.get w:=by
  intro y e A;rcases Ui y (Hs i).nx with h1|h1;. exact(AvY y e A h1).2.2
  .rw[X.Rm y h1 (t.so.low y e A)];trivial
 refine⟨hma,?_⟩;intro v v' σ' w' hF hv Vd;have Bb4:=Vd;obtain⟨nw,C,Sm,ma'⟩:=Vd;have I:(Hs (i+1)).lg=nw:=by rw[C.lg];simp[Ab]
 have A4e:∀y∈nw,∀e,σ y=some e->y<(Hs i).nx:=by
  intro y A e R;rcases Ui y (Hs i).nx with h1|h1;. exact h1
  .rw[Ac2 y h1 (C.low y A)]at R;cases R
 have hup:∀z,D z=true->D1 D i z=true:=by
  intro z hz;by_cases hzi:z=i;. subst hzi;exact J7
  .rw[Le hzi];exact hz
 have Aqw:∀y e,σ y=none->σ' y=some e->(Hs i).nx<=y/\y<(Hs (i+1)).nx:=λy e h1 K=>Sm.fresh y e h1 K;have AqJ:∀y e j,σ y=some e->¬ T Hs i y->(∀k,Ej ((Hs j).m.get y)=some k->¬ T Hs i k)->Gr G σ (Hs j).m.get e w ((Hs j).m.get y)->Gr G σ' (Hs j).m.get e w' ((Hs j).m.get y):=by
  intro y e j A Q W hb;by_cases L:(Hs j).m.get y=.none;. rw[L];trivial
  .refine Gr.congr Sm.le (Sm.frame e.c (t.so.rng y e A) ?_) (λ_ _ _ _ _ hh=>hh) hb;intro y0 V e0 M hc;rcases t.so.inj y0 y e0 e M A hc with h1|⟨h1,K⟩;. subst h1;exact Q (.inl (by rw[I];exact V))
   .cases u:e0.k with
    |none=>exact K u
    |some k=>have A3X:=A4e y0 V e0 M;have A3V:=C.live y0 V A3X (t.so.low y0 e0 M);have Sz:=hma y0 e0 M;have hc0:Ej ((Hs i).m.get y0)=some k:=(Sz.N3 u).resolve_left A3V;have Aq3:=C.N3 y0 V k A3X hc0;have hcy:Ej ((Hs j).m.get y)=some k:=(hb.N3 (by rw[<- h1];exact u)).resolve_left L;exact W k hcy (.inl (by rw[I];exact Aq3))
 refine⟨t.Aj6 E Y,(t.fr.mono Sm.le).put M9 d.nt hv,t.AkF d E hd Y hF,t.ds1 d E v,t.gl.mono Sm.le,Sm.ok,?_,?_,?_⟩;. refine t.Sm.join Sm (d.nx om om) (d.nx hi (Ye _)) ?_;intro y A e R;exact hNW i y hi (by rw[I];exact A) (A4e y A e R)
 .intro y e A;cases s:σ y with
  |none=>have:=Aqw y e s A;exact .inr ⟨i,hi,J7,this⟩
  |some B=>
   rcases t.dom y B s with h1|⟨x,h1,K,h3⟩;. exact .inl h1
   .exact .inr ⟨x,h1,hup x K,h3⟩
 .intro y e A;cases s:σ y with
  |some B=>
   have hee:B=e:=by have:=Sm.le y B s;rw[A]at this;cases this;rfl
   subst hee;rcases Ui y (Hs i).nx with h1|h1
   .obtain⟨q1,q2,q3⟩:=AvY y B s h1;by_cases O:T Hs i y\/∃k,Ej ((Hs i).m.get y)=some k/\T Hs i k
    .refine⟨i+1,hi,?_,?_,ma' y B A⟩
     .intro x l n;by_cases r:x=i;. subst r;rw[J7];simp
      .rw[Le r,q1 x l n];omega
     .intro k u x l n;have hk':=d.same (i:=i) (j:=i+1) om hi h1 u;by_cases r:x=i;. subst r;rw[J7];simp
      .rw[Le r,q2 k hk' x l n];omega
    .rw[not_or]at O;have A4q:∀k,Ej ((Hs i).m.get y)=some k->¬ T Hs i k:=λk u n=>O.2 ⟨k,u,n⟩;refine⟨i,by omega,?_,?_,AqJ y B i s O.1 A4q q3⟩
     .intro x l n;by_cases r:x=i;. subst r;exact absurd n O.1
      .rw[Le r];exact q1 x l n
     .intro k u x l n;by_cases r:x=i;. subst r;exact absurd n (A4q k u)
      .rw[Le r];exact q2 k u x l n
   by_cases Ben:(Hs ops.size).nx<=y
   .have Ix:∀x,x<ops.size->¬ T Hs x y:=by intro x l n;have S:=d.low l n;have h6:=d.nx (i:=x+1) (j:=ops.size) l (Ye _);omega
    have L:(Hs i).m.get y=.none:=X.Rm y h1 (t.so.low y B s);refine⟨i,by omega,λx l n=>absurd n (Ix x l),λk u=>?_,?_⟩;. rw[L]at u;cases u
    .rw[L];trivial
   .obtain⟨J,p1,p2,p3⟩:∃x,x<ops.size/\D x=true/\(Hs x).nx<=y/\y<(Hs (x+1)).nx:=by
     rcases t.dom y B s with K|K;. have:=d.nx (i:=0) (j:=i) om om;omega
     .exact K
    have A9h:J≠i:=by rintro rfl;rw[hd]at p2;cases p2
    have hgt:i<J:=by
     rcases Ui i J with K|K;. exact K
     .have h3:J+1<=i:=by omega
      have:=d.nx h3 om;omega
    have A8M:=d.nx (i:=i+1) (j:=J) hgt om;obtain⟨j,k1,k2,k3,k4⟩:=t.mem y B s;have Q:¬ T Hs i y:=by intro n;have:=d.low hi n;omega
    have W:∀k,Ej ((Hs j).m.get y)=some k->¬ T Hs i k:=by
     intro k u n;have hkl:=d.low hi n;have hxj:J<j:=(k2 J p1 (.inr p3)).1 p2;have Z0:=d.same (i:=J+1) (j:=j) hxj k1 p3.2 u;rcases(d.step J p1).Vh y k p3.1 p3.2 (t.so.low y B s) Z0 with S|S;. have hor:=Anh J p1 A9h ⟨k,S,by omega⟩;have:=(t.side d E hd Y p1 hor).1 p2;omega
     .have h5':(Hs J).nx<=k:=S;omega
    refine⟨j,k1,?_,?_,AqJ y B j s Q W k4⟩
    .intro x l n;by_cases r:x=i;. subst r;exact absurd n Q
     .rw[Le r];exact k2 x l n
    .intro k u x l n;by_cases r:x=i;. subst r;exact absurd n (W k u)
     .rw[Le r];exact k3 k u x l n
  |none=>
   have Wj:=Aqw y e s A;have hyl:=Sm.ok.low y e A;refine⟨i+1,hi,?_,?_,ma' y e A⟩
   .intro x l n;by_cases r:x=i;. subst r;rw[J7];simp
    .rw[Le r];rcases n.cases d l with⟨q1,q2⟩|q;. rw[t.side d E hd Y l (Anh x l r ⟨y,q1,q2⟩)];omega
     .exact absurd (d.Ur l hi q Wj) r
   .intro k u x l n;by_cases r:x=i;. subst r;rw[J7];simp
    .rw[Le r];rcases n.cases d l with⟨q1,q2⟩|q;. rw[t.side d E hd Y l (Anh x l r ⟨k,q1,q2⟩)];omega
     .have S3:=((d.inv (i+1) hi).N3 y k hyl u).1;have B6:x<i:=by
       rcases Ui x i with h3|h3;. exact h3
       .have h4:i+1<=x:=by omega
        have:=d.nx h4 om;omega
      have A8M:=d.nx (i:=x+1) (j:=i) B6 om;rcases C.Vh y k Wj.1 Wj.2 hyl u with S|S
      .have hkw:k<(Hs i).nx:=by omega
       obtain⟨p,hp⟩:∃p,ops[x]?=some p:=⟨_,S2 l⟩;rcases d.calm i x p hi hp (Ne.symm r) ⟨k,by rw[I];exact S,hkw⟩with h6|h6|⟨_,h6⟩;. rw[t.side d E hd Y l (.inr h6)];omega
       .rw[t.side d E hd Y l (.inl h6)];omega
       .exact absurd q (Yo h6 k ((L7 _ _ _).2 ⟨by rw[I];exact S,hkw⟩))
      .have h5':(Hs i).nx<=k:=S;omega
end step
def AkR(P:Program)(G:Nat)(o:Oper)(f:L2):Prop:=∀(σ:Dx) (nt:Nat) (a:Act) (h h':H) (w:World) (v:AV) (Z:Ac),
 opD o.op o.type P Z f h=.ok v h'->o.op.operands.toList.all (Es G)=true->Pt σ nt f a->Vm G σ->∃v' w',Ran P (execOp a.eval o) w v' w'/\Ag4 σ h w v v' h' w'
def Hm.at{o}(c:Hm P G o) f:AkR P G o f:=λσ nt a h h' w v Z=>c _ _ f a h _ w v _
def Aiu(o:Oper)(f:L2):Gi P o.op f=.all\/AkR P G o f\/∃t x,o.op=.load t x:=by
 obtain⟨dst,op,ty,pos,af,gd⟩:=o;cases op;case move x=>exact .inr (.inl ((Ae1 x).at f))
 case assign x=>exact .inr (.inl ((AaD x).at f))
 case pick c x y=>exact .inr (.inl ((Ae2 c x y).at f))
 case alloc e=>exact .inr (.inl ((Acn e).at f))
 case box e x=>exact .inr (.inl ((Ah4 e x).at f))
 case build t p=>exact .inr (.inl ((Acp t p).at f))
 case buildSlice t n p=>exact .inr (.inl ((Ro t n p).at f))
 case load t x=>exact .inr (.inr ⟨t,x,rfl⟩)
 case nilCheck x=>exact .inr (.inl ((Vq x).at f))
 case binOp op t x y yt=>exact .inr (.inl ((Aco op t x y yt).at f))
 case unOp op t x=>exact .inr (.inl ((Ae3 op t x).at f))
 case makeInterface t x=>exact .inr (.inl ((Sv t x).at f))
 case makeFunc fn x y=>exact .inr (.inl ((Vp fn x y).at f))
 case slice t x lo hi mx=>exact .inr (.inl ((Acs t x lo hi mx).at f))
 case fieldAddr t x i=>exact .inr (.inl ((Ss t x i).at f))
 case field t x i=>exact .inr (.inl ((Acq t x i).at f))
 case indexAddr t x i=>exact .inr (.inl ((Su t x i).at f))
 case index t x i=>exact .inr (.inl ((Acr t x i).at f))
 case typeAssert x xt t ok=>exact .inr (.inl ((Rp x xt t ok).at f))
 case extract x i=>exact .inr (.inl ((Xz x i).at f))
 case call c=>
  obtain⟨j,args,d⟩:=c;cases j with
  |value g=>exact .inl rfl
  |invoke r name=>exact .inl rfl
  |builtin u=>
   cases u;case len=>
    obtain⟨l⟩:=args;match l with
    |[]=>exact .inl rfl
    |x::y::l=>exact .inl rfl
    |[x]=>
     refine .inr (.inl ?_);intro σ nt a h h' w v Z z De q B;have C:Au σ (ev x f) (a.eval x):=Cj q B x (by rw[Od]at De;exact De x (by simp[Op.operands,Call.operands]));have m:J8 .len d.toList [ev x f] P h=.ok v h':=z;unfold J8 at m;dsimp only at m;cases k:d.toList with
     |nil=>rw[k]at m;cases m
     |cons t ts=>rw[k]at m;have s:lnK (Pw P t) (ev x f) h=.ok v h':=m;obtain⟨v',h1,A,rfl⟩:=AeE (ty:=ty) C s w d (by rw[<- Rd,k];rfl);refine⟨v',w,.inl ?_,.quiet _ _ A⟩;simp[execOp,resolve,invoke,builtin,h1]
   all_goals exact .inl rfl
 all_goals exact .inl rfl
def Bb8{ty:TypeId}(t:TypeId)(x:Operand)(m:opD (.load t x) ty P Z f h=.ok v h'):h'=h:=by
 have l:ldV (ev x f) (Ft P t) h=.ok v h':=m;generalize ev x f=u at *
 cases u<;>first|(cases l;done)|skip
 rename_i b off;have e:ldC (h.rd b) (Ft P t) off h=.ok v h':=l;cases k:h.rd b with
 |none=>rw[k]at e;cases e
 |some c=>
  rw[k]at e;have d:ldL (Ft P t) c off h=.ok v h':=e;cases j:Ft P t with
  |none=>rw[j]at d;cases d
  |some i=>
   rw[j]at d;cases i with
   |none=>exact(AbA (show Py (AcE c off) h=.ok v h' from d)).2
   |some n=>
    obtain⟨cs,g1,rfl,g2⟩:=Aaj (show Ly (Nf c off n) h=.ok v h' from d)
    exact g2
def A2q{i:Option (Option Nat)}{b off:Nat}{d:AV}(hc:cellAt (h.m.get b) off i=some d):ldV (.ptr b off) i h=.ok d h:=by
 unfold cellAt at hc;split at hc
 .rename_i cs ty l;have k:h.rd b=some cs:=by unfold H.rd;rw[l];rfl
  show ldC (h.rd b) i off h=_;rw[k];show ldL i cs off h=_;unfold Tn at hc;cases i with
  |none=>cases hc
  |some i=>
   cases i with
   |none=>
    show Py (AcE cs off) h=_;rw[show AcE cs off=some d from hc]
    rfl
   |some n=>
    show Ly (Nf cs off n) h=_;have e:(Nf cs off n).map AV.agg=some d:=hc;cases j:Nf cs off n with
    |none=>rw[j]at e;cases e
    |some c=>rw[j]at e;cases e;rfl
 .cases hc
def BfT{ty:TypeId}(t:TypeId)(x:Operand){c:H}{b off:Nat}{d:AV}(k:opD (.load t x) ty P Z f (Ab h)=.ok v h')(j:ev x f=.ptr b off)(h1:cellAt (h.m.get b) off (Ft P t)=some d)(l:cellAt (c.m.get b) off (Ft P t)=some d):opD (.load t x) ty P Z f c=.ok v c:=by have e:ldV (ev x f) (Ft P t) (Ab h)=.ok v h':=k;rw[j,A2q (h:=Ab h) h1]at e;cases e;show ldV (ev x f) (Ft P t) c=_;rw[j];exact A2q l
def Dr.cell(s:Dr P G Z ops nt F Hs){i j y off:Nat}{I:Option (Option Nat)}(hi:i<=ops.size)(hj:j<=ops.size)(r:y<Bq)(n:∀x,x<ops.size->T Hs x y->(x<i ↔ x<j)\/cellAt ((Hs x).m.get y) off I=cellAt ((Hs (x+1)).m.get y) off I):
 cellAt ((Hs i).m.get y) off I=cellAt ((Hs j).m.get y) off I:=by
 have c:∀(m a:Nat),a+m<=ops.size->(∀x,a<=x->x<a+m->T Hs x y->cellAt ((Hs x).m.get y) off I=cellAt ((Hs (x+1)).m.get y) off I)->cellAt ((Hs a).m.get y) off I=cellAt ((Hs (a+m)).m.get y) off I:=by
  intro m;induction m with
  |zero=>intro a _ _;rfl
  |succ m q=>
   intro a t p;have h1:=q a om λx h1 k d=>p x h1 om d;rw[h1,show a+(m+1)=a+m+1 by omega]
   by_cases l:T Hs (a+m) y
   .exact p (a+m) om om l
   .rw[s.AzD om r l]
 rcases Nat.le_total i j with e|e
 .have:=c (j-i) i om λx h1 k d=>(n x om d).elim (λh=>by omega) id;rwa[show i+(j-i)=j by omega]at this
 .have:=c (i-j) j om λx h1 k d=>(n x om d).elim (λh=>by omega) id;rw[show j+(i-j)=i by omega]at this
  exact this.symm
def AdW{f g:L2}(o:Op)(j:∀x∈o.operands.toList,ev x f=ev x g):Gi P o f=Gi P o g:=by
 cases o;case load t x=>have:=j x (by simp[Op.operands]);show Bn _ _=Bn _ _;rw[this]
 case call c=>
  obtain⟨d,args,e⟩:=c;cases d with
  |value g=>rfl
  |invoke r name=>rfl
  |builtin k=>
   cases k;case len=>
    obtain⟨l⟩:=args;match l with
    |[]=>rfl
    |[x]=>rfl
    |x::y::l=>rfl
   all_goals rfl
 all_goals rfl
section step
variable {σ0:Dx}{w0:World}{NW:uq}{D:Nat->Bool}{g:L2}{i:Nat}{o:Oper}
def Aqc(c:∀t w,guardOf ops o=.on t w->f.get t=g.get t):gv ops o f=gv ops o g:=by unfold gv;grind
def Aqa(l:∀x∈ops.toList,Gl G nt x=true){t}{w}(c:guardOf ops o=.on t w):t<nt:=by
 unfold guardOf at c;split at c;. grind
 .rename_i j e k;split at c;. rename_i n hj;cases c;cases d:ops[j]? with
    |none=>grind
    |some x=>
     rw[d]at hj;have m:x∈ops.toList:=by grind
     exact(Lu (l x m)).2 t hj
  grind
def Iv.step(hc:Bd P G Z)(d:Dr P G Z ops nt F Hs)(r:Iv G ops nt F Hs σ0 w0 NW D σ g a w)(s:ops[i]?=some o)(hd:D i=false)(I:∀e∈o.after.toList,Region.binds .any e=true->D e.on=true)
 (hNW:∀x y,x<ops.size->y∈(Hs (x+1)).lg->y<(Hs x).nx->y∈NW) (hb:RBk b σ g):∃σ' g' a' w',Iv G ops nt F Hs σ0 w0 NW (D1 D i) σ' g' a' w'/\RBk b σ' g' /\
  ∀rest k cs,Calm b cs->Steps P (lone (b.at a (.inRegion ops (i::rest)::k)) cs w) (lone (b.at a' (.inRegion ops rest::k)) cs w'):=by
 have hi:i<ops.size:=(Lp.1 s).1;have Vc:o∈ops.toList:=by simpa using dk s
 obtain⟨De,M9⟩:=Lu (d.all o Vc);have Ix:=d.nt;have hev:∀x∈o.op.operands.toList,ev x (F i)=ev x g:=by
  intro x hx;cases x with
  |tmp t=>
   have ht:t<250:=by have:=Od.1 De _ hx;exact Ec this
   exact(r.reads d s hd I ht (.inl hx)).symm
  |_=>rfl
 have hgv:gv ops o (F i)=gv ops o g:=Aqc λt w hg=>(r.reads d s hd I (ab (Aqa d.all hg) Ix) (.inr ⟨w,hg⟩)).symm;have hds:(F i).get Br=g.get Br:=by rw[r.ds];refine d.Acl om om fe (λx hx V=>?_);obtain⟨p,hp,hpd⟩:=V;have h1:(255:Nat)<nt:=(d.frame hp).1 255 hpd;omega
 have X5:=Zy (o:=o) d.all r.fr Ix;rw[<- hgv]at X5;have A:∀v,(Im o.dst v g).get Br=g.get Br:=λv=>by rw[r.ds1 d s v,r.ds]
 have Y:=d.A4P o Vc;have W:∀c,o.op≠.defer c:=by intro c O0;rw[O0]at Y;cases Y
 rcases Pf (d.run i o s) (λn hn=>by cases hn) (λ_ _ _ hn=>by cases hn)with⟨hg,hq⟩|⟨hg,_,v,h',hv,hq⟩|⟨_,c,hq,_⟩
 .injection hq with S hH;refine⟨σ,_,_,w,r.still d s hd I S hH (L6 σ),hb.mono (Qq.refl σ) (A _),?_⟩;intro rest k cs C;have:=Asa (P:=P) (b:=b) (a:=a) (k:=k) (cs:=cs) (w:=w) (ops:=ops) (i:=i) (rest:=rest) (by rw[s];simpa using X5.2 hg);rw[s]at this;exact .one this
 .injection hq with S hH;subst hH;have V:=X5.1 hg;have K:opD o.op o.type P Z g (Ab (Hs i))=.ok v (Hs (i+1)):=by rw[<- hv];exact(AnF o.op o.type hds hev).symm
  have A8C:(Hs (i+1)).nx<=Bq:=d.nxl hi;rcases Aiu (P:=P) (G:=G) o g with hr|hr|⟨t,x,hr⟩
  .have hrF:Gi P o.op (F i)=.all:=by rw[<- hr];exact AdW o.op hev
   have Anh:∀x,x<ops.size->x≠i->(∃z,z∈(Hs (x+1)).lg/\z<(Hs x).nx)->Bef ops x i\/Bef ops i x:=by
    intro x hx Gb hz;rcases d.calm x i o hx s Gb hz with h1|h1|⟨h1,_⟩
    .exact .inl h1
    .exact .inr h1
    .rw[hrF]at h1;cases h1
   obtain⟨hma,Aq9⟩:=r.whole d s hd I hNW Anh;have Vt:St G σ nt g a (Ab (Hs i)) w:=⟨r.fr,r.gl,(d.inv i om).Ab,r.so,hma⟩;obtain⟨σ',v',w',h1,O,E⟩:=Aim hc o σ nt g a (Ab (Hs i)) (Hs (i+1)) w v b K De Vt hb A8C (r.free d hi hd);exact⟨σ',_,_,w',Aq9 v v' σ' w' S h1 O,hb.mono O.le (A _),λrest k cs C=>E ops i rest k cs s V C⟩
  .obtain⟨v',w',h1,O⟩:=hr σ nt a (Ab (Hs i)) (Hs (i+1)) w v Z K De r.fr r.gl;have Du:=AbK.ran (b:=b) W h1;generalize Q:Hs (i+1)=h' at O;cases O with
   |quiet v v' hvr=>exact⟨σ,_,_,w,r.still d s hd I S Q hvr,hb.mono (Qq.refl σ) (A _),λrest k cs C=>Du ops i rest k cs s V C⟩
   |ptr l l' t hl=>have hf:σ (Hs i).nx=none:=r.free d hi hd _ (Ye _) (by rw[Q];exact Up _);exact⟨_,_,_,_,r.make d s hd I S Q hl (.ptr _ 0 ⟨w.heap.size,l.length,none⟩ (by show Gu σ (Hs i).nx _ (Hs i).nx=_;simp[Gu])),hb.mono (Ip hf) (A _),λrest k cs C=>Du ops i rest k cs s V C⟩
   |sl l l' t len cap sz hle hl=>have hf:σ (Hs i).nx=none:=r.free d hi hd _ (Ye _) (by rw[Q];exact Up _);exact⟨_,_,_,_,r.make d s hd I S Q hl (.sl _ 0 len cap sz true ⟨w.heap.size,l.length,none⟩ cap (by show Gu σ (Hs i).nx _ (Hs i).nx=_;simp[Gu]) hle (Ye _) (λ_=>rfl) (λhh=>by cases hh)),hb.mono (Ip hf) (A _),λrest k cs C=>Du ops i rest k cs s V C⟩
  .obtain⟨dst,op,ty,pos,af,gd⟩:=o;dsimp only at hr;subst hr;have Rr:ev x (F i)=ev x g:=hev x (by simp[Op.operands]);have hq0:Hs (i+1)=Ab (Hs i):=Bb8 t x K;by_cases hcf:∃z y off v0,z<ops.size/\z≠i/\ev x g=.ptr y off/\cellAt ((Hs i).m.get y) off (Ft P t)=some v0/\(∃u,u∈(Hs (z+1)).lg/\u<(Hs z).nx)
   .obtain⟨z0,y,off,v0,hz0,B9C,X,J,hu0⟩:=hcf;cases L:σ y with
    |none=>obtain⟨v',h1,O,E⟩:=Ae0 (P:=P) (w:=w) (dst:=dst) (pos:=pos) (af:=af) (gd:=gd) t x K (by simpa[Op.operands]using De) r.fr r.gl (by intro y' Yk e' R M;rw[X]at R;cases R;rw[L]at M;cases M);exact⟨σ,_,_,w,r.still d s hd I S E O,hb.mono (Qq.refl σ) (A _),λrest k cs C=>AbK.ran (b:=b) W h1 ops i rest k cs s V C⟩
    |some e=>
     have hrs:Gi P (.load t x) (F i)=.blk y off (Ft P t):=by show Bn _ (ev x (F i))=_;rw[Rr,X];rfl
     have hyl:=r.so.low y e L;have hyn:y<(Hs i).nx:=by refine Ab7 (d.inv i om) hyl λhh=>?_;rw[hh]at J;cases J
     obtain⟨j,k1,k2,k3,k4⟩:=r.mem y e L;have Ayy:∀x',x'<ops.size->T Hs x' y->(x'<i ↔ x'<j)\/cellAt ((Hs x').m.get y) off (Ft P t)=cellAt ((Hs (x'+1)).m.get y) off (Ft P t):=by
      intro x' B ht;by_cases Gb:x'=i
      .subst Gb;right;rw[hq0];rfl
      .rcases ht.cases d B with⟨q1,q2⟩|q
       .rcases d.calm x' i _ B s Gb ⟨y,q1,q2⟩with h1|h1|⟨h1,_⟩
        .left;rw[<- r.side d s hd I B (.inl h1)];exact k2 x' B ht
        .left;rw[<- r.side d s hd I B (.inr h1)];exact k2 x' B ht
        .dsimp only at h1;rw[hrs]at h1;rcases Am6 h1 with⟨c1,_⟩|⟨_,_,c2⟩
         .exact absurd ((L7 (Hs x').nx y (Hs (x'+1)).lg).2 ⟨q1,q2⟩) c1
         .exact .inr c2
       .left;have B6:x'<i:=by
         rcases Ui x' i with E|E
         .exact E
         .have:=d.nx E om;omega
        have hD:D x'=true:=by
         rcases r.dom y e L with E|⟨z,E,h4,h5⟩
         .have:=d.nx (i:=0) (j:=x') om om;have:=d.nx (i:=i) (j:=ops.size) om (Ye _);omega
         .have:=d.Ur E B h5 q;subst this;exact h4
        exact⟨λ_=>(k2 x' B ht).1 hD,λ_=>B6⟩
     have O9:=d.cell (by omega:i<=ops.size) k1 hyl Ayy;have hvj:opD (.load t x) ty P Z g (Hs j)=.ok v (Hs j):=BfT t x K X J (by rw[<- O9];exact J);obtain⟨v',h1,O,E⟩:=Ae0 (P:=P) (w:=w) (dst:=dst) (pos:=pos) (af:=af) (gd:=gd) t x hvj (by simpa[Op.operands]using De) r.fr r.gl (by intro y' Yk e' R M;rw[X]at R;cases R;rw[L]at M;cases M;exact k4);exact⟨σ,_,_,w,r.still d s hd I S hq0 O,hb.mono (Qq.refl σ) (A _),λrest k cs C=>AbK.ran (b:=b) W h1 ops i rest k cs s V C⟩
   .obtain⟨v',h1,O,E⟩:=Ae0 (P:=P) (w:=w) (dst:=dst) (pos:=pos) (af:=af) (gd:=gd) t x K (by simpa[Op.operands]using De) r.fr r.gl (by
     intro y off e X hye;by_cases AaJ:(Hs i).m.get y=.none
     .show Gr G σ (Hs i).m.get e w ((Hs i).m.get y);rw[AaJ];trivial
     have hyn:y<(Hs i).nx:=Ab7 (d.inv i om) (r.so.low y e hye) AaJ;refine(r.here d s hd I hye hyn ?_).2.2;intro z u hz hzi hu q1 q2;rcases d.calm z i _ hz s hzi ⟨u,q1,q2⟩with h1|h1|⟨h1,_⟩
     .exact .inl h1
     .exact .inr h1
     .exfalso;have hrs:Gi P (.load t x) (F i)=.blk y off (Ft P t):=by show Bn _ (ev x (F i))=_;rw[Rr,X];rfl
      dsimp only at h1;rw[hrs]at h1;rcases Am6 h1 with⟨c1,c2⟩|⟨v0,J,_⟩
      .have Wj:=(L7 (Hs z).nx u (Hs (z+1)).lg).2 ⟨q1,q2⟩;rcases hu with rfl|hu
       .exact c1 Wj
       .exact c2 u hu Wj
      .exact hcf ⟨z,y,off,v0,hz,hzi,X,J,u,q1,q2⟩)
    exact⟨σ,_,_,w,r.still d s hd I S E O,hb.mono (Qq.refl σ) (A _),λrest k cs C=>AbK.ran (b:=b) W h1 ops i rest k cs s V C⟩
 .rw[Y]at hq;cases hq
def Iv.go(hc:Bd P G Z)(C:Dr P G Z ops nt F Hs)(m:∀x y,x<ops.size->y∈(Hs (x+1)).lg->y<(Hs x).nx->y∈NW):∀l D,Aef ops D l->∀σ g a w,
 Iv G ops nt F Hs σ0 w0 NW D σ g a w->RBk b σ g->∃q r p a' w',(∀i,i<ops.size->q i=true)/\Iv G ops nt F Hs σ0 w0 NW q r p a' w'/\RBk b r p /\
  ∀k cs,Calm b cs->Steps P (lone (b.at a (.inRegion ops l::k)) cs w) (lone (b.at a' (.inRegion ops []::k)) cs w'):=by intro l D d;induction d with
 |nil D s=>exact λσ g a w j c=>⟨D,_,g,a,w,s,j,c,λk cs _=>.refl P _⟩
 |cons D i o rest A hd he M E=>intro σ g a w j c;obtain⟨L,g1,Q,J,e,t,B⟩:=j.step hc C A hd he m c;obtain⟨K,O,g2,a2,w2,u,I,z,s2⟩:=E _ _ _ _ e t;exact⟨_,_,_,_,_,u,I,z,λk cs n=>(B _ k _ n).trans (s2 k _ n)⟩
end step
def J6.cut(hi:Om h)(c:J6 (Ab h) h' h'.lg) l:J6 (Be l h) (Be (wrote h.nx h'.lg++l) h') (wrote h.nx h'.lg):=by
 have e:∀y,y∈wrote .. ↔ y∈h'.lg/\y<h.nx:=λy=>L7 ..;refine⟨rfl,c.nx,λy j=>c.low y ((e y).1 j).1,?_,?_,?_,c.same,c.inv.Be _,λy j=>c.live y ((e y).1 j).1⟩;. intro y h1 d n;exact c.By y h1 d λr=>n ((e y).2 ⟨r,d⟩)
 .intro y j k h1 d;have m:=Xq h1 hi.top;exact(e k).2 ⟨c.N3 y ((e y).1 j).1 k h1 d,(hi.N3 y k m d).1⟩
 .intro y k h1 d n s;rcases c.Vh y k h1 d n s with q|q
  .rcases Ui k h.nx with p|p;. grind
   .exact .inr p
  .exact .inr q
def AiN lg:∀c,En c lg=c.flatMap (·.w)++lg:=by intro c;induction c with
|nil=>rfl
|cons e c d=>show Akm _ (En ..)=_;rw[AfT,d];simp
def Ahp(hc:Bd P G Z)(P5:P.follows .mixedOrders=true)(M:Yx ops=true)(Fs:∀x∈ops.toList,Gl G nt x=true)(Ix:nt<250)(he:Gk P Z ops f h=.Bt f' h')
 (hs:St G σ nt f a h w) (hb:RBk b σ f) (hl:h'.nx<=Bq) (hf:Fx σ h h') (id:Nat):∃r a' w',St G r nt f' a' h' w'/\RBk b r f'/\Out G σ h w r h' w' /\
  ∀k cs,Calm b cs->Steps P (lone (b.at a (.code (.region id ops true)::k)) cs w) (lone (b.at a' k) cs w'):=by
 have n:=hs.draw (w.drawn+1);obtain⟨F,Hs,q,s,q1,O,q3,q4,q5,q6⟩:=Dr.of_run hc M Fs Ix he n hb hl hf;have hNW:∀x y,x<ops.size->y∈(Hs (x+1)).lg->y<(Hs x).nx->y∈q.flatMap (·.w):=by
  intro x y c h1 l;obtain⟨z,B,J⟩:=q6 x c;have hz:z∈q:=by have:=Vl B;simpa using this
  rw[List.mem_flatMap];exact⟨z,hz,by rw[J];exact(L7 _ _ _).2 ⟨h1,l⟩⟩
 have A35:=Tp M;have hD0:∀x,x<ops.size->(Array.replicate ops.size false).getD x true=false:=by intro x c;simp[Array.getD,c]
 have hnx:h'.nx=(Hs ops.size).nx:=by rw[q4];rfl
 have V:Iv G ops nt F Hs σ { w with drawn:=w.drawn+1 } (q.flatMap (·.w)) (λi=>(Array.replicate ops.size false).getD i true) σ f a { w with drawn:=w.drawn+1 }:=by
  refine⟨?_,n.fr,?_,by rw[q1],n.gl,n.so,⟨Qq.refl σ,λy e h1 l=>(by rw[h1]at l;cases l),n.so,Ye _,λ_ _ _=>rfl,λy e h1 l=>(by rw[h1]at l;cases l),⟨rfl,rfl⟩⟩,?_,?_⟩;. intro x o ho c;grind
  .grind
  .intro y e A;left;rw[O];rcases Ui y h.nx with h1|h1;. exact .inl h1
   .rcases Ui y h'.nx with l|l;. rw[hf y h1 l]at A;cases A
    .exact .inr om
  .intro y e A;refine⟨0,by omega,λx c _=>?_,λk _ x c _=>?_,by rw[O];exact n.ma y e A⟩;. simp_all
   simp_all
 have S:=Aod A35 (w.tape w.drawn (.order b.fn id));obtain⟨D',r,g',a',w',Y,u,p3,p4⟩:=Iv.go hc s hNW _ _ S _ _ _ _ V hb;have Q:Pt r nt (F ops.size) a':=by
  refine⟨u.fr.size,?_,?_⟩;. intro t E;obtain⟨j,h1,l,B⟩:=u.Ase t E;have e:(F j).get t=(F ops.size).get t:=s.Acl h1 (Ye _) om (λx c L=>by rw[<- l x c L,Y x c];simp[c]);rw[<- e,<- B];exact u.fr.slot t E
  .have e:(F ops.size).get Br=(F 0).get Br:=by refine s.Acl (Ye _) om fe (λx c L=>?_);obtain⟨p,X,C⟩:=L;have h1:(255:Nat)<nt:=(s.frame X).1 255 C;omega
   rw[e,<- u.ds];exact u.fr.defers
 have T:V1 G r (Hs ops.size).m.get w':=by
  intro y e A;obtain⟨j,h1,l,B,J⟩:=u.mem y e A;refine(s.move (Ye _) h1 (u.so.low y e A) ?_ ?_ J).2;. intro x c E;rw[<- l x c E,Y x c];simp[c]
  .intro k I x c E;rw[<- B k I x c E,Y x c];simp[c]
 have R:∀k,k<=ops.size->J6 h (Be (((q.reverse.take k).reverse).flatMap (·.w)++h.lg) (Hs k)) (((q.reverse.take k).reverse).flatMap (·.w)):=by intro k;induction k with
  |zero=>intro _;rw[O];exact J6.refl n.ai
  |succ k ih=>
   intro I;have h1:=ih om;obtain⟨z,B,J⟩:=q6 k I;have e:(q.reverse.take (k+1)).reverse=z::(q.reverse.take k).reverse:=by rw[Y9,B];simp
   rw[e,dh,J,Wq];have h5:=J6.cut (s.inv k om) (s.step k I) (((q.reverse.take k).reverse).flatMap (·.w)++h.lg);refine h1.trans h5 ?_;exact s.nxl I
 have K:=R ops.size (Ye _);have e:(q.reverse.take ops.size).reverse=q:=by rw[Qa (by rw[q5];exact Ye _),List.reverse_reverse]
 rw[e,<- AiN,<- q4]at K;have d:Oz σ r h h' w w' (q.flatMap (·.w)):=by have d:=u.Sm;refine⟨d.le,?_,d.ok,d.grow,d.frame,d.Vh,d.io⟩;intro y e h1 l;have:=d.fresh y e h1 l;rw[O]at this;rw[hnx];exact this
 have W:V1 G r h'.m.get w':=by rw[q4];exact T
 have Vd:Out G σ h w r h' w':=⟨_,K,d,W⟩;refine⟨r,a',w',?_,?_,Vd,?_⟩;. rw[q3];exact hs.next Vd Q
 .have e:f'.get Br=g'.get Br:=by rw[q3,u.ds];refine s.Acl (Ye _) om fe (λx c L=>?_);obtain⟨p,X,C⟩:=L;have h1:(255:Nat)<nt:=(s.frame X).1 255 C;omega
  exact p3.mono (Qq.refl r) e
 .intro k cs Hq;refine .head AzG ?_;rw[P5];exact(p4 k cs Hq).trans (.one Tv)
def qf(P:Program)(c t i:Nat)(x:AV)(h:H):OR:=
 match c with
 |0=>.ok x h
 |1=>ldV x (Ft P t) h
 |2=>Bool.rec (.bad 28) (.ok x h) (notNil x)
 |_=>Option.rec (λ_ _=>.bad 85) (λd x h=>Bs x d h) (Wa P t i) x h
def Bbr{o:Oper}{e:QE}(hq:qk o=some e):o.guard=none/\o.dst=some e.d/\Ie o.op=none/\AcX o.op=false/\(.tmp e.s)∈o.op.operands.toList/\∀ty Z f h,opD o.op ty P Z f h=qf P e.c e.t e.i (f.get e.s) h:=by
 obtain⟨dst,op,ty,pos,af,gd⟩:=o;unfold qk at hq;dsimp only at hq;split at hq
 .cases hq;exact⟨rfl,rfl,rfl,rfl,by simp[Op.operands],λ_ _ _ _=>rfl⟩
 .cases hq;exact⟨rfl,rfl,rfl,rfl,by simp[Op.operands],λ_ _ _ _=>rfl⟩
 .cases hq;exact⟨rfl,rfl,rfl,rfl,by simp[Op.operands],λ_ _ _ _=>rfl⟩
 .cases hq;exact⟨rfl,rfl,rfl,rfl,by simp[Op.operands],λ_ _ _ _=>rfl⟩
 .cases hq
def BdY{o:Oper}{e:QE}(hq:qk o=some e):o.dst=some e.d:=by obtain⟨dst,op,ty,pos,af,gd⟩:=o;unfold qk at hq;dsimp only at hq;split at hq<;>first|(cases hq;done)|(cases hq;rfl)
def Bf8{c t i:Nat}{x y:AV}(e:qf P c t i x h=.ok y h'):h'=h:=by
 unfold qf at e;split at e
 .cases e;rfl
 .exact Bb8 (P:=P) (Z:=⟨λ_ _ _=>.bad 0,λ_ _ _=>.bad 0⟩) (f:=Az.set 0 x) (ty:=0) t (.tmp 0) (by show ldV ((Az.set 0 x).get 0) (Ft P t) h=_;rw[L2.Dh 0 0 x _ fe fe,Xo rfl];exact e)
 .cases hn:notNil x with
  |false=>rw[hn]at e;cases e
  |true=>rw[hn]at e;cases e;rfl
 .cases j:Wa P t i with
  |none=>rw[j]at e;cases e
  |some d=>rw[j]at e;have k:Bs x d h=.ok y h':=e;cases x<;>first|(cases k;done)|(cases k;rfl)
def Blj(ops:Array Oper)(ds:uq)(i s:Nat):Prop:=Apu ds s=false\/∃k o e,k<i/\ops[k]?=some o/\qk o=some e/\e.d=s
def QA(P:Program)(ops:Array Oper)(ds:uq)(hq:H)(p:Nat)(U:Nat->AV)(i:Nat):Prop:=∀o,ops[i]?=some o->Bef ops p i\/∃e,qk o=some e/\Blj ops ds i e.s/\qf P e.c e.t e.i (U e.s) hq=.ok (U e.d) hq
structure QSt(P:Program)(ds:List Nat)(hq:H)(env:List (Nat × Nat))(R4:List QE)(U:Nat->AV):Prop where
 rp:∀s,Aml ds env s=true->Aml ds env (Ap5 env s)=true/\U (Ap5 env s)=U s
 tb:∀e∈R4,Aml ds env e.s=true/\Aml ds env e.d=true/\qf P e.c e.t e.i (U e.s) hq=.ok (U e.d) hq
def Avq(ops:Array Oper)(i:Nat)(env:List (Nat × Nat)):Prop:=∀s,A4t env s=true->∃k o e,k<i/\ops[k]?=some o/\qk o=some e/\e.d=s
def Avf(U:Nat->AV)(d:Nat)(y:AV):Nat->AV:=λt=>if t=d then y else U t
variable {ds:uq}{env:List (Nat × Nat)}{R4:List QE}{U:Nat->AV}{hq:H}
def AdP{d r s:Nat}:Aml ds ((d,r)::env) s=true ↔ s=d\/Aml ds env s=true:=by
 unfold Aml;show((Bool.rec (A4t env s) true (Nat.beq d s))||Ib (Apu ds s))=true ↔ _;cases c:Nat.beq d s with
 |true=>have:=Ch c;simp[this]
 |false=>have:s≠d:=λe=>Ho c e.symm;simp[this]
def A8Y{d s:Nat}(e:A4t env d=false)(hd:Apu ds d=true)(c:Aml ds env s=true):s≠d:=by rintro rfl;unfold Aml at c;rw[e,hd]at c;cases c
def QSt.add(q:QSt P ds hq env R4 U){d r:Nat}{y:AV}(n:A4t env d=false)(hd:Apu ds d=true)(u:r=d\/(Aml ds env r=true/\U r=y)):QSt P ds hq ((d,r)::env) R4 (Avf U d y):=by
 have k:∀s,Aml ds env s=true->Avf U d y s=U s:=λs c=>X2 (A8Y n hd c);have l:Avf U d y d=y:=Xo rfl;refine⟨λs c=>?_,λe p=>?_⟩
 .rw[AdP]at c;show Aml ds ((d,r)::env) (Bool.rec (Ap5 env s) r (Nat.beq d s))=true/\Avf U d y (Bool.rec (Ap5 env s) r (Nat.beq d s))=Avf U d y s;cases m:Nat.beq d s with
  |true=>
   have:=Ch m;subst this;rcases u with rfl|⟨h1,j⟩
   .exact⟨AdP.2 (.inl rfl),rfl⟩
   .exact⟨AdP.2 (.inr h1),by show Avf U d y r=_;rw[k r h1,l,j]⟩
  |false=>
   have x:s≠d:=λt=>Ho m t.symm;rcases c with c|c
   .exact absurd c x
   .obtain⟨h1,j⟩:=q.rp s c;exact⟨AdP.2 (.inr h1),by show Avf U d y (Ap5 env s)=_;rw[k _ h1,k _ c,j]⟩
 .obtain⟨h1,j,z⟩:=q.tb e p;exact⟨AdP.2 (.inr h1),AdP.2 (.inr j),by rw[k _ h1,k _ j];exact z⟩
def Avq.add{i:Nat}{o:Oper}{e:QE}(m:Avq ops i env)(l:ops[i]?=some o)(hq:qk o=some e)(r:Nat):Avq ops (i+1) ((e.d,r)::env):=by
 intro s q;have c:(Bool.rec (A4t env s) true (Nat.beq e.d s):Bool)=true:=q;cases j:Nat.beq e.d s with
 |true=>exact⟨i,o,e,Up _,l,hq,Ch j⟩
 |false=>rw[j]at c;obtain⟨k,t,p,h1,n⟩:=m s c;exact⟨k,t,p,Sa h1,n⟩
def Avq.up{i:Nat}(c:Avq ops i env):Avq ops (i+1) env:=λs j=>by obtain⟨k,l,e,h1,d⟩:=c s j;exact⟨k,l,e,Sa h1,d⟩
def Avq.alt{i s:Nat}(e:Avq ops i env)(c:Aml ds env s=true):Blj ops ds i s:=by
 unfold Aml at c;cases d:A4t env s with
 |true=>exact .inr (e s d)
 |false=>
  rw[d]at c;left;cases hn:Apu ds s with
  |false=>rfl
  |true=>rw[hn]at c;cases c
def BlB:∀(l:List Oper) (c:uq),BhL l c=Ru l c:=by
 intro l;induction l with
 |nil=>intro c;rfl
 |cons o l d=>intro c;exact d _
def AtK:∀{l:List Oper} {o:Oper} {e:QE},o∈l->qk o=some e->Apu (T8 l) e.d=true:=by
 intro l;induction l with
 |nil=>intro o e c;cases c
 |cons x l j=>
  intro o e c hq;unfold T8;rcases Tu.1 c with rfl|c
  .rw[hq];show(Bool.rec _ true (Nat.beq e.d e.d):Bool)=true;rw[Fe]
  .have:=j c hq;cases k:qk x with
   |none=>exact this
   |some y=>
    show(Bool.rec _ true (Nat.beq y.d e.d):Bool)=true;cases Nat.beq y.d e.d with
    |true=>rfl
    |false=>exact this
def Bet{e:QE}{r d:Nat}:∀{R4:List QE},A6q e r R4=some d->∃x∈R4,x.c=e.c/\x.t=e.t/\x.i=e.i/\x.s=r/\x.d=d:=by
 intro R4;induction R4 with
 |nil=>intro h;cases h
 |cons x l m=>
  intro h;have h':(Bool.rec (A6q e r l) (some x.d) (Nat.beq x.c e.c&&Nat.beq x.t e.t&&Nat.beq x.i e.i&&Nat.beq x.s r):Option Nat)=some d:=h;cases j:(Nat.beq x.c e.c&&Nat.beq x.t e.t&&Nat.beq x.i e.i&&Nat.beq x.s r)with
  |false=>rw[j]at h';obtain⟨y,h1,k⟩:=m h';exact⟨y,by simp[h1],k⟩
  |true=>rw[j]at h';simp only[Wx]at j;obtain⟨⟨⟨h1,k⟩,p⟩,n⟩:=j;exact⟨x,by simp,Ch h1,Ch k,Ch p,Ch n,by cases h';rfl⟩
def Aq0{c:Bool}(h:Ib c=true):c=false:=by cases c;rfl;cases h
def Bg1{p:Nat}(O:∀o∈ops.toList,∀e,qk o=some e->Apu ds e.d=true):∀(l:List Oper) (i:Nat) (env:List (Nat × Nat)) (R4:List QE) (U:Nat->AV),ops.toList.drop i=l->AzO ds (PR ops) p l i env R4=true->QSt P ds hq env R4 U->Avq ops i env ->
 ∃j,(∀s,Aml ds env s=true->j s=U s)/\∀k,i<=k->QA P ops ds hq p j k:=by
 intro l;induction l with
 |nil=>intro i env R4 U L _ q _;refine⟨U,λ_ _=>rfl,λk K o ho=>?_⟩;have h1:=Jh List.length L;have u:=(Lp.1 ho).1;simp at h1;omega
 |cons o l X=>
  intro i env R4 U L n q A;have C:ops[i]?=some o:=by
   have:(ops.toList.drop i)[0]?=some o:=by rw[L];rfl
   rw[da]at this;simpa using this
  have I:ops.toList.drop (i+1)=l:=by rw[<- au,L];rfl
  have Vc:o∈ops.toList:=by have:=dk C;exact Ua.2 this
  have J:∀{j:Nat->AV},QA P ops ds hq p j i->(∀k,i+1<=k->QA P ops ds hq p j k)->∀k,i<=k->QA P ops ds hq p j k:=by
   intro j h1 u k K;rcases Nat.eq_or_lt_of_le K with rfl|K
   .exact h1
   .exact u k K
  unfold AzO at n;cases Q:Nat.testBit (Vf (PR ops) i) p with
  |true=>rw[Q]at n;obtain⟨j,h1,u⟩:=X (i+1) env R4 U I (Wx _ _ ▸ n:_/\_).2 q A.up;refine⟨j,h1,J (λo' B=>.inl Q) u⟩
  |false=>
   rw[Q]at n;dsimp only at n;cases m:qk o with
   |none=>rw[m]at n;cases n
   |some e=>
    rw[m]at n;dsimp only at n;rw[Wx,Wx]at n;obtain⟨⟨h1,u⟩,y⟩:=n;have h1:=Aq0 h1;have hd:=O o Vc e m;obtain⟨S,E⟩:=q.rp e.s u;have M:∃r,(match Bool.rec (A6q e (Ap5 env e.s) R4) (some (Ap5 env e.s)) (M4 e.c)with|none=>none|some r=>some r)=some r/\Aml ds env r=true/\qf P e.c e.t e.i (U e.s) hq=.ok (U r) hq/\AzO ds (PR ops) p l (Nat.succ i) ((e.d,r)::env) R4=true:=by
     cases R:M4 e.c with
     |true=>rw[R]at y;have hc:e.c=0:=Ch R;refine⟨Ap5 env e.s,rfl,S,?_,y⟩;rw[hc,E];rfl
     |false=>
      rw[R]at y;dsimp only at y;cases z:A6q e (Ap5 env e.s) R4 with
      |none=>rw[z]at y;cases y
      |some r=>rw[z]at y;obtain⟨x,g1,g2,g3,g4,g5,Y⟩:=Bet z;obtain⟨k1,k2,k3⟩:=q.tb x g1;subst Y;refine⟨x.d,rfl,k2,?_,y⟩;rw[<- g2,<- g3,<- g4,<- E,<- g5];exact k3
    obtain⟨r,_,hr,hv,Vr⟩:=M;obtain⟨j,u1,u2⟩:=X (i+1) ((e.d,r)::env) R4 (Avf U e.d (U r)) I Vr (q.add h1 hd (.inr ⟨hr,rfl⟩)) (A.add C m r);have V:∀s,Aml ds env s=true->j s=U s:=λs W=>by rw[u1 s (AdP.2 (.inr W))];exact X2 (A8Y h1 hd W)
    refine⟨j,V,J (λo' B=>?_) u2⟩;rw[C]at B;cases B;refine .inr ⟨e,m,A.alt u,?_⟩;have T:j e.d=U r:=by rw[u1 e.d (AdP.2 (.inl rfl))];exact Xo rfl
    rw[V _ u,T];exact hv
structure Bpx(P:Program)(Z:Ac)(ops:Array Oper)(ds:List Nat)(hq:H)(U:Nat->AV)(D:AV)(p:Nat)(o:Oper)(v:AV)(h1:H):Prop where
 at':ops[p]?=some o
 nq:qk o=none
 gd:o.guard=none
 df:Ie o.op=none
 po:AcX o.op=true
 le:hq.nx<=h1.nx
 alt:∀s,(.tmp s)∈o.op.operands.toList->Blj ops ds p s
 run:∀g:L2,(∀s,(.tmp s)∈o.op.operands.toList->g.get s=U s)->g.get Br=D->opD o.op o.type P Z g hq=.Hb v h1
def Aot{o:Oper}(c:o.guard=none):guardOf ops o=.always:=by unfold guardOf;rw[c]
def AzM{o:Oper}{e:QE}(hq:qk o=some e){y:AV}(j:qf P e.c e.t e.i (f.get e.s) h=.ok y h'):Fp ops o P Z f h=.Bt (Im o.dst y f) h':=by obtain⟨k,n,l,m,q5,d⟩:=Bbr hq;show AjD (guardOf ops o) o P Z f h=_;rw[Aot k];show op1 o o.dst o.type P Z f h=_;unfold op1;rw[l];show Akx o.dst f h o.op (opD o.op o.type P Z f h)=_;rw[d,j];rfl
def Bbq(P:Program){k:uq}{p:Nat}:∀{l:List Oper} {i:Nat} {env:List (Nat × Nat)} {R4:List QE},AzO ds k p l i env R4=true->∀o∈l,AcX o.op=false:=by
 intro l;induction l with
 |nil=>intro _ _ _ _ o d;cases d
 |cons x l n=>
  intro i env R4 c o d;unfold AzO at c;cases q:Nat.testBit (Vf k i) p with
  |true=>
   rw[q]at c;dsimp only at c;rw[Wx]at c;rcases Tu.1 d with rfl|d
   .exact Aq0 c.1
   .exact n c.2 o d
  |false=>
   rw[q]at c;dsimp only at c;cases j:qk x with
   |none=>rw[j]at c;cases c
   |some e=>
    rw[j]at c;dsimp only at c;rw[Wx]at c;rcases Tu.1 d with rfl|d
    .exact(Bbr (P:=P) j).2.2.2.1
    .have m:=c.2;split at m
     .cases m
     .exact n m o d
def Bd4:∀{l:List Oper},(∀o∈l,AcX o.op=false)->∀(f:L2) (h:H) {id:Nat} {e:L2} {h1:H},G3 P Z ops l f h=.ext id e h1->False:=by
 intro l;induction l with
 |nil=>intro _ f h id e h1 j;cases j
 |cons o l p=>
  intro k f h id e h1 j;have c:andThen (G3 P Z ops l) (Fp ops o P Z f h)=.ext id e h1:=j;cases d:Fp ops o P Z f h with
  |bad n=>rw[d]at c;cases c
  |ret f2 m=>rw[d]at c;cases c
  |Bt f2 m=>rw[d]at c;exact p (λx q=>k x (by simp[q])) _ _ c
  |ext i f2 m=>have:=(AnG d).2.2.2.1;rw[k o (by simp)]at this;cases this
def Bg0(Fs:∀o∈ops.toList,Gl G nt o=true)(Ix:nt<250)(Q:∀o∈ops.toList,∀e,qk o=some e->Apu ds e.d=true){id:Nat}{f1:L2}{h1:H}:∀(l:List Oper) (i:Nat) (env:List (Nat × Nat)) (R4:List QE) (U:Nat->AV) (F:L2),ops.toList.drop i=l->Av5 ds (PR ops) l i env R4=true->QSt P ds hq env R4 U->Avq ops i env ->
 (∀t,t<250->F.get t=U t)->G3 P Z ops l F hq=.ext id f1 h1->∃C p o v,(∀s,Aml ds env s=true->C s=U s)/\i<=p/\Bpx P Z ops ds hq C (F.get Br) p o v h1/\id=Em/\f1.get Jv=v/\∀k,i<=k->k≠p->QA P ops ds hq p C k:=by
 intro l;induction l with
 |nil=>intro i env R4 U F hl _ _ _ _ he;cases he
 |cons o l ih=>
  intro i env R4 U F hl A q z hF he;have B:ops[i]?=some o:=by
   have:(ops.toList.drop i)[0]?=some o:=by rw[hl];rfl
   rw[da]at this;simpa using this
  have R:ops.toList.drop (i+1)=l:=by rw[<- au,hl];rfl
  have Vc:o∈ops.toList:=by have:=dk B;exact Ua.2 this
  obtain⟨De,M9⟩:=Lu (Fs o Vc);have K:∀s,(.tmp s)∈o.op.operands.toList->s<250:=λs E=>Ec (Od.1 De _ E);have m:andThen (G3 P Z ops l) (Fp ops o P Z F hq)=.ext id f1 h1:=he;unfold Av5 at A;cases j:qk o with
  |some e=>
   rw[j]at A;dsimp only at A;rw[Wx,Wx]at A;obtain⟨⟨g1,g2⟩,g3⟩:=A;have g1:=Aq0 g1;have hd:=Q o Vc e j;obtain⟨q1,q2,q3,q4,q5,q6⟩:=Bbr j;have BiR:=K _ q5;have BiE:e.d<250:=ab (M9 _ q2) Ix;obtain⟨J,O⟩:=q.rp e.s g2;cases L:qf P e.c e.t e.i (F.get e.s) hq with
   |bad n=>
    have h3:Fp ops o P Z F hq=.bad n:=by show AjD (guardOf ops o) o P Z F hq=_;rw[Aot q1];show op1 o o.dst o.type P Z F hq=_;unfold op1;rw[q3];show Akx o.dst F hq o.op (opD o.op o.type P Z F hq)=_;rw[q6,L];rfl
    rw[h3]at m;cases m
   |Hb u Y=>
    have h3:Fp ops o P Z F hq=.bad 208:=by show AjD (guardOf ops o) o P Z F hq=_;rw[Aot q1];show op1 o o.dst o.type P Z F hq=_;unfold op1;rw[q3];show Akx o.dst F hq o.op (opD o.op o.type P Z F hq)=_;rw[q6,L];show(Bool.rec (.bad 208) _ (AcX o.op):RC)=_;rw[q4]
    rw[h3]at m;cases m
   |ok y Y=>
    have h2e:=Bf8 L;rw[h2e]at L;rw[AzM j L]at m;have Cs:G3 P Z ops l (Im o.dst y F) hq=.ext id f1 h1:=m;have S6:∀t,t<256->(Im o.dst y F).get t=if t=e.d then y else F.get t:=by
     intro t K;rw[Mm (λu hu=>by rw[q2]at hu;cases hu;exact BiE) t K,q2];by_cases V:t=e.d
     .rw[V];simp
     .rw[X2 (λh=>V (by cases h;rfl)),X2 V]
    have hF':∀t,t<250->(Im o.dst y F).get t=Avf U e.d y t:=by
     intro t K;rw[S6 t om];unfold Avf;split
     .rfl
     .exact hF t K
    have r:qf P e.c e.t e.i (U e.s) hq=.ok y hq:=by rw[<- hF _ BiR];exact L
    have hrk:Bool.rec e.d (Ap5 env e.s) (M4 e.c)=e.d\/(Aml ds env (Bool.rec e.d (Ap5 env e.s) (M4 e.c))=true/\U (Bool.rec e.d (Ap5 env e.s) (M4 e.c))=y):=by
     cases hz:M4 e.c with
     |false=>exact .inl rfl
     |true=>have hc:e.c=0:=Ch hz;rw[hc]at r;have r:OR.ok (U e.s) hq=.ok y hq:=r;injection r with hy;exact .inr ⟨J,by rw[O,hy]⟩
    have M:=q.add g1 hd hrk;have qn2:QSt P ds hq ((e.d,Bool.rec e.d (Ap5 env e.s) (M4 e.c))::env) (Bool.rec (⟨e.d,Ap5 env e.s,e.c,e.t,e.i⟩::R4) R4 (M4 e.c)) (Avf U e.d y):=by
     cases hz:M4 e.c with
     |true=>rw[hz]at M;exact M
     |false=>
      rw[hz]at M;refine⟨M.rp,λx I=>?_⟩;rcases Tu.1 I with rfl|I
      .refine⟨AdP.2 (.inr J),AdP.2 (.inl rfl),?_⟩;show qf P e.c e.t e.i (Avf U e.d y (Ap5 env e.s)) hq=.ok (Avf U e.d y e.d) hq;rw[show Avf U e.d y (Ap5 env e.s)=U (Ap5 env e.s)from X2 (A8Y g1 hd J),show Avf U e.d y e.d=y from Xo rfl,O]
       exact r
      .exact M.tb x I
    obtain⟨C,p,op,u,u1,u2,u3,u4,u5,u6⟩:=ih (i+1) _ _ _ _ R g3 qn2 (z.add B j _) hF' Cs;have Vt:∀s,Aml ds env s=true->C s=U s:=λs E=>by rw[u1 s (AdP.2 (.inr E))];exact X2 (A8Y g1 hd E)
    refine⟨C,p,op,u,Vt,by omega,?_,u4,u5,λk hk X=>?_⟩
    .have:(Im o.dst y F).get Br=F.get Br:=by rw[S6 Br fe,X2 (by intro V;have h3:(255:Nat)=e.d:=V;omega)]
     rw[this]at u3;exact u3
    .rcases Nat.eq_or_lt_of_le hk with rfl|hk
     .intro o' W;rw[B]at W;cases W;refine .inr ⟨e,j,z.alt g2,?_⟩;rw[Vt _ g2,u1 e.d (AdP.2 (.inl rfl)),show Avf U e.d y e.d=y from Xo rfl]
      exact r
     .exact u6 k hk X
  |none=>
   rw[j]at A;dsimp only at A;rw[Wx,Wx,Wx]at A;obtain⟨⟨⟨g1,g2⟩,g3⟩,g4⟩:=A;have hgd:o.guard=none:=by
    cases hg:o.guard with
    |none=>rfl
    |some x=>rw[hg]at g1;cases g1
   obtain⟨C,u1,u2⟩:=Bg1 (hq:=hq) Q l (i+1) env R4 U R g4 q z.up;have T:∀s,(.tmp s)∈o.op.operands.toList->Aml ds env s=true:=λs E=>Od.1 g3 _ E;cases S:Fp ops o P Z F hq with
   |bad n=>rw[S]at m;cases m
   |ret f2 Y=>rw[S]at m;cases m
   |Bt f2 Y=>rw[S]at m;exact(Bd4 (Bbq P g4) _ _ m).elim
   |ext id2 f2 Y=>
    rw[S]at m;cases m;obtain⟨k1,k2,k3,k4,k5,u,k6,rfl⟩:=AnG S;refine⟨C,i,o,u,u1,Ye _,⟨B,j,hgd,k3,k4,k5,λs E=>z.alt (T s E),λg hg1 hg2=>?_⟩,k1,?_,λk hk X=>u2 k om⟩
    .rw[<- k6];refine AnF o.op o.type hg2 λx I=>?_;cases x with
     |tmp s=>show g.get s=F.get s;rw[hg1 s I,u1 s (T s I),hF s (K s I)]
     |_=>rfl
    .rw[L2.Dh Jv Jv _ F fe fe,Xo rfl]
def Wd(ops:Array Oper)(D:Nat->Bool)(t:Nat):Prop:=∃i o e,D i=true/\ops[i]?=some o/\qk o=some e/\e.d=t
structure JV(P:Program)(G:Nat)(ops:Array Oper)(U:Nat->AV)(nt:Nat)(f:L2)(hq:H)(p:Nat)(D:Nat->Bool)(σ:Dx)(g:L2)(a:Act)(w:World):Prop where
 np:D p=false
 cl:V0 ops D
 hit:∀t,t<250->Wd ops D t->g.get t=U t
 mis:∀t,t<256->¬ Wd ops D t->g.get t=f.get t
 st:St G σ nt g a hq w
def JV.reads{p:Nat}{D:Nat->Bool}{g:L2}(c:Yx ops=true)(x:∀o∈ops.toList,Gl G nt o=true)(A:nt<250)(y:∀s,Apu (T8 ops.toList) s=false->U s=f.get s)(j:JV P G ops U nt f hq p D σ g a w)
 {i:Nat} {o:Oper} (ho:ops[i]?=some o) (he:∀e∈o.after.toList,Region.binds .any e=true->D e.on=true) {s:Nat} (hs:(.tmp s)∈o.op.operands.toList) (hal:Blj ops (T8 ops.toList) i s):g.get s=U s:=by
 have z:o∈ops.toList:=Ua.2 (dk ho);have q:s<250:=Ec (Od.1 (Lu (x o z)).1 _ hs);rcases hal with hn|⟨k,t,e,h1,d,m,l⟩
 .rw[y s hn];refine j.mis s om λu=>?_;obtain⟨B,t,e,_,d,m,l⟩:=u;have:=AtK (Ua.2 (dk d)) m;rw[l,hn]at this;cases this
 .have hd:t.dst=some s:=by rw[BdY m,l]
  refine j.hit s q ⟨k,t,e,?_,d,m,l⟩;have n:k≠i:=by omega
  rcases AaU c d ho n hd (.inr (.inl hs))with r|r
  .exact Bef.done (Tp c) j.cl ho he k r
  .have:=Bef.lt (Tp c) (Lp.1 d).1 r;omega
def V0.add{D:Nat->Bool}(hc:V0 ops D){i:Nat}{o:Oper}(n:ops[i]?=some o)(p:∀e∈o.after.toList,Region.binds .any e=true->D e.on=true):V0 ops (λj=>if j=i then true else D j):=by
 intro x q d hd e h1 k;show(if e.on=i then true else D e.on)=true;by_cases l:e.on=i
 .rw[Xo l]
 .rw[X2 l];have c:(if x=i then true else D x)=true:=hd;by_cases m:x=i
  .subst m;rw[n]at d;cases d;exact p e h1 k
  .rw[X2 m]at c;exact hc x q d c e h1 k
def JV.go(hc:Bd P G Z)(K:Yx ops=true)(r:∀o∈ops.toList,Gl G nt o=true)(Q:nt<250)(hU:∀s,Apu (T8 ops.toList) s=false->U s=f.get s){p:Nat}{o:Oper}{u:AV}{h1:H}
 (pa:Bpx P Z ops (T8 ops.toList) hq U (f.get Br) p o u h1) (hqa:∀k,k≠p->QA P ops (T8 ops.toList) hq p U k) (hl:h1.nx<=Bq):∀(l:uq) (D:Nat->Bool),Aef ops D l->∀(σ:Dx) (g:L2) (a:Act) (w:World),
 JV P G ops U nt f hq p D σ g a w->RBk b σ g->Fx σ hq h1->∃D' T O a' w' E w2 M,JV P G ops U nt f hq p D' T O a' w'/\RBk b T O/\Out G σ hq w E h1 w2/\St G E nt (O.set Jv u) a' h1 w2/\Au E u M /\
  ∀k cs,Calm b cs->∃rest,Steps P (lone (b.at a (.inRegion ops l::k)) cs w) (lone (b.Hb a' (.inRegion ops rest::k) M false) cs w2):=by
 intro l D AyO;induction AyO with
 |nil D I=>intro σ g a w j;have:=I p (Lp.1 pa.at').1;rw[j.np]at this;cases this
 |cons D i B rest m hd he hr ih=>
  intro σ g a w j hb hf;have Vc:B∈ops.toList:=Ua.2 (dk m);have Y:g.get Br=f.get Br:=j.mis Br fe λz=>by obtain⟨J,R,e,_,y,C,S⟩:=z;have h5:=(Lu (r R (Ua.2 (dk y)))).2 e.d (BdY C);have:e.d=255:=S;omega
  by_cases A:i=p
  .subst A;rw[pa.at']at m;cases m;have V:opD o.op o.type P Z g hq=.Hb u h1:=pa.run g (λs hs=>j.reads K r Q hU pa.at' he hs (pa.alt s hs)) Y;have hx:Fp ops o P Z g hq=.ext Em (g.set Jv u) h1:=by show AjD (guardOf ops o) o P Z g hq=_;rw[Aot pa.gd];show op1 o o.dst o.type P Z g hq=_;unfold op1;rw[pa.df];show Akx o.dst g hq o.op (opD o.op o.type P Z g hq)=_;rw[V];show(Bool.rec (.bad 208) _ (AcX o.op):RC)=_;rw[pa.po];show(Bool.rec (.bad 208) (RC.ext Em (g.set Jv u) h1) (Nat.ble hq.nx h1.nx):RC)=_;rw[show Nat.ble hq.nx h1.nx=true from br pa.le]
   obtain⟨_,E,w2,M,q1,W,q3,q4,q5⟩:=Ar2 (b:=b) hc r Q (r _ Vc) hx j.st hb hl hf;rw[L2.Dh Jv Jv _ g fe fe,Xo rfl]at q4;exact⟨D,σ,g,a,w,E,w2,M,j,hb,q3,q1,q4,λk cs Hq=>⟨_,q5 _ rest k cs pa.at'⟩⟩
  .have hq:=hqa i A B m;rcases hq with hq|⟨e,q,I,V⟩
   .have:=Bef.done (Tp K) j.cl m he p hq;rw[j.np]at this;cases this
   obtain⟨q1,W,q3,q4,q5,q6⟩:=Bbr (P:=P) q;have hg:=j.reads K r Q hU m he q5 I;rw[<- hg]at V;have De:=AzM (ops:=ops) (Z:=Z) (P:=P) q V;have BiE:e.d<250:=ab ((Lu (r B Vc)).2 _ W) Q;obtain⟨f',h',e1,e2⟩:=Wn (b:=b) hc r Q (r B Vc) De (λn c=>by cases c) (λ_ _ _ c=>by cases c) j.st hb;cases e1;have hle:hq.nx<=h1.nx:=pa.le;obtain⟨σ1,a1,w1,s1,b1,o1,st1⟩:=e2 om (λx y C=>absurd C om);have S6:∀t,t<256->(Im B.dst (U e.d) g).get t=if t=e.d then U e.d else g.get t:=by
    intro t L;rw[Mm (λu hu=>by rw[W]at hu;cases hu;exact BiE) t L,W];by_cases c:t=e.d
    .rw[c];simp
    .rw[X2 (λh=>c (by cases h;rfl)),X2 c]
   have hwd:∀t,Wd ops (λj=>if j=i then true else D j) t->t=e.d\/Wd ops D t:=by
    intro t z;obtain⟨J,R,e',h1,y,C,S⟩:=z;dsimp only at h1;by_cases c:J=i
    .subst c;rw[m]at y;cases y;rw[q]at C;cases C;exact .inl S.symm
    .rw[X2 c]at h1;exact .inr ⟨J,R,e',h1,y,C,S⟩
   have j1:JV P G ops U nt f hq p (λj=>if j=i then true else D j) σ1 (Im B.dst (U e.d) g) a1 w1:=by
    refine⟨?_,j.cl.add m he,λt L z=>?_,λt L z=>?_,s1⟩
    .show(if p=i then true else D p)=false;rw[X2 (λh=>A h.symm)];exact j.np
    .rw[S6 t om];by_cases c:t=e.d
     .rw[Xo c,c]
     .rw[X2 c];exact j.hit t L ((hwd t z).resolve_left c)
    .rw[S6 t L,X2 (λc=>z ⟨i,B,e,Xo rfl,m,q,c.symm⟩)];refine j.mis t L λX=>z ?_;obtain⟨J,R,e',h1,y⟩:=X;refine⟨J,R,e',?_,y⟩;show(if J=i then true else D J)=true;rw[h1];simp
   obtain⟨D',T,O,a',w',E,w2,M,p1,p2,p3,p4,p5,p6⟩:=ih σ1 _ a1 w1 j1 b1 (hf.right o1);refine⟨D',T,O,a',w',E,w2,M,p1,p2,o1.trans p3 hl,p4,p5,λk cs Hq=>?_⟩;obtain⟨B5C,Vt⟩:=p6 k cs Hq;exact⟨B5C,(st1 i rest k cs m Hq).trans Vt⟩
def Bbz:∀(l:uq) (f:L2) (t:Nat),t<256->(∀d∈l,d<256)->(AyE l f).get t=if Apu l t then .top else f.get t:=by
 intro l;induction l with
 |nil=>intro f t _ _;rfl
 |cons d l k=>
  intro f t e c;show(AyE l (f.set d .top)).get t=_;rw[k _ _ e (λx n=>c x (by simp[n])),L2.Dh d t _ f (c d (by simp)) e];show _=if(Bool.rec (Apu l t) true (Nat.beq d t):Bool)=true then _ else _;cases j:Nat.beq d t with
  |true=>have:=Ch j;rw[Xo this.symm];cases Apu l t<;>rfl
  |false=>have m:t≠d:=λh=>Ho j h.symm;rw[X2 m]
def Bei:∀{l:List Oper},∀d∈T8 l,∃o∈l,∃e,qk o=some e/\e.d=d:=by
 intro l;induction l with
 |nil=>intro d hd;cases hd
 |cons x l k=>
  intro d hd;unfold T8 at hd;cases j:qk x with
  |none=>rw[j]at hd;obtain⟨o,h1,c⟩:=k d hd;exact⟨o,by simp[h1],c⟩
  |some e=>
   rw[j]at hd;rcases Tu.1 hd with rfl|hd
   .exact⟨x,by simp,e,j,rfl⟩
   .obtain⟨o,h1,c⟩:=k d hd;exact⟨o,by simp[h1],c⟩
def Bff{n:Nat}:∀{l:uq},(∀d∈l,d<n)->Apu l n=false:=by
 intro l;induction l with
 |nil=>intro _;rfl
 |cons d l j=>
  intro c;show(Bool.rec (Apu l n) true (Nat.beq d n):Bool)=false;cases m:Nat.beq d n with
  |true=>have e:d=n:=Ch m;have:=c d (by simp);omega
  |false=>exact j (λx k=>c x (by simp[k]))
def A1C(l:∀x∈ops.toList,Gl G nt x=true):∀d∈T8 ops.toList,d<nt:=by intro d hd;obtain⟨k,c,e,j,rfl⟩:=Bei d hd;exact(Lu (l k c)).2 _ (BdY j)
def BfE(e:∀x∈ops.toList,Gl G nt x=true)(j:nt<250)(v:AV)(f:L2):((AyE (T8 ops.toList) f).set Jv v).get Br=f.get Br:=by have c:=A1C e;rw[L2.Dh Jv Br _ _ fe fe,X2 fe,Bbz _ _ _ fe (λd hd=>by have:=c d hd;omega),Bff (λd hd=>by have:=c d hd;show d<255;omega),X2 (by simp)]
def Bjp(x y:uq):Akm x y=x++y:=AfT x y
def BfX(hc:Bd P G Z)(P5:P.follows .mixedOrders=true)(C:Yx ops=true)(I:∀x∈ops.toList,Gl G nt x=true)(R:nt<250)(hnd:AnB ops=true)(hp:Aqi ops=true){z:Nat}{m:L2}{h1:H}
 (hx:G3 P Z ops ops.toList f (Ab h)=.ext z m h1) (n:St G σ nt f a h w) (hb:RBk b σ f) (hl:h1.nx<=Bq) (hf:Fx σ h h1) (id:Nat):
 z=Em/\∃A a' w' J,St G A nt ((AyE (T8 ops.toList) f).set Jv (m.get Jv)) a' (Be (Akm h1.lg h.lg) h1) w'/\RBk b A ((AyE (T8 ops.toList) f).set Jv (m.get Jv))/\Out G σ h w A (Be (Akm h1.lg h.lg) h1) w' /\
  Au A (((AyE (T8 ops.toList) f).set Jv (m.get Jv)).get Jv) J /\
  ∀k cs,Calm b cs->∃rest,Steps P (lone (b.at a (.code (.region id ops true)::k)) cs w) (lone (b.Hb a' (.inRegion ops rest::k) J false) cs w'):=by
 have T:=n.draw (w.drawn+1);have A35:=Tp C;have O:Av5 (T8 ops.toList) (PR ops) ops.toList 0 [] []=true:=by have:Av5 (T8 ops.toList) (BhL ops.toList []) ops.toList 0 [] []=true:=hp;rw[BlB]at this;exact this
 obtain⟨U,p,o,v,u1,_,pa,h4,h5,h6⟩:=Bg0 (P:=P) (Z:=Z) I R (ds:=T8 ops.toList) (λo ho e he=>AtK ho he) ops.toList 0 [] [] (λt=>f.get t) f rfl O
  ⟨λs n=>⟨n,rfl⟩,λe he=>by cases he⟩ (λs n=>by cases n) (λt _=>rfl) hx
 refine⟨h4,?_⟩;have hU:∀s,Apu (T8 ops.toList) s=false->U s=f.get s:=λs n=>u1 s (by unfold Aml;rw[n];rfl);have q:∀x,x<ops.size->(Array.replicate ops.size false).getD x true=false:=by intro x hx;simp[Array.getD,hx]
 have X:∀t,¬ Wd ops (λi=>(Array.replicate ops.size false).getD i true) t:=by rintro t ⟨i,o',e,h1,h2,_⟩;have W2:(Array.replicate ops.size false).getD i true=true:=h1;rw[q i (Lp.1 h2).1]at W2;cases W2
 have j0:JV P G ops U nt f (Ab h) p (λi=>(Array.replicate ops.size false).getD i true) σ f a { w with drawn:=w.drawn+1 }:=by refine⟨q p (Lp.1 pa.at').1,λx o' K hd=>?_,λt _ S=>absurd S (X t),λt _ _=>rfl,St.Ab T⟩;have B:(Array.replicate ops.size false).getD x true=true:=hd;rw[q x (Lp.1 K).1]at B;cases B
 obtain⟨D',A,y,a',w',σ2,w2,J,j,b1,o1,Y,v1,M⟩:=JV.go hc C I R hU pa (λk hk=>h6 k (Wy _) hk) hl _ _ (Aod A35 (w.tape w.drawn (.order b.fn id))) σ f a { w with drawn:=w.drawn+1 } j0 hb hf;have E:=A1C I;have Lr:∀t,t<256->t≠Jv->((AyE (T8 ops.toList) f).set Jv (m.get Jv)).get t=if Apu (T8 ops.toList) t then .top else f.get t:=by intro t l Hr;rw[L2.Dh Jv t _ _ fe l,X2 Hr,Bbz _ _ _ l (λd hd=>by have:=E d hd;omega)]
 have hgp:((AyE (T8 ops.toList) f).set Jv (m.get Jv)).get Jv=m.get Jv:=by rw[L2.Dh Jv Jv _ _ fe fe,Xo rfl]
 have u:∀t,t<256->Apu (T8 ops.toList) t=false->y.get t=f.get t:=by intro t l hn;refine j.mis t l λS=>?_;obtain⟨i',o',e,_,k2,k3,k4⟩:=S;have:=AtK (Ua.2 (dk k2)) k3;rw[k4,hn]at this;cases this
 have r:Apu (T8 ops.toList) Br=false:=Bff λd hd=>by have:=E d hd;show d<255;omega
 have CaN:∀t,t<250->(y.set Jv v).get t=y.get t:=λt l=>by rw[L2.Dh Jv t _ y fe om,X2 (by intro W;have h1:t=254:=W;omega)]
 have L:Pt σ2 nt ((AyE (T8 ops.toList) f).set Jv (m.get Jv)) a':=by
  refine⟨Y.fr.size,λt l=>?_,?_⟩
  .rw[Lr t om (by intro W;have h1:t=254:=W;omega)];cases hn:Apu (T8 ops.toList) t with
   |true=>exact .top _
   |false=>rw[X2 (by simp),<- u t om hn,<- CaN t l];exact Y.fr.slot t l
  .rw[Lr Br fe fe,r,X2 (by simp),<- u Br fe r];have:=Y.fr.defers;rw[L2.Dh Jv Br _ y fe fe,X2 fe]at this;exact this
 have V:Out G σ h w σ2 (Be (Akm h1.lg h.lg) h1) w2:=by
  obtain⟨nw,c,a2,a3⟩:=Out.draw o1;have Q:h1.lg=nw:=by rw[c.lg];exact F0 _
  refine⟨nw,⟨?_,c.nx,c.low,c.By,c.N3,c.Vh,c.same,c.inv.Be _,c.live⟩,⟨a2.le,a2.fresh,a2.ok,a2.grow,a2.frame,a2.Vh,a2.io⟩,a3⟩;show Akm h1.lg h.lg=nw++h.lg;rw[Bjp,Q]
 refine⟨σ2,a',w2,J,n.next V L,?_,V,?_,λk cs Hq=>?_⟩
 .exact hb.mono V.le (BfE I R _ _)
 .rw[hgp,h5];exact v1
 .obtain⟨rest,Vt⟩:=M k cs Hq;refine⟨rest,.head AzG ?_⟩;rw[P5];exact Vt
variable {a':Act}
def Fin(r:RC)(f':L2)(h':H):Prop:=r=.Bt f' h'\/(∃i,r=.ext i f' h')\/r=.ret f' h'
def FB.leave(b:FB)(a:Act)(id:Nat)(c:Value)(k:List Item):Frame:=if id=Em then b.Hb a k c false else b.at a (.code (.exit id)::k)
def FB.N8{b:FB}{a}{id}{c}{k}(h:id≠Em):b.leave a id c k=b.at a (.code (.exit id)::k):=X2 h
def FB.Uq{b:FB}{a}{c}{k}:b.leave a Em c k=b.Hb a k c false:=Xo rfl
def Ends(P:Program)(b:FB)(src dst:List Item->List Item)(a:Act)(w:World)(d:Dx)(r:RC)(a':Act)(w':World):Prop:=
 match r with
 |.Bt _ _=>∀k cs,Calm b cs->Steps P (lone (b.at a (src k)) cs w) (lone (b.at a' (dst k)) cs w')
 |.ext id f1 _=>∃c,(id=Em->Au d (f1.get Jv) c)/\∀k cs,Calm b cs->∃k',exitTo id k'=exitTo id k/\Steps P (lone (b.at a (src k)) cs w) (lone (b.leave a' id c k') cs w')
 |.ret _ _=>∀k cs,Calm b cs->∃k',Steps P (lone (b.at a (src k)) cs w) (lone (b.at a' (.code .ret::k')) cs w')
 |.bad _=>True
def Eb(P:Program)(G:Nat)(nt:Nat)(b:FB)(src dst:List Item->List Item)(go:L2->H->RC):Prop:=
 ∀(σ:Dx) (f:L2) (a:Act) (h:H) (w:World) (f':L2) (h':H) (r:RC),go f h=r->Fin r f' h'->St G σ nt f a h w->RBk b σ f->h'.nx<=Bq->Fx σ h h' ->
  ∃c a' w',St G c nt f' a' h' w'/\RBk b c f'/\Out G σ h w c h' w'/\Ends P b src dst a w c r a' w'
def Ends.head{src d dst}{r}(l:∀k cs,step P (lone (b.at a (src k)) cs w)=.next (lone (b.at a (d k)) cs w))(c:Ends P b d dst a w σ' r a' w'):Ends P b src dst a w σ' r a' w':=by cases r with
|bad n=>trivial
|Bt f h=>exact λk cs hc=>.head (l k _) (c k _ hc)
|ext id f h=>obtain⟨m,j,c⟩:=c;exact⟨_,j,λk cs hc=>by obtain⟨k',h1,e⟩:=c k _ hc;exact⟨_,h1,.head (l k _) e⟩⟩
|ret f h=>exact λk cs hc=>by obtain⟨k',e⟩:=c k _ hc;exact⟨_,.head (l k _) e⟩
def Ends.pre{src d dst}{r}{p}{m}(l:∀k cs,Calm b cs->Steps P (lone (b.at a (src k)) cs w) (lone (b.at p (d k)) cs m))(c:Ends P b d dst p m σ' r a' w'):Ends P b src dst a w σ' r a' w':=by cases r with
|bad n=>trivial
|Bt f h=>exact λk cs hc=>(l k _ hc).trans (c k _ hc)
|ext id f h=>obtain⟨q,j,c⟩:=c;exact⟨_,j,λk cs hc=>by obtain⟨k',h1,e⟩:=c k _ hc;exact⟨_,h1,(l k _ hc).trans e⟩⟩
|ret f h=>exact λk cs hc=>by obtain⟨k',e⟩:=c k _ hc;exact⟨_,(l k _ hc).trans e⟩
def Eb.head{src c dst}{go}(t:∀a w k cs,step P (lone (b.at a (src k)) cs w)=.next (lone (b.at a (c k)) cs w))(n:Eb P G nt b c dst go):Eb P G nt b src dst go:=by intro σ f a h w f' h' r h1 j q l p d;obtain⟨x,a',w',m,u,s,e⟩:=n _ f a h w _ _ r h1 j q l p d;exact⟨_,_,_,m,u,s,e.head (t a w)⟩
def Eb.andThen{src k dst}{go next}(t:Eb P G nt b src k go)
 (hnx:∀f h,Ei h (next f h)) (Aq9:Eb P G nt b k dst next):Eb P G nt b src dst λf h=>andThen next (go f h):=by intro σ f a h w f' h' r c l s q p m;dsimp at c;cases d:go f h with
 |bad n=>rw[d]at c;subst c;rcases l with hq|⟨_,hq⟩|hq<;>cases hq
 |Bt f1 h1=>
  rw[d]at c;have j:next ..=r:=c;have u:h1.nx<=h'.nx:=by refine hnx f1 _ f' _ ?_;rw[j];exact l
  obtain⟨J,K,I,A,E,x,C⟩:=t _ f a h w _ _ _ d (.inl rfl) s q om (m.left u);obtain⟨L,a2,w2,B,z,p3,y⟩:=Aq9 _ _ _ _ _ _ _ r j l A E p (m.right x);exact⟨_,_,_,B,z,x.trans p3 p,Ends.pre C y⟩
 |ext id f1 h1=>
  rw[d]at c;have j:=c;subst j;have e:f1=f'/\h1=h':=by rcases l with hq|⟨_,hq⟩|hq<;>cases hq;simp
  obtain⟨rfl,rfl⟩:=e;exact t _ f a h w _ _ _ d (.inr (.inl ⟨_,rfl⟩)) s q p m
 |ret f1 h1=>
  rw[d]at c;have j:=c;subst j;have e:f1=f'/\h1=h':=by rcases l with hq|⟨_,hq⟩|hq<;>cases hq;simp
  obtain⟨rfl,rfl⟩:=e;exact t _ f a h w _ _ _ d (.inr (.inr rfl)) s q p m
def O7{c}{h1}(d:Fin (.Bt c h1) f' h'):f'=c/\h'=h1:=by rcases d with hq|⟨_,hq⟩|hq<;>cases hq;simp
def Ul{i}{c}{h1}(d:Fin (.ext i c h1) f' h'):f'=c/\h'=h1:=by rcases d with hq|⟨_,hq⟩|hq<;>cases hq;simp
def Abx{c}{h1}(d:Fin (.ret c h1) f' h'):f'=c/\h'=h1:=by rcases d with hq|⟨_,hq⟩|hq<;>cases hq;simp
def I5{n}(c:Fin (.bad n) f' h'):False:=by rcases c with hq|⟨_,hq⟩|hq<;>cases hq
def Code.src(c:Code)(k:List Item):List Item:=.code c::k
def Aih{src dst}(j:∀a w k cs,step P (lone (b.at a (src k)) cs w)=.next (lone (b.at a (dst k)) cs w)):Eb P G nt b src dst RC.Bt:=by intro σ f a h w f' h' r d l c e n m;subst d;obtain⟨rfl,rfl⟩:=O7 l;exact⟨_,a,w,c,e,Out.refl c.ai c.so c.ma,λk cs _=>.one (j a w k _)⟩
def Aiw(hc:Bd P G Z)(R:P.follows .mixedOrders=true){id:Nat}{ops:Array Oper}{t:Bool}(S:codeOk G nt (.region id ops t)=true)(B:nt<250):
 Eb P G nt b (Code.src (.region id ops t)) (λk=>k) (exec (.region id ops t) P Z):=by
 have A:(Bool.rec false (Bool.rec true (Yx ops) t) (ops.toList.all (Gl G nt)):Bool)=true:=S;cases L:ops.toList.all (Gl G nt)with
 |false=>rw[L]at A;cases A
 |true=>
  rw[L]at A;have c:∀x∈ops.toList,Gl G nt x=true:=Od.1 L;intro σ f a h w f' h' r Q q J y E C;cases t with
  |false=>
   have p:G3 P Z ops ops.toList f h=r:=Q;have I:∀n,r≠.bad n:=λn hn=>by subst hn;exact I5 q
   by_cases K:∃i f' h',r=.ext i f' h'
   .obtain⟨i,O,h1,rfl⟩:=K;obtain⟨rfl,rfl⟩:=Ul q;obtain⟨rfl,l,a',w',M,d,m,e,j,q5⟩:=Amb (b:=b) hc c B ops.toList 0 rfl σ f a h w _ _ _ p J y E C;refine⟨l,a',w',d,m,e,M,λ_=>j,λk cs s=>?_⟩;obtain⟨rest,z⟩:=q5 k cs s;rw[ew,<- Sb]at z;exact⟨.inRegion ops rest::k,rfl,.head Adg (by rw[FB.Uq];exact z)⟩
   obtain⟨O,h1,rfl,W⟩:=AeM (b:=b) hc c B ops.toList 0 rfl σ f a h w r p I (λi f' h' hn=>K ⟨i,f',h',hn⟩) J y;obtain⟨rfl,rfl⟩:=O7 q;obtain⟨l,a',w',d,m,e,j⟩:=W E C;refine⟨l,a',w',d,m,e,λk cs s=>?_⟩;refine .head Adg ?_;have:=j k cs s;rw[ew,<- Sb]at this;exact this.trans (.one Tv)
  |true=>
   have p:Gk P Z ops f h=r:=Q;have u:Yx ops=true:=A;have I:∀n,r≠.bad n:=λn hn=>by subst hn;exact I5 q
   rcases(AlM p I).2 with⟨_,O,h1,rfl⟩|⟨T,V,O,h1,K,rfl⟩
   .obtain⟨rfl,rfl⟩:=O7 q;obtain⟨l,a',w',d,m,e,j⟩:=Ahp hc R u c B p J y E C id;exact⟨l,a',w',d,m,e,j⟩
   .obtain⟨rfl,rfl⟩:=Ul q;obtain⟨rfl,l,a',w',M,d,m,e,j,q5⟩:=BfX hc R u c B (AlM p I).1 T K J y E C id;refine⟨l,a',w',d,m,e,M,λ_=>j,λk cs s=>?_⟩;obtain⟨rest,z⟩:=q5 k cs s;exact⟨.inRegion ops rest::k,rfl,by rw[FB.Uq];exact z⟩
def Am7{x y:Code}(De:Es G p=true)(J:Eb P G nt b (Code.src x) (λk=>k) (exec x P Z))(E:Eb P G nt b (Code.src y) (λk=>k) (exec y P Z)):
 Eb P G nt b (Code.src (.cond p x y)) (λk=>k) (exec (.cond p x y) P Z):=by
 intro σ f a h w f' h' r C e d B A s;have n:Al2 (ev p f) (exec x) (exec y) P Z f h=r:=C;have I:=Cj d.fr d.gl p De;generalize ev p f=u at *
 generalize z:a.eval p=cc at *
 cases I;case bool t=>
  cases t with
  |true=>obtain⟨c,a',w',l,q,m,j⟩:=J σ f a h w f' h' r n e d B A s;exact⟨c,a',w',l,q,m,j.head (λk cs=>ArW z)⟩
  |false=>obtain⟨c,a',w',l,q,m,j⟩:=E σ f a h w f' h' r n e d B A s;exact⟨c,a',w',l,q,m,j.head (λk cs=>ArW z)⟩
 all_goals exact(I5 (by rw[<- n]at e;exact e)).elim
def Aek{id}{src}{go}(O:id≠Em)(A:Eb P G nt b src (λk=>k) go):Eb P G nt b (λk=>src (.inBlock id::k)) (λk=>k) λf h=>inBlock id (go f h):=by intro σ f a h w f' h' r M t z u y x;have e:inBlock ..=r:=M;cases j:go f h with
|bad n=>rw[j]at e;subst e;exact(I5 t).elim
|Bt f1 h1=>rw[j]at e;subst e;obtain⟨rfl,rfl⟩:=O7 t;obtain⟨J,a',w',m,q,p,c⟩:=A _ f a h w _ _ _ j (.inl rfl) z u y x;exact⟨_,_,_,m,q,p,λk cs l=>(c _ _ l).trans (.one Aoa)⟩
|ext i f1 h1=>rw[j]at e;have B:@Bool.rec (λ_=>RC) _ ..=r:=e;cases d:Nat.beq i _ with
 |true=>
  rw[d]at B;have C:=Ch d;subst C B;obtain⟨rfl,rfl⟩:=O7 t;obtain⟨J,a',w',m,q,p,c⟩:=A _ f a h w _ _ _ j (.inr (.inl ⟨i,rfl⟩)) z u y x;obtain⟨K,_,c⟩:=c;refine⟨_,_,_,m,q,p,λk cs l=>?_⟩;obtain⟨k',h1,s⟩:=c (.inBlock i::k) _ l;rw[FB.N8 O]at s;have I:exitTo i k'=some k:=by rw[h1];simp[exitTo]
  exact s.trans (.one (AzH I))
 |false=>rw[d]at B;have L:=Ho d;subst B;obtain⟨rfl,rfl⟩:=Ul t;obtain⟨J,a',w',m,q,p,c⟩:=A _ f a h w _ _ _ j (.inr (.inl ⟨i,rfl⟩)) z u y x;obtain⟨K,E,c⟩:=c;refine⟨_,_,_,m,q,p,_,E,λk cs l=>?_⟩;obtain⟨k',h1,s⟩:=c _ _ l;refine⟨_,?_,s⟩;rw[h1];simp[exitTo,Ne.symm L]
|ret f1 h1=>rw[j]at e;subst e;obtain⟨rfl,rfl⟩:=Abx t;obtain⟨J,a',w',m,q,p,c⟩:=A _ f a h w _ _ _ j (.inr (.inr rfl)) z u y x;exact⟨_,_,_,m,q,p,λk cs l=>by obtain⟨k',s⟩:=c (.inBlock id::k) _ l;grind⟩
def Ajv{id}{c}(e:id≠Em)(d:Eb P G nt b (Code.src c) (λk=>k) (exec c P Z)):Eb P G nt b (Code.src (.block id c)) (λk=>k) (exec (.block id c) P Z):=
 Eb.head (λa w k cs=>Amg) (Aek e d)
def Eb.under{src dst}{go} i(hi:∀id,i≠.inBlock id)(s:Eb P G nt b src dst go):Eb P G nt b (λk=>src (i::k)) (λk=>dst (i::k)) go:=by intro σ f a h w f' h' r h1 l u m t e;obtain⟨z,a',w',q,y,x,c⟩:=s _ f a h w _ _ r h1 l u m t e;refine⟨_,_,_,q,y,x,?_⟩;cases r with
|bad n=>trivial
|Bt f h=>exact λk cs=>c _ _
|ext id f h=>obtain⟨A,d,c⟩:=c;refine⟨_,d,λk cs hc=>?_⟩;obtain⟨k',j,p⟩:=c _ _ hc;refine⟨_,?_,p⟩;rw[j];cases i<;>first|rfl|grind
|ret f h=>exact λk cs=>c _ _
def Ans(hc:Dw Z){c}(e:Eb P G nt b (Code.src c) (λk=>k) (exec c P Z)) n:
 Eb P G nt b (λk=>.code c::.inLoop c::k) (λk=>.inLoop c::k) (Yd (exec c) P Z n):=by induction n with
 |zero=>exact e.under _ λid j=>by grind
 |succ n d=>exact Eb.andThen d (AcK (Lt hc c) n) (d.head λa w k cs=>ArX)
def Nw(c:Option Code)(f:L2)(h:H)(r:RC):Prop:=
 match c with
 |none=>r=.Bt f h
 |some .ret=>r=.ret f h
 |some (.exit id)=>id≠Em/\r=.ext id f h
 |_=>False
def AeD{e}{r}(c:Z4 e f h=r)(j:∀n,r≠.bad n):Nw e f h r:=by
 unfold Z4 at c;unfold Nw;split at c;. grind
 .grind
 .cases d:Nat.beq .. with
  |true=>rw[d]at c;grind
  |false=>rw[d]at c;exact⟨Ho d,c.symm⟩
 grind
def Adc(hc:Bd P G Z){g:FuncId}{args:uw}{An:Array Value}{fr:L2}{tmps:Array Value}{p:Array Tmp}{as bd:Code}{fnid:FuncId}{dfb:Nat}{r:RC}(Ke:Bg P g=true)
 (hs:Ms G σ h w) (hg:Vm G σ) (Z3:∀t,t<250->Au σ (fr.get t) (tmps.getD t undef)) (Fc:tmps.size<250) (hps:∀d∈p.toList,d<tmps.size) (h1:codeOk G tmps.size as=true) (h2:codeOk G tmps.size bd=true)
 (he:Mn f h.nx (Z.call g args (h.new (.loop 0 none fr p.toList as bd)))=r) (Cg:Fin r f' h') (hl:h'.nx<=Bq) (hf:Fx σ h h')
 (Ow:∀L e,Qq σ L->L h.nx=some e->e.c=w.heap.size->Bk L args An.toList):
 f'=f/\∃σ' w' w2 Q lp,Out G σ h w σ' h' w'/\(∀c cs,Steps P (lone (Frame.enter P g An .normal) (c::cs) (Dd w (.loop { state:=.ready,pending:=none,fn:=fnid,tmps,params:=p,assign:=as,body:=bd,defers:=dfb }))) (lone (c.finish Q) cs w2)) /\
  w2.heap[w.heap.size]?=some (.loop lp)/\lp.state≠.busy/\w'=Cc w2 w.heap.size (.loop { lp with state:=.exhausted })/\Nw lp.pending f h' r:=by
 have k:∀n,r≠.bad n:=λn hn=>by subst hn;exact I5 Cg
 unfold Mn at he;split at he
 .rename_i Q j Rq;split at he
  .rename_i st B m u s q Lr;rcases(show(Nat.beq st 1=true/\RC.bad 189=r)\/(Nat.beq st 1=false/\Z4 B f (j.put h.nx (.loop 3 B m u s q))=r)by
    cases W:Nat.beq st 1 with
    |true=>rw[W]at he;exact .inl ⟨rfl,he⟩
    |false=>rw[W]at he;exact .inr ⟨rfl,he⟩)with⟨_,hq⟩|⟨Vt,hq⟩
   .exact absurd hq.symm (k _)
   .have hj:=AeD hq k;have S:f'=f/\h'=j.put h.nx (.loop 3 B m u s q):=by
     unfold Nw at hj;split at hj
     .subst hj;exact O7 Cg
     .subst hj;exact Abx Cg
     .obtain⟨_,rfl⟩:=hj;exact Ul Cg
     .exact hj.elim
    obtain⟨rfl,rfl⟩:=S;refine⟨rfl,?_⟩;have R:(h.new (.loop 0 none fr p.toList as bd)).nx<=j.nx:=hc.mono.call _ _ _ _ _ Rq;have Bb3:h.nx+1<=j.nx:=R;have Y:j.nx<=Bq:=hl;have B6:h.nx<Bq:=by omega
    have A:σ h.nx=none:=hf h.nx (Ye _) (by show h.nx<j.nx;omega)
    have y:=Ip (e:=⟨w.heap.size,0,none⟩) A;have O:Out G σ h w (Gu σ h.nx ⟨w.heap.size,0,none⟩) (h.new (.loop 0 none fr p.toList as bd)) (Dd w (.loop { state:=.ready,pending:=none,fn:=fnid,tmps,params:=p,assign:=as,body:=bd,defers:=dfb })):=by refine Yf hs.ai hs.so hs.ma B6 A rfl rfl ?_;refine⟨rfl,_,F1 w _,rfl,rfl,λt ht=>(Z3 t ht).mono y,rfl,rfl,rfl,Fc,h1,h2,hps⟩
    have J:Fx (Gu σ h.nx ⟨w.heap.size,0,none⟩) (h.new (.loop 0 none fr p.toList as bd)) j:=Fx.right (h:=h) (h':=j) (λx M V=>hf x M V) O;have K:=Ow (Gu σ h.nx ⟨w.heap.size,0,none⟩) ⟨w.heap.size,0,none⟩ y (by simp[Gu]) rfl;obtain⟨C,I,w2,a2,fn,M,V,p3,p4,p5,p6⟩:=hc.call g args _ j Q _ _ An .normal Rq Ke K O.ms (hg.mono y) Y J;have z:C h.nx=some ⟨w.heap.size,0,none⟩:=p3.le _ _ (by simp[Gu]);have Ha:=p3.ms.ma h.nx _ z;rw[Lr]at Ha;obtain⟨hk,lp,T,b2,X,b4,b5,b6,b7,b8,b9,Wz,E⟩:=Ha;have S6:Out G C j w2 C (j.put h.nx (.loop 3 B m u s q)) (Cc w2 w.heap.size (.loop { lp with state:=.exhausted })):=by refine Hh (e:=⟨w.heap.size,0,none⟩) p3.ms.ai p3.ms.so p3.ms.ma z Lr (by intro l;cases l) (by intro n l;cases l) rfl rfl hk (by intro n l;cases l) ?_;refine⟨hk,{ lp with state:=.exhausted },?_,rfl,X,b4,b5,b6,b7,b8,b9,Wz,E⟩;rw[Da,Xo ⟨rfl,Dj T⟩]
    refine⟨C,_,w2,I,lp,?_,?_,T,?_,rfl,?_⟩
    .exact(O.trans p3 Y).trans S6 hl
    .intro c cs;obtain⟨k',p7⟩:=p6 (c::cs) (.inl rfl);exact p7.trans (.one (ArV p4 rfl M p5))
    .rw[b2];intro l;unfold Akf at l;split at l<;>first|(cases l;done)|skip
     cases Vt
    .rw[X];exact hj
  .exact absurd he.symm (k _)
 .exact absurd he.symm (k _)
 .exact absurd he.symm (k _)
def Xt(b:FB) a l k v:(b.at a (.inRangeFunc l::k)).finish v=b.at a (.endRangeFunc l::k):=rfl
def Aev{c}{r}{src}(hj:Nw c f h r)(e:∀k cs,Calm b cs->Steps P (lone (b.at a (src k)) cs w) (lone (b.at a' ((c.map Item.code).toList++k)) cs w')):
 Ends P b src (λk=>k) a w σ' r a' w':=by
 unfold Nw at hj;split at hj;. subst hj;exact e
 .subst hj;exact λk cs hc=>⟨k,e k _ hc⟩
 .obtain⟨d,rfl⟩:=hj;exact⟨undef,λj=>absurd j d,λk cs hc=>⟨k,rfl,by rw[FB.N8 d];simp_all⟩⟩
 grind
def AdQ(hc:Dw Z){g}{args}{l}{r}(c:Mn f l (Z.call g args h)=r)(e:Fin r f' h'):h.nx<=h'.nx:=by
 have d:∀n,r≠.bad n:=λn hn=>by subst hn;exact I5 e
 unfold Mn at c;split at c
 .rename_i A u x;have t:=hc.call _ _ _ _ _ x;split at c;. rename_i st y q k m p z;cases s:Nat.beq _ 1 with
    |true=>rw[s]at c;grind
    |false=>
     rw[s]at c;have hj:=AeD (show Z4 _ f _=r from c) d;have j:f'=f/\h'=u.put l (.loop 3 y q k m p):=by
      unfold Nw at hj;split at hj;. subst hj;exact O7 e
      .subst hj;exact Abx e
      .obtain⟨_,rfl⟩:=hj;exact Ul e
      grind
     rw[j.2];exact t
  grind
 .exact absurd c.symm (d _)
 .exact absurd c.symm (d _)
def Aky(hc:Bd P G Z){s:Array Tmp}{as bd:Code}(Ix:nt<250)(Q:Es G p=true)(hps:∀d∈s.toList,d<nt)(h1:codeOk G nt as=true)(h2:codeOk G nt bd=true):
 Eb P G nt b (Code.src (.rangeFunc p s as bd)) (λk=>k) (exec (.rangeFunc p s as bd) P Z):=by
 intro σ f a h w f' h' r he Cg j hb hl hf;have z:∀n,r≠.bad n:=λn hn=>by subst hn;exact I5 Cg
 have m:AbV p s as bd (exec as) (exec bd) P Z f h=r:=he;have hv:=Cj j.fr j.gl p Q;have I:a.tmps.size=nt:=j.fr.size;unfold AbV at m;split at m
 .rename_i g fs cap ds u C;have u:=Aaq u;have C:=Aar C;rw[u]at hv;generalize Rr:a.eval p=xx at hv;cases hv;rename_i x X hy ha M L T;have y:b.ro=none:=by
   rcases hb with⟨q,_⟩|⟨_,c,l2,e,R,q2,_⟩
   .exact q
   .rw[q2]at C;cases C
  unfold Yu at m;cases J:Bg P g with
  |false=>rw[J]at m;exact absurd m.symm (z _)
  |true=>
   rw[J]at m;have Cs:Mn (f.set Br (.Bj (.map h.nx::ds))) (h.new (.dfr false)).nx (Z.call g (J0 (J0 fs [.fn (.yield (h.new (.dfr false)).nx) [] []]) cap) ((h.new (.dfr false)).new (.loop 0 none f s.toList as bd)))=r:=m;have Bb0:=AcL (P:=P) (h:=h) (f:=f) hc.mono p s as bd (exec as) (exec bd);have A4f:h.nx+1<=h'.nx:=by have:=AdQ hc.mono Cs Cg;exact Ol (U3 _) this
   have B6:h.nx<Bq:=by omega
   have A:σ h.nx=none:=hf h.nx (Ye _) om;have l:=Ip (e:=⟨w.heap.size,0,none⟩) A;have W:Out G σ h w (Gu σ h.nx ⟨w.heap.size,0,none⟩) (h.new (.dfr false)) (Dd w (.deferred (some []))):=by refine Yf j.ai j.so j.ma B6 A rfl rfl ?_;exact⟨rfl,F1 w _⟩
   have S:Fx (Gu σ h.nx ⟨w.heap.size,0,none⟩) (h.new (.dfr false)) h':=hf.right W;obtain⟨rfl,σ',w',w2,v2,lp,R,q2,q3,q4,q5,q6⟩:=Adc (fnid:=b.fn) (dfb:=w.heap.size) (An:=x.push (.func (.yield (w.heap.size+1)) #[] #[])++X) (tmps:=a.tmps) hc J W.ms (j.gl.mono l)
    (λt O=>(j.fr.slot t O).mono l) (by rw[I];exact Ix) (by rw[I];exact hps) (by rw[I];exact h1) (by rw[I];exact h2) Cs Cg hl S (by
     intro V e s1 s2 s3;have K:e.c=w.heap.size+1:=by rw[s3,size_push]
     rw[Dl,Dl];have l1:Bk V fs x.toList:=Bk.mono (l.trans s1) ⟨ha,M⟩;have l2:Bk V cap X.toList:=Bk.mono (l.trans s1) ⟨L,T⟩;have l3:Bk V [.fn (.yield (h.new (.dfr false)).nx) [] []] [.func (.yield (w.heap.size+1)) #[] #[]]:=by refine .cons ?_ (.nil _);rw[<- K];exact .yld _ e s2
     simpa using(l1.append l3).append l2)
   have A9g:(Dd w (.deferred (some []))).heap.size=w.heap.size+1:=size_push w _;rw[A9g]at q3 q5;have E:=W.trans R hl;refine⟨σ',⟨a.tmps,{ target:=.collected w.heap.size,args:=#[] }::a.defers⟩,w',?_,?_,E,?_⟩
   .refine j.next E ⟨j.fr.size,?_,?_⟩
    .intro t O;rw[L2.Dh Br t _ f fe om,X2 (by intro hh;have h1:t=255:=hh;omega)];exact(j.fr.slot t O).mono E.le
    .rw[L2.Dh Br Br _ f fe fe,Xo rfl];have B:=j.fr.defers;rw[C]at B;refine .cons _ _ _ _ (.mk h.nx ⟨w.heap.size,0,none⟩ (R.le _ _ (by simp[Gu]))) (B.mono E.le)
   .exact .inl ⟨y,_,by rw[L2.Dh Br Br _ f fe fe,Xo rfl]⟩
   .refine Aev q6 (λk cs Hq=>?_);refine .head (AuG (args:=x.push (.func (.yield (w.heap.size+1)) #[] #[])++X) (w2:=Dd (Dd w (.deferred (some []))) (.loop { state:=.ready,pending:=none,fn:=b.fn,tmps:=a.tmps,params:=s,assign:=as,body:=bd,defers:=w.heap.size })) y Rr (λw1 Y=>?_)) ?_
    .rw[Y];exact Ih J _ _
    .refine(q2 _ cs).trans ?_;rw[Xt,q5];exact .one (AeP q3 q4)
 .exact absurd m.symm (z _)
def Q2{c x:Bool}(d:(Bool.rec false x c:Bool)=true):c=true/\x=true:=by
 cases c with
 |false=>cases d
 |true=>exact⟨rfl,d⟩
def Np(hc:Bd P G Z)(P5:P.follows .mixedOrders=true)(Ix:nt<250) c:codeOk G nt c=true->Eb P G nt b (Code.src c) (λk=>k) (exec c P Z):=by induction c with
|skip=>exact λ_=>Aih λa w k cs=>AzI
|region id ops dr=>exact λm=>Aiw hc P5 m Ix
|seq x y I C=>
 intro m;obtain⟨h1,L⟩:=Q2 (show @Bool.rec (λ_=>Bool) _ ..=true from m);have hx:=(I h1).under (.code y) λid K=>by cases K
 have:=Eb.andThen hx (Lt hc.mono y) (C L);exact this.head λa w k cs=>Aw0
|cond c x y I C=>intro m;obtain⟨X,W⟩:=Q2 (show @Bool.rec (λ_=>Bool) _ ..=true from m);obtain⟨h1,L⟩:=Q2 W;exact Am7 X (I h1) (C L)
|block id c R=>intro m;have V:@Bool.rec (λ_=>Bool) _ ..=true:=m;cases S:Nat.beq id Em with
 |true=>simp_all
 |false=>rw[S]at V;exact Ajv (Ho S) (R V)
|loop c R=>intro m;have A:=Ans hc.mono (R m) 20;intro σ f a h w f' h' r s p j t Q z;have e:andThen _ (Yd (exec c) P _ _ f h)=r:=s;cases J:Yd _ P _ _ f h with
 |bad n=>rw[J]at e;subst e;exact(I5 p).elim
 |Bt f1 h1=>rw[J]at e;subst e;exact(I5 p).elim
 |ext i f1 h1=>rw[J]at e;obtain⟨σ',a',w',M,T,O,q⟩:=A _ f a h w _ _ r (by rw[J];exact e) p j t Q z;refine⟨_,_,_,M,T,O,?_⟩;subst e;obtain⟨pv,E,q⟩:=q;exact⟨_,E,λk cs u=>by obtain⟨k',Y,B⟩:=q k _ u;exact⟨_,Y,.head ArY B⟩⟩
 |ret f1 h1=>rw[J]at e;obtain⟨σ',a',w',M,T,O,q⟩:=A _ f a h w _ _ r (by rw[J];exact e) p j t Q z;refine⟨_,_,_,M,T,O,?_⟩;subst e;exact λk cs u=>by obtain⟨k',B⟩:=q k _ u;exact⟨_,.head ArY B⟩
|rangeFunc x ps as bd Rs ihb=>intro m;obtain⟨X,W⟩:=Q2 (show @Bool.rec (λ_=>Bool) _ ..=true from m);obtain⟨h1,L⟩:=Q2 W;obtain⟨h3,h4⟩:=Q2 L;exact Aky hc Ix X (λd hd=>Ec (Od.1 h1 d hd)) h3 h4
|exit id=>
 intro m σ f a h w f' h' r s p j t A z;have S:id≠Em:=by have V:=m;intro K;subst K;cases V
 have e:=s;subst e;obtain⟨rfl,rfl⟩:=Ul p;exact⟨_,a,w,j,t,Out.refl j.ai j.so j.ma,undef,λK=>absurd K S,λk cs _=>⟨k,rfl,by rw[FB.N8 S];exact .refl P _⟩⟩
|scope c R=>intro m σ f a h w f' h' r s p j t A z;obtain⟨σ',a',w',M,T,O,q⟩:=(R m).under (.inScope c) λid K=>by grind _ f a h w _ _ r s p j t A z;refine⟨_,_,_,M,T,O,?_⟩;cases r with
 |bad n=>trivial
 |Bt f1 h1=>exact λk cs u=>.head AbB ((q k _ u).trans (.one AeQ))
 |ext i f1 h1=>obtain⟨pv,E,q⟩:=q;exact⟨_,E,λk cs u=>by obtain⟨k',Y,B⟩:=q k _ u;exact⟨_,Y,.head AbB B⟩⟩
 |ret f1 h1=>exact λk cs u=>by obtain⟨k',B⟩:=q k _ u;exact⟨_,.head AbB B⟩
|label l=>exact λ_=>Aih λa w k cs=>AuE
|goto l=>intro _ σ f a h w f' h' r s p j t A z;have e:=s;subst e;exact(I5 p).elim
|ret=>intro _ σ f a h w f' h' r s p j t A z;have e:=s;subst e;obtain⟨rfl,rfl⟩:=Abx p;exact⟨_,a,w,j,t,Out.refl j.ai j.so j.ma,λk cs _=>⟨k,.refl P _⟩⟩
|refuse why=>intro _ σ f a h w f' h' r s p j t A z;have e:=s;subst e;exact(I5 p).elim
def Pg:∀l n f,n+l.length<=250->∀t,t<256->(Eu l n f).get t=if n<=t/\t<n+l.length then l[t-n]?.getD .top else f.get t:=by intro l;induction l with
|nil=>intro n f _ t _;rw[X2 (by simp)];rfl
|cons x l d=>intro n f hn t c;simp at hn;show(Eu l ..).get t=_;rw[d _ _ om t c,L2.Dh n t x f om c];grind
def Zr{args:uw}{An:Array Value}(e:Bk σ args An.toList)(j:args.length<=nt)(k:nt<250):Pt σ nt (Eu args 0 Az) ⟨An++Array.replicate (nt-An.size) undef,[]⟩:=by
 have l:An.size=args.length:=by have:=e.1;simp_all
 refine⟨by grind,?_,?_⟩
 .intro t m;rw[Pg args 0 Az om t om];by_cases h1:t<args.length
  .rw[Xo om,ew,Oh h1,C8];have c:(An++Array.replicate (nt-An.size) undef).getD t undef=An[t]' om:=by rw[Ak,bt om,S2 om,C8]
   rw[c];exact e.2 t _ _ (Oh h1) (by simp_all)
  .rw[X2 om];have c:(An++Array.replicate (nt-An.size) undef).getD t undef=undef:=by rw[Ak,Array.getElem?_append_right om];grind
   rw[c];unfold Az;rw[L2.Dh _ t _ _ fe om,X2 (by intro d;have h1:t=255:=d;omega),L2.Xw];exact L6 _
 .rw[Pg _ 0 _ om _ fe,X2 (by intro d;have h1:255<0+args.length:=d.2;omega)];exact .nil
def A7Z{rs}{r}(d:Aby P Z rs r=.ok v h'):∃c h1,(r=.Bt c h1\/r=.ret c h1)/\finish P Z rs c h1=.ok v h'\/∃id,r=.ext id c h1/\M8 P Z rs id c h1=.ok v h':=by cases r with
|bad n=>cases d
|Bt c h1=>exact⟨_,_,.inl ⟨.inl rfl,d⟩⟩
|ext i c h1=>exact⟨_,_,.inr ⟨i,rfl,d⟩⟩
|ret c h1=>exact⟨_,_,.inl ⟨.inr rfl,d⟩⟩
def Ack{rs}(c:finish P Z rs f h=.Hb v h'):False:=by
 unfold finish at c;split at c;. rename_i ds _;cases d:D3 P Z ds h with
   |bad n=>simp_all
   |ok e=>rw[d]at c;exact Aa8 c
 grind
def ApT{rs}{r}(d:Aby P Z rs r=.Hb v h'):∃c,r=.ext Em c h'/\c.get Br=.Bj []/\v=c.get Jv:=by cases r with
|bad n=>cases d
|Bt c h1=>exact(Ack d).elim
|ext i c h1=>obtain⟨rfl,e,j,rfl⟩:=Aht d;grind
|ret c h1=>exact(Ack d).elim
def V7(hc:Bd P G Z)(tmps:Array Value):∀(ds:uw) (σ:Dx) (h h':H) (w:World) (x:List Deferred),D3 P Z ds h=.ok h'->Afd σ (.Bj ds) x->Ms G σ h w->Vm G σ->h'.nx<=Bq->Fx σ h h' ->
 ∃σ' w',Out G σ h w σ' h' w'/\∀(b:FB) k cs,Steps P (lone (b.back ⟨tmps,x⟩ k) cs w) (lone (b.back ⟨tmps,[]⟩ k) cs w'):=by intro ds;induction ds with
 |nil=>intro σ h h' w x t hd j y q z;cases t;cases hd;exact⟨σ,w,Out.refl j.ai j.so j.ma,λb k cs=>.refl P _⟩
 |cons d ds V=>intro σ h h' w x t hd j y q z;cases hd;rename_i d' I C s;unfold D3 at t;cases C with
  |fn g as cs A D7 ha B=>have l:(Bool.rec (.bad 195) (match Z.call g (J0 as cs) h with|.ok _ h'=>D3 P Z ds h'|.bad n=>.bad n|.Hb _ _=>.bad 211) (Bg P g):RH)=.ok h':=t;cases L:Bg P g with
   |false=>simp_all
   |true=>rw[L]at l;cases O:Z.call g (J0 as cs) h with
    |bad n=>grind
    |Hb v1 h1=>simp_all
    |ok v1 h1=>rw[O]at l;have T:D3 P Z ds h1=.ok h':=l;have K:h1.nx<=h'.nx:=H2 hc.mono ds h1 h' T;have Be8:h.nx<=h1.nx:=hc.mono.call _ _ _ _ _ O;obtain⟨σ1,v',w1,a1,fn,p1,p2,p3,p4,Y,p6⟩:=hc.call g (J0 as cs) h h1 v1 σ w (A++D7) .deferred O L (by rw[Dl];simpa using ha.append B) j y om (z.left K);obtain⟨W,w2,E,M⟩:=V σ1 h1 h' w1 I T (s.mono p3.le) p3.ms (y.mono p3.le) q (z.right p3);refine⟨W,w2,p3.trans E q,λb k p=>?_⟩;refine .head (AuD rfl (Ih L ..)) ?_;obtain⟨k',p7⟩:=p6 (b.back _ k::p) (.inr ⟨rfl,_,_,rfl,.inl rfl⟩);exact p7.trans (.head (AuC p4 rfl rfl p1 Y) (M b k _))
  |mk r e S=>
   have l:(match h.m.get r with|.dfr false=>D3 P _ ..|_=>.bad _)=RH.ok _:=t;split at l
   .rename_i X;have R:=j.ma r e S;rw[X]at R;obtain⟨Q,hh⟩:=R;have u:=hh;have J:Out G σ h w σ (h.put r (.dfr true)) (Cc w e.c (.deferred none)):=by refine Hh j.ai j.so j.ma S X (by simp) (by simp) rfl rfl Q (by grind) ⟨Q,?_⟩;rw[Da,Xo ⟨rfl,Dj u⟩];rfl
    obtain⟨W,w2,E,M⟩:=V _ _ _ _ _ l s J.ms y q (z.right J);exact⟨_,_,J.trans E q,λb k p=>.head (AuI rfl u) (M b k _)⟩
   simp_all
def Aak(tmps:Array Value)(r:ResultVar):Sem Value:=match r with|.tmp t=>pure (tmps.getD t undef)|.cell x t=>do loadVar t (<- asAddr (tmps.getD x undef))
def Ak0 fn tmps:results fn tmps=(do let c <- fn.results.mapM (Aak tmps);pure (if h:c.size=1 then c[0]else .tuple c)):=rfl
def Agd(m:∀t,t<250->Au σ (f.get t) (a.tmps.getD t undef))(O:Ms G σ h w):∀(rs:List ResultVar) (l:uw),(∀r∈rs,Amd r=true)->Oe P f h rs=some l ->
 ∃k:List Value,Bk σ l k/\(rs.mapM (Aak a.tmps)).run P w=.ok k w:=by intro rs;induction rs with
 |nil=>intro l _ j;cases j;exact⟨[],.nil σ,by simp⟩
 |cons r rs B=>intro l n j;cases r with
  |tmp t=>
   unfold Oe at j;split at j;. rename_i l1 z;cases j;obtain⟨k,p,C⟩:=B l1 (λr s=>n r (by grind)) z;have E:t<250:=Ec (show Nat.blt t 250=true from n (.tmp t) (by simp));refine⟨_::k,.cons (m t E) p,?_⟩;simp[P9,Aak,C]
   grind
  |cell x t=>
   unfold Oe at j;split at j
   .rename_i S l1 d z;cases j;obtain⟨k,p,C⟩:=B l1 (λr s=>n r (by simp[*])) z;have M:x<250:=Ec (show Nat.blt x 250=true from n (.cell x t) (by simp));have u:=m x M;unfold AyY at d;split at d
    .rename_i y off q;have q:=P2 q;rw[q]at u;generalize I:a.tmps.getD x undef=xx at u;cases u;rename_i e A;split at d
     .rename_i c L;obtain⟨arr,tt,fz,h1,R,T,J⟩:=No L (O.ma y e A);obtain⟨v',s,Q⟩:=AhN (P:=P) (e:=e) d h1 om J;refine⟨v'::k,.cons Q p,?_⟩;have K:(Aak a.tmps (.cell x t)).run P w=.ok v' w:=by simp only[Aak,I];simpa[asAddr]using s
      simp_all
     grind
    grind
   simp_all
def AkA{d:List Value}(e:Bk σ C d):Au σ (single C) (if h:d.toArray.size=1 then d.toArray[0]else .tuple d.toArray):=by
 unfold single;split;. rename_i x;obtain⟨y,p,rfl,m,c⟩:=e.F8;have:=c.Rt;grind
 .rename_i j;have c:=e.1;rw[dif_neg];. exact .Bj C _ om λi x y k n=>e.2 i x y k om
  .intro h1;match C,c,j with
   |[x],_,j=>simp_all
   |[],c,_=>simp_all
   |x::y::C,c,_=>grind
def Tq{fn}{l}(c:∀t,t<250->Au σ (f.get t) (a.tmps.getD t undef))(d:Ms G σ h w)(e:∀r∈fn.results.toList,Amd r=true)(j:Oe P f h fn.results.toList=some l):
 ∃v',(results fn a.tmps).run P w=.ok v' w/\Au σ (single l) v':=by obtain⟨m,k,n⟩:=Agd c d _ l e j;refine⟨_,?_,AkA k⟩;rw[Ak0,Sem.run_bind,ed];simp[*]
def Aag{g:FuncId}{fn}{c}(d:Mv P=true)(n:P.funcs[g]?=some fn)(l:fn.body=some c):fn.ntmps<250/\(∀r∈fn.results.toList,Amd r=true)/\codeOk P.globals.size fn.ntmps c=true:=by
 have k:fn∈P.funcs.toList:=by grind
 have:=Od.1 d _ k;unfold A3c at this;rw[l]at this;obtain⟨h1,e⟩:=Q2 this;obtain⟨m,j⟩:=Q2 e;exact⟨Ec h1,Od.1 m,j⟩
def AuR{g}{r}(c:Agk g r=.ok v h'):r=.ok v h':=by cases r with
|bad n=>cases c
|ok v1 h1=>exact c
|Hb v1 h1=>cases c
def Asl{g}{r}(c:Agk g r=.Hb v h'):r=.Hb v h':=by cases r with
|bad n=>cases c
|ok v1 h1=>cases c
|Hb v1 h1=>exact c
def Acm{args}(d:args.length<=nt)(e:nt<250):(Eu args 0 Az).get Br=.Bj []:=by rw[Pg _ 0 _ om _ fe,X2 (by intro c;have h1:255<0+args.length:=c.2;omega)];rfl
def AnR:Code->List Item->List Item
|.seq a b,k=>AnR a (.code b::k)
|.scope a,k=>AnR a (.inScope a::k)
|.block id a,k=>AnR a (.inBlock id::k)
|_,k=>k
def H6:Code->Array Oper
|.region _ ops _=>ops
|.seq a _=>H6 a
|.scope a=>H6 a
|.block _ a=>H6 a
|_=>#[]
def AnT{d}:∀c,AaT c=some d->∀a k cs w,
 Steps P (lone (b.at a (.code c::k)) cs w) (lone (b.at a (.inRegion (H6 c) (List.range (H6 c).size)::AnR c k)) cs w):=by intro c;induction c with
 |region id ops m=>intro e a k cs w;cases m with
  |false=>exact .one Adg
  |true=>cases e
 |seq x y l _=>exact λe a k cs w=>.head Aw0 (l e a _ _ w)
 |scope x j=>exact λe a k cs w=>.head AbB (j e a _ _ w)
 |block id x j=>exact λe a k cs w=>.head Amg (j e a _ _ w)
 |_=>intro e;cases e
def AzE{d}:∀c,AaT c=some d->∃o,(H6 c)[0]?=some o/\Amc o=some d:=by intro c;induction c with
|region id ops p=>intro j;cases p with
 |false=>
  have e:(match ops.toList with|o::_=>Amc o|[]=>none)=some d:=j;split at e;. rename_i o l n;refine⟨o,?_,e⟩;show ops[0]?=some o;rw[<- Rd,n];rfl
  grind
 |true=>cases j
|seq x y m _=>exact m
|scope x k=>exact k
|block id x k=>exact k
|_=>intro j;cases j
def ArM{d}:∀c,AaT c=some d->codeOk G nt c=true->∀x∈(H6 c).toList,Gl G nt x=true:=by intro c;induction c with
|region id ops p=>intro e j;have k:=j;exact Od.1 (Q2 k).1
|seq x y m _=>intro e j;exact m e (Q2 (show @Bool.rec (λ_=>Bool) _ ..=true from j)).1
|scope x l=>exact l
|block id x l=>intro e j;have k:@Bool.rec (λ_=>Bool) _ ..=true:=j;cases n:Nat.beq id Em with
 |true=>simp_all
 |false=>rw[n]at k;exact l e k
|_=>intro e;cases e
def Aj8(hc:Bd P G Z)(P5:P.follows .mixedOrders=true)(K:nt<250){d}:∀c,AaT c=some d->codeOk G nt c=true ->
 Eb P G nt b (λk=>.inRegion (H6 c) (List.range' 1 ((H6 c).size-1))::AnR c k) (λk=>k) (Xn c P Z):=by intro c;induction c with
 |region id ops Y=>intro e j;have s:=ArM _ e j;cases Y with
  |true=>cases e
  |false=>
   intro σ f a h w f' h' r L u I A E C;have Q:=L;have J:∀n,r≠.bad n:=λn hn=>by subst hn;exact I5 u
   by_cases m:∃i f' h',r=.ext i f' h';. obtain⟨i,B,h1,rfl⟩:=m;obtain⟨rfl,rfl⟩:=Ul u;obtain⟨rfl,T,a',w',pv,q,z,t,l,q5⟩:=Amb hc s K _ 1 rfl _ f a h w _ _ _ Q I A E C;refine⟨_,_,_,q,z,t,_,λ_=>l,λk cs p=>?_⟩;obtain⟨rest,X⟩:=q5 k _ p;exact⟨.inRegion ..::k,rfl,X⟩
   obtain⟨B,h1,rfl,Vr⟩:=AeM hc s K _ 1 rfl _ f a h w r Q J (λi f' h' hn=>m ⟨i,_,_,hn⟩) I A;obtain⟨rfl,rfl⟩:=O7 u;obtain⟨T,a',w',q,z,t,l⟩:=Vr E C;exact⟨_,_,_,q,z,t,λk cs p=>(l k _ p).trans (.one Tv)⟩
 |seq x y O _=>
  intro e j;obtain⟨h1,W⟩:=Q2 (show @Bool.rec (λ_=>Bool) _ ..=true from j);have m:=(O e h1).under (.code y) λid S=>by cases S
  exact Eb.andThen m (Lt hc.mono y) (Np hc P5 K y W)
 |scope x M=>
  intro e j;have m:=(M e j).under (.inScope x) λid S=>by grind
  intro σ f a h w f' h' r L u I A E C;obtain⟨T,a',w',q,z,t,l⟩:=m _ f a h w _ _ r L u I A E C;refine⟨_,_,_,q,z,t,?_⟩;cases r with
  |bad n=>trivial
  |Bt B h1=>exact λk cs p=>(l k _ p).trans (.one AeQ)
  |ext i B h1=>exact l
  |ret B h1=>exact l
 |block id x M=>intro e j;have R:@Bool.rec (λ_=>Bool) _ ..=true:=j;cases V:Nat.beq id Em with
  |true=>simp_all
  |false=>rw[V]at R;exact Aek (Ho V) (M e R)
 |_=>intro e;cases e
def AgY(hc:Bd P P.globals.size Z)(P5:P.follows .mixedOrders=true)(hp:Mv P=true){g:FuncId}{args:uw}{An:Array Value}{T:AV}{s:Value}(z:Aen P Z g args v h=.ok T h')(Ke:Bg P g=true)
 (Ow:Bk σ args An.toList) (hv:Au σ v s) (hm:Ms P.globals.size σ h w) (hg:Vm P.globals.size σ) (hl:h'.nx<=Bq) (hf:Fx σ h h'):
 ∃σ' w',Out P.globals.size σ h w σ' h' w'/\∀(b2:FB) (a2:Act) (k2:List Item) (cs:List Frame),b2.ro=none->Steps P (lone (Frame.enter P g An .deferred) (b2.Hb a2 k2 s false::cs) w) (lone (b2.back a2 k2) cs w'):=by
 obtain⟨fn,c,j,Q,_⟩:=O3 Ke;obtain⟨C,S,I⟩:=Aag hp j Q;unfold Aen at z;have hfi:Ln P g=some ⟨c,fn.ntmps,fn.results.toList⟩:=by unfold Ln;rw[j];dsimp only;rw[Q]
 rw[hfi]at z;dsimp only at z;split at z
 .rename_i d M;rcases Bl z with⟨hle,m⟩|⟨_,m⟩
  .have B:args.length<=fn.ntmps:=by have:=G2 hle;rwa[Gh]at this
   have V:∃e h1,(Xn c P Z (Im d v (Eu args 0 Az)) h=.Bt e h1\/Xn c P Z (Im d v (Eu args 0 Az)) h=.ret e h1)/\finish P Z fn.results.toList e h1=.ok T h':=by cases hq:Xn c P Z (Im d v (Eu args 0 Az)) h with
    |bad n=>rw[hq]at m;cases m
    |Bt e h1=>rw[hq]at m;exact⟨e,h1,.inl rfl,m⟩
    |ext i e h1=>rw[hq]at m;cases m
    |ret e h1=>rw[hq]at m;exact⟨e,h1,.inr rfl,m⟩
   obtain⟨e,h1,p,r⟩:=V;have Y:=Zr (nt:=fn.ntmps) Ow B C;obtain⟨o,A,hoo⟩:=AzE c M;have X:=ArM (G:=P.globals.size) (nt:=fn.ntmps) c M I;have W:o∈(H6 c).toList:=Ua.2 (dk A);obtain⟨_,M9⟩:=Lu (X o W);have A8R:o.dst=d/\o.guard=none/\∃c:Call,o.op=.call c/\c.callee=.builtin .recover:=by unfold Amc at hoo;grind
   obtain⟨rfl,O,cl,De,Ox⟩:=A8R;have A85:=Y.put M9 C hv;have Cg:Fin (Xn c P Z (Im o.dst v (Eu args 0 Az)) h) e h1:=by
    rcases p with p|p;. exact .inl p
    .exact .inr (.inr p)
   have Ay5:(Im o.dst v (Eu args 0 Az)).get Br=.Bj []:=by rw[Mm (λu hu=>ab (M9 u hu) C) Br fe,X2 (λhh=>by have h1:(255:Nat)<fn.ntmps:=M9 255 hh;omega)];exact Acm B C
   unfold finish at r;split at r;. rename_i ds W5;have W5:=Aar W5;cases L:D3 P Z ds h1 with
     |bad n=>rw[L]at r;cases r
     |ok J=>
      rw[L]at r;have q:Gg P fn.results.toList e J=.ok T h':=r;unfold Gg at q;split at q
      .rename_i l R;obtain⟨rfl,rfl⟩:=B4 q;have Anc:h1.nx<=J.nx:=H2 hc.mono ds h1 J L;obtain⟨σ1,a1,w1,x,q2,q3,K⟩:=Aj8 (b:=⟨g,.deferred,none⟩) hc P5 C c M I σ _ ((⟨An++Array.replicate (fn.ntmps-An.size) undef,[]⟩:Act).put o.dst s) h w e h1 _ rfl Cg
        ⟨A85,hg,hm.ai,hm.so,hm.ma⟩ (.inl ⟨rfl,[],Ay5⟩) om (hf.left Anc);have E:=x.fr.defers;rw[W5]at E;have Wi:Frame.enter P g An .deferred=FB.at ⟨g,.deferred,none⟩ ⟨An++Array.replicate (fn.ntmps-An.size) undef,[]⟩ [.code c]:=by simp[Frame.enter,FB.at,j,Q]
       obtain⟨σ2,w2,r1,r2⟩:=V7 hc a1.tmps ds σ1 h1 J w1 a1.defers L E ⟨x.ai,x.so,x.ma⟩ x.gl hl (hf.right q3);obtain⟨v',r3,r4⟩:=Tq (a:=⟨a1.tmps,[]⟩) (λt ht=>(x.fr.slot t ht).mono r1.le) r1.ms S R;refine⟨σ2,w2,q3.trans r1 hl,λb2 a2 k2 cs Wg=>?_⟩;rw[Wi];have Fc:0<(H6 c).size:=by grind
       have Z2:List.range (H6 c).size=0::List.range' 1 ((H6 c).size-1):=by
        rw[Sb];have:(H6 c).size=((H6 c).size-1)+1:=by omega
        rw[this,eo];simp
       have Du:∀a:Act,(execOp a.eval o).run P w=.ok .recover w:=by intro a;obtain⟨dst,op,ty,pos,af,gd⟩:=o;obtain⟨cal,ca,ct⟩:=cl;dsimp only at De Ox;subst De;subst Ox;simp[execOp,resolve,invoke,builtin]
       have e1:=AnT (P:=P) (b:=⟨g,.deferred,none⟩) c M ⟨An++Array.replicate (fn.ntmps-An.size) undef,[]⟩ [] (b2.Hb a2 k2 s false::cs) w;rw[Z2]at e1;have X5:∀y,Region.wanted o y=true:=by intro y;unfold Region.wanted;rw[O]
       have e2:=Ak6 (P:=P) (b:=⟨g,.deferred,none⟩) (a:=⟨An++Array.replicate (fn.ntmps-An.size) undef,[]⟩) (k:=AnR c []) (cs:=cs) (w:=w) (rest:=List.range' 1 ((H6 c).size-1)) (b2:=b2) (a2:=a2) (k2:=k2) (v:=s) A (X5 _) rfl rfl (Du _);have X1:Calm ⟨g,.deferred,none⟩ (b2.Hb a2 k2 s true::cs):=.inr ⟨rfl,_,_,rfl,.inr ⟨s,rfl⟩⟩;refine e1.trans (.head e2 ?_);rcases p with p|p;. rw[p]at K;exact(K [] _ X1).trans (.head (Awy rfl) ((r2 ⟨g,.deferred,none⟩ [] _).trans (.one (Amf rfl rfl j r3 Wg))))
       .rw[p]at K;obtain⟨k',q5⟩:=K [] _ X1;exact q5.trans (.head (Awz rfl) ((r2 ⟨g,.deferred,none⟩ (.code .ret::k') _).trans (.one (Amf rfl rfl j r3 Wg))))
      .cases q
   .cases r
  .cases m
 .cases z
def Am4(hc:Bd P P.globals.size Z)(P5:P.follows .mixedOrders=true)(S:Mv P=true):AkQ P P.globals.size ⟨Fy P Z,Io P Z⟩:=by
 intro g args h h' v σ w An Y Ke C u K W T;obtain⟨fn,c,d,k,_⟩:=O3 Ke;obtain⟨p,M,y⟩:=Aag S d k;have m:Fy P Z g args h=.Hb v h':=Y;unfold Fy at m;have z:Ln P g=some ⟨c,fn.ntmps,fn.results.toList⟩:=by unfold Ln;rw[d];dsimp only;rw[k]
 rw[z]at m;have A:AbW P Z g args h ⟨c,fn.ntmps,fn.results.toList⟩=.Hb v h':=m;unfold AbW at A;rcases X8 A with⟨x,n⟩|⟨_,n⟩
 .obtain⟨O,X,l,rfl⟩:=ApT (Asl n);have j:args.length<=fn.ntmps:=by have:=G2 x;rwa[Gh]at this
  have r:=Zr (nt:=fn.ntmps) C j p;have J:Frame.enter P g An .normal=FB.at ⟨g,.normal,none⟩ ⟨An++Array.replicate (fn.ntmps-An.size) undef,[]⟩ [.code c]:=by simp[Frame.enter,FB.at,d,k]
  obtain⟨V,B,E,Q,q2,R,q⟩:=Np (b:=⟨g,.normal,none⟩) hc P5 p c y σ (Eu args 0 Az) ⟨An++Array.replicate (fn.ntmps-An.size) undef,[]⟩ h w O h' _ X (.inr (.inl ⟨_,rfl⟩))
   ⟨r,K,u.ai,u.so,u.ma⟩ (.inl ⟨rfl,[],Acm j p⟩) W T
  obtain⟨L,s,q⟩:=q;have e:=Q.fr.defers;rw[l]at e;have t:B.defers=[]:=by generalize B.defers=dd at e;cases e;rfl
  refine⟨V,L,E,s rfl,R,λI cs=>?_⟩;rw[J];obtain⟨k',_,q5⟩:=q [] (I::cs) (.inl rfl);rw[FB.Uq]at q5;exact q5.trans (.one (ArZ t d))
 .cases n
def AgX(hc:Bd P P.globals.size Z)(P5:P.follows .mixedOrders=true)(hp:Mv P=true):Aed P P.globals.size ⟨Fy P Z,Io P Z⟩:=by
 intro g args h h' v σ w An kind he Ke Ow A hg R I;obtain⟨fn,c,j,L,_⟩:=O3 Ke;obtain⟨Q,E,K⟩:=Aag hp j L;have Et:Fy P Z g args h=.ok v h':=he;unfold Fy at Et;have hfi:Ln P g=some ⟨c,fn.ntmps,fn.results.toList⟩:=by unfold Ln;rw[j];dsimp only;rw[L]
 rw[hfi]at Et;have Cs:AbW P Z g args h ⟨c,fn.ntmps,fn.results.toList⟩=.ok v h':=Et;unfold AbW at Cs;rcases Bl Cs with⟨hle,Fv⟩|⟨_,Fv⟩
 .have he4:=AuR Fv;have B:args.length<=fn.ntmps:=by have:=G2 hle;rwa[Gh]at this
  have J:=Zr (nt:=fn.ntmps) Ow B Q;obtain⟨O,h1,⟨k,u⟩|⟨id,k,hfx⟩⟩:=A7Z he4;rotate_left
  .obtain⟨rfl,g2,as2,BcL,ds,v1,x,hds,C,hcr,Be9,z,A8B,m⟩:=Acj hfx;obtain⟨σ1,q,T,e,q2,y,r⟩:=Np (b:=⟨g,kind,none⟩) hc P5 Q c K σ (Eu args 0 Az) ⟨An++Array.replicate (fn.ntmps-An.size) undef,[]⟩ h w O h1 _ k (.inr (.inl ⟨_,rfl⟩))
    ⟨J,hg,A.ai,A.so,A.ma⟩ (.inl ⟨rfl,[],Acm B Q⟩) om (I.left om)
   obtain⟨pv,hpv,r⟩:=r;have d:=e.fr.defers;rw[hds]at d;generalize V:q.defers=dd at d;cases d;rename_i d' ds' hde d;cases hde;rename_i X D7 ha Y;obtain⟨σ2,w2,r1,S⟩:=AgY (w:=T) (An:=X++D7) hc P5 hp hcr C (by rw[Dl];simpa using ha.append Y) (hpv rfl) ⟨e.ai,e.so,e.ma⟩ e.gl om ((I.right y).left A8B);obtain⟨σ3,w3,s1,s2⟩:=V7 hc q.tmps ds σ2 x h' w2 ds' z (d.mono r1.le) r1.ms (e.gl.mono r1.le) R ((I.right y).right r1);unfold Gg at m;split at m
   .rename_i l s;obtain⟨rfl,_⟩:=B4 m;obtain⟨v',W,r4⟩:=Tq (a:=⟨q.tmps,[]⟩) (λt ht=>((e.fr.slot t ht).mono r1.le).mono s1.le) s1.ms E s;have Wi:Frame.enter P g An kind=FB.at ⟨g,kind,none⟩ ⟨An++Array.replicate (fn.ntmps-An.size) undef,[]⟩ [.code c]:=by simp[Frame.enter,FB.at,j,L]
    refine⟨σ3,v',w3,⟨q.tmps,[]⟩,fn,j,r4,(y.trans r1 om).trans s1 R,rfl,W,λcs M=>?_⟩;rw[Wi];obtain⟨k',_,q5⟩:=r [] cs M;rw[FB.Uq]at q5;exact⟨k',q5.trans (.head (Ak4 V (Ih C _ _)) ((S _ _ _ cs rfl).trans (s2 ⟨g,kind,none⟩ k' cs)))⟩
   .cases m
  have Cg:Fin (exec c P Z (Eu args 0 Az) h) O h1:=by
   rcases k with k|k
   .exact .inl k
   .exact .inr (.inr k)
  have Ay5:(Eu args 0 Az).get Br=.Bj []:=by rw[Pg args 0 Az om Br fe,X2 (by intro hh;have h1:(255:Nat)<0+args.length:=hh.2;omega)];unfold Az;rw[L2.Dh Br Br _ _ fe fe,Xo rfl]
  unfold finish at u;split at u
  .rename_i ds W5;have W5:=Aar W5;cases z:D3 P Z ds h1 with
   |bad n=>rw[z]at u;cases u
   |ok x=>
    rw[z]at u;have p:Gg P fn.results.toList O x=.ok v h':=u;unfold Gg at p;split at p
    .rename_i l s;obtain⟨rfl,rfl⟩:=B4 p;have Anc:h1.nx<=x.nx:=H2 hc.mono ds h1 x z;obtain⟨σ1,q,T,e,q2,y,r⟩:=Np (b:=⟨g,kind,none⟩) hc P5 Q c K σ (Eu args 0 Az) ⟨An++Array.replicate (fn.ntmps-An.size) undef,[]⟩ h w O h1 _ rfl Cg
      ⟨J,hg,A.ai,A.so,A.ma⟩ (.inl ⟨rfl,[],Ay5⟩) om (I.left Anc)
     have d:=e.fr.defers;rw[W5]at d;have Wi:Frame.enter P g An kind=FB.at ⟨g,kind,none⟩ ⟨An++Array.replicate (fn.ntmps-An.size) undef,[]⟩ [.code c]:=by simp[Frame.enter,FB.at,j,L]
     obtain⟨σ2,w2,r1,S⟩:=V7 hc q.tmps ds σ1 h1 x T q.defers z d ⟨e.ai,e.so,e.ma⟩ e.gl R (I.right y);obtain⟨v',W,r4⟩:=Tq (a:=⟨q.tmps,[]⟩) (λt ht=>(e.fr.slot t ht).mono r1.le) r1.ms E s;refine⟨σ2,v',w2,⟨q.tmps,[]⟩,fn,j,r4,y.trans r1 R,rfl,W,λcs M=>?_⟩;rw[Wi];rcases k with k|k
     .rw[k]at r;exact⟨_,(r [] cs M).trans (.head (Awy rfl) (S _ _ cs))⟩
     .rw[k]at r;obtain⟨k',q5⟩:=r [] cs M;exact⟨_,q5.trans (.head (Awz rfl) (S _ _ cs))⟩
    .cases p
  .cases u
 .cases Fv
def AdZ:∀(c:uq) (args:uw) (j:List Value) (f f':L2) (tmps:Array Value),Uz c args f=some f'->Bk σ args j->(∀d∈c,d<tmps.size)->tmps.size<250->(∀t,t<250->Au σ (f.get t) (tmps.getD t undef)) ->
 j.length=c.length/\((c.zip j).foldl (λtmps (p:Nat × Value)=>tmps.setIfInBounds p.1 p.2) tmps).size=tmps.size /\
  (∀t,t<250->Au σ (f'.get t) (((c.zip j).foldl (λtmps (p:Nat × Value)=>tmps.setIfInBounds p.1 p.2) tmps).getD t undef))/\f'.get Br=f.get Br:=by
 intro c;induction c with
 |nil=>
  intro args j f f' tmps k m hd s n;cases args with
  |nil=>cases k;have:=m.Rt;subst this;exact⟨rfl,rfl,n,rfl⟩
  |cons x l=>cases k
 |cons t c L=>
  intro args j f f' tmps k m hd s n;cases args with
  |nil=>cases k
  |cons x l=>
   obtain⟨y,q,rfl,M,I⟩:=m.F8;have A:Uz c l (f.set t x)=some f':=k;have z:t<tmps.size:=hd t (by simp);obtain⟨B,O,C,E⟩:=L l q (f.set t x) f' (tmps.setIfInBounds t y) A I (λd r=>by simp;exact hd d (by simp[r])) (by simpa using s) (by
    intro u K;rw[L2.Dh t u x f om om];by_cases e:u=t
    .subst e;rw[Xo rfl];have:(tmps.setIfInBounds u y).getD u undef=y:=by simp[Array.getD,z]
     rw[this];exact M
    .rw[X2 e];have:(tmps.setIfInBounds t y).getD u undef=tmps.getD u undef:=by simp only[Ak];rw[aj (Ne.symm e)]
     rw[this];exact n u K)
   refine⟨by simp[B],?_,?_,?_⟩
   .simp only[List.zip_cons_cons,du];rw[O];simp
   .simpa only[List.zip_cons_cons,du]using C
   .rw[E,L2.Dh t Br x f om fe,X2 (by intro J;have h1:(255:Nat)=t:=J;omega)]
def ArO{l id:Nat}{e:L2}{h1:H}(j:Agg l (.ext id e h1)=.ok v h'):id≠Em/\endRound l (some (.exit id)) h1=.ok v h':=by
 have c:(Bool.rec (endRound l (some (.exit id)) h1) (.bad 223) (Nat.beq id Em):OR)=.ok v h':=j;cases d:Nat.beq id Em with
 |true=>rw[d]at c;cases c
 |false=>rw[d]at c;exact⟨Ho d,c⟩
def Qv{l:Nat}{j:Option Code}(c:endRound l j h=.Hb v h'):False:=by unfold endRound at c;split at c<;>cases c
def Ak1{l:Nat}{args:uw}(c:Io P Z l args h=.Hb v h'):False:=by
 unfold Io at c;split at c
 .split at c
  .rename_i f0 _;generalize andThen _ _=r at c;cases r with
   |bad n=>cases c
   |Bt f1 h1=>exact Qv c
   |ext id f1 h1=>rcases X8 c with⟨_,hq⟩|⟨_,hq⟩;cases hq;exact Qv hq
   |ret f1 h1=>exact Qv c
  .cases c
 .cases c
def Agf(hc:Bd P P.globals.size Z)(P5:P.follows .mixedOrders=true):AbL P P.globals.size ⟨Fy P Z,Io P Z⟩:=by
 intro l args h h' v σ w An e he Z3 Ow hm hg hl hf;have I:Io P Z l args h=.ok v h':=he;unfold Io at I;split at I
 .rename_i st Lw fr ps as j Lr;split at I
  .rename_i f0 A8S;have Ha:=hm.ma l e Z3;rw[Lr]at Ha;obtain⟨hk,lp,b1,b2,b3,b4,b5,b6,b7,b8,b9,Wz,b11⟩:=Ha;have A8z:∀t,t<250->Au σ ((fr.set Br (.map l)).get t) (lp.tmps.getD t undef):=by intro t ht;rw[L2.Dh Br t _ fr fe om,X2 (by intro hh;have h1:t=255:=hh;omega)];exact b4 t ht
   obtain⟨s1,s2,s3,s4⟩:=AdZ ps args An.toList _ f0 lp.tmps A8S Ow b11 b8 A8z;have hds:f0.get Br=.map l:=by rw[s4,L2.Dh Br Br _ fr fe fe,Xo rfl]
   generalize htm:((ps.zip An.toList).foldl (λtmps (p:Nat × Value)=>tmps.setIfInBounds p.1 p.2) lp.tmps)=tm at s2 s3;have AyS:(Instr.yield e.c An).run P w=.ok (.round e.c lp.fn tm lp.assign lp.body) w:=by
    have Fc:An.size=lp.params.size:=by
     have x:lp.params.toList.length=ps.length:=by rw[b5]
     simp at x s1;omega
    have A3H:(lp.params.zip An).foldl (λtmps (p:Tmp × Value)=>tmps.setIfInBounds p.1 p.2) lp.tmps=tm:=by rw[<- htm,<- b5,<- Array.foldl_toList,Array.toList_zip]
    simp[Instr.yield,Instr.getLoop,getObj,Sem.run,b1,Fc];rw[<- A3H];congr 1;simp[Fc]
   have X:St P.globals.size σ lp.tmps.size f0 ⟨tm,[]⟩ h w:=⟨⟨s2,s3,by rw[hds];exact .round l e Z3⟩,hg,hm.ai,hm.so,hm.ma⟩;have Sz:RBk ⟨lp.fn,.normal,some e.c⟩ σ f0:=.inr ⟨rfl,e.c,l,e,rfl,hds,Z3,rfl⟩;have AyN:Frame.round e.c lp.fn tm lp.assign lp.body .normal=FB.at ⟨lp.fn,.normal,some e.c⟩ ⟨tm,[]⟩ [.code as,.beginRound,.code j]:=by rw[b6,b7];rfl
   have Qz:∀(u:Dx) (h1:H) (E:World) (J:Act) (d:Option Code),endRound l d h1=.ok v h'->Out P.globals.size σ h w u h1 E ->
    (∀c cs,∃k,(k=[]/\d=none\/(∃k',k=.code .ret::k'/\d=some .ret)\/∃id k',k=.code (.exit id)::k'/\exitTo id k'=none/\d=some (.exit id)) /\
     Steps P (lone (FB.at ⟨lp.fn,.normal,some e.c⟩ ⟨tm,[]⟩ [.code as,.beginRound,.code j]) (c::cs) w) (lone (FB.at ⟨lp.fn,.normal,some e.c⟩ J k) (c::cs) E)) ->
    ∃σ' v' w' g tmps as bd,Au σ' v v'/\Out P.globals.size σ h w σ' h' w'/\(Instr.yield e.c An).run P w=.ok (.round e.c g tmps as bd) w /\
     ∀c cs,Steps P (lone (Frame.round e.c g tmps as bd .normal) (c::cs) w) (lone (c.finish v') cs w'):=by
    intro u h1 E J d r ho Vt;unfold endRound at r;split at r
    .rename_i st2 Bcd fr2 ps2 as2 bd2 AvX;obtain⟨n,hh',hn,hvv⟩:∃n,h'=h1.put l (.loop n d fr2 ps2 as2 bd2)/\Akf n=(if d.isNone then .ready else .done)/\v=.bool d.isNone:=by obtain⟨x,h3⟩:=B4 r;exact⟨_,h3.symm,by cases d<;>rfl,x.symm⟩
     have L:=ho.le _ _ Z3;have M:=ho.ms.ma l e L;rw[AvX]at M;obtain⟨Q,B,c1,c2,c3,c4,c5,c6,c7,c8,c9,W,c11⟩:=M;have S6:Out P.globals.size u h1 E u h' (Cc E e.c (.loop { B with state:=if d.isNone then .ready else .done,pending:=d })):=by rw[hh'];refine Hh ho.ms.ai ho.ms.so ho.ms.ma L AvX (by intro q;cases q) (by intro n q;cases q) rfl rfl Q (by intro n q;cases q) ?_;exact⟨Q,{ B with state:=if d.isNone then .ready else .done,pending:=d },by rw[Da,Xo ⟨rfl,Dj c1⟩],hn.symm,rfl,c4,c5,c6,c7,c8,c9,W,c11⟩
     refine⟨u,.bool d.isNone,_,lp.fn,tm,lp.assign,lp.body,by rw[hvv];exact .bool _,ho.trans S6 hl,AyS,λc cs=>?_⟩;rw[AyN];obtain⟨k,p1,K⟩:=Vt c cs;exact K.trans (.one (Ak3 rfl rfl c1 p1))
    .cases r
   have O:∀(h1:H) (d:Option Code),endRound l d h1=.ok v h'->h1.nx<=h'.nx:=by
    intro h1 d r;unfold endRound at r;split at r
    .obtain⟨_,rfl⟩:=B4 r;exact Ye _
    .cases r
   have X1:∀cs,Calm ⟨lp.fn,.normal,some e.c⟩ cs:=λcs=>.inl rfl;have AqF:=Np (b:=⟨lp.fn,.normal,some e.c⟩) hc P5 b8 as b9;have V:=Np (b:=⟨lp.fn,.normal,some e.c⟩) hc P5 b8 j Wz;cases Y:exec as P Z f0 h with
   |bad n=>rw[Y]at I;cases I
   |ext id f1 h1=>rw[Y]at I;obtain⟨Qm,s⟩:=ArO I;have m:=O h1 _ s;obtain⟨u,J,E,q1,q2,R,pv,hpv,q4⟩:=AqF σ f0 ⟨tm,[]⟩ h w f1 h1 _ Y (.inr (.inl ⟨id,rfl⟩)) X Sz om (hf.left m);refine Qz u h1 E J _ s R (λc cs=>?_);obtain⟨k',p1,K⟩:=q4 [.beginRound,.code j] (c::cs) (X1 _);rw[FB.N8 Qm]at K;exact⟨_,.inr (.inr ⟨id,k',rfl,by rw[p1];rfl,rfl⟩),K⟩
   |ret f1 h1=>rw[Y]at I;have s:endRound l (some .ret) h1=.ok v h':=I;have m:=O h1 _ s;obtain⟨u,J,E,q1,q2,R,q4⟩:=AqF σ f0 ⟨tm,[]⟩ h w f1 h1 _ Y (.inr (.inr rfl)) X Sz om (hf.left m);refine Qz u h1 E J _ s R (λc cs=>?_);obtain⟨k',K⟩:=q4 [.beginRound,.code j] (c::cs) (X1 _);exact⟨_,.inr (.inl ⟨k',rfl,rfl⟩),K⟩
   |Bt f1 h1=>
    rw[Y]at I;have s:Agg l (Age P Z l j f1 h1)=.ok v h':=I;unfold Age at s;split at s
    .rename_i C fr1 y z A AvW;have Anc:h1.nx<=h'.nx:=by have:=AaN (h:=h1.put l (.loop 1 C fr1 y z A)) l (Lt (P:=P) hc.mono j f1 (h1.put l (.loop 1 C fr1 y z A)));exact this v h' s
     obtain⟨u,J,E,q1,q2,R,q4⟩:=AqF σ f0 ⟨tm,[]⟩ h w f1 h1 _ Y (.inl rfl) X Sz om (hf.left Anc);have L:=R.le _ _ Z3;have M:=R.ms.ma l e L;rw[AvW]at M;obtain⟨Q,B,c1,c2,c3,c4,c5,c6,c7,c8,c9,W,c11⟩:=M;have S6:Out P.globals.size u h1 E u (h1.put l (.loop 1 C fr1 y z A)) (Cc E e.c (.loop { B with state:=.busy })):=by refine Hh R.ms.ai R.ms.so R.ms.ma L AvW (by intro q;cases q) (by intro n q;cases q) rfl rfl Q (by intro n q;cases q) ?_;exact⟨Q,{ B with state:=.busy },by rw[Da,Xo ⟨rfl,Dj c1⟩],rfl,c3,c4,c5,c6,c7,c8,c9,W,c11⟩
     have S:=R.trans S6 (show(h1.put l (.loop 1 C fr1 y z A)).nx<=Bq from Ol Anc hl)
     have AyR:St P.globals.size u lp.tmps.size f1 J (h1.put l (.loop 1 C fr1 y z A)) (Cc E e.c (.loop { B with state:=.busy })):=q1.next S6 q1.fr;have Ayx:∀c cs,Steps P (lone (FB.at ⟨lp.fn,.normal,some e.c⟩ ⟨tm,[]⟩ [.code as,.beginRound,.code j]) (c::cs) w) (lone (FB.at ⟨lp.fn,.normal,some e.c⟩ J [.code j]) (c::cs) (Cc E e.c (.loop { B with state:=.busy }))):=
      λc cs=>(q4 [.beginRound,.code j] (c::cs) (X1 _)).trans (.one (Agi rfl c1 c2))
     have AjM:Fx u (h1.put l (.loop 1 C fr1 y z A)) h':=hf.right S;cases hB:exec j P Z f1 (h1.put l (.loop 1 C fr1 y z A))with
     |bad n=>rw[hB]at s;cases s
     |Bt f2 x=>rw[hB]at s;have T:endRound l none x=.ok v h':=s;have m:=O x _ T;obtain⟨σ2,a2,w2,r1,r2,r3,r4⟩:=V u f1 J _ _ f2 x _ hB (.inl rfl) AyR q2 om (AjM.left m);refine Qz σ2 x w2 a2 _ T (S.trans r3 om) (λc cs=>?_);exact⟨_,.inl ⟨rfl,rfl⟩,(Ayx c cs).trans (r4 [] (c::cs) (X1 _))⟩
     |ext id f2 x=>rw[hB]at s;obtain⟨Qm,T⟩:=ArO s;have m:=O x _ T;obtain⟨σ2,a2,w2,r1,r2,r3,pv,hpv,r4⟩:=V u f1 J _ _ f2 x _ hB (.inr (.inl ⟨id,rfl⟩)) AyR q2 om (AjM.left m);refine Qz σ2 x w2 a2 _ T (S.trans r3 om) (λc cs=>?_);obtain⟨k',p1,K⟩:=r4 [] (c::cs) (X1 _);rw[FB.N8 Qm]at K;exact⟨_,.inr (.inr ⟨id,k',rfl,by rw[p1];rfl,rfl⟩),(Ayx c cs).trans K⟩
     |ret f2 x=>rw[hB]at s;have T:endRound l (some .ret) x=.ok v h':=s;have m:=O x _ T;obtain⟨σ2,a2,w2,r1,r2,r3,r4⟩:=V u f1 J _ _ f2 x _ hB (.inr (.inr rfl)) AyR q2 om (AjM.left m);refine Qz σ2 x w2 a2 _ T (S.trans r3 om) (λc cs=>?_);obtain⟨k',K⟩:=r4 [] (c::cs) (X1 _);exact⟨_,.inr (.inl ⟨k',rfl,rfl⟩),(Ayx c cs).trans K⟩
    .cases s
  .cases I
 .cases I
def ApK(hc:Bd P P.globals.size Z)(c:P.follows .mixedOrders=true)(d:Mv P=true)(e:Dw ⟨Fy P Z,Io P Z⟩):Bd P P.globals.size ⟨Fy P Z,Io P Z⟩:=
 ⟨AgX hc c d,Agf hc c,e,Am4 hc c d,λ_ _ _ _ _ j=>Ak1 j⟩
def AfW:Bd P G Q7:=
 ⟨λg args h h' v σ w An kind c=>(by cases c),λl args h h' v σ w An e c=>(by cases c),AeJ P 0,λg args h h' v σ w An c=>(by cases c),λl args h v h' c=>(by cases c)⟩
def Acd(e:P.follows .mixedOrders=true)(j:Mv P=true)(d:Nat):Bd P P.globals.size (A2N P d):=by
 induction d with
 |zero=>exact AfW
 |succ d c=>exact ApK c e j (AeJ P (d+1))
end Go.Ev
