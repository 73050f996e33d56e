/- The evaluator is right. -/
import Derived.Test.YtecikbfimlolcaaGreatDoorEvD
set_option linter.all false
noncomputable section
namespace Go.Ev
variable {j:RC}{p:Option Code}{I:Operand}{J:Code}
variable [Ii]
def Ru:List Oper->List Nat->List Nat
|[],acc=>acc
|o::os,acc=>Ru os (acc++[Ez acc o.after.toList])
def Uf:∀l c,(Ru l c).take c.length=c/\(Ru l c).length=c.length+l.length:=by intro l;induction l with
|nil=>intro c;exact⟨by simp[Ru],rfl⟩
|cons o l d=>
 intro c;obtain⟨h1,h2⟩:=d (c++[Ez c o.after.toList]);refine⟨?_,?_⟩;. show(Ru l _).take _=c;have:=Jh (List.take c.length) h1;grind
 .show(Ru l _).length=_;grind
def AeH{l}{i j}(c:i<j):Vf (l.take j) i=Vf l i:=by unfold Vf;grind
def AbO:∀l c k o,l[k]?=some o->Vf (Ru l c) (c.length+k)=Ez ((Ru l c).take (c.length+k)) o.after.toList:=by intro l;induction l with
|nil=>simp
|cons o l m=>intro c k x d;cases k with
 |zero=>simp at d;subst d;have h1:=(Uf l (c++[Ez c o.after.toList])).1;show Vf (Ru l _) _=Ez ((Ru l _).take _) _;have h2:=(Uf (o::l) c).1;have n:(Ru l _).take _=c:=h2;rw[Mz,n];have:=AeH (l:=Ru l (c++[Ez c o.after.toList])) (i:=c.length) (j:=(c++[Ez c o.after.toList]).length) (by simp);rw[<- this,h1];simp[Vf]
 |succ k=>
  have:=m (c++[Ez c o.after.toList]) k x (by grind);have e:(c++[Ez c o.after.toList]).length+k=c.length+k+1:=by grind
  rw[e]at this;exact this
def PR(ops:Array Oper):List Nat:=Ru ops.toList []
def Bef(ops:Array Oper)(j i:Nat):Prop:=(Vf (PR ops) i).testBit j=true
def AnN{d}{j}:∀c,(Ez d c).testBit j=true->∃e∈c,Region.binds .any e=true/\(e.on=j\/(Vf d e.on).testBit j=true):=by intro c;induction c with
|nil=>intro h;simp[Ez]at h
|cons e c l=>intro h;unfold Ez at h;cases k:Region.binds .any e with
 |false=>simp_all
 |true=>
  rw[k]at h;have h':(Ka _ ||| Vf .. ||| Ez ..).testBit j=true:=h;rw[cf,cf,ba,ba]at h';rcases h' with(h'|h')|h';. have:(2^e.on).testBit j=true:=h';grind
  .grind
  simp_all
def Bef.A2R{ops}(m:P6 ops){i j}{o}(n:ops[i]?=some o)(h:Bef ops j i):∃e∈o.after.toList,Region.binds .any e=true/\e.on<i/\(e.on=j\/Bef ops j e.on):=by
 have h1:=AbO ops.toList [] i o (by grind);simp[Gx,Rx]at h1;unfold Bef PR at h;rw[h1]at h;obtain⟨e,d,k,c⟩:=AnN _ h;have l:=m i o n e d k;refine⟨e,d,k,l,?_⟩;rcases c with c|c;. omega
 .rw[AeH l]at c;exact .inr c
def Bef.lt{ops}(c:P6 ops):∀{i j},i<ops.size->Bef ops j i->j<i:=by intro i;induction i using Nat.strongRecOn with
|_ i d=>intro j hi h;obtain⟨e,l,m,k,n⟩:=h.A2R c (S2 hi);grind
def V0(ops:Array Oper)(D:Nat->Bool):Prop:=∀(x:Nat) (o:Oper),ops[x]?=some o->D x=true->∀e∈o.after.toList,Region.binds .any e=true->D e.on=true
def Bef.done{ops}(k:P6 ops){D}(r:V0 ops D):∀{i} {o},ops[i]?=some o->(∀e∈o.after.toList,Region.binds .any e=true->D e.on=true)->∀j,Bef ops j i->D j=true:=by intro i;induction i using Nat.strongRecOn with
|_ i d=>
 intro o q n j h;obtain⟨e,m,p,l,c⟩:=h.A2R k q;rcases c with rfl|c;. grind
 .have hi:e.on<ops.size:=by grind
  exact d _ l (S2 hi) (r _ _ (S2 _) (n e m p)) j c
def ApN:∀l c k d,(M7 l c.length c)[k]?=some d->l[k]?=some d.o/\d.bit=Ka (c.length+k)/\d.pr=Vf (Ru l c) (c.length+k):=by intro l;induction l with
|nil=>intro c k d j;simp[M7]at j
|cons o l n=>intro c k d j;cases k with
 |zero=>simp[M7,dc,ef]at j;subst j;refine⟨rfl,rfl,?_⟩;have:=AbO (o::l) c 0 o rfl;rw[this,Mz,(Uf ..).1]
 |succ k=>
  simp only[M7,ay]at j;have e:Nat.succ c.length=(c++[Ez c o.after.toList]).length:=by simp
  rw[e]at j;obtain⟨h1,h2,m⟩:=n _ k d j;have p:(c++[Ez c o.after.toList]).length+k=c.length+k+1:=by omega
  rw[p]at h2 m;exact⟨by grind,h2,m⟩
def ApO:∀l i c,(M7 l i c).length=l.length:=by intro l;induction l with
|nil=>intro i c;rfl
|cons o l d=>simp[M7,d]
def Avb(pr:Nat)(o:Oper)(ops:Array Oper)(c:OB):Prop:=
 Nat.land pr c.bit≠0\/(Nat.land c.dst (Nat.lor (I4 o) (Iz ops o))=0/\Nat.land (I4 o) c.rd=0)
def Ajr{pr dst rd}{df}:∀c,Zk pr dst rd df c=true->∀d∈c,Nat.land pr d.bit≠0\/Nat.land d.dst (Nat.lor dst rd)=0/\Nat.land dst d.rd=0:=by intro c;induction c with
|nil=>simp
|cons x c k=>intro h d j;unfold Zk at h;cases hc:(Bool.rec true (Bool.rec false (Ib (Bool.rec df true x.df)) (M4 (Nat.lor (Nat.land x.dst (Nat.lor dst rd)) (Nat.land dst x.rd)))) (M4 (Nat.land pr x.bit)):Bool)with
 |false=>simp_all
 |true=>rw[hc]at h;cases j with
  |head=>cases l:M4 _ with
   |false=>exact .inl (Ho l)
   |true=>cases e:M4 (Nat.lor (Nat.land x.dst (Nat.lor dst rd)) (Nat.land dst x.rd))with
    |false=>simp_all
    |true=>have h0:=Ch e;simp_all
  |tail _ hm=>exact k h _ hm
def Aai{ops:Array Oper}:∀(l:List Oper) (c:List Nat) (d:List OB),Aiv ops l c.length c d=true->∀(k:Nat) (o:Oper),l[k]?=some o ->
 (∀e∈o.after.toList,Region.binds .any e=true->e.on<c.length+k)/\(∀p∈d,Avb (Vf (Ru l c) (c.length+k)) o ops p) /\
  ∀k' m,k'<k->l[k']?=some m->Avb (Vf (Ru l c) (c.length+k)) o ops ⟨Ka (c.length+k'),I4 m,Iz ops m,AhJ m.op⟩:=by intro l;induction l with
 |nil=>simp_all
 |cons x l B=>intro c d h k o t;unfold Aiv at h;cases hc:(@Bool.rec (λ_=>Bool) false (Zk (Ez c x.after.toList) (I4 x) (Iz ops x) (AhJ x.op) d) (x.after.toList.all λe=>Ib (Region.binds .any e)||Nat.blt e.on c.length):Bool)with
  |false=>simp_all
  |true=>
   rw[hc]at h;have h':Aiv ops l (Nat.succ c.length) (c++[Ez c x.after.toList]) (⟨Ka c.length,I4 x,Iz ops x,AhJ x.op⟩::d)=true:=h;have e:Nat.succ c.length=(c++[Ez c x.after.toList]).length:=by simp
   rw[e]at h';cases y:(x.after.toList.all λe=>Ib (Region.binds .any e)||Nat.blt e.on c.length)with
   |false=>simp_all
   |true=>rw[y]at hc;have s:Zk (Ez c x.after.toList) (I4 x) (Iz ops x) (AhJ x.op) d=true:=hc;cases k with
    |zero=>
     simp at t;subst t;have q:Vf (Ru (x::l) c) (c.length+0)=Ez c x.after.toList:=by rw[AbO (x::l) c 0 x rfl,Mz,(Uf (x::l) c).1]
     refine⟨?_,?_,?_⟩;. intro e J u;have:=Od.1 y e J;rw[Kb,u]at this;simp_all
     .intro p j;rw[q];exact Ajr d s p j
     grind
    |succ k=>
     obtain⟨A,r,z⟩:=B _ _ h' k o (by simpa using t);have I:(c++[Ez c x.after.toList]).length+k=c.length+(k+1):=by simp;omega
     rw[I]at A r z;refine⟨A,λp j=>r p (by simp[j]),?_⟩;intro k' m E n;cases k' with
     |zero=>simp at n;subst n;exact r _ (by simp)
     |succ k'=>
      have:=z k' m om (by grind);have C:(c++[Ez c x.after.toList]).length+k'=c.length+(k'+1):=by simp;omega
      rw[C]at this;exact this
def Ya{x i:Nat}:Nat.land x (Ka i)≠0->x.testBit i=true:=by intro h;cases c:x.testBit i with
|true=>rfl
|false=>refine absurd ?_ h;show x &&& 2^i=0;apply Nat.eq_of_testBit_eq;grind
def Tp{ops}(h:Yx ops=true):P6 ops:=by intro i o j e d c;have:=(Aai _ [] _ h i o (by grind)).1 e d c;grind
def Aah(ops:Array Oper)(o:Oper)(t:Nat):Prop:=(.tmp t)∈o.op.operands.toList\/∃w,guardOf ops o=.on t w
def AiF{l}{t}(h:.tmp t∈l):(AbE l).testBit t=true:=by induction l with
|nil=>grind
|cons x l c=>show(Operand.rec _ _ _ _ x ||| AbE l).testBit t=true;rw[cf,ba];cases h with
 |head=>exact .inl (by show(2^t).testBit t=true;simp)
 |tail _ hm=>exact .inr (c hm)
def Yv{ops}{o}{t}(h:Aah ops o t):(Iz ops o).testBit t=true:=by
 show(AbE _ ||| match guardOf _ o with|.on t _=>Ka t|_=>0).testBit t=true;rw[cf,ba];rcases h with h|⟨w,h⟩;. exact .inl (AiF h)
 .rw[h];exact .inr (by show(2^t).testBit t=true;simp)
def Md{o:Oper}{t:Nat}(h:o.dst=some t):(I4 o).testBit t=true:=by unfold I4;rw[h];show(2^t).testBit t=true;simp
def Z5{x y t:Nat}(h:Nat.land x y=0)(c:x.testBit t=true)(hy:y.testBit t=true):False:=by
 have:(x &&& y).testBit t=true:=by grind
 simp_all
def AaU{ops}(h:Yx ops=true){i j:Nat}{o p}{t:Nat}(m:ops[i]?=some o)(l:ops[j]?=some p)(e:i≠j)(hd:o.dst=some t)(c:p.dst=some t\/Aah ops p t):
 Bef ops i j\/Bef ops j i:=by
 rcases Fv i j with k|d
 .have:=(Aai _ [] _ h j p (by grind)).2.2 i o k (by grind);simp[Gx,Rx]at this;rcases this with h1|⟨h1,h2⟩;. exact .inl (Ya h1)
  .exfalso;refine Z5 h1 (Md hd) ?_;show(I4 p ||| Iz _ p).testBit t=true;rw[cf,ba];rcases c with c|c;. exact .inl (Md c)
   .exact .inr (Yv c)
 .have:=(Aai _ [] _ h i o (by grind)).2.2 j p om (by grind);simp[Gx,Rx]at this;rcases this with h1|⟨h1,h2⟩;. exact .inr (Ya h1)
  .exfalso;rcases c with c|c;. refine Z5 h1 (Md c) ?_;show(I4 o ||| Iz _ o).testBit t=true;rw[cf,ba];exact .inl (Md hd)
   .exact Z5 h2 (Md hd) (Yv c)
variable {P:Program}{G:Nat}{σ σ':Dx}{h h':H}{w w':World}{v:AV}{nt:Nat}{f f':L2}{a:Act}{Z:Ac}{b:FB}{cs:List Frame}
def Ant x l:Ve x l=true ↔ x∈l:=by induction l with
|nil=>exact⟨λc=>(by cases c),λc=>by cases c⟩
|cons y l e=>show @Bool.rec (λ_=>Bool) (Ve x l) ..=true ↔ _;cases d:Nat.beq y x with
 |true=>simp_all
 |false=>have j:=Ho d;grind
def AcH{x}{l}(c:Ve x l=false):x ∉ l:=by intro d;rw[(Ant x l).2 d]at c;grind
def L7 n x l:x∈wrote n l ↔ x∈l/\x<n:=by induction l with
|nil=>exact⟨λd=>(by cases d),λd=>by grind⟩
|cons y l e=>show x∈(Bool.rec (wrote n l) (y::wrote n l) _:List _) ↔ _;cases c:Nat.blt y n with
 |true=>have:=Ec c;grind
 |false=>have:=Ap1 c;grind
def Yo{l}{lo hi}(d:outside l lo hi=true):∀x∈l,¬ (lo<=x/\x<hi):=by induction l with
|nil=>simp
|cons y l c=>intro x e hc;have h1:@Bool.rec (λ_=>Bool) _ ..=true:=d;cases hq:(Bool.rec false (Nat.blt y hi) (Nat.ble lo y):Bool)with
 |true=>simp_all
 |false=>rw[hq]at h1;cases e with
  |head=>
   have e1:Nat.ble lo y=true:=by simp_all
   have j:Nat.blt y hi=true:=by simp[*]
   simp_all
  |tail _ hm=>exact c h1 x hm hc
def Aj1 o:B5 o=Ej o:=by cases o with
|cells l t k=>cases k<;>rfl
|_=>rfl
def Am6{x off:Nat}{i:Option (Option Nat)}{l:List Nat}{h d c:H}(n:clear (.blk x off i) l h d c=true):(x ∉ l/\∀k,Ej (h.m.get x)=some k->k ∉ l)\/∃v,cellAt (h.m.get x) off i=some v/\cellAt (d.m.get x) off i=cellAt (c.m.get x) off i:=by
 have h1:(@Bool.rec (λ_=>Bool) (AbY l (B5 (h.m.get x))) (Beb x off i h d c) (Ve x l):Bool)=true:=n;cases e:Ve x l with
 |true=>rw[e]at h1;exact .inr (@az _ (Classical.propDecidable _) h1)
 |false=>rw[e]at h1;refine .inl ⟨AcH e,λk p=>?_⟩;have h2:AbY l (B5 (h.m.get x))=true:=h1;rw[Aj1,p]at h2;have j:Ib (Ve k l)=true:=h2;rw[Kb]at j;exact AcH (by simpa using j)
def AnA{l}(c:l≠[]):Q6 l=false:=by cases l with
|nil=>grind
|cons x l=>rfl
def Aha{e}:∀{l},E2 e l=true->∀x∈l,Jo e x=true:=by intro l;induction l with
|nil=>simp
|cons y l d=>intro c x j;have h1:Bool.rec _ (E2 e l) _=true:=c;cases hc:Jo e y with
 |false=>simp_all
 |true=>rw[hc]at h1;grind
def AmC{all}:∀{l},Iu all l=true->∀e∈l,e.w≠[]->∀x∈all,Jo e x=true:=by intro l;induction l with
|nil=>simp
|cons y l j=>intro m e k c x d;have h1:@Bool.rec (λ_=>Bool) _ ..=true:=m;cases hn:Q6 _ with
 |true=>rw[hn]at h1;cases k with
  |head=>rw[AnA c]at hn;grind
  |tail _ hm=>exact j h1 e hm c x d
 |false=>rw[hn]at h1;have h2:=h1;cases hc:E2 y all with
  |false=>simp_all
  |true=>rw[hc]at h2;cases k with
   |head=>exact Aha hc x d
   |tail _ hm=>exact j h2 e hm c x d
def Am5{e x:EF}(c:Jo e x=true):Nat.land e.pr x.bit≠0\/Nat.land x.pr e.bit≠0\/e.bit=x.bit\/(clear x.r e.w x.h e.h e.h1=true/\outside e.w x.h.nx x.h1.nx=true):=by
 unfold Jo at c;cases j:M4 (Nat.lor (Nat.land e.pr x.bit) (Nat.land x.pr e.bit))with
 |false=>
  have k:(e.pr &&& x.bit) ||| (x.pr &&& e.bit)≠0:=Ho j
  by_cases h1:e.pr &&& x.bit=0
  .refine .inr (.inl λh2=>k ?_);rw[h1,show x.pr &&& e.bit=0 from h2];rfl
  .exact .inl h1
 |true=>
  rw[j]at c;cases d:Nat.beq e.bit x.bit with
  |true=>exact .inr (.inr (.inl (Ch d)))
  |false=>
   rw[d]at c;cases hd:Ahl e.w x.w with
   |false=>rw[hd]at c;cases c
   |true=>
    rw[hd]at c;cases hc:clear x.r e.w x.h e.h e.h1 with
    |false=>rw[hc]at c;cases c
    |true=>rw[hc]at c;exact .inr (.inr (.inr ⟨rfl,c⟩))
def Aho{ops:Array Oper}{lg:List Nat}:∀(l:List DO) (c:List EF) (f:L2) (h:H) (f':L2) (h':H),Sp P Z ops lg l c f h=.Bt f' h' ->
 ∃(F:Nat->L2) (Hs:Nat->H) (e:List EF),F 0=f/\Hs 0=h/\(∀i d,l[i]?=some d->Fp ops d.o P Z (F i) (Ab (Hs i))=.Bt (F (i+1)) (Hs (i+1)) /\
  e[i]?=some ⟨d.bit,d.pr,wrote (Hs i).nx (Hs (i+1)).lg,Gi P d.o.op (F i),Hs i,Hs (i+1)⟩)/\e.length=l.length/\Lh (e.reverse++c)=true/\f'=F l.length /\
   h'=Be (En (e.reverse++c) lg) (Hs l.length):=by
 intro l;induction l with
 |nil=>
  intro c f h f' h' m;have h1:(@Bool.rec (λ_=>RC) (.bad 183) (.Bt f (Be (En c lg) h)) (Lh c):RC)=.Bt f' h':=m;cases hc:Lh c with
  |false=>rw[hc]at h1;cases h1
  |true=>rw[hc]at h1;cases h1;exact⟨λ_=>f,λ_=>h,[],rfl,rfl,λi d hi=>by simp at hi,rfl,hc,rfl,rfl⟩
 |cons d l p=>
  intro c f h f' h' m;have h1:(RC.rec (motive:=λ_=>RC) RC.bad (λf' h'=>Sp P Z ops lg l (⟨d.bit,d.pr,wrote h.nx h'.lg,Gi P d.o.op f,h,h'⟩::c) f' h') (λ_ _ _=>.bad 184) (λ_ _=>.bad 184) (Fp ops d.o P Z f (Ab h)):RC)=.Bt f' h':=m;cases k:Fp ops d.o P Z f (Ab h)with
  |bad n=>rw[k]at h1;cases h1
  |ext id f1 j=>rw[k]at h1;cases h1
  |ret f1 j=>rw[k]at h1;cases h1
  |Bt f1 j=>
   rw[k]at h1;obtain⟨F,Hs,e,r,u,q,s,q5,x,y⟩:=p _ f1 j f' h' h1;refine⟨λi=>Nat.casesOn i f F,λi=>Nat.casesOn i h Hs,⟨d.bit,d.pr,wrote h.nx j.lg,Gi P d.o.op f,h,j⟩::e,rfl,rfl,?_,by simp[s],?_,x,?_⟩
   .intro i t hi;cases i with
    |zero=>simp at hi;subst hi;dsimp only;rw[r,u];exact⟨k,rfl⟩
    |succ i=>have:=q i t (by simpa using hi);exact⟨this.1,by simpa using this.2⟩
   .rw[List.reverse_cons,Rq];exact q5
   .rw[List.reverse_cons,Rq];exact y
structure Dr(P:Program)(G:Nat)(Z:Ac)(ops:Array Oper)(nt:Nat)(F:Nat->L2)(Hs:Nat->H):Prop where
 reg:Yx ops=true
 run:∀(i:Nat) (o:Oper),ops[i]?=some o->Fp ops o P Z (F i) (Ab (Hs i))=.Bt (F (i+1)) (Hs (i+1))
 calm:∀(i j:Nat) (p:Oper),i<ops.size->ops[j]?=some p->i≠j->(∃x,x∈(Hs (i+1)).lg/\x<(Hs i).nx)->Bef ops i j\/Bef ops j i \/
  (clear (Gi P p.op (F j)) (wrote (Hs i).nx (Hs (i+1)).lg) (Hs j) (Hs i) (Hs (i+1))=true/\outside (wrote (Hs i).nx (Hs (i+1)).lg) (Hs j).nx (Hs (j+1)).nx=true)
 step:∀i,i<ops.size->J6 (Ab (Hs i)) (Hs (i+1)) (Hs (i+1)).lg
 inv:∀i,i<=ops.size->Om (Hs i)
 A4P:∀o∈ops.toList,Ie o.op=none
 all:∀o∈ops.toList,Gl G nt o=true
 nt:nt<250
 top:(Hs ops.size).nx<=Bq
def AaV{c:List EF}{i:Nat}{x}(d:c[i]?=some x):x∈c.reverse++[]:=by grind
def Om.Ab(hi:Om h):Om (Ab h):=⟨hi.top,hi.Rm,hi.N3,hi.Gt,hi.Tx,hi.len⟩
def Om.Be(hi:Om h) lg:Om (Be lg h):=⟨hi.top,hi.Rm,hi.N3,hi.Gt,hi.Tx,hi.len⟩
def St.Ab(c:St G σ nt f a h w):St G σ nt f a (Ab h) w:=⟨c.fr,c.gl,c.ai.Ab,c.so,c.ma⟩
def Dr.of_run(hc:Bd P G Z){ops:Array Oper}(A:Yx ops=true)(U:∀x∈ops.toList,Gl G nt x=true)(Ix:nt<250)(s:Gk P Z ops f h=.Bt f' h')
 (hs:St G σ nt f a h w) (hb:RBk b σ f) (hl:h'.nx<=Bq) (hf:Fx σ h h'):
 ∃F Hs q,Dr P G Z ops nt F Hs/\F 0=f/\Hs 0=h/\f'=F ops.size/\h'=Be (En q h.lg) (Hs ops.size) /\
  (q.reverse).length=ops.size/\∀i,i<ops.size->∃x,q.reverse[i]?=some x/\x.w=wrote (Hs i).nx (Hs (i+1)).lg:=by
 unfold Gk at s;cases hd:AnB ops with
 |false=>rw[hd]at s;cases s
 |true=>
  rw[hd]at s;obtain⟨F,Hs,q,T,I,Y,q4,q5,X,u⟩:=Aho _ _ f h f' h' s;have e:(M7 ops.toList 0 []).length=ops.size:=by rw[ApO];simp
  have r:∀(i:Nat) (o:Oper),ops[i]?=some o->∃d,(M7 ops.toList 0 [])[i]?=some d/\d.o=o/\d.bit=Ka i/\d.pr=Vf (PR ops) i:=by
   intro i o k;have hi:i<(M7 ops.toList 0 []).length:=by rw[e];exact(Lp.1 k).1
   obtain⟨h1,h2,y⟩:=ApN ops.toList [] i _ (Xs hi);refine⟨_,Xs hi,?_,by simpa using h2,by simpa[PR]using y⟩;have:ops.toList[i]?=some o:=by simpa using k
   rw[this]at h1;cases h1;rfl
  have K:∀(i:Nat) (o:Oper),ops[i]?=some o->Fp ops o P Z (F i) (Ab (Hs i))=.Bt (F (i+1)) (Hs (i+1)):=by intro i o k;obtain⟨d,h1,rfl,h2,y⟩:=r i o k;exact(Y i d h1).1
  have B:∀i,i<ops.size->(Hs i).nx<=(Hs (i+1)).nx:=by intro i hi;have:=Wk (P:=P) (f:=F i) (h:=Ab (Hs i)) hc.mono ops ops[i];exact this _ _ (.inl (K i _ (S2 hi)))
  have M:∀j,j<=ops.size->(Hs j).nx<=(Hs ops.size).nx:=by
   intro j hj;have L:∀m,j+m<=ops.size->(Hs j).nx<=(Hs (j+m)).nx:=by
    intro m;induction m with
    |zero=>intro _;exact Yw _
    |succ m z=>intro hm;have:=z om;have h2:=B (j+m) om;exact Vr this h2
   have:=L (ops.size-j) om;rwa[show j+(ops.size-j)=ops.size by omega]at this
  rw[e]at X u;have Q:(Hs ops.size).nx<=Bq:=by rw[u]at hl;exact hl
  have R:Fx σ (Hs 0) (Hs ops.size):=by rw[I];rw[u]at hf;exact hf
  have t:∀i,i<=ops.size->(∃σ a w,St G σ nt (F i) a (Hs i) w/\RBk b σ (F i)/\Fx σ (Hs i) (Hs ops.size))/\∀j,j<i->J6 (Ab (Hs j)) (Hs (j+1)) (Hs (j+1)).lg:=by
   intro i;induction i with
   |zero=>
    intro _;refine⟨⟨σ,a,w,?_,?_,R⟩,λj hj=>absurd hj om⟩
    .rw[T,I];exact hs
    .rw[T];exact hb
   |succ i z=>
    intro hi;obtain⟨⟨σ1,a1,w1,O,g2,W⟩,g4⟩:=z om;have k:ops[i]?=some ops[i]:=S2 hi;have Vc:ops[i]∈ops.toList:=by simp
    obtain⟨f2,h2,J,s2⟩:=Wn hc U Ix (U _ Vc) (K i _ k) (λn hn=>by cases hn) O.Ab g2;cases J;have E:=M (i+1) hi;obtain⟨σ2,a2,w2,t1,t2,t3,_⟩:=s2 om (W.left E);refine⟨⟨σ2,a2,w2,t1,t2,Fx.right (h:=Ab (Hs i)) W t3⟩,λj hj=>?_⟩;by_cases S:j=i
    .subst S;obtain⟨nw,a1,_,_⟩:=t3;have:(Hs (j+1)).lg=nw:=by rw[a1.lg];simp[Ab]
     rw[this];exact a1
    .exact g4 j om
  have l:∀(i:Nat) (o:Oper),ops[i]?=some o->q[i]?=some ⟨Ka i,Vf (PR ops) i,wrote (Hs i).nx (Hs (i+1)).lg,Gi P o.op (F i),Hs i,Hs (i+1)⟩:=by intro i o k;obtain⟨d,h1,rfl,h2,y⟩:=r i o k;rw[<- h2,<- y];exact(Y i d h1).2
  refine⟨F,Hs,q.reverse,⟨A,K,?_,λi hi=>(t (i+1) hi).2 i om,λi hi=>?_,?_,U,Ix,Q⟩,T,I,X,by simpa using u,by simp[q4,e],?_⟩
  .intro i j p hi hp V Hr;have e1:=l i _ (S2 hi);have J:=l j p hp;have C:wrote (Hs i).nx (Hs (i+1)).lg≠[]:=by obtain⟨x,h1,h2⟩:=Hr;exact List.ne_nil_of_mem ((L7 _ x _).2 ⟨h1,h2⟩)
   have Hq:=AmC q5 _ (AaV e1) C _ (AaV J);rcases Am5 Hq with h1|h1|h1|⟨h1,h2⟩
   .exact .inr (.inl (Ya h1))
   .exact .inl (Ya h1)
   .exact absurd ((Nat.pow_right_inj (by omega:1<2)).1 h1) V
   .exact .inr (.inr ⟨h1,h2⟩)
  .obtain⟨⟨σ1,a1,w1,O,_⟩,_⟩:=t i hi;exact O.ai
  .intro o k;have:=Od.1 hd o k;rw[Kb]at this;unfold AhJ at this;cases hq:Ie o.op with
   |none=>rfl
   |some c=>rw[hq]at this;cases this
  .intro i hi;rw[List.reverse_reverse];exact⟨_,l i _ (S2 hi),rfl⟩
variable {ops:Array Oper}{F:Nat->L2}{Hs:Nat->H}
def T(Hs:Nat->H)(x y:Nat):Prop:=y∈(Hs (x+1)).lg\/((Hs x).nx<=y/\y<(Hs (x+1)).nx)
def Wt(ops:Array Oper)(x t:Nat):Prop:=∃o,ops[x]?=some o/\o.dst=some t
def Dr.nx(e:Dr P G Z ops nt F Hs){i j}(k:i<=j)(hj:j<=ops.size):(Hs i).nx<=(Hs j).nx:=by
 have c:∀m,i+m<=ops.size->(Hs i).nx<=(Hs (i+m)).nx:=by intro m;induction m with
  |zero=>grind
  |succ m d=>intro l;exact Vr (d om) (e.step _ om).nx
 have:=c (j-i) om;grind
def Dr.nxl(c:Dr P G Z ops nt F Hs){i}(hi:i<=ops.size):(Hs i).nx<=Bq:=Vr (c.nx hi (Yw _)) c.top
def Dr.low(d:Dr P G Z ops nt F Hs){x y}(e:x<ops.size)(c:T Hs x y):y<(Hs (x+1)).nx:=by
 rcases c with c|c;. exact(d.step x e).low y c
 grind
def Dr.AzD(c:Dr P G Z ops nt F Hs){x y}(e:x<ops.size)(hy:y<Bq)(d:¬ T Hs x y):(Hs (x+1)).m.get y=(Hs x).m.get y:=by
 have l:=c.step x e;by_cases h1:y<(Hs x).nx;. exact l.By y hy h1 λk=>d (.inl k)
 .have h2:(Hs (x+1)).nx<=y:=by
   rcases Fv y _ with j|j;. exact absurd (.inr ⟨by omega,j⟩) d
   grind
  rw[(c.inv _ e).Rm y h2 hy,(c.inv x om).Rm y om hy]
def Dr.quiet(e:Dr P G Z ops nt F Hs){i j y:Nat}(hi:i<=ops.size)(hj:j<=ops.size)(hy:y<Bq)(p:∀x,x<ops.size->T Hs x y->(x<i ↔ x<j)):(Hs i).m.get y=(Hs j).m.get y:=by
 have c:∀m i,i+m<=ops.size->(∀x,i<=x->x<i+m->¬ T Hs x y)->(Hs i).m.get y=(Hs (i+m)).m.get y:=by intro m;induction m with
  |zero=>simp
  |succ m d=>intro i n hn;rw[d i om (λx h1 h2=>hn x h1 om)];exact(e.AzD om hy (hn _ (by simp) om)).symm
 rcases Nat.le_total i j with h1|h1;. have:=c (j-i) i om (λx h2 k l=>by grind);grind
 .have:=c (i-j) j om (λx h2 k l=>by grind);grind
def Dr.frame(e:Dr P G Z ops nt F Hs){x:Nat}{o:Oper}(j:ops[x]?=some o):(∀t:Nat,o.dst=some t->t<nt)/\∃v,F (x+1)=Im o.dst v (F x):=by
 have k:o∈ops.toList:=by simpa using dk j
 refine⟨(Lu (e.all o k)).2,?_⟩;rcases Pf (e.run x o j) (λn hn=>by cases hn)with⟨_,d⟩|⟨_,_,v,h',_,d⟩|⟨_,c,hd,_⟩
 .injection d with h1 h2;exact⟨_,h1⟩
 .injection d with h1 h2;exact⟨_,h1⟩
 .rw[e.A4P o k]at hd;cases hd
def Dr.Atx(c:Dr P G Z ops nt F Hs){x t}(p:x<ops.size)(l:t<256)(e:¬ Wt ops x t):(F (x+1)).get t=(F x).get t:=by have d:ops[x]?=some ops[x]:=S2 _;obtain⟨hd,v,k⟩:=c.frame d;have n:=c.nt;rw[k,Mm (λu m=>ab (hd u m) n) t l,X2 λj=>e ⟨_,d,j⟩]
def Dr.Acl(e:Dr P G Z ops nt F Hs){i j t:Nat}(hi:i<=ops.size)(hj:j<=ops.size)(k:t<256)(p:∀x,x<ops.size->Wt ops x t->(x<i ↔ x<j)):(F i).get t=(F j).get t:=by
 have c:∀m i,i+m<=ops.size->(∀x,i<=x->x<i+m->¬ Wt ops x t)->(F i).get t=(F (i+m)).get t:=by intro m;induction m with
  |zero=>simp
  |succ m d=>intro i q hn;rw[d i om (λx h1 h2=>hn x h1 om)];exact(e.Atx om k (hn _ (by simp) om)).symm
 rcases Nat.le_total i j with h1|h1;. have:=c (j-i) i om (λx h2 l n=>by grind);grind
 .have:=c (i-j) j om λx h2 l n=>by grind
  grind
def Dr.Ur(d:Dr P G Z ops nt F Hs){x y z}(e:x<ops.size)(j:z<ops.size)(h1:(Hs x).nx<=y/\y<(Hs (x+1)).nx)(h2:(Hs z).nx<=y/\y<(Hs (z+1)).nx):x=z:=by
 rcases Nat.lt_trichotomy x z with c|c|c;. have:=d.nx (i:=x+1) c om;omega
 .omega
 .have:=d.nx (i:=z+1) c om;omega
def Dr.same(d:Dr P G Z ops nt F Hs){i j y k}(p:i<=j)(hj:j<=ops.size)(hy:y<(Hs i).nx)(q:Ej ((Hs j).m.get y)=some k):Ej ((Hs i).m.get y)=some k:=by
 have c:=Xq hy (d.nxl om);have e:∀m,i+m<=ops.size->Ej ((Hs (i+m)).m.get y)=some k->Ej ((Hs i).m.get y)=some k:=by intro m;induction m with
  |zero=>simp
  |succ m l=>intro r n;exact l om ((d.step _ om).same y k (Xq hy (d.nx om om)) c n)
 exact e (j-i) om (by grind)
structure Iv(G:Nat)(ops:Array Oper)(nt:Nat)(F:Nat->L2)(Hs:Nat->H)(σ0:Dx)(w0:World)(NW:List Nat)(D:Nat->Bool)(σ:Dx)(g:L2)(a:Act)(w:World):Prop where
 Al3:V0 ops D
 fr:Pt σ nt g a
 Ase:∀t,t<250->∃j,j<=ops.size/\(∀x,x<ops.size->Wt ops x t->(D x=true ↔ x<j))/\g.get t=(F j).get t
 ds:g.get Br=(F 0).get Br
 gl:Vm G σ
 so:SOk σ w
 Sm:Oz σ0 σ (Hs 0) (Hs ops.size) w0 w NW
 dom:∀y e,σ y=some e->(y<(Hs 0).nx\/(Hs ops.size).nx<=y)\/∃x,x<ops.size/\D x=true/\(Hs x).nx<=y/\y<(Hs (x+1)).nx
 mem:∀y e,σ y=some e->∃j,j<=ops.size/\(∀x,x<ops.size->T Hs x y->(D x=true ↔ x<j)) /\
  (∀k,Ej ((Hs j).m.get y)=some k->∀x,x<ops.size->T Hs x k->(D x=true ↔ x<j))/\Gr G σ (Hs j).m.get e w ((Hs j).m.get y)
def Dr.move(c:Dr P G Z ops nt F Hs){i j y}{e}(hi:i<=ops.size)(hj:j<=ops.size)(hy:y<Bq)(h1:∀x,x<ops.size->T Hs x y->(x<j ↔ x<i))
 (h2:∀k,Ej ((Hs j).m.get y)=some k->∀x,x<ops.size->T Hs x k->(x<j ↔ x<i)) (hb:Gr G σ (Hs j).m.get e w ((Hs j).m.get y)):
 (Hs i).m.get y=(Hs j).m.get y/\Gr G σ (Hs i).m.get e w ((Hs i).m.get y):=by
 have n:=c.quiet hj hi hy h1;refine⟨n.symm,?_⟩;rw[<- n];refine Gr.congr (Qq.refl _) rfl ?_ hb;intro l t k st q r;have p:Ej ((Hs j).m.get y)=some k:=by rw[q];rfl
 have d:k<Bq:=by have:=((c.inv j hj).N3 y k hy p).1;have:=c.nxl hj;omega
 rw[c.quiet hj hi d (h2 k p)];omega
section step
variable {σ0:Dx}{w0:World}{NW:List Nat}{D:Nat->Bool}{g:L2}{i:Nat}{o:Oper}
def D1(D:Nat->Bool)(i:Nat):Nat->Bool:=λj=>if j=i then true else D j
def J7:D1 D i i=true:=W5 rfl
def Le{x}(c:x≠i):D1 D i x=D x:=X2 c
def Iv.side(n:Dr P G Z ops nt F Hs)(j:Iv G ops nt F Hs σ0 w0 NW D σ g a w)(k:ops[i]?=some o)(hd:D i=false)(m:∀e∈o.after.toList,Region.binds .any e=true->D e.on=true)
 {x} (hx:x<ops.size) (c:Bef ops x i\/Bef ops i x):D x=true ↔ x<i:=by
 have d:=Tp n.reg;have hi:=(Lp.1 k).1;rcases c with c|c;. exact⟨λ_=>c.lt d hi,λ_=>Bef.done d j.Al3 k m x c⟩
 .have q:=c.lt d hx;refine⟨λp=>?_,λl=>absurd l om⟩;have:=Bef.done d j.Al3 (S2 hx) (j.Al3 x _ (S2 _) p) i c;grind
def Iv.Aj6(q:Iv G ops nt F Hs σ0 w0 NW D σ g a w)(s:ops[i]?=some o)(r:∀e∈o.after.toList,Region.binds .any e=true->D e.on=true):V0 ops (D1 D i):=by
 intro x p m j e n k;have d:∀z,D z=true->D1 D i z=true:=by
  intro z t;by_cases c:z=i;. subst c;exact J7
  .rw[Le c];omega
 by_cases l:x=i;. grind
 .rw[Le l]at j;exact d _ (q.Al3 x p m j e n k)
def Iv.reads(c:Dr P G Z ops nt F Hs)(m:Iv G ops nt F Hs σ0 w0 NW D σ g a w)(d:ops[i]?=some o)(hd:D i=false)(r:∀e∈o.after.toList,Region.binds .any e=true->D e.on=true)
 {t} (ht:t<250) (hr:Aah ops o t):g.get t=(F i).get t:=by
 have hi:=(Lp.1 d).1;obtain⟨j,h1,h2,u⟩:=m.Ase t ht;rw[u];refine c.Acl h1 om om λx n l=>?_;have y:=h2 x n l;by_cases q:x=i;. grind
 .obtain⟨p,s,k⟩:=l;have:=m.side c d hd r n (AaU c.reg s d q k (.inr hr));grind
def Iv.AkF(k:Dr P G Z ops nt F Hs)(r:Iv G ops nt F Hs σ0 w0 NW D σ g a w)(l:ops[i]?=some o)(hd:D i=false)(y:∀e∈o.after.toList,Region.binds .any e=true->D e.on=true)
 {v} (hF:F (i+1)=Im o.dst v (F i)):∀t,t<250->∃j,j<=ops.size/\(∀x,x<ops.size->Wt ops x t->(D1 D i x=true ↔ x<j))/\(Im o.dst v g).get t=(F j).get t:=by
 intro t z;have hi:=(Lp.1 l).1;have A:=(k.frame l).1;have C:=k.nt;have E:∀f,(Im _ v f).get t=if o.dst=some t then v else f.get t:=λf=>Mm (λu B=>ab (A u B) C) t om;by_cases m:o.dst=some t
 .refine⟨_,hi,λx s n=>?_,?_⟩
  .by_cases c:x=i;. subst c;rw[J7];simp
   .rw[Le c];obtain⟨p,q,d⟩:=n;rw[r.side k l hd y s (AaU k.reg q l c d (.inl m))];omega
  grind
 .obtain⟨j,h1,h2,I⟩:=r.Ase t z;refine⟨j,h1,λx s n=>?_,?_⟩
  .by_cases c:x=i;. obtain⟨p,q,d⟩:=n;grind
   .rw[Le c];simp_all
  grind
def Iv.ds1(c:Dr P G Z ops nt F Hs)(j:Iv G ops nt F Hs σ0 w0 NW D σ g a w)(k:ops[i]?=some o) v:(Im o.dst v g).get Br=(F 0).get Br:=by have d:=(c.frame k).1;have m:=c.nt;rw[Mm (λu l=>ab (d u l) m) _ fe,X2 λe=>by have h1:255<nt:=d _ e;omega];exact j.ds
def Iv.free(c:Dr P G Z ops nt F Hs)(l:Iv G ops nt F Hs σ0 w0 NW D σ g a w)(hi:i<ops.size)(hd:D i=false):Fx σ (Ab (Hs i)) (Hs (i+1)):=by intro y h1 h2;cases hy:σ y with
|none=>rfl
|some e=>
 have k:(Hs i).nx<=y:=h1;rcases l.dom y e hy with d|⟨x,d,n,m⟩;. have:=c.nx (i:=0) (j:=i) (by simp) om;have:=c.nx (i:=i+1) hi (Yw _);omega
 .have:=c.Ur d hi m ⟨k,h2⟩;grind
def Iv.still(d:Dr P G Z ops nt F Hs)(c:Iv G ops nt F Hs σ0 w0 NW D σ g a w)(l:ops[i]?=some o)(hd:D i=false)(p:∀e∈o.after.toList,Region.binds .any e=true->D e.on=true)
 {v} {v'} (hF:F (i+1)=Im o.dst v (F i)) (hH:Hs (i+1)=Ab (Hs i)) (hv:Au σ v v'):Iv G ops nt F Hs σ0 w0 NW (D1 D i) σ (Im o.dst v g) (a.put o.dst v') w:=by
 have r:=(d.frame l).1;have q:∀y,¬ T Hs i y:=by
  intro y hy;unfold T at hy;rw[hH]at hy;rcases hy with hy|⟨h1,h2⟩;. cases hy
  .have A:y<(Hs i).nx:=h2;omega
 have m:∀x y,T Hs x y->D1 D i x=D x:=by intro x y s;refine Le ?_;grind
 refine⟨c.Aj6 l p,c.fr.put r d.nt hv,c.AkF d l hd p hF,c.ds1 d l v,c.gl,c.so,c.Sm,?_,?_⟩
 .intro y e hy;rcases c.dom y e hy with h1|⟨x,h1,h2,n⟩;. omega
  .refine .inr ⟨x,h1,?_,n⟩;rw[m x y (.inr n)];omega
 .intro y e hy;obtain⟨j,h1,h2,n,u⟩:=c.mem y e hy;refine⟨j,h1,λx t q=>?_,λk z x t q=>?_,u⟩;. grind
  grind
end step
def Gr.N3{g}{e}{o}{k}(c:Gr G σ g e w o)(d:e.k=some k):o=.none\/Ej o=some k:=by cases o with
|none=>grind
|Fb n=>have:e.k=none:=c;grind
|cells l t m=>have:=c.1;rw[d]at this;exact .inr this.symm
|map es=>have:=c.1;simp_all
|loop a1 a2 a3 a4 a5 j=>have:=c.1;grind
|dfr t=>have:=c.1;simp_all
def Oz.join{l q:Dx}{hn hi hj:H}{m w2:World}{NW nw:List Nat}(a:Oz σ l h hn w m NW)(b:Oz l q hi hj m w2 nw)(e1:h.nx<=hi.nx)(I:hj.nx<=hn.nx)
 (Abm:∀y∈nw,∀e,l y=some e->y∈NW):Oz σ q h hn w w2 NW:=by
 refine⟨a.le.trans b.le,?_,b.ok,Vr a.grow b.grow,?_,?_,⟨b.io.1.trans a.io.1,b.io.2.trans a.io.2⟩⟩;. intro x e k j;cases d:l x with
   |none=>have:=b.fresh x e d j;omega
   |some e'=>exact a.fresh x e' k d
 .intro c k j;have L:=a.frame c k j;have J:=b.frame c (by grind) (λx C e n hc=>?_);. grind
  .have A:=Abm x C e n;cases d:σ x with
   |some e'=>have:=a.le x e' d;grind
   |none=>
    rcases a.Vh x e d n with t|⟨r,z,u,s,B⟩;. omega
    grind
 .intro x e k j;cases d:l x with
  |some e'=>have:=b.le x e' d;rw[j]at this;cases this;exact a.Vh x e k d
  |none=>
   rcases b.Vh x e d j with t|⟨r,z,u,s,B⟩;. exact .inl (by have:=a.grow;omega)
   .cases p:σ r with
    |some E=>have:=a.le _ _ p;grind
    |none=>
     rcases a.Vh _ _ p s with t|⟨b1,M,e1,O,K⟩;. omega
     grind
section step
variable {σ0:Dx}{w0:World}{NW:List Nat}{D:Nat->Bool}{g:L2}{i:Nat}{o:Oper}
def T.cases{x y}(d:Dr P G Z ops nt F Hs)(e:x<ops.size)(c:T Hs x y):y∈(Hs (x+1)).lg/\y<(Hs x).nx\/(Hs x).nx<=y/\y<(Hs (x+1)).nx:=by
 have j:=d.low e c;rcases Fv y (Hs x).nx with h1|h1;. rcases c with c|c;simp_all;omega
 omega
def Iv.here(c:Dr P G Z ops nt F Hs)(s:Iv G ops nt F Hs σ0 w0 NW D σ g a w)(I:ops[i]?=some o)(hd:D i=false)(M:∀e∈o.after.toList,Region.binds .any e=true->D e.on=true)
 {y:Nat} {e:SE} (hy:σ y=some e) (hyn:y<(Hs i).nx)
 (hw:∀x z,x<ops.size->x≠i->(z=y\/Ej ((Hs i).m.get y)=some z)->z∈(Hs (x+1)).lg->z<(Hs x).nx->Bef ops x i\/Bef ops i x):
 (∀x,x<ops.size->T Hs x y->(D x=true ↔ x<i))/\(∀k,Ej ((Hs i).m.get y)=some k->∀x,x<ops.size->T Hs x k->(D x=true ↔ x<i))/\Gr G σ (Hs i).m.get e w ((Hs i).m.get y):=by
 have hi:i<ops.size:=(Lp.1 I).1;have n:=s.so.low y e hy;have E:D i=true ↔ i<i:=by rw[hd];simp
 have h1:∀x,x<ops.size->T Hs x y->(D x=true ↔ x<i):=by
  intro x l p;by_cases t:x=i;. subst t;exact E
  .rcases p.cases c l with⟨J,u⟩|q;. exact s.side c I hd M l (hw x y l t (.inl rfl) J u)
   .have B:x<i:=by
     rcases Fv x i with d|d;. exact d
     .have:=c.nx d om;omega
    refine⟨λ_=>B,λ_=>?_⟩;rcases s.dom y e hy with d|⟨z,d,V,R⟩;. have:=c.nx (i:=0) (j:=x) om om;have:=c.nx (i:=i) (j:=ops.size) om (Yw _);omega
    .have:=c.Ur d l R q;simp_all
 obtain⟨j,A,W,S,Q⟩:=s.mem y e hy;have L:∀x,x<ops.size->T Hs x y->(x<j ↔ x<i):=λx l p=>by simp_all
 have C:=c.quiet A om n L;have h2:∀k,Ej ((Hs i).m.get y)=some k->∀x,x<ops.size->T Hs x k->(D x=true ↔ x<i):=by
  intro k K x l p;by_cases t:x=i;. grind
  .rcases p.cases c l with⟨J,u⟩|q;. exact s.side c I hd M l (hw x k l t (.inr K) J u)
   .have U:=((c.inv i om).N3 y k n K).1;have B:x<i:=by
     rcases Fv x i with d|d;. exact d
     .have:=c.nx d om;omega
    refine⟨λ_=>B,λ_=>?_⟩;have r:Ej ((Hs j).m.get y)=some k:=by rw[C];exact K
    have O:=((c.inv j A).N3 y k n r).1;refine(S k r x l p).2 ?_;rcases Fv x j with d|d;. exact d
    .have:=c.nx d om;omega
 refine⟨h1,h2,(c.move om A n L ?_ Q).2⟩;simp_all
def Iv.make(d:Dr P G Z ops nt F Hs)(n:Iv G ops nt F Hs σ0 w0 NW D σ g a w)(B:ops[i]?=some o)(hd:D i=false)(J:∀e∈o.after.toList,Region.binds .any e=true->D e.on=true)
 {v:AV} {v':Value} {l:List AV} {l':Array Value} {t:TypeId} (hF:F (i+1)=Im o.dst v (F i)) (hH:Hs (i+1)=(Ab (Hs i)).new (.cells l t .exact)) (hl:Bk σ l l'.toList)
 (hv:Au (Gu σ (Hs i).nx ⟨w.heap.size,l.length,none⟩) v v'):Iv G ops nt F Hs σ0 w0 NW (D1 D i) (Gu σ (Hs i).nx ⟨w.heap.size,l.length,none⟩) (Im o.dst v g) (a.put o.dst v') (Dd w (.cells l' t)):=by
 have hi:i<ops.size:=(Lp.1 B).1;have M9:=(d.frame B).1;have L:(Hs (i+1)).nx=(Hs i).nx+1:=by rw[hH];rfl
 have K:(Hs i).nx<Bq:=by have:=d.nxl (i:=i+1) hi;omega
 have M:(Hs (i+1)).lg=[]:=by rw[hH];rfl
 have X:∀y,T Hs i y->y=(Hs i).nx:=by
  intro y hy;rcases hy with hy|⟨h1,h2⟩;. rw[M]at hy;cases hy
  .omega
 have hf:σ (Hs i).nx=none:=n.free d hi hd _ (Yw _) (by rw[L];exact Up _);have r:=Ip (e:=⟨w.heap.size,l.length,none⟩) hf;have E:=n.so.push (b:=(Hs i).nx) (e:=⟨w.heap.size,l.length,none⟩) (.cells l' t) K rfl;have O:∀z,D z=true->D1 D i z=true:=by
  intro z hz;by_cases I:z=i;. subst I;exact J7
  .rw[Le I];exact hz
 have U:(Hs (i+1)).m.get (Hs i).nx=.cells l t .exact:=by rw[hH];have:=Ni (Ab (Hs i)) (.cells l t .exact) K (Hs i).nx K;rw[this];exact W5 rfl
 refine⟨n.Aj6 B J,(n.fr.mono r).put M9 d.nt hv,n.AkF d B hd J hF,n.ds1 d B v,n.gl.mono r,E,?_,?_,?_⟩
 .refine n.Sm.join (hi:=Hs i) (hj:=Hs (i+1)) (nw:=[]) ⟨r,?_,E,?_,?_,?_,⟨rfl,rfl⟩⟩ (d.nx om om) (d.nx hi (Yw _)) (λy hy=>by cases hy)
  .intro y e h1 h2;unfold Gu at h2;split at h2;. omega
   .rw[h1]at h2;cases h2
  .rw[size_push];omega
  .intro c h1 _;exact Lq w _ c h1
  .intro y e h1 h2;unfold Gu at h2;grind
 .intro y e hy;unfold Gu at hy;split at hy;. rename_i u;exact .inr ⟨i,hi,J7,by omega,by omega⟩
  .rcases n.dom y e hy with h1|⟨x,h1,h2,h3⟩;. exact .inl h1
   .exact .inr ⟨x,h1,O x h2,h3⟩
 .intro y e hy;unfold Gu at hy;split at hy
  .rename_i u;subst u;cases hy;refine⟨i+1,hi,?_,?_,?_⟩
   .intro x p A;by_cases s:x=i;. subst s;rw[J7];simp
    .rw[Le s];rcases A.cases d p with⟨V,Q⟩|q
     .rcases d.calm x i o p B s ⟨_,V,Q⟩with h1|h1|⟨_,h1⟩;. rw[n.side d B hd J p (.inl h1)];omega
      .rw[n.side d B hd J p (.inr h1)];omega
      .exact absurd ⟨Yw _,by omega⟩ (Yo h1 _ ((L7 _ _ _).2 ⟨V,Q⟩))
     .exact absurd (d.Ur p hi q ⟨Yw _,by omega⟩) s
   .intro k C;rw[U]at C;cases C
   .rw[U];have Fc:l'.size=l.length:=by have:=hl.1;simpa using this.symm
    exact⟨rfl,λ_=>⟨l',0,0,F1 w _,Fc,Yw _,λj x y p hy=>(hl.Zm j x y p hy).mono r,λ_=>rfl,λ_ j hj=>by omega⟩⟩
  .rename_i u;obtain⟨j,R,k2,W,k4⟩:=n.mem y e hy;refine⟨j,R,?_,?_,?_⟩
   .intro x p A;by_cases s:x=i;. subst s;exact absurd (X y A) u
    .rw[Le s];exact k2 x p A
   .intro k C x p A;by_cases s:x=i
    .subst s;have S:=W k C x p A;rw[hd]at S;have h6:j<=x:=by simp at S;omega
     have h7:=((d.inv j R).N3 y k (n.so.low y e hy) C).1;have h8:=d.nx h6 om;have h9:=X k A;omega
    .rw[Le s];exact W k C x p A
   .exact Gr.congr r (Lq w _ _ (n.so.rng y e hy)) (λ_ _ _ _ _ Y=>Y) k4
end step
section step
variable {σ0:Dx}{w0:World}{NW:List Nat}{D:Nat->Bool}{g:L2}{i:Nat}{o:Oper}
def Iv.whole(d:Dr P G Z ops nt F Hs)(t:Iv G ops nt F Hs σ0 w0 NW D σ g a w)(C:ops[i]?=some o)(hd:D i=false)(W:∀e∈o.after.toList,Region.binds .any e=true->D e.on=true)
 (hNW:∀x y,x<ops.size->y∈(Hs (x+1)).lg->y<(Hs x).nx->y∈NW) (Anh:∀x,x<ops.size->x≠i->(∃z,z∈(Hs (x+1)).lg/\z<(Hs x).nx)->Bef ops x i\/Bef ops i x):
 V1 G σ (Hs i).m.get w/\∀(v:AV) (v':Value) (σ':Dx) (w':World),F (i+1)=Im o.dst v (F i)->Au σ' v v'->Out G σ (Ab (Hs i)) w σ' (Hs (i+1)) w' ->
  Iv G ops nt F Hs σ0 w0 NW (D1 D i) σ' (Im o.dst v g) (a.put o.dst v') w':=by
 have hi:i<ops.size:=(Lp.1 C).1;have M9:=(d.frame C).1;have S:=d.inv i om;have Ac2:=t.free d hi hd;have AvY:∀y e,σ y=some e->y<(Hs i).nx->_:=λy e hy hyn=>t.here d C hd W hy hyn (λx z l r _ U V=>Anh x l r ⟨z,U,V⟩);have hma:V1 G σ (Hs i).m.get w:=by
  intro y e hy;rcases Fv y (Hs i).nx with h1|h1;. exact(AvY y e hy h1).2.2
  .rw[S.Rm y h1 (t.so.low y e hy)];trivial
 refine⟨hma,?_⟩;intro v v' σ' w' hF hv Vd;have Bb4:=Vd;obtain⟨nw,A,Sm,ma'⟩:=Vd;have E:(Hs (i+1)).lg=nw:=by rw[A.lg];simp[Ab]
 have A4e:∀y∈nw,∀e,σ y=some e->y<(Hs i).nx:=by
  intro y hy e M;rcases Fv y (Hs i).nx with h1|h1;. exact h1
  .rw[Ac2 y h1 (A.low y hy)]at M;cases M
 have hup:∀z,D z=true->D1 D i z=true:=by
  intro z hz;by_cases hzi:z=i;. subst hzi;exact J7
  .rw[Le hzi];exact hz
 have Aqw:∀y e,σ y=none->σ' y=some e->(Hs i).nx<=y/\y<(Hs (i+1)).nx:=λy e h1 h2=>Sm.fresh y e h1 h2;have AqJ:∀y e j,σ y=some e->¬ T Hs i y->(∀k,Ej ((Hs j).m.get y)=some k->¬ T Hs i k)->Gr G σ (Hs j).m.get e w ((Hs j).m.get y)->Gr G σ' (Hs j).m.get e w' ((Hs j).m.get y):=by
  intro y e j hy O R hb;by_cases I:(Hs j).m.get y=.none;. rw[I];trivial
  .refine Gr.congr Sm.le (Sm.frame e.c (t.so.rng y e hy) ?_) (λ_ _ _ _ _ hh=>hh) hb;intro X J e0 L hc;rcases t.so.inj X y e0 e L hy hc with h1|⟨h1,h2⟩;. subst h1;exact O (.inl (by rw[E];exact J))
   .cases u:e0.k with
    |none=>exact h2 u
    |some k=>have A3X:=A4e X J e0 L;have A3V:=A.live X J A3X (t.so.low X e0 L);have Sz:=hma X e0 L;have hc0:Ej ((Hs i).m.get X)=some k:=(Sz.N3 u).resolve_left A3V;have Aq3:=A.N3 X J k A3X hc0;have hcy:Ej ((Hs j).m.get y)=some k:=(hb.N3 (by rw[<- h1];exact u)).resolve_left I;exact R k hcy (.inl (by rw[E];exact Aq3))
 refine⟨t.Aj6 C W,(t.fr.mono Sm.le).put M9 d.nt hv,t.AkF d C hd W hF,t.ds1 d C v,t.gl.mono Sm.le,Sm.ok,?_,?_,?_⟩;. refine t.Sm.join Sm (d.nx om om) (d.nx hi (Yw _)) ?_;intro y hy e M;exact hNW i y hi (by rw[E];exact hy) (A4e y hy e M)
 .intro y e hy;cases s:σ y with
  |none=>have:=Aqw y e s hy;exact .inr ⟨i,hi,J7,this⟩
  |some e'=>
   rcases t.dom y e' s with h1|⟨x,h1,h2,h3⟩;. exact .inl h1
   .exact .inr ⟨x,h1,hup x h2,h3⟩
 .intro y e hy;cases s:σ y with
  |some e'=>
   have hee:e'=e:=by have:=Sm.le y e' s;rw[hy]at this;cases this;rfl
   subst hee;rcases Fv y (Hs i).nx with h1|h1
   .obtain⟨U,V,q3⟩:=AvY y e' s h1;by_cases Q:T Hs i y\/∃k,Ej ((Hs i).m.get y)=some k/\T Hs i k
    .refine⟨i+1,hi,?_,?_,ma' y e' hy⟩
     .intro x l n;by_cases r:x=i;. subst r;rw[J7];simp
      .rw[Le r,U x l n];omega
     .intro k u x l n;have hk':=d.same (i:=i) (j:=i+1) om hi h1 u;by_cases r:x=i;. subst r;rw[J7];simp
      .rw[Le r,V k hk' x l n];omega
    .rw[not_or]at Q;have A4q:∀k,Ej ((Hs i).m.get y)=some k->¬ T Hs i k:=λk u n=>Q.2 ⟨k,u,n⟩;refine⟨i,by omega,?_,?_,AqJ y e' i s Q.1 A4q q3⟩
     .intro x l n;by_cases r:x=i;. subst r;exact absurd n Q.1
      .rw[Le r];exact U x l n
     .intro k u x l n;by_cases r:x=i;. subst r;exact absurd n (A4q k u)
      .rw[Le r];exact V k u x l n
   by_cases Ben:(Hs ops.size).nx<=y
   .have Ix:∀x,x<ops.size->¬ T Hs x y:=by intro x l n;have K:=d.low l n;have Y:=d.nx (i:=x+1) (j:=ops.size) l (Yw _);omega
    have I:(Hs i).m.get y=.none:=S.Rm y h1 (t.so.low y e' s);refine⟨i,by omega,λx l n=>absurd n (Ix x l),λk u=>?_,?_⟩;. rw[I]at u;cases u
    .rw[I];trivial
   .obtain⟨B,p1,p2,p3⟩:∃x,x<ops.size/\D x=true/\(Hs x).nx<=y/\y<(Hs (x+1)).nx:=by
     rcases t.dom y e' s with h2|h2;. have:=d.nx (i:=0) (j:=i) om om;omega
     .exact h2
    have A9h:B≠i:=by rintro rfl;rw[hd]at p2;cases p2
    have hgt:i<B:=by
     rcases Fv i B with h2|h2;. exact h2
     .have h3:B+1<=i:=by omega
      have:=d.nx h3 om;omega
    have A8M:=d.nx (i:=i+1) (j:=B) hgt om;obtain⟨j,k1,k2,k3,k4⟩:=t.mem y e' s;have O:¬ T Hs i y:=by intro n;have:=d.low hi n;omega
    have R:∀k,Ej ((Hs j).m.get y)=some k->¬ T Hs i k:=by
     intro k u n;have hkl:=d.low hi n;have hxj:B<j:=(k2 B p1 (.inr p3)).1 p2;have Z0:=d.same (i:=B+1) (j:=j) hxj k1 p3.2 u;rcases(d.step B p1).Vh y k p3.1 p3.2 (t.so.low y e' s) Z0 with K|K;. have hor:=Anh B p1 A9h ⟨k,K,by omega⟩;have:=(t.side d C hd W p1 hor).1 p2;omega
     .have h5':(Hs B).nx<=k:=K;omega
    refine⟨j,k1,?_,?_,AqJ y e' j s O R k4⟩
    .intro x l n;by_cases r:x=i;. subst r;exact absurd n O
     .rw[Le r];exact k2 x l n
    .intro k u x l n;by_cases r:x=i;. subst r;exact absurd n (R k u)
     .rw[Le r];exact k3 k u x l n
  |none=>
   have Wj:=Aqw y e s hy;have hyl:=Sm.ok.low y e hy;refine⟨i+1,hi,?_,?_,ma' y e hy⟩
   .intro x l n;by_cases r:x=i;. subst r;rw[J7];simp
    .rw[Le r];rcases n.cases d l with⟨U,V⟩|q;. rw[t.side d C hd W l (Anh x l r ⟨y,U,V⟩)];omega
     .exact absurd (d.Ur l hi q Wj) r
   .intro k u x l n;by_cases r:x=i;. subst r;rw[J7];simp
    .rw[Le r];rcases n.cases d l with⟨U,V⟩|q;. rw[t.side d C hd W l (Anh x l r ⟨k,U,V⟩)];omega
     .have S3:=((d.inv (i+1) hi).N3 y k hyl u).1;have B6:x<i:=by
       rcases Fv x i with h3|h3;. exact h3
       .have h4:i+1<=x:=by omega
        have:=d.nx h4 om;omega
      have A8M:=d.nx (i:=x+1) (j:=i) B6 om;rcases A.Vh y k Wj.1 Wj.2 hyl u with K|K
      .have hkw:k<(Hs i).nx:=by omega
       obtain⟨p,hp⟩:∃p,ops[x]?=some p:=⟨_,S2 l⟩;rcases d.calm i x p hi hp (Ne.symm r) ⟨k,by rw[E];exact K,hkw⟩with Y|Y|⟨_,Y⟩;. rw[t.side d C hd W l (.inr Y)];omega
       .rw[t.side d C hd W l (.inl Y)];omega
       .exact absurd q (Yo Y k ((L7 _ _ _).2 ⟨by rw[E];exact K,hkw⟩))
      .have h5':(Hs i).nx<=k:=K;omega
end step
def AkR(P:Program)(G:Nat)(o:Oper)(f:L2):Prop:=∀(σ:Dx) (nt:Nat) (a:Act) (h h':H) (w:World) (v:AV) (Z:Ac),
 opD o.op o.type P Z f h=.ok v h'->o.op.operands.toList.all (Es G)=true->Pt σ nt f a->Vm G σ->∃v' w',Ran P (execOp a.eval o) w v' w'/\Ag4 σ h w v v' h' w'
def Hm.at{o}(c:Hm P G o) f:AkR P G o f:=λσ nt a h h' w v Z=>c _ _ f a h _ w v _
def Aiu(o:Oper)(f:L2):Gi P o.op f=.all\/AkR P G o f\/∃t x,o.op=.load t x:=by
 obtain⟨dst,op,ty,pos,af,gd⟩:=o;cases op;case move x=>exact .inr (.inl ((Ae1 x).at f))
 case assign x=>exact .inr (.inl ((AaD x).at f))
 case pick c x y=>exact .inr (.inl ((Ae2 c x y).at f))
 case alloc e=>exact .inr (.inl ((Acn e).at f))
 case box e x=>exact .inr (.inl ((Ah4 e x).at f))
 case build t p=>exact .inr (.inl ((Acp t p).at f))
 case buildSlice t n p=>exact .inr (.inl ((Ro t n p).at f))
 case load t x=>exact .inr (.inr ⟨t,x,rfl⟩)
 case nilCheck x=>exact .inr (.inl ((Vq x).at f))
 case binOp op t x y yt=>exact .inr (.inl ((Aco op t x y yt).at f))
 case unOp op t x=>exact .inr (.inl ((Ae3 op t x).at f))
 case makeInterface t x=>exact .inr (.inl ((Sv t x).at f))
 case makeFunc fn x y=>exact .inr (.inl ((Vp fn x y).at f))
 case slice t x lo hi mx=>exact .inr (.inl ((Acs t x lo hi mx).at f))
 case fieldAddr t x i=>exact .inr (.inl ((Ss t x i).at f))
 case field t x i=>exact .inr (.inl ((Acq t x i).at f))
 case indexAddr t x i=>exact .inr (.inl ((Su t x i).at f))
 case index t x i=>exact .inr (.inl ((Acr t x i).at f))
 case typeAssert x xt t ok=>exact .inr (.inl ((Rp x xt t ok).at f))
 case extract x i=>exact .inr (.inl ((Xz x i).at f))
 case call c=>
  obtain⟨j,args,d⟩:=c;cases j with
  |value g=>exact .inl rfl
  |invoke r name=>exact .inl rfl
  |builtin s=>
   cases s;case len=>
    obtain⟨l⟩:=args;match l with
    |[]=>exact .inl rfl
    |x::y::l=>exact .inl rfl
    |[x]=>
     refine .inr (.inl ?_);intro σ nt a h h' w v Z u De q z;have A:Au σ (ev x f) (a.eval x):=Cj q z x (by rw[Od]at De;exact De x (by simp[Op.operands,Call.operands]));have m:J8 .len d.toList [ev x f] P h=.ok v h':=u;unfold J8 at m;dsimp only at m;cases k:d.toList with
     |nil=>rw[k]at m;cases m
     |cons t ts=>rw[k]at m;have B:lnK (Pw P t) (ev x f) h=.ok v h':=m;obtain⟨v',h1,h2,rfl⟩:=AeE (ty:=ty) A B w d (by rw[<- Array.getElem?_toList,k];rfl);refine⟨v',w,.inl ?_,.quiet _ _ h2⟩;simp[execOp,resolve,invoke,builtin,h1]
   all_goals exact .inl rfl
 all_goals exact .inl rfl
def Bb8{ty:TypeId}(t:TypeId)(x:Operand)(p:opD (.load t x) ty P Z f h=.ok v h'):h'=h:=by
 have j:ldV (ev x f) (Ft P t) h=.ok v h':=p;generalize ev x f=u at *
 cases u<;>first|(cases j;done)|skip
 rename_i b off;have e:ldC (h.rd b) (Ft P t) off h=.ok v h':=j;cases k:h.rd b with
 |none=>rw[k]at e;cases e
 |some c=>
  rw[k]at e;have d:ldL (Ft P t) c off h=.ok v h':=e;cases l:Ft P t with
  |none=>rw[l]at d;cases d
  |some i=>
   rw[l]at d;cases i with
   |none=>exact(AbA (show Py (AcE c off) h=.ok v h' from d)).2
   |some n=>
    obtain⟨cs,q,rfl,m⟩:=Aaj (show Ly (Nf c off n) h=.ok v h' from d)
    exact m
def A2q{i:Option (Option Nat)}{b off:Nat}{e:AV}(hc:cellAt (h.m.get b) off i=some e):ldV (.ptr b off) i h=.ok e h:=by
 unfold cellAt at hc;split at hc
 .rename_i cs ty l;have k:h.rd b=some cs:=by unfold H.rd;rw[l];rfl
  show ldC (h.rd b) i off h=_;rw[k];show ldL i cs off h=_;unfold Tn at hc;cases i with
  |none=>cases hc
  |some i=>
   cases i with
   |none=>
    show Py (AcE cs off) h=_;rw[show AcE cs off=some e from hc]
    rfl
   |some n=>
    show Ly (Nf cs off n) h=_;have d:(Nf cs off n).map AV.agg=some e:=hc;cases j:Nf cs off n with
    |none=>rw[j]at d;cases d
    |some c=>rw[j]at d;cases d;rfl
 .cases hc
def BfT{ty:TypeId}(t:TypeId)(x:Operand){h2:H}{b off:Nat}{d:AV}(j:opD (.load t x) ty P Z f (Ab h)=.ok v h')(e:ev x f=.ptr b off)(h1:cellAt (h.m.get b) off (Ft P t)=some d)(k:cellAt (h2.m.get b) off (Ft P t)=some d):opD (.load t x) ty P Z f h2=.ok v h2:=by have c:ldV (ev x f) (Ft P t) (Ab h)=.ok v h':=j;rw[e,A2q (h:=Ab h) h1]at c;cases c;show ldV (ev x f) (Ft P t) h2=_;rw[e];exact A2q k
def Dr.cell(q:Dr P G Z ops nt F Hs){i j y off:Nat}{I:Option (Option Nat)}(hi:i<=ops.size)(hj:j<=ops.size)(hy:y<Bq)(k:∀x,x<ops.size->T Hs x y->(x<i ↔ x<j)\/cellAt ((Hs x).m.get y) off I=cellAt ((Hs (x+1)).m.get y) off I):
 cellAt ((Hs i).m.get y) off I=cellAt ((Hs j).m.get y) off I:=by
 have d:∀(m a:Nat),a+m<=ops.size->(∀x,a<=x->x<a+m->T Hs x y->cellAt ((Hs x).m.get y) off I=cellAt ((Hs (x+1)).m.get y) off I)->cellAt ((Hs a).m.get y) off I=cellAt ((Hs (a+m)).m.get y) off I:=by
  intro m;induction m with
  |zero=>intro a _ _;rfl
  |succ m p=>
   intro a r l;have h1:=p a om λx h1 h2 c=>l x h1 om c;rw[h1,show a+(m+1)=a+m+1 by omega]
   by_cases n:T Hs (a+m) y
   .exact l (a+m) om om n
   .rw[q.AzD om hy n]
 rcases Nat.le_total i j with e|e
 .have:=d (j-i) i om λx h1 h2 c=>(k x om c).elim (λh=>by omega) id;rwa[show i+(j-i)=j by omega]at this
 .have:=d (i-j) j om λx h1 h2 c=>(k x om c).elim (λh=>by omega) id;rw[show j+(i-j)=i by omega]at this
  exact this.symm
def AdW{f g:L2}(o:Op)(j:∀x∈o.operands.toList,ev x f=ev x g):Gi P o f=Gi P o g:=by
 cases o;case load t x=>have:=j x (by simp[Op.operands]);show Bn _ _=Bn _ _;rw[this]
 case call c=>
  obtain⟨d,args,e⟩:=c;cases d with
  |value g=>rfl
  |invoke r name=>rfl
  |builtin k=>
   cases k;case len=>
    obtain⟨l⟩:=args;match l with
    |[]=>rfl
    |[x]=>rfl
    |x::y::l=>rfl
   all_goals rfl
 all_goals rfl
section step
variable {σ0:Dx}{w0:World}{NW:List Nat}{D:Nat->Bool}{g:L2}{i:Nat}{o:Oper}
def Aqc(c:∀t w,guardOf ops o=.on t w->f.get t=g.get t):gv ops o f=gv ops o g:=by unfold gv;grind
def Aqa(k:∀x∈ops.toList,Gl G nt x=true){t}{w}(c:guardOf ops o=.on t w):t<nt:=by
 unfold guardOf at c;split at c;. grind
 .rename_i j e l;split at c;. rename_i t' hj;cases c;cases d:ops[j]? with
    |none=>grind
    |some x=>
     rw[d]at hj;have m:x∈ops.toList:=by grind
     exact(Lu (k x m)).2 t hj
  grind
def Iv.step(hc:Bd P G Z)(d:Dr P G Z ops nt F Hs)(r:Iv G ops nt F Hs σ0 w0 NW D σ g a w)(s:ops[i]?=some o)(hd:D i=false)(I:∀e∈o.after.toList,Region.binds .any e=true->D e.on=true)
 (hNW:∀x y,x<ops.size->y∈(Hs (x+1)).lg->y<(Hs x).nx->y∈NW) (hb:RBk b σ g):∃σ' g' a' w',Iv G ops nt F Hs σ0 w0 NW (D1 D i) σ' g' a' w'/\RBk b σ' g' /\
  ∀rest k cs,Calm b cs->Steps P (lone (b.at a (.inRegion ops (i::rest)::k)) cs w) (lone (b.at a' (.inRegion ops rest::k)) cs w'):=by
 have hi:i<ops.size:=(Lp.1 s).1;have Vc:o∈ops.toList:=by simpa using dk s
 obtain⟨De,M9⟩:=Lu (d.all o Vc);have Ix:=d.nt;have X:∀x∈o.op.operands.toList,ev x (F i)=ev x g:=by
  intro x hx;cases x with
  |tmp t=>
   have ht:t<250:=by have:=Od.1 De _ hx;exact Ec this
   exact(r.reads d s hd I ht (.inl hx)).symm
  |_=>rfl
 have hgv:gv ops o (F i)=gv ops o g:=Aqc λt w hg=>(r.reads d s hd I (ab (Aqa d.all hg) Ix) (.inr ⟨w,hg⟩)).symm;have hds:(F i).get Br=g.get Br:=by rw[r.ds];refine d.Acl om om fe (λx hx R=>?_);obtain⟨p,hp,hpd⟩:=R;have h1:(255:Nat)<nt:=(d.frame hp).1 255 hpd;omega
 have X5:=Zy (o:=o) d.all r.fr Ix;rw[<- hgv]at X5;have A:∀v,(Im o.dst v g).get Br=g.get Br:=λv=>by rw[r.ds1 d s v,r.ds]
 have W:=d.A4P o Vc;have U:∀c,o.op≠.defer c:=by intro c O0;rw[O0]at W;cases W
 rcases Pf (d.run i o s) (λn hn=>by cases hn)with⟨hg,hq⟩|⟨hg,_,v,h',hv,hq⟩|⟨_,c,hq,_⟩
 .injection hq with S hH;refine⟨σ,_,_,w,r.still d s hd I S hH (L6 σ),hb.mono (Qq.refl σ) (A _),?_⟩;intro rest k cs C;have:=Asa (P:=P) (b:=b) (a:=a) (k:=k) (cs:=cs) (w:=w) (ops:=ops) (i:=i) (rest:=rest) (by rw[s];simpa using X5.2 hg);rw[s]at this;exact .one this
 .injection hq with S hH;subst hH;have R:=X5.1 hg;have J:opD o.op o.type P Z g (Ab (Hs i))=.ok v (Hs (i+1)):=by rw[<- hv];exact(AnF o.op o.type hds X).symm
  have A8C:(Hs (i+1)).nx<=Bq:=d.nxl hi;rcases Aiu (P:=P) (G:=G) o g with hr|hr|⟨t,x,hr⟩
  .have hrF:Gi P o.op (F i)=.all:=by rw[<- hr];exact AdW o.op X
   have Anh:∀x,x<ops.size->x≠i->(∃z,z∈(Hs (x+1)).lg/\z<(Hs x).nx)->Bef ops x i\/Bef ops i x:=by
    intro x hx Gb hz;rcases d.calm x i o hx s Gb hz with h1|h1|⟨h1,_⟩
    .exact .inl h1
    .exact .inr h1
    .rw[hrF]at h1;cases h1
   obtain⟨hma,Aq9⟩:=r.whole d s hd I hNW Anh;have Vt:St G σ nt g a (Ab (Hs i)) w:=⟨r.fr,r.gl,(d.inv i om).Ab,r.so,hma⟩;obtain⟨σ',v',w',h1,h2,E⟩:=Aim hc o σ nt g a (Ab (Hs i)) (Hs (i+1)) w v b J De Vt hb A8C (r.free d hi hd);exact⟨σ',_,_,w',Aq9 v v' σ' w' S h1 h2,hb.mono h2.le (A _),λrest k cs C=>E ops i rest k cs s R C⟩
  .obtain⟨v',w',h1,h2⟩:=hr σ nt a (Ab (Hs i)) (Hs (i+1)) w v Z J De r.fr r.gl;have Du:=AbK.ran (b:=b) U h1;generalize Q:Hs (i+1)=h' at h2;cases h2 with
   |quiet v v' hvr=>exact⟨σ,_,_,w,r.still d s hd I S Q hvr,hb.mono (Qq.refl σ) (A _),λrest k cs C=>Du ops i rest k cs s R C⟩
   |ptr l l' t hl=>have hf:σ (Hs i).nx=none:=r.free d hi hd _ (Yw _) (by rw[Q];exact Up _);exact⟨_,_,_,_,r.make d s hd I S Q hl (.ptr _ 0 ⟨w.heap.size,l.length,none⟩ (by show Gu σ (Hs i).nx _ (Hs i).nx=_;simp[Gu])),hb.mono (Ip hf) (A _),λrest k cs C=>Du ops i rest k cs s R C⟩
   |sl l l' t len cap sz hle hl=>have hf:σ (Hs i).nx=none:=r.free d hi hd _ (Yw _) (by rw[Q];exact Up _);exact⟨_,_,_,_,r.make d s hd I S Q hl (.sl _ 0 len cap sz true ⟨w.heap.size,l.length,none⟩ cap (by show Gu σ (Hs i).nx _ (Hs i).nx=_;simp[Gu]) hle (Yw _) (λ_=>rfl) (λhh=>by cases hh)),hb.mono (Ip hf) (A _),λrest k cs C=>Du ops i rest k cs s R C⟩
  .obtain⟨dst,op,ty,pos,af,gd⟩:=o;dsimp only at hr;subst hr;have Rr:ev x (F i)=ev x g:=X x (by simp[Op.operands]);have hq0:Hs (i+1)=Ab (Hs i):=Bb8 t x J;by_cases hcf:∃z y off v0,z<ops.size/\z≠i/\ev x g=.ptr y off/\cellAt ((Hs i).m.get y) off (Ft P t)=some v0/\(∃u,u∈(Hs (z+1)).lg/\u<(Hs z).nx)
   .obtain⟨z0,y,off,v0,hz0,B9C,hy,K,hu0⟩:=hcf;cases L:σ y with
    |none=>obtain⟨v',h1,h2,E⟩:=Ae0 (P:=P) (w:=w) (dst:=dst) (pos:=pos) (af:=af) (gd:=gd) t x J (by simpa[Op.operands]using De) r.fr r.gl (by intro y' Yk e' O M;rw[hy]at O;cases O;rw[L]at M;cases M);exact⟨σ,_,_,w,r.still d s hd I S E h2,hb.mono (Qq.refl σ) (A _),λrest k cs C=>AbK.ran (b:=b) U h1 ops i rest k cs s R C⟩
    |some e=>
     have V:Gi P (.load t x) (F i)=.blk y off (Ft P t):=by show Bn _ (ev x (F i))=_;rw[Rr,hy];rfl
     have hyl:=r.so.low y e L;have hyn:y<(Hs i).nx:=by refine Ab7 (d.inv i om) hyl λhh=>?_;rw[hh]at K;cases K
     obtain⟨j,k1,k2,k3,k4⟩:=r.mem y e L;have Ayy:∀x',x'<ops.size->T Hs x' y->(x'<i ↔ x'<j)\/cellAt ((Hs x').m.get y) off (Ft P t)=cellAt ((Hs (x'+1)).m.get y) off (Ft P t):=by
      intro x' B ht;by_cases Gb:x'=i
      .subst Gb;right;rw[hq0];rfl
      .rcases ht.cases d B with⟨Y,q2⟩|q
       .rcases d.calm x' i _ B s Gb ⟨y,Y,q2⟩with h1|h1|⟨h1,_⟩
        .left;rw[<- r.side d s hd I B (.inl h1)];exact k2 x' B ht
        .left;rw[<- r.side d s hd I B (.inr h1)];exact k2 x' B ht
        .dsimp only at h1;rw[V]at h1;rcases Am6 h1 with⟨c1,_⟩|⟨_,_,c2⟩
         .exact absurd ((L7 (Hs x').nx y (Hs (x'+1)).lg).2 ⟨Y,q2⟩) c1
         .exact .inr c2
       .left;have B6:x'<i:=by
         rcases Fv x' i with E|E
         .exact E
         .have:=d.nx E om;omega
        have hD:D x'=true:=by
         rcases r.dom y e L with E|⟨z,E,h4,h5⟩
         .have:=d.nx (i:=0) (j:=x') om om;have:=d.nx (i:=i) (j:=ops.size) om (Yw _);omega
         .have:=d.Ur E B h5 q;subst this;exact h4
        exact⟨λ_=>(k2 x' B ht).1 hD,λ_=>B6⟩
     have O9:=d.cell (by omega:i<=ops.size) k1 hyl Ayy;have hvj:opD (.load t x) ty P Z g (Hs j)=.ok v (Hs j):=BfT t x J hy K (by rw[<- O9];exact K);obtain⟨v',h1,h2,E⟩:=Ae0 (P:=P) (w:=w) (dst:=dst) (pos:=pos) (af:=af) (gd:=gd) t x hvj (by simpa[Op.operands]using De) r.fr r.gl (by intro y' Yk e' O M;rw[hy]at O;cases O;rw[L]at M;cases M;exact k4);exact⟨σ,_,_,w,r.still d s hd I S hq0 h2,hb.mono (Qq.refl σ) (A _),λrest k cs C=>AbK.ran (b:=b) U h1 ops i rest k cs s R C⟩
   .obtain⟨v',h1,h2,E⟩:=Ae0 (P:=P) (w:=w) (dst:=dst) (pos:=pos) (af:=af) (gd:=gd) t x J (by simpa[Op.operands]using De) r.fr r.gl (by
     intro y off e hy hye;by_cases AaJ:(Hs i).m.get y=.none
     .show Gr G σ (Hs i).m.get e w ((Hs i).m.get y);rw[AaJ];trivial
     have hyn:y<(Hs i).nx:=Ab7 (d.inv i om) (r.so.low y e hye) AaJ;refine(r.here d s hd I hye hyn ?_).2.2;intro z u hz hzi hu Y q2;rcases d.calm z i _ hz s hzi ⟨u,Y,q2⟩with h1|h1|⟨h1,_⟩
     .exact .inl h1
     .exact .inr h1
     .exfalso;have V:Gi P (.load t x) (F i)=.blk y off (Ft P t):=by show Bn _ (ev x (F i))=_;rw[Rr,hy];rfl
      dsimp only at h1;rw[V]at h1;rcases Am6 h1 with⟨c1,c2⟩|⟨v0,K,_⟩
      .have Wj:=(L7 (Hs z).nx u (Hs (z+1)).lg).2 ⟨Y,q2⟩;rcases hu with rfl|hu
       .exact c1 Wj
       .exact c2 u hu Wj
      .exact hcf ⟨z,y,off,v0,hz,hzi,hy,K,u,Y,q2⟩)
    exact⟨σ,_,_,w,r.still d s hd I S E h2,hb.mono (Qq.refl σ) (A _),λrest k cs C=>AbK.ran (b:=b) U h1 ops i rest k cs s R C⟩
 .rw[W]at hq;cases hq
def Iv.go(hc:Bd P G Z)(u:Dr P G Z ops nt F Hs)(m:∀x y,x<ops.size->y∈(Hs (x+1)).lg->y<(Hs x).nx->y∈NW):∀l D,Aef ops D l->∀σ g a w,
 Iv G ops nt F Hs σ0 w0 NW D σ g a w->RBk b σ g->∃p n q a' w',(∀i,i<ops.size->p i=true)/\Iv G ops nt F Hs σ0 w0 NW p n q a' w'/\RBk b n q /\
  ∀k cs,Calm b cs->Steps P (lone (b.at a (.inRegion ops l::k)) cs w) (lone (b.at a' (.inRegion ops []::k)) cs w'):=by intro l D c;induction c with
 |nil D I=>exact λσ g a w j d=>⟨D,_,g,a,w,I,j,d,λk cs _=>.refl P _⟩
 |cons D i o rest C hd he J s=>intro σ g a w j d;obtain⟨R,O,a1,K,e,B,z⟩:=j.step hc u C hd he m d;obtain⟨Q,M,L,a2,w2,E,t,A,s2⟩:=s _ _ _ _ e B;exact⟨_,_,_,_,_,E,t,A,λk cs r=>(z _ k _ r).trans (s2 k _ r)⟩
end step
def J6.cut(hi:Om h)(c:J6 (Ab h) h' h'.lg) l:J6 (Be l h) (Be (wrote h.nx h'.lg++l) h') (wrote h.nx h'.lg):=by
 have d:∀y,y∈wrote .. ↔ y∈h'.lg/\y<h.nx:=λy=>L7 ..;refine⟨rfl,c.nx,λy hy=>c.low y ((d y).1 hy).1,?_,?_,?_,c.same,c.inv.Be _,λy hy=>c.live y ((d y).1 hy).1⟩;. intro y h1 h2 j;exact c.By y h1 h2 λp=>j ((d y).2 ⟨p,h2⟩)
 .intro y hy k h1 h2;have e:=Xq h1 hi.top;exact(d k).2 ⟨c.N3 y ((d y).1 hy).1 k h1 h2,(hi.N3 y k e h2).1⟩
 .intro y k h1 h2 j q;rcases c.Vh y k h1 h2 j q with n|n
  .rcases Fv k h.nx with m|m;. grind
   .exact .inr m
  .exact .inr n
def AiN lg:∀c,En c lg=c.flatMap (·.w)++lg:=by intro c;induction c with
|nil=>rfl
|cons e c d=>show Akm _ (En ..)=_;rw[AfT,d];simp
def Ahp(hc:Bd P G Z)(P5:P.follows .mixedOrders=true)(C:Yx ops=true)(Fs:∀x∈ops.toList,Gl G nt x=true)(Ix:nt<250)(he:Gk P Z ops f h=.Bt f' h')
 (hs:St G σ nt f a h w) (hb:RBk b σ f) (hl:h'.nx<=Bq) (hf:Fx σ h h') (id:Nat):∃n a' w',St G n nt f' a' h' w'/\RBk b n f'/\Out G σ h w n h' w' /\
  ∀k cs,Calm b cs->Steps P (lone (b.at a (.code (.region id ops true)::k)) cs w) (lone (b.at a' k) cs w'):=by
 have l:=hs.draw (w.drawn+1);obtain⟨F,Hs,q,r,q1,L,q3,q4,q5,q6⟩:=Dr.of_run hc C Fs Ix he l hb hl hf;have S:∀x y,x<ops.size->y∈(Hs (x+1)).lg->y<(Hs x).nx->y∈q.flatMap (·.w):=by
  intro x y c h1 h2;obtain⟨z,A,E⟩:=q6 x c;have hz:z∈q:=by have:=Vl A;simpa using this
  rw[List.mem_flatMap];exact⟨z,hz,by rw[E];exact(L7 _ _ _).2 ⟨h1,h2⟩⟩
 have X:=Tp C;have hD0:∀x,x<ops.size->(Array.replicate ops.size false).getD x true=false:=by intro x c;simp[Array.getD,c]
 have T:h'.nx=(Hs ops.size).nx:=by rw[q4];rfl
 have V:Iv G ops nt F Hs σ { w with drawn:=w.drawn+1 } (q.flatMap (·.w)) (λi=>(Array.replicate ops.size false).getD i true) σ f a { w with drawn:=w.drawn+1 }:=by
  refine⟨?_,l.fr,?_,by rw[q1],l.gl,l.so,⟨Qq.refl σ,λy e h1 h2=>(by rw[h1]at h2;cases h2),l.so,Yw _,λ_ _ _=>rfl,λy e h1 h2=>(by rw[h1]at h2;cases h2),⟨rfl,rfl⟩⟩,?_,?_⟩;. intro x o ho c;grind
  .grind
  .intro y e hy;left;rw[L];rcases Fv y h.nx with h1|h1;. exact .inl h1
   .rcases Fv y h'.nx with h2|h2;. rw[hf y h1 h2]at hy;cases hy
    .exact .inr om
  .intro y e hy;refine⟨0,by omega,λx c _=>?_,λk _ x c _=>?_,by rw[L];exact l.ma y e hy⟩;. simp_all
   simp_all
 have M:=Aod X (w.tape w.drawn (.order b.fn id));obtain⟨D',n,g',a',w',W,s,p3,p4⟩:=Iv.go hc r S _ _ M _ _ _ _ V hb;have R:Pt n nt (F ops.size) a':=by
  refine⟨s.fr.size,?_,?_⟩;. intro t B;obtain⟨j,h1,h2,A⟩:=s.Ase t B;have e:(F j).get t=(F ops.size).get t:=r.Acl h1 (Yw _) om (λx c I=>by rw[<- h2 x c I,W x c];simp[c]);rw[<- e,<- A];exact s.fr.slot t B
  .have e:(F ops.size).get Br=(F 0).get Br:=by refine r.Acl (Yw _) om fe (λx c I=>?_);obtain⟨p,Q,u⟩:=I;have h1:(255:Nat)<nt:=(r.frame Q).1 255 u;omega
   rw[e,<- s.ds];exact s.fr.defers
 have Y:V1 G n (Hs ops.size).m.get w':=by
  intro y e hy;obtain⟨j,h1,h2,A,E⟩:=s.mem y e hy;refine(r.move (Yw _) h1 (s.so.low y e hy) ?_ ?_ E).2;. intro x c B;rw[<- h2 x c B,W x c];simp[c]
  .intro k J x c B;rw[<- A k J x c B,W x c];simp[c]
 have U:∀k,k<=ops.size->J6 h (Be (((q.reverse.take k).reverse).flatMap (·.w)++h.lg) (Hs k)) (((q.reverse.take k).reverse).flatMap (·.w)):=by intro k;induction k with
  |zero=>intro _;rw[L];exact J6.refl l.ai
  |succ k ih=>
   intro J;have h1:=ih om;obtain⟨z,A,E⟩:=q6 k J;have e:(q.reverse.take (k+1)).reverse=z::(q.reverse.take k).reverse:=by rw[Ga,A];simp
   rw[e,dh,E,Rq];have h5:=J6.cut (r.inv k om) (r.step k J) (((q.reverse.take k).reverse).flatMap (·.w)++h.lg);refine h1.trans h5 ?_;exact r.nxl J
 have K:=U ops.size (Yw _);have e:(q.reverse.take ops.size).reverse=q:=by rw[Qa (by rw[q5];exact Yw _),List.reverse_reverse]
 rw[e,<- AiN,<- q4]at K;have d:Oz σ n h h' w w' (q.flatMap (·.w)):=by have d:=s.Sm;refine⟨d.le,?_,d.ok,d.grow,d.frame,d.Vh,d.io⟩;intro y e h1 h2;have:=d.fresh y e h1 h2;rw[L]at this;rw[T];exact this
 have O:V1 G n h'.m.get w':=by rw[q4];exact Y
 have Vd:Out G σ h w n h' w':=⟨_,K,d,O⟩;refine⟨n,a',w',?_,?_,Vd,?_⟩;. rw[q3];exact hs.next Vd R
 .have e:f'.get Br=g'.get Br:=by rw[q3,s.ds];refine r.Acl (Yw _) om fe (λx c I=>?_);obtain⟨p,Q,u⟩:=I;have h1:(255:Nat)<nt:=(r.frame Q).1 255 u;omega
  exact p3.mono (Qq.refl n) e
 .intro k cs Hq;refine .head AzG ?_;rw[P5];exact(p4 k cs Hq).trans (.one Tv)
variable {a':Act}
def Fin(r:RC)(f':L2)(h':H):Prop:=r=.Bt f' h'\/(∃i,r=.ext i f' h')\/r=.ret f' h'
def Ends(P:Program)(b:FB)(src dst:List Item->List Item)(a:Act)(w:World)(c:Dx)(r:RC)(a':Act)(w':World):Prop:=
 match r with
 |.Bt _ _=>∀k cs,Calm b cs->Steps P (lone (b.at a (src k)) cs w) (lone (b.at a' (dst k)) cs w')
 |.ext id _ _=>∀k cs,Calm b cs->∃k',exitTo id k'=exitTo id k/\Steps P (lone (b.at a (src k)) cs w) (lone (b.at a' (.code (.exit id)::k')) cs w')
 |.ret _ _=>∀k cs,Calm b cs->∃k',Steps P (lone (b.at a (src k)) cs w) (lone (b.at a' (.code .ret::k')) cs w')
 |.bad _=>True
def Eb(P:Program)(G:Nat)(nt:Nat)(b:FB)(src dst:List Item->List Item)(go:L2->H->RC):Prop:=
 ∀(σ:Dx) (f:L2) (a:Act) (h:H) (w:World) (f':L2) (h':H) (r:RC),go f h=r->Fin r f' h'->St G σ nt f a h w->RBk b σ f->h'.nx<=Bq->Fx σ h h' ->
  ∃c a' w',St G c nt f' a' h' w'/\RBk b c f'/\Out G σ h w c h' w'/\Ends P b src dst a w c r a' w'
def Ends.head{src c dst:List Item->List Item}(d:∀k cs,step P (lone (b.at a (src k)) cs w)=.next (lone (b.at a (c k)) cs w))(e:Ends P b c dst a w σ' j a' w'):Ends P b src dst a w σ' j a' w':=by
 cases j with
 |bad n=>trivial
 |Bt f h=>exact λk cs hc=>.head (d k cs) (e k cs hc)
 |ext id f h=>exact λk cs hc=>by obtain⟨k',h1,h2⟩:=e k cs hc;exact⟨k',h1,.head (d k cs) h2⟩
 |ret f h=>exact λk cs hc=>by obtain⟨k',h2⟩:=e k cs hc;exact⟨k',.head (d k cs) h2⟩
def Ends.pre{src mid dst:List Item->List Item}{a1:Act}{e:World}(c:∀k cs,Calm b cs->Steps P (lone (b.at a (src k)) cs w) (lone (b.at a1 (mid k)) cs e))(d:Ends P b mid dst a1 e σ' j a' w'):Ends P b src dst a w σ' j a' w':=by
 cases j with
 |bad n=>trivial
 |Bt f h=>exact λk cs hc=>(c k cs hc).trans (d k cs hc)
 |ext id f h=>exact λk cs hc=>by obtain⟨k',h1,h2⟩:=d k cs hc;exact⟨k',h1,(c k cs hc).trans h2⟩
 |ret f h=>exact λk cs hc=>by obtain⟨k',h2⟩:=d k cs hc;exact⟨k',(c k cs hc).trans h2⟩
def Eb.head{src c dst}{go}(q:∀a w k cs,step P (lone (b.at a (src k)) cs w)=.next (lone (b.at a (c k)) cs w))(l:Eb P G nt b c dst go):Eb P G nt b src dst go:=by intro σ f a h w f' h' r h1 h2 s t n d;obtain⟨u,a',w',j,m,e,p⟩:=l _ f a h w _ _ r h1 h2 s t n d;exact⟨_,_,_,j,m,e,p.head (q a w)⟩
def Eb.andThen{src mid dst}{go next}(p:Eb P G nt b src mid go)
 (hnx:∀f h,Ei h (next f h)) (Aq9:Eb P G nt b mid dst next):Eb P G nt b src dst λf h=>andThen next (go f h):=by intro σ f a h w f' h' r c k s t l m;dsimp at c;cases e:go f h with
 |bad n=>rw[e]at c;subst c;rcases k with hq|⟨_,hq⟩|hq<;>cases hq
 |Bt f1 h1=>
  rw[e]at c;have j:next ..=r:=c;have q:h1.nx<=h'.nx:=by refine hnx f1 _ f' _ ?_;rw[j];exact k
  obtain⟨J,a1,E,B,y,u,C⟩:=p _ f a h w _ _ _ e (.inl rfl) s t om (m.left q);obtain⟨I,a2,w2,A,z,p3,x⟩:=Aq9 _ _ _ _ _ _ _ r j k B y l (m.right u);exact⟨_,_,_,A,z,u.trans p3 l,Ends.pre C x⟩
 |ext id f1 h1=>
  rw[e]at c;have j:=c;subst j;have d:f1=f'/\h1=h':=by rcases k with hq|⟨_,hq⟩|hq<;>cases hq;simp
  obtain⟨rfl,rfl⟩:=d;exact p _ f a h w _ _ _ e (.inr (.inl ⟨_,rfl⟩)) s t l m
 |ret f1 h1=>
  rw[e]at c;have j:=c;subst j;have d:f1=f'/\h1=h':=by rcases k with hq|⟨_,hq⟩|hq<;>cases hq;simp
  obtain⟨rfl,rfl⟩:=d;exact p _ f a h w _ _ _ e (.inr (.inr rfl)) s t l m
def O7{c}{h1}(d:Fin (.Bt c h1) f' h'):f'=c/\h'=h1:=by rcases d with hq|⟨_,hq⟩|hq<;>cases hq;simp
def Ul{i}{c}{h1}(d:Fin (.ext i c h1) f' h'):f'=c/\h'=h1:=by rcases d with hq|⟨_,hq⟩|hq<;>cases hq;simp
def Abx{c}{h1}(d:Fin (.ret c h1) f' h'):f'=c/\h'=h1:=by rcases d with hq|⟨_,hq⟩|hq<;>cases hq;simp
def I5{n}(c:Fin (.bad n) f' h'):False:=by rcases c with hq|⟨_,hq⟩|hq<;>cases hq
def Code.src(c:Code)(k:List Item):List Item:=.code c::k
def Aih{src dst}(l:∀a w k cs,step P (lone (b.at a (src k)) cs w)=.next (lone (b.at a (dst k)) cs w)):Eb P G nt b src dst RC.Bt:=by intro σ f a h w f' h' r j e c d n m;subst j;obtain⟨rfl,rfl⟩:=O7 e;exact⟨_,a,w,c,d,Out.refl c.ai c.so c.ma,λk cs _=>.one (l a w k _)⟩
def Aiw(hc:Bd P G Z)(X:P.follows .mixedOrders=true){id:Nat}{ops:Array Oper}{q:Bool}(Y:codeOk G nt (.region id ops q)=true)(S:nt<250):
 Eb P G nt b (Code.src (.region id ops q)) (λk=>k) (exec (.region id ops q) P Z):=by
 have u:(@Bool.rec (λ_=>Bool) false (@Bool.rec (λ_=>Bool) true (Yx ops) q) (ops.toList.all (Gl G nt)):Bool)=true:=Y;cases K:ops.toList.all (Gl G nt)with
 |false=>rw[K]at u;cases u
 |true=>
  rw[K]at u;have s:∀x∈ops.toList,Gl G nt x=true:=Od.1 K;intro σ f a h w f' h' r c t O R Q T;cases q with
  |false=>
   have p:G3 P Z ops ops.toList f h=r:=c;have W:∀n,r≠.bad n:=λn hn=>by subst hn;exact I5 t
   obtain⟨e,h1,rfl,V⟩:=AeM (b:=b) hc s S ops.toList 0 rfl σ f a h w r p W O R;obtain⟨rfl,rfl⟩:=O7 t;obtain⟨B,a',w',J,A,I,L⟩:=V Q T;refine⟨B,a',w',J,A,I,λk cs Hq=>?_⟩;refine .head Adg ?_;have:=L k cs Hq;rw[ew,<- List.range_eq_range']at this;exact this.trans (.one Tv)
  |true=>
   have p:Gk P Z ops f h=r:=c;have z:Yx ops=true:=u;have C:∃e h1,r=.Bt e h1:=by
    cases r with
    |Bt e h1=>exact⟨e,h1,rfl⟩
    |bad n=>exact(I5 t).elim
    |ext i e h1=>exact(Aet p (λ_ _ j=>by cases j) (λ_ j=>by cases j)).elim
    |ret e h1=>exact(Aet p (λ_ _ j=>by cases j) (λ_ j=>by cases j)).elim
   obtain⟨e,h1,rfl⟩:=C;obtain⟨rfl,rfl⟩:=O7 t;obtain⟨B,a',w',J,A,I,L⟩:=Ahp hc X z s S p O R Q T id;exact⟨B,a',w',J,A,I,L⟩
where
 Aet {ops:Array Oper} {f:L2} {h:H} {r:RC} (c:Gk P Z ops f h=r) (h1:∀f' h',r≠.Bt f' h') (h2:∀n,r≠.bad n):False:=by
  unfold Gk at c
  cases hd:AnB ops with
  |false=>rw[hd]at c;exact h2 _ c.symm
  |true=>
   rw[hd]at c
   have E:∀(l:List DO) (m:List EF) (f:L2) (h:H) (lg:List Nat),Sp P Z ops lg l m f h≠r:=by
    intro l
    induction l with
    |nil=>
     intro m f h lg c
     have hq:(@Bool.rec (λ_=>RC) (.bad 183) (.Bt f (Be (En m lg) h)) (Lh m):RC)=r:=c
     cases hc:Lh m with
     |false=>rw[hc]at hq;exact h2 _ hq.symm
     |true=>rw[hc]at hq;exact h1 _ _ hq.symm
    |cons d l U=>
     intro m f h lg c
     have hq:(RC.rec (motive:=λ_=>RC) RC.bad (λf' h'=>Sp P Z ops lg l (⟨d.bit,d.pr,wrote h.nx h'.lg,Gi P d.o.op f,h,h'⟩::m) f' h') (λ_ _ _=>.bad 184) (λ_ _=>.bad 184) (Fp ops d.o P Z f (Ab h)):RC)=r:=c
     cases y:Fp ops d.o P Z f (Ab h)with
     |bad n=>rw[y]at hq;exact h2 _ hq.symm
     |ext id e M=>rw[y]at hq;exact h2 _ hq.symm
     |ret e M=>rw[y]at hq;exact h2 _ hq.symm
     |Bt e M=>rw[y]at hq;exact U _ _ _ _ hq
   exact E _ _ _ _ _ c
def Am7{y:Code}(De:Es G I=true)(E:Eb P G nt b (Code.src J) (λk=>k) (exec J P Z))(hy:Eb P G nt b (Code.src y) (λk=>k) (exec y P Z)):
 Eb P G nt b (Code.src (.cond I J y)) (λk=>k) (exec (.cond I J y) P Z):=by
 intro σ f a h w f' h' r C d e s B A;have m:Al2 (ev I f) (exec J) (exec y) P Z f h=r:=C;have c:=Cj e.fr e.gl I De;generalize ev I f=u at *
 generalize z:a.eval I=cc at *
 cases c;case bool t=>
  cases t with
  |true=>obtain⟨p,a',w',l,n,j,q⟩:=E σ f a h w f' h' r m d e s B A;exact⟨p,a',w',l,n,j,q.head (λk cs=>ArW z)⟩
  |false=>obtain⟨p,a',w',l,n,j,q⟩:=hy σ f a h w f' h' r m d e s B A;exact⟨p,a',w',l,n,j,q.head (λk cs=>ArW z)⟩
 all_goals exact(I5 (by rw[<- m]at d;exact d)).elim
def Aek{id:Nat}{src:List Item->List Item}{go:L2->H->RC}(z:Eb P G nt b src (λk=>k) go):Eb P G nt b (λk=>src (.inBlock id::k)) (λk=>k) (λf h=>inBlock id (go f h)):=by
 intro σ f a h w f' h' r J t u y x A;have d:inBlock id (go f h)=r:=J;cases e:go f h with
 |bad n=>rw[e]at d;subst d;exact(I5 t).elim
 |Bt f1 h1=>rw[e]at d;subst d;obtain⟨rfl,rfl⟩:=O7 t;obtain⟨l,a',w',p,j,m,s⟩:=z σ f a h w _ _ _ e (.inl rfl) u y x A;exact⟨l,a',w',p,j,m,λk cs q=>(s (.inBlock id::k) cs q).trans (.one Aoa)⟩
 |ext i f1 h1=>
  rw[e]at d;have B:(@Bool.rec (λ_=>RC) (RC.ext i f1 h1) (RC.Bt f1 h1) (Nat.beq i id):RC)=r:=d;cases c:Nat.beq i id with
  |true=>
   rw[c]at B;have C:=Ch c;subst C;subst B;obtain⟨rfl,rfl⟩:=O7 t;obtain⟨l,a',w',p,j,m,s⟩:=z σ f a h w _ _ _ e (.inr (.inl ⟨i,rfl⟩)) u y x A;refine⟨l,a',w',p,j,m,λk cs q=>?_⟩;obtain⟨k',h1,h2⟩:=s (.inBlock i::k) cs q;have E:exitTo i k'=some k:=by rw[h1];simp[exitTo]
   exact h2.trans (.one (AzH E))
  |false=>rw[c]at B;have I:=Ho c;subst B;obtain⟨rfl,rfl⟩:=Ul t;obtain⟨l,a',w',p,j,m,s⟩:=z σ f a h w _ _ _ e (.inr (.inl ⟨i,rfl⟩)) u y x A;refine⟨l,a',w',p,j,m,λk cs q=>?_⟩;obtain⟨k',h1,h2⟩:=s (.inBlock id::k) cs q;refine⟨k',?_,h2⟩;rw[h1];simp[exitTo,Ne.symm I]
 |ret f1 h1=>rw[e]at d;subst d;obtain⟨rfl,rfl⟩:=Abx t;obtain⟨l,a',w',p,j,m,s⟩:=z σ f a h w _ _ _ e (.inr (.inr rfl)) u y x A;exact⟨l,a',w',p,j,m,λk cs q=>by obtain⟨k',h2⟩:=s (.inBlock id::k) cs q;exact⟨k',h2⟩⟩
def Ajv{id:Nat}(d:Eb P G nt b (Code.src J) (λk=>k) (exec J P Z)):Eb P G nt b (Code.src (.block id J)) (λk=>k) (exec (.block id J) P Z):=
 Eb.head (λa w k cs=>Amg) (Aek d)
def Eb.under{src dst:List Item->List Item}{go:L2->H->RC}(i:Item)(hi:∀id,i≠.inBlock id)(l:Eb P G nt b src dst go):Eb P G nt b (λk=>src (i::k)) (λk=>dst (i::k)) go:=by
 intro σ f a h w f' h' r h1 h2 u x s d;obtain⟨p,a',w',j,m,e,c⟩:=l σ f a h w f' h' r h1 h2 u x s d;refine⟨p,a',w',j,m,e,?_⟩;cases r with
 |bad n=>trivial
 |Bt f h=>exact λk cs hc=>c (i::k) cs hc
 |ext id f h=>refine λk cs hc=>?_;obtain⟨k',t,q⟩:=c (i::k) cs hc;refine⟨k',?_,q⟩;rw[t];cases i<;>first|rfl|(exact absurd rfl (hi _))
 |ret f h=>exact λk cs hc=>c (i::k) cs hc
def Ans(hc:Dw Z){c}(e:Eb P G nt b (Code.src c) (λk=>k) (exec c P Z)) n:
 Eb P G nt b (λk=>.code c::.inLoop c::k) (λk=>.inLoop c::k) (Yd (exec c) P Z n):=by induction n with
 |zero=>exact e.under _ λid j=>by grind
 |succ n d=>exact Eb.andThen d (AcK (Lt hc c) n) (d.head λa w k cs=>ArX)
def Nw(c:Option Code)(f:L2)(h:H)(r:RC):Prop:=
 match c with
 |none=>r=.Bt f h
 |some .ret=>r=.ret f h
 |some (.exit id)=>r=.ext id f h
 |_=>False
def AeD(c:Z4 p f h=j)(e:∀n,j≠.bad n):Nw p f h j:=by
 unfold Z4 at c;unfold Nw;split at c
 .exact c.symm
 .exact c.symm
 .exact c.symm
 .exact absurd c.symm (e _)
def Adc(hc:Bd P G Z){g:FuncId}{args:List AV}{An:Array Value}{fr:L2}{tmps:Array Value}{u:Array Tmp}{as bd:Code}{fnid:FuncId}{dfb:Nat}(Ke:Bg P g=true)
 (hs:Ms G σ h w) (hg:Vm G σ) (Z3:∀t,t<250->Au σ (fr.get t) (tmps.getD t undef)) (Fc:tmps.size<250) (hps:∀d∈u.toList,d<tmps.size) (h1:codeOk G tmps.size as=true) (h2:codeOk G tmps.size bd=true)
 (he:Mn f h.nx (Z.call g args (h.new (.loop 0 none fr u.toList as bd)))=j) (Cg:Fin j f' h') (hl:h'.nx<=Bq) (hf:Fx σ h h')
 (Ow:∀S e,Qq σ S->S h.nx=some e->e.c=w.heap.size->Bk S args An.toList):
 f'=f/\∃σ' w' w2 O m,Out G σ h w σ' h' w'/\(∀c cs,Steps P (lone (Frame.enter P g An .normal) (c::cs) (Dd w (.loop { state:=.ready,pending:=none,fn:=fnid,tmps,params:=u,assign:=as,body:=bd,defers:=dfb }))) (lone (c.finish O) cs w2)) /\
  w2.heap[w.heap.size]?=some (.loop m)/\m.state≠.busy/\w'=Cc w2 w.heap.size (.loop { m with state:=.exhausted })/\Nw m.pending f h' j:=by
 have l:∀n,j≠.bad n:=λn hn=>by subst hn;exact I5 Cg
 unfold Mn at he;split at he
 .rename_i O r Rq;split at he
  .rename_i st B s p y bd2 X;rcases(show(Nat.beq st 1=true/\RC.bad 189=j)\/(Nat.beq st 1=false/\Z4 B f (r.put h.nx (.loop 3 B s p y bd2))=j)by
    cases U:Nat.beq st 1 with
    |true=>rw[U]at he;exact .inl ⟨rfl,he⟩
    |false=>rw[U]at he;exact .inr ⟨rfl,he⟩)with⟨_,hq⟩|⟨Vt,hq⟩
   .exact absurd hq.symm (l _)
   .have hj:=AeD hq l;have K:f'=f/\h'=r.put h.nx (.loop 3 B s p y bd2):=by
     unfold Nw at hj;split at hj
     .subst hj;exact O7 Cg
     .subst hj;exact Abx Cg
     .subst hj;exact Ul Cg
     .exact hj.elim
    obtain⟨rfl,rfl⟩:=K;refine⟨rfl,?_⟩;have M:(h.new (.loop 0 none fr u.toList as bd)).nx<=r.nx:=hc.mono.call _ _ _ _ _ Rq;have Bb3:h.nx+1<=r.nx:=M;have V:r.nx<=Bq:=hl;have B6:h.nx<Bq:=by omega
    have z:σ h.nx=none:=hf h.nx (Yw _) (by show h.nx<r.nx;omega)
    have q:=Ip (e:=⟨w.heap.size,0,none⟩) z;have I:Out G σ h w (Gu σ h.nx ⟨w.heap.size,0,none⟩) (h.new (.loop 0 none fr u.toList as bd)) (Dd w (.loop { state:=.ready,pending:=none,fn:=fnid,tmps,params:=u,assign:=as,body:=bd,defers:=dfb })):=by refine Yf hs.ai hs.so hs.ma B6 z rfl rfl ?_;refine⟨rfl,_,F1 w _,rfl,rfl,λt ht=>(Z3 t ht).mono q,rfl,rfl,rfl,Fc,h1,h2,hps⟩
    have R:Fx (Gu σ h.nx ⟨w.heap.size,0,none⟩) (h.new (.loop 0 none fr u.toList as bd)) r:=Fx.right (h:=h) (h':=r) (λx Q T=>hf x Q T) I;have J:=Ow (Gu σ h.nx ⟨w.heap.size,0,none⟩) ⟨w.heap.size,0,none⟩ q (by simp[Gu]) rfl;obtain⟨C,L,w2,a2,fn,Q,T,p3,p4,p5,p6⟩:=hc.call g args _ r O _ _ An .normal Rq Ke J I.ms (hg.mono q) V R;have A:C h.nx=some ⟨w.heap.size,0,none⟩:=p3.le _ _ (by simp[Gu]);have Ha:=p3.ms.ma h.nx _ A;rw[X]at Ha;obtain⟨Y,m,b1,b2,W,b4,b5,b6,b7,b8,b9,Wz,E⟩:=Ha;have S6:Out G C r w2 C (r.put h.nx (.loop 3 B s p y bd2)) (Cc w2 w.heap.size (.loop { m with state:=.exhausted })):=by refine Hh (e:=⟨w.heap.size,0,none⟩) p3.ms.ai p3.ms.so p3.ms.ma A X (by intro k;cases k) (by intro n k;cases k) rfl rfl Y (by intro n k;cases k) ?_;refine⟨Y,{ m with state:=.exhausted },?_,rfl,W,b4,b5,b6,b7,b8,b9,Wz,E⟩;rw[Da,W5 ⟨rfl,Dj b1⟩]
    refine⟨C,_,w2,L,m,?_,?_,b1,?_,rfl,?_⟩
    .exact(I.trans p3 V).trans S6 hl
    .intro c cs;obtain⟨k',p7⟩:=p6 (c::cs) (.inl rfl);exact p7.trans (.one (ArV p4 rfl Q p5))
    .rw[b2];intro k;unfold Akf at k;split at k<;>first|(cases k;done)|skip
     cases Vt
    .rw[W];exact hj
  .exact absurd he.symm (l _)
 .exact absurd he.symm (l _)
def Xt(b:FB) a l k v:(b.at a (.inRangeFunc l::k)).finish v=b.at a (.endRangeFunc l::k):=rfl
def Aev{src:List Item->List Item}(hj:Nw p f h j)(c:∀k cs,Calm b cs->Steps P (lone (b.at a (src k)) cs w) (lone (b.at a' ((p.map Item.code).toList++k)) cs w')):
 Ends P b src (λk=>k) a w σ' j a' w':=by
 unfold Nw at hj;split at hj
 .subst hj;exact c
 .subst hj;exact λk cs hc=>⟨k,c k cs hc⟩
 .subst hj;exact λk cs hc=>⟨k,rfl,c k cs hc⟩
 .exact hj.elim
def AdQ(hc:Dw Z){g:FuncId}{args:List AV}{l:Nat}(c:Mn f l (Z.call g args h)=j)(m:Fin j f' h'):h.nx<=h'.nx:=by
 have d:∀n,j≠.bad n:=λn hn=>by subst hn;exact I5 m
 unfold Mn at c;split at c
 .rename_i y p u;have x:h.nx<=p.nx:=hc.call _ _ _ _ _ u;split at c
  .rename_i st s k e r bd2 z;cases t:Nat.beq st 1 with
   |true=>rw[t]at c;exact absurd c.symm (d _)
   |false=>
    rw[t]at c;have hj:=AeD (show Z4 s f (p.put l (.loop 3 s k e r bd2))=j from c) d
    have q:f'=f/\h'=p.put l (.loop 3 s k e r bd2):=by
     unfold Nw at hj;split at hj
     .subst hj;exact O7 m
     .subst hj;exact Abx m
     .subst hj;exact Ul m
     .exact hj.elim
    rw[q.2];exact x
  .exact absurd c.symm (d _)
 .exact absurd c.symm (d _)
def Aky(hc:Bd P G Z){p:Array Tmp}{as bd:Code}(Ix:nt<250)(hox:Es G I=true)(W:∀d∈p.toList,d<nt)(h1:codeOk G nt as=true)(h2:codeOk G nt bd=true):
 Eb P G nt b (Code.src (.rangeFunc I p as bd)) (λk=>k) (exec (.rangeFunc I p as bd) P Z):=by
 intro σ f a h w f' h' r he L j hb hl hf;have y:∀n,r≠.bad n:=λn hn=>by subst hn;exact I5 L
 have m:AbV I p as bd (exec as) (exec bd) P Z f h=r:=he;have T:=Cj j.fr j.gl I hox;have J:a.tmps.size=nt:=j.fr.size;unfold AbV at m;split at m
 .rename_i g fs cap ds s A;have s:=Aaq s;have A:=Aar A;rw[s]at T;generalize Rr:a.eval I=xx at T;cases T;rename_i u R hy ha K Y U;have z:b.ro=none:=by
   rcases hb with⟨q,_⟩|⟨_,c,l2,e,q1,O,_⟩
   .exact q
   .rw[O]at A;cases A
  unfold Yu at m;cases E:Bg P g with
  |false=>rw[E]at m;exact absurd m.symm (y _)
  |true=>
   rw[E]at m;have Cs:Mn (f.set Br (.Bj (.map h.nx::ds))) (h.new (.dfr false)).nx (Z.call g (J0 (J0 fs [.fn (.yield (h.new (.dfr false)).nx) [] []]) cap) ((h.new (.dfr false)).new (.loop 0 none f p.toList as bd)))=r:=m;have Bb0:=AcL (P:=P) (h:=h) (f:=f) hc.mono I p as bd (exec as) (exec bd);have A4f:h.nx+1<=h'.nx:=by have:=AdQ hc.mono Cs L;exact Vr (Et _) this
   have B6:h.nx<Bq:=by omega
   have C:σ h.nx=none:=hf h.nx (Yw _) om;have l:=Ip (e:=⟨w.heap.size,0,none⟩) C;have Q:Out G σ h w (Gu σ h.nx ⟨w.heap.size,0,none⟩) (h.new (.dfr false)) (Dd w (.deferred (some []))):=by refine Yf j.ai j.so j.ma B6 C rfl rfl ?_;exact⟨rfl,F1 w _⟩
   have AjL:Fx (Gu σ h.nx ⟨w.heap.size,0,none⟩) (h.new (.dfr false)) h':=hf.right Q;obtain⟨rfl,σ',w',w2,v2,lp,q1,O,q3,q4,q5,q6⟩:=Adc (fnid:=b.fn) (dfb:=w.heap.size) (An:=u.push (.func (.yield (w.heap.size+1)) #[] #[])++R) (tmps:=a.tmps) hc E Q.ms (j.gl.mono l)
    (λt M=>(j.fr.slot t M).mono l) (by rw[J];exact Ix) (by rw[J];exact W) (by rw[J];exact h1) (by rw[J];exact h2) Cs L hl AjL (by
     intro X e s1 s2 s3;have V:e.c=w.heap.size+1:=by rw[s3,size_push]
     rw[Dl,Dl];have l1:Bk X fs u.toList:=Bk.mono (l.trans s1) ⟨ha,K⟩;have l2:Bk X cap R.toList:=Bk.mono (l.trans s1) ⟨Y,U⟩;have l3:Bk X [.fn (.yield (h.new (.dfr false)).nx) [] []] [.func (.yield (w.heap.size+1)) #[] #[]]:=by refine .cons ?_ (.nil _);rw[<- V];exact .yld _ e s2
     simpa using(l1.append l3).append l2)
   have A9g:(Dd w (.deferred (some []))).heap.size=w.heap.size+1:=size_push w _;rw[A9g]at q3 q5;have x:=Q.trans q1 hl;refine⟨σ',⟨a.tmps,{ target:=.collected w.heap.size,args:=#[] }::a.defers⟩,w',?_,?_,x,?_⟩
   .refine j.next x ⟨j.fr.size,?_,?_⟩
    .intro t M;rw[L2.Dh Br t _ f fe om,X2 (by intro hh;have h1:t=255:=hh;omega)];exact(j.fr.slot t M).mono x.le
    .rw[L2.Dh Br Br _ f fe fe,W5 rfl];have B:=j.fr.defers;rw[A]at B;refine .cons _ _ _ _ (.mk h.nx ⟨w.heap.size,0,none⟩ (q1.le _ _ (by simp[Gu]))) (B.mono x.le)
   .exact .inl ⟨z,_,by rw[L2.Dh Br Br _ f fe fe,W5 rfl]⟩
   .refine Aev q6 (λk cs Hq=>?_);refine .head (AuG (args:=u.push (.func (.yield (w.heap.size+1)) #[] #[])++R) (w2:=Dd (Dd w (.deferred (some []))) (.loop { state:=.ready,pending:=none,fn:=b.fn,tmps:=a.tmps,params:=p,assign:=as,body:=bd,defers:=w.heap.size })) z Rr (λw1 S=>?_)) ?_
    .rw[S];exact Ih E _ _
    .refine(O _ cs).trans ?_;rw[Xt,q5];exact .one (AeP q3 q4)
 .exact absurd m.symm (y _)
def Q2{c x:Bool}(d:(@Bool.rec (λ_=>Bool) false x c:Bool)=true):c=true/\x=true:=by
 cases c with
 |false=>cases d
 |true=>exact⟨rfl,d⟩
def Np(hc:Bd P G Z)(Y:P.follows .mixedOrders=true)(U:nt<250)(c:Code):codeOk G nt c=true->Eb P G nt b (Code.src c) (λk=>k) (exec c P Z):=by
 induction c with
 |skip=>exact λ_=>Aih (λa w k cs=>AzI)
 |region id ops dr=>exact λp=>Aiw hc Y p U
 |seq x y C B=>
  intro p;obtain⟨h1,h2⟩:=Q2 (show(@Bool.rec (λ_=>Bool) false (codeOk G nt y) (codeOk G nt x):Bool)=true from p)
  have hx:=(C h1).under (.code y) (λid R=>by cases R);have:=Eb.andThen (mid:=Code.src y) hx (λf h=>Lt hc.mono y f h) (B h2);exact this.head (λa w k cs=>Aw0)
 |cond c x y C B=>
  intro p;obtain⟨h0,S⟩:=Q2 (show(@Bool.rec (λ_=>Bool) false (@Bool.rec (λ_=>Bool) false (codeOk G nt y) (codeOk G nt x)) (Es G c):Bool)=true from p)
  obtain⟨h1,h2⟩:=Q2 S;exact Am7 h0 (C h1) (B h2)
 |block id c J=>exact λp=>Ajv (J p)
 |loop c J=>
  intro p;have u:=Ans hc.mono (J p) 20;intro σ f a h w f' h' r q m j s M z;have e:andThen (λ_ _=>.bad 187) (Yd (exec c) P Z 20 f h)=r:=q;cases I:Yd (exec c) P Z 20 f h with
  |bad n=>rw[I]at e;subst e;exact(I5 m).elim
  |Bt f1 h1=>rw[I]at e;subst e;exact(I5 m).elim
  |ext i f1 h1=>rw[I]at e;obtain⟨L,a',w',Q,K,O,E⟩:=u σ f a h w f' h' r (by rw[I];exact e) m j s M z;refine⟨L,a',w',Q,K,O,?_⟩;subst e;exact λk cs t=>by obtain⟨k',T,A⟩:=E k cs t;exact⟨k',T,.head ArY A⟩
  |ret f1 h1=>rw[I]at e;obtain⟨L,a',w',Q,K,O,E⟩:=u σ f a h w f' h' r (by rw[I];exact e) m j s M z;refine⟨L,a',w',Q,K,O,?_⟩;subst e;exact λk cs t=>by obtain⟨k',A⟩:=E k cs t;exact⟨k',.head ArY A⟩
 |rangeFunc x W as bd Rs ihb=>
  intro p;obtain⟨h0,S⟩:=Q2 (show(@Bool.rec (λ_=>Bool) false (@Bool.rec (λ_=>Bool) false (@Bool.rec (λ_=>Bool) false (codeOk G nt bd) (codeOk G nt as)) (W.toList.all (λd=>Nat.blt d nt))) (Es G x):Bool)=true from p)
  obtain⟨h1,h2⟩:=Q2 S;obtain⟨h3,X⟩:=Q2 h2;exact Aky hc U h0 (λd hd=>Ec (Od.1 h1 d hd)) h3 X
 |exit id=>intro p σ f a h w f' h' r q m j s u z;have e:RC.ext id f h=r:=q;subst e;obtain⟨rfl,rfl⟩:=Ul m;exact⟨σ,a,w,j,s,Out.refl j.ai j.so j.ma,λk cs _=>⟨k,rfl,.refl P _⟩⟩
 |scope c J=>
  intro p σ f a h w f' h' r q m j s u z;obtain⟨L,a',w',Q,K,O,E⟩:=(J p).under (.inScope c) (λid R=>by cases R) σ f a h w f' h' r q m j s u z;refine⟨L,a',w',Q,K,O,?_⟩;cases r with
  |bad n=>trivial
  |Bt f1 h1=>exact λk cs t=>.head AbB ((E k cs t).trans (.one AeQ))
  |ext i f1 h1=>exact λk cs t=>by obtain⟨k',T,A⟩:=E k cs t;exact⟨k',T,.head AbB A⟩
  |ret f1 h1=>exact λk cs t=>by obtain⟨k',A⟩:=E k cs t;exact⟨k',.head AbB A⟩
 |label l=>exact λ_=>Aih (λa w k cs=>AuE)
 |goto l=>intro _ σ f a h w f' h' r q m j s u z;have e:RC.bad 193=r:=q;subst e;exact(I5 m).elim
 |ret=>intro _ σ f a h w f' h' r q m j s u z;have e:RC.ret f h=r:=q;subst e;obtain⟨rfl,rfl⟩:=Abx m;exact⟨σ,a,w,j,s,Out.refl j.ai j.so j.ma,λk cs _=>⟨k,.refl P _⟩⟩
 |refuse V=>intro _ σ f a h w f' h' r q m j s u z;have e:RC.bad 194=r:=q;subst e;exact(I5 m).elim
def Pg:∀l n f,n+l.length<=250->∀t,t<256->(Eu l n f).get t=if n<=t/\t<n+l.length then l[t-n]?.getD .top else f.get t:=by intro l;induction l with
|nil=>intro n f _ t _;rw[X2 (by simp)];rfl
|cons x l d=>intro n f hn t c;simp at hn;show(Eu l ..).get t=_;rw[d _ _ om t c,L2.Dh n t x f om c];grind
def Zr{args:List AV}{An:Array Value}(d:Bk σ args An.toList)(e:args.length<=nt)(l:nt<250):Pt σ nt (Eu args 0 Az) ⟨An++Array.replicate (nt-An.size) undef,[]⟩:=by
 have j:An.size=args.length:=by have:=d.1;simp_all
 refine⟨by grind,?_,?_⟩
 .intro t k;rw[Pg args 0 Az om t om];by_cases h1:t<args.length
  .rw[W5 om,ew,Xs h1,C8];have h2:(An++Array.replicate (nt-An.size) undef).getD t undef=An[t]' om:=by rw[Ak,bt om,S2 om,C8]
   rw[h2];exact d.2 t _ _ (Xs h1) (by simp_all)
  .rw[X2 om];have h2:(An++Array.replicate (nt-An.size) undef).getD t undef=undef:=by rw[Ak,Array.getElem?_append_right om];grind
   rw[h2];unfold Az;rw[L2.Dh _ t _ _ fe om,X2 (by intro c;have h1:t=255:=c;omega),L2.Xw];exact L6 _
 .rw[Pg _ 0 _ om _ fe,X2 (by intro c;have h1:255<0+args.length:=c.2;omega)];exact .nil
def A7Z{rs:List ResultVar}(d:Aby P Z rs j=.ok v h'):∃c h1,(j=.Bt c h1\/j=.ret c h1)/\finish P Z rs c h1=.ok v h':=by
 cases j with
 |bad n=>cases d
 |Bt c h1=>exact⟨c,h1,.inl rfl,d⟩
 |ext i c h1=>cases d
 |ret c h1=>exact⟨c,h1,.inr rfl,d⟩
def V7(hc:Bd P G Z)(tmps:Array Value):∀(ds:List AV) (σ:Dx) (h h':H) (w:World) (E:List Deferred),D3 P Z ds h=.ok h'->Afd σ (.Bj ds) E->Ms G σ h w->Vm G σ->h'.nx<=Bq->Fx σ h h' ->
 ∃σ' w',Out G σ h w σ' h' w'/\∀(b:FB) k cs,Steps P (lone (b.back ⟨tmps,E⟩ k) cs w) (lone (b.back ⟨tmps,[]⟩ k) cs w'):=by
 intro ds;induction ds with
 |nil=>intro σ h h' w E y hd l B x I;cases y;cases hd;exact⟨σ,w,Out.refl l.ai l.so l.ma,λb k cs=>.refl P _⟩
 |cons d ds S=>
  intro σ h h' w E y hd l B x I;cases hd;rename_i d' s J z;unfold D3 at y;cases J with
  |fn g as cs L D7 ha Q=>
   have j:(@Bool.rec (λ_=>RH) (.bad 195) (match Z.call g (J0 as cs) h with|.ok _ h'=>D3 P Z ds h'|.bad n=>.bad n) (Bg P g):RH)=.ok h':=y;cases A:Bg P g with
   |false=>rw[A]at j;cases j
   |true=>
    rw[A]at j;cases C:Z.call g (J0 as cs) h with
    |bad n=>rw[C]at j;cases j
    |ok v1 h1=>rw[C]at j;have U:D3 P Z ds h1=.ok h':=j;have t:h1.nx<=h'.nx:=H2 hc.mono ds h1 h' U;have Be8:h.nx<=h1.nx:=hc.mono.call _ _ _ _ _ C;obtain⟨σ1,v',w1,a1,fn,p1,p2,p3,Y,p5,p6⟩:=hc.call g (J0 as cs) h h1 v1 σ w (L++D7) .deferred C A (by rw[Dl];simpa using ha.append Q) l B om (I.left t);obtain⟨O,w2,R,K⟩:=S σ1 h1 h' w1 s U (z.mono p3.le) p3.ms (B.mono p3.le) x (I.right p3);refine⟨O,w2,p3.trans R x,λb k p=>?_⟩;refine .head (AuD rfl (Ih A _ _)) ?_;obtain⟨k',p7⟩:=p6 (b.back ⟨tmps,s⟩ k::p) (.inr ⟨rfl,_,_,rfl,rfl⟩);exact p7.trans (.head (AuC Y rfl rfl p1 p5) (K b k p))
  |mk r e T=>
   have j:(match h.m.get r with|.dfr false=>D3 P Z ds (h.put r (.dfr true))|_=>.bad 194)=RH.ok h':=y;split at j
   .rename_i V;have X:=l.ma r e T;rw[V]at X;obtain⟨W,hh⟩:=X;have u:w.heap[e.c]?=some (.deferred (some [])):=hh;have M:Out G σ h w σ (h.put r (.dfr true)) (Cc w e.c (.deferred none)):=by refine Hh l.ai l.so l.ma T V (by intro q;cases q) (by intro n q;cases q) rfl rfl W (by intro n q;cases q) ?_;refine⟨W,?_⟩;rw[Da,W5 ⟨rfl,Dj u⟩];rfl
    have t:(h.put r (.dfr true)).nx<=h'.nx:=H2 hc.mono ds _ h' j;obtain⟨O,w2,R,K⟩:=S σ (h.put r (.dfr true)) h' _ s j z M.ms B x (I.right M);exact⟨O,w2,M.trans R x,λb k p=>.head (AuI rfl u) (K b k p)⟩
   .cases j
def Aak(tmps:Array Value)(r:ResultVar):Sem Value:=match r with|.tmp t=>pure (tmps.getD t undef)|.cell x t=>do loadVar t (<- asAddr (tmps.getD x undef))
def Ak0 fn tmps:results fn tmps=(do let c <- fn.results.mapM (Aak tmps);pure (if h:c.size=1 then c[0]else .tuple c)):=rfl
def Agd(k:∀t,t<250->Au σ (f.get t) (a.tmps.getD t undef))(I:Ms G σ h w):∀(rs:List ResultVar) (l:List AV),(∀r∈rs,Amd r=true)->Oe P f h rs=some l ->
 ∃l':List Value,Bk σ l l'/\(rs.mapM (Aak a.tmps)).run P w=.ok l' w:=by intro rs;induction rs with
 |nil=>intro l _ j;cases j;exact⟨[],.nil σ,by simp⟩
 |cons r rs A=>intro l m j;cases r with
  |tmp t=>
   unfold Oe at j;split at j;. rename_i l1 u;cases j;obtain⟨l',z,B⟩:=A l1 (λr n=>m r (by grind)) u;have C:t<250:=Ec (show Nat.blt t 250=true from m (.tmp t) (by simp));refine⟨_::l',.cons (k t C) z,?_⟩;simp[fc,Aak,B]
   grind
  |cell x t=>
   unfold Oe at j;split at j
   .rename_i Q l1 d u;cases j;obtain⟨l',z,B⟩:=A l1 (λr n=>m r (by simp[*])) u;have E:x<250:=Ec (show Nat.blt x 250=true from m (.cell x t) (by simp));have q:=k x E;unfold AyY at d;split at d
    .rename_i y off p;have p:=P2 p;rw[p]at q;generalize M:a.tmps.getD x undef=xx at q;cases q;rename_i e s;split at d
     .rename_i c J;obtain⟨arr,tt,fz,h1,h2,R,L⟩:=No J (I.ma y e s);obtain⟨v',n,K⟩:=AhN (P:=P) (e:=e) d h1 om L;refine⟨v'::l',.cons K z,?_⟩;have O:(Aak a.tmps (.cell x t)).run P w=.ok v' w:=by simp only[Aak,M];simpa[asAddr]using n
      simp_all
     grind
    grind
   simp_all
def AkA{l:List AV}{l':List Value}(d:Bk σ l l'):Au σ (single l) (if h:l'.toArray.size=1 then l'.toArray[0]else .tuple l'.toArray):=by
 unfold single;split;. rename_i x;obtain⟨y,m,rfl,k,c⟩:=d.F8;have:=c.Rt;grind
 .rename_i e;have c:=d.1;rw[dif_neg];. exact .Bj l _ om λi x y j hy=>d.2 i x y j om
  .intro h1;match l,c,e with
   |[x],_,e=>simp_all
   |[],c,_=>simp_all
   |x::y::l,c,_=>grind
def Tq{fn}{l}(c:∀t,t<250->Au σ (f.get t) (a.tmps.getD t undef))(k:Ms G σ h w)(d:∀r∈fn.results.toList,Amd r=true)(j:Oe P f h fn.results.toList=some l):
 ∃v',(results fn a.tmps).run P w=.ok v' w/\Au σ (single l) v':=by obtain⟨l',e,m⟩:=Agd c k _ l d j;refine⟨_,?_,AkA e⟩;rw[Ak0,Sem.run_bind,ed];simp[*]
def Aag{g:FuncId}{fn}{c}(j:Mv P=true)(m:P.funcs[g]?=some fn)(d:fn.body=some c):fn.ntmps<250/\(∀r∈fn.results.toList,Amd r=true)/\codeOk P.globals.size fn.ntmps c=true:=by
 have e:fn∈P.funcs.toList:=by grind
 have:=Od.1 j _ e;unfold A3c at this;rw[d]at this;obtain⟨h1,h2⟩:=Q2 this;obtain⟨k,l⟩:=Q2 h2;exact⟨Ec h1,Od.1 k,l⟩
def AuR{g:Nat}{r:OR}(c:Agk g r=.ok v h'):r=.ok v h':=by
 cases r with
 |bad n=>cases c
 |ok v1 h1=>exact c
def Acm{args}(c:args.length<=nt)(e:nt<250):(Eu args 0 Az).get Br=.Bj []:=by rw[Pg _ 0 _ om _ fe,X2 (by intro d;have h1:255<0+args.length:=d.2;omega)];rfl
def AgX(hc:Bd P P.globals.size Z)(P5:P.follows .mixedOrders=true)(hp:Mv P=true):Aed P P.globals.size ⟨Fy P Z,Io P Z⟩:=by
 intro g args h h' v σ w An kind he Ke Ow I hg T S;obtain⟨fn,c,e,E,_⟩:=O3 Ke;obtain⟨R,Q,B⟩:=Aag hp e E;have M:Fy P Z g args h=.ok v h':=he;unfold Fy at M;have z:Ln P g=some ⟨c,fn.ntmps,fn.results.toList⟩:=by unfold Ln;rw[e];dsimp only;rw[E]
 rw[z]at M;have V:AbW P Z g args h ⟨c,fn.ntmps,fn.results.toList⟩=.ok v h':=M;unfold AbW at V;rcases Bl V with⟨u,O⟩|⟨_,O⟩
 .have L:=AuR O;have p:args.length<=fn.ntmps:=by have:=G2 u;rwa[Gh]at this
  have J:=Zr (nt:=fn.ntmps) Ow p R;obtain⟨x,h1,d,k⟩:=A7Z L;have Y:Fin (exec c P Z (Eu args 0 Az) h) x h1:=by
   rcases d with d|d
   .exact .inl d
   .exact .inr (.inr d)
  have A:=Acm p R;unfold finish at k;split at k
  .rename_i ds C;have C:=Aar C;cases r:D3 P Z ds h1 with
   |bad n=>rw[r]at k;cases k
   |ok h2=>
    rw[r]at k;have j:Gg P fn.results.toList x h2=.ok v h':=k;unfold Gg at j;split at j
    .rename_i l K;obtain⟨rfl,rfl⟩:=B4 j;have y:h1.nx<=h2.nx:=H2 hc.mono ds h1 h2 r;obtain⟨σ1,a1,w1,m,q2,W,s⟩:=Np (b:=⟨g,kind,none⟩) hc P5 R c B σ (Eu args 0 Az) ⟨An++Array.replicate (fn.ntmps-An.size) undef,[]⟩ h w x h1 _ rfl Y
      ⟨J,hg,I.ai,I.so,I.ma⟩ (.inl ⟨rfl,[],A⟩) om (S.left y)
     have q:=m.fr.defers;rw[C]at q;have Wi:Frame.enter P g An kind=FB.at ⟨g,kind,none⟩ ⟨An++Array.replicate (fn.ntmps-An.size) undef,[]⟩ [.code c]:=by simp[Frame.enter,FB.at,e,E]
     obtain⟨σ2,w2,r1,U⟩:=V7 hc a1.tmps ds σ1 h1 h2 w1 a1.defers r q ⟨m.ai,m.so,m.ma⟩ m.gl T (S.right W);obtain⟨v',r3,r4⟩:=Tq (a:=⟨a1.tmps,[]⟩) (λt ht=>(m.fr.slot t ht).mono r1.le) r1.ms Q K;refine⟨σ2,v',w2,⟨a1.tmps,[]⟩,fn,e,r4,W.trans r1 T,rfl,r3,λcs X=>?_⟩;rw[Wi];rcases d with d|d
     .rw[d]at s;exact⟨_,(s [] cs X).trans (.head (Awy rfl) (U _ _ cs))⟩
     .rw[d]at s;obtain⟨k',q5⟩:=s [] cs X;exact⟨_,q5.trans (.head (Awz rfl) (U _ _ cs))⟩
    .cases j
  .cases k
 .cases O
def AdZ:∀(c:List Nat) (args:List AV) (j:List Value) (f f':L2) (tmps:Array Value),Uz c args f=some f'->Bk σ args j->(∀d∈c,d<tmps.size)->tmps.size<250->(∀t,t<250->Au σ (f.get t) (tmps.getD t undef)) ->
 j.length=c.length/\((c.zip j).foldl (λtmps (p:Nat × Value)=>tmps.setIfInBounds p.1 p.2) tmps).size=tmps.size /\
  (∀t,t<250->Au σ (f'.get t) (((c.zip j).foldl (λtmps (p:Nat × Value)=>tmps.setIfInBounds p.1 p.2) tmps).getD t undef))/\f'.get Br=f.get Br:=by
 intro c;induction c with
 |nil=>
  intro args j f f' tmps k m hd s n;cases args with
  |nil=>cases k;have:=m.Rt;subst this;exact⟨rfl,rfl,n,rfl⟩
  |cons x l=>cases k
 |cons t c z=>
  intro args j f f' tmps k m hd s n;cases args with
  |nil=>cases k
  |cons x l=>
   obtain⟨y,q,rfl,J,E⟩:=m.F8;have I:Uz c l (f.set t x)=some f':=k;have B:t<tmps.size:=hd t (by simp);obtain⟨L,C,K,M⟩:=z l q (f.set t x) f' (tmps.setIfInBounds t y) I E (λd r=>by simp;exact hd d (by simp[r])) (by simpa using s) (by
    intro u O;rw[L2.Dh t u x f om om];by_cases e:u=t
    .subst e;rw[W5 rfl];have:(tmps.setIfInBounds u y).getD u undef=y:=by simp[Array.getD,B]
     rw[this];exact J
    .rw[X2 e];have:(tmps.setIfInBounds t y).getD u undef=tmps.getD u undef:=by simp only[Ak];rw[aj (Ne.symm e)]
     rw[this];exact n u O)
   refine⟨by simp[L],?_,?_,?_⟩
   .simp only[List.zip_cons_cons,du];rw[C];simp
   .simpa only[List.zip_cons_cons,du]using K
   .rw[M,L2.Dh t Br x f om fe,X2 (by intro A;have h1:(255:Nat)=t:=A;omega)]
def Agf(hc:Bd P P.globals.size Z)(P5:P.follows .mixedOrders=true):AbL P P.globals.size ⟨Fy P Z,Io P Z⟩:=by
 intro l args h h' v σ w An e he Z3 Ow hm hg hl hf;have I:Io P Z l args h=.ok v h':=he;unfold Io at I;split at I
 .rename_i st Lw fr ps as m Lr;split at I
  .rename_i f0 A8S;have Ha:=hm.ma l e Z3;rw[Lr]at Ha;obtain⟨hk,j,b1,b2,b3,b4,b5,b6,b7,b8,b9,Wz,b11⟩:=Ha;have A8z:∀t,t<250->Au σ ((fr.set Br (.map l)).get t) (j.tmps.getD t undef):=by intro t ht;rw[L2.Dh Br t _ fr fe om,X2 (by intro hh;have h1:t=255:=hh;omega)];exact b4 t ht
   obtain⟨s1,s2,s3,s4⟩:=AdZ ps args An.toList _ f0 j.tmps A8S Ow b11 b8 A8z;have hds:f0.get Br=.map l:=by rw[s4,L2.Dh Br Br _ fr fe fe,W5 rfl]
   generalize htm:((ps.zip An.toList).foldl (λtmps (p:Nat × Value)=>tmps.setIfInBounds p.1 p.2) j.tmps)=tm at s2 s3;have AyS:(Instr.yield e.c An).run P w=.ok (.round e.c j.fn tm j.assign j.body) w:=by
    have Fc:An.size=j.params.size:=by
     have h2:j.params.toList.length=ps.length:=by rw[b5]
     simp at h2 s1;omega
    have A3H:(j.params.zip An).foldl (λtmps (p:Tmp × Value)=>tmps.setIfInBounds p.1 p.2) j.tmps=tm:=by rw[<- htm,<- b5,<- Array.foldl_toList,Array.toList_zip]
    simp[Instr.yield,Instr.getLoop,getObj,Sem.run,b1,Fc];rw[<- A3H];congr 1;simp[Fc]
   have X:St P.globals.size σ j.tmps.size f0 ⟨tm,[]⟩ h w:=⟨⟨s2,s3,by rw[hds];exact .round l e Z3⟩,hg,hm.ai,hm.so,hm.ma⟩;have Sz:RBk ⟨j.fn,.normal,some e.c⟩ σ f0:=.inr ⟨rfl,e.c,l,e,rfl,hds,Z3,rfl⟩;have AyN:Frame.round e.c j.fn tm j.assign j.body .normal=FB.at ⟨j.fn,.normal,some e.c⟩ ⟨tm,[]⟩ [.code as,.beginRound,.code m]:=by rw[b6,b7];rfl
   have Qz:∀(x:Dx) (h1:H) (E:World) (a1:Act) (d:Option Code),endRound l d h1=.ok v h'->Out P.globals.size σ h w x h1 E ->
    (∀c cs,∃k,(k=[]/\d=none\/(∃k',k=.code .ret::k'/\d=some .ret)\/∃id k',k=.code (.exit id)::k'/\exitTo id k'=none/\d=some (.exit id)) /\
     Steps P (lone (FB.at ⟨j.fn,.normal,some e.c⟩ ⟨tm,[]⟩ [.code as,.beginRound,.code m]) (c::cs) w) (lone (FB.at ⟨j.fn,.normal,some e.c⟩ a1 k) (c::cs) E)) ->
    ∃σ' v' w' g tmps as bd,Au σ' v v'/\Out P.globals.size σ h w σ' h' w'/\(Instr.yield e.c An).run P w=.ok (.round e.c g tmps as bd) w /\
     ∀c cs,Steps P (lone (Frame.round e.c g tmps as bd .normal) (c::cs) w) (lone (c.finish v') cs w'):=by
    intro x h1 E a1 d r ho Vt;unfold endRound at r;split at r
    .rename_i st2 Bcd fr2 ps2 as2 bd2 AvX;obtain⟨n,hh',hn,hvv⟩:∃n,h'=h1.put l (.loop n d fr2 ps2 as2 bd2)/\Akf n=(if d.isNone then .ready else .done)/\v=.bool d.isNone:=by obtain⟨h2,h3⟩:=B4 r;exact⟨_,h3.symm,by cases d<;>rfl,h2.symm⟩
     have L:=ho.le _ _ Z3;have M:=ho.ms.ma l e L;rw[AvX]at M;obtain⟨J,C,c1,c2,c3,c4,c5,c6,c7,c8,c9,c10,W⟩:=M;have S6:Out P.globals.size x h1 E x h' (Cc E e.c (.loop { C with state:=if d.isNone then .ready else .done,pending:=d })):=by rw[hh'];refine Hh ho.ms.ai ho.ms.so ho.ms.ma L AvX (by intro q;cases q) (by intro n q;cases q) rfl rfl J (by intro n q;cases q) ?_;exact⟨J,{ C with state:=if d.isNone then .ready else .done,pending:=d },by rw[Da,W5 ⟨rfl,Dj c1⟩],hn.symm,rfl,c4,c5,c6,c7,c8,c9,c10,W⟩
     refine⟨x,.bool d.isNone,_,j.fn,tm,j.assign,j.body,by rw[hvv];exact .bool _,ho.trans S6 hl,AyS,λc cs=>?_⟩;rw[AyN];obtain⟨k,p1,R⟩:=Vt c cs;exact R.trans (.one (Ak3 rfl rfl c1 p1))
    .cases r
   have K:∀(h1:H) (d:Option Code),endRound l d h1=.ok v h'->h1.nx<=h'.nx:=by
    intro h1 d r;unfold endRound at r;split at r
    .obtain⟨_,rfl⟩:=B4 r;exact Yw _
    .cases r
   have X1:∀cs,Calm ⟨j.fn,.normal,some e.c⟩ cs:=λcs=>.inl rfl;have T:=Np (b:=⟨j.fn,.normal,some e.c⟩) hc P5 b8 as b9;have AqE:=Np (b:=⟨j.fn,.normal,some e.c⟩) hc P5 b8 m Wz;cases V:exec as P Z f0 h with
   |bad n=>rw[V]at I;cases I
   |ext id f1 h1=>rw[V]at I;have u:endRound l (some (.exit id)) h1=.ok v h':=I;have s:=K h1 _ u;obtain⟨x,a1,E,q1,q2,O,q4⟩:=T σ f0 ⟨tm,[]⟩ h w f1 h1 _ V (.inr (.inl ⟨id,rfl⟩)) X Sz om (hf.left s);refine Qz x h1 E a1 _ u O (λc cs=>?_);obtain⟨k',p1,R⟩:=q4 [.beginRound,.code m] (c::cs) (X1 _);exact⟨_,.inr (.inr ⟨id,k',rfl,by rw[p1];rfl,rfl⟩),R⟩
   |ret f1 h1=>rw[V]at I;have u:endRound l (some .ret) h1=.ok v h':=I;have s:=K h1 _ u;obtain⟨x,a1,E,q1,q2,O,q4⟩:=T σ f0 ⟨tm,[]⟩ h w f1 h1 _ V (.inr (.inr rfl)) X Sz om (hf.left s);refine Qz x h1 E a1 _ u O (λc cs=>?_);obtain⟨k',R⟩:=q4 [.beginRound,.code m] (c::cs) (X1 _);exact⟨_,.inr (.inl ⟨k',rfl,rfl⟩),R⟩
   |Bt f1 h1=>
    rw[V]at I;have u:Agg l (Age P Z l m f1 h1)=.ok v h':=I;unfold Age at u;split at u
    .rename_i y z A B bd1 AvW;have Anc:h1.nx<=h'.nx:=by have:=AaN (h:=h1.put l (.loop 1 y z A B bd1)) l (Lt (P:=P) hc.mono m f1 (h1.put l (.loop 1 y z A B bd1)));exact this v h' u
     obtain⟨x,a1,E,q1,q2,O,q4⟩:=T σ f0 ⟨tm,[]⟩ h w f1 h1 _ V (.inl rfl) X Sz om (hf.left Anc);have L:=O.le _ _ Z3;have M:=O.ms.ma l e L;rw[AvW]at M;obtain⟨J,C,c1,c2,c3,c4,c5,c6,c7,c8,c9,c10,W⟩:=M;have S6:Out P.globals.size x h1 E x (h1.put l (.loop 1 y z A B bd1)) (Cc E e.c (.loop { C with state:=.busy })):=by refine Hh O.ms.ai O.ms.so O.ms.ma L AvW (by intro q;cases q) (by intro n q;cases q) rfl rfl J (by intro n q;cases q) ?_;exact⟨J,{ C with state:=.busy },by rw[Da,W5 ⟨rfl,Dj c1⟩],rfl,c3,c4,c5,c6,c7,c8,c9,c10,W⟩
     have Q:=O.trans S6 (show(h1.put l (.loop 1 y z A B bd1)).nx<=Bq from Vr Anc hl)
     have AyR:St P.globals.size x j.tmps.size f1 a1 (h1.put l (.loop 1 y z A B bd1)) (Cc E e.c (.loop { C with state:=.busy })):=q1.next S6 q1.fr;have Ayx:∀c cs,Steps P (lone (FB.at ⟨j.fn,.normal,some e.c⟩ ⟨tm,[]⟩ [.code as,.beginRound,.code m]) (c::cs) w) (lone (FB.at ⟨j.fn,.normal,some e.c⟩ a1 [.code m]) (c::cs) (Cc E e.c (.loop { C with state:=.busy }))):=
      λc cs=>(q4 [.beginRound,.code m] (c::cs) (X1 _)).trans (.one (Agi rfl c1 c2))
     have Y:Fx x (h1.put l (.loop 1 y z A B bd1)) h':=hf.right Q;cases U:exec m P Z f1 (h1.put l (.loop 1 y z A B bd1))with
     |bad n=>rw[U]at u;cases u
     |Bt f2 h2=>rw[U]at u;have S:endRound l none h2=.ok v h':=u;have s:=K h2 _ S;obtain⟨σ2,a2,w2,r1,r2,r3,r4⟩:=AqE x f1 a1 _ _ f2 h2 _ U (.inl rfl) AyR q2 om (Y.left s);refine Qz σ2 h2 w2 a2 _ S (Q.trans r3 om) (λc cs=>?_);exact⟨_,.inl ⟨rfl,rfl⟩,(Ayx c cs).trans (r4 [] (c::cs) (X1 _))⟩
     |ext id f2 h2=>rw[U]at u;have S:endRound l (some (.exit id)) h2=.ok v h':=u;have s:=K h2 _ S;obtain⟨σ2,a2,w2,r1,r2,r3,r4⟩:=AqE x f1 a1 _ _ f2 h2 _ U (.inr (.inl ⟨id,rfl⟩)) AyR q2 om (Y.left s);refine Qz σ2 h2 w2 a2 _ S (Q.trans r3 om) (λc cs=>?_);obtain⟨k',p1,R⟩:=r4 [] (c::cs) (X1 _);exact⟨_,.inr (.inr ⟨id,k',rfl,by rw[p1];rfl,rfl⟩),(Ayx c cs).trans R⟩
     |ret f2 h2=>rw[U]at u;have S:endRound l (some .ret) h2=.ok v h':=u;have s:=K h2 _ S;obtain⟨σ2,a2,w2,r1,r2,r3,r4⟩:=AqE x f1 a1 _ _ f2 h2 _ U (.inr (.inr rfl)) AyR q2 om (Y.left s);refine Qz σ2 h2 w2 a2 _ S (Q.trans r3 om) (λc cs=>?_);obtain⟨k',R⟩:=r4 [] (c::cs) (X1 _);exact⟨_,.inr (.inl ⟨k',rfl,rfl⟩),(Ayx c cs).trans R⟩
    .cases u
  .cases I
 .cases I
def ApK(hc:Bd P P.globals.size Z)(c:P.follows .mixedOrders=true)(d:Mv P=true)(e:Dw ⟨Fy P Z,Io P Z⟩):Bd P P.globals.size ⟨Fy P Z,Io P Z⟩:=
 ⟨AgX hc c d,Agf hc c,e⟩
def AfW:Bd P G Q7:=
 ⟨λg args h h' v σ w An kind c=>(by cases c),λl args h h' v σ w An e c=>(by cases c),AeJ P 0⟩
def Acd(e:P.follows .mixedOrders=true)(j:Mv P=true)(d:Nat):Bd P P.globals.size (A2N P d):=by
 induction d with
 |zero=>exact AfW
 |succ d c=>exact ApK c e j (AeJ P (d+1))
end Go.Ev
