/- The evaluator is right. -/
import Derived.Test.YtecikbfimlolcaaGreatDoorEvD
set_option linter.all false
noncomputable section
namespace Go.Ev
variable [Ii]
def Ru:List Oper->List Nat->List Nat
 |[],acc=>acc
 |o::os,acc=>Ru os (acc++[Ez acc o.after.toList])
theorem Uf:∀l acc,(Ru l acc).take acc.length=acc/\(Ru l acc).length=acc.length+l.length:=by intro l;induction l with
 |nil=>intro acc;exact ⟨by simp [Ru],rfl⟩
 |cons o l ih=>
  intro acc;obtain ⟨h1,h2⟩:=ih (acc++[Ez acc o.after.toList]);refine ⟨?_,?_⟩;. show (Ru l _).take _=acc;have:=congrArg (List.take acc.length) h1;grind
  . show (Ru l _).length=_;grind
theorem AeH {l} {i j} (hij:i<j):Vf (l.take j) i=Vf l i:=by unfold Vf;grind
theorem AbO:∀l acc k o,l[k]?=some o->Vf (Ru l acc) (acc.length+k)=Ez ((Ru l acc).take (acc.length+k)) o.after.toList:=by intro l;induction l with
 |nil=>simp
 |cons o l ih=>intro acc k x hk;cases k with
  |zero=>simp at hk;subst hk;have h1:=(Uf l (acc++[Ez acc o.after.toList])).1;show Vf (Ru l _) _=Ez ((Ru l _).take _) _;have h2:=(Uf (o::l) acc).1;have h3:(Ru l _).take _=acc:=h2;rw [Nat.add_zero,h3];have:=AeH (l:=Ru l (acc++[Ez acc o.after.toList])) (i:=acc.length) (j:=(acc++[Ez acc o.after.toList]).length) (by simp);rw [<- this,h1];simp [Vf]
  |succ k=>
   have:=ih (acc++[Ez acc o.after.toList]) k x (by grind);have e:(acc++[Ez acc o.after.toList]).length+k=acc.length+k+1:=by grind
   rw [e] at this;exact this
def PR (ops:Array Oper):List Nat:=Ru ops.toList []
def Bef (ops:Array Oper) (j i:Nat):Prop:=(Vf (PR ops) i).testBit j=true
theorem AnN {acc} {j}:∀es,(Ez acc es).testBit j=true->∃e∈es,Region.binds .any e=true/\(e.on=j\/(Vf acc e.on).testBit j=true):=by intro es;induction es with
 |nil=>intro h;simp [Ez] at h
 |cons e es ih=>intro h;unfold Ez at h;cases hb:Region.binds .any e with
  |false=>simp_all
  |true=>
   rw [hb] at h;have h':(Ka _ ||| Vf .. ||| Ez ..).testBit j=true:=h;rw [Nat.testBit_or,Nat.testBit_or,Bool.or_eq_true,Bool.or_eq_true] at h';rcases h' with (h'|h')|h';. have:(2 ^ e.on).testBit j=true:=h';grind
   . grind
   simp_all
theorem Bef.A2R {ops} (hb:P6 ops) {i j} {o} (ho:ops[i]?=some o) (h:Bef ops j i):∃e∈o.after.toList,Region.binds .any e=true/\e.on<i/\(e.on=j\/Bef ops j e.on):=by
 have h1:=AbO ops.toList [] i o (by grind);simp [List.length_nil,Nat.zero_add] at h1;unfold Bef PR at h;rw [h1] at h;obtain ⟨e,q1,q2,q3⟩:=AnN _ h;have B6:=hb i o ho e q1 q2;refine ⟨e,q1,q2,B6,?_⟩;rcases q3 with q3|q3;. omega
 . rw [AeH B6] at q3;exact .inr q3
theorem Bef.lt {ops} (hb:P6 ops):∀{i j},i<ops.size->Bef ops j i->j<i:=by intro i;induction i using Nat.strongRecOn with
 |_ i ih=>intro j hi h;obtain ⟨e,q1,q2,q3,q4⟩:=h.A2R hb (Array.getElem?_eq_getElem hi);grind
def V0 (ops:Array Oper) (D:Nat->Bool):Prop:=∀(x:Nat) (o:Oper),ops[x]?=some o->D x=true->∀e∈o.after.toList,Region.binds .any e=true->D e.on=true
theorem Bef.done {ops} (hb:P6 ops) {D} (hD:V0 ops D):∀{i} {o},ops[i]?=some o->(∀e∈o.after.toList,Region.binds .any e=true->D e.on=true)->∀j,Bef ops j i->D j=true:=by intro i;induction i using Nat.strongRecOn with
 |_ i ih=>
  intro o ho he j h;obtain ⟨e,q1,q2,q3,q4⟩:=h.A2R hb ho;rcases q4 with rfl|q4;. grind
  . have hi:e.on<ops.size:=by grind
    exact ih _ q3 (Array.getElem?_eq_getElem hi) (hD _ _ (Array.getElem?_eq_getElem _) (he e q1 q2)) j q4
theorem ApN:∀l acc k d,(M7 l acc.length acc)[k]?=some d->l[k]?=some d.o/\d.bit=Ka (acc.length+k)/\d.pr=Vf (Ru l acc) (acc.length+k):=by intro l;induction l with
 |nil=>intro acc k d hk;simp [M7] at hk
 |cons o l ih=>intro acc k d hk;cases k with
  |zero=>simp [M7,List.getElem?_cons_zero,Option.some.injEq] at hk;subst hk;refine ⟨rfl,rfl,?_⟩;have:=AbO (o::l) acc 0 o rfl;rw [this,Nat.add_zero,(Uf ..).1]
  |succ k=>
   simp only [M7,List.getElem?_cons_succ] at hk;have e:Nat.succ acc.length=(acc++[Ez acc o.after.toList]).length:=by simp
   rw [e] at hk;obtain ⟨h1,h2,h3⟩:=ih _ k d hk;have e2:(acc++[Ez acc o.after.toList]).length+k=acc.length+k+1:=by omega
   rw [e2] at h2 h3;exact ⟨by grind,h2,h3⟩
theorem ApO:∀l i acc,(M7 l i acc).length=l.length:=by intro l;induction l with
 |nil=>intro i acc;rfl
 |cons o l ih=>simp [M7,ih]
def Avb (pr:Nat) (o:Oper) (ops:Array Oper) (ob:OB):Prop:=
 Nat.land pr ob.bit≠0\/(Nat.land ob.dst (Nat.lor (I4 o) (Iz ops o))=0/\Nat.land (I4 o) ob.rd=0)
theorem Ajr {pr dst rd} {df}:∀obs,Zk pr dst rd df obs=true->∀ob∈obs,Nat.land pr ob.bit≠0\/Nat.land ob.dst (Nat.lor dst rd)=0/\Nat.land dst ob.rd=0:=by intro obs;induction obs with
 |nil=>simp
 |cons x obs ih=>intro h ob hob;unfold Zk at h;cases hc:(Bool.rec true (Bool.rec false (Ib (Bool.rec df true x.df)) (M4 (Nat.lor (Nat.land x.dst (Nat.lor dst rd)) (Nat.land dst x.rd)))) (M4 (Nat.land pr x.bit)):Bool) with
  |false=>simp_all
  |true=>rw [hc] at h;cases hob with
   |head=>cases hz:M4 _ with
    |false=>exact .inl (Ho hz)
    |true=>cases hz2:M4 (Nat.lor (Nat.land x.dst (Nat.lor dst rd)) (Nat.land dst x.rd)) with
     |false=>simp_all
     |true=>have h0:=Ch hz2;simp_all
   |tail _ hm=>exact ih h _ hm
theorem Aai {ops:Array Oper}:∀(l:List Oper) (acc:List Nat) (obs:List OB),Aiv ops l acc.length acc obs=true->∀(k:Nat) (o:Oper),l[k]?=some o ->
 (∀e∈o.after.toList,Region.binds .any e=true->e.on<acc.length+k)/\(∀ob∈obs,Avb (Vf (Ru l acc) (acc.length+k)) o ops ob) /\
  ∀k' o',k'<k->l[k']?=some o'->Avb (Vf (Ru l acc) (acc.length+k)) o ops ⟨Ka (acc.length+k'),I4 o',Iz ops o',AhJ o'.op⟩:=by intro l;induction l with
 |nil=>simp_all
 |cons x l ih=>intro acc obs h k o hk;unfold Aiv at h;cases hc:(Bool.rec (motive:=λ_=>Bool) false (Zk (Ez acc x.after.toList) (I4 x) (Iz ops x) (AhJ x.op) obs) (x.after.toList.all λe=>Ib (Region.binds .any e)||Nat.blt e.on acc.length):Bool) with
  |false=>simp_all
  |true=>
   rw [hc] at h;have h':Aiv ops l (Nat.succ acc.length) (acc++[Ez acc x.after.toList]) (⟨Ka acc.length,I4 x,Iz ops x,AhJ x.op⟩::obs)=true:=h;have e:Nat.succ acc.length=(acc++[Ez acc x.after.toList]).length:=by simp
   rw [e] at h';cases ha:(x.after.toList.all λe=>Ib (Region.binds .any e)||Nat.blt e.on acc.length) with
   |false=>simp_all
   |true=>rw [ha] at hc;have hap:Zk (Ez acc x.after.toList) (I4 x) (Iz ops x) (AhJ x.op) obs=true:=hc;cases k with
    |zero=>
     simp at hk;subst hk;have hpr:Vf (Ru (x::l) acc) (acc.length+0)=Ez acc x.after.toList:=by rw [AbO (x::l) acc 0 x rfl,Nat.add_zero,(Uf (x::l) acc).1]
     refine ⟨?_,?_,?_⟩;. intro e he hbe;have:=List.all_eq_true.1 ha e he;rw [Kb,hbe] at this;simp_all
     . intro ob hob;rw [hpr];exact Ajr obs hap ob hob
     grind
    |succ k=>
     obtain ⟨q1,q2,q3⟩:=ih _ _ h' k o (by simpa using hk);have e2:(acc++[Ez acc x.after.toList]).length+k=acc.length+(k+1):=by simp;omega
     rw [e2] at q1 q2 q3;refine ⟨q1,λob hob=>q2 ob (by simp [hob]),?_⟩;intro k' o' hk' ho';cases k' with
     |zero=>simp at ho';subst ho';exact q2 _ (by simp)
     |succ k'=>
      have:=q3 k' o' om (by grind);have e3:(acc++[Ez acc x.after.toList]).length+k'=acc.length+(k'+1):=by simp;omega
      rw [e3] at this;exact this
theorem Ya {x i:Nat}:Nat.land x (Ka i)≠0->x.testBit i=true:=by intro h;cases hb:x.testBit i with
 |true=>rfl
 |false=>refine absurd ?_ h;show x &&& 2 ^ i=0;apply Nat.eq_of_testBit_eq;grind
theorem Tp {ops} (h:Yx ops=true):P6 ops:=by intro i o ho e he hb;have:=(Aai _ [] _ h i o (by grind)).1 e he hb;grind
def Aah (ops:Array Oper) (o:Oper) (t:Nat):Prop:=(.tmp t)∈o.op.operands.toList\/∃w,guardOf ops o=.on t w
theorem AiF {l} {t} (h:.tmp t∈l):(AbE l).testBit t=true:=by induction l with
 |nil=>grind
 |cons x l ih=>show (Operand.rec _ _ _ _ x ||| AbE l).testBit t=true;rw [Nat.testBit_or,Bool.or_eq_true];cases h with
  |head=>exact .inl (by show (2 ^ t).testBit t=true;simp)
  |tail _ hm=>exact .inr (ih hm)
theorem Yv {ops} {o} {t} (h:Aah ops o t):(Iz ops o).testBit t=true:=by
 show (AbE _ ||| match guardOf _ o with|.on t _=>Ka t|_=>0).testBit t=true;rw [Nat.testBit_or,Bool.or_eq_true];rcases h with h|⟨w,h⟩;. exact .inl (AiF h)
 . rw [h];exact .inr (by show (2 ^ t).testBit t=true;simp)
theorem Md {o:Oper} {t:Nat} (h:o.dst=some t):(I4 o).testBit t=true:=by unfold I4;rw [h];show (2 ^ t).testBit t=true;simp
theorem Z5 {x y t:Nat} (h:Nat.land x y=0) (hx:x.testBit t=true) (hy:y.testBit t=true):False:=by
 have:(x &&& y).testBit t=true:=by grind
 simp_all
theorem AaU {ops} (h:Yx ops=true) {i j:Nat} {o p} {t:Nat} (ho:ops[i]?=some o) (hp:ops[j]?=some p) (hij:i≠j) (hd:o.dst=some t) (hr:p.dst=some t\/Aah ops p t):
 Bef ops i j\/Bef ops j i:=by
 rcases Nat.lt_or_ge i j with B6|hge
 . have:=(Aai _ [] _ h j p (by grind)).2.2 i o B6 (by grind);simp [List.length_nil,Nat.zero_add] at this;rcases this with h1|⟨h1,h2⟩;. exact .inl (Ya h1)
   . exfalso;refine Z5 h1 (Md hd) ?_;show (I4 p ||| Iz _ p).testBit t=true;rw [Nat.testBit_or,Bool.or_eq_true];rcases hr with hr|hr;. exact .inl (Md hr)
     . exact .inr (Yv hr)
 . have:=(Aai _ [] _ h i o (by grind)).2.2 j p om (by grind);simp [List.length_nil,Nat.zero_add] at this;rcases this with h1|⟨h1,h2⟩;. exact .inr (Ya h1)
   . exfalso;rcases hr with hr|hr;. refine Z5 h1 (Md hr) ?_;show (I4 o ||| Iz _ o).testBit t=true;rw [Nat.testBit_or,Bool.or_eq_true];exact .inl (Md hd)
     . exact Z5 h2 (Md hd) (Yv hr)
end Go.Ev
namespace Go.Ev
variable [Ii]
variable {P:Program} {G:Nat} {σ σ':Dx} {h h':H} {w w':World} {v:AV} {nt:Nat} {f f':L2} {a:Act} {ctx:Ac} {b:FB} {cs:List Frame}
theorem Ant x l:Ve x l=true ↔ x∈l:=by induction l with
 |nil=>exact ⟨λhh=>(by cases hh),λhh=>by cases hh⟩
 |cons y l ih=>show Bool.rec (motive:=λ_=>Bool) (Ve x l) ..=true ↔ _;cases hb:Nat.beq y x with
  |true=>simp_all
  |false=>have Hr:=Ho hb;grind
theorem AcH {x} {l} (hh:Ve x l=false):x ∉ l:=by intro hm;rw [(Ant x l).2 hm] at hh;grind
theorem L7 n x l:x∈wrote n l ↔ x∈l/\x<n:=by induction l with
 |nil=>exact ⟨λhh=>(by cases hh),λhh=>by grind⟩
 |cons y l ih=>show x∈(Bool.rec (wrote n l) (y::wrote n l) _:List _) ↔ _;cases hb:Nat.blt y n with
  |true=>have:=Ec hb;grind
  |false=>have:=Ap1 hb;grind
theorem Yo {l} {lo hi} (hh:outside l lo hi=true):∀x∈l,¬ (lo<=x/\x<hi):=by induction l with
 |nil=>simp
 |cons y l ih=>intro x hx hc;have h1:Bool.rec (motive:=λ_=>Bool) _ ..=true:=hh;cases hq:(Bool.rec false (Nat.blt y hi) (Nat.ble lo y):Bool) with
  |true=>simp_all
  |false=>rw [hq] at h1;cases hx with
   |head=>
    have e1:Nat.ble lo y=true:=by simp_all
    have e2:Nat.blt y hi=true:=by simp [*]
    simp_all
   |tail _ hm=>exact ih h1 x hm hc
theorem Aj1 o:B5 o=Ej o:=by cases o with
 |cells l t k=>cases k<;>rfl
 |_=>rfl
theorem Am6 {x} {l} {h} (hh:clear (.blk x) l h=true):x ∉ l/\∀k,Ej (h.m.get x)=some k->k ∉ l:=by have h1:Bool.rec (motive:=λ_=>Bool) _ ..=true:=hh;cases hm:Ve x l with
 |true=>simp_all
 |false=>rw [hm] at h1;refine ⟨AcH hm,λk hk=>?_⟩;have h2:=h1;rw [Aj1,hk] at h2;have h3:Ib _=true:=h2;rw [Kb] at h3;exact AcH (by grind)
theorem AnA {l} (hh:l≠[]):Q6 l=false:=by cases l with
 |nil=>grind
 |cons x l=>rfl
theorem Aha {e}:∀{l},E2 e l=true->∀x∈l,Jo e x=true:=by intro l;induction l with
 |nil=>simp
 |cons y l ih=>intro hh x hx;have h1:Bool.rec _ (E2 e l) _=true:=hh;cases hc:Jo e y with
  |false=>simp_all
  |true=>rw [hc] at h1;grind
theorem AmC {all}:∀{l},Iu all l=true->∀e∈l,e.w≠[]->∀x∈all,Jo e x=true:=by intro l;induction l with
 |nil=>simp
 |cons y l ih=>intro hh e he Hr x hx;have h1:Bool.rec (motive:=λ_=>Bool) _ ..=true:=hh;cases hn:Q6 _ with
  |true=>rw [hn] at h1;cases he with
   |head=>rw [AnA Hr] at hn;grind
   |tail _ hm=>exact ih h1 e hm Hr x hx
  |false=>rw [hn] at h1;have h2:=h1;cases hc:E2 y all with
   |false=>simp_all
   |true=>rw [hc] at h2;cases he with
    |head=>exact Aha hc x hx
    |tail _ hm=>exact ih h2 e hm Hr x hx
theorem Am5 {e x} (hh:Jo e x=true):Nat.land e.pr x.bit≠0\/Nat.land x.pr e.bit≠0\/e.bit=x.bit\/clear x.r e.w x.h=true/\outside e.w x.h.nx x.n1=true:=by unfold Jo at hh;cases hz:M4 (Nat.lor (Nat.land e.pr x.bit) (Nat.land x.pr e.bit)) with
 |false=>have Hr:=Ho hz;simp_all;omega
 |true=>cases hb:Nat.beq e.bit x.bit with
  |true=>simp_all
  |false=>cases hd:Ahl e.w x.w with
   |false=>simp_all
   |true=>cases hc:clear _ .. with
    |false=>simp_all
    |true=>simp_all
theorem Aho {ops:Array Oper} {lg:List Nat}:∀(l:List DO) (Fl:List EF) (f:L2) (h:H) (f':L2) (h':H),Sp P ctx ops lg l Fl f h=.Bt f' h' ->
 ∃(F:Nat->L2) (Hs:Nat->H) (es:List EF),F 0=f/\Hs 0=h/\(∀i d,l[i]?=some d->Fp ops d.o P ctx (F i) (Ab (Hs i))=.Bt (F (i+1)) (Hs (i+1)) /\
  es[i]?=some ⟨d.bit,d.pr,wrote (Hs i).nx (Hs (i+1)).lg,Gi d.o.op (F i),Hs i,(Hs (i+1)).nx⟩)/\es.length=l.length/\Lh (es.reverse++Fl)=true/\f'=F l.length /\
   h'=Be (En (es.reverse++Fl) lg) (Hs l.length):=by
 intro l;induction l with
 |nil=>intro Fl f h f' h' he;have h1:(Bool.rec (motive:=λ_=>RC) (.bad 183) (.Bt f (Be (En Fl lg) h)) (Lh Fl):RC)=.Bt f' h':=he;cases hc:Lh Fl with
  |false=>simp_all
  |true=>
   rw [hc] at h1;cases h1
   exact ⟨λ_=>f,λ_=>h,[],rfl,rfl,λi d hi=>by grind,rfl,hc,rfl,rfl⟩
 |cons d l ih=>
  intro Fl f h f' h' he
  have h1:(RC.rec (motive:=λ_=>RC) RC.bad (λf' h'=>Sp P ctx ops lg l (⟨d.bit,d.pr,wrote h.nx h'.lg,Gi d.o.op f,h,h'.nx⟩::Fl) f' h') (λ_ _ _=>.bad 184) (λ_ _=>.bad 184) (Fp ops d.o P ctx f (Ab h)):RC)=.Bt f' h':=he;cases ho:Fp ops d.o P ctx f (Ab h) with
  |bad n=>rw [ho] at h1;cases h1
  |ext id f1 W2=>rw [ho] at h1;cases h1
  |ret f1 W2=>rw [ho] at h1;cases h1
  |Bt f1 W2=>
   rw [ho] at h1;obtain ⟨F,Hs,es,q1,q2,q3,q4,q5,q6,q7⟩:=ih _ f1 W2 f' h' h1;refine ⟨λi=>Nat.casesOn i f F,λi=>Nat.casesOn i h Hs,⟨d.bit,d.pr,wrote h.nx W2.lg,Gi d.o.op f,h,W2.nx⟩::es,rfl,rfl,?_,by simp [*],?_,q6,?_⟩;. intro i d' hi;cases i with
     |zero=>
      simp at hi;subst hi;dsimp only;rw [q1,q2];exact ⟨ho,rfl⟩
     |succ i=>grind
   . simp_all
   simp_all
structure Dr (P:Program) (G:Nat) (ctx:Ac) (ops:Array Oper) (nt:Nat) (F:Nat->L2) (Hs:Nat->H):Prop where
 reg:Yx ops=true
 run:∀(i:Nat) (o:Oper),ops[i]?=some o->Fp ops o P ctx (F i) (Ab (Hs i))=.Bt (F (i+1)) (Hs (i+1))
 calm:∀(i j:Nat) (p:Oper),i<ops.size->ops[j]?=some p->i≠j->(∃x,x∈(Hs (i+1)).lg/\x<(Hs i).nx)->Bef ops i j\/Bef ops j i \/
  (clear (Gi p.op (F j)) (wrote (Hs i).nx (Hs (i+1)).lg) (Hs j)=true/\outside (wrote (Hs i).nx (Hs (i+1)).lg) (Hs j).nx (Hs (j+1)).nx=true)
 step:∀i,i<ops.size->J6 (Ab (Hs i)) (Hs (i+1)) (Hs (i+1)).lg
 inv:∀i,i<=ops.size->Om (Hs i)
 A4P:∀o∈ops.toList,Ie o.op=none
 all:∀o∈ops.toList,Gl G nt o=true
 nt:nt<250
 top:(Hs ops.size).nx<=Bq
theorem AaV {es:List EF} {i:Nat} {x} (hh:es[i]?=some x):x∈es.reverse++[]:=by grind
theorem Om.Ab (hi:Om h):Om (Ab h):=⟨hi.top,hi.Rm,hi.N3,hi.Gt,hi.Tx,hi.len⟩
theorem Om.Be (hi:Om h) lg:Om (Be lg h):=⟨hi.top,hi.Rm,hi.N3,hi.Gt,hi.Tx,hi.len⟩
theorem St.Ab (hs:St G σ nt f a h w):St G σ nt f a (Ab h) w:=⟨hs.fr,hs.gl,hs.ai.Ab,hs.so,hs.ma⟩
theorem Dr.of_run (hc:Bd P G ctx) {ops:Array Oper} (Ani:Yx ops=true) (Fs:∀x∈ops.toList,Gl G nt x=true) (Ix:nt<250) (he:Gk P ctx ops f h=.Bt f' h')
 (hs:St G σ nt f a h w) (hb:RBk b σ f) (hl:h'.nx<=Bq) (hf:Fx σ h h'):
 ∃F Hs es,Dr P G ctx ops nt F Hs/\F 0=f/\Hs 0=h/\f'=F ops.size/\h'=Be (En es h.lg) (Hs ops.size) /\
  (es.reverse).length=ops.size/\∀i,i<ops.size->∃x,es.reverse[i]?=some x/\x.w=wrote (Hs i).nx (Hs (i+1)).lg:=by unfold Gk at he;cases hd:AnB ops with
 |false=>rw [hd] at he;cases he
 |true=>
  rw [hd] at he;obtain ⟨F,Hs,es,q1,q2,q3,q4,q5,q6,q7⟩:=Aho _ _ f h f' h' he;have hlen:(M7 ops.toList 0 []).length=ops.size:=by rw [ApO];simp
  have hdo:∀(i:Nat) (o:Oper),ops[i]?=some o->∃d,(M7 ops.toList 0 [])[i]?=some d/\d.o=o/\d.bit=Ka i/\d.pr=Vf (PR ops) i:=by
   intro i o ho;have hi:i<(M7 ops.toList 0 []).length:=by rw [hlen];exact (Array.getElem?_eq_some_iff.1 ho).1
   obtain ⟨h1,h2,h3⟩:=ApN ops.toList [] i _ (List.getElem?_eq_getElem hi);refine ⟨_,List.getElem?_eq_getElem hi,?_,by simpa using h2,by simpa [PR] using h3⟩;have:ops.toList[i]?=some o:=by simpa using ho
   rw [this] at h1;cases h1;rfl
  have Du:∀(i:Nat) (o:Oper),ops[i]?=some o->Fp ops o P ctx (F i) (Ab (Hs i))=.Bt (F (i+1)) (Hs (i+1)):=by intro i o ho;obtain ⟨d,h1,rfl,h2,h3⟩:=hdo i o ho;exact (q3 i d h1).1
  have A4f:∀i,i<ops.size->(Hs i).nx<=(Hs (i+1)).nx:=by intro i hi;have:=Wk (P:=P) (f:=F i) (h:=Ab (Hs i)) hc.mono ops ops[i];exact this _ _ (.inl (Du i _ (Array.getElem?_eq_getElem hi)))
  have hnx:∀j,j<=ops.size->(Hs j).nx<=(Hs ops.size).nx:=by
   intro j hj;have key:∀m,j+m<=ops.size->(Hs j).nx<=(Hs (j+m)).nx:=by intro m;induction m with
    |zero=>intro _;exact Nat.le_refl _
    |succ m ih=>grind
   have:=key (ops.size - j) om;rwa [show j+(ops.size - j)=ops.size by omega] at this
  rw [hlen] at q6 q7;have A8V:(Hs ops.size).nx<=Bq:=by rw [q7] at hl;exact hl
  have hf0:Fx σ (Hs 0) (Hs ops.size):=by rw [q2];rw [q7] at hf;exact hf
  have AvM:∀i,i<=ops.size->(∃σ a w,St G σ nt (F i) a (Hs i) w/\RBk b σ (F i)/\Fx σ (Hs i) (Hs ops.size))/\∀j,j<i->J6 (Ab (Hs j)) (Hs (j+1)) (Hs (j+1)).lg:=by intro i;induction i with
   |zero=>grind
   |succ i ih=>
    intro hi;obtain ⟨⟨σ1,a1,w1,g1,g2,g3⟩,g4⟩:=ih om;have ho:ops[i]?=some ops[i]:=Array.getElem?_eq_getElem hi;have Vc:ops[i]∈ops.toList:=by simp
    obtain ⟨f2,h2,e2,s2⟩:=Wn hc Fs Ix (Fs _ Vc) (Du i _ ho) (λn hn=>by cases hn) (λ_ _ _ hn=>by cases hn) g1.Ab g2;cases e2;have hle:=hnx (i+1) hi;obtain ⟨σ2,a2,w2,t1,t2,t3,_⟩:=s2 om (g3.left hle);refine ⟨⟨σ2,a2,w2,t1,t2,Fx.right (h:=Ab (Hs i)) g3 t3⟩,λj hj=>?_⟩;by_cases hji:j=i
    . subst hji;obtain ⟨nw,a1,_,_⟩:=t3;have:(Hs (j+1)).lg=nw:=by rw [a1.lg];simp [Ab]
      rw [this];exact a1
    . exact g4 j om
  have hfx:∀(i:Nat) (o:Oper),ops[i]?=some o->es[i]?=some ⟨Ka i,Vf (PR ops) i,wrote (Hs i).nx (Hs (i+1)).lg,Gi o.op (F i),Hs i,(Hs (i+1)).nx⟩:=by grind
  refine ⟨F,Hs,es.reverse,⟨Ani,Du,?_,λi hi=>(AvM (i+1) hi).2 i om,λi hi=>?_,?_,Fs,Ix,A8V⟩,q1,q2,q6,by simpa using q7,by simp [q4,hlen],?_⟩
  . intro i j p hi hp hij Hr;have e1:=hfx i _ (Array.getElem?_eq_getElem hi);have e2:=hfx j p hp;have hnw:wrote (Hs i).nx (Hs (i+1)).lg≠[]:=by obtain ⟨x,h1,h2⟩:=Hr;exact List.ne_nil_of_mem ((L7 _ x _).2 ⟨h1,h2⟩)
    have Hq:=AmC q5 _ (AaV e1) hnw _ (AaV e2);rcases Am5 Hq with h1|h1|h1|⟨h1,h2⟩;. exact .inr (.inl (Ya h1))
    . exact .inl (Ya h1)
    . exact absurd ((Nat.pow_right_inj (by omega:1<2)).1 h1) hij
    . exact .inr (.inr ⟨h1,h2⟩)
  . obtain ⟨⟨σ1,a1,w1,g1,_⟩,_⟩:=AvM i hi;exact g1.ai
  . intro o ho;have:=List.all_eq_true.1 hd o ho;rw [Kb] at this;unfold AhJ at this;cases hq:Ie o.op with
    |none=>rfl
    |some c=>rw [hq] at this;cases this
  . intro i hi;rw [List.reverse_reverse];exact ⟨_,hfx i _ (Array.getElem?_eq_getElem hi),rfl⟩
end Go.Ev
namespace Go.Ev
variable [Ii]
variable {P:Program} {G:Nat} {σ σ':Dx} {h h':H} {w w':World} {v:AV} {nt:Nat} {f f':L2} {a:Act} {ctx:Ac} {b:FB} {cs:List Frame} {ops:Array Oper} {F:Nat->L2} {Hs:Nat->H}
def T (Hs:Nat->H) (x y:Nat):Prop:=y∈(Hs (x+1)).lg\/((Hs x).nx<=y/\y<(Hs (x+1)).nx)
def Wt (ops:Array Oper) (x t:Nat):Prop:=∃o,ops[x]?=some o/\o.dst=some t
theorem Dr.nx (dr:Dr P G ctx ops nt F Hs) {i j} (hij:i<=j) (hj:j<=ops.size):(Hs i).nx<=(Hs j).nx:=by
 have key:∀m,i+m<=ops.size->(Hs i).nx<=(Hs (i+m)).nx:=by intro m;induction m with
  |zero=>grind
  |succ m ih=>intro hm;exact Nat.le_trans (ih om) (dr.step _ om).nx
 have:=key (j - i) om;grind
theorem Dr.nxl (dr:Dr P G ctx ops nt F Hs) {i} (hi:i<=ops.size):(Hs i).nx<=Bq:=Nat.le_trans (dr.nx hi (Nat.le_refl _)) dr.top
theorem Dr.low (dr:Dr P G ctx ops nt F Hs) {x y} (hx:x<ops.size) (ht:T Hs x y):y<(Hs (x+1)).nx:=by
 rcases ht with ht|ht;. exact (dr.step x hx).low y ht
 grind
theorem Dr.AzD (dr:Dr P G ctx ops nt F Hs) {x y} (hx:x<ops.size) (hy:y<Bq) (ht:¬ T Hs x y):(Hs (x+1)).m.get y=(Hs x).m.get y:=by
 have Vt:=dr.step x hx;by_cases h1:y<(Hs x).nx;. exact Vt.By y hy h1 λhh=>ht (.inl hh)
 . have h2:(Hs (x+1)).nx<=y:=by
    rcases Nat.lt_or_ge y _ with h3|h3;. exact absurd (.inr ⟨by omega,h3⟩) ht
    grind
   rw [(dr.inv _ hx).Rm y h2 hy,(dr.inv x om).Rm y om hy]
theorem Dr.quiet (dr:Dr P G ctx ops nt F Hs) {i j y:Nat} (hi:i<=ops.size) (hj:j<=ops.size) (hy:y<Bq) (ht:∀x,x<ops.size->T Hs x y->(x<i ↔ x<j)):(Hs i).m.get y=(Hs j).m.get y:=by
 have key:∀m i,i+m<=ops.size->(∀x,i<=x->x<i+m->¬ T Hs x y)->(Hs i).m.get y=(Hs (i+m)).m.get y:=by intro m;induction m with
  |zero=>simp
  |succ m ih=>intro i hm hn;rw [ih i om (λx h1 h2=>hn x h1 om)];exact (dr.AzD om hy (hn _ (by simp) om)).symm
 rcases Nat.le_total i j with h1|h1;. have:=key (j - i) i om (λx h2 h3 h4=>by grind);grind
 . have:=key (i - j) j om (λx h2 h3 h4=>by grind);grind
theorem Dr.frame (dr:Dr P G ctx ops nt F Hs) {x:Nat} {o} (ho:ops[x]?=some o):(∀t:Nat,o.dst=some t->t<nt)/\∃v,F (x+1)=Im o.dst v (F x):=by
 have Vc:o∈ops.toList:=by grind
 refine ⟨(Lu (dr.all o Vc)).2,?_⟩;rcases Pf (dr.run x o ho) λn hn=>by grind λ_ _ _ hn=>by grind with ⟨_,he⟩|⟨_,_,v,h',_,he⟩|⟨_,c,hd,_⟩;. grind
 . grind
 . rw [dr.A4P o Vc] at hd;grind
theorem Dr.Atx (dr:Dr P G ctx ops nt F Hs) {x t} (hx:x<ops.size) (ht:t<256) (hw:¬ Wt ops x t):(F (x+1)).get t=(F x).get t:=by have ho:ops[x]?=some ops[x]:=Array.getElem?_eq_getElem _;obtain ⟨hd,v,he⟩:=dr.frame ho;have Ix:=dr.nt;rw [he,Mm (λu hu=>Nat.lt_trans (hd u hu) Ix) t ht,if_neg λhh=>hw ⟨_,ho,hh⟩]
theorem Dr.Acl (dr:Dr P G ctx ops nt F Hs) {i j t:Nat} (hi:i<=ops.size) (hj:j<=ops.size) (ht:t<256) (hw:∀x,x<ops.size->Wt ops x t->(x<i ↔ x<j)):(F i).get t=(F j).get t:=by
 have key:∀m i,i+m<=ops.size->(∀x,i<=x->x<i+m->¬ Wt ops x t)->(F i).get t=(F (i+m)).get t:=by intro m;induction m with
  |zero=>simp
  |succ m ih=>intro i hm hn;rw [ih i om (λx h1 h2=>hn x h1 om)];exact (dr.Atx om ht (hn _ (by simp) om)).symm
 rcases Nat.le_total i j with h1|h1;. have:=key (j - i) i om (λx h2 h3 h4=>by grind);grind
 . have:=key (i - j) j om λx h2 h3 h4=>by grind
   grind
theorem Dr.Ur (dr:Dr P G ctx ops nt F Hs) {x y z} (hx:x<ops.size) (hz:z<ops.size) (h1:(Hs x).nx<=y/\y<(Hs (x+1)).nx) (h2:(Hs z).nx<=y/\y<(Hs (z+1)).nx):x=z:=by
 rcases Nat.lt_trichotomy x z with h3|h3|h3;. have:=dr.nx (i:=x+1) h3 om;omega
 . omega
 . have:=dr.nx (i:=z+1) h3 om;omega
theorem Dr.same (dr:Dr P G ctx ops nt F Hs) {i j y k} (hij:i<=j) (hj:j<=ops.size) (hy:y<(Hs i).nx) (hk:Ej ((Hs j).m.get y)=some k):Ej ((Hs i).m.get y)=some k:=by
 have hyl:=Nat.lt_of_lt_of_le hy (dr.nxl om);have key:∀m,i+m<=ops.size->Ej ((Hs (i+m)).m.get y)=some k->Ej ((Hs i).m.get y)=some k:=by intro m;induction m with
  |zero=>simp
  |succ m ih=>intro hm hh;exact ih om ((dr.step _ om).same y k (Nat.lt_of_lt_of_le hy (dr.nx om om)) hyl hh)
 exact key (j - i) om (by grind)
structure Iv (G:Nat) (ops:Array Oper) (nt:Nat) (F:Nat->L2) (Hs:Nat->H) (σ0:Dx) (w0:World) (NW:List Nat) (D:Nat->Bool) (σ:Dx) (g:L2) (a:Act) (w:World):Prop where
 Al3:V0 ops D
 fr:Pt σ nt g a
 Ase:∀t,t<250->∃j,j<=ops.size/\(∀x,x<ops.size->Wt ops x t->(D x=true ↔ x<j))/\g.get t=(F j).get t
 ds:g.get Br=(F 0).get Br
 gl:Vm G σ
 so:SOk σ w
 Sm:Oz σ0 σ (Hs 0) (Hs ops.size) w0 w NW
 dom:∀y e,σ y=some e->(y<(Hs 0).nx\/(Hs ops.size).nx<=y)\/∃x,x<ops.size/\D x=true/\(Hs x).nx<=y/\y<(Hs (x+1)).nx
 mem:∀y e,σ y=some e->∃j,j<=ops.size/\(∀x,x<ops.size->T Hs x y->(D x=true ↔ x<j)) /\
  (∀k,Ej ((Hs j).m.get y)=some k->∀x,x<ops.size->T Hs x k->(D x=true ↔ x<j))/\Gr G σ (Hs j).m.get e w ((Hs j).m.get y)
theorem Dr.move (dr:Dr P G ctx ops nt F Hs) {i j y} {e} (hi:i<=ops.size) (hj:j<=ops.size) (hy:y<Bq) (h1:∀x,x<ops.size->T Hs x y->(x<j ↔ x<i))
 (h2:∀k,Ej ((Hs j).m.get y)=some k->∀x,x<ops.size->T Hs x k->(x<j ↔ x<i)) (hb:Gr G σ (Hs j).m.get e w ((Hs j).m.get y)):
 (Hs i).m.get y=(Hs j).m.get y/\Gr G σ (Hs i).m.get e w ((Hs i).m.get y):=by
 have he:=dr.quiet hj hi hy h1;refine ⟨he.symm,?_⟩;rw [<- he];refine Gr.congr (Qq.refl _) rfl ?_ hb;intro l t k st ho hk;have Vb:Ej ((Hs j).m.get y)=some k:=by rw [ho];rfl
 have hkl:k<Bq:=by have:=((dr.inv j hj).N3 y k hy Vb).1;have:=dr.nxl hj;omega
 rw [dr.quiet hj hi hkl (h2 k Vb)];omega
section step
variable {σ0:Dx} {w0:World} {NW:List Nat} {D:Nat->Bool} {g:L2} {i:Nat} {o:Oper}
def D1 (D:Nat->Bool) (i:Nat):Nat->Bool:=λj=>if j=i then true else D j
theorem J7:D1 D i i=true:=if_pos rfl
theorem Le {x} (hx:x≠i):D1 D i x=D x:=if_neg hx
theorem Iv.side (dr:Dr P G ctx ops nt F Hs) (iv:Iv G ops nt F Hs σ0 w0 NW D σ g a w) (ho:ops[i]?=some o) (hd:D i=false) (he:∀e∈o.after.toList,Region.binds .any e=true->D e.on=true)
 {x} (hx:x<ops.size) (hor:Bef ops x i\/Bef ops i x):D x=true ↔ x<i:=by
 have hb:=Tp dr.reg;have hi:=(Array.getElem?_eq_some_iff.1 ho).1;rcases hor with hor|hor;. exact ⟨λ_=>hor.lt hb hi,λ_=>Bef.done hb iv.Al3 ho he x hor⟩
 . have B6:=hor.lt hb hx;refine ⟨λhD=>?_,λhh=>absurd hh om⟩;have:=Bef.done hb iv.Al3 (Array.getElem?_eq_getElem hx) (iv.Al3 x _ (Array.getElem?_eq_getElem _) hD) i hor;grind
theorem Iv.Aj6 (iv:Iv G ops nt F Hs σ0 w0 NW D σ g a w) (ho:ops[i]?=some o) (he:∀e∈o.after.toList,Region.binds .any e=true->D e.on=true):V0 ops (D1 D i):=by
 intro x p hp hx e hm hb;have hup:∀z,D z=true->D1 D i z=true:=by
  intro z hz;by_cases hzi:z=i;. subst hzi;exact J7
  . rw [Le hzi];omega
 by_cases Gb:x=i;. grind
 . rw [Le Gb] at hx;exact hup _ (iv.Al3 x p hp hx e hm hb)
theorem Iv.reads (dr:Dr P G ctx ops nt F Hs) (iv:Iv G ops nt F Hs σ0 w0 NW D σ g a w) (ho:ops[i]?=some o) (hd:D i=false) (he:∀e∈o.after.toList,Region.binds .any e=true->D e.on=true)
 {t} (ht:t<250) (hr:Aah ops o t):g.get t=(F i).get t:=by
 have hi:=(Array.getElem?_eq_some_iff.1 ho).1;obtain ⟨j,h1,h2,h3⟩:=iv.Ase t ht;rw [h3];refine dr.Acl h1 om om λx hx hw=>?_;have h4:=h2 x hx hw;by_cases Gb:x=i;. grind
 . obtain ⟨p,hp,hpd⟩:=hw;have:=iv.side dr ho hd he hx (AaU dr.reg hp ho Gb hpd (.inr hr));grind
theorem Iv.AkF (dr:Dr P G ctx ops nt F Hs) (iv:Iv G ops nt F Hs σ0 w0 NW D σ g a w) (ho:ops[i]?=some o) (hd:D i=false) (he:∀e∈o.after.toList,Region.binds .any e=true->D e.on=true)
 {v} (hF:F (i+1)=Im o.dst v (F i)):∀t,t<250->∃j,j<=ops.size/\(∀x,x<ops.size->Wt ops x t->(D1 D i x=true ↔ x<j))/\(Im o.dst v g).get t=(F j).get t:=by
 intro t ht;have hi:=(Array.getElem?_eq_some_iff.1 ho).1;have M9:=(dr.frame ho).1;have Ix:=dr.nt;have hg:∀f,(Im _ v f).get t=if o.dst=some t then v else f.get t:=λf=>Mm (λu hu=>Nat.lt_trans (M9 u hu) Ix) t om;by_cases hot:o.dst=some t
 . refine ⟨_,hi,λx hx hw=>?_,?_⟩
   . by_cases Gb:x=i;. subst Gb;rw [J7];simp
     . rw [Le Gb];obtain ⟨p,hp,hpd⟩:=hw;rw [iv.side dr ho hd he hx (AaU dr.reg hp ho Gb hpd (.inl hot))];omega
   grind
 . obtain ⟨j,h1,h2,h3⟩:=iv.Ase t ht;refine ⟨j,h1,λx hx hw=>?_,?_⟩
   . by_cases Gb:x=i;. obtain ⟨p,hp,hpd⟩:=hw;grind
     . rw [Le Gb];simp_all
   grind
theorem Iv.ds1 (dr:Dr P G ctx ops nt F Hs) (iv:Iv G ops nt F Hs σ0 w0 NW D σ g a w) (ho:ops[i]?=some o) v:(Im o.dst v g).get Br=(F 0).get Br:=by have M9:=(dr.frame ho).1;have Ix:=dr.nt;rw [Mm (λu hu=>Nat.lt_trans (M9 u hu) Ix) _ (by decide),if_neg λhh=>by have h1:255<nt:=M9 _ hh;omega];exact iv.ds
theorem Iv.free (dr:Dr P G ctx ops nt F Hs) (iv:Iv G ops nt F Hs σ0 w0 NW D σ g a w) (hi:i<ops.size) (hd:D i=false):Fx σ (Ab (Hs i)) (Hs (i+1)):=by intro y h1 h2;cases hy:σ y with
 |none=>rfl
 |some e=>
  have W2:(Hs i).nx<=y:=h1;rcases iv.dom y e hy with h3|⟨x,h3,h4,h5⟩;. have:=dr.nx (i:=0) (j:=i) (by simp) om;have:=dr.nx (i:=i+1) hi (Nat.le_refl _);omega
  . have:=dr.Ur h3 hi h5 ⟨W2,h2⟩;grind
theorem Iv.still (dr:Dr P G ctx ops nt F Hs) (iv:Iv G ops nt F Hs σ0 w0 NW D σ g a w) (ho:ops[i]?=some o) (hd:D i=false) (he:∀e∈o.after.toList,Region.binds .any e=true->D e.on=true)
 {v} {v'} (hF:F (i+1)=Im o.dst v (F i)) (hH:Hs (i+1)=Ab (Hs i)) (hv:Au σ v v'):Iv G ops nt F Hs σ0 w0 NW (D1 D i) σ (Im o.dst v g) (a.put o.dst v') w:=by
 have M9:=(dr.frame ho).1;have hT:∀y,¬ T Hs i y:=by
  intro y hy;unfold T at hy;rw [hH] at hy;rcases hy with hy|⟨h1,h2⟩;. cases hy
  . have R3:y<(Hs i).nx:=h2;omega
 have AqG:∀x y,T Hs x y->D1 D i x=D x:=by intro x y hxy;refine Le ?_;grind
 refine ⟨iv.Aj6 ho he,iv.fr.put M9 dr.nt hv,iv.AkF dr ho hd he hF,iv.ds1 dr ho v,iv.gl,iv.so,iv.Sm,?_,?_⟩
 . intro y e hy;rcases iv.dom y e hy with h1|⟨x,h1,h2,h3⟩;. omega
   . refine .inr ⟨x,h1,?_,h3⟩;rw [AqG x y (.inr h3)];omega
 . intro y e hy;obtain ⟨j,h1,h2,h3,h4⟩:=iv.mem y e hy;refine ⟨j,h1,λx hx hT=>?_,λk hk x hx hT=>?_,h4⟩;. grind
   grind
end step
end Go.Ev
namespace Go.Ev
variable [Ii]
variable {P:Program} {G:Nat} {σ σ':Dx} {h h':H} {w w':World} {v:AV} {nt:Nat} {f f':L2} {a:Act} {ctx:Ac} {b:FB} {cs:List Frame} {ops:Array Oper} {F:Nat->L2} {Hs:Nat->H}
theorem Gr.N3 {g} {e} {o} {k} (hb:Gr G σ g e w o) (hk:e.k=some k):o=.none\/Ej o=some k:=by cases o with
 |none=>grind
 |Fb n=>have:e.k=none:=hb;grind
 |cells l t kk=>have:=hb.1;rw [hk] at this;exact .inr this.symm
 |map es=>have:=hb.1;simp_all
 |loop a1 a2 a3 a4 a5 a6=>have:=hb.1;grind
 |dfr t=>have:=hb.1;simp_all
theorem Oz.join {σ1 σ2:Dx} {hn hi hj:H} {w1 w2:World} {NW nw:List Nat} (a:Oz σ σ1 h hn w w1 NW) (b:Oz σ1 σ2 hi hj w1 w2 nw) (e1:h.nx<=hi.nx) (e2:hj.nx<=hn.nx)
 (Abm:∀y∈nw,∀e,σ1 y=some e->y∈NW):Oz σ σ2 h hn w w2 NW:=by
 refine ⟨a.le.trans b.le,?_,b.ok,Nat.le_trans a.grow b.grow,?_,?_,⟨b.io.1.trans a.io.1,b.io.2.trans a.io.2⟩⟩;. intro x e h3 h4;cases h5:σ1 x with
   |none=>have:=b.fresh x e h5 h4;omega
   |some e'=>exact a.fresh x e' h3 h5
 . intro c h3 h4;have g1:=a.frame c h3 h4;have g2:=b.frame c (by grind) (λx hx e he hc=>?_);. grind
   . have hxN:=Abm x hx e he;cases h5:σ x with
     |some e'=>have:=a.le x e' h5;grind
     |none=>
      rcases a.Vh x e h5 he with h6|⟨b0,Sz,e0,h7,h8⟩;. omega
      grind
 . intro x e h3 h4;cases h5:σ1 x with
   |some e'=>have:=b.le x e' h5;rw [h4] at this;cases this;exact a.Vh x e h3 h5
   |none=>
    rcases b.Vh x e h5 h4 with h6|⟨b0,Sz,e0,h7,h8⟩;. exact .inl (by have:=a.grow;omega)
    . cases h9:σ b0 with
      |some e9=>have:=a.le _ _ h9;grind
      |none=>
       rcases a.Vh _ _ h9 h7 with h6|⟨b1,Qy,e1,Fh,Kc⟩;. omega
       grind
section step
variable {σ0:Dx} {w0:World} {NW:List Nat} {D:Nat->Bool} {g:L2} {i:Nat} {o:Oper}
theorem T.cases {x y} (dr:Dr P G ctx ops nt F Hs) (hx:x<ops.size) (ht:T Hs x y):y∈(Hs (x+1)).lg/\y<(Hs x).nx\/(Hs x).nx<=y/\y<(Hs (x+1)).nx:=by
 have A8E:=dr.low hx ht;rcases Nat.lt_or_ge y (Hs x).nx with h1|h1;. rcases ht with ht|ht;simp_all;omega
 omega
theorem Iv.here (dr:Dr P G ctx ops nt F Hs) (iv:Iv G ops nt F Hs σ0 w0 NW D σ g a w) (ho:ops[i]?=some o) (hd:D i=false) (he:∀e∈o.after.toList,Region.binds .any e=true->D e.on=true)
 {y:Nat} {e:SE} (hy:σ y=some e) (hyn:y<(Hs i).nx)
 (hw:∀x z,x<ops.size->x≠i->(z=y\/Ej ((Hs i).m.get y)=some z)->z∈(Hs (x+1)).lg->z<(Hs x).nx->Bef ops x i\/Bef ops i x):
 (∀x,x<ops.size->T Hs x y->(D x=true ↔ x<i))/\(∀k,Ej ((Hs i).m.get y)=some k->∀x,x<ops.size->T Hs x k->(D x=true ↔ x<i))/\Gr G σ (Hs i).m.get e w ((Hs i).m.get y):=by
 have hi:i<ops.size:=(Array.getElem?_eq_some_iff.1 ho).1;have hyl:=iv.so.low y e hy;have Awi:D i=true ↔ i<i:=by rw [hd];simp
 have h1:∀x,x<ops.size->T Hs x y->(D x=true ↔ x<i):=by
  intro x hx ht;by_cases Gb:x=i;. subst Gb;exact Awi
  . rcases ht.cases dr hx with ⟨q1,q2⟩|q;. exact iv.side dr ho hd he hx (hw x y hx Gb (.inl rfl) q1 q2)
    . have B6:x<i:=by
       rcases Nat.lt_or_ge x i with h3|h3;. exact h3
       . have:=dr.nx h3 om;omega
      refine ⟨λ_=>B6,λ_=>?_⟩;rcases iv.dom y e hy with h3|⟨z,h3,h4,h5⟩;. have:=dr.nx (i:=0) (j:=x) om om;have:=dr.nx (i:=i) (j:=ops.size) om (Nat.le_refl _);omega
      . have:=dr.Ur h3 hx h5 q;simp_all
 obtain ⟨j,k1,k2,k3,k4⟩:=iv.mem y e hy;have W2:∀x,x<ops.size->T Hs x y->(x<j ↔ x<i):=λx hx ht=>by simp_all
 have AhF:=dr.quiet k1 om hyl W2;have h2:∀k,Ej ((Hs i).m.get y)=some k->∀x,x<ops.size->T Hs x k->(D x=true ↔ x<i):=by
  intro k hk x hx ht;by_cases Gb:x=i;. grind
  . rcases ht.cases dr hx with ⟨q1,q2⟩|q;. exact iv.side dr ho hd he hx (hw x k hx Gb (.inr hk) q1 q2)
    . have S3:=((dr.inv i om).N3 y k hyl hk).1;have B6:x<i:=by
       rcases Nat.lt_or_ge x i with h3|h3;. exact h3
       . have:=dr.nx h3 om;omega
      refine ⟨λ_=>B6,λ_=>?_⟩;have hkj:Ej ((Hs j).m.get y)=some k:=by rw [AhF];exact hk
      have Be5:=((dr.inv j k1).N3 y k hyl hkj).1;refine (k3 k hkj x hx ht).2 ?_;rcases Nat.lt_or_ge x j with h3|h3;. exact h3
      . have:=dr.nx h3 om;omega
 refine ⟨h1,h2,(dr.move om k1 hyl W2 ?_ k4).2⟩;simp_all
theorem Iv.make (dr:Dr P G ctx ops nt F Hs) (iv:Iv G ops nt F Hs σ0 w0 NW D σ g a w) (ho:ops[i]?=some o) (hd:D i=false) (he:∀e∈o.after.toList,Region.binds .any e=true->D e.on=true)
 {v:AV} {v':Value} {l:List AV} {l':Array Value} {t:TypeId} (hF:F (i+1)=Im o.dst v (F i)) (hH:Hs (i+1)=(Ab (Hs i)).new (.cells l t .exact)) (hl:Bk σ l l'.toList)
 (hv:Au (Gu σ (Hs i).nx ⟨w.heap.size,l.length,none⟩) v v'):Iv G ops nt F Hs σ0 w0 NW (D1 D i) (Gu σ (Hs i).nx ⟨w.heap.size,l.length,none⟩) (Im o.dst v g) (a.put o.dst v') (Dd w (.cells l' t)):=by
 have hi:i<ops.size:=(Array.getElem?_eq_some_iff.1 ho).1;have M9:=(dr.frame ho).1;have hnx:(Hs (i+1)).nx=(Hs i).nx+1:=by rw [hH];rfl
 have B6:(Hs i).nx<Bq:=by have:=dr.nxl (i:=i+1) hi;omega
 have hlg:(Hs (i+1)).lg=[]:=by rw [hH];rfl
 have hT:∀y,T Hs i y->y=(Hs i).nx:=by
  intro y hy;rcases hy with hy|⟨h1,h2⟩;. rw [hlg] at hy;cases hy
  . omega
 have hf:σ (Hs i).nx=none:=iv.free dr hi hd _ (Nat.le_refl _) (by rw [hnx];exact Nat.lt_succ_self _);have hle:=Ip (e:=⟨w.heap.size,l.length,none⟩) hf;have hso:=iv.so.push (b:=(Hs i).nx) (e:=⟨w.heap.size,l.length,none⟩) (.cells l' t) B6 rfl;have hup:∀z,D z=true->D1 D i z=true:=by
  intro z hz;by_cases hzi:z=i;. subst hzi;exact J7
  . rw [Le hzi];exact hz
 have Lr:(Hs (i+1)).m.get (Hs i).nx=.cells l t .exact:=by rw [hH];have:=Ni (Ab (Hs i)) (.cells l t .exact) B6 (Hs i).nx B6;rw [this];exact if_pos rfl
 refine ⟨iv.Aj6 ho he,(iv.fr.mono hle).put M9 dr.nt hv,iv.AkF dr ho hd he hF,iv.ds1 dr ho v,iv.gl.mono hle,hso,?_,?_,?_⟩
 . refine iv.Sm.join (hi:=Hs i) (hj:=Hs (i+1)) (nw:=[]) ⟨hle,?_,hso,?_,?_,?_,⟨rfl,rfl⟩⟩ (dr.nx om om) (dr.nx hi (Nat.le_refl _)) (λy hy=>by cases hy)
   . intro y e h1 h2;unfold Gu at h2;split at h2;. omega
     . rw [h1] at h2;cases h2
   . rw [size_push];omega
   . intro c h1 _;exact Lq w _ c h1
   . intro y e h1 h2;unfold Gu at h2;grind
 . intro y e hy;unfold Gu at hy;split at hy;. rename_i hyi;exact .inr ⟨i,hi,J7,by omega,by omega⟩
   . rcases iv.dom y e hy with h1|⟨x,h1,h2,h3⟩;. exact .inl h1
     . exact .inr ⟨x,h1,hup x h2,h3⟩
 . intro y e hy;unfold Gu at hy;split at hy
   . rename_i hyi;subst hyi;cases hy;refine ⟨i+1,hi,?_,?_,?_⟩
     . intro x hx ht;by_cases Gb:x=i;. subst Gb;rw [J7];simp
       . rw [Le Gb];rcases ht.cases dr hx with ⟨q1,q2⟩|q
         . rcases dr.calm x i o hx ho Gb ⟨_,q1,q2⟩ with h1|h1|⟨_,h1⟩;. rw [iv.side dr ho hd he hx (.inl h1)];omega
           . rw [iv.side dr ho hd he hx (.inr h1)];omega
           . exact absurd ⟨Nat.le_refl _,by omega⟩ (Yo h1 _ ((L7 _ _ _).2 ⟨q1,q2⟩))
         . exact absurd (dr.Ur hx hi q ⟨Nat.le_refl _,by omega⟩) Gb
     . intro k hk;rw [Lr] at hk;cases hk
     . rw [Lr];have Fc:l'.size=l.length:=by have:=hl.1;simpa using this.symm
       exact ⟨rfl,λ_=>⟨l',0,0,F1 w _,Fc,Nat.le_refl _,λj x y hx hy=>(hl.Zm j x y hx hy).mono hle,λ_=>rfl,λ_ j hj=>by omega⟩⟩
   . rename_i hyi;obtain ⟨j,k1,k2,k3,k4⟩:=iv.mem y e hy;refine ⟨j,k1,?_,?_,?_⟩
     . intro x hx ht;by_cases Gb:x=i;. subst Gb;exact absurd (hT y ht) hyi
       . rw [Le Gb];exact k2 x hx ht
     . intro k hk x hx ht;by_cases Gb:x=i
       . subst Gb;have h5:=k3 k hk x hx ht;rw [hd] at h5;have h6:j<=x:=by simp at h5;omega
         have h7:=((dr.inv j k1).N3 y k (iv.so.low y e hy) hk).1;have h8:=dr.nx h6 om;have h9:=hT k ht;omega
       . rw [Le Gb];exact k3 k hk x hx ht
     . exact Gr.congr hle (Lq w _ _ (iv.so.rng y e hy)) (λ_ _ _ _ _ hh=>hh) k4
end step
end Go.Ev
namespace Go.Ev
variable [Ii]
variable {P:Program} {G:Nat} {σ σ':Dx} {h h':H} {w w':World} {v:AV} {nt:Nat} {f f':L2} {a:Act} {ctx:Ac} {b:FB} {cs:List Frame} {ops:Array Oper} {F:Nat->L2} {Hs:Nat->H}
section step
variable {σ0:Dx} {w0:World} {NW:List Nat} {D:Nat->Bool} {g:L2} {i:Nat} {o:Oper}
theorem Iv.whole (dr:Dr P G ctx ops nt F Hs) (iv:Iv G ops nt F Hs σ0 w0 NW D σ g a w) (ho:ops[i]?=some o) (hd:D i=false) (he:∀e∈o.after.toList,Region.binds .any e=true->D e.on=true)
 (hNW:∀x y,x<ops.size->y∈(Hs (x+1)).lg->y<(Hs x).nx->y∈NW) (Anh:∀x,x<ops.size->x≠i->(∃z,z∈(Hs (x+1)).lg/\z<(Hs x).nx)->Bef ops x i\/Bef ops i x):
 V1 G σ (Hs i).m.get w/\∀(v:AV) (v':Value) (σ':Dx) (w':World),F (i+1)=Im o.dst v (F i)->Au σ' v v'->Out G σ (Ab (Hs i)) w σ' (Hs (i+1)) w' ->
  Iv G ops nt F Hs σ0 w0 NW (D1 D i) σ' (Im o.dst v g) (a.put o.dst v') w':=by
 have hi:i<ops.size:=(Array.getElem?_eq_some_iff.1 ho).1;have M9:=(dr.frame ho).1;have hinv:=dr.inv i om;have Ac2:=iv.free dr hi hd;have AvY:∀y e,σ y=some e->y<(Hs i).nx->_:=λy e hy hyn=>iv.here dr ho hd he hy hyn (λx z hx Gb _ q1 q2=>Anh x hx Gb ⟨z,q1,q2⟩);have hma:V1 G σ (Hs i).m.get w:=by
  intro y e hy;rcases Nat.lt_or_ge y (Hs i).nx with h1|h1;. exact (AvY y e hy h1).2.2
  . rw [hinv.Rm y h1 (iv.so.low y e hy)];trivial
 refine ⟨hma,?_⟩;intro v v' σ' w' hF hv Vd;have Bb4:=Vd;obtain ⟨nw,ast,Sm,ma'⟩:=Vd;have hnw:(Hs (i+1)).lg=nw:=by rw [ast.lg];simp [Ab]
 have A4e:∀y∈nw,∀e,σ y=some e->y<(Hs i).nx:=by
  intro y hy e hye;rcases Nat.lt_or_ge y (Hs i).nx with h1|h1;. exact h1
  . rw [Ac2 y h1 (ast.low y hy)] at hye;cases hye
 have hup:∀z,D z=true->D1 D i z=true:=by
  intro z hz;by_cases hzi:z=i;. subst hzi;exact J7
  . rw [Le hzi];exact hz
 have Aqw:∀y e,σ y=none->σ' y=some e->(Hs i).nx<=y/\y<(Hs (i+1)).nx:=λy e h1 h2=>Sm.fresh y e h1 h2;have AqJ:∀y e j,σ y=some e->¬ T Hs i y->(∀k,Ej ((Hs j).m.get y)=some k->¬ T Hs i k)->Gr G σ (Hs j).m.get e w ((Hs j).m.get y)->Gr G σ' (Hs j).m.get e w' ((Hs j).m.get y):=by
  intro y e j hy hty htk hb;by_cases AaJ:(Hs j).m.get y=.none;. rw [AaJ];trivial
  . refine Gr.congr Sm.le (Sm.frame e.c (iv.so.rng y e hy) ?_) (λ_ _ _ _ _ hh=>hh) hb;intro y0 hy0 e0 he0 hc;rcases iv.so.inj y0 y e0 e he0 hy hc with h1|⟨h1,h2⟩;. subst h1;exact hty (.inl (by rw [hnw];exact hy0))
    . cases hk:e0.k with
      |none=>exact h2 hk
      |some k=>have A3X:=A4e y0 hy0 e0 he0;have A3V:=ast.live y0 hy0 A3X (iv.so.low y0 e0 he0);have Sz:=hma y0 e0 he0;have hc0:Ej ((Hs i).m.get y0)=some k:=(Sz.N3 hk).resolve_left A3V;have Aq3:=ast.N3 y0 hy0 k A3X hc0;have hcy:Ej ((Hs j).m.get y)=some k:=(hb.N3 (by rw [<- h1];exact hk)).resolve_left AaJ;exact htk k hcy (.inl (by rw [hnw];exact Aq3))
 refine ⟨iv.Aj6 ho he,(iv.fr.mono Sm.le).put M9 dr.nt hv,iv.AkF dr ho hd he hF,iv.ds1 dr ho v,iv.gl.mono Sm.le,Sm.ok,?_,?_,?_⟩;. refine iv.Sm.join Sm (dr.nx om om) (dr.nx hi (Nat.le_refl _)) ?_;intro y hy e hye;exact hNW i y hi (by rw [hnw];exact hy) (A4e y hy e hye)
 . intro y e hy;cases hyo:σ y with
   |none=>have:=Aqw y e hyo hy;exact .inr ⟨i,hi,J7,this⟩
   |some e'=>
    rcases iv.dom y e' hyo with h1|⟨x,h1,h2,h3⟩;. exact .inl h1
    . exact .inr ⟨x,h1,hup x h2,h3⟩
 . intro y e hy;cases hyo:σ y with
   |some e'=>
    have hee:e'=e:=by have:=Sm.le y e' hyo;rw [hy] at this;cases this;rfl
    subst hee;rcases Nat.lt_or_ge y (Hs i).nx with h1|h1
    . obtain ⟨q1,q2,q3⟩:=AvY y e' hyo h1;by_cases hto:T Hs i y\/∃k,Ej ((Hs i).m.get y)=some k/\T Hs i k
      . refine ⟨i+1,hi,?_,?_,ma' y e' hy⟩
        . intro x hx ht;by_cases Gb:x=i;. subst Gb;rw [J7];simp
          . rw [Le Gb,q1 x hx ht];omega
        . intro k hk x hx ht;have hk':=dr.same (i:=i) (j:=i+1) om hi h1 hk;by_cases Gb:x=i;. subst Gb;rw [J7];simp
          . rw [Le Gb,q2 k hk' x hx ht];omega
      . rw [not_or] at hto;have A4q:∀k,Ej ((Hs i).m.get y)=some k->¬ T Hs i k:=λk hk ht=>hto.2 ⟨k,hk,ht⟩;refine ⟨i,by omega,?_,?_,AqJ y e' i hyo hto.1 A4q q3⟩
        . intro x hx ht;by_cases Gb:x=i;. subst Gb;exact absurd ht hto.1
          . rw [Le Gb];exact q1 x hx ht
        . intro k hk x hx ht;by_cases Gb:x=i;. subst Gb;exact absurd ht (A4q k hk)
          . rw [Le Gb];exact q2 k hk x hx ht
    by_cases Ben:(Hs ops.size).nx<=y
    . have Ix:∀x,x<ops.size->¬ T Hs x y:=by intro x hx ht;have h5:=dr.low hx ht;have h6:=dr.nx (i:=x+1) (j:=ops.size) hx (Nat.le_refl _);omega
      have AaJ:(Hs i).m.get y=.none:=hinv.Rm y h1 (iv.so.low y e' hyo);refine ⟨i,by omega,λx hx ht=>absurd ht (Ix x hx),λk hk=>?_,?_⟩;. rw [AaJ] at hk;cases hk
      . rw [AaJ];trivial
    . -- made by an operation behind i in the text
      obtain ⟨x0,p1,p2,p3⟩:∃x,x<ops.size/\D x=true/\(Hs x).nx<=y/\y<(Hs (x+1)).nx:=by
       rcases iv.dom y e' hyo with h2|h2;. have:=dr.nx (i:=0) (j:=i) om om;omega
       . exact h2
      have A9h:x0≠i:=by rintro rfl;rw [hd] at p2;cases p2
      have hgt:i<x0:=by
       rcases Nat.lt_or_ge i x0 with h2|h2;. exact h2
       . have h3:x0+1<=i:=by omega
         have:=dr.nx h3 om;omega
      have A8M:=dr.nx (i:=i+1) (j:=x0) hgt om;obtain ⟨j,k1,k2,k3,k4⟩:=iv.mem y e' hyo;have hty:¬ T Hs i y:=by intro ht;have:=dr.low hi ht;omega
      have htk:∀k,Ej ((Hs j).m.get y)=some k->¬ T Hs i k:=by
       intro k hk ht;have hkl:=dr.low hi ht;have hxj:x0<j:=(k2 x0 p1 (.inr p3)).1 p2;have Z0:=dr.same (i:=x0+1) (j:=j) hxj k1 p3.2 hk;rcases (dr.step x0 p1).Vh y k p3.1 p3.2 (iv.so.low y e' hyo) Z0 with h5|h5;. have hor:=Anh x0 p1 A9h ⟨k,h5,by omega⟩;have:=(iv.side dr ho hd he p1 hor).1 p2;omega
       . have h5':(Hs x0).nx<=k:=h5;omega
      refine ⟨j,k1,?_,?_,AqJ y e' j hyo hty htk k4⟩
      . intro x hx ht;by_cases Gb:x=i;. subst Gb;exact absurd ht hty
        . rw [Le Gb];exact k2 x hx ht
      . intro k hk x hx ht;by_cases Gb:x=i;. subst Gb;exact absurd ht (htk k hk)
        . rw [Le Gb];exact k3 k hk x hx ht
   |none=>
    have Wj:=Aqw y e hyo hy;have hyl:=Sm.ok.low y e hy;refine ⟨i+1,hi,?_,?_,ma' y e hy⟩
    . intro x hx ht;by_cases Gb:x=i;. subst Gb;rw [J7];simp
      . rw [Le Gb];rcases ht.cases dr hx with ⟨q1,q2⟩|q;. rw [iv.side dr ho hd he hx (Anh x hx Gb ⟨y,q1,q2⟩)];omega
        . exact absurd (dr.Ur hx hi q Wj) Gb
    . intro k hk x hx ht;by_cases Gb:x=i;. subst Gb;rw [J7];simp
      . rw [Le Gb];rcases ht.cases dr hx with ⟨q1,q2⟩|q;. rw [iv.side dr ho hd he hx (Anh x hx Gb ⟨k,q1,q2⟩)];omega
        . have S3:=((dr.inv (i+1) hi).N3 y k hyl hk).1;have B6:x<i:=by
           rcases Nat.lt_or_ge x i with h3|h3;. exact h3
           . have h4:i+1<=x:=by omega
             have:=dr.nx h4 om;omega
          have A8M:=dr.nx (i:=x+1) (j:=i) B6 om;rcases ast.Vh y k Wj.1 Wj.2 hyl hk with h5|h5
          . have hkw:k<(Hs i).nx:=by omega
            obtain ⟨p,hp⟩:∃p,ops[x]?=some p:=⟨_,Array.getElem?_eq_getElem hx⟩;rcases dr.calm i x p hi hp (Ne.symm Gb) ⟨k,by rw [hnw];exact h5,hkw⟩ with h6|h6|⟨_,h6⟩;. rw [iv.side dr ho hd he hx (.inr h6)];omega
            . rw [iv.side dr ho hd he hx (.inl h6)];omega
            . exact absurd q (Yo h6 k ((L7 _ _ _).2 ⟨by rw [hnw];exact h5,hkw⟩))
          . have h5':(Hs i).nx<=k:=h5;omega
end step
end Go.Ev
namespace Go.Ev
variable [Ii]
variable {P:Program} {G:Nat} {σ σ':Dx} {h h':H} {w w':World} {v:AV} {nt:Nat} {f f':L2} {a:Act} {ctx:Ac} {b:FB} {cs:List Frame} {ops:Array Oper} {F:Nat->L2} {Hs:Nat->H}
def AkR (P:Program) (G:Nat) (o:Oper) (f:L2):Prop:=∀(σ:Dx) (nt:Nat) (a:Act) (h h':H) (w:World) (v:AV) (ctx:Ac),
 opD o.op o.type P ctx f h=.ok v h'->o.op.operands.toList.all (Es G)=true->Pt σ nt f a->Vm G σ->∃v' w',Ran P (execOp a.eval o) w v' w'/\Ag4 σ h w v v' h' w'
theorem Hm.at {o} (hg:Hm P G o) f:AkR P G o f:=λσ nt a h h' w v ctx=>hg _ _ f a h _ w v _
theorem Aiu (o:Oper) (f:L2):Gi o.op f=.all\/AkR P G o f\/∃t x,o.op=.load t x:=by
 obtain ⟨dst,op,ty,pos,af,gd⟩:=o;cases op;case move x=>exact .inr (.inl ((Ae1 x).at f))
 case assign x=>exact .inr (.inl ((AaD x).at f))
 case pick c x y=>exact .inr (.inl ((Ae2 c x y).at f))
 case alloc e=>exact .inr (.inl ((Acn e).at f))
 case box e x=>exact .inr (.inl ((Ah4 e x).at f))
 case build t p=>exact .inr (.inl ((Acp t p).at f))
 case buildSlice t n p=>exact .inr (.inl ((Ro t n p).at f))
 case load t x=>simp
 case nilCheck x=>exact .inr (.inl ((Vq x).at f))
 case binOp op t x y yt=>exact .inr (.inl ((Aco op t x y yt).at f))
 case unOp op t x=>exact .inr (.inl ((Ae3 op t x).at f))
 case makeInterface t x=>exact .inr (.inl ((Sv t x).at f))
 case makeFunc fn x y=>exact .inr (.inl ((Vp fn x y).at f))
 case slice t x lo hi mx=>exact .inr (.inl ((Acs t x lo hi mx).at f))
 case fieldAddr t x i=>exact .inr (.inl ((Ss t x i).at f))
 case field t x i=>exact .inr (.inl ((Acq t x i).at f))
 case indexAddr t x i=>exact .inr (.inl ((Su t x i).at f))
 case index t x i=>exact .inr (.inl ((Acr t x i).at f))
 case typeAssert x xt t ok=>exact .inr (.inl ((Rp x xt t ok).at f))
 case extract x i=>exact .inr (.inl ((Xz x i).at f))
 case call c=>obtain ⟨callee,args,argTypes⟩:=c;cases callee with
  |value g=>exact .inl rfl
  |invoke r name=>exact .inl rfl
  |builtin bi=>
   cases bi;case len=>obtain ⟨l⟩:=args;match l with
    |[]=>exact .inl rfl
    |x::y::l=>exact .inl rfl
    |[x]=>
     by_cases hm:∃r,ev x f=.map r;. obtain ⟨r,hr⟩:=hm;left;show (match ev x f with|.map _=>RS.all|_=>RS.none)=RS.all;grind
     . refine .inr (.inl ?_);intro σ nt a h h' w v ctx he De hfr hg;have hx:Au σ (ev x f) (a.eval x):=Cj hfr hg x (by rw [List.all_eq_true] at De;exact De x (by simp [Op.operands,Call.operands]));have Et:J8 .len argTypes.toList [ev x f] P h=.ok v h':=he;unfold J8 at Et;dsimp only at Et;cases hts:argTypes.toList with
       |nil=>grind
       |cons t ts=>rw [hts] at Et;have Cs:lnK (Pw P t) (ev x f) h=.ok v h':=Et;obtain ⟨v',h1,h2,rfl⟩:=AeE (ty:=ty) hx (λr hr=>hm ⟨r,hr⟩) Cs w _ (by rw [<- Array.getElem?_toList,hts];rfl);refine ⟨_,w,.inl ?_,.quiet _ _ h2⟩;simp [execOp,resolve,invoke,builtin,h1]
   all_goals exact .inl rfl
 all_goals exact .inl rfl
theorem AdW {f g} o (hev:∀x∈o.operands.toList,ev x f=ev x g):Gi o f=Gi o g:=by
 cases o;case load t x=>have:=hev x (by simp [Op.operands]);show Bn _=Bn _;grind
 case call c=>obtain ⟨callee,args,argTypes⟩:=c;cases callee with
  |value g=>rfl
  |invoke r name=>rfl
  |builtin bi=>
   cases bi;case len=>obtain ⟨l⟩:=args;match l,hev with
    |[],_=>rfl
    |x::y::l,_=>rfl
    |[x],hev=>have:=hev x (by simp [Op.operands,Call.operands]);show (match ev x f with|.map _=>RS.all|_=>RS.none)=match ev x g with|.map _=>RS.all|_=>RS.none;grind
   all_goals rfl
 all_goals rfl
section step
variable {σ0:Dx} {w0:World} {NW:List Nat} {D:Nat->Bool} {g:L2} {i:Nat} {o:Oper}
theorem Aqc (hh:∀t w,guardOf ops o=.on t w->f.get t=g.get t):gv ops o f=gv ops o g:=by unfold gv;grind
theorem Aqa (Fs:∀x∈ops.toList,Gl G nt x=true) {t} {w} (hg:guardOf ops o=.on t w):t<nt:=by
 unfold guardOf at hg;split at hg;. grind
 . rename_i j want hgd;split at hg;. rename_i t' hj;cases hg;cases hoj:ops[j]? with
     |none=>grind
     |some x=>
      rw [hoj] at hj;have hx:x∈ops.toList:=by grind
      exact (Lu (Fs x hx)).2 t hj
   grind
theorem Iv.step (hc:Bd P G ctx) (dr:Dr P G ctx ops nt F Hs) (iv:Iv G ops nt F Hs σ0 w0 NW D σ g a w) (ho:ops[i]?=some o) (hd:D i=false) (he:∀e∈o.after.toList,Region.binds .any e=true->D e.on=true)
 (hNW:∀x y,x<ops.size->y∈(Hs (x+1)).lg->y<(Hs x).nx->y∈NW) (hb:RBk b σ g):∃σ' g' a' w',Iv G ops nt F Hs σ0 w0 NW (D1 D i) σ' g' a' w'/\RBk b σ' g' /\
  ∀rest k cs,Calm b cs->Steps P (lone (b.at a (.inRegion ops (i::rest)::k)) cs w) (lone (b.at a' (.inRegion ops rest::k)) cs w'):=by
 have hi:i<ops.size:=(Array.getElem?_eq_some_iff.1 ho).1
 have Vc:o∈ops.toList:=by simpa using Array.mem_of_getElem? ho
 obtain ⟨De,M9⟩:=Lu (dr.all o Vc)
 have Ix:=dr.nt
 have hev:∀x∈o.op.operands.toList,ev x (F i)=ev x g:=by
  intro x hx
  cases x with
  |tmp t=>
   have ht:t<250:=by
    have:=List.all_eq_true.1 De _ hx
    exact Ec this
   exact (iv.reads dr ho hd he ht (.inl hx)).symm
  |_=>rfl
 have hgv:gv ops o (F i)=gv ops o g:=Aqc λt w hg=>(iv.reads dr ho hd he (Nat.lt_trans (Aqa dr.all hg) Ix) (.inr ⟨w,hg⟩)).symm
 have hds:(F i).get Br=g.get Br:=by
  rw [iv.ds]
  refine dr.Acl om om (by decide) (λx hx hw=>?_)
  obtain ⟨p,hp,hpd⟩:=hw
  have h1:(255:Nat)<nt:=(dr.frame hp).1 255 hpd
  omega
 have X5:=Zy (o:=o) dr.all iv.fr Ix
 rw [<- hgv] at X5
 have hgs:∀v,(Im o.dst v g).get Br=g.get Br:=λv=>by rw [iv.ds1 dr ho v,iv.ds]
 have AyH:=dr.A4P o Vc
 have hnd:∀c,o.op≠.defer c:=by
  intro c O0
  rw [O0] at AyH
  cases AyH
 rcases Pf (dr.run i o ho) (λn hn=>by cases hn) (λ_ _ _ hn=>by cases hn) with ⟨hg,hq⟩|⟨hg,_,v,h',hv,hq⟩|⟨_,c,hq,_⟩
 . injection hq with hF hH
   refine ⟨σ,_,_,w,iv.still dr ho hd he hF hH (L6 σ),hb.mono (Qq.refl σ) (hgs _),?_⟩
   intro rest k cs Hq
   have:=Asa (P:=P) (b:=b) (a:=a) (k:=k) (cs:=cs) (w:=w) (ops:=ops) (i:=i) (rest:=rest) (by rw [ho];simpa using X5.2 hg)
   rw [ho] at this
   exact .one this
 . injection hq with hF hH
   subst hH
   have hw:=X5.1 hg
   have hvg:opD o.op o.type P ctx g (Ab (Hs i))=.ok v (Hs (i+1)):=by
    rw [<- hv]
    exact (AnF o.op o.type hds hev).symm
   have A8C:(Hs (i+1)).nx<=Bq:=dr.nxl hi
   rcases Aiu (P:=P) (G:=G) o g with hr|hr|⟨t,x,hr⟩
   . -- it may look at all
     have hrF:Gi o.op (F i)=.all:=by
      rw [<- hr]
      exact AdW o.op hev
     have Anh:∀x,x<ops.size->x≠i->(∃z,z∈(Hs (x+1)).lg/\z<(Hs x).nx)->Bef ops x i\/Bef ops i x:=by
      intro x hx Gb hz
      rcases dr.calm x i o hx ho Gb hz with h1|h1|⟨h1,_⟩
      . exact .inl h1
      . exact .inr h1
      . rw [hrF] at h1;cases h1
     obtain ⟨hma,Aq9⟩:=iv.whole dr ho hd he hNW Anh
     have Vt:St G σ nt g a (Ab (Hs i)) w:=⟨iv.fr,iv.gl,(dr.inv i om).Ab,iv.so,hma⟩
     obtain ⟨σ',v',w',h1,h2,h3⟩:=Aim hc o σ nt g a (Ab (Hs i)) (Hs (i+1)) w v b hvg De Vt hb A8C (iv.free dr hi hd)
     exact ⟨σ',_,_,w',Aq9 v v' σ' w' hF h1 h2,hb.mono h2.le (hgs _),λrest k cs Hq=>h3 ops i rest k cs ho hw Hq⟩
   . obtain ⟨v',w',h1,h2⟩:=hr σ nt a (Ab (Hs i)) (Hs (i+1)) w v ctx hvg De iv.fr iv.gl
     have Du:=AbK.ran (b:=b) hnd h1
     generalize hH':Hs (i+1)=h' at h2
     cases h2 with
     |quiet v v' hvr=>exact ⟨σ,_,_,w,iv.still dr ho hd he hF hH' hvr,hb.mono (Qq.refl σ) (hgs _),λrest k cs Hq=>Du ops i rest k cs ho hw Hq⟩
     |ptr l l' t hl=>
      have hf:σ (Hs i).nx=none:=iv.free dr hi hd _ (Nat.le_refl _) (by rw [hH'];exact Nat.lt_succ_self _)
      exact ⟨_,_,_,_,iv.make dr ho hd he hF hH' hl (.ptr _ 0 ⟨w.heap.size,l.length,none⟩ (by show Gu σ (Hs i).nx _ (Hs i).nx=_;simp [Gu])),hb.mono (Ip hf) (hgs _),λrest k cs Hq=>Du ops i rest k cs ho hw Hq⟩
     |sl l l' t len cap sz hle hl=>
      have hf:σ (Hs i).nx=none:=iv.free dr hi hd _ (Nat.le_refl _) (by rw [hH'];exact Nat.lt_succ_self _)
      exact ⟨_,_,_,_,iv.make dr ho hd he hF hH' hl (.sl _ 0 len cap sz true ⟨w.heap.size,l.length,none⟩ cap (by show Gu σ (Hs i).nx _ (Hs i).nx=_;simp [Gu]) hle (Nat.le_refl _) (λ_=>rfl) (λhh=>by cases hh)),hb.mono (Ip hf) (hgs _),λrest k cs Hq=>Du ops i rest k cs ho hw Hq⟩
   . -- a load
     obtain ⟨dst,op,ty,pos,af,gd⟩:=o
     dsimp only at hr
     subst hr
     have Rr:ev x (F i)=ev x g:=hev x (by simp [Op.operands])
     obtain ⟨v',h1,h2,h3⟩:=Ae0 (P:=P) (w:=w) (dst:=dst) (pos:=pos) (af:=af) (gd:=gd) t x hvg (by simpa [Op.operands] using De) iv.fr iv.gl (by
      intro y off e hy hye
      by_cases AaJ:(Hs i).m.get y=.none
      . show Gr G σ (Hs i).m.get e w ((Hs i).m.get y)
        rw [AaJ];trivial
      have hyn:y<(Hs i).nx:=Ab7 (dr.inv i om) (iv.so.low y e hye) AaJ
      refine (iv.here dr ho hd he hye hyn ?_).2.2
      intro z u hz hzi hu q1 q2
      rcases dr.calm z i _ hz ho hzi ⟨u,q1,q2⟩ with h1|h1|⟨h1,_⟩
      . exact .inl h1
      . exact .inr h1
      . exfalso
        have hrs:Gi (.load t x) (F i)=.blk y:=by
         show Bn (ev x (F i))=_
         rw [Rr,hy];rfl
        dsimp only at h1
        rw [hrs] at h1
        obtain ⟨c1,c2⟩:=Am6 h1
        have Wj:=(L7 (Hs z).nx u (Hs (z+1)).lg).2 ⟨q1,q2⟩
        rcases hu with rfl|hu
        . exact c1 Wj
        . exact c2 u hu Wj)
     exact ⟨σ,_,_,w,iv.still dr ho hd he hF h3 h2,hb.mono (Qq.refl σ) (hgs _),λrest k cs Hq=>AbK.ran (b:=b) hnd h1 ops i rest k cs ho hw Hq⟩
 . rw [AyH] at hq;cases hq
theorem Iv.go (hc:Bd P G ctx) (dr:Dr P G ctx ops nt F Hs) (hNW:∀x y,x<ops.size->y∈(Hs (x+1)).lg->y<(Hs x).nx->y∈NW):∀l D,Aef ops D l->∀σ g a w,
 Iv G ops nt F Hs σ0 w0 NW D σ g a w->RBk b σ g->∃D' σ' g' a' w',(∀i,i<ops.size->D' i=true)/\Iv G ops nt F Hs σ0 w0 NW D' σ' g' a' w'/\RBk b σ' g' /\
  ∀k cs,Calm b cs->Steps P (lone (b.at a (.inRegion ops l::k)) cs w) (lone (b.at a' (.inRegion ops []::k)) cs w'):=by intro l D AyO;induction AyO with
 |nil D Fs=>exact λσ g a w iv hb=>⟨D,_,g,a,w,Fs,iv,hb,λk cs _=>.refl P _⟩
 |cons D i o rest ho hd he hr ih=>intro σ g a w iv hb;obtain ⟨σ1,g1,a1,w1,iv1,Qy,s1⟩:=iv.step hc dr ho hd he hNW hb;obtain ⟨D2,σ2,g2,a2,w2,q1,q2,q3,s2⟩:=ih _ _ _ _ iv1 Qy;exact ⟨_,_,_,_,_,q1,q2,q3,λk cs Hq=>(s1 _ k _ Hq).trans (s2 k _ Hq)⟩
end step
theorem J6.cut (hi:Om h) (hs:J6 (Ab h) h' h'.lg) l:J6 (Be l h) (Be (wrote h.nx h'.lg++l) h') (wrote h.nx h'.lg):=by
 have Wj:∀y,y∈wrote .. ↔ y∈h'.lg/\y<h.nx:=λy=>L7 ..;refine ⟨rfl,hs.nx,λy hy=>hs.low y ((Wj y).1 hy).1,?_,?_,?_,hs.same,hs.inv.Be _,λy hy=>hs.live y ((Wj y).1 hy).1⟩;. intro y h1 h2 h3;exact hs.By y h1 h2 λhh=>h3 ((Wj y).2 ⟨hh,h2⟩)
 . intro y hy k h1 h2;have hyl:=Nat.lt_of_lt_of_le h1 hi.top;exact (Wj k).2 ⟨hs.N3 y ((Wj y).1 hy).1 k h1 h2,(hi.N3 y k hyl h2).1⟩
 . intro y k h1 h2 h3 h4;rcases hs.Vh y k h1 h2 h3 h4 with h5|h5
   . rcases Nat.lt_or_ge k h.nx with h6|h6;. grind
     . exact .inr h6
   . exact .inr h5
theorem AiN lg:∀es,En es lg=es.flatMap (·.w)++lg:=by intro es;induction es with
 |nil=>rfl
 |cons e es ih=>show Akm _ (En ..)=_;rw [AfT,ih];simp
theorem Ahp (hc:Bd P G ctx) (P5:P.follows .mixedOrders=true) (Ani:Yx ops=true) (Fs:∀x∈ops.toList,Gl G nt x=true) (Ix:nt<250) (he:Gk P ctx ops f h=.Bt f' h')
 (hs:St G σ nt f a h w) (hb:RBk b σ f) (hl:h'.nx<=Bq) (hf:Fx σ h h') (id:Nat):∃σ' a' w',St G σ' nt f' a' h' w'/\RBk b σ' f'/\Out G σ h w σ' h' w' /\
  ∀k cs,Calm b cs->Steps P (lone (b.at a (.code (.region id ops true)::k)) cs w) (lone (b.at a' k) cs w'):=by
 have hs1:=hs.draw (w.drawn+1);obtain ⟨F,Hs,es,dr,q1,q2,q3,q4,q5,q6⟩:=Dr.of_run hc Ani Fs Ix he hs1 hb hl hf;have hNW:∀x y,x<ops.size->y∈(Hs (x+1)).lg->y<(Hs x).nx->y∈es.flatMap (·.w):=by
  intro x y hx h1 h2;obtain ⟨z,h3,h4⟩:=q6 x hx;have hz:z∈es:=by have:=List.mem_of_getElem? h3;simpa using this
  rw [List.mem_flatMap];exact ⟨z,hz,by rw [h4];exact (L7 _ _ _).2 ⟨h1,h2⟩⟩
 have A35:=Tp Ani;have hD0:∀x,x<ops.size->(Array.replicate ops.size false).getD x true=false:=by intro x hx;simp [Array.getD,hx]
 have hnx:h'.nx=(Hs ops.size).nx:=by rw [q4];rfl
 have iv0:Iv G ops nt F Hs σ { w with drawn:=w.drawn+1 } (es.flatMap (·.w)) (λi=>(Array.replicate ops.size false).getD i true) σ f a { w with drawn:=w.drawn+1 }:=by
  refine ⟨?_,hs1.fr,?_,by rw [q1],hs1.gl,hs1.so,⟨Qq.refl σ,λy e h1 h2=>(by rw [h1] at h2;cases h2),hs1.so,Nat.le_refl _,λ_ _ _=>rfl,λy e h1 h2=>(by rw [h1] at h2;cases h2),⟨rfl,rfl⟩⟩,?_,?_⟩;. intro x o ho hx;grind
  . grind
  . intro y e hy;left;rw [q2];rcases Nat.lt_or_ge y h.nx with h1|h1;. exact .inl h1
    . rcases Nat.lt_or_ge y h'.nx with h2|h2;. rw [hf y h1 h2] at hy;cases hy
      . exact .inr om
  . intro y e hy;refine ⟨0,by omega,λx hx _=>?_,λk _ x hx _=>?_,by rw [q2];exact hs1.ma y e hy⟩;. simp_all
    simp_all
 have AyO:=Aod A35 (w.tape w.drawn (.order b.fn id));obtain ⟨D',σ',g',a',w',p1,iv,p3,p4⟩:=Iv.go hc dr hNW _ _ AyO _ _ _ _ iv0 hb;have hfr:Pt σ' nt (F ops.size) a':=by
  refine ⟨iv.fr.size,?_,?_⟩;. intro t ht;obtain ⟨j,h1,h2,h3⟩:=iv.Ase t ht;have e:(F j).get t=(F ops.size).get t:=dr.Acl h1 (Nat.le_refl _) om (λx hx hw=>by rw [<- h2 x hx hw,p1 x hx];simp [hx]);rw [<- e,<- h3];exact iv.fr.slot t ht
  . have e:(F ops.size).get Br=(F 0).get Br:=by refine dr.Acl (Nat.le_refl _) om (by decide) (λx hx hw=>?_);obtain ⟨p,hp,hpd⟩:=hw;have h1:(255:Nat)<nt:=(dr.frame hp).1 255 hpd;omega
    rw [e,<- iv.ds];exact iv.fr.defers
 have hma:V1 G σ' (Hs ops.size).m.get w':=by
  intro y e hy;obtain ⟨j,h1,h2,h3,h4⟩:=iv.mem y e hy;refine (dr.move (Nat.le_refl _) h1 (iv.so.low y e hy) ?_ ?_ h4).2;. intro x hx ht;rw [<- h2 x hx ht,p1 x hx];simp [hx]
  . intro k hk x hx ht;rw [<- h3 k hk x hx ht,p1 x hx];simp [hx]
 have Ayy:∀k,k<=ops.size->J6 h (Be (((es.reverse.take k).reverse).flatMap (·.w)++h.lg) (Hs k)) (((es.reverse.take k).reverse).flatMap (·.w)):=by intro k;induction k with
  |zero=>intro _;rw [q2];exact J6.refl hs1.ai
  |succ k ih=>
   intro hk;have h1:=ih om;obtain ⟨z,h3,h4⟩:=q6 k hk;have e:(es.reverse.take (k+1)).reverse=z::(es.reverse.take k).reverse:=by rw [List.take_add_one,h3];simp
   rw [e,List.flatMap_cons,h4,List.append_assoc];have h5:=J6.cut (dr.inv k om) (dr.step k hk) (((es.reverse.take k).reverse).flatMap (·.w)++h.lg);refine h1.trans h5 ?_;exact dr.nxl hk
 have A32:=Ayy ops.size (Nat.le_refl _);have e:(es.reverse.take ops.size).reverse=es:=by rw [List.take_of_length_le (by rw [q5];exact Nat.le_refl _),List.reverse_reverse]
 rw [e,<- AiN,<- q4] at A32;have Abk:Oz σ σ' h h' w w' (es.flatMap (·.w)):=by have Abk:=iv.Sm;refine ⟨Abk.le,?_,Abk.ok,Abk.grow,Abk.frame,Abk.Vh,Abk.io⟩;intro y e h1 h2;have:=Abk.fresh y e h1 h2;rw [q2] at this;rw [hnx];exact this
 have A8H:V1 G σ' h'.m.get w':=by rw [q4];exact hma
 have Vd:Out G σ h w σ' h' w':=⟨_,A32,Abk,A8H⟩;refine ⟨σ',a',w',?_,?_,Vd,?_⟩;. rw [q3];exact hs.next Vd hfr
 . have e:f'.get Br=g'.get Br:=by rw [q3,iv.ds];refine dr.Acl (Nat.le_refl _) om (by decide) (λx hx hw=>?_);obtain ⟨p,hp,hpd⟩:=hw;have h1:(255:Nat)<nt:=(dr.frame hp).1 255 hpd;omega
   exact p3.mono (Qq.refl σ') e
 . intro k cs Hq;refine .head AzG ?_;rw [P5];exact (p4 k cs Hq).trans (.one Tv)
end Go.Ev
namespace Go.Ev
variable [Ii]
variable {P:Program} {G:Nat} {σ σ':Dx} {h h':H} {w w':World} {v:AV} {nt:Nat} {f f':L2} {a a':Act} {ctx:Ac} {b:FB} {cs:List Frame}
def Fin (r:RC) (f':L2) (h':H):Prop:=r=.Bt f' h'\/(∃i,r=.ext i f' h')\/r=.ret f' h'
def FB.leave (b:FB) (a:Act) (id:Nat) (pv:Value) (k:List Item):Frame:=if id=Em then b.Hb a k pv false else b.at a (.code (.exit id)::k)
theorem FB.N8 {b:FB} {a} {id} {pv} {k} (h:id≠Em):b.leave a id pv k=b.at a (.code (.exit id)::k):=if_neg h
theorem FB.Uq {b:FB} {a} {pv} {k}:b.leave a Em pv k=b.Hb a k pv false:=if_pos rfl
def Ends (P:Program) (b:FB) (src dst:List Item->List Item) (a:Act) (w:World) (σ':Dx) (r:RC) (a':Act) (w':World):Prop:=
 match r with
 |.Bt _ _=>∀k cs,Calm b cs->Steps P (lone (b.at a (src k)) cs w) (lone (b.at a' (dst k)) cs w')
 |.ext id f1 _=>∃pv,(id=Em->Au σ' (f1.get Jv) pv)/\∀k cs,Calm b cs->∃k',exitTo id k'=exitTo id k/\Steps P (lone (b.at a (src k)) cs w) (lone (b.leave a' id pv k') cs w')
 |.ret _ _=>∀k cs,Calm b cs->∃k',Steps P (lone (b.at a (src k)) cs w) (lone (b.at a' (.code .ret::k')) cs w')
 |.bad _=>True
def Eb (P:Program) (G:Nat) (nt:Nat) (b:FB) (src dst:List Item->List Item) (go:L2->H->RC):Prop:=
 ∀(σ:Dx) (f:L2) (a:Act) (h:H) (w:World) (f':L2) (h':H) (r:RC),go f h=r->Fin r f' h'->St G σ nt f a h w->RBk b σ f->h'.nx<=Bq->Fx σ h h' ->
  ∃σ' a' w',St G σ' nt f' a' h' w'/\RBk b σ' f'/\Out G σ h w σ' h' w'/\Ends P b src dst a w σ' r a' w'
theorem Ends.head {src Asf dst} {r} (hs:∀k cs,step P (lone (b.at a (src k)) cs w)=.next (lone (b.at a (Asf k)) cs w)) (he:Ends P b Asf dst a w σ' r a' w'):Ends P b src dst a w σ' r a' w':=by cases r with
 |bad n=>trivial
 |Bt f h=>exact λk cs hc=>.head (hs k _) (he k _ hc)
 |ext id f h=>obtain ⟨pv,hpv,he⟩:=he;exact ⟨_,hpv,λk cs hc=>by obtain ⟨k',h1,h2⟩:=he k _ hc;exact ⟨_,h1,.head (hs k _) h2⟩⟩
 |ret f h=>exact λk cs hc=>by obtain ⟨k',h2⟩:=he k _ hc;exact ⟨_,.head (hs k _) h2⟩
theorem Ends.pre {src mid dst} {r} {a1} {w1} (hs:∀k cs,Calm b cs->Steps P (lone (b.at a (src k)) cs w) (lone (b.at a1 (mid k)) cs w1)) (he:Ends P b mid dst a1 w1 σ' r a' w'):Ends P b src dst a w σ' r a' w':=by cases r with
 |bad n=>trivial
 |Bt f h=>exact λk cs hc=>(hs k _ hc).trans (he k _ hc)
 |ext id f h=>obtain ⟨pv,hpv,he⟩:=he;exact ⟨_,hpv,λk cs hc=>by obtain ⟨k',h1,h2⟩:=he k _ hc;exact ⟨_,h1,(hs k _ hc).trans h2⟩⟩
 |ret f h=>exact λk cs hc=>by obtain ⟨k',h2⟩:=he k _ hc;exact ⟨_,(hs k _ hc).trans h2⟩
theorem Eb.head {src Asf dst} {go} (hs:∀a w k cs,step P (lone (b.at a (src k)) cs w)=.next (lone (b.at a (Asf k)) cs w)) (hr:Eb P G nt b Asf dst go):Eb P G nt b src dst go:=by intro σ f a h w f' h' r h1 h2 h3 h4 h5 h6;obtain ⟨σ',a',w',q1,q2,q3,q4⟩:=hr _ f a h w _ _ r h1 h2 h3 h4 h5 h6;exact ⟨_,_,_,q1,q2,q3,q4.head (hs a w)⟩
theorem Eb.andThen {src mid dst} {go next} (Vr:Eb P G nt b src mid go)
 (hnx:∀f h,Ei h (next f h)) (Aq9:Eb P G nt b mid dst next):Eb P G nt b src dst λf h=>andThen next (go f h):=by intro σ f a h w f' h' r he Cg hs hb hl hf;dsimp at he;cases hg:go f h with
 |bad n=>rw [hg] at he;subst he;rcases Cg with hq|⟨_,hq⟩|hq<;>cases hq
 |Bt f1 h1=>
  rw [hg] at he;have Ak:next ..=r:=he;have hle:h1.nx<=h'.nx:=by refine hnx f1 _ f' _ ?_;rw [Ak];exact Cg
  obtain ⟨σ1,a1,w1,q1,q2,q3,q4⟩:=Vr _ f a h w _ _ _ hg (.inl rfl) hs hb om (hf.left hle);obtain ⟨σ2,a2,w2,p1,p2,p3,p4⟩:=Aq9 _ _ _ _ _ _ _ r Ak Cg q1 q2 hl (hf.right q3);exact ⟨_,_,_,p1,p2,q3.trans p3 hl,Ends.pre q4 p4⟩
 |ext id f1 h1=>
  rw [hg] at he;have Ak:=he;subst Ak;have hff:f1=f'/\h1=h':=by rcases Cg with hq|⟨_,hq⟩|hq<;>cases hq;simp
  obtain ⟨rfl,rfl⟩:=hff;exact Vr _ f a h w _ _ _ hg (.inr (.inl ⟨_,rfl⟩)) hs hb hl hf
 |ret f1 h1=>
  rw [hg] at he;have Ak:=he;subst Ak;have hff:f1=f'/\h1=h':=by rcases Cg with hq|⟨_,hq⟩|hq<;>cases hq;simp
  obtain ⟨rfl,rfl⟩:=hff;exact Vr _ f a h w _ _ _ hg (.inr (.inr rfl)) hs hb hl hf
theorem O7 {f1} {h1} (hh:Fin (.Bt f1 h1) f' h'):f'=f1/\h'=h1:=by rcases hh with hq|⟨_,hq⟩|hq<;>cases hq;simp
theorem Ul {i} {f1} {h1} (hh:Fin (.ext i f1 h1) f' h'):f'=f1/\h'=h1:=by rcases hh with hq|⟨_,hq⟩|hq<;>cases hq;simp
theorem Abx {f1} {h1} (hh:Fin (.ret f1 h1) f' h'):f'=f1/\h'=h1:=by rcases hh with hq|⟨_,hq⟩|hq<;>cases hq;simp
theorem I5 {n} (hh:Fin (.bad n) f' h'):False:=by rcases hh with hq|⟨_,hq⟩|hq<;>cases hq
def Code.src (c:Code) (k:List Item):List Item:=.code c::k
theorem Aih {src dst} (hs:∀a w k cs,step P (lone (b.at a (src k)) cs w)=.next (lone (b.at a (dst k)) cs w)):Eb P G nt b src dst RC.Bt:=by intro σ f a h w f' h' r he Cg Vt hb hl hf;subst he;obtain ⟨rfl,rfl⟩:=O7 Cg;exact ⟨_,a,w,Vt,hb,Out.refl Vt.ai Vt.so Vt.ma,λk cs _=>.one (hs a w k _)⟩
theorem Aiw (hc:Bd P G ctx) (P5:P.follows .mixedOrders=true) {id:Nat} {ops:Array Oper} {dr:Bool} (Ga:codeOk G nt (.region id ops dr)=true) (Ix:nt<250):
 Eb P G nt b (Code.src (.region id ops dr)) (λk=>k) (exec (.region id ops dr) P ctx):=by have Nb:(Bool.rec (motive:=λ_=>Bool) false (Bool.rec (motive:=λ_=>Bool) true (Yx ops) dr) (ops.toList.all (Gl G nt)):Bool)=true:=Ga;cases Fs:ops.toList.all (Gl G nt) with
 |false=>simp_all
 |true=>rw [Fs] at Nb;have Ae6:∀x∈ops.toList,Gl G nt x=true:=List.all_eq_true.1 Fs;intro σ f a h w f' h' r he Cg hs hb hl hf;cases dr with
  |false=>
   have Ak:G3 P ctx ops ops.toList f h=r:=he;have hr:∀n,r≠.bad n:=λn hn=>by subst hn;exact I5 Cg
   by_cases hx:∃i f' h',r=.ext i f' h';. obtain ⟨i,f1,h1,rfl⟩:=hx;obtain ⟨rfl,rfl⟩:=Ul Cg;obtain ⟨rfl,σ',a',w',pv,q1,q2,q3,q4,q5⟩:=Amb (b:=b) hc Ae6 Ix ops.toList 0 rfl σ f a h w _ _ _ Ak hs hb hl hf;refine ⟨σ',a',w',q1,q2,q3,pv,λ_=>q4,λk cs Hq=>?_⟩;obtain ⟨rest,q6⟩:=q5 k cs Hq;rw [Nat.sub_zero,<- List.range_eq_range'] at q6;exact ⟨.inRegion ops rest::k,rfl,.head Adg (by rw [FB.Uq];omega)⟩
   obtain ⟨f1,h1,rfl,Vr⟩:=AeM (b:=b) hc Ae6 Ix ops.toList 0 rfl σ f a h w r Ak hr (λi f' h' hn=>hx ⟨i,f',h',hn⟩) hs hb;obtain ⟨rfl,rfl⟩:=O7 Cg;obtain ⟨σ',a',w',q1,q2,q3,q4⟩:=Vr hl hf;refine ⟨_,_,_,q1,q2,q3,λk cs Hq=>.head Adg ?_⟩;have:=q4 k _ Hq;rw [Nat.sub_zero,<- List.range_eq_range'] at this;exact this.trans (.one Tv)
  |true=>
   have Ak:=he;have Ani:=Nb;have hrn:∃f1 h1,r=.Bt f1 h1:=by cases r with
    |Bt f1 h1=>simp
    |bad n=>exact (I5 Cg).elim
    |ext i f1 h1=>exact (Aet Ak (λ_ _ hh=>by cases hh) λ_ hh=>by cases hh).elim
    |ret f1 h1=>exact (Aet Ak (λ_ _ hh=>by cases hh) λ_ hh=>by grind).elim
   obtain ⟨f1,h1,rfl⟩:=hrn;obtain ⟨rfl,rfl⟩:=O7 Cg;obtain ⟨σ',a',w',q1,q2,q3,q4⟩:=Ahp hc P5 Ani Ae6 Ix Ak hs hb hl hf _;exact ⟨_,_,_,q1,q2,q3,q4⟩
where
 Aet {ops} {f} {h} {r} (he:Gk P ctx ops f h=r) (h1:∀f' h',r≠.Bt f' h') (h2:∀n,r≠.bad n):False:=by unfold Gk at he;cases hd:AnB _ with
  |false=>rw [hd] at he;grind
  |true=>
   rw [hd] at he;have key:∀l Fl f h lg,Sp P ctx ops lg l Fl f h≠r:=by intro l;induction l with
    |nil=>intro Fl f h lg he;have hq:Bool.rec (motive:=λ_=>RC) _ ..=r:=he;cases hc:Lh _ with
     |false=>rw [hc] at hq;grind
     |true=>rw [hc] at hq;grind
    |cons d l ih=>intro Fl f h lg he;have hq:RC.rec (motive:=λ_=>RC) _ (λf' h'=>Sp P _ _ _ l _ ..) _ ..=r:=he;cases ho:Fp _ _ P _ f _ with
     |bad n=>rw [ho] at hq;exact h2 _ hq.symm
     |ext id f1 W2=>rw [ho] at hq;exact h2 _ hq.symm
     |ret f1 W2=>rw [ho] at hq;exact h2 _ hq.symm
     |Bt f1 W2=>simp_all
   grind
theorem Am7 {c:Operand} {x y:Code} (De:Es G c=true) (hx:Eb P G nt b (Code.src x) (λk=>k) (exec x P ctx)) (hy:Eb P G nt b (Code.src y) (λk=>k) (exec y P ctx)):
 Eb P G nt b (Code.src (.cond c x y)) (λk=>k) (exec (.cond c x y) P ctx):=by
 intro σ f a h w f' h' r he Cg hs hb hl hf
 have Ak:Al2 (ev c f) (exec x) (exec y) P ctx f h=r:=he
 have hv:=Cj hs.fr hs.gl c De
 generalize ev c f=u at *
 generalize O0:a.eval c=cc at *
 cases hv
 case bool t=>
  cases t with
  |true=>
   obtain ⟨σ',a',w',q1,q2,q3,q4⟩:=hx σ f a h w f' h' r Ak Cg hs hb hl hf
   exact ⟨σ',a',w',q1,q2,q3,q4.head (λk cs=>ArW O0)⟩
  |false=>
   obtain ⟨σ',a',w',q1,q2,q3,q4⟩:=hy σ f a h w f' h' r Ak Cg hs hb hl hf
   exact ⟨σ',a',w',q1,q2,q3,q4.head (λk cs=>ArW O0)⟩
 all_goals exact (I5 (by rw [<- Ak] at Cg;exact Cg)).elim
theorem Aek {id} {src} {go} (Qm:id≠Em) (hx:Eb P G nt b src (λk=>k) go):Eb P G nt b (λk=>src (.inBlock id::k)) (λk=>k) λf h=>inBlock id (go f h):=by intro σ f a h w f' h' r he Cg hs hb hl hf;have Ak:inBlock ..=r:=he;cases hg:go f h with
 |bad n=>rw [hg] at Ak;subst Ak;exact (I5 Cg).elim
 |Bt f1 h1=>rw [hg] at Ak;subst Ak;obtain ⟨rfl,rfl⟩:=O7 Cg;obtain ⟨σ',a',w',q1,q2,q3,q4⟩:=hx _ f a h w _ _ _ hg (.inl rfl) hs hb hl hf;exact ⟨_,_,_,q1,q2,q3,λk cs Hq=>(q4 _ _ Hq).trans (.one Aoa)⟩
 |ext i f1 h1=>rw [hg] at Ak;have Cs:Bool.rec (motive:=λ_=>RC) _ ..=r:=Ak;cases hib:Nat.beq i _ with
  |true=>
   rw [hib] at Cs;have hii:=Ch hib;subst hii Cs;obtain ⟨rfl,rfl⟩:=O7 Cg;obtain ⟨σ',a',w',q1,q2,q3,q4⟩:=hx _ f a h w _ _ _ hg (.inr (.inl ⟨i,rfl⟩)) hs hb hl hf;obtain ⟨pv,_,q4⟩:=q4;refine ⟨_,_,_,q1,q2,q3,λk cs Hq=>?_⟩;obtain ⟨k',h1,h2⟩:=q4 (.inBlock i::k) _ Hq;rw [FB.N8 Qm] at h2;have hex:exitTo i k'=some k:=by rw [h1];simp [exitTo]
   exact h2.trans (.one (AzH hex))
  |false=>rw [hib] at Cs;have Hr:=Ho hib;subst Cs;obtain ⟨rfl,rfl⟩:=Ul Cg;obtain ⟨σ',a',w',q1,q2,q3,q4⟩:=hx _ f a h w _ _ _ hg (.inr (.inl ⟨i,rfl⟩)) hs hb hl hf;obtain ⟨pv,hpv,q4⟩:=q4;refine ⟨_,_,_,q1,q2,q3,_,hpv,λk cs Hq=>?_⟩;obtain ⟨k',h1,h2⟩:=q4 _ _ Hq;refine ⟨_,?_,h2⟩;rw [h1];simp [exitTo,Ne.symm Hr]
 |ret f1 h1=>rw [hg] at Ak;subst Ak;obtain ⟨rfl,rfl⟩:=Abx Cg;obtain ⟨σ',a',w',q1,q2,q3,q4⟩:=hx _ f a h w _ _ _ hg (.inr (.inr rfl)) hs hb hl hf;exact ⟨_,_,_,q1,q2,q3,λk cs Hq=>by obtain ⟨k',h2⟩:=q4 (.inBlock id::k) _ Hq;grind⟩
theorem Ajv {id} {c} (Qm:id≠Em) (hx:Eb P G nt b (Code.src c) (λk=>k) (exec c P ctx)):Eb P G nt b (Code.src (.block id c)) (λk=>k) (exec (.block id c) P ctx):=
 Eb.head (λa w k cs=>Amg) (Aek Qm hx)
theorem Eb.under {src dst} {go} i (hi:∀id,i≠.inBlock id) (hr:Eb P G nt b src dst go):Eb P G nt b (λk=>src (i::k)) (λk=>dst (i::k)) go:=by intro σ f a h w f' h' r h1 h2 h3 h4 h5 h6;obtain ⟨σ',a',w',q1,q2,q3,q4⟩:=hr _ f a h w _ _ r h1 h2 h3 h4 h5 h6;refine ⟨_,_,_,q1,q2,q3,?_⟩;cases r with
 |bad n=>trivial
 |Bt f h=>exact λk cs=>q4 _ _
 |ext id f h=>obtain ⟨pv,hpv,q4⟩:=q4;refine ⟨_,hpv,λk cs hc=>?_⟩;obtain ⟨k',p1,p2⟩:=q4 _ _ hc;refine ⟨_,?_,p2⟩;rw [p1];cases i<;>first|rfl|grind
 |ret f h=>exact λk cs=>q4 _ _
theorem Ans (hc:Dw ctx) {c} (hx:Eb P G nt b (Code.src c) (λk=>k) (exec c P ctx)) n:
 Eb P G nt b (λk=>.code c::.inLoop c::k) (λk=>.inLoop c::k) (Yd (exec c) P ctx n):=by induction n with
 |zero=>exact hx.under _ λid hh=>by grind
 |succ n ih=>exact Eb.andThen ih (AcK (Lt hc c) n) (ih.head λa w k cs=>ArX)
def Nw (Lw:Option Code) (f:L2) (h:H) (r:RC):Prop:=
 match Lw with
 |none=>r=.Bt f h
 |some .ret=>r=.ret f h
 |some (.exit id)=>id≠Em/\r=.ext id f h
 |_=>False
theorem AeD {Lw} {r} (he:Z4 Lw f h=r) (hr:∀n,r≠.bad n):Nw Lw f h r:=by
 unfold Z4 at he;unfold Nw;split at he;. grind
 . grind
 . cases Qm:Nat.beq .. with
   |true=>rw [Qm] at he;grind
   |false=>rw [Qm] at he;exact ⟨Ho Qm,he.symm⟩
 grind
theorem Adc (hc:Bd P G ctx) {g:FuncId} {args:List AV} {An:Array Value} {fr:L2} {tmps:Array Value} {ps:Array Tmp} {as bd:Code} {fnid:FuncId} {dfb:Nat} {r:RC} (Ke:Bg P g=true)
 (hs:Ms G σ h w) (hg:Vm G σ) (Z3:∀t,t<250->Au σ (fr.get t) (tmps.getD t undef)) (Fc:tmps.size<250) (hps:∀d∈ps.toList,d<tmps.size) (h1:codeOk G tmps.size as=true) (h2:codeOk G tmps.size bd=true)
 (he:Mn f h.nx (ctx.call g args (h.new (.loop 0 none fr ps.toList as bd)))=r) (Cg:Fin r f' h') (hl:h'.nx<=Bq) (hf:Fx σ h h')
 (Ow:∀σ1 e,Qq σ σ1->σ1 h.nx=some e->e.c=w.heap.size->Bk σ1 args An.toList):
 f'=f/\∃σ' w' w2 v2 lp,Out G σ h w σ' h' w'/\(∀c cs,Steps P (lone (Frame.enter P g An .normal) (c::cs) (Dd w (.loop { state:=.ready,pending:=none,fn:=fnid,tmps,params:=ps,assign:=as,body:=bd,defers:=dfb }))) (lone (c.finish v2) cs w2)) /\
  w2.heap[w.heap.size]?=some (.loop lp)/\lp.state≠.busy/\w'=Cc w2 w.heap.size (.loop { lp with state:=.exhausted })/\Nw lp.pending f h' r:=by
 have hrb:∀n,r≠.bad n:=λn hn=>by subst hn;exact I5 Cg
 unfold Mn at he
 split at he
 . rename_i v2 R3 Rq
   split at he
   . rename_i st Lw fr2 ps2 as2 bd2 Lr
     rcases (show (Nat.beq st 1=true/\RC.bad 189=r)\/(Nat.beq st 1=false/\Z4 Lw f (R3.put h.nx (.loop 3 Lw fr2 ps2 as2 bd2))=r) by
      cases hb:Nat.beq st 1 with
      |true=>rw [hb] at he;exact .inl ⟨rfl,he⟩
      |false=>rw [hb] at he;exact .inr ⟨rfl,he⟩) with ⟨_,hq⟩|⟨Vt,hq⟩
     . exact absurd hq.symm (hrb _)
     . have hj:=AeD hq hrb
       have hfh:f'=f/\h'=R3.put h.nx (.loop 3 Lw fr2 ps2 as2 bd2):=by
        unfold Nw at hj
        split at hj
        . subst hj;exact O7 Cg
        . subst hj;exact Abx Cg
        . obtain ⟨_,rfl⟩:=hj;exact Ul Cg
        . exact hj.elim
       obtain ⟨rfl,rfl⟩:=hfh
       refine ⟨rfl,?_⟩
       have A8L:(h.new (.loop 0 none fr ps.toList as bd)).nx<=R3.nx:=hc.mono.call _ _ _ _ _ Rq
       have Bb3:h.nx+1<=R3.nx:=A8L
       have P4:R3.nx<=Bq:=hl
       have B6:h.nx<Bq:=by omega
       have hfx:σ h.nx=none:=hf h.nx (Nat.le_refl _) (by show h.nx<R3.nx;omega)
       have hle:=Ip (e:=⟨w.heap.size,0,none⟩) hfx
       have Na:Out G σ h w (Gu σ h.nx ⟨w.heap.size,0,none⟩) (h.new (.loop 0 none fr ps.toList as bd)) (Dd w (.loop { state:=.ready,pending:=none,fn:=fnid,tmps,params:=ps,assign:=as,body:=bd,defers:=dfb })):=by
        refine Yf hs.ai hs.so hs.ma B6 hfx rfl rfl ?_
        refine ⟨rfl,_,F1 w _,rfl,rfl,λt ht=>(Z3 t ht).mono hle,rfl,rfl,rfl,Fc,h1,h2,hps⟩
       have AjL:Fx (Gu σ h.nx ⟨w.heap.size,0,none⟩) (h.new (.loop 0 none fr ps.toList as bd)) R3:=Fx.right (h:=h) (h':=R3) (λx p1 p2=>hf x p1 p2) Na
       have A8o:=Ow (Gu σ h.nx ⟨w.heap.size,0,none⟩) ⟨w.heap.size,0,none⟩ hle (by simp [Gu]) rfl
       obtain ⟨σ2,v2',w2,a2,fn,p1,p2,p3,p4,p5,p6⟩:=hc.call g args _ R3 v2 _ _ An .normal Rq Ke A8o Na.ms (hg.mono hle) P4 AjL
       have hσ2:σ2 h.nx=some ⟨w.heap.size,0,none⟩:=p3.le _ _ (by simp [Gu])
       have Ha:=p3.ms.ma h.nx _ hσ2
       rw [Lr] at Ha
       obtain ⟨hk,lp,b1,b2,b3,b4,b5,b6,b7,b8,b9,Wz,b11⟩:=Ha
       have S6:Out G σ2 R3 w2 σ2 (R3.put h.nx (.loop 3 Lw fr2 ps2 as2 bd2)) (Cc w2 w.heap.size (.loop { lp with state:=.exhausted })):=by
        refine Hh (e:=⟨w.heap.size,0,none⟩) p3.ms.ai p3.ms.so p3.ms.ma hσ2 Lr (by intro hh;cases hh) (by intro n hh;cases hh) rfl rfl hk (by intro n hh;cases hh) ?_
        refine ⟨hk,{ lp with state:=.exhausted },?_,rfl,b3,b4,b5,b6,b7,b8,b9,Wz,b11⟩
        rw [Da,if_pos ⟨rfl,Dj b1⟩]
       refine ⟨σ2,_,w2,v2',lp,?_,?_,b1,?_,rfl,?_⟩
       . exact (Na.trans p3 P4).trans S6 hl
       . intro c cs
         obtain ⟨k',p7⟩:=p6 (c::cs) (.inl rfl)
         exact p7.trans (.one (ArV p4 rfl p1 p5))
       . rw [b2]
         intro hh
         unfold Akf at hh
         split at hh<;>first|(cases hh;done)|skip
         cases Vt
       . rw [b3]
         exact hj
   . exact absurd he.symm (hrb _)
 . exact absurd he.symm (hrb _)
 . exact absurd he.symm (hrb _)
theorem Xt (b:FB) a l k v:(b.at a (.inRangeFunc l::k)).finish v=b.at a (.endRangeFunc l::k):=rfl
theorem Aev {Lw} {r} {src} (hj:Nw Lw f h r) (hs:∀k cs,Calm b cs->Steps P (lone (b.at a (src k)) cs w) (lone (b.at a' ((Lw.map Item.code).toList++k)) cs w')):
 Ends P b src (λk=>k) a w σ' r a' w':=by
 unfold Nw at hj;split at hj;. subst hj;exact hs
 . subst hj;exact λk cs hc=>⟨k,hs k _ hc⟩
 . obtain ⟨Qm,rfl⟩:=hj;exact ⟨undef,λhh=>absurd hh Qm,λk cs hc=>⟨k,rfl,by rw [FB.N8 Qm];simp_all⟩⟩
 grind
theorem AdQ (hc:Dw ctx) {g} {args} {l} {r} (he:Mn f l (ctx.call g args h)=r) (Cg:Fin r f' h'):h.nx<=h'.nx:=by
 have hrb:∀n,r≠.bad n:=λn hn=>by subst hn;exact I5 Cg
 unfold Mn at he;split at he
 . rename_i v2 R3 Rq;have hm:=hc.call _ _ _ _ _ Rq;split at he;. rename_i st Lw fr2 ps2 as2 bd2 Lr;cases hb:Nat.beq _ 1 with
     |true=>rw [hb] at he;grind
     |false=>
      rw [hb] at he;have hj:=AeD (show Z4 _ f _=r from he) hrb;have hfh:f'=f/\h'=R3.put l (.loop 3 Lw fr2 ps2 as2 bd2):=by
       unfold Nw at hj;split at hj;. subst hj;exact O7 Cg
       . subst hj;exact Abx Cg
       . obtain ⟨_,rfl⟩:=hj;exact Ul Cg
       grind
      rw [hfh.2];exact hm
   grind
 . exact absurd he.symm (hrb _)
 . exact absurd he.symm (hrb _)
theorem Aky (hc:Bd P G ctx) {x:Operand} {ps:Array Tmp} {as bd:Code} (Ix:nt<250) (hox:Es G x=true) (hps:∀d∈ps.toList,d<nt) (h1:codeOk G nt as=true) (h2:codeOk G nt bd=true):
 Eb P G nt b (Code.src (.rangeFunc x ps as bd)) (λk=>k) (exec (.rangeFunc x ps as bd) P ctx):=by
 intro σ f a h w f' h' r he Cg hs hb hl hf;have hrb:∀n,r≠.bad n:=λn hn=>by subst hn;exact I5 Cg
 have Ak:AbV x ps as bd (exec as) (exec bd) P ctx f h=r:=he;have hv:=Cj hs.fr hs.gl x hox;have Fc:a.tmps.size=nt:=hs.fr.size;unfold AbV at Ak;split at Ak;. -- outside rounds
   rename_i g fs cap ds hvf W5;have hvf:=Aaq hvf;have W5:=Aar W5;rw [hvf] at hv;generalize Rr:a.eval x=xx at hv;cases hv;rename_i fs' Ll hy ha ha' hca AjI;have hro:b.ro=none:=by
    rcases hb with ⟨q,_⟩|⟨_,c,l2,e,q1,q2,_⟩;. exact q
    . rw [q2] at W5;cases W5
   unfold Yu at Ak;cases Ke:Bg P g with
   |false=>rw [Ke] at Ak;exact absurd Ak.symm (hrb _)
   |true=>
    rw [Ke] at Ak;have Cs:Mn (f.set Br (.Bj (.map h.nx::ds))) (h.new (.dfr false)).nx (ctx.call g (J0 (J0 fs [.fn (.yield (h.new (.dfr false)).nx) [] []]) cap) ((h.new (.dfr false)).new (.loop 0 none f ps.toList as bd)))=r:=Ak;have Bb0:=AcL (P:=P) (h:=h) (f:=f) hc.mono x ps as bd (exec as) (exec bd);have A4f:h.nx+1<=h'.nx:=by have:=AdQ hc.mono Cs Cg;exact Nat.le_trans (Nat.le_succ _) this
    have B6:h.nx<Bq:=by omega
    have hfx:σ h.nx=none:=hf h.nx (Nat.le_refl _) om;have hle:=Ip (e:=⟨w.heap.size,0,none⟩) hfx;have Na:Out G σ h w (Gu σ h.nx ⟨w.heap.size,0,none⟩) (h.new (.dfr false)) (Dd w (.deferred (some []))):=by refine Yf hs.ai hs.so hs.ma B6 hfx rfl rfl ?_;exact ⟨rfl,F1 w _⟩
    have AjL:Fx (Gu σ h.nx ⟨w.heap.size,0,none⟩) (h.new (.dfr false)) h':=hf.right Na;obtain ⟨rfl,σ',w',w2,v2,lp,q1,q2,q3,q4,q5,q6⟩:=Adc (fnid:=b.fn) (dfb:=w.heap.size) (An:=fs'.push (.func (.yield (w.heap.size+1)) #[] #[])++Ll) (tmps:=a.tmps) hc Ke Na.ms (hs.gl.mono hle)
     (λt ht=>(hs.fr.slot t ht).mono hle) (by rw [Fc];exact Ix) (by rw [Fc];exact hps) (by rw [Fc];exact h1) (by rw [Fc];exact h2) Cs Cg hl AjL (by
      intro σ1 e s1 s2 s3;have s3':e.c=w.heap.size+1:=by rw [s3,size_push]
      rw [Dl,Dl];have l1:Bk σ1 fs fs'.toList:=Bk.mono (hle.trans s1) ⟨ha,ha'⟩;have l2:Bk σ1 cap Ll.toList:=Bk.mono (hle.trans s1) ⟨hca,AjI⟩;have l3:Bk σ1 [.fn (.yield (h.new (.dfr false)).nx) [] []] [.func (.yield (w.heap.size+1)) #[] #[]]:=by refine .cons ?_ (.nil _);rw [<- s3'];exact .yld _ e s2
      simpa using (l1.append l3).append l2);have A9g:(Dd w (.deferred (some []))).heap.size=w.heap.size+1:=size_push w _;rw [A9g] at q3 q5;have Vd:=Na.trans q1 hl;refine ⟨σ',⟨a.tmps,{ target:=.collected w.heap.size,args:=#[] }::a.defers⟩,w',?_,?_,Vd,?_⟩
    . refine hs.next Vd ⟨hs.fr.size,?_,?_⟩;. intro t ht;rw [L2.Dh Br t _ f (by decide) om,if_neg (by intro hh;have h1:t=255:=hh;omega)];exact (hs.fr.slot t ht).mono Vd.le
      . rw [L2.Dh Br Br _ f (by decide) (by decide),if_pos rfl];have hdr:=hs.fr.defers;rw [W5] at hdr;refine .cons _ _ _ _ (.mk h.nx ⟨w.heap.size,0,none⟩ (q1.le _ _ (by simp [Gu]))) (hdr.mono Vd.le)
    . exact .inl ⟨hro,_,by rw [L2.Dh Br Br _ f (by decide) (by decide),if_pos rfl]⟩
    . refine Aev q6 (λk cs Hq=>?_);refine .head (AuG (args:=fs'.push (.func (.yield (w.heap.size+1)) #[] #[])++Ll) (w2:=Dd (Dd w (.deferred (some []))) (.loop { state:=.ready,pending:=none,fn:=b.fn,tmps:=a.tmps,params:=ps,assign:=as,body:=bd,defers:=w.heap.size })) hro Rr (λw1 hw1=>?_)) ?_;. rw [hw1];exact Ih Ke _ _
      . refine (q2 _ cs).trans ?_;rw [Xt,q5];exact .one (AeP q3 q4)
 . -- inside a round
   rename_i g fs cap hvf W5;have hvf:=Aaq hvf;rw [hvf] at hv;generalize Rr:a.eval x=xx at hv;cases hv;rename_i fs' Ll hy ha ha' hca AjI;split at Ak;. rename_i Wj;unfold Yu at Ak;cases Ke:Bg P g with
     |false=>rw [Ke] at Ak;exact absurd Ak.symm (hrb _)
     |true=>
      rw [Ke] at Ak;have Cs:Mn f h.nx (ctx.call g (J0 (J0 fs [.fn (.yield h.nx) [] []]) cap) (h.new (.loop 0 none f ps.toList as bd)))=r:=Ak;rcases hb with ⟨q,ds,hds⟩|⟨S3,c,l,e,hro,hdl,Z3,hec⟩;. rw [hds] at W5;cases W5
      . have hb':RBk b σ f:=.inr ⟨S3,c,l,e,hro,hdl,Z3,hec⟩;have hlp:∃lp0,w.heap[c]?=some (.loop lp0):=by unfold inRound at Wj;rw [hdl] at Wj;have A3R:AqS (h.m.get l)=true:=Wj;have Ha:=hs.ma l e Z3;cases hgl:h.m.get l with
         |loop st Lw fr2 ps2 as2 bd2=>rw [hgl] at Ha;obtain ⟨_,lp0,b1,_⟩:=Ha;rw [hec] at b1;exact ⟨lp0,b1⟩
         |_=>rw [hgl] at A3R;cases A3R
        obtain ⟨lp0,A8F⟩:=hlp;obtain ⟨rfl,σ',w',w2,v2,lp,q1,q2,q3,q4,q5,q6⟩:=Adc (fnid:=b.fn) (dfb:=lp0.defers) (An:=fs'.push (.func (.yield w.heap.size) #[] #[])++Ll) (tmps:=a.tmps) hc Ke hs.ms hs.gl
         hs.fr.slot (by rw [Fc];exact Ix) (by rw [Fc];exact hps) (by rw [Fc];exact h1) (by rw [Fc];exact h2) Cs Cg hl hf (by
          intro σ1 e1 s1 s2 s3;rw [Dl,Dl];have l1:Bk σ1 fs fs'.toList:=Bk.mono s1 ⟨ha,ha'⟩;have l2:Bk σ1 cap Ll.toList:=Bk.mono s1 ⟨hca,AjI⟩;have l3:Bk σ1 [.fn (.yield h.nx) [] []] [.func (.yield w.heap.size) #[] #[]]:=by refine .cons ?_ (.nil _);rw [<- s3];exact .yld _ e1 s2
          simpa using (l1.append l3).append l2);refine ⟨σ',a,w',hs.next q1 (hs.fr.mono q1.le),hb'.mono q1.le rfl,q1,?_⟩;refine Aev q6 (λk cs Hq=>?_);refine .head (Aob (args:=fs'.push (.func (.yield w.heap.size) #[] #[])++Ll) (w2:=Dd w (.loop { state:=.ready,pending:=none,fn:=b.fn,tmps:=a.tmps,params:=ps,assign:=as,body:=bd,defers:=lp0.defers })) hro A8F Rr (λw1 hw1=>?_)) ?_;. rw [hw1];exact Ih Ke _ _
        . refine (q2 _ cs).trans ?_;rw [Xt,q5];exact .one (AeP q3 q4)
   . exact absurd Ak.symm (hrb _)
 . exact absurd Ak.symm (hrb _)
theorem Q2 {c x:Bool} (hh:(Bool.rec (motive:=λ_=>Bool) false x c:Bool)=true):c=true/\x=true:=by
 cases c with
 |false=>cases hh
 |true=>exact ⟨rfl,hh⟩
theorem Np (hc:Bd P G ctx) (P5:P.follows .mixedOrders=true) (Ix:nt<250) c:codeOk G nt c=true->Eb P G nt b (Code.src c) (λk=>k) (exec c P ctx):=by induction c with
 |skip=>exact λ_=>Aih λa w k cs=>AzI
 |region id ops dr=>exact λGa=>Aiw hc P5 Ga Ix
 |seq x y ihx ihy=>
  intro Ga;obtain ⟨h1,h2⟩:=Q2 (show Bool.rec (motive:=λ_=>Bool) _ ..=true from Ga);have hx:=(ihx h1).under (.code y) λid hh=>by cases hh
  have:=Eb.andThen hx (Lt hc.mono y) (ihy h2);exact this.head λa w k cs=>Aw0
 |cond c x y ihx ihy=>intro Ga;obtain ⟨h0,Gd⟩:=Q2 (show Bool.rec (motive:=λ_=>Bool) _ ..=true from Ga);obtain ⟨h1,h2⟩:=Q2 Gd;exact Am7 h0 (ihx h1) (ihy h2)
 |block id c ih=>intro Ga;have Nb:Bool.rec (motive:=λ_=>Bool) _ ..=true:=Ga;cases Qm:Nat.beq id Em with
  |true=>simp_all
  |false=>rw [Qm] at Nb;exact Ajv (Ho Qm) (ih Nb)
 |loop c ih=>intro Ga;have hl:=Ans hc.mono (ih Ga) 20;intro σ f a h w f' h' r he Cg hs hb hl' hf;have Ak:andThen _ (Yd (exec c) P _ _ f h)=r:=he;cases hg:Yd _ P _ _ f h with
  |bad n=>rw [hg] at Ak;subst Ak;exact (I5 Cg).elim
  |Bt f1 h1=>rw [hg] at Ak;subst Ak;exact (I5 Cg).elim
  |ext i f1 h1=>rw [hg] at Ak;obtain ⟨σ',a',w',q1,q2,q3,q4⟩:=hl _ f a h w _ _ r (by rw [hg];exact Ak) Cg hs hb hl' hf;refine ⟨_,_,_,q1,q2,q3,?_⟩;subst Ak;obtain ⟨pv,hpv,q4⟩:=q4;exact ⟨_,hpv,λk cs Hq=>by obtain ⟨k',p1,p2⟩:=q4 k _ Hq;exact ⟨_,p1,.head ArY p2⟩⟩
  |ret f1 h1=>rw [hg] at Ak;obtain ⟨σ',a',w',q1,q2,q3,q4⟩:=hl _ f a h w _ _ r (by rw [hg];exact Ak) Cg hs hb hl' hf;refine ⟨_,_,_,q1,q2,q3,?_⟩;subst Ak;exact λk cs Hq=>by obtain ⟨k',p2⟩:=q4 k _ Hq;exact ⟨_,.head ArY p2⟩
 |rangeFunc x ps as bd Rs ihb=>intro Ga;obtain ⟨h0,Gd⟩:=Q2 (show Bool.rec (motive:=λ_=>Bool) _ ..=true from Ga);obtain ⟨h1,h2⟩:=Q2 Gd;obtain ⟨h3,h4⟩:=Q2 h2;exact Aky hc Ix h0 (λd hd=>Ec (List.all_eq_true.1 h1 d hd)) h3 h4
 |exit id=>
  intro Ga σ f a h w f' h' r he Cg hs hb hl hf;have Qm:id≠Em:=by have Nb:=Ga;intro hh;subst hh;cases Nb
  have Ak:=he;subst Ak;obtain ⟨rfl,rfl⟩:=Ul Cg;exact ⟨_,a,w,hs,hb,Out.refl hs.ai hs.so hs.ma,undef,λhh=>absurd hh Qm,λk cs _=>⟨k,rfl,by rw [FB.N8 Qm];exact .refl P _⟩⟩
 |scope c ih=>intro Ga σ f a h w f' h' r he Cg hs hb hl hf;obtain ⟨σ',a',w',q1,q2,q3,q4⟩:=(ih Ga).under (.inScope c) λid hh=>by grind _ f a h w _ _ r he Cg hs hb hl hf;refine ⟨_,_,_,q1,q2,q3,?_⟩;cases r with
  |bad n=>trivial
  |Bt f1 h1=>exact λk cs Hq=>.head AbB ((q4 k _ Hq).trans (.one AeQ))
  |ext i f1 h1=>obtain ⟨pv,hpv,q4⟩:=q4;exact ⟨_,hpv,λk cs Hq=>by obtain ⟨k',p1,p2⟩:=q4 k _ Hq;exact ⟨_,p1,.head AbB p2⟩⟩
  |ret f1 h1=>exact λk cs Hq=>by obtain ⟨k',p2⟩:=q4 k _ Hq;exact ⟨_,.head AbB p2⟩
 |label l=>exact λ_=>Aih λa w k cs=>AuE
 |goto l=>intro _ σ f a h w f' h' r he Cg hs hb hl hf;have Ak:=he;subst Ak;exact (I5 Cg).elim
 |ret=>intro _ σ f a h w f' h' r he Cg hs hb hl hf;have Ak:=he;subst Ak;obtain ⟨rfl,rfl⟩:=Abx Cg;exact ⟨_,a,w,hs,hb,Out.refl hs.ai hs.so hs.ma,λk cs _=>⟨k,.refl P _⟩⟩
 |refuse why=>intro _ σ f a h w f' h' r he Cg hs hb hl hf;have Ak:=he;subst Ak;exact (I5 Cg).elim
theorem Pg:∀l n f,n+l.length<=250->∀t,t<256->(Eu l n f).get t=if n<=t/\t<n+l.length then l[t - n]?.getD .top else f.get t:=by intro l;induction l with
 |nil=>intro n f _ t _;rw [if_neg (by simp)];rfl
 |cons x l ih=>intro n f hn t ht;simp at hn;show (Eu l ..).get t=_;rw [ih _ _ om t ht,L2.Dh n t x f om ht];grind
theorem Zr {args:List AV} {An:Array Value} (hr:Bk σ args An.toList) (hle:args.length<=nt) (Ix:nt<250):Pt σ nt (Eu args 0 Az) ⟨An++Array.replicate (nt - An.size) undef,[]⟩:=by
 have Fc:An.size=args.length:=by have:=hr.1;simp_all
 refine ⟨by grind,?_,?_⟩
 . intro t ht;rw [Pg args 0 Az om t om];by_cases h1:t<args.length
   . rw [if_pos om,Nat.sub_zero,List.getElem?_eq_getElem h1,Option.getD_some];have h2:(An++Array.replicate (nt - An.size) undef).getD t undef=An[t]' om:=by rw [Array.getD_eq_getD_getElem?,Array.getElem?_append_left om,Array.getElem?_eq_getElem om,Option.getD_some]
     rw [h2];exact hr.2 t _ _ (List.getElem?_eq_getElem h1) (by simp_all)
   . rw [if_neg om];have h2:(An++Array.replicate (nt - An.size) undef).getD t undef=undef:=by rw [Array.getD_eq_getD_getElem?,Array.getElem?_append_right om];grind
     rw [h2];unfold Az;rw [L2.Dh _ t _ _ (by decide) om,if_neg (by intro hh;have h1:t=255:=hh;omega),L2.Xw];exact L6 _
 . rw [Pg _ 0 _ om _ (by decide),if_neg (by intro hh;have h1:255<0+args.length:=hh.2;omega)];exact .nil
theorem A7Z {rs} {r} (he:Aby P ctx rs r=.ok v h'):∃f1 h1,(r=.Bt f1 h1\/r=.ret f1 h1)/\finish P ctx rs f1 h1=.ok v h'\/∃id,r=.ext id f1 h1/\M8 P ctx rs id f1 h1=.ok v h':=by cases r with
 |bad n=>cases he
 |Bt f1 h1=>exact ⟨_,_,.inl ⟨.inl rfl,he⟩⟩
 |ext i f1 h1=>exact ⟨_,_,.inr ⟨i,rfl,he⟩⟩
 |ret f1 h1=>exact ⟨_,_,.inl ⟨.inr rfl,he⟩⟩
theorem Ack {rs} (he:finish P ctx rs f h=.Hb v h'):False:=by
 unfold finish at he;split at he;. rename_i ds _;cases hr:D3 P ctx ds h with
   |bad n=>simp_all
   |ok h2=>rw [hr] at he;exact Aa8 he
 grind
theorem ApT {rs} {r} (he:Aby P ctx rs r=.Hb v h'):∃f1,r=.ext Em f1 h'/\f1.get Br=.Bj []/\v=f1.get Jv:=by cases r with
 |bad n=>cases he
 |Bt f1 h1=>exact (Ack he).elim
 |ext i f1 h1=>obtain ⟨rfl,h2,h3,rfl⟩:=Aht he;grind
 |ret f1 h1=>exact (Ack he).elim
theorem V7 (hc:Bd P G ctx) (tmps:Array Value):∀(ds:List AV) (σ:Dx) (h h':H) (w:World) (dl:List Deferred),D3 P ctx ds h=.ok h'->Afd σ (.Bj ds) dl->Ms G σ h w->Vm G σ->h'.nx<=Bq->Fx σ h h' ->
 ∃σ' w',Out G σ h w σ' h' w'/\∀(b:FB) k cs,Steps P (lone (b.back ⟨tmps,dl⟩ k) cs w) (lone (b.back ⟨tmps,[]⟩ k) cs w'):=by intro ds;induction ds with
 |nil=>intro σ h h' w dl he hd hm hg hl hf;cases he;cases hd;exact ⟨σ,w,Out.refl hm.ai hm.so hm.ma,λb k cs=>.refl P _⟩
 |cons d ds ih=>intro σ h h' w dl he hd hm hg hl hf;cases hd;rename_i d' ds' hde hdr;unfold D3 at he;cases hde with
  |fn g as cs as' D7 ha hca=>have Et:(Bool.rec (motive:=λ_=>RH) (.bad 195) (match ctx.call g (J0 as cs) h with|.ok _ h'=>D3 P ctx ds h'|.bad n=>.bad n|.Hb _ _=>.bad 211) (Bg P g):RH)=.ok h':=he;cases Ke:Bg P g with
   |false=>simp_all
   |true=>rw [Ke] at Et;cases Rq:ctx.call g (J0 as cs) h with
    |bad n=>grind
    |Hb v1 h1=>simp_all
    |ok v1 h1=>rw [Rq] at Et;have Cs:D3 P ctx ds h1=.ok h':=Et;have hle:h1.nx<=h'.nx:=H2 hc.mono ds h1 h' Cs;have Be8:h.nx<=h1.nx:=hc.mono.call _ _ _ _ _ Rq;obtain ⟨σ1,v',w1,a1,fn,p1,p2,p3,p4,p5,p6⟩:=hc.call g (J0 as cs) h h1 v1 σ w (as'++D7) .deferred Rq Ke (by rw [Dl];simpa using ha.append hca) hm hg om (hf.left hle);obtain ⟨σ2,w2,q1,q2⟩:=ih σ1 h1 h' w1 ds' Cs (hdr.mono p3.le) p3.ms (hg.mono p3.le) hl (hf.right p3);refine ⟨σ2,w2,p3.trans q1 hl,λb k cs0=>?_⟩;refine .head (AuD rfl (Ih Ke ..)) ?_;obtain ⟨k',p7⟩:=p6 (b.back _ k::cs0) (.inr ⟨rfl,_,_,rfl,.inl rfl⟩);exact p7.trans (.head (AuC p4 rfl rfl p1 p5) (q2 b k _))
  |mk r e hr=>
   have Et:(match h.m.get r with|.dfr false=>D3 P _ ..|_=>.bad _)=RH.ok _:=he;split at Et
   . rename_i Lr;have Ha:=hm.ma r e hr;rw [Lr] at Ha;obtain ⟨hk,hh⟩:=Ha;have hh':=hh;have S6:Out G σ h w σ (h.put r (.dfr true)) (Cc w e.c (.deferred none)):=by refine Hh hm.ai hm.so hm.ma hr Lr (by simp) (by simp) rfl rfl hk (by grind) ⟨hk,?_⟩;rw [Da,if_pos ⟨rfl,Dj hh'⟩];rfl
     obtain ⟨σ2,w2,q1,q2⟩:=ih _ _ _ _ _ Et hdr S6.ms hg hl (hf.right S6);exact ⟨_,_,S6.trans q1 hl,λb k cs0=>.head (AuI rfl hh') (q2 b k _)⟩
   simp_all
def Aak (tmps:Array Value) (r:ResultVar):Sem Value:=match r with|.tmp t=>pure (tmps.getD t undef)|.cell x t=>do loadVar t (<- asAddr (tmps.getD x undef))
theorem Ak0 fn tmps:results fn tmps=(do let vs <- fn.results.mapM (Aak tmps);pure (if h:vs.size=1 then vs[0] else .tuple vs)):=rfl
theorem Agd (hfr:∀t,t<250->Au σ (f.get t) (a.tmps.getD t undef)) (hm:Ms G σ h w):∀(rs:List ResultVar) (l:List AV),(∀r∈rs,Amd r=true)->Oe P f h rs=some l ->
 ∃l':List Value,Bk σ l l'/\(rs.mapM (Aak a.tmps)).run P w=.ok l' w:=by intro rs;induction rs with
 |nil=>intro l _ he;cases he;exact ⟨[],.nil σ,by simp⟩
 |cons r rs ih=>intro l Ga he;cases r with
  |tmp t=>
   unfold Oe at he;split at he;. rename_i l1 Vs;cases he;obtain ⟨l',q1,q2⟩:=ih l1 (λr hr=>Ga r (by grind)) Vs;have ht:t<250:=Ec (show Nat.blt t 250=true from Ga (.tmp t) (by simp));refine ⟨_::l',.cons (hfr t ht) q1,?_⟩;simp [List.mapM_cons,Aak,q2]
   grind
  |cell x t=>
   unfold Oe at he;split at he
   . rename_i v1 l1 hv1 Vs;cases he;obtain ⟨l',q1,q2⟩:=ih l1 (λr hr=>Ga r (by simp [*])) Vs;have hx:x<250:=Ec (show Nat.blt x 250=true from Ga (.cell x t) (by simp));have hs:=hfr x hx;unfold AyY at hv1;split at hv1
     . rename_i y off hp;have hp:=P2 hp;rw [hp] at hs;generalize Rr:a.tmps.getD x undef=xx at hs;cases hs;rename_i e hye;split at hv1
       . rename_i c W4;obtain ⟨arr,tt,fz,h1,h2,h3,h4⟩:=No W4 (hm.ma y e hye);obtain ⟨v',hr,hv⟩:=AhN (P:=P) (e:=e) hv1 h1 om h4;refine ⟨v'::l',.cons hv q1,?_⟩;have AdM:(Aak a.tmps (.cell x t)).run P w=.ok v' w:=by simp only [Aak,Rr];simpa [asAddr] using hr
         simp_all
       grind
     grind
   simp_all
theorem AkA {l:List AV} {l':List Value} (hr:Bk σ l l'):Au σ (single l) (if h:l'.toArray.size=1 then l'.toArray[0] else .tuple l'.toArray):=by
 unfold single;split;. rename_i x;obtain ⟨y,l2,rfl,hv,hl⟩:=hr.F8;have:=hl.Rt;grind
 . rename_i Hr;have hl:=hr.1;rw [dif_neg];. exact .Bj l _ om λi x y hx hy=>hr.2 i x y hx om
   . intro h1;match l,hl,Hr with
     |[x],_,Hr=>simp_all
     |[],hl,_=>simp_all
     |x::y::l,hl,_=>grind
theorem Tq {fn} {l} (hfr:∀t,t<250->Au σ (f.get t) (a.tmps.getD t undef)) (hm:Ms G σ h w) (Ga:∀r∈fn.results.toList,Amd r=true) (he:Oe P f h fn.results.toList=some l):
 ∃v',(results fn a.tmps).run P w=.ok v' w/\Au σ (single l) v':=by obtain ⟨l',q1,q2⟩:=Agd hfr hm _ l Ga he;refine ⟨_,?_,AkA q1⟩;rw [Ak0,Sem.run_bind,Array.mapM_eq_mapM_toList];simp [*]
theorem Aag {g:FuncId} {fn} {c} (hp:Mv P=true) (hf:P.funcs[g]?=some fn) (hb:fn.body=some c):fn.ntmps<250/\(∀r∈fn.results.toList,Amd r=true)/\codeOk P.globals.size fn.ntmps c=true:=by
 have Vc:fn∈P.funcs.toList:=by grind
 have:=List.all_eq_true.1 hp _ Vc;unfold A3c at this;rw [hb] at this;obtain ⟨h1,h2⟩:=Q2 this;obtain ⟨h3,h4⟩:=Q2 h2;exact ⟨Ec h1,List.all_eq_true.1 h3,h4⟩
theorem AuR {g} {r} (he:Agk g r=.ok v h'):r=.ok v h':=by cases r with
 |bad n=>cases he
 |ok v1 h1=>exact he
 |Hb v1 h1=>cases he
theorem Asl {g} {r} (he:Agk g r=.Hb v h'):r=.Hb v h':=by cases r with
 |bad n=>cases he
 |ok v1 h1=>cases he
 |Hb v1 h1=>exact he
theorem Acm {args} (hle:args.length<=nt) (Ix:nt<250):(Eu args 0 Az).get Br=.Bj []:=by rw [Pg _ 0 _ om _ (by decide),if_neg (by intro hh;have h1:255<0+args.length:=hh.2;omega)];rfl
def AnR:Code->List Item->List Item
 |.seq a b,k=>AnR a (.code b::k)
 |.scope a,k=>AnR a (.inScope a::k)
 |.block id a,k=>AnR a (.inBlock id::k)
 |_,k=>k
def H6:Code->Array Oper
 |.region _ ops _=>ops
 |.seq a _=>H6 a
 |.scope a=>H6 a
 |.block _ a=>H6 a
 |_=>#[]
theorem AnT {d}:∀c,AaT c=some d->∀a k cs w,
 Steps P (lone (b.at a (.code c::k)) cs w) (lone (b.at a (.inRegion (H6 c) (List.range (H6 c).size)::AnR c k)) cs w):=by intro c;induction c with
 |region id ops dr=>intro hr a k cs w;cases dr with
  |false=>exact .one Adg
  |true=>cases hr
 |seq x y ihx _=>exact λhr a k cs w=>.head Aw0 (ihx hr a _ _ w)
 |scope x ih=>exact λhr a k cs w=>.head AbB (ih hr a _ _ w)
 |block id x ih=>exact λhr a k cs w=>.head Amg (ih hr a _ _ w)
 |_=>intro hr;cases hr
theorem AzE {d}:∀c,AaT c=some d->∃o,(H6 c)[0]?=some o/\Amc o=some d:=by intro c;induction c with
 |region id ops dr=>intro hr;cases dr with
  |false=>
   have hr':(match ops.toList with|o::_=>Amc o|[]=>none)=some d:=hr;split at hr';. rename_i o l ho;refine ⟨o,?_,hr'⟩;show ops[0]?=some o;rw [<- Array.getElem?_toList,ho];rfl
   grind
  |true=>cases hr
 |seq x y ihx _=>exact ihx
 |scope x ih=>exact ih
 |block id x ih=>exact ih
 |_=>intro hr;cases hr
theorem ArM {d}:∀c,AaT c=some d->codeOk G nt c=true->∀x∈(H6 c).toList,Gl G nt x=true:=by intro c;induction c with
 |region id ops dr=>intro hr Ga;have Nb:=Ga;exact List.all_eq_true.1 (Q2 Nb).1
 |seq x y ihx _=>intro hr Ga;exact ihx hr (Q2 (show Bool.rec (motive:=λ_=>Bool) _ ..=true from Ga)).1
 |scope x ih=>exact ih
 |block id x ih=>intro hr Ga;have Nb:Bool.rec (motive:=λ_=>Bool) _ ..=true:=Ga;cases Qm:Nat.beq id Em with
  |true=>simp_all
  |false=>rw [Qm] at Nb;exact ih hr Nb
 |_=>intro hr;cases hr
theorem Aj8 (hc:Bd P G ctx) (P5:P.follows .mixedOrders=true) (Ix:nt<250) {d}:∀c,AaT c=some d->codeOk G nt c=true ->
 Eb P G nt b (λk=>.inRegion (H6 c) (List.range' 1 ((H6 c).size - 1))::AnR c k) (λk=>k) (Xn c P ctx):=by intro c;induction c with
 |region id ops dr=>intro hr Ga;have Ae6:=ArM _ hr Ga;cases dr with
  |true=>cases hr
  |false=>
   intro σ f a h w f' h' r he Cg hs hb hl hf;have Ak:=he;have hrb:∀n,r≠.bad n:=λn hn=>by subst hn;exact I5 Cg
   by_cases hx:∃i f' h',r=.ext i f' h';. obtain ⟨i,f1,h1,rfl⟩:=hx;obtain ⟨rfl,rfl⟩:=Ul Cg;obtain ⟨rfl,σ',a',w',pv,q1,q2,q3,q4,q5⟩:=Amb hc Ae6 Ix _ 1 rfl _ f a h w _ _ _ Ak hs hb hl hf;refine ⟨_,_,_,q1,q2,q3,_,λ_=>q4,λk cs Hq=>?_⟩;obtain ⟨rest,q6⟩:=q5 k _ Hq;exact ⟨.inRegion ..::k,rfl,q6⟩
   obtain ⟨f1,h1,rfl,Vr⟩:=AeM hc Ae6 Ix _ 1 rfl _ f a h w r Ak hrb (λi f' h' hn=>hx ⟨i,_,_,hn⟩) hs hb;obtain ⟨rfl,rfl⟩:=O7 Cg;obtain ⟨σ',a',w',q1,q2,q3,q4⟩:=Vr hl hf;exact ⟨_,_,_,q1,q2,q3,λk cs Hq=>(q4 k _ Hq).trans (.one Tv)⟩
 |seq x y ihx _=>
  intro hr Ga;obtain ⟨h1,h2⟩:=Q2 (show Bool.rec (motive:=λ_=>Bool) _ ..=true from Ga);have hx:=(ihx hr h1).under (.code y) λid hh=>by cases hh
  exact Eb.andThen hx (Lt hc.mono y) (Np hc P5 Ix y h2)
 |scope x ih=>
  intro hr Ga;have hx:=(ih hr Ga).under (.inScope x) λid hh=>by grind
  intro σ f a h w f' h' r he Cg hs hb hl hf;obtain ⟨σ',a',w',q1,q2,q3,q4⟩:=hx _ f a h w _ _ r he Cg hs hb hl hf;refine ⟨_,_,_,q1,q2,q3,?_⟩;cases r with
  |bad n=>trivial
  |Bt f1 h1=>exact λk cs Hq=>(q4 k _ Hq).trans (.one AeQ)
  |ext i f1 h1=>exact q4
  |ret f1 h1=>exact q4
 |block id x ih=>intro hr Ga;have Nb:Bool.rec (motive:=λ_=>Bool) _ ..=true:=Ga;cases Qm:Nat.beq id Em with
  |true=>simp_all
  |false=>rw [Qm] at Nb;exact Aek (Ho Qm) (ih hr Nb)
 |_=>intro hr;cases hr
theorem AgY (hc:Bd P P.globals.size ctx) (P5:P.follows .mixedOrders=true) (hp:Mv P=true) {g:FuncId} {args:List AV} {An:Array Value} {v1:AV} {pv:Value} (he:Aen P ctx g args v h=.ok v1 h') (Ke:Bg P g=true)
 (Ow:Bk σ args An.toList) (hv:Au σ v pv) (hm:Ms P.globals.size σ h w) (hg:Vm P.globals.size σ) (hl:h'.nx<=Bq) (hf:Fx σ h h'):
 ∃σ' w',Out P.globals.size σ h w σ' h' w'/\∀(b2:FB) (a2:Act) (k2:List Item) (cs:List Frame),b2.ro=none->Steps P (lone (Frame.enter P g An .deferred) (b2.Hb a2 k2 pv false::cs) w) (lone (b2.back a2 k2) cs w'):=by
 obtain ⟨fn,c,hfn,Mz,_⟩:=O3 Ke;obtain ⟨Ix,Ac9,Ac0⟩:=Aag hp hfn Mz;unfold Aen at he;have hfi:Ln P g=some ⟨c,fn.ntmps,fn.results.toList⟩:=by unfold Ln;rw [hfn];dsimp only;rw [Mz]
 rw [hfi] at he;dsimp only at he;split at he
 . rename_i d Rx;rcases Bl he with ⟨hle,Fv⟩|⟨_,Fv⟩
   . have AhA:args.length<=fn.ntmps:=by have:=G2 hle;rwa [Gh] at this
     have A3F:∃f1 h1,(Xn c P ctx (Im d v (Eu args 0 Az)) h=.Bt f1 h1\/Xn c P ctx (Im d v (Eu args 0 Az)) h=.ret f1 h1)/\finish P ctx fn.results.toList f1 h1=.ok v1 h':=by cases hq:Xn c P ctx (Im d v (Eu args 0 Az)) h with
      |bad n=>rw [hq] at Fv;cases Fv
      |Bt f1 h1=>rw [hq] at Fv;exact ⟨f1,h1,.inl rfl,Fv⟩
      |ext i f1 h1=>rw [hq] at Fv;cases Fv
      |ret f1 h1=>rw [hq] at Fv;exact ⟨f1,h1,.inr rfl,Fv⟩
     obtain ⟨f1,h1,hr,G4⟩:=A3F;have AmX:=Zr (nt:=fn.ntmps) Ow AhA Ix;obtain ⟨o,ho0,hoo⟩:=AzE c Rx;have A31:=ArM (G:=P.globals.size) (nt:=fn.ntmps) c Rx Ac0;have A4i:o∈(H6 c).toList:=Array.mem_toList_iff.2 (Array.mem_of_getElem? ho0);obtain ⟨_,M9⟩:=Lu (A31 o A4i);have A8R:o.dst=d/\o.guard=none/\∃c:Call,o.op=.call c/\c.callee=.builtin .recover:=by unfold Amc at hoo;grind
     obtain ⟨rfl,hgd,cl,De,Ox⟩:=A8R;have A85:=AmX.put M9 Ix hv;have Cg:Fin (Xn c P ctx (Im o.dst v (Eu args 0 Az)) h) f1 h1:=by
      rcases hr with hr|hr;. exact .inl hr
      . exact .inr (.inr hr)
     have Ay5:(Im o.dst v (Eu args 0 Az)).get Br=.Bj []:=by rw [Mm (λu hu=>Nat.lt_trans (M9 u hu) Ix) Br (by decide),if_neg (λhh=>by have h1:(255:Nat)<fn.ntmps:=M9 255 hh;omega)];exact Acm AhA Ix
     unfold finish at G4;split at G4;. rename_i ds W5;have W5:=Aar W5;cases W4:D3 P ctx ds h1 with
       |bad n=>rw [W4] at G4;cases G4
       |ok h2=>
        rw [W4] at G4;have hf2:Gg P fn.results.toList f1 h2=.ok v1 h':=G4;unfold Gg at hf2;split at hf2
        . rename_i l hl0;obtain ⟨rfl,rfl⟩:=B4 hf2;have Anc:h1.nx<=h2.nx:=H2 hc.mono ds h1 h2 W4;obtain ⟨σ1,a1,w1,q1,q2,q3,q4⟩:=Aj8 (b:=⟨g,.deferred,none⟩) hc P5 Ix c Rx Ac0 σ _ ((⟨An++Array.replicate (fn.ntmps - An.size) undef,[]⟩:Act).put o.dst pv) h w f1 h1 _ rfl Cg
           ⟨A85,hg,hm.ai,hm.so,hm.ma⟩ (.inl ⟨rfl,[],Ay5⟩) om (hf.left Anc);have hdr:=q1.fr.defers;rw [W5] at hdr;have Wi:Frame.enter P g An .deferred=FB.at ⟨g,.deferred,none⟩ ⟨An++Array.replicate (fn.ntmps - An.size) undef,[]⟩ [.code c]:=by simp [Frame.enter,FB.at,hfn,Mz]
          obtain ⟨σ2,w2,r1,r2⟩:=V7 hc a1.tmps ds σ1 h1 h2 w1 a1.defers W4 hdr ⟨q1.ai,q1.so,q1.ma⟩ q1.gl hl (hf.right q3);obtain ⟨v',r3,r4⟩:=Tq (a:=⟨a1.tmps,[]⟩) (λt ht=>(q1.fr.slot t ht).mono r1.le) r1.ms Ac9 hl0;refine ⟨σ2,w2,q3.trans r1 hl,λb2 a2 k2 cs Wg=>?_⟩;rw [Wi];have Fc:0<(H6 c).size:=by grind
          have Z2:List.range (H6 c).size=0::List.range' 1 ((H6 c).size - 1):=by
           rw [List.range_eq_range'];have:(H6 c).size=((H6 c).size - 1)+1:=by omega
           rw [this,List.range'_succ];simp
          have Du:∀a:Act,(execOp a.eval o).run P w=.ok .recover w:=by intro a;obtain ⟨dst,op,ty,pos,af,gd⟩:=o;obtain ⟨cal,ca,ct⟩:=cl;dsimp only at De Ox;subst De;subst Ox;simp [execOp,resolve,invoke,builtin]
          have e1:=AnT (P:=P) (b:=⟨g,.deferred,none⟩) c Rx ⟨An++Array.replicate (fn.ntmps - An.size) undef,[]⟩ [] (b2.Hb a2 k2 pv false::cs) w;rw [Z2] at e1;have X5:∀y,Region.wanted o y=true:=by intro y;unfold Region.wanted;rw [hgd]
          have e2:=Ak6 (P:=P) (b:=⟨g,.deferred,none⟩) (a:=⟨An++Array.replicate (fn.ntmps - An.size) undef,[]⟩) (k:=AnR c []) (cs:=cs) (w:=w) (rest:=List.range' 1 ((H6 c).size - 1)) (b2:=b2) (a2:=a2) (k2:=k2) (v:=pv) ho0 (X5 _) rfl rfl (Du _);have X1:Calm ⟨g,.deferred,none⟩ (b2.Hb a2 k2 pv true::cs):=.inr ⟨rfl,_,_,rfl,.inr ⟨pv,rfl⟩⟩;refine e1.trans (.head e2 ?_);rcases hr with hr|hr;. rw [hr] at q4;exact (q4 [] _ X1).trans (.head (Awy rfl) ((r2 ⟨g,.deferred,none⟩ [] _).trans (.one (Amf rfl rfl hfn r3 Wg))))
          . rw [hr] at q4;obtain ⟨k',q5⟩:=q4 [] _ X1;exact q5.trans (.head (Awz rfl) ((r2 ⟨g,.deferred,none⟩ (.code .ret::k') _).trans (.one (Amf rfl rfl hfn r3 Wg))))
        . cases hf2
     . cases G4
   . cases Fv
 . cases he
theorem Am4 (hc:Bd P P.globals.size ctx) (P5:P.follows .mixedOrders=true) (hp:Mv P=true):AkQ P P.globals.size ⟨Fy P ctx,Io P ctx⟩:=by
 intro g args h h' v σ w An he Ke Ow hm hg hl hf
 obtain ⟨fn,c,hfn,Mz,_⟩:=O3 Ke
 obtain ⟨Ix,Ac9,Ac0⟩:=Aag hp hfn Mz
 have Et:Fy P ctx g args h=.Hb v h':=he
 unfold Fy at Et
 have hfi:Ln P g=some ⟨c,fn.ntmps,fn.results.toList⟩:=by unfold Ln;rw [hfn];dsimp only;rw [Mz]
 rw [hfi] at Et
 have Cs:AbW P ctx g args h ⟨c,fn.ntmps,fn.results.toList⟩=.Hb v h':=Et
 unfold AbW at Cs
 rcases X8 Cs with ⟨hle,Fv⟩|⟨_,Fv⟩
 . obtain ⟨f1,hr,hds,rfl⟩:=ApT (Asl Fv)
   have AhA:args.length<=fn.ntmps:=by have:=G2 hle;rwa [Gh] at this
   have AmX:=Zr (nt:=fn.ntmps) Ow AhA Ix
   have Wi:Frame.enter P g An .normal=FB.at ⟨g,.normal,none⟩ ⟨An++Array.replicate (fn.ntmps - An.size) undef,[]⟩ [.code c]:=by
    simp [Frame.enter,FB.at,hfn,Mz]
   obtain ⟨σ1,a1,w1,q1,q2,q3,q4⟩:=Np (b:=⟨g,.normal,none⟩) hc P5 Ix c Ac0 σ (Eu args 0 Az) ⟨An++Array.replicate (fn.ntmps - An.size) undef,[]⟩ h w f1 h' _ hr (.inr (.inl ⟨_,rfl⟩))
    ⟨AmX,hg,hm.ai,hm.so,hm.ma⟩ (.inl ⟨rfl,[],Acm AhA Ix⟩) hl hf
   obtain ⟨pv,hpv,q4⟩:=q4
   have hdr:=q1.fr.defers
   rw [hds] at hdr
   have hdn:a1.defers=[]:=by
    generalize a1.defers=dd at hdr
    cases hdr
    rfl
   refine ⟨σ1,pv,w1,hpv rfl,q3,λcc cs=>?_⟩
   rw [Wi]
   obtain ⟨k',_,q5⟩:=q4 [] (cc::cs) (.inl rfl)
   rw [FB.Uq] at q5
   exact q5.trans (.one (ArZ hdn hfn))
 . cases Fv
theorem AgX (hc:Bd P P.globals.size ctx) (P5:P.follows .mixedOrders=true) (hp:Mv P=true):Aed P P.globals.size ⟨Fy P ctx,Io P ctx⟩:=by
 intro g args h h' v σ w An kind he Ke Ow hm hg hl hf
 obtain ⟨fn,c,hfn,Mz,_⟩:=O3 Ke
 obtain ⟨Ix,Ac9,Ac0⟩:=Aag hp hfn Mz
 have Et:Fy P ctx g args h=.ok v h':=he
 unfold Fy at Et
 have hfi:Ln P g=some ⟨c,fn.ntmps,fn.results.toList⟩:=by unfold Ln;rw [hfn];dsimp only;rw [Mz]
 rw [hfi] at Et
 have Cs:AbW P ctx g args h ⟨c,fn.ntmps,fn.results.toList⟩=.ok v h':=Et
 unfold AbW at Cs
 rcases Bl Cs with ⟨hle,Fv⟩|⟨_,Fv⟩
 . have he4:=AuR Fv
   have AhA:args.length<=fn.ntmps:=by have:=G2 hle;rwa [Gh] at this
   have AmX:=Zr (nt:=fn.ntmps) Ow AhA Ix
   obtain ⟨f1,h1,⟨hr,G4⟩|⟨id,hr,hfx⟩⟩:=A7Z he4
   rotate_left
   . -- a panic Bgv is recovered
     obtain ⟨rfl,g2,as2,BcL,ds,v1,h2,hds,AvR,hcr,Be9,W4,A8B,AtE⟩:=Acj hfx
     obtain ⟨σ1,a1,w1,q1,q2,q3,q4⟩:=Np (b:=⟨g,kind,none⟩) hc P5 Ix c Ac0 σ (Eu args 0 Az) ⟨An++Array.replicate (fn.ntmps - An.size) undef,[]⟩ h w f1 h1 _ hr (.inr (.inl ⟨_,rfl⟩))
      ⟨AmX,hg,hm.ai,hm.so,hm.ma⟩ (.inl ⟨rfl,[],Acm AhA Ix⟩) om (hf.left om)
     obtain ⟨pv,hpv,q4⟩:=q4
     have hdr:=q1.fr.defers
     rw [hds] at hdr
     generalize hdd:a1.defers=dd at hdr
     cases hdr
     rename_i d' ds' hde hdr
     cases hde
     rename_i as' D7 ha hca
     obtain ⟨σ2,w2,r1,r2⟩:=AgY (w:=w1) (An:=as'++D7) hc P5 hp hcr AvR (by rw [Dl];simpa using ha.append hca) (hpv rfl) ⟨q1.ai,q1.so,q1.ma⟩ q1.gl om ((hf.right q3).left A8B)
     obtain ⟨σ3,w3,s1,s2⟩:=V7 hc a1.tmps ds σ2 h2 h' w2 ds' W4 (hdr.mono r1.le) r1.ms (q1.gl.mono r1.le) hl ((hf.right q3).right r1)
     unfold Gg at AtE
     split at AtE
     . rename_i l hl0
       obtain ⟨rfl,_⟩:=B4 AtE
       obtain ⟨v',r3,r4⟩:=Tq (a:=⟨a1.tmps,[]⟩) (λt ht=>((q1.fr.slot t ht).mono r1.le).mono s1.le) s1.ms Ac9 hl0
       have Wi:Frame.enter P g An kind=FB.at ⟨g,kind,none⟩ ⟨An++Array.replicate (fn.ntmps - An.size) undef,[]⟩ [.code c]:=by
        simp [Frame.enter,FB.at,hfn,Mz]
       refine ⟨σ3,v',w3,⟨a1.tmps,[]⟩,fn,hfn,r4,(q3.trans r1 om).trans s1 hl,rfl,r3,λcs Hq=>?_⟩
       rw [Wi]
       obtain ⟨k',_,q5⟩:=q4 [] cs Hq
       rw [FB.Uq] at q5
       exact ⟨k',q5.trans (.head (Ak4 hdd (Ih AvR _ _)) ((r2 _ _ _ cs rfl).trans (s2 ⟨g,kind,none⟩ k' cs)))⟩
     . cases AtE
   have Cg:Fin (exec c P ctx (Eu args 0 Az) h) f1 h1:=by
    rcases hr with hr|hr
    . exact .inl hr
    . exact .inr (.inr hr)
   have Ay5:(Eu args 0 Az).get Br=.Bj []:=by
    rw [Pg args 0 Az om Br (by decide),if_neg (by intro hh;have h1:(255:Nat)<0+args.length:=hh.2;omega)]
    unfold Az
    rw [L2.Dh Br Br _ _ (by decide) (by decide),if_pos rfl]
   unfold finish at G4
   split at G4
   . rename_i ds W5
     have W5:=Aar W5
     cases W4:D3 P ctx ds h1 with
     |bad n=>rw [W4] at G4;cases G4
     |ok h2=>
      rw [W4] at G4
      have hf2:Gg P fn.results.toList f1 h2=.ok v h':=G4
      unfold Gg at hf2
      split at hf2
      . rename_i l hl0
        obtain ⟨rfl,rfl⟩:=B4 hf2
        have Anc:h1.nx<=h2.nx:=H2 hc.mono ds h1 h2 W4
        obtain ⟨σ1,a1,w1,q1,q2,q3,q4⟩:=Np (b:=⟨g,kind,none⟩) hc P5 Ix c Ac0 σ (Eu args 0 Az) ⟨An++Array.replicate (fn.ntmps - An.size) undef,[]⟩ h w f1 h1 _ rfl Cg
         ⟨AmX,hg,hm.ai,hm.so,hm.ma⟩ (.inl ⟨rfl,[],Ay5⟩) om (hf.left Anc)
        have hdr:=q1.fr.defers
        rw [W5] at hdr
        have Wi:Frame.enter P g An kind=FB.at ⟨g,kind,none⟩ ⟨An++Array.replicate (fn.ntmps - An.size) undef,[]⟩ [.code c]:=by
         simp [Frame.enter,FB.at,hfn,Mz]
        obtain ⟨σ2,w2,r1,r2⟩:=V7 hc a1.tmps ds σ1 h1 h2 w1 a1.defers W4 hdr ⟨q1.ai,q1.so,q1.ma⟩ q1.gl hl (hf.right q3)
        obtain ⟨v',r3,r4⟩:=Tq (a:=⟨a1.tmps,[]⟩) (λt ht=>(q1.fr.slot t ht).mono r1.le) r1.ms Ac9 hl0
        refine ⟨σ2,v',w2,⟨a1.tmps,[]⟩,fn,hfn,r4,q3.trans r1 hl,rfl,r3,λcs Hq=>?_⟩
        rw [Wi]
        rcases hr with hr|hr
        . rw [hr] at q4
          exact ⟨_,(q4 [] cs Hq).trans (.head (Awy rfl) (r2 _ _ cs))⟩
        . rw [hr] at q4
          obtain ⟨k',q5⟩:=q4 [] cs Hq
          exact ⟨_,q5.trans (.head (Awz rfl) (r2 _ _ cs))⟩
      . cases hf2
   . cases G4
 . cases Fv
theorem AdZ:∀(ps:List Nat) (args:List AV) (vs:List Value) (f f':L2) (tmps:Array Value),Uz ps args f=some f'->Bk σ args vs->(∀d∈ps,d<tmps.size)->tmps.size<250->(∀t,t<250->Au σ (f.get t) (tmps.getD t undef)) ->
 vs.length=ps.length/\((ps.zip vs).foldl (λtmps (p:Nat × Value)=>tmps.setIfInBounds p.1 p.2) tmps).size=tmps.size /\
  (∀t,t<250->Au σ (f'.get t) (((ps.zip vs).foldl (λtmps (p:Nat × Value)=>tmps.setIfInBounds p.1 p.2) tmps).getD t undef))/\f'.get Br=f.get Br:=by
 intro ps
 induction ps with
 |nil=>
  intro args vs f f' tmps he hr hd Fc hs
  cases args with
  |nil=>
   cases he
   have:=hr.Rt
   subst this
   exact ⟨rfl,rfl,hs,rfl⟩
  |cons x l=>cases he
 |cons t ps ih=>
  intro args vs f f' tmps he hr hd Fc hs
  cases args with
  |nil=>cases he
  |cons x l=>
   obtain ⟨y,vs',rfl,hv,hl⟩:=hr.F8
   have Ak:Uz ps l (f.set t x)=some f':=he
   have ht:t<tmps.size:=hd t (by simp)
   obtain ⟨q1,q2,q3,q4⟩:=ih l vs' (f.set t x) f' (tmps.setIfInBounds t y) Ak hl (λd hd'=>by simp;exact hd d (by simp [hd'])) (by simpa using Fc) (by
    intro u hu
    rw [L2.Dh t u x f om om]
    by_cases hut:u=t
    . subst hut
      rw [if_pos rfl]
      have:(tmps.setIfInBounds u y).getD u undef=y:=by simp [Array.getD,ht]
      rw [this];exact hv
    . rw [if_neg hut]
      have:(tmps.setIfInBounds t y).getD u undef=tmps.getD u undef:=by
       simp only [Array.getD_eq_getD_getElem?]
       rw [Array.getElem?_setIfInBounds_ne (Ne.symm hut)]
      rw [this];exact hs u hu)
   refine ⟨by simp [q1],?_,?_,?_⟩
   . simp only [List.zip_cons_cons,List.foldl_cons]
     rw [q2];simp
   . simpa only [List.zip_cons_cons,List.foldl_cons] using q3
   . rw [q4,L2.Dh t Br x f om (by decide),if_neg (by intro hh;have h1:(255:Nat)=t:=hh;omega)]
theorem ArO {l id:Nat} {f1:L2} {h1:H} (he:Agg l (.ext id f1 h1)=.ok v h'):id≠Em/\endRound l (some (.exit id)) h1=.ok v h':=by
 have Ak:(Bool.rec (motive:=λ_=>OR) (endRound l (some (.exit id)) h1) (.bad 223) (Nat.beq id Em):OR)=.ok v h':=he
 cases Qm:Nat.beq id Em with
 |true=>rw [Qm] at Ak;cases Ak
 |false=>rw [Qm] at Ak;exact ⟨Ho Qm,Ak⟩
theorem Qv {l:Nat} {j:Option Code} (he:endRound l j h=.Hb v h'):False:=by
 unfold endRound at he
 split at he<;>cases he
theorem Ak1 {l:Nat} {args:List AV} (he:Io P ctx l args h=.Hb v h'):False:=by
 unfold Io at he
 split at he
 . split at he
   . rename_i f0 _
     generalize andThen _ _=r at he
     cases r with
     |bad n=>cases he
     |Bt f1 h1=>exact Qv he
     |ext id f1 h1=>rcases X8 he with ⟨_,hq⟩|⟨_,hq⟩;cases hq;exact Qv hq
     |ret f1 h1=>exact Qv he
   . cases he
 . cases he
theorem Agf (hc:Bd P P.globals.size ctx) (P5:P.follows .mixedOrders=true):AbL P P.globals.size ⟨Fy P ctx,Io P ctx⟩:=by
 intro l args h h' v σ w An e he Z3 Ow hm hg hl hf
 have Et:Io P ctx l args h=.ok v h':=he
 unfold Io at Et
 split at Et
 . rename_i st Lw fr ps as bd0 Lr
   split at Et
   . rename_i f0 A8S
     have Ha:=hm.ma l e Z3
     rw [Lr] at Ha
     obtain ⟨hk,lp,b1,b2,b3,b4,b5,b6,b7,b8,b9,Wz,b11⟩:=Ha
     have A8z:∀t,t<250->Au σ ((fr.set Br (.map l)).get t) (lp.tmps.getD t undef):=by
      intro t ht
      rw [L2.Dh Br t _ fr (by decide) om,if_neg (by intro hh;have h1:t=255:=hh;omega)]
      exact b4 t ht
     obtain ⟨s1,s2,s3,s4⟩:=AdZ ps args An.toList _ f0 lp.tmps A8S Ow b11 b8 A8z
     have hds:f0.get Br=.map l:=by rw [s4,L2.Dh Br Br _ fr (by decide) (by decide),if_pos rfl]
     generalize htm:((ps.zip An.toList).foldl (λtmps (p:Nat × Value)=>tmps.setIfInBounds p.1 p.2) lp.tmps)=tm at s2 s3
     have AyS:(Instr.yield e.c An).run P w=.ok (.round e.c lp.fn tm lp.assign lp.body) w:=by
      have Fc:An.size=lp.params.size:=by
       have h2:lp.params.toList.length=ps.length:=by rw [b5]
       simp at h2 s1
       omega
      have A3H:(lp.params.zip An).foldl (λtmps (p:Tmp × Value)=>tmps.setIfInBounds p.1 p.2) lp.tmps=tm:=by
       rw [<- htm,<- b5,<- Array.foldl_toList,Array.toList_zip]
      simp [Instr.yield,Instr.getLoop,getObj,Sem.run,b1,Fc]
      rw [<- A3H]
      congr 1
      simp [Fc]
     have AqI:St P.globals.size σ lp.tmps.size f0 ⟨tm,[]⟩ h w:=⟨⟨s2,s3,by rw [hds];exact .round l e Z3⟩,hg,hm.ai,hm.so,hm.ma⟩
     have Sz:RBk ⟨lp.fn,.normal,some e.c⟩ σ f0:=.inr ⟨rfl,e.c,l,e,rfl,hds,Z3,rfl⟩
     have AyN:Frame.round e.c lp.fn tm lp.assign lp.body .normal=FB.at ⟨lp.fn,.normal,some e.c⟩ ⟨tm,[]⟩ [.code as,.beginRound,.code bd0]:=by rw [b6,b7];rfl
     have Qz:∀(σ1:Dx) (h1:H) (w1:World) (a1:Act) (jump:Option Code),endRound l jump h1=.ok v h'->Out P.globals.size σ h w σ1 h1 w1 ->
      (∀c cs,∃k,(k=[]/\jump=none\/(∃k',k=.code .ret::k'/\jump=some .ret)\/∃id k',k=.code (.exit id)::k'/\exitTo id k'=none/\jump=some (.exit id)) /\
       Steps P (lone (FB.at ⟨lp.fn,.normal,some e.c⟩ ⟨tm,[]⟩ [.code as,.beginRound,.code bd0]) (c::cs) w) (lone (FB.at ⟨lp.fn,.normal,some e.c⟩ a1 k) (c::cs) w1)) ->
      ∃σ' v' w' g tmps as bd,Au σ' v v'/\Out P.globals.size σ h w σ' h' w'/\(Instr.yield e.c An).run P w=.ok (.round e.c g tmps as bd) w /\
       ∀c cs,Steps P (lone (Frame.round e.c g tmps as bd .normal) (c::cs) w) (lone (c.finish v') cs w'):=by
      intro σ1 h1 w1 a1 jump hre ho Vt
      unfold endRound at hre
      split at hre
      . rename_i st2 Bcd fr2 ps2 as2 bd2 AvX
        obtain ⟨n,hh',hn,hvv⟩:∃n,h'=h1.put l (.loop n jump fr2 ps2 as2 bd2)/\Akf n=(if jump.isNone then .ready else .done)/\v=.bool jump.isNone:=by
         obtain ⟨h2,h3⟩:=B4 hre
         exact ⟨_,h3.symm,by cases jump<;>rfl,h2.symm⟩
        have AqH:=ho.le _ _ Z3
        have Aqn:=ho.ms.ma l e AqH
        rw [AvX] at Aqn
        obtain ⟨hk1,lp1,c1,c2,c3,c4,c5,c6,c7,c8,c9,c10,c11⟩:=Aqn
        have S6:Out P.globals.size σ1 h1 w1 σ1 h' (Cc w1 e.c (.loop { lp1 with state:=if jump.isNone then .ready else .done,pending:=jump })):=by
         rw [hh']
         refine Hh ho.ms.ai ho.ms.so ho.ms.ma AqH AvX (by intro q;cases q) (by intro n q;cases q) rfl rfl hk1 (by intro n q;cases q) ?_
         exact ⟨hk1,{ lp1 with state:=if jump.isNone then .ready else .done,pending:=jump },by rw [Da,if_pos ⟨rfl,Dj c1⟩],hn.symm,rfl,c4,c5,c6,c7,c8,c9,c10,c11⟩
        refine ⟨σ1,.bool jump.isNone,_,lp.fn,tm,lp.assign,lp.body,by rw [hvv];exact .bool _,ho.trans S6 hl,AyS,λc cs=>?_⟩
        rw [AyN]
        obtain ⟨k,p1,p2⟩:=Vt c cs
        exact p2.trans (.one (Ak3 rfl rfl c1 p1))
      . cases hre
     have Ac1:∀(h1:H) (jump:Option Code),endRound l jump h1=.ok v h'->h1.nx<=h'.nx:=by
      intro h1 jump hre
      unfold endRound at hre
      split at hre
      . obtain ⟨_,rfl⟩:=B4 hre;exact Nat.le_refl _
      . cases hre
     have X1:∀cs,Calm ⟨lp.fn,.normal,some e.c⟩ cs:=λcs=>.inl rfl
     have AqF:=Np (b:=⟨lp.fn,.normal,some e.c⟩) hc P5 b8 as b9
     have AqE:=Np (b:=⟨lp.fn,.normal,some e.c⟩) hc P5 b8 bd0 Wz
     cases hA:exec as P ctx f0 h with
     |bad n=>rw [hA] at Et;cases Et
     |ext id f1 h1=>
      rw [hA] at Et
      obtain ⟨Qm,Cs⟩:=ArO Et
      have hle:=Ac1 h1 _ Cs
      obtain ⟨σ1,a1,w1,q1,q2,q3,pv,hpv,q4⟩:=AqF σ f0 ⟨tm,[]⟩ h w f1 h1 _ hA (.inr (.inl ⟨id,rfl⟩)) AqI Sz om (hf.left hle)
      refine Qz σ1 h1 w1 a1 _ Cs q3 (λc cs=>?_)
      obtain ⟨k',p1,p2⟩:=q4 [.beginRound,.code bd0] (c::cs) (X1 _)
      rw [FB.N8 Qm] at p2
      exact ⟨_,.inr (.inr ⟨id,k',rfl,by rw [p1];rfl,rfl⟩),p2⟩
     |ret f1 h1=>
      rw [hA] at Et
      have Cs:endRound l (some .ret) h1=.ok v h':=Et
      have hle:=Ac1 h1 _ Cs
      obtain ⟨σ1,a1,w1,q1,q2,q3,q4⟩:=AqF σ f0 ⟨tm,[]⟩ h w f1 h1 _ hA (.inr (.inr rfl)) AqI Sz om (hf.left hle)
      refine Qz σ1 h1 w1 a1 _ Cs q3 (λc cs=>?_)
      obtain ⟨k',p2⟩:=q4 [.beginRound,.code bd0] (c::cs) (X1 _)
      exact ⟨_,.inr (.inl ⟨k',rfl,rfl⟩),p2⟩
     |Bt f1 h1=>
      rw [hA] at Et
      have Cs:Agg l (Age P ctx l bd0 f1 h1)=.ok v h':=Et
      unfold Age at Cs
      split at Cs
      . rename_i AcY fr1 ps1 as1 bd1 AvW
        have Anc:h1.nx<=h'.nx:=by
         have:=AaN (h:=h1.put l (.loop 1 AcY fr1 ps1 as1 bd1)) l (Lt (P:=P) hc.mono bd0 f1 (h1.put l (.loop 1 AcY fr1 ps1 as1 bd1)))
         exact this v h' Cs
        obtain ⟨σ1,a1,w1,q1,q2,q3,q4⟩:=AqF σ f0 ⟨tm,[]⟩ h w f1 h1 _ hA (.inl rfl) AqI Sz om (hf.left Anc)
        have AqH:=q3.le _ _ Z3
        have Aqn:=q3.ms.ma l e AqH
        rw [AvW] at Aqn
        obtain ⟨hk1,lp1,c1,c2,c3,c4,c5,c6,c7,c8,c9,c10,c11⟩:=Aqn
        have S6:Out P.globals.size σ1 h1 w1 σ1 (h1.put l (.loop 1 AcY fr1 ps1 as1 bd1)) (Cc w1 e.c (.loop { lp1 with state:=.busy })):=by
         refine Hh q3.ms.ai q3.ms.so q3.ms.ma AqH AvW (by intro q;cases q) (by intro n q;cases q) rfl rfl hk1 (by intro n q;cases q) ?_
         exact ⟨hk1,{ lp1 with state:=.busy },by rw [Da,if_pos ⟨rfl,Dj c1⟩],rfl,c3,c4,c5,c6,c7,c8,c9,c10,c11⟩
        have AlD:=q3.trans S6 (show (h1.put l (.loop 1 AcY fr1 ps1 as1 bd1)).nx<=Bq from Nat.le_trans Anc hl)
        have AyR:St P.globals.size σ1 lp.tmps.size f1 a1 (h1.put l (.loop 1 AcY fr1 ps1 as1 bd1)) (Cc w1 e.c (.loop { lp1 with state:=.busy })):=q1.next S6 q1.fr
        have Ayx:∀c cs,Steps P (lone (FB.at ⟨lp.fn,.normal,some e.c⟩ ⟨tm,[]⟩ [.code as,.beginRound,.code bd0]) (c::cs) w) (lone (FB.at ⟨lp.fn,.normal,some e.c⟩ a1 [.code bd0]) (c::cs) (Cc w1 e.c (.loop { lp1 with state:=.busy }))):=
         λc cs=>(q4 [.beginRound,.code bd0] (c::cs) (X1 _)).trans (.one (Agi rfl c1 c2))
        have AjM:Fx σ1 (h1.put l (.loop 1 AcY fr1 ps1 as1 bd1)) h':=hf.right AlD
        cases hB:exec bd0 P ctx f1 (h1.put l (.loop 1 AcY fr1 ps1 as1 bd1)) with
        |bad n=>rw [hB] at Cs;cases Cs
        |Bt f2 h2=>
         rw [hB] at Cs
         have Fv:endRound l none h2=.ok v h':=Cs
         have hle:=Ac1 h2 _ Fv
         obtain ⟨σ2,a2,w2,r1,r2,r3,r4⟩:=AqE σ1 f1 a1 _ _ f2 h2 _ hB (.inl rfl) AyR q2 om (AjM.left hle)
         refine Qz σ2 h2 w2 a2 _ Fv (AlD.trans r3 om) (λc cs=>?_)
         exact ⟨_,.inl ⟨rfl,rfl⟩,(Ayx c cs).trans (r4 [] (c::cs) (X1 _))⟩
        |ext id f2 h2=>
         rw [hB] at Cs
         obtain ⟨Qm,Fv⟩:=ArO Cs
         have hle:=Ac1 h2 _ Fv
         obtain ⟨σ2,a2,w2,r1,r2,r3,pv,hpv,r4⟩:=AqE σ1 f1 a1 _ _ f2 h2 _ hB (.inr (.inl ⟨id,rfl⟩)) AyR q2 om (AjM.left hle)
         refine Qz σ2 h2 w2 a2 _ Fv (AlD.trans r3 om) (λc cs=>?_)
         obtain ⟨k',p1,p2⟩:=r4 [] (c::cs) (X1 _)
         rw [FB.N8 Qm] at p2
         exact ⟨_,.inr (.inr ⟨id,k',rfl,by rw [p1];rfl,rfl⟩),(Ayx c cs).trans p2⟩
        |ret f2 h2=>
         rw [hB] at Cs
         have Fv:endRound l (some .ret) h2=.ok v h':=Cs
         have hle:=Ac1 h2 _ Fv
         obtain ⟨σ2,a2,w2,r1,r2,r3,r4⟩:=AqE σ1 f1 a1 _ _ f2 h2 _ hB (.inr (.inr rfl)) AyR q2 om (AjM.left hle)
         refine Qz σ2 h2 w2 a2 _ Fv (AlD.trans r3 om) (λc cs=>?_)
         obtain ⟨k',p2⟩:=r4 [] (c::cs) (X1 _)
         exact ⟨_,.inr (.inl ⟨k',rfl,rfl⟩),(Ayx c cs).trans p2⟩
      . cases Cs
   . cases Et
 . cases Et
theorem ApK (hc:Bd P P.globals.size ctx) (P5:P.follows .mixedOrders=true) (hp:Mv P=true) (hm:Dw ⟨Fy P ctx,Io P ctx⟩):Bd P P.globals.size ⟨Fy P ctx,Io P ctx⟩:=
 ⟨AgX hc P5 hp,Agf hc P5,hm,Am4 hc P5 hp,λ_ _ _ _ _ he=>Ak1 he⟩
theorem AfW:Bd P G Q7:=
 ⟨λg args h h' v σ w An kind he=>(by cases he),λl args h h' v σ w An e he=>(by cases he),AeJ P 0,λg args h h' v σ w An he=>(by cases he),λl args h v h' he=>(by cases he)⟩
theorem Acd (P5:P.follows .mixedOrders=true) (hp:Mv P=true) (d:Nat):Bd P P.globals.size (A2N P d):=by
 induction d with
 |zero=>exact AfW
 |succ d ih=>exact ApK ih P5 hp (AeJ P (d+1))
end Go.Ev
