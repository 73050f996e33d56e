/- A table of what calls -/
import Derived.Test.YtahaaiadlgfchaaGreatDoorEvF
import Derived.Deep.Slices
import Derived.ReadAgain
import Derived.ChangeOld
set_option linter.all false
noncomputable section
namespace Go.Ev
variable {j:Nat}{o:Bool}
noncomputable section
abbrev KT:=L2->H->OR
def Apz(k:AV->H->OR)(r:OR):OR:=OR.rec OR.bad k (let _:Nat:=400;r)
def Aa(r:OR)(k:AV->H->OR):OR:=Apz k r
def A2M(x:VB)(a b:OR):OR:=VB.rec (.bad 401) (λc=>Bool.rec b a c) x
def Af(x:AV)(a b:OR):OR:=A2M (vB x) a b
def opX(o:Oper):Program->Ac->L2->H->OR:=Option.rec (λP Z f h=>opD o.op o.type P Z f h) (λ_ _ _ _ _=>.bad 402) (Ie o.op)
def Ad(x:AV)(w:Bool)(r:OR)(h:H):OR:=WT.rec r (.ok (.Bj []) h) (.bad 182) (Adq x w)
def Acv(g:GS)(o:Oper)(P:Program)(Z:Ac)(f:L2)(h:H):OR:=GS.rec (opX o P Z f h) (λt w=>Ad (f.get t) w (opX o P Z f h) h) (.bad 182) g
def BrW(k:KT)(r:RC):OR:=RC.rec OR.bad k (λ_ _ _=>.bad 410) (λ_ _=>.bad 410) r
def A54(P:Program)(Z:Ac)(ops:Array Oper)(l:List Oper):KT->KT:=
 List.rec (λk=>k) (λo _ d k f h=>Option.rec (Apz (λv h'=>d k (Im o.dst v f) h') (Acv (guardOf ops o) o P Z f h)) (λ_=>BrW (d k) (Fp ops o P Z f h)) (Ie o.op)) l
def Ff(lg:uw)(d:List EF)(h:H)(k:H->OR):OR:=Bool.rec (.bad 183) (k (Be (En d lg) h)) (Lh d)
def ApP(ops:Array Oper)(i:Nat):Nat:=match (M7 ops.toList 0 [])[i]? with|some o=>o.pr|none=>0
def Ahn(ops:Array Oper):List Oper->Nat->List DO:=λl=>List.rec (λ_=>[]) (λo _ d i=>⟨o,Ka i,ApP ops i⟩::d (Nat.succ i)) l
def xDr(P:Program)(Z:Ac)(ops:Array Oper)(lg:uw)(l:List DO):List EF->KT->KT:=
 List.rec (λd k f h=>Ff lg d h (λh'=>k f h'))
  (λo _ e d k f h=>Apz (λv h'=>e (⟨o.bit,o.pr,wrote h.nx h'.lg,Gi P o.o.op f,h,h'⟩::d) k (Im o.o.dst v f) h') (Acv (guardOf ops o.o) o.o P Z f (Ab h))) l
def Ap0(h:H)(k:AV->H->OR)(r:OR):OR:=OR.rec OR.bad (λv h'=>Bool.rec (.bad 409) (k v h') (Q6 (wrote h.nx h'.lg))) r
def Al(h:H)(r:OR)(k:AV->H->OR):OR:=Ap0 h k r
def xQu(P:Program)(Z:Ac)(ops:Array Oper)(lg:uw)(l:List Oper):KT->KT:=
 List.rec (λk f h=>k f (Be lg h))
  (λo _ d k f h=>Ap0 h (λv h'=>d k (Im o.dst v f) h') (Acv (guardOf ops o) o P Z f (Ab h))) l
def As4(q:Bool)(ops:Array Oper)(P:Program)(Z:Ac)(k:KT):KT:=λf h=>Bool.rec (xDr P Z ops h.lg (Ahn ops ops.toList 0) [] k f h) (xQu P Z ops h.lg ops.toList k f h) q
def Amp(q:Bool)(ops:Array Oper)(dr:Bool)(P:Program)(Z:Ac)(k:KT):KT:=
 Bool.rec (A54 P Z ops ops.toList k) (λf h=>Bool.rec (.bad 185) (As4 q ops P Z k f h) (AnB ops)) dr
def E4(id:Nat)(k:KT)(j:Nat->KT):Nat->KT:=λi f h=>Bool.rec (j i f h) (k f h) (Nat.beq i id)
def F2(b:KT->KT)(n:Nat):KT:=Nat.rec (λ_ _=>.bad 404) (λ_ d=>b d) n
def Big(d:Option Code)(n r:H->OR)(j:Nat->H->OR)(h:H):OR:=
 match d with
 |none=>n h
 |some .ret=>r h
 |some (.exit id)=>j id h
 |_=>.bad 188
def BdI(d:Option Code)(j:Nat->KT)(r k:KT)(f:L2)(h:H):OR:=Big d (k f) (r f) (λi=>j i f) h
def AyT(l:Nat)(e:Option Code->H->OR)(h:H):OR:=
 match h.m.get l with
 |.loop st g fr ps d bd=>Bool.rec (e g (h.put l (.loop 3 g fr ps d bd))) (.bad 189) (Nat.beq st 1)
 |_=>.bad 190
def rgX(P:Program)(Z:Ac)(x:AV)(ps:uw)(d bd:Code)(fr:L2)(E:Option Code->H->OR)(h:H):OR:=
 match vF x with
 |.yes (.func g) a cap=>Bool.rec (.bad 191) (Aa (Z.call g (J0 (J0 a [.fn (.yield (h.new (.dfr false)).nx) [] []]) cap) ((h.new (.dfr false)).new (.loop 0 none fr ps d bd))) (λ_ h1=>AyT (h.new (.dfr false)).nx E h1)) (Bg P g)
 |_=>.bad 192
def BbT(x:Operand)(ps:Array Tmp)(d body:Code)(P:Program)(Z:Ac)(j:Nat->KT)(r k:KT):KT:=λf h=>
 match vT (f.get Br)with
 |.yes ds=>rgX P Z (ev x f) ps.toList d body f (λp h1=>BdI p j r k (f.set Br (.Bj (.map h.nx::ds))) h1) h
 |.no=>.bad 192
abbrev XT:=Program->Ac->Nat->Bool->(Nat->KT)->KT->KT->KT
def A7f(k:KT):KT:=k
def A7g(k:KT):KT:=A7f k
def A7h(k:KT):KT:=A7g k
def A7i(k:KT):KT:=A7h k
def Lk(k:KT):KT:=A7i k
def xc(c:Code):XT:=Code.rec (λ_ _ _ _ _ _ k=>k) (λ_ ops dr P Z _ q _ _ k=>Amp q ops dr P Z k) (λ_ _ a b P Z N q j r k=>a P Z N q j r (Lk (b P Z N q j r k)))
 (λc _ _ a b P Z N q j r k f h=>Af (ev c f) (a P Z N q j r k f h) (b P Z N q j r k f h)) (λid _ a P Z N q j r k=>a P Z N q (E4 id k j) r k)
 (λ_ a P Z N q j r _=>F2 (λk=>a P Z N q j r k) N) (λx ps d bd _ _ P Z _ _ j r k=>BbT x ps d bd P Z j r k) (λid _ _ _ _ j _ _=>j id) (λ_ a=>a)
 (λ_ _ _ _ _ _ _ k=>k) (λ_ _ _ _ _ _ _ _ _ _=>.bad 193) (λ_ _ _ _ _ r _=>r) (λ_ _ _ _ _ _ _ _ _ _=>.bad 194) c
def dfE(r:Nat)(k:H->OR)(h:H):OR:=match h.m.get r with|.dfr false=>k (h.put r (.dfr true))|_=>.bad 194
def A9b(P:Program)(Z:Ac)(k:H->OR)(ds:uz):H->OR:=List.rec k
 (λd _ e h=>match vF d with
  |.yes (.func g) a cap=>Bool.rec (.bad 195) (Aa (Z.call g (J0 a cap) h) (λ_ h1=>e h1)) (Bg P g)
  |.no=>(match vM d with
   |.yes r=>dfE r e h
   |_=>.bad 196)
  |_=>.bad 196) ds
def A3b(P:Program)(Z:Ac)(rs:List ResultVar)(x:VA)(f:L2)(h:H):OR:=VA.rec (.bad 198) (λds=>A9b P Z (λh=>Gg P rs f h) ds h) x
def Bz(P:Program)(Z:Ac)(rs:List ResultVar):KT:=λf h=>A3b P Z rs (vT (f.get Br)) f h
def Ajy(P:Program)(Z:Ac)(N:Nat)(q:Bool)(args:uz)(h:H)(i:FI):OR:=
 Bool.rec (.bad 407) (xc i.body P Z N q (λ_ _ _=>.bad 406) (Bz P Z i.rs) (Bz P Z i.rs) (Eu args 0 Az) h) (Nat.ble (Q4 args) i.nt)
def Ay(P:Program)(Z:Ac)(N:Nat)(q:Bool)(g:FuncId)(args:uz)(h:H):OR:=Option.rec (.bad 405) (Ajy P Z N q args h) (Ln P g)
variable {P:Program}{Z:Ac}{h h':H}{v:AV}{f f':L2}
def Qu{r:OR}{k:AV->H->OR}(d:Aa r k=.ok v h'):∃u h1,r=.ok u h1/\k u h1=.ok v h':=by
 cases r with
 |bad n=>cases d
 |ok u h1=>exact⟨u,h1,rfl,d⟩
def Mc(j:Nat->KT)(r k:KT)(v:AV)(h':H):RC->Prop
|.bad _=>False
|.Bt f h=>k f h=.ok v h'
|.ext i f h=>j i f h=.ok v h'
|.ret f h=>r f h=.ok v h'
def Sy{ops:Array Oper}{o:Oper}{u:AV}{h1:H}(d:Acv (guardOf ops o) o P Z f h=.ok u h1):Fp ops o P Z f h=.Bt (Im o.dst u f) h1:=by
 have j:∀{u:AV} {h1:H},opX o P Z f h=.ok u h1->Ame o P Z f h=.Bt (Im o.dst u f) h1:=by
  intro u h1 d;unfold opX at d;show op1 o o.dst o.type P Z f h=_;unfold op1;cases hd:Ie o.op with
  |some c=>rw[hd]at d;cases d
  |none=>rw[hd]at d;have e:opD o.op o.type P Z f h=.ok u h1:=d;show Akx o.dst f (opD o.op o.type P Z f h)=_;rw[e];rfl
 show AjD (guardOf ops o) o P Z f h=_;unfold Acv at d;cases i:guardOf ops o with
 |bad=>rw[i]at d;cases d
 |always=>rw[i]at d;exact j d
 |on t w=>
  rw[i]at d;have e:Ad (f.get t) w (opX o P Z f h) h=.ok u h1:=d;show Amo (Adq (f.get t) w) o P Z f h=_;unfold Ad at e;cases g:Adq (f.get t) w with
  |yes=>rw[g]at e;exact j e
  |no=>rw[g]at e;cases e;rfl
  |bad=>rw[g]at e;cases e
def AkM{ops:Array Oper}{j:Nat->KT}{r k:KT}:∀(l:List Oper) (f:L2) (h:H),A54 P Z ops l k f h=.ok v h'->Mc j r k v h' (G3 P Z ops l f h):=by
 intro l;induction l with
 |nil=>intro f h p;exact p
 |cons o l q=>
  intro f h p;have e:(Option.rec (Apz (λv h'=>A54 P Z ops l k (Im o.dst v f) h') (Acv (guardOf ops o) o P Z f h)) (λ_=>BrW (A54 P Z ops l k) (Fp ops o P Z f h)) (Ie o.op):OR)=.ok v h':=p;show Mc j r k v h' (andThen (G3 P Z ops l) (Fp ops o P Z f h));cases hd:Ie o.op with
  |none=>
   rw[hd]at e;obtain⟨u,h1,h2,t⟩:=Qu (show Aa _ _=_ from e)
   rw[Sy h2];exact q _ _ t
  |some c=>
   rw[hd]at e;have d:BrW (A54 P Z ops l k) (Fp ops o P Z f h)=.ok v h':=e;cases g:Fp ops o P Z f h with
   |Bt f1 h1=>rw[g]at d;exact q _ _ d
   |bad n=>rw[g]at d;cases d
   |ext i f1 h1=>rw[g]at d;cases d
   |ret f1 h1=>rw[g]at d;cases d
def Ao0:∀l i e k d,(M7 l i e)[k]?=some d->(∃o,l[k]?=some o/\d.o=o)/\d.bit=Ka (i+k):=by intro l;induction l with
|nil=>intro i e k d hd;simp[M7]at hd
|cons o l j=>intro i e k d hd;cases k with
 |zero=>simp[M7]at hd;grind
 |succ k=>
  have g:=by simpa[M7]using hd
  grind
def Ags:∀l i d,(M7 l i d).length=l.length:=by intro l;induction l with
|nil=>intro i d;rfl
|cons o l e=>intro i d;show(M7 l ..).length+1=_;grind
def AkP ops:∀l (i k:Nat),(Ahn ops l i)[k]?=l[k]?.map λo=>⟨o,Ka (i+k),ApP ops (i+k)⟩:=by intro l;induction l with
|nil=>intro i k;rfl
|cons o l d=>intro i k;cases k with
 |zero=>rfl
 |succ k=>show(Ahn _ l _)[k]?=_;grind
def Aoz ops:Ahn ops ops.toList 0=M7 ops.toList 0 []:=by apply dg;intro k;rw[AkP];cases hd:(M7 _ 0 _)[k]? with
|none=>
 have h1:(M7 ops.toList 0 []).length<=k:=by grind
 rw[Ags]at h1;grind
|some d=>
 obtain⟨⟨o,h1,h2⟩,g⟩:=Ao0 _ _ _ _ _ hd;rw[h1];have e:ApP ops k=d.pr:=by unfold ApP;grind
 show some _=some d;rw[<- g,Rx,e,<- h2]
def Aow{ops:Array Oper}{lg:uw}{j:Nat->KT}{r k:KT}:∀(l:List DO) (d:List EF) (f:L2) (h:H),xDr P Z ops lg l d k f h=.ok v h'->Mc j r k v h' (Sp P Z ops lg l d f h):=by
 intro l;induction l with
 |nil=>
  intro d f h g;have e:Ff lg d h (λh'=>k f h')=.ok v h':=g;show Mc j r k v h' (Acf lg d f h);unfold Ff at e;unfold Acf;cases hb:Lh d with
  |false=>rw[hb]at e;cases e
  |true=>rw[hb]at e;exact e
 |cons o l i=>
  intro d f h g;obtain⟨u,h1,h2,p⟩:=Qu (show Aa _ _=_ from g)
  show Mc j r k v h' (RC.rec (motive:=λ_=>RC) RC.bad (λf' h'=>Sp P Z ops lg l (⟨o.bit,o.pr,wrote h.nx h'.lg,Gi P o.o.op f,h,h'⟩::d) f' h') (λ_ _ _=>.bad 184) (λ_ _=>.bad 184) (Fp ops o.o P Z f (Ab h)));rw[Sy h2];exact i _ _ _ p
def Ao1{l}(hn:Q6 l=true):l=[]:=by cases l with|nil=>rfl|cons a l=>cases hn
def Aoy{ops:Array Oper}{lg:uw}{j:Nat->KT}{r k:KT}:∀(l:List DO) (d:List EF) (f:L2) (h:H),(∀e∈d,e.w=[])->xQu P Z ops lg (l.map (·.o)) k f h=.ok v h'->Mc j r k v h' (Sp P Z ops lg l d f h):=by
 intro l;induction l with
 |nil=>
  intro d f h hq g;show Mc j r k v h' (Acf lg d f h);have h1:∀(all:List EF) (l:List EF),(∀e∈l,e.w=[])->Iu all l=true:=by
   intro all l;induction l with
   |nil=>intro _;rfl
   |cons e l p=>intro i;show(@Bool.rec (λ_=>Bool) (@Bool.rec (λ_=>Bool) false (Iu all l) (E2 e all)) (Iu all l) (Q6 e.w):Bool)=true;rw[i e (by simp)];exact p λx t=>i x (by simp[t])
  have h2:∀(l:List EF),(∀e∈l,e.w=[])->En l lg=lg:=by
   intro l;induction l with
   |nil=>intro _;rfl
   |cons e l p=>intro i;show Akm e.w (En l lg)=lg;rw[i e (by simp),p λx t=>i x (by simp[t])];rfl
  unfold Acf Lh;rw[h1 d d hq,h2 d hq];exact g
 |cons o l p=>
  intro d f h hq g;obtain⟨u,h1,h2,q⟩:=Qu (show Aa _ (λv h'=>@Bool.rec (λ_=>OR) (.bad 409) (xQu P Z ops lg (l.map (·.o)) k (Im o.o.dst v f) h') (Q6 (wrote h.nx h'.lg)))=_ from g)
  show Mc j r k v h' (RC.rec (motive:=λ_=>RC) RC.bad (λf' h'=>Sp P Z ops lg l (⟨o.bit,o.pr,wrote h.nx h'.lg,Gi P o.o.op f,h,h'⟩::d) f' h') (λ_ _ _=>.bad 184) (λ_ _=>.bad 184) (Fp ops o.o P Z f (Ab h)));rw[Sy h2];cases hb:Q6 (wrote h.nx h1.lg)with
  |false=>rw[hb]at q;cases q
  |true=>
   rw[hb]at q;refine p _ _ _ ?_ q;intro e g;rcases Wf.1 g with rfl|g
   .exact Ao1 hb
   .exact hq e g
def Ava:∀l i d,(M7 l i d).map (·.o)=l:=by intro l;induction l with
|nil=>intro i d;rfl
|cons o l e=>intro i d;show o::(M7 l ..).map _=_;grind
def S8(b:L2->H->RC)(n:Nat):L2->H->RC:=Nat.rec (λf h=>.Bt f h) (λ_ d f h=>andThen d (b f h)) n
def Adu a b r:andThen a (andThen b r)=andThen (λf h=>andThen a (b f h)) r:=by cases r<;>rfl
def AeC b m:∀n f h,S8 b (n+m) f h=andThen (S8 b m) (S8 b n f h):=by intro n;induction n with
|zero=>intro f h;rw[Rx];rfl
|succ n d=>intro f h;rw[Nat.succ_add];show andThen (S8 b _) _=andThen _ (andThen (S8 b n) _);rw[Adu];congr 1;grind
def Ake b:∀k f h,Yd b P Z k f h=S8 (b P Z) (2^k) f h:=by intro k;induction k with
|zero=>intro f h;show b P _ f h=andThen ..;cases b P _ f h<;>rfl
|succ k d=>intro f h;rw[Ov,Nat.mul_two,AeC];show andThen (Yd b P _ k) (Yd b P _ k f h)=_;rw[d f h];congr 1;grind
def A8a{ds f:L2}{l:Nat->KT}{r k:KT}{h1:H}{u:AV}(i:AyT j (λp h=>BdI p l r k f h) h1=.ok v h'):Mc l r k v h' (Mn f j (.ok u h1)):=by
 unfold AyT at i;show Mc l r k v h' (match h1.m.get j with
  |.loop st e fr ps d bd=>(Bool.rec (Z4 e f (h1.put j (.loop 3 e fr ps d bd))) (.bad 189) (Nat.beq st 1))
  |_=>.bad 190)
 cases t:h1.m.get j with
 |loop st e fr ps d bd=>
  rw[t]at i;have g:(Bool.rec (BdI e l r k f (h1.put j (.loop 3 e fr ps d bd))) (.bad 189) (Nat.beq st 1):OR)=.ok v h':=i;show Mc l r k v h' (Bool.rec (Z4 e f (h1.put j (.loop 3 e fr ps d bd))) (.bad 189) (Nat.beq st 1));cases q:Nat.beq st 1 with
  |true=>rw[q]at g;cases g
  |false=>
   rw[q]at g;have o:BdI e l r k f (h1.put j (.loop 3 e fr ps d bd))=.ok v h':=g;show Mc l r k v h' (Z4 e f (h1.put j (.loop 3 e fr ps d bd)));cases e with
   |none=>exact o
   |some c=>
    cases c with
    |ret=>exact o
    |exit id=>exact o
    |_=>cases o
 |_=>rw[t]at i;cases i
def As6(K:j<=1048576)(c:Code):∀(q:Nat->KT) (r k:KT) (f:L2) (h:H),xc c P Z j o q r k f h=.ok v h'->Mc q r k v h' (exec c P Z f h):=by
 induction c with
 |skip=>intro q r k f h d;exact d
 |region id ops dr=>
  intro q r k f h d;have N:Amp o ops dr P Z k f h=.ok v h':=d;cases dr with
  |false=>exact AkM _ _ _ N
  |true=>
   have A:(Bool.rec (.bad 185) (As4 o ops P Z k f h) (AnB ops):OR)=.ok v h':=N;show Mc q r k v h' (Gk P Z ops f h);unfold Gk;cases hn:AnB ops with
   |false=>rw[hn]at A;cases A
   |true=>
    rw[hn]at A;cases o with
    |false=>have C:xDr P Z ops h.lg (Ahn ops ops.toList 0) [] k f h=.ok v h':=A;rw[Aoz]at C;exact Aow _ _ _ _ C
    |true=>have C:xQu P Z ops h.lg ops.toList k f h=.ok v h':=A;rw[<- Ava ops.toList 0 []]at C;exact Aoy _ _ _ _ (λe d=>by cases d) C
 |seq a b t z=>
  intro q r k f h d;have h1:=t q r (xc b P Z j o q r k) f h d;show Mc q r k v h' (andThen (exec b P Z) (exec a P Z f h));cases p:exec a P Z f h with
  |bad n=>rw[p]at h1;exact h1.elim
  |Bt f1 h2=>rw[p]at h1;exact z q r k f1 h2 h1
  |ext i f1 h2=>rw[p]at h1;exact h1
  |ret f1 h2=>rw[p]at h1;exact h1
 |cond x a b t z=>
  intro q r k f h d;have N:Af (ev x f) (xc a P Z j o q r k f h) (xc b P Z j o q r k f h)=.ok v h':=d;show Mc q r k v h' (Al2 (ev x f) (exec a) (exec b) P Z f h);cases p:ev x f with
  |bool c=>
   rw[p]at N;cases c with
   |false=>exact z q r k f h N
   |true=>exact t q r k f h N
  |_=>rw[p]at N;cases N
 |block id a t=>
  intro q r k f h d;have h1:=t (E4 id k q) r k f h d;show Mc q r k v h' (inBlock id (exec a P Z f h));cases p:exec a P Z f h with
  |bad n=>rw[p]at h1;exact h1.elim
  |Bt f1 h2=>rw[p]at h1;exact h1
  |ext i f1 h2=>
   rw[p]at h1;have D:(Bool.rec (q i f1 h2) (k f1 h2) (Nat.beq i id):OR)=.ok v h':=h1;show Mc q r k v h' (Bool.rec (RC.ext i f1 h2) (RC.Bt f1 h2) (Nat.beq i id));cases hb:Nat.beq i id with
   |false=>rw[hb]at D;exact D
   |true=>rw[hb]at D;exact D
  |ret f1 h2=>rw[p]at h1;exact h1
 |loop a t=>
  intro q r k f h d;have E:∀n f h,F2 (λk=>xc a P Z j o q r k) n f h=.ok v h'->Mc q r (λ_ _=>.bad 0) v h' (S8 (exec a P Z) n f h):=by
   intro n;induction n with
   |zero=>intro f h d;cases d
   |succ n I=>
    intro f h d;have h1:=t q r (F2 (λk=>xc a P Z j o q r k) n) f h d;show Mc q r (λ_ _=>.bad 0) v h' (andThen (S8 (exec a P Z) n) (exec a P Z f h));cases p:exec a P Z f h with
    |bad n=>rw[p]at h1;exact h1.elim
    |Bt f1 h2=>rw[p]at h1;exact I f1 h2 h1
    |ext i f1 h2=>rw[p]at h1;exact h1
    |ret f1 h2=>rw[p]at h1;exact h1
  have h1:=E j f h d;show Mc q r k v h' (andThen (λ_ _=>.bad 187) (Yd (exec a) P Z 20 f h));rw[Ake,show(2:Nat)^20=1048576 from rfl]
  rw[show 1048576=j+(1048576-j)by omega,AeC]
  cases p:S8 (exec a P Z) j f h with
  |bad n=>rw[p]at h1;exact h1.elim
  |Bt f1 h2=>rw[p]at h1;cases h1
  |ext i f1 h2=>rw[p]at h1;exact h1
  |ret f1 h2=>rw[p]at h1;exact h1
 |rangeFunc x ps a b t z=>
  intro q r k f h d;have N:BbT x ps a b P Z q r k f h=.ok v h':=d;show Mc q r k v h' (AbV x ps a b (exec a) (exec b) P Z f h);unfold BbT rgX at N;unfold AbV;cases hd:vT (f.get Br)with
  |no=>rw[hd]at N;cases N
  |yes ds=>
   rw[hd]at N;cases F:vF (ev x f)with
   |no=>rw[F]at N;cases N
   |nil=>rw[F]at N;cases N
   |yes g l1 l2=>
    rw[F]at N;cases g with
    |func g=>
     show Mc q r k v h' (Yu P Z g l1 l2 ps.toList a b f (f.set Br (.Bj (.map h.nx::ds))) (h.new (.dfr false)));unfold Yu;cases hb:Bg P g with
     |false=>simp only[hb]at N;cases N
     |true=>simp only[hb]at N;obtain⟨u,h1,h2,J⟩:=Qu N;show Mc q r k v h' (Mn _ _ _);rw[h2];exact A8a (ds:=f) J
    |_=>cases N
 |exit id=>intro q r k f h d;exact d
 |ret=>intro q r k f h d;exact d
 |scope a t=>exact t
 |_=>intro q r k f h d;first|exact d|cases d
def Bgi{k:H->OR}:∀(ds:uz) (h:H),A9b P Z k ds h=.ok v h'->∃h1,D3 P Z ds h=.ok h1/\k h1=.ok v h':=by
 intro ds;induction ds with
 |nil=>intro h p;exact⟨h,rfl,p⟩
 |cons d ds t=>
  intro h p;have e:(match vF d with
   |.yes (.func g) a cap=>(Bool.rec (.bad 195) (Aa (Z.call g (J0 a cap) h) (λ_ h1=>A9b P Z k ds h1)) (Bg P g):OR)
   |.no=>(match vM d with
    |.yes r=>dfE r (A9b P Z k ds) h
    |_=>.bad 196)
   |_=>.bad 196)=.ok v h':=p
  unfold D3;cases o:vF d with
  |no=>
   rw[o]at e;cases j:vM d with
   |no=>rw[j]at e;cases e
   |nil=>rw[j]at e;cases e
   |yes r=>
    rw[j]at e;simp only[dfE]at e;cases q:h.m.get r with
    |dfr b=>
     rw[q]at e;cases b with
     |true=>cases e
     |false=>simp only[q];exact t _ e
    |_=>rw[q]at e;cases e
  |nil=>rw[o]at e;cases e
  |yes g a cap=>
   rw[o]at e;cases g with
   |func g=>
    have i:(Bool.rec (.bad 195) (Aa (Z.call g (J0 a cap) h) (λ_ h1=>A9b P Z k ds h1)) (Bg P g):OR)=.ok v h':=e;show ∃h1,(Bool.rec (.bad 195) ((match Z.call g (J0 a cap) h with|.ok _ h'=>D3 P Z ds h'|.bad n=>.bad n)) (Bg P g):RH)=.ok h1/\k h1=.ok v h';cases hb:Bg P g with
    |false=>rw[hb]at i;cases i
    |true=>
     rw[hb]at i;obtain⟨u,h1,h2,z⟩:=Qu (show Aa _ _=_ from i)
     show ∃h1,(match Z.call g (J0 a cap) h with|.ok _ h'=>D3 P Z ds h'|.bad n=>.bad n)=.ok h1/\k h1=.ok v h';rw[h2];exact t h1 z
   |_=>cases e
def Aa7{rs:List ResultVar}(g:Bz P Z rs f h=.ok v h'):finish P Z rs f h=.ok v h':=by
 have d:A3b P Z rs (vT (f.get Br)) f h=.ok v h':=g;unfold finish;cases e:vT (f.get Br)with
 |no=>rw[e]at d;cases d
 |yes ds=>rw[e]at d;obtain⟨h1,h2,i⟩:=Bgi ds h d;show RH.rec (motive:=λ_=>OR) .bad (λh'=>Gg P rs f h') (D3 P Z ds h)=.ok v h';rw[h2];exact i
def Jn{N}{q}(o:N<=1048576){g}{args}(e:Ay P Z N q g args h=.ok v h'):Fy P Z g args h=.ok v h':=by unfold Ay at e;unfold Fy;cases hi:Ln P g with
|none=>simp_all
|some i=>rw[hi]at e;have j:Ajy P _ N q _ h i=.ok v _:=e;show AbW P _ g _ h i=.ok v _;unfold Ajy at j;unfold AbW;cases hb:Nat.ble .. with
 |false=>simp_all
 |true=>rw[hb]at j;have h1:=As6 o _ _ _ _ _ _ j;cases d:exec _ P _ _ h with
  |bad n=>rw[d]at h1;exact h1.elim
  |Bt f1 h2=>rw[d]at h1;show Agk g (finish P _ _ ..)=_;rw[Aa7 h1];rfl
  |ext i f1 h2=>rw[d]at h1;cases h1
  |ret f1 h2=>rw[d]at h1;show Agk g (finish P _ _ ..)=_;rw[Aa7 h1];rfl
def A1q(l:Nat):Nat->KT:=λid _ h=>endRound l (some (.exit id)) h
def BaI(l:Nat):KT:=λ_ h=>endRound l none h
def A1r(l:Nat):KT:=λ_ h=>endRound l (some .ret) h
def Aze(P:Program)(Z:Ac)(N:Nat)(q:Bool)(l:Nat)(args:uz)(h:H):OR:=
 match h.m.get l with
 |.loop _ _ fr ps g bd=>
  match Uz ps args (fr.set Br (.map l))with
  |some f=>xc g P Z N q (A1q l) (A1r l) (λf h=>match h.m.get l with|.loop 0 i fr2 e d bd2=>xc bd P Z N q (A1q l) (A1r l) (BaI l) f (h.put l (.loop 1 i fr2 e d bd2))|_=>.bad 203) f h
  |none=>.bad 204
 |_=>.bad 205
def A7w{r:RC}(d:Mc (A1q j) (A1r j) (BaI j) v h' r):Agg j r=.ok v h':=by
 cases r with
 |bad n=>exact d.elim
 |Bt f h=>exact d
 |ext i f h=>exact d
 |ret f h=>exact d
def A1W(C:j<=1048576){l:Nat}{args:uz}(d:Aze P Z j o l args h=.ok v h'):Io P Z l args h=.ok v h':=by
 unfold Aze at d;unfold Io;cases E:h.m.get l with
 |loop st D fr ps p bd=>
  rw[E]at d;cases z:Uz ps args (fr.set Br (.map l))with
  |none=>simp only[z]at d;cases d
  |some f=>
   simp only[z]at d;simp only[z];have h1:=As6 C p _ _ _ _ _ d;apply A7w;cases t:exec p P Z f h with
   |bad n=>rw[t]at h1;exact h1.elim
   |ext i f1 h2=>rw[t]at h1;exact h1
   |ret f1 h2=>rw[t]at h1;exact h1
   |Bt f1 h2=>
    rw[t]at h1;show Mc (A1q l) (A1r l) (BaI l) v h' (Age P Z l bd f1 h2);unfold Age;have N:(match h2.m.get l with|.loop 0 D fr2 e g bd2=>xc bd P Z j o (A1q l) (A1r l) (BaI l) f1 (h2.put l (.loop 1 D fr2 e g bd2))|_=>.bad 203)=.ok v h':=h1;cases q:h2.m.get l with
    |loop A u fr2 e g bd2=>
     rw[q]at N;cases A with
     |zero=>
      have F:xc bd P Z j o (A1q l) (A1r l) (BaI l) f1 (h2.put l (.loop 1 u fr2 e g bd2))=.ok v h':=by simpa only using N
      exact As6 C bd _ _ _ _ _ F
     |succ n=>cases N
    |_=>rw[q]at N;cases N
 |_=>rw[E]at d;cases d
end
end Go.Ev
namespace Go.Ev
noncomputable section
abbrev C6(x y:OR)(b:Bool):OR:=Bool.rec x y b
def Aj(P:Program)(op:BinOp)(t:TypeId)(c:Bool)(x y:AV)(h:H):OR:=Atc x x y op t c P h
def Qe(op:UnOp)(x:AV)(h:H):OR:=
 match op with
 |.not=>match vB x with|.yes b=>.ok (.bool (Ib b)) h|.no=>.bad 44
 |.neg=>match vI x with|.yes k n=>.ok (.int k (E1 k (Int.sub 0 n))) h|.no=>.bad 45
 |_=>.bad 46
def Fu(x:AV)(h:H):OR:=C6 (.bad 28) (.ok x h) (notNil x)
def Ae(i:Option (Option Nat))(a:AV)(h:H):OR:=ldV a i h
def A4(n:Nat)(a x:AV)(h:H):OR:=stV a (cellsOf x) (some n) h
def Oy(e:TypeId)(x:AV)(h:H):OR:=AdR (cellsOf x) e h
def Sr:List (Nat × Nat × AV)->uz->Option uz
|[],cs=>some cs
|p::rest,cs=>
 match (some (p.1,p.2.1):Option (Nat × Nat)),cellsOf p.2.2 with
 |some (off,size),some v=>match Ng cs v off with|some D7=>Bool.rec none (Sr rest D7) (Nat.beq (Q4 v) size)|none=>none
 |_,_=>none
def B7(z:uz)(l:List (Nat × Nat × AV))(h:H):OR:=Ly (Sr l z) h
def Bh(e:TypeId)(s n:Nat)(z:uz)(l:List (Nat × Nat × AV))(h:H):OR:=
 match Sr l z with
 |some cs=>mk h (cd cs e) (.sl h.nx 0 n n s true)
 |none=>.bad 20
def Gc(s:Nat)(x i:AV)(h:H):OR:=Option.rec (.bad 92) (λn=>iaS x n s h) (Vg i)
def AxM(len s:Nat)(x i:AV)(h:H):OR:=Option.rec (.bad 92) (λn=>iaA x len n s h) (Vg i)
def xTA(z:AV)(d:TypeId)(ok:Bool)(x:AV)(h:H):OR:=
 match (some z:Option AV),vIf x with
 |some z,.nil=>C6 (.bad 103) (.ok (.Bj [z,ct]) h) ok
 |some z,.yes t v=>C6 (C6 (.bad 104) (.ok (.Bj [z,ct]) h) ok) (.ok (Bool.rec v (.Bj [v,ux]) ok) h) (Nat.beq t d)
 |_,_=>.bad 105
def A7a(i:SI)(s x:AV)(h:H):OR:=
 match Hd h i.s x with
 |some (n,new)=>match vL s with
  |.nil=>C6 (C6 (.bad 120) (C6 (.bad 120) (grow h i.e i.s new n) (Bm new)) (Gj (n*(i.bytes+1)))) (.ok .Bv h) (Nat.beq n 0)
  |.yes b off len cap d ex=>C6 (.bad 121) (C6 (.bad 121) (C6 (.bad 121) (Lg i b off len cap d ex n new h) (Nat.beq d i.s)) (Bm new)) (Gj ((len+n)*(i.bytes+1)))
  |.no=>.bad 122
 |none=>.bad 123
def Ds(e:TypeId)(s bytes:Nat)(x y:AV)(h:H):OR:=A7a ⟨e,s,bytes⟩ x y h
def fr(f:L2)(l:List (Nat × AV)):L2:=List.rec (λf=>f) (λp _ d f=>d (f.set p.1 p.2)) l f
def A5e(x:Option AV)(n:Nat):Option Operand:=Option.rec none (λ_=>some (.tmp n)) x
def avX(x:Option AV):AV:=Option.rec .top (λy=>y) x
def xSl(P:Program)(t:TypeId)(x:AV)(lo hi:Option AV)(h:H):OR:=Aac t (.tmp 0) (A5e lo 1) (A5e hi 2) none 0 P Q7 (fr Az [(0,x),(1,avX lo),(2,avX hi)]) h
def xIx(P:Program)(g:XI)(x i:AV)(h:H):OR:=
 match g,Vg i with
 |.str,some n=>ixS x n h
 |.arr len d,some n=>match vA x with
  |.yes cs=>C6 (.bad 95) (Py (Hc P d.e cs (n*d.s)) h) (Nat.blt n len)
  |.no=>.bad 96
 |_,_=>.bad 97
def BlW(i:Option (Option Nat))(o:Nat)(x:AV)(h:H):OR:=
 match vA x,(some (i,o):Option (Option (Option Nat) × Nat))with
 |.yes cs,some (i,o)=>Py (Tn i cs o) h
 |_,_=>.bad 86
def xLk(P:Program)(kt:TypeId)(z:AV)(ok:Bool)(m k:AV)(h:H):OR:=
 match (some ⟨kt,z⟩:Option MI),entries m h with
 |some d,some es=>match @Bool.rec (λ_=>Option (Option AV)) none (M1 (Gy P d.kt k) es) (Fe P d.kt k)with
  |some (some v)=>.ok (Bool.rec v (.Bj [v,ux]) ok) h
  |some none=>.ok (Bool.rec d.z (.Bj [d.z,ct]) ok) h
  |none=>.bad 98
 |_,_=>.bad 99
def As5(P:Program)(kt:TypeId)(z:AV)(m k x:AV)(h:H):OR:=
 match (some ⟨kt,z⟩:Option MI),vM m with
 |some d,.yes r=>
  (match h.m.get r with
  |.map es=>match @Bool.rec (λ_=>Option (List (AV × AV))) none (Z7 (Gy P d.kt k) k x es) (Fe P d.kt k)with|some Y8=>.ok (.Bj []) (h.put r (.map Y8))|none=>.bad 100
  |_=>.bad 101)
 |_,_=>.bad 102
def kid(c:Code)(i:Nat):Code:=
 match c,i with
 |.seq a _,0=>a
 |.seq _ b,_=>b
 |.cond _ a _,0=>a
 |.cond _ _ b,_=>b
 |.block _ a,_=>a
 |.loop a,_=>a
 |.scope a,_=>a
 |.rangeFunc _ _ a _,0=>a
 |.rangeFunc _ _ _ b,_=>b
 |c,_=>c
def sub(c:Code)(l:uw):Code:=List.rec (λc=>c) (λi _ d c=>d (kid c i)) l c
def Bc(P:Program)(g:FuncId):Code:=match Ln P g with|some i=>i.body|none=>.skip
def As(P:Program)(g:FuncId):List ResultVar:=match Ln P g with|some i=>i.rs|none=>[]
inductive RX where
|v (x:AV)
|c (i:Option (Option Nat)) (x:AV)
def AzF(h:H):List RX->Option uz
|[]=>some []
|.v x::rs=>match AzF h rs with|some l=>some (x::l)|none=>none
|.c i x::rs=>match AyY i x h,AzF h rs with|some v,some l=>some (v::l)|_,_=>none
def Vk(rs:List RX)(h:H):OR:=match AzF h rs with|some l=>.ok (single l) h|none=>.bad 197
def mnm(P:Program)(t:TypeId)(i:Nat):String:=match P.info? t with|some x=>(match x.methods[i]? with|some m=>m.name|none=>Jk)|none=>Jk
def AqV(x:AV):RS:=match x with|.map _=>.all|_=>.none
def Bs6(x:AV)(h:H):OR:=
 match vL x with
 |.nil=>.ok (.str []) h
 |.yes b off len _ _ _=>match h.rd b with
  |some c=>match Nf c off len with
   |some cs=>match Yj cs with|some s=>.ok (.str s) h|none=>.bad 53
   |none=>.bad 54
  |none=>.bad 55
 |.no=>.bad 56
def BwI(e:TypeId)(x:AV)(h:H):OR:=
 match vS x with
 |.yes s=>(Bool.rec (.bad 51) (.ok (.sl (Nat.succ h.nx) 0 (Y2 s) (Y2 s) 1 false) ((h.new (.Fb 0)).new (.cells (U2 s) e (.Gt h.nx)))) (Gj (Y2 s)))
 |.no=>.bad 52
def BwJ(x:AV)(h:H):OR:=
 match vP x with
 |.nil=>.ok .Ob h
 |.yes b off=>(match h.rd b with|some c=>(Bool.rec (.bad 57) (.ok (.ptr b off) h) (Nat.blt off (Q4 c)))|none=>.bad 58)
 |.no=>.bad 59
def BwH(P:Program)(u:TypeId)(x:AV)(h:H):OR:=
 match vP x with
 |.nil=>.ok .Ob h
 |.yes b off=>(match h.m.get b with|.cells c e .exact=>(Bool.rec (.bad 60) (.ok (.ptr b off) h) (Awp P e (Q4 c) off u))|_=>.bad 61)
 |.no=>.bad 62
def A6r(k:IntKind)(x:AV)(h:H):OR:=match vI x with|.yes _ n=>.ok (.int k (E1 k n)) h|.no=>.bad 47
end
end Go.Ev
namespace Go.Ev.Sx
open Go.Ev
variable [Ii]
variable {P:Program}{Z:Ac}{h h0 h1:H}{v x y:AV}
@[simp]def N2(v:AV)(h:H)(k:AV->H->OR):Aa (.ok v h) k=k v h:=rfl
def Si(v:AV)(h0 h1:H)(k:AV->H->OR)(hq:wrote h0.nx h1.lg=[]):Al h0 (.ok v h1) k=k v h1:=by show(Bool.rec (.bad 409) (k v h1) (Q6 (wrote h0.nx h1.lg)):OR)=_;rw[hq];rfl
@[simp]def Hv v h0 h1 k:Al h0 (.ok v (Ab h1)) k=k v (Ab h1):=Si v _ _ k rfl
@[simp]def Ep(a b:OR):Af ux a b=a:=rfl
@[simp]def Dq(a b:OR):Af ct a b=b:=rfl
@[simp]def A5u(r:OR)(h:H):Ad ux true r h=r:=rfl
@[simp]def Kk(r:OR)(h:H):Ad ct false r h=r:=rfl
@[simp]def A5t(r:OR)(h:H):Ad ux false r h=.ok (.Bj []) h:=rfl
@[simp]def A5s(r:OR)(h:H):Ad ct true r h=.ok (.Bj []) h:=rfl
@[simp]def A0V(l:uz)(w:Bool)(r:OR)(h:H):Ad (.Bj l) w r h=.ok (.Bj []) h:=rfl
@[simp]def A68(x y:AV)(h:H):Bo ux x y h=.ok x h:=rfl
@[simp]def A67(x y:AV)(h:H):Bo ct x y h=.ok y h:=rfl
@[simp]def Auu:(Ab h).m=h.m:=rfl
@[simp]def AcQ:(Ab h).nx=h.nx:=rfl
@[simp]def B9:(Ab h).lg=[]:=rfl
@[simp]def Te:Ab (Ab h)=Ab h:=rfl
@[simp]def A6A(lg:uw):(Be lg h).m=h.m:=rfl
@[simp]def Ait(lg:uw):(Be lg h).nx=h.nx:=rfl
@[simp]def Ca(lg:uw):(Be lg h).lg=lg:=rfl
@[simp]def Ais:Be h.lg (Ab h)=h:=rfl
@[simp]def Z9(o:AO):(h.new o).nx=h.nx+1:=rfl
@[simp]def Dn(o:AO):(h.new o).lg=h.lg:=rfl
@[simp]def ArH(b:Nat)(o:AO):(h.put b o).nx=h.nx:=rfl
@[simp]def Dp(b:Nat)(o:AO):(h.put b o).lg=b::h.lg:=rfl
omit [Ii]in
def AcO(o:AO)(b:Nat):(h.new o).m.get b=if b=h.nx then o else h.m.get b:=KM.N5 h.m h.nx b o
omit [Ii]in
def Air(c:Nat)(o:AO)(b:Nat):(h.put c o).m.get b=if b=c then o else h.m.get b:=KM.N5 h.m c b o
omit [Ii]in
@[simp]def Bf(o:AO):(h.new o).m.get h.nx=o:=by rw[AcO,Xo rfl]
omit [Ii]in
@[simp]def A2(c:Nat)(o:AO):(h.put c o).m.get c=o:=by rw[Air,Xo rfl]
omit [Ii]in
@[simp 900] theorem Cq(o:AO)(b:Nat)(h3:b≠h.nx):(h.new o).m.get b=h.m.get b:=by rw[AcO,X2 h3]
omit [Ii]in
@[simp 900] theorem Aq(c:Nat)(o:AO)(b:Nat)(h3:b≠c):(h.put c o).m.get b=h.m.get b:=by rw[Air,X2 h3]
omit [Ii]in
@[simp 800] theorem Azz(o:AO)(b:Nat)(h3:b<=h.nx)(h4:h.nx<=b):(h.new o).m.get b=o:=by rw[AcO,Xo om]
omit [Ii]in
@[simp]def Bx(n:Nat):wrote n []=[]:=rfl
def Am(n b:Nat)(l:uw)(hb:n<=b):wrote n (b::l)=wrote n l:=by
 show(Bool.rec (wrote n l) (b::wrote n l) (Nat.blt b n):uw)=_;have:Nat.blt b n=false:=by
  cases d:Nat.blt b n with
  |false=>rfl
  |true=>
   have e:b<n:=by simpa using d
   omega
 rw[this]
def AaS(b:Nat):h.rd b=rdO (h.m.get b) h:=rfl
@[simp]def AnQ(c:uz)(e:TypeId):rdO (cd c e) h=some c:=rfl
@[simp]def A69(c:uz)(e:TypeId)(k:Nat):rdO (.cells c e (.Gt k)) h=some c:=rfl
@[simp]def As0(b off:Nat)(vs:uz):h.wr b off vs=wrO (h.m.get b) b off vs h:=rfl
@[simp]def Afa(c:uz)(e:TypeId)(b off:Nat)(vs:uz):wrO (cd c e) b off vs h=wrL (Ng c vs off) b e h:=rfl
@[simp]def AuX(c:uz)(e:TypeId)(k:Nat)(b off:Nat)(vs:uz):wrO (.cells c e (.Gt k)) b off vs h=wrT (Ng c vs off) (Aj3 (h.m.get k)) k b e h:=rfl
@[simp]def AiK(c:uz)(b:Nat)(e:TypeId):wrL (some c) b e h=.ok (h.put b (cd c e)):=rfl
@[simp]def Asz(c:uz)(n k b:Nat)(e:TypeId):wrT (some c) (some n) k b e h=.ok ((h.put b (.cells c e (.Gt k))).put k (.Fb (n+1))):=rfl
@[simp]def Sn(n:Nat):Aj3 (.Fb n)=some n:=rfl
@[simp]def Agc:AnU (.ok h)=.ok (.Bj []) h:=rfl
@[simp]def AvB(k:IntKind)(n:Int):cellsOf (.int k n)=some [.int k n]:=rfl
@[simp]def Ati(b:Bool):cellsOf (.bool b)=some [.bool b]:=rfl
@[simp]def AvH(s:uw):cellsOf (.str s)=some [.str s]:=rfl
@[simp]def AvA(t:TypeId)(x:AV):cellsOf (.I6 t x)=some [.I6 t x]:=rfl
@[simp]def Atj:cellsOf .B3=some [.B3]:=rfl
@[simp]def AvE:cellsOf .Bv=some [.Bv]:=rfl
@[simp]def AxH(b o l c z:Nat)(e:Bool):cellsOf (.sl b o l c z e)=some [.sl b o l c z e]:=rfl
@[simp]def AvF(b o:Nat):cellsOf (.ptr b o)=some [.ptr b o]:=rfl
@[simp]def Av9(l:uz):cellsOf (.agg l)=some l:=rfl
@[simp]def AvD:cellsOf .Iy=some [.Iy]:=rfl
@[simp]def AxG(f:Fn)(a c:uz):cellsOf (.fn f a c)=some [.fn f a c]:=rfl
@[simp]def A4W(k:IntKind)(n:Int):Ge (.int k n)=true:=rfl
@[simp]def A06(b:Bool):Ge (.bool b)=true:=rfl
@[simp]def A5c(s:uw):Ge (.str s)=true:=rfl
@[simp]def A4V(t:TypeId)(x:AV):Ge (.I6 t x)=true:=rfl
@[simp]def A07:Ge .B3=true:=rfl
@[simp]def A4Z:Ge .Bv=true:=rfl
@[simp]def A66(b o l c z:Nat)(e:Bool):Ge (.sl b o l c z e)=true:=rfl
@[simp]def A5a(b o:Nat):Ge (.ptr b o)=true:=rfl
@[simp]def A4Y:Ge .Iy=true:=rfl
@[simp]def A65(f:Fn)(a c:uz):Ge (.fn f a c)=true:=rfl
@[simp]def A09:Ge .Ob=true:=rfl
@[simp]def A4X(r:Nat):Ge (.map r)=true:=rfl
@[simp]def A08:Ge .Td=true:=rfl
@[simp]def Atl:cellsOf .Ob=some [.Ob]:=rfl
@[simp]def AvC(r:Nat):cellsOf (.map r)=some [.map r]:=rfl
@[simp]def Atk:cellsOf .Td=some [.Td]:=rfl
@[simp]def Awo:Bm []=true:=rfl
@[simp]def Auc(a:AV)(l:uz):Bm (a::l)=(Ge a&&Bm l):=by
 show(@Bool.rec (λ_=>Bool) false (Bm l) (Ge a):Bool)=_
 cases Ge a<;>rfl
@[simp]def A4C(l:uz):Q4 l=l.length:=Gh l
@[simp]def AhR(l:uz)(n:Nat):AcE l n=l[n]?:=Ab6 l n
@[simp]def A0G(v:AV):Py (some v) h=.ok v h:=rfl
@[simp]def Awx(c:uz):Ly (some c) h=.ok (.agg c) h:=rfl
@[simp]def AlL(c:uz)(o:Nat):ldL (some none) c o h=Py (AcE c o) h:=rfl
@[simp]def AcC(n:Nat)(c:uz)(o:Nat):ldL (some (some n)) c o h=Ly (Nf c o n) h:=rfl
@[simp]def Nu(i:Option (Option Nat))(b o:Nat):Ae i (.ptr b o) h=ldC (rdO (h.m.get b) h) i o h:=rfl
@[simp]def S9(c:uz)(i:Option (Option Nat))(o:Nat):ldC (some c) i o h=ldL i c o h:=rfl
@[simp]def Adt(n b o:Nat)(x:AV):A4 n (.ptr b o) x h=stC (cellsOf x) (some n) b o h:=rfl
@[simp]def AiA(cs:uz)(n b o:Nat):stC (some cs) (some n) b o h=if cs.length=n/\Bm cs=true then AnU (h.wr b o cs)else .bad 26:=by
 show(@Bool.rec (λ_=>OR) (.bad 26) (@Bool.rec (λ_=>OR) (.bad 26) (AnU (h.wr b o cs)) (Bm cs)) (Nat.beq (Q4 cs) n):OR)=_
 rw[Gh]
 by_cases h1:cs.length=n
 .rw[h1,P3]
  cases h2:Bm cs<;>simp[h1]
 .rw[X2 (λhh=>h1 hh.1)]
  have:Nat.beq cs.length n=false:=by
   cases hb:Nat.beq cs.length n with
   |false=>rfl
   |true=>exact absurd (ao hb) h1
  rw[this]
@[simp]def Hg(e:TypeId)(l:uz):Oy e (.agg l) h=.ok (.ptr h.nx 0) (h.new (cd l e)):=rfl
@[simp]def AeI(o:AO)(v:AV):mk h o v=.ok v (h.new o):=rfl
@[simp]def E3(b o d:Nat):Bs (.ptr b o) d h=.ok (.ptr b (o+d)) h:=rfl
@[simp]def I0(b o:Nat):Fu (.ptr b o) h=.ok (.ptr b o) h:=rfl
@[simp]def A5R(l:uz)(i:Nat):L9 (.Bj l) i h=Py (AcE l i) h:=rfl
@[simp]def A0d(cs:uz):Sr [] cs=some cs:=rfl
def ApR(off size:Nat)(rest:List (Nat × Nat × AV))(cs:uz)(x:Option uz):Option uz:=
 match x with
 |some v=>if off+v.length<=cs.length/\v.length=size then Sr rest (cs.take off++v++cs.drop (off+v.length))else none
 |none=>none
@[simp]def AxS off size x rest cs:Sr ((off,size,x)::rest) cs=ApR off size rest cs (cellsOf x):=by
 show(match some (off,size),cellsOf x with
  |some (off,size),some v=>match Ng _ v _ with|some _=>Bool.rec _ ..|none=>none
  |_,_=>none)=_;unfold ApR;cases cellsOf x with
 |none=>rfl
 |some v=>
  simp[Kh,Gh];by_cases h1:off+v.length<=cs.length
  .by_cases h2:v.length=size;. rw[Xo h1,Xo ⟨h1,h2⟩];simp[h2,P3]
   .rw[Xo h1,X2 λhh=>h2 hh.2];have:Nat.beq v.length size=false:=by cases hb:Nat.beq .. with
     |false=>rfl
     |true=>exact absurd (ao hb) h2
    simp[this]
  .rw[X2 h1,X2 λhh=>h1 hh.1]
@[simp]def AxR(off size:Nat)(rest:List (Nat × Nat × AV))(cs v:uz):ApR off size rest cs (some v)=if off+v.length<=cs.length/\v.length=size then Sr rest (cs.take off++v++cs.drop (off+v.length))else none:=rfl
@[simp]def A1b(z:uz)(l:List (Nat × Nat × AV)):B7 z l h=Ly (Sr l z) h:=rfl
def bsl(x:Option uz)(e:TypeId)(s n:Nat)(h:H):OR:=match x with
|some cs=>.ok (.sl h.nx 0 n n s true) (h.new (cd cs e))
|none=>.bad 20
@[simp]def A1V(cs:uz)(e:TypeId)(s n:Nat):bsl (some cs) e s n h=.ok (.sl h.nx 0 n n s true) (h.new (cd cs e)):=rfl
@[simp]def AwA(e:TypeId)(s n:Nat)(z:uz)(l:List (Nat × Nat × AV)):Bh e s n z l h=bsl (Sr l z) e s n h:=by
 unfold Bh bsl
 cases Sr l z<;>rfl
def X7(a b:Int):ieq a b=decide (a=b):=by rw[Q1];by_cases d:a=b<;>simp[d]
@[simp]def A5y t c a b:Aj P .eql t c (.int .i64 a) (.int .i64 b) h=.ok (.bool (decide (a=b))) h:=by rw[<- X7];rfl
@[simp]def Y6 t c a b:Aj P .neq t c (.int .i64 a) (.int .i64 b) h=.ok (.bool !decide (a=b)) h:=by rw[<- X7];show OR.ok (.bool (Ib _)) h=_;cases ieq a b<;>rfl
@[simp]def Hf(t:TypeId)(c:Bool)(a b:Int):Aj P .lss t c (.int .i64 a) (.int .i64 b) h=.ok (.bool (decide (a<b))) h:=by rw[<- Il];rfl
@[simp]def A5z(t:TypeId)(c:Bool)(a b:Int):Aj P .gtr t c (.int .i64 a) (.int .i64 b) h=.ok (.bool (decide (b<a))) h:=by rw[<- Il];rfl
@[simp]def As2(t:TypeId)(c:Bool)(a b:Int):Aj P .leq t c (.int .i64 a) (.int .i64 b) h=.ok (.bool (decide (a<=b))) h:=by
 show OR.ok (.bool (Ib (ilt b a))) h=_
 rw[Il];by_cases hh:b<a
 .have:¬ a<=b:=by omega
  simp[hh,this,Ib]
 .have:a<=b:=by omega
  simp[hh,this,Ib]
@[simp]def As1(t:TypeId)(c:Bool)(a b:Int):Aj P .geq t c (.int .i64 a) (.int .i64 b) h=.ok (.bool (decide (b<=a))) h:=by
 show OR.ok (.bool (Ib (ilt a b))) h=_
 rw[Il];by_cases hh:a<b
 .have:¬ b<=a:=by omega
  simp[hh,this,Ib]
 .have:b<=a:=by omega
  simp[hh,this,Ib]
@[simp]def Uc(t:TypeId)(c:Bool)(a b:Int):Aj P .add t c (.int .i64 a) (.int .i64 b) h=.ok (.int .i64 (E1 .i64 (a+b))) h:=rfl
@[simp]def As3(t:TypeId)(c:Bool)(a b:Int):Aj P .sub t c (.int .i64 a) (.int .i64 b) h=.ok (.int .i64 (E1 .i64 (a-b))) h:=rfl
@[simp]def A50(t:TypeId)(c:Bool)(a b:Int):Aj P .mul t c (.int .i64 a) (.int .i64 b) h=.ok (.int .i64 (E1 .i64 (a*b))) h:=rfl
def Cr(n:Int)(h1:-9223372036854775808<=n)(h2:n<=9223372036854775807):E1 .i64 n=n:=by
 unfold E1 fits;rw[Il,Il];have e1:¬ (n<IntKind.min .i64):=by show ¬ (n < -9223372036854775808);omega
 have d:¬ (IntKind.max .i64<n):=by show ¬ ((9223372036854775807:Int)<n);omega
 rw[Yg e1,Yg d]
def Aap(a b:uw):Qh a b=decide (a=b):=by rw[Qi];by_cases d:a=b<;>simp[d]
@[simp]def A0X t c a b:Aj P .eql t c (.str a) (.str b) h=.ok (.bool (decide (a=b))) h:=by rw[<- Aap];rfl
@[simp]def A1a t c a b:Aj P .neq t c (.str a) (.str b) h=.ok (.bool !decide (a=b)) h:=by rw[<- Aap];show OR.ok (.bool (Ib _)) h=_;cases Qh a b<;>rfl
@[simp]def A0Z(t:TypeId)(c:Bool)(a b:uw):Aj P .lss t c (.str a) (.str b) h=.ok (.bool (Gn a b)) h:=rfl
@[simp]def A0Y(t:TypeId)(c:Bool)(a b:uw):Aj P .gtr t c (.str a) (.str b) h=.ok (.bool (Gn b a)) h:=rfl
@[simp]def A6N(b:Bool):Qe .not (.bool b) h=.ok (.bool (!b)) h:=by cases b<;>rfl
@[simp]def A6M(n:Int):Qe .neg (.int .i64 n) h=.ok (.int .i64 (E1 .i64 (0-n))) h:=rfl
@[simp]def A6L(z:AV)(t u:Nat)(x:AV):xTA z t true (.I6 u x) h=if u=t then .ok (.Bj [x,ux]) h else .ok (.Bj [z,ct]) h:=by
 show(C6 _ _ (Nat.beq u t):OR)=_
 by_cases hh:u=t
 .rw[Xo hh,hh,P3]
 .rw[X2 hh]
  have:Nat.beq u t=false:=by
   cases hb:Nat.beq u t with
   |false=>rfl
   |true=>exact absurd (ao hb) hh
  rw[this]
def A5j(x:Option uz)(o n:Nat)(h:H):OR:=match x with
|some c=>if o+n<=c.length then .ok (.agg ((c.drop o).take n)) h else .bad 197
|none=>.bad 197
@[simp]def AeO(c:uz)(o n:Nat):A5j (some c) o n h=if o+n<=c.length then .ok (.agg ((c.drop o).take n)) h else .bad 197:=rfl
@[simp]def BaC b o n:Vk [.c (some (some n)) (.ptr b o)] h=A5j (rdO (h.m.get b) h) o n h:=by show(match match match h.rd b with|some c=>Tn _ c o|none=>none,some _ with|some v,some l=>some (v::l)|_,_=>none with|some l=>OR.ok _ h|none=>.bad _)=_;rw[AaS];cases rdO _ h with
 |none=>rfl
 |some c=>
  show(match match (Nf c o n).map AV.agg,some _ with|some v,some l=>some (v::l)|_,_=>none with|some l=>OR.ok _ h|none=>.bad _)=_;rw[E5];by_cases hh:o+n<=c.length;. rw[Xo hh,AeO,Xo hh];rfl
  simp[*]
@[simp]def AxK(g:FuncId)(args:uz):cvV (.fn (.func g) [] []) args P Z h=if Bg P g=true then Z.call g args h else AgK (Uk P g) args h:=by
 show(@Bool.rec (λ_=>OR) (AgK (Uk P g) (J0 (J0 [] args) []) h) (Z.call g (J0 (J0 [] args) []) h) (Bg P g):OR)=_
 rw[Dl,Dl]
 simp only[T3,F0]
 cases Bg P g<;>rfl
@[simp]def A4J(k:IntKind)(n:Int)(hn:0<=n):Vg (.int k n)=some n.toNat:=by
 cases n with
 |ofNat m=>rfl
 |negSucc m=>omega
@[simp]def A03(k:IntKind)(n:Nat):Vg (.int k (n:Int))=some n:=rfl
@[simp]def A0A(cs:uz)(o:Nat):Tn (some none) cs o=AcE cs o:=rfl
@[simp]def A5h(t:TypeId)(cs:uz)(o:Nat):Hc P t cs o=Tn (Ft P t) cs o:=rfl
def AyV(r:Nat)(d:Option (List (AV × AV)))(h:H):OR:=match d with|some Y8=>.ok (.Bj []) (h.put r (.map Y8))|none=>.bad 100
@[simp]def A0x(r:Nat)(es:List (AV × AV)):AyV r (some es) h=.ok (.Bj []) (h.put r (.map es)):=rfl
def A4z(P:Program)(kt:TypeId)(k x:AV)(r:Nat)(o:AO)(h:H):OR:=match o with
|.map es=>AyV r (if Fe P kt k=true then Z7 (Gy P kt k) k x es else none) h
|_=>.bad 101
@[simp]def AqR(kt:TypeId)(k x:AV)(r:Nat)(es:List (AV × AV)):A4z P kt k x r (.map es) h=AyV r (if Fe P kt k=true then Z7 (Gy P kt k) k x es else none) h:=rfl
@[simp]def A53 kt z r k x:As5 P kt z (.map r) k x h=A4z P kt k x r (h.m.get r) h:=by
 show(match h.m.get r with
  |.map _=>match @Bool.rec (λ_=>Option (List (AV × AV))) _ .. with|some _=>OR.ok ..|none=>.bad _
  |_=>.bad _)=_;cases h.m.get r with
 |map es=>rw[AqR];cases Fe P _ k with
  |true=>rfl
  |false=>rfl
 |_=>rfl
def lkM(z:AV)(ok:Bool)(x:Option (Option AV))(h:H):OR:=match x with
|some (some v)=>.ok (if ok=true then .Bj [v,ux]else v) h
|some none=>.ok (if ok=true then .Bj [z,ct]else z) h
|none=>.bad 98
@[simp]def A4B(z v:AV)(ok:Bool):lkM z ok (some (some v)) h=.ok (if ok=true then .Bj [v,ux]else v) h:=rfl
@[simp]def A4A(z:AV)(ok:Bool):lkM z ok (some none) h=.ok (if ok=true then .Bj [z,ct]else z) h:=rfl
def lkO(P:Program)(kt:TypeId)(z:AV)(ok:Bool)(k:AV)(o:AO)(h:H):OR:=match o with
|.map es=>lkM z ok (if Fe P kt k=true then M1 (Gy P kt k) es else none) h
|_=>.bad 99
@[simp]def Auf(kt:TypeId)(z k:AV)(ok:Bool)(es:List (AV × AV)):lkO P kt z ok k (.map es) h=lkM z ok (if Fe P kt k=true then M1 (Gy P kt k) es else none) h:=rfl
@[simp]def A6J kt z ok r k:xLk P kt z ok (.map r) k h=lkO P kt z ok k (h.m.get r) h:=by
 show(match (some _:Option MI),match h.m.get r with|.map es=>some es|_=>none with
  |some _,some _=>match @Bool.rec (λ_=>Option (Option AV)) _ .. with
   |some (some v)=>OR.ok _ h
   |some none=>.ok _ h
   |none=>.bad _
  |_,_=>.bad _)=_;cases h.m.get r with
 |map es=>rw[Auf];show(match @Bool.rec (λ_=>Option (Option AV)) _ .. with
   |some (some v)=>OR.ok _ h
   |some none=>.ok _ h
   |none=>.bad _)=_;cases Fe P _ k with
  |true=>cases M1 .. with
   |none=>rfl
   |some x=>cases ok<;>rfl
  |false=>rfl
 |_=>rfl
@[simp]def A62:Fo .Bv h=.ok (.int .i64 0) h:=rfl
@[simp]def A98(b o l c z:Nat)(e:Bool):Fo (.sl b o l c z e) h=.ok (.int .i64 (l:Int)) h:=rfl
@[simp]def A63(s:uw):lnS (.str s) h=.ok (.int .i64 (s.length:Int)) h:=by show OR.ok (.int .i64 (.ofNat (Y2 s))) h=_;rw[Rf];rfl
def Agr(s b o l c z:Nat)(e:Bool)(n:Nat)(hn:n<l):Gc s (.sl b o l c z e) (.int .i64 (n:Int)) h=.ok (.ptr b (o+n*s)) h:=by
 show(Bool.rec (.bad 88) (.ok (.ptr b (Nat.add o (Nat.mul n s))) h) (Nat.blt n l):OR)=_;rw[show Nat.blt n l=true by simpa using hn]
 rfl
variable {Q R:AV->H->Prop}{k:AV->H->OR}{r:OR}{a b:OR}
@[simp]def A01(a:AV)(l:uz):(a::l)[0]?=some a:=rfl
@[simp]def A00(a:AV)(l:uz)(n:Nat):(a::l)[n+1]?=l[n]?:=rfl
variable {h2:H}{n m:Nat}
def Fi(n:Nat):Gj n=decide (n<1000000000000):=by
 show Nat.blt n 1000000000000=_;cases hb:Nat.blt n 1000000000000 with
 |true=>
  have:n<1000000000000:=by simpa using hb
  simp[this]
 |false=>
  have:¬ n<1000000000000:=λd=>by rw[show Nat.blt n 1000000000000=true by simpa using d]at hb;cases hb
  simp[this]
def Aw(n b:Nat)(l:uw)(hb:b<n):wrote n (b::l)=b::wrote n l:=by show(Bool.rec (wrote n l) (b::wrote n l) (Nat.blt b n):uw)=_;rw[show Nat.blt b n=true by simpa using hb]
@[simp]def A05:Q6 []=true:=rfl
@[simp]def A04(a:Nat)(l:uw):Q6 (a::l)=false:=rfl
@[simp]def A2T(l:List EF):Lh l=Iu l l:=rfl
@[simp]def A0c(all:List EF):Iu all []=true:=rfl
@[simp]def AvJ(all l:List EF)(b p:Nat)(r:RS)(h n:H):Iu all (⟨b,p,[],r,h,n⟩::l)=Iu all l:=rfl
@[simp]def A2S(all l:List EF)(b p x:Nat)(w:uw)(r:RS)(h n:H):Iu all (⟨b,p,x::w,r,h,n⟩::l)=(E2 ⟨b,p,x::w,r,h,n⟩ all&&Iu all l):=by
 show(@Bool.rec (λ_=>Bool) false (Iu all l) (E2 ⟨b,p,x::w,r,h,n⟩ all):Bool)=_
 cases E2 ⟨b,p,x::w,r,h,n⟩ all<;>rfl
@[simp]def Hw(e:EF):E2 e []=true:=rfl
@[simp]def Fz(e a:EF)(l:List EF):E2 e (a::l)=(Jo e a&&E2 e l):=by
 show(@Bool.rec (λ_=>Bool) false (E2 e l) (Jo e a):Bool)=_
 cases Jo e a<;>rfl
def Ahm:∀w:uw,Ahl w []=true
|[]=>rfl
|x::w=>by show(Bool.rec (Ahl w []) false (Ve x []):Bool)=true;exact Ahm w
def Yn(n:Nat):∀w:uw,outside w n n=true
|[]=>rfl
|x::w=>by
 show(Bool.rec (outside w n n) false (Bool.rec false (Nat.blt x n) (Nat.ble n x)):Bool)=true;have d:=Yn n w;cases h1:Nat.ble n x with
 |false=>exact d
 |true=>
  have h2:n<=x:=Ew h1;have g:Nat.blt x n=false:=by
   cases e:Nat.blt x n with
   |false=>rfl
   |true=>
    have:x<n:=by simpa using e
    omega
  rw[g];exact d
@[simp]def Ai1(e:EF)(b p:Nat)(h h1:H)(hn:h1.nx=h.nx):Jo e ⟨b,p,[],.none,h,h1⟩=true:=by
 show(@Bool.rec (λ_=>Bool) true (@Bool.rec (λ_=>Bool) (@Bool.rec (λ_=>Bool) false (@Bool.rec (λ_=>Bool) false (outside e.w h.nx h1.nx) (clear .none e.w h e.h e.h1)) (Ahl e.w [])) true (Nat.beq e.bit b)) (M4 (Nat.lor (Nat.land e.pr b) (Nat.land p e.bit))):Bool)=true
 rw[Ahm,hn,Yn]
 cases M4 (Nat.lor (Nat.land e.pr b) (Nat.land p e.bit))<;>cases Nat.beq e.bit b<;>rfl
def Ci(e:EF)(b p n:Nat)(m d:_)(l l1:uw):Jo e ⟨b,p,[],.none,⟨m,n,l⟩,⟨d,n,l1⟩⟩=true:=Ai1 e b p _ _ rfl
def Ax(g d:Nat)(t:uw)(u:RS)(j z:H)(i e:Nat)(C:uw)(q:RS)(A o:H)(p:M4 (Nat.lor (Nat.land d i) (Nat.land e g))=false):Jo ⟨g,d,t,u,j,z⟩ ⟨i,e,C,q,A,o⟩=true:=by show(Bool.rec true _ (M4 (Nat.lor (Nat.land d i) (Nat.land e g))):Bool)=true;rw[p]
def Ar(d e:Nat)(q:uw)(p:RS)(i t:H)(g:Nat)(z:uw)(o:RS)(u j:H):Jo ⟨d,e,q,p,i,t⟩ ⟨d,g,z,o,u,j⟩=true:=by show(Bool.rec true (Bool.rec _ true (Nat.beq d d)) (M4 (Nat.lor (Nat.land e d) (Nat.land g d))):Bool)=true;rw[P3];cases M4 (Nat.lor (Nat.land e d) (Nat.land g d))<;>rfl
@[simp]def At(lg:uw):En [] lg=lg:=rfl
@[simp]def AfT(x y:uw):Akm x y=x++y:=by
 induction x with
 |nil=>rfl
 |cons a x ih=>show a::Akm x y=_;rw[ih];rfl
@[simp]def Ap e l lg:En (e::l) lg=e.w++En l lg:=by rw[<- AfT];rfl
def So{lg:uw}{d:List EF}{k:H->OR}(e:Lh d=true):Ff lg d h k=k (Be (En d lg) h):=by show(Bool.rec (.bad 183) (k (Be (En d lg) h)) (Lh d):OR)=_;rw[e]
def Aav{t e:TypeId}{b off len cap s bytes:Nat}{ex:Bool}(i:Hp P t=.sl ⟨e,s,bytes⟩)(l:Nat):xSl P t (.sl b off len cap s ex) (some (.int .i64 (l:Int))) none h=AkE b off cap s ex l len h:=by
 have g:vL (ev (.tmp 0) (fr Az [(0,.sl b off len cap s ex),(1,.int .i64 (l:Int)),(2,.top)]))=.yes b off len cap s ex:=by kernel_rfl
 have e1:bnd (fr Az [(0,.sl b off len cap s ex),(1,.int .i64 (l:Int)),(2,.top)]) (some (.tmp 1)) 0=some l:=by kernel_rfl
 have d:bnd (fr Az [(0,.sl b off len cap s ex),(1,.int .i64 (l:Int)),(2,.top)]) none len=some len:=rfl;show G5 t (.tmp 0) (some (.tmp 1)) none none 0 P Q7 (fr Az [(0,.sl b off len cap s ex),(1,.int .i64 (l:Int)),(2,.top)]) h=_;unfold G5;rw[i];simp only[g,e1,d,P3]
def Aau{t e:TypeId}{b off len cap s bytes:Nat}{ex:Bool}(i:Hp P t=.sl ⟨e,s,bytes⟩)(u:Nat):xSl P t (.sl b off len cap s ex) none (some (.int .i64 (u:Int))) h=AkE b off cap s ex 0 u h:=by
 have g:vL (ev (.tmp 0) (fr Az [(0,.sl b off len cap s ex),(1,.top),(2,.int .i64 (u:Int))]))=.yes b off len cap s ex:=by kernel_rfl
 have e1:bnd (fr Az [(0,.sl b off len cap s ex),(1,.top),(2,.int .i64 (u:Int))]) none 0=some 0:=rfl;have d:bnd (fr Az [(0,.sl b off len cap s ex),(1,.top),(2,.int .i64 (u:Int))]) (some (.tmp 2)) len=some u:=by kernel_rfl
 show G5 t (.tmp 0) none (some (.tmp 2)) none 0 P Q7 (fr Az [(0,.sl b off len cap s ex),(1,.top),(2,.int .i64 (u:Int))]) h=_;unfold G5;rw[i];simp only[g,e1,d,P3]
section
end
end Go.Ev.Sx
namespace Go.Ev.Sx
open Go.Ev
variable {j:TypeId}{p:Type}
variable {P:Program}{Z:Ac}{h h0 h1 h2:H}{v x y:AV}{s len B1:Nat}{c c':uz}
structure Ai(h h':H):Prop where
 lo:h.nx<=h'.nx
 Cf:∀b,b<h.nx->h'.m.get b=h.m.get b
 lg:∀x∈h'.lg,x∈h.lg\/h.nx<=x
def Ai.refl h:Ai h h:=⟨Ye _,λ_ _=>rfl,λ_=>.inl⟩
def Ai.trans(e:Ai h h1)(g:Ai h1 h2):Ai h h2:=
 ⟨Xy e.lo g.lo,λb hb=>by rw[g.Cf b (Yy hb e.lo),e.Cf b hb],λx i=>by
  rcases g.lg x i with d|d;. exact e.lg x d
  .exact .inr (Xy e.lo d)⟩
def Ai.new(e:Ai h h1) o:Ai h (h1.new o):=
 ⟨by show h.nx<=h1.nx+1;have:=e.lo;omega,λb hb=>by rw[Cq o b (by have:=e.lo;omega),e.Cf b hb],e.lg⟩
def Ai.put(e:Ai h h1) c o(g:h.nx<=c):Ai h (h1.put c o):=
 ⟨e.lo,λb hb=>by rw[Aq c o b om,e.Cf b hb],λx d=>by
  rcases Wf.1 d with rfl|d;. omega
  .exact e.lg x d⟩
def Ai.nl(e:Ai h h1):Ai h (Ab h1):=⟨e.lo,e.Cf,λx d=>by cases d⟩
def Ai.Rc(e:Ai (Ab h) h1):Ai h h1:=⟨e.lo,e.Cf,λx g=>by
 rcases e.lg x g with d|d;. cases d
 simp_all⟩
def Ai.Be(e:Ai h h1)(d:Ai h h2):Ai h (Be h2.lg h1):=⟨e.lo,e.Cf,d.lg⟩
def Ai.quiet(e:Ai (Ab h) h1):wrote h.nx h1.lg=[]:=by have d:=e.lg;revert d;generalize h1.lg=l;intro d;induction l with
|nil=>rfl
|cons a l i=>
 have g:h.nx<=a:=by simp_all
 rw[Am _ _ _ g];grind
def A5i(h:H):CK->Prop
|.exact=>True
|.fz _=>True
|.Gt _=>True
|.Cf k st=>k<h.nx/\h.m.get k=.Fb st
structure Nv(h:H)(b:Nat)(cs:List AV):Prop where
 lt:b<h.nx
 cells:∃e k,h.m.get b=.cells cs e k/\A5i h k
@[simp]def A0E o:rdO o (Ab h)=rdO o h:=by cases o with|cells c e k=>cases k<;>rfl|_=>rfl
@[simp]def A0F o l:rdO o (Be l h)=rdO o h:=by cases o with|cells c e k=>cases k<;>rfl|_=>rfl
def Nv.rd{b}{cs}(d:Nv h b cs):rdO (h.m.get b) h=some cs:=by obtain⟨e,k,h1,h2⟩:=d.cells;rw[h1];cases k with
|Cf k st=>show @Bool.rec (λ_=>Option _) _ ..=some _;rw[h2.2];show Bool.rec _ _ (Nat.beq ..)=some _;simp
|_=>rfl
structure Bi(h h':H):Prop where
 lo:h.nx<=h'.nx
 cont:∀b cs,Nv h b cs->Nv h' b cs
def Bi.refl h:Bi h h:=⟨Ye _,λ_ _ d=>d⟩
def Bi.trans(e:Bi h h1)(d:Bi h1 h2):Bi h h2:=⟨Xy e.lo d.lo,λb cs g=>d.cont b _ (e.cont b _ g)⟩
def Ai.keeps(e:Ai h h1):Bi h h1:=⟨e.lo,λb cs d=>by obtain⟨t,k,h1,h2⟩:=d.cells;refine⟨Yy d.lt e.lo,t,k,by rw[e.Cf b d.lt];grind,?_⟩;cases k with
|Cf k st=>exact⟨Yy h2.1 e.lo,by rw[e.Cf k h2.1];exact h2.2⟩
|_=>trivial⟩
def Bi.nl(e:Bi h h1):Bi h (Ab h1):=⟨e.lo,λb cs d=>e.cont b _ d |> λq=>⟨q.lt,q.cells⟩⟩
def Bi.Be(e:Bi h h1) l:Bi h (Be l h1):=⟨e.lo,λb cs d=>e.cont b _ d |> λq=>⟨q.lt,q.cells⟩⟩
def Ah(h:H)(Q:AV->H->Prop)(r:OR):Prop:=∃v h',r=.ok v h'/\Ai h h'/\Q v h'
section
variable {Q R:AV->H->Prop}{k:AV->H->OR}{r a b:OR}
def Lo(e:Ai h0 h)(hq:Q v h):Ah h0 Q (.ok v h):=⟨v,h,rfl,e,hq⟩
def Ah.mono(d:Ah h0 R r)(hq:∀v h,Ai h0 h->R v h->Q v h):Ah h0 Q r:=by obtain⟨v,h1,rfl,e,q⟩:=d;exact⟨v,_,rfl,e,hq v _ e q⟩
def Ah.of(e:Ai h0 h)(d:Ah h Q r):Ah h0 Q r:=by obtain⟨v,h1,rfl,e1,q⟩:=d;exact⟨v,_,rfl,e.trans e1,q⟩
def X0{Φ:OR->Prop}(g:Ah h R r)(d:∀v h1,Ai h h1->R v h1->Φ (k v h1)):Φ (Aa r k):=by obtain⟨v,h1,rfl,e,hq⟩:=g;exact d v h1 e hq
def Aqb{Φ:OR->Prop}(g:Ah (Ab h) R r)(d:∀v h1,Ai h h1->R v h1->Φ (k v h1)):Φ (Al h r k):=by obtain⟨v,h1,rfl,e,hq⟩:=g;rw[Si _ _ _ _ e.quiet];exact d v h1 e.Rc hq
def Ey{Φ:OR->Prop}(e:r=.ok v h)(d:Φ (k v h)):Φ (Aa r k):=by rw[e];exact d
def Wb{Φ:OR->Prop}(d:Φ (k v h)):Φ (Aa (.ok v h) k):=d
def Acw{Φ:OR->Prop}(d:Φ (k v (Ab h))):Φ (Al h1 (.ok v (Ab h)) k):=by rw[Hv];exact d
def Ah6{Φ:OR->Prop}(hq:wrote h2.nx h1.lg=[])(d:Φ (k v h1)):Φ (Al h2 (.ok v h1) k):=by rw[Si v h2 h1 k hq];exact d
def Zx{Φ:OR->Prop}(d:Φ a):Φ (Af ux a b):=d
def Ae5{Φ:OR->Prop}(d:Φ b):Φ (Af ct a b):=d
def At5{Φ:OR->Prop}{c:Bool}(ha:c=true->Φ a)(hb:c=false->Φ b):Φ (Af (.bool c) a b):=by
 cases c
 .exact hb rfl
 .exact ha rfl
def AmM{Φ:OR->Prop}{c:Bool}(e:c=true->Φ (Aa r k))(d:c=false->Φ (k (.Bj []) h)):Φ (Aa (Ad (.bool c) true r h) k):=by
 cases c
 .exact d rfl
 .exact e rfl
def AmL{Φ:OR->Prop}{c:Bool}(e:c=true->Φ (k (.Bj []) h))(d:c=false->Φ (Aa r k)):Φ (Aa (Ad (.bool c) false r h) k):=by
 cases c
 .exact d rfl
 .exact e rfl
def gvR(d:Ah h0 Q (Aa r k)):Ah h0 Q (Aa r k):=d
end
def Sl(s:Nat)(h:H)(v:AV)(len:Nat)(c:uz):Prop:=
 (len=0/\c=[]/\v=.Bv)\/∃b off cap ex cs,v=.sl b off len cap s ex/\len<=cap/\Nv h b cs/\off+len*s<=cs.length/\(cs.drop off).take (len*s)=c
def Sl.By(o:Sl s h v len c)(e:Bi h h1):Sl s h1 v len c:=by
 rcases o with i|⟨b,off,cap,ex,cs,g,p,j,d⟩;. exact .inl i
 .exact .inr ⟨b,_,_,_,_,g,p,e.cont b _ j,d⟩
def Sl.gr(d:Sl s h v len c)(e:Ai h h1):Sl s h1 v len c:=d.By e.keeps
def Sl.Gs(d:Sl s h v len c):Fo v h1=.ok (.int .i64 len) h1:=by rcases d with⟨rfl,_,rfl⟩|⟨b,off,cap,ex,cs,rfl,_⟩<;>rfl
def Sl.Rv(d:Sl s h v len c):c.length=len*s:=by
 rcases d with⟨rfl,rfl,rfl⟩|⟨b,off,cap,ex,cs,g,j,i,e,o⟩;. simp
 grind
def Sl.src(e:Sl s h v len c):Hd h s v=some (len,c):=by
 rcases e with⟨rfl,rfl,rfl⟩|⟨b,off,cap,ex,cs,rfl,i,d,g,j⟩;. rfl
 .show(match h.rd b with|some c=>(Nf c ..).map _|none=>none)=_;rw[AaS,d.rd];simp[E5];grind
def Sl.ia(e:Sl s h v len c){i}(hi:i<len):∃b o cs,(∀h1,Gc s v (.int .i64 i) h1=.ok (.ptr b o) h1)/\Nv h b cs/\o+s<=cs.length/\(cs.drop o).take s=(c.drop (i*s)).take s:=by
 rcases e with⟨rfl,rfl,rfl⟩|⟨b,off,cap,ex,cs,rfl,q,d,j,g⟩;. omega
 .have p:i*s+s<=len*s:=by have:=D2 s (show i+1<=len by omega);grind
  refine⟨b,_,_,λh1=>Agr s b _ _ _ s _ i hi,d,by omega,?_⟩;rw[<- g,ea,de,au];grind
def Nv.many{b o n}{cs l}(i:Nv h b cs)(j:o+n<=cs.length)(g:(cs.drop o).take n=l):∀d,Bi h d->Ae (some (some n)) (.ptr b o) d=.ok (.agg l) d:=λd e=>by rw[Nu,(e.cont b _ i).rd,S9,AcC,E5,Xo j,g];rfl
def Nv.one{b o}{cs}(g:Nv h b cs)(i:cs[o]?=some x):∀d,Bi h d->Ae (some none) (.ptr b o) d=.ok x d:=λd e=>by rw[Nu,(e.cont b _ g).rd,S9,AlL,AhR,i];rfl
structure AsU(s:Nat)(h:H)(v:AV)(i:Nat)(l:List AV)(b o:Nat):Prop where
 ia:∀h1,Gc s v (.int .i64 (i:Int)) h1=.ok (.ptr b o) h1
 all:∀hh,Bi h hh->Ae (some (some s)) (.ptr b o) hh=.ok (.agg l) hh
 part:∀j x,l[j]?=some x->∀hh,Bi h hh->Ae (some none) (.ptr b (o+j)) hh=.ok x hh
 many:∀j n,j+n<=s->∀hh,Bi h hh->Ae (some (some n)) (.ptr b (o+j)) hh=.ok (.agg ((l.drop j).take n)) hh
def Sl.elem(d:Sl s h v len c){i}(hi:i<len){l}(e:(c.drop (i*s)).take s=l):∃b o,AsU s h v i l b o:=by
 obtain⟨b,o,cs,p1,p2,p3,p4⟩:=d.ia hi;rw[e]at p4;refine⟨b,o,p1,p2.many p3 p4,λj x g=>p2.one ?_,λj n hj=>p2.many om ?_⟩;. grind
 .rw[<- p4,ea,de,au];grind
def Afx{f:p->uz}(d:∀a,(f a).length=s):∀(l:List _) i x,l[i]?=some x->((l.flatMap f).drop (i*s)).take s=f x:=by intro l;induction l with
|nil=>simp
|cons a l e=>intro i x g;cases i with
 |zero=>grind
 |succ i=>rw[dh,ag,Ji,Nat.add_comm,<- au,List.drop_left' (d a)];simp_all
def Aa9{f:p->uz}(e:∀a,(f a).length=s)(l:List _):(l.flatMap f).length=l.length*s:=by induction l with
|nil=>simp
|cons a l d=>grind
abbrev R0{α:Type}(s:Nat)(f:α->uz)(h:H)(v:AV)(l:List α):Prop:=Sl s h v l.length (l.flatMap f)
def R0.elem{α}{f:α->List _}(g:∀a,(f a).length=s){l}(e:R0 s f h v l){i}{x}(d:l[i]?=some x):∃b o,AsU s h v i (f x) b o:=
 Sl.elem e (Xh.1 d).1 (Afx g l i x d)
def Sl.lit{cs}{e}(d:h1.m.get h.nx=cd cs e)(hn:h1.nx=h.nx+1)(g:cs.length=len*s):Sl s h1 (.sl h.nx 0 len len s true) len cs:=
 .inr ⟨_,0,_,_,_,rfl,Ye _,⟨by omega,e,_,d,trivial⟩,by omega,by grind⟩
def Fm(s lo:Nat)(et:TypeId)(h:H)(v:AV)(len:Nat)(c:uz):Prop:=
 (len=0/\c=[]/\v=.Bv)\/(len=0/\c=[]/\∃b off cs,v=.sl b off 0 0 s true/\Nv h b cs/\off<=cs.length) \/
 (∃b k st,v=.sl b 0 len len s false/\h.m.get b=.cells c et (.Gt k)/\h.m.get k=.Fb st/\lo<=b/\lo<=k/\b<h.nx/\k<h.nx/\b≠k/\c.length=len*s)
def Fm.sl{lo}{et}(d:Fm s lo et h v len c):Sl s h v len c:=by
 rcases d with h1|⟨rfl,rfl,b,off,cs,rfl,h2,q⟩|⟨b,k,st,rfl,g,t,j,u,e,o,p,i⟩;. exact .inl h1
 .exact .inr ⟨b,_,0,_,_,rfl,Ye _,h2,by omega,by simp⟩
 .exact .inr ⟨b,0,_,_,c,rfl,Ye _,⟨e,_,_,g,trivial⟩,by omega,by grind⟩
def Fm.gr{lo}{et}(j:Fm s lo et h v len c)(e:Ai h h1):Fm s lo et h1 v len c:=by
 rcases j with h1|⟨rfl,rfl,b,off,cs,rfl,h2,q⟩|⟨b,k,st,rfl,z,u,o,t,d,g,p,i⟩;. exact .inl h1
 .exact .inr (.inl ⟨rfl,rfl,b,_,_,rfl,e.keeps.cont b _ h2,q⟩)
 .exact .inr (.inr ⟨b,k,_,rfl,by rw[e.Cf b d];grind,by rw[e.Cf k g];omega,o,t,Yy d e.lo,Yy g e.lo,p,i⟩)
def Fm.nil s lo et h:Fm s lo et h .Bv 0 []:=.inl ⟨rfl,rfl,rfl⟩
def Fm.one{lo}{et}(e:Fm s lo et h v len c){d}(q:d<=lo):Fm s d et h v len c:=by
 rcases e with h1|h1|⟨b,k,st,i,o,j,p,t,g⟩;. exact .inl h1
 .exact .inr (.inl h1)
 .exact .inr (.inr ⟨b,k,_,i,o,j,by omega,by omega,g⟩)
def Bbs(o:AO):Prop:=(∀cs e k,o=.cells cs e k->k=.exact)/\∀n,o≠.Fb n
def Boj{o:AO}{cs:uz}(h:o=cd cs j):Bbs o:=by subst h;exact⟨λ_ _ _ h=>by cases h;rfl,λ_ h=>by cases h⟩
structure A6E(lo:Nat)(h h':H):Prop where
 st:∀(c:Nat),c<h.nx->Bbs (h.m.get c)->h'.m.get c=h.m.get c
 lg:∀x∈h'.lg,x∈h.lg\/(lo<=x/\∀cs e,h.m.get x≠.cells cs e .exact)\/h.nx<=x
def A6E.gr{lo:Nat}(g:Ai h h1):A6E lo h h1:=⟨λc d _=>g.Cf c d,λx e=>(g.lg x e).imp id .inr⟩
def Fm.BmA{bytes lo:Nat}{et:TypeId}(ho:Fm s lo et h x len c)(V:Hd h s y=some (B1,c'))(Ox:c'.length=B1*s)(hb:(len+B1)*(bytes+1)<1000000000000)(h1:Bm c'=true)(Kf:lo<=h.nx):
 ∃v h',Ds et s bytes x y h=.ok v h'/\Bi h h'/\(∀h0,h0.nx<=lo->Ai h0 h->Ai h0 h')/\Fm s lo et h' v (len+B1) (c++c')/\(∀b,b<lo->h'.m.get b=h.m.get b)/\A6E lo h h':=by
 have z:∀(cs:uz) (i:Nat),cs.length=i*s->(grow h et s cs i=.ok (.sl (Nat.succ h.nx) 0 i i s false) ((h.new (.Fb 0)).new (.cells cs et (.Gt h.nx))))/\Ai h ((h.new (.Fb 0)).new (.cells cs et (.Gt h.nx)))/\Fm s lo et ((h.new (.Fb 0)).new (.cells cs et (.Gt h.nx))) (.sl (Nat.succ h.nx) 0 i i s false) i cs:=by
  intro cs i hn;refine⟨rfl,((Ai.refl h).new _).new _,.inr (.inr ⟨h.nx+1,h.nx,0,rfl,Bf (h:=h.new (.Fb 0)) _,?_,by omega,Kf,by show h.nx+1<h.nx+1+1;omega,by show h.nx<h.nx+1+1;omega,by omega,hn⟩)⟩
  rw[Cq (h:=h.new (.Fb 0)) _ h.nx (by show h.nx≠h.nx+1;omega)]
  exact Bf _
 rcases ho with⟨rfl,rfl,rfl⟩|⟨rfl,rfl,b,off,cs,rfl,h2,h3⟩|⟨b,k,st,rfl,t,q,q4,O,q6,q7,q8,J⟩
 .rw[Rx]at hb ⊢;rw[T3];have D:Ds et s bytes .Bv y h=(match Hd h s y with
   |some (n,new)=>C6 (C6 (.bad 120) (C6 (.bad 120) (grow h et s new n) (Bm new)) (Gj (n*(bytes+1)))) (.ok .Bv h) (Nat.beq n 0)
   |none=>.bad 123):=rfl
  rw[D,V];by_cases h0:B1=0
  .subst h0;have C:c'=[]:=T5.1 om;subst C;exact⟨_,_,rfl,Bi.refl h,λ_ _ e=>e,Fm.nil ..,λ_ _=>rfl,A6E.gr (Ai.refl h)⟩
  .obtain⟨g1,g2,g3⟩:=z c' B1 Ox;have h2:Nat.beq B1 0=false:=by cases B1 with|zero=>omega|succ k=>rfl
   simp only[h2,h1,Fi,Ws hb];exact⟨_,_,g1,g2.keeps,λh0 _ e=>e.trans g2,g3,λb hb=>g2.Cf b om,A6E.gr g2⟩
 .rw[Rx]at hb ⊢;rw[T3];have D:Ds et s bytes (.sl b off 0 0 s true) y h=(match Hd h s y with
   |some (n,new)=>C6 (.bad 121) (C6 (.bad 121) (C6 (.bad 121) (Lg ⟨et,s,bytes⟩ b off 0 0 s true n new h) (Nat.beq s s)) (Bm new)) (Gj ((0+n)*(bytes+1)))
   |none=>.bad 123):=rfl
  rw[D,V];simp only[h1,Fi,Rx,Ws hb,P3];by_cases h0:B1=0
  .subst h0;have C:c'=[]:=T5.1 om;subst C;exact⟨_,_,rfl,Bi.refl h,λ_ _ e=>e,.inr (.inl ⟨rfl,rfl,b,off,cs,rfl,h2,h3⟩),λ_ _=>rfl,A6E.gr (Ai.refl h)⟩
  .obtain⟨g1,g2,g3⟩:=z c' B1 Ox;have L:Nat.ble (Nat.add 0 B1) 0=false:=by
    cases g:Nat.ble (Nat.add 0 B1) 0 with
    |false=>rfl
    |true=>have:0+B1<=0:=Ew g;omega
   have U:(C6 (.bad 121) (C6 (.bad 121) (C6 (.bad 121) (Lg ⟨et,s,bytes⟩ b off 0 0 s true B1 c' h) true) true) true:OR)=grow h et s c' B1:=by show(C6 _ _ (Nat.ble (Nat.add 0 B1) 0):OR)=_;rw[L];show Sf ⟨et,s,bytes⟩ b off 0 (Nat.add 0 B1) c' h=_;unfold Sf;rw[AaS,h2.rd];have h5:Nat.add 0 B1=B1:=Rx B1;simp only[E5,h5,Ou,Vw,h3,Jr,Rk,Dl,T3]
   rw[U];exact⟨_,_,g1,g2.keeps,λh0 _ e=>e.trans g2,g3,λb hb=>g2.Cf b om,A6E.gr g2⟩
 .have D:Ds et s bytes (.sl b 0 len len s false) y h=(match Hd h s y with
   |some (n,new)=>C6 (.bad 121) (C6 (.bad 121) (C6 (.bad 121) (Lg ⟨et,s,bytes⟩ b 0 len len s false n new h) (Nat.beq s s)) (Bm new)) (Gj ((len+n)*(bytes+1)))
   |none=>.bad 123):=rfl
  rw[D,V];simp only[h1,Fi,Ws hb,P3];by_cases h0:B1=0
  .subst h0;have C:c'=[]:=T5.1 om;subst C;refine⟨.sl b 0 (len+0) len s false,h,?_,Bi.refl h,λ_ _ e=>e,.inr (.inr ⟨b,k,st,rfl,by rw[F0];exact t,q,q4,O,q6,q7,q8,by rw[F0];exact J⟩),λ_ _=>rfl,A6E.gr (Ai.refl h)⟩;show(C6 _ _ (Nat.ble (Nat.add len 0) len):OR)=_;rw[show Nat.ble (Nat.add len 0) len=true from br (Ye _)]
   rfl
  .have L:Nat.ble (Nat.add len B1) len=false:=by
    cases g:Nat.ble (Nat.add len B1) len with
    |false=>rfl
    |true=>have:len+B1<=len:=Ew g;omega
   have U:(C6 (.bad 121) (C6 (.bad 121) (C6 (.bad 121) (Lg ⟨et,s,bytes⟩ b 0 len len s false B1 c' h) true) true) true:OR)=.ok (.sl h.nx 0 (len+B1) (len+B1) s false) (((h.put b (.cells c et (.Cf k st))).put k (.Fb st)).new (.cells (c++c') et (.Gt k))):=by show(C6 _ _ (Nat.ble (Nat.add len B1) len):OR)=_;rw[L];show Ny ⟨et,s,bytes⟩ b 0 len (Nat.add len B1) c' h=_;unfold Ny;rw[t];simp only[q,Sn,E5,J,Rx,Ye,Jr,Gh,P3,Dl];rfl
   rw[U];have I:∀j,j<h.nx->j≠b->j≠k->(((h.put b (.cells c et (.Cf k st))).put k (.Fb st)).new (.cells (c++c') et (.Gt k))).m.get j=h.m.get j:=λj h5 h6 h7=>by rw[Cq (h:=(h.put b (.cells c et (.Cf k st))).put k (.Fb st)) _ j (by show j≠h.nx;omega),Aq _ _ _ h7,Aq _ _ _ h6]
   have M:(((h.put b (.cells c et (.Cf k st))).put k (.Fb st)).new (.cells (c++c') et (.Gt k))).m.get b=.cells c et (.Cf k st):=by rw[Cq (h:=(h.put b (.cells c et (.Cf k st))).put k (.Fb st)) _ b (by show b≠h.nx;omega),Aq _ _ _ q8,A2]
   have o:(((h.put b (.cells c et (.Cf k st))).put k (.Fb st)).new (.cells (c++c') et (.Gt k))).m.get k=.Fb st:=by rw[Cq (h:=(h.put b (.cells c et (.Cf k st))).put k (.Fb st)) _ k (by show k≠h.nx;omega),A2]
   refine⟨_,_,rfl,⟨by show h.nx<=h.nx+1;omega,λj cs hj=>?_⟩,λh0 hh0 e=>((e.put b _ om).put k _ om).new _,.inr (.inr ⟨h.nx,k,st,rfl,Bf (h:=(h.put b (.cells c et (.Cf k st))).put k (.Fb st)) _,o,Kf,O,by show h.nx<h.nx+1;omega,by show k<h.nx+1;omega,by omega,by rw[Xi,J,Ox,ag]⟩),λj hj=>I j om om om,⟨λj hj d=>I j hj (λp=>by rw[p,t]at d;cases d.1 _ _ _ rfl) (λp=>by rw[p,q]at d;exact d.2 _ rfl),λx g=>?_⟩⟩
   .refine⟨by show j<h.nx+1;have:=hj.lt;omega,?_⟩
    obtain⟨e,kk,u,E⟩:=hj.cells;by_cases A:j=b
    .subst A;rw[t]at u;cases u;exact⟨et,.Cf k st,M,by show k<h.nx+1;omega,o⟩
    .have K:j≠k:=λp=>by rw[p,q]at u;cases u
     refine⟨e,kk,by rw[I j hj.lt A K];exact u,?_⟩;cases kk with
     |Cf F st2=>
      refine⟨by show F<h.nx+1;have:=E.1;omega,?_⟩
      by_cases Z0:F=k
      .subst Z0;rw[o,<- q];exact E.2
      .have S:F≠b:=λp=>by have:=E.2;rw[p,t]at this;cases this
       rw[I F E.1 S Z0];exact E.2
     |_=>trivial
   .rcases Wf.1 (show x∈k::b::h.lg from g)with rfl|g
    .exact .inr (.inl ⟨O,λcs e d=>by rw[q]at d;cases d⟩)
    .rcases Wf.1 g with rfl|g
     .exact .inr (.inl ⟨q4,λcs e d=>by rw[t]at d;cases d⟩)
     .exact .inl g
def Fm.AbQ{bytes lo:Nat}{et:TypeId}(d:Fm s lo et h x len c)(g:Hd h s y=some (B1,c'))(i:c'.length=B1*s)(hb:(len+B1)*(bytes+1)<1000000000000)(h1:Bm c'=true)(Kf:lo<=h.nx):
 ∃v h',Ds et s bytes x y h=.ok v h'/\Bi h h'/\(∀h0,h0.nx<=lo->Ai h0 h->Ai h0 h')/\Fm s lo et h' v (len+B1) (c++c')/\(∀b,b<lo->h'.m.get b=h.m.get b):=by
 obtain⟨v,h',j,p,o,e,q,_⟩:=d.BmA g i hb h1 Kf;exact⟨v,h',j,p,o,e,q⟩
def Bbe(x:Option uz)(o n:Nat)(v:AV)(h:H):OR:=match x with
|some c=>if o+n<=c.length then .ok (.Bj [.agg ((c.drop o).take n),v]) h else .bad 197
|none=>.bad 197
@[simp]def AoF(c:uz)(o n:Nat)(v:AV):Bbe (some c) o n v h=if o+n<=c.length then .ok (.Bj [.agg ((c.drop o).take n),v]) h else .bad 197:=rfl
@[simp]def Bii(b o n:Nat)(v:AV):Vk [.c (some (some n)) (.ptr b o),.v v] h=Bbe (rdO (h.m.get b) h) o n v h:=by
 show(match (match (match h.rd b with|some c=>Tn (some (some n)) c o|none=>none),(some [v]:Option uz)with|some v,some l=>some (v::l)|_,_=>none)with|some l=>OR.ok (single l) h|none=>.bad 197)=_
 rw[AaS]
 cases rdO (h.m.get b) h with
 |none=>rfl
 |some c=>
  show(match (match (Nf c o n).map AV.agg,(some [v]:Option uz)with|some v,some l=>some (v::l)|_,_=>none)with|some l=>OR.ok (single l) h|none=>.bad 197)=_
  rw[E5]
  by_cases hh:o+n<=c.length
  .rw[Xo hh,AoF,Xo hh];rfl
  .rw[X2 hh,AoF,X2 hh];rfl
def Sg{bytes lo b off}{et}{cs}(h2:Nv h b cs)(d:off<=cs.length)(g:Hd h s y=some (B1,c'))(j:c'.length=B1*s)(hb:B1*(bytes+1)<1000000000000)(h1:Bm c'=true)(Kf:lo<=h.nx):
 ∃v h',Ds et s bytes (.sl b off 0 0 s true) y h=.ok v h'/\Ai h h'/\Fm s lo et h' v B1 c':=by
 have o:Ds et s bytes (.sl b off 0 0 s true) y h=match Hd h s y with
  |some (n,new)=>C6 _ ..
  |none=>.bad _:=rfl;rw[o,g];simp[h1,Fi,Rx,Ws hb,P3];by_cases h0:B1=0;. subst h0;have q:c'=[]:=T5.1 om;subst q;exact⟨_,_,rfl,Ai.refl h,.inr (.inl ⟨rfl,rfl,b,_,_,rfl,h2,d⟩)⟩
 .have i:Nat.ble (Nat.add 0 B1) 0=false:=by cases t:Nat.ble _ 0 with
   |false=>rfl
   |true=>simp_all
  have e:C6 (.bad 121) (C6 (.bad 121) (C6 (.bad 121) (Lg ⟨et,s,bytes⟩ b off 0 0 s true B1 c' h) true) true) true=grow h et s c' B1:=by show C6 _ _ (Nat.ble _ 0)=_;rw[i];unfold Sf;rw[AaS,h2.rd];have p:Nat.add 0 _=B1:=Rx _;simp[E5,p,Ou,Vw,d,Jr,Rk,Dl,T3]
  rw[e];refine⟨_,_,rfl,((Ai.refl h).new _).new _,.inr (.inr ⟨_,_,0,rfl,Bf _,?_,by omega,Kf,by simp,by simp_all;omega,by simp,j⟩)⟩;rw[Cq _ _ (by simp)];simp
def Nn{b off cap d l u}{ex}(h1:l<=u)(h2:u<=cap):AkE b off cap d ex l u h=if l<cap then .ok (.sl b (off+l*d) (u-l) (cap-l) d ex) h else if ex=true then .ok (.sl b off 0 0 d true) h else if l=0 then .ok (.sl b off 0 0 d ex) h else .ok (.sl b (off+1) 0 0 0 false) h:=by
 show Bool.rec _ ..=_;rw[show Nat.ble l u=true by simp[*],show Nat.ble u _=true by simp_all];by_cases e:l<cap;. rw[Xo e,show Nat.blt l _=true by simp[*]];rfl
 .rw[X2 e,show Nat.blt l _=false by cases hb:Nat.blt l _ with
   |false=>rfl
   |true=>simp_all;omega];cases ex with
  |true=>rfl
  |false=>
   by_cases g:l=0;. simp_all
   .have:Nat.beq l 0=false:=by cases l with|zero=>omega|succ k=>rfl
    simp_all
def Ads{t e}{bytes}(i:Hp P t=.sl ⟨e,s,bytes⟩):xSl P t .Bv none (some (.int .i64 0)) h=.ok .Bv h:=by have g:vL (ev (.tmp 0) (fr Az [(0,.Bv),(1,.top),(2,.int .i64 0)]))=.nil:=rfl;have e1:bnd (fr Az [(0,.Bv),(1,.top),(2,.int .i64 0)]) none 0=some 0:=rfl;have d:bnd (fr Az [(0,.Bv),(1,.top),(2,.int .i64 0)]) (some (.tmp 2)) 0=some 0:=rfl;show G5 t (.tmp 0) none (some (.tmp 2)) none 0 P Q7 (fr Az [(0,.Bv),(1,.top),(2,.int .i64 0)]) h=_;unfold G5;grind
def BwX{e:TypeId}{bytes:Nat}(i:Hp P j=.sl ⟨e,s,bytes⟩):xSl P j .Bv (some (.int .i64 0)) none h=.ok .Bv h:=by
 have g:vL (ev (.tmp 0) (fr Az [(0,.Bv),(1,.int .i64 0),(2,.top)]))=.nil:=by kernel_rfl
 have e1:bnd (fr Az [(0,.Bv),(1,.int .i64 0),(2,.top)]) (some (.tmp 1)) 0=some 0:=by kernel_rfl
 have d:bnd (fr Az [(0,.Bv),(1,.int .i64 0),(2,.top)]) none 0=some 0:=rfl;show G5 j (.tmp 0) (some (.tmp 1)) none none 0 P Q7 (fr Az [(0,.Bv),(1,.int .i64 0),(2,.top)]) h=_;unfold G5;rw[i];simp only[g,e1,d]
def A3e{t:TypeId}{a:uw}{k:Nat}(i:Hp P t=.str)(g:k<=a.length):xSl P t (.str a) (some (.int .i64 (k:Int))) none h=.ok (.str (a.drop k)) h:=by
 have d:vS (ev (.tmp 0) (fr Az [(0,.str a),(1,.int .i64 (k:Int)),(2,.top)]))=.yes a:=by kernel_rfl
 have e1:bnd (fr Az [(0,.str a),(1,.int .i64 (k:Int)),(2,.top)]) (some (.tmp 1)) 0=some k:=by kernel_rfl
 have e:bnd (fr Az [(0,.str a),(1,.int .i64 (k:Int)),(2,.top)]) none (Y2 a)=some (Y2 a):=rfl;show G5 t (.tmp 0) (some (.tmp 1)) none none 0 P Q7 (fr Az [(0,.str a),(1,.int .i64 (k:Int)),(2,.top)]) h=_;unfold G5;rw[i];simp only[d,e1,e];show(Bool.rec (.bad 71) (Bool.rec (.bad 71) (.ok (.str (Aw2 (Nat.sub (Y2 a) k) (Aw1 a k))) h) (Nat.ble (Y2 a) (Y2 a))) (Nat.ble k (Y2 a)):OR)=_;rw[Rf,show Nat.ble k a.length=true by simpa using g,show Nat.ble a.length a.length=true by simp,Asg,Asc]
 show OR.ok (.str ((a.drop k).take (a.length-k))) h=_;rw[R4 (by simp)]
def Awe{a:uw}{k:Nat}(i:Hp P j=.str)(g:k<=a.length):xSl P j (.str a) none (some (.int .i64 (k:Int))) h=.ok (.str (a.take k)) h:=by
 have d:vS (ev (.tmp 0) (fr Az [(0,.str a),(1,.top),(2,.int .i64 (k:Int))]))=.yes a:=by kernel_rfl
 have e1:bnd (fr Az [(0,.str a),(1,.top),(2,.int .i64 (k:Int))]) none 0=some 0:=rfl;have e:bnd (fr Az [(0,.str a),(1,.top),(2,.int .i64 (k:Int))]) (some (.tmp 2)) (Y2 a)=some k:=by kernel_rfl
 show G5 j (.tmp 0) none (some (.tmp 2)) none 0 P Q7 (fr Az [(0,.str a),(1,.top),(2,.int .i64 (k:Int))]) h=_;unfold G5;rw[i];simp only[d,e1,e];show(Bool.rec (.bad 71) (Bool.rec (.bad 71) (.ok (.str (Aw2 (Nat.sub k 0) (Aw1 a 0))) h) (Nat.ble k (Y2 a))) (Nat.ble 0 k):OR)=_;rw[Rf,show Nat.ble k a.length=true by simpa using g,show Nat.ble 0 k=true by simp,Asg,Asc]
 rfl
def A6v(t:TypeId)(d:Bool)(a b:uw)(hb:a.length+b.length<1000000000000):Aj P .add t d (.str a) (.str b) h=.ok (.str (a++b)) h:=by
 show(Bool.rec (.bad 37) (.ok (.str (AzJ a b)) h) (Gj (Nat.add (Y2 a) (Y2 b))):OR)=_;rw[Rf,Rf,Fi,show decide (Nat.add a.length b.length<1000000000000)=true from Ws hb]
 show OR.ok (.str (AzJ a b)) h=_;rw[AuL]
def B8{Φ:OR->Prop}{lg:uw}{d:List EF}{k:H->OR}(e:Lh d=true)(g:Φ (k (Be (En d lg) h))):Φ (Ff lg d h k):=by rw[So e];exact g
def Ai.reC{c}{l}(e:Ai h (Go.Ev.Be l h1))(g:h.nx<=c):Ai h (Go.Ev.Be (c::l) h1):=⟨e.lo,e.Cf,λx d=>by
 rcases Wf.1 d with rfl|d;. omega
 .exact e.lg x d⟩
end Go.Ev.Sx
namespace Go.Ev
variable {j:uz}
variable [Ii]
variable {P:Program}{G:Nat}{σ σ':Dx}{h h':H}{w w':World}{v:AV}{Z:Ac}
def Plain(x:AV):Prop:=∀σ d v,Au σ x v->Au d x v
def Plain.int(k:IntKind)(n:Int):Plain (.int k n):=λ_ _ v h=>by cases h;exact .int k n
def Plain.str(s:uw):Plain (.str s):=λ_ _ v h=>by cases h;exact .str _
def Plain.agg(g:∀x∈j,Plain x):Plain (.agg j):=λσ e v h=>by cases h with|agg cs D7 h1 h2=>exact .agg _ _ h1 λi x y d hy=>g x (Vl d) σ e _ (h2 i x y d hy)
def Plain.Bj(g:∀x∈j,Plain x):Plain (.Bj j):=λσ e v h=>by cases h with|Bj cs D7 h1 h2=>exact .Bj _ _ h1 λi x y d hy=>g x (Vl d) σ e _ (h2 i x y d hy)
def I7(l:uz):Prop:=∀x∈l,Plain x
def I7.rel{a:List Value}(g:I7 j)(σ d:Dx)(h:Bk σ j a):Bk d j a:=⟨h.1,λi x y e hy=>g x (Vl e) σ d _ (h.2 i x y e hy)⟩
def I7.nil:I7 []:=λ_ h=>by cases h
def I7.cons{x:AV}(e:Plain x)(d:I7 j):I7 (x::j):=λy h=>by
 rcases Wf.1 h with rfl|h
 .exact e
 .exact d y h
abbrev Df:=FuncId->uz->Option AV
def AxJ(T:Df)(Z:Ac):Ac:=⟨λg args h=>Option.rec (Z.call g args h) (λv=>.ok v h) (T g args),Z.round⟩
def cD(P:Program)(T:Df)(d:Nat):Ac:=Nat.rec Q7 (λ_ e=>AxJ T ⟨Fy P e,Io P e⟩) d
variable {T:Df}
def Df.ext(T:Df)(g:FuncId)(S:uz->Option AV):Df:=λd args=>Bool.rec (T d args) (S args) (Nat.beq d g)
def Ahs(g:FuncId)(S:uz->Option AV)(args:uz):T.ext g S g args=S args:=by unfold Df.ext;rw[P3]
def Aew{g d:FuncId}(S:uz->Option AV)(args:uz)(e:d≠g):T.ext g S d args=T d args:=by
 unfold Df.ext;have:Nat.beq d g=false:=by
  cases hb:Nat.beq d g with
  |false=>rfl
  |true=>exact absurd (ao hb) e
 rw[this]
end Go.Ev
namespace Go.Ev
open Sx
def C9{h}:(∀o,(h.new o).nx=h.nx+1)/\(∀b o,(h.put b o).nx=h.nx)/\(Ab h).nx=h.nx/\∀lg,(Be lg h).nx=h.nx:=⟨λ_=>rfl,λ_ _=>rfl,rfl,λ_=>rfl⟩
def mh{p:Prop}(q:p:=by simp only[C9];omega):p:=q
def Bt:(∀p [Decidable p],(decide p=true)=p)/\(∀p [Decidable p],(decide p=false)=¬ p)/\(∀b,((!b)=true)=(b=false))/\(∀b,((!b)=false)=(b=true))/\(∀b,¬ b=true=(b=false))/\∀b,¬ b=false=(b=true):=by simp
def lw:(∀d l off,Ng l d off=if off+d.length<=l.length then some (l.take off++d++l.drop (off+d.length))else none)/\(∀l off n,Nf l off n=if off+n<=l.length then some ((l.drop off).take n)else none)/\∀n,-9223372036854775808<=n->n<=9223372036854775807->E1 .i64 n=n:=⟨Kh,E5,Cr⟩
def Ce{p:Prop}(q:p:=by first|omega|(simp only[C9];omega)):p:=q
def M0{h h':H}(q:Sx.Bi h h':=by first|((first|exact Sx.Bi.refl _|assumption|(repeat' (first|assumption|exact Sx.Bi.refl _|exact Sx.Ai.refl _|with_reducible apply Sx.Bi.nl|with_reducible apply Sx.Bi.Be|with_reducible apply Sx.Ai.nl|with_reducible apply Sx.Ai.Be|(with_reducible refine Sx.Ai.reC ?_ ?_)|(with_reducible refine Sx.Bi.trans ?_ (Sx.Ai.keeps (by assumption)))|(with_reducible apply Sx.Ai.keeps)|with_reducible apply Sx.Ai.new|(with_reducible refine Sx.Ai.put ?_ _ _ ?_)|(with_reducible refine Sx.Ai.trans ?_ (by assumption))|omega|(simp only[C9];omega))));done)|fail):Sx.Bi h h':=q
def Ex{h h':H}(q:Sx.Ai h h':=by first|((repeat' (first|assumption|exact Sx.Ai.refl _|with_reducible apply Sx.Ai.nl|with_reducible apply Sx.Ai.Be|(with_reducible refine Sx.Ai.reC ?_ ?_)|with_reducible apply Sx.Ai.new|(with_reducible refine Sx.Ai.put ?_ _ _ ?_)|(with_reducible refine Sx.Ai.trans ?_ (by assumption))|omega|(simp only[C9];omega)));done)|fail):Sx.Ai h h':=q
def dA{p:Prop}(q:p:=by first|omega|(simp only[C9];omega)|((first|exact Sx.Bi.refl _|assumption|(repeat' (first|assumption|exact Sx.Bi.refl _|exact Sx.Ai.refl _|with_reducible apply Sx.Bi.nl|with_reducible apply Sx.Bi.Be|with_reducible apply Sx.Ai.nl|with_reducible apply Sx.Ai.Be|(with_reducible refine Sx.Ai.reC ?_ ?_)|(with_reducible refine Sx.Bi.trans ?_ (Sx.Ai.keeps (by assumption)))|(with_reducible apply Sx.Ai.keeps)|with_reducible apply Sx.Ai.new|(with_reducible refine Sx.Ai.put ?_ _ _ ?_)|(with_reducible refine Sx.Ai.trans ?_ (by assumption))|omega|(simp only[C9];omega))));done)|fail):p:=q
section
variable {Q R:AV->H->Prop}{r r':OR}{k:AV->H->OR}{h h0 h1 h2:H}{v x y:AV}{a b:OR}{c w:Bool}{l:List RX}{n:Nat}
def A7{Φ:OR->Prop}(d:Φ (k v h)):Φ (Aa (.ok v h) k):=d
def A8{Φ:OR->Prop}(d:Φ (k v (Ab h))):Φ (Al h1 (.ok v (Ab h)) k):=Acw d
def A9{Φ:OR->Prop}(d:Φ a):Φ (Af ux a b):=d
def Ba{Φ:OR->Prop}(d:Φ b):Φ (Af ct a b):=d
def Cu(d:Ah h0 Q (.ok v h)):Ah h0 Q (.ok v h):=d
def Cv{Φ:OR->Prop}(hq:wrote h2.nx h1.lg=[])(d:Φ (k v h1)):Φ (Al h2 (.ok v h1) k):=Ah6 hq d
def Cw{Φ:OR->Prop}(ha:c=true->Φ a)(hb:c=false->Φ b):Φ (Af (.bool c) a b):=At5 ha hb
def Cx{Φ:OR->Prop}(d:Φ (Af (.bool c) a b)):Φ (Af (.bool c) a b):=d
def Cy{Φ:OR->Prop}(e:r=r')(d:Φ (Aa r' k)):Φ (Aa r k):=e ▸ d
def Cz{Φ:OR->Prop}(e:r=r')(d:Φ (Al h r' k)):Φ (Al h r k):=e ▸ d
def C0{Φ:OR->Prop}(e:x=y)(d:Φ (Af y a b)):Φ (Af x a b):=e ▸ d
def C1{Φ:OR->Prop}(e:Vk l h=r)(d:Φ r):Φ (Vk l h):=e ▸ d
def Fj{Φ:OR->Prop}(g:Ah h R r)(d:∀v h1,Ai h h1->h.nx<=h1.nx->(∀b,b<h.nx->h1.m.get b=h.m.get b)->R v h1->Φ (k v h1)):Φ (Aa r k):=X0 g λv h1 e q=>d v h1 e e.lo e.Cf q
def zc2{Φ:OR->Prop}(g:Ah (Ab h) R r)(d:∀v h1,Ai h h1->h.nx<=h1.nx->(∀b,b<h.nx->h1.m.get b=h.m.get b)->R v h1->Φ (k v h1)):Φ (Al h r k):=Aqb g λv h1 e q=>d v h1 e e.lo e.Cf q
def C2{Φ:OR->Prop}(e:c=true->Φ (Aa r k))(d:c=false->Φ (k (.Bj []) h)):Φ (Aa (Ad (.bool c) true r h) k):=AmM e d
def C3{Φ:OR->Prop}(e:c=true->Φ (k (.Bj []) h))(d:c=false->Φ (Aa r k)):Φ (Aa (Ad (.bool c) false r h) k):=AmL e d
def Kl{Φ:OR->Prop}(e:Ad x w r h=r')(d:Φ (Aa r' k)):Φ (Aa (Ad x w r h) k):=e ▸ d
def zw:(∀r h,Ad ux true r h=r)/\(∀r h,Ad ux false r h=.ok (.Bj []) h)/\(∀r h,Ad ct false r h=r)/\∀r h,Ad ct true r h=.ok (.Bj []) h:=⟨λ_ _=>rfl,λ_ _=>rfl,λ_ _=>rfl,λ_ _=>rfl⟩
def zr(e:Ai h0 h)(hq:Q v h):Ah h0 Q (.ok v h):=Lo e hq
end
structure El(p:Prop):Prop where
 g:p
def wk{G d:Prop}(g:d)(e:El d->G:=by
 intro O0;(first
  |(with_reducible (first|apply A7|apply A8|apply A9|apply Ba))
  |(with_reducible (first|apply Kl);(conv=>lhs;simp only[zw, *]))
  |(with_reducible (first|apply Cy|apply Cz|apply C0|apply C1);(conv=>lhs;simp(disch:=first|exact dA|fail) [lw, *]);with_reducible (first|apply A7|apply A8|apply A9|apply Ba|apply Cu|(refine Cv (by simp) ?_)|fail))
  |(with_reducible (first|apply C2|apply C3|apply Cw);(first|(focus (intro hc;(try simp only[Bt]at hc);exfalso;omega))|(rotate_left;(focus (intro hc;(try simp only[Bt]at hc);exfalso;omega)))|fail);intro hc;(try simp only[Bt]at hc))
  |fail)
 repeat' (first
  |(with_reducible (first|apply A7|apply A8|apply A9|apply Ba))
  |(with_reducible (first|apply Kl);(conv=>lhs;simp only[zw, *]))
  |(with_reducible (first|apply Cy|apply Cz|apply C0|apply C1);(conv=>lhs;simp(disch:=first|exact dA|fail) [lw, *]);with_reducible (first|apply A7|apply A8|apply A9|apply Ba|apply Cu|(refine Cv (by simp) ?_)|fail))
  |(with_reducible (first|apply C2|apply C3|apply Cw);(first|(focus (intro hc;(try simp only[Bt]at hc);exfalso;omega))|(rotate_left;(focus (intro hc;(try simp only[Bt]at hc);exfalso;omega)))|fail);intro hc;(try simp only[Bt]at hc))
  |fail)
 exact O0.1):G:=e ⟨g⟩
def wd{G d:Prop}(g:d)(e:El d->G:=by
 intro O0;(first
  |(with_reducible (first|apply A7|apply A8|apply A9|apply Ba))
  |(with_reducible (first|apply Kl);(conv=>lhs;simp only[zw, *]))
  |(with_reducible (first|apply Cy|apply Cz|apply C0|apply C1);(conv=>lhs;simp(disch:=first|exact dA|fail) [lw, *]);with_reducible (first|apply A7|apply A8|apply A9|apply Ba|apply Cu|(refine Cv (by simp) ?_)|fail))
  |(with_reducible (first|apply C2|apply C3|apply Cw);(first|(focus (intro hc;(try simp only[Bt]at hc);exfalso;omega))|(rotate_left;(focus (intro hc;(try simp only[Bt]at hc);exfalso;omega)))|fail);intro hc;(try simp only[Bt]at hc))
  |(refine Sx.B8 ?_ ?_;(focus (simp(disch:=first|decide|omega|(simp only[C9];omega)) [Sx.Aw,Sx.Am,Sx.Ar,Sx.Ax, *];done));(try simp(disch:=first|exact Ce|fail) only[Sx.Aw,Sx.Am,Sx.Bx,Sx.Ap,Sx.At,T3,Ia,Sx.B9,Sx.Dp,Sx.Dn,C9,Sx.Ca, *]))
  |fail)
 repeat' (first
  |(with_reducible (first|apply A7|apply A8|apply A9|apply Ba))
  |(with_reducible (first|apply Kl);(conv=>lhs;simp only[zw, *]))
  |(with_reducible (first|apply Cy|apply Cz|apply C0|apply C1);(conv=>lhs;simp(disch:=first|exact dA|fail) [lw, *]);with_reducible (first|apply A7|apply A8|apply A9|apply Ba|apply Cu|(refine Cv (by simp) ?_)|fail))
  |(with_reducible (first|apply C2|apply C3|apply Cw);(first|(focus (intro hc;(try simp only[Bt]at hc);exfalso;omega))|(rotate_left;(focus (intro hc;(try simp only[Bt]at hc);exfalso;omega)))|fail);intro hc;(try simp only[Bt]at hc))
  |(refine Sx.B8 ?_ ?_;(focus (simp(disch:=first|decide|omega|(simp only[C9];omega)) [Sx.Aw,Sx.Am,Sx.Ar,Sx.Ax, *];done));(try simp(disch:=first|exact Ce|fail) only[Sx.Aw,Sx.Am,Sx.Bx,Sx.Ap,Sx.At,T3,Ia,Sx.B9,Sx.Dp,Sx.Dn,C9,Sx.Ca, *]))
  |fail)
 exact O0.1):G:=e ⟨g⟩
def zqq{G A B p q:Prop}(ha:p->A)(hb:q->B)(e:El (p->A)->El (q->B)->G:=by
 intro hx hy;(first
  |(with_reducible (first|apply C2|apply C3|apply Cw);(focus (intro hc;(try simp only[Bt]at hc);exact hx.1 hc));intro hc;(try simp only[Bt]at hc);exact hy.1 hc)
  |fail)):G:=e ⟨ha⟩ ⟨hb⟩
def Pd{G:Prop}{h:H}{R X:AV->H->Prop}{r:OR}{n:Nat}(i:Ah h R r)(g:∀v h1,Ai h h1->n<=h1.nx->(∀b,b<n->h1.m.get b=h.m.get b)->R v h1->X v h1)(d:h.nx=n:=by first|(conv=>lhs;simp only[C9])|rfl|fail)(e:El (Ah h R r)->El (∀v h1,Ai h h1->h.nx<=h1.nx->(∀b,b<h.nx->h1.m.get b=h.m.get b)->R v h1->X v h1)->G:=by
 intro hx hy;(first|exact Fj hx.1 hy.1|exact zc2 hx.1 hy.1|fail)):G:=by
 subst d;exact e ⟨i⟩ ⟨g⟩
end Go.Ev
namespace Go.Ev.Sx
variable {j:EF}{o:RS}
variable {h h1 h2:H}{tk:Nat}{vl:AV}{Q:AV->H->Prop}{r:OR}{k:AV->H->OR}{m m':Int}{s len:Nat}{v:AV}{c:uz}
abbrev tkC(vl:AV)(m:Int):AO:=cd [vl,.int .i64 m] 55
structure H8(h:H)(tk:Nat)(vl:AV):Prop where
 lt:tk<h.nx
 cell:∃m,0<=m/\h.m.get tk=tkC vl m
def TG(tk:Nat)(vl:AV)(h h1:H):Prop:=∃m,0<=m/\Ai (h.put tk (tkC vl m)) h1
def D6(tk:Nat)(vl:AV)(h:H)(Q:AV->H->Prop)(r:OR):Prop:=∃m,0<=m/\Ah (h.put tk (tkC vl m)) Q r
def H0:H:=⟨KM.new,0,[]⟩
def Ed h:Ai H0 h:=⟨Qt _,λb hb=>absurd hb (dx b),λx _=>.inr (Qt _)⟩
def Qk(g:Ah H0 (λv h1=>TG tk vl h h1/\Q v h1) r):D6 tk vl h Q r:=by obtain⟨v,h1,rfl,_,⟨m,e,d⟩,hq⟩:=g;exact⟨m,e,v,_,rfl,d,hq⟩
def AeX(g:D6 tk vl h Q r):∃v h1,r=.ok v h1/\TG tk vl h h1/\Q v h1:=by obtain⟨m,e,v,h1,rfl,d,hq⟩:=g;exact⟨v,_,rfl,⟨m,e,d⟩,hq⟩
def Au5 tk a b(h1:Ai (h.put tk a) h2):Ai (h.put tk b) (h2.put tk b):=by
 refine⟨h1.lo,λx d=>?_,λx d=>?_⟩
 .by_cases e:x=tk;. simp[*]
  .rw[Aq _ b x e,Aq _ b x e,h1.Cf x d,Aq _ a x e]
 .rcases Wf.1 d with rfl|d;. simp
  .rcases h1.lg x d with g|g;. simp_all
   simp_all
def TG.refl(g:H8 h tk vl):TG tk vl h h:=by
 obtain⟨m,d,j⟩:=g.cell;refine⟨m,d,Ye _,λb hb=>?_,λx i=>.inl (Wr _ i)⟩;by_cases e:b=tk;. simp[*]
 simp[*]
def TG.put(e:TG tk vl h h1) m(g:0<=m):TG tk vl h (h1.put tk (tkC vl m)):=by obtain⟨m',_,d⟩:=e;exact⟨m,g,Au5 _ _ _ d⟩
def TG.gr(e:TG tk vl h h1)(g:Ai h1 h2):TG tk vl h h2:=by obtain⟨m,i,d⟩:=e;exact⟨m,i,d.trans g⟩
def TG.trans(e:TG tk vl h h1)(i:TG tk vl h1 h2):TG tk vl h h2:=by obtain⟨m,g,d⟩:=i;exact(e.put m g).gr d
def TG.nl(e:TG tk vl h h1):TG tk vl h (Ab h1):=e.gr (Ai.refl _).nl
def TG.new(e:TG tk vl h h1) o:TG tk vl h (h1.new o):=e.gr ((Ai.refl _).new o)
def TG.lo(e:TG tk vl h h1):h.nx<=h1.nx:=by obtain⟨m,g,d⟩:=e;exact d.lo
def TG.Cf(e:TG tk vl h h1) b(hb:b<h.nx)(hn:b≠tk):h1.m.get b=h.m.get b:=by obtain⟨m,g,d⟩:=e;rw[d.Cf b hb,Aq _ _ _ hn]
def TG.at(e:TG tk vl h h1)(g:tk<h.nx):H8 h1 tk vl:=by obtain⟨m,i,d⟩:=e;exact⟨Yy g d.lo,m,i,by rw[d.Cf _ g,A2]⟩
def T6(tk:Nat)(v:AV):Prop:=∀b off len cap z ex,v=.sl b off len cap z ex->0<len->b≠tk
def Sl.tg(E:Sl s h v len c)(d:H8 h tk vl)(ha:T6 tk v)(e:TG tk vl h h1):Sl s h1 v len c:=by
 rcases E with D|⟨b,off,cap,ex,cs,rfl,q,g,p,z⟩
 .exact .inl D
 .by_cases hb:b=tk
  .subst hb;have h0:len=0:=by
    rcases cu len with h0|h0
    .exact h0
    .exact absurd rfl (ha b off len cap s ex rfl h0)
   subst h0;obtain⟨m,A,j⟩:=d.cell;obtain⟨m',C,o⟩:=(e.at d.lt).cell;obtain⟨t,i,p1,p2⟩:=g.cells;rw[j]at p1;cases p1;refine .inr ⟨b,off,cap,ex,[vl,.int .i64 m'],rfl,q,⟨(e.at d.lt).lt,55,.exact,o,trivial⟩,by simpa using p,?_⟩;rw[<- z];simp
  .refine .inr ⟨b,off,cap,ex,cs,rfl,q,?_,p,z⟩;obtain⟨t,i,p1,p2⟩:=g.cells;refine⟨Yy g.lt e.lo,t,i,by rw[e.Cf b g.lt hb];exact p1,?_⟩;cases i with
   |Cf c st=>
    by_cases u:c=tk
    .subst u;obtain⟨m,A,j⟩:=d.cell;have:=p2.2;rw[j]at this;cases this
    .exact⟨Yy p2.1 e.lo,by rw[e.Cf c p2.1 u];exact p2.2⟩
   |_=>trivial
@[simp]def A51{P} t c a b(hb:b≠0):Aj P .rem t c (.int .i64 a) (.int .i64 b) h=.ok (.int .i64 (Int.tmod a b)) h:=by
 have e:ieq b 0=false:=by rw[X7];grind
 show(Bool.rec (.bad 30) (@Bool.rec (λ_=>OR) _ ..) (kEq .i64 .i64):OR)=_;rw[e];rfl
def M5{h0}{R}(g:D6 tk vl h R r)(d:∀v h1,TG tk vl h h1->h.nx<=h1.nx->(∀b,b<h.nx->b≠tk->h1.m.get b=h.m.get b)->R v h1->Ah h0 Q (k v h1)):Ah h0 Q (Aa r k):=by obtain⟨v,h1,rfl,e,hq⟩:=AeX g;exact d v _ e e.lo e.Cf hq
def D4(n x:Nat):∀l:uw,x∈wrote n l->x∈l/\x<n
|[],e=>by cases e
|b::l,e=>by
 have d:x∈(Bool.rec (wrote n l) (b::wrote n l) (Nat.blt b n):uw):=e;cases hb:Nat.blt b n with
 |false=>rw[hb]at d;have:=D4 n x l d;exact⟨Wr _ this.1,this.2⟩
 |true=>
  rw[hb]at d;rcases Wf.1 d with rfl|g
  .exact⟨Wm ..,Ec hb⟩
  .have:=D4 n x l g;exact⟨Wr _ this.1,this.2⟩
def TG.wrote(e:TG tk vl (Ab h) h1):∀x∈wrote h.nx h1.lg,x=tk:=by
 intro x j;obtain⟨g,p⟩:=D4 _ _ _ j;obtain⟨m,o,i⟩:=e;rcases i.lg x g with d|d;. simp_all
 simp_all;omega
def Ab8 b:∀w,(∀x∈w,x=tk)->b≠tk->Ve b w=false
|[],_,_=>rfl
|x::w,h1,h2=>by
 have hb:Nat.beq x b=false:=by cases q:Nat.beq x b with
  |false=>rfl
  |true=>simp_all
 show @Bool.rec (λ_=>Bool) _ ..=false;rw[hb];exact Ab8 b w (λy hy=>h1 y (Wr _ hy)) h2
def Zq:∀w,Ahl w []=true
|[]=>rfl
|x::w=>Zq w
def Wo lo hi(d:tk<lo):∀w,(∀x∈w,x=tk)->outside w lo hi=true
|[],_=>rfl
|x::w,h1=>by
 have hb:Nat.ble lo x=false:=by cases q:Nat.ble _ x with
  |false=>rfl
  |true=>simp_all;omega
 show @Bool.rec (λ_=>Bool) _ ..=true;rw[hb];exact Wo _ _ d w λy hy=>h1 y (Wr _ hy)
def Bdw{g e:Nat}{d i:H}(q:∀x∈j.w,x=tk)(p:tk<d.nx)(t:clear o j.w d j.h j.h1=true):Jo j ⟨g,e,[],o,d,i⟩=true:=by unfold Jo;have h1:Ahl j.w []=true:=Zq _;have h2:outside j.w d.nx i.nx=true:=Wo _ _ p _ q;rw[h1,h2,t];cases M4 (Nat.lor (Nat.land j.pr g) (Nat.land e j.bit))<;>cases Nat.beq j.bit g<;>rfl
def Dk{u t:Nat}{d g:H}(e:∀x∈j.w,x=tk)(p:tk<d.nx)(q:o=.none\/∃b off i,o=.blk b off i/\b≠tk/\B5 (d.m.get b)=none):Jo j ⟨u,t,[],o,d,g⟩=true:=by
 refine Bdw e p ?_;rcases q with rfl|⟨b,off,i,rfl,hb,z⟩
 .rfl
 .show(Bool.rec (AbY j.w (B5 (d.m.get b))) _ (Ve b j.w):Bool)=true;rw[Ab8 b j.w e hb,z];rfl
def V9 all:∀l,(∀e∈l,Q6 e.w=true\/E2 e all=true)->Iu all l=true
|[],_=>rfl
|e::l,h1=>by
 have i:=V9 _ l λx d=>h1 x (Wr _ d);show Bool.rec (Bool.rec _ (Iu _ l) _) (Iu _ l) _=true;rcases h1 e Wm .. with g|g;. simp[*]
 .cases Q6 _;simp_all;omega
def V4 e:∀l,(∀a∈l,Jo e a=true)->E2 e l=true
|[],_=>rfl
|a::l,h1=>by rw[Fz,h1 a Wm ..,V4 e l λx d=>h1 x (Wr _ d)];rfl
def Pu{h0 p}{d}{lg}{k} tk lo(j:∀e∈d,e.w=[]\/(∀x∈e.w,x=tk\/lo<=x)/\∀a∈d,Jo e a=true)(g:∀L,(∀z∈L,z∈lg\/z=tk\/lo<=z)->Ah h0 Q (k (Be L p))):Ah h0 Q (Ff lg d p k):=by
 have i:=V9 _ _ λe h1=>by
  rcases j e h1 with o|o;. simp_all
  .exact .inr (V4 e _ o.2)
 rw[So i];refine g _ ?_;have q:∀e∈d,∀x∈e.w,x=tk\/lo<=x:=λe h1 x u=>by grind
 clear j i g;induction d with
 |nil=>simp_all
 |cons e es t=>intro z hz;rw[Ap]at hz;grind
def TG.Aiq(e:TG tk vl h h1) c o(i:h.nx<=c):TG tk vl h (h1.put c o):=by obtain⟨m,g,d⟩:=e;exact⟨m,g,d.put c o i⟩
def TG.reL{hA}{L}(e1:TG tk vl h hA)(p:TG tk vl h h1)(j:∀z∈L,z∈hA.lg\/z=tk\/h.nx<=z):TG tk vl h (Be L h1):=by
 obtain⟨m,i,e⟩:=p;obtain⟨q,o,d⟩:=e1;refine⟨m,i,e.lo,e.Cf,λz hz=>?_⟩;rcases j z hz with g|rfl|g;. exact d.lg z g
 .simp
 simp_all
def Sl.hiS{P}{t e}{bytes u}(i:Hp P t=.sl ⟨e,s,bytes⟩)(q:Sl s h v len c)(p:u<=len):∃v',(∀d,xSl P t v none (some (.int .i64 u)) d=.ok v' d)/\Sl s h v' u (c.take (u*s)):=by
 rcases q with⟨rfl,rfl,rfl⟩|⟨b,off,cap,ex,cs,rfl,C,j,z,D⟩
 .have:u=0:=by omega
  subst this;exact⟨_,λd=>Ads i,.inl ⟨rfl,by simp,rfl⟩⟩
 .have A:=D2 s p;have o:(cs.drop off).take (u*s)=c.take (u*s):=by grind
  by_cases h0:0<cap;. refine⟨_,λd=>by rw[Aau i,Nn (Qt _) om,Xo h0],(.inr ⟨b,_,cap,ex,_,by simp,by omega,j,by omega,o⟩)⟩
  .have g:u=0:=by omega
   subst g;have hq:∀d,xSl P t (.sl b off len cap s ex) _ (some (.int _ (0:Nat))) d=.ok (.sl b off 0 0 s ex) d:=λd=>by rw[Aau i,Nn (Qt _) om,X2 h0];simp
   exact⟨_,hq,.inr ⟨b,_,0,_,_,rfl,Ye _,j,by omega,o⟩⟩
def L5(q:TG tk vl h h1:=by first|((repeat' (first|assumption|(exact Sx.TG.refl (by assumption))|with_reducible apply Sx.TG.nl|with_reducible apply Sx.TG.new|(with_reducible refine Sx.TG.Aiq ?_ _ _ ?_)|(refine Sx.TG.trans ?_ (by assumption))|(refine Sx.TG.gr ?_ (by assumption))|(refine Sx.TG.reL ?_ ?_ (by assumption))|omega|(simp only[C9];omega)));done)|fail):TG tk vl h h1:=q
variable {b:Nat}{X Y:AO}
def PG(b:Nat)(X:AO)(h h1:H):Prop:=Ai (h.put b X) h1
def AjT(b:Nat)(X:AO)(h:H)(Q:AV->H->Prop)(r:OR):Prop:=Ah (h.put b X) Q r
def AeN(e:Ah H0 (λv h1=>PG b X h h1/\Q v h1) r):AjT b X h Q r:=by obtain⟨v,h1,rfl,_,d,hq⟩:=e;exact⟨v,h1,rfl,d,hq⟩
def Bke(e:AjT b X h Q r):∃v h1,r=.ok v h1/\PG b X h h1/\Q v h1:=by obtain⟨v,h1,rfl,d,hq⟩:=e;exact⟨v,h1,rfl,d,hq⟩
def PG.refl(hb:h.m.get b=X):PG b X h h:=by
 refine⟨Ye _,λc g=>?_,λx d=>.inl (Wr _ d)⟩;by_cases e:c=b
 .subst e;rw[A2,hb]
 .rw[Aq _ _ _ e]
def PG.put(e:PG b X h h1)(Y:AO):PG b Y h (h1.put b Y):=Au5 b _ _ e
def PG.gr(e:PG b X h h1)(g:Ai h1 h2):PG b X h h2:=Ai.trans e g
def PG.trans(e:PG b X h h1)(d:PG b Y h1 h2):PG b Y h h2:=(e.put Y).gr d
def PG.lo(e:PG b X h h1):h.nx<=h1.nx:=(show(h.put b X).nx<=h1.nx from Ai.lo e)
def PG.Cf(e:PG b X h h1)(c:Nat)(d:c<h.nx)(hn:c≠b):h1.m.get c=h.m.get c:=by rw[Ai.Cf e c d,Aq _ _ _ hn]
def PG.get(e:PG b X h h1)(hb:b<h.nx):h1.m.get b=X:=by rw[Ai.Cf e b hb,A2]
def PG.own{h0:H}(d:Ai h0 h)(e:PG b X h h1)(hb:h0.nx<=b):Ai h0 h1:=(d.put b X hb).trans e
def zu1{h0:H}{R:AV->H->Prop}(g:AjT b X h R r)(d:∀v h1,PG b X h h1->h.nx<=h1.nx->(∀c,c<h.nx->c≠b->h1.m.get c=h.m.get c)->(b<h.nx->h1.m.get b=X)->R v h1->Ah h0 Q (k v h1)):Ah h0 Q (Aa r k):=by obtain⟨v,h1,rfl,e,hq⟩:=Bke g;exact d v h1 e e.lo e.Cf e.get hq
variable {X':AO}{c':Nat}
end Go.Ev.Sx
namespace Go.Ev
open Go
variable {j:FuncId}{o:Nat}
variable {P:Program}{Z:Ac}{gl:List GE}
def Ahj[Ii]{q:Tab}(D:Bd P P.globals.size Z)(I:P8 P.globals.size gl=true)(t:∀o∈q.l,Nx P gl o):Bd P P.globals.size (ApJ gl q Z):=by
 refine⟨?_,λl args h h' v σ w An e C=>D.round l args h h' v σ w An e C,Aer D.mono⟩;intro g args h h' v σ w An kind C hb E d F hl U;have j:(@Option.rec _ (λ_=>OR) (Z.call g args h) (λv=>Abq gl v h) (Hl q g args):OR)=.ok v h':=C;cases z:Hl q g args with
 |none=>rw[z]at j;exact D.call g args h h' v σ w An kind j hb E d F hl U
 |some u=>
  rw[z]at j;obtain⟨Vr,rfl,rfl⟩:=AfZ j;obtain⟨o,O,rfl,V,rfl⟩:=AcW z;obtain⟨v',w',M,fn,J,r2,i,L,S,K⟩:=t o O w An kind (Akl d F I Vr) (λσ'=>Yb (AfH 8) args o.args An.toList σ σ' V E);refine⟨σ,v',w',M,fn,J,r2 σ,⟨[],J6.refl d.ai,⟨Qq.refl σ,λx e h1 h2=>(by rw[h1]at h2;cases h2),⟨d.so.inj,λx e p=>Yy (d.so.rng x e p) i.grow,d.so.low⟩,i.grow,λc A _=>i.same c A,
   λx e h1 h2=>(by rw[h1]at h2;cases h2),i.io⟩,?_⟩,L,S,K⟩
  intro x e p;exact Gr.congr (Qq.refl σ) (i.same e.c (d.so.rng x e p)) (λ_ _ _ _ _ hh=>hh) (d.ma x e p)
def AgZ(O:P.follows .mixedOrders=true)(F:Mv P=true)(p:∀i,@Bd i P P.globals.size Z){g}(hb:Bg P g=true){args}{An}{h}{σ}{w}{Q}
 (hr:Sx.Ah h Q (Fy P Z g args h)) (hlg:h.lg=[]) (hσ:∀b,h.nx<=b->σ b=none) (Ow:Bk σ args An.toList) (hms:∀i,h.nx<=@Bq i->@Ms i P.globals.size σ h w) (hg:Vm P.globals.size σ):
 Calls P g An w λe w'=>∃v v' t,e=.returned v'/\(∃h',Q v h')/\Au t v v'/\Kept w w':=by
 obtain⟨v,h',M,d,hq⟩:=hr;let i:Ii:=⟨h'.nx⟩;have q:h'.nx<=Bq:=Ye _;have L:=ApK (p i) O F ⟨N9 (p i).mono,Mj (p i).mono⟩;have o:Fx _ h h':=λb h1 _=>hσ b h1;obtain⟨t,v',w',U,fn,C,S,D,I,E,A⟩:=L.call g _ h _ v _ w _ _ M hb Ow (hms i (Xy d.lo q)) hg q o;obtain⟨nw,s1,s2,s3⟩:=D;have J:h'.lg=nw:=by rw[s1.lg,hlg,F0]
 have z:Kept w w':=by
  refine⟨s2.grow,λc j=>s2.frame c j ?_,s2.io⟩;intro x hx e u;rcases d.lg x (by simp_all)with h9|h9;. simp_all
  grind
 intro cs;obtain⟨V,K⟩:=A _ (.inl rfl);exact⟨_,_,_,⟨v,_,_,rfl,⟨_,hq⟩,S,z⟩,K,rfl,rfl,I,rfl,_,C,E⟩
def Abp:Value->AV
|.bool b=>.bool b
|.int k n=>.int k n
|.string s=>.str (bytesOf s)
|_=>.top
def AqY σ v:Au σ (Abp v) v:=by cases v<;>first|exact .bool _|exact .int ..|exact .str _|exact .top _
def Anq σ(l:List _)(i:Nat) x y(d:(l.map Abp)[i]?=some x)(hy:l[i]?=some y):Au σ x y:=by rw[Cn,hy]at d;cases d;exact AqY _ y
variable {w:World}{B:uw}{a:Addr}
def ArP{p}{fits}{d}{e}{g off n}(h:rowAt p fits d e g off n=true):off<=g*p.cellsOf e:=by cases d with
|zero=>simp[rowAt]at h
|succ d=>
 by_cases j:p.cellsOf e=0;. simp[rowAt,j]at h
 .unfold rowAt at h;have h1:=Nat.div_add_mod off (p.cellsOf e);have h2:=Rl off (Nat.pos_of_ne_zero j);have i:off/p.cellsOf e<g\/off/p.cellsOf e<=g/\off%p.cellsOf e=0:=by grind
  rcases i with i|⟨i,o⟩;. have:=cq (p.cellsOf e) (show off/p.cellsOf e+1<=g by omega);grind
  .have:=cq (p.cellsOf e) i;grind
def AeF{p}:∀d {e} {g off} {u} {n},liesAt p d e g off u n=true->off<=g*p.cellsOf e
|0,_,_,_,_,_,h=>by simp[liesAt]at h
|d+1,e,g,off,u,n,h=>by
 rcases Bool.or_eq_true_iff.1 h with h|h;. exact ArP h
 .split at h;. exact AeF d h
  grind
def Ams(w:World)(a:Addr):Prop:=a.spot=none/\∃(arr:Array Value) (t:TypeId) (lo hi:Nat),w.heap[a.block]?=some (.cells arr t (lo,hi))/\a.off<=arr.size
def AmU{r}{base n}{e}(h:World.has P w r base a e n):Ams w a:=by
 obtain⟨_,j,i,cells,d,g⟩:=h;unfold World.shape? at d;split at d;. rename_i c elem fr o;cases d;exact⟨j,c,_,_,_,o,Xy (AeF _ g) (Nat.div_mul_le_self ..)⟩
 grind
def Yl{r:Reach}{base len cap:Nat}{t:TypeId}(h:Cell.okWide P w r base t (.slice (some a) len cap)):Ams w a:=by unfold Cell.okWide at h;split at h<;>first|grind|skip;all_goals
  unfold Cell.ok at h;split at h<;>first|simp_all|skip
  all_goals first|omega|(rename_i h0;cases h0;exact AmU h.2.2)
def AgM(ha:a.spot=none) n:a.add n=⟨a.block,a.off+n,none⟩:=by
 unfold Addr.add;split;. cases a;grind
 rfl
def Ahc{arr:Array Value}{t}{fr}{k s}{cs}(ha:a.spot=none)(o:w.heap[a.block]?=some (.cells arr t fr))(h:w.cells? 0 (a.add k) s=some cs):
 cs=(arr.toList.drop (a.off+k)).take s/\(0<s->a.off+k+s<=arr.size):=by
 obtain⟨_,g,e⟩:=World.cells?_some h;have d:∀i,i<s->arr[a.off+k+i]?=cs[i]?:=by intro i hi;rw[<- e i hi,AgM ha,AgM rfl];unfold World.cell?;grind
 refine⟨?_,λj=>?_⟩;. apply dg;grind
 .have h1:=d (s-1) om;grind
def AeW{α:Type}{f:α->uz}{s}(cs:List _) off D:∀len,(∀i,i<len->(cs.drop (off+i*s)).take s=f (D i))->(cs.drop off).take (len*s)=((List.range len).map D).flatMap f
|0,_=>by simp
|len+1,h=>by rw[List.range_succ,ah,V5,<- AeW _ _ D _ λi hi=>h i om,ag,Ji,List.take_add,au,h _ om];simp
def AhS(w:World)(b:Nat):uz:=match w.heap[b]? with|some (.cells arr _ _)=>arr.toList.map Abp|_=>[]
def Anp(w:World)(b:Nat):TypeId:=match w.heap[b]? with|some (.cells _ t _)=>t|_=>0
def AqX(w:World)(b:Nat):Nat:=match w.heap[b]? with|some (.cells arr _ _)=>arr.size|_=>0
def He(w:World)(m:KM):uw->KM
|[]=>m
|b::B=>((He w m B).set b (.cells (AhS w b) (Anp w b) (.fz (w.heap.size+b)))).set (w.heap.size+b) (.Fb 0)
def Ua{m}:∀B,(∀b∈B,b<w.heap.size)->∀j,j<w.heap.size->(He w m B).get j=if j∈B then .cells (AhS w j) (Anp w j) (.fz (w.heap.size+j))else m.get j
|[],_,j,_=>rfl
|b::B,d,j,hj=>by unfold He;rw[KM.N5,X2 om,KM.N5,Ua B (λx e=>d x (by grind)) j hj];grind
def AiB{m}:∀B,(∀b∈B,b<w.heap.size)->∀j,(He w m B).get (w.heap.size+j)=if j∈B then .Fb 0 else m.get (w.heap.size+j)
|[],_,j=>rfl
|b::B,d,j=>by have hb:=d b (by simp);unfold He;rw[KM.N5,KM.N5,AiB B (λx e=>d x (by grind)) j];grind
def Pn(G:Nat)(w:World)(B:uw):Dx:=λj=>if j∈B then some ⟨j,AqX w j,some (w.heap.size+j)⟩else Y0 G w j
def Adk(gl:List GE)(w:World)(B:uw):H:=⟨He w (Rw gl) B,w.heap.size+w.heap.size,[]⟩
def Qn(gl:List GE)(w:World)(B:uw):Prop:=∀b∈B,(∃(arr:Array Value) (t:TypeId) (lo hi:Nat),w.heap[b]?=some (.cells arr t (lo,hi)))/\∀e∈gl,e.g≠b
def Qn.lt(d:Qn gl w B):∀b∈B,b<w.heap.size:=λb hb=>by obtain⟨⟨arr,t,lo,hi,h1⟩,_⟩:=d b hb;grind
def Rh{G b}{e}(d:Pn G w B b=some e):b∈B/\e=⟨b,AqX w b,some (w.heap.size+b)⟩\/b ∉ B/\Y0 G w b=some e:=by unfold Pn at d;grind
def AiC{G b}{e}(d:Pn G w B b=some e):e.c=b:=by
 rcases Rh d with⟨_,rfl⟩|⟨_,h1⟩;. rfl
 .exact(Gm h1).2.1
def At1(d:P8 P.globals.size gl=true){j}(hj:P.globals.size<=j):(Rw gl).get j=.none:=by
 let i:Ii:=⟨j+1+P.globals.size⟩;rcases @Xx i _ (by show P.globals.size<=j+1+P.globals.size;omega) _ d j (by show j<j+1+P.globals.size;omega)with⟨e,h1,h2,_⟩|⟨_,h1⟩;. have:=(Mf d e h1).1;omega
 omega
def AuS[Ii](hw:WOk P gl w)(M:P8 P.globals.size gl=true)(hB:Qn gl w B)(hl:w.heap.size+w.heap.size<=Bq):Ms P.globals.size (Pn P.globals.size w B) (Adk gl w B) w:=by
 have Fc:=hw.size;have F:=hB.lt;have hn:P.globals.size<=Bq:=by omega
 have lo:=λj hj=>Ua (m:=Rw gl) B F j hj;have hi:=λj=>AiB (m:=Rw gl) B F j;have I:∀j,(Rw gl).get (w.heap.size+j)=.none:=λj=>At1 M om;have low:=(AkL hw hn M).1.ma;have J:=Xx hn gl M;have A:∀j,j<Bq->(j∈B/\j<w.heap.size/\(He w (Rw gl) B).get j=.cells (AhS w j) (Anp w j) (.fz (w.heap.size+j)))\/(∃e∈gl,e.g=j/\(He w (Rw gl) B).get j=cd e.l e.t)\/((He w (Rw gl) B).get j=.none)\/((He w (Rw gl) B).get j=.Fb 0):=by
  intro j hj;by_cases h1:j<w.heap.size
  .rw[lo j h1];by_cases h2:j∈B;. rw[Xo h2];exact .inl ⟨h2,h1,rfl⟩
   .rw[X2 h2];rcases J j hj with⟨e,u,d,q3⟩|⟨_,q⟩;. exact .inr (.inl ⟨e,u,d,q3⟩)
    .exact .inr (.inr (.inl q))
  .obtain⟨k,rfl⟩:∃k,j=w.heap.size+k:=⟨j-w.heap.size,by omega⟩;rw[hi k];by_cases h2:k∈B;. rw[Xo h2];exact .inr (.inr (.inr rfl))
   .rw[X2 h2];exact .inr (.inr (.inl (I k)))
 refine⟨⟨hl,?_,?_,?_,?_,?_⟩,⟨?_,?_,?_⟩,?_⟩;. intro j h1 h2;have W2:w.heap.size+w.heap.size<=j:=h1;obtain⟨k,rfl⟩:∃k,j=w.heap.size+k:=⟨j-w.heap.size,by omega⟩;show(He w (Rw gl) B).get (w.heap.size+k)=.none;rw[hi k,X2 (λhk=>by have:=F k hk;omega)];exact I k
 .intro j k h1 h2;have z:Ej ((He w (Rw gl) B).get j)=some k:=h2;rcases A j h1 with⟨u,q0,d⟩|⟨e,_,_,d⟩|d|d;. rw[d]at z;cases z;refine⟨by show w.heap.size+j<w.heap.size+w.heap.size;omega,0,?_⟩;show(He w (Rw gl) B).get (w.heap.size+j)=.Fb 0;rw[hi j,Xo u]
  .rw[d]at z;cases z
  .rw[d]at z;cases z
  .rw[d]at z;cases z
 .intro j L k h1 h2 E O;have o:M2 ((He w (Rw gl) B).get j)=some k:=E;have p:M2 ((He w (Rw gl) B).get L)=some k:=O;rcases A j h1 with⟨u,q0,d⟩|⟨e,_,_,d⟩|d|d
  .rw[d]at o;cases o;rcases A L h2 with⟨V,r0,C⟩|⟨e,_,_,C⟩|C|C;. rw[C]at p;have h5:w.heap.size+L=w.heap.size+j:=Ck p;omega
   .rw[C]at p;cases p
   .rw[C]at p;cases p
   .rw[C]at p;cases p
  .rw[d]at o;cases o
  .rw[d]at o;cases o
  .rw[d]at o;cases o
 .intro j l t k st n h1 h2;have z:(He w (Rw gl) B).get j=.cells l t (.Cf k st):=h2;rcases A j h1 with⟨u,q0,d⟩|⟨e,_,_,d⟩|d|d;all_goals rw[d]at z;cases z
 .intro j L l t k st l' t' h1 h2 E;have o:(He w (Rw gl) B).get j=.cells l t (.Cf k st):=E;rcases A j h1 with⟨u,q0,d⟩|⟨e,_,_,d⟩|d|d;all_goals rw[d]at o;cases o
 .intro b b' e e' h1 h2 E;have u:=AiC h1;have d:=AiC h2;exact .inl om
 .intro b e h1;rcases Rh h1 with⟨u,rfl⟩|⟨_,q⟩;. exact F b u
  .have:=Gm q;omega
 .intro b e h1;rcases Rh h1 with⟨u,rfl⟩|⟨_,q⟩;. have:=F b u;omega
  .have:=Gm q;omega
 .intro b e h1;show Gr _ _ (He w (Rw gl) B).get e w ((He w (Rw gl) B).get b);rcases Rh h1 with⟨u,rfl⟩|⟨q0,q⟩
  .rw[lo b (F b u),Xo u];obtain⟨⟨arr,t,U,D,h2⟩,_⟩:=hB b u;have e1:AhS w b=arr.toList.map Abp:=by unfold AhS;rw[h2]
   have e2:Anp w b=t:=by unfold Anp;rw[h2]
   have e3:AqX w b=arr.size:=by unfold AqX;rw[h2]
   refine⟨rfl,λ_=>⟨arr,U,D,by rw[e2];exact h2,e3.symm,by show(AhS w b).length<=AqX w b;rw[e1,e3];simp,?_,(λS=>by cases S),λ(S:False)=>S.elim⟩⟩;intro i x y K hy;rw[e1]at K;exact Anq _ arr.toList i x y K (by simpa using hy)
  .have hb:=(Gm q).1;rw[lo b om,X2 q0];have h2:=low b e q;have E:Gr P.globals.size (Y0 P.globals.size w) (Rw gl).get e w ((Rw gl).get b):=h2;rcases J b om with⟨ge,p1,p2,p3⟩|⟨_,p3⟩;. rw[p3]at E ⊢;obtain⟨O,h5⟩:=E;refine⟨O,λ_=>?_⟩;obtain⟨arr,U,D,V,C,r3,r4,r5⟩:=h5 trivial;refine⟨arr,U,D,V,C,r3,λi x y K hy=>?_,r5⟩;exact Aex (Od.1 (Mf M ge p1).2 x (Vl K)) (r4 i x y K hy) _
   .rw[p3];trivial
def Aso{G}:Vm G (Pn G w B):=by
 intro g d;by_cases h1:g∈B;. exact⟨_,Xo h1,rfl⟩
 .exact⟨_,by unfold Pn;rw[X2 h1];exact Xo d,rfl⟩
def Aol{G}(g:G<=w.heap.size)(e:Qn gl w B) b(hb:(Adk gl w B).nx<=b):Pn G w B b=none:=by have d:w.heap.size+w.heap.size<=b:=hb;unfold Pn;rw[X2 λh=>by have:=e.lt b h;omega];unfold Y0;grind
def AaC{h h1}:∀gl,(∀e∈gl,h1.m.get e.g=h.m.get e.g)->Hj gl h=true->Hj gl h1=true
|[],_,_=>rfl
|e::gl,i,d=>by have j:=i e Wm ..;unfold Hj at d ⊢;rw[j];revert d;cases h.m.get _ with
 |cells l t k=>cases k with
  |exact=>
   intro d;dsimp at d ⊢;rcases bf (Sh l _)with a1|a1
   .rw[a1]at d ⊢;rcases bf (Nat.beq t _)with a2|a2;. rw[a2]at d ⊢;exact AaC _ (λe o=>i e (Wr _ o)) d
    simp_all
   simp_all
  |fz c=>simp_all
  |Gt c=>simp
  |Cf c st=>simp
 |_=>grind
def Aom(i:WOk P gl w)(o:P8 P.globals.size gl=true)(g:Qn gl w B)(j:Hj gl (glH gl P.globals.size)=true):Hj gl (Adk gl w B)=true:=by refine AaC _ (λe d=>?_) j;have h1:=(Mf o e d).1;have:=i.size;show(He w _ B).get _=(Rw _).get _;rw[Ua B g.lt _ om,X2 λhb=>(g _ hb).2 e d rfl]
def flat_lit{σ}{x}{y}(d:AaA x=true)(h:Au σ x y):x=Abp y:=by cases h<;>first|(cases d;done)|rfl
def Aok(K:WOk P gl w)(A:P8 P.globals.size gl=true)(F:Qn gl w B){arr:Array Value}{t:TypeId}{fr:Nat × Nat}(u:w.heap[o]?=some (.cells arr t fr))(hb:o∈B\/∃e∈gl,e.g=o):
 Sx.Nv (Adk gl w B) o (arr.toList.map Abp)/\∃e:SE,Pn P.globals.size w B o=some e/\e.c=o:=by
 have M:=Dj u;have p:o<w.heap.size+w.heap.size:=by omega
 rcases hb with hb|⟨d,h1,h2⟩
 .have e1:AhS w o=arr.toList.map Abp:=by unfold AhS;rw[u]
  refine⟨⟨p,Anp w o,.fz (w.heap.size+o),?_,trivial⟩,_,Xo hb,rfl⟩;show(He w (Rw gl) B).get o=_;rw[Ua B F.lt o M,Xo hb,e1]
 .subst h2;have q:d.g ∉ B:=λhb=>(F d.g hb).2 d h1 rfl;obtain⟨L,h4⟩:=Mf A d h1;obtain⟨V,lo,hi,I,_,J⟩:=K.vars d h1;rw[u]at I;cases I;have e1:d.l=arr.toList.map Abp:=by
   have z:=J (λ_=>none);apply dg;intro i;rw[Cn];by_cases hi:i<d.l.length
   .have j:i<arr.toList.length:=by rw[<- z.1];exact hi
    rw[Yq hi,Yq j];have q5:=z.2 i _ _ (Yq hi) (Yq j);exact Jh some (flat_lit (Od.1 h4 _ (dl hi)) q5)
   .have j:¬ i<arr.toList.length:=by rw[<- z.1];exact hi
    grind
  have O9:(He w (Rw gl) B).get d.g=cd d.l d.t:=by
   rw[Ua B F.lt d.g M,X2 q];let i:Ii:=⟨P.globals.size⟩;rcases @Xx i P.globals.size (Ye _) gl A d.g L with⟨b,E,r2,O⟩|⟨E,_⟩
   .obtain⟨D,lo2,j,s1,_,s3⟩:=K.vars b E;rw[r2,u]at s1;have s2:arr=D/\d.t=b.t:=by simp_all
    obtain⟨rfl,S⟩:=s2;rw[O];have z:=J (λ_=>none);have C:=s3 (λ_=>none);have U:b.l=d.l:=by
     rw[e1];apply dg;intro i;rw[Cn];by_cases hi:i<b.l.length
     .have j:i<arr.toList.length:=by rw[<- C.1];exact hi
      rw[Yq hi,Yq j];exact Jh some (flat_lit (Od.1 (Mf A b E).2 _ (dl hi)) (C.2 i _ _ (Yq hi) (Yq j)))
     .have j:¬ i<arr.toList.length:=by rw[<- C.1];exact hi
      simp_all
    rw[U,S]
   grind
  refine⟨⟨p,d.t,.exact,?_,trivial⟩,⟨d.g,(match w.heap[d.g]? with|some (.cells arr _ _)=>arr.size|_=>0),none⟩,?_,rfl⟩;. show(He w (Rw gl) B).get d.g=_;rw[O9,e1]
  .unfold Pn;rw[X2 q];unfold Y0;exact Xo L
def Aon{α:Type}{f:α->uz}{s:Nat}(E:0<s)(A:WOk P gl w)(C:P8 P.globals.size gl=true)(F:Qn gl w B)(j:Ams w a)(hb:a.block∈B\/∃e∈gl,e.g=a.block){len cap:Nat}(p:len<=cap)
 (hel:∀i,i<cap->∃(x:α) (cs:List Value),w.cells? 0 (a.add (i*s)) s=some cs/\cs.map Abp=f x):
 ∃l:List α,l.length=len/\Sx.R0 s f (Adk gl w B) (.sl a.block a.off len cap s true) l/\Au (Pn P.globals.size w B) (.sl a.block a.off len cap s true) (.slice (some a) len cap):=by
 obtain⟨ha,arr,t,lo,hi,q,M⟩:=j;obtain⟨I,e,u,d⟩:=Aok A C F q hb;have D:a.off+len*s<=arr.size:=by cases len with
  |zero=>omega
  |succ n=>obtain⟨x,cs,h1,_⟩:=hel n om;have:=(Ahc ha q h1).2 E;grind
 have J:Au (Pn P.globals.size w B) (.sl a.block a.off len cap s true) (.slice (some a) len cap):=by obtain⟨b,o,L⟩:=a;simp only at ha d u;subst ha;subst d;exact Au.sl e.c o len cap s true e cap u p (Ye _) (λ_=>rfl) (λO=>by grind)
 suffices h:∃l:List α,l.length=len/\((arr.toList.map Abp).drop a.off).take (len*s)=l.flatMap f by
  obtain⟨l,h1,h2⟩:=h;refine⟨l,h1,.inr ⟨a.block,a.off,cap,true,arr.toList.map Abp,?_,?_,I,?_,?_⟩,J⟩;. rw[h1]
  .omega
  .grind
  simp_all
 by_cases h0:len=0;. simp_all
 .obtain⟨K,_⟩:=hel 0 om;have z:∀i,∃x:α,i<len->((arr.toList.map Abp).drop (a.off+i*s)).take s=f x:=by
   intro i;by_cases hi:i<len;. obtain⟨x,cs,h1,h2⟩:=hel i om;refine⟨x,λ_=>?_⟩;rw[<- h2,(Ahc ha q h1).1,Kv,List.map_drop]
   grind
  exact⟨(List.range len).map λi=>Classical.choose (z i),by simp,AeW _ _ _ len (λi hi=>Classical.choose_spec (z i) hi)⟩
section
variable {H:Type}{enc:TypeId × Value->H}{W W':World}
def Kept.sameAt(e:Kept W W'){p}(d:p.block<W.heap.size):W.sameAt W' p:=by cases p with
|cell b off=>show W'.cell? _=W.cell? _;unfold World.cell?;simp[e.same b d]
|map b=>exact e.same b d
def AhK(d:Kept W W'){g}:∀{ts} {i} {ds} {ps},(∀p∈ps,p.block<W.heap.size)->DataW.TrodAll enc P W 0 g true ts i ds ps->DataW.TrodAll enc P W' 0 g true ts i ds ps
|[],[],[],_,_,h=>h
|_::_,_::_,_::_,_,j,⟨p,q,⟨n,h1⟩,h2,e⟩=>⟨p,q,⟨n,DataW.trod_carry n _ _ _ h1 λx o=>d.sameAt (j x (by grind))⟩,AhK d (λx o=>j x (by simp_all)) h2,e⟩
def Amy(o:laidOutB P=true)(i:mapsRowed P=true)(hz:((List.range P.types.size).all λt=>match P.underlying t with|some (.slice e)=>decide (0<P.cellsOf e)|_=>true)=true)(j:Kept W W')
 {ts:List TypeId} {vs} {ds} {ps} (ht:∀t∈ts,t<P.types.size) (h:DataW.TrodAll enc P W 0 (λ_=>true) true ts vs ds ps):
 DataW.TrodAll enc P W' 0 (λb=>decide (b<W.heap.size)) true ts vs ds ps:=by have d:=h.lt;exact AhK j d (DataW.TrodAll.respare (kids_rows o i) (slices_full_of P hz) ht h λp g=>Ws (d p g))
end
variable {T:Df}{h h0 h1:H}{v:AV}
structure AsH(P:Program)(gl:List GE)(T:Df):Prop where
 ok:∀g args v,T g args=some v->Nx P gl ⟨g,args,v⟩/\I7 args
def CgY(gl:List GE)(T:Df)(Z:Ac):Ac:=⟨λg args h=>@Option.rec _ (λ_=>OR) (Z.call g args h) (λv=>Abq gl v h) (T g args),Z.round⟩
def cQ(P:Program)(gl:List GE)(T:Df)(d:Nat):Ac:=@Nat.rec (λ_=>Ac) Q7 (λ_ e=>CgY gl T ⟨Fy P e,Io P e⟩) d
def B0n(e:Dw Z):Dw (CgY gl T Z):=by
 refine⟨λg args h v h' j=>?_,e.round⟩;have d:(@Option.rec _ (λ_=>OR) (Z.call g args h) (λv=>Abq gl v h) (T g args):OR)=.ok v h':=j;cases i:T g args with
 |none=>rw[i]at d;exact e.call g args h v h' d
 |some u=>rw[i]at d;obtain⟨_,_,rfl⟩:=AfZ d;exact Ye _
def Bte[Ii](z:Bd P P.globals.size Z)(D:P8 P.globals.size gl=true)(F:AsH P gl T):Bd P P.globals.size (CgY gl T Z):=by
 refine⟨?_,λl args h h' v σ w An e t=>z.round l args h h' v σ w An e t,B0n z.mono⟩;intro g args h h' v σ w An kind t hb A d C S O;have j:(@Option.rec _ (λ_=>OR) (Z.call g args h) (λv=>Abq gl v h) (T g args):OR)=.ok v h':=t;cases p:T g args with
 |none=>rw[p]at j;exact z.call g args h h' v σ w An kind j hb A d C S O
 |some u=>
  rw[p]at j;obtain⟨Vr,rfl,rfl⟩:=AfZ j;obtain⟨L,q2⟩:=F.ok g args _ p;obtain⟨v',w',K,fn,E,V,i,J,M,I⟩:=L w An kind (Akl d C D Vr) (λσ'=>q2.rel _ _ A);refine⟨σ,v',w',K,fn,E,V σ,⟨[],J6.refl d.ai,⟨Qq.refl σ,λx e h1 h2=>(by rw[h1]at h2;cases h2),⟨d.so.inj,λx e o=>Yy (d.so.rng x e o) i.grow,d.so.low⟩,i.grow,λc q _=>i.same c q,
   λx e h1 h2=>(by rw[h1]at h2;cases h2),i.io⟩,?_⟩,J,M,I⟩
  intro x e o;exact Gr.congr (Qq.refl σ) (i.same e.c (d.so.rng x e o)) (λ_ _ _ _ _ U=>U) (d.ma x e o)
def Bll[Ii](i:P.follows .mixedOrders=true)(g:Mv P=true)(j:P8 P.globals.size gl=true)(o:AsH P gl T)(d:Nat):Bd P P.globals.size (cQ P gl T d):=by
 induction d with
 |zero=>exact Acd i g 0
 |succ d e=>exact Bte (ApK e i g ⟨N9 e.mono,Mj e.mono⟩) j o
def Cbf{args:uz}(e:Hj gl h=true)(i:T j args=some v):(cQ P gl T (o+1)).call j args h=.ok v h:=by show(@Option.rec _ (λ_=>OR) (Fy P (cQ P gl T o) j args h) (λv=>Abq gl v h) (T j args):OR)=.ok v h;rw[i];show(@Bool.rec (λ_=>OR) (.bad 300) (.ok v h) (Hj gl h):OR)=_;rw[e]
def Cbe{args:uz}(h:H)(e:T j args=none):(cQ P gl T (o+1)).call j args h=Fy P (cQ P gl T o) j args h:=by show(@Option.rec _ (λ_=>OR) (Fy P (cQ P gl T o) j args h) (λv=>Abq gl v h) (T j args):OR)=_;rw[e]
def B4k(V:∀ [Ii],Bd P P.globals.size Z)(z:P8 P.globals.size gl=true){args:uz}(hb:Bg P j=true)(S:Plain v)(M:Sx.Ah (glH gl P.globals.size) (λr _=>r=v) (Z.call j args (glH gl P.globals.size))):Nx P gl ⟨j,args,v⟩:=by
 obtain⟨u,h1,U,gr,rfl⟩:=M;letI:Ii:=⟨Nat.max h1.nx P.globals.size⟩
 intro w An kind J t;obtain⟨i,A⟩:=AkL J (Nat.le_max_right ..) z;have q:Fx (Y0 P.globals.size w) (glH gl P.globals.size) h1:=by intro x h2 h3;have R3:P.globals.size<=x:=h2;unfold Y0;rw[X2 om]
 obtain⟨σ',v',w',D,fn,E,q2,F,L,I,C⟩:=V.call j args _ h1 _ _ w An kind U hb (t _) i A (Nat.le_max_left ..) q;obtain⟨nw,s1,s2,s3⟩:=F;have o:h1.lg=nw:=by rw[s1.lg];simp[glH]
 refine⟨v',w',D,fn,E,λσ=>S _ _ _ q2,⟨s2.grow,λc p=>s2.frame c p ?_,s2.io⟩,L,I,C⟩;intro x O e g;have h5:=(Gm g).1;have d:=gr.lg x (by rw[o];exact O);rcases d with d|d
 .cases d
 .have K:P.globals.size<=x:=d;omega
def AsH.none:AsH P gl (λ_ _=>none):=⟨λ_ _ _ h=>by cases h⟩
def AsH.ext(g:AsH P gl T){S:uz->Option AV}(o:∀args v,S args=some v->Nx P gl ⟨j,args,v⟩/\I7 args):AsH P gl (T.ext j S):=by
 refine⟨λi args v d=>?_⟩;by_cases e:i=j
 .subst e;rw[Ahs]at d;exact o args v d
 .rw[Aew _ _ e]at d;exact g.ok i args v d
def Bb(T:Df)(g d:FuncId)(S:uz->Option AV):T.ext g S d=if d=g then S else T d:=by
 funext args;by_cases h:d=g
 .rw[Xo h,h];exact Ahs ..
 .rw[X2 h];exact Aew _ _ h
open Classical in
def gra{α:Type}(enc:α->uz)(out:α->AV)(dom:α->Prop):uz->Option AV:=λargs=>if d:∃a,dom a/\enc a=args then some (out d.choose)else none
def Awk{α:Type}{enc:α->uz}{out:α->AV}{dom:α->Prop}(d:∀a b,dom a->dom b->enc a=enc b->out a=out b){a:α}(hd:dom a):gra enc out dom (enc a)=some (out a):=by unfold gra;rw[dif_pos ⟨a,hd,rfl⟩];have e:∃b,dom b/\enc b=enc a:=⟨a,hd,rfl⟩;exact Jh some (d _ _ e.choose_spec.1 hd e.choose_spec.2)
def AsI{α:Type}{enc:α->uz}{out:α->AV}{dom:α->Prop}{args:uz}{v:AV}(h:gra enc out dom args=some v):∃a,dom a/\enc a=args/\v=out a:=by
 unfold gra at h;split at h
 .rename_i d;cases h;exact⟨_,d.choose_spec.1,d.choose_spec.2,rfl⟩
 .cases h
end Go.Ev
