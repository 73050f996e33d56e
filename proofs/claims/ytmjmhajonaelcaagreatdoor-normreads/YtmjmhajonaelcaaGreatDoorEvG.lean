/- A variable that holds an error, in the evaluator's first heap. -/
import Derived.Test.YtmjmhajonaelcaaGreatDoorEvF
import Derived.ReadAgain
import Derived.ChangeOld
set_option linter.all false
noncomputable section
namespace Go.Ev
variable {j:Bool}{o:Nat}{p:Op}{C:OR}
noncomputable section
abbrev KT:=L2->H->OR
def Apz(k:AV->H->OR)(r:OR):OR:=OR.rec OR.bad k OR.Hb (let _:Nat:=400;r)
def Aa(r:OR)(k:AV->H->OR):OR:=Apz k r
def A2M(x:VB)(a b:OR):OR:=VB.rec (.bad 401) (λc=>Bool.rec b a c) x
def Af(x:AV)(a b:OR):OR:=A2M (vB x) a b
def opX(o:Oper):Program->Ac->L2->H->OR:=Option.rec (λP Z f h=>opD o.op o.type P Z f h) (λ_ _ _ _ _=>.bad 402) (Ie o.op)
def Ad(x:AV)(w:Bool)(r:OR)(h:H):OR:=WT.rec r (.ok (.Bj []) h) (.bad 182) (Adq x w)
def Acv(g:GS)(o:Oper)(P:Program)(Z:Ac)(f:L2)(h:H):OR:=GS.rec (opX o P Z f h) (λt w=>Ad (f.get t) w (opX o P Z f h) h) (.bad 182) g
def BrW(k:KT)(r:RC):OR:=RC.rec OR.bad k (λ_ _ _=>.bad 410) (λ_ _=>.bad 410) r
def A54(P:Program)(Z:Ac)(ops:Array Oper)(l:List Oper):KT->KT:=
 List.rec (λk=>k) (λo _ d k f h=>Option.rec (Apz (λv h'=>d k (Im o.dst v f) h') (Acv (guardOf ops o) o P Z f h)) (λ_=>BrW (d k) (Fp ops o P Z f h)) (Ie o.op)) l
def Ff(lg:uq)(d:List EF)(h:H)(k:H->OR):OR:=Bool.rec (.bad 183) (k (Be (En d lg) h)) (Lh d)
def ApP(ops:Array Oper)(i:Nat):Nat:=match (M7 ops.toList 0 [])[i]? with|some o=>o.pr|none=>0
def Ahn(ops:Array Oper):List Oper->Nat->List DO:=λl=>List.rec (λ_=>[]) (λo _ d i=>⟨o,Ka i,ApP ops i⟩::d (Nat.succ i)) l
def Aw8(lg:uq)(r:OR):OR:=OR.rec OR.bad OR.ok (λv h'=>OR.Hb v (Be (Akm h'.lg lg) h')) r
def Bnn(d:Bool)(lg:uq)(o:Op)(r:OR):OR:=Bool.rec r (Bool.rec r (Aw8 lg r) (AcX o)) d
def Bxp(o:Op):Bool:=match o with|.call c=>(match c.callee with|.value (.tmp _)=>true|_=>false)|_=>false
def A7R(ops:Array Oper):Bool:=Bool.rec (ops.toList.any λo=>Bxp o.op) false (Aqi ops)
def AzK(r:OR):OR:=OR.rec OR.bad OR.ok (λ_ _=>OR.bad 413) r
def noW(nw:Bool)(o:Op)(r:OR):OR:=Bool.rec r (Bool.rec r (AzK r) (AcX o)) nw
def xDr(P:Program)(Z:Ac)(ops:Array Oper)(lg:uq)(g nw:Bool)(l:List DO):List EF->KT->KT:=
 List.rec (λd k f h=>Ff lg d h (λh'=>k f h'))
  (λo _ e d k f h=>Apz (λv h'=>e (⟨o.bit,o.pr,wrote h.nx h'.lg,Gi P o.o.op f,h,h'⟩::d) k (Im o.o.dst v f) h') (noW nw o.o.op (Bnn g lg o.o.op (Acv (guardOf ops o.o) o.o P Z f (Ab h))))) l
def Ap0(h:H)(k:AV->H->OR)(r:OR):OR:=OR.rec OR.bad (λv h'=>Bool.rec (.bad 409) (k v h') (Q6 (wrote h.nx h'.lg))) OR.Hb r
def Al(h:H)(r:OR)(k:AV->H->OR):OR:=Ap0 h k r
def xQu(P:Program)(Z:Ac)(ops:Array Oper)(lg:uq)(l:List Oper):KT->KT:=
 List.rec (λk f h=>k f (Be lg h))
  (λo _ d k f h=>Ap0 h (λv h'=>d k (Im o.dst v f) h') (Acv (guardOf ops o) o P Z f (Ab h))) l
def As4(q:Bool)(ops:Array Oper)(P:Program)(Z:Ac)(k:KT):KT:=λf h=>Bool.rec (xDr P Z ops h.lg (Aqi ops) (A7R ops) (Ahn ops ops.toList 0) [] k f h) (xQu P Z ops h.lg ops.toList k f h) q
def Amp(q:Bool)(ops:Array Oper)(d:Bool)(P:Program)(Z:Ac)(k:KT):KT:=
 Bool.rec (A54 P Z ops ops.toList k) (λf h=>Bool.rec (.bad 185) (As4 q ops P Z k f h) (AnB ops)) d
def E4(id:Nat)(k:KT)(j:Nat->KT):Nat->KT:=λi f h=>Bool.rec (j i f h) (k f h) (Nat.beq i id)
def F2(b:KT->KT)(n:Nat):KT:=Nat.rec (λ_ _=>.bad 404) (λ_ d=>b d) n
def Big(d:Option Code)(n r:H->OR)(j:Nat->H->OR)(h:H):OR:=
 match d with
 |none=>n h
 |some .ret=>r h
 |some (.exit id)=>Bool.rec (j id h) (.bad 209) (Nat.beq id Em)
 |_=>.bad 188
def BdI(d:Option Code)(j:Nat->KT)(r k:KT)(f:L2)(h:H):OR:=Big d (k f) (r f) (λi=>j i f) h
def AyT(l:Nat)(e:Option Code->H->OR)(h:H):OR:=
 match h.m.get l with
 |.loop st g fr i d bd=>Bool.rec (e g (h.put l (.loop 3 g fr i d bd))) (.bad 189) (Nat.beq st 1)
 |_=>.bad 190
def rgX(P:Program)(Z:Ac)(x:AV)(e:uq)(d bd:Code)(fr:L2)(E:Option Code->H->OR)(h:H):OR:=
 match vF x with
 |.yes (.func g) a cap=>Bool.rec (.bad 191) (Aa (Z.call g (J0 (J0 a [.fn (.yield (h.new (.dfr false)).nx) [] []]) cap) ((h.new (.dfr false)).new (.loop 0 none fr e d bd))) (λ_ h1=>AyT (h.new (.dfr false)).nx E h1)) (Bg P g)
 |_=>.bad 192
def BbT(x:Operand)(e:Array Tmp)(d body:Code)(P:Program)(Z:Ac)(j:Nat->KT)(r k:KT):KT:=λf h=>
 match vT (f.get Br)with
 |.yes ds=>rgX P Z (ev x f) e.toList d body f (λp h1=>BdI p j r k (f.set Br (.Bj (.map h.nx::ds))) h1) h
 |.no=>.bad 192
abbrev XT:=Program->Ac->Nat->Bool->(Nat->KT)->KT->KT->KT
def A7f(k:KT):KT:=k
def A7g(k:KT):KT:=A7f k
def A7h(k:KT):KT:=A7g k
def A7i(k:KT):KT:=A7h k
def Lk(k:KT):KT:=A7i k
def xc(c:Code):XT:=Code.rec (λ_ _ _ _ _ _ k=>k) (λ_ ops e P Z _ q _ _ k=>Amp q ops e P Z k) (λ_ _ a b P Z N q j r k=>a P Z N q j r (Lk (b P Z N q j r k)))
 (λc _ _ a b P Z N q j r k f h=>Af (ev c f) (a P Z N q j r k f h) (b P Z N q j r k f h)) (λid _ a P Z N q j r k=>a P Z N q (E4 id k j) r k)
 (λ_ a P Z N q j r _=>F2 (λk=>a P Z N q j r k) N) (λx g d bd _ _ P Z _ _ j r k=>BbT x g d bd P Z j r k) (λid _ _ _ _ j _ _=>j id) (λ_ a=>a)
 (λ_ _ _ _ _ _ _ k=>k) (λ_ _ _ _ _ _ _ _ _ _=>.bad 193) (λ_ _ _ _ _ r _=>r) (λ_ _ _ _ _ _ _ _ _ _=>.bad 194) c
def dfE(r:Nat)(k:H->OR)(h:H):OR:=match h.m.get r with|.dfr false=>k (h.put r (.dfr true))|_=>.bad 194
def A9b(P:Program)(Z:Ac)(k:H->OR)(ds:uw):H->OR:=List.rec k
 (λd _ e h=>match vF d with
  |.yes (.func g) a cap=>Bool.rec (.bad 195) (Aa (Z.call g (J0 a cap) h) (λ_ h1=>e h1)) (Bg P g)
  |.no=>(match vM d with
   |.yes r=>dfE r e h
   |_=>.bad 196)
  |_=>.bad 196) ds
def A3b(P:Program)(Z:Ac)(rs:List ResultVar)(x:VA)(f:L2)(h:H):OR:=VA.rec (.bad 198) (λds=>A9b P Z (λh=>Gg P rs f h) ds h) x
def Bz(P:Program)(Z:Ac)(rs:List ResultVar):KT:=λf h=>A3b P Z rs (vT (f.get Br)) f h
def Ajy(P:Program)(Z:Ac)(N:Nat)(q:Bool)(args:uw)(h:H)(i:FI):OR:=
 Bool.rec (.bad 407) (xc i.body P Z N q (λ_ _ _=>.bad 406) (Bz P Z i.rs) (Bz P Z i.rs) (Eu args 0 Az) h) (Nat.ble (Q4 args) i.nt)
def Ay(P:Program)(Z:Ac)(N:Nat)(q:Bool)(g:FuncId)(args:uw)(h:H):OR:=Option.rec (.bad 405) (Ajy P Z N q args h) (Ln P g)
variable {P:Program}{Z:Ac}{h h':H}{v:AV}{f f':L2}
def Qu{r}{k}(d:Aa r k=.ok v h'):∃u h1,r=.ok u h1/\k u h1=.ok v h':=by cases r with
|bad n=>cases d
|ok u h1=>exact⟨u,_,rfl,d⟩
|Hb u h1=>cases d
def Mc(j:Nat->KT)(r k:KT)(v:AV)(h':H):RC->Prop
|.bad _=>False
|.Bt f h=>k f h=.ok v h'
|.ext i f h=>j i f h=.ok v h'
|.ret f h=>r f h=.ok v h'
def Sy{ops}{o}{u}{h1}(d:Acv (guardOf ops o) o P Z f h=.ok u h1):Fp ops o P Z f h=.Bt (Im o.dst u f) h1:=by
 have De:∀{u} {h1},opX o P Z f h=.ok u h1->Ame o P Z f h=.Bt (Im o.dst u f) h1:=by intro u h1 d;unfold opX at d;show op1 o _ _ P _ f h=_;unfold op1;cases hd:Ie _ with
  |some c=>simp_all
  |none=>rw[hd]at d;have e:opD _ _ P _ f h=.ok u _:=d;show Akx _ f h ..=_;rw[e];rfl
 show AjD _ o P _ f h=_;unfold Acv at d;cases i:guardOf _ o with
 |bad=>simp_all
 |always=>rw[i]at d;exact De d
 |on t w=>rw[i]at d;have e:Ad _ w _ h=.ok u _:=d;show Amo _ o P _ f h=_;unfold Ad at e;cases g:Adq _ w with
  |yes=>rw[g]at e;exact De e
  |no=>rw[g]at e;cases e;rfl
  |bad=>simp_all
def AkM{ops:Array Oper}{j:Nat->KT}{r k:KT}:∀(l:List Oper) (f:L2) (h:H),A54 P Z ops l k f h=.ok v h'->Mc j r k v h' (G3 P Z ops l f h):=by
 intro l;induction l with
 |nil=>intro f h p;exact p
 |cons o l q=>
  intro f h p;have e:(Option.rec (Apz (λv h'=>A54 P Z ops l k (Im o.dst v f) h') (Acv (guardOf ops o) o P Z f h)) (λ_=>BrW (A54 P Z ops l k) (Fp ops o P Z f h)) (Ie o.op):OR)=.ok v h':=p;show Mc j r k v h' (andThen (G3 P Z ops l) (Fp ops o P Z f h));cases hd:Ie o.op with
  |none=>
   rw[hd]at e;obtain⟨u,h1,h2,t⟩:=Qu (show Aa _ _=_ from e)
   rw[Sy h2];exact q _ _ t
  |some c=>
   rw[hd]at e;have d:BrW (A54 P Z ops l k) (Fp ops o P Z f h)=.ok v h':=e;cases g:Fp ops o P Z f h with
   |Bt f1 h1=>rw[g]at d;exact q _ _ d
   |bad n=>rw[g]at d;cases d
   |ext i f1 h1=>rw[g]at d;cases d
   |ret f1 h1=>rw[g]at d;cases d
def Ao0:∀l i e k d,(M7 l i e)[k]?=some d->(∃o,l[k]?=some o/\d.o=o)/\d.bit=Ka (i+k):=by intro l;induction l with
|nil=>intro i e k d hd;simp[M7]at hd
|cons o l j=>intro i e k d hd;cases k with
 |zero=>simp[M7]at hd;grind
 |succ k=>
  have g:=by simpa[M7]using hd
  grind
def Ags:∀l i d,(M7 l i d).length=l.length:=by intro l;induction l with
|nil=>intro i d;rfl
|cons o l e=>intro i d;show(M7 l ..).length+1=_;grind
def AkP ops:∀l (i k:Nat),(Ahn ops l i)[k]?=l[k]?.map λo=>⟨o,Ka (i+k),ApP ops (i+k)⟩:=by intro l;induction l with
|nil=>intro i k;rfl
|cons o l d=>intro i k;cases k with
 |zero=>rfl
 |succ k=>show(Ahn _ l _)[k]?=_;grind
def Aoz ops:Ahn ops ops.toList 0=M7 ops.toList 0 []:=by apply dg;intro k;rw[AkP];cases hd:(M7 _ 0 _)[k]? with
|none=>
 have h1:(M7 ops.toList 0 []).length<=k:=by grind
 rw[Ags]at h1;grind
|some d=>
 obtain⟨⟨o,h1,h2⟩,g⟩:=Ao0 _ _ _ _ _ hd;rw[h1];have e:ApP ops k=d.pr:=by unfold ApP;grind
 show some _=some d;rw[<- g,Rx,e,<- h2]
def A0v{lg:uq}(i:Bnn j lg p C=.ok v h):C=.ok v h:=by
 cases j with
 |false=>exact i
 |true=>
  have d:(Bool.rec C (Aw8 lg C) (AcX p):OR)=.ok v h:=i;cases g:AcX p with
  |false=>rw[g]at d;exact d
  |true=>
   rw[g]at d;have e:Aw8 lg C=.ok v h:=d;cases C with
   |bad n=>cases e
   |ok u h1=>exact e
   |Hb u h1=>cases e
def A89{nw:Bool}(i:noW nw p C=.ok v h):C=.ok v h:=by
 cases nw with
 |false=>exact i
 |true=>
  have d:(Bool.rec C (AzK C) (AcX p):OR)=.ok v h:=i;cases g:AcX p with
  |false=>rw[g]at d;exact d
  |true=>
   rw[g]at d;have e:AzK C=.ok v h:=d;cases C with
   |bad n=>cases e
   |ok u h1=>exact e
   |Hb u h1=>cases e
def Aow{ops:Array Oper}{lg:uq}{nw:Bool}{k:KT}:∀(l:List DO) (e:List EF) (f:L2) (h:H),xDr P Z ops lg j nw l e k f h=.ok v h'->∃d h2,Sp P Z ops lg l e f h=.Bt d h2/\k d h2=.ok v h':=by
 intro l;induction l with
 |nil=>
  intro e f h i;have g:Ff lg e h (λh'=>k f h')=.ok v h':=i;show ∃d h2,Acf lg e f h=.Bt d h2/\k d h2=.ok v h';unfold Ff at g;unfold Acf;cases p:Lh e with
  |false=>rw[p]at g;cases g
  |true=>rw[p]at g;exact⟨_,_,rfl,g⟩
 |cons o l q=>
  intro e f h i;obtain⟨u,h1,h2,t⟩:=Qu (show Aa _ _=_ from i)
  show ∃d h2,(RC.rec (motive:=λ_=>RC) RC.bad (λf' h'=>Sp P Z ops lg l (⟨o.bit,o.pr,wrote h.nx h'.lg,Gi P o.o.op f,h,h'⟩::e) f' h') (λ_ _ _=>.bad 184) (λ_ _=>.bad 184) (Fp ops o.o P Z f (Ab h)))=.Bt d h2/\k d h2=.ok v h';rw[Sy (A0v (A89 h2))];exact q _ _ _ t
def Ao1{l}(hn:Q6 l=true):l=[]:=by cases l with|nil=>rfl|cons a l=>cases hn
def Aoy{ops:Array Oper}{lg:uq}{k:KT}:∀(l:List DO) (d:List EF) (f:L2) (h:H),(∀e∈d,e.w=[])->xQu P Z ops lg (l.map (·.o)) k f h=.ok v h'->∃g h2,Sp P Z ops lg l d f h=.Bt g h2/\k g h2=.ok v h':=by
 intro l;induction l with
 |nil=>
  intro d f h hq i;show ∃g h2,Acf lg d f h=.Bt g h2/\k g h2=.ok v h';have h1:∀(all:List EF) (l:List EF),(∀e∈l,e.w=[])->Iu all l=true:=by
   intro all l;induction l with
   |nil=>intro _;rfl
   |cons e l p=>intro j;show(@Bool.rec (λ_=>Bool) (@Bool.rec (λ_=>Bool) false (Iu all l) (E2 e all)) (Iu all l) (Q6 e.w):Bool)=true;rw[j e (by simp)];exact p λx z=>j x (by simp[z])
  have h2:∀(l:List EF),(∀e∈l,e.w=[])->En l lg=lg:=by
   intro l;induction l with
   |nil=>intro _;rfl
   |cons e l p=>intro j;show Akm e.w (En l lg)=lg;rw[j e (by simp),p λx z=>j x (by simp[z])];rfl
  unfold Acf Lh;rw[h1 d d hq,h2 d hq];exact⟨_,_,rfl,i⟩
 |cons o l p=>
  intro d f h hq i;obtain⟨u,h1,h2,q⟩:=Qu (show Aa _ (λv h'=>@Bool.rec (λ_=>OR) (.bad 409) (xQu P Z ops lg (l.map (·.o)) k (Im o.o.dst v f) h') (Q6 (wrote h.nx h'.lg)))=_ from i)
  show ∃g h2,(RC.rec (motive:=λ_=>RC) RC.bad (λf' h'=>Sp P Z ops lg l (⟨o.bit,o.pr,wrote h.nx h'.lg,Gi P o.o.op f,h,h'⟩::d) f' h') (λ_ _ _=>.bad 184) (λ_ _=>.bad 184) (Fp ops o.o P Z f (Ab h)))=.Bt g h2/\k g h2=.ok v h';rw[Sy h2];cases t:Q6 (wrote h.nx h1.lg)with
  |false=>rw[t]at q;cases q
  |true=>
   rw[t]at q;refine p _ _ _ ?_ q;intro e i;rcases Tu.1 i with rfl|i
   .exact Ao1 t
   .exact hq e i
def Ava:∀l i d,(M7 l i d).map (·.o)=l:=by intro l;induction l with
|nil=>intro i d;rfl
|cons o l e=>intro i d;show o::(M7 l ..).map _=_;grind
def S8(b:L2->H->RC)(n:Nat):L2->H->RC:=Nat.rec (λf h=>.Bt f h) (λ_ d f h=>andThen d (b f h)) n
def Adu a b r:andThen a (andThen b r)=andThen (λf h=>andThen a (b f h)) r:=by cases r<;>rfl
def AeC b m:∀n f h,S8 b (n+m) f h=andThen (S8 b m) (S8 b n f h):=by intro n;induction n with
|zero=>intro f h;rw[Rx];rfl
|succ n d=>intro f h;rw[Nat.succ_add];show andThen (S8 b _) _=andThen _ (andThen (S8 b n) _);rw[Adu];congr 1;grind
def Ake b:∀k f h,Yd b P Z k f h=S8 (b P Z) (2^k) f h:=by intro k;induction k with
|zero=>intro f h;show b P _ f h=andThen ..;cases b P _ f h<;>rfl
|succ k d=>intro f h;rw[Nat.pow_succ,Nat.mul_two,AeC];show andThen (Yd b P _ k) (Yd b P _ k f h)=_;rw[d f h];congr 1;grind
def A8a{ds f:L2}{j:Nat->KT}{r k:KT}{h1:H}{u:AV}(l:AyT o (λp h=>BdI p j r k f h) h1=.ok v h'):Mc j r k v h' (Mn f o (.ok u h1)):=by
 unfold AyT at l;show Mc j r k v h' (match h1.m.get o with
  |.loop st e fr i d bd=>(Bool.rec (Z4 e f (h1.put o (.loop 3 e fr i d bd))) (.bad 189) (Nat.beq st 1))
  |_=>.bad 190)
 cases A:h1.m.get o with
 |loop st e fr i d bd=>
  rw[A]at l;have g:(Bool.rec (BdI e j r k f (h1.put o (.loop 3 e fr i d bd))) (.bad 189) (Nat.beq st 1):OR)=.ok v h':=l;show Mc j r k v h' (Bool.rec (Z4 e f (h1.put o (.loop 3 e fr i d bd))) (.bad 189) (Nat.beq st 1));cases z:Nat.beq st 1 with
  |true=>rw[z]at g;cases g
  |false=>
   rw[z]at g;have q:BdI e j r k f (h1.put o (.loop 3 e fr i d bd))=.ok v h':=g;show Mc j r k v h' (Z4 e f (h1.put o (.loop 3 e fr i d bd)));cases e with
   |none=>exact q
   |some c=>
    cases c with
    |ret=>exact q
    |exit id=>
     have t:(Bool.rec (j id f (h1.put o (.loop 3 (some (.exit id)) fr i d bd))) (.bad 209) (Nat.beq id Em):OR)=.ok v h':=q;show Mc j r k v h' (Bool.rec (RC.ext id f (h1.put o (.loop 3 (some (.exit id)) fr i d bd))) (.bad 209) (Nat.beq id Em));cases hi:Nat.beq id Em with
     |true=>rw[hi]at t;cases t
     |false=>rw[hi]at t;exact t
    |_=>cases q
 |_=>rw[A]at l;cases l
def As6(V:o<=1048576)(c:Code):∀(q:Nat->KT) (r k:KT) (f:L2) (h:H),xc c P Z o j q r k f h=.ok v h'->Mc q r k v h' (exec c P Z f h):=by
 induction c with
 |skip=>intro q r k f h d;exact d
 |region id ops L=>
  intro q r k f h d;have N:Amp j ops L P Z k f h=.ok v h':=d;cases L with
  |false=>exact AkM _ _ _ N
  |true=>
   have C:(Bool.rec (.bad 185) (As4 j ops P Z k f h) (AnB ops):OR)=.ok v h':=N;show Mc q r k v h' (Gk P Z ops f h);cases hn:AnB ops with
   |false=>rw[hn]at C;cases C
   |true=>
    rw[hn]at C;cases j with
    |false=>have B:xDr P Z ops h.lg (Aqi ops) (A7R ops) (Ahn ops ops.toList 0) [] k f h=.ok v h':=C;rw[Aoz]at B;obtain⟨O,h2,F,I⟩:=Aow (M7 ops.toList 0 []) [] f h B;rw[AmS hn F];exact I
    |true=>have B:xQu P Z ops h.lg ops.toList k f h=.ok v h':=C;rw[<- Ava ops.toList 0 []]at B;obtain⟨O,h2,F,I⟩:=Aoy (M7 ops.toList 0 []) [] f h (λe d=>by cases d) B;rw[AmS hn F];exact I
 |seq a b t z=>
  intro q r k f h d;have h1:=t q r (xc b P Z o j q r k) f h d;show Mc q r k v h' (andThen (exec b P Z) (exec a P Z f h));cases p:exec a P Z f h with
  |bad n=>rw[p]at h1;exact h1.elim
  |Bt f1 h2=>rw[p]at h1;exact z q r k f1 h2 h1
  |ext i f1 h2=>rw[p]at h1;exact h1
  |ret f1 h2=>rw[p]at h1;exact h1
 |cond x a b t z=>
  intro q r k f h d;have N:Af (ev x f) (xc a P Z o j q r k f h) (xc b P Z o j q r k f h)=.ok v h':=d;show Mc q r k v h' (Al2 (ev x f) (exec a) (exec b) P Z f h);cases p:ev x f with
  |bool c=>
   rw[p]at N;cases c with
   |false=>exact z q r k f h N
   |true=>exact t q r k f h N
  |_=>rw[p]at N;cases N
 |block id a t=>
  intro q r k f h d;have h1:=t (E4 id k q) r k f h d;show Mc q r k v h' (inBlock id (exec a P Z f h));cases p:exec a P Z f h with
  |bad n=>rw[p]at h1;exact h1.elim
  |Bt f1 h2=>rw[p]at h1;exact h1
  |ext i f1 h2=>
   rw[p]at h1;have D:(Bool.rec (q i f1 h2) (k f1 h2) (Nat.beq i id):OR)=.ok v h':=h1;show Mc q r k v h' (Bool.rec (RC.ext i f1 h2) (RC.Bt f1 h2) (Nat.beq i id));cases A:Nat.beq i id with
   |false=>rw[A]at D;exact D
   |true=>rw[A]at D;exact D
  |ret f1 h2=>rw[p]at h1;exact h1
 |loop a t=>
  intro q r k f h d;have J:∀n f h,F2 (λk=>xc a P Z o j q r k) n f h=.ok v h'->Mc q r (λ_ _=>.bad 0) v h' (S8 (exec a P Z) n f h):=by
   intro n;induction n with
   |zero=>intro f h d;cases d
   |succ n S=>
    intro f h d;have h1:=t q r (F2 (λk=>xc a P Z o j q r k) n) f h d;show Mc q r (λ_ _=>.bad 0) v h' (andThen (S8 (exec a P Z) n) (exec a P Z f h));cases p:exec a P Z f h with
    |bad n=>rw[p]at h1;exact h1.elim
    |Bt f1 h2=>rw[p]at h1;exact S f1 h2 h1
    |ext i f1 h2=>rw[p]at h1;exact h1
    |ret f1 h2=>rw[p]at h1;exact h1
  have h1:=J o f h d;show Mc q r k v h' (andThen (λ_ _=>.bad 187) (Yd (exec a) P Z 20 f h));rw[Ake,show(2:Nat)^20=1048576 from rfl]
  rw[show 1048576=o+(1048576-o)by omega,AeC]
  cases p:S8 (exec a P Z) o f h with
  |bad n=>rw[p]at h1;exact h1.elim
  |Bt f1 h2=>rw[p]at h1;cases h1
  |ext i f1 h2=>rw[p]at h1;exact h1
  |ret f1 h2=>rw[p]at h1;exact h1
 |rangeFunc x E a b t z=>
  intro q r k f h d;have N:BbT x E a b P Z q r k f h=.ok v h':=d;show Mc q r k v h' (AbV x E a b (exec a) (exec b) P Z f h);unfold BbT rgX at N;unfold AbV;cases hd:vT (f.get Br)with
  |no=>rw[hd]at N;cases N
  |yes ds=>
   rw[hd]at N;cases K:vF (ev x f)with
   |no=>rw[K]at N;cases N
   |nil=>rw[K]at N;cases N
   |yes g l1 U=>
    rw[K]at N;cases g with
    |func g=>
     show Mc q r k v h' (Yu P Z g l1 U E.toList a b f (f.set Br (.Bj (.map h.nx::ds))) (h.new (.dfr false)));unfold Yu;cases A:Bg P g with
     |false=>simp only[A]at N;cases N
     |true=>simp only[A]at N;obtain⟨u,h1,h2,M⟩:=Qu N;show Mc q r k v h' (Mn _ _ _);rw[h2];exact A8a (ds:=f) M
    |_=>cases N
 |exit id=>intro q r k f h d;exact d
 |ret=>intro q r k f h d;exact d
 |scope a t=>exact t
 |_=>intro q r k f h d;first|exact d|cases d
def Bgi{k:H->OR}:∀(ds:uw) (h:H),A9b P Z k ds h=.ok v h'->∃h1,D3 P Z ds h=.ok h1/\k h1=.ok v h':=by
 intro ds;induction ds with
 |nil=>intro h p;exact⟨h,rfl,p⟩
 |cons d ds t=>
  intro h p;have e:(match vF d with
   |.yes (.func g) a cap=>(Bool.rec (.bad 195) (Aa (Z.call g (J0 a cap) h) (λ_ h1=>A9b P Z k ds h1)) (Bg P g):OR)
   |.no=>(match vM d with
    |.yes r=>dfE r (A9b P Z k ds) h
    |_=>.bad 196)
   |_=>.bad 196)=.ok v h':=p
  unfold D3;cases o:vF d with
  |no=>
   rw[o]at e;cases j:vM d with
   |no=>rw[j]at e;cases e
   |nil=>rw[j]at e;cases e
   |yes r=>
    rw[j]at e;simp only[dfE]at e;cases q:h.m.get r with
    |dfr b=>
     rw[q]at e;cases b with
     |true=>cases e
     |false=>simp only[q];exact t _ e
    |_=>rw[q]at e;cases e
  |nil=>rw[o]at e;cases e
  |yes g a cap=>
   rw[o]at e;cases g with
   |func g=>
    have i:(Bool.rec (.bad 195) (Aa (Z.call g (J0 a cap) h) (λ_ h1=>A9b P Z k ds h1)) (Bg P g):OR)=.ok v h':=e;show ∃h1,(Bool.rec (.bad 195) ((match Z.call g (J0 a cap) h with|.ok _ h'=>D3 P Z ds h'|.bad n=>.bad n|.Hb _ _=>.bad 211)) (Bg P g):RH)=.ok h1/\k h1=.ok v h';cases z:Bg P g with
    |false=>rw[z]at i;cases i
    |true=>
     rw[z]at i;obtain⟨u,h1,h2,A⟩:=Qu (show Aa _ _=_ from i)
     show ∃h1,(match Z.call g (J0 a cap) h with|.ok _ h'=>D3 P Z ds h'|.bad n=>.bad n|.Hb _ _=>.bad 211)=.ok h1/\k h1=.ok v h';rw[h2];exact t h1 A
   |_=>cases e
def Aa7{rs:List ResultVar}(g:Bz P Z rs f h=.ok v h'):finish P Z rs f h=.ok v h':=by
 have d:A3b P Z rs (vT (f.get Br)) f h=.ok v h':=g;unfold finish;cases e:vT (f.get Br)with
 |no=>rw[e]at d;cases d
 |yes ds=>rw[e]at d;obtain⟨h1,h2,i⟩:=Bgi ds h d;show RH.rec (motive:=λ_=>OR) .bad (λh'=>Gg P rs f h') (D3 P Z ds h)=.ok v h';rw[h2];exact i
def Jn{N}{q}(p:N<=1048576){g}{args}(e:Ay P Z N q g args h=.ok v h'):Fy P Z g args h=.ok v h':=by unfold Ay at e;unfold Fy;cases hi:Ln P g with
|none=>simp_all
|some i=>rw[hi]at e;have j:Ajy P _ N q _ h i=.ok v _:=e;show AbW P _ g _ h i=.ok v _;unfold Ajy at j;unfold AbW;cases o:Nat.ble .. with
 |false=>simp_all
 |true=>rw[o]at j;have h1:=As6 p _ _ _ _ _ _ j;cases d:exec _ P _ _ h with
  |bad n=>rw[d]at h1;exact h1.elim
  |Bt f1 h2=>rw[d]at h1;show Agk g (finish P _ _ ..)=_;rw[Aa7 h1];rfl
  |ext i f1 h2=>rw[d]at h1;cases h1
  |ret f1 h2=>rw[d]at h1;show Agk g (finish P _ _ ..)=_;rw[Aa7 h1];rfl
def A1q(l:Nat):Nat->KT:=λid _ h=>Bool.rec (endRound l (some (.exit id)) h) (.bad 223) (Nat.beq id Em)
def BaI(l:Nat):KT:=λ_ h=>endRound l none h
def A1r(l:Nat):KT:=λ_ h=>endRound l (some .ret) h
def Aze(P:Program)(Z:Ac)(N:Nat)(q:Bool)(l:Nat)(args:uw)(h:H):OR:=
 match h.m.get l with
 |.loop _ _ fr o j bd=>
  match Uz o args (fr.set Br (.map l))with
  |some f=>xc j P Z N q (A1q l) (A1r l) (λf h=>match h.m.get l with|.loop 0 p i d e g=>xc bd P Z N q (A1q l) (A1r l) (BaI l) f (h.put l (.loop 1 p i d e g))|_=>.bad 203) f h
  |none=>.bad 204
 |_=>.bad 205
def A7w{r:RC}(d:Mc (A1q o) (A1r o) (BaI o) v h' r):Agg o r=.ok v h':=by
 cases r with
 |bad n=>exact d.elim
 |Bt f h=>exact d
 |ext i f h=>exact d
 |ret f h=>exact d
def A1W(D:o<=1048576){l:Nat}{args:uw}(d:Aze P Z o j l args h=.ok v h'):Io P Z l args h=.ok v h':=by
 unfold Aze at d;unfold Io;cases F:h.m.get l with
 |loop st E fr I u bd=>
  rw[F]at d;cases B:Uz I args (fr.set Br (.map l))with
  |none=>simp only[B]at d;cases d
  |some f=>
   simp only[B]at d;simp only[B];have h1:=As6 D u _ _ _ _ _ d;apply A7w;cases z:exec u P Z f h with
   |bad n=>rw[z]at h1;exact h1.elim
   |ext i f1 h2=>rw[z]at h1;exact h1
   |ret f1 h2=>rw[z]at h1;exact h1
   |Bt f1 h2=>
    rw[z]at h1;show Mc (A1q l) (A1r l) (BaI l) v h' (Age P Z l bd f1 h2);unfold Age;have p:(match h2.m.get l with|.loop 0 E N e g q=>xc bd P Z o j (A1q l) (A1r l) (BaI l) f1 (h2.put l (.loop 1 E N e g q))|_=>.bad 203)=.ok v h':=h1;cases t:h2.m.get l with
    |loop C A N e g q=>
     rw[t]at p;cases C with
     |zero=>
      have J:xc bd P Z o j (A1q l) (A1r l) (BaI l) f1 (h2.put l (.loop 1 A N e g q))=.ok v h':=by simpa only using p
      exact As6 D bd _ _ _ _ _ J
     |succ n=>cases p
    |_=>rw[t]at p;cases p
 |_=>rw[F]at d;cases d
end
end Go.Ev
namespace Go.Ev
noncomputable section
abbrev C6(x y:OR)(b:Bool):OR:=Bool.rec x y b
def Aj(P:Program)(op:BinOp)(t:TypeId)(c:Bool)(x y:AV)(h:H):OR:=Atc x x y op t c P h
def Qe(op:UnOp)(x:AV)(h:H):OR:=
 match op with
 |.not=>match vB x with|.yes b=>.ok (.bool (Ib b)) h|.no=>.bad 44
 |.neg=>match vI x with|.yes k n=>.ok (.int k (E1 k (Int.sub 0 n))) h|.no=>.bad 45
 |_=>.bad 46
def Fu(x:AV)(h:H):OR:=C6 (.bad 28) (.ok x h) (notNil x)
def Ae(i:Option (Option Nat))(a:AV)(h:H):OR:=ldV a i h
def A4(n:Nat)(a x:AV)(h:H):OR:=stV a (cellsOf x) (some n) h
def Oy(e:TypeId)(x:AV)(h:H):OR:=AdR (cellsOf x) e h
def Sr:List (Nat × Nat × AV)->uw->Option uw
|[],cs=>some cs
|p::rest,cs=>
 match (some (p.1,p.2.1):Option (Nat × Nat)),cellsOf p.2.2 with
 |some (off,size),some v=>match Ng cs v off with|some D7=>Bool.rec none (Sr rest D7) (Nat.beq (Q4 v) size)|none=>none
 |_,_=>none
def B7(z:uw)(l:List (Nat × Nat × AV))(h:H):OR:=Ly (Sr l z) h
def Bh(e:TypeId)(s n:Nat)(z:uw)(l:List (Nat × Nat × AV))(h:H):OR:=
 match Sr l z with
 |some cs=>mk h (cz cs e) (.sl h.nx 0 n n s true)
 |none=>.bad 20
def Gc(s:Nat)(x i:AV)(h:H):OR:=Option.rec (.bad 92) (λn=>iaS x n s h) (Vg i)
def AxM(len s:Nat)(x i:AV)(h:H):OR:=Option.rec (.bad 92) (λn=>iaA x len n s h) (Vg i)
def xTA(z:AV)(d:TypeId)(ok:Bool)(x:AV)(h:H):OR:=
 match (some z:Option AV),vIf x with
 |some z,.nil=>C6 (.bad 103) (.ok (.Bj [z,ux]) h) ok
 |some z,.yes t v=>C6 (C6 (.bad 104) (.ok (.Bj [z,ux]) h) ok) (.ok (Bool.rec v (.Bj [v,uz]) ok) h) (Nat.beq t d)
 |_,_=>.bad 105
def A7a(i:SI)(s x:AV)(h:H):OR:=
 match Hd h i.s x with
 |some (n,new)=>match vL s with
  |.nil=>C6 (C6 (.bad 120) (C6 (.bad 120) (grow h i.e i.s new n) (Bm new)) (Gj (n*(i.bytes+1)))) (.ok .Bv h) (Nat.beq n 0)
  |.yes b off len cap sz ex=>C6 (.bad 121) (C6 (.bad 121) (C6 (.bad 121) (Lg i b off len cap sz ex n new h) (Nat.beq sz i.s)) (Bm new)) (Gj ((len+n)*(i.bytes+1)))
  |.no=>.bad 122
 |none=>.bad 123
def Ds(e:TypeId)(s bytes:Nat)(x y:AV)(h:H):OR:=A7a ⟨e,s,bytes⟩ x y h
def fr(f:L2)(l:List (Nat × AV)):L2:=List.rec (λf=>f) (λp _ d f=>d (f.set p.1 p.2)) l f
def A5e(x:Option AV)(n:Nat):Option Operand:=Option.rec none (λ_=>some (.tmp n)) x
def avX(x:Option AV):AV:=Option.rec .top (λy=>y) x
def xSl(P:Program)(t:TypeId)(x:AV)(lo hi:Option AV)(h:H):OR:=Aac t (.tmp 0) (A5e lo 1) (A5e hi 2) none 0 P Q7 (fr Az [(0,x),(1,avX lo),(2,avX hi)]) h
def xIx(P:Program)(g:XI)(x i:AV)(h:H):OR:=
 match g,Vg i with
 |.str,some n=>ixS x n h
 |.arr len d,some n=>match vA x with
  |.yes cs=>C6 (.bad 95) (Py (Hc P d.e cs (n*d.s)) h) (Nat.blt n len)
  |.no=>.bad 96
 |_,_=>.bad 97
def BlW(i:Option (Option Nat))(o:Nat)(x:AV)(h:H):OR:=
 match vA x,(some (i,o):Option (Option (Option Nat) × Nat))with
 |.yes cs,some (i,o)=>Py (Tn i cs o) h
 |_,_=>.bad 86
def xLk(P:Program)(kt:TypeId)(z:AV)(ok:Bool)(m k:AV)(h:H):OR:=
 match (some ⟨kt,z⟩:Option MI),entries m h with
 |some d,some es=>match M1 (Gy P d.kt k) es with
  |some (some v)=>.ok (Bool.rec v (.Bj [v,uz]) ok) h
  |some none=>.ok (Bool.rec d.z (.Bj [d.z,ux]) ok) h
  |none=>.bad 98
 |_,_=>.bad 99
def As5(P:Program)(kt:TypeId)(z:AV)(m k x:AV)(h:H):OR:=
 match (some ⟨kt,z⟩:Option MI),vM m with
 |some e,.yes r=>
  (match h.m.get r with
  |.map es=>match Z7 (Gy P e.kt k) k x es with|some d=>.ok (.Bj []) (h.put r (.map d))|none=>.bad 100
  |_=>.bad 101)
 |_,_=>.bad 102
def kid(c:Code)(i:Nat):Code:=
 match c,i with
 |.seq a _,0=>a
 |.seq _ b,_=>b
 |.cond _ a _,0=>a
 |.cond _ _ b,_=>b
 |.block _ a,_=>a
 |.loop a,_=>a
 |.scope a,_=>a
 |.rangeFunc _ _ a _,0=>a
 |.rangeFunc _ _ _ b,_=>b
 |c,_=>c
def sub(c:Code)(l:uq):Code:=List.rec (λc=>c) (λi _ d c=>d (kid c i)) l c
def Bc(P:Program)(g:FuncId):Code:=match Ln P g with|some i=>i.body|none=>.skip
def As(P:Program)(g:FuncId):List ResultVar:=match Ln P g with|some i=>i.rs|none=>[]
inductive RX where
|v (x:AV)
|c (i:Option (Option Nat)) (x:AV)
def AzF(h:H):List RX->Option uw
|[]=>some []
|.v x::rs=>match AzF h rs with|some l=>some (x::l)|none=>none
|.c i x::rs=>match AyY i x h,AzF h rs with|some v,some l=>some (v::l)|_,_=>none
def Vk(rs:List RX)(h:H):OR:=match AzF h rs with|some l=>.ok (single l) h|none=>.bad 197
def mnm(P:Program)(t:TypeId)(i:Nat):String:=match P.info? t with|some x=>(match x.methods[i]? with|some m=>m.name|none=>Jk)|none=>Jk
abbrev AqV(_:AV):RS:=.none
def Bs6(x:AV)(h:H):OR:=
 match vL x with
 |.nil=>.ok (.str []) h
 |.yes b off len _ _ _=>match h.rd b with
  |some c=>match Nf c off len with
   |some cs=>match Yj cs with|some s=>.ok (.str s) h|none=>.bad 53
   |none=>.bad 54
  |none=>.bad 55
 |.no=>.bad 56
def BwI(e:TypeId)(x:AV)(h:H):OR:=
 match vS x with
 |.yes s=>(Bool.rec (.bad 51) (.ok (.sl (Nat.succ h.nx) 0 (Y2 s) (Y2 s) 1 false) ((h.new (.Fb 0)).new (.cells (U2 s) e (.Gt h.nx)))) (Gj (Y2 s)))
 |.no=>.bad 52
def BwJ(x:AV)(h:H):OR:=
 match vP x with
 |.nil=>.ok .Ob h
 |.yes b off=>(match h.rd b with|some c=>(Bool.rec (.bad 57) (.ok (.ptr b off) h) (Nat.blt off (Q4 c)))|none=>.bad 58)
 |.no=>.bad 59
def BwH(P:Program)(u:TypeId)(x:AV)(h:H):OR:=
 match vP x with
 |.nil=>.ok .Ob h
 |.yes b off=>(match h.m.get b with|.cells c e .exact=>(Bool.rec (.bad 60) (.ok (.ptr b off) h) (Awp P e (Q4 c) off u))|_=>.bad 61)
 |.no=>.bad 62
def A6r(k:IntKind)(x:AV)(h:H):OR:=match vI x with|.yes _ n=>.ok (.int k (E1 k n)) h|.no=>.bad 47
end
end Go.Ev
namespace Go.Ev.Sx
open Go.Ev
variable [Ii]
variable {P:Program}{Z:Ac}{h h0 h1:H}{v x y:AV}
@[simp]def N2(v:AV)(h:H)(k:AV->H->OR):Aa (.ok v h) k=k v h:=rfl
def Si(v:AV)(h0 h1:H)(k:AV->H->OR)(hq:wrote h0.nx h1.lg=[]):Al h0 (.ok v h1) k=k v h1:=by show(Bool.rec (.bad 409) (k v h1) (Q6 (wrote h0.nx h1.lg)):OR)=_;rw[hq];rfl
@[simp]def Hv v h0 h1 k:Al h0 (.ok v (Ab h1)) k=k v (Ab h1):=Si v _ _ k rfl
@[simp]def Ep(a b:OR):Af uz a b=a:=rfl
@[simp]def Dq(a b:OR):Af ux a b=b:=rfl
@[simp]def A5u(r:OR)(h:H):Ad uz true r h=r:=rfl
@[simp]def Kk(r:OR)(h:H):Ad ux false r h=r:=rfl
@[simp]def A5t(r:OR)(h:H):Ad uz false r h=.ok (.Bj []) h:=rfl
@[simp]def A5s(r:OR)(h:H):Ad ux true r h=.ok (.Bj []) h:=rfl
@[simp]def A0V(l:uw)(w:Bool)(r:OR)(h:H):Ad (.Bj l) w r h=.ok (.Bj []) h:=rfl
@[simp]def A68(x y:AV)(h:H):Bo uz x y h=.ok x h:=rfl
@[simp]def A67(x y:AV)(h:H):Bo ux x y h=.ok y h:=rfl
@[simp]def Auu:(Ab h).m=h.m:=rfl
@[simp]def AcQ:(Ab h).nx=h.nx:=rfl
@[simp]def B9:(Ab h).lg=[]:=rfl
@[simp]def Te:Ab (Ab h)=Ab h:=rfl
@[simp]def A6A(lg:uq):(Be lg h).m=h.m:=rfl
@[simp]def Ait(lg:uq):(Be lg h).nx=h.nx:=rfl
@[simp]def Ca(lg:uq):(Be lg h).lg=lg:=rfl
@[simp]def Ais:Be h.lg (Ab h)=h:=rfl
@[simp]def Z9(o:AO):(h.new o).nx=h.nx+1:=rfl
@[simp]def Dn(o:AO):(h.new o).lg=h.lg:=rfl
@[simp]def ArH(b:Nat)(o:AO):(h.put b o).nx=h.nx:=rfl
@[simp]def Dp(b:Nat)(o:AO):(h.put b o).lg=b::h.lg:=rfl
omit [Ii]in
def AcO(o:AO)(b:Nat):(h.new o).m.get b=if b=h.nx then o else h.m.get b:=KM.N5 h.m h.nx b o
omit [Ii]in
def Air(c:Nat)(o:AO)(b:Nat):(h.put c o).m.get b=if b=c then o else h.m.get b:=KM.N5 h.m c b o
omit [Ii]in
@[simp]def Bf(o:AO):(h.new o).m.get h.nx=o:=by rw[AcO,Xo rfl]
omit [Ii]in
@[simp]def A2(c:Nat)(o:AO):(h.put c o).m.get c=o:=by rw[Air,Xo rfl]
omit [Ii]in
@[simp 900] theorem Cq(o:AO)(b:Nat)(h3:b≠h.nx):(h.new o).m.get b=h.m.get b:=by rw[AcO,X2 h3]
omit [Ii]in
@[simp 900] theorem Aq(c:Nat)(o:AO)(b:Nat)(h3:b≠c):(h.put c o).m.get b=h.m.get b:=by rw[Air,X2 h3]
omit [Ii]in
@[simp 800] theorem Azz(o:AO)(b:Nat)(h3:b<=h.nx)(h4:h.nx<=b):(h.new o).m.get b=o:=by rw[AcO,Xo om]
omit [Ii]in
@[simp]def Bx(n:Nat):wrote n []=[]:=rfl
def Am(n b:Nat)(l:uq)(g:n<=b):wrote n (b::l)=wrote n l:=by
 show(Bool.rec (wrote n l) (b::wrote n l) (Nat.blt b n):uq)=_;have:Nat.blt b n=false:=by
  cases d:Nat.blt b n with
  |false=>rfl
  |true=>
   have e:b<n:=by simpa using d
   omega
 rw[this]
def AaS(b:Nat):h.rd b=rdO (h.m.get b) h:=rfl
@[simp]def AnQ(c:uw)(e:TypeId):rdO (cz c e) h=some c:=rfl
@[simp]def A69(c:uw)(e:TypeId)(k:Nat):rdO (.cells c e (.Gt k)) h=some c:=rfl
@[simp]def As0(b off:Nat)(vs:uw):h.wr b off vs=wrO (h.m.get b) b off vs h:=rfl
@[simp]def Afa(c:uw)(e:TypeId)(b off:Nat)(vs:uw):wrO (cz c e) b off vs h=wrL (Ng c vs off) b e h:=rfl
@[simp]def AuX(c:uw)(e:TypeId)(k:Nat)(b off:Nat)(vs:uw):wrO (.cells c e (.Gt k)) b off vs h=wrT (Ng c vs off) (Aj3 (h.m.get k)) k b e h:=rfl
@[simp]def AiK(c:uw)(b:Nat)(e:TypeId):wrL (some c) b e h=.ok (h.put b (cz c e)):=rfl
@[simp]def Asz(c:uw)(n k b:Nat)(e:TypeId):wrT (some c) (some n) k b e h=.ok ((h.put b (.cells c e (.Gt k))).put k (.Fb (n+1))):=rfl
@[simp]def Sn(n:Nat):Aj3 (.Fb n)=some n:=rfl
@[simp]def Agc:AnU (.ok h)=.ok (.Bj []) h:=rfl
@[simp]def AvB(k:IntKind)(n:Int):cellsOf (.int k n)=some [.int k n]:=rfl
@[simp]def Ati(b:Bool):cellsOf (.bool b)=some [.bool b]:=rfl
@[simp]def AvH(s:uq):cellsOf (.str s)=some [.str s]:=rfl
@[simp]def AvA(t:TypeId)(x:AV):cellsOf (.I6 t x)=some [.I6 t x]:=rfl
@[simp]def Atj:cellsOf .B3=some [.B3]:=rfl
@[simp]def AvE:cellsOf .Bv=some [.Bv]:=rfl
@[simp]def AxH(b o l c z:Nat)(e:Bool):cellsOf (.sl b o l c z e)=some [.sl b o l c z e]:=rfl
@[simp]def AvF(b o:Nat):cellsOf (.ptr b o)=some [.ptr b o]:=rfl
@[simp]def Av9(l:uw):cellsOf (.agg l)=some l:=rfl
@[simp]def AvD:cellsOf .Iy=some [.Iy]:=rfl
@[simp]def AxG(f:Fn)(a c:uw):cellsOf (.fn f a c)=some [.fn f a c]:=rfl
@[simp]def A4W(k:IntKind)(n:Int):Ge (.int k n)=true:=rfl
@[simp]def A06(b:Bool):Ge (.bool b)=true:=rfl
@[simp]def A5c(s:uq):Ge (.str s)=true:=rfl
@[simp]def A4V(t:TypeId)(x:AV):Ge (.I6 t x)=true:=rfl
@[simp]def A07:Ge .B3=true:=rfl
@[simp]def A4Z:Ge .Bv=true:=rfl
@[simp]def A66(b o l c z:Nat)(e:Bool):Ge (.sl b o l c z e)=true:=rfl
@[simp]def A5a(b o:Nat):Ge (.ptr b o)=true:=rfl
@[simp]def A4Y:Ge .Iy=true:=rfl
@[simp]def A65(f:Fn)(a c:uw):Ge (.fn f a c)=true:=rfl
@[simp]def A09:Ge .Ob=true:=rfl
@[simp]def A4X(r:Nat):Ge (.map r)=true:=rfl
@[simp]def A08:Ge .Td=true:=rfl
@[simp]def Atl:cellsOf .Ob=some [.Ob]:=rfl
@[simp]def AvC(r:Nat):cellsOf (.map r)=some [.map r]:=rfl
@[simp]def Atk:cellsOf .Td=some [.Td]:=rfl
@[simp]def Awo:Bm []=true:=rfl
@[simp]def Auc(a:AV)(l:uw):Bm (a::l)=(Ge a&&Bm l):=by
 show(@Bool.rec (λ_=>Bool) false (Bm l) (Ge a):Bool)=_
 cases Ge a<;>rfl
@[simp]def A4C(l:uw):Q4 l=l.length:=Gh l
@[simp]def AhR(l:uw)(n:Nat):AcE l n=l[n]?:=Ab6 l n
@[simp]def A0G(v:AV):Py (some v) h=.ok v h:=rfl
@[simp]def Awx(c:uw):Ly (some c) h=.ok (.agg c) h:=rfl
@[simp]def AlL(c:uw)(o:Nat):ldL (some none) c o h=Py (AcE c o) h:=rfl
@[simp]def AcC(n:Nat)(c:uw)(o:Nat):ldL (some (some n)) c o h=Ly (Nf c o n) h:=rfl
@[simp]def Nu(i:Option (Option Nat))(b o:Nat):Ae i (.ptr b o) h=ldC (rdO (h.m.get b) h) i o h:=rfl
@[simp]def S9(c:uw)(i:Option (Option Nat))(o:Nat):ldC (some c) i o h=ldL i c o h:=rfl
@[simp]def Adt(n b o:Nat)(x:AV):A4 n (.ptr b o) x h=stC (cellsOf x) (some n) b o h:=rfl
@[simp]def AiA(cs:uw)(n b o:Nat):stC (some cs) (some n) b o h=if cs.length=n/\Bm cs=true then AnU (h.wr b o cs)else .bad 26:=by
 show(@Bool.rec (λ_=>OR) (.bad 26) (@Bool.rec (λ_=>OR) (.bad 26) (AnU (h.wr b o cs)) (Bm cs)) (Nat.beq (Q4 cs) n):OR)=_
 rw[Gh]
 by_cases h1:cs.length=n
 .rw[h1,Fe]
  cases h2:Bm cs<;>simp[h1]
 .rw[X2 (λhh=>h1 hh.1)]
  have:Nat.beq cs.length n=false:=by
   cases hb:Nat.beq cs.length n with
   |false=>rfl
   |true=>exact absurd (ao hb) h1
  rw[this]
@[simp]def Hg(e:TypeId)(l:uw):Oy e (.agg l) h=.ok (.ptr h.nx 0) (h.new (cz l e)):=rfl
@[simp]def AeI(o:AO)(v:AV):mk h o v=.ok v (h.new o):=rfl
@[simp]def E3(b o d:Nat):Bs (.ptr b o) d h=.ok (.ptr b (o+d)) h:=rfl
@[simp]def I0(b o:Nat):Fu (.ptr b o) h=.ok (.ptr b o) h:=rfl
@[simp]def A5R(l:uw)(i:Nat):L9 (.Bj l) i h=Py (AcE l i) h:=rfl
@[simp]def A0d(cs:uw):Sr [] cs=some cs:=rfl
def ApR(off size:Nat)(rest:List (Nat × Nat × AV))(cs:uw)(x:Option uw):Option uw:=
 match x with
 |some v=>if off+v.length<=cs.length/\v.length=size then Sr rest (cs.take off++v++cs.drop (off+v.length))else none
 |none=>none
@[simp]def AxS off size x rest cs:Sr ((off,size,x)::rest) cs=ApR off size rest cs (cellsOf x):=by
 show(match some (off,size),cellsOf x with
  |some (off,size),some v=>match Ng _ v _ with|some _=>Bool.rec _ ..|none=>none
  |_,_=>none)=_;unfold ApR;cases cellsOf x with
 |none=>rfl
 |some v=>
  simp[Kh,Gh];by_cases h1:off+v.length<=cs.length
  .by_cases h2:v.length=size;. rw[Xo h1,Xo ⟨h1,h2⟩];simp[h2,Fe]
   .rw[Xo h1,X2 λhh=>h2 hh.2];have:Nat.beq v.length size=false:=by cases hb:Nat.beq .. with
     |false=>rfl
     |true=>exact absurd (ao hb) h2
    simp[this]
  .rw[X2 h1,X2 λhh=>h1 hh.1]
@[simp]def AxR(off size:Nat)(rest:List (Nat × Nat × AV))(cs v:uw):ApR off size rest cs (some v)=if off+v.length<=cs.length/\v.length=size then Sr rest (cs.take off++v++cs.drop (off+v.length))else none:=rfl
@[simp]def A1b(z:uw)(l:List (Nat × Nat × AV)):B7 z l h=Ly (Sr l z) h:=rfl
def bsl(x:Option uw)(e:TypeId)(s n:Nat)(h:H):OR:=match x with
|some cs=>.ok (.sl h.nx 0 n n s true) (h.new (cz cs e))
|none=>.bad 20
@[simp]def A1V(cs:uw)(e:TypeId)(s n:Nat):bsl (some cs) e s n h=.ok (.sl h.nx 0 n n s true) (h.new (cz cs e)):=rfl
@[simp]def AwA(e:TypeId)(s n:Nat)(z:uw)(l:List (Nat × Nat × AV)):Bh e s n z l h=bsl (Sr l z) e s n h:=by
 unfold Bh bsl
 cases Sr l z<;>rfl
def X7(a b:Int):ieq a b=decide (a=b):=by rw[Q1];by_cases d:a=b<;>simp[d]
@[simp]def A5y t c a b:Aj P .eql t c (.int .i64 a) (.int .i64 b) h=.ok (.bool (decide (a=b))) h:=by rw[<- X7];rfl
@[simp]def Y6 t c a b:Aj P .neq t c (.int .i64 a) (.int .i64 b) h=.ok (.bool !decide (a=b)) h:=by rw[<- X7];show OR.ok (.bool (Ib _)) h=_;cases ieq a b<;>rfl
@[simp]def Hf(t:TypeId)(c:Bool)(a b:Int):Aj P .lss t c (.int .i64 a) (.int .i64 b) h=.ok (.bool (decide (a<b))) h:=by rw[<- Il];rfl
@[simp]def A5z(t:TypeId)(c:Bool)(a b:Int):Aj P .gtr t c (.int .i64 a) (.int .i64 b) h=.ok (.bool (decide (b<a))) h:=by rw[<- Il];rfl
@[simp]def As2(t:TypeId)(c:Bool)(a b:Int):Aj P .leq t c (.int .i64 a) (.int .i64 b) h=.ok (.bool (decide (a<=b))) h:=by
 show OR.ok (.bool (Ib (ilt b a))) h=_
 rw[Il];by_cases hh:b<a
 .have:¬ a<=b:=by omega
  simp[hh,this,Ib]
 .have:a<=b:=by omega
  simp[hh,this,Ib]
@[simp]def As1(t:TypeId)(c:Bool)(a b:Int):Aj P .geq t c (.int .i64 a) (.int .i64 b) h=.ok (.bool (decide (b<=a))) h:=by
 show OR.ok (.bool (Ib (ilt a b))) h=_
 rw[Il];by_cases hh:a<b
 .have:¬ b<=a:=by omega
  simp[hh,this,Ib]
 .have:b<=a:=by omega
  simp[hh,this,Ib]
@[simp]def Uc(t:TypeId)(c:Bool)(a b:Int):Aj P .add t c (.int .i64 a) (.int .i64 b) h=.ok (.int .i64 (E1 .i64 (a+b))) h:=rfl
@[simp]def As3(t:TypeId)(c:Bool)(a b:Int):Aj P .sub t c (.int .i64 a) (.int .i64 b) h=.ok (.int .i64 (E1 .i64 (a-b))) h:=rfl
@[simp]def A50(t:TypeId)(c:Bool)(a b:Int):Aj P .mul t c (.int .i64 a) (.int .i64 b) h=.ok (.int .i64 (E1 .i64 (a*b))) h:=rfl
def Cr(n:Int)(h1:-9223372036854775808<=n)(h2:n<=9223372036854775807):E1 .i64 n=n:=by
 unfold E1 fits;rw[Il,Il];have e1:¬ (n<IntKind.min .i64):=by show ¬ (n < -9223372036854775808);omega
 have d:¬ (IntKind.max .i64<n):=by show ¬ ((9223372036854775807:Int)<n);omega
 rw[Yc e1,Yc d]
def Aap(a b:uq):Qh a b=decide (a=b):=by rw[Qi];by_cases d:a=b<;>simp[d]
@[simp]def A0X t c a b:Aj P .eql t c (.str a) (.str b) h=.ok (.bool (decide (a=b))) h:=by rw[<- Aap];rfl
@[simp]def A1a t c a b:Aj P .neq t c (.str a) (.str b) h=.ok (.bool !decide (a=b)) h:=by rw[<- Aap];show OR.ok (.bool (Ib _)) h=_;cases Qh a b<;>rfl
@[simp]def A0Z(t:TypeId)(c:Bool)(a b:uq):Aj P .lss t c (.str a) (.str b) h=.ok (.bool (Gn a b)) h:=rfl
@[simp]def A0Y(t:TypeId)(c:Bool)(a b:uq):Aj P .gtr t c (.str a) (.str b) h=.ok (.bool (Gn b a)) h:=rfl
@[simp]def A6N(b:Bool):Qe .not (.bool b) h=.ok (.bool (!b)) h:=by cases b<;>rfl
@[simp]def A6M(n:Int):Qe .neg (.int .i64 n) h=.ok (.int .i64 (E1 .i64 (0-n))) h:=rfl
@[simp]def A6L(z:AV)(t u:Nat)(x:AV):xTA z t true (.I6 u x) h=if u=t then .ok (.Bj [x,uz]) h else .ok (.Bj [z,ux]) h:=by
 show(C6 _ _ (Nat.beq u t):OR)=_
 by_cases hh:u=t
 .rw[Xo hh,hh,Fe]
 .rw[X2 hh]
  have:Nat.beq u t=false:=by
   cases hb:Nat.beq u t with
   |false=>rfl
   |true=>exact absurd (ao hb) hh
  rw[this]
def A5j(x:Option uw)(o n:Nat)(h:H):OR:=match x with
|some c=>if o+n<=c.length then .ok (.agg ((c.drop o).take n)) h else .bad 197
|none=>.bad 197
@[simp]def AeO(c:uw)(o n:Nat):A5j (some c) o n h=if o+n<=c.length then .ok (.agg ((c.drop o).take n)) h else .bad 197:=rfl
@[simp]def BaC b o n:Vk [.c (some (some n)) (.ptr b o)] h=A5j (rdO (h.m.get b) h) o n h:=by show(match match match h.rd b with|some c=>Tn _ c o|none=>none,some _ with|some v,some l=>some (v::l)|_,_=>none with|some l=>OR.ok _ h|none=>.bad _)=_;rw[AaS];cases rdO _ h with
 |none=>rfl
 |some c=>
  show(match match (Nf c o n).map AV.agg,some _ with|some v,some l=>some (v::l)|_,_=>none with|some l=>OR.ok _ h|none=>.bad _)=_;rw[E5];by_cases hh:o+n<=c.length;. rw[Xo hh,AeO,Xo hh];rfl
  simp[*]
@[simp]def AxK(g:FuncId)(args:uw):cvV (.fn (.func g) [] []) args P Z h=if Bg P g=true then Z.call g args h else AgK (Uk P g) args h:=by
 show(@Bool.rec (λ_=>OR) (AgK (Uk P g) (J0 (J0 [] args) []) h) (Z.call g (J0 (J0 [] args) []) h) (Bg P g):OR)=_
 rw[Dl,Dl]
 simp only[I3,F0]
 cases Bg P g<;>rfl
@[simp]def A4J(k:IntKind)(n:Int)(hn:0<=n):Vg (.int k n)=some n.toNat:=by
 cases n with
 |ofNat m=>rfl
 |negSucc m=>omega
@[simp]def A03(k:IntKind)(n:Nat):Vg (.int k (n:Int))=some n:=rfl
@[simp]def A0A(cs:uw)(o:Nat):Tn (some none) cs o=AcE cs o:=rfl
@[simp]def A5h(t:TypeId)(cs:uw)(o:Nat):Hc P t cs o=Tn (Ft P t) cs o:=rfl
def AyV(r:Nat)(e:Option (List (AV × AV)))(h:H):OR:=match e with|some d=>.ok (.Bj []) (h.put r (.map d))|none=>.bad 100
@[simp]def A0x(r:Nat)(es:List (AV × AV)):AyV r (some es) h=.ok (.Bj []) (h.put r (.map es)):=rfl
def A4z(P:Program)(kt:TypeId)(k x:AV)(r:Nat)(o:AO)(h:H):OR:=match o with
|.map es=>AyV r (Z7 (Gy P kt k) k x es) h
|_=>.bad 101
@[simp]def AqR(kt:TypeId)(k x:AV)(r:Nat)(es:List (AV × AV)):A4z P kt k x r (.map es) h=AyV r (Z7 (Gy P kt k) k x es) h:=rfl
@[simp]def A53(kt:TypeId)(z:AV)(r:Nat)(k x:AV):As5 P kt z (.map r) k x h=A4z P kt k x r (h.m.get r) h:=by
 show(match h.m.get r with
  |.map es=>match Z7 (Gy P kt k) k x es with|some Y8=>OR.ok (.Bj []) (h.put r (.map Y8))|none=>.bad 100
  |_=>.bad 101)=_
 cases h.m.get r with
 |map es=>
  rw[AqR]
  rfl
 |_=>rfl
def lkM(z:AV)(ok:Bool)(x:Option (Option AV))(h:H):OR:=match x with
|some (some v)=>.ok (if ok=true then .Bj [v,uz]else v) h
|some none=>.ok (if ok=true then .Bj [z,ux]else z) h
|none=>.bad 98
@[simp]def A4B(z v:AV)(ok:Bool):lkM z ok (some (some v)) h=.ok (if ok=true then .Bj [v,uz]else v) h:=rfl
@[simp]def A4A(z:AV)(ok:Bool):lkM z ok (some none) h=.ok (if ok=true then .Bj [z,ux]else z) h:=rfl
def lkO(P:Program)(kt:TypeId)(z:AV)(ok:Bool)(k:AV)(o:AO)(h:H):OR:=match o with
|.map es=>lkM z ok (M1 (Gy P kt k) es) h
|_=>.bad 99
@[simp]def Auf(kt:TypeId)(z k:AV)(ok:Bool)(es:List (AV × AV)):lkO P kt z ok k (.map es) h=lkM z ok (M1 (Gy P kt k) es) h:=rfl
@[simp]def A6J(kt:TypeId)(z:AV)(ok:Bool)(r:Nat)(k:AV):xLk P kt z ok (.map r) k h=lkO P kt z ok k (h.m.get r) h:=by
 show(match (some ⟨kt,z⟩:Option MI),(match h.m.get r with|.map es=>some es|_=>none:Option (List (AV × AV)))with
  |some mi,some es=>match M1 (Gy P mi.kt k) es with
   |some (some v)=>OR.ok (@Bool.rec (λ_=>AV) v (.Bj [v,uz]) ok) h
   |some none=>.ok (@Bool.rec (λ_=>AV) mi.z (.Bj [mi.z,ux]) ok) h
   |none=>.bad 98
  |_,_=>.bad 99)=_
 cases h.m.get r with
 |map es=>
  rw[Auf]
  show(match M1 (Gy P kt k) es with
   |some (some v)=>OR.ok (@Bool.rec (λ_=>AV) v (.Bj [v,uz]) ok) h
   |some none=>.ok (@Bool.rec (λ_=>AV) z (.Bj [z,ux]) ok) h
   |none=>.bad 98)=_
  cases M1 (Gy P kt k) es with
  |none=>rfl
  |some x=>cases x<;>cases ok<;>rfl
 |_=>rfl
@[simp]def A62:Fo .Bv h=.ok (.int .i64 0) h:=rfl
@[simp]def A98(b o l c z:Nat)(e:Bool):Fo (.sl b o l c z e) h=.ok (.int .i64 (l:Int)) h:=rfl
@[simp]def A63(s:uq):lnS (.str s) h=.ok (.int .i64 (s.length:Int)) h:=by show OR.ok (.int .i64 (.ofNat (Y2 s))) h=_;rw[Rf];rfl
def Agr(s b o l c z:Nat)(e:Bool)(n:Nat)(hn:n<l):Gc s (.sl b o l c z e) (.int .i64 (n:Int)) h=.ok (.ptr b (o+n*s)) h:=by
 show(Bool.rec (.bad 88) (.ok (.ptr b (Nat.add o (Nat.mul n s))) h) (Nat.blt n l):OR)=_;rw[show Nat.blt n l=true by simpa using hn]
 rfl
variable {Q R:AV->H->Prop}{k:AV->H->OR}{r:OR}{a b:OR}
@[simp]def A01(a:AV)(l:uw):(a::l)[0]?=some a:=rfl
@[simp]def A00(a:AV)(l:uw)(n:Nat):(a::l)[n+1]?=l[n]?:=rfl
variable {h2:H}{n m:Nat}
def Fi(n:Nat):Gj n=decide (n<1000000000000):=by
 show Nat.blt n 1000000000000=_;cases d:Nat.blt n 1000000000000 with
 |true=>
  have:n<1000000000000:=by simpa using d
  simp[this]
 |false=>
  have:¬ n<1000000000000:=λe=>by rw[show Nat.blt n 1000000000000=true by simpa using e]at d;cases d
  simp[this]
def Aw(n b:Nat)(l:uq)(d:b<n):wrote n (b::l)=b::wrote n l:=by show(Bool.rec (wrote n l) (b::wrote n l) (Nat.blt b n):uq)=_;rw[show Nat.blt b n=true by simpa using d]
@[simp]def A05:Q6 []=true:=rfl
@[simp]def A04(a:Nat)(l:uq):Q6 (a::l)=false:=rfl
@[simp]def A2T(l:List EF):Lh l=Iu l l:=rfl
@[simp]def A0c(all:List EF):Iu all []=true:=rfl
@[simp]def AvJ(all l:List EF)(b p:Nat)(r:RS)(h n:H):Iu all (⟨b,p,[],r,h,n⟩::l)=Iu all l:=rfl
@[simp]def A2S(all l:List EF)(b p x:Nat)(w:uq)(r:RS)(h n:H):Iu all (⟨b,p,x::w,r,h,n⟩::l)=(E2 ⟨b,p,x::w,r,h,n⟩ all&&Iu all l):=by
 show(@Bool.rec (λ_=>Bool) false (Iu all l) (E2 ⟨b,p,x::w,r,h,n⟩ all):Bool)=_
 cases E2 ⟨b,p,x::w,r,h,n⟩ all<;>rfl
@[simp]def Hw(e:EF):E2 e []=true:=rfl
@[simp]def Fz(e a:EF)(l:List EF):E2 e (a::l)=(Jo e a&&E2 e l):=by
 show(@Bool.rec (λ_=>Bool) false (E2 e l) (Jo e a):Bool)=_
 cases Jo e a<;>rfl
def Ahm:∀w:uq,Ahl w []=true
|[]=>rfl
|x::w=>by show(Bool.rec (Ahl w []) false (Ve x []):Bool)=true;exact Ahm w
def Yn(n:Nat):∀w:uq,outside w n n=true
|[]=>rfl
|x::w=>by
 show(Bool.rec (outside w n n) false (Bool.rec false (Nat.blt x n) (Nat.ble n x)):Bool)=true;have d:=Yn n w;cases h1:Nat.ble n x with
 |false=>exact d
 |true=>
  have h2:n<=x:=Ew h1;have g:Nat.blt x n=false:=by
   cases e:Nat.blt x n with
   |false=>rfl
   |true=>
    have:x<n:=by simpa using e
    omega
  rw[g];exact d
@[simp]def Ai1(e:EF)(b p:Nat)(h h1:H)(hn:h1.nx=h.nx):Jo e ⟨b,p,[],.none,h,h1⟩=true:=by
 show(@Bool.rec (λ_=>Bool) true (@Bool.rec (λ_=>Bool) (@Bool.rec (λ_=>Bool) false (@Bool.rec (λ_=>Bool) false (outside e.w h.nx h1.nx) (clear .none e.w h e.h e.h1)) (Ahl e.w [])) true (Nat.beq e.bit b)) (M4 (Nat.lor (Nat.land e.pr b) (Nat.land p e.bit))):Bool)=true
 rw[Ahm,hn,Yn]
 cases M4 (Nat.lor (Nat.land e.pr b) (Nat.land p e.bit))<;>cases Nat.beq e.bit b<;>rfl
def Ci(e:EF)(b p n:Nat)(m m1:_)(l l1:uq):Jo e ⟨b,p,[],.none,⟨m,n,l⟩,⟨m1,n,l1⟩⟩=true:=Ai1 e b p _ _ rfl
def Ax(g d:Nat)(t:uq)(u:RS)(j z:H)(i e:Nat)(B:uq)(q:RS)(A o:H)(p:M4 (Nat.lor (Nat.land d i) (Nat.land e g))=false):Jo ⟨g,d,t,u,j,z⟩ ⟨i,e,B,q,A,o⟩=true:=by show(Bool.rec true _ (M4 (Nat.lor (Nat.land d i) (Nat.land e g))):Bool)=true;rw[p]
def Ar(d e:Nat)(q:uq)(p:RS)(i t:H)(g:Nat)(z:uq)(o:RS)(u j:H):Jo ⟨d,e,q,p,i,t⟩ ⟨d,g,z,o,u,j⟩=true:=by show(Bool.rec true (Bool.rec _ true (Nat.beq d d)) (M4 (Nat.lor (Nat.land e d) (Nat.land g d))):Bool)=true;rw[Fe];cases M4 (Nat.lor (Nat.land e d) (Nat.land g d))<;>rfl
@[simp]def At(lg:uq):En [] lg=lg:=rfl
@[simp]def AfT(x y:uq):Akm x y=x++y:=by
 induction x with
 |nil=>rfl
 |cons a x ih=>show a::Akm x y=_;rw[ih];rfl
@[simp]def Ap e l lg:En (e::l) lg=e.w++En l lg:=by rw[<- AfT];rfl
def So{lg:uq}{d:List EF}{k:H->OR}(e:Lh d=true):Ff lg d h k=k (Be (En d lg) h):=by show(Bool.rec (.bad 183) (k (Be (En d lg) h)) (Lh d):OR)=_;rw[e]
def Aav{t e:TypeId}{b off len cap s bytes:Nat}{ex:Bool}(i:Hp P t=.sl ⟨e,s,bytes⟩)(l:Nat):xSl P t (.sl b off len cap s ex) (some (.int .i64 (l:Int))) none h=AkE b off cap s ex l len h:=by
 have g:vL (ev (.tmp 0) (fr Az [(0,.sl b off len cap s ex),(1,.int .i64 (l:Int)),(2,.top)]))=.yes b off len cap s ex:=by kernel_rfl
 have e1:bnd (fr Az [(0,.sl b off len cap s ex),(1,.int .i64 (l:Int)),(2,.top)]) (some (.tmp 1)) 0=some l:=by kernel_rfl
 have d:bnd (fr Az [(0,.sl b off len cap s ex),(1,.int .i64 (l:Int)),(2,.top)]) none len=some len:=rfl;show G5 t (.tmp 0) (some (.tmp 1)) none none 0 P Q7 (fr Az [(0,.sl b off len cap s ex),(1,.int .i64 (l:Int)),(2,.top)]) h=_;unfold G5;rw[i];simp only[g,e1,d,Fe]
def Aau{t e:TypeId}{b off len cap s bytes:Nat}{ex:Bool}(i:Hp P t=.sl ⟨e,s,bytes⟩)(u:Nat):xSl P t (.sl b off len cap s ex) none (some (.int .i64 (u:Int))) h=AkE b off cap s ex 0 u h:=by
 have g:vL (ev (.tmp 0) (fr Az [(0,.sl b off len cap s ex),(1,.top),(2,.int .i64 (u:Int))]))=.yes b off len cap s ex:=by kernel_rfl
 have e1:bnd (fr Az [(0,.sl b off len cap s ex),(1,.top),(2,.int .i64 (u:Int))]) none 0=some 0:=rfl;have d:bnd (fr Az [(0,.sl b off len cap s ex),(1,.top),(2,.int .i64 (u:Int))]) (some (.tmp 2)) len=some u:=by kernel_rfl
 show G5 t (.tmp 0) none (some (.tmp 2)) none 0 P Q7 (fr Az [(0,.sl b off len cap s ex),(1,.top),(2,.int .i64 (u:Int))]) h=_;unfold G5;rw[i];simp only[g,e1,d,Fe]
def Atv{t:TypeId}(d:tk P t=.slice)(c:Bool)(b o l k z:Nat)(e:Bool):Aj P .eql t c (.sl b o l k z e) .Bv h=.ok ux h:=by
 have h1:aeq P 20 t (.sl b o l k z e) .Bv=some false:=by show Dy P (aeq P 19) t _ _=_;unfold Dy;rw[d];rfl
 show(match aeq P 20 t (.sl b o l k z e) .Bv with|some b=>OR.ok (.bool (false != b)) h|none=>.bad 38)=_;rw[h1];rfl
section
end
end Go.Ev.Sx
namespace Go.Ev.Sx
open Go.Ev
variable {j:TypeId}{o:Type}
variable {P:Program}{Z:Ac}{h h0 h1 h2:H}{v x y:AV}{s len B1:Nat}{c c':uw}
structure Ai(h h':H):Prop where
 lo:h.nx<=h'.nx
 Cf:∀b,b<h.nx->h'.m.get b=h.m.get b
 lg:∀x∈h'.lg,x∈h.lg\/h.nx<=x
def Ai.refl h:Ai h h:=⟨Ye _,λ_ _=>rfl,λ_=>.inl⟩
def Ai.trans(e:Ai h h1)(g:Ai h1 h2):Ai h h2:=
 ⟨Ol e.lo g.lo,λb i=>by rw[g.Cf b (Xq i e.lo),e.Cf b i],λx j=>by
  rcases g.lg x j with d|d;. exact e.lg x d
  .exact .inr (Ol e.lo d)⟩
def Ai.new(e:Ai h h1) o:Ai h (h1.new o):=
 ⟨by show h.nx<=h1.nx+1;have:=e.lo;omega,λb d=>by rw[Cq o b (by have:=e.lo;omega),e.Cf b d],e.lg⟩
def Ai.put(e:Ai h h1) c o(hc:h.nx<=c):Ai h (h1.put c o):=
 ⟨e.lo,λb g=>by rw[Aq c o b om,e.Cf b g],λx d=>by
  rcases Tu.1 d with rfl|d;. omega
  .exact e.lg x d⟩
def Ai.nl(e:Ai h h1):Ai h (Ab h1):=⟨e.lo,e.Cf,λx d=>by cases d⟩
def Ai.Rc(e:Ai (Ab h) h1):Ai h h1:=⟨e.lo,e.Cf,λx g=>by
 rcases e.lg x g with d|d;. cases d
 simp_all⟩
def Ai.Be(e:Ai h h1)(d:Ai h h2):Ai h (Be h2.lg h1):=⟨e.lo,e.Cf,d.lg⟩
def Ai.quiet(e:Ai (Ab h) h1):wrote h.nx h1.lg=[]:=by have d:=e.lg;revert d;generalize h1.lg=l;intro d;induction l with
|nil=>rfl
|cons a l i=>
 have g:h.nx<=a:=by simp_all
 rw[Am _ _ _ g];grind
def A5i(h:H):CK->Prop
|.exact=>True
|.fz _=>True
|.Gt _=>True
|.Cf k st=>k<h.nx/\h.m.get k=.Fb st
structure Nv(h:H)(b:Nat)(cs:List AV):Prop where
 lt:b<h.nx
 cells:∃e k,h.m.get b=.cells cs e k/\A5i h k
@[simp]def A0E o:rdO o (Ab h)=rdO o h:=by cases o with|cells c e k=>cases k<;>rfl|_=>rfl
@[simp]def A0F o l:rdO o (Be l h)=rdO o h:=by cases o with|cells c e k=>cases k<;>rfl|_=>rfl
def Nv.rd{b}{cs}(hc:Nv h b cs):rdO (h.m.get b) h=some cs:=by obtain⟨e,k,h1,h2⟩:=hc.cells;rw[h1];cases k with
|Cf k st=>show @Bool.rec (λ_=>Option _) _ ..=some _;rw[h2.2];show Bool.rec _ _ (Nat.beq ..)=some _;simp
|_=>rfl
structure Bi(h h':H):Prop where
 lo:h.nx<=h'.nx
 cont:∀b cs,Nv h b cs->Nv h' b cs
def Bi.refl h:Bi h h:=⟨Ye _,λ_ _ hc=>hc⟩
def Bi.trans(e:Bi h h1)(d:Bi h1 h2):Bi h h2:=⟨Ol e.lo d.lo,λb cs hc=>d.cont b _ (e.cont b _ hc)⟩
def Ai.keeps(e:Ai h h1):Bi h h1:=⟨e.lo,λb cs hc=>by obtain⟨t,k,h1,h2⟩:=hc.cells;refine⟨Xq hc.lt e.lo,t,k,by rw[e.Cf b hc.lt];grind,?_⟩;cases k with
|Cf k st=>exact⟨Xq h2.1 e.lo,by rw[e.Cf k h2.1];exact h2.2⟩
|_=>trivial⟩
def Bi.nl(e:Bi h h1):Bi h (Ab h1):=⟨e.lo,λb cs hc=>e.cont b _ hc |> λq=>⟨q.lt,q.cells⟩⟩
def Bi.Be(e:Bi h h1) l:Bi h (Be l h1):=⟨e.lo,λb cs hc=>e.cont b _ hc |> λq=>⟨q.lt,q.cells⟩⟩
def Ah(h:H)(Q:AV->H->Prop)(r:OR):Prop:=∃v h',r=.ok v h'/\Ai h h'/\Q v h'
section
variable {Q R:AV->H->Prop}{k:AV->H->OR}{r a b:OR}
def Lo(e:Ai h0 h)(hq:Q v h):Ah h0 Q (.ok v h):=⟨v,h,rfl,e,hq⟩
def Ah.mono(d:Ah h0 R r)(hq:∀v h,Ai h0 h->R v h->Q v h):Ah h0 Q r:=by obtain⟨v,h1,rfl,e,q⟩:=d;exact⟨v,_,rfl,e,hq v _ e q⟩
def X0{Φ:OR->Prop}(g:Ah h R r)(d:∀v h1,Ai h h1->R v h1->Φ (k v h1)):Φ (Aa r k):=by obtain⟨v,h1,rfl,e,hq⟩:=g;exact d v h1 e hq
def Aqb{Φ:OR->Prop}(g:Ah (Ab h) R r)(d:∀v h1,Ai h h1->R v h1->Φ (k v h1)):Φ (Al h r k):=by obtain⟨v,h1,rfl,e,hq⟩:=g;rw[Si _ _ _ _ e.quiet];exact d v h1 e.Rc hq
def Ey{Φ:OR->Prop}(e:r=.ok v h)(d:Φ (k v h)):Φ (Aa r k):=by rw[e];exact d
def Wb{Φ:OR->Prop}(hc:Φ (k v h)):Φ (Aa (.ok v h) k):=hc
def Acw{Φ:OR->Prop}(hc:Φ (k v (Ab h))):Φ (Al h1 (.ok v (Ab h)) k):=by rw[Hv];exact hc
def Ah6{Φ:OR->Prop}(hq:wrote h2.nx h1.lg=[])(hc:Φ (k v h1)):Φ (Al h2 (.ok v h1) k):=by rw[Si v h2 h1 k hq];exact hc
def Zx{Φ:OR->Prop}(hc:Φ a):Φ (Af uz a b):=hc
def Ae5{Φ:OR->Prop}(hc:Φ b):Φ (Af ux a b):=hc
def At5{Φ:OR->Prop}{c:Bool}(d:c=true->Φ a)(e:c=false->Φ b):Φ (Af (.bool c) a b):=by
 cases c
 .exact e rfl
 .exact d rfl
end
def Sl(s:Nat)(h:H)(v:AV)(len:Nat)(c:uw):Prop:=
 (len=0/\c=[]/\v=.Bv)\/∃b off cap ex cs,v=.sl b off len cap s ex/\len<=cap/\Nv h b cs/\off+len*s<=cs.length/\(cs.drop off).take (len*s)=c
def Sl.By(o:Sl s h v len c)(e:Bi h h1):Sl s h1 v len c:=by
 rcases o with i|⟨b,off,cap,ex,cs,g,p,j,d⟩;. exact .inl i
 .exact .inr ⟨b,_,_,_,_,g,p,e.cont b _ j,d⟩
def Sl.gr(d:Sl s h v len c)(e:Ai h h1):Sl s h1 v len c:=d.By e.keeps
def Sl.Gs(d:Sl s h v len c):Fo v h1=.ok (.int .i64 len) h1:=by rcases d with⟨rfl,_,rfl⟩|⟨b,off,cap,ex,cs,rfl,_⟩<;>rfl
def Sl.Rv(d:Sl s h v len c):c.length=len*s:=by
 rcases d with⟨rfl,rfl,rfl⟩|⟨b,off,cap,ex,cs,g,j,i,e,q5⟩;. simp
 grind
def Sl.src(d:Sl s h v len c):Hd h s v=some (len,c):=by
 rcases d with⟨rfl,rfl,rfl⟩|⟨b,off,cap,ex,cs,rfl,g,e,i,q5⟩;. rfl
 .show(match h.rd b with|some c=>(Nf c ..).map _|none=>none)=_;rw[AaS,e.rd];simp[E5];grind
def Sl.ia(e:Sl s h v len c){i}(hi:i<len):∃b o cs,(∀h1,Gc s v (.int .i64 i) h1=.ok (.ptr b o) h1)/\Nv h b cs/\o+s<=cs.length/\(cs.drop o).take s=(c.drop (i*s)).take s:=by
 rcases e with⟨rfl,rfl,rfl⟩|⟨b,off,cap,ex,cs,rfl,p,d,g,q5⟩;. omega
 .have j:i*s+s<=len*s:=by have:=D2 s (show i+1<=len by omega);grind
  refine⟨b,_,_,λh1=>Agr s b _ _ _ s _ i hi,d,by omega,?_⟩;rw[<- q5,ea,de,au];grind
def Nv.many{b o n}{cs l}(hc:Nv h b cs)(i:o+n<=cs.length)(g:(cs.drop o).take n=l):∀d,Bi h d->Ae (some (some n)) (.ptr b o) d=.ok (.agg l) d:=λd e=>by rw[Nu,(e.cont b _ hc).rd,S9,AcC,E5,Xo i,g];rfl
def Nv.one{b o}{cs}(hc:Nv h b cs)(g:cs[o]?=some x):∀d,Bi h d->Ae (some none) (.ptr b o) d=.ok x d:=λd e=>by rw[Nu,(e.cont b _ hc).rd,S9,AlL,AhR,g];rfl
structure AsU(s:Nat)(h:H)(v:AV)(i:Nat)(l:List AV)(b o:Nat):Prop where
 ia:∀h1,Gc s v (.int .i64 (i:Int)) h1=.ok (.ptr b o) h1
 all:∀hh,Bi h hh->Ae (some (some s)) (.ptr b o) hh=.ok (.agg l) hh
 part:∀j x,l[j]?=some x->∀hh,Bi h hh->Ae (some none) (.ptr b (o+j)) hh=.ok x hh
 many:∀j n,j+n<=s->∀hh,Bi h hh->Ae (some (some n)) (.ptr b (o+j)) hh=.ok (.agg ((l.drop j).take n)) hh
def Sl.elem(q:Sl s h v len c){i}(hi:i<len){l}(p:(c.drop (i*s)).take s=l):∃b o,AsU s h v i l b o:=by
 obtain⟨b,o,cs,g,e,p3,d⟩:=q.ia hi;rw[p]at d;refine⟨b,o,g,e.many p3 d,λj x t=>e.one ?_,λj n hj=>e.many om ?_⟩;. grind
 .rw[<- d,ea,de,au];grind
def Afx{f:o->uw}(d:∀a,(f a).length=s):∀(l:List _) i x,l[i]?=some x->((l.flatMap f).drop (i*s)).take s=f x:=by intro l;induction l with
|nil=>simp
|cons a l e=>intro i x g;cases i with
 |zero=>grind
 |succ i=>rw[dh,ag,Nat.one_mul,Nat.add_comm,<- au,List.drop_left' (d a)];simp_all
def Aa9{f:o->uw}(e:∀a,(f a).length=s)(l:List _):(l.flatMap f).length=l.length*s:=by induction l with
|nil=>simp
|cons a l d=>grind
abbrev R0{α:Type}(s:Nat)(f:α->uw)(h:H)(v:AV)(l:List α):Prop:=Sl s h v l.length (l.flatMap f)
def R0.elem{α}{f:α->List _}(g:∀a,(f a).length=s){l}(e:R0 s f h v l){i}{x}(d:l[i]?=some x):∃b o,AsU s h v i (f x) b o:=
 Sl.elem e (Wp.1 d).1 (Afx g l i x d)
def Sl.lit{cs}{e}(d:h1.m.get h.nx=cz cs e)(hn:h1.nx=h.nx+1)(g:cs.length=len*s):Sl s h1 (.sl h.nx 0 len len s true) len cs:=
 .inr ⟨_,0,_,_,_,rfl,Ye _,⟨by omega,e,_,d,trivial⟩,by omega,by grind⟩
def Fm(s lo:Nat)(et:TypeId)(h:H)(v:AV)(len:Nat)(c:uw):Prop:=
 (len=0/\c=[]/\v=.Bv)\/(len=0/\c=[]/\∃b off cs,v=.sl b off 0 0 s true/\Nv h b cs/\off<=cs.length) \/
 (∃b k st,v=.sl b 0 len len s false/\h.m.get b=.cells c et (.Gt k)/\h.m.get k=.Fb st/\lo<=b/\lo<=k/\b<h.nx/\k<h.nx/\b≠k/\c.length=len*s)
def Fm.sl{lo}{et}(d:Fm s lo et h v len c):Sl s h v len c:=by
 rcases d with h1|⟨rfl,rfl,b,off,cs,rfl,h2,q⟩|⟨b,k,st,rfl,g,t,j,q5,e,o,p,i⟩;. exact .inl h1
 .exact .inr ⟨b,_,0,_,_,rfl,Ye _,h2,by omega,by simp⟩
 .exact .inr ⟨b,0,_,_,c,rfl,Ye _,⟨e,_,_,g,trivial⟩,by omega,by grind⟩
def Fm.gr{lo}{et}(j:Fm s lo et h v len c)(e:Ai h h1):Fm s lo et h1 v len c:=by
 rcases j with h1|⟨rfl,rfl,b,off,cs,rfl,h2,q⟩|⟨b,k,st,rfl,u,t,o,q5,d,g,p,i⟩;. exact .inl h1
 .exact .inr (.inl ⟨rfl,rfl,b,_,_,rfl,e.keeps.cont b _ h2,q⟩)
 .exact .inr (.inr ⟨b,k,_,rfl,by rw[e.Cf b d];grind,by rw[e.Cf k g];omega,o,q5,Xq d e.lo,Xq g e.lo,p,i⟩)
def Fm.nil s lo et h:Fm s lo et h .Bv 0 []:=.inl ⟨rfl,rfl,rfl⟩
def Fm.one{lo}{et}(e:Fm s lo et h v len c){d}(q:d<=lo):Fm s d et h v len c:=by
 rcases e with h1|h1|⟨b,k,st,i,o,j,p,q5,g⟩;. exact .inl h1
 .exact .inr (.inl h1)
 .exact .inr (.inr ⟨b,k,_,i,o,j,by omega,by omega,g⟩)
def Bbs(o:AO):Prop:=(∀cs e k,o=.cells cs e k->k=.exact)/\∀n,o≠.Fb n
def Boj{o:AO}{cs:uw}(h:o=cz cs j):Bbs o:=by subst h;exact⟨λ_ _ _ h=>by cases h;rfl,λ_ h=>by cases h⟩
structure A6E(lo:Nat)(h h':H):Prop where
 st:∀(c:Nat),c<h.nx->Bbs (h.m.get c)->h'.m.get c=h.m.get c
 lg:∀x∈h'.lg,x∈h.lg\/(lo<=x/\∀cs e,h.m.get x≠.cells cs e .exact)\/h.nx<=x
def A6E.gr{lo:Nat}(g:Ai h h1):A6E lo h h1:=⟨λc hc _=>g.Cf c hc,λx d=>(g.lg x d).imp id .inr⟩
def Fm.BmA{bytes lo:Nat}{et:TypeId}(ho:Fm s lo et h x len c)(O:Hd h s y=some (B1,c'))(S:c'.length=B1*s)(o:(len+B1)*(bytes+1)<1000000000000)(h1:Bm c'=true)(V:lo<=h.nx):
 ∃v h',Ds et s bytes x y h=.ok v h'/\Bi h h'/\(∀h0,h0.nx<=lo->Ai h0 h->Ai h0 h')/\Fm s lo et h' v (len+B1) (c++c')/\(∀b,b<lo->h'.m.get b=h.m.get b)/\A6E lo h h':=by
 have A:∀(cs:uw) (i:Nat),cs.length=i*s->(grow h et s cs i=.ok (.sl (Nat.succ h.nx) 0 i i s false) ((h.new (.Fb 0)).new (.cells cs et (.Gt h.nx))))/\Ai h ((h.new (.Fb 0)).new (.cells cs et (.Gt h.nx)))/\Fm s lo et ((h.new (.Fb 0)).new (.cells cs et (.Gt h.nx))) (.sl (Nat.succ h.nx) 0 i i s false) i cs:=by
  intro cs i hn;refine⟨rfl,((Ai.refl h).new _).new _,.inr (.inr ⟨h.nx+1,h.nx,0,rfl,Bf (h:=h.new (.Fb 0)) _,?_,by omega,V,by show h.nx+1<h.nx+1+1;omega,by show h.nx<h.nx+1+1;omega,by omega,hn⟩)⟩
  rw[Cq (h:=h.new (.Fb 0)) _ h.nx (by show h.nx≠h.nx+1;omega)]
  exact Bf _
 rcases ho with⟨rfl,rfl,rfl⟩|⟨rfl,rfl,b,off,cs,rfl,h2,h3⟩|⟨b,k,st,rfl,u,t,q4,q5,q6,q7,q8,F⟩
 .rw[Rx]at o ⊢;rw[I3];have C:Ds et s bytes .Bv y h=(match Hd h s y with
   |some (n,new)=>C6 (C6 (.bad 120) (C6 (.bad 120) (grow h et s new n) (Bm new)) (Gj (n*(bytes+1)))) (.ok .Bv h) (Nat.beq n 0)
   |none=>.bad 123):=rfl
  rw[C,O];by_cases h0:B1=0
  .subst h0;have B:c'=[]:=Vz.1 om;subst B;exact⟨_,_,rfl,Bi.refl h,λ_ _ e=>e,Fm.nil ..,λ_ _=>rfl,A6E.gr (Ai.refl h)⟩
  .obtain⟨g1,g2,U⟩:=A c' B1 S;have h2:Nat.beq B1 0=false:=by cases B1 with|zero=>omega|succ k=>rfl
   simp only[h2,h1,Fi,Ws o];exact⟨_,_,g1,g2.keeps,λh0 _ e=>e.trans g2,U,λb o=>g2.Cf b om,A6E.gr g2⟩
 .rw[Rx]at o ⊢;rw[I3];have C:Ds et s bytes (.sl b off 0 0 s true) y h=(match Hd h s y with
   |some (n,new)=>C6 (.bad 121) (C6 (.bad 121) (C6 (.bad 121) (Lg ⟨et,s,bytes⟩ b off 0 0 s true n new h) (Nat.beq s s)) (Bm new)) (Gj ((0+n)*(bytes+1)))
   |none=>.bad 123):=rfl
  rw[C,O];simp only[h1,Fi,Rx,Ws o,Fe];by_cases h0:B1=0
  .subst h0;have B:c'=[]:=Vz.1 om;subst B;exact⟨_,_,rfl,Bi.refl h,λ_ _ e=>e,.inr (.inl ⟨rfl,rfl,b,off,cs,rfl,h2,h3⟩),λ_ _=>rfl,A6E.gr (Ai.refl h)⟩
  .obtain⟨g1,g2,U⟩:=A c' B1 S;have J:Nat.ble (Nat.add 0 B1) 0=false:=by
    cases g:Nat.ble (Nat.add 0 B1) 0 with
    |false=>rfl
    |true=>have:0+B1<=0:=Ew g;omega
   have M:(C6 (.bad 121) (C6 (.bad 121) (C6 (.bad 121) (Lg ⟨et,s,bytes⟩ b off 0 0 s true B1 c' h) true) true) true:OR)=grow h et s c' B1:=by show(C6 _ _ (Nat.ble (Nat.add 0 B1) 0):OR)=_;rw[J];show Sf ⟨et,s,bytes⟩ b off 0 (Nat.add 0 B1) c' h=_;unfold Sf;rw[AaS,h2.rd];have h5:Nat.add 0 B1=B1:=Rx B1;simp only[E5,h5,ep,Vw,h3,Jr,Rk,Dl,I3]
   rw[M];exact⟨_,_,g1,g2.keeps,λh0 _ e=>e.trans g2,U,λb o=>g2.Cf b om,A6E.gr g2⟩
 .have C:Ds et s bytes (.sl b 0 len len s false) y h=(match Hd h s y with
   |some (n,new)=>C6 (.bad 121) (C6 (.bad 121) (C6 (.bad 121) (Lg ⟨et,s,bytes⟩ b 0 len len s false n new h) (Nat.beq s s)) (Bm new)) (Gj ((len+n)*(bytes+1)))
   |none=>.bad 123):=rfl
  rw[C,O];simp only[h1,Fi,Ws o,Fe];by_cases h0:B1=0
  .subst h0;have B:c'=[]:=Vz.1 om;subst B;refine⟨.sl b 0 (len+0) len s false,h,?_,Bi.refl h,λ_ _ e=>e,.inr (.inr ⟨b,k,st,rfl,by rw[F0];exact u,t,q4,q5,q6,q7,q8,by rw[F0];exact F⟩),λ_ _=>rfl,A6E.gr (Ai.refl h)⟩;show(C6 _ _ (Nat.ble (Nat.add len 0) len):OR)=_;rw[show Nat.ble (Nat.add len 0) len=true from br (Ye _)]
   rfl
  .have J:Nat.ble (Nat.add len B1) len=false:=by
    cases g:Nat.ble (Nat.add len B1) len with
    |false=>rfl
    |true=>have:len+B1<=len:=Ew g;omega
   have M:(C6 (.bad 121) (C6 (.bad 121) (C6 (.bad 121) (Lg ⟨et,s,bytes⟩ b 0 len len s false B1 c' h) true) true) true:OR)=.ok (.sl h.nx 0 (len+B1) (len+B1) s false) (((h.put b (.cells c et (.Cf k st))).put k (.Fb st)).new (.cells (c++c') et (.Gt k))):=by show(C6 _ _ (Nat.ble (Nat.add len B1) len):OR)=_;rw[J];show Ny ⟨et,s,bytes⟩ b 0 len (Nat.add len B1) c' h=_;unfold Ny;rw[u];simp only[t,Sn,E5,F,Rx,Ye,Jr,Gh,Fe,Dl];rfl
   rw[M];have E:∀j,j<h.nx->j≠b->j≠k->(((h.put b (.cells c et (.Cf k st))).put k (.Fb st)).new (.cells (c++c') et (.Gt k))).m.get j=h.m.get j:=λj h5 h6 h7=>by rw[Cq (h:=(h.put b (.cells c et (.Cf k st))).put k (.Fb st)) _ j (by show j≠h.nx;omega),Aq _ _ _ h7,Aq _ _ _ h6]
   have K:(((h.put b (.cells c et (.Cf k st))).put k (.Fb st)).new (.cells (c++c') et (.Gt k))).m.get b=.cells c et (.Cf k st):=by rw[Cq (h:=(h.put b (.cells c et (.Cf k st))).put k (.Fb st)) _ b (by show b≠h.nx;omega),Aq _ _ _ q8,A2]
   have p:(((h.put b (.cells c et (.Cf k st))).put k (.Fb st)).new (.cells (c++c') et (.Gt k))).m.get k=.Fb st:=by rw[Cq (h:=(h.put b (.cells c et (.Cf k st))).put k (.Fb st)) _ k (by show k≠h.nx;omega),A2]
   refine⟨_,_,rfl,⟨by show h.nx<=h.nx+1;omega,λj cs hj=>?_⟩,λh0 hh0 e=>((e.put b _ om).put k _ om).new _,.inr (.inr ⟨h.nx,k,st,rfl,Bf (h:=(h.put b (.cells c et (.Cf k st))).put k (.Fb st)) _,p,V,q5,by show h.nx<h.nx+1;omega,by show k<h.nx+1;omega,by omega,by rw[Yl,F,S,ag]⟩),λj hj=>E j om om om,⟨λj hj d=>E j hj (λq=>by rw[q,u]at d;cases d.1 _ _ _ rfl) (λq=>by rw[q,t]at d;exact d.2 _ rfl),λx g=>?_⟩⟩
   .refine⟨by show j<h.nx+1;have:=hj.lt;omega,?_⟩
    obtain⟨e,kk,r1,D⟩:=hj.cells;by_cases z:j=b
    .subst z;rw[u]at r1;cases r1;exact⟨et,.Cf k st,K,by show k<h.nx+1;omega,p⟩
    .have I:j≠k:=λq=>by rw[q,t]at r1;cases r1
     refine⟨e,kk,by rw[E j hj.lt z I];exact r1,?_⟩;cases kk with
     |Cf k2 st2=>
      refine⟨by show k2<h.nx+1;have:=D.1;omega,?_⟩
      by_cases Z0:k2=k
      .subst Z0;rw[p,<- t];exact D.2
      .have L:k2≠b:=λq=>by have:=D.2;rw[q,u]at this;cases this
       rw[E k2 D.1 L Z0];exact D.2
     |_=>trivial
   .rcases Tu.1 (show x∈k::b::h.lg from g)with rfl|g
    .exact .inr (.inl ⟨q5,λcs e d=>by rw[t]at d;cases d⟩)
    .rcases Tu.1 g with rfl|g
     .exact .inr (.inl ⟨q4,λcs e d=>by rw[u]at d;cases d⟩)
     .exact .inl g
def Fm.AbQ{bytes lo:Nat}{et:TypeId}(d:Fm s lo et h x len c)(g:Hd h s y=some (B1,c'))(i:c'.length=B1*s)(p:(len+B1)*(bytes+1)<1000000000000)(h1:Bm c'=true)(o:lo<=h.nx):
 ∃v h',Ds et s bytes x y h=.ok v h'/\Bi h h'/\(∀h0,h0.nx<=lo->Ai h0 h->Ai h0 h')/\Fm s lo et h' v (len+B1) (c++c')/\(∀b,b<lo->h'.m.get b=h.m.get b):=by
 obtain⟨v,h',j,t,q,e,q5,_⟩:=d.BmA g i p h1 o;exact⟨v,h',j,t,q,e,q5⟩
def Bbe(x:Option uw)(o n:Nat)(v:AV)(h:H):OR:=match x with
|some c=>if o+n<=c.length then .ok (.Bj [.agg ((c.drop o).take n),v]) h else .bad 197
|none=>.bad 197
@[simp]def AoF(c:uw)(o n:Nat)(v:AV):Bbe (some c) o n v h=if o+n<=c.length then .ok (.Bj [.agg ((c.drop o).take n),v]) h else .bad 197:=rfl
@[simp]def Bii(b o n:Nat)(v:AV):Vk [.c (some (some n)) (.ptr b o),.v v] h=Bbe (rdO (h.m.get b) h) o n v h:=by
 show(match (match (match h.rd b with|some c=>Tn (some (some n)) c o|none=>none),(some [v]:Option uw)with|some v,some l=>some (v::l)|_,_=>none)with|some l=>OR.ok (single l) h|none=>.bad 197)=_
 rw[AaS]
 cases rdO (h.m.get b) h with
 |none=>rfl
 |some c=>
  show(match (match (Nf c o n).map AV.agg,(some [v]:Option uw)with|some v,some l=>some (v::l)|_,_=>none)with|some l=>OR.ok (single l) h|none=>.bad 197)=_
  rw[E5]
  by_cases hh:o+n<=c.length
  .rw[Xo hh,AoF,Xo hh];rfl
  .rw[X2 hh,AoF,X2 hh];rfl
def Sg{bytes lo b off}{et}{cs}(h2:Nv h b cs)(d:off<=cs.length)(g:Hd h s y=some (B1,c'))(j:c'.length=B1*s)(t:B1*(bytes+1)<1000000000000)(h1:Bm c'=true)(p:lo<=h.nx):
 ∃v h',Ds et s bytes (.sl b off 0 0 s true) y h=.ok v h'/\Ai h h'/\Fm s lo et h' v B1 c':=by
 have o:Ds et s bytes (.sl b off 0 0 s true) y h=match Hd h s y with
  |some (n,new)=>C6 _ ..
  |none=>.bad _:=rfl;rw[o,g];simp[h1,Fi,Rx,Ws t,Fe];by_cases h0:B1=0;. subst h0;have u:c'=[]:=Vz.1 om;subst u;exact⟨_,_,rfl,Ai.refl h,.inr (.inl ⟨rfl,rfl,b,_,_,rfl,h2,d⟩)⟩
 .have i:Nat.ble (Nat.add 0 B1) 0=false:=by cases z:Nat.ble _ 0 with
   |false=>rfl
   |true=>simp_all
  have e:C6 (.bad 121) (C6 (.bad 121) (C6 (.bad 121) (Lg ⟨et,s,bytes⟩ b off 0 0 s true B1 c' h) true) true) true=grow h et s c' B1:=by show C6 _ _ (Nat.ble _ 0)=_;rw[i];unfold Sf;rw[AaS,h2.rd];have q:Nat.add 0 _=B1:=Rx _;simp[E5,q,ep,Vw,d,Jr,Rk,Dl,I3]
  rw[e];refine⟨_,_,rfl,((Ai.refl h).new _).new _,.inr (.inr ⟨_,_,0,rfl,Bf _,?_,by omega,p,by simp,by simp_all;omega,by simp,j⟩)⟩;rw[Cq _ _ (by simp)];simp
def Nn{b off cap sz l u}{ex}(h1:l<=u)(h2:u<=cap):AkE b off cap sz ex l u h=if l<cap then .ok (.sl b (off+l*sz) (u-l) (cap-l) sz ex) h else if ex=true then .ok (.sl b off 0 0 sz true) h else if l=0 then .ok (.sl b off 0 0 sz ex) h else .ok (.sl b (off+1) 0 0 0 false) h:=by
 show Bool.rec _ ..=_;rw[show Nat.ble l u=true by simp[*],show Nat.ble u _=true by simp_all];by_cases d:l<cap;. rw[Xo d,show Nat.blt l _=true by simp[*]];rfl
 .rw[X2 d,show Nat.blt l _=false by cases g:Nat.blt l _ with
   |false=>rfl
   |true=>simp_all;omega];cases ex with
  |true=>rfl
  |false=>
   by_cases e:l=0;. simp_all
   .have:Nat.beq l 0=false:=by cases l with|zero=>omega|succ k=>rfl
    simp_all
def Ads{t e}{bytes}(i:Hp P t=.sl ⟨e,s,bytes⟩):xSl P t .Bv none (some (.int .i64 0)) h=.ok .Bv h:=by have g:vL (ev (.tmp 0) (fr Az [(0,.Bv),(1,.top),(2,.int .i64 0)]))=.nil:=rfl;have e1:bnd (fr Az [(0,.Bv),(1,.top),(2,.int .i64 0)]) none 0=some 0:=rfl;have d:bnd (fr Az [(0,.Bv),(1,.top),(2,.int .i64 0)]) (some (.tmp 2)) 0=some 0:=rfl;show G5 t (.tmp 0) none (some (.tmp 2)) none 0 P Q7 (fr Az [(0,.Bv),(1,.top),(2,.int .i64 0)]) h=_;unfold G5;grind
def A3e{t:TypeId}{a:uq}{k:Nat}(i:Hp P t=.str)(g:k<=a.length):xSl P t (.str a) (some (.int .i64 (k:Int))) none h=.ok (.str (a.drop k)) h:=by
 have d:vS (ev (.tmp 0) (fr Az [(0,.str a),(1,.int .i64 (k:Int)),(2,.top)]))=.yes a:=by kernel_rfl
 have e1:bnd (fr Az [(0,.str a),(1,.int .i64 (k:Int)),(2,.top)]) (some (.tmp 1)) 0=some k:=by kernel_rfl
 have e:bnd (fr Az [(0,.str a),(1,.int .i64 (k:Int)),(2,.top)]) none (Y2 a)=some (Y2 a):=rfl;show G5 t (.tmp 0) (some (.tmp 1)) none none 0 P Q7 (fr Az [(0,.str a),(1,.int .i64 (k:Int)),(2,.top)]) h=_;unfold G5;rw[i];simp only[d,e1,e];show(Bool.rec (.bad 71) (Bool.rec (.bad 71) (.ok (.str (Aw2 (Nat.sub (Y2 a) k) (Aw1 a k))) h) (Nat.ble (Y2 a) (Y2 a))) (Nat.ble k (Y2 a)):OR)=_;rw[Rf,show Nat.ble k a.length=true by simpa using g,show Nat.ble a.length a.length=true by simp,Asg,Asc]
 show OR.ok (.str ((a.drop k).take (a.length-k))) h=_;rw[Qa (by simp)]
def Awe{a:uq}{k:Nat}(i:Hp P j=.str)(g:k<=a.length):xSl P j (.str a) none (some (.int .i64 (k:Int))) h=.ok (.str (a.take k)) h:=by
 have d:vS (ev (.tmp 0) (fr Az [(0,.str a),(1,.top),(2,.int .i64 (k:Int))]))=.yes a:=by kernel_rfl
 have e1:bnd (fr Az [(0,.str a),(1,.top),(2,.int .i64 (k:Int))]) none 0=some 0:=rfl;have e:bnd (fr Az [(0,.str a),(1,.top),(2,.int .i64 (k:Int))]) (some (.tmp 2)) (Y2 a)=some k:=by kernel_rfl
 show G5 j (.tmp 0) none (some (.tmp 2)) none 0 P Q7 (fr Az [(0,.str a),(1,.top),(2,.int .i64 (k:Int))]) h=_;unfold G5;rw[i];simp only[d,e1,e];show(Bool.rec (.bad 71) (Bool.rec (.bad 71) (.ok (.str (Aw2 (Nat.sub k 0) (Aw1 a 0))) h) (Nat.ble k (Y2 a))) (Nat.ble 0 k):OR)=_;rw[Rf,show Nat.ble k a.length=true by simpa using g,show Nat.ble 0 k=true by simp,Asg,Asc]
 rfl
def A6v(t:TypeId)(d:Bool)(a b:uq)(e:a.length+b.length<1000000000000):Aj P .add t d (.str a) (.str b) h=.ok (.str (a++b)) h:=by
 show(Bool.rec (.bad 37) (.ok (.str (AzJ a b)) h) (Gj (Nat.add (Y2 a) (Y2 b))):OR)=_;rw[Rf,Rf,Fi,show decide (Nat.add a.length b.length<1000000000000)=true from Ws e]
 show OR.ok (.str (AzJ a b)) h=_;rw[AuL]
def B8{Φ:OR->Prop}{lg:uq}{d:List EF}{k:H->OR}(e:Lh d=true)(g:Φ (k (Be (En d lg) h))):Φ (Ff lg d h k):=by rw[So e];exact g
def Ai.reC{c}{l}(e:Ai h (Go.Ev.Be l h1))(hc:h.nx<=c):Ai h (Go.Ev.Be (c::l) h1):=⟨e.lo,e.Cf,λx d=>by
 rcases Tu.1 d with rfl|d;. omega
 .exact e.lg x d⟩
end Go.Ev.Sx
namespace Go.Ev
variable {j:FuncId}{o:uw}
variable [Ii]
variable {P:Program}{G:Nat}{σ σ':Dx}{h h':H}{w w':World}{v:AV}{Z:Ac}
def Plain(x:AV):Prop:=∀σ d v,Au σ x v->Au d x v
def Plain.bool(b:Bool):Plain (.bool b):=λ_ _ v h=>by cases h;exact .bool b
def Plain.int(k:IntKind)(n:Int):Plain (.int k n):=λ_ _ v h=>by cases h;exact .int k n
def Plain.str(s:uq):Plain (.str s):=λ_ _ v h=>by cases h;exact .str _
def Plain.I6{t:TypeId}{x:AV}(e:Plain x):Plain (.I6 t x):=λσ d v h=>by cases h with|I6 t x v' h'=>exact .I6 _ _ _ (e σ d _ h')
def Plain.agg(g:∀x∈o,Plain x):Plain (.agg o):=λσ e v h=>by cases h with|agg cs D7 h1 h2=>exact .agg _ _ h1 λi x y d j=>g x (Vl d) σ e _ (h2 i x y d j)
def I7(l:uw):Prop:=∀x∈l,Plain x
def I7.rel{a:List Value}(g:I7 o)(σ d:Dx)(h:Bk σ o a):Bk d o a:=⟨h.1,λi x y e j=>g x (Vl e) σ d _ (h.2 i x y e j)⟩
def I7.nil:I7 []:=λ_ h=>by cases h
def I7.cons{x:AV}(e:Plain x)(d:I7 o):I7 (x::o):=λy h=>by
 rcases Tu.1 h with rfl|h
 .exact e
 .exact d y h
structure A6W(P:Program)(Z:Ac)(g:FuncId)(args:List AV)(v:AV):Prop where
 ran:∃h1,Z.call g args (glH [] P.globals.size)=.ok v h1/\h1.nx<=Bq/\∀x∈h1.lg,P.globals.size<=x
def Ah1:P8 P.globals.size []=true:=rfl
def Aks(hc:Bd P P.globals.size Z)(hn:P.globals.size<=Bq){g}{args}{v}(q:Bg P g=true)(K:Plain v)(I:A6W P Z g args v):Nx P [] ⟨g,args,v⟩:=by
 obtain⟨h1,L,E,B⟩:=I.ran;intro w An kind C p;obtain⟨d,t⟩:=AkL C hn Ah1;have o:Fx (Y0 P.globals.size w) (glH [] P.globals.size) h1:=by intro x h2 V;have O:P.globals.size<=x:=h2;unfold Y0;grind
 obtain⟨σ',v',w',S,fn,z,M,A,D,q5,u⟩:=hc.call g _ _ _ v _ w _ _ L q (p _) d t E o;obtain⟨nw,J,s2,s3⟩:=A;have F:h1.lg=nw:=by rw[J.lg];simp[glH]
 refine⟨_,_,_,_,z,λσ=>K _ _ _ M,⟨s2.grow,λc j=>s2.frame c j ?_,s2.io⟩,D,q5,u⟩;intro x hx e i;have U:=(Gm i).1;grind
abbrev Df:=FuncId->uw->Option AV
structure P3(P:Program)(T:Df):Prop where
 ok:∀g args v,T g args=some v->Nx P [] ⟨g,args,v⟩/\I7 args
def P3.none:P3 P (λ_ _=>none):=⟨λ_ _ _ h=>by cases h⟩
def AxJ(T:Df)(Z:Ac):Ac:=⟨λg args h=>Option.rec (Z.call g args h) (λv=>.ok v h) (T g args),Z.round⟩
def cD(P:Program)(T:Df)(d:Nat):Ac:=Nat.rec Q7 (λ_ e=>AxJ T ⟨Fy P e,Io P e⟩) d
variable {T:Df}
def Am8(hc:Dw Z):Dw (AxJ T Z):=by refine⟨λg args h v h' i=>?_,hc.round⟩;have d:@Option.rec _ (λ_=>OR) _ ..=.ok v _:=i;cases e:T g _ with
|none=>rw[e]at d;exact hc.call g _ h v _ d
|some u=>rw[e]at d;obtain⟨_,rfl⟩:=B4 d;simp
def Aj5(hc:Bd P P.globals.size Z)(E:P3 P T):Bd P P.globals.size (AxJ T Z):=by
 refine⟨?_,λl args h h' v σ w An=>hc.round l _ h _ v _ w _,Am8 hc.mono,?_,hc.Au7⟩;rotate_left;. intro g args h h' v σ w An D z p d q B A;have i:@Option.rec _ (λ_=>OR) _ ..=.Hb v _:=D;cases o:T g _ with
   |none=>rw[o]at i;exact hc.Hb g _ h _ v _ w _ i z p d q B A
   |some u=>simp_all
 intro g args h h' v σ w An kind D z p d q B A;have i:@Option.rec _ (λ_=>OR) _ ..=.ok v _:=D;cases o:T g _ with
 |none=>rw[o]at i;exact hc.call g _ h _ v _ w _ _ i z p d q B A
 |some u=>rw[o]at i;obtain⟨rfl,rfl⟩:=B4 i;obtain⟨J,O⟩:=E.ok g _ u o;obtain⟨v',w',S,fn,r1,M,j,I,K,F⟩:=J w _ _ (Akl d q Ah1 rfl) λU=>O.rel _ _ p;refine⟨_,_,_,_,_,r1,M _,⟨_,J6.refl d.ai,⟨Qq.refl _,λx e h1 h2=>by simp_all,⟨d.so.inj,λx e t=>Xq (d.so.rng x e t) j.grow,d.so.low⟩,j.grow,λc C _=>j.same c C,
   λx e h1 h2=>by grind,j.io⟩,?_⟩,I,K,F⟩;intro x e t;exact Gr.congr (Qq.refl _) (j.same _ (d.so.rng x e t)) (λ_ _ _ _ _ L=>L) (d.ma x e t)
def Xh(g:P.follows .mixedOrders=true)(i:Mv P=true)(j:P3 P T) d:Bd P P.globals.size (cD P T d):=by induction d with
|zero=>exact Acd g i 0
|succ d e=>exact Aj5 (ApK e g i ⟨N9 e.mono,Mj e.mono⟩) j
def Ate{d:Nat}{args:uw}(h:H)(e:T j args=some v):(cD P T (d+1)).call j args h=.ok v h:=by show(Option.rec (Fy P (cD P T d) j args h) (λv=>.ok v h) (T j args):OR)=.ok v h;rw[e]
def Atd{d:Nat}{args:uw}(h:H)(e:T j args=none):(cD P T (d+1)).call j args h=Fy P (cD P T d) j args h:=by show(Option.rec (Fy P (cD P T d) j args h) (λv=>.ok v h) (T j args):OR)=_;rw[e]
def Df.ext(T:Df)(g:FuncId)(S:uw->Option AV):Df:=λd args=>Bool.rec (T d args) (S args) (Nat.beq d g)
def Ahs(g:FuncId)(S:uw->Option AV)(args:uw):T.ext g S g args=S args:=by unfold Df.ext;rw[Fe]
def Aew{d:FuncId}(S:uw->Option AV)(args:uw)(e:d≠j):T.ext j S d args=T d args:=by
 unfold Df.ext;have:Nat.beq d j=false:=by
  cases i:Nat.beq d j with
  |false=>rfl
  |true=>exact absurd (ao i) e
 rw[this]
def P3.ext(j:P.follows .mixedOrders=true)(e:Mv P=true)(hn:P.globals.size<=Bq)(o:P3 P T){g}{S}(z:Bg P g=true)
 (hs:∀args v,S args=some v->I7 args/\Plain v/\∃d h1,Fy P (cD P T d) g args (glH [] P.globals.size)=.ok v h1/\h1.nx<=Bq/\∀x∈h1.lg,P.globals.size<=x):P3 P (T.ext g S):=by
 refine⟨λA args v i=>?_⟩;by_cases p:A=g;. subst p;rw[Ahs]at i;obtain⟨h1,h2,d,B,t,u,q⟩:=hs _ v i;have hc:=ApK (Xh j e o d) j e ⟨N9 (Xh j e o d).mono,Mj (Xh j e o d).mono⟩;exact⟨Aks hc hn z h2 ⟨⟨_,t,u,q⟩⟩,h1⟩
 .rw[Aew _ _ p]at i;exact o.ok _ _ v i
end Go.Ev
namespace Go.Ev
open Sx
def C9{h}:(∀o,(h.new o).nx=h.nx+1)/\(∀b o,(h.put b o).nx=h.nx)/\(Ab h).nx=h.nx/\∀lg,(Be lg h).nx=h.nx:=⟨λ_=>rfl,λ_ _=>rfl,rfl,λ_=>rfl⟩
def ml{p:Prop}(q:p:=by simp only[C9];omega):p:=q
def Bt:(∀p [Decidable p],(decide p=true)=p)/\(∀p [Decidable p],(decide p=false)=¬ p)/\(∀b,((!b)=true)=(b=false))/\(∀b,((!b)=false)=(b=true))/\(∀b,¬ b=true=(b=false))/\∀b,¬ b=false=(b=true):=by simp
def lw:(∀d l off,Ng l d off=if off+d.length<=l.length then some (l.take off++d++l.drop (off+d.length))else none)/\(∀l off n,Nf l off n=if off+n<=l.length then some ((l.drop off).take n)else none)/\∀n,-9223372036854775808<=n->n<=9223372036854775807->E1 .i64 n=n:=⟨Kh,E5,Cr⟩
def Ce{p:Prop}(q:p:=by first|omega|(simp only[C9];omega)):p:=q
def M0{h h':H}(q:Sx.Bi h h':=by first|((first|exact Sx.Bi.refl _|assumption|(repeat' (first|assumption|exact Sx.Bi.refl _|exact Sx.Ai.refl _|with_reducible apply Sx.Bi.nl|with_reducible apply Sx.Bi.Be|with_reducible apply Sx.Ai.nl|with_reducible apply Sx.Ai.Be|(with_reducible refine Sx.Ai.reC ?_ ?_)|(with_reducible refine Sx.Bi.trans ?_ (Sx.Ai.keeps (by assumption)))|(with_reducible apply Sx.Ai.keeps)|with_reducible apply Sx.Ai.new|(with_reducible refine Sx.Ai.put ?_ _ _ ?_)|(with_reducible refine Sx.Ai.trans ?_ (by assumption))|omega|(simp only[C9];omega))));done)|fail):Sx.Bi h h':=q
def Ex{h h':H}(q:Sx.Ai h h':=by first|((repeat' (first|assumption|exact Sx.Ai.refl _|with_reducible apply Sx.Ai.nl|with_reducible apply Sx.Ai.Be|(with_reducible refine Sx.Ai.reC ?_ ?_)|with_reducible apply Sx.Ai.new|(with_reducible refine Sx.Ai.put ?_ _ _ ?_)|(with_reducible refine Sx.Ai.trans ?_ (by assumption))|omega|(simp only[C9];omega)));done)|fail):Sx.Ai h h':=q
def dA{p:Prop}(q:p:=by first|omega|(simp only[C9];omega)|((first|exact Sx.Bi.refl _|assumption|(repeat' (first|assumption|exact Sx.Bi.refl _|exact Sx.Ai.refl _|with_reducible apply Sx.Bi.nl|with_reducible apply Sx.Bi.Be|with_reducible apply Sx.Ai.nl|with_reducible apply Sx.Ai.Be|(with_reducible refine Sx.Ai.reC ?_ ?_)|(with_reducible refine Sx.Bi.trans ?_ (Sx.Ai.keeps (by assumption)))|(with_reducible apply Sx.Ai.keeps)|with_reducible apply Sx.Ai.new|(with_reducible refine Sx.Ai.put ?_ _ _ ?_)|(with_reducible refine Sx.Ai.trans ?_ (by assumption))|omega|(simp only[C9];omega))));done)|fail):p:=q
section
variable {Q R:AV->H->Prop}{r r':OR}{k:AV->H->OR}{h h0 h1 h2:H}{v x y:AV}{a b:OR}{c w:Bool}{l:List RX}{n:Nat}
def A7{Φ:OR->Prop}(hc:Φ (k v h)):Φ (Aa (.ok v h) k):=hc
def A8{Φ:OR->Prop}(hc:Φ (k v (Ab h))):Φ (Al h1 (.ok v (Ab h)) k):=Acw hc
def A9{Φ:OR->Prop}(hc:Φ a):Φ (Af uz a b):=hc
def Ba{Φ:OR->Prop}(hc:Φ b):Φ (Af ux a b):=hc
def Cu(hc:Ah h0 Q (.ok v h)):Ah h0 Q (.ok v h):=hc
def Cv{Φ:OR->Prop}(hq:wrote h2.nx h1.lg=[])(hc:Φ (k v h1)):Φ (Al h2 (.ok v h1) k):=Ah6 hq hc
def Cw{Φ:OR->Prop}(d:c=true->Φ a)(e:c=false->Φ b):Φ (Af (.bool c) a b):=At5 d e
def Cx{Φ:OR->Prop}(hc:Φ (Af (.bool c) a b)):Φ (Af (.bool c) a b):=hc
def Cy{Φ:OR->Prop}(e:r=r')(hc:Φ (Aa r' k)):Φ (Aa r k):=e ▸ hc
def Cz{Φ:OR->Prop}(e:r=r')(hc:Φ (Al h r' k)):Φ (Al h r k):=e ▸ hc
def C0{Φ:OR->Prop}(e:x=y)(hc:Φ (Af y a b)):Φ (Af x a b):=e ▸ hc
def C1{Φ:OR->Prop}(e:Vk l h=r)(hc:Φ r):Φ (Vk l h):=e ▸ hc
def Fj{Φ:OR->Prop}(g:Ah h R r)(d:∀v h1,Ai h h1->h.nx<=h1.nx->(∀b,b<h.nx->h1.m.get b=h.m.get b)->R v h1->Φ (k v h1)):Φ (Aa r k):=X0 g λv h1 e q=>d v h1 e e.lo e.Cf q
def zc2{Φ:OR->Prop}(g:Ah (Ab h) R r)(d:∀v h1,Ai h h1->h.nx<=h1.nx->(∀b,b<h.nx->h1.m.get b=h.m.get b)->R v h1->Φ (k v h1)):Φ (Al h r k):=Aqb g λv h1 e q=>d v h1 e e.lo e.Cf q
def Kl{Φ:OR->Prop}(e:Ad x w r h=r')(hc:Φ (Aa r' k)):Φ (Aa (Ad x w r h) k):=e ▸ hc
def Km{Φ:OR->Prop}(e:Ad x w r h=r')(hc:Φ (Al h1 r' k)):Φ (Al h1 (Ad x w r h) k):=e ▸ hc
def zw:(∀r h,Ad uz true r h=r)/\(∀r h,Ad uz false r h=.ok (.Bj []) h)/\(∀r h,Ad ux false r h=r)/\∀r h,Ad ux true r h=.ok (.Bj []) h:=⟨λ_ _=>rfl,λ_ _=>rfl,λ_ _=>rfl,λ_ _=>rfl⟩
def zr(e:Ai h0 h)(hq:Q v h):Ah h0 Q (.ok v h):=Lo e hq
end
structure El(p:Prop):Prop where
 g:p
def wk{G d:Prop}(g:d)(e:El d->G:=by
 intro O0;(first
  |(with_reducible (first|apply A7|apply A8|apply A9|apply Ba))
  |(with_reducible (first|apply Kl|apply Km);(conv=>lhs;simp only[zw, *]))
  |(with_reducible (first|apply Cy|apply Cz|apply C0|apply C1);(conv=>lhs;simp(disch:=first|exact dA|fail) [lw, *]);with_reducible (first|apply A7|apply A8|apply A9|apply Ba|apply Cu|(refine Cv (by simp) ?_)|fail))
  |(with_reducible (first|apply C2|apply C3|apply C4|apply C5|apply Cw);(first|(focus (intro hc;(try simp only[Bt]at hc);exfalso;omega))|(rotate_left;(focus (intro hc;(try simp only[Bt]at hc);exfalso;omega)))|fail);intro hc;(try simp only[Bt]at hc))
  |fail)
 repeat' (first
  |(with_reducible (first|apply A7|apply A8|apply A9|apply Ba))
  |(with_reducible (first|apply Kl|apply Km);(conv=>lhs;simp only[zw, *]))
  |(with_reducible (first|apply Cy|apply Cz|apply C0|apply C1);(conv=>lhs;simp(disch:=first|exact dA|fail) [lw, *]);with_reducible (first|apply A7|apply A8|apply A9|apply Ba|apply Cu|(refine Cv (by simp) ?_)|fail))
  |(with_reducible (first|apply C2|apply C3|apply C4|apply C5|apply Cw);(first|(focus (intro hc;(try simp only[Bt]at hc);exfalso;omega))|(rotate_left;(focus (intro hc;(try simp only[Bt]at hc);exfalso;omega)))|fail);intro hc;(try simp only[Bt]at hc))
  |fail)
 exact O0.1):G:=e ⟨g⟩
def wd{G d:Prop}(g:d)(e:El d->G:=by
 intro O0;(first
  |(with_reducible (first|apply A7|apply A8|apply A9|apply Ba))
  |(with_reducible (first|apply Kl|apply Km);(conv=>lhs;simp only[zw, *]))
  |(with_reducible (first|apply Cy|apply Cz|apply C0|apply C1);(conv=>lhs;simp(disch:=first|exact dA|fail) [lw, *]);with_reducible (first|apply A7|apply A8|apply A9|apply Ba|apply Cu|(refine Cv (by simp) ?_)|fail))
  |(with_reducible (first|apply C2|apply C3|apply C4|apply C5|apply Cw);(first|(focus (intro hc;(try simp only[Bt]at hc);exfalso;omega))|(rotate_left;(focus (intro hc;(try simp only[Bt]at hc);exfalso;omega)))|fail);intro hc;(try simp only[Bt]at hc))
  |(refine Sx.B8 ?_ ?_;(focus (simp(disch:=first|decide|omega|(simp only[C9];omega)) [Sx.Aw,Sx.Am,Sx.Ar,Sx.Ax, *];done));(try simp(disch:=first|exact Ce|fail) only[Sx.Aw,Sx.Am,Sx.Bx,Sx.Ap,Sx.At,I3,Ia,Sx.B9,Sx.Dp,Sx.Dn,C9,Sx.Ca, *]))
  |fail)
 repeat' (first
  |(with_reducible (first|apply A7|apply A8|apply A9|apply Ba))
  |(with_reducible (first|apply Kl|apply Km);(conv=>lhs;simp only[zw, *]))
  |(with_reducible (first|apply Cy|apply Cz|apply C0|apply C1);(conv=>lhs;simp(disch:=first|exact dA|fail) [lw, *]);with_reducible (first|apply A7|apply A8|apply A9|apply Ba|apply Cu|(refine Cv (by simp) ?_)|fail))
  |(with_reducible (first|apply C2|apply C3|apply C4|apply C5|apply Cw);(first|(focus (intro hc;(try simp only[Bt]at hc);exfalso;omega))|(rotate_left;(focus (intro hc;(try simp only[Bt]at hc);exfalso;omega)))|fail);intro hc;(try simp only[Bt]at hc))
  |(refine Sx.B8 ?_ ?_;(focus (simp(disch:=first|decide|omega|(simp only[C9];omega)) [Sx.Aw,Sx.Am,Sx.Ar,Sx.Ax, *];done));(try simp(disch:=first|exact Ce|fail) only[Sx.Aw,Sx.Am,Sx.Bx,Sx.Ap,Sx.At,I3,Ia,Sx.B9,Sx.Dp,Sx.Dn,C9,Sx.Ca, *]))
  |fail)
 exact O0.1):G:=e ⟨g⟩
end Go.Ev
namespace Go.Ev.Sx
variable {j:EF}{o:RS}
variable {h h1 h2:H}{tk:Nat}{vl:AV}{Q:AV->H->Prop}{r:OR}{k:AV->H->OR}{m m':Int}{s len:Nat}{v:AV}{c:uw}
def H0:H:=⟨KM.new,0,[]⟩
def Ed h:Ai H0 h:=⟨Wy _,λb d=>absurd d (dx b),λx _=>.inr (Wy _)⟩
def Au5 tk a b(h1:Ai (h.put tk a) h2):Ai (h.put tk b) (h2.put tk b):=by
 refine⟨h1.lo,λx d=>?_,λx d=>?_⟩
 .by_cases e:x=tk;. simp[*]
  .rw[Aq _ b x e,Aq _ b x e,h1.Cf x d,Aq _ a x e]
 .rcases Tu.1 d with rfl|d;. simp
  .rcases h1.lg x d with g|g;. simp_all
   simp_all
@[simp]def A51{P} t c a b(hb:b≠0):Aj P .rem t c (.int .i64 a) (.int .i64 b) h=.ok (.int .i64 (Int.tmod a b)) h:=by
 have e:ieq b 0=false:=by rw[X7];grind
 show(Bool.rec (.bad 30) (@Bool.rec (λ_=>OR) _ ..) (kEq .i64 .i64):OR)=_;rw[e];rfl
def D4(n x:Nat):∀l:uq,x∈wrote n l->x∈l/\x<n
|[],e=>by cases e
|b::l,e=>by
 have d:x∈(Bool.rec (wrote n l) (b::wrote n l) (Nat.blt b n):uq):=e;cases g:Nat.blt b n with
 |false=>rw[g]at d;have:=D4 n x l d;exact⟨Vo _ this.1,this.2⟩
 |true=>
  rw[g]at d;rcases Tu.1 d with rfl|i
  .exact⟨Wm ..,Ec g⟩
  .have:=D4 n x l i;exact⟨Vo _ this.1,this.2⟩
def Ab8 b:∀w,(∀x∈w,x=tk)->b≠tk->Ve b w=false
|[],_,_=>rfl
|x::w,h1,h2=>by
 have e:Nat.beq x b=false:=by cases q:Nat.beq x b with
  |false=>rfl
  |true=>simp_all
 show @Bool.rec (λ_=>Bool) _ ..=false;rw[e];exact Ab8 b w (λy d=>h1 y (Vo _ d)) h2
def Zq:∀w,Ahl w []=true
|[]=>rfl
|x::w=>Zq w
def Wo lo hi(e:tk<lo):∀w,(∀x∈w,x=tk)->outside w lo hi=true
|[],_=>rfl
|x::w,h1=>by
 have g:Nat.ble lo x=false:=by cases q:Nat.ble _ x with
  |false=>rfl
  |true=>simp_all;omega
 show @Bool.rec (λ_=>Bool) _ ..=true;rw[g];exact Wo _ _ e w λy d=>h1 y (Vo _ d)
def Bdw{g e:Nat}{d i:H}(q:∀x∈j.w,x=tk)(p:tk<d.nx)(t:clear o j.w d j.h j.h1=true):Jo j ⟨g,e,[],o,d,i⟩=true:=by unfold Jo;have h1:Ahl j.w []=true:=Zq _;have h2:outside j.w d.nx i.nx=true:=Wo _ _ p _ q;rw[h1,h2,t];cases M4 (Nat.lor (Nat.land j.pr g) (Nat.land e j.bit))<;>cases Nat.beq j.bit g<;>rfl
def Dk{z t:Nat}{d g:H}(e:∀x∈j.w,x=tk)(p:tk<d.nx)(q:o=.none\/∃b off i,o=.blk b off i/\b≠tk/\B5 (d.m.get b)=none):Jo j ⟨z,t,[],o,d,g⟩=true:=by
 refine Bdw e p ?_;rcases q with rfl|⟨b,off,i,rfl,u,hc⟩
 .rfl
 .show(Bool.rec (AbY j.w (B5 (d.m.get b))) _ (Ve b j.w):Bool)=true;rw[Ab8 b j.w e u,hc];rfl
def BmD{q p off:Nat}{i:Option (Option Nat)}{v:AV}{d g:H}(o:∀x∈j.w,x=tk)(e:tk<d.nx)(h1:cellAt (d.m.get tk) off i=some v)(h2:cellAt (j.h.m.get tk) off i=cellAt (j.h1.m.get tk) off i)(hc:B5 (d.m.get tk)=none):Jo j ⟨q,p,[],.blk tk off i,d,g⟩=true:=by
 refine Bdw o e ?_;show(Bool.rec (AbY j.w (B5 (d.m.get tk))) (Beb tk off i d j.h j.h1) (Ve tk j.w):Bool)=true;cases Ve tk j.w with
 |false=>rw[hc];rfl
 |true=>exact @Ws _ (Classical.propDecidable _) ⟨v,h1,h2⟩
def V9 all:∀l,(∀e∈l,Q6 e.w=true\/E2 e all=true)->Iu all l=true
|[],_=>rfl
|e::l,h1=>by
 have i:=V9 _ l λx d=>h1 x (Vo _ d);show Bool.rec (Bool.rec _ (Iu _ l) _) (Iu _ l) _=true;rcases h1 e Wm .. with g|g;. simp[*]
 .cases Q6 _;simp_all;omega
def V4 e:∀l,(∀a∈l,Jo e a=true)->E2 e l=true
|[],_=>rfl
|a::l,h1=>by rw[Fz,h1 a Wm ..,V4 e l λx d=>h1 x (Vo _ d)];rfl
variable {b:Nat}{X Y:AO}
def PG(b:Nat)(X:AO)(h h1:H):Prop:=Ai (h.put b X) h1
def AjT(b:Nat)(X:AO)(h:H)(Q:AV->H->Prop)(r:OR):Prop:=Ah (h.put b X) Q r
def AeN(e:Ah H0 (λv h1=>PG b X h h1/\Q v h1) r):AjT b X h Q r:=by obtain⟨v,h1,rfl,_,d,hq⟩:=e;exact⟨v,h1,rfl,d,hq⟩
def Bke(e:AjT b X h Q r):∃v h1,r=.ok v h1/\PG b X h h1/\Q v h1:=by obtain⟨v,h1,rfl,d,hq⟩:=e;exact⟨v,h1,rfl,d,hq⟩
def PG.refl(g:h.m.get b=X):PG b X h h:=by
 refine⟨Ye _,λc hc=>?_,λx d=>.inl (Vo _ d)⟩;by_cases e:c=b
 .subst e;rw[A2,g]
 .rw[Aq _ _ _ e]
def PG.put(e:PG b X h h1)(Y:AO):PG b Y h (h1.put b Y):=Au5 b _ _ e
def PG.gr(e:PG b X h h1)(g:Ai h1 h2):PG b X h h2:=Ai.trans e g
def PG.trans(e:PG b X h h1)(d:PG b Y h1 h2):PG b Y h h2:=(e.put Y).gr d
def PG.new(e:PG b X h h1)(o:AO):PG b X h (h1.new o):=e.gr ((Ai.refl h1).new o)
def PG.lo(e:PG b X h h1):h.nx<=h1.nx:=(show(h.put b X).nx<=h1.nx from Ai.lo e)
def PG.Cf(e:PG b X h h1)(c:Nat)(hc:c<h.nx)(hn:c≠b):h1.m.get c=h.m.get c:=by rw[Ai.Cf e c hc,Aq _ _ _ hn]
def PG.get(e:PG b X h h1)(d:b<h.nx):h1.m.get b=X:=by rw[Ai.Cf e b d,A2]
def PG.Aiq(e:PG b X h h1)(c:Nat)(o:AO)(hc:h.nx<=c):PG b X h (h1.put c o):=Ai.put e c o hc
def PG.own{h0:H}(d:Ai h0 h)(e:PG b X h h1)(g:h0.nx<=b):Ai h0 h1:=(d.put b X g).trans e
def Sl.pg(C:Sl s h v len c)(E:b<h.nx)(o:∀st,h.m.get b≠.Fb st)(u:∀d off n cap z ex,v=.sl d off n cap z ex->d≠b)(e:PG b X h h1):Sl s h1 v len c:=by
 rcases C with B|⟨d,off,cap,ex,cs,rfl,D,i,q,q5⟩
 .exact .inl B
 .have A:=u d off len cap s ex rfl;refine .inr ⟨d,off,cap,ex,cs,rfl,D,?_,q,q5⟩;obtain⟨t,j,p,g⟩:=i.cells;refine⟨Xq i.lt e.lo,t,j,by rw[e.Cf d i.lt A];exact p,?_⟩;cases j with
  |Cf c st=>
   by_cases hc:c=b
   .subst hc;exact absurd g.2 (o st)
   .exact⟨Xq g.1 e.lo,by rw[e.Cf c g.1 hc];exact g.2⟩
  |_=>trivial
def zu1{h0:H}{R:AV->H->Prop}(g:AjT b X h R r)(d:∀v h1,PG b X h h1->h.nx<=h1.nx->(∀c,c<h.nx->c≠b->h1.m.get c=h.m.get c)->(b<h.nx->h1.m.get b=X)->R v h1->Ah h0 Q (k v h1)):Ah h0 Q (Aa r k):=by obtain⟨v,h1,rfl,e,hq⟩:=Bke g;exact d v h1 e e.lo e.Cf e.get hq
def PG.wrote(e:PG b X (Ab h) h1):∀x∈wrote h.nx h1.lg,x=b:=by
 intro x j;obtain⟨i,o⟩:=D4 _ _ _ j;rcases Ai.lg e x i with g|g
 .rcases Tu.1 g with d|d
  .exact d
  .cases d
 .have:h.nx<=x:=g;omega
def PG.reL{g:H}{L:uq}(e1:PG b Y h g)(j:PG b X h h1)(i:∀z∈L,z∈g.lg\/z=b\/h.nx<=z):PG b X h (Be L h1):=by
 have d:Ai (h.put b X) h1:=j;refine⟨d.lo,d.Cf,λz o=>?_⟩;rcases i z o with e|rfl|e
 .exact Ai.lg (show Ai (h.put b Y) g from e1) z e
 .exact .inl (Wm ..)
 .exact .inr e
def PX(b:Nat)(h h1:H):Prop:=∃X,PG b X h h1
def PX.of(e:PG b X h h1):PX b h h1:=⟨X,e⟩
def PG.Bsj(e:PX b h h1)(Y:AO):PG b Y h (h1.put b Y):=e.elim λ_ e=>e.put Y
def PG.trX(e:PX b h h1)(d:PG b Y h1 h2):PG b Y h h2:=e.elim λ_ e=>e.trans d
def PX.put(e:PX b h h1)(Y:AO):PX b h (h1.put b Y):=⟨Y,.Bsj e Y⟩
def PX.trX(e:PX b h h1)(d:PG b Y h1 h2):PX b h h2:=⟨Y,.trX e d⟩
def PX.gr(e:PX b h h1)(g:Ai h1 h2):PX b h h2:=e.elim λX e=>⟨X,e.gr g⟩
def PX.new(e:PX b h h1)(o:AO):PX b h (h1.new o):=e.gr ((Ai.refl h1).new o)
def PX.Aiq(e:PX b h h1)(c:Nat)(o:AO)(hc:h.nx<=c):PX b h (h1.put c o):=e.elim λX e=>⟨X,e.Aiq c o hc⟩
def PX.refl(h:H):PX b h h:=⟨_,.refl rfl⟩
def pgA(q:PG b X h h1:=by first|((repeat' (first|assumption|(exact Sx.PG.refl (by assumption))|(exact Sx.PX.of (by assumption))|exact Sx.PX.refl _|with_reducible apply Sx.PG.nl|with_reducible apply Sx.PG.new|with_reducible apply Sx.PG.Bsj|(with_reducible refine Sx.PG.Aiq ?_ _ _ ?_)|with_reducible apply Sx.PX.nl|with_reducible apply Sx.PX.new|with_reducible apply Sx.PX.put|(with_reducible refine Sx.PX.Aiq ?_ _ _ ?_)|(refine Sx.PG.trX ?_ (by assumption))|(refine Sx.PX.trX ?_ (by assumption))|(refine Sx.PG.gr ?_ (by assumption))|(refine Sx.PX.gr ?_ (by assumption))|omega|(simp only[C9];omega)));done)|fail):PG b X h h1:=q
variable {X':AO}{c':Nat}
def PG2(b:Nat)(X:AO)(c:Nat)(Y:AO)(h h1:H):Prop:=PG c Y (h.put b X) h1
def PG2.of{c:Nat}(e:PG b X h h1)(Y:AO):PG2 b X c Y h (h1.put c Y):=((PG.refl rfl).gr e).put Y
def PG2.gr{c:Nat}(e:PG2 b X c Y h h1)(g:Ai h1 h2):PG2 b X c Y h h2:=PG.gr e g
def PG2.lo{c:Nat}(e:PG2 b X c Y h h1):h.nx<=h1.nx:=(show(h.put b X).nx<=h1.nx from PG.lo e)
def PG2.Cf{c:Nat}(e:PG2 b X c Y h h1)(x:Nat)(d:x<h.nx)(n1:x≠b)(g:x≠c):h1.m.get x=h.m.get x:=by rw[PG.Cf e x d g,Aq _ _ _ n1]
def PG2.B0m{c:Nat}(e:PG2 b X c Y h h1)(d:b<h.nx)(hn:b≠c):h1.m.get b=X:=by rw[PG.Cf e b d hn,A2]
def PG2.BaK{c:Nat}(e:PG2 b X c Y h h1)(hc:c<h.nx):h1.m.get c=Y:=PG.get e hc
def PG2.To{c:Nat}(e:PG2 b X c Y h h1)(hn:b≠c)(X':AO):PG2 b X' c Y h (h1.put b X'):=by
 have i:Ai ((h.put b X).put c Y) h1:=e;refine⟨i.lo,λx d=>?_,λx d=>?_⟩
 .by_cases g:x=b
  .subst g;rw[A2,Aq _ _ _ hn,A2]
  .rw[Aq _ _ _ g,i.Cf x d];by_cases j:x=c
   .subst j;rw[A2,A2]
   .rw[Aq _ _ _ j,Aq _ _ _ j,Aq _ _ _ g,Aq _ _ _ g]
 .rcases Tu.1 d with rfl|d
  .exact .inl (Vo _ (Wm ..))
  .exact i.lg x d
def PG2.trP{c:Nat}(e:PG2 b X c Y h h1)(hn:b≠c)(d:PG b X' h1 h2):PG2 b X' c Y h h2:=(e.To hn X').gr d
def PG2.pre{c:Nat}{d:H}(g:PG b X h d)(e:PG2 b X' c Y d h1):PG2 b X' c Y h h1:=(((PG.refl rfl).gr (g.put X')).put Y).gr e
def PG2.own{c:Nat}{h0:H}(d:PX b h0 h)(e:PG2 b X c Y h h1)(hc:h0.nx<=c):PG b X h0 h1:=((d.put X).elim λ_ _=>((PG.Bsj d X).Aiq c Y hc).gr e)
abbrev AeK(t:TypeId)(w:AV):AO:=cz [w] t
variable {h0:H}{R R':AV->H->Prop}
def A3Y(h0:H)(R:AV->H->Prop)(r:OR):Prop:=∃v h',r=.Hb v h'/\Ai h0 h'/\R v h'
def Bn8(i:A3Y h R r)(d:∀v h1,Ai h h1->R v h1->Ai h0 h1/\R' v h1):A3Y h0 R' (Aa r k):=by obtain⟨v,h1,rfl,e,hq⟩:=i;obtain⟨h2,g⟩:=d v h1 e hq;exact⟨v,h1,rfl,h2,g⟩
def B5m(d:r=.Hb v h)(e:Ai h0 h)(hq:R v h):A3Y h0 R (Aa r k):=by rw[d];exact⟨v,h,rfl,e,hq⟩
end Go.Ev.Sx
namespace Go.Ev
variable {j:FuncId}{o:OR}{p:Oper}{C:Op}
variable {P:Program}{Z:Ac}{f:L2}{h h':H}{v:AV}
def NP(p:Bool)(h:H)(r:OR):Prop:=∀v h',r=.Hb v h'->p=true/\h.nx<=h'.nx
variable {pp:Bool}
def NP.bad(n:Nat):NP pp h (.bad n):=λv h' d=>by cases d
def NP.same(v:AV):NP pp h (.ok v h):=λv h' d=>by cases d
def NP.put(v:AV)(b:Nat)(o:AO):NP pp h (.ok v (h.put b o)):=λv h' d=>by cases d
def NP.A9V(v:AV)(b c:Nat)(o p:AO):NP pp h (.ok v ((h.put b o).put c p)):=λv h' d=>by cases d
def NP.new(v:AV)(o:AO):NP pp h (.ok v (h.new o)):=λv h' d=>by cases d
def NP.mk(o:AO)(v:AV):NP pp h (mk h o v):=NP.new v o
def NP.Azy(v:AV)(o p:AO):NP pp h (.ok v ((h.new o).new p)):=λv h' d=>by cases d
def NP.ver(v:AV)(b c:Nat)(o p q:AO):NP pp h (.ok v (((h.put b o).put c p).new q)):=λv h' d=>by cases d
def NP.ite{c:Bool}{y:OR}(e:NP pp h o)(d:NP pp h y):NP pp h (Bool.rec y o c):=by cases c<;>assumption
def NP.Py(x:Option AV):NP pp h (Py x h):=by cases x;exact .bad _;exact .same _
def NP.Ly(x:Option uw):NP pp h (Ly x h):=by cases x;exact .bad _;exact .same _
def NP.Uv(x:Option Nat):NP pp h (Uv x h):=by cases x;exact .bad _;exact .same _
def NP.AdR(x:Option uw)(e:TypeId):NP pp h (AdR x e h):=by cases x;exact .bad _;exact .new _ _
def NP.wr(b off:Nat)(d:uw)(g:H->AV):NP pp h (RH.rec OR.bad (λh'=>.ok (g h') h') (h.wr b off d)):=by
 cases i:h.wr b off d with
 |bad n=>exact .bad n
 |ok h2=>exact λv h' e=>by cases e
structure AiU(Z:Ac):Prop where
 call:∀g asq h,NP true h (Z.call g asq h)
 round:∀l asq h,NP true h (Z.round l asq h)
def Bnf(op:BinOp)(k:IntKind)(a:Int)(k':IntKind)(b:Int):NP pp h (AqP op k a k' b h):=by
 cases op;all_goals first
  |exact NP.bad _
  |exact NP.ite (.same _) (.bad _)
  |exact NP.ite (.ite (.bad _) (.same _)) (.bad _)
  |skip
 all_goals (show NP pp h _;dsimp only[AqP,AtZ,Aua];split)
 all_goals first
  |exact NP.bad _
  |exact NP.same _
  |exact NP.ite (.ite (.ite (.same _) (.bad _)) (.bad _)) (.bad _)
def Bnh(op:BinOp)(a b:uq):NP pp h (AuB op a b h):=by cases op<;>first|exact NP.bad _|exact NP.same _|exact NP.ite (.same _) (.bad _)
def Bgz(x y:AV)(op:BinOp)(t:TypeId)(c:Bool):NP pp h (Ij x y op t c P h):=by
 unfold Ij;split
 .refine NP.ite ?_ (.bad _);split;exact .same _;exact .bad _
 .refine NP.ite ?_ (.bad _);split;exact .same _;exact .bad _
 .exact .bad _
def Bnd(x y:AV)(op:BinOp)(t:TypeId)(c:Bool):NP pp h (Atc x x y op t c P h):=by
 cases x;case int k n=>cases y<;>first|exact NP.bad _|exact Bnf _ _ _ _ _
 case str s=>cases y<;>first|exact NP.bad _|exact Bnh _ _ _
 case top=>exact .bad _
 all_goals exact Bgz _ _ _ _ _
def Bng(x:AV)(i:Option (Option Nat)):NP pp h (ldV x i h):=by
 cases x;case ptr b o=>
  show NP pp h (ldC (h.rd b) i o h);cases h.rd b with
  |none=>exact .bad _
  |some c=>
   cases i with
   |none=>exact .bad _
   |some j=>cases j;exact .Py _;exact .Ly _
 all_goals exact .bad _
def Bju(x:AV)(cs:Option uw)(n:Option Nat):NP pp h (stV x cs n h):=by
 cases x;case ptr b o=>
  show NP pp h (stC cs n b o h);unfold stC;split
  .exact .ite (.ite (.wr _ _ _ (λ_=>.Bj [])) (.bad _)) (.bad _)
  .exact .bad _
 all_goals exact .bad _
def Bx7(t:TypeId)(m k x:Operand)(ty:TypeId):NP pp h (E6 t m k x ty P Z f h):=by unfold E6;repeat (first|exact NP.bad _|exact NP.put _ _ _|split)
def BdW(s d:TypeId)(x:Operand)(ty:TypeId):NP pp h (Ml s d x ty P Z f h):=by unfold Ml;repeat (first|exact NP.bad _|exact NP.same _|exact NP.ite (.Azy _ _ _) (.bad _)|exact NP.ite (.same _) (.bad _)|split)
def Bni(b off cap sz:Nat)(ex:Bool)(l u:Nat):NP pp h (AkE b off cap sz ex l u h):=
 .ite (.ite (.ite (.same _) (.ite (.same _) (.ite (.same _) (.same _)))) (.bad _)) (.bad _)
def Bbm(b off cap sz l u c:Nat):NP pp h (Amj b off cap sz l u c h):=.ite (.ite (.ite (.same _) (.bad _)) (.bad _)) (.bad _)
def Bjs(s:uq)(l u:Option Nat):NP pp h (Ai9 s l u h):=by
 unfold Ai9;split
 .exact .ite (.ite (.same _) (.bad _)) (.bad _)
 .exact .bad _
def Bjt(t:TypeId)(x:Operand)(lo hi d:Option Operand)(ty:TypeId):NP pp h (Aac t x lo hi d ty P Z f h):=by refine .ite ?_ (.bad _);unfold G5;repeat (first|exact NP.bad _|exact NP.same _|exact Bjs _ _ _|exact NP.ite (Bni _ _ _ _ _ _ _) (.bad _)|exact NP.ite (Bbm _ _ _ _ _ _ _) (.bad _)|exact Bbm _ _ _ _ _ _ _|split)
def Bx5(i:XI)(x:AV)(n:Option Nat):NP pp h (iaX i x n h):=by
 cases i;case sl i=>
  cases n with
  |none=>exact .bad _
  |some n=>cases x<;>first|exact NP.bad _|exact NP.ite (.same _) (.bad _)
 case arr len i=>
  cases n with
  |none=>exact .bad _
  |some n=>cases x<;>first|exact NP.bad _|exact NP.ite (.same _) (.bad _)
 all_goals exact .bad _
def Bgy(st:TypeId)(s x:AV):NP pp h (Xa P st s x h):=by
 unfold Xa;split
 .split
  .split
   .exact .ite (.same _) (.ite (.ite (.Azy _ _ _) (.bad _)) (.bad _))
   .refine .ite (.ite (.ite ?_ (.bad _)) (.bad _)) (.bad _);refine .ite ?_ (.ite ?_ ?_)
    .unfold AgN;rename_i new _ _ _ _ _ _ _ _ _;cases new with
     |nil=>exact .same _
     |cons y l=>exact .wr _ _ _ (λ_=>_)
    .unfold Sf;repeat (first|exact NP.bad _|exact NP.Azy _ _ _|split)
    .unfold Ny;repeat (first|exact NP.bad _|exact NP.ite (.ite (.ite (.ver _ _ _ _ _ _) (.bad _)) (.bad _)) (.bad _)|split)
   .exact .bad _
  .exact .bad _
 .exact .bad _
def Bx6(k:LK)(x:AV):NP pp h (lnK k x h):=by
 cases k;case str=>cases x<;>first|exact NP.bad _|exact NP.same _
 case sl=>cases x<;>first|exact NP.bad _|exact NP.same _
 case bad=>exact .bad _
def Bsu(lt:Bool)(l:uw):NP pp h (mm lt l h):=by unfold mm;repeat (first|exact NP.bad _|exact NP.same _|split)
def B5g(t:TypeId)(p n:AV):NP pp h (usV P t p n h):=by unfold usV;repeat (first|exact NP.bad _|exact NP.same _|exact NP.ite (.ite (.ite (.A9V _ _ _ _ _) (.bad _)) (.bad _)) (.bad _)|exact NP.ite (.ite (.ite (.put _ _ _) (.bad _)) (.bad _)) (.bad _)|split)
def Bne(dt:TypeId)(d x:AV):NP pp h (Ahh P dt d x h):=by unfold Ahh;repeat (first|exact NP.bad _|exact NP.same _|exact NP.ite (.wr _ _ _ (λ_=>_)) (.bad _)|split)
def BdG(b:Builtin)(ts:List TypeId)(args:uw):NP pp h (J8 b ts args P h):=by
 unfold J8;split;case h_1=>split;exact .ite (Bgy _ _ _) (.bad _);exact .bad _
 case h_2=>split;exact Bx6 _ _;exact .bad _
 case h_3=>split;exact Bne _ _ _;exact .bad _
 case h_4=>exact Bsu _ _
 case h_5=>exact Bsu _ _
 case h_6=>
  split
  .unfold sdV;repeat (first|exact NP.bad _|exact NP.same _|exact NP.ite (.bad _) (.same _)|split)
  .exact .bad _
 case h_7=>split;exact B5g _ _ _;exact .bad _
 case h_8=>exact .bad _
def Bbi(hc:AiU Z)(g:FuncId)(args:uw):NP true h (Aeg P Z g args h):=by refine .ite (hc.call _ _ _) ?_;unfold AgK;repeat (first|exact NP.bad _|exact NP.same _|split)
def Bbl(hc:AiU Z)(r:AV)(d:String)(args:uw):NP true h (Hn P Z r d args h):=by unfold Hn;repeat (first|exact NP.bad _|exact Bbi hc _ _|split)
def BdF(hc:AiU Z)(fn:Fn)(cap args:uw):NP true h (M6 P Z fn cap args h):=by unfold M6;repeat (first|exact NP.bad _|exact Bbi hc _ _|exact Bbl hc _ _ _|exact hc.round _ _ _|split)
def Bjr(hc:AiU Z)(o:Op)(ty:TypeId)(h:H):NP (AcX o) h (opD o ty P Z f h):=by
 cases o;case move x=>exact .same _
 case assign x=>exact .same _
 case pick c a b=>
  show NP _ h (Bo (ev c f) (ev a f) (ev b f) h);cases ev c f;case bool q=>cases q<;>exact .same _
  all_goals exact .bad _
 case alloc e=>exact .AdR _ _
 case box e x=>exact .AdR _ _
 case build t parts=>show NP _ h (Tg t parts ty P Z f h);unfold Tg;split<;>first|exact .Ly _|exact .bad _
 case buildSlice t n parts=>show NP _ h (Gz t n parts ty P Z f h);unfold Gz;repeat (first|exact NP.bad _|exact NP.ite (.mk _ _) (.bad _)|split)
 case insert t m k x=>exact Bx7 (Z:=Z) t m k x ty
 case load t x=>exact Bng _ _
 case store t x y=>exact Bju _ _ _
 case nilCheck x=>exact .ite (.same _) (.bad _)
 case binOp op t x y yt=>exact Bnd _ _ _ _ _
 case unOp op t x=>show NP _ h (AaP op t x ty P Z f h);unfold AaP;repeat (first|exact NP.bad _|exact NP.same _|split)
 case convert s d x=>exact BdW (Z:=Z) s d x ty
 case makeInterface t x=>exact .ite (.same _) (.bad _)
 case makeFunc fn x y=>show NP _ h (Jt fn x y ty P Z f h);unfold Jt;repeat (first|exact NP.bad _|exact NP.same _|split)
 case makeMap t r=>cases r;exact .mk _ _;exact .bad _
 case makeSlice t x y=>show NP _ h (H5 t x y ty P Z f h);unfold H5;repeat (first|exact NP.bad _|exact NP.ite (.ite (.mk _ _) (.bad _)) (.bad _)|split)
 case slice t x lo hi mx=>exact Bjt (Z:=Z) t x lo hi mx ty
 case fieldAddr t x i=>
  show NP _ h (Option.rec (λ_ _=>.bad 85) (λd x h=>Bs x d h) (Wa P t i) (ev x f) h);cases Wa P t i with
  |none=>exact .bad _
  |some d=>show NP _ h (Bs (ev x f) d h);cases ev x f<;>first|exact NP.bad _|exact NP.same _
 case field t x i=>
  show NP _ h (Ti t x i ty P Z f h);unfold Ti;split
  .exact .Py _
  .exact .bad _
 case indexAddr t x i=>exact Bx5 _ _ _
 case index t x i=>
  show NP _ h (Tj t x i ty P Z f h);unfold Tj;split
  .cases ev x f<;>first|exact NP.bad _|exact NP.Uv _
  .split
   .exact .ite (.Py _) (.bad _)
   .exact .bad _
  .exact .bad _
 case lookup t x i ok=>show NP _ h (Pe t x i ok ty P Z f h);unfold Pe;repeat (first|exact NP.bad _|exact NP.same _|split)
 case typeAssert x t ast ok=>show NP _ h (G0 x t ast ok ty P Z f h);unfold G0;repeat (first|exact NP.bad _|exact NP.ite (.same _) (.bad _)|exact NP.ite (.same _) (.ite (.same _) (.bad _))|split)
 case extract x i=>show NP _ h (L9 (ev x f) i h);cases ev x f<;>first|exact NP.bad _|exact NP.Py _
 case call c=>
  obtain⟨p,args,j⟩:=c;cases p with
  |value g=>show NP true h (cvV (ev g f) (W1 args.toList f) P Z h);cases ev g f<;>first|exact NP.bad _|exact BdF hc _ _ _|exact hc.round _ _ _
  |invoke r name=>show NP true h (Hn P Z (ev r f) name (W1 args.toList f) h);exact Bbl hc _ _ _
  |builtin b=>
   show NP _ h (Aa5 b args.toList j.toList P Z f h);unfold Aa5;split
   .unfold AnS;split;exact .same _;exact .bad _
   .exact BdG _ _ _
 case panic x=>
  show NP _ h (Aga (ev x f) h);unfold Aga;split
  .exact λv h' u=>by cases u;exact⟨rfl,Ye _⟩
  .exact .bad _
 all_goals exact .bad _
def Awc(q:Bool)(c:Code):Bool:=Code.rec true (λ_ ops d=>Bool.rec (ops.toList.all λo=>Ib (AhJ o.op)) (ops.toList.all (λo=>Ib (AhJ o.op))&&(ops.toList.all (λo=>Ib (AcX o.op))||(Ib q&&(Aqi ops||A7R ops)))) d) (λ_ _ a b=>a&&b) (λ_ _ _ a b=>a&&b) (λ_ _ a=>a) (λ_ a=>a)
 (λ_ _ _ _ _ _=>false) (λ_=>true) (λ_ a=>a) (λ_=>true) (λ_=>false) true (λ_=>false) c
variable {f':L2}{nt G:Nat}
def AhH{k:AV->H->OR}(d:Aa o k=.Hb v h'):o=.Hb v h'\/∃u h1,o=.ok u h1/\k u h1=.Hb v h':=by
 cases o with
 |bad n=>cases d
 |ok u h1=>exact .inr ⟨u,h1,rfl,d⟩
 |Hb u h1=>exact .inl d
def Alu(j:Nat->KT)(r k:KT)(v:AV)(h':H)(d:AV):RC->Prop
|.bad _=>False
|.Bt f h=>k f h=.Hb v h'/\f.get Br=d
|.ext i f h=>(i≠Em/\j i f h=.Hb v h'/\f.get Br=d)\/(i=Em/\f.get Jv=v/\h=h'/\f.get Br=d)
|.ret f h=>r f h=.Hb v h'/\f.get Br=d
def AvZ(hc:AiU Z){ops:Array Oper}{u:AV}{h1:H}(hd:Ie p.op=none)(d:Acv (guardOf ops p) p P Z f h=.Hb u h1):Fp ops p P Z f h=.ext Em (f.set Jv u) h1:=by
 have De:opX p P Z f h=.Hb u h1->Ame p P Z f h=.ext Em (f.set Jv u) h1:=by intro d;unfold opX at d;show op1 p p.dst p.type P Z f h=_;unfold op1;rw[hd]at d ⊢;have e:opD p.op p.type P Z f h=.Hb u h1:=d;obtain⟨h2,j⟩:=Bjr hc p.op p.type h u h1 e;show Akx p.dst f h p.op (opD p.op p.type P Z f h)=_;rw[e];show(Bool.rec (.bad 208) (Bool.rec (.bad 208) (RC.ext Em (f.set Jv u) h1) (Nat.ble h.nx h1.nx)) (AcX p.op):RC)=_;rw[h2,br j]
 show AjD (guardOf ops p) p P Z f h=_;unfold Acv at d;cases i:guardOf ops p with
 |bad=>rw[i]at d;cases d
 |always=>rw[i]at d;exact De d
 |on t w=>
  rw[i]at d;have e:Ad (f.get t) w (opX p P Z f h) h=.Hb u h1:=d;show Amo (Adq (f.get t) w) p P Z f h=_;unfold Ad at e;cases g:Adq (f.get t) w with
  |yes=>rw[g]at e;exact De e
  |no=>rw[g]at e;cases e
  |bad=>rw[g]at e;cases e
def Axg(d:Gl G nt p=true)(i:nt<250)(u:AV)(f:L2):(Im p.dst u f).get Br=f.get Br:=by
 cases hd:p.dst with
 |none=>rfl
 |some t=>
  have h2:t<nt:=by
   unfold Gl at d;rw[hd]at d;cases g:p.op.operands.toList.all (Es G)with
   |false=>rw[g]at d;cases d
   |true=>rw[g]at d;have h1:Nat.blt t nt=true:=d;simpa using h1
  show(f.set t u).get Br=f.get Br;have e:t<250:=ab h2 i;rw[L2.Dh t Br _ f (ab e fe) fe,X2 (by intro j;have o:t=255:=j.symm;rw[o]at e;exact absurd e fe)]
def BxC(u:AV)(f:L2):(f.set Jv u).get Br=f.get Br:=by rw[L2.Dh Jv Br _ f fe fe,X2 (by intro d;cases d)]
def A8Q(u:AV)(f:L2):(f.set Jv u).get Jv=u:=by rw[L2.Dh Jv Jv _ f fe fe,Xo rfl]
def BjQ(hc:AiU Z)(i:nt<250){ops:Array Oper}{j:Nat->KT}{r k:KT}:∀(l:List Oper) (f:L2) (h:H),(∀o∈l,Ie o.op=none/\Gl G nt o=true)->A54 P Z ops l k f h=.Hb v h'->Alu j r k v h' (f.get Br) (G3 P Z ops l f h):=by
 intro l;induction l with
 |nil=>intro f h _ d;exact⟨d,rfl⟩
 |cons o l q=>
  intro f h e d;obtain⟨hd,p⟩:=e o (Wm ..);have g:(Option.rec (Apz (λv h'=>A54 P Z ops l k (Im o.dst v f) h') (Acv (guardOf ops o) o P Z f h)) (λ_=>BrW (A54 P Z ops l k) (Fp ops o P Z f h)) (Ie o.op):OR)=.Hb v h':=d;show Alu j r k v h' (f.get Br) (andThen (G3 P Z ops l) (Fp ops o P Z f h));rw[hd]at g;rcases AhH (show Aa _ _=_ from g)with h2|⟨u,h1,h2,t⟩
  .rw[AvZ hc hd h2];exact .inr ⟨rfl,A8Q ..,rfl,BxC ..⟩
  .rw[Sy h2];have:=q _ _ (λx z=>e x (Vo _ z)) t;rw[Axg p i]at this;exact this
def Ayz(hc:AiU Z){ops:Array Oper}{u:AV}{h1:H}(j:AcX p.op=false)(d:Acv (guardOf ops p) p P Z f h=.Hb u h1):False:=by
 have De:opX p P Z f h=.Hb u h1->False:=by
  intro d;unfold opX at d;cases hd:Ie p.op with
  |some c=>rw[hd]at d;cases d
  |none=>rw[hd]at d;have:=(Bjr hc p.op p.type h u h1 d).1;rw[j]at this;cases this
 unfold Acv at d;cases i:guardOf ops p with
 |bad=>rw[i]at d;cases d
 |always=>rw[i]at d;exact De d
 |on t w=>
  rw[i]at d;have e:Ad (f.get t) w (opX p P Z f h) h=.Hb u h1:=d;unfold Ad at e;cases g:Adq (f.get t) w with
  |yes=>rw[g]at e;exact De e
  |no=>rw[g]at e;cases e
  |bad=>rw[g]at e;cases e
def Bf7{d:Bool}{lg:uq}(e:AcX C=false):Bnn d lg C o=o:=by unfold Bnn;rw[e];cases d<;>rfl
def Bx4{nw:Bool}{u:AV}{h1:H}(d:AcX C=false\/nw=true)(e:noW nw C o=.Hb u h1):AcX C=false/\o=.Hb u h1:=by
 cases hq:AcX C with
 |false=>refine⟨rfl,?_⟩;unfold noW at e;rw[hq]at e;cases nw<;>exact e
 |true=>
  rcases d with d|rfl
  .rw[hq]at d;cases d
  .have g:(Bool.rec o (AzK o) (AcX C):OR)=.Hb u h1:=e;rw[hq]at g;have i:AzK o=.Hb u h1:=g;cases o<;>cases i
def A02(hc:AiU Z)(t:nt<250){ops:Array Oper}{lg:uq}{C nw:Bool}{k:KT}:∀(l:List DO) (e:List EF) (f:L2) (h:H),(∀o∈l,(AcX o.o.op=false\/nw=true)/\Gl G nt o.o=true)->xDr P Z ops lg C nw l e k f h=.Hb v h' ->
 ∃d h2,Sp P Z ops lg l e f h=.Bt d h2/\k d h2=.Hb v h'/\d.get Br=f.get Br:=by
 intro l;induction l with
 |nil=>
  intro e f h _ j;have g:Ff lg e h (λh'=>k f h')=.Hb v h':=j;show ∃d h2,Acf lg e f h=.Bt d h2/\k d h2=.Hb v h'/\d.get Br=f.get Br;unfold Ff at g;unfold Acf;cases q:Lh e with
  |false=>rw[q]at g;cases g
  |true=>rw[q]at g;exact⟨_,_,rfl,g,rfl⟩
 |cons o l D=>
  intro e f h p j;obtain⟨i,F⟩:=p o (Wm ..);rcases AhH (show Aa _ _=_ from j)with h2|⟨u,h1,h2,I⟩
  .obtain⟨i,h2⟩:=Bx4 i h2;rw[Bf7 i]at h2;exact(Ayz hc i h2).elim
  .show ∃d h2,(RC.rec (motive:=λ_=>RC) RC.bad (λf' h'=>Sp P Z ops lg l (⟨o.bit,o.pr,wrote h.nx h'.lg,Gi P o.o.op f,h,h'⟩::e) f' h') (λ_ _ _=>.bad 184) (λ_ _=>.bad 184) (Fp ops o.o P Z f (Ab h)))=.Bt d h2/\k d h2=.Hb v h'/\d.get Br=f.get Br;rw[Sy (A0v (A89 h2))];obtain⟨d,z,E,B,A⟩:=D _ _ _ (λx J=>p x (Vo _ J)) I;exact⟨d,z,E,B,by rw[A,Axg F t]⟩
def BjP(hc:AiU Z)(I:nt<250){ops:Array Oper}{lg:uq}{k:KT}{ds E:uq}:∀(l:List DO) (i:Nat) (p:List (Nat × Nat)) (J:List QE) (A:List EF) (f:L2) (h:H),(∀o∈l,Ie o.o.op=none/\Gl G nt o.o=true) ->
 Av5 ds E (l.map (·.o)) i p J=true->xDr P Z ops lg true false l A k f h=.Hb v h' ->
 (∃g h2,Sp P Z ops lg l A f h=.Bt g h2/\k g h2=.Hb v h'/\g.get Br=f.get Br) \/
  (∃F h1 n,G3 P Z ops (l.map (·.o)) f (Ab h)=.ext Em F h1/\F.get Jv=v/\h'=Be (Akm h1.lg lg) h1/\Sp P Z ops lg l A f h=.bad n):=by
 intro l;induction l with
 |nil=>intro i p J A f h _ _ K;exact .inl (A02 (G:=G) hc I _ _ _ _ (λo ho=>by cases ho) K)
 |cons o l ih=>
  intro i p J A f h L hg K;obtain⟨h4,U⟩:=L o (Wm ..);have d:Av5 ds E (o.o::l.map (·.o)) i p J=true:=hg;unfold Av5 at d;show(∃g h2,(RC.rec (motive:=λ_=>RC) RC.bad (λf' h'=>Sp P Z ops lg l (⟨o.bit,o.pr,wrote h.nx h'.lg,Gi P o.o.op f,h,h'⟩::A) f' h') (λ_ _ _=>.bad 184) (λ_ _=>.bad 184) (Fp ops o.o P Z f (Ab h)))=.Bt g h2/\k g h2=.Hb v h'/\g.get Br=f.get Br) \/
   (∃F h1 n,andThen (G3 P Z ops (l.map (·.o))) (Fp ops o.o P Z f (Ab h))=.ext Em F h1/\F.get Jv=v/\h'=Be (Akm h1.lg lg) h1/\(RC.rec (motive:=λ_=>RC) RC.bad (λf' h'=>Sp P Z ops lg l (⟨o.bit,o.pr,wrote h.nx h'.lg,Gi P o.o.op f,h,h'⟩::A) f' h') (λ_ _ _=>.bad 184) (λ_ _=>.bad 184) (Fp ops o.o P Z f (Ab h)))=.bad n)
  cases t:qk o.o with
  |some e=>
   rw[t]at d;dsimp only at d;rw[Wx,Wx]at d;obtain⟨q1,q2,q3,V,q5,q6⟩:=Bbr t;rcases AhH (show Aa _ _=_ from K)with h2|⟨u,h1,h2,j⟩
   .rw[Bf7 V]at h2;exact(Ayz hc V h2).elim
   .have C:=A0v (A89 h2);have B:h1=Ab h:=by rw[Aot q1]at C;have z:opX o.o P Z f (Ab h)=.ok u h1:=C;unfold opX at z;rw[q3]at z;have D:opD o.o.op o.o.type P Z f (Ab h)=.ok u h1:=z;rw[q6]at D;exact Bf8 D
    rw[Sy C];subst B;rcases ih _ _ _ _ _ _ (λx q=>L x (Vo _ q)) d.2 j with⟨g,B,z,D,O⟩|B
    .exact .inl ⟨g,B,z,D,by rw[O,Axg U I]⟩
    .exact .inr B
  |none=>
   rw[t]at d;dsimp only at d;rw[Wx,Wx,Wx]at d;obtain⟨⟨⟨g1,g2⟩,g3⟩,g4⟩:=d;rcases AhH (show Aa _ _=_ from K)with h2|⟨u,h1,h2,j⟩
   .have C:(@Bool.rec (λ_=>OR) (Acv (guardOf ops o.o) o.o P Z f (Ab h)) (Aw8 lg (Acv (guardOf ops o.o) o.o P Z f (Ab h))) (AcX o.o.op):OR)=.Hb v h':=h2;rw[g2]at C;have j:Aw8 lg (Acv (guardOf ops o.o) o.o P Z f (Ab h))=.Hb v h':=C;cases q:Acv (guardOf ops o.o) o.o P Z f (Ab h)with
    |bad n=>rw[q]at j;cases j
    |ok u h1=>rw[q]at j;cases j
    |Hb u h1=>rw[q]at j;have M:OR.Hb u (Be (Akm h1.lg lg) h1)=.Hb v h':=j;injection M with e1 e2;subst e1;rw[AvZ hc h4 q];exact .inr ⟨_,h1,184,rfl,A8Q ..,e2.symm,rfl⟩
   .rw[Sy (A0v (A89 h2))];have S:=Bbq P g4;obtain⟨g,B,z,D,O⟩:=A02 (G:=G) hc I _ _ _ _ (λx q=>⟨.inl (S x.o (List.mem_map_of_mem q)),(L x (Vo _ q)).2⟩) j;exact .inl ⟨g,B,z,D,by rw[O,Axg U I]⟩
def BoK(hc:AiU Z)(A:nt<250){ops:Array Oper}{lg:uq}{k:KT}:∀(l:List DO) (g:List EF) (f:L2) (h:H),(∀e∈g,e.w=[])->(∀o∈l,AcX o.o.op=false/\Gl G nt o.o=true)->xQu P Z ops lg (l.map (·.o)) k f h=.Hb v h'->∃d h2,Sp P Z ops lg l g f h=.Bt d h2/\k d h2=.Hb v h'/\d.get Br=f.get Br:=by
 intro l;induction l with
 |nil=>
  intro g f h hq _ j;show ∃d h2,Acf lg g f h=.Bt d h2/\k d h2=.Hb v h'/\d.get Br=f.get Br;have h1:∀(all:List EF) (l:List EF),(∀e∈l,e.w=[])->Iu all l=true:=by
   intro all l;induction l with
   |nil=>intro _;rfl
   |cons e l p=>intro i;show(@Bool.rec (λ_=>Bool) (@Bool.rec (λ_=>Bool) false (Iu all l) (E2 e all)) (Iu all l) (Q6 e.w):Bool)=true;rw[i e (by simp)];exact p λx q=>i x (by simp[q])
  have h2:∀(l:List EF),(∀e∈l,e.w=[])->En l lg=lg:=by
   intro l;induction l with
   |nil=>intro _;rfl
   |cons e l p=>intro i;show Akm e.w (En l lg)=lg;rw[i e (by simp),p λx q=>i x (by simp[q])];rfl
  unfold Acf Lh;rw[h1 g g hq,h2 g hq];exact⟨_,_,rfl,j,rfl⟩
 |cons o l p=>
  intro g f h hq i j;obtain⟨E,I⟩:=i o (Wm ..);rcases AhH (show Aa _ (λv h'=>@Bool.rec (λ_=>OR) (.bad 409) (xQu P Z ops lg (l.map (·.o)) k (Im o.o.dst v f) h') (Q6 (wrote h.nx h'.lg)))=_ from j)with h2|⟨u,h1,h2,t⟩
  .exact(Ayz hc E h2).elim
  .show ∃d h2,(RC.rec (motive:=λ_=>RC) RC.bad (λf' h'=>Sp P Z ops lg l (⟨o.bit,o.pr,wrote h.nx h'.lg,Gi P o.o.op f,h,h'⟩::g) f' h') (λ_ _ _=>.bad 184) (λ_ _=>.bad 184) (Fp ops o.o P Z f (Ab h)))=.Bt d h2/\k d h2=.Hb v h'/\d.get Br=f.get Br;rw[Sy h2];cases z:Q6 (wrote h.nx h1.lg)with
   |false=>rw[z]at t;cases t
   |true=>
    rw[z]at t;obtain⟨d,B,F,D,C⟩:=p (⟨o.bit,o.pr,wrote h.nx h1.lg,Gi P o.o.op f,h,h1⟩::g) _ _ (λe j=>by
     rcases Tu.1 j with rfl|j
     .exact Ao1 z
     .exact hq e j) (λx q=>i x (Vo _ q)) t
    exact⟨d,B,F,D,by rw[C,Axg I A]⟩
def A0M:∀(l:List Oper) (i:Nat) (e:uq) (d:DO),d∈M7 l i e->d.o∈l:=by intro l i e d hd;have:=List.mem_map_of_mem (f:=(·.o)) hd;rwa[Ava]at this
def BxV(hc:AiU Z)(V:nt<250){N:Nat}{q:Bool}(hN:N<=1048576)(c:Code):Awc q c=true->codeOk G nt c=true->∀(j:Nat->KT) (r k:KT) (f:L2) (h:H),xc c P Z N q j r k f h=.Hb v h'->Alu j r k v h' (f.get Br) (exec c P Z f h):=by
 induction c with
 |skip=>intro _ _ j r k f h u;exact⟨u,rfl⟩
 |region id ops dr=>
  intro B C j r k f h u;have S:Amp q ops dr P Z k f h=.Hb v h':=u;cases dr with
  |true=>
   have p:(ops.toList.all (λo=>Ib (AhJ o.op))&&(ops.toList.all (λo=>Ib (AcX o.op))||(Ib q&&(Aqi ops||A7R ops))))=true:=B;rw[Wx,ba]at p;have E:(Bool.rec false (Yx ops) (ops.toList.all (Gl G nt)):Bool)=true:=C;have Fs:ops.toList.all (Gl G nt)=true:=by
    cases M:ops.toList.all (Gl G nt)with
    |true=>rfl
    |false=>rw[M]at E;cases E
   have I:∀d∈M7 ops.toList 0 [],Ie d.o.op=none/\Gl G nt d.o=true:=λd hd=>by
    have h1:=A0M _ _ _ _ hd;refine⟨?_,Od.1 Fs d.o h1⟩;have h2:=Od.1 p.1 d.o h1;unfold AhJ at h2;cases hd:Ie d.o.op with
    |none=>rfl
    |some c=>rw[hd]at h2;cases h2
   have Cs:(Bool.rec (.bad 185) (As4 q ops P Z k f h) (AnB ops):OR)=.Hb v h':=S;show Alu j r k v h' _ (Gk P Z ops f h);cases hn:AnB ops with
   |false=>rw[hn]at Cs;cases Cs
   |true=>
    rw[hn]at Cs;have O:(∃f2 h2,Sp P Z ops h.lg (M7 ops.toList 0 []) [] f h=.Bt f2 h2/\k f2 h2=.Hb v h'/\f2.get Br=f.get Br)->Alu j r k v h' (f.get Br) (Gk P Z ops f h):=λt=>by obtain⟨f2,h2,K,D,z⟩:=t;rw[AmS hn K];exact⟨D,z⟩
    cases q with
    |false=>
     have U:xDr P Z ops h.lg (Aqi ops) (A7R ops) (Ahn ops ops.toList 0) [] k f h=.Hb v h':=Cs;rw[Aoz]at U;rcases p.2 with g|g
     rotate_left;have g:(Aqi ops||A7R ops)=true:=g;rw[ba]at g;rcases g with g|g
     rotate_left;rotate_left
     .exact O (A02 (G:=G) hc V (M7 ops.toList 0 []) [] f h (λd hd=>⟨.inl (Aq0 (Od.1 g d.o (A0M _ _ _ _ hd))),(I d hd).2⟩) U)
     .have hdy:A7R ops=false:=by unfold A7R;rw[g]
      rw[g,hdy]at U;have hg:Av5 (T8 ops.toList) (BhL ops.toList []) ((M7 ops.toList 0 []).map (·.o)) 0 [] []=true:=by rw[Ava];exact g
      rcases BjP (G:=G) hc V (M7 ops.toList 0 []) 0 [] [] [] f h I hg U with t|⟨A,h1,n,h2,K,D,z⟩
      .exact O t
      .rw[Ava]at h2;have h6:Gk P Z ops f h=.ext Em ((AyE (T8 ops.toList) f).set Jv (A.get Jv)) (Be (Akm h1.lg h.lg) h1):=by unfold Gk;rw[hn,z,g];show Ajt P Z ops f h=_;unfold Ajt;rw[h2]
       rw[h6];refine .inr ⟨rfl,?_,D.symm,BfE (λo ho=>Od.1 Fs o ho) V _ _⟩;rw[A8Q,K]
     .exact O (A02 (G:=G) hc V (M7 ops.toList 0 []) [] f h (λd hd=>⟨.inr g,(I d hd).2⟩) U)
    |true=>
     have U:xQu P Z ops h.lg ops.toList k f h=.Hb v h':=Cs;rw[<- Ava ops.toList 0 []]at U;rcases p.2 with g|g
     .exact O (BoK (G:=G) hc V (M7 ops.toList 0 []) [] f h (λe u=>by cases u) (λd hd=>⟨Aq0 (Od.1 g d.o (A0M _ _ _ _ hd)),(I d hd).2⟩) U)
     .cases g
  |false=>
   have p:(ops.toList.all λo=>Ib (AhJ o.op))=true:=B;have E:(Bool.rec false true (ops.toList.all (Gl G nt)):Bool)=true:=C;have Fs:ops.toList.all (Gl G nt)=true:=by
    cases M:ops.toList.all (Gl G nt)with
    |true=>rfl
    |false=>rw[M]at E;cases E
   refine BjQ (G:=G) hc V _ _ _ (λo ho=>⟨?_,Od.1 Fs o ho⟩) S;have h1:=Od.1 p o ho;unfold AhJ at h1;cases hd:Ie o.op with
   |none=>rfl
   |some c=>rw[hd]at h1;cases h1
 |seq a b F L=>
  intro B C j r k f h u;have p:(Awc q a&&Awc q b)=true:=B;rw[Wx]at p;obtain⟨K,D⟩:codeOk G nt a=true/\codeOk G nt b=true:=by
   have z:(Bool.rec false (codeOk G nt b) (codeOk G nt a):Bool)=true:=C;cases M:codeOk G nt a with
   |false=>rw[M]at z;cases z
   |true=>rw[M]at z;exact⟨rfl,z⟩
  have h1:=F p.1 K j r (xc b P Z N q j r k) f h u;show Alu j r k v h' _ (andThen (exec b P Z) (exec a P Z f h));cases t:exec a P Z f h with
  |bad n=>rw[t]at h1;exact h1.elim
  |Bt A h2=>rw[t]at h1;have:=L p.2 D j r k A h2 h1.1;rw[h1.2]at this;exact this
  |ext i A h2=>rw[t]at h1;exact h1
  |ret A h2=>rw[t]at h1;exact h1
 |cond x a b F L=>
  intro B C j r k f h u;have p:(Awc q a&&Awc q b)=true:=B;rw[Wx]at p;obtain⟨K,D⟩:codeOk G nt a=true/\codeOk G nt b=true:=by
   have z:(Bool.rec false (Bool.rec false (codeOk G nt b) (codeOk G nt a)) (Es G x):Bool)=true:=C;cases t:Es G x with
   |false=>rw[t]at z;cases z
   |true=>
    rw[t]at z;cases M:codeOk G nt a with
    |false=>simp only[M]at z;cases z
    |true=>simp only[M]at z;exact⟨rfl,z⟩
  have S:Af (ev x f) (xc a P Z N q j r k f h) (xc b P Z N q j r k f h)=.Hb v h':=u;show Alu j r k v h' _ (Al2 (ev x f) (exec a) (exec b) P Z f h);cases t:ev x f with
  |bool c=>
   rw[t]at S;cases c with
   |false=>exact L p.2 D j r k f h S
   |true=>exact F p.1 K j r k f h S
  |_=>rw[t]at S;cases S
 |block id a F=>
  intro B C j r k f h u;have E:(Bool.rec (codeOk G nt a) false (Nat.beq id Em):Bool)=true:=C;obtain⟨Qm,K⟩:Nat.beq id Em=false/\codeOk G nt a=true:=by
   cases J:Nat.beq id Em with
   |true=>rw[J]at E;cases E
   |false=>rw[J]at E;exact⟨rfl,E⟩
  have h1:=F B K (E4 id k j) r k f h u;show Alu j r k v h' _ (inBlock id (exec a P Z f h));cases t:exec a P Z f h with
  |bad n=>rw[t]at h1;exact h1.elim
  |Bt A h2=>rw[t]at h1;exact h1
  |ext i A h2=>
   rw[t]at h1;show Alu j r k v h' _ (Bool.rec (RC.ext i A h2) (RC.Bt A h2) (Nat.beq i id));rcases h1 with⟨D,z,h6⟩|⟨rfl,D,z,h6⟩
   .have h7:(Bool.rec (j i A h2) (k A h2) (Nat.beq i id):OR)=.Hb v h':=z;cases J:Nat.beq i id with
    |false=>rw[J]at h7;exact .inl ⟨D,h7,h6⟩
    |true=>rw[J]at h7;exact⟨h7,h6⟩
   .have J:Nat.beq Em id=false:=by
     cases J:Nat.beq Em id with
     |false=>rfl
     |true=>have:=ao J;subst this;exact absurd Qm fe
    rw[J];exact .inr ⟨rfl,D,z,h6⟩
  |ret A h2=>rw[t]at h1;exact h1
 |loop a F=>
  intro B C j r k f h u;have key:∀n f h,F2 (λk=>xc a P Z N q j r k) n f h=.Hb v h'->Alu j r (λ_ _=>.bad 0) v h' (f.get Br) (S8 (exec a P Z) n f h):=by
   intro n;induction n with
   |zero=>intro f h u;cases u
   |succ n ih=>
    intro f h u;have h1:=F B C j r (F2 (λk=>xc a P Z N q j r k) n) f h u;show Alu j r (λ_ _=>.bad 0) v h' _ (andThen (S8 (exec a P Z) n) (exec a P Z f h));cases t:exec a P Z f h with
    |bad n=>rw[t]at h1;exact h1.elim
    |Bt A h2=>rw[t]at h1;have:=ih A h2 h1.1;rw[h1.2]at this;exact this
    |ext i A h2=>rw[t]at h1;exact h1
    |ret A h2=>rw[t]at h1;exact h1
  have h1:=key N f h u;show Alu j r k v h' _ (andThen (λ_ _=>.bad 187) (Yd (exec a) P Z 20 f h));rw[Ake,show(2:Nat)^20=1048576 from rfl]
  rw[show 1048576=N+(1048576-N)by omega,AeC]
  cases t:S8 (exec a P Z) N f h with
  |bad n=>rw[t]at h1;exact h1.elim
  |Bt A h2=>rw[t]at h1;cases h1.1
  |ext i A h2=>rw[t]at h1;exact h1
  |ret A h2=>rw[t]at h1;exact h1
 |rangeFunc x ps a b F L=>intro B;cases B
 |exit id=>intro _ C j r k f h u;have h1:Ib (Nat.beq id Em)=true:=C;refine .inl ⟨?_,u,rfl⟩;intro hh;subst hh;exact absurd h1 fe
 |ret=>intro _ _ j r k f h u;exact⟨u,rfl⟩
 |scope a F=>exact F
 |label l=>intro _ _ j r k f h u;exact⟨u,rfl⟩
 |goto l=>intro B;cases B
 |refuse w=>intro B;cases B
def Ba7{rs:List ResultVar}(hd:f.get Br=.Bj [])(e:Bz P Z rs f h=.Hb v h'):False:=by have d:A3b P Z rs (vT (f.get Br)) f h=.Hb v h':=e;rw[hd]at d;exact Aa8 (show Gg P rs f h=.Hb v h' from d)
def AzZ(hc:AiU Z)(L:Mv P=true){N:Nat}{q:Bool}(M:N<=1048576){args:uw}(J:∀i,Ln P j=some i->Awc q i.body=true)(p:Ay P Z N q j args h=.Hb v h'):Fy P Z j args h=.Hb v h':=by
 unfold Ay at p;unfold Fy;cases d:Ln P j with
 |none=>rw[d]at p;cases p
 |some i=>
  rw[d]at p;have z:=J i d;obtain⟨fn,e,F,hi⟩:∃fn,P.funcs[j]?=some fn/\fn.body=some i.body/\i=⟨i.body,fn.ntmps,fn.results.toList⟩:=by
   unfold Ln at d;split at d
   .rename_i fn e;split at d
    .rename_i c g;cases d;exact⟨fn,e,g,rfl⟩
    .cases d
   .cases d
  obtain⟨K,_,E⟩:=Aag L e F;have o:i.nt<250:=by rw[hi];exact K
  have A:codeOk P.globals.size i.nt i.body=true:=by rw[hi];exact E
  have t:(Bool.rec (.bad 407) (xc i.body P Z N q (λ_ _ _=>.bad 406) (Bz P Z i.rs) (Bz P Z i.rs) (Eu args 0 Az) h) (Nat.ble (Q4 args) i.nt):OR)=.Hb v h':=p;show(Bool.rec (.bad 200) (Agk j (Aby P Z i.rs (exec i.body P Z (Eu args 0 Az) h))) (Nat.ble (Q4 args) i.nt):OR)=.Hb v h';cases g:Nat.ble (Q4 args) i.nt with
  |false=>rw[g]at t;cases t
  |true=>
   rw[g]at t;have C:args.length<=i.nt:=by have:=G2 g;rwa[Gh]at this
   have D:=Acm C o;have h1:=BxV hc o M i.body z A _ _ _ _ _ t;rw[D]at h1;cases u:exec i.body P Z (Eu args 0 Az) h with
   |bad n=>rw[u]at h1;exact h1.elim
   |Bt f1 h2=>rw[u]at h1;exact(Ba7 h1.2 h1.1).elim
   |ret f1 h2=>rw[u]at h1;exact(Ba7 h1.2 h1.1).elim
   |ext id f1 h2=>
    rw[u]at h1;rcases h1 with⟨_,B,_⟩|⟨rfl,B,rfl,I⟩
    .cases B
    .show Agk j (Bool.rec (.bad 199) (Xs P Z i.rs f1 h2) (Nat.beq Em Em))=_;rw[show Nat.beq Em Em=true from rfl]
     show Agk j (Xs P Z i.rs f1 h2)=_;unfold Xs;rw[I,<- B];rfl
def Bd1(t:Dw Z):AiU ⟨Fy P Z,Io P Z⟩:=by
 refine⟨λg d h v h' j=>⟨rfl,?_⟩,λl d h v h' j=>(Ak1 j).elim⟩;have e:Fy P Z g d h=.Hb v h':=j;unfold Fy at e;cases p:Ln P g with
 |none=>rw[p]at e;cases e
 |some i=>
  rw[p]at e;have q:AbW P Z g d h i=.Hb v h':=e;unfold AbW at q;rcases X8 q with⟨_,o⟩|⟨_,o⟩
  .obtain⟨u,z,_⟩:=ApT (Asl o);exact Lt t i.body _ h u h' (.inr (.inl ⟨_,z⟩))
  .cases o
noncomputable section
def A5J(e k:AV->H->OR)(r:OR):OR:=OR.rec OR.bad k e (let _:Nat:=400;r)
def Ars(r:OR)(e k:AV->H->OR):OR:=A5J e k r
def AzX(e:KT)(P:Program)(Z:Ac)(ops:Array Oper)(l:List Oper):KT->KT:=
 List.rec (λk=>k) (λo _ d k f h=>@Option.rec _ (λ_=>OR)
  (Bool.rec (Apz (λv h'=>d k (Im o.dst v f) h') (Acv (guardOf ops o) o P Z f h)) (A5J (λv h'=>e (f.set Jv v) h') (λv h'=>d k (Im o.dst v f) h') (Acv (guardOf ops o) o P Z f h)) (AcX o.op))
  (λ_=>BrW (d k) (Fp ops o P Z f h)) (Ie o.op)) l
def BbC(d:KT)(ops:Array Oper)(e:Bool)(P:Program)(Z:Ac)(k:KT):KT:=
 Bool.rec (AzX d P Z ops ops.toList k) (λf h=>Bool.rec (.bad 185) (As4 false ops P Z k f h) (AnB ops)) e
abbrev XE:=Program->Ac->(Nat->KT)->KT->KT->KT
def xcE(d:KT)(c:Code):XE:=Code.rec (λ_ _ _ _ k=>k) (λ_ ops e P Z _ _ k=>BbC d ops e P Z k) (λ_ _ a b P Z j r k=>a P Z j r (Lk (b P Z j r k)))
 (λc _ _ a b P Z j r k f h=>Af (ev c f) (a P Z j r k f h) (b P Z j r k f h)) (λid _ a P Z j r k=>a P Z (E4 id k j) r k)
 (λ_ _ _ _ _ _ _ _ _=>.bad 404) (λ_ _ _ _ _ _ _ _ _ _ _ _ _=>.bad 404) (λid _ _ j _ _=>j id) (λ_ a=>a)
 (λ_ _ _ _ _ k=>k) (λ_ _ _ _ _ _ _ _=>.bad 193) (λ_ _ _ r _=>r) (λ_ _ _ _ _ _ _ _=>.bad 194) c
def A7x(P:Program)(Z:Ac)(g:FuncId)(args:uw)(h:H):OR:=Option.rec (.bad 405) (λi=>Bool.rec (.bad 407) (xcE (Xs P Z i.rs) i.body P Z (λ_ _ _=>.bad 406) (Bz P Z i.rs) (Bz P Z i.rs) (Eu args 0 Az) h) (Nat.ble (Q4 args) i.nt)) (Ln P g)
def xc1(c:Code):XT:=Code.rec (λ_ _ _ _ _ _ _ _ _=>.bad 212) (λ_ ops e P Z _ _ _ _ k f h=>Bool.rec (A54 P Z ops (ops.toList.drop 1) k f h) (.bad 212) e) (λ_ d a _ P Z N q j r k=>a P Z N q j r (Lk (xc d P Z N q j r k)))
 (λ_ _ _ _ _ _ _ _ _ _ _ _ _ _=>.bad 212) (λid _ a P Z N q j r k=>a P Z N q (E4 id k j) r k)
 (λ_ _ _ _ _ _ _ _ _ _ _=>.bad 212) (λ_ _ _ _ _ _ _ _ _ _ _ _ _ _ _=>.bad 212) (λ_ _ _ _ _ _ _ _ _ _=>.bad 212) (λ_ a=>a)
 (λ_ _ _ _ _ _ _ _ _ _=>.bad 212) (λ_ _ _ _ _ _ _ _ _ _=>.bad 212) (λ_ _ _ _ _ _ _ _ _=>.bad 212) (λ_ _ _ _ _ _ _ _ _ _=>.bad 212) c
def A7u(P:Program)(Z:Ac)(N:Nat)(q:Bool)(g:FuncId)(args:uw)(v:AV)(h:H):OR:=Option.rec (.bad 216) (λi=>Option.rec (.bad 215)
 (λd=>Bool.rec (.bad 214) (xc1 i.body P Z N q (λ_ _ _=>.bad 213) (Bz P Z i.rs) (Bz P Z i.rs) (Im d v (Eu args 0 Az)) h) (Nat.ble (Q4 args) i.nt)) (AaT i.body)) (Ln P g)
def AsO(d:KT)(j:Nat->KT)(r k:KT)(v:AV)(h':H):RC->Prop
|.bad _=>False
|.Bt f h=>k f h=.ok v h'
|.ext i f h=>(i≠Em/\j i f h=.ok v h')\/(i=Em/\d f h=.ok v h')
|.ret f h=>r f h=.ok v h'
def BfQ{e k:AV->H->OR}(d:A5J e k o=.ok v h'):(∃u h1,o=.ok u h1/\k u h1=.ok v h')\/∃u h1,o=.Hb u h1/\e u h1=.ok v h':=by
 cases o with
 |bad n=>cases d
 |ok u h1=>exact .inl ⟨u,h1,rfl,d⟩
 |Hb u h1=>exact .inr ⟨u,h1,rfl,d⟩
def BbB(hc:AiU Z){e:KT}{ops:Array Oper}{j:Nat->KT}{r k:KT}:∀(l:List Oper) (f:L2) (h:H),AzX e P Z ops l k f h=.ok v h'->AsO e j r k v h' (G3 P Z ops l f h):=by
 intro l;induction l with
 |nil=>intro f h t;exact t
 |cons o l z=>
  intro f h t;have p:(Option.rec (Bool.rec (Apz (λv h'=>AzX e P Z ops l k (Im o.dst v f) h') (Acv (guardOf ops o) o P Z f h)) (A5J (λv h'=>e (f.set Jv v) h') (λv h'=>AzX e P Z ops l k (Im o.dst v f) h') (Acv (guardOf ops o) o P Z f h)) (AcX o.op)) (λ_=>BrW (AzX e P Z ops l k) (Fp ops o P Z f h)) (Ie o.op):OR)=.ok v h':=t;show AsO e j r k v h' (andThen (G3 P Z ops l) (Fp ops o P Z f h));cases hd:Ie o.op with
  |none=>
   rw[hd]at p;have d:(Bool.rec (Apz (λv h'=>AzX e P Z ops l k (Im o.dst v f) h') (Acv (guardOf ops o) o P Z f h)) (A5J (λv h'=>e (f.set Jv v) h') (λv h'=>AzX e P Z ops l k (Im o.dst v f) h') (Acv (guardOf ops o) o P Z f h)) (AcX o.op):OR)=.ok v h':=p;cases A:AcX o.op with
   |false=>
    rw[A]at d;obtain⟨u,h1,h2,g⟩:=Qu (show Aa _ _=_ from d)
    rw[Sy h2];exact z _ _ g
   |true=>
    rw[A]at d;rcases BfQ (show A5J _ _ _=_ from d)with⟨u,h1,h2,g⟩|⟨u,h1,h2,g⟩
    .rw[Sy h2];exact z _ _ g
    .rw[AvZ hc hd h2];exact .inr ⟨rfl,g⟩
  |some c=>
   rw[hd]at p;have d:BrW (AzX e P Z ops l k) (Fp ops o P Z f h)=.ok v h':=p;cases q:Fp ops o P Z f h with
   |Bt f1 h1=>rw[q]at d;exact z _ _ d
   |bad n=>rw[q]at d;cases d
   |ext i f1 h1=>rw[q]at d;cases d
   |ret f1 h1=>rw[q]at d;cases d
def BgG(hc:AiU Z){o:KT}{G nt:Nat}(c:Code):codeOk G nt c=true->∀(j:Nat->KT) (r k:KT) (f:L2) (h:H),xcE o c P Z j r k f h=.ok v h'->AsO o j r k v h' (exec c P Z f h):=by
 induction c with
 |skip=>intro _ j r k f h d;exact d
 |region id ops J=>
  intro _ j r k f h d;have t:BbC o ops J P Z k f h=.ok v h':=d;cases J with
  |false=>exact BbB hc _ _ _ t
  |true=>
   have F:(Bool.rec (.bad 185) (As4 false ops P Z k f h) (AnB ops):OR)=.ok v h':=t;show AsO o j r k v h' (Gk P Z ops f h);cases hn:AnB ops with
   |false=>rw[hn]at F;cases F
   |true=>rw[hn]at F;have I:xDr P Z ops h.lg (Aqi ops) (A7R ops) (Ahn ops ops.toList 0) [] k f h=.ok v h':=F;rw[Aoz]at I;obtain⟨M,h2,q,e⟩:=Aow (M7 ops.toList 0 []) [] f h I;rw[AmS hn q];exact e
 |seq a b A z=>
  intro u j r k f h d;obtain⟨B,q⟩:codeOk G nt a=true/\codeOk G nt b=true:=by
   have e:(Bool.rec false (codeOk G nt b) (codeOk G nt a):Bool)=true:=u;cases C:codeOk G nt a with
   |false=>rw[C]at e;cases e
   |true=>rw[C]at e;exact⟨rfl,e⟩
  have h1:=A B j r (xcE o b P Z j r k) f h d;show AsO o j r k v h' (andThen (exec b P Z) (exec a P Z f h));cases g:exec a P Z f h with
  |bad n=>rw[g]at h1;exact h1.elim
  |Bt f1 h2=>rw[g]at h1;exact z q j r k f1 h2 h1
  |ext i f1 h2=>rw[g]at h1;exact h1
  |ret f1 h2=>rw[g]at h1;exact h1
 |cond x a b A z=>
  intro u j r k f h d;obtain⟨B,q⟩:codeOk G nt a=true/\codeOk G nt b=true:=by
   have e:(Bool.rec false (Bool.rec false (codeOk G nt b) (codeOk G nt a)) (Es G x):Bool)=true:=u;cases g:Es G x with
   |false=>rw[g]at e;cases e
   |true=>
    rw[g]at e;cases C:codeOk G nt a with
    |false=>simp only[C]at e;cases e
    |true=>simp only[C]at e;exact⟨rfl,e⟩
  have t:Af (ev x f) (xcE o a P Z j r k f h) (xcE o b P Z j r k f h)=.ok v h':=d;show AsO o j r k v h' (Al2 (ev x f) (exec a) (exec b) P Z f h);cases g:ev x f with
  |bool c=>
   rw[g]at t;cases c with
   |false=>exact z q j r k f h t
   |true=>exact A B j r k f h t
  |_=>rw[g]at t;cases t
 |block id a A=>
  intro u j r k f h d;have E:(Bool.rec (codeOk G nt a) false (Nat.beq id Em):Bool)=true:=u;obtain⟨L,B⟩:Nat.beq id Em=false/\codeOk G nt a=true:=by
   cases p:Nat.beq id Em with
   |true=>rw[p]at E;cases E
   |false=>rw[p]at E;exact⟨rfl,E⟩
  have h1:=A B (E4 id k j) r k f h d;show AsO o j r k v h' (inBlock id (exec a P Z f h));cases g:exec a P Z f h with
  |bad n=>rw[g]at h1;exact h1.elim
  |Bt f1 h2=>rw[g]at h1;exact h1
  |ext i f1 h2=>
   rw[g]at h1;show AsO o j r k v h' (Bool.rec (RC.ext i f1 h2) (RC.Bt f1 h2) (Nat.beq i id));rcases h1 with⟨q,e⟩|⟨rfl,q⟩
   .have D:(Bool.rec (j i f1 h2) (k f1 h2) (Nat.beq i id):OR)=.ok v h':=e;cases p:Nat.beq i id with
    |false=>rw[p]at D;exact .inl ⟨q,D⟩
    |true=>rw[p]at D;exact D
   .have p:Nat.beq Em id=false:=by
     cases p:Nat.beq Em id with
     |false=>rfl
     |true=>have:=ao p;subst this;exact absurd L fe
    rw[p];exact .inr ⟨rfl,q⟩
  |ret f1 h2=>rw[g]at h1;exact h1
 |exit id=>intro u j r k f h d;have h1:Ib (Nat.beq id Em)=true:=u;refine .inl ⟨?_,d⟩;intro K;subst K;exact absurd h1 fe
 |ret=>intro _ j r k f h d;exact d
 |scope a A=>exact A
 |label l=>intro _ j r k f h d;exact d
 |_=>intro _ j r k f h d;cases d
def A7y(hc:AiU Z)(u:Mv P=true){args:uw}(e:A7x P Z j args h=.ok v h'):Fy P Z j args h=.ok v h':=by
 unfold A7x at e;unfold Fy;cases hi:Ln P j with
 |none=>rw[hi]at e;cases e
 |some i=>
  rw[hi]at e;obtain⟨fn,d,z,A⟩:∃fn,P.funcs[j]?=some fn/\fn.body=some i.body/\i=⟨i.body,fn.ntmps,fn.results.toList⟩:=by
   unfold Ln at hi;split at hi
   .rename_i fn d;split at hi
    .rename_i c g;cases hi;exact⟨fn,d,g,rfl⟩
    .cases hi
   .cases hi
  obtain⟨B,_,q⟩:=Aag u d z;have o:(Bool.rec (.bad 407) (xcE (Xs P Z i.rs) i.body P Z (λ_ _ _=>.bad 406) (Bz P Z i.rs) (Bz P Z i.rs) (Eu args 0 Az) h) (Nat.ble (Q4 args) i.nt):OR)=.ok v h':=e;show AbW P Z j args h i=.ok v h';unfold AbW;cases g:Nat.ble (Q4 args) i.nt with
  |false=>rw[g]at o;cases o
  |true=>
   rw[g]at o;have h1:=BgG hc i.body q _ _ _ _ _ o;show Agk j (Aby P Z i.rs (exec i.body P Z (Eu args 0 Az) h))=.ok v h';cases p:exec i.body P Z (Eu args 0 Az) h with
   |bad n=>rw[p]at h1;exact h1.elim
   |Bt f1 h2=>rw[p]at h1;show Agk j (finish P Z i.rs f1 h2)=_;rw[Aa7 h1];rfl
   |ret f1 h2=>rw[p]at h1;show Agk j (finish P Z i.rs f1 h2)=_;rw[Aa7 h1];rfl
   |ext id f1 h2=>
    rw[p]at h1;rcases h1 with⟨_,t⟩|⟨rfl,t⟩
    .cases t
    .show Agk j (Bool.rec (.bad 199) (Xs P Z i.rs f1 h2) (Nat.beq Em Em))=_;rw[show Nat.beq Em Em=true from rfl]
     show Agk j (Xs P Z i.rs f1 h2)=_;rw[t];rfl
def BgF{N:Nat}{q:Bool}(u:N<=1048576)(c:Code):∀(j:Nat->KT) (r k:KT) (f:L2) (h:H),xc1 c P Z N q j r k f h=.ok v h'->Mc j r k v h' (Xn c P Z f h):=by
 induction c with
 |region id ops t=>
  intro j r k f h e;cases t with
  |false=>exact AkM _ _ _ e
  |true=>cases e
 |seq a b g z=>
  intro j r k f h e;have h1:=g j r (xc b P Z N q j r k) f h e;show Mc j r k v h' (andThen (exec b P Z) (Xn a P Z f h));cases d:Xn a P Z f h with
  |bad n=>rw[d]at h1;exact h1.elim
  |Bt f1 h2=>rw[d]at h1;exact As6 u b j r k f1 h2 h1
  |ext i f1 h2=>rw[d]at h1;exact h1
  |ret f1 h2=>rw[d]at h1;exact h1
 |block id a g=>
  intro j r k f h e;have h1:=g (E4 id k j) r k f h e;show Mc j r k v h' (inBlock id (Xn a P Z f h));cases d:Xn a P Z f h with
  |bad n=>rw[d]at h1;exact h1.elim
  |Bt f1 h2=>rw[d]at h1;exact h1
  |ext i f1 h2=>
   rw[d]at h1;have o:(Bool.rec (j i f1 h2) (k f1 h2) (Nat.beq i id):OR)=.ok v h':=h1;show Mc j r k v h' (Bool.rec (RC.ext i f1 h2) (RC.Bt f1 h2) (Nat.beq i id));cases p:Nat.beq i id with
   |false=>rw[p]at o;exact o
   |true=>rw[p]at o;exact o
  |ret f1 h2=>rw[d]at h1;exact h1
 |scope a g=>exact g
 |_=>intro j r k f h e;cases e
def A7v{N:Nat}{q:Bool}(t:N<=1048576){args:uw}{u:AV}(e:A7u P Z N q j args u h=.ok v h'):Aen P Z j args u h=.ok v h':=by
 unfold A7u at e;unfold Aen;cases hi:Ln P j with
 |none=>rw[hi]at e;cases e
 |some i=>
  rw[hi]at e;dsimp only;cases o:AaT i.body with
  |none=>simp only[o]at e;cases e
  |some d=>
   simp only[o]at e;dsimp only;cases p:Nat.ble (Q4 args) i.nt with
   |false=>rw[p]at e;cases e
   |true=>
    rw[p]at e;have h1:=BgF t i.body _ _ _ _ _ e;show RC.rec (motive:=λ_=>OR) OR.bad (finish P Z i.rs) (λ_ _ _=>.bad 213) (finish P Z i.rs) (Xn i.body P Z (Im d u (Eu args 0 Az)) h)=.ok v h';cases g:Xn i.body P Z (Im d u (Eu args 0 Az)) h with
    |bad n=>rw[g]at h1;exact h1.elim
    |Bt f1 h2=>rw[g]at h1;exact Aa7 h1
    |ret f1 h2=>rw[g]at h1;exact Aa7 h1
    |ext id f1 h2=>rw[g]at h1;cases h1
end
variable {P:Program}{Z:Ac}{gl:List GE}
def Ahj[Ii]{I}(hc:Bd P P.globals.size Z)(J:P8 P.globals.size gl=true)(A:∀o∈I.l,Nx P gl o):Bd P P.globals.size (ApJ gl I Z):=by
 refine⟨?_,λl args h h' v σ w An=>hc.round l _ h _ v _ w _,Aer hc.mono,?_,hc.Au7⟩;rotate_left;. intro g args h h' v σ w An F B q d t D C;have i:@Option.rec _ (λ_=>OR) _ ..=.Hb v _:=F;cases j:Hl _ g _ with
   |none=>rw[j]at i;exact hc.Hb g _ h _ v _ w _ i B q d t D C
   |some u=>rw[j]at i;rcases X8 i with⟨_,hq⟩|⟨_,hq⟩<;>cases hq
 intro g args h h' v σ w An kind F B q d t D C;have i:@Option.rec _ (λ_=>OR) _ ..=.ok v _:=F;cases j:Hl _ g _ with
 |none=>rw[j]at i;exact hc.call g _ h _ v _ w _ _ i B q d t D C
 |some u=>rw[j]at i;obtain⟨Vr,rfl,rfl⟩:=AfZ i;obtain⟨o,M,rfl,S,rfl⟩:=AcW j;obtain⟨v',w',a',fn,r1,V,p,L,O,K⟩:=A o M w _ _ (Akl d t J Vr) λσ'=>Yb (AfH 8) _ _ _ _ _ S q;refine⟨_,_,_,_,_,r1,V _,⟨_,J6.refl d.ai,⟨Qq.refl _,λx e h1 h2=>by grind,⟨d.so.inj,λx e z=>Xq (d.so.rng x e z) p.grow,d.so.low⟩,p.grow,λc E _=>p.same c E,
   λx e h1 h2=>by grind,p.io⟩,?_⟩,L,O,K⟩;intro x e z;exact Gr.congr (Qq.refl _) (p.same _ (d.so.rng x e z)) (λ_ _ _ _ _ U=>U) (d.ma x e z)
def AgZ(O:P.follows .mixedOrders=true)(D:Mv P=true)(hc:∀i,@Bd i P P.globals.size Z){g}(u:Bg P g=true){args}{An}{h}{σ}{w}{Q}
 (hr:Sx.Ah h Q (Fy P Z g args h)) (hlg:h.lg=[]) (hσ:∀b,h.nx<=b->σ b=none) (Ow:Bk σ args An.toList) (hms:∀i,h.nx<=@Bq i->@Ms i P.globals.size σ h w) (hg:Vm P.globals.size σ):
 Calls P g An w λe w'=>∃v v' q,e=.returned v'/\(∃h',Q v h')/\Au q v v'/\Kept w w':=by
 obtain⟨v,h',M,d,hq⟩:=hr;let i:Ii:=⟨h'.nx⟩;have p:h'.nx<=Bq:=Ye _;have K:=ApK (hc i) O D ⟨N9 (hc i).mono,Mj (hc i).mono⟩;have o:Fx _ h h':=λb h1 _=>hσ b h1;obtain⟨q,v',w',U,fn,B,S,C,E,q5,A⟩:=K.call g _ h _ v _ w _ _ M u Ow (hms i (Ol d.lo p)) hg p o;obtain⟨nw,I,s2,s3⟩:=C;have F:h'.lg=nw:=by rw[I.lg,hlg,F0]
 have z:Kept w w':=by
  refine⟨s2.grow,λc j=>s2.frame c j ?_,s2.io⟩;intro x V e t;rcases d.lg x (by simp_all)with L|L;. simp_all
  grind
 intro cs;obtain⟨k',J⟩:=A _ (.inl rfl);exact⟨_,_,_,⟨v,_,_,rfl,⟨_,hq⟩,S,z⟩,J,rfl,rfl,E,rfl,_,B,q5⟩
section
variable {H:Type}{enc:TypeId × Value->H}{W W':World}
def Kept.sameAt(e:Kept W W'){p}(d:p.block<W.heap.size):W.sameAt W' p:=by cases p with
|cell b off=>show W'.cell? _=W.cell? _;unfold World.cell?;simp[e.same b d]
|map b=>exact e.same b d
def AhK(g:Kept W W'){sp}:∀{ts} {i} {ds} {d},(∀p∈d,p.block<W.heap.size)->DataW.TrodAll enc P W 0 sp true ts i ds d->DataW.TrodAll enc P W' 0 sp true ts i ds d
|[],[],[],_,_,h=>h
|_::_,_::_,_::_,_,j,⟨p,q,⟨n,h1⟩,h2,e⟩=>⟨p,q,⟨n,DataW.trod_carry n _ _ _ h1 λx o=>g.sameAt (j x (by grind))⟩,AhK g (λx o=>j x (by simp_all)) h2,e⟩
def Amy(o:laidOutB P=true)(i:mapsRowed P=true)(q:((List.range P.types.size).all λt=>match P.underlying t with|some (.slice e)=>decide (0<P.cellsOf e)|_=>true)=true)(j:Kept W W')
 {ts:List TypeId} {vs} {ds} {ps} (ht:∀t∈ts,t<P.types.size) (h:DataW.TrodAll enc P W 0 (λ_=>true) true ts vs ds ps):
 DataW.TrodAll enc P W' 0 (λb=>decide (b<W.heap.size)) true ts vs ds ps:=by have d:=h.lt;exact AhK j d (DataW.TrodAll.respare (kids_rows o i) (slices_full_of P q) ht h λp g=>Ws (d p g))
end
variable {w:World}{b:Nat}{ty T:TypeId}
def Bbv(gl:List GE)(G b:Nat)(T ty:TypeId):H:=⟨(Rw gl).set b (cz [.I6 T .top] ty),G,[]⟩
def AxN(j:Nat):(Bbv gl P.globals.size b T ty).m.get j=if j=b then cz [.I6 T .top] ty else(Rw gl).get j:=KM.N5 ..
def Bx1[Ii](O:WOk P gl w)(hn:P.globals.size<=Bq)(E:P8 P.globals.size gl=true)(V:b<P.globals.size)(K:∀e∈gl,e.g≠b){v':Value}{lo hi:Nat}(hc:w.heap[b]?=some (.cells #[.iface T v'] ty (lo,hi)))(D:¬ (lo<=0/\0<hi)):
 Ms P.globals.size (Y0 P.globals.size w) (Bbv gl P.globals.size b T ty) w:=by
 obtain⟨⟨ai,so,ma⟩,_⟩:=AkL O hn E;have gb:(Rw gl).get b=.none:=by
  rcases Xx hn gl E b om with⟨e,h1,h2,_⟩|⟨_,h1⟩
  .exact absurd h2 (K e h1)
  .exact h1
 have Cf:∀{j:Nat} {o:AO},(Bbv gl P.globals.size b T ty).m.get j=o->(j=b/\o=cz [.I6 T .top] ty)\/(j≠b/\(Rw gl).get j=o):=λ{j o} h=>by
  rw[AxN]at h;by_cases hj:j=b
  .rw[Xo hj]at h;exact .inl ⟨hj,h.symm⟩
  .rw[X2 hj]at h;exact .inr ⟨hj,h⟩
 have new:∀{j:Nat},j≠b->(Bbv gl P.globals.size b T ty).m.get j=(Rw gl).get j:=λ{j} hj=>by rw[AxN,X2 hj]
 refine⟨⟨hn,?_,?_,?_,?_,?_⟩,so,?_⟩
 .intro j h1 h2;have W2:P.globals.size<=j:=h1;rw[new om];exact ai.Rm j h1 h2
 .intro j k h1 h2;rcases Cf (j:=j) rfl with⟨_,q⟩|⟨q,p⟩
  .rw[q]at h2;cases h2
  .rw[<- p]at h2;obtain⟨d,n,u⟩:=ai.N3 j k h1 h2;refine⟨d,n,?_⟩;rw[new]
   .exact u
   .rintro rfl;have B:(Rw gl).get k=.Fb n:=u;rw[gb]at B;cases B
 .intro j C k h1 h2 q p;rcases Cf (j:=j) rfl with⟨_,d⟩|⟨_,d⟩
  .rw[d]at q;cases q
  .rcases Cf (j:=C) rfl with⟨_,u⟩|⟨_,u⟩
   .rw[u]at p;cases p
   .rw[<- d]at q;rw[<- u]at p;exact ai.Gt j C k h1 h2 q p
 .intro j l t k st n h1 h2 q;rcases Cf h2 with⟨_,p⟩|⟨_,p⟩
  .cases p
  .rcases Cf q with⟨_,d⟩|⟨_,d⟩
   .cases d
   .exact ai.Tx j l t k st n h1 p d
 .intro j C l t k st U J h1 h2 q p;rcases Cf q with⟨_,d⟩|⟨_,d⟩
  .cases d
  .rcases Cf p with⟨_,u⟩|⟨_,u⟩
   .cases u
   .exact ai.len j C l t k st U J h1 h2 d u
 .intro j e h1;rcases Cf (j:=j) rfl with⟨q,p⟩|⟨q,p⟩
  .rw[p];obtain⟨q1,I,M,z⟩:=Gm h1;rw[q]at I z;rw[hc]at z;refine⟨M,λ_=>⟨_,lo,hi,by rw[I];exact hc,z.symm,by rw[z];exact Ye _,λi x y F S=>?_,λ_=>by rw[z];rfl,λ_ i A=>?_⟩⟩
   .cases i with
    |zero=>
     cases F;cases(show some (Value.iface T v')=some y from S)
     exact .I6 _ _ _ (.top _)
    |succ i=>cases F
   .rw[z]at A;have:i=0:=by have:i<1:=A;omega
    subst this;exact D
  .rw[<- p];exact Gr.congr (Qq.refl _) rfl (λl t k st ho L=>by
    rcases Cf L with⟨_,d⟩|⟨_,d⟩
    .cases d
    .exact d) (ma j e h1)
def BgB(A:P8 P.globals.size gl=true)(z:∀e∈gl,e.g≠b)(o:Hj gl (glH gl P.globals.size)=true):Hj gl (Bbv gl P.globals.size b T ty)=true:=by
 have d:∀(l:List GE),(∀e∈l,e.g≠b)->Hj l (glH gl P.globals.size)=true->Hj l (Bbv gl P.globals.size b T ty)=true:=by
  intro l;induction l with
  |nil=>intro _ _;rfl
  |cons e l q=>
   intro h1 h2;have p:=AjB h2 e (Wm ..);unfold Hj at h2 ⊢;rw[AxN,X2 (h1 e (Wm ..))];have j:(Rw gl).get e.g=cz e.l e.t:=p;rw[p]at h2;rw[j];dsimp only at h2 ⊢;rcases bf (Sh e.l e.l)with i|i
   .rw[i]at h2 ⊢;rcases bf (Nat.beq e.t e.t)with a2|a2
    .rw[a2]at h2 ⊢;exact q (λe u=>h1 e (Vo _ u)) h2
    .rw[a2]at h2;cases h2
   .rw[i]at h2;cases h2
 exact d gl z o
end Go.Ev
