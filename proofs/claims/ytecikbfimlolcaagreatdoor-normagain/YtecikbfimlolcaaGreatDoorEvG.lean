/- What a caller's memory reads as, behind a call that keeps it. -/
import Derived.Test.YtecikbfimlolcaaGreatDoorEvF
import Derived.Deep.Slices
import Derived.ReadAgain
import Derived.ChangeOld
set_option linter.all false
noncomputable section
namespace Go.Ev
variable {j:Nat}{o:Bool}
noncomputable section
abbrev KT:=L2->H->OR
def Apz(k:AV->H->OR)(r:OR):OR:=OR.rec (motive:=λ_=>OR) OR.bad k (let _:Nat:=400;r)
def Aa(r:OR)(k:AV->H->OR):OR:=Apz k r
def A2M(x:VB)(a b:OR):OR:=VB.rec (motive:=λ_=>OR) (.bad 401) (λc=>@Bool.rec (λ_=>OR) b a c) x
def Af(x:AV)(a b:OR):OR:=A2M (vB x) a b
def opX(o:Oper):Program->Ac->L2->H->OR:=@Option.rec _ (λ_=>Program->Ac->L2->H->OR) (λP Z f h=>opD o.op o.type P Z f h) (λ_ _ _ _ _=>.bad 402) (Ie o.op)
def Ad(x:AV)(w:Bool)(r:OR)(h:H):OR:=WT.rec (motive:=λ_=>OR) r (.ok (.Bj []) h) (.bad 182) (Adq x w)
def Acv(g:GS)(o:Oper)(P:Program)(Z:Ac)(f:L2)(h:H):OR:=GS.rec (motive:=λ_=>OR) (opX o P Z f h) (λt w=>Ad (f.get t) w (opX o P Z f h) h) (.bad 182) g
def BrW(k:KT)(r:RC):OR:=RC.rec (motive:=λ_=>OR) OR.bad k (λ_ _ _=>.bad 410) (λ_ _=>.bad 410) r
def A54(P:Program)(Z:Ac)(ops:Array Oper)(l:List Oper):KT->KT:=
 @List.rec _ (λ_=>KT->KT) (λk=>k) (λo _ d k f h=>@Option.rec _ (λ_=>OR) (Apz (λv h'=>d k (Im o.dst v f) h') (Acv (guardOf ops o) o P Z f h)) (λ_=>BrW (d k) (Fp ops o P Z f h)) (Ie o.op)) l
def Ff(lg:List Nat)(d:List EF)(h:H)(k:H->OR):OR:=@Bool.rec (λ_=>OR) (.bad 183) (k (Be (En d lg) h)) (Lh d)
def ApP(ops:Array Oper)(i:Nat):Nat:=match (M7 ops.toList 0 [])[i]? with|some o=>o.pr|none=>0
def Ahn(ops:Array Oper):List Oper->Nat->List DO:=λl=>@List.rec _ (λ_=>Nat->List DO) (λ_=>[]) (λo _ d i=>⟨o,Ka i,ApP ops i⟩::d (Nat.succ i)) l
def xDr(P:Program)(Z:Ac)(ops:Array Oper)(lg:List Nat)(l:List DO):List EF->KT->KT:=
 @List.rec _ (λ_=>List EF->KT->KT) (λd k f h=>Ff lg d h (λh'=>k f h'))
  (λo _ e d k f h=>Apz (λv h'=>e (⟨o.bit,o.pr,wrote h.nx h'.lg,Gi P o.o.op f,h,h'⟩::d) k (Im o.o.dst v f) h') (Acv (guardOf ops o.o) o.o P Z f (Ab h))) l
def Ap0(h:H)(k:AV->H->OR)(r:OR):OR:=OR.rec (motive:=λ_=>OR) OR.bad (λv h'=>@Bool.rec (λ_=>OR) (.bad 409) (k v h') (Q6 (wrote h.nx h'.lg))) r
def Al(h:H)(r:OR)(k:AV->H->OR):OR:=Ap0 h k r
def xQu(P:Program)(Z:Ac)(ops:Array Oper)(lg:List Nat)(l:List Oper):KT->KT:=
 @List.rec _ (λ_=>KT->KT) (λk f h=>k f (Be lg h))
  (λo _ d k f h=>Ap0 h (λv h'=>d k (Im o.dst v f) h') (Acv (guardOf ops o) o P Z f (Ab h))) l
def As4(q:Bool)(ops:Array Oper)(P:Program)(Z:Ac)(k:KT):KT:=λf h=>@Bool.rec (λ_=>OR) (xDr P Z ops h.lg (Ahn ops ops.toList 0) [] k f h) (xQu P Z ops h.lg ops.toList k f h) q
def Amp(q:Bool)(ops:Array Oper)(d:Bool)(P:Program)(Z:Ac)(k:KT):KT:=
 @Bool.rec (λ_=>KT) (A54 P Z ops ops.toList k) (λf h=>@Bool.rec (λ_=>OR) (.bad 185) (As4 q ops P Z k f h) (AnB ops)) d
def E4(id:Nat)(k:KT)(j:Nat->KT):Nat->KT:=λi f h=>@Bool.rec (λ_=>OR) (j i f h) (k f h) (Nat.beq i id)
def F2(b:KT->KT)(n:Nat):KT:=@Nat.rec (λ_=>KT) (λ_ _=>.bad 404) (λ_ d=>b d) n
def Big(d:Option Code)(n r:H->OR)(j:Nat->H->OR)(h:H):OR:=
 match d with
 |none=>n h
 |some .ret=>r h
 |some (.exit id)=>j id h
 |_=>.bad 188
def BdI(d:Option Code)(j:Nat->KT)(r k:KT)(f:L2)(h:H):OR:=Big d (k f) (r f) (λi=>j i f) h
def AyT(l:Nat)(e:Option Code->H->OR)(h:H):OR:=
 match h.m.get l with
 |.loop st g fr i d bd=>@Bool.rec (λ_=>OR) (e g (h.put l (.loop 3 g fr i d bd))) (.bad 189) (Nat.beq st 1)
 |_=>.bad 190
def rgX(P:Program)(Z:Ac)(x:AV)(e:List Nat)(d bd:Code)(fr:L2)(E:Option Code->H->OR)(h:H):OR:=
 match vF x with
 |.yes (.func g) a cap=>@Bool.rec (λ_=>OR) (.bad 191) (Aa (Z.call g (J0 (J0 a [.fn (.yield (h.new (.dfr false)).nx) [] []]) cap) ((h.new (.dfr false)).new (.loop 0 none fr e d bd))) (λ_ h1=>AyT (h.new (.dfr false)).nx E h1)) (Bg P g)
 |_=>.bad 192
def BbT(x:Operand)(e:Array Tmp)(d body:Code)(P:Program)(Z:Ac)(j:Nat->KT)(r k:KT):KT:=λf h=>
 match vT (f.get Br)with
 |.yes ds=>rgX P Z (ev x f) e.toList d body f (λp h1=>BdI p j r k (f.set Br (.Bj (.map h.nx::ds))) h1) h
 |.no=>.bad 192
abbrev XT:=Program->Ac->Nat->Bool->(Nat->KT)->KT->KT->KT
def A7f(k:KT):KT:=k
def A7g(k:KT):KT:=A7f k
def A7h(k:KT):KT:=A7g k
def A7i(k:KT):KT:=A7h k
def Lk(k:KT):KT:=A7i k
def xc(c:Code):XT:=Code.rec (motive:=λ_=>XT) (λ_ _ _ _ _ _ k=>k) (λ_ ops e P Z _ q _ _ k=>Amp q ops e P Z k) (λ_ _ a b P Z N q j r k=>a P Z N q j r (Lk (b P Z N q j r k)))
 (λc _ _ a b P Z N q j r k f h=>Af (ev c f) (a P Z N q j r k f h) (b P Z N q j r k f h)) (λid _ a P Z N q j r k=>a P Z N q (E4 id k j) r k)
 (λ_ a P Z N q j r _=>F2 (λk=>a P Z N q j r k) N) (λx g d bd _ _ P Z _ _ j r k=>BbT x g d bd P Z j r k) (λid _ _ _ _ j _ _=>j id) (λ_ a=>a)
 (λ_ _ _ _ _ _ _ k=>k) (λ_ _ _ _ _ _ _ _ _ _=>.bad 193) (λ_ _ _ _ _ r _=>r) (λ_ _ _ _ _ _ _ _ _ _=>.bad 194) c
def dfE(r:Nat)(k:H->OR)(h:H):OR:=match h.m.get r with|.dfr false=>k (h.put r (.dfr true))|_=>.bad 194
def A9b(P:Program)(Z:Ac)(k:H->OR)(ds:List AV):H->OR:=@List.rec _ (λ_=>H->OR) k
 (λd _ e h=>match vF d with
  |.yes (.func g) a cap=>@Bool.rec (λ_=>OR) (.bad 195) (Aa (Z.call g (J0 a cap) h) (λ_ h1=>e h1)) (Bg P g)
  |.no=>(match vM d with
   |.yes r=>dfE r e h
   |_=>.bad 196)
  |_=>.bad 196) ds
def A3b(P:Program)(Z:Ac)(rs:List ResultVar)(x:VA)(f:L2)(h:H):OR:=VA.rec (motive:=λ_=>OR) (.bad 198) (λds=>A9b P Z (λh=>Gg P rs f h) ds h) x
def Bz(P:Program)(Z:Ac)(rs:List ResultVar):KT:=λf h=>A3b P Z rs (vT (f.get Br)) f h
def Ajy(P:Program)(Z:Ac)(N:Nat)(q:Bool)(args:List AV)(h:H)(i:FI):OR:=
 @Bool.rec (λ_=>OR) (.bad 407) (xc i.body P Z N q (λ_ _ _=>.bad 406) (Bz P Z i.rs) (Bz P Z i.rs) (Eu args 0 Az) h) (Nat.ble (Q4 args) i.nt)
def Ay(P:Program)(Z:Ac)(N:Nat)(q:Bool)(g:FuncId)(args:List AV)(h:H):OR:=@Option.rec _ (λ_=>OR) (.bad 405) (Ajy P Z N q args h) (Ln P g)
variable {P:Program}{Z:Ac}{h h':H}{v:AV}{f f':L2}
def Qu{r:OR}{k:AV->H->OR}(d:Aa r k=.ok v h'):∃u h1,r=.ok u h1/\k u h1=.ok v h':=by
 cases r with
 |bad n=>cases d
 |ok u h1=>exact⟨u,h1,rfl,d⟩
def Mc(j:Nat->KT)(r k:KT)(v:AV)(h':H):RC->Prop
|.bad _=>False
|.Bt f h=>k f h=.ok v h'
|.ext i f h=>j i f h=.ok v h'
|.ret f h=>r f h=.ok v h'
def Sy{ops:Array Oper}{o:Oper}{u:AV}{h1:H}(d:Acv (guardOf ops o) o P Z f h=.ok u h1):Fp ops o P Z f h=.Bt (Im o.dst u f) h1:=by
 have De:∀{u:AV} {h1:H},opX o P Z f h=.ok u h1->Ame o P Z f h=.Bt (Im o.dst u f) h1:=by
  intro u h1 d;unfold opX at d;show op1 o o.dst o.type P Z f h=_;unfold op1;cases hd:Ie o.op with
  |some c=>rw[hd]at d;cases d
  |none=>rw[hd]at d;have e:opD o.op o.type P Z f h=.ok u h1:=d;show Akx o.dst f (opD o.op o.type P Z f h)=_;rw[e];rfl
 show AjD (guardOf ops o) o P Z f h=_;unfold Acv at d;cases g:guardOf ops o with
 |bad=>rw[g]at d;cases d
 |always=>rw[g]at d;exact De d
 |on t w=>
  rw[g]at d;have e:Ad (f.get t) w (opX o P Z f h) h=.ok u h1:=d;show Amo (Adq (f.get t) w) o P Z f h=_;unfold Ad at e;cases i:Adq (f.get t) w with
  |yes=>rw[i]at e;exact De e
  |no=>rw[i]at e;cases e;rfl
  |bad=>rw[i]at e;cases e
def AkM{ops:Array Oper}{j:Nat->KT}{r k:KT}:∀(l:List Oper) (f:L2) (h:H),A54 P Z ops l k f h=.ok v h'->Mc j r k v h' (G3 P Z ops l f h):=by
 intro l;induction l with
 |nil=>intro f h p;exact p
 |cons o l q=>
  intro f h p;have e:(@Option.rec _ (λ_=>OR) (Apz (λv h'=>A54 P Z ops l k (Im o.dst v f) h') (Acv (guardOf ops o) o P Z f h)) (λ_=>BrW (A54 P Z ops l k) (Fp ops o P Z f h)) (Ie o.op):OR)=.ok v h':=p;show Mc j r k v h' (andThen (G3 P Z ops l) (Fp ops o P Z f h));cases hd:Ie o.op with
  |none=>
   rw[hd]at e;obtain⟨u,h1,h2,t⟩:=Qu (show Aa _ _=_ from e)
   rw[Sy h2];exact q _ _ t
  |some c=>
   rw[hd]at e;have d:BrW (A54 P Z ops l k) (Fp ops o P Z f h)=.ok v h':=e;cases g:Fp ops o P Z f h with
   |Bt f1 h1=>rw[g]at d;exact q _ _ d
   |bad n=>rw[g]at d;cases d
   |ext i f1 h1=>rw[g]at d;cases d
   |ret f1 h1=>rw[g]at d;cases d
def Ao0:∀l i e k d,(M7 l i e)[k]?=some d->(∃o,l[k]?=some o/\d.o=o)/\d.bit=Ka (i+k):=by intro l;induction l with
|nil=>intro i e k d hd;simp[M7]at hd
|cons o l j=>intro i e k d hd;cases k with
 |zero=>simp[M7]at hd;grind
 |succ k=>
  have g:=by simpa[M7]using hd
  grind
def Ags:∀l i d,(M7 l i d).length=l.length:=by intro l;induction l with
|nil=>intro i d;rfl
|cons o l e=>intro i d;show(M7 l ..).length+1=_;grind
def AkP ops:∀l (i k:Nat),(Ahn ops l i)[k]?=l[k]?.map λo=>⟨o,Ka (i+k),ApP ops (i+k)⟩:=by intro l;induction l with
|nil=>intro i k;rfl
|cons o l d=>intro i k;cases k with
 |zero=>rfl
 |succ k=>show(Ahn _ l _)[k]?=_;grind
def Aoz ops:Ahn ops ops.toList 0=M7 ops.toList 0 []:=by apply dg;intro k;rw[AkP];cases hd:(M7 _ 0 _)[k]? with
|none=>
 have h1:(M7 ops.toList 0 []).length<=k:=by grind
 rw[Ags]at h1;grind
|some d=>
 obtain⟨⟨o,h1,h2⟩,e⟩:=Ao0 _ _ _ _ _ hd;rw[h1];have g:ApP ops k=d.pr:=by unfold ApP;grind
 show some _=some d;rw[<- e,Rx,g,<- h2]
def Aow{ops:Array Oper}{lg:List Nat}{j:Nat->KT}{r k:KT}:∀(l:List DO) (d:List EF) (f:L2) (h:H),xDr P Z ops lg l d k f h=.ok v h'->Mc j r k v h' (Sp P Z ops lg l d f h):=by
 intro l;induction l with
 |nil=>
  intro d f h g;have e:Ff lg d h (λh'=>k f h')=.ok v h':=g;show Mc j r k v h' (Acf lg d f h);unfold Ff at e;unfold Acf;cases i:Lh d with
  |false=>rw[i]at e;cases e
  |true=>rw[i]at e;exact e
 |cons o l p=>
  intro d f h g;obtain⟨u,h1,h2,q⟩:=Qu (show Aa _ _=_ from g)
  show Mc j r k v h' (RC.rec (motive:=λ_=>RC) RC.bad (λf' h'=>Sp P Z ops lg l (⟨o.bit,o.pr,wrote h.nx h'.lg,Gi P o.o.op f,h,h'⟩::d) f' h') (λ_ _ _=>.bad 184) (λ_ _=>.bad 184) (Fp ops o.o P Z f (Ab h)));rw[Sy h2];exact p _ _ _ q
def Ao1{l}(hn:Q6 l=true):l=[]:=by cases l with|nil=>rfl|cons a l=>cases hn
def Aoy{ops:Array Oper}{lg:List Nat}{j:Nat->KT}{r k:KT}:∀(l:List DO) (d:List EF) (f:L2) (h:H),(∀e∈d,e.w=[])->xQu P Z ops lg (l.map (·.o)) k f h=.ok v h'->Mc j r k v h' (Sp P Z ops lg l d f h):=by
 intro l;induction l with
 |nil=>
  intro d f h hq g;show Mc j r k v h' (Acf lg d f h);have h1:∀(all:List EF) (l:List EF),(∀e∈l,e.w=[])->Iu all l=true:=by
   intro all l;induction l with
   |nil=>intro _;rfl
   |cons e l i=>intro p;show(@Bool.rec (λ_=>Bool) (@Bool.rec (λ_=>Bool) false (Iu all l) (E2 e all)) (Iu all l) (Q6 e.w):Bool)=true;rw[p e (by simp)];exact i λx z=>p x (by simp[z])
  have h2:∀(l:List EF),(∀e∈l,e.w=[])->En l lg=lg:=by
   intro l;induction l with
   |nil=>intro _;rfl
   |cons e l i=>intro p;show Akm e.w (En l lg)=lg;rw[p e (by simp),i λx z=>p x (by simp[z])];rfl
  unfold Acf Lh;rw[h1 d d hq,h2 d hq];exact g
 |cons o l i=>
  intro d f h hq g;obtain⟨u,h1,h2,q⟩:=Qu (show Aa _ (λv h'=>@Bool.rec (λ_=>OR) (.bad 409) (xQu P Z ops lg (l.map (·.o)) k (Im o.o.dst v f) h') (Q6 (wrote h.nx h'.lg)))=_ from g)
  show Mc j r k v h' (RC.rec (motive:=λ_=>RC) RC.bad (λf' h'=>Sp P Z ops lg l (⟨o.bit,o.pr,wrote h.nx h'.lg,Gi P o.o.op f,h,h'⟩::d) f' h') (λ_ _ _=>.bad 184) (λ_ _=>.bad 184) (Fp ops o.o P Z f (Ab h)));rw[Sy h2];cases t:Q6 (wrote h.nx h1.lg)with
  |false=>rw[t]at q;cases q
  |true=>
   rw[t]at q;refine i _ _ _ ?_ q;intro e g;rcases Tu.1 g with rfl|g
   .exact Ao1 t
   .exact hq e g
def Ava:∀l i d,(M7 l i d).map (·.o)=l:=by intro l;induction l with
|nil=>intro i d;rfl
|cons o l e=>intro i d;show o::(M7 l ..).map _=_;grind
def S8(b:L2->H->RC)(n:Nat):L2->H->RC:=@Nat.rec (λ_=>L2->H->RC) (λf h=>.Bt f h) (λ_ d f h=>andThen d (b f h)) n
def Adu a b r:andThen a (andThen b r)=andThen (λf h=>andThen a (b f h)) r:=by cases r<;>rfl
def AeC b m:∀n f h,S8 b (n+m) f h=andThen (S8 b m) (S8 b n f h):=by intro n;induction n with
|zero=>intro f h;rw[Rx];rfl
|succ n d=>intro f h;rw[Nat.succ_add];show andThen (S8 b _) _=andThen _ (andThen (S8 b n) _);rw[Adu];congr 1;grind
def Ake b:∀k f h,Yd b P Z k f h=S8 (b P Z) (2^k) f h:=by intro k;induction k with
|zero=>intro f h;show b P _ f h=andThen ..;cases b P _ f h<;>rfl
|succ k d=>intro f h;rw[er,Nat.mul_two,AeC];show andThen (Yd b P _ k) (Yd b P _ k f h)=_;rw[d f h];congr 1;grind
def A8a{ds f:L2}{l:Nat->KT}{r k:KT}{h1:H}{u:AV}(o:AyT j (λp h=>BdI p l r k f h) h1=.ok v h'):Mc l r k v h' (Mn f j (.ok u h1)):=by
 unfold AyT at o;show Mc l r k v h' (match h1.m.get j with
  |.loop st e fr i d bd=>(@Bool.rec (λ_=>RC) (Z4 e f (h1.put j (.loop 3 e fr i d bd))) (.bad 189) (Nat.beq st 1))
  |_=>.bad 190)
 cases t:h1.m.get j with
 |loop st e fr i d bd=>
  rw[t]at o;have g:(@Bool.rec (λ_=>OR) (BdI e l r k f (h1.put j (.loop 3 e fr i d bd))) (.bad 189) (Nat.beq st 1):OR)=.ok v h':=o;show Mc l r k v h' (@Bool.rec (λ_=>RC) (Z4 e f (h1.put j (.loop 3 e fr i d bd))) (.bad 189) (Nat.beq st 1));cases z:Nat.beq st 1 with
  |true=>rw[z]at g;cases g
  |false=>
   rw[z]at g;have q:BdI e l r k f (h1.put j (.loop 3 e fr i d bd))=.ok v h':=g;show Mc l r k v h' (Z4 e f (h1.put j (.loop 3 e fr i d bd)));cases e with
   |none=>exact q
   |some c=>
    cases c with
    |ret=>exact q
    |exit id=>exact q
    |_=>cases q
 |_=>rw[t]at o;cases o
def As6(U:j<=1048576)(c:Code):∀(N:Nat->KT) (r k:KT) (f:L2) (h:H),xc c P Z j o N r k f h=.ok v h'->Mc N r k v h' (exec c P Z f h):=by
 induction c with
 |skip=>intro N r k f h d;exact d
 |region id ops K=>
  intro N r k f h d;have q:Amp o ops K P Z k f h=.ok v h':=d;cases K with
  |false=>exact AkM _ _ _ q
  |true=>
   have D:(@Bool.rec (λ_=>OR) (.bad 185) (As4 o ops P Z k f h) (AnB ops):OR)=.ok v h':=q;show Mc N r k v h' (Gk P Z ops f h);unfold Gk;cases hn:AnB ops with
   |false=>rw[hn]at D;cases D
   |true=>
    rw[hn]at D;cases o with
    |false=>have C:xDr P Z ops h.lg (Ahn ops ops.toList 0) [] k f h=.ok v h':=D;rw[Aoz]at C;exact Aow _ _ _ _ C
    |true=>have C:xQu P Z ops h.lg ops.toList k f h=.ok v h':=D;rw[<- Ava ops.toList 0 []]at C;exact Aoy _ _ _ _ (λe d=>by cases d) C
 |seq a b t z=>
  intro N r k f h d;have h1:=t N r (xc b P Z j o N r k) f h d;show Mc N r k v h' (andThen (exec b P Z) (exec a P Z f h));cases p:exec a P Z f h with
  |bad n=>rw[p]at h1;exact h1.elim
  |Bt f1 h2=>rw[p]at h1;exact z N r k f1 h2 h1
  |ext i f1 h2=>rw[p]at h1;exact h1
  |ret f1 h2=>rw[p]at h1;exact h1
 |cond x a b t z=>
  intro N r k f h d;have q:Af (ev x f) (xc a P Z j o N r k f h) (xc b P Z j o N r k f h)=.ok v h':=d;show Mc N r k v h' (Al2 (ev x f) (exec a) (exec b) P Z f h);cases p:ev x f with
  |bool c=>
   rw[p]at q;cases c with
   |false=>exact z N r k f h q
   |true=>exact t N r k f h q
  |_=>rw[p]at q;cases q
 |block id a t=>
  intro N r k f h d;have h1:=t (E4 id k N) r k f h d;show Mc N r k v h' (inBlock id (exec a P Z f h));cases p:exec a P Z f h with
  |bad n=>rw[p]at h1;exact h1.elim
  |Bt f1 h2=>rw[p]at h1;exact h1
  |ext i f1 h2=>
   rw[p]at h1;have E:(@Bool.rec (λ_=>OR) (N i f1 h2) (k f1 h2) (Nat.beq i id):OR)=.ok v h':=h1;show Mc N r k v h' (@Bool.rec (λ_=>RC) (RC.ext i f1 h2) (RC.Bt f1 h2) (Nat.beq i id));cases A:Nat.beq i id with
   |false=>rw[A]at E;exact E
   |true=>rw[A]at E;exact E
  |ret f1 h2=>rw[p]at h1;exact h1
 |loop a t=>
  intro N r k f h d;have I:∀n f h,F2 (λk=>xc a P Z j o N r k) n f h=.ok v h'->Mc N r (λ_ _=>.bad 0) v h' (S8 (exec a P Z) n f h):=by
   intro n;induction n with
   |zero=>intro f h d;cases d
   |succ n L=>
    intro f h d;have h1:=t N r (F2 (λk=>xc a P Z j o N r k) n) f h d;show Mc N r (λ_ _=>.bad 0) v h' (andThen (S8 (exec a P Z) n) (exec a P Z f h));cases p:exec a P Z f h with
    |bad n=>rw[p]at h1;exact h1.elim
    |Bt f1 h2=>rw[p]at h1;exact L f1 h2 h1
    |ext i f1 h2=>rw[p]at h1;exact h1
    |ret f1 h2=>rw[p]at h1;exact h1
  have h1:=I j f h d;show Mc N r k v h' (andThen (λ_ _=>.bad 187) (Yd (exec a) P Z 20 f h));rw[Ake,show(2:Nat)^20=1048576 from rfl]
  rw[show 1048576=j+(1048576-j)by omega,AeC]
  cases p:S8 (exec a P Z) j f h with
  |bad n=>rw[p]at h1;exact h1.elim
  |Bt f1 h2=>rw[p]at h1;cases h1
  |ext i f1 h2=>rw[p]at h1;exact h1
  |ret f1 h2=>rw[p]at h1;exact h1
 |rangeFunc x F a b t z=>
  intro N r k f h d;have q:BbT x F a b P Z N r k f h=.ok v h':=d;show Mc N r k v h' (AbV x F a b (exec a) (exec b) P Z f h);unfold BbT rgX at q;unfold AbV;cases hd:vT (f.get Br)with
  |no=>rw[hd]at q;cases q
  |yes ds=>
   rw[hd]at q;cases J:vF (ev x f)with
   |no=>rw[J]at q;cases q
   |nil=>rw[J]at q;cases q
   |yes g l1 M=>
    rw[J]at q;cases g with
    |func g=>
     show Mc N r k v h' (Yu P Z g l1 M F.toList a b f (f.set Br (.Bj (.map h.nx::ds))) (h.new (.dfr false)));unfold Yu;cases A:Bg P g with
     |false=>simp only[A]at q;cases q
     |true=>simp only[A]at q;obtain⟨u,h1,h2,O⟩:=Qu q;show Mc N r k v h' (Mn _ _ _);rw[h2];exact A8a (ds:=f) O
    |_=>cases q
 |exit id=>intro N r k f h d;exact d
 |ret=>intro N r k f h d;exact d
 |scope a t=>exact t
 |_=>intro N r k f h d;first|exact d|cases d
def Bgi{k:H->OR}:∀(ds:List AV) (h:H),A9b P Z k ds h=.ok v h'->∃h1,D3 P Z ds h=.ok h1/\k h1=.ok v h':=by
 intro ds;induction ds with
 |nil=>intro h j;exact⟨h,rfl,j⟩
 |cons d ds t=>
  intro h j;have e:(match vF d with
   |.yes (.func g) a cap=>(@Bool.rec (λ_=>OR) (.bad 195) (Aa (Z.call g (J0 a cap) h) (λ_ h1=>A9b P Z k ds h1)) (Bg P g):OR)
   |.no=>(match vM d with
    |.yes r=>dfE r (A9b P Z k ds) h
    |_=>.bad 196)
   |_=>.bad 196)=.ok v h':=j
  unfold D3;cases q:vF d with
  |no=>
   rw[q]at e;cases o:vM d with
   |no=>rw[o]at e;cases e
   |nil=>rw[o]at e;cases e
   |yes r=>
    rw[o]at e;simp only[dfE]at e;cases p:h.m.get r with
    |dfr b=>
     rw[p]at e;cases b with
     |true=>cases e
     |false=>simp only[p];exact t _ e
    |_=>rw[p]at e;cases e
  |nil=>rw[q]at e;cases e
  |yes g a cap=>
   rw[q]at e;cases g with
   |func g=>
    have i:(@Bool.rec (λ_=>OR) (.bad 195) (Aa (Z.call g (J0 a cap) h) (λ_ h1=>A9b P Z k ds h1)) (Bg P g):OR)=.ok v h':=e;show ∃h1,(@Bool.rec (λ_=>RH) (.bad 195) ((match Z.call g (J0 a cap) h with|.ok _ h'=>D3 P Z ds h'|.bad n=>.bad n)) (Bg P g):RH)=.ok h1/\k h1=.ok v h';cases z:Bg P g with
    |false=>rw[z]at i;cases i
    |true=>
     rw[z]at i;obtain⟨u,h1,h2,A⟩:=Qu (show Aa _ _=_ from i)
     show ∃h1,(match Z.call g (J0 a cap) h with|.ok _ h'=>D3 P Z ds h'|.bad n=>.bad n)=.ok h1/\k h1=.ok v h';rw[h2];exact t h1 A
   |_=>cases e
def Aa7{rs:List ResultVar}(i:Bz P Z rs f h=.ok v h'):finish P Z rs f h=.ok v h':=by
 have d:A3b P Z rs (vT (f.get Br)) f h=.ok v h':=i;unfold finish;cases e:vT (f.get Br)with
 |no=>rw[e]at d;cases d
 |yes ds=>rw[e]at d;obtain⟨h1,h2,g⟩:=Bgi ds h d;show RH.rec (motive:=λ_=>OR) .bad (λh'=>Gg P rs f h') (D3 P Z ds h)=.ok v h';rw[h2];exact g
def Jn{N}{q}(p:N<=1048576){g}{args}(j:Ay P Z N q g args h=.ok v h'):Fy P Z g args h=.ok v h':=by unfold Ay at j;unfold Fy;cases hi:Ln P g with
|none=>simp_all
|some i=>rw[hi]at j;have e:Ajy P _ N q _ h i=.ok v _:=j;show AbW P _ g _ h i=.ok v _;unfold Ajy at e;unfold AbW;cases o:Nat.ble .. with
 |false=>simp_all
 |true=>rw[o]at e;have h1:=As6 p _ _ _ _ _ _ e;cases d:exec _ P _ _ h with
  |bad n=>rw[d]at h1;exact h1.elim
  |Bt f1 h2=>rw[d]at h1;show Agk g (finish P _ _ ..)=_;rw[Aa7 h1];rfl
  |ext i f1 h2=>rw[d]at h1;cases h1
  |ret f1 h2=>rw[d]at h1;show Agk g (finish P _ _ ..)=_;rw[Aa7 h1];rfl
def A1q(l:Nat):Nat->KT:=λid _ h=>endRound l (some (.exit id)) h
def BaI(l:Nat):KT:=λ_ h=>endRound l none h
def A1r(l:Nat):KT:=λ_ h=>endRound l (some .ret) h
def Aze(P:Program)(Z:Ac)(N:Nat)(q:Bool)(l:Nat)(args:List AV)(h:H):OR:=
 match h.m.get l with
 |.loop _ _ fr j g bd=>
  match Uz j args (fr.set Br (.map l))with
  |some f=>xc g P Z N q (A1q l) (A1r l) (λf h=>match h.m.get l with|.loop 0 o i d e bd2=>xc bd P Z N q (A1q l) (A1r l) (BaI l) f (h.put l (.loop 1 o i d e bd2))|_=>.bad 203) f h
  |none=>.bad 204
 |_=>.bad 205
def A7w{r:RC}(d:Mc (A1q j) (A1r j) (BaI j) v h' r):Agg j r=.ok v h':=by
 cases r with
 |bad n=>exact d.elim
 |Bt f h=>exact d
 |ext i f h=>exact d
 |ret f h=>exact d
def A1W(D:j<=1048576){l:Nat}{args:List AV}(d:Aze P Z j o l args h=.ok v h'):Io P Z l args h=.ok v h':=by
 unfold Aze at d;unfold Io;cases E:h.m.get l with
 |loop st F fr I p bd=>
  rw[E]at d;cases C:Uz I args (fr.set Br (.map l))with
  |none=>simp only[C]at d;cases d
  |some f=>
   simp only[C]at d;simp only[C];have h1:=As6 D p _ _ _ _ _ d;apply A7w;cases u:exec p P Z f h with
   |bad n=>rw[u]at h1;exact h1.elim
   |ext i f1 h2=>rw[u]at h1;exact h1
   |ret f1 h2=>rw[u]at h1;exact h1
   |Bt f1 h2=>
    rw[u]at h1;show Mc (A1q l) (A1r l) (BaI l) v h' (Age P Z l bd f1 h2);unfold Age;have t:(match h2.m.get l with|.loop 0 F q e g bd2=>xc bd P Z j o (A1q l) (A1r l) (BaI l) f1 (h2.put l (.loop 1 F q e g bd2))|_=>.bad 203)=.ok v h':=h1;cases N:h2.m.get l with
    |loop A z q e g bd2=>
     rw[N]at t;cases A with
     |zero=>
      have J:xc bd P Z j o (A1q l) (A1r l) (BaI l) f1 (h2.put l (.loop 1 z q e g bd2))=.ok v h':=by simpa only using t
      exact As6 D bd _ _ _ _ _ J
     |succ n=>cases t
    |_=>rw[N]at t;cases t
 |_=>rw[E]at d;cases d
end
end Go.Ev
namespace Go.Ev
noncomputable section
abbrev C6(x y:OR)(b:Bool):OR:=@Bool.rec (λ_=>OR) x y b
def Aj(P:Program)(op:BinOp)(t:TypeId)(c:Bool)(x y:AV)(h:H):OR:=Atc x x y op t c P h
def Qe(op:UnOp)(x:AV)(h:H):OR:=
 match op with
 |.not=>match vB x with|.yes b=>.ok (.bool (Ib b)) h|.no=>.bad 44
 |.neg=>match vI x with|.yes k n=>.ok (.int k (E1 k (Int.sub 0 n))) h|.no=>.bad 45
 |_=>.bad 46
def Fu(x:AV)(h:H):OR:=C6 (.bad 28) (.ok x h) (notNil x)
def Ae(i:Option (Option Nat))(a:AV)(h:H):OR:=ldV a i h
def A4(n:Nat)(a x:AV)(h:H):OR:=stV a (cellsOf x) (some n) h
def Oy(e:TypeId)(x:AV)(h:H):OR:=AdR (cellsOf x) e h
def Sr:List (Nat × Nat × AV)->List AV->Option (List AV)
|[],cs=>some cs
|p::rest,cs=>
 match (some (p.1,p.2.1):Option (Nat × Nat)),cellsOf p.2.2 with
 |some (off,size),some v=>match Ng cs v off with|some D7=>@Bool.rec (λ_=>Option (List AV)) none (Sr rest D7) (Nat.beq (Q4 v) size)|none=>none
 |_,_=>none
def B7(z:List AV)(l:List (Nat × Nat × AV))(h:H):OR:=Ly (Sr l z) h
def Bh(e:TypeId)(s n:Nat)(z:List AV)(l:List (Nat × Nat × AV))(h:H):OR:=
 match Sr l z with
 |some cs=>mk h (.cells cs e .exact) (.sl h.nx 0 n n s true)
 |none=>.bad 20
def Gc(s:Nat)(x i:AV)(h:H):OR:=@Option.rec _ (λ_=>OR) (.bad 92) (λn=>iaS x n s h) (Vg i)
def AxM(len s:Nat)(x i:AV)(h:H):OR:=@Option.rec _ (λ_=>OR) (.bad 92) (λn=>iaA x len n s h) (Vg i)
def xTA(z:AV)(d:TypeId)(ok:Bool)(x:AV)(h:H):OR:=
 match (some z:Option AV),vIf x with
 |some z,.nil=>C6 (.bad 103) (.ok (.Bj [z,.bool false]) h) ok
 |some z,.yes t v=>C6 (C6 (.bad 104) (.ok (.Bj [z,.bool false]) h) ok) (.ok (@Bool.rec (λ_=>AV) v (.Bj [v,.bool true]) ok) h) (Nat.beq t d)
 |_,_=>.bad 105
def A7a(i:SI)(s x:AV)(h:H):OR:=
 match Hd h i.s x with
 |some (n,new)=>match vL s with
  |.nil=>C6 (C6 (.bad 120) (C6 (.bad 120) (grow h i.e i.s new n) (Bm new)) (Gj (n*(i.bytes+1)))) (.ok .Bv h) (Nat.beq n 0)
  |.yes b off len cap d ex=>C6 (.bad 121) (C6 (.bad 121) (C6 (.bad 121) (Lg i b off len cap d ex n new h) (Nat.beq d i.s)) (Bm new)) (Gj ((len+n)*(i.bytes+1)))
  |.no=>.bad 122
 |none=>.bad 123
def Ds(e:TypeId)(s bytes:Nat)(x y:AV)(h:H):OR:=A7a ⟨e,s,bytes⟩ x y h
def fr(f:L2)(l:List (Nat × AV)):L2:=@List.rec _ (λ_=>L2->L2) (λf=>f) (λp _ d f=>d (f.set p.1 p.2)) l f
def A5e(x:Option AV)(n:Nat):Option Operand:=@Option.rec _ (λ_=>Option Operand) none (λ_=>some (.tmp n)) x
def avX(x:Option AV):AV:=@Option.rec _ (λ_=>AV) .top (λy=>y) x
def xSl(P:Program)(t:TypeId)(x:AV)(lo hi:Option AV)(h:H):OR:=Aac t (.tmp 0) (A5e lo 1) (A5e hi 2) none 0 P Q7 (fr Az [(0,x),(1,avX lo),(2,avX hi)]) h
def xIx(P:Program)(g:XI)(x i:AV)(h:H):OR:=
 match g,Vg i with
 |.str,some n=>ixS x n h
 |.arr len d,some n=>match vA x with
  |.yes cs=>C6 (.bad 95) (Py (Hc P d.e cs (n*d.s)) h) (Nat.blt n len)
  |.no=>.bad 96
 |_,_=>.bad 97
def BlW(i:Option (Option Nat))(o:Nat)(x:AV)(h:H):OR:=
 match vA x,(some (i,o):Option (Option (Option Nat) × Nat))with
 |.yes cs,some (i,o)=>Py (Tn i cs o) h
 |_,_=>.bad 86
def xLk(P:Program)(kt:TypeId)(z:AV)(ok:Bool)(m k:AV)(h:H):OR:=
 match (some ⟨kt,z⟩:Option MI),entries m h with
 |some d,some es=>match M1 (Gy P d.kt k) es with
  |some (some v)=>.ok (@Bool.rec (λ_=>AV) v (.Bj [v,.bool true]) ok) h
  |some none=>.ok (@Bool.rec (λ_=>AV) d.z (.Bj [d.z,.bool false]) ok) h
  |none=>.bad 98
 |_,_=>.bad 99
def As5(P:Program)(kt:TypeId)(z:AV)(m k x:AV)(h:H):OR:=
 match (some ⟨kt,z⟩:Option MI),vM m with
 |some d,.yes r=>
  (match h.m.get r with
  |.map es=>match Z7 (Gy P d.kt k) k x es with|some e=>.ok (.Bj []) (h.put r (.map e))|none=>.bad 100
  |_=>.bad 101)
 |_,_=>.bad 102
def kid(c:Code)(i:Nat):Code:=
 match c,i with
 |.seq a _,0=>a
 |.seq _ b,_=>b
 |.cond _ a _,0=>a
 |.cond _ _ b,_=>b
 |.block _ a,_=>a
 |.loop a,_=>a
 |.scope a,_=>a
 |.rangeFunc _ _ a _,0=>a
 |.rangeFunc _ _ _ b,_=>b
 |c,_=>c
def sub(c:Code)(l:List Nat):Code:=@List.rec _ (λ_=>Code->Code) (λc=>c) (λi _ d c=>d (kid c i)) l c
def Bc(P:Program)(g:FuncId):Code:=match Ln P g with|some i=>i.body|none=>.skip
def As(P:Program)(g:FuncId):List ResultVar:=match Ln P g with|some i=>i.rs|none=>[]
inductive RX where
|v (x:AV)
|c (i:Option (Option Nat)) (x:AV)
def AzF(h:H):List RX->Option (List AV)
|[]=>some []
|.v x::rs=>match AzF h rs with|some l=>some (x::l)|none=>none
|.c i x::rs=>match AyY i x h,AzF h rs with|some v,some l=>some (v::l)|_,_=>none
def Vk(rs:List RX)(h:H):OR:=match AzF h rs with|some l=>.ok (single l) h|none=>.bad 197
def mnm(P:Program)(t:TypeId)(i:Nat):String:=match P.info? t with|some x=>(match x.methods[i]? with|some m=>m.name|none=>Jk)|none=>Jk
abbrev AqV(_:AV):RS:=.none
def Bs6(x:AV)(h:H):OR:=
 match vL x with
 |.nil=>.ok (.str []) h
 |.yes b off len _ _ _=>match h.rd b with
  |some c=>match Nf c off len with
   |some cs=>match Yj cs with|some s=>.ok (.str s) h|none=>.bad 53
   |none=>.bad 54
  |none=>.bad 55
 |.no=>.bad 56
def BwI(e:TypeId)(x:AV)(h:H):OR:=
 match vS x with
 |.yes s=>(@Bool.rec (λ_=>OR) (.bad 51) (.ok (.sl (Nat.succ h.nx) 0 (Y2 s) (Y2 s) 1 false) ((h.new (.Fb 0)).new (.cells (U2 s) e (.Gt h.nx)))) (Gj (Y2 s)))
 |.no=>.bad 52
def BwJ(x:AV)(h:H):OR:=
 match vP x with
 |.nil=>.ok .Ob h
 |.yes b off=>(match h.rd b with|some c=>(@Bool.rec (λ_=>OR) (.bad 57) (.ok (.ptr b off) h) (Nat.blt off (Q4 c)))|none=>.bad 58)
 |.no=>.bad 59
def BwH(P:Program)(u:TypeId)(x:AV)(h:H):OR:=
 match vP x with
 |.nil=>.ok .Ob h
 |.yes b off=>(match h.m.get b with|.cells c e .exact=>(@Bool.rec (λ_=>OR) (.bad 60) (.ok (.ptr b off) h) (Awp P e (Q4 c) off u))|_=>.bad 61)
 |.no=>.bad 62
def A6r(k:IntKind)(x:AV)(h:H):OR:=match vI x with|.yes _ n=>.ok (.int k (E1 k n)) h|.no=>.bad 47
end
end Go.Ev
namespace Go.Ev.Sx
open Go.Ev
variable {j:TypeId}{o:Bool}
variable [Ii]
variable {P:Program}{Z:Ac}{h h0 h1:H}{v x y:AV}
@[simp] theorem N2(v:AV)(h:H)(k:AV->H->OR):Aa (.ok v h) k=k v h:=rfl
def Si(v:AV)(h0 h1:H)(k:AV->H->OR)(hq:wrote h0.nx h1.lg=[]):Al h0 (.ok v h1) k=k v h1:=by show(@Bool.rec (λ_=>OR) (.bad 409) (k v h1) (Q6 (wrote h0.nx h1.lg)):OR)=_;rw[hq];rfl
@[simp] theorem Hv v h0 h1 k:Al h0 (.ok v (Ab h1)) k=k v (Ab h1):=Si v _ _ k rfl
@[simp] theorem Ep(a b:OR):Af (.bool true) a b=a:=rfl
@[simp] theorem Dq(a b:OR):Af (.bool false) a b=b:=rfl
@[simp] theorem A5u(r:OR)(h:H):Ad (.bool true) true r h=r:=rfl
@[simp] theorem Kk(r:OR)(h:H):Ad (.bool false) false r h=r:=rfl
@[simp] theorem A5t(r:OR)(h:H):Ad (.bool true) false r h=.ok (.Bj []) h:=rfl
@[simp] theorem A5s(r:OR)(h:H):Ad (.bool false) true r h=.ok (.Bj []) h:=rfl
@[simp] theorem A0V(l:List AV)(w:Bool)(r:OR)(h:H):Ad (.Bj l) w r h=.ok (.Bj []) h:=rfl
@[simp] theorem A68(x y:AV)(h:H):Bo (.bool true) x y h=.ok x h:=rfl
@[simp] theorem A67(x y:AV)(h:H):Bo (.bool false) x y h=.ok y h:=rfl
@[simp] theorem Auu:(Ab h).m=h.m:=rfl
@[simp] theorem AcQ:(Ab h).nx=h.nx:=rfl
@[simp] theorem B9:(Ab h).lg=[]:=rfl
@[simp] theorem Te:Ab (Ab h)=Ab h:=rfl
@[simp] theorem A6A(lg:List Nat):(Be lg h).m=h.m:=rfl
@[simp] theorem Ait(lg:List Nat):(Be lg h).nx=h.nx:=rfl
@[simp] theorem Ca(lg:List Nat):(Be lg h).lg=lg:=rfl
@[simp] theorem Ais:Be h.lg (Ab h)=h:=rfl
@[simp] theorem Z9(o:AO):(h.new o).nx=h.nx+1:=rfl
@[simp] theorem Dn(o:AO):(h.new o).lg=h.lg:=rfl
@[simp] theorem ArH(b:Nat)(o:AO):(h.put b o).nx=h.nx:=rfl
@[simp] theorem Dp(b:Nat)(o:AO):(h.put b o).lg=b::h.lg:=rfl
def Ni o b(h1:h.nx<Bq)(h2:b<Bq):(h.new o).m.get b=if b=h.nx then o else h.m.get b:=KM.Dh _ _ _ _ h1 h2
def Ph c o b(h1:c<Bq)(h2:b<Bq):(h.put c o).m.get b=if b=c then o else h.m.get b:=KM.Dh _ _ _ _ h1 h2
def A6 o(h1:h.nx<Bq):(h.new o).m.get h.nx=o:=by rw[Ni o _ h1 h1,W5 rfl]
def H3 o b(h1:h.nx<Bq)(h2:b<Bq)(d:b≠h.nx):(h.new o).m.get b=h.m.get b:=by rw[Ni o _ h1 h2,X2 d]
def Dz c o(h1:c<Bq):(h.put c o).m.get c=o:=by rw[Ph c o _ h1 h1,W5 rfl]
def Db(c:Nat)(o:AO)(b:Nat)(h1:c<Bq)(h2:b<Bq)(d:b≠c):(h.put c o).m.get b=h.m.get b:=by rw[Ph c o _ h1 h2,X2 d]
omit [Ii]in
def AcO(o:AO)(b:Nat):(h.new o).m.get b=if b=h.nx then o else h.m.get b:=KM.N5 h.m h.nx b o
omit [Ii]in
def Air(c:Nat)(o:AO)(b:Nat):(h.put c o).m.get b=if b=c then o else h.m.get b:=KM.N5 h.m c b o
omit [Ii]in
@[simp] theorem Bf(o:AO):(h.new o).m.get h.nx=o:=by rw[AcO,W5 rfl]
omit [Ii]in
@[simp] theorem A2(c:Nat)(o:AO):(h.put c o).m.get c=o:=by rw[Air,W5 rfl]
omit [Ii]in
@[simp 900] theorem Cq(o:AO)(b:Nat)(h3:b≠h.nx):(h.new o).m.get b=h.m.get b:=by rw[AcO,X2 h3]
omit [Ii]in
@[simp 900] theorem Aq(c:Nat)(o:AO)(b:Nat)(h3:b≠c):(h.put c o).m.get b=h.m.get b:=by rw[Air,X2 h3]
omit [Ii]in
@[simp 800] theorem Azz(o:AO)(b:Nat)(h3:b<=h.nx)(h4:h.nx<=b):(h.new o).m.get b=o:=by rw[AcO,W5 om]
omit [Ii]in
@[simp] theorem Bx(n:Nat):wrote n []=[]:=rfl
def Am(n b:Nat)(l:List Nat)(e:n<=b):wrote n (b::l)=wrote n l:=by
 show(@Bool.rec (λ_=>List Nat) (wrote n l) (b::wrote n l) (Nat.blt b n):List Nat)=_;have:Nat.blt b n=false:=by
  cases d:Nat.blt b n with
  |false=>rfl
  |true=>
   have g:b<n:=by simpa using d
   omega
 rw[this]
def AaS(b:Nat):h.rd b=rdO (h.m.get b) h:=rfl
@[simp] theorem AnQ(c:List AV)(e:TypeId):rdO (.cells c e .exact) h=some c:=rfl
@[simp] theorem A69(c:List AV)(e:TypeId)(k:Nat):rdO (.cells c e (.Gt k)) h=some c:=rfl
@[simp] theorem As0(b off:Nat)(vs:List AV):h.wr b off vs=wrO (h.m.get b) b off vs h:=rfl
@[simp] theorem Afa(c:List AV)(e:TypeId)(b off:Nat)(vs:List AV):wrO (.cells c e .exact) b off vs h=wrL (Ng c vs off) b e h:=rfl
@[simp] theorem AuX(c:List AV)(e:TypeId)(k:Nat)(b off:Nat)(vs:List AV):wrO (.cells c e (.Gt k)) b off vs h=wrT (Ng c vs off) (Aj3 (h.m.get k)) k b e h:=rfl
@[simp] theorem AiK(c:List AV)(b:Nat)(e:TypeId):wrL (some c) b e h=.ok (h.put b (.cells c e .exact)):=rfl
@[simp] theorem Asz(c:List AV)(n k b:Nat)(e:TypeId):wrT (some c) (some n) k b e h=.ok ((h.put b (.cells c e (.Gt k))).put k (.Fb (n+1))):=rfl
@[simp] theorem Sn(n:Nat):Aj3 (.Fb n)=some n:=rfl
@[simp] theorem Agc:AnU (.ok h)=.ok (.Bj []) h:=rfl
@[simp] theorem AvB(k:IntKind)(n:Int):cellsOf (.int k n)=some [.int k n]:=rfl
@[simp] theorem Ati(b:Bool):cellsOf (.bool b)=some [.bool b]:=rfl
@[simp] theorem AvH(s:List Nat):cellsOf (.str s)=some [.str s]:=rfl
@[simp] theorem AvA(t:TypeId)(x:AV):cellsOf (.I6 t x)=some [.I6 t x]:=rfl
@[simp] theorem Atj:cellsOf .B3=some [.B3]:=rfl
@[simp] theorem AvE:cellsOf .Bv=some [.Bv]:=rfl
@[simp] theorem AxH(b o l c z:Nat)(e:Bool):cellsOf (.sl b o l c z e)=some [.sl b o l c z e]:=rfl
@[simp] theorem AvF(b o:Nat):cellsOf (.ptr b o)=some [.ptr b o]:=rfl
@[simp] theorem Av9(l:List AV):cellsOf (.agg l)=some l:=rfl
@[simp] theorem AvD:cellsOf .Iy=some [.Iy]:=rfl
@[simp] theorem AxG(f:Fn)(a c:List AV):cellsOf (.fn f a c)=some [.fn f a c]:=rfl
@[simp] theorem A4W(k:IntKind)(n:Int):Ge (.int k n)=true:=rfl
@[simp] theorem A06(b:Bool):Ge (.bool b)=true:=rfl
@[simp] theorem A5c(s:List Nat):Ge (.str s)=true:=rfl
@[simp] theorem A4V(t:TypeId)(x:AV):Ge (.I6 t x)=true:=rfl
@[simp] theorem A07:Ge .B3=true:=rfl
@[simp] theorem A4Z:Ge .Bv=true:=rfl
@[simp] theorem A66(b o l c z:Nat)(e:Bool):Ge (.sl b o l c z e)=true:=rfl
@[simp] theorem A5a(b o:Nat):Ge (.ptr b o)=true:=rfl
@[simp] theorem A4Y:Ge .Iy=true:=rfl
@[simp] theorem A65(f:Fn)(a c:List AV):Ge (.fn f a c)=true:=rfl
@[simp] theorem A09:Ge .Ob=true:=rfl
@[simp] theorem A4X(r:Nat):Ge (.map r)=true:=rfl
@[simp] theorem A08:Ge .Td=true:=rfl
@[simp] theorem Atl:cellsOf .Ob=some [.Ob]:=rfl
@[simp] theorem AvC(r:Nat):cellsOf (.map r)=some [.map r]:=rfl
@[simp] theorem Atk:cellsOf .Td=some [.Td]:=rfl
@[simp] theorem Awo:Bm []=true:=rfl
@[simp] theorem Auc(a:AV)(l:List AV):Bm (a::l)=(Ge a&&Bm l):=by
 show(@Bool.rec (λ_=>Bool) false (Bm l) (Ge a):Bool)=_
 cases Ge a<;>rfl
@[simp] theorem A4C(l:List AV):Q4 l=l.length:=Gh l
@[simp] theorem AhR(l:List AV)(n:Nat):AcE l n=l[n]?:=Ab6 l n
@[simp] theorem A0G(v:AV):Py (some v) h=.ok v h:=rfl
@[simp] theorem Awx(c:List AV):Ly (some c) h=.ok (.agg c) h:=rfl
@[simp] theorem AlL(c:List AV)(o:Nat):ldL (some none) c o h=Py (AcE c o) h:=rfl
@[simp] theorem AcC(n:Nat)(c:List AV)(o:Nat):ldL (some (some n)) c o h=Ly (Nf c o n) h:=rfl
@[simp] theorem Nu(i:Option (Option Nat))(b o:Nat):Ae i (.ptr b o) h=ldC (rdO (h.m.get b) h) i o h:=rfl
@[simp] theorem S9(c:List AV)(i:Option (Option Nat))(o:Nat):ldC (some c) i o h=ldL i c o h:=rfl
@[simp] theorem Adt(n b o:Nat)(x:AV):A4 n (.ptr b o) x h=stC (cellsOf x) (some n) b o h:=rfl
@[simp] theorem AiA(cs:List AV)(n b o:Nat):stC (some cs) (some n) b o h=if cs.length=n/\Bm cs=true then AnU (h.wr b o cs)else .bad 26:=by
 show(@Bool.rec (λ_=>OR) (.bad 26) (@Bool.rec (λ_=>OR) (.bad 26) (AnU (h.wr b o cs)) (Bm cs)) (Nat.beq (Q4 cs) n):OR)=_
 rw[Gh]
 by_cases h1:cs.length=n
 .rw[h1,Fe]
  cases h2:Bm cs<;>simp[h1]
 .rw[X2 (λhh=>h1 hh.1)]
  have:Nat.beq cs.length n=false:=by
   cases hb:Nat.beq cs.length n with
   |false=>rfl
   |true=>exact absurd (ao hb) h1
  rw[this]
@[simp] theorem Hg(e:TypeId)(l:List AV):Oy e (.agg l) h=.ok (.ptr h.nx 0) (h.new (.cells l e .exact)):=rfl
@[simp] theorem AeI(o:AO)(v:AV):mk h o v=.ok v (h.new o):=rfl
@[simp] theorem E3(b o d:Nat):Bs (.ptr b o) d h=.ok (.ptr b (o+d)) h:=rfl
@[simp] theorem I0(b o:Nat):Fu (.ptr b o) h=.ok (.ptr b o) h:=rfl
@[simp] theorem A5R(l:List AV)(i:Nat):L9 (.Bj l) i h=Py (AcE l i) h:=rfl
@[simp] theorem A0d(cs:List AV):Sr [] cs=some cs:=rfl
def ApR(off size:Nat)(rest:List (Nat × Nat × AV))(cs:List AV)(x:Option (List AV)):Option (List AV):=
 match x with
 |some v=>if off+v.length<=cs.length/\v.length=size then Sr rest (cs.take off++v++cs.drop (off+v.length))else none
 |none=>none
@[simp] theorem AxS off size x rest cs:Sr ((off,size,x)::rest) cs=ApR off size rest cs (cellsOf x):=by
 show(match some (off,size),cellsOf x with
  |some (off,size),some v=>match Ng _ v _ with|some _=>Bool.rec _ ..|none=>none
  |_,_=>none)=_;unfold ApR;cases cellsOf x with
 |none=>rfl
 |some v=>
  simp[Kh,Gh];by_cases h1:off+v.length<=cs.length
  .by_cases h2:v.length=size;. rw[W5 h1,W5 ⟨h1,h2⟩];simp[h2,Fe]
   .rw[W5 h1,X2 λhh=>h2 hh.2];have:Nat.beq v.length size=false:=by cases hb:Nat.beq .. with
     |false=>rfl
     |true=>exact absurd (ao hb) h2
    simp[this]
  .rw[X2 h1,X2 λhh=>h1 hh.1]
@[simp] theorem AxR(off size:Nat)(rest:List (Nat × Nat × AV))(cs v:List AV):ApR off size rest cs (some v)=if off+v.length<=cs.length/\v.length=size then Sr rest (cs.take off++v++cs.drop (off+v.length))else none:=rfl
@[simp] theorem A1b(z:List AV)(l:List (Nat × Nat × AV)):B7 z l h=Ly (Sr l z) h:=rfl
def bsl(x:Option (List AV))(e:TypeId)(s n:Nat)(h:H):OR:=match x with
|some cs=>.ok (.sl h.nx 0 n n s true) (h.new (.cells cs e .exact))
|none=>.bad 20
@[simp] theorem A1V(cs:List AV)(e:TypeId)(s n:Nat):bsl (some cs) e s n h=.ok (.sl h.nx 0 n n s true) (h.new (.cells cs e .exact)):=rfl
@[simp] theorem AwA(e:TypeId)(s n:Nat)(z:List AV)(l:List (Nat × Nat × AV)):Bh e s n z l h=bsl (Sr l z) e s n h:=by
 unfold Bh bsl
 cases Sr l z<;>rfl
def X7(a b:Int):ieq a b=decide (a=b):=by rw[Q1];by_cases d:a=b<;>simp[d]
@[simp] theorem A5y t c a b:Aj P .eql t c (.int .i64 a) (.int .i64 b) h=.ok (.bool (decide (a=b))) h:=by rw[<- X7];rfl
@[simp] theorem Y6 t c a b:Aj P .neq t c (.int .i64 a) (.int .i64 b) h=.ok (.bool !decide (a=b)) h:=by rw[<- X7];show OR.ok (.bool (Ib _)) h=_;cases ieq a b<;>rfl
@[simp] theorem Hf(t:TypeId)(c:Bool)(a b:Int):Aj P .lss t c (.int .i64 a) (.int .i64 b) h=.ok (.bool (decide (a<b))) h:=by rw[<- Il];rfl
@[simp] theorem A5z(t:TypeId)(c:Bool)(a b:Int):Aj P .gtr t c (.int .i64 a) (.int .i64 b) h=.ok (.bool (decide (b<a))) h:=by rw[<- Il];rfl
@[simp] theorem As2(t:TypeId)(c:Bool)(a b:Int):Aj P .leq t c (.int .i64 a) (.int .i64 b) h=.ok (.bool (decide (a<=b))) h:=by
 show OR.ok (.bool (Ib (ilt b a))) h=_
 rw[Il];by_cases hh:b<a
 .have:¬ a<=b:=by omega
  simp[hh,this,Ib]
 .have:a<=b:=by omega
  simp[hh,this,Ib]
@[simp] theorem As1(t:TypeId)(c:Bool)(a b:Int):Aj P .geq t c (.int .i64 a) (.int .i64 b) h=.ok (.bool (decide (b<=a))) h:=by
 show OR.ok (.bool (Ib (ilt a b))) h=_
 rw[Il];by_cases hh:a<b
 .have:¬ b<=a:=by omega
  simp[hh,this,Ib]
 .have:b<=a:=by omega
  simp[hh,this,Ib]
@[simp] theorem Uc(t:TypeId)(c:Bool)(a b:Int):Aj P .add t c (.int .i64 a) (.int .i64 b) h=.ok (.int .i64 (E1 .i64 (a+b))) h:=rfl
@[simp] theorem As3(t:TypeId)(c:Bool)(a b:Int):Aj P .sub t c (.int .i64 a) (.int .i64 b) h=.ok (.int .i64 (E1 .i64 (a-b))) h:=rfl
@[simp] theorem A50(t:TypeId)(c:Bool)(a b:Int):Aj P .mul t c (.int .i64 a) (.int .i64 b) h=.ok (.int .i64 (E1 .i64 (a*b))) h:=rfl
def Cr(n:Int)(h1:-9223372036854775808<=n)(h2:n<=9223372036854775807):E1 .i64 n=n:=by
 unfold E1 fits;rw[Il,Il];have e1:¬ (n<IntKind.min .i64):=by show ¬ (n < -9223372036854775808);omega
 have d:¬ (IntKind.max .i64<n):=by show ¬ ((9223372036854775807:Int)<n);omega
 rw[Xn e1,Xn d]
def Aap(a b:List Nat):Qh a b=decide (a=b):=by rw[Qi];by_cases d:a=b<;>simp[d]
@[simp] theorem A0X t c a b:Aj P .eql t c (.str a) (.str b) h=.ok (.bool (decide (a=b))) h:=by rw[<- Aap];rfl
@[simp] theorem A1a t c a b:Aj P .neq t c (.str a) (.str b) h=.ok (.bool !decide (a=b)) h:=by rw[<- Aap];show OR.ok (.bool (Ib _)) h=_;cases Qh a b<;>rfl
@[simp] theorem A0Z(t:TypeId)(c:Bool)(a b:List Nat):Aj P .lss t c (.str a) (.str b) h=.ok (.bool (Gn a b)) h:=rfl
@[simp] theorem A0Y(t:TypeId)(c:Bool)(a b:List Nat):Aj P .gtr t c (.str a) (.str b) h=.ok (.bool (Gn b a)) h:=rfl
@[simp] theorem A6N(b:Bool):Qe .not (.bool b) h=.ok (.bool (!b)) h:=by cases b<;>rfl
@[simp] theorem A6M(n:Int):Qe .neg (.int .i64 n) h=.ok (.int .i64 (E1 .i64 (0-n))) h:=rfl
@[simp] theorem A6L(z:AV)(t u:Nat)(x:AV):xTA z t true (.I6 u x) h=if u=t then .ok (.Bj [x,.bool true]) h else .ok (.Bj [z,.bool false]) h:=by
 show(C6 _ _ (Nat.beq u t):OR)=_
 by_cases hh:u=t
 .rw[W5 hh,hh,Fe]
 .rw[X2 hh]
  have:Nat.beq u t=false:=by
   cases hb:Nat.beq u t with
   |false=>rfl
   |true=>exact absurd (ao hb) hh
  rw[this]
def A5j(x:Option (List AV))(o n:Nat)(h:H):OR:=match x with
|some c=>if o+n<=c.length then .ok (.agg ((c.drop o).take n)) h else .bad 197
|none=>.bad 197
@[simp] theorem AeO(c:List AV)(o n:Nat):A5j (some c) o n h=if o+n<=c.length then .ok (.agg ((c.drop o).take n)) h else .bad 197:=rfl
@[simp] theorem BaC b o n:Vk [.c (some (some n)) (.ptr b o)] h=A5j (rdO (h.m.get b) h) o n h:=by show(match match match h.rd b with|some c=>Tn _ c o|none=>none,some _ with|some v,some l=>some (v::l)|_,_=>none with|some l=>OR.ok _ h|none=>.bad _)=_;rw[AaS];cases rdO _ h with
 |none=>rfl
 |some c=>
  show(match match (Nf c o n).map AV.agg,some _ with|some v,some l=>some (v::l)|_,_=>none with|some l=>OR.ok _ h|none=>.bad _)=_;rw[E5];by_cases hh:o+n<=c.length;. rw[W5 hh,AeO,W5 hh];rfl
  simp[*]
@[simp] theorem AxK(g:FuncId)(args:List AV):cvV (.fn (.func g) [] []) args P Z h=if Bg P g=true then Z.call g args h else AgK (Uk P g) args h:=by
 show(@Bool.rec (λ_=>OR) (AgK (Uk P g) (J0 (J0 [] args) []) h) (Z.call g (J0 (J0 [] args) []) h) (Bg P g):OR)=_
 rw[Dl,Dl]
 simp only[I3,F0]
 cases Bg P g<;>rfl
@[simp] theorem A4J(k:IntKind)(n:Int)(hn:0<=n):Vg (.int k n)=some n.toNat:=by
 cases n with
 |ofNat m=>rfl
 |negSucc m=>omega
@[simp] theorem A03(k:IntKind)(n:Nat):Vg (.int k (n:Int))=some n:=rfl
def ixA(P:Program)(d:SI)(len:Nat)(cs:List AV)(n:Option Nat)(h:H):OR:=match n with
|some n=>if n<len then Py (Hc P d.e cs (n*d.s)) h else .bad 95
|none=>.bad 97
@[simp] theorem A40(si:SI)(len:Nat)(cs:List AV)(n:Nat):ixA P si len cs (some n) h=if n<len then Py (Hc P si.e cs (n*si.s)) h else .bad 95:=rfl
@[simp] theorem A6I(len:Nat)(si:SI)(cs:List AV)(i:AV):xIx P (.arr len si) (.agg cs) i h=ixA P si len cs (Vg i) h:=by
 unfold xIx ixA
 cases Vg i with
 |none=>rfl
 |some n=>
  show(C6 (.bad 95) (Py (Hc P si.e cs (n*si.s)) h) (Nat.blt n len):OR)=if n<len then Py (Hc P si.e cs (n*si.s)) h else .bad 95
  by_cases hh:n<len
  .rw[W5 hh,show Nat.blt n len=true by simpa using hh]
  .rw[X2 hh,show Nat.blt n len=false by cases hb:Nat.blt n len with|false=>rfl|true=>exact absurd (by simpa using hb) hh]
@[simp] theorem A0A(cs:List AV)(o:Nat):Tn (some none) cs o=AcE cs o:=rfl
@[simp] theorem A5h(t:TypeId)(cs:List AV)(o:Nat):Hc P t cs o=Tn (Ft P t) cs o:=rfl
def AyV(r:Nat)(d:Option (List (AV × AV)))(h:H):OR:=match d with|some e=>.ok (.Bj []) (h.put r (.map e))|none=>.bad 100
@[simp] theorem A0x(r:Nat)(es:List (AV × AV)):AyV r (some es) h=.ok (.Bj []) (h.put r (.map es)):=rfl
def A4z(P:Program)(kt:TypeId)(k x:AV)(r:Nat)(o:AO)(h:H):OR:=match o with
|.map es=>AyV r (Z7 (Gy P kt k) k x es) h
|_=>.bad 101
@[simp] theorem AqR(kt:TypeId)(k x:AV)(r:Nat)(es:List (AV × AV)):A4z P kt k x r (.map es) h=AyV r (Z7 (Gy P kt k) k x es) h:=rfl
@[simp] theorem A53(kt:TypeId)(z:AV)(r:Nat)(k x:AV):As5 P kt z (.map r) k x h=A4z P kt k x r (h.m.get r) h:=by
 show(match h.m.get r with
  |.map es=>match Z7 (Gy P kt k) k x es with|some Y8=>OR.ok (.Bj []) (h.put r (.map Y8))|none=>.bad 100
  |_=>.bad 101)=_
 cases h.m.get r with
 |map es=>
  rw[AqR]
  rfl
 |_=>rfl
def lkM(z:AV)(ok:Bool)(x:Option (Option AV))(h:H):OR:=match x with
|some (some v)=>.ok (if ok=true then .Bj [v,.bool true]else v) h
|some none=>.ok (if ok=true then .Bj [z,.bool false]else z) h
|none=>.bad 98
@[simp] theorem A4B(z v:AV)(ok:Bool):lkM z ok (some (some v)) h=.ok (if ok=true then .Bj [v,.bool true]else v) h:=rfl
@[simp] theorem A4A(z:AV)(ok:Bool):lkM z ok (some none) h=.ok (if ok=true then .Bj [z,.bool false]else z) h:=rfl
def lkO(P:Program)(kt:TypeId)(z:AV)(ok:Bool)(k:AV)(o:AO)(h:H):OR:=match o with
|.map es=>lkM z ok (M1 (Gy P kt k) es) h
|_=>.bad 99
@[simp] theorem Auf(kt:TypeId)(z k:AV)(ok:Bool)(es:List (AV × AV)):lkO P kt z ok k (.map es) h=lkM z ok (M1 (Gy P kt k) es) h:=rfl
@[simp] theorem A6J(kt:TypeId)(z:AV)(ok:Bool)(r:Nat)(k:AV):xLk P kt z ok (.map r) k h=lkO P kt z ok k (h.m.get r) h:=by
 show(match (some ⟨kt,z⟩:Option MI),(match h.m.get r with|.map es=>some es|_=>none:Option (List (AV × AV)))with
  |some mi,some es=>match M1 (Gy P mi.kt k) es with
   |some (some v)=>OR.ok (@Bool.rec (λ_=>AV) v (.Bj [v,.bool true]) ok) h
   |some none=>.ok (@Bool.rec (λ_=>AV) mi.z (.Bj [mi.z,.bool false]) ok) h
   |none=>.bad 98
  |_,_=>.bad 99)=_
 cases h.m.get r with
 |map es=>
  rw[Auf]
  show(match M1 (Gy P kt k) es with
   |some (some v)=>OR.ok (@Bool.rec (λ_=>AV) v (.Bj [v,.bool true]) ok) h
   |some none=>.ok (@Bool.rec (λ_=>AV) z (.Bj [z,.bool false]) ok) h
   |none=>.bad 98)=_
  cases M1 (Gy P kt k) es with
  |none=>rfl
  |some x=>cases x<;>cases ok<;>rfl
 |_=>rfl
def Anm(d:tk P j=.int)(a b:Int):Gy P j (.int .i64 a) (.int .i64 b)=some (decide (a=b)):=by show Dy P (aeq P 2) j (.int .i64 a) (.int .i64 b)=_;unfold Dy;rw[d,<- X7];rfl
@[simp] theorem A62:Fo .Bv h=.ok (.int .i64 0) h:=rfl
@[simp] theorem A98(b o l c z:Nat)(e:Bool):Fo (.sl b o l c z e) h=.ok (.int .i64 (l:Int)) h:=rfl
@[simp] theorem A63(s:List Nat):lnS (.str s) h=.ok (.int .i64 (s.length:Int)) h:=by show OR.ok (.int .i64 (.ofNat (Y2 s))) h=_;rw[Rf];rfl
def Agr(s b o l c z:Nat)(e:Bool)(n:Nat)(hn:n<l):Gc s (.sl b o l c z e) (.int .i64 (n:Int)) h=.ok (.ptr b (o+n*s)) h:=by
 show(@Bool.rec (λ_=>OR) (.bad 88) (.ok (.ptr b (Nat.add o (Nat.mul n s))) h) (Nat.blt n l):OR)=_;rw[show Nat.blt n l=true by simpa using hn]
 rfl
def Comes(r:OR)(Q:AV->H->Prop):Prop:=∃v h',r=.ok v h'/\Q v h'
variable {Q R:AV->H->Prop}{k:AV->H->OR}{r:OR}{a b:OR}
def O5(hc:Comes (k v (Ab h)) Q):Comes (Al h0 (.ok v (Ab h)) k) Q:=by simp[*]
def Aca(hq:wrote h0.nx h1.lg=[])(hc:Comes (k v h1) Q):Comes (Al h0 (.ok v h1) k) Q:=by rw[Si v _ _ k hq];omega
def Aj2(e:o=true->Comes a Q)(d:o=false->Comes b Q):Comes (Af (.bool o) a b) Q:=by
 cases o
 .exact d rfl
 .exact e rfl
def Afs(d:o=true->Comes (Aa r k) Q)(e:o=false->Comes (k (.Bj []) h) Q):Comes (Aa (Ad (.bool o) true r h) k) Q:=by
 cases o
 .exact e rfl
 .exact d rfl
def Afr(d:o=true->Comes (k (.Bj []) h) Q)(e:o=false->Comes (Aa r k) Q):Comes (Aa (Ad (.bool o) false r h) k) Q:=by
 cases o
 .exact e rfl
 .exact d rfl
def AdC(d:o=true->Comes (Al h0 r k) Q)(e:o=false->Comes (Al h0 (.ok (.Bj []) h) k) Q):Comes (Al h0 (Ad (.bool o) true r h) k) Q:=by
 cases o
 .exact e rfl
 .exact d rfl
def AdB(d:o=true->Comes (Al h0 (.ok (.Bj []) h) k) Q)(e:o=false->Comes (Al h0 r k) Q):Comes (Al h0 (Ad (.bool o) false r h) k) Q:=by
 cases o
 .exact e rfl
 .exact d rfl
@[simp] theorem A01(a:AV)(l:List AV):(a::l)[0]?=some a:=rfl
@[simp] theorem A00(a:AV)(l:List AV)(n:Nat):(a::l)[n+1]?=l[n]?:=rfl
structure Small(n:Nat)(h h':H):Prop where
 nx:h.nx<=h'.nx/\h'.nx<=h.nx+n
 lg:∀x∈h'.lg,x∈h.lg\/h.nx<=x
def Out(n:Nat)(h:H)(u:AV):AV->H->Prop:=λv h'=>v=u/\Small n h h'
def A0{n:Nat}{u:AV}(e:v=u)(h1:h0.nx<=h.nx)(h2:h.nx<=h0.nx+n)(d:∀x∈h.lg,x∈h0.lg\/h0.nx<=x):Comes (.ok v h) (Out n h0 u):=⟨v,h,rfl,e,⟨h1,h2⟩,d⟩
variable {h2:H}{n m:Nat}
structure Ext(n:Nat)(h h':H):Prop where
 lo:h.nx<=h'.nx
 hi:h'.nx<=h.nx+n
 Cf:∀b,b<h.nx->h'.m.get b=h.m.get b
 lg:∀x∈h'.lg,x∈h.lg\/h.nx<=x
def Ext.refl(n:Nat)(h:H):Ext n h h:=⟨Yw _,Nat.le_add_right _ _,λ_ _=>rfl,λ_ d=>.inl d⟩
def Ext.small(e:Ext n h h1):Small n h h1:=⟨⟨e.lo,e.hi⟩,e.lg⟩
def Ext.trans(e:Ext n h h1)(e':Ext m h1 h2):Ext (n+m) h h2:=
 ⟨Vr e.lo e'.lo,by have:=e.hi;have:=e'.hi;omega,λb g=>by rw[e'.Cf b (Xq g e.lo),e.Cf b g],λx i=>by
  rcases e'.lg x i with d|d
  .exact e.lg x d
  .exact .inr (Vr e.lo d)⟩
def Ext.mono(e:Ext n h h1)(d:n<=m):Ext m h h1:=⟨e.lo,by have:=e.hi;omega,e.Cf,e.lg⟩
def Ext.new(e:Ext n h h1) o(g:h1.nx<Bq):Ext (n+1) h (h1.new o):=
 ⟨by show h.nx<=h1.nx+1;have:=e.lo;omega,by show h1.nx+1<=_;have:=e.hi;omega,λb d=>by rw[H3 o b g (by have:=e.lo;omega) (by have:=e.lo;omega),e.Cf b d],e.lg⟩
def Ext.put(e:Ext n h h1) c o(hc:h.nx<=c)(i:c<Bq):Ext n h (h1.put c o):=
 ⟨e.lo,e.hi,λb g=>by rw[Db c o b i om om,e.Cf b g],λx d=>by
  rcases Tu.1 d with rfl|d;. omega
  .exact e.lg x d⟩
def Cb(n:Nat)(h:H)(Q:AV->H->Prop)(r:OR):Prop:=∃v h',r=.ok v h'/\Ext n h h'/\Q v h'
def readable:CK->Prop
|.exact=>True
|.Gt _=>True
|_=>False
def Dc{c:List AV}{k:CK}(d:readable k):rdO (.cells c j k) h=some c:=by cases k<;>first|rfl|cases d
structure Oq(s:Nat)(h:H)(v:AV)(len:Nat)(c:List AV):Prop where
 at':(len=0/\c=[]/\v=.Bv)\/∃b off cap ex cs e k,v=.sl b off len cap s ex/\len<=cap/\h.m.get b=.cells cs e k/\readable k/\b<h.nx/\off+len*s<=cs.length/\(cs.drop off).take (len*s)=c
def Oq.ext{s len:Nat}{c:List AV}(o:Oq s h v len c)(e:Ext n h h1):Oq s h1 v len c:=by
 rcases o.at' with p|⟨b,off,cap,ex,cs,e',k,g,i,d,j,q5,q⟩
 .exact⟨.inl p⟩
 .exact⟨.inr ⟨b,off,cap,ex,cs,e',k,g,i,by rw[e.Cf b q5];exact d,j,Xq q5 e.lo,q⟩⟩
def Oq.len{s len:Nat}{c:List AV}(d:Oq s h v len c):Fo v h1=.ok (.int .i64 (len:Int)) h1:=by rcases d.at' with⟨rfl,_,rfl⟩|⟨b,off,cap,ex,cs,e',k,rfl,_⟩<;>rfl
def Oq.Rv{s len:Nat}{c:List AV}(d:Oq s h v len c):c.length=len*s:=by
 rcases d.at' with⟨rfl,rfl,rfl⟩|⟨b,off,cap,ex,cs,e',k,i,j,g,o,q5,p,e⟩
 .simp
 .rw[<- e,Cm,bg];omega
def Oq.src{s len}{c}(g:Oq s h v len c):Hd h s v=some (len,c):=by
 rcases g.at' with⟨rfl,rfl,rfl⟩|⟨b,off,cap,ex,cs,e',k,rfl,i,d,e,q5,j,o⟩;. rfl
 .show(match h.rd b with|some c=>(Nf c ..).map _|none=>none)=_;rw[AaS,d,Dc e];simp[E5];grind
def Oq.ia{s len}{c}(j:Oq s h v len c){i}(hi:i<len):∃b o cs e k,(∀h1,Gc s v (.int .i64 i) h1=.ok (.ptr b o) h1)/\h.m.get b=.cells cs e k/\readable k/\b<h.nx/\o+s<=cs.length/\(cs.drop o).take s=(c.drop (i*s)).take s:=by
 rcases j.at' with⟨rfl,rfl,rfl⟩|⟨b,off,cap,ex,cs,e',k,rfl,q,d,g,q5,u,p⟩;. omega
 .have t:i*s+s<=len*s:=by have:=D2 s (show i+1<=len by omega);grind
  refine⟨b,_,_,_,k,λh1=>Agr s b _ _ _ s _ i hi,d,g,q5,by omega,?_⟩;rw[<- p,ea,de,au];grind
def Nr{b o n}{cs}{e}{k}(g:h.m.get b=.cells cs e k)(d:readable k)(i:o+n<=cs.length):Ae (some (some n)) (.ptr b o) h=.ok (.agg ((cs.drop o).take n)) h:=by rw[Nu,g,Dc d,S9,AcC,E5,W5 i];rfl
def Di{b o}{cs}{e}{k}(g:h.m.get b=.cells cs e k)(d:readable k){x}(i:cs[o]?=some x):Ae (some none) (.ptr b o) h=.ok x h:=by rw[Nu,g,Dc d,S9,AlL,AhR,i];rfl
structure Rl(s:Nat)(lo:Nat)(et:TypeId)(h:H)(v:AV)(len:Nat)(c:List AV):Prop where
 at':∃b k st,v=.sl b 0 len len s false/\h.m.get b=.cells c et (.Gt k)/\h.m.get k=.Fb st/\lo<=b/\lo<=k/\b<h.nx/\k<h.nx/\b≠k
 Rv:c.length=len*s
def Rl.sl{s lo len:Nat}{et:TypeId}{c:List AV}(d:Rl s lo et h v len c):Oq s h v len c:=by obtain⟨b,k,st,e,g,j,o,q5,i,p⟩:=d.at';exact⟨.inr ⟨b,0,len,false,c,et,.Gt k,e,Yw _,g,trivial,i,by rw[d.Rv];omega,by rw[Cp,<- d.Rv,cg]⟩⟩
def Rl.ext{s lo len:Nat}{et:TypeId}{c:List AV}(d:Rl s lo et h v len c)(e:Ext n h h1):Rl s lo et h1 v len c:=by obtain⟨b,k,st,o,q,j,p,q5,g,i,t⟩:=d.at';exact⟨⟨b,k,st,o,by rw[e.Cf b g];exact q,by rw[e.Cf k i];exact j,p,q5,Xq g e.lo,Xq i e.lo,t⟩,d.Rv⟩
def Fi(n:Nat):Gj n=decide (n<1000000000000):=by
 show Nat.blt n 1000000000000=_;cases d:Nat.blt n 1000000000000 with
 |true=>
  have:n<1000000000000:=by simpa using d
  simp[this]
 |false=>
  have:¬ n<1000000000000:=λe=>by rw[show Nat.blt n 1000000000000=true by simpa using e]at d;cases d
  simp[this]
def AsY{s bytes len}{et}{c}(g:Oq s h y len c)(d:0<len)(e:len*(bytes+1)<1000000000000)(h1:Bm c=true):
 Ds et s bytes .Bv y h=.ok (.sl (h.nx+1) 0 len len s false) ((h.new (.Fb 0)).new (.cells c et (.Gt h.nx))):=by
 show(match Hd h s y with
  |some (n,new)=>C6 _ ..
  |none=>.bad _)=_;rw[g.src];have h2:Nat.beq len 0=false:=by cases len with|zero=>omega|succ k=>rfl
 simp[h2,h1,Fi,Ws e];rfl
def Aa2{s bytes len lo}{et}{c}(e:Oq s h y len c)(d:0<len)(g:len*(bytes+1)<1000000000000)(h1:Bm c=true)(j:h.nx+2<=Bq)(i:lo<=h.nx):
 Cb 2 h (λv h'=>Rl s lo et h' v len c) (Ds et s bytes .Bv y h):=by
 refine⟨_,_,AsY e d g h1,((Ext.refl 0 h).new _ om).new _ (by show h.nx+1<Bq;omega),⟨⟨_,_,0,rfl,?_,?_,by omega,i,by simp,by simp_all;omega,by omega⟩,e.Rv⟩⟩;. exact A6 _ (by simp_all;omega)
 .rw[H3 _ _ (by show h.nx+1<Bq;omega) om (by simp)];simp
def AsZ{s bytes len B1 lo:Nat}{et:TypeId}{c c':List AV}(d:Rl s lo et h x len c)(g:Oq s h y B1 c')(e:0<B1)(i:(len+B1)*(bytes+1)<1000000000000)(h1:Bm c'=true)(F:h.nx+1<=Bq)(u:h0.nx<=lo)(o:Ext n h0 h):
 Cb (n+1) h0 (λv h'=>Rl s lo et h' v (len+B1) (c++c')) (Ds et s bytes x y h):=by
 obtain⟨b,k,st,rfl,q,j,A,q5,E,z,D⟩:=d.at';have p:Ds et s bytes (.sl b 0 len len s false) y h=.ok (.sl h.nx 0 (len+B1) (len+B1) s false) (((h.put b (.cells c et (.Cf k st))).put k (.Fb st)).new (.cells (c++c') et (.Gt k))):=by
  show(match Hd h s y with
   |some (n,new)=>C6 (.bad 121) (C6 (.bad 121) (C6 (.bad 121) (Lg ⟨et,s,bytes⟩ b 0 len len s false n new h) (Nat.beq s s)) (Bm new)) (Gj ((len+n)*(bytes+1)))
   |none=>.bad 123)=_;rw[g.src];have t:Nat.ble (Nat.add len B1) len=false:=by cases C:Nat.ble (Nat.add len B1) len with
   |false=>rfl
   |true=>simp_all;omega
  simp only[h1,Fi,Ws i,Fe];show(C6 _ _ (Nat.ble (Nat.add len B1) len):OR)=_;rw[t];show Ny ⟨et,s,bytes⟩ b 0 len (Nat.add ..) _ h=_;unfold Ny;rw[q];simp only[j,Sn,E5,d.Rv,Rx,Yw,Jr,Gh,Fe,Dl];rfl
 have e1:Ext n _ ((h.put b (.cells c et (.Cf k st))).put k (.Fb st)):=(o.put b _ om om).put k _ om om;refine⟨_,_,p,e1.new _ (by simp_all;omega),⟨⟨_,k,st,rfl,?_,?_,?_,q5,by simp,by simp_all;omega,by omega⟩,by rw[X8,d.Rv,g.Rv,ag]⟩⟩;. exact A6 _ (by show h.nx<Bq;omega)
 .rw[H3 _ k (by show h.nx<Bq;omega) om (by simp_all;omega)];simp
 grind
def Ic{y}{Q R}{r}{k}(i:Ext n h0 h)(d:Cb m h R r)(g:∀v h1,Ext (n+m) h0 h1->Ext m h h1->R v h1->Cb y h0 Q (k v h1)):Cb y h0 Q (Aa r k):=by obtain⟨v,h1,rfl,e,hq⟩:=d;exact g v _ (i.trans e) e hq
def Ag{y:Nat}{Q:AV->H->Prop}{r:OR}{k:AV->H->OR}(d:r=.ok v h)(e:Cb y h0 Q (k v h)):Cb y h0 Q (Aa r k):=by rw[d];exact e
def B0{Q}(d:Ext n h0 h)(hn:n<=m)(hq:Q v h):Cb m h0 Q (.ok v h):=⟨v,h,rfl,d.mono hn,hq⟩
def Cb.mono{Q R}{r}(d:Cb n h0 Q r)(hn:n<=m)(hq:∀v h,Q v h->R v h):Cb m h0 R r:=by obtain⟨v,h1,rfl,e,q⟩:=d;exact⟨v,_,rfl,e.mono hn,hq v _ q⟩
def Aw(n b:Nat)(l:List Nat)(d:b<n):wrote n (b::l)=b::wrote n l:=by show(@Bool.rec (λ_=>List Nat) (wrote n l) (b::wrote n l) (Nat.blt b n):List Nat)=_;rw[show Nat.blt b n=true by simpa using d]
@[simp] theorem A05:Q6 []=true:=rfl
@[simp] theorem A04(a:Nat)(l:List Nat):Q6 (a::l)=false:=rfl
@[simp] theorem A2T(l:List EF):Lh l=Iu l l:=rfl
@[simp] theorem A0c(all:List EF):Iu all []=true:=rfl
@[simp] theorem AvJ(all l:List EF)(b p:Nat)(r:RS)(h n:H):Iu all (⟨b,p,[],r,h,n⟩::l)=Iu all l:=rfl
@[simp] theorem A2S(all l:List EF)(b p x:Nat)(w:List Nat)(r:RS)(h n:H):Iu all (⟨b,p,x::w,r,h,n⟩::l)=(E2 ⟨b,p,x::w,r,h,n⟩ all&&Iu all l):=by
 show(@Bool.rec (λ_=>Bool) false (Iu all l) (E2 ⟨b,p,x::w,r,h,n⟩ all):Bool)=_
 cases E2 ⟨b,p,x::w,r,h,n⟩ all<;>rfl
@[simp] theorem Hw(e:EF):E2 e []=true:=rfl
@[simp] theorem Fz(e a:EF)(l:List EF):E2 e (a::l)=(Jo e a&&E2 e l):=by
 show(@Bool.rec (λ_=>Bool) false (E2 e l) (Jo e a):Bool)=_
 cases Jo e a<;>rfl
def Ahm:∀w:List Nat,Ahl w []=true
|[]=>rfl
|x::w=>by show(@Bool.rec (λ_=>Bool) (Ahl w []) false (Ve x []):Bool)=true;exact Ahm w
def Yn(n:Nat):∀w:List Nat,outside w n n=true
|[]=>rfl
|x::w=>by
 show(@Bool.rec (λ_=>Bool) (outside w n n) false (@Bool.rec (λ_=>Bool) false (Nat.blt x n) (Nat.ble n x)):Bool)=true;have d:=Yn n w;cases h1:Nat.ble n x with
 |false=>exact d
 |true=>
  have h2:n<=x:=Ew h1;have e:Nat.blt x n=false:=by
   cases g:Nat.blt x n with
   |false=>rfl
   |true=>
    have:x<n:=by simpa using g
    omega
  rw[e];exact d
@[simp] theorem Ai1(e:EF)(b p:Nat)(h h1:H)(hn:h1.nx=h.nx):Jo e ⟨b,p,[],.none,h,h1⟩=true:=by
 show(@Bool.rec (λ_=>Bool) true (@Bool.rec (λ_=>Bool) (@Bool.rec (λ_=>Bool) false (@Bool.rec (λ_=>Bool) false (outside e.w h.nx h1.nx) (clear .none e.w h e.h e.h1)) (Ahl e.w [])) true (Nat.beq e.bit b)) (M4 (Nat.lor (Nat.land e.pr b) (Nat.land p e.bit))):Bool)=true
 rw[Ahm,hn,Yn]
 cases M4 (Nat.lor (Nat.land e.pr b) (Nat.land p e.bit))<;>cases Nat.beq e.bit b<;>rfl
def Ci(e:EF)(b p n:Nat)(m m1:_)(l l1:List Nat):Jo e ⟨b,p,[],.none,⟨m,n,l⟩,⟨m1,n,l1⟩⟩=true:=Ai1 e b p _ _ rfl
def Ax(d e:Nat)(p:List Nat)(q:RS)(A j:H)(g i:Nat)(o:List Nat)(u:RS)(t C:H)(z:M4 (Nat.lor (Nat.land e g) (Nat.land i d))=false):Jo ⟨d,e,p,q,A,j⟩ ⟨g,i,o,u,t,C⟩=true:=by show(@Bool.rec (λ_=>Bool) true _ (M4 (Nat.lor (Nat.land e g) (Nat.land i d))):Bool)=true;rw[z]
def Ar(d e:Nat)(o:List Nat)(p:RS)(u i:H)(g:Nat)(j:List Nat)(t:RS)(q z:H):Jo ⟨d,e,o,p,u,i⟩ ⟨d,g,j,t,q,z⟩=true:=by show(@Bool.rec (λ_=>Bool) true (@Bool.rec (λ_=>Bool) _ true (Nat.beq d d)) (M4 (Nat.lor (Nat.land e d) (Nat.land g d))):Bool)=true;rw[Fe];cases M4 (Nat.lor (Nat.land e d) (Nat.land g d))<;>rfl
@[simp] theorem At(lg:List Nat):En [] lg=lg:=rfl
@[simp] theorem AfT(x y:List Nat):Akm x y=x++y:=by
 induction x with
 |nil=>rfl
 |cons a x ih=>show a::Akm x y=_;rw[ih];rfl
@[simp] theorem Ap e l lg:En (e::l) lg=e.w++En l lg:=by rw[<- AfT];rfl
def So{lg:List Nat}{d:List EF}{k:H->OR}(e:Lh d=true):Ff lg d h k=k (Be (En d lg) h):=by show(@Bool.rec (λ_=>OR) (.bad 183) (k (Be (En d lg) h)) (Lh d):OR)=_;rw[e]
def Aav{e:TypeId}{b off len cap s bytes:Nat}{ex:Bool}(d:Hp P j=.sl ⟨e,s,bytes⟩)(l:Nat):xSl P j (.sl b off len cap s ex) (some (.int .i64 (l:Int))) none h=AkE b off cap s ex l len h:=by
 have g:vL (ev (.tmp 0) (fr Az [(0,.sl b off len cap s ex),(1,.int .i64 (l:Int)),(2,.top)]))=.yes b off len cap s ex:=by kernel_rfl
 have e1:bnd (fr Az [(0,.sl b off len cap s ex),(1,.int .i64 (l:Int)),(2,.top)]) (some (.tmp 1)) 0=some l:=by kernel_rfl
 have i:bnd (fr Az [(0,.sl b off len cap s ex),(1,.int .i64 (l:Int)),(2,.top)]) none len=some len:=rfl;show G5 j (.tmp 0) (some (.tmp 1)) none none 0 P Q7 (fr Az [(0,.sl b off len cap s ex),(1,.int .i64 (l:Int)),(2,.top)]) h=_;unfold G5;rw[d];simp only[g,e1,i,Fe]
def Aau{e:TypeId}{b off len cap s bytes:Nat}{ex:Bool}(d:Hp P j=.sl ⟨e,s,bytes⟩)(u:Nat):xSl P j (.sl b off len cap s ex) none (some (.int .i64 (u:Int))) h=AkE b off cap s ex 0 u h:=by
 have g:vL (ev (.tmp 0) (fr Az [(0,.sl b off len cap s ex),(1,.top),(2,.int .i64 (u:Int))]))=.yes b off len cap s ex:=by kernel_rfl
 have e1:bnd (fr Az [(0,.sl b off len cap s ex),(1,.top),(2,.int .i64 (u:Int))]) none 0=some 0:=rfl;have i:bnd (fr Az [(0,.sl b off len cap s ex),(1,.top),(2,.int .i64 (u:Int))]) (some (.tmp 2)) len=some u:=by kernel_rfl
 show G5 j (.tmp 0) none (some (.tmp 2)) none 0 P Q7 (fr Az [(0,.sl b off len cap s ex),(1,.top),(2,.int .i64 (u:Int))]) h=_;unfold G5;rw[d];simp only[g,e1,i,Fe]
def Atv(d:tk P j=.slice)(c:Bool)(b o l k z:Nat)(e:Bool):Aj P .eql j c (.sl b o l k z e) .Bv h=.ok (.bool false) h:=by
 have h1:aeq P 20 j (.sl b o l k z e) .Bv=some false:=by show Dy P (aeq P 19) j _ _=_;unfold Dy;rw[d];rfl
 show(match aeq P 20 j (.sl b o l k z e) .Bv with|some b=>OR.ok (.bool (false != b)) h|none=>.bad 38)=_;rw[h1];rfl
section
def Zv(hc:Cb n h0 Q (k v (Ab h))):Cb n h0 Q (Al h1 (.ok v (Ab h)) k):=by simp[*]
def AdF(hq:wrote h2.nx h1.lg=[])(hc:Cb n h0 Q (k v h1)):Cb n h0 Q (Al h2 (.ok v h1) k):=by rw[Si v _ _ k hq];omega
end
end Go.Ev.Sx
namespace Go.Ev.Sx
open Go.Ev
variable {j:Type}
variable {P:Program}{Z:Ac}{h h0 h1 h2:H}{v x y:AV}{s len B1:Nat}{c c':List AV}
structure Ai(h h':H):Prop where
 lo:h.nx<=h'.nx
 Cf:∀b,b<h.nx->h'.m.get b=h.m.get b
 lg:∀x∈h'.lg,x∈h.lg\/h.nx<=x
def Ai.refl h:Ai h h:=⟨Yw _,λ_ _=>rfl,λ_=>.inl⟩
def Ai.trans(e:Ai h h1)(e':Ai h1 h2):Ai h h2:=
 ⟨Vr e.lo e'.lo,λb g=>by rw[e'.Cf b (Xq g e.lo),e.Cf b g],λx i=>by
  rcases e'.lg x i with d|d;. exact e.lg x d
  .exact .inr (Vr e.lo d)⟩
def Ai.new(e:Ai h h1) o:Ai h (h1.new o):=
 ⟨by show h.nx<=h1.nx+1;have:=e.lo;omega,λb d=>by rw[Cq o b (by have:=e.lo;omega),e.Cf b d],e.lg⟩
def Ai.put(e:Ai h h1) c o(hc:h.nx<=c):Ai h (h1.put c o):=
 ⟨e.lo,λb g=>by rw[Aq c o b om,e.Cf b g],λx d=>by
  rcases Tu.1 d with rfl|d;. omega
  .exact e.lg x d⟩
def Ai.nl(e:Ai h h1):Ai h (Ab h1):=⟨e.lo,e.Cf,λx d=>by cases d⟩
def Ai.Rc(e:Ai (Ab h) h1):Ai h h1:=⟨e.lo,e.Cf,λx g=>by
 rcases e.lg x g with d|d;. cases d
 simp_all⟩
def Ai.Be(e:Ai h h1)(d:Ai h h2):Ai h (Be h2.lg h1):=⟨e.lo,e.Cf,d.lg⟩
def Ai.quiet(e:Ai (Ab h) h1):wrote h.nx h1.lg=[]:=by have d:=e.lg;revert d;generalize h1.lg=l;intro d;induction l with
|nil=>rfl
|cons a l i=>
 have g:h.nx<=a:=by simp_all
 rw[Am _ _ _ g];grind
def A5i(h:H):CK->Prop
|.exact=>True
|.fz _=>True
|.Gt _=>True
|.Cf k st=>k<h.nx/\h.m.get k=.Fb st
structure Nv(h:H)(b:Nat)(cs:List AV):Prop where
 lt:b<h.nx
 cells:∃e k,h.m.get b=.cells cs e k/\A5i h k
@[simp] theorem A0E o:rdO o (Ab h)=rdO o h:=by cases o with|cells c e k=>cases k<;>rfl|_=>rfl
@[simp] theorem A0F o l:rdO o (Be l h)=rdO o h:=by cases o with|cells c e k=>cases k<;>rfl|_=>rfl
def Nv.rd{b}{cs}(hc:Nv h b cs):rdO (h.m.get b) h=some cs:=by obtain⟨e,k,h1,h2⟩:=hc.cells;rw[h1];cases k with
|Cf k st=>show @Bool.rec (λ_=>Option _) _ ..=some _;rw[h2.2];show Bool.rec _ _ (Nat.beq ..)=some _;simp
|_=>rfl
structure Bi(h h':H):Prop where
 lo:h.nx<=h'.nx
 cont:∀b cs,Nv h b cs->Nv h' b cs
def Bi.refl h:Bi h h:=⟨Yw _,λ_ _ hc=>hc⟩
def Bi.trans(e:Bi h h1)(e':Bi h1 h2):Bi h h2:=⟨Vr e.lo e'.lo,λb cs hc=>e'.cont b _ (e.cont b _ hc)⟩
def Ai.keeps(e:Ai h h1):Bi h h1:=⟨e.lo,λb cs hc=>by obtain⟨t,k,h1,h2⟩:=hc.cells;refine⟨Xq hc.lt e.lo,t,k,by rw[e.Cf b hc.lt];grind,?_⟩;cases k with
|Cf k st=>exact⟨Xq h2.1 e.lo,by rw[e.Cf k h2.1];exact h2.2⟩
|_=>trivial⟩
def Bi.nl(e:Bi h h1):Bi h (Ab h1):=⟨e.lo,λb cs hc=>e.cont b _ hc |> λq=>⟨q.lt,q.cells⟩⟩
def Bi.Be(e:Bi h h1) l:Bi h (Be l h1):=⟨e.lo,λb cs hc=>e.cont b _ hc |> λq=>⟨q.lt,q.cells⟩⟩
def Ah(h:H)(Q:AV->H->Prop)(r:OR):Prop:=∃v h',r=.ok v h'/\Ai h h'/\Q v h'
section
variable {Q R:AV->H->Prop}{k:AV->H->OR}{r a b:OR}
def Lo(e:Ai h0 h)(hq:Q v h):Ah h0 Q (.ok v h):=⟨v,h,rfl,e,hq⟩
def Ah.mono(d:Ah h0 R r)(hq:∀v h,Ai h0 h->R v h->Q v h):Ah h0 Q r:=by obtain⟨v,h1,rfl,e,q⟩:=d;exact⟨v,_,rfl,e,hq v _ e q⟩
def X0(d:Ah h R r)(g:∀v h1,Ai h h1->R v h1->Ah h0 Q (k v h1)):Ah h0 Q (Aa r k):=by obtain⟨v,h1,rfl,e,hq⟩:=d;simp_all
def Aqb(d:Ah (Ab h) R r)(g:∀v h1,Ai h h1->R v h1->Ah h0 Q (k v h1)):Ah h0 Q (Al h r k):=by obtain⟨v,h1,rfl,e,hq⟩:=d;rw[Si _ _ _ _ e.quiet];exact g v _ e.Rc hq
def Ey(d:r=.ok v h)(e:Ah h0 Q (k v h)):Ah h0 Q (Aa r k):=by simp[*]
def Wb(hc:Ah h0 Q (k v h)):Ah h0 Q (Aa (.ok v h) k):=hc
def Acw(hc:Ah h0 Q (k v (Ab h))):Ah h0 Q (Al h1 (.ok v (Ab h)) k):=by simp[*]
def Ah6(hq:wrote h2.nx h1.lg=[])(hc:Ah h0 Q (k v h1)):Ah h0 Q (Al h2 (.ok v h1) k):=by rw[Si v _ _ k hq];omega
def Zx(hc:Ah h0 Q a):Ah h0 Q (Af (.bool true) a b):=hc
def Ae5(hc:Ah h0 Q b):Ah h0 Q (Af (.bool false) a b):=hc
def At5{c}(e:c=true->Ah h0 Q a)(d:c=false->Ah h0 Q b):Ah h0 Q (Af (.bool c) a b):=by
 cases c;. simp[*]
 simp_all
def AmM{c}(d:c=true->Ah h0 Q (Aa r k))(e:c=false->Ah h0 Q (k (.Bj []) h)):Ah h0 Q (Aa (Ad (.bool c) true r h) k):=by
 cases c;. simp[*]
 simp_all
def AmL{c}(d:c=true->Ah h0 Q (k (.Bj []) h))(e:c=false->Ah h0 Q (Aa r k)):Ah h0 Q (Aa (Ad (.bool c) false r h) k):=by
 cases c;. simp[*]
 simp_all
def AjF{c}(d:c=true->Ah h0 Q (Al h1 r k))(e:c=false->Ah h0 Q (Al h1 (.ok (.Bj []) h) k)):Ah h0 Q (Al h1 (Ad (.bool c) true r h) k):=by
 cases c;. simp[*]
 simp_all
def AjE{c}(d:c=true->Ah h0 Q (Al h1 (.ok (.Bj []) h) k))(e:c=false->Ah h0 Q (Al h1 r k)):Ah h0 Q (Al h1 (Ad (.bool c) false r h) k):=by
 cases c;. simp[*]
 simp_all
end
def Sl(s:Nat)(h:H)(v:AV)(len:Nat)(c:List AV):Prop:=
 (len=0/\c=[]/\v=.Bv)\/∃b off cap ex cs,v=.sl b off len cap s ex/\len<=cap/\Nv h b cs/\off+len*s<=cs.length/\(cs.drop off).take (len*s)=c
def Sl.By(o:Sl s h v len c)(e:Bi h h1):Sl s h1 v len c:=by
 rcases o with p|⟨b,off,cap,ex,cs,g,i,d,j⟩;. exact .inl p
 .exact .inr ⟨b,_,_,_,_,g,i,e.cont b _ d,j⟩
def Sl.gr(d:Sl s h v len c)(e:Ai h h1):Sl s h1 v len c:=d.By e.keeps
def Sl.Gs(d:Sl s h v len c):Fo v h1=.ok (.int .i64 len) h1:=by rcases d with⟨rfl,_,rfl⟩|⟨b,off,cap,ex,cs,rfl,_⟩<;>rfl
def Sl.Rv(d:Sl s h v len c):c.length=len*s:=by
 rcases d with⟨rfl,rfl,rfl⟩|⟨b,off,cap,ex,cs,g,i,e,j,q5⟩;. simp
 grind
def Sl.src(e:Sl s h v len c):Hd h s v=some (len,c):=by
 rcases e with⟨rfl,rfl,rfl⟩|⟨b,off,cap,ex,cs,rfl,g,d,i,q5⟩;. rfl
 .show(match h.rd b with|some c=>(Nf c ..).map _|none=>none)=_;rw[AaS,d.rd];simp[E5];grind
def Sl.ia(e:Sl s h v len c){i}(hi:i<len):∃b o cs,(∀h1,Gc s v (.int .i64 i) h1=.ok (.ptr b o) h1)/\Nv h b cs/\o+s<=cs.length/\(cs.drop o).take s=(c.drop (i*s)).take s:=by
 rcases e with⟨rfl,rfl,rfl⟩|⟨b,off,cap,ex,cs,rfl,g,d,p,q5⟩;. omega
 .have j:i*s+s<=len*s:=by have:=D2 s (show i+1<=len by omega);grind
  refine⟨b,_,_,λh1=>Agr s b _ _ _ s _ i hi,d,by omega,?_⟩;rw[<- q5,ea,de,au];grind
def Nv.many{b o n}{cs l}(hc:Nv h b cs)(i:o+n<=cs.length)(g:(cs.drop o).take n=l):∀d,Bi h d->Ae (some (some n)) (.ptr b o) d=.ok (.agg l) d:=λd e=>by rw[Nu,(e.cont b _ hc).rd,S9,AcC,E5,W5 i,g];rfl
def Nv.one{b o}{cs}(hc:Nv h b cs)(g:cs[o]?=some x):∀d,Bi h d->Ae (some none) (.ptr b o) d=.ok x d:=λd e=>by rw[Nu,(e.cont b _ hc).rd,S9,AlL,AhR,g];rfl
structure AsU(s:Nat)(h:H)(v:AV)(i:Nat)(l:List AV)(b o:Nat):Prop where
 ia:∀h1,Gc s v (.int .i64 (i:Int)) h1=.ok (.ptr b o) h1
 all:∀hh,Bi h hh->Ae (some (some s)) (.ptr b o) hh=.ok (.agg l) hh
 part:∀j x,l[j]?=some x->∀hh,Bi h hh->Ae (some none) (.ptr b (o+j)) hh=.ok x hh
 many:∀j n,j+n<=s->∀hh,Bi h hh->Ae (some (some n)) (.ptr b (o+j)) hh=.ok (.agg ((l.drop j).take n)) hh
def Sl.elem(g:Sl s h v len c){i}(hi:i<len){l}(q:(c.drop (i*s)).take s=l):∃b o,AsU s h v i l b o:=by
 obtain⟨b,o,cs,p,e,p3,d⟩:=g.ia hi;rw[q]at d;refine⟨b,o,p,e.many p3 d,λj x t=>e.one ?_,λj n hj=>e.many om ?_⟩;. grind
 .rw[<- d,ea,de,au];grind
def Afx{f:j->List AV}(d:∀a,(f a).length=s):∀(l:List _) i x,l[i]?=some x->((l.flatMap f).drop (i*s)).take s=f x:=by intro l;induction l with
|nil=>simp
|cons a l e=>intro i x g;cases i with
 |zero=>grind
 |succ i=>rw[dh,ag,Nat.one_mul,Nat.add_comm,<- au,List.drop_left' (d a)];simp_all
def Aa9{f:j->List AV}(e:∀a,(f a).length=s)(l:List _):(l.flatMap f).length=l.length*s:=by induction l with
|nil=>simp
|cons a l d=>grind
abbrev R0{α:Type}(s:Nat)(f:α->List AV)(h:H)(v:AV)(l:List α):Prop:=Sl s h v l.length (l.flatMap f)
def R0.elem{α}{f:α->List _}(e:∀a,(f a).length=s){l}(g:R0 s f h v l){i}{x}(d:l[i]?=some x):∃b o,AsU s h v i (f x) b o:=
 Sl.elem g (R4.1 d).1 (Afx e l i x d)
def Sl.lit{cs}{e}(d:h1.m.get h.nx=.cells cs e .exact)(hn:h1.nx=h.nx+1)(g:cs.length=len*s):Sl s h1 (.sl h.nx 0 len len s true) len cs:=
 .inr ⟨_,0,_,_,_,rfl,Yw _,⟨by omega,e,_,d,trivial⟩,by omega,by grind⟩
def Fm(s lo:Nat)(et:TypeId)(h:H)(v:AV)(len:Nat)(c:List AV):Prop:=
 (len=0/\c=[]/\v=.Bv)\/(len=0/\c=[]/\∃b off cs,v=.sl b off 0 0 s true/\Nv h b cs/\off<=cs.length) \/
 (∃b k st,v=.sl b 0 len len s false/\h.m.get b=.cells c et (.Gt k)/\h.m.get k=.Fb st/\lo<=b/\lo<=k/\b<h.nx/\k<h.nx/\b≠k/\c.length=len*s)
def Fm.sl{lo}{et}(e:Fm s lo et h v len c):Sl s h v len c:=by
 rcases e with h1|⟨rfl,rfl,b,off,cs,rfl,h2,j⟩|⟨b,k,st,rfl,d,i,o,q5,g,q,t,p⟩;. exact .inl h1
 .exact .inr ⟨b,_,0,_,_,rfl,Yw _,h2,by omega,by simp⟩
 .exact .inr ⟨b,0,_,_,c,rfl,Yw _,⟨g,_,_,d,trivial⟩,by omega,by grind⟩
def Fm.gr{lo}{et}(o:Fm s lo et h v len c)(e:Ai h h1):Fm s lo et h1 v len c:=by
 rcases o with h1|⟨rfl,rfl,b,off,cs,rfl,h2,i⟩|⟨b,k,st,rfl,u,t,j,q5,d,g,q,p⟩;. exact .inl h1
 .exact .inr (.inl ⟨rfl,rfl,b,_,_,rfl,e.keeps.cont b _ h2,i⟩)
 .exact .inr (.inr ⟨b,k,_,rfl,by rw[e.Cf b d];grind,by rw[e.Cf k g];omega,j,q5,Xq d e.lo,Xq g e.lo,q,p⟩)
def Fm.nil s lo et h:Fm s lo et h .Bv 0 []:=.inl ⟨rfl,rfl,rfl⟩
def Fm.one{lo}{et}(i:Fm s lo et h v len c){d}(q:d<=lo):Fm s d et h v len c:=by
 rcases i with h1|h1|⟨b,k,st,g,j,e,p,q5,o⟩;. exact .inl h1
 .exact .inr (.inl h1)
 .exact .inr (.inr ⟨b,k,_,g,j,e,by omega,by omega,o⟩)
structure A6E(lo:Nat)(h h':H):Prop where
 ex:∀(c:Nat) (cs:List AV) (e:TypeId),c<h.nx->h.m.get c=.cells cs e .exact->h'.m.get c=h.m.get c
 lg:∀x∈h'.lg,x∈h.lg\/(lo<=x/\∀cs e,h.m.get x≠.cells cs e .exact)\/h.nx<=x
def A6E.gr{lo:Nat}(g:Ai h h1):A6E lo h h1:=⟨λc _ _ hc _=>g.Cf c hc,λx d=>(g.lg x d).imp id .inr⟩
def Fm.BmA{bytes lo:Nat}{et:TypeId}(ho:Fm s lo et h x len c)(F6:Hd h s y=some (B1,c'))(Ox:c'.length=B1*s)(t:(len+B1)*(bytes+1)<1000000000000)(h1:Bm c'=true)(Kf:lo<=h.nx):
 ∃v h',Ds et s bytes x y h=.ok v h'/\Bi h h'/\(∀h0,h0.nx<=lo->Ai h0 h->Ai h0 h')/\Fm s lo et h' v (len+B1) (c++c')/\(∀b,b<lo->h'.m.get b=h.m.get b)/\A6E lo h h':=by
 have F:∀(cs:List AV) (o:Nat),cs.length=o*s->(grow h et s cs o=.ok (.sl (Nat.succ h.nx) 0 o o s false) ((h.new (.Fb 0)).new (.cells cs et (.Gt h.nx))))/\Ai h ((h.new (.Fb 0)).new (.cells cs et (.Gt h.nx)))/\Fm s lo et ((h.new (.Fb 0)).new (.cells cs et (.Gt h.nx))) (.sl (Nat.succ h.nx) 0 o o s false) o cs:=by
  intro cs o hn;refine⟨rfl,((Ai.refl h).new _).new _,.inr (.inr ⟨h.nx+1,h.nx,0,rfl,Bf (h:=h.new (.Fb 0)) _,?_,by omega,Kf,by show h.nx+1<h.nx+1+1;omega,by show h.nx<h.nx+1+1;omega,by omega,hn⟩)⟩
  rw[Cq (h:=h.new (.Fb 0)) _ h.nx (by show h.nx≠h.nx+1;omega)]
  exact Bf _
 rcases ho with⟨rfl,rfl,rfl⟩|⟨rfl,rfl,b,off,cs,rfl,h2,h3⟩|⟨b,k,st,rfl,u,z,q4,q5,q6,q7,q8,O⟩
 .rw[Rx]at t ⊢;rw[I3];have C:Ds et s bytes .Bv y h=(match Hd h s y with
   |some (n,new)=>C6 (C6 (.bad 120) (C6 (.bad 120) (grow h et s new n) (Bm new)) (Gj (n*(bytes+1)))) (.ok .Bv h) (Nat.beq n 0)
   |none=>.bad 123):=rfl
  rw[C,F6];by_cases h0:B1=0
  .subst h0;have A:c'=[]:=M8.1 om;subst A;exact⟨_,_,rfl,Bi.refl h,λ_ _ e=>e,Fm.nil ..,λ_ _=>rfl,A6E.gr (Ai.refl h)⟩
  .obtain⟨V,g,K⟩:=F c' B1 Ox;have h2:Nat.beq B1 0=false:=by cases B1 with|zero=>omega|succ k=>rfl
   simp only[h2,h1,Fi,Ws t];exact⟨_,_,V,g.keeps,λh0 _ e=>e.trans g,K,λb t=>g.Cf b om,A6E.gr g⟩
 .rw[Rx]at t ⊢;rw[I3];have C:Ds et s bytes (.sl b off 0 0 s true) y h=(match Hd h s y with
   |some (n,new)=>C6 (.bad 121) (C6 (.bad 121) (C6 (.bad 121) (Lg ⟨et,s,bytes⟩ b off 0 0 s true n new h) (Nat.beq s s)) (Bm new)) (Gj ((0+n)*(bytes+1)))
   |none=>.bad 123):=rfl
  rw[C,F6];simp only[h1,Fi,Rx,Ws t,Fe];by_cases h0:B1=0
  .subst h0;have A:c'=[]:=M8.1 om;subst A;exact⟨_,_,rfl,Bi.refl h,λ_ _ e=>e,.inr (.inl ⟨rfl,rfl,b,off,cs,rfl,h2,h3⟩),λ_ _=>rfl,A6E.gr (Ai.refl h)⟩
  .obtain⟨V,g,K⟩:=F c' B1 Ox;have U:Nat.ble (Nat.add 0 B1) 0=false:=by
    cases i:Nat.ble (Nat.add 0 B1) 0 with
    |false=>rfl
    |true=>have:0+B1<=0:=Ew i;omega
   have M:(C6 (.bad 121) (C6 (.bad 121) (C6 (.bad 121) (Lg ⟨et,s,bytes⟩ b off 0 0 s true B1 c' h) true) true) true:OR)=grow h et s c' B1:=by show(C6 _ _ (Nat.ble (Nat.add 0 B1) 0):OR)=_;rw[U];show Sf ⟨et,s,bytes⟩ b off 0 (Nat.add 0 B1) c' h=_;unfold Sf;rw[AaS,h2.rd];have h5:Nat.add 0 B1=B1:=Rx B1;simp only[E5,h5,ep,Mz,h3,Jr,List.take_zero,Dl,I3]
   rw[M];exact⟨_,_,V,g.keeps,λh0 _ e=>e.trans g,K,λb t=>g.Cf b om,A6E.gr g⟩
 .have C:Ds et s bytes (.sl b 0 len len s false) y h=(match Hd h s y with
   |some (n,new)=>C6 (.bad 121) (C6 (.bad 121) (C6 (.bad 121) (Lg ⟨et,s,bytes⟩ b 0 len len s false n new h) (Nat.beq s s)) (Bm new)) (Gj ((len+n)*(bytes+1)))
   |none=>.bad 123):=rfl
  rw[C,F6];simp only[h1,Fi,Ws t,Fe];by_cases h0:B1=0
  .subst h0;have A:c'=[]:=M8.1 om;subst A;refine⟨.sl b 0 (len+0) len s false,h,?_,Bi.refl h,λ_ _ e=>e,.inr (.inr ⟨b,k,st,rfl,by rw[F0];exact u,z,q4,q5,q6,q7,q8,by rw[F0];exact O⟩),λ_ _=>rfl,A6E.gr (Ai.refl h)⟩;show(C6 _ _ (Nat.ble (Nat.add len 0) len):OR)=_;rw[show Nat.ble (Nat.add len 0) len=true from br (Yw _)]
   rfl
  .have U:Nat.ble (Nat.add len B1) len=false:=by
    cases i:Nat.ble (Nat.add len B1) len with
    |false=>rfl
    |true=>have:len+B1<=len:=Ew i;omega
   have M:(C6 (.bad 121) (C6 (.bad 121) (C6 (.bad 121) (Lg ⟨et,s,bytes⟩ b 0 len len s false B1 c' h) true) true) true:OR)=.ok (.sl h.nx 0 (len+B1) (len+B1) s false) (((h.put b (.cells c et (.Cf k st))).put k (.Fb st)).new (.cells (c++c') et (.Gt k))):=by show(C6 _ _ (Nat.ble (Nat.add len B1) len):OR)=_;rw[U];show Ny ⟨et,s,bytes⟩ b 0 len (Nat.add len B1) c' h=_;unfold Ny;rw[u];simp only[z,Sn,E5,O,Rx,Yw,Jr,Gh,Fe,Dl];rfl
   rw[M];have I:∀j,j<h.nx->j≠b->j≠k->(((h.put b (.cells c et (.Cf k st))).put k (.Fb st)).new (.cells (c++c') et (.Gt k))).m.get j=h.m.get j:=λj h5 h6 h7=>by rw[Cq (h:=(h.put b (.cells c et (.Cf k st))).put k (.Fb st)) _ j (by show j≠h.nx;omega),Aq _ _ _ h7,Aq _ _ _ h6]
   have A3M:(((h.put b (.cells c et (.Cf k st))).put k (.Fb st)).new (.cells (c++c') et (.Gt k))).m.get b=.cells c et (.Cf k st):=by rw[Cq (h:=(h.put b (.cells c et (.Cf k st))).put k (.Fb st)) _ b (by show b≠h.nx;omega),Aq _ _ _ q8,A2]
   have p:(((h.put b (.cells c et (.Cf k st))).put k (.Fb st)).new (.cells (c++c') et (.Gt k))).m.get k=.Fb st:=by rw[Cq (h:=(h.put b (.cells c et (.Cf k st))).put k (.Fb st)) _ k (by show k≠h.nx;omega),A2]
   refine⟨_,_,rfl,⟨by show h.nx<=h.nx+1;omega,λj cs hj=>?_⟩,λh0 hh0 e=>((e.put b _ om).put k _ om).new _,.inr (.inr ⟨h.nx,k,st,rfl,Bf (h:=(h.put b (.cells c et (.Cf k st))).put k (.Fb st)) _,p,Kf,q5,by show h.nx<h.nx+1;omega,by show k<h.nx+1;omega,by omega,by rw[X8,O,Ox,ag]⟩),λj hj=>I j om om om,⟨λj cs e hj d=>I j hj (λq=>by rw[q,u]at d;cases d) (λq=>by rw[q,z]at d;cases d),λx i=>?_⟩⟩
   .refine⟨by show j<h.nx+1;have:=hj.lt;omega,?_⟩
    obtain⟨e,kk,r1,E⟩:=hj.cells;by_cases D:j=b
    .subst D;rw[u]at r1;cases r1;exact⟨et,.Cf k st,A3M,by show k<h.nx+1;omega,p⟩
    .have L:j≠k:=λq=>by rw[q,z]at r1;cases r1
     refine⟨e,kk,by rw[I j hj.lt D L];exact r1,?_⟩;cases kk with
     |Cf J st2=>
      refine⟨by show J<h.nx+1;have:=E.1;omega,?_⟩
      by_cases Z0:J=k
      .subst Z0;rw[p,<- z];exact E.2
      .have hkb:J≠b:=λq=>by have:=E.2;rw[q,u]at this;cases this
       rw[I J E.1 hkb Z0];exact E.2
     |_=>trivial
   .rcases Tu.1 (show x∈k::b::h.lg from i)with rfl|i
    .exact .inr (.inl ⟨q5,λcs e d=>by rw[z]at d;cases d⟩)
    .rcases Tu.1 i with rfl|i
     .exact .inr (.inl ⟨q4,λcs e d=>by rw[u]at d;cases d⟩)
     .exact .inl i
def Fm.AbQ{bytes lo:Nat}{et:TypeId}(t:Fm s lo et h x len c)(p:Hd h s y=some (B1,c'))(j:c'.length=B1*s)(d:(len+B1)*(bytes+1)<1000000000000)(h1:Bm c'=true)(g:lo<=h.nx):
 ∃v h',Ds et s bytes x y h=.ok v h'/\Bi h h'/\(∀h0,h0.nx<=lo->Ai h0 h->Ai h0 h')/\Fm s lo et h' v (len+B1) (c++c')/\(∀b,b<lo->h'.m.get b=h.m.get b):=by
 obtain⟨v,h',i,q,e,o,q5,_⟩:=t.BmA p j d h1 g;exact⟨v,h',i,q,e,o,q5⟩
def Bbe(x:Option (List AV))(o n:Nat)(v:AV)(h:H):OR:=match x with
|some c=>if o+n<=c.length then .ok (.Bj [.agg ((c.drop o).take n),v]) h else .bad 197
|none=>.bad 197
@[simp] theorem AoF(c:List AV)(o n:Nat)(v:AV):Bbe (some c) o n v h=if o+n<=c.length then .ok (.Bj [.agg ((c.drop o).take n),v]) h else .bad 197:=rfl
@[simp] theorem Bii(b o n:Nat)(v:AV):Vk [.c (some (some n)) (.ptr b o),.v v] h=Bbe (rdO (h.m.get b) h) o n v h:=by
 show(match (match (match h.rd b with|some c=>Tn (some (some n)) c o|none=>none),(some [v]:Option (List AV))with|some v,some l=>some (v::l)|_,_=>none)with|some l=>OR.ok (single l) h|none=>.bad 197)=_
 rw[AaS]
 cases rdO (h.m.get b) h with
 |none=>rfl
 |some c=>
  show(match (match (Nf c o n).map AV.agg,(some [v]:Option (List AV))with|some v,some l=>some (v::l)|_,_=>none)with|some l=>OR.ok (single l) h|none=>.bad 197)=_
  rw[E5]
  by_cases hh:o+n<=c.length
  .rw[W5 hh,AoF,W5 hh];rfl
  .rw[X2 hh,AoF,X2 hh];rfl
def Sg{bytes lo b off}{et}{cs}(h2:Nv h b cs)(d:off<=cs.length)(p:Hd h s y=some (B1,c'))(j:c'.length=B1*s)(g:B1*(bytes+1)<1000000000000)(h1:Bm c'=true)(i:lo<=h.nx):
 ∃v h',Ds et s bytes (.sl b off 0 0 s true) y h=.ok v h'/\Ai h h'/\Fm s lo et h' v B1 c':=by
 have o:Ds et s bytes (.sl b off 0 0 s true) y h=match Hd h s y with
  |some (n,new)=>C6 _ ..
  |none=>.bad _:=rfl;rw[o,p];simp[h1,Fi,Rx,Ws g,Fe];by_cases h0:B1=0;. subst h0;have e:c'=[]:=M8.1 om;subst e;exact⟨_,_,rfl,Ai.refl h,.inr (.inl ⟨rfl,rfl,b,_,_,rfl,h2,d⟩)⟩
 .have u:Nat.ble (Nat.add 0 B1) 0=false:=by cases z:Nat.ble _ 0 with
   |false=>rfl
   |true=>simp_all
  have q:C6 (.bad 121) (C6 (.bad 121) (C6 (.bad 121) (Lg ⟨et,s,bytes⟩ b off 0 0 s true B1 c' h) true) true) true=grow h et s c' B1:=by show C6 _ _ (Nat.ble _ 0)=_;rw[u];unfold Sf;rw[AaS,h2.rd];have t:Nat.add 0 _=B1:=Rx _;simp[E5,t,ep,Mz,d,Jr,List.take_zero,Dl,I3]
  rw[q];refine⟨_,_,rfl,((Ai.refl h).new _).new _,.inr (.inr ⟨_,_,0,rfl,Bf _,?_,by omega,i,by simp,by simp_all;omega,by simp,j⟩)⟩;rw[Cq _ _ (by simp)];simp
def Nn{b off cap d l u}{ex}(h1:l<=u)(h2:u<=cap):AkE b off cap d ex l u h=if l<cap then .ok (.sl b (off+l*d) (u-l) (cap-l) d ex) h else if ex=true then .ok (.sl b off 0 0 d true) h else if l=0 then .ok (.sl b off 0 0 d ex) h else .ok (.sl b (off+1) 0 0 0 false) h:=by
 show Bool.rec _ ..=_;rw[show Nat.ble l u=true by simp[*],show Nat.ble u _=true by simp_all];by_cases e:l<cap;. rw[W5 e,show Nat.blt l _=true by simp[*]];rfl
 .rw[X2 e,show Nat.blt l _=false by cases g:Nat.blt l _ with
   |false=>rfl
   |true=>simp_all;omega];cases ex with
  |true=>rfl
  |false=>
   by_cases i:l=0;. simp_all
   .have:Nat.beq l 0=false:=by cases l with|zero=>omega|succ k=>rfl
    simp_all
def Ads{t e}{bytes}(d:Hp P t=.sl ⟨e,s,bytes⟩):xSl P t .Bv none (some (.int .i64 0)) h=.ok .Bv h:=by have g:vL (ev (.tmp 0) (fr Az [(0,.Bv),(1,.top),(2,.int .i64 0)]))=.nil:=rfl;have e1:bnd (fr Az [(0,.Bv),(1,.top),(2,.int .i64 0)]) none 0=some 0:=rfl;have i:bnd (fr Az [(0,.Bv),(1,.top),(2,.int .i64 0)]) (some (.tmp 2)) 0=some 0:=rfl;show G5 t (.tmp 0) none (some (.tmp 2)) none 0 P Q7 (fr Az [(0,.Bv),(1,.top),(2,.int .i64 0)]) h=_;unfold G5;grind
def B8{Q}{lg}{d}{k}(e:Lh d=true)(g:Ah h0 Q (k (Be (En d lg) h))):Ah h0 Q (Ff lg d h k):=by rw[So e];omega
def Ai.reC{c}{l}(e:Ai h (Go.Ev.Be l h1))(hc:h.nx<=c):Ai h (Go.Ev.Be (c::l) h1):=⟨e.lo,e.Cf,λx d=>by
 rcases Tu.1 d with rfl|d;. omega
 .exact e.lg x d⟩
end Go.Ev.Sx
namespace Go.Ev
variable {j:FuncId}
variable [Ii]
variable {P:Program}{G:Nat}{σ σ':Dx}{h h':H}{w w':World}{v:AV}{Z:Ac}
def Plain(x:AV):Prop:=∀σ d v,Au σ x v->Au d x v
def Plain.bool(b:Bool):Plain (.bool b):=λ_ _ v h=>by cases h;exact .bool b
def Plain.int(k:IntKind)(n:Int):Plain (.int k n):=λ_ _ v h=>by cases h;exact .int k n
def Plain.str(s:List Nat):Plain (.str s):=λ_ _ v h=>by cases h;exact .str _
def Plain.Iy:Plain .Iy:=λ_ _ v h=>by cases h;exact .Iy
def Plain.B3:Plain .B3:=λ_ _ v h=>by cases h;exact .B3
def Plain.I6{t:TypeId}{x:AV}(d:Plain x):Plain (.I6 t x):=λσ e v h=>by cases h with|I6 t x v' h'=>exact .I6 _ _ _ (d σ e _ h')
def Plain.agg{l:List AV}(g:∀x∈l,Plain x):Plain (.agg l):=λσ e v h=>by cases h with|agg cs D7 h1 h2=>exact .agg _ _ h1 λi x y d hy=>g x (Vl d) σ e _ (h2 i x y d hy)
def Plain.Bj{l:List AV}(g:∀x∈l,Plain x):Plain (.Bj l):=λσ e v h=>by cases h with|Bj cs D7 h1 h2=>exact .Bj _ _ h1 λi x y d hy=>g x (Vl d) σ e _ (h2 i x y d hy)
def Plain.fn{f:Fn}{l1 g:List AV}(o:∀l,f≠.yield l)(p:∀x∈l1,Plain x)(hc:∀x∈g,Plain x):Plain (.fn f l1 g):=λσ j v h=>by
 cases h with
 |fn f0 c1 c2 d1 d2 q h1 h2 t u=>exact .fn _ _ _ _ _ o h1 (λi x y d hy=>p x (Vl d) σ j _ (h2 i x y d hy)) t (λi x y d hy=>hc x (Vl d) σ j _ (u i x y d hy))
 |yld l e h'=>exact absurd rfl (o l)
def I7(l:List AV):Prop:=∀x∈l,Plain x
def I7.rel{l:List AV}{a:List Value}(g:I7 l)(σ e:Dx)(h:Bk σ l a):Bk e l a:=⟨h.1,λi x y d hy=>g x (Vl d) σ e _ (h.2 i x y d hy)⟩
def I7.nil:I7 []:=λ_ h=>by cases h
def I7.cons{x:AV}{l:List AV}(d:Plain x)(e:I7 l):I7 (x::l):=λy h=>by
 rcases Tu.1 h with rfl|h
 .exact d
 .exact e y h
structure A6W(P:Program)(Z:Ac)(g:FuncId)(args:List AV)(v:AV):Prop where
 ran:∃h1,Z.call g args (glH [] P.globals.size)=.ok v h1/\h1.nx<=Bq/\∀x∈h1.lg,P.globals.size<=x
def Ah1:P8 P.globals.size []=true:=rfl
def Aks(hc:Bd P P.globals.size Z)(hn:P.globals.size<=Bq){g}{args}{v}(A:Bg P g=true)(D:Plain v)(q:A6W P Z g args v):Nx P [] ⟨g,args,v⟩:=by
 obtain⟨h1,C,z,J⟩:=q.ran;intro w An kind L M;obtain⟨i,I⟩:=AkL L hn Ah1;have j:Fx (Y0 P.globals.size w) (glH [] P.globals.size) h1:=by intro x h2 h3;have V:P.globals.size<=x:=h2;unfold Y0;grind
 obtain⟨U,v',w',a',fn,K,t,F,O,q5,u⟩:=hc.call g _ _ _ v _ w _ _ C A (M _) i I z j;obtain⟨nw,E,s2,s3⟩:=F;have p:h1.lg=nw:=by rw[E.lg];simp[glH]
 refine⟨_,_,_,_,K,λσ=>D _ _ _ t,⟨s2.grow,λc d=>s2.frame c d ?_,s2.io⟩,O,q5,u⟩;intro x hx e o;have h5:=(Gm o).1;grind
abbrev Df:=FuncId->List AV->Option AV
structure P3(P:Program)(T:Df):Prop where
 ok:∀g args v,T g args=some v->Nx P [] ⟨g,args,v⟩/\I7 args
def P3.none:P3 P (λ_ _=>none):=⟨λ_ _ _ h=>by cases h⟩
def AxJ(T:Df)(Z:Ac):Ac:=⟨λg args h=>@Option.rec _ (λ_=>OR) (Z.call g args h) (λv=>.ok v h) (T g args),Z.round⟩
def cD(P:Program)(T:Df)(d:Nat):Ac:=@Nat.rec (λ_=>Ac) Q7 (λ_ e=>AxJ T ⟨Fy P e,Io P e⟩) d
variable {T:Df}
def Am8(hc:Dw Z):Dw (AxJ T Z):=by refine⟨λg args h v h' i=>?_,hc.round⟩;have d:@Option.rec _ (λ_=>OR) _ ..=.ok v _:=i;cases e:T g _ with
|none=>rw[e]at d;exact hc.call g _ h v _ d
|some u=>rw[e]at d;obtain⟨_,rfl⟩:=B4 d;simp
def Aj5(hc:Bd P P.globals.size Z)(D:P3 P T):Bd P P.globals.size (AxJ T Z):=by
 refine⟨?_,λl args h h' v σ w An e q=>hc.round l args h h' v σ w An e q,Am8 hc.mono⟩;intro g args h h' v σ w An kind q J A d z F U;have j:(@Option.rec _ (λ_=>OR) (Z.call g args h) (λv=>.ok v h) (T g args):OR)=.ok v h':=q;cases t:T g args with
 |none=>rw[t]at j;exact hc.call g args h h' v σ w An kind j J A d z F U
 |some u=>
  rw[t]at j;obtain⟨rfl,rfl⟩:=B4 j;obtain⟨O,E⟩:=D.ok g args u t;obtain⟨v',w',K,fn,r1,I,i,r4,M,L⟩:=O w An kind (Akl d z Ah1 rfl) (λV=>E.rel _ _ A);refine⟨σ,v',w',K,fn,r1,I σ,⟨[],J6.refl d.ai,⟨Qq.refl σ,λx e h1 h2=>(by rw[h1]at h2;cases h2),⟨d.so.inj,λx e o=>Xq (d.so.rng x e o) i.grow,d.so.low⟩,i.grow,λc p _=>i.same c p,
   λx e h1 h2=>(by rw[h1]at h2;cases h2),i.io⟩,?_⟩,r4,M,L⟩
  intro x e o;exact Gr.congr (Qq.refl σ) (i.same e.c (d.so.rng x e o)) (λ_ _ _ _ _ C=>C) (d.ma x e o)
def Xh(g:P.follows .mixedOrders=true)(i:Mv P=true)(j:P3 P T) d:Bd P P.globals.size (cD P T d):=by induction d with
|zero=>exact Acd g i 0
|succ d e=>exact Aj5 (ApK e g i ⟨N9 e.mono,Mj e.mono⟩) j
def Ate{d:Nat}{args:List AV}(h:H)(e:T j args=some v):(cD P T (d+1)).call j args h=.ok v h:=by show(@Option.rec _ (λ_=>OR) (Fy P (cD P T d) j args h) (λv=>.ok v h) (T j args):OR)=.ok v h;rw[e]
def Atd{d:Nat}{args:List AV}(h:H)(e:T j args=none):(cD P T (d+1)).call j args h=Fy P (cD P T d) j args h:=by show(@Option.rec _ (λ_=>OR) (Fy P (cD P T d) j args h) (λv=>.ok v h) (T j args):OR)=_;rw[e]
def Df.ext(T:Df)(g:FuncId)(S:List AV->Option AV):Df:=λd args=>@Bool.rec (λ_=>Option AV) (T d args) (S args) (Nat.beq d g)
def Ahs(g:FuncId)(S:List AV->Option AV)(args:List AV):T.ext g S g args=S args:=by unfold Df.ext;rw[Fe]
def Aew{d:FuncId}(S:List AV->Option AV)(args:List AV)(i:d≠j):T.ext j S d args=T d args:=by
 unfold Df.ext;have:Nat.beq d j=false:=by
  cases e:Nat.beq d j with
  |false=>rfl
  |true=>exact absurd (ao e) i
 rw[this]
def P3.ext(e:P.follows .mixedOrders=true)(i:Mv P=true)(hn:P.globals.size<=Bq)(j:P3 P T){g}{S}(q:Bg P g=true)
 (hs:∀args v,S args=some v->I7 args/\Plain v/\∃d h1,Fy P (cD P T d) g args (glH [] P.globals.size)=.ok v h1/\h1.nx<=Bq/\∀x∈h1.lg,P.globals.size<=x):P3 P (T.ext g S):=by
 refine⟨λA args v o=>?_⟩;by_cases p:A=g;. subst p;rw[Ahs]at o;obtain⟨h1,h2,d,C,z,u,t⟩:=hs _ v o;have hc:=ApK (Xh e i j d) e i ⟨N9 (Xh e i j d).mono,Mj (Xh e i j d).mono⟩;exact⟨Aks hc hn q h2 ⟨⟨_,z,u,t⟩⟩,h1⟩
 .rw[Aew _ _ p]at o;exact j.ok _ _ v o
end Go.Ev
namespace Go.Ev
open Sx
def C9{h}:(∀o,(h.new o).nx=h.nx+1)/\(∀b o,(h.put b o).nx=h.nx)/\(Ab h).nx=h.nx/\∀lg,(Be lg h).nx=h.nx:=⟨λ_=>rfl,λ_ _=>rfl,rfl,λ_=>rfl⟩
def Bt:(∀p [Decidable p],(decide p=true)=p)/\(∀p [Decidable p],(decide p=false)=¬ p)/\(∀b,((!b)=true)=(b=false))/\(∀b,((!b)=false)=(b=true))/\(∀b,¬ b=true=(b=false))/\∀b,¬ b=false=(b=true):=by simp
def lc:(∀d l off,Ng l d off=if off+d.length<=l.length then some (l.take off++d++l.drop (off+d.length))else none)/\∀l off n,Nf l off n=if off+n<=l.length then some ((l.drop off).take n)else none:=⟨Kh,E5⟩
def lw:(∀d l off,Ng l d off=if off+d.length<=l.length then some (l.take off++d++l.drop (off+d.length))else none)/\(∀l off n,Nf l off n=if off+n<=l.length then some ((l.drop off).take n)else none)/\∀n,-9223372036854775808<=n->n<=9223372036854775807->E1 .i64 n=n:=⟨Kh,E5,Cr⟩
def Ce{p:Prop}(q:p:=by first|omega|(simp only[C9];omega)):p:=q
def M0{h h':H}(q:Sx.Bi h h':=by first|((first|exact Sx.Bi.refl _|assumption|(repeat' (first|assumption|exact Sx.Bi.refl _|exact Sx.Ai.refl _|with_reducible apply Sx.Bi.nl|with_reducible apply Sx.Bi.Be|with_reducible apply Sx.Ai.nl|with_reducible apply Sx.Ai.Be|(with_reducible refine Sx.Ai.reC ?_ ?_)|(with_reducible refine Sx.Bi.trans ?_ (Sx.Ai.keeps (by assumption)))|(with_reducible apply Sx.Ai.keeps)|with_reducible apply Sx.Ai.new|(with_reducible refine Sx.Ai.put ?_ _ _ ?_)|(with_reducible refine Sx.Ai.trans ?_ (by assumption))|omega|(simp only[C9];omega))));done)|fail):Sx.Bi h h':=q
def Ex{h h':H}(q:Sx.Ai h h':=by first|((repeat' (first|assumption|exact Sx.Ai.refl _|with_reducible apply Sx.Ai.nl|with_reducible apply Sx.Ai.Be|(with_reducible refine Sx.Ai.reC ?_ ?_)|with_reducible apply Sx.Ai.new|(with_reducible refine Sx.Ai.put ?_ _ _ ?_)|(with_reducible refine Sx.Ai.trans ?_ (by assumption))|omega|(simp only[C9];omega)));done)|fail):Sx.Ai h h':=q
def dA{p:Prop}(q:p:=by first|omega|(simp only[C9];omega)|((first|exact Sx.Bi.refl _|assumption|(repeat' (first|assumption|exact Sx.Bi.refl _|exact Sx.Ai.refl _|with_reducible apply Sx.Bi.nl|with_reducible apply Sx.Bi.Be|with_reducible apply Sx.Ai.nl|with_reducible apply Sx.Ai.Be|(with_reducible refine Sx.Ai.reC ?_ ?_)|(with_reducible refine Sx.Bi.trans ?_ (Sx.Ai.keeps (by assumption)))|(with_reducible apply Sx.Ai.keeps)|with_reducible apply Sx.Ai.new|(with_reducible refine Sx.Ai.put ?_ _ _ ?_)|(with_reducible refine Sx.Ai.trans ?_ (by assumption))|omega|(simp only[C9];omega))));done)|fail):p:=q
def G9{p:Prop}(q:p:=by first|(simp;done)|(simp;omega)|(intro y hy;simp at hy;(first|exact .inl hy|exact .inr om|(rcases hy with hy|hy;exact .inr om;exact .inl hy)|(rcases hy with hy|hy|hy;exact .inr om;exact .inr om;exact .inl hy)))|fail):p:=q
def Afw{p:Prop}(q:p:=by first|(simp;done)|(simp;omega)|(intro y hy;simp at hy;(first|exact .inl hy|exact .inr om|(rcases hy with hy|hy;exact .inr om;exact .inl hy)|(rcases hy with hy|hy|hy;exact .inr om;exact .inr om;exact .inl hy)))|(simp only[W8,X9]at *;simp[*];done)|(simp_all;done)|(simp_all;omega)|fail):p:=q
section
variable {Q R:AV->H->Prop}{r r':OR}{k:AV->H->OR}{h h0 h1 h2:H}{v x y:AV}{a b:OR}{c w:Bool}{l:List RX}{n:Nat}
def A7(hc:Ah h0 Q (k v h)):Ah h0 Q (Aa (.ok v h) k):=hc
def A8(hc:Ah h0 Q (k v (Ab h))):Ah h0 Q (Al h1 (.ok v (Ab h)) k):=Acw hc
def A9(hc:Ah h0 Q a):Ah h0 Q (Af (.bool true) a b):=hc
def Ba(hc:Ah h0 Q b):Ah h0 Q (Af (.bool false) a b):=hc
def Cu(hc:Ah h0 Q (.ok v h)):Ah h0 Q (.ok v h):=hc
def Cv(hq:wrote h2.nx h1.lg=[])(hc:Ah h0 Q (k v h1)):Ah h0 Q (Al h2 (.ok v h1) k):=Ah6 hq hc
def Cw(e:c=true->Ah h0 Q a)(d:c=false->Ah h0 Q b):Ah h0 Q (Af (.bool c) a b):=At5 e d
def Cx(hc:Ah h0 Q (Af (.bool c) a b)):Ah h0 Q (Af (.bool c) a b):=hc
def Cy(e:r=r')(hc:Ah h0 Q (Aa r' k)):Ah h0 Q (Aa r k):=e ▸ hc
def Cz(e:r=r')(hc:Ah h0 Q (Al h r' k)):Ah h0 Q (Al h r k):=e ▸ hc
def C0(e:x=y)(hc:Ah h0 Q (Af y a b)):Ah h0 Q (Af x a b):=e ▸ hc
def C1(e:Vk l h=r)(hc:Ah h0 Q r):Ah h0 Q (Vk l h):=e ▸ hc
def Fj(d:Ah h R r)(g:∀v h1,Ai h h1->h.nx<=h1.nx->(∀b,b<h.nx->h1.m.get b=h.m.get b)->R v h1->Ah h0 Q (k v h1)):Ah h0 Q (Aa r k):=X0 d λv h1 e q=>g v h1 e e.lo e.Cf q
def zc2(d:Ah (Ab h) R r)(g:∀v h1,Ai h h1->h.nx<=h1.nx->(∀b,b<h.nx->h1.m.get b=h.m.get b)->R v h1->Ah h0 Q (k v h1)):Ah h0 Q (Al h r k):=Aqb d λv h1 e=>g v _ e e.lo e.Cf
def C2(d:c=true->Ah h0 Q (Aa r k))(e:c=false->Ah h0 Q (k (.Bj []) h)):Ah h0 Q (Aa (Ad (.bool c) true r h) k):=AmM d e
def C3(d:c=true->Ah h0 Q (k (.Bj []) h))(e:c=false->Ah h0 Q (Aa r k)):Ah h0 Q (Aa (Ad (.bool c) false r h) k):=AmL d e
def C4(d:c=true->Ah h0 Q (Al h1 r k))(e:c=false->Ah h0 Q (Al h1 (.ok (.Bj []) h) k)):Ah h0 Q (Al h1 (Ad (.bool c) true r h) k):=AjF d e
def C5(d:c=true->Ah h0 Q (Al h1 (.ok (.Bj []) h) k))(e:c=false->Ah h0 Q (Al h1 r k)):Ah h0 Q (Al h1 (Ad (.bool c) false r h) k):=AjE d e
def Kl(e:Ad x w r h=r')(hc:Ah h0 Q (Aa r' k)):Ah h0 Q (Aa (Ad x w r h) k):=e ▸ hc
def Km(e:Ad x w r h=r')(hc:Ah h0 Q (Al h1 r' k)):Ah h0 Q (Al h1 (Ad x w r h) k):=e ▸ hc
def zw:(∀r h,Ad (.bool true) true r h=r)/\(∀r h,Ad (.bool true) false r h=.ok (.Bj []) h)/\(∀r h,Ad (.bool false) false r h=r)/\∀r h,Ad (.bool false) true r h=.ok (.Bj []) h:=⟨λ_ _=>rfl,λ_ _=>rfl,λ_ _=>rfl,λ_ _=>rfl⟩
def zr(e:Ai h0 h)(hq:Q v h):Ah h0 Q (.ok v h):=Lo e hq
def Ee(hc:Sx.Comes (k v h) Q):Sx.Comes (Aa (.ok v h) k) Q:=hc
def Ef(hc:Sx.Comes (k v (Ab h)) Q):Sx.Comes (Al h0 (.ok v (Ab h)) k) Q:=O5 hc
def Eg(hc:Sx.Comes a Q):Sx.Comes (Af (.bool true) a b) Q:=hc
def Eh(hc:Sx.Comes b Q):Sx.Comes (Af (.bool false) a b) Q:=hc
def Ks(hc:Sx.Comes (.ok v h) Q):Sx.Comes (.ok v h) Q:=hc
def Kt(hq:wrote h0.nx h1.lg=[])(hc:Sx.Comes (k v h1) Q):Sx.Comes (Al h0 (.ok v h1) k) Q:=Aca hq hc
def Ku(e:c=true->Sx.Comes a Q)(d:c=false->Sx.Comes b Q):Sx.Comes (Af (.bool c) a b) Q:=Aj2 e d
def Kv(e:r=r')(hc:Sx.Comes (Aa r' k) Q):Sx.Comes (Aa r k) Q:=e ▸ hc
def Kw(e:r=r')(hc:Sx.Comes (Al h r' k) Q):Sx.Comes (Al h r k) Q:=e ▸ hc
def Kx(e:x=y)(hc:Sx.Comes (Af y a b) Q):Sx.Comes (Af x a b) Q:=e ▸ hc
def K0(e:Vk l h=r)(hc:Sx.Comes r Q):Sx.Comes (Vk l h) Q:=e ▸ hc
def K7(d:c=true->Sx.Comes (Aa r k) Q)(e:c=false->Sx.Comes (k (.Bj []) h) Q):Sx.Comes (Aa (Ad (.bool c) true r h) k) Q:=Afs d e
def K8(d:c=true->Sx.Comes (k (.Bj []) h) Q)(e:c=false->Sx.Comes (Aa r k) Q):Sx.Comes (Aa (Ad (.bool c) false r h) k) Q:=Afr d e
def K9(d:c=true->Sx.Comes (Al h0 r k) Q)(e:c=false->Sx.Comes (Al h0 (.ok (.Bj []) h) k) Q):Sx.Comes (Al h0 (Ad (.bool c) true r h) k) Q:=AdC d e
def Ld(d:c=true->Sx.Comes (Al h0 (.ok (.Bj []) h) k) Q)(e:c=false->Sx.Comes (Al h0 r k) Q):Sx.Comes (Al h0 (Ad (.bool c) false r h) k) Q:=AdB d e
def J4(hc:Cb n h0 Q (k v h)):Cb n h0 Q (Aa (.ok v h) k):=hc
def J1(hc:Cb n h0 Q (k v (Ab h))):Cb n h0 Q (Al h1 (.ok v (Ab h)) k):=Zv hc
def J5(hc:Cb n h0 Q a):Cb n h0 Q (Af (.bool true) a b):=hc
def Ko(hc:Cb n h0 Q b):Cb n h0 Q (Af (.bool false) a b):=hc
def Y7(hq:wrote h2.nx h1.lg=[])(hc:Cb n h0 Q (k v h1)):Cb n h0 Q (Al h2 (.ok v h1) k):=AdF hq hc
def Wx(e:r=r')(hc:Cb n h0 Q (Aa r' k)):Cb n h0 Q (Aa r k):=e ▸ hc
def Vz(e:r=r')(hc:Cb n h0 Q (Al h r' k)):Cb n h0 Q (Al h r k):=e ▸ hc
def Wy(e:x=y)(hc:Cb n h0 Q (Af y a b)):Cb n h0 Q (Af x a b):=e ▸ hc
end
structure El(p:Prop):Prop where
 g:p
def wk{G d:Prop}(g:d)(e:El d->G:=by
 intro O0;(first
  |(with_reducible (first|apply A7|apply A8|apply A9|apply Ba))
  |(with_reducible (first|apply Kl|apply Km);(conv=>lhs;simp only[zw, *]))
  |(with_reducible (first|apply Cy|apply Cz|apply C0|apply C1);(conv=>lhs;simp(disch:=first|exact dA|fail) [lw, *]);with_reducible (first|apply A7|apply A8|apply A9|apply Ba|apply Cu|(refine Cv (by simp) ?_)|fail))
  |(with_reducible (first|apply C2|apply C3|apply C4|apply C5|apply Cw);(first|(focus (intro hc;(try simp only[Bt]at hc);exfalso;omega))|(rotate_left;(focus (intro hc;(try simp only[Bt]at hc);exfalso;omega)))|fail);intro hc;(try simp only[Bt]at hc))
  |fail)
 repeat' (first
  |(with_reducible (first|apply A7|apply A8|apply A9|apply Ba))
  |(with_reducible (first|apply Kl|apply Km);(conv=>lhs;simp only[zw, *]))
  |(with_reducible (first|apply Cy|apply Cz|apply C0|apply C1);(conv=>lhs;simp(disch:=first|exact dA|fail) [lw, *]);with_reducible (first|apply A7|apply A8|apply A9|apply Ba|apply Cu|(refine Cv (by simp) ?_)|fail))
  |(with_reducible (first|apply C2|apply C3|apply C4|apply C5|apply Cw);(first|(focus (intro hc;(try simp only[Bt]at hc);exfalso;omega))|(rotate_left;(focus (intro hc;(try simp only[Bt]at hc);exfalso;omega)))|fail);intro hc;(try simp only[Bt]at hc))
  |fail)
 exact O0.1):G:=e ⟨g⟩
def wd{G d:Prop}(g:d)(e:El d->G:=by
 intro O0;(first
  |(with_reducible (first|apply A7|apply A8|apply A9|apply Ba))
  |(with_reducible (first|apply Kl|apply Km);(conv=>lhs;simp only[zw, *]))
  |(with_reducible (first|apply Cy|apply Cz|apply C0|apply C1);(conv=>lhs;simp(disch:=first|exact dA|fail) [lw, *]);with_reducible (first|apply A7|apply A8|apply A9|apply Ba|apply Cu|(refine Cv (by simp) ?_)|fail))
  |(with_reducible (first|apply C2|apply C3|apply C4|apply C5|apply Cw);(first|(focus (intro hc;(try simp only[Bt]at hc);exfalso;omega))|(rotate_left;(focus (intro hc;(try simp only[Bt]at hc);exfalso;omega)))|fail);intro hc;(try simp only[Bt]at hc))
  |(refine Sx.B8 ?_ ?_;(focus (simp(disch:=first|decide|omega|(simp only[C9];omega)) [Sx.Aw,Sx.Am,Sx.Ar,Sx.Ax, *];done));(try simp(disch:=first|exact Ce|fail) only[Sx.Aw,Sx.Am,Sx.Bx,Sx.Ap,Sx.At,I3,Ia,Sx.B9,Sx.Dp,Sx.Dn,C9,Sx.Ca, *]))
  |fail)
 repeat' (first
  |(with_reducible (first|apply A7|apply A8|apply A9|apply Ba))
  |(with_reducible (first|apply Kl|apply Km);(conv=>lhs;simp only[zw, *]))
  |(with_reducible (first|apply Cy|apply Cz|apply C0|apply C1);(conv=>lhs;simp(disch:=first|exact dA|fail) [lw, *]);with_reducible (first|apply A7|apply A8|apply A9|apply Ba|apply Cu|(refine Cv (by simp) ?_)|fail))
  |(with_reducible (first|apply C2|apply C3|apply C4|apply C5|apply Cw);(first|(focus (intro hc;(try simp only[Bt]at hc);exfalso;omega))|(rotate_left;(focus (intro hc;(try simp only[Bt]at hc);exfalso;omega)))|fail);intro hc;(try simp only[Bt]at hc))
  |(refine Sx.B8 ?_ ?_;(focus (simp(disch:=first|decide|omega|(simp only[C9];omega)) [Sx.Aw,Sx.Am,Sx.Ar,Sx.Ax, *];done));(try simp(disch:=first|exact Ce|fail) only[Sx.Aw,Sx.Am,Sx.Bx,Sx.Ap,Sx.At,I3,Ia,Sx.B9,Sx.Dp,Sx.Dn,C9,Sx.Ca, *]))
  |fail)
 exact O0.1):G:=e ⟨g⟩
def yk{G d:Prop}(g:d)(e:El d->G:=by
 intro O0;(first
  |(with_reducible (first|apply Ee|apply Ef|apply Eg|apply Eh))
  |(with_reducible (first|apply Kv|apply Kw|apply Kx|apply K0);(conv=>lhs;simp(disch:=first|exact Ce|fail) [lc, *]);with_reducible (first|apply Ee|apply Ef|apply Eg|apply Eh|apply Ks|(refine Kt (by simp) ?_)|fail))
  |(with_reducible (first|apply K7|apply K8|apply K9|apply Ld|apply Ku);(first|(focus (intro hc;(try simp only[Bt]at hc);exfalso;omega))|(rotate_left;(focus (intro hc;(try simp only[Bt]at hc);exfalso;omega)))|fail);intro hc;(try simp only[Bt]at hc))
  |fail)
 repeat' (first
  |(with_reducible (first|apply Ee|apply Ef|apply Eg|apply Eh))
  |(with_reducible (first|apply Kv|apply Kw|apply Kx|apply K0);(conv=>lhs;simp(disch:=first|exact Ce|fail) [lc, *]);with_reducible (first|apply Ee|apply Ef|apply Eg|apply Eh|apply Ks|(refine Kt (by simp) ?_)|fail))
  |(with_reducible (first|apply K7|apply K8|apply K9|apply Ld|apply Ku);(first|(focus (intro hc;(try simp only[Bt]at hc);exfalso;omega))|(rotate_left;(focus (intro hc;(try simp only[Bt]at hc);exfalso;omega)))|fail);intro hc;(try simp only[Bt]at hc))
  |fail)
 exact O0.1):G:=e ⟨g⟩
def xk{G d:Prop}(g:d)(e:El d->G:=by
 intro O0;(first
  |(with_reducible (first|apply J4|apply J1|apply J5|apply Ko))
  |(with_reducible (first|apply Wx|apply Vz|apply Wy);(conv=>lhs;simp(disch:=first|exact Ce|fail) [lc, *]);with_reducible (first|apply J4|apply J1|apply J5|apply Ko|(refine Y7 (by simp) ?_)|fail))
  |fail)
 repeat' (first
  |(with_reducible (first|apply J4|apply J1|apply J5|apply Ko))
  |(with_reducible (first|apply Wx|apply Vz|apply Wy);(conv=>lhs;simp(disch:=first|exact Ce|fail) [lc, *]);with_reducible (first|apply J4|apply J1|apply J5|apply Ko|(refine Y7 (by simp) ?_)|fail))
  |fail)
 exact O0.1):G:=e ⟨g⟩
def zqq{G A B p q:Prop}(g:p->A)(d:q->B)(e:El (p->A)->El (q->B)->G:=by
 intro hx hy;(first
  |(with_reducible (first|apply C2|apply C3|apply C4|apply C5|apply Cw);(focus (intro hc;(try simp only[Bt]at hc);exact hx.1 hc));intro hc;(try simp only[Bt]at hc);exact hy.1 hc)
  |fail)):G:=e ⟨g⟩ ⟨d⟩
def Pd{G:Prop}{h:H}{R X:AV->H->Prop}{r:OR}{n:Nat}(g:Ah h R r)(i:∀v h1,Ai h h1->n<=h1.nx->(∀b,b<n->h1.m.get b=h.m.get b)->R v h1->X v h1)(d:h.nx=n:=by first|(conv=>lhs;simp only[C9])|rfl|fail)(e:El (Ah h R r)->El (∀v h1,Ai h h1->h.nx<=h1.nx->(∀b,b<h.nx->h1.m.get b=h.m.get b)->R v h1->X v h1)->G:=by
 intro hx hy;(first|exact Fj hx.1 hy.1|exact zc2 hx.1 hy.1|fail)):G:=by
 subst d;exact e ⟨g⟩ ⟨i⟩
def aa{p q:Prop}(a:p)(b:q):p/\q:=⟨a,b⟩
def zi{h0:H}{Q:AV->H->Prop}{c:Bool}{a b:OR}(hc:Ah h0 Q (Af (.bool c) a b)):Ah h0 Q (Af (.bool c) a b):=hc
def yi{Q:AV->H->Prop}{c:Bool}{a b:OR}(hc:Sx.Comes (Af (.bool c) a b) Q):Sx.Comes (Af (.bool c) a b) Q:=hc
def ws{G d:Prop}(g:d)(e:El d->G:=by
 intro O0;(first
  |(with_reducible (first|apply A7|apply A8|apply A9|apply Ba))
  |(with_reducible (first|apply Kl|apply Km);(conv=>lhs;simp only[zw, *]))
  |(with_reducible (first|apply Cy|apply Cz|apply C0|apply C1);(conv=>lhs;simp(disch:=first|exact dA|fail) [lw, *]);with_reducible (first|apply A7|apply A8|apply A9|apply Ba|apply Cu|(refine Cv (by simp) ?_)|apply zi|fail))
  |(refine Sx.B8 ?_ ?_;(focus (simp(disch:=first|decide|omega|(simp only[C9];omega)) [Sx.Aw,Sx.Am,Sx.Ar,Sx.Ax, *];done));(try simp(disch:=first|exact Ce|fail) only[Sx.Aw,Sx.Am,Sx.Bx,Sx.Ap,Sx.At,I3,Ia,Sx.B9,Sx.Dp,Sx.Dn,C9,Sx.Ca, *]))
  |fail)
 exact O0.1):G:=e ⟨g⟩
def wt{G d:Prop}(g:d)(e:El d->G:=by
 intro O0;(first
  |(with_reducible (first|apply A7|apply A8|apply A9|apply Ba))
  |(with_reducible (first|apply Cy|apply Cz|apply C0|apply C1);(conv=>lhs;simp(disch:=first|exact dA|fail) [lw, *]);with_reducible (first|apply A7|apply A8|apply A9|apply Ba|apply Cu|(refine Cv (by simp) ?_)|apply zi|fail))
  |fail)
 exact O0.1):G:=e ⟨g⟩
def ys{G d F:Prop}(f:F)(g:d)(e:F->El d->G:=by
 intro hff O0;(first
  |(with_reducible (first|apply Ee|apply Ef|apply Eg|apply Eh))
  |(with_reducible (first|apply Kv|apply Kw|apply Kx|apply K0);(conv=>lhs;simp(disch:=first|exact Ce|fail) [lc, *]);with_reducible (first|apply Ee|apply Ef|apply Eg|apply Eh|apply Ks|(refine Kt (by simp) ?_)|apply yi|fail))
  |fail)
 exact O0.1):G:=e f ⟨g⟩
def yq{G A B p q:Prop}(g:p->A)(d:q->B)(e:El (p->A)->El (q->B)->G:=by
 intro hx hy;(first
  |(with_reducible (first|apply K7|apply K8|apply K9|apply Ld|apply Ku);exact hx.1;exact hy.1)
  |fail)):G:=e ⟨g⟩ ⟨d⟩
def xs{G d F:Prop}(f:F)(g:d)(e:F->El d->G:=by
 intro hff O0;repeat' (first
  |(with_reducible (first|apply J4|apply J1|apply J5|apply Ko))
  |(with_reducible (first|apply Wx|apply Vz|apply Wy);(conv=>lhs;simp(disch:=first|exact Ce|fail) [lc,hff]);with_reducible (first|apply J4|apply J1|apply J5|apply Ko|(refine Y7 (by simp) ?_)|fail))
  |fail)
 exact O0.1):G:=e f ⟨g⟩
end Go.Ev
namespace Go.Ev.Sx
variable {j:TypeId}{o:EF}{p:RS}
variable {h h1 h2:H}{tk:Nat}{vl:AV}{Q:AV->H->Prop}{r:OR}{k:AV->H->OR}{m m':Int}{s len:Nat}{v:AV}{c:List AV}
abbrev tkC(vl:AV)(m:Int):AO:=.cells [vl,.int .i64 m] 42 .exact
structure H8(h:H)(tk:Nat)(vl:AV):Prop where
 lt:tk<h.nx
 cell:∃m,0<=m/\h.m.get tk=tkC vl m
def TG(tk:Nat)(vl:AV)(h h1:H):Prop:=∃m,0<=m/\Ai (h.put tk (tkC vl m)) h1
def D6(tk:Nat)(vl:AV)(h:H)(Q:AV->H->Prop)(r:OR):Prop:=∃m,0<=m/\Ah (h.put tk (tkC vl m)) Q r
def H0:H:=⟨KM.new,0,[]⟩
def Ed h:Ai H0 h:=⟨Jv _,λb d=>absurd d (dx b),λx _=>.inr (Jv _)⟩
def Qk(d:Ah H0 (λv h1=>TG tk vl h h1/\Q v h1) r):D6 tk vl h Q r:=by obtain⟨v,h1,rfl,_,⟨m,g,e⟩,hq⟩:=d;exact⟨m,g,v,_,rfl,e,hq⟩
def AeX(d:D6 tk vl h Q r):∃v h1,r=.ok v h1/\TG tk vl h h1/\Q v h1:=by obtain⟨m,g,v,h1,rfl,e,hq⟩:=d;exact⟨v,_,rfl,⟨m,g,e⟩,hq⟩
def Au5 tk a b(h1:Ai (h.put tk a) h2):Ai (h.put tk b) (h2.put tk b):=by
 refine⟨h1.lo,λx d=>?_,λx d=>?_⟩
 .by_cases e:x=tk;. simp[*]
  .rw[Aq _ b x e,Aq _ b x e,h1.Cf x d,Aq _ a x e]
 .rcases Tu.1 d with rfl|d;. simp
  .rcases h1.lg x d with g|g;. simp_all
   simp_all
def TG.refl(g:H8 h tk vl):TG tk vl h h:=by
 obtain⟨m,i,hc⟩:=g.cell;refine⟨m,i,Yw _,λb j=>?_,λx d=>.inl (Vo _ d)⟩;by_cases e:b=tk;. simp[*]
 simp[*]
def TG.put(e:TG tk vl h h1) m(g:0<=m):TG tk vl h (h1.put tk (tkC vl m)):=by obtain⟨m',_,d⟩:=e;exact⟨m,g,Au5 _ _ _ d⟩
def TG.gr(e:TG tk vl h h1)(g:Ai h1 h2):TG tk vl h h2:=by obtain⟨m,i,d⟩:=e;exact⟨m,i,d.trans g⟩
def TG.trans(e:TG tk vl h h1)(e':TG tk vl h1 h2):TG tk vl h h2:=by obtain⟨m,g,d⟩:=e';exact(e.put m g).gr d
def TG.nl(e:TG tk vl h h1):TG tk vl h (Ab h1):=e.gr (Ai.refl _).nl
def TG.new(e:TG tk vl h h1) o:TG tk vl h (h1.new o):=e.gr ((Ai.refl _).new o)
def TG.lo(e:TG tk vl h h1):h.nx<=h1.nx:=by obtain⟨m,g,d⟩:=e;exact d.lo
def TG.Cf(e:TG tk vl h h1) b(d:b<h.nx)(hn:b≠tk):h1.m.get b=h.m.get b:=by obtain⟨m,i,g⟩:=e;rw[g.Cf b d,Aq _ _ _ hn]
def TG.at(e:TG tk vl h h1)(d:tk<h.nx):H8 h1 tk vl:=by obtain⟨m,i,g⟩:=e;exact⟨Xq d g.lo,m,i,by rw[g.Cf _ d,A2]⟩
def Av(tk:Nat)(v:AV):Prop:=∀b off len cap z ex,v=.sl b off len cap z ex->0<len->b≠tk
def Sl.tg(F:Sl s h v len c)(i:H8 h tk vl)(u:Av tk v)(e:TG tk vl h h1):Sl s h1 v len c:=by
 rcases F with I|⟨b,off,cap,ex,cs,rfl,q,g,z,q5⟩;. exact .inl I
 .by_cases o:b=tk
  .subst o;have h0:len=0:=by
    rcases cu _ with h0|h0;. omega
    .exact absurd rfl (u b _ _ _ s _ rfl h0)
   subst h0;obtain⟨m,A,D⟩:=i.cell;obtain⟨m',C,j⟩:=(e.at i.lt).cell;obtain⟨t,p,E,d⟩:=g.cells;refine .inr ⟨b,_,_,_,_,rfl,q,⟨(e.at i.lt).lt,_,_,j,trivial⟩,by grind,?_⟩;grind
  .refine .inr ⟨b,_,_,_,_,rfl,q,?_,z,q5⟩;obtain⟨t,p,E,d⟩:=g.cells;refine⟨Xq g.lt e.lo,t,_,by rw[e.Cf b g.lt o];omega,?_⟩;cases p with
   |Cf c st=>
    by_cases hc:c=tk;. obtain⟨m,A,D⟩:=i.cell;have:=d.2;grind
    .exact⟨Xq d.1 e.lo,by rw[e.Cf c d.1 hc];exact d.2⟩
   |_=>trivial
@[simp] theorem A51{P} t c a b(hb:b≠0):Aj P .rem t c (.int .i64 a) (.int .i64 b) h=.ok (.int .i64 (Int.tmod a b)) h:=by
 have e:ieq b 0=false:=by rw[X7];grind
 show(Bool.rec (.bad 30) (@Bool.rec (λ_=>OR) _ ..) (kEq .i64 .i64):OR)=_;rw[e];rfl
def M5{h0}{R}(d:D6 tk vl h R r)(g:∀v h1,TG tk vl h h1->h.nx<=h1.nx->(∀b,b<h.nx->b≠tk->h1.m.get b=h.m.get b)->R v h1->Ah h0 Q (k v h1)):Ah h0 Q (Aa r k):=by obtain⟨v,h1,rfl,e,hq⟩:=AeX d;exact g v _ e e.lo e.Cf hq
def D4(n x:Nat):∀l:List Nat,x∈wrote n l->x∈l/\x<n
|[],g=>by cases g
|b::l,g=>by
 have d:x∈(@Bool.rec (λ_=>List Nat) (wrote n l) (b::wrote n l) (Nat.blt b n):List Nat):=g;cases e:Nat.blt b n with
 |false=>rw[e]at d;have:=D4 n x l d;exact⟨Vo _ this.1,this.2⟩
 |true=>
  rw[e]at d;rcases Tu.1 d with rfl|i
  .exact⟨Uq ..,Ec e⟩
  .have:=D4 n x l i;exact⟨Vo _ this.1,this.2⟩
def TG.wrote(e:TG tk vl (Ab h) h1):∀x∈wrote h.nx h1.lg,x=tk:=by
 intro x i;obtain⟨j,p⟩:=D4 _ _ _ i;obtain⟨m,o,d⟩:=e;rcases d.lg x j with g|g;. simp_all
 simp_all;omega
def Ab8 b:∀w,(∀x∈w,x=tk)->b≠tk->Ve b w=false
|[],_,_=>rfl
|x::w,h1,h2=>by
 have d:Nat.beq x b=false:=by cases q:Nat.beq x b with
  |false=>rfl
  |true=>simp_all
 show @Bool.rec (λ_=>Bool) _ ..=false;rw[d];exact Ab8 b w (λy hy=>h1 y (Vo _ hy)) h2
def Zq:∀w,Ahl w []=true
|[]=>rfl
|x::w=>Zq w
def Wo lo hi(e:tk<lo):∀w,(∀x∈w,x=tk)->outside w lo hi=true
|[],_=>rfl
|x::w,h1=>by
 have d:Nat.ble lo x=false:=by cases q:Nat.ble _ x with
  |false=>rfl
  |true=>simp_all;omega
 show @Bool.rec (λ_=>Bool) _ ..=true;rw[d];exact Wo _ _ e w λy hy=>h1 y (Vo _ hy)
def Bdw{g i:Nat}{d j:H}(e:∀x∈o.w,x=tk)(q:tk<d.nx)(t:clear p o.w d o.h o.h1=true):Jo o ⟨g,i,[],p,d,j⟩=true:=by unfold Jo;have h1:Ahl o.w []=true:=Zq _;have h2:outside o.w d.nx j.nx=true:=Wo _ _ q _ e;rw[h1,h2,t];cases M4 (Nat.lor (Nat.land o.pr g) (Nat.land i o.bit))<;>cases Nat.beq o.bit g<;>rfl
def Dk{q z:Nat}{d u:H}(j:∀x∈o.w,x=tk)(t:tk<d.nx)(e:p=.none\/∃b off i,p=.blk b off i/\b≠tk/\B5 (d.m.get b)=none):Jo o ⟨q,z,[],p,d,u⟩=true:=by
 refine Bdw j t ?_;rcases e with rfl|⟨b,off,i,rfl,g,hc⟩
 .rfl
 .show(@Bool.rec (λ_=>Bool) (AbY o.w (B5 (d.m.get b))) _ (Ve b o.w):Bool)=true;rw[Ab8 b o.w j g,hc];rfl
def BmD{j q off:Nat}{i:Option (Option Nat)}{v:AV}{d p:H}(g:∀x∈o.w,x=tk)(e:tk<d.nx)(h1:cellAt (d.m.get tk) off i=some v)(h2:cellAt (o.h.m.get tk) off i=cellAt (o.h1.m.get tk) off i)(hc:B5 (d.m.get tk)=none):Jo o ⟨j,q,[],.blk tk off i,d,p⟩=true:=by
 refine Bdw g e ?_;show(@Bool.rec (λ_=>Bool) (AbY o.w (B5 (d.m.get tk))) (Beb tk off i d o.h o.h1) (Ve tk o.w):Bool)=true;cases Ve tk o.w with
 |false=>rw[hc];rfl
 |true=>exact @Ws _ (Classical.propDecidable _) ⟨v,h1,h2⟩
def V9 all:∀l,(∀e∈l,Q6 e.w=true\/E2 e all=true)->Iu all l=true
|[],_=>rfl
|e::l,h1=>by
 have i:=V9 _ l λx g=>h1 x (Vo _ g);show Bool.rec (Bool.rec _ (Iu _ l) _) (Iu _ l) _=true;rcases h1 e Uq .. with d|d;. simp[*]
 .cases Q6 _;simp_all;omega
def V4 e:∀l,(∀a∈l,Jo e a=true)->E2 e l=true
|[],_=>rfl
|a::l,h1=>by rw[Fz,h1 a Uq ..,V4 e l λx d=>h1 x (Vo _ d)];rfl
def Pu{h0 j}{d}{lg}{k} tk lo(o:∀e∈d,e.w=[]\/(∀x∈e.w,x=tk\/lo<=x)/\∀a∈d,Jo e a=true)(i:∀L,(∀z∈L,z∈lg\/z=tk\/lo<=z)->Ah h0 Q (k (Be L j))):Ah h0 Q (Ff lg d j k):=by
 have g:=V9 _ _ λe h1=>by
  rcases o e h1 with p|p;. simp_all
  .exact .inr (V4 e _ p.2)
 rw[So g];refine i _ ?_;have A:∀e∈d,∀x∈e.w,x=tk\/lo<=x:=λe h1 x u=>by grind
 clear o g i;induction d with
 |nil=>simp_all
 |cons e es t=>intro z q;rw[Ap]at q;grind
def TG.Aiq(e:TG tk vl h h1) c o(hc:h.nx<=c):TG tk vl h (h1.put c o):=by obtain⟨m,g,d⟩:=e;exact⟨m,g,d.put c o hc⟩
def TG.reL{e}{L}(e1:TG tk vl h e)(q:TG tk vl h h1)(j:∀z∈L,z∈e.lg\/z=tk\/h.nx<=z):TG tk vl h (Be L h1):=by
 obtain⟨m,o,g⟩:=q;obtain⟨m1,p,d⟩:=e1;refine⟨m,o,g.lo,g.Cf,λz t=>?_⟩;rcases j z t with i|rfl|i;. exact d.lg z i
 .simp
 simp_all
def Sl.hiS{P}{t e}{bytes u}(g:Hp P t=.sl ⟨e,s,bytes⟩)(p:Sl s h v len c)(q:u<=len):∃v',(∀d,xSl P t v none (some (.int .i64 u)) d=.ok v' d)/\Sl s h v' u (c.take (u*s)):=by
 rcases p with⟨rfl,rfl,rfl⟩|⟨b,off,cap,ex,cs,rfl,z,o,C,q5⟩
 .have:u=0:=by omega
  subst this;exact⟨_,λd=>Ads g,.inl ⟨rfl,by simp,rfl⟩⟩
 .have A:=D2 s q;have j:(cs.drop off).take (u*s)=c.take (u*s):=by grind
  by_cases h0:0<cap;. refine⟨_,λd=>by rw[Aau g,Nn (Jv _) om,W5 h0],(.inr ⟨b,_,cap,ex,_,by simp,by omega,o,by omega,j⟩)⟩
  .have i:u=0:=by omega
   subst i;have hq:∀d,xSl P t (.sl b off len cap s ex) _ (some (.int _ (0:Nat))) d=.ok (.sl b off 0 0 s ex) d:=λd=>by rw[Aau g,Nn (Jv _) om,X2 h0];simp
   exact⟨_,hq,.inr ⟨b,_,0,_,_,rfl,Yw _,o,by omega,j⟩⟩
def L5(q:TG tk vl h h1:=by first|((repeat' (first|assumption|(exact Sx.TG.refl (by assumption))|with_reducible apply Sx.TG.nl|with_reducible apply Sx.TG.new|(with_reducible refine Sx.TG.Aiq ?_ _ _ ?_)|(refine Sx.TG.trans ?_ (by assumption))|(refine Sx.TG.gr ?_ (by assumption))|(refine Sx.TG.reL ?_ ?_ (by assumption))|omega|(simp only[C9];omega)));done)|fail):TG tk vl h h1:=q
variable {b:Nat}{X Y:AO}
def PG(b:Nat)(X:AO)(h h1:H):Prop:=Ai (h.put b X) h1
def AjT(b:Nat)(X:AO)(h:H)(Q:AV->H->Prop)(r:OR):Prop:=Ah (h.put b X) Q r
def AeN(d:Ah H0 (λv h1=>PG b X h h1/\Q v h1) r):AjT b X h Q r:=by obtain⟨v,h1,rfl,_,e,hq⟩:=d;exact⟨v,h1,rfl,e,hq⟩
def Bke(d:AjT b X h Q r):∃v h1,r=.ok v h1/\PG b X h h1/\Q v h1:=by obtain⟨v,h1,rfl,e,hq⟩:=d;exact⟨v,h1,rfl,e,hq⟩
def PG.refl(d:h.m.get b=X):PG b X h h:=by
 refine⟨Yw _,λc hc=>?_,λx g=>.inl (Vo _ g)⟩;by_cases e:c=b
 .subst e;rw[A2,d]
 .rw[Aq _ _ _ e]
def PG.put(e:PG b X h h1)(Y:AO):PG b Y h (h1.put b Y):=Au5 b _ _ e
def PG.gr(e:PG b X h h1)(g:Ai h1 h2):PG b X h h2:=Ai.trans e g
def PG.trans(e:PG b X h h1)(e':PG b Y h1 h2):PG b Y h h2:=(e.put Y).gr e'
def PG.nl(e:PG b X h h1):PG b X h (Ab h1):=e.gr (Ai.refl h1).nl
def PG.new(e:PG b X h h1)(o:AO):PG b X h (h1.new o):=e.gr ((Ai.refl h1).new o)
def PG.lo(e:PG b X h h1):h.nx<=h1.nx:=(show(h.put b X).nx<=h1.nx from Ai.lo e)
def PG.Cf(e:PG b X h h1)(c:Nat)(hc:c<h.nx)(hn:c≠b):h1.m.get c=h.m.get c:=by rw[Ai.Cf e c hc,Aq _ _ _ hn]
def PG.get(e:PG b X h h1)(d:b<h.nx):h1.m.get b=X:=by rw[Ai.Cf e b d,A2]
def PG.Aiq(e:PG b X h h1)(c:Nat)(o:AO)(hc:h.nx<=c):PG b X h (h1.put c o):=Ai.put e c o hc
def PG.own{h0:H}(g:Ai h0 h)(e:PG b X h h1)(d:h0.nx<=b):Ai h0 h1:=(g.put b X d).trans e
def Sl.pg(C:Sl s h v len c)(F:b<h.nx)(p:∀st,h.m.get b≠.Fb st)(E:∀d off n cap z ex,v=.sl d off n cap z ex->d≠b)(e:PG b X h h1):Sl s h1 v len c:=by
 rcases C with D|⟨d,off,cap,ex,cs,rfl,q,i,o,q5⟩
 .exact .inl D
 .have u:=E d off len cap s ex rfl;refine .inr ⟨d,off,cap,ex,cs,rfl,q,?_,o,q5⟩;obtain⟨t,j,A,g⟩:=i.cells;refine⟨Xq i.lt e.lo,t,j,by rw[e.Cf d i.lt u];exact A,?_⟩;cases j with
  |Cf c st=>
   by_cases hc:c=b
   .subst hc;exact absurd g.2 (p st)
   .exact⟨Xq g.1 e.lo,by rw[e.Cf c g.1 hc];exact g.2⟩
  |_=>trivial
def zu1{h0:H}{R:AV->H->Prop}(d:AjT b X h R r)(g:∀v h1,PG b X h h1->h.nx<=h1.nx->(∀c,c<h.nx->c≠b->h1.m.get c=h.m.get c)->(b<h.nx->h1.m.get b=X)->R v h1->Ah h0 Q (k v h1)):Ah h0 Q (Aa r k):=by obtain⟨v,h1,rfl,e,hq⟩:=Bke d;exact g v h1 e e.lo e.Cf e.get hq
def PG.wrote(e:PG b X (Ab h) h1):∀x∈wrote h.nx h1.lg,x=b:=by
 intro x i;obtain⟨j,o⟩:=D4 _ _ _ i;rcases Ai.lg e x j with g|g
 .rcases Tu.1 g with d|d
  .exact d
  .cases d
 .have:h.nx<=x:=g;omega
def PG.reL{e:H}{L:List Nat}(e1:PG b Y h e)(j:PG b X h h1)(i:∀z∈L,z∈e.lg\/z=b\/h.nx<=z):PG b X h (Be L h1):=by
 have d:Ai (h.put b X) h1:=j;refine⟨d.lo,d.Cf,λz o=>?_⟩;rcases i z o with g|rfl|g
 .exact Ai.lg (show Ai (h.put b Y) e from e1) z g
 .exact .inl (Uq ..)
 .exact .inr g
def PX(b:Nat)(h h1:H):Prop:=∃X,PG b X h h1
def PX.of(e:PG b X h h1):PX b h h1:=⟨X,e⟩
def PG.Bsj(e:PX b h h1)(Y:AO):PG b Y h (h1.put b Y):=e.elim λ_ e=>e.put Y
def PG.trX(e:PX b h h1)(e':PG b Y h1 h2):PG b Y h h2:=e.elim λ_ e=>e.trans e'
def PX.put(e:PX b h h1)(Y:AO):PX b h (h1.put b Y):=⟨Y,.Bsj e Y⟩
def PX.trX(e:PX b h h1)(e':PG b Y h1 h2):PX b h h2:=⟨Y,.trX e e'⟩
def PX.gr(e:PX b h h1)(g:Ai h1 h2):PX b h h2:=e.elim λX e=>⟨X,e.gr g⟩
def PX.nl(e:PX b h h1):PX b h (Ab h1):=e.gr (Ai.refl h1).nl
def PX.new(e:PX b h h1)(o:AO):PX b h (h1.new o):=e.gr ((Ai.refl h1).new o)
def PX.Aiq(e:PX b h h1)(c:Nat)(o:AO)(hc:h.nx<=c):PX b h (h1.put c o):=e.elim λX e=>⟨X,e.Aiq c o hc⟩
def PX.refl(h:H):PX b h h:=⟨_,.refl rfl⟩
def pgA(q:PG b X h h1:=by first|((repeat' (first|assumption|(exact Sx.PG.refl (by assumption))|(exact Sx.PX.of (by assumption))|exact Sx.PX.refl _|with_reducible apply Sx.PG.nl|with_reducible apply Sx.PG.new|with_reducible apply Sx.PG.Bsj|(with_reducible refine Sx.PG.Aiq ?_ _ _ ?_)|with_reducible apply Sx.PX.nl|with_reducible apply Sx.PX.new|with_reducible apply Sx.PX.put|(with_reducible refine Sx.PX.Aiq ?_ _ _ ?_)|(refine Sx.PG.trX ?_ (by assumption))|(refine Sx.PX.trX ?_ (by assumption))|(refine Sx.PG.gr ?_ (by assumption))|(refine Sx.PX.gr ?_ (by assumption))|omega|(simp only[C9];omega)));done)|fail):PG b X h h1:=q
variable {X':AO}{c':Nat}
def PG2(b:Nat)(X:AO)(c:Nat)(Y:AO)(h h1:H):Prop:=PG c Y (h.put b X) h1
def PG2.of{c:Nat}(e:PG b X h h1)(Y:AO):PG2 b X c Y h (h1.put c Y):=((PG.refl rfl).gr e).put Y
def PG2.gr{c:Nat}(e:PG2 b X c Y h h1)(g:Ai h1 h2):PG2 b X c Y h h2:=PG.gr e g
def PG2.lo{c:Nat}(e:PG2 b X c Y h h1):h.nx<=h1.nx:=(show(h.put b X).nx<=h1.nx from PG.lo e)
def PG2.Cf{c:Nat}(e:PG2 b X c Y h h1)(x:Nat)(i:x<h.nx)(g:x≠b)(d:x≠c):h1.m.get x=h.m.get x:=by rw[PG.Cf e x i d,Aq _ _ _ g]
def PG2.B0m{c:Nat}(e:PG2 b X c Y h h1)(d:b<h.nx)(hn:b≠c):h1.m.get b=X:=by rw[PG.Cf e b d hn,A2]
def PG2.BaK{c:Nat}(e:PG2 b X c Y h h1)(hc:c<h.nx):h1.m.get c=Y:=PG.get e hc
def PG2.To{c:Nat}(e:PG2 b X c Y h h1)(hn:b≠c)(X':AO):PG2 b X' c Y h (h1.put b X'):=by
 have i:Ai ((h.put b X).put c Y) h1:=e;refine⟨i.lo,λx d=>?_,λx d=>?_⟩
 .by_cases g:x=b
  .subst g;rw[A2,Aq _ _ _ hn,A2]
  .rw[Aq _ _ _ g,i.Cf x d];by_cases j:x=c
   .subst j;rw[A2,A2]
   .rw[Aq _ _ _ j,Aq _ _ _ j,Aq _ _ _ g,Aq _ _ _ g]
 .rcases Tu.1 d with rfl|d
  .exact .inl (Vo _ (Uq ..))
  .exact i.lg x d
def PG2.trP{c:Nat}(e:PG2 b X c Y h h1)(hn:b≠c)(e':PG b X' h1 h2):PG2 b X' c Y h h2:=(e.To hn X').gr e'
def PG2.pre{c:Nat}{d:H}(g:PG b X h d)(e:PG2 b X' c Y d h1):PG2 b X' c Y h h1:=(((PG.refl rfl).gr (g.put X')).put Y).gr e
def PG2.own{c:Nat}{h0:H}(d:PX b h0 h)(e:PG2 b X c Y h h1)(hc:h0.nx<=c):PG b X h0 h1:=((d.put X).elim λ_ _=>((PG.Bsj d X).Aiq c Y hc).gr e)
abbrev AeK(t:TypeId)(w:AV):AO:=.cells [w] t .exact
def Ao8(b:Nat)(X:AO)(c:Nat)(t:TypeId)(h:H)(W:AV->H->Prop)(r:OR):Prop:=∃w v h1,r=.ok v h1/\PG2 b X c (AeK t w) h h1/\W w h1
def Ats{c:Nat}{W:AV->H->Prop}(d:Ah H0 (λ_ h1=>∃w,PG2 b X c (AeK j w) h h1/\W w h1) r):Ao8 b X c j h W r:=by obtain⟨v,h1,rfl,_,w,e,hq⟩:=d;exact⟨w,v,h1,rfl,e,hq⟩
def zu2{c:Nat}{h0:H}{W:AV->H->Prop}(d:Ao8 b X c j h W r)(g:∀w v h1,PG2 b X c (AeK j w) h h1->h.nx<=h1.nx->W w h1->Ah h0 Q (k v h1)):Ah h0 Q (Aa r k):=by obtain⟨w,v,h1,rfl,e,hq⟩:=d;exact g w v h1 e e.lo hq
end Go.Ev.Sx
namespace Go.Ev
open Go
variable {P:Program}{Z:Ac}{gl:List GE}
def Ahj[Ii]{p:Tab}(hc:Bd P P.globals.size Z)(Ga:P8 P.globals.size gl=true)(z:∀o∈p.l,Nx P gl o):Bd P P.globals.size (ApJ gl p Z):=by
 refine⟨?_,λl args h h' v σ w An e A=>hc.round l args h h' v σ w An e A,Aer hc.mono⟩;intro g args h h' v σ w An kind A M E d D K hf;have j:(@Option.rec _ (λ_=>OR) (Z.call g args h) (λv=>Abq gl v h) (Hl p g args):OR)=.ok v h':=A;cases C:Hl p g args with
 |none=>rw[C]at j;exact hc.call g args h h' v σ w An kind j M E d D K hf
 |some u=>
  rw[C]at j;obtain⟨F,rfl,rfl⟩:=AfZ j;obtain⟨o,q1,rfl,q4,rfl⟩:=AcW C;obtain⟨v',w',O,fn,r1,L,i,r4,V,U⟩:=z o q1 w An kind (Akl d D Ga F) (λJ=>Yb (AfH 8) args o.args An.toList σ J q4 E);refine⟨σ,v',w',O,fn,r1,L σ,⟨[],J6.refl d.ai,⟨Qq.refl σ,λx e h1 h2=>(by rw[h1]at h2;cases h2),⟨d.so.inj,λx e q=>Xq (d.so.rng x e q) i.grow,d.so.low⟩,i.grow,λc t _=>i.same c t,
   λx e h1 h2=>(by rw[h1]at h2;cases h2),i.io⟩,?_⟩,r4,V,U⟩
  intro x e q;exact Gr.congr (Qq.refl σ) (i.same e.c (d.so.rng x e q)) (λ_ _ _ _ _ I=>I) (d.ma x e q)
variable {G:Nat}{S:FuncId->Bool}{base:Ac}
def BmH(S:FuncId->Bool)(base Z:Ac):Ac:=⟨λg args h=>@Bool.rec (λ_=>OR) (base.call g args h) (Z.call g args h) (S g),Z.round⟩
def A5q{g:FuncId}(d:S g=true)(args:List AV)(h:H):(BmH S base Z).call g args h=Z.call g args h:=by show(@Bool.rec (λ_=>OR) (base.call g args h) (Z.call g args h) (S g):OR)=_;rw[d]
def A5p{g:FuncId}(d:S g=false)(args:List AV)(h:H):(BmH S base Z).call g args h=base.call g args h:=by show(@Bool.rec (λ_=>OR) (base.call g args h) (Z.call g args h) (S g):OR)=_;rw[d]
def BaG[Ii](o:Bd P G base)(hc:Bd P G Z):Bd P G (BmH S base Z):=by
 refine⟨?_,λl args h h' v σ w An e d=>hc.round l args h h' v σ w An e d,⟨λg j h=>?_,hc.mono.round⟩⟩
 .intro g args h h' v σ w An kind d;cases i:S g with
  |true=>rw[A5q i]at d;exact hc.call g args h h' v σ w An kind d
  |false=>rw[A5p i]at d;exact o.call g args h h' v σ w An kind d
 .cases i:S g with
  |true=>rw[A5q i];exact hc.mono.call g j h
  |false=>rw[A5p i];exact o.mono.call g j h
def cE(P:Program)(S:FuncId->Bool)(base:Ac)(d:Nat):Ac:=@Nat.rec (λ_=>Ac) base (λ_ e=>BmH S base ⟨Fy P e,Io P e⟩) d
def Bhz[Ii](j:P.follows .mixedOrders=true)(i:Mv P=true)(g:Bd P P.globals.size base)(d:Nat):Bd P P.globals.size (cE P S base d):=by
 induction d with
 |zero=>exact g
 |succ d e=>exact BaG g (ApK e j i ⟨N9 e.mono,Mj e.mono⟩)
def Bu2{g:FuncId}(e:S g=false)(args:List AV)(h:H):∀d,(cE P S base d).call g args h=base.call g args h
|0=>rfl
|d+1=>A5p e args h
def ByF{g:FuncId}(e:S g=true)(args:List AV)(h:H)(d:Nat):(cE P S base (d+1)).call g args h=Fy P (cE P S base d) g args h:=A5q e args h
def AgZ(L:P.follows .mixedOrders=true)(u:Mv P=true)(hc:∀i,@Bd i P P.globals.size Z){g}(E:Bg P g=true){args}{An}{h}{σ}{w}{Q}
 (hr:Sx.Ah h Q (Fy P Z g args h)) (hlg:h.lg=[]) (hσ:∀b,h.nx<=b->σ b=none) (Ow:Bk σ args An.toList) (hms:∀i,h.nx<=@Bq i->@Ms i P.globals.size σ h w) (hg:Vm P.globals.size σ):
 Calls P g An w λe w'=>∃v v' p,e=.returned v'/\(∃h',Q v h')/\Au p v v'/\Kept w w':=by
 obtain⟨v,h',I,d,hq⟩:=hr;let i:Ii:=⟨h'.nx⟩;have q:h'.nx<=Bq:=Yw _;have A:=ApK (hc i) L u ⟨N9 (hc i).mono,Mj (hc i).mono⟩;have o:Fx _ h h':=λb h1 _=>hσ b h1;obtain⟨p,v',w',a',fn,M,z,K,V,q5,D⟩:=A.call g _ h _ v _ w _ _ I E Ow (hms i (Vr d.lo q)) hg q o;obtain⟨nw,J,s2,s3⟩:=K;have t:h'.lg=nw:=by rw[J.lg,hlg,F0]
 have O:Kept w w':=by
  refine⟨s2.grow,λc j=>s2.frame c j ?_,s2.io⟩;intro x hx e U;rcases d.lg x (by simp_all)with F|F;. simp_all
  grind
 intro cs;obtain⟨k',C⟩:=D _ (.inl rfl);exact⟨_,_,_,⟨v,_,_,rfl,⟨_,hq⟩,z,O⟩,C,rfl,rfl,V,rfl,_,M,q5⟩
def Abp:Value->AV
|.bool b=>.bool b
|.int k n=>.int k n
|.string s=>.str (bytesOf s)
|_=>.top
def AqY σ v:Au σ (Abp v) v:=by cases v<;>first|exact .bool _|exact .int ..|exact .str _|exact .top _
def Anq σ(l:List _)(i:Nat) x y(d:(l.map Abp)[i]?=some x)(hy:l[i]?=some y):Au σ x y:=by rw[Cn,hy]at d;cases d;exact AqY _ y
variable {w:World}{B:List Nat}{a:Addr}
def ArP{p}{fits}{d}{e}{g off n}(h:rowAt p fits d e g off n=true):off<=g*p.cellsOf e:=by cases d with
|zero=>simp[rowAt]at h
|succ d=>
 by_cases j:p.cellsOf e=0;. simp[rowAt,j]at h
 .unfold rowAt at h;have h1:=Nat.div_add_mod off (p.cellsOf e);have h2:=Nat.mod_lt off (Nat.pos_of_ne_zero j);have i:off/p.cellsOf e<g\/off/p.cellsOf e<=g/\off%p.cellsOf e=0:=by grind
  rcases i with i|⟨i,o⟩;. have:=cq (p.cellsOf e) (show off/p.cellsOf e+1<=g by omega);grind
  .have:=cq (p.cellsOf e) i;grind
def AeF{p}:∀d {e} {g off} {u} {n},liesAt p d e g off u n=true->off<=g*p.cellsOf e
|0,_,_,_,_,_,h=>by simp[liesAt]at h
|d+1,e,g,off,u,n,h=>by
 rcases Bool.or_eq_true_iff.1 h with h|h;. exact ArP h
 .split at h;. exact AeF d h
  grind
def Ams(w:World)(a:Addr):Prop:=a.spot=none/\∃(arr:Array Value) (t:TypeId) (lo hi:Nat),w.heap[a.block]?=some (.cells arr t (lo,hi))/\a.off<=arr.size
def AmU{r}{base n}{e}(h:World.has P w r base a e n):Ams w a:=by
 obtain⟨_,j,g,cells,d,o⟩:=h;unfold World.shape? at d;split at d;. rename_i c elem fr i;cases d;exact⟨j,c,_,_,_,i,Vr (AeF _ o) (Nat.div_mul_le_self ..)⟩
 grind
def Yl{r:Reach}{base len cap:Nat}{t:TypeId}(h:Cell.okWide P w r base t (.slice (some a) len cap)):Ams w a:=by unfold Cell.okWide at h;split at h<;>first|grind|skip;all_goals
  unfold Cell.ok at h;split at h<;>first|simp_all|skip
  all_goals first|omega|(rename_i h0;cases h0;exact AmU h.2.2)
def AgM(d:a.spot=none) n:a.add n=⟨a.block,a.off+n,none⟩:=by
 unfold Addr.add;split;. cases a;grind
 rfl
def Ahc{arr:Array Value}{t}{fr}{k s}{cs}(d:a.spot=none)(g:w.heap[a.block]?=some (.cells arr t fr))(h:w.cells? 0 (a.add k) s=some cs):
 cs=(arr.toList.drop (a.off+k)).take s/\(0<s->a.off+k+s<=arr.size):=by
 obtain⟨_,o,hc⟩:=World.cells?_some h;have e:∀i,i<s->arr[a.off+k+i]?=cs[i]?:=by intro i hi;rw[<- hc i hi,AgM d,AgM rfl];unfold World.cell?;grind
 refine⟨?_,λj=>?_⟩;. apply dg;grind
 .have h1:=e (s-1) om;grind
def AeW{α:Type}{f:α->List AV}{s}(cs:List _) off D:∀len,(∀i,i<len->(cs.drop (off+i*s)).take s=f (D i))->(cs.drop off).take (len*s)=((List.range len).map D).flatMap f
|0,_=>by simp
|len+1,h=>by rw[List.range_succ,ah,Qm,<- AeW _ _ D _ λi hi=>h i om,ag,Nat.one_mul,List.take_add,au,h _ om];simp
def AhS(w:World)(b:Nat):List AV:=match w.heap[b]? with|some (.cells arr _ _)=>arr.toList.map Abp|_=>[]
def Anp(w:World)(b:Nat):TypeId:=match w.heap[b]? with|some (.cells _ t _)=>t|_=>0
def AqX(w:World)(b:Nat):Nat:=match w.heap[b]? with|some (.cells arr _ _)=>arr.size|_=>0
def He(w:World)(m:KM):List Nat->KM
|[]=>m
|b::B=>((He w m B).set b (.cells (AhS w b) (Anp w b) (.fz (w.heap.size+b)))).set (w.heap.size+b) (.Fb 0)
def Ua{m}:∀B,(∀b∈B,b<w.heap.size)->∀j,j<w.heap.size->(He w m B).get j=if j∈B then .cells (AhS w j) (Anp w j) (.fz (w.heap.size+j))else m.get j
|[],_,j,_=>rfl
|b::B,d,j,hj=>by unfold He;rw[KM.N5,X2 om,KM.N5,Ua B (λx e=>d x (by grind)) j hj];grind
def AiB{m}:∀B,(∀b∈B,b<w.heap.size)->∀j,(He w m B).get (w.heap.size+j)=if j∈B then .Fb 0 else m.get (w.heap.size+j)
|[],_,j=>rfl
|b::B,d,j=>by have e:=d b (by simp);unfold He;rw[KM.N5,KM.N5,AiB B (λx g=>d x (by grind)) j];grind
def Pn(G:Nat)(w:World)(B:List Nat):Dx:=λj=>if j∈B then some ⟨j,AqX w j,some (w.heap.size+j)⟩else Y0 G w j
def Adk(gl:List GE)(w:World)(B:List Nat):H:=⟨He w (Rw gl) B,w.heap.size+w.heap.size,[]⟩
def Qn(gl:List GE)(w:World)(B:List Nat):Prop:=∀b∈B,(∃(arr:Array Value) (t:TypeId) (lo hi:Nat),w.heap[b]?=some (.cells arr t (lo,hi)))/\∀e∈gl,e.g≠b
def Qn.lt(e:Qn gl w B):∀b∈B,b<w.heap.size:=λb d=>by obtain⟨⟨arr,t,lo,hi,h1⟩,_⟩:=e b d;grind
def Rh{G b}{e}(d:Pn G w B b=some e):b∈B/\e=⟨b,AqX w b,some (w.heap.size+b)⟩\/b ∉ B/\Y0 G w b=some e:=by unfold Pn at d;grind
def AiC{G b}{e}(d:Pn G w B b=some e):e.c=b:=by
 rcases Rh d with⟨_,rfl⟩|⟨_,h1⟩;. rfl
 .exact(Gm h1).2.1
def At1(d:P8 P.globals.size gl=true){j}(hj:P.globals.size<=j):(Rw gl).get j=.none:=by
 let i:Ii:=⟨j+1+P.globals.size⟩;rcases @Xx i _ (by show P.globals.size<=j+1+P.globals.size;omega) _ d j (by show j<j+1+P.globals.size;omega)with⟨e,h1,h2,_⟩|⟨_,h1⟩;. have:=(Mf d e h1).1;omega
 omega
def AuS[Ii](hw:WOk P gl w)(M:P8 P.globals.size gl=true)(hB:Qn gl w B)(hl:w.heap.size+w.heap.size<=Bq):Ms P.globals.size (Pn P.globals.size w B) (Adk gl w B) w:=by
 have Fc:=hw.size;have F:=hB.lt;have hn:P.globals.size<=Bq:=by omega
 have lo:=λj hj=>Ua (m:=Rw gl) B F j hj;have hi:=λj=>AiB (m:=Rw gl) B F j;have I:∀j,(Rw gl).get (w.heap.size+j)=.none:=λj=>At1 M om;have low:=(AkL hw hn M).1.ma;have J:=Xx hn gl M;have A:∀j,j<Bq->(j∈B/\j<w.heap.size/\(He w (Rw gl) B).get j=.cells (AhS w j) (Anp w j) (.fz (w.heap.size+j)))\/(∃e∈gl,e.g=j/\(He w (Rw gl) B).get j=.cells e.l e.t .exact)\/((He w (Rw gl) B).get j=.none)\/((He w (Rw gl) B).get j=.Fb 0):=by
  intro j hj;by_cases h1:j<w.heap.size
  .rw[lo j h1];by_cases h2:j∈B;. rw[W5 h2];exact .inl ⟨h2,h1,rfl⟩
   .rw[X2 h2];rcases J j hj with⟨e,u,d,q3⟩|⟨_,q⟩;. exact .inr (.inl ⟨e,u,d,q3⟩)
    .exact .inr (.inr (.inl q))
  .obtain⟨k,rfl⟩:∃k,j=w.heap.size+k:=⟨j-w.heap.size,by omega⟩;rw[hi k];by_cases h2:k∈B;. rw[W5 h2];exact .inr (.inr (.inr rfl))
   .rw[X2 h2];exact .inr (.inr (.inl (I k)))
 refine⟨⟨hl,?_,?_,?_,?_,?_⟩,⟨?_,?_,?_⟩,?_⟩;. intro j h1 h2;have W2:w.heap.size+w.heap.size<=j:=h1;obtain⟨k,rfl⟩:∃k,j=w.heap.size+k:=⟨j-w.heap.size,by omega⟩;show(He w (Rw gl) B).get (w.heap.size+k)=.none;rw[hi k,X2 (λhk=>by have:=F k hk;omega)];exact I k
 .intro j k h1 h2;have z:Ej ((He w (Rw gl) B).get j)=some k:=h2;rcases A j h1 with⟨u,q0,d⟩|⟨e,_,_,d⟩|d|d;. rw[d]at z;cases z;refine⟨by show w.heap.size+j<w.heap.size+w.heap.size;omega,0,?_⟩;show(He w (Rw gl) B).get (w.heap.size+j)=.Fb 0;rw[hi j,W5 u]
  .rw[d]at z;cases z
  .rw[d]at z;cases z
  .rw[d]at z;cases z
 .intro j L k h1 h2 E V;have o:M2 ((He w (Rw gl) B).get j)=some k:=E;have p:M2 ((He w (Rw gl) B).get L)=some k:=V;rcases A j h1 with⟨u,q0,d⟩|⟨e,_,_,d⟩|d|d
  .rw[d]at o;cases o;rcases A L h2 with⟨r1,r0,C⟩|⟨e,_,_,C⟩|C|C;. rw[C]at p;have h5:w.heap.size+L=w.heap.size+j:=Ck p;omega
   .rw[C]at p;cases p
   .rw[C]at p;cases p
   .rw[C]at p;cases p
  .rw[d]at o;cases o
  .rw[d]at o;cases o
  .rw[d]at o;cases o
 .intro j l t k st n h1 h2;have z:(He w (Rw gl) B).get j=.cells l t (.Cf k st):=h2;rcases A j h1 with⟨u,q0,d⟩|⟨e,_,_,d⟩|d|d;all_goals rw[d]at z;cases z
 .intro j L l t k st l' t' h1 h2 E;have o:(He w (Rw gl) B).get j=.cells l t (.Cf k st):=E;rcases A j h1 with⟨u,q0,d⟩|⟨e,_,_,d⟩|d|d;all_goals rw[d]at o;cases o
 .intro b b' e e' h1 h2 E;have u:=AiC h1;have d:=AiC h2;exact .inl om
 .intro b e h1;rcases Rh h1 with⟨u,rfl⟩|⟨_,q⟩;. exact F b u
  .have:=Gm q;omega
 .intro b e h1;rcases Rh h1 with⟨u,rfl⟩|⟨_,q⟩;. have:=F b u;omega
  .have:=Gm q;omega
 .intro b e h1;show Gr _ _ (He w (Rw gl) B).get e w ((He w (Rw gl) B).get b);rcases Rh h1 with⟨u,rfl⟩|⟨q0,q⟩
  .rw[lo b (F b u),W5 u];obtain⟨⟨arr,t,O,D,h2⟩,_⟩:=hB b u;have e1:AhS w b=arr.toList.map Abp:=by unfold AhS;rw[h2]
   have e2:Anp w b=t:=by unfold Anp;rw[h2]
   have e3:AqX w b=arr.size:=by unfold AqX;rw[h2]
   refine⟨rfl,λ_=>⟨arr,O,D,by rw[e2];exact h2,e3.symm,by show(AhS w b).length<=AqX w b;rw[e1,e3];simp,?_,(λU=>by cases U),λ(U:False)=>U.elim⟩⟩;intro i x y K hy;rw[e1]at K;exact Anq _ arr.toList i x y K (by simpa using hy)
  .have hb:=(Gm q).1;rw[lo b om,X2 q0];have h2:=low b e q;have E:Gr P.globals.size (Y0 P.globals.size w) (Rw gl).get e w ((Rw gl).get b):=h2;rcases J b om with⟨ge,p1,p2,p3⟩|⟨_,p3⟩;. rw[p3]at E ⊢;obtain⟨V,h5⟩:=E;refine⟨V,λ_=>?_⟩;obtain⟨arr,O,D,r1,C,r3,r4,r5⟩:=h5 trivial;refine⟨arr,O,D,r1,C,r3,λi x y K hy=>?_,r5⟩;exact Aex (Od.1 (Mf M ge p1).2 x (Vl K)) (r4 i x y K hy) _
   .rw[p3];trivial
def Aso{G}:Vm G (Pn G w B):=by
 intro g d;by_cases h1:g∈B;. exact⟨_,W5 h1,rfl⟩
 .exact⟨_,by unfold Pn;rw[X2 h1];exact W5 d,rfl⟩
def Aol{G}(i:G<=w.heap.size)(g:Qn gl w B) b(d:(Adk gl w B).nx<=b):Pn G w B b=none:=by have e:w.heap.size+w.heap.size<=b:=d;unfold Pn;rw[X2 λh=>by have:=g.lt b h;omega];unfold Y0;grind
def AaC{h h1}:∀gl,(∀e∈gl,h1.m.get e.g=h.m.get e.g)->Hj gl h=true->Hj gl h1=true
|[],_,_=>rfl
|e::gl,i,d=>by have o:=i e Uq ..;unfold Hj at d ⊢;rw[o];revert d;cases h.m.get _ with
 |cells l t k=>cases k with
  |exact=>
   intro d;dsimp at d ⊢;rcases bf (Sh l _)with a1|a1
   .rw[a1]at d ⊢;rcases bf (Nat.beq t _)with a2|a2;. rw[a2]at d ⊢;exact AaC _ (λe j=>i e (Vo _ j)) d
    simp_all
   simp_all
  |fz c=>simp_all
  |Gt c=>simp
  |Cf c st=>simp
 |_=>grind
def Aom(o:WOk P gl w)(j:P8 P.globals.size gl=true)(d:Qn gl w B)(p:Hj gl (glH gl P.globals.size)=true):Hj gl (Adk gl w B)=true:=by refine AaC _ (λe g=>?_) p;have h1:=(Mf j e g).1;have:=o.size;show(He w _ B).get _=(Rw _).get _;rw[Ua B d.lt _ om,X2 λi=>(d _ i).2 e g rfl]
def flat_lit{σ}{x}{y}(d:AaA x=true)(h:Au σ x y):x=Abp y:=by cases h<;>first|(cases d;done)|rfl
def Aok(K:WOk P gl w)(D:P8 P.globals.size gl=true)(A:Qn gl w B){b:Nat}{arr:Array Value}{t:TypeId}{fr:Nat × Nat}(u:w.heap[b]?=some (.cells arr t fr))(o:b∈B\/∃e∈gl,e.g=b):
 Sx.Nv (Adk gl w B) b (arr.toList.map Abp)/\∃e:SE,Pn P.globals.size w B b=some e/\e.c=b:=by
 have F:=Dj u;have p:b<w.heap.size+w.heap.size:=by omega
 rcases o with o|⟨d,h1,h2⟩
 .have e1:AhS w b=arr.toList.map Abp:=by unfold AhS;rw[u]
  refine⟨⟨p,Anp w b,.fz (w.heap.size+b),?_,trivial⟩,_,W5 o,rfl⟩;show(He w (Rw gl) B).get b=_;rw[Ua B A.lt b F,W5 o,e1]
 .subst h2;have q:d.g ∉ B:=λo=>(A d.g o).2 d h1 rfl;obtain⟨L,h4⟩:=Mf D d h1;obtain⟨Amz,lo,hi,J,_,I⟩:=K.vars d h1;rw[u]at J;cases J;have e1:d.l=arr.toList.map Abp:=by
   have z:=I (λ_=>none);apply dg;intro i;rw[Cn];by_cases hi:i<d.l.length
   .have j:i<arr.toList.length:=by rw[<- z.1];exact hi
    rw[Xs hi,Xs j];have q5:=z.2 i _ _ (Xs hi) (Xs j);exact Jh some (flat_lit (Od.1 h4 _ (dl hi)) q5)
   .have j:¬ i<arr.toList.length:=by rw[<- z.1];exact hi
    grind
  have U:(He w (Rw gl) B).get d.g=.cells d.l d.t .exact:=by
   rw[Ua B A.lt d.g F,X2 q];let i:Ii:=⟨P.globals.size⟩;rcases @Xx i P.globals.size (Yw _) gl D d.g L with⟨e',r1,V,r3⟩|⟨r1,_⟩
   .obtain⟨E,M,j,s1,_,s3⟩:=K.vars e' r1;rw[V,u]at s1;have s2:arr=E/\d.t=e'.t:=by simp_all
    obtain⟨rfl,O⟩:=s2;rw[r3];have z:=I (λ_=>none);have C:=s3 (λ_=>none);have P4:e'.l=d.l:=by
     rw[e1];apply dg;intro i;rw[Cn];by_cases hi:i<e'.l.length
     .have j:i<arr.toList.length:=by rw[<- C.1];exact hi
      rw[Xs hi,Xs j];exact Jh some (flat_lit (Od.1 (Mf D e' r1).2 _ (dl hi)) (C.2 i _ _ (Xs hi) (Xs j)))
     .have j:¬ i<arr.toList.length:=by rw[<- C.1];exact hi
      simp_all
    rw[P4,O]
   grind
  refine⟨⟨p,d.t,.exact,?_,trivial⟩,⟨d.g,(match w.heap[d.g]? with|some (.cells arr _ _)=>arr.size|_=>0),none⟩,?_,rfl⟩;. show(He w (Rw gl) B).get d.g=_;rw[U,e1]
  .unfold Pn;rw[X2 q];unfold Y0;exact W5 L
def Aon{α:Type}{f:α->List AV}{s:Nat}(J:0<s)(I:WOk P gl w)(E:P8 P.globals.size gl=true)(F:Qn gl w B)(u:Ams w a)(C:a.block∈B\/∃e∈gl,e.g=a.block){len cap:Nat}(p:len<=cap)
 (hel:∀i,i<cap->∃(x:α) (cs:List Value),w.cells? 0 (a.add (i*s)) s=some cs/\cs.map Abp=f x):
 ∃l:List α,l.length=len/\Sx.R0 s f (Adk gl w B) (.sl a.block a.off len cap s true) l/\Au (Pn P.globals.size w B) (.sl a.block a.off len cap s true) (.slice (some a) len cap):=by
 obtain⟨j,arr,t,lo,hi,q,O⟩:=u;obtain⟨hc,e,z,d⟩:=Aok I E F q C;have D:a.off+len*s<=arr.size:=by cases len with
  |zero=>omega
  |succ n=>obtain⟨x,cs,h1,_⟩:=hel n om;have:=(Ahc j q h1).2 J;grind
 have K:Au (Pn P.globals.size w B) (.sl a.block a.off len cap s true) (.slice (some a) len cap):=by obtain⟨b,o,U⟩:=a;simp only at j d z;subst j;subst d;exact Au.sl e.c o len cap s true e cap z p (Yw _) (λ_=>rfl) (λM=>by grind)
 suffices h:∃l:List α,l.length=len/\((arr.toList.map Abp).drop a.off).take (len*s)=l.flatMap f by
  obtain⟨l,h1,h2⟩:=h;refine⟨l,h1,.inr ⟨a.block,a.off,cap,true,arr.toList.map Abp,?_,?_,hc,?_,?_⟩,K⟩;. rw[h1]
  .omega
  .grind
  simp_all
 by_cases h0:len=0;. simp_all
 .obtain⟨L,_⟩:=hel 0 om;have A:∀i,∃x:α,i<len->((arr.toList.map Abp).drop (a.off+i*s)).take s=f x:=by
   intro i;by_cases hi:i<len;. obtain⟨x,cs,h1,h2⟩:=hel i om;refine⟨x,λ_=>?_⟩;rw[<- h2,(Ahc j q h1).1,List.map_take,List.map_drop]
   grind
  exact⟨(List.range len).map λi=>Classical.choose (A i),by simp,AeW _ _ _ len (λi hi=>Classical.choose_spec (A i) hi)⟩
section
variable {H:Type}{enc:TypeId × Value->H}{W W':World}
def Kept.sameAt(d:Kept W W'){p}(e:p.block<W.heap.size):W.sameAt W' p:=by cases p with
|cell b off=>show W'.cell? _=W.cell? _;unfold World.cell?;simp[d.same b e]
|map b=>exact d.same b e
def AhK(i:Kept W W'){j}:∀{ts} {o} {ds} {d},(∀p∈d,p.block<W.heap.size)->DataW.TrodAll enc P W 0 j true ts o ds d->DataW.TrodAll enc P W' 0 j true ts o ds d
|[],[],[],_,_,h=>h
|_::_,_::_,_::_,_,g,⟨p,q,⟨n,h1⟩,h2,e⟩=>⟨p,q,⟨n,DataW.trod_carry n _ _ _ h1 λx t=>i.sameAt (g x (by grind))⟩,AhK i (λx t=>g x (by simp_all)) h2,e⟩
def Amy(q:laidOutB P=true)(j:mapsRowed P=true)(o:((List.range P.types.size).all λt=>match P.underlying t with|some (.slice e)=>decide (0<P.cellsOf e)|_=>true)=true)(g:Kept W W')
 {ts:List TypeId} {vs} {ds} {ps} (ht:∀t∈ts,t<P.types.size) (h:DataW.TrodAll enc P W 0 (λ_=>true) true ts vs ds ps):
 DataW.TrodAll enc P W' 0 (λb=>decide (b<W.heap.size)) true ts vs ds ps:=by have d:=h.lt;exact AhK g d (DataW.TrodAll.respare (kids_rows q j) (slices_full_of P o) ht h λp i=>Ws (d p i))
end
end Go.Ev
